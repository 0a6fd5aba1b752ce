import PyProof.Rows.All
import Wide.All
import OpenK.AllK
import Wide.FinOn
import HandS.ForMost
import HandS.ExcInit
import HandS.Head0
import HandS.Head1
import HandS.Head2
import HandS.Head3
import HandS.HeadHook1
import HandS.HeadHook2
import HandS.HeadHook3
import HandS.HeadHook4
import HandS.HeadWalk
import PySem.Challenge.RW_nearspokes_k05_polys_made_and_refused
import HandS.Exc
import HandS.TryOnly
import HandS.ExcOwn
import HandS.WordsExc
import HandS.CallSlots
import HandS.TryMany
import HandS.EndBits
import HandS.Wide
import HandS.Gcd
import HandS.Zip
import HandS.IsInst
import HandS.Defaults
import HandS.Flow
import HandS.FStr
import HandS.TupAny
import HandS.ExcIs
import HandS.ExcField
import HandS.Lambda
import HandS.Nested
import KE.KDflt
import HandS.HotCalls
import HandS.TupMul
import HandS.More
import HandS.Style
import HandS.New0
import HandS.EndTab
import HandS.Dict
import PyProof.TupleOfStr
import HandS.Iter
import HandS.Conv
import HandS.Finally
import HandS.Property
import HandS.ClsMeth
import HandS.Star
import HandS.DictComp
import KE.KExcInit
import HandS.ExcValue
import HandS.CallLocal
import KE.GoesMore
import HandS.Deep
import HandS.OwnEq
import HandS.RaiseMore
import HandS.StrMore
import KE.KxField
import HandS.ExcCtx
import HandS.SuiteRaise
import HandS.RaiseFrom
import HandS.ExcInitHot
import HandS.DictTup
import HandS.SortRule
import HandS.Rev
import HandS.ListItems
import KE.KDictCopyH
import HandS.TupLen
import HandS.DictEq
import HandS.Small
import PyProof.Rows.Range3
import HandS.SortKw
import HandS.Strs
import KE.DatumOrd
set_option Elab.async false
set_option linter.all false
set_option maxRecDepth 100000
set_option maxHeartbeats 4000000
namespace DL
open PySem L2
def sAt (i : Nat) (l : List Stmt) : Stmt := l.getD i (.Pass ⟨0, 0, 0, 0⟩)
def sBody : Stmt → List Stmt
  | .For _ _ b _ _ => b
  | .If _ b _ _ => b
  | .While _ b _ _ => b
  | .ClassDef _ _ _ b _ _ _ _ _ _ _ => b
  | _ => []
end DL
namespace DH
open PySem PySem.Spec PyProof.Rows L2
abbrev Frag := PySem.W.Frag
def exAll (l : List (Frag → Bool)) (K : Frag) : Bool := l.all fun f => f K
theorem ex_at {l : List (Frag → Bool)} {K : Frag} (h : exAll l K = true) (i : Nat) {f : Frag → Bool} (e : l[i]? = some f) : f K = true := List.all_eq_true.mp h f (List.mem_of_getElem? e)
/-- the class of an own error over ValueError, as it stands in memory -/
def oexB (K : Frag) (C : Addr) : Bool := match K.lookup C with
  | some ⟨.type "type", _, .cls cd, sl⟩ => (match cd.mro, sl.toList with
    | .ref C' :: bm, [_, _, _, _, some (.builtin n), _] => decide (C' = C) && (decide (n = "ValueError.__new__") && (!cd.hasDel && (cd.hasDict && HandSPX.refsVE bm)))
    | _, _ => false)
  | _ => false
theorem oexB_ok {K : Frag} {C : Addr} (q : oexB K C = true) : ∃ nm qn N bs bm sn sub ab col dd k0 k1 k2 k3 k5, K.lookup C = some (excClassObj nm qn C N bs bm true sn sub ab col dd k0 k1 k2 k3 k5 "ValueError.__new__") ∧ HandSPX.refsVE bm = true := by
  unfold oexB at q
  split at q
  · rename_i dd cd sl ho
    split at q
    · rename_i C' bm k0 k1 k2 k3 n k5 hm hs
      obtain ⟨q1, q⟩ := He.ba q
      obtain ⟨q2, q⟩ := He.ba q
      obtain ⟨q3, q⟩ := He.ba q
      obtain ⟨q4, q5⟩ := He.ba q
      have e1 := of_decide_eq_true q1
      have e2 := of_decide_eq_true q2
      subst e1 e2
      obtain ⟨nm, bs, mro, ns, qn, hd, sn, sub, ab, col, del⟩ := cd
      have hsl : sl = #[k0, k1, k2, k3, some (.builtin "ValueError.__new__"), k5] := by
        obtain ⟨l⟩ := sl
        have hs : l = _ := hs
        rw [hs]
      have hm : mro = .ref C' :: bm := hm
      have q3' : del = false := by simpa using q3
      have q4' : hd = true := q4
      subst hsl hm q3' q4'
      exact ⟨nm, qn, ns, bs, bm, sn, sub, ab, col, dd, k0, k1, k2, k3, k5, ho, q5⟩
    · cases q
  · cases q
def obsL (as : List Addr) (fn : List He.DefD) (ts : List He.Tab) (tf : List He.Defn) (ex : Frag → Bool) (g : Addr → Option Obj) : He.AlX := (He.obsT [] fn ts (He.frT g as), ex (He.frT g as) && He.tabsB g tf (He.frT g as))
theorem saysL {as : List Addr} {fn : List He.DefD} {ts : List He.Tab} {tf : List He.Defn} {ex : Frag → Bool} {w : World} {h : Heap} (e : obsL as fn ts tf ex h.get? = He.valX fn ts w) : He.SaysX [] fn ts tf ex w h (He.frT h.get? as) := by
  have e1 : He.obsT [] fn ts (He.frT h.get? as) = He.valT fn ts w := congrArg (fun z : He.AlX => z.1) e
  have e2 : (ex (He.frT h.get? as) && He.tabsB h.get? tf (He.frT h.get? as)) = true := congrArg (fun z : He.AlX => z.2) e
  obtain ⟨e3, e4⟩ := He.ba e2
  have key : ∀ p ∈ tf, PySem.W.codeHdIn (He.frT h.get? as) (He.cT (He.frT h.get? as) p).1 (He.cT (He.frT h.get? as) p).2 = true ∧ ∃ o, h.get? (He.cT (He.frT h.get? as) p).2 = some o ∧ He.emptyTab o = true := fun p hp => by
    obtain ⟨k1, k2⟩ := He.ba (List.all_eq_true.mp e4 p hp)
    refine ⟨k1, ?_⟩
    split at k2
    · rename_i o ho
      exact ⟨o, ho, k2⟩
    · cases k2
  refine ⟨e1, e3, fun p hp => (key p hp).1, fun p hp => ?_, fun p hp => ?_⟩
  · obtain ⟨_, o, ho, he⟩ := key p hp
    exact He.frT_none ho he
  · obtain ⟨_, o, ho, he⟩ := key p hp
    rw [ho, He.emptyTab_eq he]
end DH
namespace DH
open PySem PySem.W PySem.TablesWhole
theorem whole_of {p : Program} (h1 : p.modules = []) (h2 : p.parses = []) (h3 : p.harvested = []) (h4 : noTwice p.main.scope = true) (h5 : wSs gather p.main.scope ⟨p.main.scope, [], [], [], none⟩ p.main.scope p.main.body = [])
    (h6 : wSs holds p.main.scope ⟨p.main.scope, [], [], [], none⟩ p.main.scope p.main.body = true) : p.tablesWhole = true := by
  have e : wModule holds p.main = true := by
    unfold wModule
    rw [h5]
    show (true && (noTwice p.main.scope && (wSs holds p.main.scope ⟨p.main.scope, [], [], [], none⟩ p.main.scope p.main.body && true))) = true
    rw [h4, h6]
    rfl
  unfold Program.tablesWhole wProgram
  rw [h1, h2, h3, e]
  rfl
theorem looks_of {p : Program} {st : Bool} {bare : List Str} (h1 : sreFenced p.main = true) (h2 : ((moduleNames p.main.body).isEmpty || lookedIntoSs (moduleNames p.main.body) p.main.body) = true) (h3 : namesResolve p = true) (h4 : (p.boundNames.all fun n => !worldNames.contains n) = true)
    (h5 : (!(importedModules p.main.body).all cThrough.contains) = st) (h6 : (["vars", "dir", "locals"] : List Str).filter (readsOut p p.main.body) = bare) (h7 : noRoadLSs { strict := st, foot := none, bare := bare } p.main.body = true) (h8 : (namesMeet p p.main.body fun _ n => attrL n) = true) : looksOpen p = true := by
  unfold looksOpen
  rw [h1, h2, h3, h4, h5, h6, h7, h8]
  rfl
theorem out3 {f : Str → Bool} (h1 : f "vars" = false) (h2 : f "dir" = false) (h3 : f "locals" = false) : (["vars", "dir", "locals"] : List Str).filter f = [] := by
  rw [List.filter_cons_of_neg (by rw [h1]; exact Bool.false_ne_true), List.filter_cons_of_neg (by rw [h2]; exact Bool.false_ne_true), List.filter_cons_of_neg (by rw [h3]; exact Bool.false_ne_true)]
  rfl
end DH
noncomputable section
namespace DS
open PySem PySem.W PySem.Calls PyProof.Rows HandSHeadRun
section
variable (st : SharedT → Thread → Option (SharedT × Thread)) (n0 : Nat) (ann : Option Value)
/-- a statement's or block's run -/
def segF : Nat → SharedT → Thread → Option (Flow × SharedT × Code × Pos)
  | 0, _, _ => none
  | m + 1, s, t => match endAt 1 t with
    | some f => some (f, s, t.code, t.pos)
    | none => match stepOk n0 ann t with
      | false => none
      | true => match st s t with
        | some (s', t') => frS s' fun s' => segF m s' t'
        | none => none
/-- so many steps of the top -/
def goK : Nat → SharedT → Thread → Option (SharedT × Thread)
  | 0, s, t => some (s, t)
  | m + 1, s, t => match through t with
    | true => none
    | false => match stepOk n0 ann t with
      | false => none
      | true => match st s t with
        | some (s', t') => frS s' fun s' => goK m s' t'
        | none => none
end
theorem segF_ok {tb : String → Option Builtin} {p : Program} {w : World} {n0 : Nat} {ann : Option Value} : ∀ {m : Nat} {s s' : SharedT} {t : Thread} {f : Flow} {c : Code} {q : Pos}, segF (stepT (denote tb) p w) n0 ann m s t = some (f, s', c, q) → segRun tb p w n0 ann 1 m s.abs t = some (f, s'.abs, c, q)
  | 0, _, _, _, _, _, _, h => by cases h
  | m + 1, s, s', t, f, c, q, h => by
    unfold segF at h
    unfold segRun
    cases he : endAt 1 t with
    | some f' =>
      rw [he] at h
      cases h
      rfl
    | none =>
      rw [he] at h
      cases hk : stepOk n0 ann t with
      | false => rw [hk] at h; cases h
      | true =>
        rw [hk] at h
        have h2 : (match stepT (denote tb) p w s t with
          | some (s', t') => frS s' fun s' => segF (stepT (denote tb) p w) n0 ann m s' t'
          | none => none) = some (f, s', c, q) := h
        cases hs : stepT (denote tb) p w s t with
        | none => rw [hs] at h2; cases h2
        | some r =>
          obtain ⟨s2, t2⟩ := r
          rw [hs] at h2
          have h3 : (frS s2 fun s' => segF (stepT (denote tb) p w) n0 ann m s' t2) = some (f, s', c, q) := h2
          rw [frS_eq] at h3
          have z := segF_ok h3
          show (match step (denote tb) p w s.abs t with
            | .go s' t' => segRun tb p w n0 ann 1 m s' t'
            | .halt _ _ => none) = _
          rw [stepT_spec hs]
          exact z
theorem goK_ok {tb : String → Option Builtin} {p : Program} {w : World} {n0 : Nat} {ann : Option Value} : ∀ {m : Nat} {s s' : SharedT} {t t' : Thread}, goK (stepT (denote tb) p w) n0 ann m s t = some (s', t') → topGo tb p w n0 ann m s.abs t = some (s'.abs, t')
  | 0, _, _, _, _, h => by cases h; rfl
  | m + 1, s, s', t, t', h => by
    unfold goK at h
    unfold topGo
    cases ht : through t with
    | true => rw [ht] at h; cases h
    | false =>
      rw [ht] at h
      cases hk : stepOk n0 ann t with
      | false => rw [hk] at h; cases h
      | true =>
        rw [hk] at h
        have h2 : (match stepT (denote tb) p w s t with
          | some (s', t') => frS s' fun s' => goK (stepT (denote tb) p w) n0 ann m s' t'
          | none => none) = some (s', t') := h
        cases hs : stepT (denote tb) p w s t with
        | none => rw [hs] at h2; cases h2
        | some r =>
          obtain ⟨s2, t2⟩ := r
          rw [hs] at h2
          have h3 : (frS s2 fun s' => goK (stepT (denote tb) p w) n0 ann m s' t2) = some (s', t') := h2
          rw [frS_eq] at h3
          have z := goK_ok h3
          show (match step (denote tb) p w s.abs t with
            | .go s' t' => topGo tb p w n0 ann m s' t'
            | .halt _ _ => none) = _
          rw [stepT_spec hs]
          exact z
/-- the imports, the fences -/
def openF (st : Program → SharedT → Thread → Option (SharedT × Thread)) (fence : Program → Shared → Option Shared) (M : Nat) (p : Program) : Option (SharedT × Option Value) := match impF (st (opening p)) M (startT (opening p)) (start (opening p)).2 with
  | some s => (match fence p s.abs with
    | some s0 => (match s0.heap.isNs mainGlobals && s0.gens.size == 0 with
      | true => (match treeOf s0 with
        | some x => some (x, s0.heap.nsMap mainGlobals "__annotations__")
        | none => none)
      | false => none)
    | none => none)
  | none => none
theorem openF_ok {M : Nat} {p : Program} {w : World} {x : SharedT} {ann : Option Value} (h : openF (fun q => stepT (denote treeTable) q w) fenceModules? M p = some (x, ann)) :
    fencedOpening treeTable p w M = some x.abs ∧ (x.abs.heap.isNs mainGlobals && x.abs.gens.size == 0) = true ∧ x.abs.heap.objs.size = x.n ∧ x.abs.heap.nsMap mainGlobals "__annotations__" = ann := by
  unfold openF at h
  cases e1 : impF (stepT (denote treeTable) (opening p) w) M (startT (opening p)) (start (opening p)).2 with
  | none => rw [e1] at h; cases h
  | some s =>
    rw [e1] at h
    dsimp only at h
    have a1 := impF_ok e1
    rw [startT_eq] at a1
    cases e2 : fenceModules? p s.abs with
    | none => rw [e2] at h; cases h
    | some z =>
      rw [e2] at h
      dsimp only at h
      cases e3 : z.heap.isNs mainGlobals && z.gens.size == 0 with
      | false => rw [e3] at h; cases h
      | true =>
        rw [e3] at h
        dsimp only at h
        cases e4 : treeOf z with
        | none => rw [e4] at h; cases h
        | some y =>
          rw [e4] at h
          cases h
          obtain ⟨ex, en⟩ := treeOf_eq e4
          rw [ex]
          refine ⟨?_, e3, en, rfl⟩
          unfold fencedOpening
          rw [a1]
          exact e2
/-- the twins -/
def execsQ : List Stmt → Env → Sem Flow := PySem.W.Fast.tw12563942051412417395
theorem execsQ_eq : @PySem.execs = execsQ := PySem.W.Fast.te12563942051412417395
def blockQ : List Stmt → Env → Sem Unit := PySem.W.Fast.tw1066825118222455980
theorem blockQ_eq : @PySem.blockStart = blockQ := PySem.W.Fast.te1066825118222455980
abbrev piecesQ (l : List Stmt) (env : Env) (c : Code) (p : Pos) (B : List Frame) : Thread := ⟨(execsQ l env).wrap doneF deadEnd id id, c, p, B⟩
abbrev blockOfQ (b : List Stmt) (env : Env) (c : Code) (p : Pos) (B : List Frame) : Thread := ⟨(blockQ b env).wrap (fun _ => doneF .next) deadEnd id id, c, p, B⟩
theorem seg_of {p : Program} {w : World} {n0 : Nat} {ann : Option Value} {m : Nat} {s s' : SharedT} {l : List Stmt} {env : Env} {c c' : Code} {q q' : Pos} {B : List Frame} {f : Flow} (h : segF (stepQ (denQ tabQ) p w) n0 ann m s (piecesQ l env c q B) = some (f, s', c', q')) :
    segRun treeTable p w n0 ann 1 m s.abs (piecesOf l env c q B) = some (f, s'.abs, c', q') := by
  apply segF_ok
  rw [stepQ_eq, denQ_eq, tabQ_eq]
  unfold piecesOf
  rw [execsQ_eq]
  exact h
theorem blk_of {p : Program} {w : World} {n0 : Nat} {ann : Option Value} {m : Nat} {s s' : SharedT} {l : List Stmt} {env : Env} {c c' : Code} {q q' : Pos} {B : List Frame} {f : Flow} (h : segF (stepQ (denQ tabQ) p w) n0 ann m s (blockOfQ l env c q B) = some (f, s', c', q')) :
    segRun treeTable p w n0 ann 1 m s.abs (blockOf l env c q B) = some (f, s'.abs, c', q') := by
  apply segF_ok
  rw [stepQ_eq, denQ_eq, tabQ_eq]
  unfold blockOf
  rw [blockQ_eq]
  exact h
theorem pre_of {p : Program} {w : World} {n0 : Nat} {ann : Option Value} {m : Nat} {s s' : SharedT} {t : Thread} {c c' : Code} {q : Pos} {B : List Frame} (h : goK (stepQ (denQ tabQ) p w) n0 ann m s t = some (s', ⟨denQ tabQ c, c', q, B⟩)) :
    topGo treeTable p w n0 ann m s.abs t = some (s'.abs, ⟨denote treeTable c, c', q, B⟩) := by
  apply goK_ok
  rw [stepQ_eq, denQ_eq, tabQ_eq]
  exact h
theorem fin_of {p : Program} {w : World} {n0 : Nat} {ann : Option Value} {m : Nat} {s s' : SharedT} {t : Thread} (h : goF (stepQ (denQ tabQ) p w) n0 ann m s t = some s') :
    topRun treeTable p w n0 ann m s.abs t = some s'.abs := by
  apply goF_ok
  rw [stepQ_eq, denQ_eq, tabQ_eq]
  exact h
theorem opn_of {p : Program} {w : World} {M : Nat} {x : SharedT} {ann : Option Value} (h : openF (fun q => stepQ (denQ tabQ) q w) fenceQ M p = some (x, ann)) :
    openF (fun q => stepT (denote treeTable) q w) fenceModules? M p = some (x, ann) := by
  rw [stepQ_eq, denQ_eq, tabQ_eq, fenceQ_eq]
  exact h
/-- the run at a world: the state ahead of the top, the state behind it, what is asked of them -/
def Run (r : OpenRow) (q : Program) (H : Hook) (ob : SharedT → H.α) (N : Nat) (loose : List PySem.Str) (w : World) : Prop :=
  ∃ (x s1 : SharedT), fencedOpening treeTable r.prog w N = some x.abs ∧ (x.abs.heap.isNs mainGlobals && x.abs.gens.size == 0) = true ∧
    topRun treeTable r.prog w x.abs.heap.objs.size (x.abs.heap.nsMap mainGlobals "__annotations__") N x.abs (topStub r.prog) = some s1.abs ∧
    (looksF r.prog x.abs.heap s1.abs, seenQ q loose (importedModules r.prog.main.body) (fun s => xlAt q [] s && recOk r.toRowW.records s) s1.abs, ob s1) = (true, openGood q loose, H.val w)
theorem left_seg {r : OpenRow} {q : Program} {H : Hook} {ob : SharedT → H.α} {N : Nat} {loose : List PySem.Str} (ho : ∀ s : SharedT, ob s = H.obs s.abs) (run : ∀ w, Run r q H ob N loose w) :
    LeftO r.prog q loose (fun s => xlAt q [] s && recOk r.toRowW.records s) H.obs H.val N true := fun w => by
  obtain ⟨x, s1, a, b, c, d⟩ := run w
  obtain ⟨l1, l23⟩ := Prod.mk.inj d
  obtain ⟨l2, l3⟩ := Prod.mk.inj l23
  have l1' : (staticsOk (importedModules r.prog.main.body) x.abs.heap s1.abs.heap && namesBound r.prog s1.abs.heap && gensDone s1.abs && laidKept x.abs.heap s1.abs.heap) = true := l1
  have t : topFrom treeTable r.prog w N x.abs = some s1.abs := by
    unfold topFrom
    rw [b]
    show (topRun treeTable r.prog w x.abs.heap.objs.size (x.abs.heap.nsMap mainGlobals "__annotations__") N x.abs (topStub r.prog)).bind _ = _
    rw [c]
    show (match staticsOk (importedModules r.prog.main.body) x.abs.heap s1.abs.heap && namesBound r.prog s1.abs.heap && gensDone s1.abs && laidKept x.abs.heap s1.abs.heap with | true => some s1.abs | false => none) = _
    rw [l1']
  unfold openEnds
  rw [a]
  show (topFrom treeTable r.prog w N x.abs).map _ = _
  rw [t]
  rw [ho] at l3
  rw [← seenQ_eq] at l2
  exact congrArg some (Prod.ext l2 l3)
theorem head_seg {r : OpenRow} {q : Program} {H : Hook} {ob : SharedT → H.α} {N : Nat} {loose : List PySem.Str} {d : DefRec} {kwd : List (PySem.Str × PySem.Expr)} (ho : ∀ s : SharedT, ob s = H.obs s.abs) (run : ∀ w, Run r q H ob N loose w)
    (hdef : defOf q r.name = some (d, kwd)) (hp : r.prog.theDef r.name = some (d.params, d.body, d.scope)) (hk : kwWritten? d.params.kwonlyargs d.params.kw_defaults = some kwd)
    (hwr : (!r.writes || r.records.isEmpty) = true) (k1 : r.wellSaid = true) (ok : (chainsOk q && opensWell r.prog && (frees r.toRowW && r.within.isEmpty)) = true) (hb : r.prog.bare) (hw : r.toRowW.promised)
    (call : WalkO q loose (XL q []) H.says r.toRowW d kwd fun f vs => PySem.call f vs) : r.Holds :=
  holds_open (r := r) (q := q) (loose := loose) (XP := XL q []) (YP := H.says) (d := d) (kwd := kwd) (left_seg ho run) H.of H.keeps (fun s z => xl_of s (Bool.and_eq_true_iff.mp z).1) XL.keeps hdef hp hk (fun s z => recFacts_of (Bool.and_eq_true_iff.mp z).2) hwr k1 ok hb hw call
def oTup (l : List Value) (n : Nat := 0) : Obj := ⟨.type "tuple", none, .seq l.toArray n, #[]⟩
def oDict (es : List DictEntry) (n : Nat) : Obj := ⟨.type "dict", none, .dict es.toArray n, #[]⟩
def oFld (l : List Value) : Obj := ⟨.none, none, .fields l.toArray, #[]⟩
def oFldT (t : String) (l : List Value) : Obj := ⟨.type t, none, .fields l.toArray, #[]⟩
def en (P : Params) (x : PySem.Str) (t : Tok) (v : Value) : DictEntry := ⟨PyData.keyHash P x, .str x t, v⟩
def insAll : List (Nat × Obj) → BT → BT
  | [], t => t
  | (i, o) :: r, t => insAll r (t.ins i o)
end DS
namespace T05
open PySem L2 DL
def top (i : Nat) : Stmt := PySem.Challenge.pw_nearspokes_k05_polys_made_and_refused.main.body.getD i (.Pass ⟨0, 0, 0, 0⟩)
abbrev sIsInteger : Stmt := top 9
abbrev sIsNumber : Stmt := top 10
abbrev sCheckLetter : Stmt := top 13
abbrev sCheckTerms : Stmt := top 14
abbrev sMadeOf : Stmt := top 15
abbrev sPowerText : Stmt := top 16
abbrev sTermText : Stmt := top 17
abbrev sLBag : Stmt := top 22
abbrev sLPull : Stmt := top 23
abbrev sLOf : Stmt := top 24
abbrev sLSame : Stmt := top 25
abbrev sLField : Stmt := top 26
abbrev sLTry : Stmt := top 27
abbrev sLTries : Stmt := top 28
abbrev sLGathered : Stmt := top 29
abbrev sLDegree : Stmt := top 30
abbrev sLLetterText : Stmt := top 31
abbrev sLPolyText : Stmt := top 32
abbrev sLaw : Stmt := top 33
abbrev RR0 : PySem.W.OpenRow := PySem.W.OpenLaw.row PySem.Challenge.rw_nearspokes_k05_polys_made_and_refused
end T05
namespace T05
open PySem L2 DL
namespace Hd
open PySem PySem.W PySem.Calls PyProof.Rows in
set_option maxHeartbeats 0 in
theorem nres : namesResolve RR0.prog = true := by kernel_rfl
open PySem PySem.W PySem.Calls PyProof.Rows in
set_option maxHeartbeats 0 in
theorem nmA : (namesMeet RR0.prog RR0.prog.main.body fun _ n => attrL n) = true := by kernel_rfl
open PySem PySem.W PySem.Calls PyProof.Rows in
set_option maxHeartbeats 0 in
theorem roV : readsOut RR0.prog RR0.prog.main.body "vars" = false := by kernel_rfl
open PySem PySem.W PySem.Calls PyProof.Rows in
set_option maxHeartbeats 0 in
theorem roD : readsOut RR0.prog RR0.prog.main.body "dir" = false := by kernel_rfl
open PySem PySem.W PySem.Calls PyProof.Rows in
set_option maxHeartbeats 0 in
theorem roL : readsOut RR0.prog RR0.prog.main.body "locals" = false := by kernel_rfl
open PySem PySem.W PySem.Calls PyProof.Rows in
set_option maxHeartbeats 0 in
theorem nr0 : noRoadLSs { strict := false, foot := none, bare := [] } RR0.prog.main.body = true := by kernel_rfl
open PySem PySem.W PySem.Calls PyProof.Rows in
set_option maxHeartbeats 0 in
theorem nrA : noRoadLSs { strict := false, foot := none, bare := [] } RR0.prog.main.body = true := nr0
open PySem PySem.W PySem.Calls PyProof.Rows in
set_option maxHeartbeats 0 in
theorem looks : looksOpen RR0.prog = true := DH.looks_of (by kernel_rfl) (by kernel_rfl) nres (by kernel_rfl) (by kernel_rfl) (DH.out3 roV roD roL) nrA nmA
open PySem PySem.W PySem.Calls PyProof.Rows in
set_option maxHeartbeats 0 in
theorem said : OpenLaw.wellSaid PySem.Challenge.rw_nearspokes_k05_polys_made_and_refused = true := by
  unfold OpenLaw.wellSaid OpenRow.wellSaid OpenRow.partSaid
  repeat' (with_reducible refine look_both ?_ ?_)
  all_goals first | with_reducible exact looks | decide +kernel
theorem well (h : (PySem.W.OpenLaw.row PySem.Challenge.rw_nearspokes_k05_polys_made_and_refused).wellSaid = true → PySem.W.OpenRow.Holds (PySem.W.OpenLaw.row PySem.Challenge.rw_nearspokes_k05_polys_made_and_refused)) : PySem.Challenge.rw_nearspokes_k05_polys_made_and_refused.Holds := PySem.W.holds_law said h
open PySem PySem.W PySem.Calls PyProof.Rows in
set_option maxHeartbeats 0 in
theorem tw : TablesWhole.wSs TablesWhole.gather RR0.prog.main.scope ⟨RR0.prog.main.scope, [], [], [], none⟩ RR0.prog.main.scope RR0.prog.main.body = [] := by kernel_rfl
open PySem PySem.W PySem.Calls PyProof.Rows in
set_option maxHeartbeats 0 in
theorem ts0 : TablesWhole.wSs TablesWhole.holds RR0.prog.main.scope ⟨RR0.prog.main.scope, [], [], [], none⟩ RR0.prog.main.scope RR0.prog.main.body = true := by kernel_rfl
open PySem PySem.W PySem.Calls PyProof.Rows in
set_option maxHeartbeats 0 in
theorem tsA : TablesWhole.wSs TablesWhole.holds RR0.prog.main.scope ⟨RR0.prog.main.scope, [], [], [], none⟩ RR0.prog.main.scope RR0.prog.main.body = true := ts0
open PySem PySem.W PySem.Calls PyProof.Rows in
set_option maxHeartbeats 0 in
theorem hb : RR0.prog.bare := ⟨rfl, rfl, rfl, rfl, rfl, DH.whole_of rfl rfl rfl (by kernel_rfl) tw tsA⟩
open PySem PySem.W PySem.Calls PyProof.Rows in
set_option maxHeartbeats 0 in
theorem df1 : defOf (PySem.W.view RR0.prog [33]) RR0.name = some (HandSHeadRun.topDef RR0.prog 33, []) := by kernel_rfl
open PySem PySem.W PySem.Calls PyProof.Rows in
set_option maxHeartbeats 0 in
theorem df2 : RR0.prog.theDef RR0.name = some ((HandSHeadRun.topDef RR0.prog 33).params, (HandSHeadRun.topDef RR0.prog 33).body, (HandSHeadRun.topDef RR0.prog 33).scope) := by kernel_rfl
open PySem PySem.W PySem.Calls PyProof.Rows in
set_option maxHeartbeats 0 in
theorem okA : chainsOk (PySem.W.view RR0.prog [33]) = true := by kernel_rfl
open PySem PySem.W PySem.Calls PyProof.Rows in
set_option maxHeartbeats 0 in
theorem okB : opensWell RR0.prog = true := by kernel_rfl
open PySem PySem.W PySem.Calls PyProof.Rows in
set_option maxHeartbeats 0 in
theorem okC : (frees RR0.toRowW && RR0.within.isEmpty) = true := by kernel_rfl
end Hd
end T05
namespace T05
open PySem L2 DL
namespace Seg
section
open PySem.W HandSHeadRun DS
def vi (n : Int) : Value := .int n 0
def vc (t : Tok) : Value := .str "/claim/cut.py" t
def oCd (l : List Value) : Obj := oFldT "code" l
def vr (a : Addr) : Value := .ref a
def oFn0 (n q : PySem.Str) (s : Stmt) : Obj := ⟨.none, none, (.func ⟨n, q, defArgs s, .stmts (defBody s), defScope s, 0, [], .none, .none, .none, .none, none, .none, .none, 0⟩), [].toArray⟩
def oFn3 (n q : PySem.Str) (s : Stmt) (m : PySem.Str) (t : Tok) (c : Addr) : Obj := ⟨(.type "function"), none, (.func ⟨n, q, defArgs s, .stmts (defBody s), defScope s, 3, [], .none, .none, .none, (.str m t), none, (.ref c), .none, 0⟩), [].toArray⟩
def bdy : List Stmt := behindTheImports RR0.prog
def env0 : Env := { scope := RR0.prog.main.scope, locals := mainNs, globals := mainNs, cells := [], code := (.ref 13), frame := some 14 }
def cd0 : Code := .body bdy env0
def q0 : Pos := ⟨0, 0, 0, 0⟩
def ann0 : Option Value := (some (.ref 6))
def life0 : Life := { registered := [], finalised := [], alive := [], known := 0, ids := [], orphanDicts := [], counting := false, cnt := #[], zero := [], soft := 0, below := false, collecting := false, loading := false, debug := 0, thresholds := [2000, 10, 10], woke := false, asked := 0, gcEnabled := true, old := [], middle := [], young := 0, intoMiddle := false }
def os0 : OsState := (start (opening RR0.prog)).1.os
def obX_0 (P : Params) : List (Nat × Obj) := [(0,oDict [en P "__name__" 1 (.str "builtins" 160), en P "__doc__" 2 (.builtin "builtins.__doc__:str#opaque"), en P "__package__" 3 (.builtin "builtins.__package__:str#opaque"), en P "__loader__" 4 (.builtin "builtins.__loader__:shared#opaque"), en P "__spec__" 5 (.builtin "builtins.__spec__#opaque"), en P "__build_class__" 6 (.builtin "__build_class__"), en P (PySem.Str.mk #[95, 95, 105, 109, 112, 111, 114, 116, 95, 95]) 7 (.builtin "__import__"), en P "abs" 8 (.builtin "abs"), en P "all" 9 (.builtin "all"), en P "any" 10 (.builtin "any"), en P "ascii" 11 (.builtin "ascii"), en P "bin" 12 (.builtin "bin"), en P "breakpoint" 13 (.builtin "breakpoint"), en P "callable" 14 (.builtin "callable"), en P "chr" 15 (.builtin "chr"), en P "compile" 16 (.builtin "compile"), en P "delattr" 17 (.builtin "delattr"), en P "dir" 18 (.builtin "dir"), en P "divmod" 19 (.builtin "divmod"), en P "eval" 20 (.builtin "eval"), en P "exec" 21 (.builtin "exec"), en P "format" 22 (.builtin "format"), en P "getattr" 23 (.builtin "getattr"), en P "globals" 24 (.builtin "globals"), en P "hasattr" 25 (.builtin "hasattr"), en P "hash" 26 (.builtin "hash"), en P "hex" 27 (.builtin "hex"), en P "id" 28 (.builtin "id"), en P "input" 29 (.builtin "input"), en P "isinstance" 30 (.builtin "isinstance"), en P "issubclass" 31 (.builtin "issubclass"), en P "iter" 32 (.builtin "iter"), en P "aiter" 33 (.builtin "aiter"), en P "len" 34 (.builtin "len"), en P "locals" 35 (.builtin "locals"), en P "max" 36 (.builtin "max"), en P "min" 37 (.builtin "min"), en P "next" 38 (.builtin "next"), en P "anext" 39 (.builtin "anext"), en P "oct" 40 (.builtin "oct"), en P "ord" 41 (.builtin "ord"), en P "pow" 42 (.builtin "pow"), en P "print" 43 (.builtin "print"), en P "repr" 44 (.builtin "repr"), en P "round" 45 (.builtin "round"), en P "setattr" 46 (.builtin "setattr"), en P "sorted" 47 (.builtin "sorted"), en P "sum" 48 (.builtin "sum"), en P "vars" 49 (.builtin "vars"), en P "None" 50 .none, en P "Ellipsis" 51 .ellipsis, en P "NotImplemented" 52 .notImplemented, en P "False" 53 (.bool false), en P "True" 54 (.bool true), en P "bool" 55 (.type "bool"), en P "memoryview" 56 (.type "memoryview"), en P "bytearray" 57 (.type "bytearray"), en P "bytes" 58 (.type "bytes"), en P "classmethod" 59 (.type "classmethod"), en P "complex" 60 (.type "complex"), en P "dict" 61 (.type "dict"), en P "enumerate" 62 (.type "enumerate"), en P "filter" 63 (.type "filter"), en P "float" 64 (.type "float"), en P "frozenset" 65 (.type "frozenset"), en P "property" 66 (.type "property"), en P "int" 67 (.type "int"), en P "list" 68 (.type "list"), en P "map" 69 (.type "map"), en P "object" 70 (.type "object"), en P "range" 71 (.type "range"), en P "reversed" 72 (.type "reversed"), en P "set" 73 (.type "set"), en P "slice" 74 (.type "slice"), en P "staticmethod" 75 (.type "staticmethod"), en P "str" 76 (.type "str"), en P "super" 77 (.type "super"), en P "tuple" 78 (.type "tuple"), en P "type" 79 (.type "type"), en P "zip" 80 (.type "zip"), en P "__debug__" 81 (.bool true), en P "BaseException" 82 (.type "BaseException"), en P "BaseExceptionGroup" 83 (.type "BaseExceptionGroup"), en P "Exception" 84 (.type "Exception"), en P "GeneratorExit" 85 (.type "GeneratorExit"), en P "KeyboardInterrupt" 86 (.type "KeyboardInterrupt"), en P "SystemExit" 87 (.type "SystemExit"), en P "ArithmeticError" 88 (.type "ArithmeticError"), en P "AssertionError" 89 (.type "AssertionError"), en P "AttributeError" 90 (.type "AttributeError"), en P "BufferError" 91 (.type "BufferError"), en P "EOFError" 92 (.type "EOFError"), en P "ImportError" 93 (.type "ImportError"), en P "LookupError" 94 (.type "LookupError"), en P "MemoryError" 95 (.type "MemoryError"), en P "NameError" 96 (.type "NameError"), en P "OSError" 97 (.type "OSError"), en P "ReferenceError" 98 (.type "ReferenceError"), en P "RuntimeError" 99 (.type "RuntimeError"), en P "StopAsyncIteration" 100 (.type "StopAsyncIteration"), en P "StopIteration" 101 (.type "StopIteration"), en P "SyntaxError" 102 (.type "SyntaxError"), en P "SystemError" 103 (.type "SystemError"), en P "TypeError" 104 (.type "TypeError"), en P "ValueError" 105 (.type "ValueError"), en P "Warning" 106 (.type "Warning"), en P "FloatingPointError" 107 (.type "FloatingPointError"), en P "OverflowError" 108 (.type "OverflowError"), en P "ZeroDivisionError" 109 (.type "ZeroDivisionError"), en P "BytesWarning" 110 (.type "BytesWarning"), en P "DeprecationWarning" 111 (.type "DeprecationWarning"), en P "EncodingWarning" 112 (.type "EncodingWarning"), en P "FutureWarning" 113 (.type "FutureWarning"), en P "ImportWarning" 114 (.type "ImportWarning"), en P "PendingDeprecationWarning" 115 (.type "PendingDeprecationWarning"), en P "ResourceWarning" 116 (.type "ResourceWarning"), en P "RuntimeWarning" 117 (.type "RuntimeWarning"), en P "SyntaxWarning" 118 (.type "SyntaxWarning"), en P "UnicodeWarning" 119 (.type "UnicodeWarning"), en P "UserWarning" 120 (.type "UserWarning"), en P "BlockingIOError" 121 (.type "BlockingIOError"), en P "ChildProcessError" 122 (.type "ChildProcessError"), en P "ConnectionError" 123 (.type "ConnectionError"), en P "FileExistsError" 124 (.type "FileExistsError"), en P "FileNotFoundError" 125 (.type "FileNotFoundError"), en P "InterruptedError" 126 (.type "InterruptedError"), en P "IsADirectoryError" 127 (.type "IsADirectoryError"), en P "NotADirectoryError" 128 (.type "NotADirectoryError"), en P "PermissionError" 129 (.type "PermissionError"), en P "ProcessLookupError" 130 (.type "ProcessLookupError"), en P "TimeoutError" 131 (.type "TimeoutError"), en P "IndentationError" 132 (.type "IndentationError"), en P "_IncompleteInputError" 133 (.type "_IncompleteInputError"), en P "IndexError" 134 (.type "IndexError"), en P "KeyError" 135 (.type "KeyError"), en P "ModuleNotFoundError" 136 (.type "ModuleNotFoundError"), en P "NotImplementedError" 137 (.type "NotImplementedError"), en P "PythonFinalizationError" 138 (.type "PythonFinalizationError"), en P "RecursionError" 139 (.type "RecursionError"), en P "UnboundLocalError" 140 (.type "UnboundLocalError"), en P "UnicodeError" 141 (.type "UnicodeError"), en P "BrokenPipeError" 142 (.type "BrokenPipeError"), en P "ConnectionAbortedError" 143 (.type "ConnectionAbortedError"), en P "ConnectionRefusedError" 144 (.type "ConnectionRefusedError"), en P "ConnectionResetError" 145 (.type "ConnectionResetError"), en P "TabError" 146 (.type "TabError"), en P "UnicodeDecodeError" 147 (.type "UnicodeDecodeError"), en P "UnicodeEncodeError" 148 (.type "UnicodeEncodeError"), en P "UnicodeTranslateError" 149 (.type "UnicodeTranslateError"), en P "ExceptionGroup" 150 (.type "ExceptionGroup"), en P "EnvironmentError" 151 (.type "OSError"), en P "IOError" 152 (.type "OSError"), en P "open" 153 (.builtin "open"), en P "quit" 154 (.builtin "builtins.quit#opaque"), en P "exit" 155 (.builtin "builtins.exit#opaque"), en P "copyright" 156 (.builtin "builtins.copyright#opaque"), en P "credits" 157 (.builtin "builtins.credits#opaque"), en P "license" 158 (.builtin "builtins.license#opaque"), en P "help" 159 (.builtin "builtins.help#opaque")] 159),
(1,oDict [en P "builtins" 162 (vr 4), en P "__main__" 163 (vr 5)] 2),
(2,⟨.none, none, (.dict ([] : List DictEntry).toArray 0), [].toArray⟩),
(3,oDict [en P "__name__" 165 (.str "__main__" 164), en P "__doc__" 166 .none, en P "__package__" 167 .none, en P "__loader__" 168 (.builtin "__main__.__loader__#opaque"), en P "__spec__" 169 .none, en P "__annotations__" 170 (vr 6), en P "__builtins__" 171 (vr 4), en P "__file__" 173 (vc 172), en P "__cached__" 174 .none] 9),
(4,⟨(.type "module"), (some 0), .plain, [].toArray⟩),
(5,⟨(.type "module"), (some 3), .plain, [].toArray⟩),
(6,oDict [] 0),
(7,oTup []),
(8,oFld []),
(9,oCd [(.str "<module>" 176), (.str "<module>" 177), (vc 178), (vi 1), (vi 0), (vi 0), (vi 0), (vi 0), (vr 7), (.bool false), (vi 175), (vr 8), .none, .none, .none, .none, (vi 179), (vi 1), (vc 180)]),
(10,⟨(.type "frame"), none, .plain, [(some (vr 9)), (some (vr 3)), (some (vr 3)), none, (some (.str "__main__" 164)), none, (some (vr 0))].toArray⟩)]
def trX (P : Params) : BT := insAll (obX_0 P) (.nil)
def stX (w : World) : SharedT := ⟨trX w.params, 11, life0, #[], ⟨0, 0, 0, 0⟩, 181, os0⟩
def obA_0 (P : Params) : List (Nat × Obj) := [(11,oTup []),
(12,oFld []),
(13,oCd [(.str "<module>" 182), (.str "<module>" 183), (vc 184), (vi 1), (vi 0), (vi 0), (vi 0), (vi 0), (vr 11), (.bool false), (vi 181), (vr 12), .none, .none, .none, .none, (vi 185), (vi 1), (vc 186)]),
(14,⟨(.type "frame"), none, .plain, [(some (vr 13)), (some (vr 3)), (some (vr 3)), none, (some (.str "__main__" 164)), none, (some (vr 0))].toArray⟩)]
def trA (P : Params) : BT := insAll (obA_0 P) (trX P)
def stA (w : World) : SharedT := ⟨trA w.params, 15, life0, #[], ⟨0, 0, 0, 0⟩, 187, os0⟩
def stB (w : World) : SharedT := ⟨trA w.params, 15, life0, #[], ⟨0, 0, 0, 0⟩, 187, os0⟩
def obS1_0 (P : Params) : List (Nat × Obj) := [(2,⟨.none, none, (.dict ([en P "type.__subclasses__.IndexError.0" 334 (vi 121), en P "type.__subclasses__.IndexError.n" 335 (vi 1)] : List DictEntry).toArray 2), [].toArray⟩),
(3,oDict [en P "__name__" 165 (.str "law_nearspokes_k05_polys_made_and_refused" 645), en P "__doc__" 166 .none, en P "__package__" 167 .none, en P "__loader__" 168 (.builtin "__main__.__loader__#opaque"), en P "__spec__" 169 .none, en P "__annotations__" 170 (vr 6), en P "__builtins__" 171 (vr 4), en P "__file__" 173 (vc 172), en P "__cached__" 174 .none, en P "_wall" 193 (vr 21), en P "PlaneError" 213 (vr 31), en P "InvalidNumber" 239 (vr 51), en P "InvalidTerm" 265 (vr 70), en P "InvalidLetter" 291 (vr 89), en P "Missing" 309 (vr 101), en P "NothingLeft" 337 (vr 121), en P "is_integer" 346 (vr 131), en P "is_number" 355 (vr 138), en P "LETTERS" 360 (vr 139), en P "check_letter" 367 (vr 146), en P "check_terms" 377 (vr 153), en P "made_of" 383 (vr 158), en P "power_text" 391 (vr 165), en P "term_text" 397 (vr 170), en P "added" 409 (vr 177), en P "multiplied" 425 (vr 184), en P "Poly" 644 (vr 351), en P "_law_bag" 655 (vr 362), en P "_law_pull" 666 (vr 369), en P "_law_of" 674 (vr 376), en P "_law_same" 680 (vr 381), en P "_law_field" 687 (vr 388), en P "_law_try" 695 (vr 395), en P "_law_tries" 701 (vr 400), en P "_law_gathered" 707 (vr 405), en P "_law_degree" 713 (vr 410), en P "_law_letter_text" 721 (vr 417), en P "_law_poly_text" 734 (vr 424), en P "law" 740 (vr 429)] 39),
(12,oFld [(vi 1), (vi 0), (vr 20), (vi 5), (vi 0), (vr 27), (vi 7), (vi 0), (vr 40), (vi 12), (vi 0), (vr 59), (vi 17), (vi 0), (vr 78), (vi 22), (vi 0), (vr 97), (vi 24), (vi 0), (vr 110), (vi 29), (vi 0), (vr 130), (vi 31), (vi 0), (vr 137), (vi 35), (vi 0), (vr 145), (vi 38), (vi 0), (vr 152), (vi 46), (vi 0), (vr 157), (vi 48), (vi 0), (vr 164), (vi 52), (vi 0), (vr 169), (vi 57), (vi 0), (vr 176), (vi 64), (vi 0), (vr 183), (vi 71), (vi 0), (vr 190), (vi 180), (vi 0), (vr 361), (vi 185), (vi 0), (vr 368), (vi 201), (vi 0), (vr 375), (vi 203), (vi 0), (vr 380), (vi 213), (vi 0), (vr 387), (vi 227), (vi 0), (vr 394), (vi 232), (vi 0), (vr 399), (vi 234), (vi 0), (vr 404), (vi 239), (vi 0), (vr 409), (vi 241), (vi 0), (vr 416), (vi 243), (vi 0), (vr 423), (vi 254), (vi 0), (vr 428)]),
(15,oTup []),
(16,oFld []),
(17,oTup [(.str "k" 190)]),
(18,oTup []),
(19,oFn0 "_wall" "_wall" (top 0)),
(20,oCd [(.str "_wall" 187), (.str "_wall" 188), (vc 189), (vi 1), (vi 1), (vi 0), (vi 0), (vi 3), (vr 15), (.bool true), (vi 181), (vr 16), .none, (vr 17), (vr 18), (vr 19), (vi 191), (vi 1), (vc 192)]),
(21,oFn3 "_wall" "_wall" (top 0) "__main__" 164 20),
(22,oTup [(.type "ValueError")]),
(23,oFldT "builtin_function_or_method" [(.builtin "type.__prepare__"), (.type "type")]),
(24,oDict [en P "__module__" 203 (.str "nearspokes.errors" 194), en P "__qualname__" 205 (.str "PlaneError" 204), en P "__firstlineno__" 207 (.int 5 206), en P "__static_attributes__" 208 (vr 29)] 4),
(25,oTup []),
(26,oFld []),
(27,oCd [(.str "PlaneError" 198), (.str "PlaneError" 199), (vc 200), (vi 5), (vi 0), (vi 0), (vi 0), (vi 0), (vr 25), (.bool false), (vi 181), (vr 26), .none, .none, .none, .none, (vi 201), (vi 5), (vc 202)]),
(28,⟨(.type "frame"), none, .plain, [(some (vr 27)), (some (vr 3)), (some (vr 24)), none, (some (.str "nearspokes.errors" 194)), none, (some (vr 0))].toArray⟩),
(29,oTup []),
(30,oDict [en P "__module__" 203 (.str "nearspokes.errors" 194), en P "__firstlineno__" 207 (.int 5 206), en P "__static_attributes__" 208 (vr 29), en P "__weakref__" 210 (vr 32), en P "__doc__" 211 .none] 3),
(31,⟨(.type "type"), none, (.cls ⟨"PlaneError", [(.type "ValueError")], [(vr 31), (.type "ValueError"), (.type "Exception"), (.type "BaseException"), (.type "object")], 30, "PlaneError", true, [], [(vr 51), (vr 70), (vr 89)], false, none, false⟩), [(some (vr 22)), none, (some (.str "PlaneError" 196)), (some (.str "PlaneError" 204)), (some (.builtin "ValueError.__new__")), (some (.bool true))].toArray⟩),
(32,oFldT "getset_descriptor" [(.str "__weakref__" 209), (vr 31), (.builtin "ExceptionGroup.__weakref__"), .none]),
(33,oFldT "super" [(vr 31), (vr 31), (vr 31)]),
(34,oFldT "builtin_function_or_method" [(.builtin "object.__init_subclass__"), (vr 31)]),
(35,oTup [(vr 31)]),
(36,oFldT "builtin_function_or_method" [(.builtin "type.__prepare__"), (.type "type")]),
(37,oDict [en P "__module__" 221 (.str "nearspokes.errors" 194), en P "__qualname__" 223 (.str "InvalidNumber" 222), en P "__firstlineno__" 225 (.int 7 224), en P "__init__" 233 (vr 48), en P "__static_attributes__" 236 (vr 49)] 5),
(38,oTup []),
(39,oFld [(vi 9), (vi 4), (vr 47)]),
(40,oCd [(.str "InvalidNumber" 216), (.str "InvalidNumber" 217), (vc 218), (vi 7), (vi 0), (vi 0), (vi 0), (vi 0), (vr 38), (.bool false), (vi 181), (vr 39), .none, .none, .none, .none, (vi 219), (vi 7), (vc 220)]),
(41,⟨(.type "frame"), none, .plain, [(some (vr 40)), (some (vr 3)), (some (vr 37)), none, (some (.str "nearspokes.errors" 194)), none, (some (vr 0))].toArray⟩),
(42,oTup []),
(43,oFld []),
(44,oTup [(.str "self" 229), (.str "given" 230)]),
(45,oTup []),
(46,oFn0 "__init__" "InvalidNumber.__init__" (sAt 0 (sBody (top 3)))),
(47,oCd [(.str "__init__" 226), (.str "InvalidNumber.__init__" 227), (vc 228), (vi 9), (vi 2), (vi 0), (vi 0), (vi 3), (vr 42), (.bool true), (vi 181), (vr 43), .none, (vr 44), (vr 45), (vr 46), (vi 231), (vi 9), (vc 232)]),
(48,oFn3 "__init__" "InvalidNumber.__init__" (sAt 0 (sBody (top 3))) "nearspokes.errors" 194 47),
(49,oTup [(.str "code" 234), (.str "given" 235)]),
(50,oDict [en P "__module__" 221 (.str "nearspokes.errors" 194), en P "__firstlineno__" 225 (.int 7 224), en P "__init__" 233 (vr 48), en P "__static_attributes__" 236 (vr 49), en P "__doc__" 237 .none] 2),
(51,⟨(.type "type"), none, (.cls ⟨"InvalidNumber", [(vr 31)], [(vr 51), (vr 31), (.type "ValueError"), (.type "Exception"), (.type "BaseException"), (.type "object")], 50, "InvalidNumber", true, [], [], false, none, false⟩), [(some (vr 35)), none, (some (.str "InvalidNumber" 214)), (some (.str "InvalidNumber" 222)), (some (.builtin "ValueError.__new__")), (some (.bool true))].toArray⟩)]
def obS1_1 (P : Params) : List (Nat × Obj) := [(52,oFldT "super" [(vr 51), (vr 51), (vr 51)]),
(53,oFldT "builtin_function_or_method" [(.builtin "object.__init_subclass__"), (vr 51)]),
(54,oTup [(vr 31)]),
(55,oFldT "builtin_function_or_method" [(.builtin "type.__prepare__"), (.type "type")]),
(56,oDict [en P "__module__" 247 (.str "nearspokes.errors" 194), en P "__qualname__" 249 (.str "InvalidTerm" 248), en P "__firstlineno__" 251 (.int 12 250), en P "__init__" 259 (vr 67), en P "__static_attributes__" 262 (vr 68)] 5),
(57,oTup []),
(58,oFld [(vi 14), (vi 4), (vr 66)]),
(59,oCd [(.str "InvalidTerm" 242), (.str "InvalidTerm" 243), (vc 244), (vi 12), (vi 0), (vi 0), (vi 0), (vi 0), (vr 57), (.bool false), (vi 181), (vr 58), .none, .none, .none, .none, (vi 245), (vi 12), (vc 246)]),
(60,⟨(.type "frame"), none, .plain, [(some (vr 59)), (some (vr 3)), (some (vr 56)), none, (some (.str "nearspokes.errors" 194)), none, (some (vr 0))].toArray⟩),
(61,oTup []),
(62,oFld []),
(63,oTup [(.str "self" 255), (.str "at" 256)]),
(64,oTup []),
(65,oFn0 "__init__" "InvalidTerm.__init__" (sAt 0 (sBody (top 4)))),
(66,oCd [(.str "__init__" 252), (.str "InvalidTerm.__init__" 253), (vc 254), (vi 14), (vi 2), (vi 0), (vi 0), (vi 3), (vr 61), (.bool true), (vi 181), (vr 62), .none, (vr 63), (vr 64), (vr 65), (vi 257), (vi 14), (vc 258)]),
(67,oFn3 "__init__" "InvalidTerm.__init__" (sAt 0 (sBody (top 4))) "nearspokes.errors" 194 66),
(68,oTup [(.str "at" 260), (.str "code" 261)]),
(69,oDict [en P "__module__" 247 (.str "nearspokes.errors" 194), en P "__firstlineno__" 251 (.int 12 250), en P "__init__" 259 (vr 67), en P "__static_attributes__" 262 (vr 68), en P "__doc__" 263 .none] 2),
(70,⟨(.type "type"), none, (.cls ⟨"InvalidTerm", [(vr 31)], [(vr 70), (vr 31), (.type "ValueError"), (.type "Exception"), (.type "BaseException"), (.type "object")], 69, "InvalidTerm", true, [], [], false, none, false⟩), [(some (vr 54)), none, (some (.str "InvalidTerm" 240)), (some (.str "InvalidTerm" 248)), (some (.builtin "ValueError.__new__")), (some (.bool true))].toArray⟩),
(71,oFldT "super" [(vr 70), (vr 70), (vr 70)]),
(72,oFldT "builtin_function_or_method" [(.builtin "object.__init_subclass__"), (vr 70)]),
(73,oTup [(vr 31)]),
(74,oFldT "builtin_function_or_method" [(.builtin "type.__prepare__"), (.type "type")]),
(75,oDict [en P "__module__" 273 (.str "nearspokes.errors" 194), en P "__qualname__" 275 (.str "InvalidLetter" 274), en P "__firstlineno__" 277 (.int 17 276), en P "__init__" 285 (vr 86), en P "__static_attributes__" 288 (vr 87)] 5),
(76,oTup []),
(77,oFld [(vi 19), (vi 4), (vr 85)]),
(78,oCd [(.str "InvalidLetter" 268), (.str "InvalidLetter" 269), (vc 270), (vi 17), (vi 0), (vi 0), (vi 0), (vi 0), (vr 76), (.bool false), (vi 181), (vr 77), .none, .none, .none, .none, (vi 271), (vi 17), (vc 272)]),
(79,⟨(.type "frame"), none, .plain, [(some (vr 78)), (some (vr 3)), (some (vr 75)), none, (some (.str "nearspokes.errors" 194)), none, (some (vr 0))].toArray⟩),
(80,oTup []),
(81,oFld []),
(82,oTup [(.str "self" 281), (.str "given" 282)]),
(83,oTup []),
(84,oFn0 "__init__" "InvalidLetter.__init__" (sAt 0 (sBody (top 5)))),
(85,oCd [(.str "__init__" 278), (.str "InvalidLetter.__init__" 279), (vc 280), (vi 19), (vi 2), (vi 0), (vi 0), (vi 3), (vr 80), (.bool true), (vi 181), (vr 81), .none, (vr 82), (vr 83), (vr 84), (vi 283), (vi 19), (vc 284)]),
(86,oFn3 "__init__" "InvalidLetter.__init__" (sAt 0 (sBody (top 5))) "nearspokes.errors" 194 85),
(87,oTup [(.str "code" 286), (.str "given" 287)]),
(88,oDict [en P "__module__" 273 (.str "nearspokes.errors" 194), en P "__firstlineno__" 277 (.int 17 276), en P "__init__" 285 (vr 86), en P "__static_attributes__" 288 (vr 87), en P "__doc__" 289 .none] 2),
(89,⟨(.type "type"), none, (.cls ⟨"InvalidLetter", [(vr 31)], [(vr 89), (vr 31), (.type "ValueError"), (.type "Exception"), (.type "BaseException"), (.type "object")], 88, "InvalidLetter", true, [], [], false, none, false⟩), [(some (vr 73)), none, (some (.str "InvalidLetter" 266)), (some (.str "InvalidLetter" 274)), (some (.builtin "ValueError.__new__")), (some (.bool true))].toArray⟩),
(90,oFldT "super" [(vr 89), (vr 89), (vr 89)]),
(91,oFldT "builtin_function_or_method" [(.builtin "object.__init_subclass__"), (vr 89)])]
def obS1_2 (P : Params) : List (Nat × Obj) := [(92,oTup [(.type "LookupError")]),
(93,oFldT "builtin_function_or_method" [(.builtin "type.__prepare__"), (.type "type")]),
(94,oDict [en P "__module__" 299 (.str "nearspokes.errors" 194), en P "__qualname__" 301 (.str "Missing" 300), en P "__firstlineno__" 303 (.int 22 302), en P "__static_attributes__" 304 (vr 99)] 4),
(95,oTup []),
(96,oFld []),
(97,oCd [(.str "Missing" 294), (.str "Missing" 295), (vc 296), (vi 22), (vi 0), (vi 0), (vi 0), (vi 0), (vr 95), (.bool false), (vi 181), (vr 96), .none, .none, .none, .none, (vi 297), (vi 22), (vc 298)]),
(98,⟨(.type "frame"), none, .plain, [(some (vr 97)), (some (vr 3)), (some (vr 94)), none, (some (.str "nearspokes.errors" 194)), none, (some (vr 0))].toArray⟩),
(99,oTup []),
(100,oDict [en P "__module__" 299 (.str "nearspokes.errors" 194), en P "__firstlineno__" 303 (.int 22 302), en P "__static_attributes__" 304 (vr 99), en P "__weakref__" 306 (vr 102), en P "__doc__" 307 .none] 3),
(101,⟨(.type "type"), none, (.cls ⟨"Missing", [(.type "LookupError")], [(vr 101), (.type "LookupError"), (.type "Exception"), (.type "BaseException"), (.type "object")], 100, "Missing", true, [], [], false, none, false⟩), [(some (vr 92)), none, (some (.str "Missing" 292)), (some (.str "Missing" 300)), (some (.builtin "LookupError.__new__")), (some (.bool true))].toArray⟩),
(102,oFldT "getset_descriptor" [(.str "__weakref__" 305), (vr 101), (.builtin "ExceptionGroup.__weakref__"), .none]),
(103,oFldT "super" [(vr 101), (vr 101), (vr 101)]),
(104,oFldT "builtin_function_or_method" [(.builtin "object.__init_subclass__"), (vr 101)]),
(105,oTup [(.type "IndexError")]),
(106,oFldT "builtin_function_or_method" [(.builtin "type.__prepare__"), (.type "type")]),
(107,oDict [en P "__module__" 317 (.str "nearspokes.errors" 194), en P "__qualname__" 319 (.str "NothingLeft" 318), en P "__firstlineno__" 321 (.int 24 320), en P "__init__" 328 (vr 118), en P "__static_attributes__" 330 (vr 119)] 5),
(108,oTup []),
(109,oFld [(vi 26), (vi 4), (vr 117)]),
(110,oCd [(.str "NothingLeft" 312), (.str "NothingLeft" 313), (vc 314), (vi 24), (vi 0), (vi 0), (vi 0), (vi 0), (vr 108), (.bool false), (vi 181), (vr 109), .none, .none, .none, .none, (vi 315), (vi 24), (vc 316)]),
(111,⟨(.type "frame"), none, .plain, [(some (vr 110)), (some (vr 3)), (some (vr 107)), none, (some (.str "nearspokes.errors" 194)), none, (some (vr 0))].toArray⟩),
(112,oTup []),
(113,oFld []),
(114,oTup [(.str "self" 325)]),
(115,oTup []),
(116,oFn0 "__init__" "NothingLeft.__init__" (sAt 0 (sBody (top 7)))),
(117,oCd [(.str "__init__" 322), (.str "NothingLeft.__init__" 323), (vc 324), (vi 26), (vi 1), (vi 0), (vi 0), (vi 3), (vr 112), (.bool true), (vi 181), (vr 113), .none, (vr 114), (vr 115), (vr 116), (vi 326), (vi 26), (vc 327)]),
(118,oFn3 "__init__" "NothingLeft.__init__" (sAt 0 (sBody (top 7))) "nearspokes.errors" 194 117),
(119,oTup [(.str "code" 329)]),
(120,oDict [en P "__module__" 317 (.str "nearspokes.errors" 194), en P "__firstlineno__" 321 (.int 24 320), en P "__init__" 328 (vr 118), en P "__static_attributes__" 330 (vr 119), en P "__weakref__" 332 (vr 122), en P "__doc__" 333 .none] 3),
(121,⟨(.type "type"), none, (.cls ⟨"NothingLeft", [(.type "IndexError")], [(vr 121), (.type "IndexError"), (.type "LookupError"), (.type "Exception"), (.type "BaseException"), (.type "object")], 120, "NothingLeft", true, [], [], false, none, false⟩), [(some (vr 105)), none, (some (.str "NothingLeft" 310)), (some (.str "NothingLeft" 318)), (some (.builtin "IndexError.__new__")), (some (.bool true))].toArray⟩),
(122,oFldT "getset_descriptor" [(.str "__weakref__" 331), (vr 121), (.builtin "ExceptionGroup.__weakref__"), .none]),
(123,oFldT "super" [(vr 121), (vr 121), (vr 121)]),
(124,oFldT "builtin_function_or_method" [(.builtin "object.__init_subclass__"), (vr 121)]),
(125,oTup []),
(126,oFld []),
(127,oTup [(.str "value" 343)]),
(128,oTup []),
(129,oFn0 "is_integer" "is_integer" (top 9)),
(130,oCd [(.str "is_integer" 340), (.str "is_integer" 341), (vc 342), (vi 29), (vi 1), (vi 0), (vi 0), (vi 3), (vr 125), (.bool true), (vi 181), (vr 126), .none, (vr 127), (vr 128), (vr 129), (vi 344), (vi 29), (vc 345)]),
(131,oFn3 "is_integer" "is_integer" (top 9) "nearspokes.ratios" 338 130)]
def obS1_3 (P : Params) : List (Nat × Obj) := [(132,oTup []),
(133,oFld []),
(134,oTup [(.str "value" 350), (.str "least" 351), (.str "most" 352)]),
(135,oTup []),
(136,oFn0 "is_number" "is_number" (top 10)),
(137,oCd [(.str "is_number" 347), (.str "is_number" 348), (vc 349), (vi 31), (vi 3), (vi 0), (vi 0), (vi 3), (vr 132), (.bool true), (vi 181), (vr 133), .none, (vr 134), (vr 135), (vr 136), (vi 353), (vi 31), (vc 354)]),
(138,oFn3 "is_number" "is_number" (top 10) "nearspokes.ratios" 338 137),
(139,oTup [(.str "x" 358), (.str "y" 359)]),
(140,oTup []),
(141,oFld []),
(142,oTup [(.str "letter" 364)]),
(143,oTup []),
(144,oFn0 "check_letter" "check_letter" (top 13)),
(145,oCd [(.str "check_letter" 361), (.str "check_letter" 362), (vc 363), (vi 35), (vi 1), (vi 0), (vi 0), (vi 3), (vr 140), (.bool true), (vi 181), (vr 141), .none, (vr 142), (vr 143), (vr 144), (vi 365), (vi 35), (vc 366)]),
(146,oFn3 "check_letter" "check_letter" (top 13) "nearspokes.polys" 356 145),
(147,oTup []),
(148,oFld []),
(149,oTup [(.str "terms" 371), (.str "most" 372), (.str "at" 373), (.str "term" 374)]),
(150,oTup []),
(151,oFn0 "check_terms" "check_terms" (top 14)),
(152,oCd [(.str "check_terms" 368), (.str "check_terms" 369), (vc 370), (vi 38), (vi 2), (vi 0), (vi 0), (vi 3), (vr 147), (.bool true), (vi 181), (vr 148), .none, (vr 149), (vr 150), (vr 151), (vi 375), (vi 38), (vc 376)]),
(153,oFn3 "check_terms" "check_terms" (top 14) "nearspokes.polys" 356 152),
(154,oTup []),
(155,oFld []),
(156,oFn0 "made_of" "made_of" (top 15)),
(157,oCd [(.str "made_of" 378), (.str "made_of" 379), (vc 380), (vi 46), (vi 1), (vi 0), (vi 0), (vi 3), (vr 154), (.bool true), (vi 181), (vr 155), .none, .none, .none, (vr 156), (vi 381), (vi 46), (vc 382)]),
(158,oFn3 "made_of" "made_of" (top 15) "nearspokes.polys" 356 157),
(159,oTup []),
(160,oFld []),
(161,oTup [(.str "letter" 387), (.str "power" 388)]),
(162,oTup []),
(163,oFn0 "power_text" "power_text" (top 16)),
(164,oCd [(.str "power_text" 384), (.str "power_text" 385), (vc 386), (vi 48), (vi 2), (vi 0), (vi 0), (vi 3), (vr 159), (.bool true), (vi 181), (vr 160), .none, (vr 161), (vr 162), (vr 163), (vi 389), (vi 48), (vc 390)]),
(165,oFn3 "power_text" "power_text" (top 16) "nearspokes.polys" 356 164),
(166,oTup []),
(167,oFld []),
(168,oFn0 "term_text" "term_text" (top 17)),
(169,oCd [(.str "term_text" 392), (.str "term_text" 393), (vc 394), (vi 52), (vi 3), (vi 0), (vi 0), (vi 3), (vr 166), (.bool true), (vi 181), (vr 167), .none, .none, .none, (vr 168), (vi 395), (vi 52), (vc 396)]),
(170,oFn3 "term_text" "term_text" (top 17) "nearspokes.polys" 356 169),
(171,oTup [])]
def obS1_4 (P : Params) : List (Nat × Obj) := [(172,oFld []),
(173,oTup [(.str "one" 401), (.str "other" 402), (.str "times" 403), (.str "cells" 404), (.str "key" 405), (.str "value" 406)]),
(174,oTup []),
(175,oFn0 "added" "added" (top 18)),
(176,oCd [(.str "added" 398), (.str "added" 399), (vc 400), (vi 57), (vi 3), (vi 0), (vi 0), (vi 3), (vr 171), (.bool true), (vi 181), (vr 172), .none, (vr 173), (vr 174), (vr 175), (vi 407), (vi 57), (vc 408)]),
(177,oFn3 "added" "added" (top 18) "nearspokes.polys" 356 176),
(178,oTup []),
(179,oFld []),
(180,oTup [(.str "one" 413), (.str "other" 414), (.str "cells" 415), (.str "i" 416), (.str "j" 417), (.str "value" 418), (.str "k" 419), (.str "m" 420), (.str "factor" 421), (.str "key" 422)]),
(181,oTup []),
(182,oFn0 "multiplied" "multiplied" (top 19)),
(183,oCd [(.str "multiplied" 410), (.str "multiplied" 411), (vc 412), (vi 64), (vi 2), (vi 0), (vi 0), (vi 3), (vr 178), (.bool true), (vi 181), (vr 179), .none, (vr 180), (vr 181), (vr 182), (vi 423), (vi 64), (vc 424)]),
(184,oFn3 "multiplied" "multiplied" (top 19) "nearspokes.polys" 356 183),
(185,oTup []),
(186,oFldT "builtin_function_or_method" [(.builtin "type.__prepare__"), (.type "type")]),
(187,oDict [en P "__module__" 433 (.str "nearspokes.polys" 356), en P "__qualname__" 435 (.str "Poly" 434), en P "__firstlineno__" 437 (.int 71 436), en P "__init__" 445 (vr 199), en P "constant" 464 (vr 208), en P "letter" 483 (vr 218), en P "degree" 490 (vr 225), en P "degree_in" 496 (vr 230), en P "lead" 503 (vr 237), en P "terms" 509 (vr 242), en P "coefficient" 518 (vr 249), en P "value_at" 526 (vr 256), en P "slope" 532 (vr 261), en P "normal" 539 (vr 268), en P "text" 550 (vr 275), en P "__add__" 558 (vr 282), en P "__radd__" 566 (vr 289), en P "__sub__" 574 (vr 296), en P "__rsub__" 582 (vr 303), en P "__mul__" 588 (vr 308), en P "__rmul__" 596 (vr 315), en P "__neg__" 602 (vr 320), en P "__pow__" 612 (vr 327), en P "__eq__" 620 (vr 334), en P "__bool__" 627 (vr 341), en P "__repr__" 634 (vr 348), en P "__static_attributes__" 636 (vr 349)] 27),
(188,oTup []),
(189,oFld [(vi 73), (vi 4), (vr 198), (vi 82), (vi 4), (vr 205), (vi 88), (vi 4), (vr 215), (vi 93), (vi 4), (vr 223), (vi 96), (vi 4), (vr 229), (vi 101), (vi 4), (vr 236), (vi 104), (vi 4), (vr 241), (vi 107), (vi 4), (vr 248), (vi 110), (vi 4), (vr 255), (vi 113), (vi 4), (vr 260), (vi 119), (vi 4), (vr 267), (vi 122), (vi 4), (vr 274), (vi 132), (vi 4), (vr 281), (vi 139), (vi 4), (vr 288), (vi 142), (vi 4), (vr 295), (vi 149), (vi 4), (vr 302), (vi 152), (vi 4), (vr 307), (vi 159), (vi 4), (vr 314), (vi 162), (vi 4), (vr 319), (vi 165), (vi 4), (vr 326), (vi 171), (vi 4), (vr 333), (vi 174), (vi 4), (vr 340), (vi 177), (vi 4), (vr 347)]),
(190,oCd [(.str "Poly" 428), (.str "Poly" 429), (vc 430), (vi 71), (vi 0), (vi 0), (vi 0), (vi 0), (vr 188), (.bool false), (vi 181), (vr 189), .none, .none, .none, .none, (vi 431), (vi 71), (vc 432)]),
(191,⟨(.type "frame"), none, .plain, [(some (vr 190)), (some (vr 3)), (some (vr 187)), none, (some (.str "nearspokes.polys" 356)), none, (some (vr 0))].toArray⟩),
(192,oTup []),
(193,oTup [(vr 192)]),
(194,oDict [en P "most" 439 (.int 20 438)] 1),
(195,oTup []),
(196,oFld []),
(197,oFn0 "__init__" "Poly.__init__" (sAt 0 (sBody (top 20)))),
(198,oCd [(.str "__init__" 440), (.str "Poly.__init__" 441), (vc 442), (vi 73), (vi 2), (vi 0), (vi 1), (vi 3), (vr 195), (.bool true), (vi 181), (vr 196), .none, .none, .none, (vr 197), (vi 443), (vi 73), (vc 444)]),
(199,⟨(.type "function"), none, (.func ⟨"__init__", "Poly.__init__", defArgs (sAt 0 (sBody (top 20))), .stmts (defBody (sAt 0 (sBody (top 20)))), defScope (sAt 0 (sBody (top 20))), 3, [], (vr 193), (vr 194), .none, (.str "nearspokes.polys" 356), none, (vr 198), .none, 0⟩), [].toArray⟩),
(200,oTup []),
(201,oFld []),
(202,oTup [(.str "value" 449)]),
(203,oTup []),
(204,oFn0 "constant" "Poly.constant" (sAt 1 (sBody (top 20)))),
(205,oCd [(.str "constant" 446), (.str "Poly.constant" 447), (vc 448), (vi 81), (vi 1), (vi 0), (vi 0), (vi 3), (vr 200), (.bool true), (vi 181), (vr 201), .none, (vr 202), (vr 203), (vr 204), (vi 450), (vi 81), (vc 451)]),
(206,⟨(.type "function"), none, (.func ⟨"constant", "Poly.constant", defArgs (sAt 1 (sBody (top 20))), .stmts (defBody (sAt 1 (sBody (top 20)))), defScope (sAt 1 (sBody (top 20))), 3, [], .none, .none, .none, (.str "nearspokes.polys" 356), (some 209), (vr 205), .none, 0⟩), [].toArray⟩),
(207,oDict [en P "__module__" 453 (.str "nearspokes.polys" 356), en P "__name__" 456 (.str "constant" 455), en P "__qualname__" 459 (.str "Poly.constant" 458), en P "__doc__" 461 .none, en P "__annotations__" 463 (vr 209)] 5),
(208,⟨(.type "staticmethod"), (some 207), (.fields [(vr 206), (.bool false)].toArray), [].toArray⟩),
(209,oDict [] 0),
(210,oTup []),
(211,oFld [])]
def obS1_5 (P : Params) : List (Nat × Obj) := [(212,oTup [(.str "name" 468)]),
(213,oTup []),
(214,oFn0 "letter" "Poly.letter" (sAt 2 (sBody (top 20)))),
(215,oCd [(.str "letter" 465), (.str "Poly.letter" 466), (vc 467), (vi 87), (vi 1), (vi 0), (vi 0), (vi 3), (vr 210), (.bool true), (vi 181), (vr 211), .none, (vr 212), (vr 213), (vr 214), (vi 469), (vi 87), (vc 470)]),
(216,⟨(.type "function"), none, (.func ⟨"letter", "Poly.letter", defArgs (sAt 2 (sBody (top 20))), .stmts (defBody (sAt 2 (sBody (top 20)))), defScope (sAt 2 (sBody (top 20))), 3, [], .none, .none, .none, (.str "nearspokes.polys" 356), (some 219), (vr 215), .none, 0⟩), [].toArray⟩),
(217,oDict [en P "__module__" 472 (.str "nearspokes.polys" 356), en P "__name__" 475 (.str "letter" 474), en P "__qualname__" 478 (.str "Poly.letter" 477), en P "__doc__" 480 .none, en P "__annotations__" 482 (vr 219)] 5),
(218,⟨(.type "staticmethod"), (some 217), (.fields [(vr 216), (.bool false)].toArray), [].toArray⟩),
(219,oDict [] 0),
(220,oTup []),
(221,oFld []),
(222,oFn0 "degree" "Poly.degree" (sAt 3 (sBody (top 20)))),
(223,oCd [(.str "degree" 484), (.str "Poly.degree" 485), (vc 486), (vi 92), (vi 1), (vi 0), (vi 0), (vi 3), (vr 220), (.bool true), (vi 181), (vr 221), .none, .none, .none, (vr 222), (vi 487), (vi 92), (vc 488)]),
(224,oFn3 "degree" "Poly.degree" (sAt 3 (sBody (top 20))) "nearspokes.polys" 356 223),
(225,oFldT "property" [(vr 224), .none, .none, .none, (.str "degree" 490), (.bool false)]),
(226,oTup []),
(227,oFld []),
(228,oFn0 "degree_in" "Poly.degree_in" (sAt 4 (sBody (top 20)))),
(229,oCd [(.str "degree_in" 491), (.str "Poly.degree_in" 492), (vc 493), (vi 96), (vi 2), (vi 0), (vi 0), (vi 3), (vr 226), (.bool true), (vi 181), (vr 227), .none, .none, .none, (vr 228), (vi 494), (vi 96), (vc 495)]),
(230,oFn3 "degree_in" "Poly.degree_in" (sAt 4 (sBody (top 20))) "nearspokes.polys" 356 229),
(231,oTup []),
(232,oFld []),
(233,oTup [(.str "self" 500)]),
(234,oTup []),
(235,oFn0 "lead" "Poly.lead" (sAt 5 (sBody (top 20)))),
(236,oCd [(.str "lead" 497), (.str "Poly.lead" 498), (vc 499), (vi 101), (vi 1), (vi 0), (vi 0), (vi 3), (vr 231), (.bool true), (vi 181), (vr 232), .none, (vr 233), (vr 234), (vr 235), (vi 501), (vi 101), (vc 502)]),
(237,oFn3 "lead" "Poly.lead" (sAt 5 (sBody (top 20))) "nearspokes.polys" 356 236),
(238,oTup []),
(239,oFld []),
(240,oFn0 "terms" "Poly.terms" (sAt 6 (sBody (top 20)))),
(241,oCd [(.str "terms" 504), (.str "Poly.terms" 505), (vc 506), (vi 104), (vi 1), (vi 0), (vi 0), (vi 3), (vr 238), (.bool true), (vi 181), (vr 239), .none, .none, .none, (vr 240), (vi 507), (vi 104), (vc 508)]),
(242,oFn3 "terms" "Poly.terms" (sAt 6 (sBody (top 20))) "nearspokes.polys" 356 241),
(243,oTup []),
(244,oFld []),
(245,oTup [(.str "self" 513), (.str "i" 514), (.str "j" 515)]),
(246,oTup []),
(247,oFn0 "coefficient" "Poly.coefficient" (sAt 7 (sBody (top 20)))),
(248,oCd [(.str "coefficient" 510), (.str "Poly.coefficient" 511), (vc 512), (vi 107), (vi 3), (vi 0), (vi 0), (vi 3), (vr 243), (.bool true), (vi 181), (vr 244), .none, (vr 245), (vr 246), (vr 247), (vi 516), (vi 107), (vc 517)]),
(249,oFn3 "coefficient" "Poly.coefficient" (sAt 7 (sBody (top 20))) "nearspokes.polys" 356 248),
(250,oTup []),
(251,oFld [])]
def obS1_6 (P : Params) : List (Nat × Obj) := [(252,oTup [(.str "self" 522), (.str "point" 523)]),
(253,oTup []),
(254,oFn0 "value_at" "Poly.value_at" (sAt 8 (sBody (top 20)))),
(255,oCd [(.str "value_at" 519), (.str "Poly.value_at" 520), (vc 521), (vi 110), (vi 2), (vi 0), (vi 0), (vi 3), (vr 250), (.bool true), (vi 181), (vr 251), .none, (vr 252), (vr 253), (vr 254), (vi 524), (vi 110), (vc 525)]),
(256,oFn3 "value_at" "Poly.value_at" (sAt 8 (sBody (top 20))) "nearspokes.polys" 356 255),
(257,oTup []),
(258,oFld []),
(259,oFn0 "slope" "Poly.slope" (sAt 9 (sBody (top 20)))),
(260,oCd [(.str "slope" 527), (.str "Poly.slope" 528), (vc 529), (vi 113), (vi 2), (vi 0), (vi 0), (vi 3), (vr 257), (.bool true), (vi 181), (vr 258), .none, .none, .none, (vr 259), (vi 530), (vi 113), (vc 531)]),
(261,oFn3 "slope" "Poly.slope" (sAt 9 (sBody (top 20))) "nearspokes.polys" 356 260),
(262,oTup []),
(263,oFld []),
(264,oTup [(.str "self" 536)]),
(265,oTup []),
(266,oFn0 "normal" "Poly.normal" (sAt 10 (sBody (top 20)))),
(267,oCd [(.str "normal" 533), (.str "Poly.normal" 534), (vc 535), (vi 119), (vi 1), (vi 0), (vi 0), (vi 3), (vr 262), (.bool true), (vi 181), (vr 263), .none, (vr 264), (vr 265), (vr 266), (vi 537), (vi 119), (vc 538)]),
(268,oFn3 "normal" "Poly.normal" (sAt 10 (sBody (top 20))) "nearspokes.polys" 356 267),
(269,oTup []),
(270,oFld []),
(271,oTup [(.str "self" 543), (.str "words" 544), (.str "i" 545), (.str "j" 546), (.str "value" 547)]),
(272,oTup []),
(273,oFn0 "text" "Poly.text" (sAt 11 (sBody (top 20)))),
(274,oCd [(.str "text" 540), (.str "Poly.text" 541), (vc 542), (vi 122), (vi 1), (vi 0), (vi 0), (vi 3), (vr 269), (.bool true), (vi 181), (vr 270), .none, (vr 271), (vr 272), (vr 273), (vi 548), (vi 122), (vc 549)]),
(275,oFn3 "text" "Poly.text" (sAt 11 (sBody (top 20))) "nearspokes.polys" 356 274),
(276,oTup []),
(277,oFld []),
(278,oTup [(.str "self" 554), (.str "other" 555)]),
(279,oTup []),
(280,oFn0 "__add__" "Poly.__add__" (sAt 12 (sBody (top 20)))),
(281,oCd [(.str "__add__" 551), (.str "Poly.__add__" 552), (vc 553), (vi 132), (vi 2), (vi 0), (vi 0), (vi 3), (vr 276), (.bool true), (vi 181), (vr 277), .none, (vr 278), (vr 279), (vr 280), (vi 556), (vi 132), (vc 557)]),
(282,oFn3 "__add__" "Poly.__add__" (sAt 12 (sBody (top 20))) "nearspokes.polys" 356 281),
(283,oTup []),
(284,oFld []),
(285,oTup [(.str "self" 562), (.str "other" 563)]),
(286,oTup []),
(287,oFn0 "__radd__" "Poly.__radd__" (sAt 13 (sBody (top 20)))),
(288,oCd [(.str "__radd__" 559), (.str "Poly.__radd__" 560), (vc 561), (vi 139), (vi 2), (vi 0), (vi 0), (vi 3), (vr 283), (.bool true), (vi 181), (vr 284), .none, (vr 285), (vr 286), (vr 287), (vi 564), (vi 139), (vc 565)]),
(289,oFn3 "__radd__" "Poly.__radd__" (sAt 13 (sBody (top 20))) "nearspokes.polys" 356 288),
(290,oTup []),
(291,oFld [])]
def obS1_7 (P : Params) : List (Nat × Obj) := [(292,oTup [(.str "self" 570), (.str "other" 571)]),
(293,oTup []),
(294,oFn0 "__sub__" "Poly.__sub__" (sAt 14 (sBody (top 20)))),
(295,oCd [(.str "__sub__" 567), (.str "Poly.__sub__" 568), (vc 569), (vi 142), (vi 2), (vi 0), (vi 0), (vi 3), (vr 290), (.bool true), (vi 181), (vr 291), .none, (vr 292), (vr 293), (vr 294), (vi 572), (vi 142), (vc 573)]),
(296,oFn3 "__sub__" "Poly.__sub__" (sAt 14 (sBody (top 20))) "nearspokes.polys" 356 295),
(297,oTup []),
(298,oFld []),
(299,oTup [(.str "self" 578), (.str "other" 579)]),
(300,oTup []),
(301,oFn0 "__rsub__" "Poly.__rsub__" (sAt 15 (sBody (top 20)))),
(302,oCd [(.str "__rsub__" 575), (.str "Poly.__rsub__" 576), (vc 577), (vi 149), (vi 2), (vi 0), (vi 0), (vi 3), (vr 297), (.bool true), (vi 181), (vr 298), .none, (vr 299), (vr 300), (vr 301), (vi 580), (vi 149), (vc 581)]),
(303,oFn3 "__rsub__" "Poly.__rsub__" (sAt 15 (sBody (top 20))) "nearspokes.polys" 356 302),
(304,oTup []),
(305,oFld []),
(306,oFn0 "__mul__" "Poly.__mul__" (sAt 16 (sBody (top 20)))),
(307,oCd [(.str "__mul__" 583), (.str "Poly.__mul__" 584), (vc 585), (vi 152), (vi 2), (vi 0), (vi 0), (vi 3), (vr 304), (.bool true), (vi 181), (vr 305), .none, .none, .none, (vr 306), (vi 586), (vi 152), (vc 587)]),
(308,oFn3 "__mul__" "Poly.__mul__" (sAt 16 (sBody (top 20))) "nearspokes.polys" 356 307),
(309,oTup []),
(310,oFld []),
(311,oTup [(.str "self" 592), (.str "other" 593)]),
(312,oTup []),
(313,oFn0 "__rmul__" "Poly.__rmul__" (sAt 17 (sBody (top 20)))),
(314,oCd [(.str "__rmul__" 589), (.str "Poly.__rmul__" 590), (vc 591), (vi 159), (vi 2), (vi 0), (vi 0), (vi 3), (vr 309), (.bool true), (vi 181), (vr 310), .none, (vr 311), (vr 312), (vr 313), (vi 594), (vi 159), (vc 595)]),
(315,oFn3 "__rmul__" "Poly.__rmul__" (sAt 17 (sBody (top 20))) "nearspokes.polys" 356 314),
(316,oTup []),
(317,oFld []),
(318,oFn0 "__neg__" "Poly.__neg__" (sAt 18 (sBody (top 20)))),
(319,oCd [(.str "__neg__" 597), (.str "Poly.__neg__" 598), (vc 599), (vi 162), (vi 1), (vi 0), (vi 0), (vi 3), (vr 316), (.bool true), (vi 181), (vr 317), .none, .none, .none, (vr 318), (vi 600), (vi 162), (vc 601)]),
(320,oFn3 "__neg__" "Poly.__neg__" (sAt 18 (sBody (top 20))) "nearspokes.polys" 356 319),
(321,oTup []),
(322,oFld []),
(323,oTup [(.str "self" 606), (.str "times" 607), (.str "found" 608), (.str "_" 609)]),
(324,oTup []),
(325,oFn0 "__pow__" "Poly.__pow__" (sAt 19 (sBody (top 20)))),
(326,oCd [(.str "__pow__" 603), (.str "Poly.__pow__" 604), (vc 605), (vi 165), (vi 2), (vi 0), (vi 0), (vi 3), (vr 321), (.bool true), (vi 181), (vr 322), .none, (vr 323), (vr 324), (vr 325), (vi 610), (vi 165), (vc 611)]),
(327,oFn3 "__pow__" "Poly.__pow__" (sAt 19 (sBody (top 20))) "nearspokes.polys" 356 326),
(328,oTup []),
(329,oFld []),
(330,oTup [(.str "self" 616), (.str "other" 617)]),
(331,oTup [])]
def obS1_8 (P : Params) : List (Nat × Obj) := [(332,oFn0 "__eq__" "Poly.__eq__" (sAt 20 (sBody (top 20)))),
(333,oCd [(.str "__eq__" 613), (.str "Poly.__eq__" 614), (vc 615), (vi 171), (vi 2), (vi 0), (vi 0), (vi 3), (vr 328), (.bool true), (vi 181), (vr 329), .none, (vr 330), (vr 331), (vr 332), (vi 618), (vi 171), (vc 619)]),
(334,oFn3 "__eq__" "Poly.__eq__" (sAt 20 (sBody (top 20))) "nearspokes.polys" 356 333),
(335,oTup []),
(336,oFld []),
(337,oTup [(.str "self" 624)]),
(338,oTup []),
(339,oFn0 "__bool__" "Poly.__bool__" (sAt 21 (sBody (top 20)))),
(340,oCd [(.str "__bool__" 621), (.str "Poly.__bool__" 622), (vc 623), (vi 174), (vi 1), (vi 0), (vi 0), (vi 3), (vr 335), (.bool true), (vi 181), (vr 336), .none, (vr 337), (vr 338), (vr 339), (vi 625), (vi 174), (vc 626)]),
(341,oFn3 "__bool__" "Poly.__bool__" (sAt 21 (sBody (top 20))) "nearspokes.polys" 356 340),
(342,oTup []),
(343,oFld []),
(344,oTup [(.str "self" 631)]),
(345,oTup []),
(346,oFn0 "__repr__" "Poly.__repr__" (sAt 22 (sBody (top 20)))),
(347,oCd [(.str "__repr__" 628), (.str "Poly.__repr__" 629), (vc 630), (vi 177), (vi 1), (vi 0), (vi 0), (vi 3), (vr 342), (.bool true), (vi 181), (vr 343), .none, (vr 344), (vr 345), (vr 346), (vi 632), (vi 177), (vc 633)]),
(348,oFn3 "__repr__" "Poly.__repr__" (sAt 22 (sBody (top 20))) "nearspokes.polys" 356 347),
(349,oTup [(.str "cells" 635)]),
(350,oDict [en P "__module__" 433 (.str "nearspokes.polys" 356), en P "__firstlineno__" 437 (.int 71 436), en P "__init__" 445 (vr 199), en P "constant" 464 (vr 208), en P "letter" 483 (vr 218), en P "degree" 490 (vr 225), en P "degree_in" 496 (vr 230), en P "lead" 503 (vr 237), en P "terms" 509 (vr 242), en P "coefficient" 518 (vr 249), en P "value_at" 526 (vr 256), en P "slope" 532 (vr 261), en P "normal" 539 (vr 268), en P "text" 550 (vr 275), en P "__add__" 558 (vr 282), en P "__radd__" 566 (vr 289), en P "__sub__" 574 (vr 296), en P "__rsub__" 582 (vr 303), en P "__mul__" 588 (vr 308), en P "__rmul__" 596 (vr 315), en P "__neg__" 602 (vr 320), en P "__pow__" 612 (vr 327), en P "__eq__" 620 (vr 334), en P "__bool__" 627 (vr 341), en P "__repr__" 634 (vr 348), en P "__static_attributes__" 636 (vr 349), en P "__dict__" 638 (vr 352), en P "__weakref__" 640 (vr 353), en P "__doc__" 641 .none, en P "__hash__" 642 .none] 5),
(351,⟨(.type "type"), none, (.cls ⟨"Poly", [(.type "object")], [(vr 351), (.type "object")], 350, "Poly", true, [], [], false, none, false⟩), [none, none, (some (.str "Poly" 426)), (some (.str "Poly" 434)), (some (.builtin "object.__new__")), (some (.bool true))].toArray⟩),
(352,oFldT "getset_descriptor" [(.str "__dict__" 637), (vr 351), (.builtin "function.__dict__"), (.builtin "function.__dict__#set")]),
(353,oFldT "getset_descriptor" [(.str "__weakref__" 639), (vr 351), (.builtin "ExceptionGroup.__weakref__"), .none]),
(354,oFldT "super" [(vr 351), (vr 351), (vr 351)]),
(355,oFldT "builtin_function_or_method" [(.builtin "object.__init_subclass__"), (vr 351)]),
(356,oTup []),
(357,oFld []),
(358,oTup [(.str "_law_script" 650), (.str "_law_mixed" 651), (.str "_law_cell" 652)]),
(359,oTup []),
(360,oFn0 "_law_bag" "_law_bag" (top 22)),
(361,oCd [(.str "_law_bag" 647), (.str "_law_bag" 648), (vc 649), (vi 180), (vi 1), (vi 0), (vi 0), (vi 3), (vr 356), (.bool true), (vi 181), (vr 357), .none, (vr 358), (vr 359), (vr 360), (vi 653), (vi 180), (vc 654)]),
(362,oFn3 "_law_bag" "_law_bag" (top 22) "law_nearspokes_k05_polys_made_and_refused" 645 361),
(363,oTup []),
(364,oFld []),
(365,oTup [(.str "_law_bag_here" 659), (.str "_law_many" 660), (.str "_law_cell" 661), (.str "_law_digit" 662), (.str "_law_seed" 663)]),
(366,oTup []),
(367,oFn0 "_law_pull" "_law_pull" (top 23)),
(368,oCd [(.str "_law_pull" 656), (.str "_law_pull" 657), (vc 658), (vi 185), (vi 2), (vi 0), (vi 0), (vi 3), (vr 363), (.bool true), (vi 181), (vr 364), .none, (vr 365), (vr 366), (vr 367), (vi 664), (vi 185), (vc 665)]),
(369,oFn3 "_law_pull" "_law_pull" (top 23) "law_nearspokes_k05_polys_made_and_refused" 645 368),
(370,oTup []),
(371,oFld [])]
def obS1_9 (P : Params) : List (Nat × Obj) := [(372,oTup [(.str "_law_bag_here" 670), (.str "_law_some" 671)]),
(373,oTup []),
(374,oFn0 "_law_of" "_law_of" (top 24)),
(375,oCd [(.str "_law_of" 667), (.str "_law_of" 668), (vc 669), (vi 201), (vi 2), (vi 0), (vi 0), (vi 3), (vr 370), (.bool true), (vi 181), (vr 371), .none, (vr 372), (vr 373), (vr 374), (vi 672), (vi 201), (vc 673)]),
(376,oFn3 "_law_of" "_law_of" (top 24) "law_nearspokes_k05_polys_made_and_refused" 645 375),
(377,oTup []),
(378,oFld []),
(379,oFn0 "_law_same" "_law_same" (top 25)),
(380,oCd [(.str "_law_same" 675), (.str "_law_same" 676), (vc 677), (vi 203), (vi 2), (vi 0), (vi 0), (vi 3), (vr 377), (.bool true), (vi 181), (vr 378), .none, .none, .none, (vr 379), (vi 678), (vi 203), (vc 679)]),
(381,oFn3 "_law_same" "_law_same" (top 25) "law_nearspokes_k05_polys_made_and_refused" 645 380),
(382,oTup []),
(383,oFld []),
(384,oTup [(.str "_law_e" 684)]),
(385,oTup []),
(386,oFn0 "_law_field" "_law_field" (top 26)),
(387,oCd [(.str "_law_field" 681), (.str "_law_field" 682), (vc 683), (vi 213), (vi 1), (vi 0), (vi 0), (vi 3), (vr 382), (.bool true), (vi 181), (vr 383), .none, (vr 384), (vr 385), (vr 386), (vi 685), (vi 213), (vc 686)]),
(388,oFn3 "_law_field" "_law_field" (top 26) "law_nearspokes_k05_polys_made_and_refused" 645 387),
(389,oTup []),
(390,oFld []),
(391,oTup [(.str "_law_ask" 691), (.str "_law_e" 692)]),
(392,oTup []),
(393,oFn0 "_law_try" "_law_try" (top 27)),
(394,oCd [(.str "_law_try" 688), (.str "_law_try" 689), (vc 690), (vi 227), (vi 1), (vi 0), (vi 0), (vi 3), (vr 389), (.bool true), (vi 181), (vr 390), .none, (vr 391), (vr 392), (vr 393), (vi 693), (vi 227), (vc 694)]),
(395,oFn3 "_law_try" "_law_try" (top 27) "law_nearspokes_k05_polys_made_and_refused" 645 394),
(396,oTup []),
(397,oFld []),
(398,oFn0 "_law_tries" "_law_tries" (top 28)),
(399,oCd [(.str "_law_tries" 696), (.str "_law_tries" 697), (vc 698), (vi 232), (vi 1), (vi 0), (vi 0), (vi 3), (vr 396), (.bool true), (vi 181), (vr 397), .none, .none, .none, (vr 398), (vi 699), (vi 232), (vc 700)]),
(400,oFn3 "_law_tries" "_law_tries" (top 28) "law_nearspokes_k05_polys_made_and_refused" 645 399),
(401,oTup []),
(402,oFld []),
(403,oFn0 "_law_gathered" "_law_gathered" (top 29)),
(404,oCd [(.str "_law_gathered" 702), (.str "_law_gathered" 703), (vc 704), (vi 234), (vi 1), (vi 0), (vi 0), (vi 3), (vr 401), (.bool true), (vi 181), (vr 402), .none, .none, .none, (vr 403), (vi 705), (vi 234), (vc 706)]),
(405,oFn3 "_law_gathered" "_law_gathered" (top 29) "law_nearspokes_k05_polys_made_and_refused" 645 404),
(406,oTup []),
(407,oFld []),
(408,oFn0 "_law_degree" "_law_degree" (top 30)),
(409,oCd [(.str "_law_degree" 708), (.str "_law_degree" 709), (vc 710), (vi 239), (vi 1), (vi 0), (vi 0), (vi 3), (vr 406), (.bool true), (vi 181), (vr 407), .none, .none, .none, (vr 408), (vi 711), (vi 239), (vc 712)]),
(410,oFn3 "_law_degree" "_law_degree" (top 30) "law_nearspokes_k05_polys_made_and_refused" 645 409),
(411,oTup [])]
def obS1_10 (P : Params) : List (Nat × Obj) := [(412,oFld []),
(413,oTup [(.str "_law_letter" 717), (.str "_law_power" 718)]),
(414,oTup []),
(415,oFn0 "_law_letter_text" "_law_letter_text" (top 31)),
(416,oCd [(.str "_law_letter_text" 714), (.str "_law_letter_text" 715), (vc 716), (vi 241), (vi 2), (vi 0), (vi 0), (vi 3), (vr 411), (.bool true), (vi 181), (vr 412), .none, (vr 413), (vr 414), (vr 415), (vi 719), (vi 241), (vc 720)]),
(417,oFn3 "_law_letter_text" "_law_letter_text" (top 31) "law_nearspokes_k05_polys_made_and_refused" 645 416),
(418,oTup []),
(419,oFld []),
(420,oTup [(.str "_law_terms_z" 725), (.str "_law_found" 726), (.str "_law_i" 727), (.str "_law_j" 728), (.str "_law_worth_z" 729), (.str "_law_words" 730), (.str "_law_sign_z" 731)]),
(421,oTup []),
(422,oFn0 "_law_poly_text" "_law_poly_text" (top 32)),
(423,oCd [(.str "_law_poly_text" 722), (.str "_law_poly_text" 723), (vc 724), (vi 243), (vi 1), (vi 0), (vi 0), (vi 3), (vr 418), (.bool true), (vi 181), (vr 419), .none, (vr 420), (vr 421), (vr 422), (vi 732), (vi 243), (vc 733)]),
(424,oFn3 "_law_poly_text" "_law_poly_text" (top 32) "law_nearspokes_k05_polys_made_and_refused" 645 423),
(425,oTup []),
(426,oFld []),
(427,oFn0 "law" "law" (top 33)),
(428,oCd [(.str "law" 735), (.str "law" 736), (vc 737), (vi 254), (vi 1), (vi 0), (vi 0), (vi 3), (vr 425), (.bool true), (vi 181), (vr 426), .none, .none, .none, (vr 427), (vi 738), (vi 254), (vc 739)]),
(429,oFn3 "law" "law" (top 33) "law_nearspokes_k05_polys_made_and_refused" 645 428)]
def trS1 (P : Params) : BT := insAll (obS1_10 P) (insAll (obS1_9 P) (insAll (obS1_8 P) (insAll (obS1_7 P) (insAll (obS1_6 P) (insAll (obS1_5 P) (insAll (obS1_4 P) (insAll (obS1_3 P) (insAll (obS1_2 P) (insAll (obS1_1 P) (insAll (obS1_0 P) (trA P)))))))))))
def stS1 (w : World) : SharedT := ⟨trS1 w.params, 430, life0, #[], ⟨0, 0, 0, 0⟩, 741, os0⟩
def stF (w : World) : SharedT := ⟨trS1 w.params, 430, life0, #[], ⟨0, 0, 0, 0⟩, 741, os0⟩
def l1 : List Stmt := (bdy.drop 0).take 34
def Opn (w : World) : Prop := openF (fun q => stepQ (denQ tabQ) q w) fenceQ 40000 RR0.prog = some (stX w, ann0)
set_option maxHeartbeats 0 in
theorem Opn_0 (w : World) : Opn w := by
  unfold Opn
  kernel_rfl
def Pre (w : World) : Prop := goK (stepQ (denQ tabQ) RR0.prog w) 11 ann0 12 (stX w) (topStub RR0.prog) = some (stA w, ⟨denQ tabQ cd0, cd0, ⟨0, 0, 0, 0⟩, [topFrame q0]⟩)
set_option maxHeartbeats 0 in
theorem Pre_0 (w : World) : Pre w := by
  unfold Pre
  kernel_rfl
def Blk (w : World) : Prop := segF (stepQ (denQ tabQ) RR0.prog w) 11 ann0 1 (stA w) (blockOfQ bdy env0 cd0 ⟨0, 0, 0, 0⟩ [topFrame q0]) = some (.next, stB w, cd0, ⟨0, 0, 0, 0⟩)
set_option maxHeartbeats 0 in
theorem Blk_0 (w : World) : Blk w := by
  unfold Blk
  kernel_rfl
def Sg1 (w : World) : Prop := segF (stepQ (denQ tabQ) RR0.prog w) 11 ann0 3273 (stB w) (piecesQ l1 env0 cd0 ⟨0, 0, 0, 0⟩ [topFrame q0]) = some (.next, stS1 w, cd0, ⟨254, 0, 295, 119⟩)
set_option maxHeartbeats 0 in
theorem Sg1_0 (w : World) : Sg1 w := by
  unfold Sg1
  kernel_rfl
def Fin (w : World) : Prop := goF (stepQ (denQ tabQ) RR0.prog w) 11 ann0 5 (stS1 w) ⟨doneF .next, cd0, ⟨254, 0, 295, 119⟩, [topFrame q0]⟩ = some (stF w)
set_option maxHeartbeats 0 in
theorem Fin_0 (w : World) : Fin w := by
  unfold Fin
  kernel_rfl
theorem bdy_eq : bdy = l1 ++ [] := by kernel_rfl
theorem run_of (w : World) (hX : Opn w) (hA : Pre w) (hB : Blk w) (h1 : Sg1 w) (hF : Fin w) : fencedOpening treeTable RR0.prog w 40000 = some (stX w).abs ∧ ((stX w).abs.heap.isNs mainGlobals && (stX w).abs.gens.size == 0) = true ∧ topRun treeTable RR0.prog w (stX w).abs.heap.objs.size ((stX w).abs.heap.nsMap mainGlobals "__annotations__") 40000 (stX w).abs (topStub RR0.prog) = some (stF w).abs := by
  obtain ⟨a, b, c, d⟩ := openF_ok (opn_of hX)
  refine ⟨a, b, ?_⟩
  rw [c, d]
  have z0 : topRun treeTable RR0.prog w 11 ann0 ((3273 + 5)) (stB w).abs (restOf (l1 ++ []) env0 cd0 ⟨0, 0, 0, 0⟩ [topFrame q0]) = some (stF w).abs := (piece_app (seg_of h1) (piece_nil (fin_of hF)))
  have z : topRun treeTable RR0.prog w 11 ann0 (12 + (1 + (3273 + 5))) (stX w).abs (topStub RR0.prog) = some (stF w).abs := go_top (pre_of hA) (piece_block (blk_of hB) (by rw [bdy_eq] ; exact z0))
  exact topRun_mono 36709 _ _ _ _ z
end
end Seg
end T05
namespace DL
open PySem L2
/-- a lambda without parameters, or with one whose default is 0: its words, its parameters, the names that it captures -/
structure LamF where
  params : Arguments
  body : Expr
  scope : Scope
  qual : Str
  ps : List Str
  fr : List Str
/-- a value as a whole: what can be seen of it; fnv: a lambda of the running def, cl its cells; clo: a lambda and what its cells hold; tab: a table of code objects; ptr: a thing of the ledger, a def, a class; kt: a tuple of ints and texts that may be a dict's key -/
inductive D where
  | non | bl (b : Bool) | int (i : Int) | str (x : Str)
  | lst (xs : List D) | tup (xs : List D) | ro (xs : List D)
  | dk (ks : List Key) (vs : List D) | dt (ks : List (List Key)) (vs : List D)
  | obj (C : Addr) (ns : List Str) (vs : List D)
  | exc (C : Addr) (ns : List Str) (vs : List D)
  | fnv (F : LamF) (cl : List (Str × Addr))
  | clo (F : LamF) (ds : List D)
  | tab (q : Str)
  | ptr (a : Addr) | ty (n : String) | kt (ks : List Key)
/-- mutable things, by address -/
abbrev Led := List (Addr × D)
def inL (L : Led) (a : Addr) : Prop := a ∈ L.map (·.1)
def SqL' (L : Led) (K : PySem.W.Frag) (H : Hp) (a : Addr) (xs : List V) : Prop :=
  (¬ inL L a ∧ Rd H a (.lst xs)) ∨
    ∃ (o : Obj) (its : Array Value) (n : Nat), K.lookup a = some o ∧ o.cls = .type "list" ∧ o.dict = none ∧ o.data = .seq its n ∧ its.size ≤ sizeLine ∧ Vals xs its.toList
def SqT' (L : Led) (K : PySem.W.Frag) (H : Hp) (a : Addr) (xs : List V) : Prop :=
  (¬ inL L a ∧ Rd H a (.tup xs)) ∨
    ∃ (o : Obj) (its : Array Value) (n : Nat), K.lookup a = some o ∧ o.cls = .type "tuple" ∧ o.data = .seq its n ∧ its.size ≤ sizeLine ∧ Vals xs its.toList
theorem SqL'.sq {L K H a xs} (h : SqL' L K H a xs) : SqL K H a xs := h.elim (fun z => .inl z.2) .inr
theorem SqT'.sq {L K H a xs} (h : SqT' L K H a xs) : SqT K H a xs := h.elim (fun z => .inl z.2) .inr
/-- an error of the class at C stands at a, its own dict at d -/
def ExcAt (h : Heap) (a C d : Addr) : Prop := ∃ (oe : Obj) (vs : Array Value), h.get? a = some oe ∧ oe.cls = .ref C ∧ oe.dict = some d ∧ oe.data = .fields vs
def XDict (H : Hp) (d : Addr) (fs : List (Str × V)) : Prop := H d = some (.xd fs) ∨ H d = some (exd d fs)
/-- the object at f is the lambda F with the cells cl, the defaults dV, the code object at c -/
def LamO (f : Addr) (F : LamF) (cl : List (Str × Addr)) (dV : Value) (c : Addr) : HO := .ext fun h => ∃ (od : Option Addr) (sl : Array (Option Value)) (doc pm ctv : Value), h.get? f = some (⟨.type "function", od, .func (PySem.W.kdv_fn "<lambda>" F.qual F.params (.expr F.body) F.scope cl dV doc pm (.ref c) ctv), sl⟩ : Obj)
def DvAt (L : Led) (H : Hp) (n : Nat) (dV : Value) : Prop := (n = 0 ∧ dV = .none) ∨ (n ≠ 0 ∧ ∃ t, dV = .ref t ∧ ¬ inL L t ∧ H t = some (.tup (List.replicate n (.int 0))))
structure FnvAt (L : Led) (H : Hp) (f : Addr) (F : LamF) (cl : List (Str × Addr)) : Prop where
  nf : ¬ inL L f
  ex : ∃ (c : Addr) (dV : Value), H f = some (LamO f F cl dV c) ∧ ¬ inL L c ∧ H c = some (LamX.CodeO c F.qual) ∧ DvAt L H F.ps.length dV
/-- a cell that is known to the object -/
abbrev celO (o : Obj) : HO := .frz o (.own 0)
/-- .. and its cells are known: they hold vs -/
structure CloAt (L : Led) (H : Hp) (f : Addr) (F : LamF) (vs : List V) : Prop where
  ex : ∃ cl : List (Str × Addr), FnvAt L H f F cl ∧ vs.length = F.fr.length ∧ (∀ x y c, cl.lookup x = some c → cl.lookup y = some c → x = y) ∧ (∀ y c, cl.lookup y = some c → y ∈ F.fr) ∧
    ∀ (i : Nat) (y : Str), F.fr[i]? = some y → ∃ (cc : Addr) (oc : Obj) (u : Value) (v : V), cl.lookup y = some cc ∧ ¬ inL L cc ∧ H cc = some (celO oc) ∧ oc.data = .cell (some u) ∧ vs[i]? = some v ∧ RelV v u
mutual
inductive Rp (L : Led) (K : PySem.W.Frag) (H : Hp) : V → D → Prop
  | non : Rp L K H .non .non
  | bl (b : Bool) : Rp L K H (.bl b) (.bl b)
  | int (i : Int) : Rp L K H (.int i) (.int i)
  | str (x : Str) : Rp L K H (.str x) (.str x)
  | ty (n : String) : Rp L K H (.ty n) (.ty n)
  | ptr (a : Addr) : Rp L K H (.ref a) (.ptr a)
  | lst {a : Addr} {xs : List V} {ds : List D} : ¬ inL L a → H a = some (.lst xs) → RpAll L K H xs ds → Rp L K H (.ref a) (.lst ds)
  | ro {a : Addr} {xs : List V} {ds : List D} : SqL' L K H a xs → RpAll L K H xs ds → Rp L K H (.ref a) (.ro ds)
  | tup {a : Addr} {xs : List V} {ds : List D} : SqT' L K H a xs → RpAll L K H xs ds → Rp L K H (.ref a) (.tup ds)
  | dk {a : Addr} {ks : List Key} {xs : List V} {ds : List D} : ¬ inL L a → Rd H a (.dK (ks.zip xs)) → ks.length = xs.length → RpAll L K H xs ds → Rp L K H (.ref a) (.dk ks ds)
  | dt {a : Addr} {ks : List (List Key)} {xs : List V} {ds : List D} : ¬ inL L a → Rd H a (.dT (ks.zip xs)) → ks.length = xs.length → RpAll L K H xs ds → Rp L K H (.ref a) (.dt ks ds)
  | obj {a C dx : Addr} {ns : List Str} {xs : List V} {ds : List D} : ¬ inL L a → H a = some (.ins C dx (ns.zip xs)) → ns.length = xs.length → RpAll L K H xs ds → Rp L K H (.ref a) (.obj C ns ds)
  | exc {a C d : Addr} {φ : Heap → Prop} {ns : List Str} {xs : List V} {ds : List D} : ¬ inL L a → ¬ inL L d → H a = some (.ext φ) → (∀ h, φ h → ExcAt h a C d) → XDict H d (ns.zip xs) → ns.length = xs.length → RpAll L K H xs ds → Rp L K H (.ref a) (.exc C ns ds)
  | fnv {f : Addr} {F : LamF} {cl : List (Str × Addr)} : FnvAt L H f F cl → Rp L K H (.ref f) (.fnv F cl)
  | clo {f : Addr} {F : LamF} {xs : List V} {ds : List D} : CloAt L H f F xs → RpAll L K H xs ds → Rp L K H (.ref f) (.clo F ds)
  | kt {a : Addr} {ks : List Key} : ¬ inL L a → H a = some (.tup (ks.map kV)) → Rp L K H (.ref a) (.kt ks)
inductive RpAll (L : Led) (K : PySem.W.Frag) (H : Hp) : List V → List D → Prop
  | nil : RpAll L K H [] []
  | cons {v : V} {vs : List V} {d : D} {ds : List D} : Rp L K H v d → RpAll L K H vs ds → RpAll L K H (v :: vs) (d :: ds)
end
/-- a dict's content -/
def dicO : HO → Bool
  | .dK _ => true
  | .dT _ => true
  | _ => false
/-- o stands there, or o locked, if it is a dict -/
def GoO (o : HO) (r : Option HO) : Prop := r = some o ∨ (dicO o = true ∧ ∃ ob, r = some (.frz ob o))
theorem GoO.ex {o : HO} {r : Option HO} (g : GoO o r) (h : dicO o = false) : r = some o := g.elim id fun z => by rw [h] at z; cases z.1
/-- from (L, H) to (L', H'): what is not of the ledger stands (a dict may be locked meanwhile) -/
def Go (L L' : Led) (H H' : Hp) : Prop := ∀ a o, ¬ inL L a → H a = some o → ¬ inL L' a ∧ GoO o (H' a)
theorem Go.refl (L : Led) (H : Hp) : Go L L H H := fun _ _ n h => ⟨n, .inl h⟩
theorem Go.mk' {L L' : Led} {H H' : Hp} (h : ∀ a o, ¬ inL L a → H a = some o → ¬ inL L' a ∧ H' a = some o) : Go L L' H H' := fun a o n e => ⟨(h a o n e).1, .inl (h a o n e).2⟩
theorem Go.at' {L L' : Led} {H H' : Hp} (g : Go L L' H H') {a : Addr} {o : HO} (n : ¬ inL L a) (h : H a = some o) (hd : dicO o = false := by rfl) : ¬ inL L' a ∧ H' a = some o := ⟨(g a o n h).1, (g a o n h).2.ex hd⟩
theorem Go.trans {L L1 L2 : Led} {H H1 H2 : Hp} (a : Go L L1 H H1) (b : Go L1 L2 H1 H2) : Go L L2 H H2 := fun x o n h => by
  obtain ⟨n1, h1⟩ := a x o n h
  rcases h1 with h1 | ⟨hd, ob, h1⟩
  · exact b x o n1 h1
  · obtain ⟨n2, h2⟩ := b.at' n1 h1
    exact ⟨n2, .inr ⟨hd, ob, h2⟩⟩
theorem Go.same {L : Led} {H H' : Hp} (s : Same H H') : Go L L H H' := .mk' fun a o n h => ⟨n, s a o h⟩
theorem Go.rd {L L' : Led} {H H' : Hp} {a : Addr} {u : HO} (g : Go L L' H H') (n : ¬ inL L a) (h : Rd H a u) : ¬ inL L' a ∧ Rd H' a u := by
  rcases h with h | ⟨o, h⟩
  · exact ⟨(g a _ n h).1, (g a _ n h).2.elim .inl fun z => .inr z.2⟩
  · exact ⟨(g a _ n h).1, .inr ⟨o, (g.at' n h).2⟩⟩
theorem Go.sqL {L L' K H H' a xs} (g : Go L L' H H') (h : SqL' L K H a xs) : SqL' L' K H' a xs := h.elim (fun z => .inl (g.rd z.1 z.2)) .inr
theorem Go.sqT {L L' K H H' a xs} (g : Go L L' H H') (h : SqT' L K H a xs) : SqT' L' K H' a xs := h.elim (fun z => .inl (g.rd z.1 z.2)) .inr
theorem Go.xdict {L L' : Led} {H H' : Hp} {d : Addr} {fs : List (Str × V)} (g : Go L L' H H') (n : ¬ inL L d) (h : XDict H d fs) : ¬ inL L' d ∧ XDict H' d fs := by
  rcases h with h | h
  · exact ⟨(g d _ n h).1, .inl (g.at' n h).2⟩
  · exact ⟨(g d _ n h).1, .inr (g.at' n h).2⟩
theorem Go.fnv {L L' : Led} {H H' : Hp} {f : Addr} {F : LamF} {cl : List (Str × Addr)} (g : Go L L' H H') (h : FnvAt L H f F cl) : FnvAt L' H' f F cl := by
  obtain ⟨nf, c, dV, h1, n2, h2, h3⟩ := h
  refine ⟨(g _ _ nf h1).1, c, dV, (g.at' nf h1).2, (g _ _ n2 h2).1, (g.at' n2 h2).2, ?_⟩
  rcases h3 with h3 | ⟨z, t, e, n, h3⟩
  · exact .inl h3
  · exact .inr ⟨z, t, e, (g _ _ n h3).1, (g.at' n h3).2⟩
theorem Go.clo {L L' : Led} {H H' : Hp} {f : Addr} {F : LamF} {vs : List V} (g : Go L L' H H') (h : CloAt L H f F vs) : CloAt L' H' f F vs := by
  obtain ⟨cl, h1, h2, h3, h4, h5⟩ := h
  refine ⟨cl, g.fnv h1, h2, h3, h4, fun i y e => ?_⟩
  obtain ⟨cc, oc, u, v, q1, n, q2, q3⟩ := h5 i y e
  exact ⟨cc, oc, u, v, q1, (g _ _ n q2).1, (g.at' n q2).2, q3⟩
mutual
theorem Rp.go {L L' : Led} {K : PySem.W.Frag} {H H' : Hp} (g : Go L L' H H') : ∀ {v : V} {d : D}, Rp L K H v d → Rp L' K H' v d
  | _, _, .non => .non
  | _, _, .bl b => .bl b
  | _, _, .int i => .int i
  | _, _, .str x => .str x
  | _, _, .ty n => .ty n
  | _, _, .ptr a => .ptr a
  | _, _, .lst n h r => .lst (g _ _ n h).1 (g.at' n h).2 (RpAll.go g r)
  | _, _, .ro s r => .ro (g.sqL s) (RpAll.go g r)
  | _, _, .tup s r => .tup (g.sqT s) (RpAll.go g r)
  | _, _, .dk n h e r => .dk (g.rd n h).1 (g.rd n h).2 e (RpAll.go g r)
  | _, _, .dt n h e r => .dt (g.rd n h).1 (g.rd n h).2 e (RpAll.go g r)
  | _, _, .obj n h e r => .obj (g _ _ n h).1 (g.at' n h).2 e (RpAll.go g r)
  | _, _, .exc n m h p x e r => .exc (g _ _ n h).1 (g.xdict m x).1 (g.at' n h).2 p (g.xdict m x).2 e (RpAll.go g r)
  | _, _, .fnv h => .fnv (g.fnv h)
  | _, _, .clo h r => .clo (g.clo h) (RpAll.go g r)
  | _, _, .kt n h => .kt (g _ _ n h).1 (g.at' n h).2
theorem RpAll.go {L L' : Led} {K : PySem.W.Frag} {H H' : Hp} (g : Go L L' H H') : ∀ {vs : List V} {ds : List D}, RpAll L K H vs ds → RpAll L' K H' vs ds
  | _, _, .nil => .nil
  | _, _, .cons h r => .cons (Rp.go g h) (RpAll.go g r)
end
section
variable {L : Led} {K : PySem.W.Frag} {H : Hp}
theorem RpAll.length : ∀ {vs : List V} {ds : List D}, RpAll L K H vs ds → vs.length = ds.length
  | _, _, .nil => rfl
  | _, _, .cons _ r => by rw [List.length_cons, List.length_cons, RpAll.length r]
theorem RpAll.get : ∀ {vs : List V} {ds : List D} {i : Nat} {d : D}, RpAll L K H vs ds → ds[i]? = some d → ∃ v, vs[i]? = some v ∧ Rp L K H v d
  | _, _, _, _, .nil, e => by simp at e
  | _, _, 0, _, .cons h _, e => by simp at e; subst e; exact ⟨_, rfl, h⟩
  | _, _, i + 1, d, .cons _ r, e => by
    obtain ⟨v, e1, h⟩ := RpAll.get (i := i) (d := d) r (by simpa using e)
    exact ⟨v, by simpa using e1, h⟩
theorem RpAll.append : ∀ {vs ws : List V} {ds es : List D}, RpAll L K H vs ds → RpAll L K H ws es → RpAll L K H (vs ++ ws) (ds ++ es)
  | _, _, _, _, .nil, s => s
  | _, _, _, _, .cons h r, s => .cons h (RpAll.append r s)
theorem RpAll.take : ∀ {vs : List V} {ds : List D} (n : Nat), RpAll L K H vs ds → RpAll L K H (vs.take n) (ds.take n)
  | _, _, 0, _ => .nil
  | _, _, _ + 1, .nil => .nil
  | _, _, n + 1, .cons h r => .cons h (RpAll.take n r)
theorem RpAll.drop : ∀ {vs : List V} {ds : List D} (n : Nat), RpAll L K H vs ds → RpAll L K H (vs.drop n) (ds.drop n)
  | _, _, 0, h => h
  | _, _, _ + 1, .nil => .nil
  | _, _, n + 1, .cons _ r => RpAll.drop n r
theorem RpAll.set {v : V} {d : D} (h : Rp L K H v d) : ∀ {vs : List V} {ds : List D} (i : Nat), RpAll L K H vs ds → RpAll L K H (vs.set i v) (ds.set i d)
  | _, _, _, .nil => .nil
  | _, _, 0, .cons _ r => .cons h r
  | _, _, i + 1, .cons a r => .cons a (RpAll.set h i r)
theorem RpAll.ints : ∀ (ns : List Int), RpAll L K H (ns.map V.int) (ns.map D.int)
  | [] => .nil
  | n :: r => .cons (.int n) (RpAll.ints r)
theorem RpAll.ofInts : ∀ {vs : List V} (ns : List Int), RpAll L K H vs (ns.map D.int) → vs = ns.map V.int
  | _, [], .nil => rfl
  | _, _ :: r, .cons h t => by cases h; rw [RpAll.ofInts r t]; rfl
theorem RpAll.ofBls : ∀ {vs : List V} (ns : List Bool), RpAll L K H vs (ns.map D.bl) → vs = ns.map V.bl
  | _, [], .nil => rfl
  | _, _ :: r, .cons h t => by cases h; rw [RpAll.ofBls r t]; rfl
theorem RpAll.ofStrs : ∀ {vs : List V} (ns : List Str), RpAll L K H vs (ns.map D.str) → vs = ns.map V.str
  | _, [], .nil => rfl
  | _, _ :: r, .cons h t => by cases h; rw [RpAll.ofStrs r t]; rfl
end
/-- what stands at a, of the ledger -/
def Own (L : Led) (K : PySem.W.Frag) (H : Hp) (a : Addr) : D → Prop
  | .lst ds => ∃ vs, H a = some (.lst vs) ∧ RpAll L K H vs ds
  | .dk ks ds => ∃ vs, H a = some (.dK (ks.zip vs)) ∧ ks.length = vs.length ∧ RpAll L K H vs ds
  | .dt ks ds => ∃ vs, H a = some (.dT (ks.zip vs)) ∧ ks.length = vs.length ∧ RpAll L K H vs ds
  | .obj C ns ds => ∃ dx vs, H a = some (.ins C dx (ns.zip vs)) ∧ ns.length = vs.length ∧ RpAll L K H vs ds
  | .tab q => ∃ ps : Array Value, H a = some (.tbl ps) ∧ TriplesOk ps.toList ∧ ∀ (pos : Pos) (cv : Value), codeAmong pos ps.toList = some cv → ∃ c, cv = .ref c ∧ ¬ inL L c ∧ H c = some (LamX.CodeO c q)
  | _ => False
structure JL (K : PySem.W.Frag) (L : Led) (H : Hp) : Prop where
  nd : (L.map (·.1)).Nodup
  own : ∀ a d, (a, d) ∈ L → Own L K H a d
section
variable {L L' : Led} {K : PySem.W.Frag} {H H' : Hp} {a p : Addr} {d : D}
theorem Own.there (h : Own L K H a d) : ∃ o, H a = some o := by
  cases d with
  | lst ds => exact ⟨_, h.choose_spec.1⟩
  | dk ks ds => exact ⟨_, h.choose_spec.1⟩
  | dt ks ds => exact ⟨_, h.choose_spec.1⟩
  | obj C ns ds => obtain ⟨dx, vs, e, _⟩ := h; exact ⟨_, e⟩
  | tab q => obtain ⟨ps, e, _⟩ := h; exact ⟨_, e⟩
  | _ => exact h.elim
theorem Own.move (h : Own L K H a d) (g : Go L L' H H') (e : ∀ o, H a = some o → H' a = some o) : Own L' K H' a d := by
  cases d with
  | lst ds => obtain ⟨vs, h1, h2⟩ := h; exact ⟨vs, e _ h1, h2.go g⟩
  | dk ks ds => obtain ⟨vs, h1, h3, h2⟩ := h; exact ⟨vs, e _ h1, h3, h2.go g⟩
  | dt ks ds => obtain ⟨vs, h1, h3, h2⟩ := h; exact ⟨vs, e _ h1, h3, h2.go g⟩
  | obj C ns ds => obtain ⟨dx, vs, h1, h3, h2⟩ := h; exact ⟨dx, vs, e _ h1, h3, h2.go g⟩
  | tab q =>
    obtain ⟨ps, h1, h2, h3⟩ := h
    refine ⟨ps, e _ h1, h2, fun pos cv hc => ?_⟩
    obtain ⟨c, q1, n, q2⟩ := h3 pos cv hc
    exact ⟨c, q1, (g _ _ n q2).1, (g.at' n q2).2⟩
  | _ => exact h.elim
theorem JL.same (j : JL K L H) (s : Same H H') : JL K L H' := ⟨j.nd, fun a d m => Own.move (j.own a d m) (Go.same s) fun o e => s a o e⟩
theorem JL.notIn (j : JL K L H) (h : H p = none) : ¬ inL L p := fun m => by
  obtain ⟨q, hq, e⟩ := List.mem_map.mp m
  obtain ⟨o, ho⟩ := Own.there (j.own q.1 q.2 hq)
  rw [e, h] at ho
  cases ho
theorem mem_of_lookup : ∀ {L : Led} {a : Addr} {d : D}, L.lookup a = some d → (a, d) ∈ L
  | [], _, _, h => by simp at h
  | (b, e) :: r, a, d, h => by
    by_cases hb : a = b
    · subst hb
      rw [List.lookup_cons_self] at h
      cases h
      exact List.mem_cons_self
    · have q : (a == b) = false := by simpa using hb
      rw [List.lookup_cons, q] at h
      exact List.mem_cons_of_mem _ (mem_of_lookup h)
theorem JL.look (j : JL K L H) (h : L.lookup a = some d) : Own L K H a d := j.own a d (mem_of_lookup h)
/-- what a datum holds, through the ledger -/
def kD : Key → D
  | .inl i => .int i
  | .inr x => .str x
def con (L : Led) : D → D
  | .ptr a => (L.lookup a).getD (.ptr a)
  | .kt ks => .tup (ks.map kD)
  | d => d
theorem con_lst {v : V} {ds : List D} (j : JL K L H) (r : Rp L K H v d) (e : con L d = .lst ds) : ∃ a vs, v = .ref a ∧ H a = some (.lst vs) ∧ RpAll L K H vs ds := by
  cases d with
  | ptr a =>
    cases r
    have e : (L.lookup a).getD (.ptr a) = _ := e
    cases h : L.lookup a with
    | none => rw [h] at e; cases e
    | some c =>
      rw [h] at e
      have e2 : c = .lst ds := e
      subst e2
      obtain ⟨vs, h1, h2⟩ := j.look h
      exact ⟨a, vs, rfl, h1, h2⟩
  | lst xs =>
    have e2 : xs = ds := by unfold con at e; injection e
    subst e2
    cases r with
    | lst n h r => exact ⟨_, _, rfl, h, r⟩
  | _ => cases e
theorem RpAll.keys : ∀ ks : List Key, RpAll L K H (ks.map kV) (ks.map kD)
  | [] => .nil
  | .inl i :: r => .cons (.int i) (RpAll.keys r)
  | .inr x :: r => .cons (.str x) (RpAll.keys r)
theorem con_tup {v : V} {ds : List D} (j : JL K L H) (r : Rp L K H v d) (e : con L d = .tup ds) : ∃ a vs, v = .ref a ∧ SqT K H a vs ∧ RpAll L K H vs ds := by
  cases d with
  | ptr a =>
    cases r
    have e : (L.lookup a).getD (.ptr a) = _ := e
    cases h : L.lookup a with
    | none => rw [h] at e; cases e
    | some c =>
      rw [h] at e
      have e2 : c = .tup ds := e
      subst e2
      exact (j.look h).elim
  | tup xs =>
    have e2 : xs = ds := by unfold con at e; injection e
    subst e2
    cases r with
    | tup s r => exact ⟨_, _, rfl, s.sq, r⟩
  | kt ks =>
    have e2 : ks.map kD = ds := by unfold con at e; injection e
    subst e2
    cases r with
    | kt n h => exact ⟨_, _, rfl, .inl (.inl h), RpAll.keys ks⟩
  | _ => cases e
/-- .. as a tuple -/
theorem con_tupR {v : V} {ds : List D} (j : JL K L H) (r : Rp L K H v d) (e : con L d = .tup ds) : Rp L K H v (.tup ds) := by
  cases d with
  | ptr a =>
    have e : (L.lookup a).getD (.ptr a) = _ := e
    cases h : L.lookup a with
    | none => rw [h] at e; cases e
    | some c =>
      rw [h] at e
      have e2 : c = .tup ds := e
      subst e2
      exact (j.look h).elim
  | kt ks =>
    have e2 : ks.map kD = ds := by unfold con at e; injection e
    subst e2
    cases r with
    | kt n h => exact .tup (.inl ⟨n, .inl h⟩) (RpAll.keys ks)
  | tup xs =>
    have e2 : xs = ds := by unfold con at e; injection e
    subst e2
    exact r
  | _ => cases e
/-- the items of a list or tuple that may be read -/
def seqs : D → Option (List D)
  | .lst ds => some ds
  | .ro ds => some ds
  | .tup ds => some ds
  | _ => none
theorem con_ro {v : V} {ds : List D} (j : JL K L H) (r : Rp L K H v d) (e : con L d = .ro ds) : ∃ a vs, v = .ref a ∧ SqL K H a vs ∧ RpAll L K H vs ds := by
  cases d with
  | ptr a =>
    cases r
    have e : (L.lookup a).getD (.ptr a) = _ := e
    cases h : L.lookup a with
    | none => rw [h] at e; cases e
    | some c =>
      rw [h] at e
      have e2 : c = .ro ds := e
      subst e2
      exact (j.look h).elim
  | ro xs =>
    have e2 : xs = ds := by unfold con at e; injection e
    subst e2
    cases r with
    | ro s r => exact ⟨_, _, rfl, s.sq, r⟩
  | _ => cases e
theorem con_seq {v : V} {ds : List D} (j : JL K L H) (r : Rp L K H v d) (e : seqs (con L d) = some ds) : ∃ a vs, v = .ref a ∧ (SqL K H a vs ∨ SqT K H a vs) ∧ RpAll L K H vs ds := by
  cases h : con L d with
  | lst xs =>
    rw [h] at e; cases e
    obtain ⟨a, vs, h1, h2, h3⟩ := con_lst j r h
    exact ⟨a, vs, h1, .inl (SqL.of h2), h3⟩
  | ro xs =>
    rw [h] at e; cases e
    obtain ⟨a, vs, h1, h2, h3⟩ := con_ro j r h
    exact ⟨a, vs, h1, .inl h2, h3⟩
  | tup xs =>
    rw [h] at e; cases e
    obtain ⟨a, vs, h1, h2, h3⟩ := con_tup j r h
    exact ⟨a, vs, h1, .inr h2, h3⟩
  | _ => rw [h] at e; cases e
theorem same_new (h : H p = none) (o : HO) : Same H (upd H p o) := fun b u q => by rw [upd_ne (ne_of_none q h)]; exact q
/-- a new thing onto the ledger -/
theorem JL.push (j : JL K L H) (hp : H p = none) {o : HO} (ow : Own ((p, d) :: L) K (upd H p o) p d) : JL K ((p, d) :: L) (upd H p o) ∧ Go L ((p, d) :: L) H (upd H p o) := by
  have np := j.notIn hp
  have g : Go L ((p, d) :: L) H (upd H p o) := .mk' fun a u n h => by
    have ne : a ≠ p := ne_of_none h hp
    exact ⟨fun m => by
      rcases List.mem_cons.mp m with e | e
      · exact ne e
      · exact n e, by rw [upd_ne ne]; exact h⟩
  refine ⟨⟨List.nodup_cons.mpr ⟨np, j.nd⟩, fun a e m => ?_⟩, g⟩
  rcases List.mem_cons.mp m with q | q
  · cases q
    exact ow
  · exact Own.move (j.own a e q) g fun u h => by rw [upd_ne (ne_of_none h hp)]; exact h
end
abbrev DEnv := List (Option D)
inductive Sto (L : Led) (K : PySem.W.Frag) (H : Hp) : St → DEnv → Prop
  | nil : Sto L K H [] []
  | sm {v d σ e} : Rp L K H v d → Sto L K H σ e → Sto L K H (some v :: σ) (some d :: e)
  | no {o σ e} : Sto L K H σ e → Sto L K H (o :: σ) (none :: e)
section
variable {L L' : Led} {K : PySem.W.Frag} {H H' : Hp}
theorem Sto.go (g : Go L L' H H') : ∀ {σ : St} {e : DEnv}, Sto L K H σ e → Sto L' K H' σ e
  | _, _, .nil => .nil
  | _, _, .sm h r => .sm (h.go g) (Sto.go g r)
  | _, _, .no r => .no (Sto.go g r)
theorem Sto.get : ∀ {σ : St} {e : DEnv} {i : Nat} {d : D}, Sto L K H σ e → e[i]? = some (some d) → ∃ v, σ[i]? = some (some v) ∧ Rp L K H v d
  | _, _, _, _, .nil, h => by simp at h
  | _, _, 0, _, .sm h _, q => by simp at q; subst q; exact ⟨_, rfl, h⟩
  | _, _, 0, _, .no _, q => by simp at q
  | _, _, i + 1, d, .sm _ r, q => by
    obtain ⟨v, e1, h⟩ := Sto.get (i := i) (d := d) r (by simpa using q)
    exact ⟨v, by simpa using e1, h⟩
  | _, _, i + 1, d, .no r, q => by
    obtain ⟨v, e1, h⟩ := Sto.get (i := i) (d := d) r (by simpa using q)
    exact ⟨v, by simpa using e1, h⟩
theorem Sto.set {v : V} {d : D} (h : Rp L K H v d) : ∀ {σ : St} {e : DEnv} (i : Nat), Sto L K H σ e → Sto L K H (σ.set i (some v)) (e.set i (some d))
  | _, _, _, .nil => .nil
  | _, _, 0, .sm _ r => .sm h r
  | _, _, 0, .no r => .sm h r
  | _, _, i + 1, .sm q r => .sm q (Sto.set h i r)
  | _, _, i + 1, .no r => .no (Sto.set h i r)
theorem Sto.wipe1 {o : Option V} : ∀ {σ : St} {e : DEnv} (i : Nat), Sto L K H σ e → Sto L K H (σ.set i o) (e.set i none)
  | _, _, _, .nil => .nil
  | _, _, 0, .sm _ r => .no r
  | _, _, 0, .no r => .no r
  | _, _, i + 1, .sm q r => .sm q (Sto.wipe1 i r)
  | _, _, i + 1, .no r => .no (Sto.wipe1 i r)
theorem Sto.start : ∀ {vs : List V} {ds : List D} {n : Nat}, RpAll L K H vs ds → Sto L K H (vs.map some ++ List.replicate n none) (ds.map some ++ List.replicate n none)
  | _, _, 0, .nil => .nil
  | _, _, n + 1, .nil => .no (Sto.start (n := n) .nil)
  | _, _, n, .cons h r => .sm h (Sto.start r)
end
end DL
namespace DL
open PySem L2
/-- an error: its class, what its own dict holds -/
structure Exn where
  cls : Value
  ns : List Str
  vs : List D
def ExR (L : Led) (K : PySem.W.Frag) (H : Hp) (a : Addr) (n : Exn) : Prop :=
  ¬ inL L a ∧ ∃ vs, H a = some (.xd (n.ns.zip vs)) ∧ n.ns.length = vs.length ∧ RpAll L K H vs n.vs
abbrev DK := D → Led → Prop
abbrev DX := Exn → DEnv → Led → Prop
abbrev DE := DEnv → Led → DK → DX → Prop
abbrev DT := DEnv → Led → (Bool → Led → Prop) → DX → Prop
abbrev DA := DEnv → Led → (List D → Led → Prop) → DX → Prop
structure DEnds where
  nx : DEnv → Led → Prop
  rt : DK
  ex : DX
  bk : DEnv → Led → Prop
  ct : DEnv → Led → Prop
abbrev DS := DEnds → DEnv → Led → Prop
def StL (K : PySem.W.Frag) (σ : St) (H : Hp) (env : DEnv) (L : Led) : Prop := Sto L K H σ env ∧ JL K L H
theorem StL.go {K : PySem.W.Frag} {σ : St} {H H' : Hp} {env : DEnv} {L L' : Led} (s : StL K σ H env L) (g : Go L L' H H') (j : JL K L' H') : StL K σ H' env L' := ⟨s.1.go g, j⟩
def KOk (K : PySem.W.Frag) (L : Led) (H : Hp) (k : DK) (Q : VK) : Prop := ∀ d L' v H', k d L' → Go L L' H H' → JL K L' H' → Rp L' K H' v d → Q v H'
def XOk (K : PySem.W.Frag) (Wx : WX) (L : Led) (H : Hp) (x : DX) : Prop := ∀ n env' L' a H' σ', x n env' L' → Go L L' H H' → StL K σ' H' env' L' → ExR L' K H' a n → Wx n.cls (some a) σ' H'
structure EOk (K : PySem.W.Frag) (Wx : WX) (L : Led) (H : Hp) (D' : DEnds) (D : Ends) : Prop where
  nx : ∀ env' L' σ' H', D'.nx env' L' → Go L L' H H' → StL K σ' H' env' L' → D.nx σ' H'
  rt : KOk K L H D'.rt D.rt
  ex : XOk K Wx L H D'.ex
  bk : ∀ env' L' σ' H', D'.bk env' L' → Go L L' H H' → StL K σ' H' env' L' → D.bk σ' H'
  ct : ∀ env' L' σ' H', D'.ct env' L' → Go L L' H H' → StL K σ' H' env' L' → D.ct σ' H'
section
variable {K : PySem.W.Frag} {Wx : WX} {L L1 : Led} {H H1 : Hp} {k : DK} {Q : VK} {x : DX} {D' : DEnds} {D : Ends}
theorem KOk.go (h : KOk K L H k Q) (g : Go L L1 H H1) : KOk K L1 H1 k Q := fun d L' v H' q g' j r => h d L' v H' q (g.trans g') j r
theorem XOk.go (h : XOk K Wx L H x) (g : Go L L1 H H1) : XOk K Wx L1 H1 x := fun n e L' a H' σ' q g' s r => h n e L' a H' σ' q (g.trans g') s r
theorem EOk.go (h : EOk K Wx L H D' D) (g : Go L L1 H H1) : EOk K Wx L1 H1 D' D :=
  ⟨fun e L' σ' H' q g' s => h.nx e L' σ' H' q (g.trans g') s, h.rt.go g, h.ex.go g, fun e L' σ' H' q g' s => h.bk e L' σ' H' q (g.trans g') s, fun e L' σ' H' q g' s => h.ct e L' σ' H' q (g.trans g') s⟩
end
def SimE (K : PySem.W.Frag) (Wx : WX) (te : TE) (de : DE) : Prop := ∀ σ H env L k x Q, StL K σ H env L → de env L k x → KOk K L H k Q → XOk K Wx L H x → te σ H Q
def SimT (K : PySem.W.Frag) (Wx : WX) (te : TT) (de : DT) : Prop := ∀ σ H env L k x Q, StL K σ H env L → de env L k x → (∀ b L' H', k b L' → Go L L' H H' → JL K L' H' → Q b H') → XOk K Wx L H x → te σ H Q
def SimA (K : PySem.W.Frag) (Wx : WX) (ta : TA) (da : DA) : Prop := ∀ σ H env L k x Q, StL K σ H env L → da env L k x → (∀ ds L' vs H', k ds L' → Go L L' H H' → JL K L' H' → RpAll L' K H' vs ds → Q vs H') → XOk K Wx L H x → ta σ H Q
def SimS (K : PySem.W.Frag) (Wx : WX) (ts : TS) (ds : DS) : Prop := ∀ σ H env L D' D, StL K σ H env L → ds D' env L → EOk K Wx L H D' D → ts D σ H
structure QE (X : Cx) (Wx : WX) (e : Expr) (de : DE) : Prop where
  ex : ∃ te, PE X e te ∧ SimE X.K Wx te de
structure QT (X : Cx) (Wx : WX) (e : Expr) (dt : DT) : Prop where
  ex : ∃ te, PT X e te ∧ SimT X.K Wx te dt
structure QW (X : Cx) (Wx : WX) (e : Expr) (dt : DT) : Prop where
  ex : ∃ te, PW X e te ∧ SimT X.K Wx te dt
structure QA (X : Cx) (Wx : WX) (es : List Expr) (da : DA) : Prop where
  ex : ∃ ta, PA X es ta ∧ SimA X.K Wx ta da
structure QS (X : Cx) (Wx : WX) (st : Stmt) (ds : DS) : Prop where
  ex : ∃ ts, PS X st ts ∧ SimS X.K Wx ts ds
structure QSs (X : Cx) (Wx : WX) (st : List Stmt) (ds : DS) : Prop where
  ex : ∃ ts, PSs X st ts ∧ SimS X.K Wx ts ds
section
variable {X : Cx} {Wx : WX} {a b c e : Expr} {es : List Expr} {da db dc de : DE} {pos : Pos}
def dVar (i : Nat) : DE := fun env L k _ => match env[i]? with
  | some (some d) => k d L
  | _ => False
theorem qv (i : Nat) {x : Str} {pos : Pos} (hN : X.N[i]? = some x := by rfl) (hv : Vis X.env.scope x := by first | exact Or.inl rfl | exact Or.inr (Or.inl rfl) | exact Or.inr (Or.inr rfl)) (hd : (x == ("__debug__" : Str)) = false := by decide)
    (hcd : (x == ("__classdict__" : Str)) = false := by decide) : QE X Wx (.Name x pos) (dVar i) := by
  refine ⟨tVar i, pv i hN hv hd hcd, fun σ H env L k x Q st h hk _ => ?_⟩
  unfold dVar at h
  split at h
  · rename_i d hd
    obtain ⟨v, e1, r⟩ := st.1.get hd
    exact ⟨v, e1, hk d L v H h (Go.refl L H) st.2 r⟩
  · exact h.elim
def dC (d : D) : DE := fun _ L k _ => k d L
theorem sim_c {K : PySem.W.Frag} {v : V} {d : D} (r : ∀ L H, Rp L K H v d) : SimE K Wx (tC v) (dC d) := fun _ H _ L _ _ _ st h hk _ => hk d L v H h (Go.refl L H) st.2 (r L H)
theorem q_int {i j pos} : QE X Wx (.Constant (.int i) j pos) (dC (.int i)) := ⟨_, pe_int, sim_c fun _ _ => .int i⟩
theorem q_bl {b j pos} : QE X Wx (.Constant (.bool b) j pos) (dC (.bl b)) := ⟨_, pe_bl, sim_c fun _ _ => .bl b⟩
theorem q_non {j pos} : QE X Wx (.Constant .none j pos) (dC .non) := ⟨_, pe_non, sim_c fun _ _ => .non⟩
theorem q_str {x j pos} : QE X Wx (.Constant (.str x) j pos) (dC (.str x)) := ⟨_, pe_str, sim_c fun _ _ => .str x⟩
theorem q_glob {x : Str} {v : V} {d : D} {u : Value} {pos : Pos} (hg : Gl X x) (hm : X.mg x = some u) (r : RelV v u) (rd : ∀ L H, Rp L X.K H v d) (hd : (x == ("__debug__" : Str)) = false := by decide) : QE X Wx (.Name x pos) (dC d) :=
  ⟨_, pe_glob hg hm r hd, sim_c rd⟩
theorem q_bltn {x : Str} {v : V} {d : D} {u : Value} {pos : Pos} (hg : Gl X x) (hm : X.mg x = none) (hv : bootBuiltins x = some u) (r : RelV v u) (rd : ∀ L H, Rp L X.K H v d) (hn : x ≠ "__name__" := by decide) (hd : (x == ("__debug__" : Str)) = false := by decide) : QE X Wx (.Name x pos) (dC d) :=
  ⟨_, pe_bltn hg hm hv r hn hd, sim_c rd⟩
/-- g: two data, the ledger, what is wanted of the answer -/
abbrev G2 := D → D → Led → (D → Prop) → Prop
def ROk (K : PySem.W.Frag) (L : Led) (H : Hp) (k : D → Prop) (Q : VK) : Prop := ∀ d v H', k d → Same H H' → Rp L K H' v d → Q v H'
def Sim2 (K : PySem.W.Frag) (r : R2) (g : G2) : Prop := ∀ H L va vb a b k Q, JL K L H → Rp L K H va a → Rp L K H vb b → g a b L k → ROk K L H k Q → r va vb H Q
def OQ (X : Cx) (f : Value → Value → Sem Value) (g : G2) : Prop := ∃ r, OpR X f r ∧ Sim2 X.K r g
def dOp (g : G2) (da db : DE) : DE := fun env L k x => da env L (fun a L1 => db env L1 (fun b L2 => g a b L2 fun d => k d L2) x) x
theorem sim_op {K : PySem.W.Frag} {ta tb : TE} {r : R2} {g : G2} (sa : SimE K Wx ta da) (sb : SimE K Wx tb db) (sr : Sim2 K r g) : SimE K Wx (tOp r ta tb) (dOp g da db) := by
  intro σ H env L k x Q st h hk hx
  refine sa σ H env L _ x _ st h (fun a L1 va H1 h1 g1 j1 r1 => ?_) hx
  refine sb σ H1 env L1 _ x _ (st.go g1 j1) h1 (fun b L2 vb H2 h2 g2 j2 r2 => ?_) (hx.go g1)
  exact sr H2 L2 va vb a b _ Q j2 (r1.go g2) r2 h2 fun d v H' q s rp => hk d L2 v H' q ((g1.trans g2).trans (Go.same s)) (j2.same s) rp
theorem q_op {op : Operator} {g : G2} (ho : OQ X (binaryOp op) g) (ha : QE X Wx a da) (hb : QE X Wx b db) : QE X Wx (.BinOp a op b pos) (dOp g da db) := by
  obtain ⟨ta, pa, sa⟩ := ha.ex
  obtain ⟨tb, pb, sb⟩ := hb.ex
  obtain ⟨r, hr, sr⟩ := ho
  exact ⟨_, pe_op hr pa pb, sim_op sa sb sr⟩
theorem q_cmp {op : CmpOp} {g : G2} (ho : OQ X (compareOp op) g) (ha : QE X Wx a da) (hb : QE X Wx b db) (hm : behindInMarks op b = false := by rfl) : QE X Wx (.Compare a [op] [b] pos) (dOp g da db) := by
  obtain ⟨ta, pa, sa⟩ := ha.ex
  obtain ⟨tb, pb, sb⟩ := hb.ex
  obtain ⟨r, hr, sr⟩ := ho
  exact ⟨_, pe_cmpR hr pa pb hm, sim_op sa sb sr⟩
/-- two rules for one operator -/
theorem opr_or {f : Value → Value → Sem Value} {r1 r2 : R2} (h1 : OpR X f r1) (h2 : OpR X f r2) : OpR X f (fun x y H Q => r1 x y H Q ∨ r2 x y H Q) := fun pins s σ H x y u v Q I rx ry h =>
  h.elim (fun q => h1 pins s σ H x y u v Q I rx ry q) (fun q => h2 pins s σ H x y u v Q I rx ry q)
theorem OQ.or {f : Value → Value → Sem Value} {g1 g2 g : G2} (h1 : OQ X f g1) (h2 : OQ X f g2) (hg : ∀ a b L k, g a b L k → g1 a b L k ∨ g2 a b L k) : OQ X f g := by
  obtain ⟨r1, o1, s1⟩ := h1
  obtain ⟨r2, o2, s2⟩ := h2
  exact ⟨_, opr_or o1 o2, fun H L va vb a b k Q j ra rb h hk => (hg a b L k h).elim (fun q => .inl (s1 H L va vb a b k Q j ra rb q hk)) (fun q => .inr (s2 H L va vb a b k Q j ra rb q hk))⟩
/-- two ints -/
def gI (C : Int → Int → Prop) (f : Int → Int → D) : G2 := fun a b _ k => match a, b with
  | .int i, .int j => C i j ∧ k (f i j)
  | _, _ => False
def gI0 (f : Int → Int → D) : G2 := fun a b _ k => match a, b with
  | .int i, .int j => k (f i j)
  | _, _ => False
theorem sim2_I {K : PySem.W.Frag} {C : Int → Int → Prop} {f : Int → Int → V} {f' : Int → Int → D} (hf : ∀ i j L H, Rp L K H (f i j) (f' i j)) : Sim2 K (rI C f) (gI C f') := by
  intro H L va vb a b k Q j ra rb h hk
  cases ra <;> cases rb <;> first | exact h.elim | skip
  exact ⟨_, _, rfl, rfl, h.1, hk _ _ H h.2 (Same.refl H) (hf _ _ L H)⟩
theorem sim2_I0 {K : PySem.W.Frag} {f : Int → Int → V} {f' : Int → Int → D} (hf : ∀ i j L H, Rp L K H (f i j) (f' i j)) : Sim2 K (rI0 f) (gI0 f') := by
  intro H L va vb a b k Q j ra rb h hk
  cases ra <;> cases rb <;> first | exact h.elim | skip
  exact ⟨_, _, rfl, rfl, hk _ _ H h (Same.refl H) (hf _ _ L H)⟩
abbrev gAddI : G2 := gI0 fun i j => .int (i + j)
abbrev gSubI : G2 := gI0 fun i j => .int (i - j)
def CDivA (_ j : Int) : Prop := j ≠ 0 ∧ j.natAbs.log2 < 9000
abbrev gFdiv : G2 := gI CDivA fun i j => .int (i.fdiv j)
abbrev gMod : G2 := gI (fun _ j => j ≠ 0) fun i j => .int (i.fmod j)
abbrev gPow : G2 := gI CPow fun i j => .int (i ^ j.toNat)
theorem oq_addI : OQ X (binaryOp .Add) gAddI := ⟨_, op_add, sim2_I0 fun _ _ _ _ => .int _⟩
theorem oq_sub : OQ X (binaryOp .Sub) gSubI := ⟨_, op_sub, sim2_I0 fun _ _ _ _ => .int _⟩
theorem op_fdivA : OpR X (binaryOp .FloorDiv) (rI CDivA fun i j => .int (i.fdiv j)) := opI fun i j _ _ _ _ _ hc q =>
  PyProof.Rows.floordiv_int hc.1 q (.inl (PyProof.noPylong_of_log2 hc.2))
theorem oq_fdiv : OQ X (binaryOp .FloorDiv) gFdiv := ⟨_, op_fdivA, sim2_I fun _ _ _ _ => .int _⟩
theorem oq_mod : OQ X (binaryOp .Mod) gMod := ⟨_, op_modN, sim2_I fun _ _ _ _ => .int _⟩
theorem oq_pow : OQ X (binaryOp .Pow) gPow := ⟨_, op_pow, sim2_I fun _ _ _ _ => .int _⟩
abbrev gLt : G2 := gI0 fun i j => .bl (decide (i < j))
abbrev gLe : G2 := gI0 fun i j => .bl (decide (i ≤ j))
abbrev gGt : G2 := gI0 fun i j => .bl (decide (j < i))
abbrev gGe : G2 := gI0 fun i j => .bl (decide (j ≤ i))
theorem oq_lt : OQ X (compareOp .Lt) gLt := ⟨_, op_lt, sim2_I0 fun _ _ _ _ => .bl _⟩
theorem oq_le : OQ X (compareOp .LtE) gLe := ⟨_, op_le, sim2_I0 fun _ _ _ _ => .bl _⟩
theorem oq_gt : OQ X (compareOp .Gt) gGt := ⟨_, op_gt, sim2_I0 fun _ _ _ _ => .bl _⟩
theorem oq_ge : OQ X (compareOp .GtE) gGe := ⟨_, op_ge, sim2_I0 fun _ _ _ _ => .bl _⟩
end
end DL
namespace DL
open PySem L2
mutual
def toPy : D → PyData
  | .non => .none
  | .bl b => .bool b
  | .int i => .int i
  | .str x => .str x
  | .lst xs => .list (toPys xs)
  | .tup xs => .tuple (toPys xs)
  | .ro _ => .dict [] | .dk _ _ => .dict [] | .dt _ _ => .dict [] | .obj _ _ _ => .dict [] | .exc _ _ _ => .dict [] | .fnv _ _ => .dict [] | .clo _ _ => .dict [] | .tab _ => .dict [] | .ptr _ => .dict [] | .ty _ => .dict [] | .kt _ => .dict []
def toPys : List D → List PyData
  | [] => []
  | d :: r => toPy d :: toPys r
end
/-- whether a datum is of None, bools, ints, texts, lists, tuples -/
def shp (d : D) : Bool := SeqAt.shaped (toPy d)
def eqD (a b : D) : Bool := PyData.eqv (toPy a) (toPy b)
mutual
theorem Rp.dp {L : Led} {K : PySem.W.Frag} {H : Hp} : ∀ {v : V} {d : D}, Rp L K H v d → PyData.canLay0 (toPy d) = true → Dp K H v (toPy d)
  | _, _, .non, _ => .non
  | _, _, .bl b, _ => .bl b
  | _, _, .int i, _ => .int i
  | _, _, .str x, _ => .str x
  | _, _, .lst n h r, c => .lst (SqL.of h) (RpAll.dp r (by simpa only [toPy, PyData.canLay0] using c))
  | _, _, .tup s r, c => .tup s.sq (RpAll.dp r (by simpa only [toPy, PyData.canLay0] using c))
  | _, _, .ro _ _, c => by simp [toPy, PyData.canLay0] at c
  | _, _, .ty _, c => by simp [toPy, PyData.canLay0] at c
  | _, _, .kt _ _, c => by simp [toPy, PyData.canLay0] at c
  | _, _, .ptr _, c => by simp [toPy, PyData.canLay0] at c
  | _, _, .dk _ _ _ _, c => by simp [toPy, PyData.canLay0] at c
  | _, _, .dt _ _ _ _, c => by simp [toPy, PyData.canLay0] at c
  | _, _, .obj _ _ _ _, c => by simp [toPy, PyData.canLay0] at c
  | _, _, .exc _ _ _ _ _ _ _, c => by simp [toPy, PyData.canLay0] at c
  | _, _, .fnv _, c => by simp [toPy, PyData.canLay0] at c
  | _, _, .clo _ _, c => by simp [toPy, PyData.canLay0] at c
theorem RpAll.dp {L : Led} {K : PySem.W.Frag} {H : Hp} : ∀ {vs : List V} {ds : List D}, RpAll L K H vs ds → PyData.canLayAll0 (toPys ds) = true → DpAll K H vs (toPys ds)
  | _, _, .nil, _ => .nil
  | _, _, .cons (d := d) (ds := ds) h r, c => by
    have c' : PyData.canLay0 (toPy d) = true ∧ PyData.canLayAll0 (toPys ds) = true := by simpa only [toPys, PyData.canLayAll0, Bool.and_eq_true] using c
    exact .cons (Rp.dp h c'.1) (RpAll.dp r c'.2)
end
def gEq : G2 := fun a b _ k => shp a = true ∧ shp b = true ∧ k (.bl (eqD a b))
def gNe : G2 := fun a b _ k => shp a = true ∧ shp b = true ∧ k (.bl (!eqD a b))
section
variable {X : Cx} {Wx : WX} {a b c e : Expr} {es : List Expr} {da db dc de : DE} {pos : Pos}
theorem oq_eq (hu : X.A.units + 64 < cLine) : OQ X (compareOp .Eq) gEq := ⟨_, op_eqD hu, fun H L va vb a b k Q j ra rb h hk => by
  obtain ⟨h1, h2, h3⟩ := h
  exact ⟨_, _, ra.dp (SeqAt.canLay_of_shaped h1), rb.dp (SeqAt.canLay_of_shaped h2), h1, h2, hk _ _ H h3 (Same.refl H) (.bl _)⟩⟩
theorem oq_ne (hu : X.A.units + 64 < cLine) : OQ X (compareOp .NotEq) gNe := ⟨_, op_neD hu, fun H L va vb a b k Q j ra rb h hk => by
  obtain ⟨h1, h2, h3⟩ := h
  exact ⟨_, _, ra.dp (SeqAt.canLay_of_shaped h1), rb.dp (SeqAt.canLay_of_shaped h2), h1, h2, hk _ _ H h3 (Same.refl H) (.bl _)⟩⟩
/-- flat things: None, bools, ints, texts -/
def scD : D → D → Bool
  | .non, .non => true
  | .bl _, .bl _ => true
  | .int _, .int _ => true
  | .str _, .str _ => true
  | _, _ => false
def flEq : D → D → Bool
  | .non, .non => true
  | .bl a, .bl b => decide (a = b)
  | .int a, .int b => decide (a = b)
  | .str a, .str b => decide (a = b)
  | _, _ => false
def gEqF : G2 := fun a b _ k => scD a b = true ∧ k (.bl (flEq a b))
def gNeF : G2 := fun a b _ k => scD a b = true ∧ k (.bl (!flEq a b))
theorem flEq_of {L : Led} {K : PySem.W.Frag} {H : Hp} {va vb : V} {a b : D} (ra : Rp L K H va a) (rb : Rp L K H vb b) (h : scD a b = true) : scal va vb = true ∧ decide (va = vb) = flEq a b := by
  cases ra <;> cases rb <;> first | exact absurd h Bool.false_ne_true | skip
  · exact ⟨rfl, by simp [flEq]⟩
  · exact ⟨rfl, by simp [flEq]⟩
  · exact ⟨rfl, by simp [flEq]⟩
  · exact ⟨rfl, by simp [flEq]⟩
theorem oq_eqF : OQ X (compareOp .Eq) gEqF := ⟨_, op_eq, fun H L va vb a b k Q j ra rb h hk => by
  obtain ⟨h1, h2⟩ := flEq_of ra rb h.1
  exact ⟨h1, by rw [h2]; exact hk _ _ H h.2 (Same.refl H) (.bl _)⟩⟩
theorem oq_neF : OQ X (compareOp .NotEq) gNeF := ⟨_, op_ne, fun H L va vb a b k Q j ra rb h hk => by
  obtain ⟨h1, h2⟩ := flEq_of ra rb h.1
  exact ⟨h1, by rw [h2]; exact hk _ _ H h.2 (Same.refl H) (.bl _)⟩⟩
def isNon : D → Bool
  | .non => true
  | _ => false
def gIsN : G2 := fun a b _ k => match b with
  | .non => k (.bl (isNon a))
  | _ => False
def gNotN : G2 := fun a b _ k => match b with
  | .non => k (.bl (!isNon a))
  | _ => False
theorem isNon_of {L : Led} {K : PySem.W.Frag} {H : Hp} {va : V} {a : D} (ra : Rp L K H va a) : decide (va = .non) = isNon a := by
  cases ra <;> first | rfl | (exact decide_eq_false (fun h => nomatch h))
theorem oq_isN : OQ X (compareOp .Is) gIsN := ⟨_, op_isN, fun H L va vb a b k Q j ra rb h hk => by
  cases rb <;> first | exact h.elim | skip
  exact ⟨rfl, by rw [isNon_of ra]; exact hk _ _ H h (Same.refl H) (.bl _)⟩⟩
theorem oq_notN : OQ X (compareOp .IsNot) gNotN := ⟨_, op_notN, fun H L va vb a b k Q j ra rb h hk => by
  cases rb <;> first | exact h.elim | skip
  exact ⟨rfl, by rw [isNon_of ra]; exact hk _ _ H h (Same.refl H) (.bl _)⟩⟩
theorem atI_of {L : Led} {K : PySem.W.Frag} {H : Hp} {vs : List V} {ds : List D} {i : Int} {d : D} (r : RpAll L K H vs ds) (h : atI ds i = some d) : ∃ v, atI vs i = some v ∧ Rp L K H v d := by
  unfold atI at h ⊢
  rw [r.length]
  cases e : ixN ds.length i with
  | none => rw [e] at h; cases h
  | some j =>
    rw [e] at h
    exact r.get h
/-- a list, a tuple at a place -/
def gIx : G2 := fun a b L k => match b with
  | .int i => match seqs (con L a) with
    | some ds => match atI ds i with
      | some d => k d
      | none => False
    | none => False
  | _ => False
def rIxQ (K : PySem.W.Frag) : R2 := fun x y H Q => rIxL K x y H Q ∨ rIxT K x y H Q
theorem ix_or {r1 r2 : R2} (h1 : IxR X r1) (h2 : IxR X r2) : IxR X (fun x y H Q => r1 x y H Q ∨ r2 x y H Q) := fun value slice pins s σ H x y v u Q I rx ry h hs =>
  h.elim (fun q => h1 value slice pins s σ H x y v u Q I rx ry q hs) (fun q => h2 value slice pins s σ H x y v u Q I rx ry q hs)
theorem sim_ix {K : PySem.W.Frag} : Sim2 K (rIxQ K) gIx := by
  intro H L va vb a b k Q j ra rb h hk
  cases rb <;> first | exact h.elim | skip
  unfold gIx at h
  simp only at h
  split at h
  · rename_i ds hd
    split at h
    · rename_i d hi
      obtain ⟨p, vs, rfl, hs, r⟩ := con_seq j ra hd
      obtain ⟨v, hv, rv⟩ := atI_of r hi
      rcases hs with hs | hs
      · exact .inl ⟨p, vs, _, v, rfl, rfl, hs, hv, hk _ _ H h (Same.refl H) rv⟩
      · exact .inr ⟨p, vs, _, v, rfl, rfl, hs, hv, hk _ _ H h (Same.refl H) rv⟩
    · exact h.elim
  · exact h.elim
theorem q_ix (ha : QE X Wx a da) (hb : QE X Wx b db) (hs : PlainIx b := by intro _ _; rfl) : QE X Wx (.Subscript a b pos) (dOp gIx da db) := by
  obtain ⟨ta, pa, sa⟩ := ha.ex
  obtain ⟨tb, pb, sb⟩ := hb.ex
  exact ⟨_, pe_ix (ix_or ix_list ix_tup) pa pb hs, sim_op sa sb sim_ix⟩
/-- a text's sign at a place -/
def gIxS : G2 := fun a b _ k => match a, b with
  | .str z, .int i => z.length ≤ sizeLine ∧ match atI z.cps.toList i with
    | some c => k (.str ⟨#[c]⟩)
    | none => False
  | _, _ => False
theorem sim_ixS {K : PySem.W.Frag} : Sim2 K rIxS gIxS := by
  intro H L va vb a b k Q j ra rb h hk
  cases ra <;> cases rb <;> first | exact h.elim | skip
  obtain ⟨hz, h⟩ := h
  split at h
  · rename_i c hc
    exact ⟨_, _, c, rfl, rfl, hz, hc, hk _ _ H h (Same.refl H) (.str _)⟩
  · exact h.elim
end
end DL
namespace DL
open PySem L2
section
variable {X : Cx} {Wx : WX} {a b c e : Expr} {es rest : List Expr} {da db dc de : DE} {dt du : DT} {dl : DA} {pos : Pos}
abbrev G1 := D → Led → (D → Prop) → Prop
def dUn (g : G1) (da : DE) : DE := fun env L k x => da env L (fun a L1 => g a L1 fun d => k d L1) x
def Sim1 (K : PySem.W.Frag) (r : V → Hp → VK → Prop) (g : G1) : Prop := ∀ H L va a k Q, JL K L H → Rp L K H va a → g a L k → ROk K L H k Q → r va H Q
theorem sim_un {K : PySem.W.Frag} {ta : TE} {r : V → Hp → VK → Prop} {g : G1} (sa : SimE K Wx ta da) (sr : Sim1 K r g) : SimE K Wx (tUn r ta) (dUn g da) := by
  intro σ H env L k x Q st h hk hx
  refine sa σ H env L _ x _ st h (fun a L1 va H1 h1 g1 j1 r1 => ?_) hx
  exact sr H1 L1 va a _ Q j1 r1 h1 fun d v H' q s rp => hk d L1 v H' q (g1.trans (Go.same s)) (j1.same s) rp
def gNeg : G1 := fun a _ k => match a with
  | .int i => k (.int (-i))
  | _ => False
theorem q_neg (ha : QE X Wx a da) : QE X Wx (.UnaryOp .USub a pos) (dUn gNeg da) := by
  obtain ⟨ta, pa, sa⟩ := ha.ex
  refine ⟨_, pe_un un_neg pa, sim_un sa fun H L va a k Q j ra h hk => ?_⟩
  cases ra <;> first | exact h.elim | skip
  exact ⟨_, rfl, hk _ _ H h (Same.refl H) (.int _)⟩
def dAndV (da db : DE) : DE := fun env L k x => da env L (fun a L1 => match a with
  | .bl true => db env L1 k x
  | .bl false => k (.bl false) L1
  | _ => False) x
def dNotV (da : DE) : DE := fun env L k x => da env L (fun a L1 => match a with
  | .bl b => k (.bl (!b)) L1
  | _ => False) x
theorem q_one {op} (h : QE X Wx a da) : QE X Wx (.BoolOp op [a] pos) da := by
  obtain ⟨ta, pa, sa⟩ := h.ex
  exact ⟨_, pe_one pa, sa⟩
theorem q_and (ha : QE X Wx a da) (hb : QE X Wx (.BoolOp .And (b :: rest) pos) db) : QE X Wx (.BoolOp .And (a :: b :: rest) pos) (dAndV da db) := by
  obtain ⟨ta, pa, sa⟩ := ha.ex
  obtain ⟨tb, pb, sb⟩ := hb.ex
  refine ⟨_, pe_and pa pb, fun σ H env L k x Q st h hk hx => ?_⟩
  refine sa σ H env L _ x _ st h (fun a L1 va H1 h1 g1 j1 r1 => ?_) hx
  cases r1 <;> first | exact h1.elim | skip
  rename_i b
  refine ⟨b, rfl, ?_⟩
  cases b with
  | true => exact iteT (sb σ H1 env L1 k x Q (st.go g1 j1) h1 (hk.go g1) (hx.go g1))
  | false => exact iteF (hk _ L1 _ H1 h1 g1 j1 (.bl false))
theorem q_not (ha : QE X Wx a da) : QE X Wx (.UnaryOp .Not a pos) (dNotV da) := by
  obtain ⟨ta, pa, sa⟩ := ha.ex
  refine ⟨_, pe_not pa, fun σ H env L k x Q st h hk hx => ?_⟩
  refine sa σ H env L _ x _ st h (fun a L1 va H1 h1 g1 j1 r1 => ?_) hx
  cases r1 <;> first | exact h1.elim | skip
  exact ⟨_, rfl, hk _ L1 _ H1 h1 g1 j1 (.bl _)⟩
def dB (da : DE) : DT := fun env L k x => da env L (fun a L1 => match a with
  | .bl b => k b L1
  | _ => False) x
theorem sim_B {K : PySem.W.Frag} {ta : TE} (sa : SimE K Wx ta da) : SimT K Wx (tB ta) (dB da) := by
  intro σ H env L k x Q st h hk hx
  refine sa σ H env L _ x _ st h (fun a L1 va H1 h1 g1 j1 r1 => ?_) hx
  cases r1 <;> first | exact h1.elim | skip
  exact ⟨_, rfl, hk _ L1 H1 h1 g1 j1⟩
theorem t_val (h : QE X Wx e da) (he : ∀ whole, isTrue e X.env whole = (do let v ← whole; standAt e.pos; holding [v] (truthy v)) := by intro _; rfl) : QT X Wx e (dB da) := by
  obtain ⟨ta, pa, sa⟩ := h.ex
  exact ⟨_, pt_val pa he, sim_B sa⟩
theorem t_cmp {op : CmpOp} {g : G2} (ho : OQ X (compareOp op) g) (ha : QE X Wx a da) (hb : QE X Wx b db) (hm : behindInMarks op b = false := by rfl) : QT X Wx (.Compare a [op] [b] pos) (dB (dOp g da db)) := by
  obtain ⟨ta, pa, sa⟩ := ha.ex
  obtain ⟨tb, pb, sb⟩ := hb.ex
  obtain ⟨r, hr, sr⟩ := ho
  refine ⟨_, pt_cmpR hr pa pb hm, fun σ H env L k x Q st h hk hx => ?_⟩
  exact sim_B (sim_op sa sb sr) σ H env L k x Q st h hk hx
def dTAnd (dt du : DT) : DT := fun env L k x => dt env L (fun b L1 => match b with
  | true => du env L1 k x
  | false => k false L1) x
def dTOr (dt du : DT) : DT := fun env L k x => dt env L (fun b L1 => match b with
  | true => k true L1
  | false => du env L1 k x) x
def dTNot (dt : DT) : DT := fun env L k x => dt env L (fun b L1 => k (!b) L1) x
theorem w_and1 (h : QT X Wx a dt) : QW X Wx (.BoolOp .And [a] pos) dt := by
  obtain ⟨ta, pa, sa⟩ := h.ex
  exact ⟨_, pw_and1 pa, sa⟩
theorem w_or1 (h : QT X Wx a dt) : QW X Wx (.BoolOp .Or [a] pos) dt := by
  obtain ⟨ta, pa, sa⟩ := h.ex
  exact ⟨_, pw_or1 pa, sa⟩
theorem w_and (ha : QT X Wx a dt) (hb : QW X Wx (.BoolOp .And (b :: rest) pos) du) : QW X Wx (.BoolOp .And (a :: b :: rest) pos) (dTAnd dt du) := by
  obtain ⟨ta, pa, sa⟩ := ha.ex
  obtain ⟨tb, pb, sb⟩ := hb.ex
  refine ⟨_, pw_and pa pb, fun σ H env L k x Q st h hk hx => ?_⟩
  refine sa σ H env L _ x _ st h (fun b L1 H1 h1 g1 j1 => ?_) hx
  cases b with
  | true => exact iteT (sb σ H1 env L1 k x Q (st.go g1 j1) h1 (fun b L2 H2 q g j => hk b L2 H2 q (g1.trans g) j) (hx.go g1))
  | false => exact iteF (hk _ L1 H1 h1 g1 j1)
theorem w_or (ha : QT X Wx a dt) (hb : QW X Wx (.BoolOp .Or (b :: rest) pos) du) : QW X Wx (.BoolOp .Or (a :: b :: rest) pos) (dTOr dt du) := by
  obtain ⟨ta, pa, sa⟩ := ha.ex
  obtain ⟨tb, pb, sb⟩ := hb.ex
  refine ⟨_, pw_or pa pb, fun σ H env L k x Q st h hk hx => ?_⟩
  refine sa σ H env L _ x _ st h (fun b L1 H1 h1 g1 j1 => ?_) hx
  cases b with
  | true => exact iteT (hk _ L1 H1 h1 g1 j1)
  | false => exact iteF (sb σ H1 env L1 k x Q (st.go g1 j1) h1 (fun b L2 H2 q g j => hk b L2 H2 q (g1.trans g) j) (hx.go g1))
theorem QW.t (h : QW X Wx e dt) : QT X Wx e dt := by
  obtain ⟨ta, pa, sa⟩ := h.ex
  exact ⟨_, pa.pt, sa⟩
theorem t_not (h : QT X Wx a dt) : QT X Wx (.UnaryOp .Not a pos) (dTNot dt) := by
  obtain ⟨ta, pa, sa⟩ := h.ex
  refine ⟨_, pt_not pa, fun σ H env L k x Q st h hk hx => ?_⟩
  exact sa σ H env L _ x _ st h (fun b L1 H1 h1 g1 j1 => hk _ L1 H1 h1 g1 j1) hx
/-- a if t else b -/
def dIf (dt : DT) (da db : DE) : DE := fun env L k x => dt env L (fun b L1 => match b with
  | true => da env L1 k x
  | false => db env L1 k x) x
theorem q_if (hc : QT X Wx c dt) (ha : QE X Wx a da) (hb : QE X Wx b db) : QE X Wx (.IfExp c a b pos) (dIf dt da db) := by
  obtain ⟨tc, pc, sc⟩ := hc.ex
  obtain ⟨ta, pa, sa⟩ := ha.ex
  obtain ⟨tb, pb, sb⟩ := hb.ex
  refine ⟨_, pe_ifExp pc pa pb, fun σ H env L k x Q st h hk hx => ?_⟩
  refine sc σ H env L _ x _ st h (fun b L1 H1 h1 g1 j1 => ?_) hx
  cases b with
  | true => exact iteT (sa σ H1 env L1 k x Q (st.go g1 j1) h1 (hk.go g1) (hx.go g1))
  | false => exact iteF (sb σ H1 env L1 k x Q (st.go g1 j1) h1 (hk.go g1) (hx.go g1))
/-- a < b < c -/
def dChain (g g' : G2) (da db dc : DE) : DE := fun env L k x => da env L (fun a L1 => db env L1 (fun b L2 => g a b L2 fun z => match z with
  | .bl true => dc env L2 (fun c L3 => g' b c L3 fun d => k d L3) x
  | .bl false => k (.bl false) L2
  | _ => False) x) x
theorem sim_chain {K : PySem.W.Frag} {ta tb tc : TE} {r r' : R2} {g g' : G2} (sa : SimE K Wx ta da) (sb : SimE K Wx tb db) (sc : SimE K Wx tc dc) (sr : Sim2 K r g) (sr' : Sim2 K r' g') : SimE K Wx (tChain r r' ta tb tc) (dChain g g' da db dc) := by
  intro σ H env L k x Q st h hk hx
  refine sa σ H env L _ x _ st h (fun a L1 va H1 h1 g1 j1 r1 => ?_) hx
  refine sb σ H1 env L1 _ x _ (st.go g1 j1) h1 (fun b L2 vb H2 h2 g2 j2 r2 => ?_) (hx.go g1)
  refine sr H2 L2 va vb a b _ _ j2 (r1.go g2) r2 h2 fun z v H' q s rp => ?_
  have g3 : Go L L2 H H' := (g1.trans g2).trans (Go.same s)
  cases rp <;> first | exact q.elim | skip
  rename_i bb
  refine ⟨bb, rfl, ?_⟩
  cases bb with
  | true =>
    refine iteT (sc σ H' env L2 _ x _ (st.go g3 (j2.same s)) q (fun c L3 vc H3 h3 g4 j3 r3 => ?_) (hx.go g3))
    exact sr' H3 L3 vb vc b c _ Q j3 ((r2.go (Go.same s)).go g4) r3 h3 fun d v' H4 q4 s4 rp4 => hk d L3 v' H4 q4 ((g3.trans g4).trans (Go.same s4)) (j3.same s4) rp4
  | false => exact iteF (hk _ L2 _ H' q g3 (j2.same s) (.bl false))
theorem q_chain {op op' : CmpOp} {g g' : G2} (ho : OQ X (compareOp op) g) (ho' : OQ X (compareOp op') g') (ha : QE X Wx a da) (hb : QE X Wx b db) (hc : QE X Wx c dc) (hm : lastMarks [op, op'] [b, c] = false := by rfl) :
    QE X Wx (.Compare a [op, op'] [b, c] pos) (dChain g g' da db dc) := by
  obtain ⟨ta, pa, sa⟩ := ha.ex
  obtain ⟨tb, pb, sb⟩ := hb.ex
  obtain ⟨tc, pc, sc⟩ := hc.ex
  obtain ⟨r, hr, sr⟩ := ho
  obtain ⟨r', hr', sr'⟩ := ho'
  exact ⟨_, pe_chain hr hr' pa pb pc hm, sim_chain sa sb sc sr sr'⟩
def dNil : DA := fun _ L k _ => k [] L
def dCons (de : DE) (dl : DA) : DA := fun env L k x => de env L (fun d L1 => dl env L1 (fun ds L2 => k (d :: ds) L2) x) x
theorem a_nil : QA X Wx [] dNil := ⟨_, pa_nil, fun σ H env L k x Q st h hk hx => hk [] L [] H h (Go.refl L H) st.2 .nil⟩
theorem a_cons (ha : QE X Wx e de) (hr : QA X Wx es dl) (hs : starEach (e :: es) X.env = (false, eval e X.env) :: starEach es X.env := by rfl) : QA X Wx (e :: es) (dCons de dl) := by
  obtain ⟨te, pe, se⟩ := ha.ex
  obtain ⟨ta, pa, sa⟩ := hr.ex
  refine ⟨_, pa_cons pe pa hs, fun σ H env L k x Q st h hk hx => ?_⟩
  refine se σ H env L _ x _ st h (fun d L1 v H1 h1 g1 j1 r1 => ?_) hx
  refine sa σ H1 env L1 _ x _ (st.go g1 j1) h1 (fun ds L2 vs H2 h2 g2 j2 r2 => ?_) (hx.go g1)
  exact hk _ L2 _ H2 h2 (g1.trans g2) j2 (.cons (r1.go g2) r2)
def dTup (dl : DA) : DE := fun env L k x => dl env L (fun ds L1 => ds.length ≤ sizeLine ∧ k (.tup ds) L1) x
def dLst (dl : DA) : DE := fun env L k x => dl env L (fun ds L1 => ds.length ≤ sizeLine ∧ k (.lst ds) L1) x
/-- a list that will change: onto the ledger -/
def dLstM (dl : DA) : DE := fun env L k x => dl env L (fun ds L1 => ds.length ≤ sizeLine ∧ ∀ p, ¬ inL L1 p → k (.ptr p) ((p, .lst ds) :: L1)) x
theorem q_tup {x1} (h : QA X Wx es dl) : QE X Wx (.Tuple es x1 pos) (dTup dl) := by
  obtain ⟨ta, pa, sa⟩ := h.ex
  refine ⟨_, pe_tup pa, fun σ H env L k x Q st h hk hx => ?_⟩
  refine sa σ H env L _ x _ st h (fun ds L1 vs H1 h1 g1 j1 r1 => ?_) hx
  refine ⟨by rw [r1.length]; exact h1.1, fun p hp => ?_⟩
  have s := same_new hp (.tup vs)
  exact hk _ L1 _ _ h1.2 (g1.trans (Go.same s)) (j1.same s) (.tup (.inl ⟨j1.notIn hp, .inl upd_same⟩) (r1.go (Go.same s)))
theorem q_lst (h : QA X Wx es dl) : QE X Wx (.List es pos) (dLst dl) := by
  obtain ⟨ta, pa, sa⟩ := h.ex
  refine ⟨_, pe_lst pa, fun σ H env L k x Q st h hk hx => ?_⟩
  refine sa σ H env L _ x _ st h (fun ds L1 vs H1 h1 g1 j1 r1 => ?_) hx
  refine ⟨by rw [r1.length]; exact h1.1, fun p hp => ?_⟩
  have s := same_new hp (.lst vs)
  exact hk _ L1 _ _ h1.2 (g1.trans (Go.same s)) (j1.same s) (.lst (j1.notIn hp) upd_same (r1.go (Go.same s)))
theorem q_lstM (h : QA X Wx es dl) : QE X Wx (.List es pos) (dLstM dl) := by
  obtain ⟨ta, pa, sa⟩ := h.ex
  refine ⟨_, pe_lst pa, fun σ H env L k x Q st h hk hx => ?_⟩
  refine sa σ H env L _ x _ st h (fun ds L1 vs H1 h1 g1 j1 r1 => ?_) hx
  refine ⟨by rw [r1.length]; exact h1.1, fun p hp => ?_⟩
  have gg : Go L1 ((p, .lst ds) :: L1) H1 (upd H1 p (.lst vs)) := .mk' fun a u n hh => by
    have ne : a ≠ p := ne_of_none hh hp
    exact ⟨fun m => (List.mem_cons.mp m).elim ne n, by rw [upd_ne ne]; exact hh⟩
  obtain ⟨j2, g2⟩ := j1.push (d := .lst ds) hp (o := .lst vs) ⟨vs, upd_same, r1.go gg⟩
  exact hk _ _ _ _ (h1.2 p (j1.notIn hp)) (g1.trans g2) j2 (.ptr p)
end
end DL
namespace DL
open PySem L2
section
variable {X : Cx} {Wx : WX} {a b c e o : Expr} {es rest : List Expr} {da db dc de do' di : DE} {dt du : DT} {dl dk : DA} {pos : Pos}
abbrev DSp := List D → Led → DK → (Exn → Led → Prop) → Prop
def spD (K : PySem.W.Frag) (f : DSp) : Sp := fun vs H Q E => ∃ ds L k x, JL K L H ∧ RpAll L K H vs ds ∧ f ds L k x ∧ KOk K L H k Q ∧ ∀ n L' a H', x n L' → Go L L' H H' → JL K L' H' → ExR L' K H' a n → E n.cls (some a) H'
def dCall (g : DSp) (dd : List D) (dl : DA) : DE := fun env L k x => dl env L (fun ds L1 => g (ds ++ dd) L1 k fun n L' => x n env L') x
theorem q_call {x : Str} {p : Pos} {k : Nat} {f : Addr} {fd : FuncData} {ps : List Str} {g : DSp} {us : List Value} {dvs : List V} {dd : List D} (F : FnOk X.prog X.w X.K X.mg X.base (L2.CX X.prog X.w) k f fd ps (spD X.K g)) (hr : Room k X.A) (hg : Gl X x) (hm : X.mg x = some (.ref f))
    (hk : PySem.W.keepIn X.K (.ref f) = true) (hb : Binds X.K fd ps us) (hd : Vals dvs us) (hdd : ∀ L H, RpAll L X.K H dvs dd) (tk : Takes X Wx) (ha : QA X Wx (e :: es) dl) (hdb : (x == ("__debug__" : Str)) = false := by decide)
    (he : starEach (e :: es) X.env = (false, eval e X.env) :: starEach es X.env := by rfl) (hpl : (backTo pos (starEach es X.env)).any (·.1) = false := by rfl) : QE X Wx (.Call (.Name x p) (e :: es) [] pos) (dCall g dd dl) := by
  obtain ⟨ta, pa, sa⟩ := ha.ex
  refine ⟨_, pe_callSD F hr hg hm hk hb hd (fun σ => passAt tk σ) pa hdb he hpl, fun σ H env L k x Q st h hk hx => ?_⟩
  refine sa σ H env L _ x _ st h (fun ds L1 vs H1 h1 g1 j1 r1 => ?_) hx
  exact ⟨ds ++ dd, L1, k, fun n L' => x n env L', j1, r1.append (hdd L1 H1), h1, hk.go g1, fun n L' a H' q g' j' r => hx n env L' a H' σ q (g1.trans g') (st.go (g1.trans g') j') r⟩
abbrev GC := List D → Led → (D → Prop) → Prop
def CQ (X : Cx) (f : Value) (g : GC) : Prop := ∃ r, CallR X f r ∧ ∀ H L vs ds k Q, JL X.K L H → RpAll L X.K H vs ds → g ds L k → ROk X.K L H k Q → r vs H Q
def dCB (g : GC) (dl : DA) : DE := fun env L k x => dl env L (fun ds L1 => g ds L1 fun d => k d L1) x
theorem sim_cb {K : PySem.W.Frag} {ta : TA} {r : List V → Hp → VK → Prop} {g : GC} (sa : SimA K Wx ta dl) (sr : ∀ H L vs ds k Q, JL K L H → RpAll L K H vs ds → g ds L k → ROk K L H k Q → r vs H Q) : SimE K Wx (tCB r ta) (dCB g dl) := by
  intro σ H env L k x Q st h hk hx
  refine sa σ H env L _ x _ st h (fun ds L1 vs H1 h1 g1 j1 r1 => ?_) hx
  exact sr H1 L1 vs ds _ Q j1 r1 h1 fun d v H' q s rp => hk d L1 v H' q (g1.trans (Go.same s)) (j1.same s) rp
theorem q_callB {x : Str} {p : Pos} {id : String} {g : GC} (hc : CQ X (.builtin id) g) (hg : Gl X x) (hm : X.mg x = none) (hv : bootBuiltins x = some (.builtin id)) (ha : QA X Wx (e :: es) dl) (hn : x ≠ "__name__" := by decide) (hdb : (x == ("__debug__" : Str)) = false := by decide)
    (he : starEach (e :: es) X.env = (false, eval e X.env) :: starEach es X.env := by rfl) (hpl : (backTo pos (starEach es X.env)).any (·.1) = false := by rfl) : QE X Wx (.Call (.Name x p) (e :: es) [] pos) (dCB g dl) := by
  obtain ⟨ta, pa, sa⟩ := ha.ex
  obtain ⟨r, hr, sr⟩ := hc
  exact ⟨_, pe_callB hr hg hm hv pa hn hdb he hpl, sim_cb sa sr⟩
theorem q_callTy {x : Str} {p : Pos} {T : String} {g : GC} (hc : CQ X (.type T) g) (hg : Gl X x) (hm : X.mg x = none) (hv : bootBuiltins x = some (.type T)) (ha : QA X Wx (e :: es) dl) (hn : x ≠ "__name__" := by decide) (hdb : (x == ("__debug__" : Str)) = false := by decide)
    (he : starEach (e :: es) X.env = (false, eval e X.env) :: starEach es X.env := by rfl) (hpl : (backTo pos (starEach es X.env)).any (·.1) = false := by rfl) : QE X Wx (.Call (.Name x p) (e :: es) [] pos) (dCB g dl) := by
  obtain ⟨ta, pa, sa⟩ := ha.ex
  obtain ⟨r, hr, sr⟩ := hc
  exact ⟨_, pe_callTy hr hg hm hv pa hn hdb he hpl, sim_cb sa sr⟩
end
abbrev DG := D → DEnv → Led → (DEnv → Prop) → Prop
abbrev DGs := List D → DEnv → Led → (DEnv → Prop) → Prop
section
variable {X : Cx} {Wx : WX} {a b c e o : Expr} {es rest : List Expr} {da db dc de : DE} {dt du : DT} {dl : DA} {pos : Pos}
/-- slots that a target stores -/
def Only' (sl : List Nat) (σ σ' : St) : Prop := ∀ vs : List Nat, (∀ i ∈ sl, i ∈ vs) → wipe σ' vs = wipe σ vs
def SimG (K : PySem.W.Frag) (sl : List Nat) (g : TG) (dg : DG) : Prop := ∀ v d σ H env L k Q, StL K σ H env L → Rp L K H v d → dg d env L k → (∀ σ' env', k env' → StL K σ' H env' L → Only' sl σ σ' → Q σ' H) → g v σ H Q
structure QG (X : Cx) (tg : Expr) (sl : List Nat) (dg : DG) : Prop where
  ex : ∃ g, PG X tg g ∧ SimG X.K sl g dg
structure QGs (X : Cx) (ts : List Expr) (sl : List Nat) (dg : DGs) : Prop where
  ex : ∃ g, PGs X ts g ∧ ∀ vs ds σ H env L k Q, StL X.K σ H env L → RpAll L X.K H vs ds → dg ds env L k → (∀ σ' env', k env' → StL X.K σ' H env' L → Only' sl σ σ' → Q σ' H) → g vs σ H Q
theorem wipe_set {σ : St} {o : Option V} {i : Nat} : ∀ {vs : List Nat}, i ∈ vs → wipe (σ.set i o) vs = wipe σ vs
  | [], h => by cases h
  | v :: vs, h => by
    by_cases e : i ∈ vs
    · unfold wipe
      rw [wipe_set e]
    · have e2 : i = v := by
        rcases List.mem_cons.mp h with q | q
        · exact q
        · exact absurd q e
      subst e2
      unfold wipe
      have key : ∀ (ws : List Nat), i ∉ ws → wipe (σ.set i o) ws = (wipe σ ws).set i o := by
        intro ws
        induction ws with
        | nil => intro _; rfl
        | cons w ws ih =>
          intro hn
          have h1 : i ≠ w := fun z => hn (by rw [z]; exact List.mem_cons_self)
          have h2 : i ∉ ws := fun z => hn (List.mem_cons_of_mem _ z)
          unfold wipe
          rw [ih h2, List.set_comm _ _ h1]
      rw [key vs e, List.set_set]
theorem only_set {σ : St} {o : Option V} {i : Nat} : Only' [i] σ (σ.set i o) := fun vs h => wipe_set (h i (by simp))
def dgName (i : Nat) : DG := fun d env _ k => k (env.set i (some d))
theorem g_name (i : Nat) {x : Str} (hN : X.N.Nodup) (hi : X.N[i]? = some x := by rfl) (hx : Loc X.env.scope x := by first | exact Or.inl rfl | exact Or.inr rfl) (hf : X.fn x = true ∨ X.env.scope.names.lookup x = some .local := by first | exact .inl rfl | exact .inr rfl | assumption) : QG X (.Name x pos) [i] (dgName i) :=
  ⟨_, pg_name hN hi hx hf, fun v d σ H env L k Q st r h hk => hk _ _ h ⟨st.1.set r i, st.2⟩ only_set⟩
def dgNil : DGs := fun ds env _ k => match ds with
  | [] => k env
  | _ => False
def dgCons (dg : DG) (dgs : DGs) : DGs := fun ds env L k => match ds with
  | d :: r => dg d env L fun env' => dgs r env' L k
  | [] => False
theorem gs_nil : QGs X [] [] dgNil := ⟨_, pgs_nil, fun vs ds σ H env L k Q st r h hk => by
  cases r with
  | nil => exact ⟨rfl, hk _ _ h st fun _ _ => rfl⟩
  | cons _ _ => exact h.elim⟩
theorem gs_cons {dg : DG} {dgs : DGs} {sl sl' : List Nat} (h1 : QG X e sl dg) (h2 : QGs X es sl' dgs) (hs : (assignEach (e :: es) X.env).map (·.2) = assign e X.env :: (assignEach es X.env).map (·.2) := by rfl) : QGs X (e :: es) (sl ++ sl') (dgCons dg dgs) := by
  obtain ⟨g, pg, sg⟩ := h1.ex
  obtain ⟨gs, pgs, sgs⟩ := h2.ex
  refine ⟨_, pgs_cons pg pgs hs, fun vs ds σ H env L k Q st r h hk => ?_⟩
  cases r with
  | nil => exact h.elim
  | cons r1 r2 =>
    refine ⟨_, _, rfl, sg _ _ σ H env L _ _ st r1 h fun σ' env' h' st' o1 => ?_⟩
    exact sgs _ _ σ' H env' L _ _ st' r2 h' fun σ2 env2 h2 st2 o2 => hk σ2 env2 h2 st2 fun vs hv => (o2 vs fun i hi => hv i (List.mem_append_right _ hi)).trans (o1 vs fun i hi => hv i (List.mem_append_left _ hi))
def dgTup (n : Nat) (dgs : DGs) : DG := fun d env L k => match d with
  | .tup ds => ds.length = n ∧ dgs ds env L k
  | _ => False
theorem g_tup {kk : Nat} {dgs : DGs} {n : Nat} {sl : List Nat} (hc : X.calm = true) (h : QGs X es sl dgs) (hn : (assignEach es X.env).length = n := by rfl) (hst : (assignEach es X.env).findIdx? (·.1) = none := by rfl) : QG X (.Tuple es kk pos) sl (dgTup n dgs) := by
  obtain ⟨gs, pgs, sgs⟩ := h.ex
  refine ⟨_, pg_tup hc pgs hn hst, fun v d σ H env L k Q st r h hk => ?_⟩
  cases r <;> first | exact h.elim | skip
  rename_i s r
  exact ⟨_, _, rfl, s.sq, by rw [r.length]; exact h.1, sgs _ _ σ H env L k Q st r h.2 hk⟩
def dNext : DS := fun D env L => D.nx env L
def dSeq (t u : DS) : DS := fun D env L => t { D with nx := u D } env L
theorem ss_nil : QSs X Wx [] dNext := ⟨_, pss_nil, fun σ H env L D' D st h ok => ok.nx env L σ H h (Go.refl L H) st⟩
theorem sim_seq {K : PySem.W.Frag} {t u : TS} {dt du : DS} (s1 : SimS K Wx t dt) (s2 : SimS K Wx u du) : SimS K Wx (tSeq t u) (dSeq dt du) := by
  intro σ H env L D' D st h ok
  refine s1 σ H env L _ _ st h ⟨fun env' L' σ' H' h' g' st' => ?_, ok.rt, ok.ex, ok.bk, ok.ct⟩
  exact s2 σ' H' env' L' D' D st' h' (ok.go g')
theorem ss_cons {st : Stmt} {rest : List Stmt} {dt du : DS} (h1 : QS X Wx st dt) (h2 : QSs X Wx rest du) : QSs X Wx (st :: rest) (dSeq dt du) := by
  obtain ⟨t, pt, st1⟩ := h1.ex
  obtain ⟨u, pu, su⟩ := h2.ex
  exact ⟨_, pss_cons pt pu, sim_seq st1 su⟩
theorem ss_one {st : Stmt} {dt : DS} (h1 : QS X Wx st dt) : QSs X Wx [st] dt := by
  obtain ⟨t, pt, st1⟩ := h1.ex
  exact ⟨_, pss_one pt, st1⟩
/-- a word between a statement and what follows -/
def dCut (t u : DS) : DS := fun D env L => ∃ M : DEnv → Led → Prop, t { D with nx := M } env L ∧ ∀ env' L', M env' L' → u D env' L'
theorem ss_cut {st : Stmt} {rest : List Stmt} {dt du : DS} (h1 : QS X Wx st dt) (h2 : QSs X Wx rest du) : QSs X Wx (st :: rest) (dCut dt du) := by
  obtain ⟨t, pt, st1⟩ := h1.ex
  obtain ⟨u, pu, su⟩ := h2.ex
  refine ⟨_, pss_cons pt pu, fun σ H env L D' D st h ok => ?_⟩
  obtain ⟨M, hm, hu⟩ := h
  refine st1 σ H env L _ _ st hm ⟨fun env' L' σ' H' h' g' st' => ?_, ok.rt, ok.ex, ok.bk, ok.ct⟩
  exact su σ' H' env' L' D' D st' (hu env' L' h') (ok.go g')
def dAsg (de : DE) (dg : DG) : DS := fun D env L => de env L (fun d L1 => dg d env L1 fun env' => D.nx env' L1) D.ex
theorem sim_asg {te : TE} {g : TG} {dg : DG} {sl : List Nat} (se : SimE X.K Wx te de) (sg : SimG X.K sl g dg) : SimS X.K Wx (tAsg te g) (dAsg de dg) := by
  intro σ H env L D' D st h ok
  refine se σ H env L _ _ _ st h (fun d L1 v H1 h1 g1 j1 r1 => ?_) ok.ex
  exact sg v d σ H1 env L1 _ _ (st.go g1 j1) r1 h1 fun σ' env' h' st' _ => ok.nx env' L1 σ' H1 h' g1 st'
theorem s_set (i : Nat) {x : Str} {pos' : Pos} (hN : X.N.Nodup) (he : QE X Wx e de) (hi : X.N[i]? = some x := by rfl) (hx : Loc X.env.scope x := by first | exact Or.inl rfl | exact Or.inr rfl) (hs : swapsWith e (some (.Name x pos')) pos.line X.env = pure false := by rfl) (hf : X.fn x = true ∨ X.env.scope.names.lookup x = some .local := by first | exact .inl rfl | exact .inr rfl | assumption) :
    QS X Wx (.Assign [.Name x pos'] e pos) (dAsg de (dgName i)) := by
  obtain ⟨te, pe, se⟩ := he.ex
  exact ⟨_, ps_set hN hi hx pe hs hf, sim_asg (sl := [i]) se fun v d σ H env L k Q st r h hk => hk _ _ h ⟨st.1.set r i, st.2⟩ only_set⟩
theorem s_asg {tg : Expr} {dg : DG} {sl : List Nat} (he : QE X Wx e de) (hg : QG X tg sl dg) (hs : swapsWithSole [tg] e pos.line X.env = pure false := by rfl) (hw : swappedStores [tg] e X.env = pure none := by rfl) (h1 : (assignEach [tg] X.env).map (·.2) = [assign tg X.env] := by rfl) : QS X Wx (.Assign [tg] e pos) (dAsg de dg) := by
  obtain ⟨te, pe, se⟩ := he.ex
  obtain ⟨g, pg, sg⟩ := hg.ex
  exact ⟨_, ps_asg pe pg hs hw h1, sim_asg se sg⟩
def dDrop (de : DE) : DS := fun D env L => de env L (fun _ L1 => D.nx env L1) D.ex
theorem s_expr (he : QE X Wx e de) (hs : swapsWith e none pos.line X.env = pure false := by rfl) : QS X Wx (.Expr e pos) (dDrop de) := by
  obtain ⟨te, pe, se⟩ := he.ex
  refine ⟨_, ps_expr pe hs, fun σ H env L D' D st h ok => ?_⟩
  exact se σ H env L _ _ _ st h (fun d L1 v H1 h1 g1 j1 r1 => ok.nx env L1 σ H1 h1 g1 (st.go g1 j1)) ok.ex
def dRet (de : DE) : DS := fun D env L => de env L D.rt D.ex
theorem s_ret (he : QE X Wx e de) : QS X Wx (.Return (some e) pos) (dRet de) := by
  obtain ⟨te, pe, se⟩ := he.ex
  exact ⟨_, ps_ret pe, fun σ H env L D' D st h ok => se σ H env L _ _ _ st h ok.rt ok.ex⟩
def dIfS (dt : DT) (t u : DS) : DS := fun D env L => dt env L (fun b L1 => match b with
  | true => t D env L1
  | false => u D env L1) D.ex
theorem s_if {as bs : List Stmt} {t u : DS} (hc : QT X Wx c dt) (ha : QSs X Wx as t) (hb : QSs X Wx bs u) : QS X Wx (.If c as bs pos) (dIfS dt t u) := by
  obtain ⟨tc, pc, sc⟩ := hc.ex
  obtain ⟨ta, pa, sa⟩ := ha.ex
  obtain ⟨tb, pb, sb⟩ := hb.ex
  refine ⟨_, ps_if pc pa pb, fun σ H env L D' D st h ok => ?_⟩
  refine sc σ H env L _ _ _ st h (fun b L1 H1 h1 g1 j1 => ?_) ok.ex
  cases b with
  | true => exact iteT (sa σ H1 env L1 D' D (st.go g1 j1) h1 (ok.go g1))
  | false => exact iteF (sb σ H1 env L1 D' D (st.go g1 j1) h1 (ok.go g1))
abbrev DI := DEnv → Led → (List D → Led → Prop) → DX → Prop
def ItD (K : PySem.W.Frag) (L : Led) (H : Hp) (J : It) (ds : List D) : Prop := ∀ L' H', Go L L' H H' → JL K L' H' → ∀ i, (∀ d, ds[i]? = some d → J.go i H' ∧ ∀ x H'', J.yld i H' x H'' → Same H' H'' ∧ Rp L' K H'' x d) ∧ (ds.length ≤ i → J.stop i H')
structure QI (X : Cx) (Wx : WX) (tg iter : Expr) (di : DI) : Prop where
  ex : ∃ wi, PI X tg iter wi ∧ ∀ σ H env L k x R, StL X.K σ H env L → di env L k x → (∀ ds L' J H', k ds L' → Go L L' H H' → JL X.K L' H' → ItD X.K L' H' J ds → R J H') → XOk X.K Wx L H x → wi σ H R
@[irreducible] def forD (dg : DG) (db : DS) (En : DEnds) : List D → DEnv → Led → Prop
  | [], env, L => En.nx env L
  | d :: ds, env, L => dg d env L fun env1 => db { En with nx := forD dg db En ds, ct := forD dg db En ds, bk := En.nx } env1 L
theorem forD_nil {dg : DG} {db : DS} {En : DEnds} {env : DEnv} {L : Led} : forD dg db En [] env L = En.nx env L := by with_unfolding_all rfl
theorem forD_cons {dg : DG} {db : DS} {En : DEnds} {d : D} {ds : List D} {env : DEnv} {L : Led} : forD dg db En (d :: ds) env L = dg d env L fun env1 => db { En with nx := forD dg db En ds, ct := forD dg db En ds, bk := En.nx } env1 L := by with_unfolding_all rfl
def dFor (di : DI) (dg : DG) (db : DS) : DS := fun D env L => di env L (fun ds L1 => forD dg db D ds env L1) D.ex
theorem s_for {tg iter : Expr} {body : List Stmt} {di : DI} {dg : DG} {db : DS} {sl : List Nat} (hp : PassesOwn (model X.prog X.w) X.A X.env X.xe) (hc : X.calm = true) (hi : QI X Wx tg iter di) (hg : QG X tg sl dg) (hb : QSs X Wx body db)
    (hs : ∀ x, foldedSetIterable iter X.env x = pure x := by intro _; rfl) : QS X Wx (.For tg iter body [] pos) (dFor di dg db) := by
  obtain ⟨wi, pi, si⟩ := hi.ex
  obtain ⟨g, pg, sg⟩ := hg.ex
  obtain ⟨tb, pb, sb⟩ := hb.ex
  refine ⟨_, ps_for hp hc pi pg pb hs, fun σ H env L D' D st h ok => ?_⟩
  refine si σ H env L _ _ _ st h (fun ds L1 J H1 h1 g1 j1 it => ?_) ok.ex
  refine ⟨fun i m σ' H' => m = ds.length - i ∧ i ≤ ds.length ∧ ∃ env' L', StL X.K σ' H' env' L' ∧ Go L1 L' H1 H' ∧ forD dg db D' (ds.drop i) env' L', ⟨ds.length, by omega, by omega, env, L1, st.go g1 j1, Go.refl L1 H1, h1⟩, ?_⟩
  rintro i m σ2 H2 ⟨rfl, hi, env2, L2, st2, g2, h2⟩
  obtain ⟨i1, i2⟩ := it L2 H2 g2 st2.2 i
  by_cases hlt : i < ds.length
  · have e : ds[i]? = some ds[i] := List.getElem?_eq_getElem hlt
    obtain ⟨go, yl⟩ := i1 _ e
    rw [List.drop_eq_getElem_cons hlt, forD_cons] at h2
    refine .inr ⟨go, fun σ' H' => ∃ env' L', StL X.K σ' H' env' L' ∧ Go L1 L' H1 H' ∧ forD dg db D' (ds.drop (i + 1)) env' L', fun σ' H' n => ⟨ds.length - (i + 1), by omega, rfl, hlt, n⟩, fun x H' y => ?_⟩
    obtain ⟨s, rx⟩ := yl x H' y
    have g3 : Go L2 L2 H2 H' := Go.same s
    refine sg x _ σ2 H' env2 L2 _ _ (st2.go g3 (st2.2.same s)) rx h2 fun σ3 env3 h3 st3 _ => ?_
    have g4 : Go L1 L2 H1 H' := g2.trans g3
    refine sb σ3 H' env3 L2 _ _ st3 h3 ⟨fun env' L' σ' H'' q g' st' => ⟨env', L', st', g4.trans g', q⟩, (ok.go (g1.trans g4)).rt, (ok.go (g1.trans g4)).ex, (ok.go (g1.trans g4)).nx, fun env' L' σ' H'' q g' st' => ⟨env', L', st', g4.trans g', q⟩⟩
  · have e : i = ds.length := by omega
    subst e
    rw [List.drop_length, forD_nil] at h2
    exact .inl ⟨i2 (Nat.le_refl _), ok.nx env2 L2 σ2 H2 h2 (g1.trans g2) st2⟩
/-- for x in range(n), range(a, b) -/
def rngD (lo : Int) : Nat → List D
  | 0 => []
  | n + 1 => .int lo :: rngD (lo + 1) n
theorem rngD_len : ∀ (n : Nat) (lo : Int), (rngD lo n).length = n
  | 0, _ => rfl
  | n + 1, lo => by show (rngD (lo + 1) n).length + 1 = n + 1; rw [rngD_len n]
theorem rngD_get : ∀ (n : Nat) (lo : Int) (i : Nat) (d : D), (rngD lo n)[i]? = some d → i < n ∧ d = .int (lo + i)
  | 0, _, _, _, h => by simp [rngD] at h
  | n + 1, lo, 0, d, h => by
    simp [rngD] at h
    exact ⟨by omega, by rw [← h]; simp⟩
  | n + 1, lo, i + 1, d, h => by
    obtain ⟨h1, h2⟩ := rngD_get n (lo + 1) i d (by simpa [rngD] using h)
    refine ⟨by omega, ?_⟩
    rw [h2]
    congr 1
    omega
theorem it_rng {K : PySem.W.Frag} {L : Led} {H : Hp} {lo : Int} {n : Nat} : ItD K L H (Itr lo n) (rngD lo n) := fun L' H' g j i => by
  refine ⟨fun d hd => ?_, fun h => ?_⟩
  · obtain ⟨h1, h2⟩ := rngD_get n lo i d hd
    subst h2
    exact ⟨h1, fun x H'' y => by
      obtain ⟨e1, e2⟩ := y
      subst e1 e2
      exact ⟨Same.refl _, .int _⟩⟩
  · rw [rngD_len] at h
    exact h
def diRange (dl : DA) : DI := fun env L k x => dl env L (fun ds L1 => match ds with
  | [.int n] => (-(2 ^ 62) ≤ n ∧ n < 2 ^ 62) ∧ k (rngD 0 n.toNat) L1
  | _ => False) x
theorem i_range1 {tg : Expr} {p : Pos} (hg : Gl X "range") (hm : X.mg "range" = none) (ha : QA X Wx [e] dl) (hs : starEach [e] X.env = [(false, eval e X.env)] := by rfl) : QI X Wx tg (.Call (.Name "range" p) [e] [] pos) (diRange dl) := by
  obtain ⟨ta, pa, sa⟩ := ha.ex
  refine ⟨_, pi_range1 hg hm pa hs, fun σ H env L k x R st h hk hx => ?_⟩
  refine sa σ H env L _ _ _ st h (fun ds L1 vs H1 h1 g1 j1 r1 => ?_) hx
  split at h1
  · rename_i n
    obtain ⟨⟨q1, q2⟩, h1⟩ := h1
    cases r1 with
    | cons r1 r2 =>
      cases r2
      cases r1
      exact ⟨n, rfl, q1, q2, hk _ L1 _ H1 h1 g1 j1 it_rng⟩
  · exact h1.elim
theorem it_list {K : PySem.W.Frag} {L : Led} {H : Hp} {a : Addr} {vs : List V} {ds : List D} (h : SqL' L K H a vs) (r : RpAll L K H vs ds) : ItD K L H (Itl K a) ds := fun L' H' g j i => by
  have h' := (g.sqL h).sq
  have r' := r.go g
  refine ⟨fun d hd => ?_, fun hi => ⟨vs, h', by rw [r.length]; exact hi⟩⟩
  obtain ⟨v, hv, rv⟩ := r'.get hd
  exact ⟨⟨vs, v, h', hv⟩, fun x H'' y => by
    obtain ⟨e1, e2⟩ := y
    subst e1
    have e3 := e2 vs h'
    rw [hv] at e3
    cases e3
    exact ⟨Same.refl _, rv⟩⟩
theorem it_tup {K : PySem.W.Frag} {L : Led} {H : Hp} {a : Addr} {vs : List V} {ds : List D} (h : SqT' L K H a vs) (r : RpAll L K H vs ds) : ItD K L H (Itt K a) ds := fun L' H' g j i => by
  have h' := (g.sqT h).sq
  have r' := r.go g
  refine ⟨fun d hd => ?_, fun hi => ⟨vs, h', by rw [r.length]; exact hi⟩⟩
  obtain ⟨v, hv, rv⟩ := r'.get hd
  exact ⟨⟨vs, v, h', hv⟩, fun x H'' y => by
    obtain ⟨e1, e2⟩ := y
    subst e1
    have e3 := e2 vs h'
    rw [hv] at e3
    cases e3
    exact ⟨Same.refl _, rv⟩⟩
def diL (da : DE) : DI := fun env L k x => da env L (fun d L1 => match d with
  | .lst ds => k ds L1
  | .ro ds => k ds L1
  | _ => False) x
def diT (da : DE) : DI := fun env L k x => da env L (fun d L1 => match d with
  | .tup ds => k ds L1
  | _ => False) x
theorem i_list {tg : Expr} (ha : QE X Wx e da) : QI X Wx tg e (diL da) := by
  obtain ⟨ta, pa, sa⟩ := ha.ex
  refine ⟨_, pi_list pa, fun σ H env L k x R st h hk hx => ?_⟩
  refine sa σ H env L _ _ _ st h (fun d L1 v H1 h1 g1 j1 r1 => ?_) hx
  cases r1 <;> first | exact h1.elim | skip
  · rename_i n s r
    exact ⟨_, rfl, ⟨_, SqL.of s⟩, hk _ L1 _ H1 h1 g1 j1 (it_list (.inl ⟨n, .inl s⟩) r)⟩
  · rename_i s r
    exact ⟨_, rfl, ⟨_, s.sq⟩, hk _ L1 _ H1 h1 g1 j1 (it_list s r)⟩
theorem i_tup {tg : Expr} (ha : QE X Wx e da) : QI X Wx tg e (diT da) := by
  obtain ⟨ta, pa, sa⟩ := ha.ex
  refine ⟨_, pi_tup pa, fun σ H env L k x R st h hk hx => ?_⟩
  refine sa σ H env L _ _ _ st h (fun d L1 v H1 h1 g1 j1 r1 => ?_) hx
  cases r1 <;> first | exact h1.elim | skip
  rename_i s r
  exact ⟨_, rfl, ⟨_, s.sq⟩, hk _ L1 _ H1 h1 g1 j1 (it_tup s r)⟩
end
section
open PySem.Spec PyProof.Rows
variable {P : Program} {w : World} {K : PySem.W.Frag} {mg : Str → Option Value} {base : Heap}
def endsD (k : DK) (x : Exn → Led → Prop) : DEnds := { nx := fun _ L => k .non L, rt := k, ex := fun n _ L => x n L, bk := fun _ _ => False, ct := fun _ _ => False }
def startD (N : List Str) (ds : List D) : DEnv := ds.map some ++ List.replicate (N.length - ds.length) none
abbrev wxOf (E : XK) : WX := fun cls d _ H => E cls d H
theorem fn_ok {x qual : Str} {st : Stmt} {f : Addr} {fd : FuncData} {N ps : List Str} {k : Nat} {g : DSp} (F : Fun K x qual st f fd) (S : FnScope N ps (defScope st)) (len : ∀ ds L k x, g ds L k x → ds.length = ps.length)
    (body : ∀ (cdv : Value) (A : Around) (outer : List Env) (s : Shared) (H : Hp) (E : XK), Room k (A.deeper (envOfC qual (defScope st) s.heap.objs.size f cdv)) →
      ∃ t, QSs (cxOf (L2.CX P w) P w K mg base N qual (defScope st) f cdv A outer s H E) (wxOf E) (defBody st) t ∧ ∀ ds L k x, g ds L k x → t (endsD k x) (startD N ds) L) : FnOk P w K mg base (L2.CX P w) (k + 1) f fd ps (spD K g) := by
  refine F.okX S (fun vs H Q E h => ?_) (fun cdv A outer s H vs Q E hr h => ?_)
  · obtain ⟨ds, L, k, x, j, r, h, _⟩ := h
    rw [r.length]
    exact len ds L k x h
  · obtain ⟨ds, L, k, x, j, r, h, hk, hx⟩ := h
    obtain ⟨t, q, ht⟩ := body cdv A outer s H E hr
    obtain ⟨ts, pts, sts⟩ := q.ex
    refine ⟨ts, pts, sts _ H (startD N ds) L (endsD k x) _ ⟨?_, j⟩ (ht ds L k x h) ?_⟩
    · unfold L2.start startD
      rw [r.length]
      exact Sto.start r
    · exact ⟨fun env' L' σ' H' q g' st' => hk .non L' .non H' q g' st'.2 .non, hk, fun n env' L' a H' σ' q g' st' r' => hx n L' a H' q g' st'.2 r', fun _ _ _ _ q => q.elim, fun _ _ _ _ q => q.elim⟩
end
end DL
namespace DL
open PySem L2
def setL (L : Led) (p : Addr) (d : D) : Led := L.map fun q => if q.1 = p then (p, d) else q
def remL (L : Led) (p : Addr) : Led := L.filter fun q => decide (q.1 ≠ p)
theorem setL_keys (L : Led) (p : Addr) (d : D) : (setL L p d).map (·.1) = L.map (·.1) := by
  unfold setL
  rw [List.map_map]
  refine List.map_congr_left fun q _ => ?_
  show (if q.1 = p then (p, d) else q).1 = q.1
  split
  · rename_i h; exact h.symm
  · rfl
theorem inL_setL {L : Led} {p a : Addr} {d : D} : inL (setL L p d) a ↔ inL L a := by unfold inL; rw [setL_keys]
theorem setL_out {L : Led} {p : Addr} {d : D} (h : ¬ inL L p) : setL L p d = L := by
  unfold setL
  have : ∀ q ∈ L, (if q.1 = p then (p, d) else q) = id q := fun q hq => by
    rw [if_neg fun e => h (List.mem_map.mpr ⟨q, hq, e⟩)]; rfl
  rw [List.map_congr_left this, List.map_id]
theorem setL_top {L : Led} {p : Addr} {c d : D} (h : ¬ inL L p) : setL ((p, c) :: L) p d = (p, d) :: L := by
  show (if p = p then (p, d) else (p, c)) :: setL L p d = _
  rw [if_pos rfl, setL_out h]
theorem setL_ne {L : Led} {p q : Addr} {c d : D} (h : q ≠ p) : setL ((q, c) :: L) p d = (q, c) :: setL L p d := by
  show (if q = p then (p, d) else (q, c)) :: setL L p d = _
  rw [if_neg h]
theorem remL_out {L : Led} {p : Addr} (h : ¬ inL L p) : remL L p = L := by
  unfold remL
  refine List.filter_eq_self.mpr fun q hq => decide_eq_true fun e => h (List.mem_map.mpr ⟨q, hq, e⟩)
theorem remL_top {L : Led} {p : Addr} {c : D} (h : ¬ inL L p) : remL ((p, c) :: L) p = L := by
  unfold remL
  rw [List.filter_cons, if_neg (by simp)]
  exact remL_out h
theorem inL_remL {L : Led} {p a : Addr} : inL (remL L p) a ↔ inL L a ∧ a ≠ p := by
  unfold inL remL
  constructor
  · intro h
    obtain ⟨q, hq, e⟩ := List.mem_map.mp h
    obtain ⟨h1, h2⟩ := List.mem_filter.mp hq
    subst e
    exact ⟨List.mem_map.mpr ⟨q, h1, rfl⟩, of_decide_eq_true h2⟩
  · rintro ⟨h, hn⟩
    obtain ⟨q, hq, e⟩ := List.mem_map.mp h
    subst e
    exact List.mem_map.mpr ⟨q, List.mem_filter.mpr ⟨hq, decide_eq_true hn⟩, rfl⟩
theorem lookup_top {L : Led} {p : Addr} {c : D} : List.lookup p ((p, c) :: L) = some c := List.lookup_cons_self
theorem lookup_ne {L : Led} {p q : Addr} {c : D} (h : p ≠ q) : List.lookup p ((q, c) :: L) = List.lookup p L := by
  have e : (p == q) = false := by simpa using h
  rw [List.lookup_cons, e]
theorem inL_of_lookup {L : Led} {p : Addr} {c : D} (h : L.lookup p = some c) : inL L p := List.mem_map.mpr ⟨_, mem_of_lookup h, rfl⟩
theorem inL_cons {L : Led} {p a : Addr} {c : D} : inL ((p, c) :: L) a ↔ a = p ∨ inL L a := by unfold inL; simp
section
variable {L L' : Led} {K : PySem.W.Frag} {H H' : Hp} {a p : Addr} {d : D} {o : HO}
theorem go_set (h : inL L p) : Go L (setL L p d) H (upd H p o) := .mk' fun a u n e => by
  have ne : a ≠ p := fun z => n (z ▸ h)
  exact ⟨fun m => n (inL_setL.mp m), by rw [upd_ne ne]; exact e⟩
theorem JL.put (j : JL K L H) (h : inL L p) (ow : Own (setL L p d) K (upd H p o) p d) : JL K (setL L p d) (upd H p o) := by
  refine ⟨by rw [setL_keys]; exact j.nd, fun a e m => ?_⟩
  obtain ⟨q, hq, eq⟩ := List.mem_map.mp m
  by_cases hp : q.1 = p
  · rw [if_pos hp] at eq
    cases eq
    exact ow
  · rw [if_neg hp] at eq
    subst eq
    exact Own.move (j.own _ _ hq) (go_set h) fun u e => by rw [upd_ne hp]; exact e
theorem go_rem : Go L (remL L p) H H := .mk' fun a u n e => ⟨fun m => n (inL_remL.mp m).1, e⟩
theorem JL.rem (j : JL K L H) : JL K (remL L p) H := by
  refine ⟨?_, fun a e m => ?_⟩
  · have : ((remL L p).map (·.1)).Sublist (L.map (·.1)) := (List.filter_sublist).map _
    exact j.nd.sublist this
  · exact Own.move (j.own _ _ (List.mem_filter.mp m).1) go_rem fun u e => e
end
section
variable {X : Cx} {Wx : WX} {a b c e o : Expr} {es rest : List Expr} {da db dc de do' di : DE} {dt du : DT} {dl dk : DA} {pos : Pos}
theorem QE.w (h : QE X Wx e de) {de' : DE} (hw : ∀ env L k x, de' env L k x → de env L k x) : QE X Wx e de' := by
  obtain ⟨te, pe, se⟩ := h.ex
  exact ⟨te, pe, fun σ H env L k x Q st h hk hx => se σ H env L k x Q st (hw env L k x h) hk hx⟩
/-- the reading by data, as a reading of the layer -/
def teOf (K : PySem.W.Frag) (Wx : WX) (de : DE) : TE := fun σ H Q => ∃ env L k x, StL K σ H env L ∧ de env L k x ∧ KOk K L H k Q ∧ XOk K Wx L H x
theorem QE.pe (h : QE X Wx e de) : PE X e (teOf X.K Wx de) := by
  obtain ⟨te, pe, se⟩ := h.ex
  refine ⟨fun pins s σ H Q I hw => ?_⟩
  obtain ⟨env, L, k, x, st, h, hk, hx⟩ := hw
  exact pe.run pins s σ H Q I (se σ H env L k x Q st h hk hx)
def ttOf (K : PySem.W.Frag) (Wx : WX) (dt : DT) : TT := fun σ H Q => ∃ env L k x, StL K σ H env L ∧ dt env L k x ∧ (∀ b L' H', k b L' → Go L L' H H' → JL K L' H' → Q b H') ∧ XOk K Wx L H x
theorem QT.pt (h : QT X Wx e dt) : PT X e (ttOf X.K Wx dt) := by
  obtain ⟨te, pe, se⟩ := h.ex
  refine ⟨fun pins s σ H Q I hw => ?_⟩
  obtain ⟨env, L, k, x, st, h, hk, hx⟩ := hw
  exact pe.run pins s σ H Q I (se σ H env L k x Q st h hk hx)
def tgOf (K : PySem.W.Frag) (sl : List Nat) (dg : DG) : TG := fun v σ H Q => ∃ d env L k, StL K σ H env L ∧ Rp L K H v d ∧ dg d env L k ∧ ∀ σ' env', k env' → StL K σ' H env' L → Only' sl σ σ' → Q σ' H
theorem QG.pg {tg : Expr} {sl : List Nat} {dg : DG} (h : QG X tg sl dg) : PG X tg (tgOf X.K sl dg) := by
  obtain ⟨g, pg, sg⟩ := h.ex
  refine ⟨fun pins s σ H v u Q I r hw => ?_⟩
  obtain ⟨d, env, L, k, st, rd, h, hk⟩ := hw
  exact pg.run pins s σ H v u Q I r (sg v d σ H env L k Q st rd h hk)
def dStore (de do' di : DE) : DS := fun D env L => de env L (fun v L1 => do' env L1 (fun o L2 => di env L2 (fun i L3 => match o, i with
  | .ptr p, .int z => match L3.lookup p with
    | some (.lst ds) => match ixN ds.length z with
      | some j => D.nx env (setL L3 p (.lst (ds.set j v)))
      | none => False
    | _ => False
  | _, _ => False) D.ex) D.ex) D.ex
theorem s_store {i : Expr} {ip : Pos} (he : QE X Wx e de) (ho : QE X Wx o do') (hi : QE X Wx i di) (hix : ∀ h0 : PE X o (teOf X.K Wx do'), ∀ h1 : PE X i (teOf X.K Wx di), PG X (.Subscript o i ip) (L2.gSub (teOf X.K Wx do') (teOf X.K Wx di) rSetL) := by exact fun h0 h1 => pg_sub h0 h1 set_list)
    (hs : swapsWithSole [.Subscript o i ip] e pos.line X.env = pure false := by rfl) (hw : swappedStores [.Subscript o i ip] e X.env = pure none := by rfl) (h1 : (assignEach [.Subscript o i ip] X.env).map (·.2) = [assign (.Subscript o i ip) X.env] := by rfl) : QS X Wx (.Assign [.Subscript o i ip] e pos) (dStore de do' di) := by
  obtain ⟨te, pe, se⟩ := he.ex
  refine ⟨_, ps_asg pe (hix ho.pe hi.pe) hs hw h1, fun σ H env L D' D st h ok => ?_⟩
  refine se σ H env L _ _ _ st h (fun v L1 vv H1 h1 g1 j1 r1 => ?_) ok.ex
  refine ⟨env, L1, _, D'.ex, st.go g1 j1, h1, fun o L2 vo H2 h2 g2 j2 r2 => ?_, ok.ex.go g1⟩
  refine ⟨env, L2, _, D'.ex, (st.go g1 j1).go g2 j2, h2, fun i L3 vi H3 h3 g3 j3 r3 => ?_, (ok.ex.go g1).go g2⟩
  have r2 := r2.go g3
  have r1 := (r1.go g2).go g3
  dsimp only at h3 ⊢
  split at h3
  · cases r2 with
    | ptr p =>
    cases r3 with
    | int z =>
    split at h3
    · rename_i ds hl
      split at h3
      · rename_i j hj
        obtain ⟨vs, e1, rv⟩ := j3.look hl
        have hp := inL_of_lookup hl
        refine ⟨_, vs, _, j, rfl, rfl, e1, by rw [rv.length]; exact hj, ?_⟩
        have g4 : Go L3 (setL L3 _ (.lst (ds.set j v))) H3 (upd H3 _ (.lst (vs.set j vv))) := go_set hp
        have j4 : JL X.K (setL L3 _ (.lst (ds.set j v))) (upd H3 _ (.lst (vs.set j vv))) := j3.put hp ⟨_, upd_same, (rv.go g4).set (r1.go g4) j⟩
        exact ok.nx env _ σ _ h3 (((g1.trans g2).trans g3).trans g4) (st.go (((g1.trans g2).trans g3).trans g4) j4)
      · exact h3.elim
    · exact h3.elim
  · exact h3.elim
end
end DL
namespace DL
open PySem L2
section
variable {X : Cx} {Wx : WX} {a b c e o : Expr} {es rest : List Expr} {da db dc de do' di : DE} {dt du : DT} {dl dk : DA} {pos : Pos}
def lenD (L : Led) (d : D) : Option Nat := match seqs (con L d) with
  | some ds => some ds.length
  | none => none
def gLen : GC := fun ds L k => match ds with
  | [.str z] => z.length ≤ sizeLine ∧ k (.int z.length)
  | [d] => match lenD L d with
    | some n => k (.int n)
    | none => False
  | _ => False
theorem cq_len : CQ X (.builtin "len") gLen := ⟨_, call_len, fun H L vs ds k Q j r h hk => by
  unfold gLen at h
  split at h
  · cases r with
    | cons r1 r2 =>
      cases r2
      cases r1
      exact ⟨_, _, rfl, ⟨h.1, rfl⟩, hk _ _ H h.2 (Same.refl H) (.int _)⟩
  · rename_i d _
    cases r with
    | cons r1 r2 =>
      cases r2
      split at h
      · rename_i n hn
        unfold lenD at hn
        split at hn
        · rename_i ds' hd
          cases hn
          obtain ⟨a, vs, rfl, hs, rv⟩ := con_seq j r1 hd
          refine ⟨_, ds'.length, rfl, ?_, hk _ _ H h (Same.refl H) (.int _)⟩
          rcases hs with hs | hs
          · exact .inl ⟨vs, hs, rv.length.symm⟩
          · exact .inr ⟨vs, hs, rv.length.symm⟩
        · cases hn
      · exact h.elim
  · exact h.elim⟩
def gAbs : GC := fun ds _ k => match ds with
  | [.int i] => k (.int (if i < 0 then -i else i))
  | _ => False
theorem cq_abs : CQ X (.builtin "abs") gAbs := ⟨_, call_abs, fun H L vs ds k Q j r h hk => by
  unfold gAbs at h
  split at h
  · cases r with
    | cons r1 r2 =>
      cases r2
      cases r1
      exact ⟨_, rfl, hk _ _ H h (Same.refl H) (.int _)⟩
  · exact h.elim⟩
def gInt : GC := fun ds _ k => match ds with
  | [.int i] => k (.int i)
  | [.bl b] => k (.int (if b then 1 else 0))
  | _ => False
theorem cq_int : CQ X (.type "int") gInt := ⟨_, call_int1, fun H L vs ds k Q j r h hk => by
  unfold gInt at h
  split at h
  · cases r with
    | cons r1 r2 =>
      cases r2
      cases r1
      exact .inl ⟨_, rfl, hk _ _ H h (Same.refl H) (.int _)⟩
  · cases r with
    | cons r1 r2 =>
      cases r2
      cases r1
      exact .inr ⟨_, rfl, hk _ _ H h (Same.refl H) (.int _)⟩
  · exact h.elim⟩
def gStr : GC := fun ds _ k => match ds with
  | [.int i] => i.natAbs.log2 < 1920 ∧ k (.str (toString i))
  | _ => False
theorem cq_str : CQ X (.type "str") gStr := ⟨_, call_str_int, fun H L vs ds k Q j r h hk => by
  unfold gStr at h
  split at h
  · cases r with
    | cons r1 r2 =>
      cases r2
      cases r1
      exact ⟨_, rfl, h.1, hk _ _ H h.2 (Same.refl H) (.str _)⟩
  · exact h.elim⟩
def gList : GC := fun ds L k => match ds with
  | [d] => match seqs (con L d) with
    | some xs => k (.lst xs)
    | none => False
  | _ => False
theorem cq_list : CQ X (.type "list") gList := ⟨_, call_list_of, fun H L vs ds k Q j r h hk => by
  unfold gList at h
  split at h
  · cases r with
    | cons r1 r2 =>
      cases r2
      split at h
      · rename_i xs hd
        obtain ⟨a, vs, rfl, hs, rv⟩ := con_seq j r1 hd
        refine ⟨a, vs, rfl, hs, fun l hl => ?_⟩
        have s := same_new hl (.lst vs)
        exact hk _ _ _ h s (.lst (j.notIn hl) upd_same (rv.go (Go.same s)))
      · exact h.elim
  · exact h.elim⟩
def blsOf : List D → Option (List Bool)
  | [] => some []
  | .bl b :: r => match blsOf r with
    | some bs => some (b :: bs)
    | none => none
  | _ => none
theorem blsOf_eq : ∀ {ds : List D} {bs : List Bool}, blsOf ds = some bs → ds = bs.map D.bl
  | [], bs, h => by cases h; rfl
  | d :: r, bs, h => by
    cases d <;> first | (cases h; done) | skip
    unfold blsOf at h
    split at h
    · rename_i bs' hb
      cases h
      rw [blsOf_eq hb]; rfl
    · cases h
theorem blsOf_map : ∀ (bs : List Bool), blsOf (bs.map D.bl) = some bs
  | [] => rfl
  | b :: r => by show (match blsOf (r.map D.bl) with | some bs => some (b :: bs) | none => none) = _; rw [blsOf_map r]
def gAll : GC := fun ds L k => match ds with
  | [d] => match con L d with
    | .lst xs => match blsOf xs with
      | some bs => k (.bl (bs.all id))
      | none => False
    | _ => False
  | _ => False
theorem cq_all (hc : X.calm = true) : CQ X (.builtin "all") gAll := ⟨_, cr_all hc, fun H L vs ds k Q j r h hk => by
  unfold gAll at h
  split at h
  · cases r with
    | cons r1 r2 =>
      cases r2
      split at h
      · rename_i xs hd
        split at h
        · rename_i bs hb
          obtain ⟨a, vs, rfl, hs, rv⟩ := con_lst j r1 hd
          rw [blsOf_eq hb] at rv
          have e := rv.ofBls
          subst e
          exact ⟨a, bs, rfl, SqL.of hs, hk _ _ H h (Same.refl H) (.bl _)⟩
        · exact h.elim
      · exact h.elim
  · exact h.elim⟩
inductive Ty where
  | non | bl | int | str | lst | tup | dct
  deriving DecidableEq
def Ty.nm : Ty → String
  | .non => "NoneType" | .bl => "bool" | .int => "int" | .str => "str" | .lst => "list" | .tup => "tuple" | .dct => "dict"
def tyD : D → Option Ty
  | .non => some .non
  | .bl _ => some .bl
  | .int _ => some .int
  | .str _ => some .str
  | .lst _ => some .lst
  | .ro _ => some .lst
  | .tup _ => some .tup
  | .dk _ _ => some .dct
  | .kt _ => some .tup
  | _ => none
def isTy : Ty → Ty → Bool
  | .bl, .int => true
  | .bl, .bl => true
  | .int, .int => true
  | .str, .str => true
  | .lst, .lst => true
  | .tup, .tup => true
  | .dct, .dct => true
  | .non, .non => true
  | _, _ => false
theorem kit_isTy (t c : Ty) (h : c ≠ .non) : kitB t.nm c.nm = some (isTy t c) := by
  cases t <;> cases c <;> first | exact absurd rfl h | decide +kernel
theorem ty_of {L : Led} {K : PySem.W.Frag} {H : Hp} {v : V} {d : D} {t : Ty} (r : Rp L K H v d) (h : tyD d = some t) : TyX K H v (.type t.nm) := by
  cases r <;> first | (cases h; done) | skip
  all_goals cases h
  · exact .base .non
  · exact .base (.bl _)
  · exact .base (.int _)
  · exact .base (.str _)
  · rename_i n e r
    exact .base (.lst e)
  · rename_i s r
    rcases s with ⟨_, s | ⟨o, s⟩⟩ | ⟨o, its, n, h1, h2, _⟩
    · exact .base (.lst s)
    · exact .base (.frz s)
    · exact .kList h1 h2
  · rename_i s r
    rcases s with ⟨_, s | ⟨o, s⟩⟩ | ⟨o, its, n, h1, h2, _⟩
    · exact .base (.tup s)
    · exact .fTuple s
    · exact .kTuple h1 h2
  · rename_i n s _ _
    rcases s with s | ⟨o, s⟩
    · exact .base (.dK s)
    · exact .fDict s
  · rename_i n s
    exact .base (.tup s)
end
end DL
namespace DL
open PySem L2
section
variable {X : Cx} {Wx : WX} {a b c e o : Expr} {es rest : List Expr} {da db dc de do' di : DE} {dt du : DT} {dl dk : DA} {pos : Pos}
/-- isinstance(x, T) -/
def gIsi (c : Ty) : G1 := fun a L k => match tyD (con L a) with
  | some t => k (.bl (isTy t c))
  | none => False
def gIsi2 (c c' : Ty) : G1 := fun a L k => match tyD (con L a) with
  | some t => k (.bl (isTy t c || isTy t c'))
  | none => False
theorem tyX_con {L : Led} {K : PySem.W.Frag} {H : Hp} {v : V} {d : D} {t : Ty} (j : JL K L H) (r : Rp L K H v d) (h : tyD (con L d) = some t) : TyX K H v (.type t.nm) := by
  cases d with
  | ptr a =>
    cases r
    have h : tyD ((L.lookup a).getD (.ptr a)) = some t := h
    cases q : L.lookup a with
    | none => rw [q] at h; cases h
    | some c =>
      rw [q] at h
      have h : tyD c = some t := h
      have ow := j.look q
      cases c with
      | lst ds => cases h; obtain ⟨vs, e, _⟩ := ow; exact .base (.lst e)
      | dk ks ds => cases h; obtain ⟨vs, e, _⟩ := ow; exact .base (.dK e)
      | _ => first | exact ow.elim | cases h
  | _ => exact ty_of r h
def gcIsi (c : Ty) : GC := fun ds L k => match ds with
  | [d, .ty n] => n = c.nm ∧ gIsi c d L k
  | _ => False
theorem cq_isi {c : Ty} (hc : c ≠ .non) : CQ X (.builtin "isinstance") (gcIsi c) := ⟨_, call_isi, fun H L vs ds k Q j r h hk => by
  unfold gcIsi at h
  split at h
  · rename_i d n
    obtain ⟨rfl, h⟩ := h
    unfold gIsi at h
    split at h
    · rename_i t ht
      cases r with
      | cons r1 r2 => cases r2 with
        | cons r2 r3 =>
        cases r3
        cases r2
        exact ⟨_, _, _, _, _, rfl, .ty _, tyX_con j r1 ht, kit_ty (kit_isTy t c hc), hk _ _ H h (Same.refl H) (.bl _)⟩
    · exact h.elim
  · exact h.elim⟩
theorem q_isi {p p2 : Pos} {T : Str} (c : Ty) (ha : QE X Wx e da) (hg : Gl X "isinstance") (hm : X.mg "isinstance" = none) (hgT : Gl X T) (hmT : X.mg T = none) (hv : bootBuiltins T = some (.type c.nm)) (hc : c ≠ .non := by decide)
    (hn : T ≠ "__name__" := by decide) (hd : (T == ("__debug__" : Str)) = false := by decide) (hs : starEach (e :: [.Name T p2]) X.env = (false, eval e X.env) :: starEach [.Name T p2] X.env := by rfl) (hv0 : bootBuiltins "isinstance" = some (.builtin "isinstance") := by decide +kernel) :
    QE X Wx (.Call (.Name "isinstance" p) [e, .Name T p2] [] pos) (dUn (gIsi c) da) := by
  refine (q_callB (g := gcIsi c) (cq_isi hc) hg hm hv0 (a_cons ha (a_cons (q_bltn (v := .ty c.nm) (d := .ty c.nm) hgT hmT hv rfl (fun _ _ => .ty _) hn hd) a_nil (by rfl)) hs) (by decide) (by decide) hs (by rfl)).w ?_
  intro env L k x h
  exact (show dCB (gcIsi c) (dCons da (dCons (dC (.ty c.nm)) dNil)) env L k x from by
    unfold dCB dCons dC dNil
    unfold dUn at h
    refine cast ?_ h
    congr 1
    funext a L1
    show _ = (c.nm = c.nm ∧ _)
    simp)
/-- isinstance(x, (T, T')): the tuple is made on the spot -/
theorem q_isi2 {p p2 p3 p4 : Pos} {kk : Nat} {T T' : Str} (c c' : Ty) (ha : QE X Wx e da) (hg : Gl X "isinstance") (hm : X.mg "isinstance" = none) (hgT : Gl X T) (hmT : X.mg T = none) (hv : bootBuiltins T = some (.type c.nm)) (hgT' : Gl X T') (hmT' : X.mg T' = none) (hv' : bootBuiltins T' = some (.type c'.nm)) (hc : c ≠ .non := by decide) (hc' : c' ≠ .non := by decide)
    (hn : T ≠ "__name__" := by decide) (hd : (T == ("__debug__" : Str)) = false := by decide) (hn' : T' ≠ "__name__" := by decide) (hd' : (T' == ("__debug__" : Str)) = false := by decide) (hs : starEach (e :: [.Tuple [.Name T p2, .Name T' p3] kk p4]) X.env = (false, eval e X.env) :: starEach [.Tuple [.Name T p2, .Name T' p3] kk p4] X.env := by rfl) (hv0 : bootBuiltins "isinstance" = some (.builtin "isinstance") := by decide +kernel) :
    QE X Wx (.Call (.Name "isinstance" p) [e, .Tuple [.Name T p2, .Name T' p3] kk p4] [] pos) (dUn (gIsi2 c c') da) := by
  obtain ⟨ta, pa, sa⟩ := ha.ex
  refine ⟨_, pe_callB call_isiT hg hm hv0 (pa_cons pa (pa_cons (pe_tup (pa_cons (pe_bltn (v := .ty c.nm) hgT hmT hv rfl hn hd) (pa_cons (pe_bltn (v := .ty c'.nm) hgT' hmT' hv' rfl hn' hd') pa_nil (by rfl)) (by rfl))) pa_nil (by rfl)) hs) (by decide) (by decide) hs (by rfl), fun σ H env L k x Q st h hk hx => ?_⟩
  refine sa σ H env L _ x _ st h (fun d L1 v H1 h1 g1 j1 r1 => ?_) hx
  refine ⟨show 2 ≤ sizeLine by decide, fun t ht => ?_⟩
  have s := same_new ht (.tup [.ty c.nm, .ty c'.nm])
  unfold gIsi2 at h1
  split at h1
  · rename_i ty hty
    refine ⟨v, t, _, _, [.type c.nm, .type c'.nm], (isTy ty c || isTy ty c'), rfl, upd_same, .cons (.ty _) (.cons (.ty _) .nil), tyX_con (j1.same s) (r1.go (Go.same s)) hty, ?_, hk _ L1 _ _ h1 (g1.trans (Go.same s)) (j1.same s) (.bl _)⟩
    refine kitAny_cons (kit_ty (kit_isTy ty c hc)) (fun h0 => ?_) (fun h0 => by rw [h0, Bool.true_or])
    rw [h0, Bool.false_or]
    exact kitAny_cons (r := isTy ty c') (kit_ty (kit_isTy ty c' hc')) (fun h1 => by rw [h1]; exact kitAny_nil) (fun h1 => h1)
  · exact h1.elim
def gAdd : G2 := fun a b L k => match con L a, con L b with
  | .int i, .int j => k (.int (i + j))
  | .str x, .str y => x.length + y.length ≤ sizeLine ∧ k (.str (x ++ y))
  | .lst xs, .lst ys => xs.length + ys.length ≤ sizeLine ∧ k (.lst (xs ++ ys))
  | .tup xs, .tup ys => xs.length + ys.length ≤ sizeLine ∧ k (.tup (xs ++ ys))
  | _, _ => False
theorem con_flat {L : Led} {K : PySem.W.Frag} {H : Hp} {v : V} {d c : D} (j : JL K L H) (r : Rp L K H v d) (e : con L d = c) (hc : match c with | .int _ => True | .str _ => True | .bl _ => True | .non => True | _ => False) : d = c := by
  cases d with
  | ptr a =>
    have e : (L.lookup a).getD (.ptr a) = c := e
    cases q : L.lookup a with
    | none => rw [q] at e; subst e; exact hc.elim
    | some c' =>
      rw [q] at e
      have e : c' = c := e
      subst e
      have ow := j.look q
      cases c' <;> first | exact ow.elim | exact hc.elim
  | kt ks =>
    have e : D.tup (ks.map kD) = c := e
    subst e
    exact hc.elim
  | _ => exact e
theorem oq_addL : OQ X (binaryOp .Add) (fun a b L k => match con L a, con L b with
    | .lst xs, .lst ys => xs.length + ys.length ≤ sizeLine ∧ k (.lst (xs ++ ys))
    | _, _ => False) := ⟨_, op_cat, fun H L va vb a b k Q j ra rb h hk => by
  dsimp only at h
  split at h
  · rename_i xs ys ea eb
    obtain ⟨p, vs, rfl, hp, rv⟩ := con_lst j ra ea
    obtain ⟨q, ws, rfl, hq, rw'⟩ := con_lst j rb eb
    refine ⟨p, q, vs, ws, rfl, rfl, hp, hq, by rw [rv.length, rw'.length]; exact h.1, fun l hl => ?_⟩
    have s := same_new hl (.lst (vs ++ ws))
    exact hk _ _ _ h.2 s (.lst (j.notIn hl) upd_same ((rv.append rw').go (Go.same s)))
  · exact h.elim⟩
theorem oq_addT : OQ X (binaryOp .Add) (fun a b L k => match con L a, con L b with
    | .tup xs, .tup ys => xs.length + ys.length ≤ sizeLine ∧ k (.tup (xs ++ ys))
    | _, _ => False) := ⟨_, op_catA, fun H L va vb a b k Q j ra rb h hk => by
  dsimp only at h
  split at h
  · rename_i xs ys ea eb
    obtain ⟨p, vs, ep, hp, rv⟩ := con_tup j ra ea
    obtain ⟨q, ws, eq, hq, rw'⟩ := con_tup j rb eb
    have ra' := con_tupR j ra ea
    have rb' := con_tupR j rb eb
    subst ep eq
    refine ⟨p, q, vs, ws, rfl, rfl, hp, hq, by rw [rv.length, rw'.length]; exact h.1, fun e0 => ?_, fun _ e0 => ?_, fun _ _ l hl => ?_⟩
    · subst e0
      cases rv
      exact hk _ _ H h.2 (Same.refl H) rb'
    · subst e0
      cases rw'
      have h2 := h.2
      rw [List.append_nil] at h2
      exact hk _ _ H h2 (Same.refl H) ra'
    · have s := same_new hl (.tup (vs ++ ws))
      exact hk _ _ _ h.2 s (.tup (.inl ⟨j.notIn hl, .inl upd_same⟩) ((rv.append rw').go (Go.same s)))
  · exact h.elim⟩
theorem oq_addS : OQ X (binaryOp .Add) (fun a b L k => match a, b with
    | .str x, .str y => x.length + y.length ≤ sizeLine ∧ k (.str (x ++ y))
    | _, _ => False) := ⟨_, op_add_str, fun H L va vb a b k Q j ra rb h hk => by
  dsimp only at h
  split at h
  · cases ra
    cases rb
    exact ⟨_, _, rfl, rfl, h.1, hk _ _ H h.2 (Same.refl H) (.str _)⟩
  · exact h.elim⟩
theorem oq_add : OQ X (binaryOp .Add) gAdd := by
  obtain ⟨r1, o1, s1⟩ := oq_addI (X := X)
  obtain ⟨r2, o2, s2⟩ := oq_addS (X := X)
  obtain ⟨r3, o3, s3⟩ := oq_addL (X := X)
  obtain ⟨r4, o4, s4⟩ := oq_addT (X := X)
  refine ⟨_, opr_or o1 (opr_or o2 (opr_or o3 o4)), fun H L va vb a b k Q j ra rb h hk => ?_⟩
  unfold gAdd at h
  split at h
  · rename_i i i' ea eb
    have e1 := con_flat j ra ea trivial
    have e2 := con_flat j rb eb trivial
    subst e1 e2
    exact .inl (s1 H L va vb _ _ k Q j ra rb h hk)
  · rename_i i i' ea eb
    have e1 := con_flat j ra ea trivial
    have e2 := con_flat j rb eb trivial
    subst e1 e2
    exact .inr (.inl (s2 H L va vb _ _ k Q j ra rb h hk))
  · rename_i xs ys ea eb
    exact .inr (.inr (.inl (s3 H L va vb _ _ k Q j ra rb (by dsimp only; rw [ea, eb]; exact h) hk)))
  · rename_i xs ys ea eb
    exact .inr (.inr (.inr (s4 H L va vb _ _ k Q j ra rb (by dsimp only; rw [ea, eb]; exact h) hk)))
  · exact h.elim
/-- a list times a number -/
def gRep : G2 := fun a b L k => match con L a, b with
  | .lst xs, .int n => -(2 ^ 63) ≤ n ∧ n < 2 ^ 63 ∧ xs.length * n.toNat ≤ sizeLine ∧ k (.lst (List.replicate n.toNat xs).flatten)
  | _, _ => False
theorem rep_all {L : Led} {K : PySem.W.Frag} {H : Hp} {vs : List V} {ds : List D} (r : RpAll L K H vs ds) : ∀ n : Nat, RpAll L K H (List.replicate n vs).flatten (List.replicate n ds).flatten
  | 0 => .nil
  | n + 1 => by
    rw [List.replicate_succ, List.replicate_succ, List.flatten_cons, List.flatten_cons]
    exact r.append (rep_all r n)
theorem oq_rep : OQ X (binaryOp .Mult) gRep := ⟨_, op_rep, fun H L va vb a b k Q j ra rb h hk => by
  unfold gRep at h
  split at h
  · rename_i xs n ea
    obtain ⟨p, vs, rfl, hp, rv⟩ := con_lst j ra ea
    cases rb
    obtain ⟨h1, h2, h3, h4⟩ := h
    refine ⟨p, n, vs, rfl, rfl, hp, h1, h2, by rw [rv.length]; exact h3, fun l hl => ?_⟩
    have s := same_new hl (.lst (List.replicate n.toNat vs).flatten)
    exact hk _ _ _ h4 s (.lst (j.notIn hl) upd_same ((rep_all rv _).go (Go.same s)))
  · exact h.elim⟩
abbrev DO := DEnv → Led → (Option Int → Led → Prop) → DX → Prop
structure QO (X : Cx) (Wx : WX) (e : Option Expr) (do' : DO) : Prop where
  ex : ∃ to, PO X e to ∧ ∀ σ H env L k x Q, StL X.K σ H env L → do' env L k x → (∀ i L' H', k i L' → Go L L' H H' → JL X.K L' H' → Q i H') → XOk X.K Wx L H x → to σ H Q
def dNo : DO := fun _ L k _ => k none L
def dPart (da : DE) : DO := fun env L k x => da env L (fun d L1 => match d with
  | .int i => k (some i) L1
  | _ => False) x
theorem o_none : QO X Wx none dNo := ⟨_, po_none, fun σ H env L k x Q st h hk hx => hk none L H h (Go.refl L H) st.2⟩
theorem o_some (h : QE X Wx e da) : QO X Wx (some e) (dPart da) := by
  obtain ⟨ta, pa, sa⟩ := h.ex
  refine ⟨_, po_some pa, fun σ H env L k x Q st h hk hx => ?_⟩
  refine sa σ H env L _ x _ st h (fun d L1 v H1 h1 g1 j1 r1 => ?_) hx
  cases r1 <;> first | exact h1.elim | skip
  exact ⟨_, rfl, hk _ L1 H1 h1 g1 j1⟩
def cutD (xs : List D) (lo hi : Option Int) : List D := (xs.drop (HT.sIx xs.length 0 lo)).take (HT.sIx xs.length xs.length hi - HT.sIx xs.length 0 lo)
def gSl (a : D) (lo hi : Option Int) (L : Led) (k : D → Prop) : Prop := match con L a with
  | .lst xs => k (.lst (cutD xs lo hi))
  | .ro xs => k (.lst (cutD xs lo hi))
  | .tup xs => k (.tup (cutD xs lo hi))
  | .str z => z.length ≤ sizeLine ∧ k (.str (cutS z lo hi))
  | _ => False
def dSl (da : DE) (dl dh : DO) : DE := fun env L k x => da env L (fun a L1 => dl env L1 (fun lo L2 => dh env L2 (fun hi L3 => gSl a lo hi L3 fun d => k d L3) x) x) x
theorem cut_all {L : Led} {K : PySem.W.Frag} {H : Hp} {vs : List V} {ds : List D} (r : RpAll L K H vs ds) (lo hi : Option Int) : RpAll L K H (cutV vs lo hi) (cutD ds lo hi) := by
  unfold cutV cutD
  rw [r.length]
  exact (r.drop _).take _
theorem q_slice {lo hi : Option Expr} {p2 : Pos} {dl dh : DO} (he : QE X Wx e da) (hl : QO X Wx lo dl) (hh : QO X Wx hi dh) : QE X Wx (.Subscript e (.Slice lo hi none p2) pos) (dSl da dl dh) := by
  obtain ⟨ta, pa, sa⟩ := he.ex
  obtain ⟨tl, pl, sl⟩ := hl.ex
  obtain ⟨th, ph, sh⟩ := hh.ex
  refine ⟨_, pe_slice (SlR.or sl_list (SlR.or sl_tupA sl_str)) pa pl ph, fun σ H env L k x Q st h hk hx => ?_⟩
  refine sa σ H env L _ x _ st h (fun a L1 va H1 h1 g1 j1 r1 => ?_) hx
  refine sl σ H1 env L1 _ x _ (st.go g1 j1) h1 (fun lo L2 H2 h2 g2 j2 => ?_) (hx.go g1)
  refine sh σ H2 env L2 _ x _ ((st.go g1 j1).go g2 j2) h2 (fun hi L3 H3 h3 g3 j3 => ?_) ((hx.go g1).go g2)
  have gg := (g1.trans g2).trans g3
  have r1 := (r1.go g2).go g3
  unfold gSl at h3
  split at h3
  · rename_i xs ea
    obtain ⟨p, vs, rfl, hp, rv⟩ := con_lst j3 r1 ea
    refine .inl ⟨p, vs, rfl, SqL.of hp, fun l hl => ?_⟩
    have s := same_new hl (.lst (cutV vs lo hi))
    exact hk _ _ _ _ h3 (gg.trans (Go.same s)) (j3.same s) (.lst (j3.notIn hl) upd_same ((cut_all rv lo hi).go (Go.same s)))
  · rename_i xs ea
    obtain ⟨p, vs, rfl, hp, rv⟩ := con_ro j3 r1 ea
    refine .inl ⟨p, vs, rfl, hp, fun l hl => ?_⟩
    have s := same_new hl (.lst (cutV vs lo hi))
    exact hk _ _ _ _ h3 (gg.trans (Go.same s)) (j3.same s) (.lst (j3.notIn hl) upd_same ((cut_all rv lo hi).go (Go.same s)))
  · rename_i xs ea
    have r1' := con_tupR j3 r1 ea
    obtain ⟨p, vs, ep, hp, rv⟩ := con_tup j3 r1 ea
    subst ep
    refine .inr (.inl ⟨p, vs, rfl, hp, fun hw => ?_, fun _ l hl => ?_⟩)
    · have e : cutD xs lo hi = xs := by
        unfold cutD
        rw [← rv.length, hw.1, hw.2, List.drop_zero, Nat.sub_zero, rv.length]
        exact List.take_length
      rw [e] at h3
      exact hk _ _ _ H3 h3 gg j3 r1'
    · have s := same_new hl (.tup (cutV vs lo hi))
      exact hk _ _ _ _ h3 (gg.trans (Go.same s)) (j3.same s) (.tup (.inl ⟨j3.notIn hl, .inl upd_same⟩) ((cut_all rv lo hi).go (Go.same s)))
  · rename_i z ea
    have e1 := con_flat j3 r1 ea trivial
    subst e1
    cases r1
    exact .inr (.inr ⟨_, rfl, h3.1, hk _ _ _ H3 h3.2 gg j3 (.str _)⟩)
  · exact h3.elim
end
end DL
namespace DL
open PySem L2 RZ
section
variable {X : Cx} {Wx : WX} {a b c e o : Expr} {es rest : List Expr} {da db dc de do' : DE} {dt du : DT} {dl dk : DA} {pos : Pos}
def wipeD (env : DEnv) : List Nat → DEnv
  | [] => env
  | v :: vs => (wipeD env vs).set v none
theorem Sto.wipes {L : Led} {K : PySem.W.Frag} {H : Hp} {σ : St} {env : DEnv} (h : Sto L K H σ env) : ∀ vs : List Nat, Sto L K H (wipe σ vs) (wipeD env vs)
  | [] => h
  | v :: vs => (Sto.wipes h vs).wipe1 v
structure QTs (X : Cx) (Wx : WX) (ifs : List Expr) (dt : DT) : Prop where
  pt : PTs X ifs (ttOf X.K Wx dt)
def dYes : DT := fun _ L k _ => k true L
theorem ts_nil : QTs X Wx [] dYes := ⟨⟨fun pins s σ H Q I hw => by
  obtain ⟨env, L, k, x, st, h, hk, hx⟩ := hw
  exact pts_nil.run pins s σ H Q I (hk true L H h (Go.refl L H) st.2)⟩⟩
theorem ts_one (h : QT X Wx c dt) : QTs X Wx [c] dt := ⟨pts_one h.pt⟩
abbrev Wx0 : WX := fun _ _ _ _ => False
@[irreducible] def lcD (dg : DG) (dt : DT) (de : DE) (env0 : DEnv) (p : Addr) (k : DK) : List D → List D → Led → Prop
  | [], acc, L => k (.lst acc) (remL L p)
  | d :: ds, acc, L => dg d env0 L fun env1 => dt env1 L (fun b L2 => match b with
    | true => de env1 L2 (fun y L3 => L3.lookup p = some (.lst acc) ∧ acc.length < sizeLine ∧ lcD dg dt de env0 p k ds (acc ++ [y]) (setL L3 p (.lst (acc ++ [y])))) (fun _ _ _ => False)
    | false => L2.lookup p = some (.lst acc) ∧ lcD dg dt de env0 p k ds acc L2) (fun _ _ _ => False)
theorem lcD_nil {dg : DG} {dt : DT} {de : DE} {env0 : DEnv} {p : Addr} {k : DK} {acc : List D} {L : Led} : lcD dg dt de env0 p k [] acc L = k (.lst acc) (remL L p) := by with_unfolding_all rfl
theorem lcD_cons {dg : DG} {dt : DT} {de : DE} {env0 : DEnv} {p : Addr} {k : DK} {d : D} {ds acc : List D} {L : Led} : lcD dg dt de env0 p k (d :: ds) acc L = dg d env0 L fun env1 => dt env1 L (fun b L2 => match b with
    | true => de env1 L2 (fun y L3 => L3.lookup p = some (.lst acc) ∧ acc.length < sizeLine ∧ lcD dg dt de env0 p k ds (acc ++ [y]) (setL L3 p (.lst (acc ++ [y])))) (fun _ _ _ => False)
    | false => L2.lookup p = some (.lst acc) ∧ lcD dg dt de env0 p k ds acc L2) (fun _ _ _ => False) := by with_unfolding_all rfl
def dLc (di : DI) (dg : DG) (dt : DT) (de : DE) (vs : List Nat) : DE := fun env L k x => di env L (fun ds L1 => ∀ p, ¬ inL L1 p → lcD dg dt de (wipeD env vs) p k ds [] ((p, .lst []) :: L1)) x
theorem sim_lc {K : PySem.W.Frag} {wi : TI} {di : DI} {dg : DG} {sl vs : List Nat} (hsl : ∀ i ∈ sl, i ∈ vs)
    (si : ∀ σ H env L k x R, StL K σ H env L → di env L k x → (∀ ds L' J H', k ds L' → Go L L' H H' → JL K L' H' → ItD K L' H' J ds → R J H') → XOk K Wx L H x → wi σ H R) :
    SimE K Wx (tLc wi (tgOf K sl dg) (ttOf K Wx0 dt) (teOf K Wx0 de) vs) (dLc di dg dt de vs) := by
  intro σ H env L k x Q st h hk hx
  refine si σ H env L _ x _ st h (fun ds L1 J H1 h1 g1 j1 it => ?_) hx
  intro p hp
  have s0 := same_new hp (.lst [])
  obtain ⟨j2, g2⟩ := j1.push (d := .lst []) hp (o := .lst []) ⟨[], upd_same, .nil⟩
  refine ⟨fun i m H2 => m = ds.length - i ∧ i ≤ ds.length ∧ ∃ acc L2, StL K (wipe σ vs) H2 (wipeD env vs) L2 ∧ Go L1 L2 H1 H2 ∧ L2.lookup p = some (.lst acc) ∧ lcD dg dt de (wipeD env vs) p k (ds.drop i) acc L2, ⟨ds.length, by omega, by omega, [], _, ⟨((st.go g1 j1).go g2 j2).1.wipes vs, j2⟩, g2, lookup_top, h1 p (j1.notIn hp)⟩, ?_⟩
  rintro i m H2 ⟨rfl, hi, acc, L2, st2, g3, hl, h2⟩
  obtain ⟨i1, i2⟩ := it L2 H2 g3 st2.2 i
  by_cases hlt : i < ds.length
  · have e : ds[i]? = some ds[i] := List.getElem?_eq_getElem hlt
    obtain ⟨go, yl⟩ := i1 _ e
    rw [List.drop_eq_getElem_cons hlt, lcD_cons] at h2
    refine .inr ⟨go, fun H' => ∃ acc L2, StL K (wipe σ vs) H' (wipeD env vs) L2 ∧ Go L1 L2 H1 H' ∧ L2.lookup p = some (.lst acc) ∧ lcD dg dt de (wipeD env vs) p k (ds.drop (i + 1)) acc L2, fun H' n => ⟨ds.length - (i + 1), by omega, rfl, hlt, n⟩, fun x H' y => ?_⟩
    obtain ⟨s, rx⟩ := yl x H' y
    have g4 : Go L2 L2 H2 H' := Go.same s
    have st3 := st2.go g4 (st2.2.same s)
    refine ⟨_, _, L2, _, st3, rx, h2, fun σ3 env3 h3 st4 on => ⟨?_, ?_⟩⟩
    · have := on vs hsl
      rw [this]
      clear this
      have w2 : ∀ (ws us : List Nat), (∀ i ∈ us, i ∈ ws) → ∀ σ : St, wipe (wipe σ us) ws = wipe σ ws := by
        intro ws us
        induction us with
        | nil => intro _ σ; rfl
        | cons u us ih =>
          intro hu σ
          show wipe ((wipe σ us).set u none) ws = _
          rw [wipe_set (hu u List.mem_cons_self), ih (fun i hi => hu i (List.mem_cons_of_mem _ hi))]
      exact w2 vs vs (fun _ h => h) σ
    · refine ⟨env3, L2, _, _, st4, h3, fun b L5 H5 h5 g5 j5 => ?_, fun _ _ _ _ _ _ q => q.elim⟩
      have gA : Go L1 L5 H1 H5 := (g3.trans g4).trans g5
      cases b with
      | false => exact iteF ⟨acc, L5, ⟨(st3.1.go g5), j5⟩, gA, h5.1, h5.2⟩
      | true =>
        refine iteT ⟨env3, L5, _, _, st4.go g5 j5, h5, fun y L6 vy H6 h6 g6 j6 r6 => ?_, fun _ _ _ _ _ _ q => q.elim⟩
        obtain ⟨q1, q2, q3⟩ := h6
        obtain ⟨ws, e1, rv⟩ := j6.look q1
        have hp6 := inL_of_lookup q1
        refine ⟨ws, e1, by rw [rv.length]; exact q2, acc ++ [y], _, ?_, ?_, ?_, q3⟩
        · have g7 : Go L6 (setL L6 p (.lst (acc ++ [y]))) H6 (upd H6 p (.lst (ws ++ [vy]))) := go_set hp6
          have j7 : JL K (setL L6 p (.lst (acc ++ [y]))) (upd H6 p (.lst (ws ++ [vy]))) := j6.put hp6 ⟨_, upd_same, (rv.append (.cons r6 .nil)).go g7⟩
          exact ⟨((st3.1.go g5).go g6).go g7, j7⟩
        · exact (gA.trans g6).trans (go_set hp6)
        · have hm := mem_of_lookup q1
          clear q3 h5 h3 h2
          have key : ∀ (M : Led), inL M p → List.lookup p (setL M p (.lst (acc ++ [y]))) = some (.lst (acc ++ [y])) := by
            intro M
            induction M with
            | nil => intro h; simp [inL] at h
            | cons q M ih =>
              intro h
              by_cases hq : q.1 = p
              · obtain ⟨z1, z2⟩ := q
                have hq : z1 = p := hq
                show List.lookup p ((if z1 = p then (p, D.lst (acc ++ [y])) else (z1, z2)) :: setL M p _) = _
                rw [if_pos hq]
                exact lookup_top
              · obtain ⟨z1, z2⟩ := q
                have hq : z1 ≠ p := hq
                rw [setL_ne hq, lookup_ne (Ne.symm hq)]
                exact ih ((inL_cons.mp h).resolve_left (Ne.symm hq))
          exact key L6 hp6
  · have e : i = ds.length := by omega
    subst e
    rw [List.drop_length, lcD_nil] at h2
    obtain ⟨ws, e1, rv⟩ := st2.2.look hl
    refine .inl ⟨i2 (Nat.le_refl _), hk _ _ _ H2 h2 ((g1.trans g3).trans go_rem) st2.2.rem (.lst (fun m => (inL_remL.mp m).2 rfl) e1 (rv.go go_rem))⟩
theorem q_lc {elt tg iter : Expr} {ifs : List Expr} {scope : Scope} {own : List (Str × Nat)} {di : DI} {dg : DG} {sl : List Nat} (hc : X.calm = true) (hN : X.N.Nodup) (hi : QI X Wx tg iter di) (ok : BlkOk X.N X.env.scope scope own)
    (hg : ∀ (s : Shared) (H : Hp) (C : Addr) (cl : List (Str × Addr)) (fp : List Addr), QG (X.blk s H scope (compEnvC scope cl C X.env) fp) tg sl dg) (ht : ∀ (s : Shared) (H : Hp) (C : Addr) (cl : List (Str × Addr)) (fp : List Addr), QTs (X.blk s H scope (compEnvC scope cl C X.env) fp) Wx0 ifs dt)
    (he : ∀ (s : Shared) (H : Hp) (C : Addr) (cl : List (Str × Addr)) (fp : List Addr), QE (X.blk s H scope (compEnvC scope cl C X.env) fp) Wx0 elt de) (hsl : ∀ i ∈ sl, i ∈ own.map (·.2) := by decide) (hs : ∀ x, foldedSetIterable iter X.env x = pure x := by intro _; rfl) :
    QE X Wx (.ListComp elt [⟨tg, iter, ifs, 0⟩] scope pos) (dLc di dg dt de (own.map (·.2))) := by
  obtain ⟨wi, pi, si⟩ := hi.ex
  exact ⟨_, pe_lc hc hN pi ok (fun s H C cl fp => (hg s H C cl fp).pg) (fun s H C cl fp => (ht s H C cl fp).pt) (fun s H C cl fp => (he s H C cl fp).pe) hs, sim_lc hsl si⟩
theorem s_setLc (i : Nat) {y : Str} {py spos : Pos} {elt tg iter : Expr} {ifs : List Expr} {scope : Scope} {own : List (Str × Nat)} {di : DI} {dg : DG} {sl : List Nat} (hc : X.calm = true) (hN : X.N.Nodup) (hi : QI X Wx tg iter di) (ok : BlkOk X.N X.env.scope scope own)
    (hg : ∀ (s : Shared) (H : Hp) (C : Addr) (cl : List (Str × Addr)) (fp : List Addr), QG (X.blk s H scope (compEnvC scope cl C X.env) fp) tg sl dg) (ht : ∀ (s : Shared) (H : Hp) (C : Addr) (cl : List (Str × Addr)) (fp : List Addr), QTs (X.blk s H scope (compEnvC scope cl C X.env) fp) Wx0 ifs dt)
    (he : ∀ (s : Shared) (H : Hp) (C : Addr) (cl : List (Str × Addr)) (fp : List Addr), QE (X.blk s H scope (compEnvC scope cl C X.env) fp) Wx0 elt de)
    (hsw : swapsWith (.ListComp elt [⟨tg, iter, ifs, 0⟩] scope pos) (some (.Name y py)) spos.line X.env = pure true) (hy : X.N[i]? = some y := by rfl) (hyl : X.env.scope.names.lookup y = some .local := by rfl) (hsl : ∀ i ∈ sl, i ∈ own.map (·.2) := by decide) (hs : ∀ x, foldedSetIterable iter X.env x = pure x := by intro _; rfl) :
    QS X Wx (.Assign [.Name y py] (.ListComp elt [⟨tg, iter, ifs, 0⟩] scope pos) spos) (dAsg (dLc di dg dt de (own.map (·.2))) (dgName i)) := by
  obtain ⟨wi, pi, si⟩ := hi.ex
  exact ⟨_, ps_setLc hc hN hy hyl hsw pi ok (fun s H C cl fp => (hg s H C cl fp).pg) (fun s H C cl fp => (ht s H C cl fp).pt) (fun s H C cl fp => (he s H C cl fp).pe) hs, sim_asg (sl := [i]) (sim_lc hsl si) fun v d σ H env L k Q st r h hk => hk _ _ h ⟨st.1.set r i, st.2⟩ only_set⟩
def zipD : List D → List D → List D
  | a :: as, b :: bs => .tup [a, b] :: zipD as bs
  | _, _ => []
theorem zipD_get : ∀ (as bs : List D) (i : Nat) (d : D), (zipD as bs)[i]? = some d → ∃ x y, as[i]? = some x ∧ bs[i]? = some y ∧ d = .tup [x, y]
  | [], _, _, _, h => by simp [zipD] at h
  | _ :: _, [], _, _, h => by simp [zipD] at h
  | a :: as, b :: bs, 0, d, h => by
    simp [zipD] at h
    exact ⟨a, b, rfl, rfl, h.symm⟩
  | a :: as, b :: bs, i + 1, d, h => by
    obtain ⟨x, y, h1, h2, h3⟩ := zipD_get as bs i d (by simpa [zipD] using h)
    exact ⟨x, y, by simpa using h1, by simpa using h2, h3⟩
theorem zipD_len : ∀ (as bs : List D), (zipD as bs).length = min as.length bs.length
  | [], _ => by simp [zipD]
  | _ :: _, [] => by simp [zipD]
  | a :: as, b :: bs => by simp [zipD, zipD_len as bs]
def diZip (dl : DA) : DI := fun env L k x => dl env L (fun ds L1 => match ds with
  | [.lst as, .lst bs] => k (zipD as bs) L1
  | [.tup as, .tup bs] => k (zipD as bs) L1
  | _ => False) x
theorem it_zip {K : PySem.W.Frag} {L : Led} {H : Hp} {a b : Addr} {vs ws : List V} {as bs : List D} (h : SqL' L K H a vs) (r : RpAll L K H vs as) (h' : SqL' L K H b ws) (r' : RpAll L K H ws bs) : ItD K L H (Itz K a b) (zipD as bs) := fun L' H' g j i => by
  have e1 := (g.sqL h).sq
  have e2 := (g.sqL h').sq
  refine ⟨fun d hd => ?_, fun hi => ⟨vs, ws, e1, e2, by rw [zipD_len] at hi; rw [r.length, r'.length]; omega⟩⟩
  obtain ⟨x, y, q1, q2, rfl⟩ := zipD_get as bs i d hd
  obtain ⟨vx, hx, rx⟩ := (r.go g).get q1
  obtain ⟨vy, hy, ry⟩ := (r'.go g).get q2
  refine ⟨⟨vs, ws, vx, vy, e1, e2, hx, hy⟩, fun z H'' yl => ?_⟩
  obtain ⟨T, x', y', rfl, nT, rfl, f1, f2⟩ := yl
  have k1 := f1 vs e1
  rw [hx] at k1
  cases k1
  have k2 := f2 ws e2
  rw [hy] at k2
  cases k2
  have s := same_new nT (.tup [vx, vy])
  exact ⟨s, .tup (.inl ⟨j.notIn nT, .inl upd_same⟩) (.cons (rx.go (Go.same s)) (.cons (ry.go (Go.same s)) .nil))⟩
theorem it_zipT {K : PySem.W.Frag} {L : Led} {H : Hp} {a b : Addr} {vs ws : List V} {as bs : List D} (h : SqT' L K H a vs) (r : RpAll L K H vs as) (h' : SqT' L K H b ws) (r' : RpAll L K H ws bs) : ItD K L H (ItzT K a b) (zipD as bs) := fun L' H' g j i => by
  have e1 := (g.sqT h).sq
  have e2 := (g.sqT h').sq
  refine ⟨fun d hd => ?_, fun hi => ⟨vs, ws, e1, e2, by rw [zipD_len] at hi; rw [r.length, r'.length]; omega⟩⟩
  obtain ⟨x, y, q1, q2, rfl⟩ := zipD_get as bs i d hd
  obtain ⟨vx, hx, rx⟩ := (r.go g).get q1
  obtain ⟨vy, hy, ry⟩ := (r'.go g).get q2
  refine ⟨⟨vs, ws, vx, vy, e1, e2, hx, hy⟩, fun z H'' yl => ?_⟩
  obtain ⟨T, x', y', rfl, nT, rfl, f1, f2⟩ := yl
  have k1 := f1 vs e1
  rw [hx] at k1
  cases k1
  have k2 := f2 ws e2
  rw [hy] at k2
  cases k2
  have s := same_new nT (.tup [vx, vy])
  exact ⟨s, .tup (.inl ⟨j.notIn nT, .inl upd_same⟩) (.cons (rx.go (Go.same s)) (.cons (ry.go (Go.same s)) .nil))⟩
theorem i_zip {e2 : Expr} {p tpos : Pos} {elts : List Expr} {kk : Nat} (hg : Gl X "zip") (hm : X.mg "zip" = none) (ha : QA X Wx [e, e2] dl)
    (hs : starEach [e, e2] X.env = (false, eval e X.env) :: starEach [e2] X.env := by rfl) (hpl : (backTo pos (starEach [e2] X.env)).any (·.1) = false := by rfl) : QI X Wx (.Tuple elts kk tpos) (.Call (.Name "zip" p) [e, e2] [] pos) (diZip dl) := by
  obtain ⟨ta, pa, sa⟩ := ha.ex
  refine ⟨_, pi_zipA hg hm pa hs hpl, fun σ H env L k x R st h hk hx => ?_⟩
  refine sa σ H env L _ x _ st h (fun ds L1 vs H1 h1 g1 j1 r1 => ?_) hx
  split at h1
  · cases r1 with
    | cons r1 r2 => cases r2 with
      | cons r2 r3 =>
      cases r3
      cases r1 with
      | lst n1 s1 q1 => cases r2 with
        | lst n2 s2 q2 => exact ⟨_, _, _, _, rfl, .inl ⟨SqL.of s1, SqL.of s2, hk _ L1 _ H1 h1 g1 j1 (it_zip (.inl ⟨n1, .inl s1⟩) q1 (.inl ⟨n2, .inl s2⟩) q2)⟩⟩
  · cases r1 with
    | cons r1 r2 => cases r2 with
      | cons r2 r3 =>
      cases r3
      cases r1 with
      | tup s1 q1 => cases r2 with
        | tup s2 q2 => exact ⟨_, _, _, _, rfl, .inr ⟨s1.sq, s2.sq, hk _ L1 _ H1 h1 g1 j1 (it_zipT s1 q1 s2 q2)⟩⟩
  · exact h1.elim
end
end DL
namespace DL
open PySem L2
section
variable {X : Cx} {Wx : WX} {a b c e o : Expr} {es rest : List Expr} {da db dc de do' : DE} {dt du : DT} {dl dk : DA} {pos : Pos}
structure QK (X : Cx) (Wx : WX) (kws : List Keyword) (da : DA) : Prop where
  ex : ∃ ta, PK X kws ta ∧ SimA X.K Wx ta da
theorem k_nil : QK X Wx [] dNil := ⟨_, pk_nil, fun σ H env L k x Q st h hk hx => hk [] L [] H h (Go.refl L H) st.2 .nil⟩
theorem k_cons {nm : Option Str} {kpos : Pos} {kws : List Keyword} (ha : QE X Wx e de) (hr : QK X Wx kws dl) : QK X Wx (⟨nm, e, kpos⟩ :: kws) (dCons de dl) := by
  obtain ⟨te, pe, se⟩ := ha.ex
  obtain ⟨ta, pa, sa⟩ := hr.ex
  refine ⟨_, pk_cons pe pa, fun σ H env L k x Q st h hk hx => ?_⟩
  refine se σ H env L _ x _ st h (fun d L1 v H1 h1 g1 j1 r1 => ?_) hx
  refine sa σ H1 env L1 _ x _ (st.go g1 j1) h1 (fun ds L2 vs H2 h2 g2 j2 r2 => ?_) (hx.go g1)
  exact hk _ L2 _ H2 h2 (g1.trans g2) j2 (.cons (r1.go g2) r2)
/-- how positional values and keywords' values come to the parameters: a choice of places, the same for values and data; ds: defaults -/
abbrev Perm3 := {α : Type} → List α → List α → List α → List α
structure PermOk (g : Perm3) : Prop where
  map : ∀ {α β : Type} {R : α → β → Prop} {vs zs ws : List α} {us ys xs : List β}, Paired R vs us → Paired R zs ys → Paired R ws xs → Paired R (g vs zs ws) (g us ys xs)
structure KwB (K : PySem.W.Frag) (fd : FuncData) (ps : List Str) (n : Nat) (ks : List Str) (dus : List Value) (g : Perm3) : Prop where
  to : ∀ (s : Shared) (us ws : List Value), K.In s.heap → us.length = n → ws.length = ks.length → BindsTo s fd ⟨us, ks.zip ws⟩ (ps.zip (g us ws dus))
theorem rp_paired {L : Led} {K : PySem.W.Frag} {H : Hp} : ∀ {vs : List V} {ds : List D}, RpAll L K H vs ds → Paired (Rp L K H) vs ds
  | _, _, .nil => .nil
  | _, _, .cons h r => .cons h (rp_paired r)
theorem paired_rp {L : Led} {K : PySem.W.Frag} {H : Hp} : ∀ {vs : List V} {ds : List D}, Paired (Rp L K H) vs ds → RpAll L K H vs ds
  | _, _, .nil => .nil
  | _, _, .cons h r => .cons h (paired_rp r)
def tCallW (n m : Nat) (sp : Sp) (gV : List V → List V → List V) (E : St → XK) (t tk : TA) : TE := fun σ H Q => t σ H fun vs H1 => tk σ H1 fun zs H2 => vs.length = n ∧ zs.length = m ∧ sp (gV vs zs) H2 Q (E σ)
theorem run_fnW {CX : CXT} {k n : Nat} {f : Addr} {fd : FuncData} {ps ks : List Str} {sp : Sp} {E : XK} {dus : List Value} {dvs : List V} {g : Perm3} {pins : List (Addr × Obj)} {σ : St} {H : Hp} {s : Shared} {Q : VK} {us ws : List Value} {vs zs : List V} (F : FnOk X.prog X.w X.K X.mg X.base CX k f fd ps sp) (hr : Room k X.A) (hb : KwB X.K fd ps n ks dus g) (hp : PermOk @g) (hd : Vals dvs dus) (hx : PassesAt CX X σ E)
    (I : Inv X pins σ H s) (r : Vals vs us) (rz : Vals zs ws) (l1 : vs.length = n) (l2 : zs.length = ks.length) (h : sp (g vs zs dvs) H Q E) : wpAny (model X.prog X.w) X.A (call (.ref f) us (ks.zip ws)) (EP X pins σ Q) X.xe s := by
  have r2 : Vals (g vs zs dvs) (g us ws dus) := hp.map r rz hd
  refine wpAny_call (codeAny_mono (F.run X.A X.stack s H ⟨us, ks.zip ws⟩ (g us ws dus) (g vs zs dvs) Q E hr I.env0 (hb.to s us ws I.kIn (r.length.symm.trans l1) (rz.length.symm.trans l2)) r2 h) fun r s' hq => ?_)
  cases r with
  | error e => exact hx pins H s e s' I hq
  | ok fl =>
    cases fl with
    | ret u => exact I.after hq
    | next => exact False.elim hq
    | brk => exact False.elim hq
    | cont => exact False.elim hq
def dCallW (n m : Nat) (f : DSp) (g : Perm3) (dd : List D) (dl dk : DA) : DE := fun env L k x => dl env L (fun ds L1 => dk env L1 (fun es L2 => ds.length = n ∧ es.length = m ∧ f (g ds es dd) L2 k fun n L' => x n env L') x) x
theorem sim_callW {K : PySem.W.Frag} {n m : Nat} {f : DSp} {g : Perm3} {dvs : List V} {dd : List D} {t tk : TA} (hp : PermOk @g) (hdd : ∀ L H, RpAll L K H dvs dd) (sa : SimA K Wx t dl) (sk : SimA K Wx tk dk) : SimE K Wx (tCallW n m (spD K f) (fun vs zs => g vs zs dvs) (WE Wx) t tk) (dCallW n m f g dd dl dk) := by
  intro σ H env L k x Q st h hk hx
  refine sa σ H env L _ x _ st h (fun ds L1 vs H1 h1 g1 j1 r1 => ?_) hx
  refine sk σ H1 env L1 _ x _ (st.go g1 j1) h1 (fun es L2 zs H2 h2 g2 j2 r2 => ?_) (hx.go g1)
  obtain ⟨l1, l2, h2⟩ := h2
  have gg := g1.trans g2
  refine ⟨by rw [r1.length]; exact l1, by rw [r2.length]; exact l2, g ds es dd, L2, k, fun n L' => x n env L', j2, paired_rp (hp.map (rp_paired (r1.go g2)) (rp_paired r2) (rp_paired (hdd L2 H2))), h2, hk.go gg, fun n L' a H' q g' j' r => hx n env L' a H' σ q (gg.trans g') (st.go (gg.trans g') j') r⟩
end
end DL
namespace DL
open PySem L2
section
variable {X : Cx} {Wx : WX} {a b c e o : Expr} {es rest : List Expr} {da db dc de do' : DE} {dt du : DT} {dl dk : DA} {pos : Pos}
def gEqU : G2 := fun a b _ k => match scD a b with
  | true => k (.bl (flEq a b))
  | false => shp a = true ∧ shp b = true ∧ k (.bl (eqD a b))
def gNeU : G2 := fun a b _ k => match scD a b with
  | true => k (.bl (!flEq a b))
  | false => shp a = true ∧ shp b = true ∧ k (.bl (!eqD a b))
theorem oq_eqU (hu : X.A.units + 64 < cLine) : OQ X (compareOp .Eq) gEqU := OQ.or oq_eqF (oq_eq hu) fun a b L k h => by
  unfold gEqU at h
  split at h
  · rename_i hs; exact .inl ⟨hs, h⟩
  · exact .inr h
theorem oq_neU (hu : X.A.units + 64 < cLine) : OQ X (compareOp .NotEq) gNeU := OQ.or oq_neF (oq_ne hu) fun a b L k h => by
  unfold gNeU at h
  split at h
  · rename_i hs; exact .inl ⟨hs, h⟩
  · exact .inr h
def MulOk (i j : Int) : Prop := (i.natAbs < 2 ^ 63 ∨ j.natAbs < 2 ^ 63) ∨ CMulW i j
theorem MulOk.ok {i j : Int} (h : MulOk i j) : IntMulOk i j := by
  have key : ∀ z : Int, z.natAbs < 2 ^ 63 → Builtin.Int.intBits z ≤ 64 := fun z hz => intBits_le_64 (by omega) (by omega)
  rcases h with (h | h) | h
  · exact .of_left (key i h)
  · exact .of_right (key j h)
  · exact h.ok
theorem op_mulU : OpR X (binaryOp .Mult) (rI MulOk fun i j => .int (i * j)) := opI fun _ _ _ _ _ _ _ hc q => PyProof.Rows.mul_int q (MulOk.ok hc)
abbrev gMulU : G2 := gI MulOk fun i j => .int (i * j)
theorem oq_mulU : OQ X (binaryOp .Mult) gMulU := ⟨_, op_mulU, sim2_I fun _ _ _ _ => .int _⟩
structure Cal (P : Program) (w : World) (K : PySem.W.Frag) (mg : Str → Option Value) (base : Heap) (n : Nat) (x : Str) (ps : List Str) (dd : List D) (g : DSp) : Prop where
  ex : ∃ (f : Addr) (fd : FuncData) (us : List Value) (dvs : List V), FnOk P w K mg base (L2.CX P w) n f fd ps (spD K g) ∧ mg x = some (.ref f) ∧ PySem.W.keepIn K (.ref f) = true ∧ Binds K fd ps us ∧ Vals dvs us ∧ ∀ L H, RpAll L K H dvs dd
theorem q_cal {x : Str} {p : Pos} {n k : Nat} {ps : List Str} {g : DSp} {dd : List D} (F : Cal X.prog X.w X.K X.mg X.base n x ps dd g) (hn : n ≤ k) (hr : Room k X.A) (tk : Takes X Wx) (hg : Gl X x) (ha : QA X Wx (e :: es) dl) (hdb : (x == ("__debug__" : Str)) = false := by decide)
    (he : starEach (e :: es) X.env = (false, eval e X.env) :: starEach es X.env := by rfl) (hpl : (backTo pos (starEach es X.env)).any (·.1) = false := by rfl) : QE X Wx (.Call (.Name x p) (e :: es) [] pos) (dCall g dd dl) := by
  obtain ⟨f, fd, us, dvs, F, hm, hk, hb, hd, hdd⟩ := F.ex
  exact q_call F (hr.mono hn) hg hm hk hb hd hdd tk ha hdb he hpl
end
theorem bb_len : bootBuiltins "len" = some (.builtin "len") := by decide +kernel
theorem bb_abs : bootBuiltins "abs" = some (.builtin "abs") := by decide +kernel
theorem bb_max : bootBuiltins "max" = some (.builtin "max") := by decide +kernel
theorem bb_all : bootBuiltins "all" = some (.builtin "all") := by decide +kernel
theorem bb_sorted : bootBuiltins "sorted" = some (.builtin "sorted") := by decide +kernel
theorem bb_int : bootBuiltins "int" = some (.type "int") := by decide +kernel
theorem bb_str : bootBuiltins "str" = some (.type "str") := by decide +kernel
theorem bb_list : bootBuiltins "list" = some (.type "list") := by decide +kernel
theorem bb_tuple : bootBuiltins "tuple" = some (.type "tuple") := by decide +kernel
theorem bb_bool : bootBuiltins "bool" = some (.type "bool") := by decide +kernel
end DL
namespace DL
open PySem PySem.Spec PyProof.Rows L2
section
variable {X : Cx} {Wx : WX} {a b c e o : Expr} {es rest : List Expr} {da db dc de do' : DE} {dt du : DT} {dl dk : DA} {pos : Pos}
theorem lookup_rp {L : Led} {K : PySem.W.Frag} {H : Hp} {f : Str} : ∀ {ns : List Str} {xs : List V} {ds : List D} {d : D}, RpAll L K H xs ds → (ns.zip ds).lookup f = some d → ∃ v, (ns.zip xs).lookup f = some v ∧ Rp L K H v d
  | [], _, _, _, _, h => by simp at h
  | _ :: _, _, _, _, .nil, h => by simp at h
  | n :: ns, _, _, d, .cons (v := v) (vs := vs) (d := e) (ds := ds) r t, h => by
    by_cases hf : f = n
    · subst hf
      have h' : List.lookup f ((f, e) :: ns.zip ds) = some d := h
      rw [List.lookup_cons_self] at h'
      cases h'
      exact ⟨v, List.lookup_cons_self, r⟩
    · have q : (f == n) = false := by simpa using hf
      have h' : List.lookup f ((n, e) :: ns.zip ds) = some d := h
      rw [List.lookup_cons, q] at h'
      obtain ⟨w, h1, h2⟩ := lookup_rp t h'
      refine ⟨w, ?_, h2⟩
      show List.lookup f ((n, v) :: ns.zip vs) = some w
      rw [List.lookup_cons, q]
      exact h1
def tAtE (K : PySem.W.Frag) (f : Str) (te : TE) : TE := fun σ H Q => te σ H fun x H1 => ∃ (a C d : Addr) (φ : Heap → Prop) (fs : List (Str × V)) (v : V), x = .ref a ∧ H1 a = some (.ext φ) ∧ (∀ h, φ h → ExcAt h a C d) ∧ XDict H1 d fs ∧ XfC K C ∧ PySem.W.findIn K (.ref C) f = some none ∧ fs.lookup f = some v ∧ Q v H1
theorem pe_atE {te : TE} {f : Str} (he : PE X e te) (hb : attributeBase e f X.env (eval e X.env) = eval e X.env := by rfl) : PE X (.Attribute e f pos) (tAtE X.K f te) := by
  refine ⟨fun pins s σ H Q I h => ?_⟩
  refine attr_of hb (thn (he.run pins s σ H _ I h) fun u s1 hh => ?_)
  obtain ⟨x, H1, I1, rx, a, C, d, φ, fs, v, ex, ea, hφ, xd, T, hno, l, q⟩ := hh
  subst ex
  obtain rfl : u = Value.ref a := rx
  have ob : φ s1.heap := by
    have z : ObjOk X.prog X.w H1 s1.heap a (.ext φ) := I1.hok a _ ea
    exact z.1
  obtain ⟨oe, vs, ha, hc, hdd, hdat⟩ := hφ _ ob
  have ns : ∃ mA, s1.heap.Ns1 d mA ∧ ∀ f, RelO (fs.lookup f) (mA f) := by
    rcases xd with xd | xd
    · exact (show ObjOk X.prog X.w H1 s1.heap d (.xd fs) from I1.hok d _ xd)
    · exact exd_at I1.hok xd
  obtain ⟨mA, hns, hr⟩ := ns
  obtain ⟨od, ho, hl⟩ := lookIn_ns hns
  obtain ⟨u, hu, ru⟩ := RelO.some_of (v := v) (o := mA f) (by rw [← l]; exact hr f)
  have J : PySem.W.InstAt s1.heap a oe C (some od) := ⟨ha, hc, by unfold PySem.W.notCls; rw [hdat] <;> rfl, by rw [hdd]; exact ho⟩
  exact HandSPX.exc_get I1.kIn J T.ga T.gg T.exC (PySem.W.findObj_own T.hdC hno rfl (by rw [hl, hu])) (handed_of ru) ⟨v, H1, I1.tok _, ru, q⟩
/-- what the written part must say of a class whose errors' field f is read -/
def FldOk (K : PySem.W.Frag) (C : Addr) (f : Str) : Prop := XfC K C ∧ PySem.W.findIn K (.ref C) f = some none
def dAtE (K : PySem.W.Frag) (f : Str) (da : DE) : DE := fun env L k x => da env L (fun a L1 => match a with
  | .exc C ns vs => FldOk K C f ∧ match (ns.zip vs).lookup f with
    | some d => k d L1
    | none => False
  | _ => False) x
theorem q_atE {f : Str} (he : QE X Wx e da) (hb : attributeBase e f X.env (eval e X.env) = eval e X.env := by rfl) : QE X Wx (.Attribute e f pos) (dAtE X.K f da) := by
  obtain ⟨ta, pa, sa⟩ := he.ex
  refine ⟨_, pe_atE pa hb, fun σ H env L k x Q st h hk hx => ?_⟩
  refine sa σ H env L _ x _ st h (fun a L1 va H1 h1 g1 j1 r1 => ?_) hx
  cases r1 <;> first | exact h1.elim | skip
  rename_i n m ea hφ xd el rv
  obtain ⟨fo, h1⟩ := h1
  split at h1
  · rename_i d hl
    obtain ⟨v, hv, rd⟩ := lookup_rp rv hl
    exact ⟨_, _, _, _, _, v, rfl, ea, hφ, xd, fo.1, fo.2, hv, hk _ L1 _ H1 h1 g1 j1 rd⟩
  · exact h1.elim
def spI1 (C : Addr) (code f : Str) : Sp := fun vs H Q _ => ∃ (a : Addr) (v : V), vs = [.ref a, v] ∧ H a = some (exo a C none) ∧ ∀ d, H d = none → d ≠ a → Q .non (upd (upd (upd H d (exd d [("code", .str code)])) a (exo a C (some d))) d (exd d [(f, v), ("code", .str code)]))
/-- an own error class by name: what is needed to make one -/
structure ExCls (P : Program) (w : World) (K : PySem.W.Frag) (mg : Str → Option Value) (base : Heap) (x : Str) (C : Addr) (ps : List Str) (sp : Sp) : Prop where
  oex : OexC K C
  gC : mg x = some (.ref C)
  make_ : ∃ (fI : Addr) (fd : FuncData), PySem.W.findIn K (.ref C) "__init__" = some (some (.ref fI)) ∧ PySem.W.typeIn K (.ref fI) = some (.type "function") ∧ FnOk P w K mg base (L2.CX P w) 1 fI fd ps sp ∧ Binds K fd ps []
def dRaise1 (C : Addr) (code f : Str) (dl : DA) : DS := fun D env L => dl env L (fun ds L1 => match ds with
  | [v] => D.ex ⟨.ref C, [f, "code"], [v, .str code]⟩ env L1
  | _ => False) D.ex
theorem s_raise1 {x : Str} {C : Addr} {ps : List Str} {code f : Str} {p pos2 : Pos} {k : Nat} (T : ExCls X.prog X.w X.K X.mg X.base x C ps (spI1 C code f)) (hcalm : X.calm = true) (hr : Room k X.A) (h2 : 2 ≤ k) (tk : Takes X Wx) (hg : Gl X x) (ha : QA X Wx [e] dl)
    (hdb : (x == ("__debug__" : Str)) = false := by decide) (he : starEach [e] X.env = (false, eval e X.env) :: starEach [] X.env := by rfl) (hpl : (backTo pos (starEach [] X.env)).any (·.1) = false := by rfl) :
    QS X Wx (.Raise (some (.Call (.Name x p) [e] [] pos)) none pos2) (dRaise1 C code f dl) := by
  obtain ⟨fI, fd, iC, tI, F1, hb⟩ := T.make_
  obtain ⟨ta, pa, sa⟩ := ha.ex
  refine ⟨_, ps_raise (W := Wx) hcalm tk (pmk_oex T.oex iC tI F1 (hr.mono h2) hb .nil (fun _ _ _ _ _ _ _ h => by obtain ⟨_, _, _, _, _, _, _, _, _, _, _, _, z⟩ := h; exact z.elim) hg T.gC pa hdb he hpl), fun σ H env L D' D st h ok => ?_⟩
  refine sa σ H env L _ _ _ st h (fun ds L1 vs H1 h1 g1 j1 r1 => ?_) ok.ex
  split at h1
  · rename_i v
    cases r1 with
    | cons rv r2 =>
      cases r2
      rename_i vv
      refine ⟨by simp, fun q hq => ⟨q, vv, rfl, upd_same, fun d hd hne => ?_⟩⟩
      have hd1 : H1 d = none := by rw [upd_ne hne] at hd; exact hd
      refine ⟨rfl, d, _, ?_, upd_same, hd1, ?_⟩
      · rw [upd_ne (Ne.symm hne), upd_same]
      · have s : Same H1 (upd (del (upd (upd (upd (upd H1 q (exo q C none)) d (exd d [("code", .str code)])) q (exo q C (some d))) d (exd d [(f, vv), ("code", .str code)])) q) d (.xd [(f, vv), ("code", .str code)])) := fun b u hb => by
          have n1 : b ≠ q := ne_of_none hb hq
          have n2 : b ≠ d := ne_of_none hb hd1
          rw [upd_ne n2, del_ne n1, upd_ne n2, upd_ne n1, upd_ne n2, upd_ne n1]
          exact hb
        have g2 := g1.trans (Go.same (L := L1) s)
        have j2 := j1.same s
        exact ok.ex ⟨.ref C, [f, "code"], [v, .str code]⟩ env L1 d _ σ h1 g2 (st.go g2 j2) ⟨j1.notIn hd1, [vv, .str code], upd_same, rfl, .cons (rv.go (Go.same s)) (.cons (.str code) .nil)⟩
  · exact h1.elim
end
end DL
namespace DL
open PySem PySem.Spec PyProof.Rows L2
abbrev Cel := Addr → Option Obj
def addC (cel : Cel) (H : Hp) : Hp := fun b => match cel b with
  | some o => some (celO o)
  | none => H b
def delC (cel : Cel) (H : Hp) : Hp := fun b => match cel b with
  | some _ => none
  | none => H b
section
variable {cel : Cel} {H H' : Hp} {b : Addr} {o : Obj}
theorem addC_in (h : cel b = some o) : addC cel H b = some (celO o) := by unfold addC; rw [h]
theorem addC_out (h : cel b = none) : addC cel H b = H b := by unfold addC; rw [h]
theorem delC_in (h : cel b = some o) : delC cel H b = none := by unfold delC; rw [h]
theorem delC_out (h : cel b = none) : delC cel H b = H b := by unfold delC; rw [h]
end
/-- what the cells' objects are ahead of a call -/
structure CelOk (cel : Cel) (H : Hp) (h : Heap) (fs : List Addr) : Prop where
  at_ : ∀ b o, cel b = some o → h.get? b = some o
  free : ∀ b o, cel b = some o → H b = none
  nofr : ∀ b o, cel b = some o → b ∉ fs
section
variable {P : Program} {w : World} {K : PySem.W.Frag} {mg : Str → Option Value} {base : Heap} {cel : Cel} {H H' : Hp} {h h' B : Heap} {fs : List Addr} {outer : List Env} {s s' : Shared} {A : Around} {Q : VK} {E : XK}
theorem cel_none (c : CelOk cel H h fs) {b : Addr} {u : HO} (e : H b = some u) : cel b = none := by
  cases q : cel b with
  | none => rfl
  | some o => rw [c.free b o q] at e; cases e
theorem hok_add (c : CelOk cel H h fs) (x : HOk P w H h) : HOk P w (addC cel H) h := fun a u e => by
  cases q : cel a with
  | some o =>
    rw [addC_in q] at e
    cases e
    exact ⟨c.at_ a o q, o, c.at_ a o q⟩
  | none =>
    rw [addC_out q] at e
    exact (x a u e).stay (fun _ _ _ z => z) (fun d z => by rw [addC_out (cel_none c z)]; exact z) fun d xs z => by rw [addC_out (cel_none c z)]; exact z
/-- known ones go out of sight -/
theorem hok_del {H1 : Hp} (hc : ∀ b o, cel b = some o → H1 b = some (celO o)) (x : HOk P w H1 h) : HOk P w (delC cel H1) h := fun a u e => by
  cases q : cel a with
  | some o => rw [delC_in q] at e; cases e
  | none =>
    rw [delC_out q] at e
    have out : ∀ d z, H1 d = some z → (∀ o, z ≠ celO o) → cel d = none := fun d z e n => by
      cases q : cel d with
      | none => rfl
      | some o => rw [hc d o q] at e; exact absurd (Option.some.inj e).symm (n o)
    exact (x a u e).stay (fun _ _ _ z => z) (fun d z => by rw [delC_out (out d _ z fun o e => by cases e)]; exact z) fun d xs z => by rw [delC_out (out d _ z fun o e => by cases e)]; exact z
theorem env0_add (c : CelOk cel H s.heap (frs outer)) (hb : ∀ b o, cel b = some o → base.get? b = none) (e : Env0 P w K mg base A outer s H) : Env0 P w K mg base A outer s (addC cel H) := by
  refine ⟨e.frames, e.mod, fun b o q => ⟨(e.bs b o q).1, ?_⟩, e.bsz, e.funs, fun b hb => ?_, hok_add c e.hok, e.bare⟩
  · have z : cel b = none := by
      cases q2 : cel b with
      | none => rfl
      | some o2 => rw [hb b o2 q2] at q; cases q
    rw [addC_out z]
    exact (e.bs b o q).2
  · have z : cel b = none := by
      cases q2 : cel b with
      | none => rfl
      | some o2 => exact absurd hb (c.nofr b o2 q2)
    rw [addC_out z]
    exact e.frf b hb
theorem env0_del (hc : ∀ b o, cel b = some o → H b = some (celO o)) (e : Env0 P w K mg base A outer s H) : Env0 P w K mg base A outer s (delC cel H) := by
  have nn : ∀ b, H b = none → delC cel H b = none := fun b z => by
    cases q : cel b with
    | none => rw [delC_out q]; exact z
    | some o => exact delC_in q
  exact ⟨e.frames, e.mod, fun b o q => ⟨(e.bs b o q).1, nn b (e.bs b o q).2⟩, e.bsz, e.funs, fun b hb => nn b (e.frf b hb), hok_del hc e.hok, e.bare⟩
/-- behind a call that was made with the cells known -/
theorem un_del (c : CelOk cel H h fs) (hok : HOk P w H' h') (u : Un fs [] (addC cel H) H' h h') : Un fs [] H (delC cel H') h h' := by
  have kn : ∀ b o, cel b = some o → H' b = some (celO o) := fun b o q => u.frzs b o _ (addC_in q)
  refine ⟨fun b o e n hb hx => ?_, fun b o e n hb hx => ?_, fun b o e n hx => ?_, fun b o e hx => u.there b o e hx, fun b xs q => ?_, fun b o v q => ?_, fun b ps q => ?_⟩
  · cases q : cel b with
    | some o' =>
      have e1 : h'.get? b = some o' := (hok b _ (kn b o' q)).1
      have e2 := c.at_ b o' q
      rw [e] at e2
      cases e2
      exact e1
    | none => exact u.keep b o e (by rw [addC_out q]; exact n) hb hx
  · cases q : cel b with
    | some o' => exact absurd hb (c.nofr b o' q)
    | none => exact u.slot b o e (by rw [addC_out q]; exact n) hb hx
  · cases q : cel b with
    | some o' => exact delC_in q
    | none => rw [delC_out q]; exact u.free b o e (by rw [addC_out q]; exact n) hx
  · have z := cel_none c q
    rw [delC_out z]
    exact u.tups b xs (by rw [addC_out z]; exact q)
  · have z := cel_none c q
    rw [delC_out z]
    exact u.frzs b o v (by rw [addC_out z]; exact q)
  · have z := cel_none c q
    rw [delC_out z]
    exact u.tbls b ps (by rw [addC_out z]; exact q)
theorem ub_del (c : CelOk cel H h fs) (hok : HOk P w H' B) (u : UB fs (addC cel H) H' h B h') : UB fs H (delC cel H') h B h' := by
  have kn : ∀ b o, cel b = some o → H' b = some (celO o) := fun b o q => u.frzs b o _ (addC_in q)
  refine ⟨fun b o e n hb => ?_, u.slot, fun b o e n => ?_, u.there, fun b xs q => ?_, fun b o v q => ?_, fun b ps q => ?_⟩
  · cases q : cel b with
    | some o' =>
      have e1 : B.get? b = some o' := (hok b _ (kn b o' q)).1
      have e2 := c.at_ b o' q
      rw [e] at e2
      cases e2
      exact e1
    | none => exact u.keep b o e (by rw [addC_out q]; exact n) hb
  · cases q : cel b with
    | some o' => exact delC_in q
    | none => rw [delC_out q]; exact u.free b o e (by rw [addC_out q]; exact n)
  · have z := cel_none c q
    rw [delC_out z]
    exact u.tups b xs (by rw [addC_out z]; exact q)
  · have z := cel_none c q
    rw [delC_out z]
    exact u.frzs b o v (by rw [addC_out z]; exact q)
  · have z := cel_none c q
    rw [delC_out z]
    exact u.tbls b ps (by rw [addC_out z]; exact q)
theorem cr_del (c : CelOk cel H s.heap (frs outer)) {r : Result} (h : CR (L2.CX P w) outer P w (addC cel H) s (fun v H' => Q v (delC cel H')) (fun cls d H' => E cls d (delC cel H')) r s') : CR (L2.CX P w) outer P w H s Q E r s' := by
  cases r with
  | ok fl =>
    cases fl with
    | ret u =>
      obtain ⟨v, H', os, bare, un, hok, rv, q⟩ := h
      exact ⟨v, delC cel H', os, bare, un_del c hok un, hok_del (fun b o e => un.frzs b o _ (addC_in e)) hok, rv, q⟩
    | next => exact h
    | brk => exact h
    | cont => exact h
  | error e =>
    obtain ⟨a, B, H', cls, d, eq, fly, hok, ub, na, os, bare, q⟩ := h
    refine ⟨a, B, delC cel H', cls, d, eq, fly, hok_del (fun b o e => ub.frzs b o _ (addC_in e)) hok, ub_del c hok ub, ?_, os, bare, q⟩
    cases q : cel a with
    | some o => exact delC_in q
    | none => rw [delC_out q]; exact na
/-- behind a call that was made with known cells out of sight -/
theorem un_add (hc : ∀ b o, cel b = some o → H b = some (celO o)) (u : Un fs [] (delC cel H) H' h h') : Un fs [] H (addC cel H') h h' := by
  have out : ∀ b, H b = none → cel b = none := fun b z => by
    cases q : cel b with
    | none => rfl
    | some o => rw [hc b o q] at z; cases z
  have out2 : ∀ d z, H d = some z → (∀ o, z ≠ celO o) → cel d = none := fun d z e n => by
    cases q : cel d with
    | none => rfl
    | some o => rw [hc d o q] at e; exact absurd (Option.some.inj e).symm (n o)
  refine ⟨fun b o e n hb hx => u.keep b o e (by rw [delC_out (out b n)]; exact n) hb hx, fun b o e n hb hx => u.slot b o e (by rw [delC_out (out b n)]; exact n) hb hx, fun b o e n hx => ?_, u.there, fun b xs q => ?_, fun b o v q => ?_, fun b ps q => ?_⟩
  · rw [addC_out (out b n)]
    exact u.free b o e (by rw [delC_out (out b n)]; exact n) hx
  · have z := out2 b _ q (fun o e => by cases e)
    rw [addC_out z]
    exact u.tups b xs (by rw [delC_out z]; exact q)
  · cases z : cel b with
    | some o' =>
      rw [hc b o' z] at q
      rw [addC_in z]
      exact q
    | none =>
      rw [addC_out z]
      exact u.frzs b o v (by rw [delC_out z]; exact q)
  · have z := out2 b _ q (fun o e => by cases e)
    rw [addC_out z]
    exact u.tbls b ps (by rw [delC_out z]; exact q)
theorem ub_add (hc : ∀ b o, cel b = some o → H b = some (celO o)) (u : UB fs (delC cel H) H' h B h') : UB fs H (addC cel H') h B h' := by
  have out : ∀ b, H b = none → cel b = none := fun b z => by
    cases q : cel b with
    | none => rfl
    | some o => rw [hc b o q] at z; cases z
  have out2 : ∀ d z, H d = some z → (∀ o, z ≠ celO o) → cel d = none := fun d z e n => by
    cases q : cel d with
    | none => rfl
    | some o => rw [hc d o q] at e; exact absurd (Option.some.inj e).symm (n o)
  refine ⟨fun b o e n hb => u.keep b o e (by rw [delC_out (out b n)]; exact n) hb, u.slot, fun b o e n => ?_, u.there, fun b xs q => ?_, fun b o v q => ?_, fun b ps q => ?_⟩
  · rw [addC_out (out b n)]
    exact u.free b o e (by rw [delC_out (out b n)]; exact n)
  · have z := out2 b _ q (fun o e => by cases e)
    rw [addC_out z]
    exact u.tups b xs (by rw [delC_out z]; exact q)
  · cases z : cel b with
    | some o' =>
      rw [hc b o' z] at q
      rw [addC_in z]
      exact q
    | none =>
      rw [addC_out z]
      exact u.frzs b o v (by rw [delC_out z]; exact q)
  · have z := out2 b _ q (fun o e => by cases e)
    rw [addC_out z]
    exact u.tbls b ps (by rw [delC_out z]; exact q)
theorem hok_back (ca : ∀ b o, cel b = some o → h'.get? b = some o) (cn : ∀ b o, cel b = some o → H' b = none) (x : HOk P w H' h') : HOk P w (addC cel H') h' := hok_add (fs := []) ⟨ca, cn, fun _ _ _ z => by cases z⟩ x
theorem cr_add (hc : ∀ b o, cel b = some o → H b = some (celO o)) (hh : HOk P w H s.heap) (hf : ∀ b ∈ frs outer, H b = none) {r : Result} (h : CR (L2.CX P w) outer P w (delC cel H) s (fun v H' => (∀ b o, cel b = some o → H' b = none) → Q v (addC cel H')) (fun cls d H' => (∀ b o, cel b = some o → H' b = none) → E cls d (addC cel H')) r s') : CR (L2.CX P w) outer P w H s Q E r s' := by
  have at_ : ∀ b o, cel b = some o → s.heap.get? b = some o := fun b o q => (hh b _ (hc b o q)).1
  have nf : ∀ b o, cel b = some o → b ∉ frs outer := fun b o q z => by have := hf b z; rw [hc b o q] at this; cases this
  cases r with
  | ok fl =>
    cases fl with
    | ret u =>
      obtain ⟨v, H', os, bare, un, hok, rv, q⟩ := h
      have cn : ∀ b o, cel b = some o → H' b = none := fun b o e => un.free b o (at_ b o e) (delC_in e) (by simp)
      exact ⟨v, addC cel H', os, bare, un_add hc un, hok_back (fun b o e => un.keep b o (at_ b o e) (delC_in e) (nf b o e) (by simp)) cn hok, rv, q cn⟩
    | next => exact h
    | brk => exact h
    | cont => exact h
  | error e =>
    obtain ⟨a, B, H', cls, d, eq, fly, hok, ub, na, os, bare, q⟩ := h
    have cn : ∀ b o, cel b = some o → H' b = none := fun b o e => ub.free b o (at_ b o e) (delC_in e)
    have ca : ∀ b o, cel b = some o → B.get? b = some o := fun b o e => ub.keep b o (at_ b o e) (delC_in e) (nf b o e)
    refine ⟨a, B, addC cel H', cls, d, eq, fly, hok_back ca cn hok, ub_add hc ub, ?_, os, bare, q cn⟩
    cases z : cel a with
    | some o =>
      have e1 := ca a o z
      obtain ⟨_, na2, _⟩ := id fly
      rw [na2] at e1
      cases e1
    | none => rw [addC_out z]; exact na
end
end DL
namespace DL
open PySem PySem.Spec PyProof.Rows L2
mutual
/-- no lambda with known cells within -/
def pln : D → Bool
  | .clo _ _ => false
  | .lst xs => plns xs
  | .tup xs => plns xs
  | .ro xs => plns xs
  | .dk _ xs => plns xs
  | .dt _ xs => plns xs
  | .obj _ _ xs => plns xs
  | .exc _ _ xs => plns xs
  | .non => true | .bl _ => true | .int _ => true | .str _ => true | .fnv _ _ => true | .tab _ => true | .ptr _ => true | .ty _ => true | .kt _ => true
def plns : List D → Bool
  | [] => true
  | d :: r => pln d && plns r
end
def plnL (L : Led) : Bool := plns (L.map (·.2))
theorem plns_map {α : Type} {f : α → D} (h : ∀ a, pln (f a) = true) : ∀ l : List α, plns (l.map f) = true
  | [] => by unfold plns; rfl
  | a :: r => by
    show plns (f a :: r.map f) = true
    unfold plns
    rw [h a, plns_map h r]; rfl
theorem plns_mem : ∀ {l : List D} {d : D}, plns l = true → d ∈ l → pln d = true
  | [], _, _, h => by cases h
  | a :: r, d, p, h => by
    unfold plns at p
    have p := Bool.and_eq_true_iff.mp p
    rcases List.mem_cons.mp h with e | e
    · rw [e]; exact p.1
    · exact plns_mem p.2 e
theorem plns_append : ∀ {a b : List D}, plns a = true → plns b = true → plns (a ++ b) = true
  | [], _, _, h => h
  | x :: a, b, p, h => by
    unfold plns at p
    have p := Bool.and_eq_true_iff.mp p
    show plns (x :: (a ++ b)) = true
    unfold plns
    rw [p.1, plns_append p.2 h]; rfl
section
variable {L : Led} {K : PySem.W.Frag} {H : Hp} {cel : Cel}
section
variable (hc : ∀ b o, cel b = some o → H b = some (celO o))
theorem del_keep {b : Addr} {u : HO} (hc : ∀ b o, cel b = some o → H b = some (celO o)) (e : H b = some u) (n : ∀ o, u ≠ celO o) : delC cel H b = some u := by
  have z : cel b = none := by
    cases q : cel b with
    | none => rfl
    | some o => rw [hc b o q] at e; exact absurd (Option.some.inj e).symm (n o)
  rw [delC_out z]
  exact e
include hc
theorem rd_del {a : Addr} {u : HO} (h : Rd H a u) (n : ∀ o, u ≠ celO o) (n2 : ∀ x, u ≠ .own x) : Rd (delC cel H) a u := by
  rcases h with h | ⟨o, h⟩
  · exact .inl (del_keep hc h n)
  · refine .inr ⟨o, del_keep hc h fun o' e => ?_⟩
    have e2 : u = .own 0 := by cases e; rfl
    exact n2 0 e2
theorem fnv_del {f : Addr} {F : LamF} {cl : List (Str × Addr)} (h : FnvAt L H f F cl) : FnvAt L (delC cel H) f F cl := by
  obtain ⟨nf, c, dV, h1, n2, h2, h3⟩ := h
  refine ⟨nf, c, dV, del_keep hc h1 fun o e => ?_, n2, del_keep hc h2 fun o e => ?_, ?_⟩
  · unfold LamO at e; cases e
  · unfold LamX.CodeO at e; cases e
  · rcases h3 with h3 | ⟨z, t, e, n, h3⟩
    · exact .inl h3
    · exact .inr ⟨z, t, e, n, del_keep hc h3 fun o e => by cases e⟩
end
mutual
theorem Rp.del (hc : ∀ b o, cel b = some o → H b = some (celO o)) : ∀ {v : V} {d : D}, pln d = true → Rp L K H v d → Rp L K (delC cel H) v d
  | _, _, _, .non => .non
  | _, _, _, .bl b => .bl b
  | _, _, _, .int i => .int i
  | _, _, _, .str x => .str x
  | _, _, _, .ty n => .ty n
  | _, _, _, .ptr a => .ptr a
  | _, _, p, .lst n h r => .lst n (del_keep hc h fun o e => by cases e) (RpAll.del hc (by simpa only [pln] using p) r)
  | _, _, p, .ro s r => .ro (s.elim (fun z => .inl ⟨z.1, rd_del hc z.2 (fun o e => by cases e) (fun o e => by cases e)⟩) .inr) (RpAll.del hc (by simpa only [pln] using p) r)
  | _, _, p, .tup s r => .tup (s.elim (fun z => .inl ⟨z.1, rd_del hc z.2 (fun o e => by cases e) (fun o e => by cases e)⟩) .inr) (RpAll.del hc (by simpa only [pln] using p) r)
  | _, _, p, .dk n h e r => .dk n (rd_del hc h (fun o e => by cases e) (fun o e => by cases e)) e (RpAll.del hc (by simpa only [pln] using p) r)
  | _, _, p, .dt n h e r => .dt n (rd_del hc h (fun o e => by cases e) (fun o e => by cases e)) e (RpAll.del hc (by simpa only [pln] using p) r)
  | _, _, p, .obj n h e r => .obj n (del_keep hc h fun o e => by cases e) e (RpAll.del hc (by simpa only [pln] using p) r)
  | _, _, p, .exc n m h q x e r => .exc n m (del_keep hc h fun o e => by cases e) q (x.elim (fun z => .inl (del_keep hc z fun o e => by cases e)) (fun z => .inr (del_keep hc z fun o e => by unfold exd at e; cases e))) e (RpAll.del hc (by simpa only [pln] using p) r)
  | _, _, _, .fnv h => .fnv (fnv_del hc h)
  | _, _, p, .clo _ _ => by simp [pln] at p
  | _, _, _, .kt n h => .kt n (del_keep hc h fun o e => by cases e)
theorem RpAll.del (hc : ∀ b o, cel b = some o → H b = some (celO o)) : ∀ {vs : List V} {ds : List D}, plns ds = true → RpAll L K H vs ds → RpAll L K (delC cel H) vs ds
  | _, _, _, .nil => .nil
  | _, _, p, .cons h r => by
    have p := Bool.and_eq_true_iff.mp (show (pln _ && plns _) = true by simpa only [plns] using p)
    exact .cons (Rp.del hc p.1 h) (RpAll.del hc p.2 r)
end
theorem Own.del (hc : ∀ b o, cel b = some o → H b = some (celO o)) {a : Addr} {d : D} (p : pln d = true) (h : Own L K H a d) : Own L K (delC cel H) a d := by
  cases d with
  | lst ds => obtain ⟨vs, h1, h2⟩ := h; exact ⟨vs, del_keep hc h1 (fun o e => by cases e), h2.del hc (by simpa only [pln] using p)⟩
  | dk ks ds => obtain ⟨vs, h1, h3, h2⟩ := h; exact ⟨vs, del_keep hc h1 (fun o e => by cases e), h3, h2.del hc (by simpa only [pln] using p)⟩
  | dt ks ds => obtain ⟨vs, h1, h3, h2⟩ := h; exact ⟨vs, del_keep hc h1 (fun o e => by cases e), h3, h2.del hc (by simpa only [pln] using p)⟩
  | obj C ns ds => obtain ⟨dx, vs, h1, h3, h2⟩ := h; exact ⟨dx, vs, del_keep hc h1 (fun o e => by cases e), h3, h2.del hc (by simpa only [pln] using p)⟩
  | tab q =>
    obtain ⟨ps, h1, h2, h3⟩ := h
    refine ⟨ps, del_keep hc h1 (fun o e => by cases e), h2, fun pos cv hh => ?_⟩
    obtain ⟨c, q1, n, q2⟩ := h3 pos cv hh
    exact ⟨c, q1, n, del_keep hc q2 fun o e => by unfold LamX.CodeO at e; cases e⟩
  | _ => exact h.elim
theorem JL.del (hc : ∀ b o, cel b = some o → H b = some (celO o)) (p : plnL L = true) (j : JL K L H) : JL K L (delC cel H) :=
  ⟨j.nd, fun a d m => Own.del hc (plns_mem p (List.mem_map.mpr ⟨_, m, rfl⟩)) (j.own a d m)⟩
/-- .. and back -/
theorem same_add (cn : ∀ b o, cel b = some o → H b = none) : Same H (addC cel H) := fun b o e => by
  have z : cel b = none := by
    cases q : cel b with
    | none => rfl
    | some o => rw [cn b o q] at e; cases e
  rw [addC_out z]
  exact e
/-- from the state without them to the state with them -/
theorem go_back {L' : Led} {H' : Hp} (hc : ∀ b o, cel b = some o → H b = some (celO o)) (cn : ∀ b o, cel b = some o → H' b = none) (j : JL K L' H') (g : Go L L' (delC cel H) H') : Go L L' H (addC cel H') := fun a o n e => by
  cases q : cel a with
  | some o' =>
    rw [hc a o' q] at e
    cases e
    exact ⟨j.notIn (cn a o' q), .inl (addC_in q)⟩
  | none =>
    rw [addC_out q]
    exact g a o n (by rw [delC_out q]; exact e)
/-- from the state without them to the end of a call with them, and out of sight again -/
theorem go_out {L' : Led} {H' : Hp} (cn : ∀ b o, cel b = some o → H b = none) (g : Go L L' (addC cel H) H') : Go L L' H (delC cel H') := fun a o n e => by
  have z : cel a = none := by
    cases q : cel a with
    | none => rfl
    | some o => rw [cn a o q] at e; cases e
  rw [delC_out z]
  exact g a o n (by rw [addC_out z]; exact e)
end
structure CloOk (P : Program) (w : World) (K : PySem.W.Frag) (mg : Str → Option Value) (base : Heap) (n : Nat) (G : LamF → DSp) : Prop where
  run : ∀ (A : Around) (outer : List Env) (s : Shared) (H : Hp) (f : Addr) (F : LamF) (vs : List V) (ds : List D) (L : Led) (k : DK) (x : Exn → Led → Prop) (Q : VK) (E : XK), Room n A → Env0 P w K mg base A outer s H → CloAt L H f F vs → JL K L H → RpAll L K H vs ds → G F ds L k x →
    KOk K L H k Q → (∀ n L' a H', x n L' → Go L L' H H' → JL K L' H' → ExR L' K H' a n → E n.cls (some a) H') → codeAny (model P w) A (.call (.ref f) ⟨[], []⟩) (CR (L2.CX P w) outer P w H s Q E) s
theorem CloOk.mono {P : Program} {w : World} {K : PySem.W.Frag} {mg : Str → Option Value} {base : Heap} {n m : Nat} {G : LamF → DSp} (c : CloOk P w K mg base n G) (h : n ≤ m) : CloOk P w K mg base m G :=
  ⟨fun A outer s H f F vs ds L k x Q E hr => c.run A outer s H f F vs ds L k x Q E (hr.mono h)⟩
theorem CloOk.or {P : Program} {w : World} {K : PySem.W.Frag} {mg : Str → Option Value} {base : Heap} {n : Nat} {G G' : LamF → DSp} (c : CloOk P w K mg base n G) (c' : CloOk P w K mg base n G') : CloOk P w K mg base n (fun F ds L k x => G F ds L k x ∨ G' F ds L k x) :=
  ⟨fun A outer s H f F vs ds L k x Q E hr e0 ca j r g hk hx => g.elim (fun g => c.run A outer s H f F vs ds L k x Q E hr e0 ca j r g hk hx) (fun g => c'.run A outer s H f F vs ds L k x Q E hr e0 ca j r g hk hx)⟩
theorem lamO_at {P : Program} {w : World} {H : Hp} {h : Heap} {f c : Addr} {F : LamF} {cl : List (Str × Addr)} {dV : Value} (hok : HOk P w H h) (e : H f = some (LamO f F cl dV c)) : ∃ (od : Option Addr) (sl : Array (Option Value)) (doc pm ctv : Value), h.get? f = some (⟨.type "function", od, .func (PySem.W.kdv_fn "<lambda>" F.qual F.params (.expr F.body) F.scope cl dV doc pm (.ref c) ctv), sl⟩ : Obj) := by
  obtain ⟨z, _, _⟩ := hok f _ e
  exact z
/-- how its (left out) argument is bound -/
def BindF (F : LamF) : Prop := match F.ps with
  | [] => ∀ (cl : List (Str × Addr)) (doc pm cv ctv : Value), bindArgs (PySem.W.kdv_fn "<lambda>" F.qual F.params (.expr F.body) F.scope cl .none doc pm cv ctv) ⟨[], []⟩ = pure []
  | [x] => ∀ (cl : List (Str × Addr)) (t : Addr) (doc pm cv ctv : Value), ∃ k : Option (Array Value) → Sem (List (Str × Value)), bindArgs (PySem.W.kdv_fn "<lambda>" F.qual F.params (.expr F.body) F.scope cl (.ref t) doc pm cv ctv) ⟨[], []⟩ = seqItems? (.ref t) >>= k ∧ ∀ u, k (some #[u]) = pure [(x, u)]
  | _ => False
theorem binds_lam {P : Program} {w : World} {L : Led} {H : Hp} {s : Shared} {F : LamF} {cl : List (Str × Addr)} {dV doc pm cv ctv : Value} (b : BindF F) (hok : HOk P w H s.heap) (d : DvAt L H F.ps.length dV) :
    ∃ us : List Value, Vals (List.replicate F.ps.length (.int 0)) us ∧ BindsTo s (PySem.W.kdv_fn "<lambda>" F.qual F.params (.expr F.body) F.scope cl dV doc pm cv ctv) ⟨[], []⟩ (F.ps.zip us) := by
  unfold BindF at b
  split at b
  · rename_i e
    rw [e] at d ⊢
    rcases d with ⟨_, e2⟩ | ⟨z, t, e2, _, ht⟩
    · subst e2
      exact ⟨[], .nil, .of_eq (b cl doc pm cv ctv)⟩
    · exact absurd rfl z
  · rename_i x e
    rw [e] at d ⊢
    rcases d with ⟨z, _⟩ | ⟨_, t, e2, _, ht⟩
    · cases z
    · subst e2
      obtain ⟨_, its, rv, o, h1, h2, n, h3⟩ := hok t _ ht
      obtain ⟨k, b1, b2⟩ := b cl t doc pm cv ctv
      cases rv with
      | cons r0 r1 =>
        cases r1
        rename_i u
        exact ⟨[u], .cons r0 .nil, BindsTo.of_defaults rfl h1 h3 b1 (b2 u)⟩
  · exact b.elim
def nfOf (F : LamF) (cl : List (Str × Addr)) (c : Addr) : NdefX.NF := ⟨"<lambda>", F.qual, F.params, [], F.scope, cl, c⟩
/-- the slots at a lambda's entry -/
def lamEnvD (N : List Str) (F : LamF) (ds : List D) : DEnv := List.replicate F.ps.length (some (.int 0)) ++ (ds.map some ++ List.replicate (N.length - F.ps.length - ds.length) none)
theorem sto_rep {L : Led} {K : PySem.W.Frag} {H : Hp} {σ : L2.St} {e : DEnv} (h : Sto L K H σ e) : ∀ m : Nat, Sto L K H (List.replicate m (some (.int 0)) ++ σ) (List.replicate m (some (.int 0)) ++ e)
  | 0 => h
  | m + 1 => by
    rw [List.replicate_succ, List.replicate_succ, List.cons_append, List.cons_append]
    exact .sm (.int 0) (sto_rep h m)
theorem sto_lam {L : Led} {K : PySem.W.Frag} {H : Hp} {N : List Str} {F : LamF} {vs : List V} {ds : List D} (r : RpAll L K H vs ds) : Sto L K H (NdefX.startF N (List.replicate F.ps.length (.int 0)) (vs.map some)) (lamEnvD N F ds) := by
  unfold NdefX.startF lamEnvD
  rw [List.map_replicate, List.length_replicate, List.length_map, r.length]
  have h1 : Sto L K H (vs.map some ++ List.replicate (N.length - F.ps.length - ds.length) none) (ds.map some ++ List.replicate (N.length - F.ps.length - ds.length) none) := Sto.start r
  exact sto_rep h1 _
section
variable {P : Program} {w : World} {K : PySem.W.Frag} {mg : Str → Option Value} {base : Heap}
theorem clo_of {F : LamF} {N : List Str} {k : Nat} {g : DSp} (S : NdefX.NScope N F.ps F.fr F.scope) (hb : BindF F)
    (body : ∀ (cl : List (Str × Addr)) (c f : Addr) (A : Around) (outer : List Env) (s : Shared) (H : Hp) (E : XK), Room k (A.deeper (NdefX.envF (nfOf F cl c) f s.heap.objs.size)) →
      ∃ t, QE (NdefX.ncx (L2.CX P w) P w K mg base N (nfOf F cl c) f A outer s H E) (wxOf E) F.body t ∧ ∀ ds L k x, g ds L k x → t (lamEnvD N F ds) L k fun n _ L' => x n L') :
    CloOk P w K mg base (k + 1) (fun F' ds L k x => F' = F ∧ plnL L = true ∧ plns ds = true ∧ g ds L k x) := by
  refine ⟨fun A outer s H f F' vs ds L kk x Q E hr e0 ca j r hg hk hx => ?_⟩
  obtain ⟨rfl, pL, pd, hg⟩ := hg
  obtain ⟨cl, ⟨nf, c, dV, hf, nc, hco, hdv⟩, hlen, hinj, hin, hcells⟩ := ca
  obtain ⟨od, sl, doc, pm, ctv, ho⟩ := lamO_at e0.hok hf
  have lim : s.heap.NoLimit := e0.mod.nolimit.keeps fun b o e => (e0.bs b o e).1
  -- the cells
  open Classical in
  let cel : Cel := fun b => if (∃ y, cl.lookup y = some b) then (match H b with | some (.frz o (.own 0)) => some o | _ => none) else none
  have hc : ∀ b o, cel b = some o → H b = some (celO o) := fun b o e => by
    have e : (if (∃ y, cl.lookup y = some b) then (match H b with | some (.frz o (.own 0)) => some o | _ => none) else none) = some o := e
    split at e
    · split at e
      · rename_i q; cases e; exact q
      · cases e
    · cases e
  have hcc : ∀ (y : Str) (b : Addr) (o : Obj), cl.lookup y = some b → H b = some (celO o) → cel b = some o := fun y b o e1 e2 => by
    show (if (∃ y, cl.lookup y = some b) then (match H b with | some (.frz o (.own 0)) => some o | _ => none) else none) = some o
    rw [if_pos ⟨y, e1⟩, e2]
    rfl
  have e1 := env0_del hc e0
  have C : NdefX.CellsAt cl F'.fr (vs.map some) s.heap (delC cel H) := by
    refine ⟨by rw [List.length_map]; exact hlen, fun y b e => ?_, hinj, fun i y e => ?_⟩
    · obtain ⟨i, hi⟩ := List.mem_iff_getElem?.mp (hin y b e)
      obtain ⟨cc, oc, u, v, q1, _, q2, q3, _⟩ := hcells i y hi
      rw [e] at q1
      cases q1
      exact ⟨delC_in (hcc y b oc e q2), some u, oc, (e0.hok b _ q2).1, q3⟩
    · obtain ⟨cc, oc, u, v, q1, _, q2, q3, q4, q5⟩ := hcells i y e
      refine ⟨cc, q1, fun v' hv => ?_⟩
      rw [List.getElem?_map, q4] at hv
      cases hv
      exact ⟨u, q5, oc, (e0.hok cc _ q2).1, q3⟩
  obtain ⟨us, hus, hbind⟩ := binds_lam (P := P) (w := w) (cl := cl) (doc := doc) (pm := pm) (cv := .ref c) (ctv := ctv) hb e0.hok hdv
  refine codeAny_mono (R := CR (L2.CX P w) outer P w (delC cel H) s (fun v H' => (∀ b o, cel b = some o → H' b = none) → Q v (addC cel H')) (fun cls d H' => (∀ b o, cel b = some o → H' b = none) → E cls d (addC cel H'))) ?_ fun r' s' q => cr_add hc e0.hok e0.frf q
  refine PySem.W.kla_callFunE hr.depth ho rfl S.co S.gen rfl (NdefX.codeO_at e0.hok hco) (hbind _ _ _ _ ?_)
  refine wpAny_newFunctionEnv S.nocell (fun ⟨n, _⟩ hy => S.par n (List.of_mem_zip hy).1) (fun h₁ hns hsb => ⟨lim.fresh _ hsb, ?_⟩) S.kind
  show codeAny _ _ (.expr F'.body (NdefX.envF (nfOf F' cl c) f s.heap.objs.size)) _ _
  have kp : ∀ b o, s.heap.get? b = some o → h₁.get? b = some o := fun b o e => hsb.extBut b o (Nat.ne_of_lt (Heap.lt_size e)) (Heap.get?_push_of_some _ e)
  obtain ⟨t, qe, ht⟩ := body cl c f A outer s (delC cel H) (fun cls d H' => (∀ b o, cel b = some o → H' b = none) → E cls d (addC cel H')) (hr.deeper _)
  obtain ⟨te, pe, se⟩ := qe.ex
  have I := NdefX.inv_startN (CX := L2.CX P w) (F := nfOf F' cl c) (f := f) (E := fun cls d H' => (∀ b o, cel b = some o → H' b = none) → E cls d (addC cel H')) (tk := s.toks + (F'.ps.zip us).length) S hr.hd e1 (List.length_replicate) hus C hns kp
  refine PySem.W.kla_codeExpr (wpAny_mono (pe.run [] _ _ (delC cel H) (fun v H' => (∀ b o, cel b = some o → H' b = none) → Q v (addC cel H')) I ?_) (fun v s' hq => ?_) fun e s' hq => hq)
  · refine se _ (delC cel H) (lamEnvD N F' ds) L kk (fun n _ L' => x n L') _ ⟨sto_lam (r.del hc pd), j.del hc pL⟩ (ht ds L kk x hg) (fun d L' v H' q g' j' r' cn => ?_) (fun n env' L' a H' σ' q g' st' r' cn => ?_)
    · have s1 := same_add (H := H') cn
      exact hk d L' v (addC cel H') q (go_back hc cn j' g') (j'.same s1) (r'.go (Go.same s1))
    · have s1 := same_add (H := H') cn
      obtain ⟨na, vs', e1, e2, e3⟩ := r'
      exact hx n L' a (addC cel H') q (go_back hc cn st'.2 g') (st'.2.same s1) ⟨na, vs', s1 a _ e1, e2, e3.go (Go.same s1)⟩
  · obtain ⟨v', H', J', rv, q⟩ := hq
    exact ⟨v', H', J'.os, J'.bare, J'.base, J'.hok, rv, q⟩
end
end DL
namespace DL
open PySem PySem.Spec PyProof.Rows L2
section
variable {X : Cx} {Wx : WX} {a b c e o : Expr} {es rest : List Expr} {da db dc de do' : DE} {dt du : DT} {dl dk : DA} {pos : Pos}
def dCallClo (G : LamF → DSp) (i : Nat) : DE := fun env L k x => match env[i]? with
  | some (some (.clo F ds)) => G F ds L k fun n L' => x n env L'
  | _ => False
def tCallClo (K : PySem.W.Frag) (G : LamF → DSp) (i : Nat) (Wx : WX) : TE := fun σ H Q => ∃ f F vs ds L k x, σ[i]? = some (some (.ref f)) ∧ CloAt L H f F vs ∧ JL K L H ∧ RpAll L K H vs ds ∧ G F ds L k x ∧ KOk K L H k Q ∧ ∀ n L' a H', x n L' → Go L L' H H' → JL K L' H' → ExR L' K H' a n → Wx n.cls (some a) σ H'
theorem pe_callClo {x : Str} {p1 p2 : Pos} {k n i : Nat} {G : LamF → DSp} (C : CloOk X.prog X.w X.K X.mg X.base n G) (hn : n ≤ k) (hr : Room k X.A) (tk : Takes X Wx) (hN : X.N[i]? = some x) (hv : Vis X.env.scope x) (hd : (x == ("__debug__" : Str)) = false := by decide) (hcd : (x == ("__classdict__" : Str)) = false := by decide) :
    PE X (.Call (.Name x p1) [] [] p2) (tCallClo X.K G i Wx) := by
  refine ⟨fun pins s σ H Q I h => ?_⟩
  obtain ⟨f, F, vs, ds, L, kk, xx, hs, ca, j, r, g, hk, hx⟩ := h
  refine wpAny_Call_Name_kw (thn ((pe_var (pos := p1) (i := i) hN hv hd hcd).run pins s σ H (fun v H1 => v = .ref f ∧ H1 = H) I ⟨.ref f, hs, rfl, rfl⟩) fun u s1 ⟨v, H1, I1, r1, q1⟩ => ?_)
  obtain ⟨ev, eH⟩ := q1
  subst ev
  rw [eH] at I1
  obtain rfl : u = Value.ref f := r1
  obtain ⟨cl, ⟨nf, c, dV, hf, _⟩, _⟩ := id ca
  obtain ⟨od, sl, doc, pm, ctv, ho⟩ := lamO_at I1.hok hf
  refine PySem.W.callWith_F0 ⟨_, _, _, _, ho⟩ ?_
  have rc := C.run X.A X.stack s1 H f F vs ds L kk xx Q (WE Wx σ) (hr.mono hn) I1.env0 ca j r g hk hx
  refine wpAny_call (codeAny_mono rc fun r' s' hq => ?_)
  cases r' with
  | error e => exact passAt tk σ pins H s1 e s' I1 hq
  | ok fl =>
    cases fl with
    | ret u => exact I1.after hq
    | next => exact False.elim hq
    | brk => exact False.elim hq
    | cont => exact False.elim hq
theorem q_callClo {x : Str} {p1 p2 : Pos} {k n : Nat} (i : Nat) {G : LamF → DSp} (C : CloOk X.prog X.w X.K X.mg X.base n G) (hn : n ≤ k) (hr : Room k X.A) (tk : Takes X Wx) (hN : X.N[i]? = some x := by rfl) (hv : Vis X.env.scope x := by first | exact Or.inl rfl | exact Or.inr (Or.inl rfl) | exact Or.inr (Or.inr rfl)) (hd : (x == ("__debug__" : Str)) = false := by decide) (hcd : (x == ("__classdict__" : Str)) = false := by decide) :
    QE X Wx (.Call (.Name x p1) [] [] p2) (dCallClo G i) := by
  refine ⟨_, pe_callClo (p1 := p1) (p2 := p2) (i := i) C hn hr tk hN hv hd hcd, fun σ H env L kk xx Q st h hk hx => ?_⟩
  unfold dCallClo at h
  split at h
  · rename_i F ds he
    obtain ⟨v, hs, rv⟩ := st.1.get he
    cases rv with
    | clo ca r => exact ⟨_, F, _, ds, L, kk, fun n L' => xx n env L', hs, ca, st.2, r, h, hk, fun n L' a H' q g' j' r' => hx n env L' a H' σ q g' (st.go g' j') r'⟩
  · exact h.elim
/-- how the running frame's names lie to what a lambda captures: js the slots -/
def capB (sc : Scope) (N : List Str) (F : LamF) (js : List Nat) : Bool :=
  (F.scope.names.all fun y => !decide (y.2 = .free) || decide (sc.names.lookup y.1 = some .cell) || decide (sc.names.lookup y.1 = some .free)) && (F.fr.all fun y => decide ((y, NameKind.free) ∈ F.scope.names)) && (F.scope.names.all fun y => !decide (y.2 = .free) || decide (y.1 ∈ F.fr)) && decide (js.map (fun j => N[j]?) = F.fr.map some)
mutual
inductive Close (sc : Scope) (N : List Str) (cells : List (Str × Addr)) (env : DEnv) : D → D → Prop
  | refl (d : D) : Close sc N cells env d d
  | fnv {F : LamF} {js : List Nat} {ds : List D} : capB sc N F js = true → js.map (fun j => env[j]?) = ds.map (fun d => some (some d)) → Close sc N cells env (.fnv F (cloFrom cells F.scope.names [])) (.clo F ds)
  | lst {xs ys : List D} : CloseL sc N cells env xs ys → Close sc N cells env (.lst xs) (.lst ys)
inductive CloseL (sc : Scope) (N : List Str) (cells : List (Str × Addr)) (env : DEnv) : List D → List D → Prop
  | nil : CloseL sc N cells env [] []
  | cons {x y : D} {xs ys : List D} : Close sc N cells env x y → CloseL sc N cells env xs ys → CloseL sc N cells env (x :: xs) (y :: ys)
end
/-- what is known of the cells while a def is called -/
structure CelX (X : Cx) (cel : Cel) (σ : L2.St) (H : Hp) : Prop where
  free : ∀ b o, cel b = some o → H b = none
  has : ∀ (j : Nat) (y : Str) (v : V) (cc : Addr), X.N[j]? = some y → σ[j]? = some (some v) → X.env.cells.lookup y = some cc → (X.env.scope.names.lookup y = some .cell ∨ X.env.scope.names.lookup y = some .free) → ∃ oc u, cel cc = some oc ∧ oc.data = .cell (some u) ∧ RelV v u
theorem capB_of (ok : X.Ok) {F : LamF} {js : List Nat} (h : capB X.env.scope X.N F js = true) : NdefX.Caps X (cloFrom X.env.cells F.scope.names []) F.fr js ∧ ∀ y c, (cloFrom X.env.cells F.scope.names []).lookup y = some c → y ∈ F.fr := by
  unfold capB at h
  simp only [Bool.and_eq_true, List.all_eq_true, Bool.or_eq_true, Bool.not_eq_true', decide_eq_true_eq, decide_eq_false_iff_not] at h
  obtain ⟨⟨⟨h1, h2⟩, h3⟩, h4⟩ := h
  have hfree : ∀ y ∈ F.scope.names, y.2 = .free → X.env.scope.names.lookup y.1 = some .cell ∨ X.env.scope.names.lookup y.1 = some .free := fun y hy e => by
    rcases h1 y hy with (z | z) | z
    · exact absurd e z
    · exact .inl z
    · exact .inr z
  refine ⟨NdefX.Caps.made ok hfree h2 h4, fun y c e => ?_⟩
  rcases cloFrom_mem (PySem.mem_of_lookup e) with hm | ⟨q1, q2⟩
  · cases hm
  · rcases h3 _ q1 with z | z
    · exact absurd rfl z
    · exact z
section
variable {L : Led} {H : Hp} {cel : Cel} {σ : L2.St} {env : DEnv}
theorem slot_get {js : List Nat} : ∀ {ds : List D} {js : List Nat}, Sto L X.K H σ env → js.map (fun j => env[j]?) = ds.map (fun d => some (some d)) → ∃ vs : List V, js.map (fun j => σ[j]?) = vs.map (fun v => some (some v)) ∧ RpAll L X.K H vs ds
  | [], [], st, _ => ⟨[], rfl, .nil⟩
  | [], _ :: _, _, h => by simp at h
  | _ :: _, [], _, h => by simp at h
  | d :: ds, j :: js, st, h => by
    rw [List.map_cons, List.map_cons] at h
    obtain ⟨h1, h2⟩ := List.cons.inj h
    obtain ⟨v, e, r⟩ := st.get h1
    obtain ⟨vs, e2, r2⟩ := slot_get (js := js) st h2
    exact ⟨v :: vs, by rw [List.map_cons, List.map_cons, e, e2], .cons r r2⟩
theorem fnv_add (cx : CelX X cel σ H) {f : Addr} {F : LamF} {cl : List (Str × Addr)} (h : FnvAt L H f F cl) : FnvAt L (addC cel H) f F cl := (Go.same (same_add cx.free)).fnv h
mutual
theorem Close.rp (ok : X.Ok) (cx : CelX X cel σ H) (nl : ∀ b o, cel b = some o → ¬ inL L b) (st : Sto L X.K H σ env) : ∀ {v : V} {d d' : D}, Close X.env.scope X.N X.env.cells env d d' → Rp L X.K H v d → Rp L X.K (addC cel H) v d'
  | _, _, _, .refl d, r => r.go (Go.same (same_add cx.free))
  | _, _, _, .fnv (F := F) (js := js) (ds := ds) hb hj, r => by
    cases r with
    | fnv fa =>
      obtain ⟨cp, hin⟩ := capB_of ok hb
      obtain ⟨vs, e1, rv⟩ := slot_get (js := js) st hj
      refine .clo ⟨_, fnv_add cx fa, ?_, fun x y c e e' => ok.inj x y c (cp.sub x c e) (cp.sub y c e'), hin, fun i y hy => ?_⟩ (rv.go (Go.same (same_add cx.free)))
      · have l1 := congrArg List.length e1
        have l2 := congrArg List.length cp.at_
        rw [List.length_map, List.length_map] at l1 l2
        omega
      · have hjs : (js.map (fun j => X.N[j]?))[i]? = some (some y) := by rw [cp.at_, List.getElem?_map, hy]; rfl
        rw [List.getElem?_map] at hjs
        cases hji : js[i]? with
        | none => rw [hji] at hjs; cases hjs
        | some j =>
          rw [hji] at hjs
          have hNj : X.N[j]? = some y := Option.some.inj hjs
          have hv : (js.map (fun j => σ[j]?))[i]? = some σ[j]? := by rw [List.getElem?_map, hji]; rfl
          rw [e1, List.getElem?_map] at hv
          cases hvi : vs[i]? with
          | none => rw [hvi] at hv; cases hv
          | some v =>
            rw [hvi] at hv
            have hσ : σ[j]? = some (some v) := (Option.some.inj hv).symm
            have hm : y ∈ F.fr := List.mem_of_getElem? hy
            obtain ⟨cc, hcc⟩ := ok.has y (cp.kin y hm)
            obtain ⟨oc, u, h1, h2, h3⟩ := cx.has j y v cc hNj hσ hcc (cp.kin y hm)
            exact ⟨cc, oc, u, v, cp.sup y hm cc hcc, nl cc oc h1, addC_in h1, h2, rfl, h3⟩
  | _, _, _, .lst hl, r => by
    cases r with
    | lst n h r => exact .lst n (same_add cx.free _ _ h) (CloseL.rp ok cx nl st hl r)
theorem CloseL.rp (ok : X.Ok) (cx : CelX X cel σ H) (nl : ∀ b o, cel b = some o → ¬ inL L b) (st : Sto L X.K H σ env) : ∀ {vs : List V} {ds ds' : List D}, CloseL X.env.scope X.N X.env.cells env ds ds' → RpAll L X.K H vs ds → RpAll L X.K (addC cel H) vs ds'
  | _, _, _, .nil, .nil => .nil
  | _, _, _, .cons h t, .cons r q => .cons (Close.rp ok cx nl st h r) (CloseL.rp ok cx nl st t q)
end
end
/-- f(..) with lambdas among the arguments -/
def dCallC (sc : Scope) (N : List Str) (cells : List (Str × Addr)) (g : DSp) (dd : List D) (dl : DA) : DE := fun env L k x => dl env L (fun ds L1 => ∃ ds', CloseL sc N cells env ds ds' ∧ g (ds' ++ dd) L1 (fun d L' => pln d = true ∧ plnL L' = true ∧ k d L') fun n L' => plns n.vs = true ∧ plnL L' = true ∧ x n env L') x
def tCallC (X : Cx) (sp : Sp) (dvs : List V) (Wx : WX) (t : TA) : TE := fun σ H Q => t σ H fun vs H1 => ∀ cel : Cel, X.Ok → CelX X cel σ H1 → sp (vs ++ dvs) (addC cel H1) (fun v H' => Q v (delC cel H')) (fun cls d H' => Wx cls d σ (delC cel H'))
theorem pe_callC {x : Str} {p : Pos} {k : Nat} {f : Addr} {fd : FuncData} {ps : List Str} {sp : Sp} {ds : List Value} {dvs : List V} {t : TA} (F : FnOk X.prog X.w X.K X.mg X.base (L2.CX X.prog X.w) k f fd ps sp) (hr : Room k X.A) (hg : Gl X x) (hm : X.mg x = some (.ref f)) (hk : PySem.W.keepIn X.K (.ref f) = true) (hb : Binds X.K fd ps ds) (hd : Vals dvs ds) (tk : Takes X Wx) (hfn : ∀ y, X.fn y = true)
    (ha : PA X (e :: es) t) (hdb : (x == ("__debug__" : Str)) = false := by decide) (he : starEach (e :: es) X.env = (false, eval e X.env) :: starEach es X.env := by rfl) (hpl : (backTo pos (starEach es X.env)).any (·.1) = false := by rfl) :
    PE X (.Call (.Name x p) (e :: es) [] pos) (tCallC X sp dvs Wx t) := by
  refine ⟨fun pins s σ H Q I h => ?_⟩
  refine wpAny_Call_Name_kw (ld_glob I hg hm ?_ hdb)
  refine PySem.W.callWith_K (h₀ := X.base) I.ok.mod.kin hk (thn (ha.run pos pins s σ H _ I h) fun us s1 ⟨vs, H1, I1, r, q⟩ => ⟨I1.kIn, ?_⟩) he hpl
  open Classical in
  let cel : Cel := fun b => if (∃ y, X.env.cells.lookup y = some b) then s1.heap.get? b else none
  have hin : ∀ b o, cel b = some o → (∃ y, X.env.cells.lookup y = some b) ∧ s1.heap.get? b = some o := fun b o e => by
    have e : (if (∃ y, X.env.cells.lookup y = some b) then s1.heap.get? b else none) = some o := e
    split at e
    · rename_i q; exact ⟨q, e⟩
    · cases e
  have above : ∀ b o, cel b = some o → X.s_0.heap.objs.size ≤ b := fun b o e => by
    obtain ⟨⟨y, hy⟩, _⟩ := hin b o e
    exact I1.ok.cab y b (hfn y) hy
  have C : CelOk cel H1 s1.heap (frs X.stack) := by
    refine ⟨fun b o e => (hin b o e).2, fun b o e => ?_, fun b o e hb => ?_⟩
    · obtain ⟨⟨y, hy⟩, _⟩ := hin b o e
      exact I1.freeC y b hy
    · rcases List.mem_cons.mp (I1.stkSub _ hb) with z | z
      · obtain ⟨⟨y, hy⟩, _⟩ := hin b o e
        exact I1.cne y b hy z
      · obtain ⟨_, o2, ho2, _⟩ := I1.ok.funs.mem z
        exact absurd (Heap.lt_size ho2) (Nat.not_lt.mpr (above b o e))
  have CX0 : CelX X cel σ H1 := by
    refine ⟨C.free, fun j y v cc hN hσ hc hkind => ?_⟩
    obtain ⟨m, hn, hl⟩ := I1.loc
    obtain ⟨u, ru, q⟩ := hl j y v hN hσ (.inr hkind)
    rcases q with ⟨k', _⟩ | ⟨_, c3, e', z⟩
    · have k' : X.env.scope.names.lookup y = some .local := k'
      rcases hkind with k2 | k2 <;> rw [k2] at k' <;> cases k'
    · rw [hc] at e'
      cases e'
      obtain ⟨oc, ho, hd⟩ := z
      refine ⟨oc, u, ?_, hd, ru⟩
      show (if (∃ y, X.env.cells.lookup y = some cc) then s1.heap.get? cc else none) = some oc
      rw [if_pos ⟨y, hc⟩]
      exact ho
  have hq := q cel I1.ok CX0
  have hl : (us ++ ds).length = ps.length := by
    have z := F.len _ _ _ _ hq
    rw [← (r.append hd).length]
    exact z
  have rc := F.run X.A X.stack s1 (addC cel H1) ⟨us, []⟩ (us ++ ds) (vs ++ dvs) _ _ hr (env0_add C (fun b o e => Heap.get?_none_of_le (Nat.le_trans I1.ok.bsz (above b o e))) I1.env0) (hb s1 us I1.kIn hl) (r.append hd) hq
  refine wpAny_call (codeAny_mono rc fun r' s' hq => ?_)
  have hq := cr_del (Q := Q) (E := WE Wx σ) C hq
  cases r' with
  | error e => exact passAt tk σ pins H1 s1 e s' I1 hq
  | ok fl =>
    cases fl with
    | ret u => exact I1.after hq
    | next => exact False.elim hq
    | brk => exact False.elim hq
    | cont => exact False.elim hq
theorem q_calC {x : Str} {p : Pos} {n k : Nat} {ps : List Str} {g : DSp} {dd : List D} (F : Cal X.prog X.w X.K X.mg X.base n x ps dd g) (hn : n ≤ k) (hr : Room k X.A) (tk : Takes X Wx) (hfn : ∀ y, X.fn y = true) (hg : Gl X x) (ha : QA X Wx (e :: es) dl) (hdb : (x == ("__debug__" : Str)) = false := by decide)
    (he : starEach (e :: es) X.env = (false, eval e X.env) :: starEach es X.env := by rfl) (hpl : (backTo pos (starEach es X.env)).any (·.1) = false := by rfl) : QE X Wx (.Call (.Name x p) (e :: es) [] pos) (dCallC X.env.scope X.N X.env.cells g dd dl) := by
  obtain ⟨f, fd, us, dvs, F, hm, hk, hb, hd, hdd⟩ := F.ex
  obtain ⟨ta, pa, sa⟩ := ha.ex
  refine ⟨_, pe_callC F (hr.mono hn) hg hm hk hb hd tk hfn pa hdb he hpl, fun σ H env L kk xx Q st h hk hx => ?_⟩
  refine sa σ H env L _ xx _ st h (fun ds L1 vs H1 h1 g1 j1 r1 cel ok cx => ?_) hx
  obtain ⟨ds', hcl, hg⟩ := h1
  have s1 := same_add (H := H1) cx.free
  have st1 := st.go g1 j1
  have nl : ∀ b o, cel b = some o → ¬ inL L1 b := fun b o e => j1.notIn (cx.free b o e)
  refine ⟨ds' ++ dd, L1, _, _, j1.same s1, (CloseL.rp ok cx nl st1.1 hcl r1).append (hdd L1 _), hg, fun d L' v H' q g' j' r' => ?_, fun n L' a H' q g' j' r' => ?_⟩
  · have hc : ∀ b o, cel b = some o → H' b = some (celO o) := fun b o e => (g' b _ (nl b o e) (addC_in e)).2.ex rfl
    exact hk d L' v (delC cel H') q.2.2 (g1.trans (go_out cx.free g')) (j'.del hc q.2.1) (r'.del hc q.1)
  · have hc : ∀ b o, cel b = some o → H' b = some (celO o) := fun b o e => (g' b _ (nl b o e) (addC_in e)).2.ex rfl
    have gg := g1.trans (go_out cx.free g')
    have jj := j'.del hc q.2.1
    obtain ⟨na, vs', e1, e2, e3⟩ := r'
    exact hx n env L' a (delC cel H') σ q.2.2 gg (st.go gg jj) ⟨na, vs', del_keep hc e1 (fun o e => by cases e), e2, e3.del hc q.1⟩
end
end DL
namespace DL
open PySem PySem.Spec PyProof.Rows L2
section
variable {X : Cx} {pins : List (Addr × Obj)} {σ : L2.St} {H : Hp} {s : Shared}
theorem inv_lam {F : LamF} {cl : List (Str × Addr)} {dV : Value} {c : Addr} {o : Obj} {t' : Nat} {doc pm ctv : Value} (I : Inv X pins σ H s) (ho : o = { cls := .type "function", data := .func (PySem.W.kdv_fn "<lambda>" F.qual F.params (.expr F.body) F.scope cl dV doc pm (.ref c) ctv) }) :
    Inv X pins σ (upd H s.heap.objs.size (LamO s.heap.objs.size F cl dV c)) { s with heap := s.heap.push o, toks := t' } := by
  subst ho
  refine I.laid (a := s.heap.objs.size) (fun b u e => Heap.get?_push_of_some _ e) (Nat.le_refl _) ?_
  have e : (s.heap.push ({ cls := .type "function", data := .func (PySem.W.kdv_fn "<lambda>" F.qual F.params (.expr F.body) F.scope cl dV doc pm (.ref c) ctv) } : Obj)).get? s.heap.objs.size = some ({ cls := .type "function", data := .func (PySem.W.kdv_fn "<lambda>" F.qual F.params (.expr F.body) F.scope cl dV doc pm (.ref c) ctv) } : Obj) := Heap.get?_push_size _ rfl
  exact ⟨⟨_, _, doc, pm, ctv, e⟩, ⟨_, e⟩, fun h1 h2 ⟨od, sl, d, p, t, z⟩ st => ⟨od, sl, d, p, t, st _ z⟩⟩
/-- what is told of the heap behind: the table P has grown or not -/
structure LamPost (H H1 : Hp) (P : Addr) (ps : Array Value) (q : Str) (pos : Pos) (f c' : Addr) (F : LamF) (cl : List (Str × Addr)) (dV : Value) : Prop where
  keep : ∀ b o, H b = some o → b ≠ P → H1 b = some o
  tab : ∃ ps' : Array Value, H1 P = some (.tbl ps') ∧ TriplesOk ps'.toList ∧ ∀ (p : Pos) (cv : Value), codeAmong p ps'.toList = some cv → codeAmong p ps.toList = some cv ∨ ∃ c0, cv = .ref c0 ∧ H c0 = none ∧ H1 c0 = some (LamX.CodeO c0 q)
  f0 : H f = none
  f1 : H1 f = some (LamO f F cl dV c')
  c1 : H1 c' = some (LamX.CodeO c' q)
  c0 : H c' = none ∨ codeAmong pos ps.toList = some (.ref c')
theorem lam_tail {F : LamF} {c P : Addr} {ps : Array Value} {pos : Pos} {dV : Value} {E : Value → Shared → Prop} {Q : Value → Shared → Prop} (I : Inv X pins σ H s) (TB : LamX.TabB X.base X.mg c P) (hcode : X.env.code = .ref c)
    (hP : H P = some (.tbl ps)) (ht : TriplesOk ps.toList) (ha : ∀ (p : Pos) (cv : Value), codeAmong p ps.toList = some cv → ∃ c, cv = .ref c ∧ H c = some (LamX.CodeO c F.qual)) (hfree : ∀ y ∈ F.scope.names, y.2 = .free → ∃ c, X.env.cells.lookup y.1 = some c)
    (h : ∀ (f c' : Addr) (H1 : Hp) (s' : Shared), Inv X pins σ H1 s' → LamPost H H1 P ps F.qual pos f c' F (cloFrom X.env.cells F.scope.names []) dV → Q (.ref f) s') :
    wpAny (model X.prog X.w) X.A (makeTail "<lambda>" F.qual F.params (.expr F.body) F.scope X.env dV .none none pos pos.line) Q E s := by
  have bP : s.heap.BuiltinsAt X.mg P := TB.bm.keeps I.bk
  have hP' : s.heap.get? P = some { cls := .none, data := .fields ps } := I.hok P _ hP
  cases hc : codeAmong pos ps.toList with
  | none =>
    refine PySem.W.kdv_makeTail (mg := X.mg) (c := c) (P := P) (ps := ps) (closure_ok hfree) I.ok.glob (I.mod.glob.keeps I.bk) hcode (TB.code.keeps I.bk) hP' ht hc TB.gP bP fun c' ctv doc h' tk hx hge hlt hrec htb => ?_
    obtain ⟨c2, oc, vs, t, e2, hoc, hd, hv⟩ := hrec
    cases e2
    have nC : H c' = none := I.hok.fresh hge
    have I1 := LamX.inv_table (t' := tk) (more := #[rawInt pos.line, rawInt pos.col, .ref c']) (h' := h') I hP (fun b o hb e => hx b o hb e) htb hge ⟨oc, vs, t, hoc, hd, hv⟩
    have hE : ∀ b o, H b = some o → b ≠ P → upd (upd H P (.tbl (ps ++ #[rawInt pos.line, rawInt pos.col, .ref c']))) c' (LamX.CodeO c' F.qual) b = some o := fun b o e n => by
      rw [upd_ne (ne_of_none e nC), upd_ne n]
      exact e
    have eL : (ps ++ #[rawInt pos.line, rawInt pos.col, .ref c']).toList = ps.toList ++ [rawInt pos.line, rawInt pos.col, .ref c'] := by simp
    have nF := I1.hok.fresh (Nat.le_refl _)
    have I2 := inv_lam (F := F) (cl := cloFrom X.env.cells F.scope.names []) (dV := dV) (c := c') (t' := tk) (doc := doc) (pm := (X.mg "__name__").getD .none) (ctv := ctv) I1 rfl
    refine h h'.objs.size c' _ _ I2 ⟨fun b o e n => ?_, ⟨ps ++ #[rawInt pos.line, rawInt pos.col, .ref c'], ?_, ?_, fun p cv hcv => ?_⟩, I.hok.fresh (Nat.le_trans hge (Nat.le_of_lt hlt)), upd_same, ?_, .inl nC⟩
    · have e1 := hE b o e n
      exact (upd_ne (ne_of_none e1 nF)).trans e1
    · have e1 : upd (upd H P (.tbl (ps ++ #[rawInt pos.line, rawInt pos.col, .ref c']))) c' (LamX.CodeO c' F.qual) P = some (.tbl (ps ++ #[rawInt pos.line, rawInt pos.col, .ref c'])) := by rw [upd_ne (ne_of_none hP nC), upd_same]
      exact (upd_ne (ne_of_none e1 nF)).trans e1
    · rw [eL]
      exact PySem.TriplesOk_snoc _ _ _ _ ht
    · rw [eL] at hcv
      rcases NdefX.among_app2 _ ht hcv with z | ⟨z, _, _⟩
      · exact .inl z
      · exact .inr ⟨c', z, nC, (upd_ne (Nat.ne_of_lt hlt)).trans upd_same⟩
    · exact (upd_ne (Nat.ne_of_lt hlt)).trans upd_same
  | some cv =>
    obtain ⟨c', e, hco⟩ := ha pos cv hc
    subst e
    refine PySem.W.kdv_makeTailHit (mg := X.mg) (c := c) (P := P) (ps := ps) (closure_ok hfree) I.ok.glob (I.mod.glob.keeps I.bk) hcode (TB.code.keeps I.bk) hP' ht hc bP fun ctv doc h' tk hx hsz => ?_
    have I1 : Inv X pins σ H { s with heap := h', toks := tk } := I.kept hx
    have nF : H h'.objs.size = none := I1.hok.fresh (Nat.le_refl _)
    have I2 := inv_lam (F := F) (cl := cloFrom X.env.cells F.scope.names []) (dV := dV) (c := c') (t' := tk) (doc := doc) (pm := (X.mg "__name__").getD .none) (ctv := ctv) I1 rfl
    refine h h'.objs.size c' _ _ I2 ⟨fun b o e n => ?_, ⟨ps, ?_, ht, fun p cv hcv => .inl hcv⟩, nF, upd_same, ?_, .inr hc⟩
    · exact (upd_ne (ne_of_none e nF)).trans e
    · exact (upd_ne (ne_of_none hP nF)).trans hP
    · exact (upd_ne (ne_of_none hco nF)).trans hco
end
section
variable {X : Cx} {Wx : WX}
/-- its default: none, or 0 -/
def DfOk (F : LamF) : Prop := F.params.kw_defaults = [] ∧ ((F.ps = [] ∧ F.params.defaults = []) ∨ ∃ x j p, F.ps = [x] ∧ F.params.defaults = [.Constant (.int 0) j p])
def tLamD (P : Addr) (pos : Pos) (F : LamF) (cl : List (Str × Addr)) : TE := fun _ H Q => ∃ ps : Array Value, H P = some (.tbl ps) ∧ TriplesOk ps.toList ∧ (∀ (p : Pos) (cv : Value), codeAmong p ps.toList = some cv → ∃ c, cv = .ref c ∧ H c = some (LamX.CodeO c F.qual)) ∧
  ∀ (f c' : Addr) (dV : Value) (H0 H1 : Hp), (F.ps = [] ∧ dV = .none ∧ H0 = H ∨ ∃ t, dV = .ref t ∧ F.ps.length = 1 ∧ H t = none ∧ H0 = upd H t (.tup [.int 0])) → LamPost H0 H1 P ps F.qual pos f c' F cl dV → Q (.ref f) H1
theorem pe_lamD {F : LamF} {c P : Addr} {pos : Pos} (TB : LamX.TabB X.base X.mg c P) (hcode : X.env.code = .ref c) (hq : X.env.qual ++ "<lambda>" = F.qual) (hfree : ∀ y ∈ F.scope.names, y.2 = .free → X.env.scope.names.lookup y.1 = some .cell ∨ X.env.scope.names.lookup y.1 = some .free) (hd : DfOk F) :
    PE X (.Lambda F.params F.body F.scope pos) (tLamD P pos F (cloFrom X.env.cells F.scope.names [])) := by
  refine ⟨fun pins s σ H Q I h => ?_⟩
  obtain ⟨ps, hP, ht, ha, h⟩ := h
  have hfr : ∀ y ∈ F.scope.names, y.2 = .free → ∃ c, X.env.cells.lookup y.1 = some c := fun y hy e => (hfree y hy e).elim (fun z => I.ok.has _ (.inl z)) fun z => I.ok.has _ (.inr z)
  obtain ⟨hk0, hd | ⟨x, j, p, hx, hd⟩⟩ := hd
  · refine PySem.W.kla_eval (by rw [defaultsOf_eq, hd.2, hk0]; rfl) ?_
    rw [hq, makeFunction_eq]
    simp only [List.zip_nil_right, List.filterMap_nil, List.isEmpty_nil, if_true, pure_bind]
    exact lam_tail I TB hcode hP ht ha hfr fun f c' H1 s' I1 po => ⟨.ref f, H1, I1, rfl, h f c' .none H H1 (.inl ⟨hd.1, rfl, rfl⟩) po⟩
  · refine PySem.W.kdv_lam (by rw [hd]; rfl) hk0 ?_
    rw [hd]
    refine PySem.W.kdv_all1 (thn ((pe_int (X := X) (i := 0) (j := j) (pos := p)).run pins s σ H (fun v H1 => v = .int 0 ∧ H1 = H) I ⟨rfl, rfl⟩) fun u s1 ⟨v, H1, I1, r1, q1⟩ => ?_)
    obtain ⟨ev, eH⟩ := q1
    subst ev
    rw [eH] at I1
    refine PySem.W.kdv_all0 ?_
    rw [hq, makeFunction_eq]
    simp only [List.zip_nil_right, List.filterMap_nil, List.isEmpty_nil, List.isEmpty_cons, if_true, if_false, Bool.false_eq_true, pure_bind]
    refine wpAny_bind (wpAny_newTextTuple ?_)
    have nT : H s1.heap.objs.size = none := I1.hok.fresh (Nat.le_refl _)
    have I2 : Inv X pins σ (upd H s1.heap.objs.size (.tup [.int 0])) { s1 with heap := s1.heap.push { cls := .type "tuple", data := .seq [u].toArray } } :=
      I1.laid (a := s1.heap.objs.size) (t' := s1.toks) (fun b u e => Heap.get?_push_of_some _ e) (Nat.le_refl _) ⟨by decide, [u], .cons r1 .nil, _, Heap.get?_push_size _ rfl, rfl, 0, rfl⟩
    have hP2 : upd H s1.heap.objs.size (.tup [.int 0]) P = some (.tbl ps) := by rw [upd_ne (ne_of_none hP nT)]; exact hP
    exact lam_tail I2 TB hcode hP2 ht (fun p cv hc => by
      obtain ⟨c, e1, e2⟩ := ha p cv hc
      exact ⟨c, e1, by rw [upd_ne (ne_of_none e2 nT)]; exact e2⟩) hfr fun f c' H1 s' I1 po => ⟨.ref f, H1, I1, rfl, h f c' _ _ H1 (.inr ⟨_, rfl, by rw [hx]; rfl, nT, rfl⟩) po⟩
def dLam (P : Addr) (F : LamF) (cl : List (Str × Addr)) : DE := fun _ L k _ => L.lookup P = some (.tab F.qual) ∧ k (.fnv F cl) L
def freeB (sc : Scope) (F : LamF) : Bool := F.scope.names.all fun y => !decide (y.2 = .free) || decide (sc.names.lookup y.1 = some .cell) || decide (sc.names.lookup y.1 = some .free)
theorem q_lam {F : LamF} {c P : Addr} {pos : Pos} (TB : LamX.TabB X.base X.mg c P) (hcode : X.env.code = .ref c) (hd : DfOk F) (hq : X.env.qual ++ "<lambda>" = F.qual := by rfl) (hfree : freeB X.env.scope F = true := by decide +kernel) :
    QE X Wx (.Lambda F.params F.body F.scope pos) (dLam P F (cloFrom X.env.cells F.scope.names [])) := by
  refine ⟨_, pe_lamD (pos := pos) TB hcode hq (fun y hy e => ?_) hd, fun σ H env L k x Q st h hk hx => ?_⟩
  · have z := List.all_eq_true.mp hfree y hy
    simp only [Bool.or_eq_true, Bool.not_eq_true', decide_eq_true_eq, decide_eq_false_iff_not] at z
    rcases z with (z | z) | z
    · exact absurd e z
    · exact .inl z
    · exact .inr z
  · obtain ⟨hl, h⟩ := h
    have pin := inL_of_lookup hl
    obtain ⟨ps, hP, ht, ha⟩ := (show ∃ ps : Array Value, H P = some (.tbl ps) ∧ TriplesOk ps.toList ∧ ∀ (pos : Pos) (cv : Value), codeAmong pos ps.toList = some cv → ∃ c, cv = .ref c ∧ ¬ inL L c ∧ H c = some (LamX.CodeO c F.qual) from st.2.look hl)
    refine ⟨ps, hP, ht, fun p cv hc => ?_, fun f c' dV H0 H1 hdv po => ?_⟩
    · obtain ⟨c, e1, _, e2⟩ := ha p cv hc
      exact ⟨c, e1, e2⟩
    · -- from H to H0
      have s0 : Same H H0 := by
        rcases hdv with ⟨_, _, e⟩ | ⟨t, _, _, nt, e⟩
        · rw [e]; exact Same.refl H
        · rw [e]; exact same_new nt _
      have j0 := st.2.same s0
      have n0 : ∀ b, H0 b = none → H b = none := fun b e => by
        cases q : H b with
        | none => rfl
        | some u => rw [s0 b u q] at e; cases e
      have g01 : Go L L H0 H1 := .mk' fun b u n e => ⟨n, po.keep b u e fun z => n (z ▸ pin)⟩
      have g : Go L L H H1 := (Go.same s0).trans g01
      have pP : ∀ u, H0 P = some u → False → H1 P = some u := fun _ _ z => z.elim
      have nc : ¬ inL L c' := by
        rcases po.c0 with z | z
        · exact st.2.notIn (n0 c' z)
        · obtain ⟨c, e1, n, _⟩ := ha pos _ z
          cases e1
          exact n
      have j1 : JL X.K L H1 := by
        refine ⟨st.2.nd, fun a d m => ?_⟩
        by_cases hap : a = P
        · subst hap
          have e1 : d = .tab F.qual := by
            have m2 := mem_of_lookup hl
            have key : ∀ {l : Led}, (l.map (·.1)).Nodup → ∀ {x y : D}, (a, x) ∈ l → (a, y) ∈ l → x = y := by
              intro l
              induction l with
              | nil => intro _ x y h; cases h
              | cons p r ih =>
                intro nd x y h1 h2
                rw [List.map_cons, List.nodup_cons] at nd
                rcases List.mem_cons.mp h1 with e1 | e1 <;> rcases List.mem_cons.mp h2 with e2 | e2
                · rw [← e1] at e2; cases e2; rfl
                · subst e1; exact absurd (List.mem_map.mpr ⟨_, e2, rfl⟩) nd.1
                · subst e2; exact absurd (List.mem_map.mpr ⟨_, e1, rfl⟩) nd.1
                · exact ih nd.2 e1 e2
            exact key st.2.nd m m2
          subst e1
          obtain ⟨ps', q1, q2, q3⟩ := po.tab
          refine ⟨ps', q1, q2, fun p cv hc => ?_⟩
          rcases q3 p cv hc with z | ⟨c0, e1, e2, e3⟩
          · obtain ⟨c, e1, n, e2⟩ := ha p cv z
            exact ⟨c, e1, n, (g.at' n e2).2⟩
          · exact ⟨c0, e1, st.2.notIn (n0 c0 e2), e3⟩
        · exact Own.move (st.2.own a d m) g fun u e => po.keep a u (s0 a u e) hap
      refine hk _ L _ H1 h g j1 (.fnv ⟨st.2.notIn (n0 f po.f0), c', dV, po.f1, nc, po.c1, ?_⟩)
      rcases hdv with ⟨e1, e2, _⟩ | ⟨t, e1, e2, nt, e⟩
      · exact .inl ⟨by rw [e1]; rfl, e2⟩
      · refine .inr ⟨by omega, t, e1, st.2.notIn nt, ?_⟩
        have h0 : H0 t = some (.tup [.int 0]) := by rw [e]; exact upd_same
        rw [e2]
        exact po.keep t _ h0 fun z => by
          obtain ⟨o, ho⟩ := Own.there (st.2.look hl)
          rw [← z, nt] at ho
          cases ho
end
end DL
namespace DL
open PySem PySem.Spec PyProof.Rows L2
/-- a clause's test: which classes it takes -/
def Tst (X : Cx) (tst : Expr) (m : Value → Option Bool) : Prop := ∀ (a : Addr) (pn pins : List (Addr × Obj)) (σ : L2.St) (H : Hp) (s : Shared) (cls : Value) (b : Bool) (Q : Bool → Shared → Prop) (E E' : Value → Shared → Prop), Inv (X.suite a pn) pins σ H s →
  PySem.W.Looks (model X.prog X.w) s.heap (typeOf (.ref a)) cls → m cls = some b → (∀ h' tk, (∀ q o, s.heap.get? q = some o → h'.get? q = some o) → Q b { s with heap := h', toks := tk }) →
  wpAny (model X.prog X.w) (X.A.mark (some (.ref a))) (eval tst X.env) (fun c s1 => wpAny (model X.prog X.w) (X.A.mark (some (.ref a))) (excMatches (.ref a) c) Q E s1) E' s
section
variable {X : Cx}
theorem nm_at {x : Str} {c : Value} {p : Pos} {a : Addr} {pn pins : List (Addr × Obj)} {σ : L2.St} {H : Hp} {s : Shared} {Q : Value → Shared → Prop} {E : Value → Shared → Prop} (hc : Names X x c) (S3 : Inv (X.suite a pn) pins σ H s) (q : Q c s) : wpAny (model X.prog X.w) (X.A.mark (some (.ref a))) (eval (.Name x p) X.env) Q E s := by
  obtain ⟨hg, hdbg, hm | ⟨hm, hv, hnn⟩⟩ := hc
  · exact ld_glob (X := X.suite a pn) S3 hg hm q hdbg
  · exact ld_blt (X := X.suite a pn) S3 hg hm hv q hnn hdbg
theorem tst_3 {x1 x2 x3 : Str} {c1 c2 c3 : Value} {p1 p2 p3 tp : Pos} {kk : Nat} (n1 : Names X x1 c1) (n2 : Names X x2 c2) (n3 : Names X x3 c3) : Tst X (.Tuple [.Name x1 p1, .Name x2 p2, .Name x3 p3] kk tp) (fun cls => PySem.W.exmAny X.K cls [c1, c2, c3]) := fun a pn pins σ H s cls b Q E E' I LT hm q => by
  refine wpAny_Tuple ?_
  show wpAny _ _ (spliced ((false, eval (.Name x1 p1) X.env) :: (false, eval (.Name x2 p2) X.env) :: (false, eval (.Name x3 p3) X.env) :: [])) _ _ s
  refine Calls.spliced_cons (nm_at n1 I ?_)
  refine Calls.spliced_cons (nm_at n2 I ?_)
  refine Calls.spliced_cons (nm_at n3 I ?_)
  refine Calls.spliced_nil ⟨by size_fits, ?_⟩
  have kp : ∀ q o, s.heap.get? q = some o → (s.heap.push { cls := .type "tuple", data := .seq [c1, c2, c3].toArray }).get? q = some o := fun _ _ z => Heap.get?_push_of_some _ z
  exact (PySem.W.exm_tup3 (I.kIn.keeps kp) (LT.keeps kp) (Heap.get?_push_size s.heap rfl) hm).here (q _ s.toks kp)
end
/-- the error as a thing that is known -/
abbrev excX (a : Addr) (oe : Obj) : HO := .ext fun h => h.get? a = some oe
section
variable {X : Cx} {pins : List (Addr × Obj)} {σ : L2.St} {H : Hp} {s : Shared}
theorem inv_suiteD (I : Inv X pins σ H s) {a : Addr} {oe : Obj} {vs : Array Value} (ha : s.heap.get? a = some oe) (hd : oe.data = .fields vs) (na : H a = none) (nL : a ≠ X.env.locals) (n0 : ∀ o, X.s_0.heap.get? a = some o → a ∈ X.ex) (np : ∀ p ∈ X.pn ++ pins, p.1 ≠ a) :
    Inv (X.suite a (X.pn ++ pins)) [] σ (upd H a (excX a oe)) s := by
  have ne : ∀ b u, H b = some u → b ≠ a := fun b u e => ne_of_none e na
  refine ⟨I.ok.suite _ _, I.os, I.bare, ⟨I.base.keep, I.base.slot, fun b o e n hx => ?_, I.base.there, fun b xs e => ?_, fun b o u e => ?_, fun b ps e => ?_⟩, I.loc, I.cell, ?_, fun y c e => ?_, fun p hp => ?_, fun b u e => ?_, I.len⟩
  · have hb : b ≠ a := fun z => hx (by rw [z]; exact n0 o (z ▸ e))
    rw [upd_ne hb]
    exact I.base.free b o e n hx
  · have e1 := I.base.tups b xs e
    rw [upd_ne (ne b _ e1)]
    exact e1
  · have e1 := I.base.frzs b o u e
    rw [upd_ne (ne b _ e1)]
    exact e1
  · obtain ⟨m, e1⟩ := I.base.tbls b ps e
    exact ⟨m, by rw [upd_ne (ne b _ e1)]; exact e1⟩
  · show upd H a (excX a oe) X.env.locals = none
    rw [upd_ne (Ne.symm nL)]
    exact I.free
  · have hc : c ≠ a := fun z => by
      obtain ⟨v, o, ho, hd2⟩ := I.cell y c e
      rw [z, ha] at ho
      cases ho
      rw [hd] at hd2
      cases hd2
    rw [upd_ne hc]
    exact I.freeC y c e
  · have hp' : p ∈ X.pn ++ pins := by rw [List.append_nil] at hp; exact hp
    obtain ⟨e1, e2, e3⟩ := I.pin p hp'
    exact ⟨e1, by rw [upd_ne (np p hp')]; exact e2, e3⟩
  · by_cases hb : b = a
    · subst hb
      rw [upd_same] at e
      cases e
      exact ⟨ha, ⟨oe, ha⟩, fun h1 h2 z st => st _ z⟩
    · rw [upd_ne hb] at e
      exact (I.hok b u e).stay (fun _ _ _ z => z) (fun d z => by rw [upd_ne (ne d _ z)]; exact z) fun d xs z => by rw [upd_ne (ne d _ z)]; exact z
theorem inv_unsuiteD {a : Addr} {pn' : List (Addr × Obj)} (I : Inv (X.suite a (X.pn ++ pins)) pn' σ H s) (ok : X.Ok) : Inv X pins σ H s :=
  ⟨ok, I.os, I.bare, I.base, I.loc, I.cell, I.free, I.freeC, fun p hp => I.pin p (List.mem_append_left _ hp), I.hok, I.len⟩
end
theorem fly_keeps {B h h' : Heap} {l : List Env} {a : Addr} {Z : Obj → Prop} (k : ∀ b o, h.get? b = some o → h'.get? b = some o) (x : HandSPX.FlyingZ B l a Z h) : HandSPX.FlyingZ B l a Z h' := by
  obtain ⟨k1, k2, k3, oe, vs, T, oT, ts, he, hz, hd, h1, hB, hne, hT, hdT, r⟩ := x
  exact ⟨fun b o e => k b o (k1 b o e), k2, k3.of_keeps fun b o e _ => ⟨o, k b o e, rfl⟩, oe, vs, T, oT, ts, k _ _ he, hz, hd, h1, hB, hne, k _ _ hT, hdT, r⟩
def wAsD (m : Value → Option Bool) (i : Nat) (ts : TS) (Wout : WX) (D : Ends) : WX := fun cls d σ H =>
  ∃ b, m cls = some b ∧ (b = true → ∀ a oe vs, H a = none → Zc cls d oe → oe.data = .fields vs → ts { nx := fun σ' H' => D.nx (σ'.set i none) H', rt := D.rt, bk := fun σ' H' => D.bk (σ'.set i none) H', ct := fun σ' H' => D.ct (σ'.set i none) H' } (σ.set i (some (.ref a))) (upd H a (excX a oe))) ∧
    (b = false → Wout cls d σ H)
section
variable {X : Cx} {n : Str} {i : Nat} {tst : Expr} {m : Value → Option Bool} {body suite : List Stmt} {b₀ : Stmt} {pos pos' : Pos} {tb : WX → TS} {ts : TS} {Wout : WX}
theorem ps_try_asD (hs : X.stack = X.env :: X.outer) (hf : X.env.frame = some X.env.locals) (hN : X.N.Nodup) (hi : X.N[i]? = some n) (hln : X.env.kindOf n = some .local) (hc : Tst X tst m) (tk : Takes X Wout)
    (hb : ∀ (W : WX) (pn : List (Addr × Obj)) (xe : Value → Shared → Prop), Takes (X.tr pn xe) W → PassesOwn (model X.prog X.w) X.A X.env xe → PSs (X.tr pn xe) body (tb W))
    (hsu : ∀ (a : Addr) (pn : List (Addr × Obj)), PSs (X.suite a pn) (b₀ :: suite) ts) :
    PS X (.Try body [.ExceptHandler (some tst) (some n) (b₀ :: suite) pos'] [] [] pos) (fun D σ H => tb (wAsD m i ts Wout D) D σ H) := by
  refine ⟨fun pins s σ H D I h => ?_⟩
  have ok := I.ok
  have hfr : X.A.frames = some (X.env :: X.outer) := by rw [ok.frames, hs]
  have hloc : Loc X.env.scope n := .inl hln
  refine wpAny_Try_except ?_
  refine wpAny_mono ((hb (wAsD m i ts Wout D) (X.pn ++ pins) (fun e s₁ => wpAny (model X.prog X.w) X.A (noteFrame e X.env) (fun _ s₂ => wpAny (model X.prog X.w) X.A (setFlight e none) (fun _ s₃ =>
    wpAny (model X.prog X.w) X.A (handleBy e X.env [.ExceptHandler (some tst) (some n) (b₀ :: suite) pos']) (SP X pins D) X.xe s₃) X.xe s₂) X.xe s₁) (fun u s' xx => ?_) PassesOwn.looking).run [] s σ H D (I.toTry _) h) (fun f s1 hsp => ?_) (fun e s1 he => he)
  · -- the catch
    obtain ⟨a, B, sI, pins', σ', H', cls, d, rfl, J', nb, up, sky, na, os, ag, b, hb1, hyes, hno⟩ := xx
    have J : Inv X pins σ' H' sI := J'.ofTry ok
    have sky' : Sky B (X.env :: X.outer) a (Zc cls d) X.env.locals s'.heap := by rw [← hs]; exact sky
    show wpAny (model X.prog X.w) X.A (noteFrame (.ref a) X.env) _ _ _
    refine Sky.land Zc.steady hfr hf sky' fun h3 fl3 up3 => ?_
    have J3 : Inv X pins σ' H' { s' with heap := h3 } := J.landed nb fl3.1 (up.trans up3) os ag
    obtain ⟨oe3, vs3, he3, hz3, hd3⟩ := fl3.there
    have notFr : ∀ {h : Heap} {o : Obj} {vs : Array Value}, h.FunFrames B (X.env :: X.outer) → h.get? a = some o → o.data = .fields vs → a ∉ frs (X.env :: X.outer) := fun {h o vs} ff e dd hm => by
      obtain ⟨_, o', e', hnf⟩ := ff.mem hm
      rw [e] at e'; cases e'
      exact hnf _ dd
    have nfr := notFr fl3.2.2.1 he3 hd3
    have nL : a ≠ X.env.locals := fun z => nfr (List.mem_filterMap.mpr ⟨X.env, List.mem_cons_self, by rw [hf, z]⟩)
    have nF : a ∉ X.fs := fun hm => by
      obtain ⟨e, he, q⟩ := List.mem_filterMap.mp hm
      exact nfr (List.mem_filterMap.mpr ⟨e, List.mem_cons_of_mem _ he, q⟩)
    have nI : ∀ o, sI.heap.get? a ≠ some o := fun o e => by
      have z := nb a o e (by rw [hs]; exact nfr)
      rw [fl3.2.1] at z
      cases z
    have n0 : ∀ o, X.s_0.heap.get? a = some o → a ∈ X.ex := fun o e => by
      by_cases hx : a ∈ X.ex
      · exact hx
      · obtain ⟨o', e'⟩ := J.base.there a o e hx
        exact absurd e' (nI o')
    have np : ∀ p ∈ X.pn ++ pins, p.1 ≠ a := fun p hp z => nI p.2 (z ▸ (J.pin p hp).1)
    have S3 := inv_suiteD J3 he3 hd3 na nL n0 np
    refine wpAny_handleBy_cons (codeAny_handlers_test ?_) (by intro q; cases q)
    have LT : PySem.W.Looks (model X.prog X.w) h3 (typeOf (.ref a)) cls := fun A Q E s k q => wpAny_typeOf_ref (k _ _ he3) (by rw [hz3.1]; exact q)
    refine hc a (X.pn ++ pins) [] σ' _ { s' with heap := h3 } cls b _ _ _ S3 LT hb1 fun h3' tk3 kp3 => ?_
    have fl3' := fly_keeps kp3 fl3
    have up3' := up3.trans (Heap.UpToSlots.of_keeps kp3)
    cases b with
    | true =>
      refine codeAny_handlers_suite_as ?_
      refine HandSPX.lands_againZ fl3' fun h4 fl4 up4 => ?_
      have J4 : Inv X pins σ' H' { s' with heap := h4, toks := tk3 } := J.landed nb fl4.1 ((up.trans up3').trans up4) os ag
      obtain ⟨oe4, vs4, he4, hz4, hd4⟩ := fl4.there
      have S4 := inv_suiteD J4 he4 hd4 na nL n0 np
      refine store_ok (X := X.suite a (X.pn ++ pins)) (v := .ref a) S4 hN hi hloc rfl (fun s5 S5 => ?_) (.inr hln)
      refine wpAny_mono ((hsu a (X.pn ++ pins)).run [] s5 _ _ _ S5 (hyes rfl a oe4 vs4 na hz4 hd4)) (fun f s6 hsp => ?_) (fun _ _ z => False.elim z)
      have end_ : ∀ {σ6 : L2.St} {H6 : Hp} {Q : Shared → Prop}, Inv (X.suite a (X.pn ++ pins)) [] σ6 H6 s6 → (∀ s7, Inv X pins (σ6.set i none) H6 s7 → Q s7) →
          wpAny (model X.prog X.w) X.A (do bindName X.env n .none; unbindBehindTheSuite X.env n pos') (fun _ s7 => Q s7) X.xe s6 := fun {σ6 H6 Q} S6 hq => gone_ok (inv_unsuiteD S6 ok) hN hi hln hq
      cases f with
      | next =>
        obtain ⟨σ6, H6, S6, q6⟩ := hsp
        exact end_ S6 fun s7 J7 => ⟨_, _, J7, q6⟩
      | brk =>
        obtain ⟨σ6, H6, S6, q6⟩ := hsp
        exact end_ S6 fun s7 J7 => ⟨_, _, J7, q6⟩
      | cont =>
        obtain ⟨σ6, H6, S6, q6⟩ := hsp
        exact end_ S6 fun s7 J7 => ⟨_, _, J7, q6⟩
      | ret u =>
        obtain ⟨v6, σ6, H6, S6, r6, q6⟩ := hsp
        exact end_ S6 fun s7 J7 => ⟨_, _, _, J7, r6, q6⟩
    | false =>
      show wpAny _ X.A (handleBy (.ref a) X.env []) _ _ _
      refine wpAny_handleBy_nil ?_
      obtain ⟨k1, k2, k3, oe, vs, T, oT, ts', he, hz, hd, h1, hr⟩ := id fl3'
      unfold PySem.passOn
      refine wpAny_bind (wpAny_field he hd h1 ?_)
      rw [if_neg (show ¬ ((Value.ref T == Value.none) = true) from by simp)]
      have fin : wpAny (model X.prog X.w) X.A (setFlight (.ref a) X.env.frame) (fun _ s4 => wpAny (model X.prog X.w) X.A (throw (.ref a) : Sem Flow) (SP X pins D) X.xe s4) X.xe { s' with heap := h3', toks := tk3 } := by
        rw [hf]
        refine HandSPX.setFlight_upZ fl3' fun h4 hh4 up4 => wpAny_throw (tk _ _ ?_)
        exact ⟨a, B, sI, pins, σ', H', cls, d, rfl, J, nb, (up.trans up3').trans up4, .inr (.inr (by rw [hs]; exact hh4)), na, os, ag, hno rfl⟩
      first
        | exact wpAny_bind (wpAny_pure (wpAny_bind fin))
        | exact wpAny_bind fin
  · cases f with
    | next =>
      obtain ⟨σ', H', J', q⟩ := hsp
      exact wpAny_execs_nil ⟨σ', H', J'.ofTry ok, q⟩
    | brk =>
      obtain ⟨σ', H', J', q⟩ := hsp
      exact ⟨σ', H', J'.ofTry ok, q⟩
    | cont =>
      obtain ⟨σ', H', J', q⟩ := hsp
      exact ⟨σ', H', J'.ofTry ok, q⟩
    | ret u =>
      obtain ⟨v, σ', H', J', r, q⟩ := hsp
      exact ⟨v, σ', H', J'.ofTry ok, r, q⟩
end
end DL
namespace DL
open PySem PySem.Spec PyProof.Rows L2
section
variable {X : Cx} {Wx : WX} {a b c e o : Expr} {es rest : List Expr} {da db dc de do' : DE} {dt du : DT} {dl dk : DA} {pos : Pos}
def tsOf (K : PySem.W.Frag) (Wx : WX) (ds : DS) : TS := fun D σ H => ∃ env L D', StL K σ H env L ∧ ds D' env L ∧ EOk K Wx L H D' D
theorem QSs.pss {sts : List Stmt} {ds : DS} (h : QSs X Wx sts ds) : PSs X sts (tsOf X.K Wx ds) := by
  obtain ⟨ts, p, s⟩ := h.ex
  refine ⟨fun pins s' σ H D I hw => ?_⟩
  obtain ⟨env, L, D', st, h, ok⟩ := hw
  exact p.run pins s' σ H D I (s σ H env L D' D st h ok)
abbrev noW : WX := fun _ _ _ _ => False
def dTry (m : Value → Option Bool) (i : Nat) (db ds : DS) : DS := fun D env L => db { D with ex := fun n env' L' => ∃ b, m n.cls = some b ∧ match b with
  | true => ∃ C, n.cls = .ref C ∧ ds { nx := fun e L => D.nx (e.set i none) L, rt := D.rt, ex := fun _ _ _ => False, bk := fun e L => D.bk (e.set i none) L, ct := fun e L => D.ct (e.set i none) L } (env'.set i (some (.exc C n.ns n.vs))) L'
  | false => D.ex n env' L' } env L
theorem s_try (i : Nat) {n : Str} {tst : Expr} {m : Value → Option Bool} {body suite : List Stmt} {b₀ : Stmt} {pos pos' : Pos} {db ds : DS} (hs : X.stack = X.env :: X.outer) (hf : X.env.frame = some X.env.locals) (hN : X.N.Nodup) (hc : Tst X tst m) (tk : Takes X Wx)
    (hb : ∀ (W : WX) (pn : List (Addr × Obj)) (xe : Value → Shared → Prop), Takes (X.tr pn xe) W → PassesOwn (model X.prog X.w) X.A X.env xe → QSs (X.tr pn xe) W body db)
    (hsu : ∀ (a : Addr) (pn : List (Addr × Obj)), QSs (X.suite a pn) noW (b₀ :: suite) ds) (hi : X.N[i]? = some n := by rfl) (hln : X.env.kindOf n = some .local := by rfl) :
    QS X Wx (.Try body [.ExceptHandler (some tst) (some n) (b₀ :: suite) pos'] [] [] pos) (dTry m i db ds) := by
  refine ⟨_, ps_try_asD (tb := fun W => tsOf X.K W db) (ts := tsOf X.K noW ds) hs hf hN hi hln hc tk (fun W pn xe tk' po => (hb W pn xe tk' po).pss) (fun a pn => (hsu a pn).pss), fun σ H env L D' D st h ok => ?_⟩
  refine ⟨env, L, _, st, h, ⟨ok.nx, ok.rt, fun nn env' L' d H' σ' hx g' st' er => ?_, ok.bk, ok.ct⟩⟩
  obtain ⟨b, hm, hx⟩ := hx
  refine ⟨b, hm, fun hb => ?_, fun hb => ?_⟩
  · subst hb
    obtain ⟨C, hC, hx⟩ := hx
    intro a oe vs na hz hd
    obtain ⟨nd, xs, h1, h2, h3⟩ := er
    have s1 := same_new na (excX a oe)
    have g1 : Go L' L' H' (upd H' a (excX a oe)) := Go.same s1
    have j1 := st'.2.same s1
    refine ⟨_, L', _, ⟨((st'.1.go g1).set (.exc (st'.2.notIn na) nd upd_same (fun h z => ⟨oe, vs, z, ?_, hz.2, hd⟩) (.inl (s1 d _ h1)) h2 (h3.go g1)) i), j1⟩, hx, ?_⟩
    · rw [← hC]; exact hz.1
    · have ok' := (ok.go g').go g1
      exact ⟨fun e L2 σ2 H2 q g st2 => ok'.nx _ L2 _ H2 q g ⟨st2.1.wipe1 i, st2.2⟩, ok'.rt, fun _ _ _ _ _ _ z => z.elim, fun e L2 σ2 H2 q g st2 => ok'.bk _ L2 _ H2 q g ⟨st2.1.wipe1 i, st2.2⟩, fun e L2 σ2 H2 q g st2 => ok'.ct _ L2 _ H2 q g ⟨st2.1.wipe1 i, st2.2⟩⟩
  · subst hb
    exact ok.ex nn env' L' d H' σ' hx g' st' er
def flD : D → Option V
  | .non => some .non
  | .bl b => some (.bl b)
  | .int i => some (.int i)
  | .str x => some (.str x)
  | _ => none
def flDs : List D → Option (List V)
  | [] => some []
  | d :: r => match flD d, flDs r with
    | some v, some vs => some (v :: vs)
    | _, _ => none
theorem flD_of {L : Led} {K : PySem.W.Frag} {H : Hp} {v v' : V} {d : D} (r : Rp L K H v d) (h : flD d = some v') : v = v' ∧ flatV v = true := by
  cases r <;> first | (cases h; done) | skip
  all_goals (cases h; exact ⟨rfl, rfl⟩)
theorem flDs_of {L : Led} {K : PySem.W.Frag} {H : Hp} : ∀ {vs vs' : List V} {ds : List D}, RpAll L K H vs ds → flDs ds = some vs' → vs = vs' ∧ vs.all flatV = true
  | _, _, _, .nil, h => by cases h; exact ⟨rfl, rfl⟩
  | _, _, _, .cons (d := d) (ds := ds) r t, h => by
    unfold flDs at h
    split at h
    · rename_i v vs h1 h2
      cases h
      obtain ⟨e1, f1⟩ := flD_of r h1
      obtain ⟨e2, f2⟩ := flDs_of t h2
      subst e1 e2
      exact ⟨rfl, by rw [List.all_cons, f1, f2]; rfl⟩
    · cases h
def gIn (neg : Bool) : G2 := fun a b L k => match flD a, seqs (con L b) with
  | some v, some ds => match flDs ds with
    | some vs => k (.bl (if neg then !inV v vs else inV v vs))
    | none => False
  | _, _ => False
theorem sim_in {K : PySem.W.Frag} {neg : Bool} : Sim2 K (rIn K neg) (gIn neg) := by
  intro H L va vb a b k Q j ra rb h hk
  unfold gIn at h
  split at h
  · rename_i v ds h1 h2
    split at h
    · rename_i vs h3
      obtain ⟨e1, f1⟩ := flD_of ra h1
      subst e1
      obtain ⟨p, ws, rfl, hs, rv⟩ := con_seq j rb h2
      obtain ⟨e2, f2⟩ := flDs_of rv h3
      subst e2
      exact ⟨p, ws, rfl, hs, f1, f2, hk _ _ H h (Same.refl H) (.bl _)⟩
    · exact h.elim
  · exact h.elim
theorem oq_inQ : OQ X (compareOp .In) (gIn false) := ⟨_, op_in_seq, sim_in⟩
theorem oq_notInQ : OQ X (compareOp .NotIn) (gIn true) := ⟨_, op_notIn_seq, sim_in⟩
structure FnQ (P : Program) (w : World) (K : PySem.W.Frag) (mg : Str → Option Value) (base : Heap) (k : Nat) (f : Addr) (fd : FuncData) (ps : List Str) (sp : Sp) : Prop where
  len : ∀ vs H Q E, sp vs H Q E → vs.length = ps.length
  run : ∀ (A : Around) (outer : List Env) (s : Shared) (H : Hp) (args : Args) (us : List Value) (vs : List V) (Q : VK), L2H.RoomH k A → Env0 P w K mg base A outer s H → BindsTo s fd args (ps.zip us) → Vals vs us → sp vs H Q (fun _ _ _ => False) →
    codeAny (model P w) A (.call (.ref f) args) (CR (L2.CX P w) outer P w H s Q fun _ _ _ => False) s
end
def cxQ (P : Program) (w : World) (K : PySem.W.Frag) (mg : Str → Option Value) (base : Heap) (N : List Str) (qual : Str) (scope : Scope) (f : Addr) (cd : Value) (A : Around) (outer : List Env) (s : Shared) (H : Hp) : Cx :=
  { cxOf (L2.CX P w) P w K mg base N qual scope f cd A outer s H (fun _ _ _ => False) with calm := false, xe := fun _ _ => False }
section
variable {P : Program} {w : World} {K : PySem.W.Frag} {mg : Str → Option Value} {base : Heap}
theorem fn_okQ {x qual : Str} {st : Stmt} {f : Addr} {fd : FuncData} {N ps : List Str} {k : Nat} {g : DSp} (F : Fun K x qual st f fd) (S : FnScope N ps (defScope st)) (len : ∀ ds L k x, g ds L k x → ds.length = ps.length)
    (body : ∀ (cdv : Value) (A : Around) (outer : List Env) (s : Shared) (H : Hp), L2H.RoomH k (A.deeper (envOfC qual (defScope st) s.heap.objs.size f cdv)) →
      ∃ t, QSs (cxQ P w K mg base N qual (defScope st) f cdv A outer s H) noW (defBody st) t ∧ ∀ ds L k x, g ds L k x → t (endsD k fun _ _ => False) (startD N ds) L) : FnQ P w K mg base (k + 1) f fd ps (spD K g) := by
  obtain ⟨oc, od, kV, doc, pm, an, cdv, ct, osl, rfl, lk, hcd⟩ := F.ex
  have len' : ∀ vs H Q E, spD K g vs H Q E → vs.length = ps.length := fun vs H Q E h => by
    obtain ⟨ds, L, k, x, j, r, h, _⟩ := h
    rw [r.length]
    exact len ds L k x h
  refine ⟨len', fun A outer s H args us vs Q hr e0 hb r hsp => ?_⟩
  have hl := len' _ _ _ _ hsp
  have KX : K.In s.heap := e0.mod.kin.keeps fun b o e => (e0.bs b o e).1
  have lim : s.heap.NoLimit := e0.mod.nolimit.keeps fun b o e => (e0.bs b o e).1
  have hkind : ∀ y ∈ ps.zip us, (defScope st).names.lookup y.1 = some .local ∨ ((defScope st).names.lookup y.1 = some .cell ∧ ((cellsFrom (s.heap.objs.size + 1) (defScope st).names []).lookup y.1).isSome = true) := fun ⟨n, v⟩ hy => by
    rcases S.par n (List.of_mem_zip hy).1 with q | q
    · exact .inl q
    · exact .inr ⟨q, PySem.W.cellsFrom_some _ _ _ (.inl q)⟩
  refine codeAny_call_function hr.depth (KX _ _ lk) rfl S.co S.gen rfl (PySem.W.codeRec_of KX hcd) (hb _ _ _ _ ?_)
  refine wpAny_newFunctionEnv_cells S.kind hkind fun env he s1 x => ?_
  subst he
  refine ⟨lim.keeps x.toInCall.keep, codeAny_func ?_⟩
  obtain ⟨t, q, ht⟩ := body cdv A outer s H (hr.deeper _)
  obtain ⟨ts, pts, sts⟩ := q.ex
  have e1 : Env0 P w K mg base { A with handled := none } outer s H := ⟨e0.frames, e0.mod, e0.bs, e0.bsz, e0.funs, e0.frf, e0.hok, e0.bare⟩
  have I0 := inv_start (CX := L2.CX P w) (qual := qual) (f := f) (cd := cdv) (E := fun _ _ _ => False) S (A := { A with handled := none }) rfl e1 hl r x
  have I : Inv (cxQ P w K mg base N qual (defScope st) f cdv A outer s H) [] (L2.start N vs) H s1 :=
    ⟨⟨I0.ok.mod, I0.ok.kind, I0.ok.glob, I0.ok.blt, I0.ok.above, I0.ok.inj, I0.ok.has, I0.ok.cab, (fun z => Bool.noConfusion (show false = true from z)), Around.frames_deeper e0.frames, I0.ok.stk, I0.ok.exf, I0.ok.bs, I0.ok.bsz, I0.ok.noex, I0.ok.exfs, I0.ok.funs, I0.ok.frf⟩,
      I0.os, I0.bare, I0.base, I0.loc, I0.cell, I0.free, I0.freeC, I0.pin, I0.hok, I0.len⟩
  obtain ⟨ds, L, kk, xx, j, rr, hg, hk, hx⟩ := hsp
  refine wpAny_mono (pts.run [] s1 (L2.start N vs) H { nx := fun _ H' => Q .non H', rt := Q } I (sts _ H (startD N ds) L (endsD kk fun _ _ => False) _ ⟨?_, j⟩ (ht ds L kk xx hg) ?_)) (fun fl s' hs => ?_) fun e s' hs => hs.elim
  · unfold L2.start startD
    rw [rr.length]
    exact Sto.start rr
  · exact ⟨fun env' L' σ' H' q g' st' => hk .non L' .non H' q g' st'.2 .non, hk, fun n env' L' a H' σ' q g' st' r' => q.elim, fun _ _ _ _ q => q.elim, fun _ _ _ _ q => q.elim⟩
  · have fin : ∀ {σ' : L2.St} {H' : Hp} {v : V} {u : Value}, Inv (cxQ P w K mg base N qual (defScope st) f cdv A outer s H) [] σ' H' s' → RelV v u → Q v H' → CE outer P w H s Q u s' :=
      fun {σ' H' v u} J rv q => ⟨v, H', J.os, J.bare, J.base, J.hok, rv, q⟩
    cases fl with
    | ret u =>
      obtain ⟨v, σ', H', J, rv, q⟩ := hs
      exact fin J rv q
    | next =>
      obtain ⟨σ', H', J, q⟩ := hs
      exact fin (v := V.non) (u := Value.none) J rfl q
    | brk =>
      obtain ⟨_, _, _, q⟩ := hs
      exact False.elim q
    | cont =>
      obtain ⟨_, _, _, q⟩ := hs
      exact False.elim q
end
structure CalQ (P : Program) (w : World) (K : PySem.W.Frag) (mg : Str → Option Value) (base : Heap) (n : Nat) (x : Str) (ps : List Str) (g : DSp) : Prop where
  ex : ∃ (f : Addr) (fd : FuncData), FnQ P w K mg base n f fd ps (spD K g) ∧ mg x = some (.ref f) ∧ PySem.W.keepIn K (.ref f) = true ∧ Binds K fd ps []
section
variable {X : Cx} {Wx : WX} {e : Expr} {es : List Expr} {dl : DA} {pos : Pos}
theorem q_calQ {x : Str} {p : Pos} {n k : Nat} {ps : List Str} {g : DSp} (F : CalQ X.prog X.w X.K X.mg X.base n x ps g) (hn : n ≤ k) (hr : L2H.RoomH k X.A) (hg : Gl X x) (ha : QA X Wx (e :: es) dl) (hdb : (x == ("__debug__" : Str)) = false := by decide)
    (he : starEach (e :: es) X.env = (false, eval e X.env) :: starEach es X.env := by rfl) (hpl : (backTo pos (starEach es X.env)).any (·.1) = false := by rfl) : QE X Wx (.Call (.Name x p) (e :: es) [] pos) (fun env L k x => dl env L (fun ds L1 => g ds L1 k fun _ _ => False) x) := by
  obtain ⟨f, fd, F, hm, hk, hb⟩ := F.ex
  obtain ⟨ta, pa, sa⟩ := ha.ex
  refine ⟨fun σ H Q => ta σ H fun vs H1 => spD X.K g vs H1 Q fun _ _ _ => False, ⟨fun pins s σ H Q I h => ?_⟩, fun σ H env L kk xx Q st h hk hx => ?_⟩
  · refine wpAny_Call_Name_kw (ld_glob I hg hm ?_ hdb)
    refine PySem.W.callWith_K (h₀ := X.base) I.ok.mod.kin hk (thn (pa.run pos pins s σ H _ I h) fun us s1 ⟨vs, H1, I1, r, q⟩ => ⟨I1.kIn, ?_⟩) he hpl
    have hl : us.length = ps.length := by rw [← r.length]; exact F.len _ _ _ _ q
    have rc := F.run X.A X.stack s1 H1 ⟨us, []⟩ (us ++ []) vs Q (hr.mono hn) I1.env0 (hb s1 us I1.kIn (by rw [List.append_nil]; exact hl)) (by rw [List.append_nil]; exact r) q
    refine wpAny_call (codeAny_mono rc fun r' s' hq => ?_)
    cases r' with
    | error e => obtain ⟨_, _, _, _, _, _, _, _, _, _, _, _, z⟩ := hq; exact z.elim
    | ok fl =>
      cases fl with
      | ret u => exact I1.after hq
      | next => exact False.elim hq
      | brk => exact False.elim hq
      | cont => exact False.elim hq
  · refine sa σ H env L _ xx _ st h (fun ds L1 vs H1 h1 g1 j1 r1 => ?_) hx
    exact ⟨ds, L1, kk, _, j1, r1, h1, hk.go g1, fun n L' a H' q _ _ _ => q.elim⟩
end
end DL
namespace DL
open PySem L2
section
variable {X : Cx} {Wx : WX} {a b c e o : Expr} {es : List Expr} {da db dc de do' : DE} {dl : DA} {pos : Pos}
def dAppend (do' de : DE) : DE := fun env L k x => do' env L (fun o L1 => match o with
  | .ptr p => match L1.lookup p with
    | some (.lst _) => de env L1 (fun d L2 => match L2.lookup p with
      | some (.lst ds) => ds.length < sizeLine ∧ k .non (setL L2 p (.lst (ds ++ [d])))
      | _ => False) x
    | _ => False
  | _ => False) x
theorem q_append {apos : Pos} (ho : QE X Wx o do') (he : QE X Wx e de)
    (hbase : attributeBase o "append" X.env (eval o X.env) = eval o X.env := by rfl)
    (hfew : ((backTo pos (starEach (e :: []) X.env)).all (fun x => !x.1) && (backToKw pos (keywordEach [] X.env)).all (fun x => x.1.isSome)
      && decide ((e :: []).length + ([] : List Keyword).length + (if ([] : List Keyword).isEmpty then 0 else 1) < 30)) = true := by rfl)
    (hline : (apos.endLine == pos.line) = true := by rfl) (hs : starEach (e :: []) X.env = (false, eval e X.env) :: starEach [] X.env := by rfl) (hplain : (backTo pos (starEach [] X.env)).any (·.1) = false := by rfl) :
    QE X Wx (.Call (.Attribute o "append" apos) [e] [] pos) (dAppend do' de) := by
  obtain ⟨to, po, so⟩ := ho.ex
  obtain ⟨ta, pa, sa⟩ := (a_cons he a_nil hs).ex
  refine ⟨_, pe_bm PySem.F.plainAttrs_list PySem.F.slot_list_append PySem.F.type_list_append mt_append po pa hbase hfew hline hs hplain, fun σ H env L k x Q st h hk hx => ?_⟩
  refine so σ H env L _ x _ st h (fun o L1 vo H1 h1 g1 j1 r1 => ?_) hx
  split at h1
  · rename_i p
    cases r1
    split at h1
    · rename_i ds0 hl
      obtain ⟨vs0, e0, rv0⟩ := j1.look hl
      refine ⟨.inl ⟨rfl, _, SqL.of e0⟩, ?_⟩
      refine sa σ H1 env L1 (fun ds L2 => match ds with
        | [d] => (match L2.lookup p with
          | some (.lst ds) => ds.length < sizeLine ∧ k .non (setL L2 p (.lst (ds ++ [d])))
          | _ => False)
        | _ => False) x _ (st.go g1 j1) h1 (fun ds L2 vs H2 h2 g2 j2 r2 => ?_) (hx.go g1)
      split at h2
      · rename_i d
        cases r2 with
        | @cons vd _ _ _ rd r0 =>
        cases r0
        split at h2
        · rename_i ds1 hl2
          obtain ⟨vs1, e1, rv1⟩ := j2.look hl2
          have hp := inL_of_lookup hl2
          refine ⟨p, vs1, _, rfl, rfl, e1, by rw [rv1.length]; exact h2.1, ?_⟩
          have g4 : Go L2 (setL L2 p (.lst (ds1 ++ [d]))) H2 (upd H2 p (.lst (vs1 ++ [vd]))) := go_set hp
          have j4 : JL X.K (setL L2 p (.lst (ds1 ++ [d]))) (upd H2 p (.lst (vs1 ++ [vd]))) := j2.put hp ⟨_, upd_same, (rv1.go g4).append (.cons (rd.go g4) .nil)⟩
          exact hk _ _ _ _ h2.2 ((g1.trans g2).trans g4) j4 .non
        · exact h2.elim
      · exact h2.elim
    · exact h1.elim
  · exact h1.elim
/-- the signs of a text, one by one -/
def sgD (l : List Nat) : List D := l.map fun c => .str ⟨#[c]⟩
/-- a text's method with one argument -/
def dTxt1 (g : G2) (da db : DE) : DE := fun env L k x => da env L (fun a L1 => match a with
  | .str _ => db env L1 (fun b L2 => g a b L2 fun d => k d L2) x
  | _ => False) x
theorem q_txt1 {id : String} {name : Str} {apos : Pos} {r : V → List V → Hp → VK → Prop} {g : G2} (slot : Slot "str" name id) (ty : typeOf (.builtin id) = pure (.type "method_descriptor")) (rule : MtR X id r) (sr : Sim2 X.K (fun x y H Q => r x [y] H Q) g) (ho : QE X Wx o do') (he : QE X Wx e de)
    (hs : starEach [e] X.env = [(false, eval e X.env)] := by rfl) (hbase : attributeBase o name X.env (eval o X.env) = eval o X.env := by rfl) (hline : (apos.endLine == pos.line) = true := by rfl) :
    QE X Wx (.Call (.Attribute o name apos) [e] [] pos) (dTxt1 g do' de) := by
  obtain ⟨to, po, so⟩ := ho.ex
  obtain ⟨te, pe, se⟩ := he.ex
  refine ⟨_, pe_m1 slot ty rule po pe hs hbase hline, fun σ H env L k x Q st h hk hx => ?_⟩
  refine so σ H env L _ x _ st h (fun o L1 vo H1 h1 g1 j1 r1 => ?_) hx
  cases r1 <;> first | exact h1.elim | skip
  refine ⟨⟨_, rfl⟩, ?_⟩
  refine se σ H1 env L1 _ x _ (st.go g1 j1) h1 (fun b L2 vb H2 h2 g2 j2 r2 => ?_) (hx.go g1)
  exact sr H2 L2 _ vb _ b _ Q j2 (.str _) r2 h2 fun d v H' q s rp => hk d L2 v H' q ((g1.trans g2).trans (Go.same s)) (j2.same s) rp
def strsOf : List D → Option (List Str)
  | [] => some []
  | .str z :: r => match strsOf r with
    | some l => some (z :: l)
    | none => none
  | _ => none
theorem strsOf_eq : ∀ {ds : List D} {l : List Str}, strsOf ds = some l → ds = l.map D.str
  | [], l, h => by cases h; rfl
  | d :: r, l, h => by
    cases d <;> first | (cases h; done) | skip
    unfold strsOf at h
    cases e : strsOf r with
    | none => rw [e] at h; cases h
    | some m => rw [e] at h; cases h; rw [strsOf_eq e]; rfl
theorem strsOf_map : ∀ l : List Str, strsOf (l.map D.str) = some l
  | [] => rfl
  | z :: r => by show (match strsOf (r.map D.str) with | some l => some (z :: l) | none => none) = _; rw [strsOf_map r]
def gJoin : G2 := fun a b L k => match a, seqs (con L b) with
  | .str x, some ds => match strsOf ds with
    | some ys => (ys.map (·.length)).sum + ys.length * x.length ≤ 16777216 ∧ k (.str (Txt.join x ys))
    | none => False
  | _, _ => False
theorem q_join {apos : Pos} (ho : QE X Wx o do') (he : QE X Wx e de) (hs : starEach [e] X.env = [(false, eval e X.env)] := by rfl) (hbase : attributeBase o "join" X.env (eval o X.env) = eval o X.env := by rfl) (hline : (apos.endLine == pos.line) = true := by rfl) :
    QE X Wx (.Call (.Attribute o "join" apos) [e] [] pos) (dTxt1 gJoin do' de) :=
  q_txt1 PySem.F.slot_str_join PySem.F.type_str_join mt_join (fun H L va vb a b k Q j ra rb h hk => by
    unfold gJoin at h
    split at h
    · rename_i x ds hd
      cases ra
      split at h
      · rename_i ys hy
        obtain ⟨p, vs, rfl, hs, r⟩ := con_seq j rb hd
        rw [strsOf_eq hy] at r
        cases RpAll.ofStrs ys r
        exact ⟨_, p, ys, rfl, rfl, hs, h.1, hk _ _ H h.2 (Same.refl H) (.str _)⟩
      · exact h.elim
    · exact h.elim) ho he hs hbase hline
end
end DL
namespace DL
open PySem L2
section
variable {X : Cx} {Wx : WX} {a b c e o : Expr} {es : List Expr} {da db dc de do' : DE} {dl : DA} {pos : Pos}
def gIxA : G2 := fun a b L k => match b with
  | .int i => match a with
    | .str z => z.length ≤ sizeLine ∧ match atI z.cps.toList i with
      | some c => k (.str ⟨#[c]⟩)
      | none => False
    | _ => match seqs (con L a) with
      | some ds => match atI ds i with
        | some d => k d
        | none => False
      | none => False
  | _ => False
theorem sim_ixA {K : PySem.W.Frag} : Sim2 K (fun x y H Q => rIxQ K x y H Q ∨ rIxS x y H Q) gIxA := by
  intro H L va vb a b k Q j ra rb h hk
  cases rb <;> first | exact h.elim | skip
  rename_i i
  by_cases ha : ∃ z, a = .str z
  · obtain ⟨z, rfl⟩ := ha
    exact .inr (sim_ixS H L va _ (.str z) (.int i) k Q j ra (.int i) h hk)
  · refine .inl (sim_ix H L va _ a (.int i) k Q j ra (.int i) ?_ hk)
    cases a <;> first | exact h | exact absurd ⟨_, rfl⟩ ha
theorem q_ixA (ha : QE X Wx a da) (hb : QE X Wx b db) (hs : PlainIx b := by intro _ _; rfl) : QE X Wx (.Subscript a b pos) (dOp gIxA da db) := by
  obtain ⟨ta, pa, sa⟩ := ha.ex
  obtain ⟨tb, pb, sb⟩ := hb.ex
  exact ⟨_, pe_ix (ix_or (ix_or ix_list ix_tup) ix_str) pa pb hs, sim_op sa sb sim_ixA⟩
/-- the name x of the top holds d -/
def GlbD (K : PySem.W.Frag) (mg : Str → Option Value) (x : Str) (d : D) : Prop := ∃ u v, mg x = some u ∧ RelV v u ∧ ∀ L H, Rp L K H v d
theorem q_globD {x : Str} {d : D} (h : GlbD X.K X.mg x d) (hg : Gl X x) (hd : (x == ("__debug__" : Str)) = false := by decide) : QE X Wx (.Name x pos) (dC d) := by
  obtain ⟨u, v, h1, h2, h3⟩ := h
  exact q_glob hg h1 h2 h3 hd
theorem glb_tup {K : PySem.W.Frag} {mg : Str → Option Value} {x : Str} {a : Addr} {d : D} (h : mg x = some (.ref a)) (r : ∀ L H, Rp L K H (.ref a) d) : GlbD K mg x d := ⟨_, .ref a, h, rfl, r⟩
def gTupOf : GC := fun ds L k => match ds with
  | [d] => match con L d with
    | .lst xs => k (.tup xs)
    | .ro xs => k (.tup xs)
    | .tup xs => k (.tup xs)
    | _ => False
  | _ => False
theorem rp_tup {L : Led} {K : PySem.W.Frag} {H : Hp} {v : V} {d : D} {xs : List D} (j : JL K L H) (r : Rp L K H v d) (e : con L d = .tup xs) : Rp L K H v (.tup xs) := con_tupR j r e
theorem cq_tuple : CQ X (.type "tuple") gTupOf := ⟨_, call_tuple_of, fun H L vs ds k Q j r h hk => by
  unfold gTupOf at h
  split at h
  · cases r with
    | cons r1 r2 =>
      cases r2
      split at h
      · rename_i xs hd
        obtain ⟨a, vs, rfl, hs, rv⟩ := con_lst j r1 hd
        refine ⟨a, vs, rfl, .inl ⟨SqL.of hs, fun l hl => ?_⟩⟩
        have s := same_new hl (.tup vs)
        exact hk _ _ _ h s (.tup (.inl ⟨j.notIn hl, .inl upd_same⟩) (rv.go (Go.same s)))
      · rename_i xs hd
        obtain ⟨a, vs, rfl, hs, rv⟩ := con_ro j r1 hd
        refine ⟨a, vs, rfl, .inl ⟨hs, fun l hl => ?_⟩⟩
        have s := same_new hl (.tup vs)
        exact hk _ _ _ h s (.tup (.inl ⟨j.notIn hl, .inl upd_same⟩) (rv.go (Go.same s)))
      · rename_i xs hd
        obtain ⟨a, vs, rfl, hs, rv⟩ := con_tup j r1 hd
        exact ⟨a, vs, rfl, .inr ⟨hs, hk _ _ H h (Same.refl H) (rp_tup j r1 hd)⟩⟩
      · exact h.elim
  · exact h.elim⟩
/-- one piece of a text: a constant, a value -/
def gFmt : G1 := fun a _ k => match a with
  | .str y => y.length ≤ sizeLine ∧ k (.str y)
  | .int i => i.natAbs.log2 < 1920 ∧ k (.str (toString i))
  | _ => False
theorem q_fmt (ha : QE X Wx e da) : QE X Wx (.FormattedValue e (-1) none pos) (dUn gFmt da) := by
  obtain ⟨ta, pa, sa⟩ := ha.ex
  refine ⟨_, pe_fmt pa, fun σ H env L k x Q st h hk hx => ?_⟩
  refine sa σ H env L _ x _ st h (fun a L1 va H1 h1 g1 j1 r1 => ?_) hx
  unfold gFmt at h1
  split at h1
  · cases r1
    exact .inl ⟨_, rfl, h1.1, hk _ L1 _ H1 h1.2 g1 j1 (.str _)⟩
  · cases r1
    exact .inr ⟨_, rfl, h1.1, hk _ L1 _ H1 h1.2 g1 j1 (.str _)⟩
  · exact h1.elim
structure QJ (X : Cx) (Wx : WX) (es : List Expr) (dj : DEnv → Led → Str → (Str → Led → Prop) → DX → Prop) : Prop where
  ex : ∃ ts, PJ X es ts ∧ ∀ σ H env L acc k x (Q : Str → Hp → Prop), StL X.K σ H env L → dj env L acc k x → (∀ z L' H', k z L' → Go L L' H H' → JL X.K L' H' → Q z H') → XOk X.K Wx L H x → tJs ts acc σ H Q
def djNil : DEnv → Led → Str → (Str → Led → Prop) → DX → Prop := fun _ L acc k _ => k acc L
def djCons (de : DE) (dj : DEnv → Led → Str → (Str → Led → Prop) → DX → Prop) : DEnv → Led → Str → (Str → Led → Prop) → DX → Prop := fun env L acc k x => de env L (fun d L1 => match d with
  | .str y => (acc ++ y).length ≤ sizeLine ∧ dj env L1 (acc ++ y) k x
  | _ => False) x
theorem j_nil : QJ X Wx [] djNil := ⟨[], .nil, fun σ H env L acc k x Q st h hk hx => hk acc L H h (Go.refl L H) st.2⟩
theorem j_cons {dj : DEnv → Led → Str → (Str → Led → Prop) → DX → Prop} (he : QE X Wx e de) (hr : QJ X Wx es dj) : QJ X Wx (e :: es) (djCons de dj) := by
  obtain ⟨te, pe, se⟩ := he.ex
  obtain ⟨ts, ps, ss⟩ := hr.ex
  refine ⟨te :: ts, .cons pe ps, fun σ H env L acc k x Q st h hk hx => ?_⟩
  refine se σ H env L _ x _ st h (fun d L1 v H1 h1 g1 j1 r1 => ?_) hx
  cases r1 <;> first | exact h1.elim | skip
  exact ⟨_, rfl, h1.1, ss σ H1 env L1 _ k x Q (st.go g1 j1) h1.2 (fun z L' H' q g j => hk z L' H' q (g1.trans g) j) (hx.go g1)⟩
def dJoined (dj : DEnv → Led → Str → (Str → Led → Prop) → DX → Prop) : DE := fun env L k x => dj env L Str.empty (fun z L' => k (.str z) L') x
theorem q_joined {v1 v2 : Expr} {dj : DEnv → Led → Str → (Str → Led → Prop) → DX → Prop} (h : QJ X Wx (v1 :: v2 :: es) dj) : QE X Wx (.JoinedStr (v1 :: v2 :: es) pos) (dJoined dj) := by
  obtain ⟨ts, ps, ss⟩ := h.ex
  refine ⟨_, pe_joined ps, fun σ H env L k x Q st h hk hx => ?_⟩
  exact ss σ H env L _ _ x _ st h (fun z L' H' q g j => hk _ L' _ H' q g j (.str z)) hx
end
end DL
namespace DL
open PySem L2
section
end
end DL
namespace DL
open PySem L2 TL
section
end
end DL
namespace DL
open PySem PySem.Spec PyProof.Rows L2
theorem con_obj {L : Led} {K : PySem.W.Frag} {H : Hp} {v : V} {d : D} {C : Addr} {ns : List Str} {ds : List D} (j : JL K L H) (r : Rp L K H v d) (e : con L d = .obj C ns ds) : ∃ a dx vs, v = .ref a ∧ H a = some (.ins C dx (ns.zip vs)) ∧ ns.length = vs.length ∧ RpAll L K H vs ds := by
  cases d with
  | ptr a =>
    cases r
    have e : (L.lookup a).getD (.ptr a) = _ := e
    cases h : L.lookup a with
    | none => rw [h] at e; cases e
    | some c =>
      rw [h] at e
      have e2 : c = .obj C ns ds := e
      subst e2
      obtain ⟨dx, vs, h1, h2, h3⟩ := j.look h
      exact ⟨a, dx, vs, rfl, h1, h2, h3⟩
  | obj C' ns' ds' =>
    have e2 : D.obj C' ns' ds' = .obj C ns ds := e
    cases e2
    cases r with
    | obj n h e r => exact ⟨_, _, _, rfl, h, e, r⟩
  | _ => cases e
def putNs (f : Str) : List Str → List Str
  | [] => [f]
  | g :: r => if g = f then g :: r else g :: putNs f r
def putVs {α : Type} (f : Str) (v : α) : List Str → List α → List α
  | [], _ => [v]
  | g :: r, x :: xs => if g = f then v :: xs else x :: putVs f v r xs
  | _ :: _, [] => []
theorem put_zip (f : Str) (v : V) : ∀ (ns : List Str) (xs : List V), ns.length = xs.length → putF f v (ns.zip xs) = (putNs f ns).zip (putVs f v ns xs) ∧ (putNs f ns).length = (putVs f v ns xs).length
  | [], [], _ => ⟨rfl, rfl⟩
  | [], _ :: _, h => by cases h
  | _ :: _, [], h => by cases h
  | g :: r, x :: xs, h => by
    obtain ⟨h1, h2⟩ := put_zip f v r xs (by simpa using h)
    show (if g = f then (g, v) :: r.zip xs else (g, x) :: putF f v (r.zip xs)) = (if g = f then g :: r else g :: putNs f r).zip (if g = f then v :: xs else x :: putVs f v r xs) ∧ (if g = f then g :: r else g :: putNs f r).length = (if g = f then v :: xs else x :: putVs f v r xs).length
    by_cases e : g = f
    · rw [if_pos e, if_pos e, if_pos e]
      exact ⟨rfl, h⟩
    · rw [if_neg e, if_neg e, if_neg e, h1]
      exact ⟨rfl, by rw [List.length_cons, List.length_cons, h2]⟩
theorem put_rp {L : Led} {K : PySem.W.Frag} {H : Hp} {f : Str} {v : V} {d : D} (r : Rp L K H v d) : ∀ (ns : List Str) {xs : List V} {ds : List D}, RpAll L K H xs ds → RpAll L K H (putVs f v ns xs) (putVs f d ns ds)
  | [], _, _, _ => .cons r .nil
  | g :: ns, _, _, .nil => .nil
  | g :: ns, _, _, .cons (v := x) (d := y) h t => by
    unfold putVs
    by_cases e : g = f
    · rw [if_pos e, if_pos e]; exact .cons r t
    · rw [if_neg e, if_neg e]; exact .cons h (put_rp r ns t)
section
variable {X : Cx} {Wx : WX} {a b c e o : Expr} {es : List Expr} {da db dc de do' : DE} {dl : DA} {pos apos : Pos}
/-- e.f -/
def dFld (K : PySem.W.Frag) (f : Str) (da : DE) : DE := fun env L k x => da env L (fun a L1 => match con L1 a with
  | .obj C ns ds => (Cls K C ∧ NoAttr K C f) ∧ match (ns.zip ds).lookup f with
    | some d => k d L1
    | none => False
  | _ => False) x
theorem q_fld {K : PySem.W.Frag} {f : Str} (hK : X.K = K) (he : QE X Wx e da) (hb : attributeBase e f X.env (eval e X.env) = eval e X.env := by rfl) : QE X Wx (.Attribute e f pos) (dFld K f da) := by
  subst hK
  obtain ⟨ta, pa, sa⟩ := he.ex
  refine ⟨_, pe_fld pa hb, fun σ H env L k x Q st h hk hx => ?_⟩
  refine sa σ H env L _ x _ st h (fun a L1 va H1 h1 g1 j1 r1 => ?_) hx
  split at h1
  · rename_i C ns ds hc
    obtain ⟨q, dx, vs, rfl, hq, hl, rv⟩ := con_obj j1 r1 hc
    obtain ⟨⟨h2, h3⟩, h1⟩ := h1
    split at h1
    · rename_i d hd
      obtain ⟨v, e1, r⟩ := lookup_rp rv hd
      exact ⟨q, C, dx, _, v, rfl, hq, h2, h3, e1, hk d L1 v H1 h1 g1 j1 r⟩
    · exact h1.elim
  · exact h1.elim
/-- o.f = e, o of the ledger -/
def dFldS (K : PySem.W.Frag) (f : Str) (de do' : DE) : DS := fun D env L => de env L (fun v L1 => do' env L1 (fun o L2 => match o with
  | .ptr p => match L2.lookup p with
    | some (.obj C ns ds) => (Cls K C ∧ NoAttr K C f ∧ ns.length < 1000) ∧ D.nx env (setL L2 p (.obj C (putNs f ns) (putVs f v ns ds)))
    | _ => False
  | _ => False) D.ex) D.ex
theorem s_fld {K : PySem.W.Frag} {f : Str} {p' : Pos} (hK : X.K = K) (he : QE X Wx e de) (ho : QE X Wx o do') (hs : swapsWith e (some (.Attribute o f p')) pos.line X.env = pure false := by rfl) : QS X Wx (.Assign [.Attribute o f p'] e pos) (dFldS K f de do') := by
  subst hK
  obtain ⟨te, pe, se⟩ := he.ex
  obtain ⟨to, po, so⟩ := ho.ex
  refine ⟨_, ps_fld po pe hs, fun σ H env L D' D st h ok => ?_⟩
  refine se σ H env L _ _ _ st h (fun v L1 vv H1 h1 g1 j1 r1 => ?_) ok.ex
  refine so σ H1 env L1 _ _ _ (st.go g1 j1) h1 (fun o L2 vo H2 h2 g2 j2 r2 => ?_) (ok.ex.go g1)
  split at h2
  · rename_i p
    cases r2
    split at h2
    · rename_i C ns ds hl
      obtain ⟨dx, vs, e1, e2, rv⟩ := j2.look hl
      obtain ⟨⟨c1, c2, c3⟩, h2⟩ := h2
      have hp := inL_of_lookup hl
      obtain ⟨z1, z2⟩ := put_zip f vv ns vs e2
      refine ⟨p, C, dx, _, rfl, e1, c1, c2, by rw [List.length_zip]; omega, ?_⟩
      rw [z1]
      have g4 : Go L2 (setL L2 p (.obj C (putNs f ns) (putVs f v ns ds))) H2 (upd H2 p (.ins C dx ((putNs f ns).zip (putVs f vv ns vs)))) := go_set hp
      have j4 : JL X.K (setL L2 p (.obj C (putNs f ns) (putVs f v ns ds))) (upd H2 p (.ins C dx ((putNs f ns).zip (putVs f vv ns vs)))) := j2.put hp ⟨dx, _, upd_same, z2, put_rp ((r1.go g2).go g4) ns (rv.go g4)⟩
      exact ok.nx env _ σ _ h2 ((g1.trans g2).trans g4) (st.go ((g1.trans g2).trans g4) j4)
    · exact h2.elim
  · exact h2.elim
section
variable {CX : CXT} {k : Nat} {C f : Addr} {m : Str} {fd : FuncData} {ps : List Str} {sp : Sp} {E : L2.St → XK} {ds : List Value} {dvs : List V} {ta : TE} {t : TA} {pl : Sem Bool}
def tMethE (C : Addr) (m : Str) (sp : Sp) (dvs : List V) (E : L2.St → XK) (ta : TE) (t : TA) : TE := fun σ H Q => ta σ H fun x H1 => ∃ a dx fs, x = .ref a ∧ H1 a = some (.ins C dx fs) ∧ fs.lookup m = none ∧ t σ H1 fun vs H2 => sp (x :: (vs ++ dvs)) H2 Q (E σ)
theorem pe_methE (hO : PE X o ta) (hC : Cls X.K C) (hM : Meth X.K C m f) (F : FnOk X.prog X.w X.K X.mg X.base CX k f fd ps sp) (hr : Room k X.A) (hb : Binds X.K fd ps ds) (hd : Vals dvs ds) (hx : ∀ σ, PassesAt CX X σ (E σ)) (hA : PA X (e :: es) t)
    (h1 : starEach (e :: es) X.env = (false, eval e X.env) :: starEach es X.env := by rfl) (h2 : (backTo pos (starEach es X.env)).any (·.1) = false := by rfl)
    (h3 : eval (.Call (.Attribute o m apos) (e :: es) [] pos) X.env = (do let ov ← eval o X.env; standAt apos.atName; let (f, first) ← holding [ov] (getMethod ov m pl); callWith pos f first (backTo pos (starEach (e :: es) X.env)) (backToKw pos (keywordEach [] X.env))) := by rfl) :
    PE X (.Call (.Attribute o m apos) (e :: es) [] pos) (tMethE C m sp dvs E ta t) := ⟨fun pins s σ H Q I h => by
  refine PySem.W.methodCall_KW (pl := pl) (thn (hO.run pins s σ H _ I h) fun u s1 ⟨_, H1, I1, rx, a, _, _, ez, ea, l, q⟩ => ?_) h3
  subst ez
  cases rx
  refine getmeth_ok I1 ea hC hM l (PySem.W.callWith_K (first := [.ref a]) (h₀ := X.base) I.ok.mod.kin hM.kp (thn (hA.run pos pins s1 σ H1 _ I1 q) fun us _ ⟨vs, _, I2, r, q2⟩ => ⟨I2.kIn, ?_⟩) h1 h2)
  exact run_fnSD (us := .ref a :: us) (vs := .ref a :: vs) F hr hb hd (hx σ) I2 (.cons rfl r) q2⟩
theorem pe_meth0E (hO : PE X o ta) (hC : Cls X.K C) (hM : Meth X.K C m f) (F : FnOk X.prog X.w X.K X.mg X.base CX k f fd ps sp) (hr : Room k X.A) (hb : Binds X.K fd ps ds) (hd : Vals dvs ds) (hx : ∀ σ, PassesAt CX X σ (E σ))
    (h3 : eval (.Call (.Attribute o m apos) [] [] pos) X.env = (do let ov ← eval o X.env; standAt apos.atName; let (f, first) ← holding [ov] (getMethod ov m pl); callWith pos f first (backTo pos (starEach [] X.env)) (backToKw pos (keywordEach [] X.env))) := by rfl) :
    PE X (.Call (.Attribute o m apos) [] [] pos) (tMethE C m sp dvs E ta tNil) := ⟨fun pins s σ H Q I h => by
  refine PySem.W.methodCall_KW (pl := pl) (thn (hO.run pins s σ H _ I h) fun u s1 ⟨_, H1, I1, rx, a, _, _, ez, ea, l, q⟩ => ?_) h3
  subst ez
  cases rx
  exact getmeth_ok I1 ea hC hM l (PySem.W.callWith_K0 (first := [.ref a]) I1.kIn hM.kp (run_fnSD (us := [.ref a]) (vs := [.ref a]) F hr hb hd (hx σ) I1 (.cons rfl .nil) q))⟩
end
/-- a method by its class and name -/
structure MCal (P : Program) (w : World) (K : PySem.W.Frag) (mg : Str → Option Value) (base : Heap) (n : Nat) (C : Addr) (m : Str) (ps : List Str) (dd : List D) (g : DSp) : Prop where
  ex : ∃ f fd us dvs, FnOk P w K mg base (L2.CX P w) n f fd ps (spD K g) ∧ Cls K C ∧ Meth K C m f ∧ Binds K fd ps us ∧ Vals dvs us ∧ ∀ L H, RpAll L K H dvs dd
def dMeth (C : Addr) (m : Str) (g : DSp) (dd : List D) (da : DE) (dl : DA) : DE := fun env L k x => da env L (fun a L1 => match con L1 a with
  | .obj C' ns vs => (C' = C ∧ (ns.zip vs).lookup m = none) ∧ dl env L1 (fun ds L2 => g (a :: (ds ++ dd)) L2 k fun n L' => x n env L') x
  | _ => False) x
theorem lookup_none {f : Str} : ∀ {ns : List Str} {xs : List V} {ds : List D}, xs.length = ds.length → (ns.zip ds).lookup f = none → (ns.zip xs).lookup f = none
  | [], _, _, _, _ => rfl
  | _ :: _, [], [], _, _ => rfl
  | _ :: _, [], _ :: _, h, _ => by cases h
  | _ :: _, _ :: _, [], h, _ => by cases h
  | n :: ns, x :: xs, d :: ds, h, e => by
    rw [List.zip_cons_cons, List.lookup_cons] at e ⊢
    cases hb : f == n with
    | true => rw [hb] at e; cases e
    | false => rw [hb] at e; exact lookup_none (by simpa using h) e
theorem q_meth {C : Addr} {m : Str} {n k : Nat} {ps : List Str} {g : DSp} {dd : List D} {pl : Sem Bool} (F : MCal X.prog X.w X.K X.mg X.base n C m ps dd g) (hn : n ≤ k) (hr : Room k X.A) (tk : Takes X Wx) (ho : QE X Wx o do') (ha : QA X Wx (e :: es) dl)
    (h1 : starEach (e :: es) X.env = (false, eval e X.env) :: starEach es X.env := by rfl) (h2 : (backTo pos (starEach es X.env)).any (·.1) = false := by rfl)
    (h3 : eval (.Call (.Attribute o m apos) (e :: es) [] pos) X.env = (do let ov ← eval o X.env; standAt apos.atName; let (f, first) ← holding [ov] (getMethod ov m pl); callWith pos f first (backTo pos (starEach (e :: es) X.env)) (backToKw pos (keywordEach [] X.env))) := by rfl) :
    QE X Wx (.Call (.Attribute o m apos) (e :: es) [] pos) (dMeth C m g dd do' dl) := by
  obtain ⟨f, fd, us, dvs, F, hC, hM, hb, hd, hdd⟩ := F.ex
  obtain ⟨to, po, so⟩ := ho.ex
  obtain ⟨ta, pa, sa⟩ := ha.ex
  refine ⟨_, pe_methE po hC hM F (hr.mono hn) hb hd (fun σ => passAt tk σ) pa h1 h2 h3, fun σ H env L k x Q st h hk hx => ?_⟩
  refine so σ H env L _ x _ st h (fun a L1 va H1 h1 g1 j1 r1 => ?_) hx
  split at h1
  · rename_i C' ns ds hc
    obtain ⟨⟨rfl, h2⟩, h1⟩ := h1
    obtain ⟨q, dx, vs, rfl, hq, hl, rv⟩ := con_obj j1 r1 hc
    refine ⟨q, dx, _, rfl, hq, lookup_none rv.length h2, ?_⟩
    refine sa σ H1 env L1 _ x _ (st.go g1 j1) h1 (fun ds L2 vs H2 h2 g2 j2 r2 => ?_) (hx.go g1)
    exact ⟨a :: (ds ++ dd), L2, k, fun n L' => x n env L', j2, .cons (r1.go g2) (r2.append (hdd L2 H2)), h2, (hk.go g1).go g2, fun n L' a H' q g' j' r => hx n env L' a H' σ q ((g1.trans g2).trans g') (st.go ((g1.trans g2).trans g') j') r⟩
  · exact h1.elim
def dMeth0 (C : Addr) (m : Str) (g : DSp) (dd : List D) (da : DE) : DE := fun env L k x => da env L (fun a L1 => match con L1 a with
  | .obj C' ns vs => (C' = C ∧ (ns.zip vs).lookup m = none) ∧ g (a :: dd) L1 k fun n L' => x n env L'
  | _ => False) x
theorem q_meth0 {C : Addr} {m : Str} {n k : Nat} {ps : List Str} {g : DSp} {dd : List D} {pl : Sem Bool} (F : MCal X.prog X.w X.K X.mg X.base n C m ps dd g) (hn : n ≤ k) (hr : Room k X.A) (tk : Takes X Wx) (ho : QE X Wx o do')
    (h3 : eval (.Call (.Attribute o m apos) [] [] pos) X.env = (do let ov ← eval o X.env; standAt apos.atName; let (f, first) ← holding [ov] (getMethod ov m pl); callWith pos f first (backTo pos (starEach [] X.env)) (backToKw pos (keywordEach [] X.env))) := by rfl) :
    QE X Wx (.Call (.Attribute o m apos) [] [] pos) (dMeth0 C m g dd do') := by
  obtain ⟨f, fd, us, dvs, F, hC, hM, hb, hd, hdd⟩ := F.ex
  obtain ⟨to, po, so⟩ := ho.ex
  refine ⟨_, pe_meth0E po hC hM F (hr.mono hn) hb hd (fun σ => passAt tk σ) h3, fun σ H env L k x Q st h hk hx => ?_⟩
  refine so σ H env L _ x _ st h (fun a L1 va H1 h1 g1 j1 r1 => ?_) hx
  split at h1
  · rename_i C' ns ds hc
    obtain ⟨⟨rfl, h2⟩, h1⟩ := h1
    obtain ⟨q, dx, vs, rfl, hq, hl, rv⟩ := con_obj j1 r1 hc
    refine ⟨q, dx, _, rfl, hq, lookup_none rv.length h2, ?_⟩
    exact ⟨a :: dd, L1, k, fun n L' => x n env L', j1, .cons r1 (hdd L1 H1), h1, hk.go g1, fun n L' a H' q g' j' r => hx n env L' a H' σ q (g1.trans g') (st.go (g1.trans g') j') r⟩
  · exact h1.elim
end
end DL
namespace DL
open PySem PySem.Spec PyProof.Rows L2
section
variable {X : Cx} {Wx : WX} {a b c e o : Expr} {es : List Expr} {da db dc de do' : DE} {dl : DA} {pos apos : Pos}
section
variable {CX : CXT} {k : Nat} {C f : Addr} {x : Str} {p : Pos} {fd : FuncData} {ps : List Str} {sp : Sp} {E : L2.St → XK} {ds : List Value} {dvs : List V} {t : TA}
def tMakeE (C : Addr) (sp : Sp) (dvs : List V) (E : L2.St → XK) (t : TA) : TE := fun σ H Q => t σ H fun vs H1 => ∀ x dx, H1 x = none → H1 dx = none → dx ≠ x → sp (.ref x :: (vs ++ dvs)) (upd (upd H1 dx (.own x)) x (.ins C dx [])) (fun v H2 => v = .non ∧ Q (.ref x) H2) (E σ)
theorem run_makeE {pins : List (Addr × Obj)} {σ : L2.St} {H : Hp} {s : Shared} {Q : VK} {us : List Value} {vs : List V} (M : Mk X.K C f) (F : FnOk X.prog X.w X.K X.mg X.base CX k f fd ps sp) (hr : Room (k + 1) X.A) (hb : Binds X.K fd ps ds) (hd : Vals dvs ds) (hx : PassesAt CX X σ (E σ)) (I : Inv X pins σ H s) (r : Vals vs us)
    (h : ∀ x dx, H x = none → H dx = none → dx ≠ x → sp (.ref x :: (vs ++ dvs)) (upd (upd H dx (.own x)) x (.ins C dx [])) (fun v H2 => v = .non ∧ Q (.ref x) H2) (E σ)) : wpAny (model X.prog X.w) X.A (call (.ref C) us) (EP X pins σ Q) X.xe s := by
  have q0 := h (s.heap.objs.size + 1) s.heap.objs.size (I.hok.fresh (Nat.le_succ _)) (I.hok.fresh (Nat.le_refl _)) (Nat.ne_of_lt (Nat.lt_succ_self _))
  have I2 := Inv.made (C := C) I
  have rr : Vals (V.ref (s.heap.objs.size + 1) :: (vs ++ dvs)) (.ref (s.heap.objs.size + 1) :: (us ++ ds)) := .cons rfl (r.append hd)
  have ll : (Value.ref (s.heap.objs.size + 1) :: us ++ ds).length = ps.length := rr.length.symm.trans (F.len _ _ _ _ q0)
  have run := F.run _ X.stack _ _ ⟨.ref (s.heap.objs.size + 1) :: us, []⟩ (.ref (s.heap.objs.size + 1) :: (us ++ ds)) _ _ (E σ) (hr.make C us []) (I2.env0.make C us []) (hb _ (.ref (s.heap.objs.size + 1) :: us) I2.kIn ll) rr q0
  refine wpAny_call (make_map (f := f) I.kIn M.makes M.init (beq_iff_eq.mp M.fn) (codeAny_mono run fun w s' hw => ?_))
  cases w with
  | error er => exact hx pins _ _ er s' I2 hw
  | ok fl =>
  cases fl with
  | brk => exact hw.elim
  | cont => exact hw.elim
  | next => exact hw.elim
  | ret u =>
  obtain ⟨_, H3, I3, rv, ev, q3⟩ := I2.after hw
  subst ev
  exact ⟨rv, ⟨.ref (s.heap.objs.size + 1), H3, I3, rfl, q3⟩⟩
theorem pe_makeE (M : Mk X.K C f) (F : FnOk X.prog X.w X.K X.mg X.base CX k f fd ps sp) (hr : Room (k + 1) X.A) (hg : Gl X x) (hm : X.mg x = some (.ref C)) (hb : Binds X.K fd ps ds) (hd : Vals dvs ds) (hx : ∀ σ, PassesAt CX X σ (E σ)) (hA : PA X (e :: es) t)
    (h0 : (x == ("__debug__" : Str)) = false := by decide) (h1 : starEach (e :: es) X.env = (false, eval e X.env) :: starEach es X.env := by rfl) (h2 : (backTo pos (starEach es X.env)).any (·.1) = false := by rfl) : PE X (.Call (.Name x p) (e :: es) [] pos) (tMakeE C sp dvs E t) :=
  ⟨fun pins s σ H Q I h => wpAny_Call_Name_kw (ld_glob I hg hm (PySem.W.callWith_K (h₀ := X.base) I.ok.mod.kin M.kp (thn (hA.run pos pins s σ H _ I h) fun us _ ⟨vs, _, I1, r, q⟩ => ⟨I1.kIn, run_makeE M F hr hb hd (hx σ) I1 r q⟩) h1 h2) h0)⟩
end
/-- a class by name: what its __init__ promises of the new thing of the ledger -/
structure KCal (P : Program) (w : World) (K : PySem.W.Frag) (mg : Str → Option Value) (base : Heap) (n : Nat) (x : Str) (C : Addr) (ps : List Str) (dd : List D) (g : DSp) : Prop where
  ex : ∃ f fd us dvs, FnOk P w K mg base (L2.CX P w) n f fd ps (spD K g) ∧ Mk K C f ∧ mg x = some (.ref C) ∧ Binds K fd ps us ∧ Vals dvs us ∧ ∀ L H, RpAll L K H dvs dd
/-- .. it is from then on a plain datum -/
def dMakeD (C : Addr) (g : DSp) (dd : List D) (dl : DA) : DE := fun env L k x => dl env L (fun ds L1 => ∀ q, ¬ inL L1 q → g (.ptr q :: (ds ++ dd)) ((q, .obj C [] []) :: L1) (fun v L2 => v = .non ∧ match L2.lookup q with
  | some (.obj C' ns vs) => k (.obj C' ns vs) (remL L2 q)
  | _ => False) fun n L' => x n env (remL L' q)) x
theorem made_jl {K : PySem.W.Frag} {L : Led} {H : Hp} {q dx C : Addr} (j : JL K L H) (hq : H q = none) (hd : H dx = none) (hne : dx ≠ q) : ¬ inL L q ∧ JL K ((q, .obj C [] []) :: L) (upd (upd H dx (.own q)) q (.ins C dx [])) ∧ Go L ((q, .obj C [] []) :: L) H (upd (upd H dx (.own q)) q (.ins C dx [])) := by
  have s := same_new hd (.own q)
  have hq' : (upd H dx (.own q)) q = none := by rw [upd_ne (Ne.symm hne)]; exact hq
  obtain ⟨j2, g2⟩ := (j.same s).push (d := .obj C [] []) hq' (o := .ins C dx []) ⟨dx, [], upd_same, rfl, .nil⟩
  exact ⟨j.notIn hq, j2, (Go.same s).trans g2⟩
theorem exR_go {L L' : Led} {K : PySem.W.Frag} {H H' : Hp} {a : Addr} {n : Exn} (g : Go L L' H H') (h : ExR L K H a n) : ExR L' K H' a n := by
  obtain ⟨na, vs, e1, e2, e3⟩ := h
  exact ⟨(g _ _ na e1).1, vs, (g.at' na e1).2, e2, e3.go g⟩
theorem q_makeD {x : Str} {p : Pos} {n k : Nat} {C : Addr} {ps : List Str} {g : DSp} {dd : List D} (F : KCal X.prog X.w X.K X.mg X.base n x C ps dd g) (hn : n + 1 ≤ k) (hr : Room k X.A) (tk : Takes X Wx) (hg : Gl X x) (ha : QA X Wx (e :: es) dl)
    (h0 : (x == ("__debug__" : Str)) = false := by decide) (h1 : starEach (e :: es) X.env = (false, eval e X.env) :: starEach es X.env := by rfl) (h2 : (backTo pos (starEach es X.env)).any (·.1) = false := by rfl) : QE X Wx (.Call (.Name x p) (e :: es) [] pos) (dMakeD C g dd dl) := by
  obtain ⟨f, fd, us, dvs, F, hM, hm, hb, hd, hdd⟩ := F.ex
  obtain ⟨ta, pa, sa⟩ := ha.ex
  refine ⟨_, pe_makeE hM F (hr.mono hn) hg hm hb hd (fun σ => passAt tk σ) pa h0 h1 h2, fun σ H env L k x Q st h hk hx => ?_⟩
  refine sa σ H env L _ x _ st h (fun ds L1 vs H1 h1 g1 j1 r1 q dx hq hdx hne => ?_) hx
  obtain ⟨nq, j2, g2⟩ := made_jl (C := C) j1 hq hdx hne
  refine ⟨_, _, _, _, j2, .cons (.ptr q) ((r1.go g2).append (hdd _ _)), h1 q nq, fun d L' v H' ⟨ed, hkq⟩ g' j' r' => ?_, fun n L' a H' hxq g' j' r => ?_⟩
  · subst ed
    cases r'
    refine ⟨rfl, ?_⟩
    split at hkq
    · rename_i C' ns vs' hl
      obtain ⟨dx', ws, e1, e2, rv⟩ := j'.look hl
      exact hk _ _ _ H' hkq (((g1.trans g2).trans g').trans go_rem) j'.rem (.obj (fun m => (inL_remL.mp m).2 rfl) e1 e2 (rv.go go_rem))
    · exact hkq.elim
  · exact hx n env _ a H' σ hxq (((g1.trans g2).trans g').trans go_rem) (st.go (((g1.trans g2).trans g').trans go_rem) j'.rem) (exR_go go_rem r)
end
end DL
namespace DL
open PySem PySem.Spec PyProof.Rows PySem.W L2
section
end
end DL
namespace DL
open PySem L2
def keyD : D → Option Key
  | .int i => some (.inl i)
  | .str z => some (.inr z)
  | _ => none
theorem key_of {L : Led} {K : PySem.W.Frag} {H : Hp} {v : V} {d : D} {k : Key} (r : Rp L K H v d) (h : keyD d = some k) : v = kV k := by
  cases d <;> first | (cases h; done) | skip
  · cases h; cases r; rfl
  · cases h; cases r; rfl
def lookK {α : Type} : List Key → List α → Key → Option α
  | a :: ks, d :: ds, k => if a = k then some d else lookK ks ds k
  | _, _, _ => none
theorem look_val : ∀ (ks : List Key) (vs : List V) (k : Key), valV (ks.zip vs) k = lookK ks vs k
  | [], _, _ => rfl
  | _ :: _, [], _ => rfl
  | a :: ks, v :: vs, k => by
    show ((((a, v) :: ks.zip vs).find? fun kv => decide (kv.1 = k)).map (·.2)) = if a = k then some v else lookK ks vs k
    rw [List.find?_cons]
    by_cases e : a = k
    · rw [decide_eq_true e, if_pos e]; rfl
    · rw [decide_eq_false e, if_neg e]; exact look_val ks vs k
section
end
end DL
namespace DL
open PySem L2
def keepL (L L' : Led) : Led := L'.filter fun q => decide (q.1 ∈ L.map (·.1))
theorem inL_keep {L L' : Led} {a : Addr} : inL (keepL L L') a ↔ inL L' a ∧ inL L a := by
  unfold inL keepL
  constructor
  · intro h
    obtain ⟨q, hq, rfl⟩ := List.mem_map.mp h
    obtain ⟨h1, h2⟩ := List.mem_filter.mp hq
    exact ⟨List.mem_map.mpr ⟨q, h1, rfl⟩, of_decide_eq_true h2⟩
  · rintro ⟨h1, h2⟩
    obtain ⟨q, hq, rfl⟩ := List.mem_map.mp h1
    exact List.mem_map.mpr ⟨q, List.mem_filter.mpr ⟨hq, decide_eq_true h2⟩, rfl⟩
theorem go_keep {L L' : Led} {H : Hp} : Go L' (keepL L L') H H := .mk' fun a o n h => ⟨fun m => n (inL_keep.mp m).1, h⟩
theorem JL.keep {K : PySem.W.Frag} {L L' : Led} {H : Hp} (j : JL K L' H) : JL K (keepL L L') H := by
  refine ⟨?_, fun a d m => ?_⟩
  · exact List.Nodup.sublist (List.Sublist.map _ List.filter_sublist) j.nd
  · exact Own.move (j.own a d (List.mem_filter.mp m).1) go_keep fun o e => e
theorem keep_out {L L' : Led} {p : Addr} {d : D} (h : ¬ inL L p) : keepL L ((p, d) :: L') = keepL L L' := by
  unfold keepL
  rw [List.filter_cons, decide_eq_false (show ¬ p ∈ L.map (·.1) from h)]
  rfl
theorem keep_same {L L' : Led} (h : L'.map (·.1) = L.map (·.1)) : keepL L L' = L' := by
  unfold keepL
  refine List.filter_eq_self.mpr fun q hq => decide_eq_true ?_
  rw [← h]
  exact List.mem_map.mpr ⟨q, hq, rfl⟩
end DL
namespace DL
open PySem L2
def isInt : D → Bool
  | .int _ => true
  | _ => false
def okT (d : D) : Bool := (tyD d).isSome
structure Bag where
  cells : List Int
  at_ : Int
  rest : Int
  mix : Int
  cnt : Int
def bagC (b : Bag) : D := .lst [.lst (b.cells.map .int), .int b.at_, .int b.rest, .int b.mix, .int b.cnt]
structure BagOk (b : Bag) : Prop where
  a0 : 0 ≤ b.at_
  a1 : b.at_ ≤ b.cells.length
  r0 : 0 ≤ b.rest
  m0 : 0 ≤ b.mix
  m1 : b.mix < 2147483497
def bagS : DSp := fun ds L k _ => ∃ ns : List Int, ds = [.ro (ns.map .int)] ∧ ∀ p b, ¬ inL L p → BagOk b → k (.ptr p) ((p, bagC b) :: L)
def pullS : DSp := fun ds L k _ => ∃ (p : Addr) (b : Bag) (m : Int), ds = [.ptr p, .int m] ∧ L.lookup p = some (bagC b) ∧ BagOk b ∧ 0 < m ∧ m.natAbs.log2 < 9000 ∧ ∀ r b', 0 ≤ r → r < m → BagOk b' → k (.int r) (setL L p (bagC b'))
theorem con_ptr {L : Led} {p : Addr} {c : D} (h : L.lookup p = some c) : con L (.ptr p) = c := by
  show (L.lookup p).getD (.ptr p) = c
  rw [h]; rfl
theorem setL_setL (L : Led) (p : Addr) (c d : D) : setL (setL L p c) p d = setL L p d := by
  unfold setL
  rw [List.map_map]
  refine List.map_congr_left fun q _ => ?_
  show (if (if q.1 = p then (p, c) else q).1 = p then (p, d) else (if q.1 = p then (p, c) else q)) = _
  by_cases h : q.1 = p
  · simp [h]
  · simp [h]
theorem lookup_setL : ∀ {L : Led} {p : Addr} {c d : D}, L.lookup p = some c → (setL L p d).lookup p = some d
  | [], _, _, _, h => by simp at h
  | (q, e) :: L, p, c, d, h => by
    by_cases hq : q = p
    · subst hq
      show List.lookup q ((if q = q then (q, d) else (q, e)) :: setL L q d) = _
      rw [if_pos rfl]
      exact lookup_top
    · rw [setL_ne hq, lookup_ne (Ne.symm hq)]
      rw [lookup_ne (Ne.symm hq)] at h
      exact lookup_setL h
mutual
def okP : D → Bool
  | .non => true | .bl _ => true | .int _ => true | .str _ => true
  | .lst xs => decide (xs.length < 100000) && okPs xs
  | .tup xs => decide (xs.length < 100000) && okPs xs
  | .ro _ => false | .dk _ _ => false | .dt _ _ => false | .obj _ _ _ => false | .exc _ _ _ => false | .fnv _ _ => false | .clo _ _ => false | .tab _ => false | .ptr _ => false | .ty _ => false | .kt _ => false
def okPs : List D → Bool
  | [] => true
  | d :: r => okP d && okPs r
end
mutual
def dep : D → Nat
  | .lst xs => deps xs + 1
  | .tup xs => deps xs + 1
  | .non => 0 | .bl _ => 0 | .int _ => 0 | .str _ => 0 | .ro _ => 0 | .dk _ _ => 0 | .dt _ _ => 0 | .obj _ _ _ => 0 | .exc _ _ _ => 0 | .fnv _ _ => 0 | .clo _ _ => 0 | .tab _ => 0 | .ptr _ => 0 | .ty _ => 0 | .kt _ => 0
def deps : List D → Nat
  | [] => 0
  | d :: r => max (dep d) (deps r)
end
mutual
def sameD : D → D → Bool
  | .lst xs, .lst ys => sameL xs ys
  | .tup xs, .tup ys => sameL xs ys
  | .non, .non => true
  | .bl a, .bl b => decide (a = b)
  | .int a, .int b => decide (a = b)
  | .str a, .str b => decide (a = b)
  | _, _ => false
def sameL : List D → List D → Bool
  | [], [] => true
  | x :: xs, y :: ys => sameD x y && sameL xs ys
  | _, _ => false
end
mutual
theorem sameD_refl : ∀ d : D, okP d = true → sameD d d = true
  | .non, _ => by unfold sameD; rfl
  | .bl _, _ => by unfold sameD; simp
  | .int _, _ => by unfold sameD; simp
  | .str _, _ => by unfold sameD; simp
  | .lst xs, h => by unfold sameD; exact sameL_refl xs (by unfold okP at h; rw [Bool.and_eq_true] at h; exact h.2)
  | .tup xs, h => by unfold sameD; exact sameL_refl xs (by unfold okP at h; rw [Bool.and_eq_true] at h; exact h.2)
  | .ro _, h => by simp [okP] at h
  | .dk _ _, h => by simp [okP] at h
  | .dt _ _, h => by simp [okP] at h
  | .obj _ _ _, h => by simp [okP] at h
  | .exc _ _ _, h => by simp [okP] at h
  | .fnv _ _, h => by simp [okP] at h
  | .clo _ _, h => by simp [okP] at h
  | .tab _, h => by simp [okP] at h
  | .ptr _, h => by simp [okP] at h
  | .ty _, h => by simp [okP] at h
  | .kt _, h => by simp [okP] at h
theorem sameL_refl : ∀ ds : List D, okPs ds = true → sameL ds ds = true
  | [], _ => by unfold sameL; rfl
  | d :: r, h => by
    unfold okPs at h
    rw [Bool.and_eq_true] at h
    unfold sameL
    rw [sameD_refl d h.1, sameL_refl r h.2]; rfl
end
theorem sameL_len : ∀ {xs ys : List D}, xs.length ≠ ys.length → sameL xs ys = false
  | [], [], h => absurd rfl h
  | [], _ :: _, _ => by simp [sameL]
  | _ :: _, [], _ => by simp [sameL]
  | x :: xs, y :: ys, h => by
    unfold sameL
    rw [sameL_len (xs := xs) (ys := ys) (fun e => h (by simp [e])), Bool.and_false]
def sameS (n : Nat) : DSp := fun ds L k _ => ∃ a b, ds = [a, b] ∧ okP a = true ∧ okP b = true ∧ dep b < n ∧ k (.bl (sameD a b)) L
def gcdI (a b : Int) : Int := ((Nat.gcd a.natAbs b.natAbs : Nat) : Int)
def lowI (t u : Int) : Int × Int := let g := if u < 0 then 0 - gcdI t u else gcdI t u; (t.fdiv g, u.fdiv g)
theorem gcdI_pos {a b : Int} (h : b ≠ 0) : 0 < gcdI a b := by
  unfold gcdI
  have : 0 < Nat.gcd a.natAbs b.natAbs := Nat.gcd_pos_of_pos_right _ (by omega)
  omega
theorem gcdI_dvd_left (a b : Int) : gcdI a b ∣ a := Int.natAbs_dvd_natAbs.mp (by unfold gcdI; rw [Int.natAbs_natCast]; exact Nat.gcd_dvd_left _ _)
theorem gcdI_dvd_right (a b : Int) : gcdI a b ∣ b := Int.natAbs_dvd_natAbs.mp (by unfold gcdI; rw [Int.natAbs_natCast]; exact Nat.gcd_dvd_right _ _)
theorem fdiv_exact {a g : Int} (hg : g ≠ 0) (h : g ∣ a) : a.fdiv g * g = a := by
  obtain ⟨c, rfl⟩ := h
  rw [Int.mul_comm g c, Int.mul_fdiv_cancel _ hg]
/-- what lowest terms are: t / u = p / q, q above 0, no common divisor -/
theorem lowI_spec {t u : Int} (hu : u ≠ 0) : 0 < (lowI t u).2 ∧ gcdI (lowI t u).1 (lowI t u).2 = 1 ∧ (lowI t u).1 * u = t * (lowI t u).2 := by
  have hg := gcdI_pos (a := t) hu
  have hs : ∃ s : Int, s ≠ 0 ∧ (s = gcdI t u ∨ s = - gcdI t u) ∧ lowI t u = (t.fdiv s, u.fdiv s) ∧ (0 < u → 0 < s) ∧ (u < 0 → s < 0) := by
    unfold lowI
    by_cases h : u < 0
    · exact ⟨0 - gcdI t u, by omega, by omega, by simp only [if_pos h], by omega, by omega⟩
    · exact ⟨gcdI t u, by omega, by omega, by simp only [if_neg h], by omega, by omega⟩
  obtain ⟨s, s0, s1, e, sp, sn⟩ := hs
  have d1 : s ∣ t := by
    rcases s1 with h | h
    · rw [h]; exact gcdI_dvd_left t u
    · rw [h]; exact Int.neg_dvd.mpr (gcdI_dvd_left t u)
  have d2 : s ∣ u := by
    rcases s1 with h | h
    · rw [h]; exact gcdI_dvd_right t u
    · rw [h]; exact Int.neg_dvd.mpr (gcdI_dvd_right t u)
  have e1 := fdiv_exact s0 d1
  have e2 := fdiv_exact s0 d2
  rw [e]
  dsimp only
  generalize t.fdiv s = p at *
  generalize u.fdiv s = q at *
  have hq : 0 < q := by
    rcases Int.lt_or_lt_of_ne hu with h | h
    · have := sn h
      rcases Int.lt_trichotomy q 0 with z | z | z
      · have := Int.mul_pos_of_neg_of_neg z this; omega
      · rw [z] at e2; omega
      · exact z
    · have := sp h
      rcases Int.lt_trichotomy q 0 with z | z | z
      · have := Int.mul_neg_of_neg_of_pos z this; omega
      · rw [z] at e2; omega
      · exact z
  refine ⟨hq, ?_, ?_⟩
  · have sa : s.natAbs = Nat.gcd t.natAbs u.natAbs := by
      have : (gcdI t u).natAbs = Nat.gcd t.natAbs u.natAbs := by unfold gcdI; rw [Int.natAbs_natCast]
      rcases s1 with h | h
      · rw [h, this]
      · rw [h, Int.natAbs_neg, this]
    have ta : t.natAbs = p.natAbs * s.natAbs := by rw [← e1, Int.natAbs_mul]
    have ua : u.natAbs = q.natAbs * s.natAbs := by rw [← e2, Int.natAbs_mul]
    have hs0 : 0 < s.natAbs := by omega
    have k : Nat.gcd p.natAbs q.natAbs * s.natAbs = 1 * s.natAbs := by
      rw [← Nat.gcd_mul_right, ← ta, ← ua, ← sa, Nat.one_mul]
    unfold gcdI
    rw [Nat.eq_of_mul_eq_mul_right hs0 k]
    rfl
  · have e1' : t = p * s := e1.symm
    have e2' : u = q * s := e2.symm
    rw [e1', e2', Int.mul_assoc, Int.mul_comm s q]
theorem lowI_small {t u : Int} (hu : u ≠ 0) : (lowI t u).1.natAbs ≤ t.natAbs ∧ (lowI t u).2.natAbs ≤ u.natAbs := by
  have key : ∀ a s : Int, s ≠ 0 → s ∣ a → (a.fdiv s).natAbs ≤ a.natAbs := fun a s h0 h => by
    have e := congrArg Int.natAbs (fdiv_exact h0 h)
    rw [Int.natAbs_mul] at e
    have : 1 ≤ s.natAbs := by omega
    calc (a.fdiv s).natAbs = (a.fdiv s).natAbs * 1 := (Nat.mul_one _).symm
      _ ≤ (a.fdiv s).natAbs * s.natAbs := Nat.mul_le_mul_left _ this
      _ = a.natAbs := e
  have hg := gcdI_pos (a := t) hu
  unfold lowI
  by_cases h : u < 0
  · simp only [if_pos h]
    have z : (0 : Int) - gcdI t u = - gcdI t u := by omega
    rw [z]
    exact ⟨key t _ (by omega) (Int.neg_dvd.mpr (gcdI_dvd_left t u)), key u _ (by omega) (Int.neg_dvd.mpr (gcdI_dvd_right t u))⟩
  · simp only [if_neg h]
    exact ⟨key t _ (by omega) (gcdI_dvd_left t u), key u _ (by omega) (gcdI_dvd_right t u)⟩
theorem sz_ok {n : Nat} (h : Nat.ble n 1000 = true) : n ≤ sizeLine := Nat.le_trans (Nat.le_of_ble_eq_true h) (by decide)
end DL
namespace DL
open PySem PySem.Spec PyProof.Rows L2
end DL
namespace DL
open PySem PySem.Spec PyProof.Rows L2
section
variable {P : Program} {w : World} {K : PySem.W.Frag} {mg : Str → Option Value} {base : Heap}
/-- a def that makes lambdas: its code object is known -/
theorem fn_okC {x qual : Str} {st : Stmt} {f : Addr} {oc kV doc pm cdv ct : Value} {od an : Option Addr} {osl : Array (Option Value)} {N ps : List Str} {k : Nat} {g : DSp} (lk : K.lookup f = some ⟨oc, od, .func (PySem.W.fnOf x qual (defArgs st) (defBody st) (defScope st) .none kV doc pm an cdv ct), osl⟩) (hcd : PySem.W.codeIn K cdv qual = true)
    (S : FnScope N ps (defScope st)) (len : ∀ ds L k x, g ds L k x → ds.length = ps.length)
    (body : ∀ (A : Around) (outer : List Env) (s : Shared) (H : Hp) (E : XK), Room k (A.deeper (envOfC qual (defScope st) s.heap.objs.size f cdv)) →
      ∃ t, QSs (cxOf (L2.CX P w) P w K mg base N qual (defScope st) f cdv A outer s H E) (wxOf E) (defBody st) t ∧ ∀ ds L k x, g ds L k x → t (endsD k x) (startD N ds) L) : FnOk P w K mg base (L2.CX P w) (k + 1) f (PySem.W.fnOf x qual (defArgs st) (defBody st) (defScope st) .none kV doc pm an cdv ct) ps (spD K g) := by
  refine fn_of lk hcd S (fun vs H Q E h => ?_) (fun A outer s H vs Q E hr h => ?_)
  · obtain ⟨ds, L, k, x, j, r, h, _⟩ := h
    rw [r.length]
    exact len ds L k x h
  · obtain ⟨ds, L, k, x, j, r, h, hk, hx⟩ := h
    obtain ⟨t, q, ht⟩ := body A outer s H E hr
    obtain ⟨ts, pts, sts⟩ := q.ex
    refine ⟨ts, pts, sts _ H (startD N ds) L (endsD k x) _ ⟨?_, j⟩ (ht ds L k x h) ?_⟩
    · unfold L2.start startD
      rw [r.length]
      exact Sto.start r
    · exact ⟨fun env' L' σ' H' q g' st' => hk .non L' .non H' q g' st'.2 .non, hk, fun n env' L' a H' σ' q g' st' r' => hx n L' a H' q g' st'.2 r', fun _ _ _ _ q => q.elim, fun _ _ _ _ q => q.elim⟩
theorem init1_ok {qual code f : Str} {st : Stmt} {fI C : Addr} {fd : FuncData} {p1 p2 p3 p4 p5 p6 p7 p8 : Pos} {j : Nat} (F : Fun K "__init__" qual st fI fd) (S : FnScope ["self", f] ["self", f] (defScope st))
    (hbd : defBody st = [.Assign [.Attribute (.Name "self" p1) "code" p2] (.Constant (.str code) j p3) p4, .Assign [.Attribute (.Name "self" p5) f p6] (.Name f p7) p8]) (hs : (defScope st).names.lookup ("self" : Str) = some .local) (hf : (defScope st).names.lookup f = some .local)
    (hd : (f == ("__debug__" : Str)) = false) (hcd : (f == ("__classdict__" : Str)) = false) (T : OexC K C) (h1 : PySem.W.findIn K (.ref C) "code" = some none) (h2 : PySem.W.findIn K (.ref C) f = some none) : FnOk P w K mg base (L2.CX P w) 1 fI fd ["self", f] (spI1 C code f) := by
  refine F.okX S (fun vs H Q E h => ?_) (fun cdv A outer s H vs Q E hr h => ?_)
  · obtain ⟨a, v, rfl, _⟩ := h
    rfl
  · obtain ⟨a, v, rfl, ha, q⟩ := h
    rw [hbd]
    refine ⟨_, pss_cons (ps_ost (pv 0 rfl (.inl hs)) pe_str (by rfl)) (pss_one (ps_ost (pv 0 rfl (.inl hs)) (pv 1 rfl (.inl hf) hd hcd) (by rfl))), ?_⟩
    refine ⟨.ref a, rfl, a, C, rfl, T, h1, .inl ⟨ha, fun d hd hne => ?_⟩⟩
    refine ⟨v, rfl, .ref a, rfl, a, C, rfl, T, h2, .inr ⟨d, [("code", .str code)], upd_same, ?_, by show 1 ≤ 900; omega, ?_⟩⟩
    · rw [upd_ne hne, upd_same]
    · exact q d hd hne
end
end DL
namespace DL
open PySem L2
def eNo : Expr := .Constant .none 0 ⟨0, 0, 0, 0⟩
def sVal : Stmt → Expr
  | .Assign _ e _ => e
  | .If e _ _ _ => e
  | .Expr e _ => e
  | .Return (some e) _ => e
  | _ => eNo
def eKid (i : Nat) : Expr → Expr
  | .Call _ as _ _ => as.getD i eNo
  | .List as _ => as.getD i eNo
  | .Tuple as _ _ => as.getD i eNo
  | .BoolOp _ as _ => as.getD i eNo
  | .UnaryOp _ a _ => a
  | .Compare a _ as _ => (a :: as).getD i eNo
  | .BinOp a _ b _ => [a, b].getD i eNo
  | .IfExp a b c _ => [a, b, c].getD i eNo
  | .Subscript a _ _ => a
  | _ => eNo
def lArgs : Expr → Arguments
  | .Lambda a _ _ _ => a
  | _ => defArgs (.Pass ⟨0, 0, 0, 0⟩)
def lBody : Expr → Expr
  | .Lambda _ b _ _ => b
  | _ => eNo
def lScope : Expr → Scope
  | .Lambda _ _ s _ => s
  | _ => defScope (.Pass ⟨0, 0, 0, 0⟩)
theorem q_atEK {X : Cx} {Wx : WX} {e : Expr} {da : DE} {pos : Pos} {K : PySem.W.Frag} {f : Str} (hK : X.K = K) (he : QE X Wx e da) (hb : attributeBase e f X.env (eval e X.env) = eval e X.env := by rfl) : QE X Wx (.Attribute e f pos) (dAtE K f da) := by
  subst hK
  exact q_atE he hb
def lamAt (e : Expr) (qual : Str) (ps fr : List Str) : LamF := ⟨lArgs e, lBody e, lScope e, qual, ps, fr⟩
theorem roomS {k : Nat} {A : Around} {v : Option Value} (h : Room k A) : L2H.RoomH k (A.mark v) := ⟨h.dp, h.un⟩
end DL
namespace L2H
theorem RoomH.units {k : Nat} {A : PySem.Around} (r : RoomH k A) : A.units + 64 < PySem.cLine := by have := r.un; omega
end L2H
namespace DL
open PySem L2
/-- codes and the fields beside them -/
inductive FldTab : Str → Str → Prop
  | c1 : FldTab "InvalidNumber" "given" | c2 : FldTab "InvalidRatio" "given" | c3 : FldTab "InvalidPoint" "given" | c4 : FldTab "InvalidLetter" "given" | c5 : FldTab "NoPlace" "given" | c6 : FldTab "OutOfBox" "given" | c7 : FldTab "InvalidLimit" "given"
  | c8 : FldTab "InvalidTerm" "at" | c9 : FldTab "InvalidProgram" "at" | c10 : FldTab "InvalidCommand" "at"
  | c11 : FldTab "InvalidName" "name" | c12 : FldTab "DuplicateName" "name" | c13 : FldTab "UnknownName" "name"
  | c14 : FldTab "InvalidText" "line" | c15 : FldTab "InvalidPage" "line"
  | c16 : FldTab "NoRoot" "index" | c17 : FldTab "Full" "limit" | c18 : FldTab "InUse" "user"
inductive NoFld : Str → Prop
  | c1 : NoFld "ZeroDivisor" | c2 : NoFld "ZeroPolynomial" | c3 : NoFld "NotDivisible" | c4 : NoFld "NoValue" | c5 : NoFld "NothingLeft"
/-- an error of the package: its fields, its code, what its field holds -/
inductive ErrD (K : PySem.W.Frag) (C : Addr) : List Str → List D → Str → D → Prop
  | one {code f : Str} {v : D} : FldTab code f → FldOk K C "code" → FldOk K C f → ErrD K C [f, "code"] [v, .str code] code v
  | no {code : Str} : NoFld code → FldOk K C "code" → ErrD K C ["code"] [.str code] code .non
def fieldS (K : PySem.W.Frag) : DSp := fun ds L k _ => ∃ C ns vs code r, ds = [.exc C ns vs] ∧ ErrD K C ns vs code r ∧ k r L
/-- what is caught -/
def Caught (K : PySem.W.Frag) (cs : List Value) (n : Exn) (kk : D → Prop) : Prop := ∃ C code r, n.cls = .ref C ∧ PySem.W.exmAny K (.ref C) cs = some true ∧ ErrD K C n.ns n.vs code r ∧ kk (.tup [.str code, r])
/-- a contract for weaker ends -/
def upG (G : LamF → DSp) : LamF → DSp := fun F ds L k x => ∃ k0 x0, G F ds L k0 x0 ∧ (∀ d L', k0 d L' → k d L') ∧ ∀ n L', x0 n L' → x n L'
theorem CloOk.up {P : Program} {w : World} {K : PySem.W.Frag} {mg : Str → Option Value} {base : Heap} {n : Nat} {G : LamF → DSp} (c : CloOk P w K mg base n G) : CloOk P w K mg base n (upG G) :=
  ⟨fun A outer s H f F vs ds L k x Q E hr e0 ca j r g hk hx => by
    obtain ⟨k0, x0, g, h1, h2⟩ := g
    exact c.run A outer s H f F vs ds L k0 x0 Q E hr e0 ca j r g (fun d L' v H' q => hk d L' v H' (h1 d L' q)) fun n L' a H' q => hx n L' a H' (h2 n L' q)⟩
def tryS (K : PySem.W.Frag) (cs : List Value) (G : LamF → DSp) : DSp := fun ds L k _ => ∃ F es, ds = [.clo F es] ∧ G F es L (fun d L' => k (.tup [.str "", d]) L') fun n L' => Caught K cs n fun d => k d L'
/-- each asked in turn; each answers r and leaves the ledger -/
def triesS (K : PySem.W.Frag) (cs : List Value) (G : LamF → DSp) : DSp := fun ds L k _ => ∃ (qs : List (LamF × List D)) (rs : List D), qs.length ≤ 1000 ∧ ds = [.lst (qs.map fun q => .clo q.1 q.2)] ∧ rs.length = qs.length ∧ plnL L = true ∧ plns rs = true ∧
  (∀ (i : Nat) (q : LamF × List D) (r : D), qs[i]? = some q → rs[i]? = some r → ∀ (L' : Led) (k' : DK), plnL L' = true → k' r L' → tryS K cs G [.clo q.1 q.2] L' k' fun _ _ => False) ∧ k (.lst rs) L
theorem lcD_yes {dg : DG} {de : DE} {env0 : DEnv} {p : Addr} {k : DK} {L : Led} (hp : ¬ inL L p) : ∀ (ds rs acc : List D), rs.length = ds.length → acc.length + ds.length ≤ 1000 → plns rs = true → plns acc = true →
    (∀ (i : Nat) (d r : D), ds[i]? = some d → rs[i]? = some r → ∀ (acc' : List D) (K' : DK), plns acc' = true → K' r ((p, .lst acc') :: L) → dg d env0 ((p, .lst acc') :: L) fun env1 => de env1 ((p, .lst acc') :: L) K' (fun _ _ _ => False)) →
    k (.lst (acc ++ rs)) L → lcD dg dYes de env0 p k ds acc ((p, .lst acc) :: L)
  | [], rs, acc, hl, _, _, _, _, h => by
    cases rs with
    | cons _ _ => cases hl
    | nil =>
      rw [lcD_nil, remL_top hp]
      rw [List.append_nil] at h
      exact h
  | d :: ds, rs, acc, hl, hz, pr, pa, hs, h => by
    cases rs with
    | nil => cases hl
    | cons r rs =>
      rw [lcD_cons]
      have pr' := Bool.and_eq_true_iff.mp (show (pln r && plns rs) = true by simpa only [plns] using pr)
      refine hs 0 d r rfl rfl acc _ pa ⟨lookup_top, Nat.lt_of_lt_of_le (show acc.length < 1000 by rw [List.length_cons] at hz; omega) (by decide), ?_⟩
      rw [setL_top hp]
      refine lcD_yes hp ds rs (acc ++ [r]) (by simpa using hl) (by rw [List.length_append, List.length_singleton]; rw [List.length_cons] at hz; omega) pr'.2 (plns_append pa (by unfold plns; rw [pr'.1]; rfl)) (fun i d' r' h1 h2 => hs (i + 1) d' r' (by simpa using h1) (by simpa using h2)) ?_
      rw [List.append_assoc]
      exact h
end DL
namespace DL
open PySem PySem.Spec PyProof.Rows L2
theorem calq_mk {P : Program} {w : World} {K : PySem.W.Frag} {mg : Str → Option Value} {base : Heap} {n : Nat} {x : Str} {ps : List Str} {g : DSp} {f : Addr} {fd : FuncData} (G : FnQ P w K mg base n f fd ps (spD K g)) (m : mg x = some (.ref f)) (k : PySem.W.keepIn K (.ref f) = true) (b : L2.Binds K fd ps []) : CalQ P w K mg base n x ps g := ⟨⟨f, fd, G, m, k, b⟩⟩
theorem kwb {K : PySem.W.Frag} {x qual : Str} {st : Stmt} {f : Addr} {fd : FuncData} {ps ks : List Str} {n : Nat} {gp : Perm3} (F : Fun K x qual st f fd)
    (h : ∀ (kV doc pm : Value) (an : Option Addr) (cdv ct : Value) (us ws : List Value), us.length = n → ws.length = ks.length → bindArgs (PySem.W.fnOf x qual (defArgs st) (defBody st) (defScope st) .none kV doc pm an cdv ct) ⟨us, ks.zip ws⟩ = pure (ps.zip (gp us ws []))) : KwB K fd ps n ks [] gp := by
  obtain ⟨oc, od, kV, doc, pm, an, cdv, ct, osl, rfl, lk, hcd⟩ := F.ex
  exact ⟨fun s us ws _ hu hw => .of_eq (h kV doc pm an cdv ct us ws hu hw)⟩
end DL
namespace DL
open PySem PySem.Spec PyProof.Rows L2
section
end
section
end
end DL
namespace DL
open PySem L2
/-- what a class must be known for, that its instances are asked for their class -/
structure InsC (K : PySem.W.Frag) (C : Addr) : Prop where
  cl : Cls K C
  ha : PySem.W.findIn K (.ref C) "__class__" = some (some (.builtin "object.__class__"))
  hn : PySem.W.specialIn K (.builtin "object.__class__") "__get__" = some (some (.builtin "getset_descriptor.__get__"))
  htk : PySem.W.takesIn K (.builtin "object.__class__") = some true
  hm : PySem.W.mroIn K C (.type "object") = some true
section
variable {X : Cx} {Wx : WX} {a b c e o : Expr} {es rest : List Expr} {da db dc de do' di : DE} {dt du : DT} {dl dk : DA} {pos : Pos}
def gIsC (K : PySem.W.Frag) (C : Addr) : G1 := fun a L k => match con L a with
  | .obj C' _ _ => ∃ b, (InsC K C' ∧ PySem.W.kitOne K (.ref C') (.ref C) = some b) ∧ k (.bl b)
  | c => match tyD c with
    | some t => ∃ b, PySem.W.kitOne K (.type t.nm) (.ref C) = some b ∧ k (.bl b)
    | none => False
def gcIsC (K : PySem.W.Frag) (C : Addr) : GC := fun ds L k => match ds with
  | [d, .ptr C'] => C' = C ∧ gIsC K C d L k
  | _ => False
theorem tyX_obj {L : Led} {K : PySem.W.Frag} {H : Hp} {v : V} {d : D} {C : Addr} {ns : List Str} {ds : List D} (j : JL K L H) (r : Rp L K H v d) (h : con L d = .obj C ns ds) (hI : InsC K C) : TyX K H v (.ref C) := by
  obtain ⟨a, dx, vs, rfl, e, _⟩ := con_obj j r h
  exact .base (.ins e hI.cl hI.ha hI.hn hI.htk hI.hm)
theorem cq_isC {K : PySem.W.Frag} (hK : X.K = K) {C : Addr} : CQ X (.builtin "isinstance") (gcIsC K C) := ⟨_, call_isi, fun H L vs ds k Q j r h hk => by
  subst hK
  unfold gcIsC at h
  split at h
  · rename_i d C'
    obtain ⟨rfl, h⟩ := h
    cases r with
    | cons r1 r2 => cases r2 with
      | cons r2 r3 =>
      cases r3
      cases r2
      unfold gIsC at h
      split at h
      · rename_i hc
        obtain ⟨b, ⟨hI, hb⟩, h⟩ := h
        exact ⟨_, _, _, _, _, rfl, .own _, tyX_obj j r1 hc hI, hb, hk _ _ H h (Same.refl H) (.bl _)⟩
      · split at h
        · rename_i t ht
          obtain ⟨b, hb, h⟩ := h
          exact ⟨_, _, _, _, _, rfl, .own _, tyX_con j r1 ht, hb, hk _ _ H h (Same.refl H) (.bl _)⟩
        · exact h.elim
  · exact h.elim⟩
theorem q_isC {K : PySem.W.Frag} {p p2 : Pos} {T : Str} {C : Addr} (hK : X.K = K) (ha : QE X Wx e da) (hmT : X.mg T = some (.ref C)) (hg : Gl X "isinstance") (hm : X.mg "isinstance" = none) (hgT : Gl X T)
    (hd : (T == ("__debug__" : Str)) = false := by decide) (hs : starEach (e :: [.Name T p2]) X.env = (false, eval e X.env) :: starEach [.Name T p2] X.env := by rfl) (hv0 : bootBuiltins "isinstance" = some (.builtin "isinstance") := by decide +kernel) :
    QE X Wx (.Call (.Name "isinstance" p) [e, .Name T p2] [] pos) (dUn (gIsC K C) da) := by
  refine (q_callB (g := gcIsC K C) (cq_isC hK) hg hm hv0 (a_cons ha (a_cons (q_glob (v := .ref C) (d := .ptr C) hgT hmT rfl (fun _ _ => .ptr _) hd) a_nil (by rfl)) hs) (by decide) (by decide) hs (by rfl)).w ?_
  intro env L k x h
  exact (show dCB (gcIsC K C) (dCons da (dCons (dC (.ptr C)) dNil)) env L k x from by
    unfold dCB dCons dC dNil
    unfold dUn at h
    refine cast ?_ h
    congr 1
    funext a L1
    show _ = (C = C ∧ _)
    simp)
end
end DL
namespace DH
open PySem PySem.Spec PyProof.Rows L2 DL
section
variable {fa : List He.Fa} {fn : List He.DefD} {K : Frag}
/-- a def without defaults -/
theorem defN (c : He.SaysD fa fn K) (i : Nat) {d : He.DefD} (h : fn[i]? = some d) (h0 : d.dfl = []) : ∃ oc od osl kV doc pm an cdv ct, K.lookup (He.fAd K d.at_) = some ⟨oc, od, .func (PySem.W.fnOf d.name d.qual d.params d.body d.scope .none kV doc pm an cdv ct), osl⟩ ∧ PySem.W.codeIn K cdv d.qual = true ∧ PySem.W.keepIn K (.ref (He.fAd K d.at_)) = true := by
  obtain ⟨fd, F⟩ := c.def_ i h
  obtain ⟨⟨oc, od, dV, kV, doc, pm, an, cdv, ct, osl, rfl, lk, hc, hd, hk⟩, kp⟩ := F
  have e : d.dvs K = [] := by unfold He.DefD.dvs; rw [h0]; rfl
  rw [e] at hd
  rcases hd with ⟨_, rfl⟩ | ⟨hne, _⟩
  · exact ⟨oc, od, osl, kV, doc, pm, an, cdv, ct, lk, hc, kp⟩
  · exact absurd rfl hne
end
/-- a tuple of flat values -/
def dvD : He.Dv → Option D
  | .non => some .non
  | .bl b => some (.bl b)
  | .int i => some (.int i)
  | .str x => some (.str x)
  | _ => none
def dvDs : List He.Dv → Option (List D)
  | [] => some []
  | v :: r => match dvD v, dvDs r with
    | some d, some ds => some (d :: ds)
    | _, _ => none
theorem dvD_rp {K : Frag} {v : He.Dv} {d : D} (h : dvD v = some d) : ∀ L H, Rp L K H (v.v K) d := by
  intro L H
  cases v with
  | non => cases h; exact .non
  | bl b => cases h; exact .bl b
  | int i => cases h; exact .int i
  | str x => cases h; exact .str x
  | _ => cases h
theorem dvDs_rp {K : Frag} : ∀ {vs : List He.Dv} {ds : List D}, dvDs vs = some ds → ∀ L H, RpAll L K H (vs.map (He.Dv.v K)) ds
  | [], _, h, _, _ => by cases h; exact .nil
  | v :: r, ds, h, L, H => by
    unfold dvDs at h
    split at h
    · rename_i d es h1 h2
      cases h
      exact .cons (dvD_rp h1 L H) (dvDs_rp h2 L H)
    · cases h
theorem tup_rp {K : Frag} {x : Str} {vs : List He.Dv} {ds : List D} (h : He.tupB K x vs = true) (hd : dvDs vs = some ds) : ∀ L H, Rp L K H (.ref (He.ga K x)) (.tup ds) := by
  intro L H
  have s := He.tupB_ok h (fun _ => none)
  rcases s with s | s
  · rcases s with s | ⟨o, s⟩ <;> cases s
  · exact .tup (.inr s) (dvDs_rp hd L H)
end DH
namespace DL
open PySem PySem.Spec PyProof.Rows L2
section
section
end
end
end DL
namespace DL
open PySem PySem.Spec PyProof.Rows L2
theorem mul_one (l : Addr) (items : Array Value) (n : Nat) (dd : Option Addr) (sl : Array (Option Value)) (u : Tok) :
    Meets (Builtin.«tuple.__mul__» ⟨[.ref l, .int 1 u], []⟩) (fun _ R s => s.heap.get? l = some { cls := .type "tuple", dict := dd, data := .seq items n, slots := sl } ∧ R (.ok (.ret (Value.ref l))) s) :=
  .of_wp fun prog w A R s h => by
    obtain ⟨hp, g, d, tk, os⟩ := s
    obtain ⟨hl, h⟩ := h
    have f1 := AutoSeq1.idx_int
    wp_walk using wpAny_loadPart' hl
    exact ⟨_, rfl, h⟩
section
end
end DL
namespace DL
open PySem L2
section
variable {X : Cx} {Wx : WX} {a b c e o : Expr} {es : List Expr} {da db dc de do' di : DE} {dl : DA} {pos apos : Pos}
def gEqE (neg : Bool) : G2 := fun a b L k => match con L a, b with
  | .lst xs, .lst [] => k (.bl (if neg then !xs.isEmpty else xs.isEmpty))
  | .tup xs, .tup [] => k (.bl (if neg then !xs.isEmpty else xs.isEmpty))
  | .non, .lst [] => k (.bl neg)
  | _, _ => False
def rEmp (K : PySem.W.Frag) (neg : Bool) : R2 := fun x y H Q =>
  (∃ a b xs, x = .ref a ∧ y = .ref b ∧ SqL K H a xs ∧ SqL K H b [] ∧ Q (.bl (if neg then !xs.isEmpty else xs.isEmpty)) H) ∨
  (∃ a b xs, x = .ref a ∧ y = .ref b ∧ SqT K H a xs ∧ SqT K H b [] ∧ Q (.bl (if neg then !xs.isEmpty else xs.isEmpty)) H) ∨
  (∃ b, x = .non ∧ y = .ref b ∧ SqL K H b [] ∧ Q (.bl neg) H)
theorem isEmp_of {xs : List V} {its : List Value} (r : Vals xs its) : xs.isEmpty = its.isEmpty := by cases r <;> rfl
theorem op_eqEmp (hu : X.A.units + 64 < cLine) : OpR X (compareOp .Eq) (rEmp X.K false) := by
  intro pins s σ H x y v u Q I rx ry h
  have hu' : X.A.units < cLine := by omega
  rcases h with ⟨a, b, xs, rfl, rfl, ha, hb, q⟩ | ⟨a, b, xs, rfl, rfl, ha, hb, q⟩ | ⟨b, rfl, rfl, hb, q⟩
  · cases rx; cases ry
    obtain ⟨its, rv, pl, hz⟩ := I.list ha
    obtain ⟨its2, rv2, pl2, hz2⟩ := I.list hb
    cases rv2
    cases its with
    | nil =>
      cases rv
      exact SeqAt.RcAt.lists (e := fun _ => true) pl.isList pl2.isList rfl hu' (fun j h1 h2 => absurd h1 (Nat.not_lt_zero j)) X.prog X.w X.xe _ ⟨.bl _, H, I, rfl, q⟩
    | cons z r =>
      cases rv
      exact SeqAt.RcAt.lists_lengths pl.isList pl2.isList (by simp) hu' X.prog X.w X.xe _ ⟨.bl _, H, I, rfl, q⟩
  · cases rx; cases ry
    obtain ⟨its, rv, pl, hz⟩ := I.tuple ha
    obtain ⟨its2, rv2, pl2, hz2⟩ := I.tuple hb
    cases rv2
    refine SeqAt.RcAt.tuples (e := fun _ => true) pl pl2 hu' (fun j h1 h2 => absurd h2 (by simp)) X.prog X.w X.xe _ ⟨.bl _, H, I, ?_, q⟩
    show (_ : Value) = _
    rw [isEmp_of rv]
    cases its <;> simp
  · cases rx; cases ry
    obtain ⟨its2, rv2, pl2, hz2⟩ := I.list hb
    exact SeqAt.RcAt.none_list pl2.isList hu' X.prog X.w X.xe _ ⟨.bl _, H, I, rfl, q⟩
theorem op_neEmp (hu : X.A.units + 64 < cLine) : OpR X (compareOp .NotEq) (rEmp X.K true) := by
  intro pins s σ H x y v u Q I rx ry h
  have hu' : X.A.units < cLine := by omega
  rcases h with ⟨a, b, xs, rfl, rfl, ha, hb, q⟩ | ⟨a, b, xs, rfl, rfl, ha, hb, q⟩ | ⟨b, rfl, rfl, hb, q⟩
  · cases rx; cases ry
    obtain ⟨its, rv, pl, hz⟩ := I.list ha
    obtain ⟨its2, rv2, pl2, hz2⟩ := I.list hb
    cases rv2
    cases its with
    | nil =>
      cases rv
      exact SeqAt.RcNeAt.lists (e := fun _ => true) pl.isList pl2.isList rfl hu' (fun j h1 h2 => absurd h1 (Nat.not_lt_zero j)) X.prog X.w X.xe _ ⟨.bl _, H, I, rfl, q⟩
    | cons z r =>
      cases rv
      exact SeqAt.RcNeAt.lists_lengths pl.isList pl2.isList (by simp) hu' X.prog X.w X.xe _ ⟨.bl _, H, I, rfl, q⟩
  · cases rx; cases ry
    obtain ⟨its, rv, pl, hz⟩ := I.tuple ha
    obtain ⟨its2, rv2, pl2, hz2⟩ := I.tuple hb
    cases rv2
    refine SeqAt.RcNeAt.tuples (e := fun _ => true) pl pl2 hu' (fun j h1 h2 => absurd h2 (by simp)) X.prog X.w X.xe _ ⟨.bl _, H, I, ?_, q⟩
    show (_ : Value) = _
    rw [isEmp_of rv]
    cases its <;> simp
  · cases rx; cases ry
    obtain ⟨its2, rv2, pl2, hz2⟩ := I.list hb
    exact SeqAt.RcNeAt.none_list pl2.isList hu' X.prog X.w X.xe _ ⟨.bl _, H, I, rfl, q⟩
theorem emp_rp {L : Led} {K : PySem.W.Frag} {H : Hp} {vs : List V} {ds : List D} (r : RpAll L K H vs ds) : vs.isEmpty = ds.isEmpty := by cases r <;> rfl
theorem sim_emp {K : PySem.W.Frag} {neg : Bool} : Sim2 K (rEmp K neg) (gEqE neg) := fun H L va vb a b k Q j ra rb h hk => by
  unfold gEqE at h
  split at h
  · rename_i xs hc
    obtain ⟨p, vs, rfl, e1, r1⟩ := con_lst j ra hc
    cases rb with
    | lst n s q =>
      cases q
      exact .inl ⟨p, _, vs, rfl, rfl, SqL.of e1, SqL.of s, by rw [emp_rp r1]; exact hk _ _ H h (Same.refl H) (.bl _)⟩
  · rename_i xs hc
    obtain ⟨p, vs, rfl, e1, r1⟩ := con_tup j ra hc
    cases rb with
    | tup s q =>
      cases q
      exact .inr (.inl ⟨p, _, vs, rfl, rfl, e1, s.sq, by rw [emp_rp r1]; exact hk _ _ H h (Same.refl H) (.bl _)⟩)
  · rename_i hc
    have e0 := con_flat j ra hc trivial
    subst e0
    cases ra
    cases rb with
    | lst n s q =>
      cases q
      exact .inr (.inr ⟨_, rfl, rfl, SqL.of s, hk _ _ H h (Same.refl H) (.bl _)⟩)
  · exact h.elim
theorem oq_eqE (hu : X.A.units + 64 < cLine) : OQ X (compareOp .Eq) (gEqE false) := ⟨_, op_eqEmp hu, sim_emp⟩
theorem oq_neE (hu : X.A.units + 64 < cLine) : OQ X (compareOp .NotEq) (gEqE true) := ⟨_, op_neEmp hu, sim_emp⟩
def enumD : Nat → List D → List D
  | _, [] => []
  | n, d :: r => .tup [.int n, d] :: enumD (n + 1) r
theorem enumD_get : ∀ (ds : List D) (n i : Nat) (d : D), (enumD n ds)[i]? = some d → ∃ y, ds[i]? = some y ∧ d = .tup [.int ((n + i : Nat) : Int), y]
  | [], n, i, d, h => by cases h
  | x :: r, n, 0, d, h => by cases h; exact ⟨x, rfl, rfl⟩
  | x :: r, n, i + 1, d, h => by
    obtain ⟨y, h1, h2⟩ := enumD_get r (n + 1) i d h
    exact ⟨y, h1, by rw [h2, show n + 1 + i = n + (i + 1) by omega]⟩
theorem enumD_len : ∀ (ds : List D) (n : Nat), (enumD n ds).length = ds.length
  | [], _ => rfl
  | _ :: r, n => by show (enumD (n + 1) r).length + 1 = _; rw [enumD_len r]; rfl
theorem it_enum {K : PySem.W.Frag} {L : Led} {H : Hp} {a : Addr} {vs : List V} {as : List D} (h : SqL' L K H a vs) (r : RpAll L K H vs as) : ItD K L H (Ite K a) (enumD 0 as) := fun L' H' g j i => by
  have e1 := (g.sqL h).sq
  refine ⟨fun d hd => ?_, fun hi => ⟨vs, e1, by rw [enumD_len] at hi; rw [r.length]; omega⟩⟩
  obtain ⟨x, q1, rfl⟩ := enumD_get as 0 i d hd
  obtain ⟨vx, hx, rx⟩ := (r.go g).get q1
  refine ⟨⟨vs, vx, e1, hx⟩, fun z H'' yl => ?_⟩
  obtain ⟨T, x', rfl, nT, rfl, f1⟩ := yl
  have k1 := f1 vs e1
  rw [hx] at k1
  cases k1
  have s := same_new nT (.tup [.int ((i : Nat) : Int), vx])
  refine ⟨s, .tup (.inl ⟨j.notIn nT, .inl upd_same⟩) (.cons ?_ (.cons (rx.go (Go.same s)) .nil))⟩
  rw [Nat.zero_add]
  exact .int _
def diEnum (dl : DA) : DI := fun env L k x => dl env L (fun ds L1 => match ds with
  | [.lst as] => k (enumD 0 as) L1
  | [.ro as] => k (enumD 0 as) L1
  | _ => False) x
theorem i_enum {p tpos : Pos} {elts : List Expr} {kk : Nat} (hg : Gl X "enumerate") (hm : X.mg "enumerate" = none) (ha : QA X Wx [e] dl) (hs : starEach [e] X.env = [(false, eval e X.env)] := by rfl) : QI X Wx (.Tuple elts kk tpos) (.Call (.Name "enumerate" p) [e] [] pos) (diEnum dl) := by
  obtain ⟨ta, pa, sa⟩ := ha.ex
  refine ⟨_, pi_enum hg hm pa hs, fun σ H env L k x R st h hk hx => ?_⟩
  refine sa σ H env L _ x _ st h (fun ds L1 vs H1 h1 g1 j1 r1 => ?_) hx
  split at h1
  · cases r1 with
    | cons r1 r2 =>
      cases r2
      cases r1 with
      | lst n1 s1 q1 => exact ⟨_, _, rfl, SqL.of s1, hk _ L1 _ H1 h1 g1 j1 (it_enum (.inl ⟨n1, .inl s1⟩) q1)⟩
  · cases r1 with
    | cons r1 r2 =>
      cases r2
      cases r1 with
      | ro s1 q1 => exact ⟨_, _, rfl, s1.sq, hk _ L1 _ H1 h1 g1 j1 (it_enum s1 q1)⟩
  · exact h1.elim
def intsOf : List D → Option (List Int)
  | [] => some []
  | .int z :: r => match intsOf r with
    | some l => some (z :: l)
    | none => none
  | _ => none
theorem intsOf_eq : ∀ {ds : List D} {l : List Int}, intsOf ds = some l → ds = l.map D.int
  | [], l, h => by cases h; rfl
  | d :: r, l, h => by
    cases d <;> first | (cases h; done) | skip
    unfold intsOf at h
    cases e : intsOf r with
    | none => rw [e] at h; cases h
    | some m => rw [e] at h; cases h; rw [intsOf_eq e]; rfl
theorem intsOf_map : ∀ l : List Int, intsOf (l.map D.int) = some l
  | [] => rfl
  | z :: r => by show (match intsOf (r.map D.int) with | some l => some (z :: l) | none => none) = _; rw [intsOf_map r]
def gMaxL : GC := fun ds L k => match ds with
  | [d] => match con L d with
    | .lst xs => match intsOf xs with
      | some ns => 0 < ns.length ∧ ∀ m, m ∈ ns → (∀ y, y ∈ ns → y ≤ m) → k (.int m)
      | none => False
    | _ => False
  | _ => False
theorem cq_maxL (hc : X.calm = true) : CQ X (.builtin "max") gMaxL := ⟨_, cr_max hc, fun H L vs ds k Q j r h hk => by
  unfold gMaxL at h
  split at h
  · rename_i d
    cases r with
    | cons r1 r2 =>
      cases r2
      split at h
      · rename_i xs hcd
        split at h
        · rename_i ns hn
          obtain ⟨p, ws, rfl, e1, rw⟩ := con_lst j r1 hcd
          rw [intsOf_eq hn] at rw
          cases RpAll.ofInts ns rw
          exact ⟨p, ns, rfl, SqL.of e1, h.1, fun m h1 h2 => hk _ _ H (h.2 m h1 h2) (Same.refl H) (.int _)⟩
        · exact h.elim
      · exact h.elim
  · exact h.elim⟩
end
end DL
namespace DL
open PySem PySem.Spec PyProof.Rows L2
section
end
section
variable {X : Cx} {Wx : WX} {a b c e o : Expr} {es : List Expr} {da db dc de do' : DE} {dl dk : DA} {pos apos : Pos}
section
variable {CX : CXT} {k n : Nat} {C f : Addr} {x : Str} {p : Pos} {fd : FuncData} {ps ks : List Str} {sp : Sp} {dus : List Value} {dvs : List V} {g : Perm3} {t : TA}
theorem run_makeW {E : XK} {pins : List (Addr × Obj)} {σ : L2.St} {H : Hp} {s : Shared} {Q : VK} {us ws : List Value} {vs zs : List V} (M : Mk X.K C f) (F : FnOk X.prog X.w X.K X.mg X.base CX k f fd ps sp) (hr : Room (k + 1) X.A) (hb : KwB X.K fd ps (n + 1) ks dus g) (hp : PermOk @g) (hd : Vals dvs dus) (hx : PassesAt CX X σ E) (I : Inv X pins σ H s) (r : Vals vs us) (rz : Vals zs ws) (l1 : vs.length = n) (l2 : zs.length = ks.length)
    (h : ∀ x dx, H x = none → H dx = none → dx ≠ x → sp (g (.ref x :: vs) zs dvs) (upd (upd H dx (.own x)) x (.ins C dx [])) (fun v H2 => v = .non ∧ Q (.ref x) H2) E) : wpAny (model X.prog X.w) X.A (call (.ref C) us (ks.zip ws)) (EP X pins σ Q) X.xe s := by
  have q0 := h (s.heap.objs.size + 1) s.heap.objs.size (I.hok.fresh (Nat.le_succ _)) (I.hok.fresh (Nat.le_refl _)) (Nat.ne_of_lt (Nat.lt_succ_self _))
  have I2 := Inv.made (C := C) I
  have r1 : Vals (V.ref (s.heap.objs.size + 1) :: vs) (Value.ref (s.heap.objs.size + 1) :: us) := .cons rfl r
  have rr : Vals (g (V.ref (s.heap.objs.size + 1) :: vs) zs dvs) (g (Value.ref (s.heap.objs.size + 1) :: us) ws dus) := hp.map r1 rz hd
  have n1 : (Value.ref (s.heap.objs.size + 1) :: us).length = n + 1 := by rw [List.length_cons, ← r.length, l1]
  have run := F.run _ X.stack _ _ ⟨.ref (s.heap.objs.size + 1) :: us, ks.zip ws⟩ (g (Value.ref (s.heap.objs.size + 1) :: us) ws dus) _ _ E (hr.make C us (ks.zip ws)) (I2.env0.make C us (ks.zip ws)) (hb.to _ (.ref (s.heap.objs.size + 1) :: us) ws I2.kIn n1 (rz.length.symm.trans l2)) rr q0
  refine wpAny_call (make_map (f := f) I.kIn M.makes M.init (beq_iff_eq.mp M.fn) (codeAny_mono run fun w s' hw => ?_))
  cases w with
  | error er => exact hx pins _ _ er s' I2 hw
  | ok fl =>
  cases fl with
  | brk => exact hw.elim
  | cont => exact hw.elim
  | next => exact hw.elim
  | ret u =>
  obtain ⟨_, H3, I3, rv, ev, q3⟩ := I2.after hw
  subst ev
  exact ⟨rv, ⟨.ref (s.heap.objs.size + 1), H3, I3, rfl, q3⟩⟩
def tMakeW (C : Addr) (n m : Nat) (sp : Sp) (gV : List V → List V → List V) (E : L2.St → XK) (t tk : TA) : TE := fun σ H Q => t σ H fun vs H1 => tk σ H1 fun zs H2 => vs.length = n ∧ zs.length = m ∧ ∀ x dx, H2 x = none → H2 dx = none → dx ≠ x →
  sp (gV (.ref x :: vs) zs) (upd (upd H2 dx (.own x)) x (.ins C dx [])) (fun v H3 => v = .non ∧ Q (.ref x) H3) (E σ)
theorem pe_makeW0 {E : L2.St → XK} {kws : List Keyword} {tk : TA} (M : Mk X.K C f) (F : FnOk X.prog X.w X.K X.mg X.base CX k f fd ps sp) (hr : Room (k + 1) X.A) (hg : Gl X x) (hm : X.mg x = some (.ref C)) (hb : KwB X.K fd ps 1 ks dus g) (hp : PermOk @g) (hd : Vals dvs dus) (hx : ∀ σ, PassesAt CX X σ (E σ)) (hkw : PK X kws tk)
    (hall : (backToKw pos (keywordEach kws X.env)).all (·.1.isSome) = true := by rfl) (hks : (backToKw pos (keywordEach kws X.env)).filterMap (·.1) = ks := by rfl) (hdb : (x == ("__debug__" : Str)) = false := by decide)
    (hpl : ((backTo pos (starEach [] X.env)).any (·.1) || (backToKw pos (keywordEach kws X.env)).any (·.1.isNone)) = false := by rfl) :
    PE X (.Call (.Name x p) [] kws pos) (tMakeW C 0 ks.length sp (fun vs zs => g vs zs dvs) E tNil tk) := by
  refine ⟨fun pins s σ H Q I h => ?_⟩
  refine wpAny_Call_Name_kw (ld_glob I hg hm ?_ hdb)
  refine PySem.W.callWith_KW0 (h₀ := X.base) I.ok.mod.kin M.kp hall ?_ hpl
  refine thn (hkw.run pos pins s σ H _ I h) fun ws s2 ⟨zs, H2, I2, rz, l1, l2, q2⟩ => ⟨I2.kIn, ?_⟩
  rw [hks]
  exact run_makeW (us := []) (vs := []) M F hr hb hp hd (hx σ) I2 .nil rz rfl l2 q2
theorem pe_make00 {E : L2.St → XK} (M : Mk X.K C f) (F : FnOk X.prog X.w X.K X.mg X.base CX k f fd ps sp) (hr : Room (k + 1) X.A) (hg : Gl X x) (hm : X.mg x = some (.ref C)) (hb : KwB X.K fd ps 1 [] dus g) (hp : PermOk @g) (hd : Vals dvs dus) (hx : ∀ σ, PassesAt CX X σ (E σ))
    (hdb : (x == ("__debug__" : Str)) = false := by decide) :
    PE X (.Call (.Name x p) [] [] pos) (tMakeW C 0 0 sp (fun vs zs => g vs zs dvs) E tNil tNil) := by
  refine ⟨fun pins s σ H Q I h => ?_⟩
  obtain ⟨_, _, q⟩ := h
  exact wpAny_Call_Name_kw (ld_glob I hg hm (PySem.W.callWith_K0 I.kIn M.kp (run_makeW (ks := []) (us := []) (ws := []) (vs := []) (zs := []) M F hr hb hp hd (hx σ) I .nil .nil rfl rfl q)) hdb)
end
/-- a class by name, called by keywords alone (or with nothing) -/
structure KCalW (P : Program) (w : World) (K : PySem.W.Frag) (mg : Str → Option Value) (base : Heap) (n : Nat) (x : Str) (C : Addr) (ks : List Str) (dd : List D) (gp : Perm3) (g : DSp) : Prop where
  ex : ∃ f fd ps us dvs, FnOk P w K mg base (L2.CX P w) n f fd ps (spD K g) ∧ Mk K C f ∧ mg x = some (.ref C) ∧ KwB K fd ps 1 ks us gp ∧ PermOk @gp ∧ Vals dvs us ∧ ∀ L H, RpAll L K H dvs dd
def dMakeW (C : Addr) (m : Nat) (g : DSp) (gp : Perm3) (dd : List D) (dk : DA) : DE := fun env L k x => dk env L (fun es L1 => es.length = m ∧ ∀ q, ¬ inL L1 q → g (gp [.ptr q] es dd) ((q, .obj C [] []) :: L1) (fun v L2 => v = .non ∧ k (.ptr q) L2) fun n L' => x n env L') x
theorem sim_makeW {K : PySem.W.Frag} {C : Addr} {m : Nat} {g : DSp} {gp : Perm3} {dvs : List V} {dd : List D} {tk : TA} (hp : PermOk @gp) (hdd : ∀ L H, RpAll L K H dvs dd) (sk : SimA K Wx tk dk) : SimE K Wx (tMakeW C 0 m (spD K g) (fun vs zs => gp vs zs dvs) (WE Wx) tNil tk) (dMakeW C m g gp dd dk) := by
  intro σ H env L k x Q st h hk hx
  refine sk σ H env L _ x _ st h (fun es L1 zs H1 h1 g1 j1 r1 => ?_) hx
  obtain ⟨l2, h1⟩ := h1
  refine ⟨rfl, by rw [r1.length]; exact l2, fun q dx hq hdx hne => ?_⟩
  obtain ⟨nq, j2, g2⟩ := made_jl (C := C) j1 hq hdx hne
  have rr : RpAll ((q, .obj C [] []) :: L1) K (upd (upd H1 dx (.own q)) q (.ins C dx [])) (gp [.ref q] zs dvs) (gp [.ptr q] es dd) := paired_rp (hp.map (rp_paired (.cons (.ptr q) .nil)) (rp_paired (r1.go g2)) (rp_paired (hdd _ _)))
  exact ⟨_, _, _, _, j2, rr, h1 q nq, fun d L' v H' ⟨ed, hkq⟩ g' j' r' => by subst ed; cases r'; exact ⟨rfl, hk _ L' _ H' hkq ((g1.trans g2).trans g') j' (.ptr q)⟩, fun n L' a H' hxq g' j' r => hx n env L' a H' σ hxq ((g1.trans g2).trans g') (st.go ((g1.trans g2).trans g') j') r⟩
theorem q_makeW {x : Str} {p : Pos} {n k : Nat} {C : Addr} {ks : List Str} {g : DSp} {gp : Perm3} {dd : List D} {kws : List Keyword} (F : KCalW X.prog X.w X.K X.mg X.base n x C ks dd gp g) (hn : n + 1 ≤ k) (hr : Room k X.A) (tk : Takes X Wx) (hg : Gl X x) (hkw : QK X Wx kws dk)
    (hall : (backToKw pos (keywordEach kws X.env)).all (·.1.isSome) = true := by rfl) (hks : (backToKw pos (keywordEach kws X.env)).filterMap (·.1) = ks := by rfl) (hdb : (x == ("__debug__" : Str)) = false := by decide)
    (hpl : ((backTo pos (starEach [] X.env)).any (·.1) || (backToKw pos (keywordEach kws X.env)).any (·.1.isNone)) = false := by rfl) : QE X Wx (.Call (.Name x p) [] kws pos) (dMakeW C ks.length g gp dd dk) := by
  obtain ⟨f, fd, ps, us, dvs, F, hM, hm, hb, hp, hd, hdd⟩ := F.ex
  obtain ⟨ta, pa, sa⟩ := hkw.ex
  exact ⟨_, pe_makeW0 hM F (hr.mono hn) hg hm hb hp hd (fun σ => passAt tk σ) pa hall hks hdb hpl, sim_makeW hp hdd sa⟩
theorem q_make00 {x : Str} {p : Pos} {n k : Nat} {C : Addr} {g : DSp} {gp : Perm3} {dd : List D} (F : KCalW X.prog X.w X.K X.mg X.base n x C [] dd gp g) (hn : n + 1 ≤ k) (hr : Room k X.A) (tk : Takes X Wx) (hg : Gl X x) (hdb : (x == ("__debug__" : Str)) = false := by decide) : QE X Wx (.Call (.Name x p) [] [] pos) (dMakeW C 0 g gp dd dNil) := by
  obtain ⟨f, fd, ps, us, dvs, F, hM, hm, hb, hp, hd, hdd⟩ := F.ex
  exact ⟨_, pe_make00 hM F (hr.mono hn) hg hm hb hp hd (fun σ => passAt tk σ) hdb, sim_makeW hp hdd (fun σ H env L k x Q st h hk hx => hk [] L [] H h (Go.refl L H) st.2 .nil)⟩
end
end DL
namespace PySem
namespace GEX
open Builtin Builtin.ObjectAttr PySem.Spec PyProof.Rows PySem.HandSPX
section
end
end GEX
end PySem
namespace DL
open PySem PySem.Spec PyProof.Rows L2
/-- a built-in error class: its order of classes, its __new__ -/
structure BaseF (t : List Value) (newId : String) : Prop where
  ex : ∃ B initId, ExcBaseFacts B newId initId t
  ob : t.contains (.type "object") = true
  go : ∀ self : Value, refuseLoop self "__setattr__" t = pure ()
section
end
end DL
namespace PySem
namespace GEX
open Builtin Builtin.ObjectAttr PySem.Spec PyProof.Rows PySem.HandSPX
section
end
section
end
end GEX
end PySem
namespace PySem.GEX
open PySem PySem.Spec PySem.Calls PyProof.Rows PySem.W
section
end
end PySem.GEX
namespace DL
open PySem PySem.Spec PyProof.Rows L2
section
end
end DL
namespace DL
open PySem PySem.Spec PyProof.Rows L2
section
end
end DL
namespace DL
open PySem PySem.Spec PyProof.Rows L2
section
end
section
end
end DL
namespace DL
open PySem PySem.Spec PyProof.Rows L2
section
end
structure EC (K : PySem.W.Frag) (C : Addr) (rs : List Addr) (t : List Value) (fs : List Str) : Prop where
  cls : ∃ nm q N bs sn sub ab col dd k0 k1 k2 k3 k5 newId, K.lookup C = some (excClassObj nm q C N bs (rs.map Value.ref ++ t) true sn sub ab col dd k0 k1 k2 k3 k5 newId) ∧ BaseF t newId
  sa : PySem.W.findIn K (.ref C) "__setattr__" = some (some (.builtin "object.__setattr__"))
  exC : PySem.W.subIn K (.ref C) (.type "BaseException") = some true
  tyC : PySem.W.typeIn K (.ref C) = some (.type "type")
  kC : PySem.W.keepIn K (.ref C) = true
  ga : PySem.W.findIn K (.ref C) "__getattribute__" = some (some (.builtin "BaseException.__getattribute__"))
  gg : PySem.W.findIn K (.ref C) "__getattr__" = some none
  hd : PySem.W.hasDictIn K C = true
  ca : PySem.W.findIn K (.ref C) "__class__" = some (some (.builtin "object.__class__"))
  no : ∀ f ∈ fs, PySem.W.findIn K (.ref C) f = some none
section
variable {K : PySem.W.Frag} {C : Addr} {rs : List Addr} {t : List Value} {fs : List Str}
theorem EC.clsIn (e : EC K C rs t fs) : ∃ cd, PySem.W.clsIn K C = some cd ∧ cd.mro = .ref C :: (rs.map Value.ref ++ t) := by
  obtain ⟨nm, q, N, bs, sn, sub, ab, col, dd, k0, k1, k2, k3, k5, ni, h, b⟩ := e.cls
  refine ⟨{ name := nm, bases := bs, mro := .ref C :: (rs.map Value.ref ++ t), ns := N, qualname := q, hasDict := true, slotNames := sn, subclasses := sub, abstract := ab, collection := col, hasDel := false }, ?_, rfl⟩
  unfold PySem.W.clsIn
  rw [h] <;> rfl
theorem EC.sub (e : EC K C rs t fs) (b : Value) : PySem.W.subIn K (.ref C) b = some ((Value.ref C :: (rs.map Value.ref ++ t)).contains b) := by
  obtain ⟨cd, h, m⟩ := e.clsIn
  show PySem.W.mroIn K C b = _
  unfold PySem.W.mroIn
  rw [h, Option.bind_some, m]
  rfl
end
section
end
end DL
namespace DL
open PySem PySem.Spec PyProof.Rows L2
section
end
section
section
end
end
end DL
namespace DL
open PySem PySem.Spec PyProof.Rows L2
section
end
end DL
namespace DL
open PySem PySem.Spec PyProof.Rows L2
set_option maxHeartbeats 4000000 in
theorem meets_enumT {v : Value} {o : Obj} {H : Heap → Prop} (B : Begins v o H) :
    Meets (Builtin.«enumerate.__new__» ⟨[.type "enumerate", v], []⟩) (fun _ R s => H s.heap ∧
      R (.ok (.ret (.ref (s.heap.push o).objs.size))) { s with heap := (s.heap.push o).push { cls := .type "enumerate", data := .fields #[.none, .bool false, .ref s.heap.objs.size, rawInt 0, .none, .none] } }) :=
  .of_wp fun prog w A R s h => by
    obtain ⟨hp, g, d, tk, os⟩ := s; obtain ⟨h1, h⟩ := h
    have hsub := sub_enumerate
    have q1 : ∀ {A' : Around} {E : Value → Shared → Prop} {Q : Value → Shared → Prop}, Q (.ref hp.objs.size) ⟨hp.push o, g, d, tk, os⟩ → wpAny (model prog w) A' (pyIter v) Q E ⟨hp, g, d, tk, os⟩ :=
      fun q => B.iter prog w _ _ ⟨hp, g, d, tk, os⟩ _ h1 q
    wp_walk using q1
    refine wpAny_stack_any fun st => wpAny_pure ?_
    split
    · rename_i c _ _ _ _ _
      cases (c == Value.type "enumerate")
      · wp_walk using q1
        exact ⟨_, rfl, h⟩
      · wp_walk using q1
        exact ⟨_, rfl, h⟩
    · wp_walk using q1
      exact ⟨_, rfl, h⟩
theorem call_enumT {prog : Program} {w : World} {A : Around} {E : Value → Shared → Prop} {s : Shared} {v : Value} {o : Obj} {H : Heap → Prop} {Q : Value → Shared → Prop} (B : Begins v o H) (h1 : H s.heap)
    (h : ∀ h', IsEnum h' (s.heap.objs.size + 1) s.heap.objs.size 0 .none → h'.get? s.heap.objs.size = some o → h'.objs.size = s.heap.objs.size + 2 →
      (∀ b o, s.heap.get? b = some o → h'.get? b = some o) → Q (.ref (s.heap.objs.size + 1)) { s with heap := h' }) :
    wpAny (model prog w) A (call (.type "enumerate") [v]) Q E s := by
  refine callType_new F.called_enumerate (by decide) (F.typeCall_enumerate_1 _) (F.newCall_enumerate_1 _) (fun obj => F.args_object_init_2 obj _) F.entry_enumerate_new
    (meets_enumT B) ⟨h1, ?_⟩
  have hz : (s.heap.push o).objs.size = s.heap.objs.size + 1 := Heap.size_push ..
  show _ ∧ _
  rw [hz]
  have he : IsEnum ((s.heap.push o).push { cls := .type "enumerate", data := .fields #[.none, .bool false, .ref s.heap.objs.size, rawInt 0, .none, .none] }) (s.heap.objs.size + 1) s.heap.objs.size 0 .none := by
    have := Heap.get?_push_size (s.heap.push o) (o := { cls := .type "enumerate", data := .fields #[.none, .bool false, .ref s.heap.objs.size, rawInt 0, .none, .none] }) rfl
    rw [hz] at this; exact this
  refine ⟨⟨_, he, rfl⟩, h _ he (Heap.get?_push_of_some _ (Heap.get?_push_size _ B.free)) (by rw [Heap.size_push, hz]) fun b o x => Heap.get?_push_of_some _ (Heap.get?_push_of_some _ x)⟩
def IteT (K : PySem.W.Frag) (a : Addr) : L2.It :=
  ⟨fun i H => ∃ (xs : List V) (x : V), SqT K H a xs ∧ xs[i]? = some x, fun i H v H' => ∃ T x, v = .ref T ∧ H T = none ∧ H' = upd H T (.tup [.int (i : Nat), x]) ∧ ∀ xs, SqT K H a xs → xs[i]? = some x, fun i H => ∃ xs : List V, SqT K H a xs ∧ xs.length ≤ i⟩
theorem turn_enumT {P : Program} {w : World} {K : PySem.W.Frag} {elts : List Expr} {kk : Nat} {tpos : Pos} (a e it : Addr) :
    Turn P w K (.Tuple elts kk tpos) (IteT K a) [e, it] e (fun i h => (∃ old, IsEnum h e it ((i : Nat) : Int) old) ∧ h.IsTupleIter it a i ∧ e ≠ it ∧ a ≠ it ∧ a ≠ e) where
  mem := by simp
  obj := fun i h st b hb => by
    obtain ⟨⟨old, he⟩, ⟨o, ho, hc, hd⟩, _⟩ := st
    have e' : b = e ∨ b = it := by simpa using hb
    rcases e' with z | z
    · rw [z]; exact ⟨_, he, fun v q => nomatch q⟩
    · rw [z]; exact ⟨o, ho, fun v q => by rw [hd] at q; cases q⟩
  keep := fun i h h' st k => let ⟨⟨old, he⟩, hi, hne⟩ := st; ⟨⟨old, k e (by simp) _ he⟩, hi.at fun o q => k it (by simp) o q, hne⟩
  item := by
    intro X hP hw hK hc i pins s σ H E I hf st hg
    subst hP hw hK
    obtain ⟨⟨old, he⟩, hit, hne, hai, hae⟩ := st
    obtain ⟨xs, x, hq, hx⟩ := hg
    obtain ⟨its, rv, p, hz⟩ := I.tuple hq
    obtain ⟨u, hu, ru⟩ := rv.get hx
    have hel : e < s.heap.objs.size := Heap.lt_size he
    have hil : it < s.heap.objs.size := by obtain ⟨_, q, _⟩ := hit; exact Heap.lt_size q
    have hlt : i < its.toArray.size := by
      have := (List.getElem?_eq_some_iff.mp hu).1
      simpa using this
    refine wpAny_pyNext_enum_itemD (Draws.tuple (A := X.A.in1) (show X.A.in1.handled = none from I.ok.hd hc) it a hai its.toArray) he ⟨hit, p⟩ hlt hne (by simp; exact ⟨hne, fun q => hae q.symm⟩) fun y h' tk hy ho hst hT hsz hk => ?_
    have hyu : y = u := by
      have : its[i]? = some y := by simpa using hy
      rw [hu] at this
      exact (Option.some.inj this).symm
    subst hyu
    have hit' := hst.1
    refine ⟨_, rfl, wpAny_letOwnedTupleGo_enum (s := { s with heap := h', toks := tk + 1 }) ho fun h'' he' sb => ?_⟩
    have hT2 : h''.get? s.heap.objs.size = some { cls := .type "tuple", data := .seq #[.int i tk, y] } := (sb.2 _ (Nat.ne_of_gt hel)).trans hT
    have new : ObjOk X.prog X.w (upd H s.heap.objs.size (.tup [.int (i : Nat), x])) h'' s.heap.objs.size (.tup [.int (i : Nat), x]) :=
      ⟨by show 2 ≤ sizeLine; decide, [.int i tk, y], .cons ⟨_, rfl⟩ (.cons ru .nil), ⟨_, hT2, rfl, _, rfl⟩⟩
    have I1 : Inv X pins σ (upd H s.heap.objs.size (.tup [.int (i : Nat), x])) { s with heap := h'', toks := tk + 1 } :=
      I.turnedNew (ch := [e, it]) (fun b ob hb q => (sb.2 b (fun z => hb (by simp [z]))).trans (hk b ob (fun z => hb (by simp [z])) (fun z => hb (by simp [z])) q)) hf (Nat.le_refl _) new
    refine ⟨.ref s.heap.objs.size, _, I1, rfl, ⟨_, x, rfl, I.hok.fresh (Nat.le_refl _), rfl, fun ys hy => by rw [I.tuple_inj hy hq]; exact hx⟩, ⟨⟨y, ?_⟩, hit'.at fun o q => (sb.2 it (Ne.symm hne)).trans q, hne, hai, hae⟩, fun b hb => ?_⟩
    · have e1 : ((i + 1 : Nat) : Int) = (i : Int) + 1 := by omega
      rw [e1]; exact he'
    · have hb' : b < s.heap.objs.size := by
        have e' : b = e ∨ b = it := by simpa using hb
        rcases e' with z | z
        · rw [z]; exact hel
        · rw [z]; exact hil
      rw [upd_ne (Nat.ne_of_lt hb')]
      exact (hf b hb).1
  done := by
    intro X hP hw hK hc i pins s σ H E I hf st hg
    subst hP hw hK
    obtain ⟨⟨old, he⟩, hit, hne, hai, hae⟩ := st
    obtain ⟨xs, hq, hx⟩ := hg
    obtain ⟨its, rv, p, hz⟩ := I.tuple hq
    obtain ⟨f0, f1, f2, f3, f4, f5⟩ := hf it (by simp)
    have hl := rv.length
    have hno : its.toArray[i]? = none := by simp; omega
    have D : Draws X.prog X.w X.A.in1 it [it, a] i (fun _ _ => True) (fun j h => h.IsTupleIter it a j ∧ h.IsTuple a its.toArray ∧ i ≤ j) :=
      { live := fun _ _ st => let ⟨o, ho, _⟩ := st.1; ⟨o, ho⟩
        frame := fun _ _ _ st hk => ⟨st.1.at fun o e => hk it (by simp) o e, st.2.1.at fun o e => hk a (by simp) o e, st.2.2⟩
        item := fun j s Q E hi st hQ => absurd hi (Nat.not_lt_of_le st.2.2)
        done := fun s Q E st hE => wpAny_nextOf_tuple_end (show X.A.in1.handled = none from I.ok.hd hc) st.1 st.2.1 hno hE }
    exact wpAny_pyNext_enum_endD D he ⟨hit, p, Nat.le_refl _⟩ fun h' eb => ⟨rfl, I.turned (t' := s.toks) (fun b o hb q => eb b o hb q) f0 f1 f3 f4 f5⟩
  self := fun A i s Q E st h => let ⟨⟨_, he⟩, _⟩ := st; wpAny_pyIter_enum he h
def iEnumT (K : PySem.W.Frag) (ta : TA) : TI := fun σ H R => ta σ H fun vs H1 => ∃ a xs, vs = [.ref a] ∧ SqT K H1 a xs ∧ R (IteT K a) H1
theorem pi_enumT {X : Cx} {e : Expr} {ta : TA} {p pos tpos : Pos} {elts : List Expr} {kk : Nat} (hg : Gl X "enumerate") (hm : X.mg "enumerate" = none) (ha : PA X [e] ta) (hs : starEach [e] X.env = [(false, eval e X.env)] := by rfl) :
    PI X (.Tuple elts kk tpos) (.Call (.Name "enumerate" p) [e] [] pos) (iEnumT X.K ta) := by
  refine ⟨fun pins s σ H R I h => ?_⟩
  refine Call_ (ld_blt I hg hm boot_enumerate (PyProof.Rows.callWith_type1 (thn (ha.run pos pins s σ H _ I h) fun us s1 ⟨vs, H1, I1, r1, q1⟩ => ?_) hs rfl))
  obtain ⟨a, xs, ex, hq, q⟩ := q1
  subst ex
  cases r1 with
  | cons r rr =>
    cases rr
    cases r
    obtain ⟨its, rv, p', hz⟩ := I1.tuple hq
    have hal : a < s1.heap.objs.size := by obtain ⟨_, q, _⟩ := p'; exact Heap.lt_size q
    refine call_enumT (begins_tuple a its.toArray) p' fun h' he hit hsz hk => wpAny_pyIter_enum he ?_
    have I2 : Inv X pins σ H1 { s1 with heap := h' } := I1.kept (t' := s1.toks) hk
    refine ⟨s1.heap.objs.size + 1, [s1.heap.objs.size + 1, s1.heap.objs.size], _, _, H1, rfl, I2, turn_enumT a (s1.heap.objs.size + 1) s1.heap.objs.size, ⟨⟨.none, he⟩, ⟨_, hit, rfl, rfl⟩, Nat.succ_ne_self _, Nat.ne_of_lt hal, Nat.ne_of_lt (Nat.lt_succ_of_lt hal)⟩, fun b hb => ?_, q⟩
    have e' : b = s1.heap.objs.size + 1 ∨ b = s1.heap.objs.size := by simpa using hb
    have hle : s1.heap.objs.size ≤ b := by
      rcases e' with z | z
      · rw [z]; exact Nat.le_add_right _ _
      · rw [z]; exact Nat.le_refl _
    exact I1.fpOk hle (I1.hok.fresh hle)
theorem it_enumT {K : PySem.W.Frag} {L : Led} {H : Hp} {a : Addr} {vs : List V} {as : List D} (h : SqT' L K H a vs) (r : RpAll L K H vs as) : ItD K L H (IteT K a) (enumD 0 as) := fun L' H' g j i => by
  have e1 := (g.sqT h).sq
  refine ⟨fun d hd => ?_, fun hi => ⟨vs, e1, by rw [enumD_len] at hi; rw [r.length]; omega⟩⟩
  obtain ⟨x, q1, rfl⟩ := enumD_get as 0 i d hd
  obtain ⟨vx, hx, rx⟩ := (r.go g).get q1
  refine ⟨⟨vs, vx, e1, hx⟩, fun z H'' yl => ?_⟩
  obtain ⟨T, x', rfl, nT, rfl, f1⟩ := yl
  have k1 := f1 vs e1
  rw [hx] at k1
  cases k1
  have s := same_new nT (.tup [.int ((i : Nat) : Int), vx])
  refine ⟨s, .tup (.inl ⟨j.notIn nT, .inl upd_same⟩) (.cons ?_ (.cons (rx.go (Go.same s)) .nil))⟩
  rw [Nat.zero_add]
  exact .int _
section
variable {X : Cx} {Wx : WX} {e : Expr} {es : List Expr} {de do' df : DE} {dl : DA} {pos : Pos} {ta : TA} {p : Pos}
def diEnumT (dl : DA) : DI := fun env L k x => dl env L (fun ds L1 => match ds with
  | [.tup as] => k (enumD 0 as) L1
  | _ => False) x
theorem i_enumT {p tpos : Pos} {elts : List Expr} {kk : Nat} (hg : Gl X "enumerate") (hm : X.mg "enumerate" = none) (ha : QA X Wx [e] dl) (hs : starEach [e] X.env = [(false, eval e X.env)] := by rfl) : QI X Wx (.Tuple elts kk tpos) (.Call (.Name "enumerate" p) [e] [] pos) (diEnumT dl) := by
  obtain ⟨ta, pa, sa⟩ := ha.ex
  refine ⟨_, pi_enumT hg hm pa hs, fun σ H env L k x R st h hk hx => ?_⟩
  refine sa σ H env L _ x _ st h (fun ds L1 vs H1 h1 g1 j1 r1 => ?_) hx
  split at h1
  · cases r1 with
    | cons r1 r2 =>
      cases r2
      cases r1 with
      | tup s1 q1 => exact ⟨_, _, rfl, s1.sq, hk _ L1 _ H1 h1 g1 j1 (it_enumT s1 q1)⟩
  · exact h1.elim
end
end DL
namespace DH
open PySem PySem.Spec PyProof.Rows L2 DL
def fnWa (K : Frag) (a : Addr) : He.FnW := match K.lookup a with
  | some ⟨_, _, .func fd, _⟩ => some (fd.name, fd.qualname, fd.params, fd.body, fd.scope, fd.globals, fd.closure, fd.builtins)
  | _ => none
def fnPl (K : Frag) (a : Addr) (q : Str) : Bool := match K.lookup a with
  | some ⟨_, _, .func fd, _⟩ => PySem.W.codeIn K fd.code q && decide (fd.defaults = .none)
  | _ => false
theorem fnWa_ok {K : Frag} {a : Addr} {name qual : Str} {params : Arguments} {body : List Stmt} {scope : Scope} (e : fnWa K a = some (name, qual, params, .stmts body, scope, mainGlobals, [], builtinsNs)) (c : fnPl K a qual = true) :
    ∃ oc od osl kV doc pm an cdv ct, K.lookup a = some ⟨oc, od, .func (PySem.W.fnOf name qual params body scope .none kV doc pm an cdv ct), osl⟩ ∧ PySem.W.codeIn K cdv qual = true := by
  unfold fnWa at e
  unfold fnPl at c
  cases q : K.lookup a with
  | none => rw [q] at c; cases c
  | some o =>
    obtain ⟨oc, od, dt, osl⟩ := o
    rw [q] at c e
    cases dt with
    | func fd =>
      obtain ⟨n1, n2, n3, n4, n5, n6, n7, n8, n9, n10, n11, n12, n13, n14, n15⟩ := fd
      have e2 : (some (n1, n2, n3, n4, n5, n6, n7, n15) : He.FnW) = some (name, qual, params, .stmts body, scope, mainGlobals, [], builtinsNs) := e
      simp only [Option.some.injEq, Prod.mk.injEq] at e2
      obtain ⟨h1, h2, h3, h4, h5, h6, h7, h8⟩ := e2
      subst h1 h2 h3 h4 h5 h6 h7 h8
      obtain ⟨k1, k2⟩ := He.ba c
      have k2 := of_decide_eq_true k2
      subst k2
      exact ⟨oc, od, osl, n9, n10, n11, n12, n13, n14, rfl, k1⟩
    | _ => cases c
def proG (K : Frag) (p : Addr) : Addr := match PySem.W.recIn K p "property" with
  | some (.ref g :: _) => g
  | _ => 0
def proB (K : Frag) (C : Addr) (f : Str) : Bool := decide (PySem.W.findIn K (.ref C) f = some (some (.ref (He.ma K C f)))) && (decide (PySem.W.specialIn K (.ref (He.ma K C f)) "__get__" = some (some (.builtin "property.__get__"))) && (decide (PySem.W.takesIn K (.ref (He.ma K C f)) = some true) && (match PySem.W.recIn K (He.ma K C f) "property" with
  | some (.ref _ :: _) => true
  | _ => false)))
theorem proB_ok {K : Frag} {C : Addr} {f : Str} (h : proB K C f = true) : PropOf K C f (He.ma K C f) (proG K (He.ma K C f)) := by
  obtain ⟨h1, h⟩ := He.ba h
  obtain ⟨h2, h⟩ := He.ba h
  obtain ⟨h3, h⟩ := He.ba h
  refine ⟨of_decide_eq_true h1, of_decide_eq_true h2, of_decide_eq_true h3, ?_⟩
  unfold proG
  cases e : PySem.W.recIn K (He.ma K C f) "property" with
  | none => rw [e] at h; cases h
  | some l =>
    rw [e] at h
    cases l with
    | nil => cases h
    | cons v r =>
      cases v with
      | ref g => exact ⟨r, rfl⟩
      | _ => cases h
theorem law1 {l : PySem.W.OpenLaw} {w : World} {K : Frag} {CX : CXT} {k n : Nat} {x : Str} {mg : Str → Option Value} {fa c Pt : Addr} {h : Heap} {lawS : Addr → DSp} {q : Str}
    (h1 : PySem.W.CodeHd h c Pt) (h2 : h.get? Pt = some { cls := .none, data := .fields #[] }) (hn : K.lookup Pt = none)
    (A : ∃ fd : FuncData, (∀ (s : Shared) (v : Value), BindsTo s fd ⟨[v], []⟩ [(x, v)]) ∧ ∀ base : Heap, K.In base → base.Ns mainGlobals mg → LamX.TabB base mg c Pt → FnOk l.prog w K mg base CX k fa fd [x] (spD K (lawS Pt)))
    (hL : ∀ (ns : List Int), ns.length ≤ n → lawS Pt [.ro (ns.map .int)] [(Pt, .tab q)] (fun d _ => d = .bl true) fun _ _ => False) : LamX.LawAtS l w K CX k n x mg fa h := by
  obtain ⟨fd, hb, hF⟩ := A
  refine ⟨fd, [(c, Pt)], spD K (lawS Pt), fun p hp => ?_, fun p hp => ?_, fun p hp => ?_, hb, fun H a ns hlen _ hT hS => ?_, fun base b1 b2 b3 => hF base b1 b2 (b3 (c, Pt) (by simp))⟩
  · have e : p = (c, Pt) := by simpa using hp
    subst e; exact h2
  · have e : p = (c, Pt) := by simpa using hp
    subst e; exact hn
  · have e : p = (c, Pt) := by simpa using hp
    subst e; exact h1
  · have hP : H Pt = some (.tbl #[]) := hT (c, Pt) (by simp)
    have nP : ∀ b : Addr, inL [(Pt, D.tab q)] b → b = Pt := fun b hb => by simpa [inL] using hb
    refine ⟨[.ro (ns.map .int)], [(Pt, .tab q)], fun d _ => d = .bl true, fun _ _ => False, ⟨by simp, fun a d m => ?_⟩, .cons (.ro ?_ (RpAll.ints ns)) .nil, hL ns hlen, fun d L' v H' hd _ _ r => ?_, fun n L' a H' h => h.elim⟩
    · have e : (a, d) = (Pt, .tab q) := by simpa using m
      cases e
      exact ⟨#[], hP, True.intro, fun pos cv hc => by
        have z : codeAmong pos [] = some cv := hc
        simp [codeAmong] at z⟩
    · rcases hS with hs | hs
      · refine .inl ⟨fun hi => ?_, hs⟩
        have e := nP a hi
        subst e
        rcases hs with hs | ⟨o, hs⟩
        · rw [hP] at hs; cases hs
        · rw [hP] at hs; cases hs
      · exact .inr hs
    · subst hd
      cases r
      rfl
end DH
namespace DH
open PySem PySem.Spec PyProof.Rows L2 DL
def hookM (as : List Addr) (fn : List He.DefD) (ts : List He.Tab) (tf : List He.Defn) (ex : Frag → Bool) (ga : List (Frag → Addr)) (gv : List He.FnW) : PySem.W.Hook where
  α := He.AlX × List He.FnW
  obs := fun s => (obsL as fn ts tf ex s.heap.get?, ga.map fun a => fnWa (He.frT s.heap.get? as) (a (He.frT s.heap.get? as)))
  val := fun w => (He.valX fn ts w, gv)
  says := fun w h => ∃ K : Frag, K.In h ∧ He.SaysX [] fn ts tf ex w h K ∧ (ga.map fun a => fnWa K (a K)) = gv
  of := fun _ _ e => ⟨_, He.frT_in, saysL (congrArg (fun z : He.AlX × List He.FnW => z.1) e), congrArg (fun z : He.AlX × List He.FnW => z.2) e⟩
  keeps := fun _ _ _ ⟨K, hK, c, e⟩ k => ⟨K, PySem.W.Frag.In.keeps hK k, ⟨c.t, c.more, c.hd, c.out, fun p hp => k _ _ (c.empty p hp)⟩, e⟩
def obsM (as : List Addr) (fn : List He.DefD) (ts : List He.Tab) (tf : List He.Defn) (ex : Frag → Bool) (ga : List (Frag → Addr)) (g : Addr → Option Obj) : He.AlX × List He.FnW := (obsL as fn ts tf ex g, ga.map fun a => fnWa (He.frT g as) (a (He.frT g as)))
theorem obsM_eq {as : List Addr} {fn : List He.DefD} {ts : List He.Tab} {tf : List He.Defn} {ex : Frag → Bool} {ga : List (Frag → Addr)} {gv : List He.FnW} {g : Addr → Option Obj} {s : Shared} (h : ∀ a, g a = s.heap.get? a) : obsM as fn ts tf ex ga g = (hookM as fn ts tf ex ga gv).obs s := by
  have e : g = s.heap.get? := funext h
  rw [e] <;> rfl
theorem eg_at {K : Frag} {ga : List (Frag → Addr)} {gv : List He.FnW} (e : (ga.map fun a => fnWa K (a K)) = gv) (i : Nat) {a : Frag → Addr} {v : He.FnW} (h1 : ga[i]? = some a) (h2 : gv[i]? = some v) : fnWa K (a K) = v := by
  have q := congrArg (fun l => l[i]?) e
  simp only [List.getElem?_map, h1, h2, Option.map_some] at q
  exact Option.some.inj q
end DH
namespace DL
open PySem PySem.Spec PyProof.Rows L2
section
variable {X : Cx} {Wx : WX} {a b c e o f : Expr} {da db dc de do' df : DE} {dt : DT} {pos : Pos}
theorem nox_cx {P : Program} {w : World} {Y : Cx} : Passes (L2.CX P w) Y (fun _ _ _ => False) := fun _ _ _ _ _ _ _ z => by
  obtain ⟨_, _, _, _, _, _, _, _, _, _, _, _, z⟩ := z
  exact z.elim
theorem run_in1 {CX : CXT} {k : Nat} {f : Addr} {fd : FuncData} {ps : List Str} {sp : Sp} {E : XK} {E' : Value → Shared → Prop} {pins : List (Addr × Obj)} {σ : L2.St} {H : Hp} {s : Shared} {Q : VK} {us : List Value} {vs : List V}
    (F : FnOk X.prog X.w X.K X.mg X.base CX k f fd ps sp) (hr : Room (k + 1) X.A) (hb : Binds X.K fd ps []) (hx : Passes CX X.nox E) (I : Inv X pins σ H s) (r : Vals vs us) (h : sp vs H Q E) :
    wpAny (model X.prog X.w) X.A.in1 (call (.ref f) us) (EP X pins σ Q) E' s := by
  have hl : us.length = ps.length := by rw [← r.length]; exact F.len _ _ _ _ h
  have b := hb s us I.kIn (by rw [List.append_nil]; exact hl)
  rw [List.append_nil] at b
  refine wpAny_call (codeAny_mono (F.run X.A.in1 X.stack s H ⟨us, []⟩ us vs Q E hr.in1 I.env0.in1 b r h) fun r s' hq => ?_)
  cases r with
  | error er => exact False.elim (hx pins σ H s er s' (I.wish _) hq)
  | ok fl =>
    cases fl with
    | ret u => exact I.after hq
    | next => exact False.elim hq
    | brk => exact False.elim hq
    | cont => exact False.elim hq
/-- what the object's method promises, seen from the call -/
def rOwn1 (K : PySem.W.Frag) (C : Addr) (g : DSp) (back : V → Prop) : List V → Hp → VK → Prop := fun vs H Q => ∃ a dx fs, vs = [.ref a] ∧ H a = some (.ins C dx fs) ∧ spD K g [.ref a] H (fun v H' => back v ∧ Q v H') (fun _ _ _ => False)
theorem call_reprO {k : Nat} {f : Addr} {fd : FuncData} {C : Addr} {g : DSp} (F : FnOk X.prog X.w X.K X.mg X.base (L2.CX X.prog X.w) k f fd ["self"] (spD X.K g)) (hM : Meth X.K C "__repr__" f) (hr : Room (k + 1) X.A) (hu : X.A.units + 64 < cLine) (hb : Binds X.K fd ["self"] []) :
    CallR X (.builtin "repr") (rOwn1 X.K C g fun v => ∃ z : Str, v = .str z) := fun pins s σ H xs us Q I rv ⟨a, dx, fs, ea, hq, h⟩ => by
  subst ea
  obtain ⟨u, eu, ru⟩ := vals1 rv
  subst eu
  cases ru
  obtain ⟨m, fr⟩ := I.fr
  obtain ⟨mA, O, _⟩ := ins_get I.hok hq
  obtain ⟨od, J, _⟩ := O.look
  refine PySem.W.repr_K (show X.A.units + 1 < cLine by omega) fr I.ok.mod.kin J hM.at_ hM.fn (wpAny_mono (run_in1 (us := [.ref a]) (vs := [.ref a]) F hr hb nox_cx I (.cons rfl .nil) h) (fun u s' z => ?_) fun _ _ z => z)
  obtain ⟨v, H', I', rv', ⟨z, ev⟩, q⟩ := z
  subst ev
  obtain ⟨t, rfl⟩ := (show ∃ t, u = Value.str z t from rv')
  exact ⟨.str z, H', I', ⟨_, rfl⟩, q⟩
/-- such a method by its class -/
def dOwn1 (C : Addr) (g : DSp) (back : D → Prop) (da : DE) : DE := fun env L k x => da env L (fun a L1 => match con L1 a with
  | .obj C' ns vs => C' = C ∧ g [a] L1 (fun d L2 => back d ∧ k d L2) (fun _ _ => False)
  | _ => False) x
theorem sim_own1 {C : Addr} {g : DSp} {bv : V → Prop} {bd : D → Prop} {te : TE} {ta : TA} (hbk : ∀ L K H v d, Rp L K H v d → bd d → bv v) (hA : ∀ σ H Q, te σ H (fun v H1 => Q [v] H1) → ta σ H Q) (se : SimE X.K Wx te de) : SimE X.K Wx (tCB (rOwn1 X.K C g bv) ta) (dOwn1 C g bd de) := by
  intro σ H env L k x Q st h hk hx
  refine hA σ H _ (se σ H env L _ x _ st h (fun a L1 va H1 h1 g1 j1 r1 => ?_) hx)
  split at h1
  · rename_i C' ns ds hc
    obtain ⟨rfl, h1⟩ := h1
    obtain ⟨q, dx, vs, rfl, hq, hl, rv⟩ := con_obj j1 r1 hc
    exact ⟨q, dx, _, rfl, hq, [a], L1, _, _, j1, .cons r1 .nil, h1, fun d L2 v H2 h2 g2 j2 r2 => ⟨hbk _ _ _ _ _ r2 h2.1, hk d L2 v H2 h2.2 (g1.trans g2) j2 r2⟩, fun n L' a H' z _ _ _ => z⟩
  · exact h1.elim
theorem q_reprO {n k : Nat} {C : Addr} {g : DSp} {p : Pos} (F : MCal X.prog X.w X.K X.mg X.base n C "__repr__" ["self"] [] g) (hn : n + 1 ≤ k) (hr : Room k X.A) (hu : X.A.units + 64 < cLine) (hg : Gl X "repr") (hm : X.mg "repr" = none) (he : QE X Wx e de)
    (hs : starEach (e :: []) X.env = (false, eval e X.env) :: starEach [] X.env := by rfl) (hpl : (backTo pos (starEach [] X.env)).any (·.1) = false := by rfl) : QE X Wx (.Call (.Name "repr" p) [e] [] pos) (dOwn1 C g (fun d => ∃ z : Str, d = .str z) de) := by
  obtain ⟨f, fd, us, dvs, F, hC, hM, hb, hd, hdd⟩ := F.ex
  obtain rfl : dvs = [] := by cases hdd [] (fun _ => none); rfl
  cases hd
  obtain ⟨te, pe, se⟩ := he.ex
  exact ⟨_, pe_callB (call_reprO F hM (hr.mono hn) hu hb) hg hm (by rfl) (pa_cons pe pa_nil hs) (by decide) (by decide) hs hpl, sim_own1 (fun L K H v d r ⟨n, e⟩ => by subst e; cases r; exact ⟨n, rfl⟩) (fun σ H Q h => h) se⟩
/-- list(x), kept on the ledger -/
def dListM (dl : DA) : DE := fun env L k x => dl env L (fun ds L1 => match ds with
  | [d] => match seqs (con L1 d) with
    | some xs => ∀ p, ¬ inL L1 p → k (.ptr p) ((p, .lst xs) :: L1)
    | none => False
  | _ => False) x
theorem q_listM {dl : DA} {p : Pos} (hg : Gl X "list") (hm : X.mg "list" = none) (ha : QA X Wx (e :: []) dl)
    (hs : starEach (e :: []) X.env = (false, eval e X.env) :: starEach [] X.env := by rfl) (hpl : (backTo pos (starEach [] X.env)).any (·.1) = false := by rfl) : QE X Wx (.Call (.Name "list" p) [e] [] pos) (dListM dl) := by
  obtain ⟨ta, pa, sa⟩ := ha.ex
  refine ⟨_, pe_callTy call_list_of hg hm (by rfl) pa (by decide) (by decide) hs hpl, fun σ H env L k x Q st h hk hx => ?_⟩
  refine sa σ H env L _ x _ st h (fun ds L1 vs H1 h1 g1 j1 r1 => ?_) hx
  split at h1
  · cases r1 with
    | cons r1 r2 =>
      cases r2
      split at h1
      · rename_i xs hd
        obtain ⟨a, vs, rfl, hs, rv⟩ := con_seq j1 r1 hd
        refine ⟨a, vs, rfl, hs, fun l hl => ?_⟩
        have gg : Go L1 ((l, .lst xs) :: L1) H1 (upd H1 l (.lst vs)) := .mk' fun a u n hh => by
          have ne : a ≠ l := ne_of_none hh hl
          exact ⟨fun m => (List.mem_cons.mp m).elim ne n, by rw [upd_ne ne]; exact hh⟩
        obtain ⟨j2, g2⟩ := j1.push (d := .lst xs) hl (o := .lst vs) ⟨vs, upd_same, rv.go gg⟩
        exact hk _ _ _ _ (h1 l (j1.notIn hl)) (g1.trans g2) j2 (.ptr l)
      · exact h1.elim
  · exact h1.elim
end
end DL
namespace DL
open PySem PySem.Spec PyProof.Rows L2 RZ
section
variable {X : Cx} {Wx : WX} {a b c e o f : Expr} {es : List Expr} {da db dc de do' df : DE} {dt : DT} {dl : DA} {pos apos : Pos}
@[irreducible] def lcDM (dg : DG) (dt : DT) (de : DE) (env0 : DEnv) (p : Addr) (k : DK) : List D → List D → Led → Prop
  | [], acc, L => L.lookup p = some (.lst acc) ∧ k (.ptr p) L
  | d :: ds, acc, L => dg d env0 L fun env1 => dt env1 L (fun b L2 => match b with
    | true => de env1 L2 (fun y L3 => L3.lookup p = some (.lst acc) ∧ acc.length < sizeLine ∧ lcDM dg dt de env0 p k ds (acc ++ [y]) (setL L3 p (.lst (acc ++ [y])))) (fun _ _ _ => False)
    | false => L2.lookup p = some (.lst acc) ∧ lcDM dg dt de env0 p k ds acc L2) (fun _ _ _ => False)
theorem lcDM_nil {dg : DG} {dt : DT} {de : DE} {env0 : DEnv} {p : Addr} {k : DK} {acc : List D} {L : Led} : lcDM dg dt de env0 p k [] acc L = (L.lookup p = some (.lst acc) ∧ k (.ptr p) L) := by with_unfolding_all rfl
theorem lcDM_cons {dg : DG} {dt : DT} {de : DE} {env0 : DEnv} {p : Addr} {k : DK} {d : D} {ds acc : List D} {L : Led} : lcDM dg dt de env0 p k (d :: ds) acc L = dg d env0 L fun env1 => dt env1 L (fun b L2 => match b with
    | true => de env1 L2 (fun y L3 => L3.lookup p = some (.lst acc) ∧ acc.length < sizeLine ∧ lcDM dg dt de env0 p k ds (acc ++ [y]) (setL L3 p (.lst (acc ++ [y])))) (fun _ _ _ => False)
    | false => L2.lookup p = some (.lst acc) ∧ lcDM dg dt de env0 p k ds acc L2) (fun _ _ _ => False) := by with_unfolding_all rfl
def dLcM (di : DI) (dg : DG) (dt : DT) (de : DE) (vs : List Nat) : DE := fun env L k x => di env L (fun ds L1 => ∀ p, ¬ inL L1 p → lcDM dg dt de (wipeD env vs) p k ds [] ((p, .lst []) :: L1)) x
theorem look_set {M : Led} {p : Addr} {d : D} : inL M p → List.lookup p (setL M p d) = some d := by
  induction M with
  | nil => intro h; simp [inL] at h
  | cons q M ih =>
    intro h
    obtain ⟨z1, z2⟩ := q
    by_cases hq : z1 = p
    · show List.lookup p ((if z1 = p then (p, d) else (z1, z2)) :: setL M p _) = _
      rw [if_pos hq]
      exact lookup_top
    · rw [setL_ne hq, lookup_ne (Ne.symm hq)]
      exact ih ((inL_cons.mp h).resolve_left (Ne.symm hq))
theorem wipe_two (ws : List Nat) : ∀ (us : List Nat), (∀ i ∈ us, i ∈ ws) → ∀ σ : L2.St, wipe (wipe σ us) ws = wipe σ ws := by
  intro us
  induction us with
  | nil => intro _ σ; rfl
  | cons u us ih =>
    intro hu σ
    show wipe ((wipe σ us).set u none) ws = _
    rw [wipe_set (hu u List.mem_cons_self), ih (fun i hi => hu i (List.mem_cons_of_mem _ hi))]
theorem sim_lcM {K : PySem.W.Frag} {wi : TI} {di : DI} {dg : DG} {sl vs : List Nat} (hsl : ∀ i ∈ sl, i ∈ vs)
    (si : ∀ σ H env L k x R, StL K σ H env L → di env L k x → (∀ ds L' J H', k ds L' → Go L L' H H' → JL K L' H' → ItD K L' H' J ds → R J H') → XOk K Wx L H x → wi σ H R) :
    SimE K Wx (tLc wi (tgOf K sl dg) (ttOf K Wx0 dt) (teOf K Wx0 de) vs) (dLcM di dg dt de vs) := by
  intro σ H env L k x Q st h hk hx
  refine si σ H env L _ x _ st h (fun ds L1 J H1 h1 g1 j1 it => ?_) hx
  intro p hp
  have s0 := same_new hp (.lst [])
  obtain ⟨j2, g2⟩ := j1.push (d := .lst []) hp (o := .lst []) ⟨[], upd_same, .nil⟩
  refine ⟨fun i m H2 => m = ds.length - i ∧ i ≤ ds.length ∧ ∃ acc L2, StL K (wipe σ vs) H2 (wipeD env vs) L2 ∧ Go L1 L2 H1 H2 ∧ L2.lookup p = some (.lst acc) ∧ lcDM dg dt de (wipeD env vs) p k (ds.drop i) acc L2, ⟨ds.length, by omega, by omega, [], _, ⟨((st.go g1 j1).go g2 j2).1.wipes vs, j2⟩, g2, lookup_top, h1 p (j1.notIn hp)⟩, ?_⟩
  rintro i m H2 ⟨rfl, hi, acc, L2, st2, g3, hl, h2⟩
  obtain ⟨i1, i2⟩ := it L2 H2 g3 st2.2 i
  by_cases hlt : i < ds.length
  · have e : ds[i]? = some ds[i] := List.getElem?_eq_getElem hlt
    obtain ⟨go, yl⟩ := i1 _ e
    rw [List.drop_eq_getElem_cons hlt, lcDM_cons] at h2
    refine .inr ⟨go, fun H' => ∃ acc L2, StL K (wipe σ vs) H' (wipeD env vs) L2 ∧ Go L1 L2 H1 H' ∧ L2.lookup p = some (.lst acc) ∧ lcDM dg dt de (wipeD env vs) p k (ds.drop (i + 1)) acc L2, fun H' n => ⟨ds.length - (i + 1), by omega, rfl, hlt, n⟩, fun x H' y => ?_⟩
    obtain ⟨s, rx⟩ := yl x H' y
    have g4 : Go L2 L2 H2 H' := Go.same s
    have st3 := st2.go g4 (st2.2.same s)
    refine ⟨_, _, L2, _, st3, rx, h2, fun σ3 env3 h3 st4 on => ⟨?_, ?_⟩⟩
    · rw [on vs hsl]
      exact wipe_two vs vs (fun _ h => h) σ
    · refine ⟨env3, L2, _, _, st4, h3, fun b L5 H5 h5 g5 j5 => ?_, fun _ _ _ _ _ _ q => q.elim⟩
      have gA : Go L1 L5 H1 H5 := (g3.trans g4).trans g5
      cases b with
      | false => exact iteF ⟨acc, L5, ⟨(st3.1.go g5), j5⟩, gA, h5.1, h5.2⟩
      | true =>
        refine iteT ⟨env3, L5, _, _, st4.go g5 j5, h5, fun y L6 vy H6 h6 g6 j6 r6 => ?_, fun _ _ _ _ _ _ q => q.elim⟩
        obtain ⟨q1, q2, q3⟩ := h6
        obtain ⟨ws, e1, rv⟩ := j6.look q1
        have hp6 := inL_of_lookup q1
        refine ⟨ws, e1, by rw [rv.length]; exact q2, acc ++ [y], _, ?_, ?_, look_set hp6, q3⟩
        · have g7 : Go L6 (setL L6 p (.lst (acc ++ [y]))) H6 (upd H6 p (.lst (ws ++ [vy]))) := go_set hp6
          have j7 : JL K (setL L6 p (.lst (acc ++ [y]))) (upd H6 p (.lst (ws ++ [vy]))) := j6.put hp6 ⟨_, upd_same, (rv.append (.cons r6 .nil)).go g7⟩
          exact ⟨((st3.1.go g5).go g6).go g7, j7⟩
        · exact (gA.trans g6).trans (go_set hp6)
  · have e : i = ds.length := by omega
    subst e
    rw [List.drop_length, lcDM_nil] at h2
    exact .inl ⟨i2 (Nat.le_refl _), hk _ _ _ H2 h2.2 (g1.trans g3) st2.2 (.ptr p)⟩
theorem q_lcM {elt tg iter : Expr} {ifs : List Expr} {scope : Scope} {own : List (Str × Nat)} {di : DI} {dg : DG} {sl : List Nat} (hc : X.calm = true) (hN : X.N.Nodup) (hi : QI X Wx tg iter di) (ok : BlkOk X.N X.env.scope scope own)
    (hg : ∀ (s : Shared) (H : Hp) (C : Addr) (cl : List (Str × Addr)) (fp : List Addr), QG (X.blk s H scope (compEnvC scope cl C X.env) fp) tg sl dg) (ht : ∀ (s : Shared) (H : Hp) (C : Addr) (cl : List (Str × Addr)) (fp : List Addr), QTs (X.blk s H scope (compEnvC scope cl C X.env) fp) Wx0 ifs dt)
    (he : ∀ (s : Shared) (H : Hp) (C : Addr) (cl : List (Str × Addr)) (fp : List Addr), QE (X.blk s H scope (compEnvC scope cl C X.env) fp) Wx0 elt de) (hsl : ∀ i ∈ sl, i ∈ own.map (·.2) := by decide) (hs : ∀ x, foldedSetIterable iter X.env x = pure x := by intro _; rfl) :
    QE X Wx (.ListComp elt [⟨tg, iter, ifs, 0⟩] scope pos) (dLcM di dg dt de (own.map (·.2))) := by
  obtain ⟨wi, pi, si⟩ := hi.ex
  exact ⟨_, pe_lc hc hN pi ok (fun s H C cl fp => (hg s H C cl fp).pg) (fun s H C cl fp => (ht s H C cl fp).pt) (fun s H C cl fp => (he s H C cl fp).pe) hs, sim_lcM hsl si⟩
theorem op_eqO {k : Nat} {f : Addr} {fd : FuncData} {C : Addr} {g : DSp} (F : FnOk X.prog X.w X.K X.mg X.base (L2.CX X.prog X.w) k f fd ["self", "other"] (spD X.K g)) (hM : Meth X.K C "__eq__" f) (hr : Room k X.A) (hb : Binds X.K fd ["self", "other"] []) :
    OpR X (compareOp .Eq) (fun x y H Q => ∃ a dx fs t, (x = .ref a ∧ H a = some (.ins C dx fs)) ∧ (TyX X.K H y t ∧ PySem.W.notFirst X.K C t = true) ∧ spD X.K g [.ref a, y] H (fun v H' => ∃ b : Bool, v = .bl b ∧ Q (.bl b) H') (fun _ _ _ => False)) := fun pins s σ H x y v u Q I rx ry ⟨a, dx, fs, t, ⟨ea, hq⟩, ⟨ty, nf⟩, h⟩ => by
  subst ea
  cases rx
  obtain ⟨m, fr⟩ := I.fr
  obtain ⟨mA, O, _⟩ := ins_get I.hok hq
  obtain ⟨od, J, _⟩ := O.look
  obtain ⟨P, Z, p, _⟩ := kit_of I ry ty
  have hx : PassesAt (L2.CX X.prog X.w) X σ (fun _ _ _ => False) := fun _ _ _ _ _ _ z => by
    obtain ⟨_, _, _, _, _, _, _, _, _, _, _, _, z⟩ := z
    exact z.elim
  show wpAny (model X.prog X.w) X.A (richCompare .Eq (.ref a) u) (EP X pins σ Q) X.xe s
  refine PySem.W.cmp_K (op := .Eq) hr.units0 fr I.ok.mod.kin J (Z.ty _ _ I.kIn p) nf hM.at_ hM.fn (wpAny_mono (run_fnS (us := [.ref a, u]) (vs := [.ref a, y]) (E := fun _ => fun _ _ _ => False) F hr hb hx I (.cons rfl (.cons ry .nil)) h) (fun u s' z => ?_) fun _ _ z => z)
  obtain ⟨v, H', I', rv', b, ev, q⟩ := z
  subst ev
  obtain rfl : u = Value.bool b := rv'
  exact ⟨.bl b, H', I', rfl, q⟩
def tyOk (K : PySem.W.Frag) (C : Addr) (L : Led) (b : D) : Prop := match con L b with
  | .obj C' _ _ => InsC K C' ∧ PySem.W.notFirst K C (.ref C') = true
  | c => match tyD c with
    | some t => PySem.W.notFirst K C (.type t.nm) = true
    | none => False
def dEqO (K : PySem.W.Frag) (C : Addr) (g : DSp) (da db : DE) : DE := fun env L k x => da env L (fun a L1 => db env L1 (fun b L2 => match con L2 a with
  | .obj C' _ _ => C' = C ∧ tyOk K C L2 b ∧ g [a, b] L2 (fun d L3 => ∃ r : Bool, d = .bl r ∧ k (.bl r) L3) (fun _ _ => False)
  | _ => False) x) x
theorem q_eqO {K : PySem.W.Frag} {n k : Nat} {C : Addr} {g : DSp} (hK : X.K = K) (F : MCal X.prog X.w X.K X.mg X.base n C "__eq__" ["self", "other"] [] g) (hn : n ≤ k) (hr : Room k X.A) (ha : QE X Wx a da) (hb : QE X Wx b db) (hmk : behindInMarks .Eq b = false := by rfl) : QE X Wx (.Compare a [.Eq] [b] pos) (dEqO K C g da db) := by
  subst hK
  obtain ⟨f, fd, us, dvs, F, hC, hM, hbi, hd, hdd⟩ := F.ex
  obtain rfl : dvs = [] := by cases hdd [] (fun _ => none); rfl
  cases hd
  obtain ⟨ta, pa, sa⟩ := ha.ex
  obtain ⟨tb, pb, sb⟩ := hb.ex
  refine ⟨_, pe_cmpR (op_eqO F hM (hr.mono hn) hbi) pa pb hmk, fun σ H env L k x Q st h hk hx => ?_⟩
  refine sa σ H env L _ x _ st h (fun a L1 va H1 h1 g1 j1 r1 => ?_) hx
  refine sb σ H1 env L1 _ x _ (st.go g1 j1) h1 (fun o L2 vo H2 h2 g2 j2 r2 => ?_) (hx.go g1)
  split at h2
  · rename_i C' ns ds hc
    obtain ⟨rfl, ht, h2⟩ := h2
    obtain ⟨q, dx, vs, rfl, hq, hl, rv⟩ := con_obj j2 (r1.go g2) hc
    have hty : ∃ t, TyX X.K H2 vo t ∧ PySem.W.notFirst X.K C' t = true := by
      unfold tyOk at ht
      split at ht
      · rename_i hc2
        exact ⟨_, tyX_obj j2 r2 hc2 ht.1, ht.2⟩
      · split at ht
        · rename_i t e
          exact ⟨_, tyX_con j2 r2 e, ht⟩
        · exact ht.elim
    obtain ⟨t, h3, h4⟩ := hty
    exact ⟨q, dx, _, t, ⟨rfl, hq⟩, ⟨h3, h4⟩, [a, o], L2, _, _, j2, .cons (r1.go g2) (.cons r2 .nil), h2, fun d L3 v H3 h3 g3 j3 r3 => by
      obtain ⟨b, e, h3⟩ := h3
      subst e
      cases r3
      exact ⟨b, rfl, hk _ L3 _ H3 h3 ((g1.trans g2).trans g3) j3 (.bl b)⟩, fun n L' a H' z _ _ _ => z⟩
  · exact h2.elim
theorem kit_self {K : PySem.W.Frag} {C : Addr} : PySem.W.kitOne K (.ref C) (.ref C) = some true := by
  unfold PySem.W.kitOne
  rw [if_pos (by simp)]
theorem nf_self {K : PySem.W.Frag} {C : Addr} : PySem.W.notFirst K C (.ref C) = true := by
  unfold PySem.W.notFirst
  simp
end
end DL
namespace DL
open PySem PySem.Spec PyProof.Rows L2
section
variable {X : Cx} {Wx : WX} {a b c e o f : Expr} {es : List Expr} {da db' dc de do' df : DE} {pos apos : Pos}
/-- behind the statement the slot's list leaves the ledger -/
def dSealA (i : Nat) (ds : DS) : DS := fun D env L => ds { D with nx := fun env' L' => match env'[i]? with
  | some (some (.ptr p)) => match L'.lookup p with
    | some (.lst xs) => D.nx (env'.set i (some (.lst xs))) (remL L' p)
    | _ => False
  | _ => False } env L
theorem s_sealA (i : Nat) {st : Stmt} {ds : DS} (h : QS X Wx st ds) : QS X Wx st (dSealA i ds) := by
  obtain ⟨t, pt, s1⟩ := h.ex
  refine ⟨t, pt, fun σ H env L D' D st h ok => ?_⟩
  refine s1 σ H env L _ _ st h ⟨fun env' L' σ' H' h' g' st' => ?_, ok.rt, ok.ex, ok.bk, ok.ct⟩
  have h' : (match env'[i]? with
    | some (some (.ptr p)) => match L'.lookup p with
      | some (.lst xs) => D'.nx (env'.set i (some (.lst xs))) (remL L' p)
      | _ => False
    | _ => False) := h'
  split at h'
  · rename_i p hd
    split at h'
    · rename_i xs hl
      obtain ⟨v, e1, r⟩ := st'.1.get hd
      cases r
      obtain ⟨vs, e2, rv⟩ := st'.2.look hl
      have g2 : Go L' (remL L' p) H' H' := go_rem
      have s2 := st'.1.go g2
      have r2 : Rp (remL L' p) X.K H' (.ref p) (.lst xs) := .lst (fun m => (inL_remL.mp m).2 rfl) e2 (rv.go go_rem)
      have s3 := s2.set r2 i
      have e3 : σ'.set i (some (V.ref p)) = σ' := by
        apply List.ext_getElem?
        intro j
        rw [List.getElem?_set]
        by_cases hj : i = j
        · subst hj
          rw [if_pos rfl]
          rw [e1]
          have hlt : i < σ'.length := by
            rcases Nat.lt_or_ge i σ'.length with h | h
            · exact h
            · rw [List.getElem?_eq_none h] at e1; cases e1
          rw [if_pos hlt]
        · rw [if_neg hj]
      rw [e3] at s3
      exact ok.nx _ _ σ' H' h' (g'.trans g2) ⟨s3, st'.2.rem⟩
    · exact h'.elim
  · exact h'.elim
section
end
end
end DL
namespace DL
open PySem L2
def itemsD : D → Option (List D)
  | .lst xs => some xs
  | .str z => some (sgD z.cps.toList)
  | _ => none
def ofA : DSp := fun ds L k _ => ∃ (p : Addr) (b : Bag) (s : D) (xs : List D), ds = [.ptr p, s] ∧ itemsD s = some xs ∧ L.lookup p = some (bagC b) ∧ BagOk b ∧ 0 < xs.length ∧ xs.length < 1000 ∧ ∀ d b', d ∈ xs → BagOk b' → k d (setL L p (bagC b'))
mutual
def okW : D → Bool
  | .non => true | .bl _ => true | .int _ => true
  | .str z => decide (z.length ≤ 100000)
  | .lst xs => decide (xs.length < 100000) && okWs xs
  | .tup xs => decide (xs.length < 100000) && okWs xs
  | .ro _ => false | .dk _ _ => false | .dt _ _ => false | .obj _ _ _ => false | .exc _ _ _ => false | .fnv _ _ => false | .clo _ _ => false | .tab _ => false | .ptr _ => false | .ty _ => false | .kt _ => false
def okWs : List D → Bool
  | [] => true
  | d :: r => okW d && okWs r
end
theorem okW_T {d : D} (h : okW d = true) : okT d = true := by
  cases d <;> first | rfl | (simp [okW] at h; done)
theorem okW_tup {l : List D} (h : okW (.tup l) = true) : l.length < 100000 ∧ okWs l = true := by
  unfold okW at h
  rw [Bool.and_eq_true] at h
  exact ⟨of_decide_eq_true h.1, h.2⟩
theorem okWs_cons {d : D} {l : List D} (h : okWs (d :: l) = true) : okW d = true ∧ okWs l = true := by
  unfold okWs at h
  rw [Bool.and_eq_true] at h
  exact h
theorem okWs_mk {d : D} {l : List D} (h1 : okW d = true) (h2 : okWs l = true) : okWs (d :: l) = true := by
  unfold okWs
  rw [h1, h2]; rfl
theorem okWs_mem : ∀ {l : List D} {d : D}, okWs l = true → d ∈ l → okW d = true
  | [], _, _, h => by cases h
  | e :: r, d, h, hm => by
    rcases List.mem_cons.mp hm with q | q
    · subst q; exact (okWs_cons h).1
    · exact okWs_mem (okWs_cons h).2 q
theorem okWs_of : ∀ {l : List D}, (∀ d ∈ l, okW d = true) → okWs l = true
  | [], _ => by unfold okWs; rfl
  | e :: r, h => okWs_mk (h e List.mem_cons_self) (okWs_of fun d hd => h d (List.mem_cons_of_mem _ hd))
theorem okWs_append {l m : List D} (h1 : okWs l = true) (h2 : okWs m = true) : okWs (l ++ m) = true := okWs_of fun d hd => (List.mem_append.mp hd).elim (okWs_mem h1) (okWs_mem h2)
theorem okW_mk {l : List D} (h1 : l.length < 100000) (h2 : okWs l = true) : okW (.tup l) = true := by
  unfold okW
  rw [decide_eq_true h1, h2]; rfl
theorem inV_str (z : Str) : ∀ l : List Str, inV (.str z) (l.map V.str) = decide (z ∈ l)
  | [] => rfl
  | y :: r => by
    have ih := inV_str z r
    unfold inV at ih ⊢
    rw [List.map_cons, List.any_cons, ih]
    by_cases h : z = y
    · subst h
      have : eqV (.str z) (.str z) = true := by simp [eqV]
      rw [this, decide_eq_true List.mem_cons_self]; rfl
    · have : eqV (.str y) (.str z) = false := by simp [eqV]; exact fun e => h e.symm
      rw [this, Bool.false_or]
      exact decide_eq_decide.mpr ⟨fun q => List.mem_cons_of_mem _ q, fun q => (List.mem_cons.mp q).resolve_left h⟩
/-- a for by what is left of its items -/
theorem forD_rec {dg : DG} {db : DS} {En : DEnds} (I : List D → DEnv → Led → Prop) (step : ∀ (E' : DEnds) (d : D) (ds : List D) (env : DEnv) (L : Led), E'.rt = En.rt → E'.ex = En.ex → E'.bk = En.nx → E'.ct = E'.nx → I (d :: ds) env L → (∀ env' L', I ds env' L' → E'.nx env' L') → dg d env L fun env1 => db E' env1 L)
    (stop : ∀ env L, I [] env L → En.nx env L) : ∀ (ds : List D) (env : DEnv) (L : Led), I ds env L → forD dg db En ds env L
  | [], env, L, h => by rw [forD_nil]; exact stop env L h
  | d :: ds, env, L, h => by
    rw [forD_cons]
    exact step _ d ds env L rfl rfl rfl rfl h fun env' L' h' => forD_rec I step stop ds env' L' h'
def reserved : List Str := ["x", "y", "let", "if", "else", "end", "repeat", "stop"]
def letters : Str := "abcdefghijklmnopqrstuvwxyz"
def nameOk (z : Str) : Bool := decide (1 ≤ z.length) && (decide (z.length ≤ 6) && (!decide (z ∈ reserved) && z.cps.toList.all fun c => decide (c ∈ letters.cps.toList)))
def isNameD : D → Bool
  | .str z => nameOk z
  | _ => false
def numIn (lo hi : Int) : D → Bool
  | .int i => decide (lo ≤ i) && decide (i ≤ hi)
  | _ => false
def signsT : List (Str × D) := [("add", .str "+"), ("sub", .str "-"), ("mul", .str "*"), ("div", .str "/")]
def testsT : List (Str × D) := [("less", .str "<"), ("equal", .str "="), ("upto", .str "<=")]
def isTestD : D → Bool
  | .str z => (testsT.lookup z).isSome
  | _ => false
def exprOk : Nat → D → Bool
  | 0, _ => false
  | n + 1, v => match v with
    | .tup (.str w :: r) =>
      if w = "x" ∨ w = "y" then r.isEmpty
      else if w = "num" then (match r with | [a] => numIn (-999) 999 a | _ => false)
      else if w = "name" then (match r with | [a] => isNameD a | _ => false)
      else if w = "call" then (match r with | [f, a, b] => isNameD f && (exprOk n a && exprOk n b) | _ => false)
      else if (signsT.lookup w).isSome then (match r with | [a, b] => exprOk n a && exprOk n b | _ => false)
      else false
    | _ => false
/-- how many are counted, or the number of the first wrong one -/
inductive Vis where
  | ok (c : Nat)
  | bad (c : Nat)
deriving DecidableEq
inductive Ex where
  | num (i : Int) | lx | ly | nm (z : Str) | call (f : Str) (a b : Ex) | bin (o : Str) (a b : Ex)
def Ex.d : Ex → D
  | .num i => .tup [.str "num", .int i]
  | .lx => .tup [.str "x"]
  | .ly => .tup [.str "y"]
  | .nm z => .tup [.str "name", .str z]
  | .call f a b => .tup [.str "call", .str f, a.d, b.d]
  | .bin o a b => .tup [.str o, a.d, b.d]
def Ex.dp : Ex → Nat
  | .call _ a b => max a.dp b.dp + 1
  | .bin _ a b => max a.dp b.dp + 1
  | _ => 1
inductive Ex.Wf (ns ks : List Str) : Ex → Prop
  | num {i : Int} : -999 ≤ i → i ≤ 999 → Ex.Wf ns ks (.num i)
  | lx : Ex.Wf ns ks .lx
  | ly : Ex.Wf ns ks .ly
  | nm {z : Str} : z ∈ ns → Ex.Wf ns ks (.nm z)
  | call {f : Str} {a b : Ex} : f ∈ ks → Ex.Wf ns ks a → Ex.Wf ns ks b → Ex.Wf ns ks (.call f a b)
  | bin {o : Str} {a b : Ex} : o ∈ (["add", "sub", "mul", "div"] : List Str) → Ex.Wf ns ks a → Ex.Wf ns ks b → Ex.Wf ns ks (.bin o a b)
theorem Ex.Wf.ok {ns ks : List Str} (hn : ∀ z ∈ ns, nameOk z = true) (hk : ∀ z ∈ ks, nameOk z = true) {e : Ex} (h : e.Wf ns ks) : ∀ n, e.dp ≤ n → exprOk n e.d = true := by
  induction h with
  | num h1 h2 =>
    intro n hn
    cases n with
    | zero => exact absurd hn (by show ¬ 1 ≤ 0; decide)
    | succ n =>
      show (decide (_ ≤ _) && decide (_ ≤ _)) = true
      rw [decide_eq_true h1, decide_eq_true h2]; rfl
  | lx => intro n hn; cases n with
    | zero => exact absurd hn (by show ¬ 1 ≤ 0; decide)
    | succ n => rfl
  | ly => intro n hn; cases n with
    | zero => exact absurd hn (by show ¬ 1 ≤ 0; decide)
    | succ n => rfl
  | nm h => intro n hn'; cases n with
    | zero => exact absurd hn' (by show ¬ 1 ≤ 0; decide)
    | succ n => exact hn _ h
  | call hf ha hb iha ihb => intro n hn'; cases n with
    | zero => exact absurd hn' (Nat.not_succ_le_zero _)
    | succ n =>
      have h := Nat.le_of_succ_le_succ hn'
      show (nameOk _ && (exprOk n _ && exprOk n _)) = true
      rw [hk _ hf, iha n (Nat.le_trans (Nat.le_max_left _ _) h), ihb n (Nat.le_trans (Nat.le_max_right _ _) h)]; rfl
  | bin ho ha hb iha ihb => intro n hn'; cases n with
    | zero => exact absurd hn' (Nat.not_succ_le_zero _)
    | succ n =>
      have h := Nat.le_of_succ_le_succ hn'
      have e1 := iha n (Nat.le_trans (Nat.le_max_left _ _) h)
      have e2 := ihb n (Nat.le_trans (Nat.le_max_right _ _) h)
      simp only [List.mem_cons, List.not_mem_nil, or_false] at ho
      rcases ho with e | e | e | e <;> subst e <;> (show (exprOk n _ && exprOk n _) = true; rw [e1, e2]; rfl)
end DL
namespace DL
open PySem L2 TL
/-- the bag stands at p, once -/
structure BagAt (L : Led) (p : Addr) (b : Bag) : Prop where
  lk : L.lookup p = some (bagC b)
  self : setL L p (bagC b) = L
  ok : BagOk b
theorem BagAt.set {L : Led} {p : Addr} {b b' : Bag} (h : BagAt L p b) (ok : BagOk b') : BagAt (setL L p (bagC b')) p b' := ⟨lookup_setL h.lk, setL_setL _ _ _ _, ok⟩
theorem BagAt.top {L : Led} {p : Addr} {b : Bag} (h : ¬ inL L p) (ok : BagOk b) : BagAt ((p, bagC b) :: L) p b := ⟨lookup_top, setL_top h, ok⟩
mutual
theorem okW_pln : ∀ {d : D}, okW d = true → pln d = true
  | .non, _ => by unfold pln; rfl
  | .bl _, _ => by unfold pln; rfl
  | .int _, _ => by unfold pln; rfl
  | .str _, _ => by unfold pln; rfl
  | .lst xs, h => by
    unfold okW at h
    rw [Bool.and_eq_true] at h
    unfold pln
    exact okWs_pln h.2
  | .tup xs, h => by
    unfold okW at h
    rw [Bool.and_eq_true] at h
    unfold pln
    exact okWs_pln h.2
  | .ro _, h => by simp [okW] at h
  | .dk _ _, h => by simp [okW] at h
  | .dt _ _, h => by simp [okW] at h
  | .obj _ _ _, h => by simp [okW] at h
  | .exc _ _ _, h => by simp [okW] at h
  | .fnv _ _, h => by simp [okW] at h
  | .clo _ _, h => by simp [okW] at h
  | .tab _, h => by simp [okW] at h
  | .ptr _, h => by simp [okW] at h
  | .ty _, h => by simp [okW] at h
  | .kt _, h => by simp [okW] at h
theorem okWs_pln : ∀ {l : List D}, okWs l = true → plns l = true
  | [], _ => by unfold plns; rfl
  | d :: r, h => by
    unfold okWs at h
    rw [Bool.and_eq_true] at h
    unfold plns
    rw [okW_pln h.1, okWs_pln h.2]; rfl
end
theorem pln_bag (b : Bag) : pln (bagC b) = true := by
  have h : plns (b.cells.map D.int) = true := plns_map (fun _ => by unfold pln; rfl) _
  simp only [bagC, pln, plns, h, Bool.and_self]
theorem nameOk_len {z : Str} (h : nameOk z = true) : z.length ≤ 6 := by
  unfold nameOk at h
  simp only [Bool.and_eq_true] at h
  exact of_decide_eq_true h.2.1
end DL
namespace DL
open PySem L2
abbrev VAL := (Int × Int) × Int
/-- ends without a value -/
inductive EE where
  | unset (z : Str) | heavy | zero | long | none
def EE.l : EE → List Str
  | .unset z => ["unset", z]
  | .heavy => ["heavy"]
  | .zero => ["zero"]
  | .long => ["long"]
  | .none => ["none"]
def EE.d (e : EE) : D := .tup (e.l.map D.str)
structure RSt where
  outs : List Str
  steps : Nat
inductive R1 where
  | ok (v : VAL) | halt (e : EE)
def rAddL (a b : Int × Int) : Int × Int := lowI (a.1 * b.2 + b.1 * a.2) (a.2 * b.2)
def rSubL (a b : Int × Int) : Int × Int := lowI (a.1 * b.2 - b.1 * a.2) (a.2 * b.2)
def rMulL (a b : Int × Int) : Int × Int := lowI (a.1 * b.1) (a.2 * b.2)
def rDivL (a b : Int × Int) : Int × Int := lowI (a.1 * b.2) (a.2 * b.1)
def joinR (o : Str) (a b : Int × Int) : Int × Int := if o = "add" then rAddL a b else if o = "sub" then rSubL a b else if o = "mul" then rMulL a b else rDivL a b
inductive Sm where
  | letS (z : Str) (e : Ex) | stop (e : Ex) | rep (n : Nat) (b : List Sm) | ifS (t : Str) (a b : Ex) (p q : List Sm)
mutual
def Sm.d : Sm → D
  | .letS z e => .tup [.str "let", .str z, e.d]
  | .stop e => .tup [.str "stop", e.d]
  | .rep n b => .tup [.str "repeat", .int n, .tup (Sm.ds b)]
  | .ifS t a b p q => .tup [.str "if", .str t, a.d, b.d, .tup (Sm.ds p), .tup (Sm.ds q)]
def Sm.ds : List Sm → List D
  | [] => []
  | s :: r => s.d :: Sm.ds r
end
structure VOk (v : VAL) : Prop where
  w1 : 1 ≤ v.2
  w2 : v.2 ≤ 10
  pos : 0 < v.1.2
  low : gcdI v.1.1 v.1.2 = 1
  top : v.1.1.natAbs < 2 ^ (64 * v.2.toNat - 1)
  bot : v.1.2.natAbs < 2 ^ (64 * v.2.toNat - 1)
theorem mul_lt {a b : Int} {n m : Nat} (ha : a.natAbs < 2 ^ n) (hb : b.natAbs < 2 ^ m) : (a * b).natAbs < 2 ^ (n + m) := by
  rw [Int.natAbs_mul, Nat.pow_add]
  exact Nat.mul_lt_mul'' ha hb
theorem VOk.join {v w : VAL} (hv : VOk v) (hw : VOk w) (o : Str) (h10 : ¬ 10 < v.2 + w.2) (hz : ¬ (o = "div" ∧ w.1.1 = 0)) (ho : o ∈ (["add", "sub", "mul", "div"] : List Str)) : VOk (joinR o v.1 w.1, v.2 + w.2) := by
  have e : (64 * v.2.toNat - 1) + (64 * w.2.toNat - 1) + 1 = 64 * (v.2 + w.2).toNat - 1 := by have := hv.w1; have := hw.w1; omega
  have p1 := mul_lt hv.top hw.bot
  have p2 := mul_lt hw.top hv.bot
  have p3 := mul_lt hv.bot hw.bot
  have p4 := mul_lt hv.top hw.top
  have p5 := mul_lt hv.bot hw.top
  have e2 : (2 : Nat) ^ (64 * (v.2 + w.2).toNat - 1) = 2 ^ ((64 * v.2.toNat - 1) + (64 * w.2.toNat - 1)) + 2 ^ ((64 * v.2.toNat - 1) + (64 * w.2.toNat - 1)) := by rw [← e, Nat.pow_succ]; omega
  rw [Nat.add_comm (64 * w.2.toNat - 1)] at p2
  have mk : ∀ t u : Int, u ≠ 0 → t.natAbs < 2 ^ (64 * (v.2 + w.2).toNat - 1) → u.natAbs < 2 ^ (64 * (v.2 + w.2).toNat - 1) → VOk (lowI t u, v.2 + w.2) := fun t u hu ht hb => by
    obtain ⟨s1, s2⟩ := lowI_small (t := t) hu
    obtain ⟨l1, l2, _⟩ := lowI_spec (t := t) hu
    exact ⟨by show 1 ≤ v.2 + w.2; have := hv.w1; have := hw.w1; omega, by show v.2 + w.2 ≤ 10; omega, l1, l2, Nat.lt_of_le_of_lt s1 ht, Nat.lt_of_le_of_lt s2 hb⟩
  have nz : v.1.2 * w.1.2 ≠ 0 := Int.mul_ne_zero (by have := hv.pos; omega) (by have := hw.pos; omega)
  unfold joinR
  simp only [List.mem_cons, List.not_mem_nil, or_false] at ho
  rcases ho with q | q | q | q <;> subst q
  · rw [if_pos rfl]
    exact mk _ _ nz (by omega) (by omega)
  · rw [if_neg (by decide), if_pos rfl]
    exact mk _ _ nz (by omega) (by omega)
  · rw [if_neg (by decide), if_neg (by decide), if_pos rfl]
    exact mk _ _ nz (by omega) (by omega)
  · rw [if_neg (by decide), if_neg (by decide), if_neg (by decide)]
    exact mk _ _ (Int.mul_ne_zero (by have := hv.pos; omega) fun z => hz ⟨rfl, z⟩) (by omega) (by omega)
end DL
namespace DL
open PySem L2
theorem lookup_setL_ne : ∀ {L : Led} {p q : Addr} {d : D}, p ≠ q → (setL L q d).lookup p = L.lookup p
  | [], _, _, _, _ => rfl
  | (a, c) :: L, p, q, d, h => by
    by_cases e : a = q
    · subst e
      show List.lookup p ((if a = a then (a, d) else (a, c)) :: setL L a d) = _
      rw [if_pos rfl, lookup_ne h, lookup_ne h]
      exact lookup_setL_ne h
    · rw [setL_ne e]
      by_cases e2 : p = a
      · subst e2
        rw [List.lookup_cons_self, List.lookup_cons_self]
      · rw [lookup_ne e2, lookup_ne e2]
        exact lookup_setL_ne h
theorem setL_comm {p q : Addr} (h : p ≠ q) (c d : D) (L : Led) : setL (setL L p c) q d = setL (setL L q d) p c := by
  unfold setL
  rw [List.map_map, List.map_map]
  refine List.map_congr_left fun a _ => ?_
  show (if (if a.1 = p then (p, c) else a).1 = q then (q, d) else (if a.1 = p then (p, c) else a)) = (if (if a.1 = q then (q, d) else a).1 = p then (p, c) else (if a.1 = q then (q, d) else a))
  by_cases e : a.1 = p
  · rw [if_pos e, if_neg (show ¬ (p, c).1 = q from h), if_neg (show ¬ a.1 = q from fun z => h (e.symm.trans z)), if_pos e]
  · rw [if_neg e]
    by_cases e2 : a.1 = q
    · rw [if_pos e2, if_neg (show ¬ (q, d).1 = p from Ne.symm h)]
    · rw [if_neg e2, if_neg e]
def fldsR : List Str := ["arithmetic", "programs", "outcomes", "steps"]
def runD (cP cR : Addr) (tb : D) (o : Addr) (n : Nat) : D := .obj cR fldsR [.obj cP [] [], tb, .ptr o, .int n]
structure RR where
  cP : Addr
  cR : Addr
  r : Addr
  o : Addr
  tb : D
@[irreducible] def st2 (R : RR) (L : Led) (s : RSt) : Led := setL (setL L R.r (runD R.cP R.cR R.tb R.o s.steps)) R.o (.lst (s.outs.map D.str))
structure B2 (R : RR) (L : Led) : Prop where
  r : inL L R.r
  o : inL L R.o
  ne : R.r ≠ R.o
section
variable {R : RR} {L : Led} {s : RSt}
theorem B2.set (b : B2 R L) (q : Addr) (d : D) : B2 R (setL L q d) := ⟨inL_setL.mpr b.r, inL_setL.mpr b.o, b.ne⟩
theorem B2.cons (b : B2 R L) (q : Addr) (d : D) : B2 R ((q, d) :: L) := ⟨inL_cons.mpr (.inr b.r), inL_cons.mpr (.inr b.o), b.ne⟩
end
end DL
namespace DL
open PySem L2
inductive XpOk (ks : Str → Prop) : Nat → Ex → Prop
  | num {m : Nat} {i : Int} : -999 ≤ i → i ≤ 999 → XpOk ks m (.num i)
  | lx {m : Nat} : XpOk ks m .lx
  | ly {m : Nat} : XpOk ks m .ly
  | nm {m : Nat} {z : Str} : XpOk ks m (.nm z)
  | call {m : Nat} {f : Str} {a b : Ex} : ks f → XpOk ks m a → XpOk ks m b → XpOk ks (m + 1) (.call f a b)
  | bin {m : Nat} {o : Str} {a b : Ex} : o ∈ (["add", "sub", "mul", "div"] : List Str) → XpOk ks m a → XpOk ks m b → XpOk ks (m + 1) (.bin o a b)
def tests : List Str := ["less", "equal", "upto"]
theorem XpOk.mono {ks : Str → Prop} {m : Nat} {e : Ex} (h : XpOk ks m e) : ∀ {m' : Nat}, m ≤ m' → XpOk ks m' e := by
  induction h with
  | num h1 h2 => intro _ _; exact .num h1 h2
  | lx => intro _ _; exact .lx
  | ly => intro _ _; exact .ly
  | nm => intro _ _; exact .nm
  | call hf _ _ ia ib =>
    intro m' hm
    obtain ⟨k, rfl⟩ : ∃ k, m' = k + 1 := ⟨m' - 1, by omega⟩
    exact .call hf (ia (by omega)) (ib (by omega))
  | bin ho _ _ ia ib =>
    intro m' hm
    obtain ⟨k, rfl⟩ : ∃ k, m' = k + 1 := ⟨m' - 1, by omega⟩
    exact .bin ho (ia (by omega)) (ib (by omega))
structure Gd (s : RSt) (r : R1 × RSt) : Prop where
  lim : r.2.steps ≤ 60
  mono : s.steps ≤ r.2.steps
  grow : r.2.outs.length + s.steps ≤ s.outs.length + r.2.steps
  v : ∀ v, r.1 = .ok v → VOk v
theorem Gd.refl {s : RSt} {r : R1} (h : s.steps ≤ 60) (hv : ∀ v, r = .ok v → VOk v) : Gd s (r, s) := ⟨h, Nat.le_refl _, Nat.le_refl _, hv⟩
theorem Gd.halt {s s1 : RSt} {r1 : R1} {e : EE} (a : Gd s (r1, s1)) : Gd s (.halt e, s1) := ⟨a.lim, a.mono, a.grow, fun v e => by cases e⟩
theorem VOk.num {i : Int} (h1 : -999 ≤ i) (h2 : i ≤ 999) : VOk ((i, 1), 1) := by
  have e : (2 : Nat) ^ (64 * (1 : Int).toNat - 1) = 9223372036854775808 := by decide
  refine ⟨Int.le_refl _, by show (1 : Int) ≤ 10; decide, by show (0 : Int) < 1; decide, ?_, ?_, ?_⟩
  · show gcdI i 1 = 1
    unfold gcdI
    rw [show (1 : Int).natAbs = 1 from rfl, Nat.gcd_one_right]
    rfl
  · show i.natAbs < 2 ^ (64 * (1 : Int).toNat - 1)
    rw [e]; omega
  · show (1 : Int).natAbs < 2 ^ (64 * (1 : Int).toNat - 1)
    rw [e]; decide
end DL
namespace DL
open PySem L2 TL
mutual
def cntS : Sm → Nat
  | .letS _ _ => 1
  | .stop _ => 1
  | .rep _ b => cntB b + 1
  | .ifS _ _ _ p q => cntB p + cntB q + 1
def cntB : List Sm → Nat
  | [] => 0
  | s :: r => cntS s + cntB r
end
def pst (L : Led) (p q : Addr) (b : Bag) (m : Nat) : Led := setL (setL L p (bagC b)) q (.lst [.int m])
structure PB (L : Led) (p q : Addr) : Prop where
  ip : inL L p
  iq : inL L q
  ne : p ≠ q
theorem lookup_inL {L : Led} {p : Addr} {d : D} (h : inL L p) : (setL L p d).lookup p = some d := by
  have : ∃ c, L.lookup p = some c := by
    clear d
    induction L with
    | nil => unfold inL at h; simp at h
    | cons z r ih =>
      by_cases e : p = z.1
      · subst e; exact ⟨_, List.lookup_cons_self⟩
      · have hr : inL r p := by
          unfold inL at h ⊢
          rw [List.map_cons] at h
          exact (List.mem_cons.mp h).resolve_left e
        obtain ⟨c, hc⟩ := ih hr
        exact ⟨c, by rw [show z = (z.1, z.2) from rfl, lookup_ne e]; exact hc⟩
  exact lookup_setL this.choose_spec
theorem lookup_set_ne {L : Led} {p q : Addr} {d : D} (h : q ≠ p) : (setL L p d).lookup q = L.lookup q := by
  induction L with
  | nil => rfl
  | cons z r ih =>
    by_cases e : z.1 = p
    · show List.lookup q ((if z.1 = p then (p, d) else z) :: setL r p d) = _
      rw [if_pos e, lookup_ne h, ih, show z = (z.1, z.2) from rfl, lookup_ne (by rw [e]; exact h)]
    · show List.lookup q ((if z.1 = p then (p, d) else z) :: setL r p d) = _
      rw [if_neg e]
      by_cases e2 : q = z.1
      · subst e2; rw [show z = (z.1, z.2) from rfl, List.lookup_cons_self, List.lookup_cons_self]
      · rw [show z = (z.1, z.2) from rfl, lookup_ne e2, lookup_ne e2, ih]
section
variable {L : Led} {p q : Addr} {b b' : Bag} {m m' : Nat}
theorem PB.lp (h : PB L p q) : (pst L p q b m).lookup p = some (bagC b) := by
  unfold pst
  rw [lookup_set_ne h.ne, lookup_inL h.ip]
theorem pst_bag (h : PB L p q) : setL (pst L p q b m) p (bagC b') = pst L p q b' m := by
  unfold pst
  rw [← setL_comm h.ne, setL_setL]
theorem PB.at (h : PB L p q) (ok : BagOk b) : BagAt (pst L p q b m) p b := ⟨h.lp, pst_bag h, ok⟩
theorem PB.cons (h : PB L p q) (f : Addr) (d : D) : PB ((f, d) :: L) p q := ⟨inL_cons.mpr (.inr h.ip), inL_cons.mpr (.inr h.iq), h.ne⟩
end
end DL
namespace DL
open PySem L2 TL NumText
def figs : Str := "0123456789"
def topVal : List Nat → Int
  | 45 :: cs => -((digitsVal cs : Nat) : Int)
  | l => ((digitsVal l : Nat) : Int)
/-- the signs of an int -/
def intL (i : Int) : List Nat := if i < 0 then 45 :: numL i.natAbs else numL i.natAbs
theorem tl_int (i : Int) : tl (Str.ofString (toString i)) = intL i := by
  unfold intL
  cases i with
  | ofNat n =>
    rw [if_neg (by show ¬ (Int.ofNat n < 0); exact Int.not_lt.mpr (Int.natCast_nonneg n))]
    exact tl_num n
  | negSucc n =>
    rw [if_pos (Int.negSucc_lt_zero n)]
    have e : toString (Int.negSucc n) = "-" ++ toString ((n + 1 : Nat) : Int) := rfl
    rw [e, tl_ofString, String.toList_append, List.map_append]
    show 45 :: ((toString ((n + 1 : Nat) : Int)).toList.map Char.toNat) = _
    rw [← tl_ofString, tl_num]
    rfl
end DL
namespace DL
open PySem PySem.Spec PyProof.Rows L2 TL NumText
section
end
def exprsX : Sm → List Ex
  | .letS _ e => [e]
  | .stop e => [e]
  | .rep _ _ => []
  | .ifS _ a b _ _ => [a, b]
def blocksX : Sm → List (List Sm)
  | .rep _ b => [b]
  | .ifS _ _ _ p q => [p, q]
  | _ => []
inductive It where
  | ex (e : Ex) | bl (b : List Sm) | st (z : Str) | nu (n : Nat)
def It.d : It → D
  | .ex e => e.d
  | .bl b => .tup (Sm.ds b)
  | .st z => .str z
  | .nu n => .int n
theorem nameOk_w {z : Str} (h : nameOk z = true) : okW (.str z) = true := by unfold okW; exact decide_eq_true (Nat.le_trans (nameOk_len h) (by decide))
theorem test_w {t : Str} (h : t ∈ tests) : okW (.str t) = true ∧ isTestD (.str t) = true := by
  simp only [tests, List.mem_cons, List.not_mem_nil, or_false] at h
  rcases h with rfl | rfl | rfl <;> exact ⟨by decide +kernel, by decide +kernel⟩
def sgnW (o : Str) : Str := if o = "add" then " + " else if o = "sub" then " - " else if o = "mul" then " * " else " / "
def exT : Ex → Str
  | .num i => toString i
  | .lx => "x"
  | .ly => "y"
  | .nm z => z
  | .call f a b => f ++ "(" ++ exT a ++ ", " ++ exT b ++ ")"
  | .bin o a b => "(" ++ exT a ++ sgnW o ++ exT b ++ ")"
end DL
namespace DL
open PySem PySem.Spec PyProof.Rows L2 TL NumText
abbrev mkS (l : List Nat) : Str := ⟨l.toArray⟩
def figB (c : Nat) : Bool := decide (c ∈ tl figs)
def letB (c : Nat) : Bool := decide (c ∈ tl letters)
inductive Fx where
  | deep | num (i : Int) | lx | ly | nm (z : Str) | call (f : Str) (a b : Fx) | bin (o : Str) (a b : Fx)
def Fx.d : Fx → D
  | .deep => .tup [.str "deep"]
  | .num i => .tup [.str "num", .int i]
  | .lx => .tup [.str "x"]
  | .ly => .tup [.str "y"]
  | .nm z => .tup [.str "name", .str z]
  | .call f a b => .tup [.str "call", .str f, a.d, b.d]
  | .bin o a b => .tup [.str o, a.d, b.d]
def Fx.dp : Fx → Nat
  | .deep => 7
  | .call _ a b => max a.dp b.dp + 1
  | .bin _ a b => max a.dp b.dp + 1
  | _ => 1
inductive Fx.W : Fx → Prop
  | deep : Fx.W .deep
  | num {i : Int} : i.natAbs < 1000 → Fx.W (.num i)
  | lx : Fx.W .lx
  | ly : Fx.W .ly
  | nm {z : Str} : nameOk z = true → Fx.W (.nm z)
  | call {f : Str} {a b : Fx} : nameOk f = true → Fx.W a → Fx.W b → Fx.W (.call f a b)
  | bin {o : Str} {a b : Fx} : o ∈ (["add", "sub", "mul", "div"] : List Str) → Fx.W a → Fx.W b → Fx.W (.bin o a b)
/-- what a frame or an answer holds -/
def Fx.sm (v : Fx) : Prop := v.W ∧ (v = .deep ∨ v.dp ≤ 6)
def numF (cs : List Nat) : Fx := if (topVal cs).natAbs < 1000 then .num (topVal cs) else .deep
def figOk (w : List Nat) : Bool := decide (w ≠ []) && (decide (w = [48]) || decide (w.head? ≠ some 48))
def leafT (l : List Nat) : Option (Fx × List Nat) :=
  let w := l.takeWhile letB
  if w = [120] then some (.lx, l.drop w.length) else if w = [121] then some (.ly, l.drop w.length) else if nameOk (mkS w) = true then some (.nm (mkS w), l.drop w.length) else none
def leafL : List Nat → Option (Fx × List Nat)
  | [] => leafT []
  | c :: r =>
    if c = 45 then
      let w := r.takeWhile figB
      if (figOk w && !decide (w = [48])) = true then some (numF (45 :: w), r.drop w.length) else none
    else if figB c = true then
      let w := (c :: r).takeWhile figB
      if figOk w = true then some (numF w, (c :: r).drop w.length) else none
    else leafT (c :: r)
structure Frm where
  w : Str
  n : Str
  v : Option Fx
def Frm.d (f : Frm) : D := .lst [.str f.w, .str f.n, match f.v with
  | some v => v.d
  | none => .non]
def joinT (f : Frm) (a v : Fx) : Fx := if f.w = "call" then .call f.n a v else .bin f.w a v
def joinF (f : Frm) (a v : Fx) : Fx := if (joinT f a v).dp ≤ 6 then joinT f a v else .deep
def openL (l : List Nat) : Option (Frm × List Nat) :=
  if l.head? = some 40 then some (⟨"", "", none⟩, l.drop 1) else
  let w := l.takeWhile letB
  if nameOk (mkS w) = true ∧ (l.drop w.length).head? = some 40 then some (⟨"call", mkS w, none⟩, l.drop (w.length + 1)) else none
def wordsT : List (Str × D) := [("+", .str "add"), ("-", .str "sub"), ("*", .str "mul"), ("/", .str "div")]
def wordOf (c : Nat) : Option Str := if c = 43 then some "add" else if c = 45 then some "sub" else if c = 42 then some "mul" else if c = 47 then some "div" else none
def contL (f : Frm) (v : Fx) (l : List Nat) : Option (Frm × List Nat) :=
  if f.w = "call" then (if l.take 2 = [44, 32] then some (⟨f.w, f.n, some v⟩, l.drop 2) else none)
  else match l with
    | 32 :: c :: 32 :: r => (match wordOf c with
      | some o => some (⟨o, f.n, some v⟩, r)
      | none => none)
    | _ => none
def closeL : List Frm → Fx → List Nat → Option (List Frm × Fx × List Nat)
  | [], v, l => some ([], v, l)
  | f :: fs, v, l => match f.v with
    | none => some (f :: fs, v, l)
    | some a => if l.head? = some 41 then closeL fs (joinF f a v) (l.drop 1) else none
def rdL : Nat → List Frm → List Nat → Option (Fx × List Nat)
  | 0, _, _ => none
  | n + 1, fs, l => match openL l with
    | some (f, r) => rdL n (f :: fs) r
    | none => match leafL l with
      | none => none
      | some (v, r) => match closeL fs v r with
        | none => none
        | some ([], v', r') => some (v', r')
        | some (f :: fs', v', r') => match contL f v' r' with
          | none => none
          | some (f', r2) => rdL n (f' :: fs') r2
theorem Fx.W.okw {v : Fx} (h : v.W) : okW v.d = true := by
  induction h with
  | deep => decide +kernel
  | num _ => unfold Fx.d; exact okW_mk (by show 2 < 100000; decide) (okWs_mk (by decide +kernel) (okWs_mk (by unfold okW; rfl) (by unfold okWs; rfl)))
  | lx => decide +kernel
  | ly => decide +kernel
  | nm h => unfold Fx.d; exact okW_mk (by show 2 < 100000; decide) (okWs_mk (by decide +kernel) (okWs_mk (nameOk_w h) (by unfold okWs; rfl)))
  | call h _ _ h1 h2 => unfold Fx.d; exact okW_mk (by show 4 < 100000; decide) (okWs_mk (by decide +kernel) (okWs_mk (nameOk_w h) (okWs_mk h1 (okWs_mk h2 (by unfold okWs; rfl)))))
  | bin h _ _ h1 h2 =>
    unfold Fx.d
    refine okW_mk (by show 3 < 100000; decide) (okWs_mk ?_ (okWs_mk h1 (okWs_mk h2 (by unfold okWs; rfl))))
    revert h
    rename_i o _ _ _ _
    intro h
    simp only [List.mem_cons, List.not_mem_nil, or_false] at h
    rcases h with rfl | rfl | rfl | rfl <;> decide +kernel
end DL
namespace DL
open PySem PySem.Spec PyProof.Rows L2 TL NumText
section
open PySem.Calls PySem.W PySem.W.KIN
end
section
end
end DL
namespace DL
open PySem PySem.Spec PyProof.Rows L2 TL NumText
/-- a text that may be read -/
structure OkZ (z : Str) : Prop where
  len : z.length ≤ 90000
  run : ∀ a : Nat, (((tl z).drop a).takeWhile figB).length ≤ 4200
theorem OkZ.sz {z : Str} (h : OkZ z) : z.length ≤ sizeLine := Nat.le_trans h.len (by decide)
end DL
namespace DL
open PySem PySem.Spec PyProof.Rows L2 TL NumText
theorem keep_set {L L' : Led} {p : Addr} {d : D} (h : ¬ inL L p) : keepL L (setL L' p d) = keepL L L' := by
  unfold keepL setL
  induction L' with
  | nil => rfl
  | cons q r ih =>
    rw [List.map_cons, List.filter_cons, List.filter_cons, ih]
    by_cases e : q.1 = p
    · rw [if_pos e]
      rw [decide_eq_false (show ¬ p ∈ L.map (·.1) from h), decide_eq_false (show ¬ q.1 ∈ L.map (·.1) by rw [e]; exact h)]
      rfl
    · rw [if_neg e]
structure FsL (L L' : Led) (P : Addr) (ps : List Addr) (fs : List Frm) : Prop where
  keep : keepL L L' = L
  np : ¬ inL L P
  top : L'.lookup P = some (.lst (ps.reverse.map D.ptr))
  all : Paired (fun p f => L'.lookup p = some f.d ∧ ¬ inL L p ∧ p ≠ P) ps fs
  nd : ps.Nodup
theorem paired_mono {α β : Type} {R R' : α → β → Prop} : ∀ {xs : List α} {ys : List β}, (∀ x ∈ xs, ∀ y, R x y → R' x y) → Paired R xs ys → Paired R' xs ys
  | _, _, _, .nil => .nil
  | _, _, h, .cons r t => .cons (h _ List.mem_cons_self _ r) (paired_mono (fun x m y => h x (List.mem_cons_of_mem _ m) y) t)
section
variable {L L' : Led} {P p : Addr} {ps : List Addr} {f f' : Frm} {fs : List Frm}
theorem FsL.start {Q : Addr} (h : ¬ inL L Q) : FsL L ((Q, .lst []) :: L) Q [] [] := ⟨by rw [keep_out h]; exact keep_same rfl, h, lookup_top, .nil, List.nodup_nil⟩
theorem mem_in {ps : List Addr} {fs : List Frm} (h : Paired (fun p f => L'.lookup p = some f.d ∧ ¬ inL L p ∧ p ≠ P) ps fs) : ∀ q ∈ ps, inL L' q ∧ q ≠ P := by
  induction h with
  | nil => intro q m; cases m
  | cons r _ ih =>
    intro q m
    rcases List.mem_cons.mp m with e | m
    · subst e; exact ⟨inL_of_lookup r.1, r.2.2⟩
    · exact ih q m
theorem FsL.push (h : FsL L L' P ps fs) (hp : ¬ inL L' p) (hL : ∀ a, inL L a → inL L' a) : FsL L (setL ((p, f.d) :: L') P (.lst ((ps.reverse.map D.ptr) ++ [.ptr p]))) P (p :: ps) (f :: fs) := by
  have pP : p ≠ P := fun e => hp (by rw [e]; exact inL_of_lookup h.top)
  have npl : ¬ inL L p := fun m => hp (hL _ m)
  refine ⟨?_, h.np, ?_, ?_, ?_⟩
  · rw [keep_set h.np, keep_out npl]; exact h.keep
  · rw [List.reverse_cons, List.map_append]
    exact lookup_setL (by rw [lookup_ne (Ne.symm pP)]; exact h.top)
  · refine .cons ⟨?_, npl, pP⟩ (paired_mono (fun q m g r => ⟨?_, r.2.1, r.2.2⟩) h.all)
    · rw [lookup_set_ne pP]; exact lookup_top
    · rw [lookup_set_ne r.2.2, lookup_ne (fun e => hp (by rw [← e]; exact (mem_in h.all q m).1))]
      exact r.1
  · exact List.nodup_cons.mpr ⟨fun m => hp (mem_in h.all p m).1, h.nd⟩
theorem FsL.put (h : FsL L L' P (p :: ps) (f :: fs)) : FsL L (setL L' p f'.d) P (p :: ps) (f' :: fs) := by
  obtain ⟨hk, hn, ht, ha, hd⟩ := h
  cases ha with
  | cons r ha =>
    have hd' := List.nodup_cons.mp hd
    refine ⟨by rw [keep_set r.2.1]; exact hk, hn, by rw [lookup_set_ne (Ne.symm r.2.2)]; exact ht, .cons ⟨lookup_setL r.1, r.2.1, r.2.2⟩ (paired_mono (fun q m g r' => ⟨?_, r'.2.1, r'.2.2⟩) ha), hd⟩
    rw [lookup_set_ne (fun e => hd'.1 (by rw [← e]; exact m))]
    exact r'.1
theorem FsL.look (h : FsL L L' P (p :: ps) (f :: fs)) : L'.lookup p = some f.d := by
  cases h.all with
  | cons r _ => exact r.1
end
theorem keep_keys {L L' : Led} (h : keepL L L' = L) : ∀ a, inL L a → inL L' a := fun a m => by
  rw [← h] at m
  exact (inL_keep.mp m).1
end DL
namespace DL
open PySem PySem.Spec PyProof.Rows L2 TL NumText
def rdA (l : List Nat) : Option (Fx × List Nat) := rdL (l.length + 1) [] l
def wholeL (l : List Nat) : Option Fx := match rdA l with
  | some (v, []) => some v
  | _ => none
inductive Itm where
  | aLet (z : Str) (v : Fx) | aIf (w : Str) (a b : Fx) | aRep (n : Int) | aStop (v : Fx)
def Itm.d : Itm → List D
  | .aLet z v => [.str "let", .str z, v.d]
  | .aIf w a b => [.str "if", .str w, a.d, b.d]
  | .aRep n => [.str "repeat", .int n]
  | .aStop v => [.str "stop", v.d]
def testR (v : Fx) (r : List Nat) : Option Itm :=
  if pre [32, 60, 61, 32] r = true then (wholeL (r.drop 4)).map (.aIf "upto" v) else if pre [32, 60, 32] r = true then (wholeL (r.drop 3)).map (.aIf "less" v) else if pre [32, 61, 32] r = true then (wholeL (r.drop 3)).map (.aIf "equal" v) else none
def testL (l : List Nat) : Option Itm := match rdA (l.drop 3) with
  | none => none
  | some (v, r) => testR v r
def letL (l : List Nat) : Option Itm :=
  let w := (l.drop 4).takeWhile letB
  let r := (l.drop 4).drop w.length
  match (if r.take 3 = [32, 61, 32] then wholeL (r.drop 3) else none) with
  | none => none
  | some v => if nameOk (mkS w) = true then some (.aLet (mkS w) v) else none
def repL (l : List Nat) : Option Itm := match leafL (l.drop 7) with
  | some (.num n, []) => some (.aRep n)
  | some (.deep, []) => some (.aRep (-1))
  | _ => none
def ifP : List Nat := [105, 102, 32]
def stopP : List Nat := [115, 116, 111, 112, 32]
def letP : List Nat := [108, 101, 116, 32]
def repP : List Nat := [114, 101, 112, 101, 97, 116, 32]
def lineL (l : List Nat) : Option Itm :=
  if pre ifP l = true then testL l else if pre stopP l = true then (wholeL (l.drop 5)).map .aStop else if pre letP l = true then letL l else if pre repP l = true then repL l else none
def Itm.ok : Itm → Prop
  | .aLet z v => nameOk z = true ∧ v.sm
  | .aIf w a b => w ∈ tests ∧ a.sm ∧ b.sm
  | .aRep n => n.natAbs < 1000
  | .aStop v => v.sm
theorem map_some {α β : Type} {f : α → β} {o : Option α} {y : β} (h : o.map f = some y) : ∃ x, o = some x ∧ y = f x := by
  cases o with
  | none => cases h
  | some x => exact ⟨x, rfl, by cases h; rfl⟩
structure Blk where
  items : List D
  blk : List D
  els : Option (List D)
def opens : Itm → Bool
  | .aIf _ _ _ => true
  | .aRep _ => true
  | _ => false
inductive Rd where
  | bad (n : Nat)
  | ok (l : List D)
def prog0 : Blk := ⟨[.str "program"], [], none⟩
end DL
namespace DL
open PySem PySem.Spec PyProof.Rows L2 TL NumText
structure FA where
  q : Addr
  b : Addr
  c : Option Addr
def FA.adr (fa : FA) : List Addr := fa.q :: fa.b :: fa.c.toList
def FA.d (fa : FA) (m : Blk) : D := .lst [.lst m.items, .ptr fa.b, match fa.c with
  | some c => .ptr c
  | none => .non]
structure BlkAt (L L' : Led) (fa : FA) (m : Blk) : Prop where
  q : L'.lookup fa.q = some (fa.d m)
  b : L'.lookup fa.b = some (.lst m.blk)
  c : match fa.c, m.els with
    | none, none => True
    | some c, some e => L'.lookup c = some (.lst e)
    | _, _ => False
  out : ∀ a ∈ fa.adr, ¬ inL L a
def adrs (fas : List FA) : List Addr := fas.flatMap FA.adr
structure BsL (L L' : Led) (P : Addr) (fas : List FA) (ms : List Blk) : Prop where
  keep : keepL L L' = L
  np : ¬ inL L P
  top : L'.lookup P = some (.lst (fas.reverse.map fun fa => D.ptr fa.q))
  all : Paired (BlkAt L L') fas ms
  nd : (P :: adrs fas).Nodup
section
variable {L L' L2 : Led} {P p : Addr} {fa fa' : FA} {fas : List FA} {m m' : Blk} {ms : List Blk}
theorem BlkAt.inl (h : BlkAt L L' fa m) : ∀ a ∈ fa.adr, inL L' a := fun a ha => by
  unfold FA.adr at ha
  rcases List.mem_cons.mp ha with e | ha
  · subst e; exact inL_of_lookup h.q
  · rcases List.mem_cons.mp ha with e | ha
    · subst e; exact inL_of_lookup h.b
    · have hc := h.c
      cases e : fa.c with
      | none => rw [e] at ha; cases ha
      | some c =>
        rw [e] at ha hc
        cases List.mem_singleton.mp ha
        cases e2 : m.els with
        | none => rw [e2] at hc; exact hc.elim
        | some x => rw [e2] at hc; exact inL_of_lookup hc
theorem BlkAt.eqv (h : BlkAt L L' fa m) (e : ∀ a ∈ fa.adr, L2.lookup a = L'.lookup a) : BlkAt L L2 fa m := by
  refine ⟨by rw [e _ List.mem_cons_self]; exact h.q, by rw [e _ (List.mem_cons_of_mem _ List.mem_cons_self)]; exact h.b, ?_, h.out⟩
  have hc := h.c
  cases e1 : fa.c with
  | none =>
    rw [e1] at hc
    cases e2 : m.els with
    | none => trivial
    | some x => rw [e2] at hc; exact hc.elim
  | some c =>
    rw [e1] at hc
    cases e2 : m.els with
    | none => rw [e2] at hc; exact hc.elim
    | some x =>
      rw [e2] at hc
      have : c ∈ fa.adr := by unfold FA.adr; rw [e1]; simp
      show L2.lookup c = _
      rw [e c this]
      exact hc
theorem mem_adrs {a : Addr} : a ∈ adrs (fa :: fas) ↔ a ∈ fa.adr ∨ a ∈ adrs fas := by unfold adrs; rw [List.flatMap_cons, List.mem_append]
theorem all_inl (h : Paired (BlkAt L L') fas ms) : ∀ a ∈ adrs fas, inL L' a := by
  induction h with
  | nil => intro a ha; cases ha
  | cons r _ ih =>
    intro a ha
    rcases mem_adrs.mp ha with e | e
    · exact r.inl a e
    · exact ih a e
theorem BsL.inl (h : BsL L L' P fas ms) : ∀ a ∈ P :: adrs fas, inL L' a := fun a ha => by
  rcases List.mem_cons.mp ha with e | e
  · subst e; exact inL_of_lookup h.top
  · exact all_inl h.all a e
theorem all_eqv (h : Paired (BlkAt L L') fas ms) (e : ∀ a ∈ adrs fas, L2.lookup a = L'.lookup a) : Paired (BlkAt L L2) fas ms := by
  induction h with
  | nil => exact .nil
  | cons r _ ih => exact .cons (r.eqv fun a ha => e a (mem_adrs.mpr (.inl ha))) (ih fun a ha => e a (mem_adrs.mpr (.inr ha)))
/-- the top one changed -/
theorem BsL.mod (h : BsL L L' P (fa :: fas) (m :: ms)) (hb : BlkAt L L2 fa' m') (hk : keepL L L2 = L) (ho : ∀ a, a = P ∨ a ∈ adrs fas → L2.lookup a = L'.lookup a) (hq : fa'.q = fa.q) (nd : (P :: adrs (fa' :: fas)).Nodup) : BsL L L2 P (fa' :: fas) (m' :: ms) := by
  refine ⟨hk, h.np, ?_, ?_, nd⟩
  · rw [ho P (.inl rfl), h.top, List.reverse_cons, List.reverse_cons, List.map_append, List.map_append, List.map_singleton, List.map_singleton, hq]
  · cases h.all with
    | cons r t => exact .cons hb (all_eqv t fun a ha => ho a (.inr ha))
theorem BsL.push {items : List D} {b q : Addr} (h : BsL L L' P fas ms) (hb : ¬ inL L' b) (hq : ¬ inL ((b, .lst []) :: L') q) :
    BsL L (setL ((q, FA.d ⟨q, b, none⟩ ⟨items, [], none⟩) :: (b, .lst []) :: L') P (.lst ((fas.reverse.map fun fa => D.ptr fa.q) ++ [.ptr q]))) P (⟨q, b, none⟩ :: fas) (⟨items, [], none⟩ :: ms) := by
  have hin := h.inl
  have qb : q ≠ b := fun e => hq (by rw [e]; exact inL_cons.mpr (.inl rfl))
  have hq' : ¬ inL L' q := fun m => hq (inL_cons.mpr (.inr m))
  have bP : b ≠ P := fun e => hb (by rw [e]; exact hin P List.mem_cons_self)
  have qP : q ≠ P := fun e => hq' (by rw [e]; exact hin P List.mem_cons_self)
  have bl : ¬ inL L b := fun m => hb (keep_keys h.keep _ m)
  have ql : ¬ inL L q := fun m => hq' (keep_keys h.keep _ m)
  refine ⟨?_, h.np, ?_, .cons ⟨?_, ?_, trivial, ?_⟩ (all_eqv h.all fun a ha => ?_), ?_⟩
  · rw [keep_set h.np, keep_out ql, keep_out bl]; exact h.keep
  · rw [List.reverse_cons, List.map_append]
    exact lookup_setL (by rw [lookup_ne (Ne.symm qP), lookup_ne (Ne.symm bP)]; exact h.top)
  · rw [lookup_set_ne qP]; exact lookup_top
  · rw [lookup_set_ne bP, lookup_ne (Ne.symm qb)]; exact lookup_top
  · intro a ha
    unfold FA.adr at ha
    simp only [Option.toList_none, List.mem_cons, List.not_mem_nil, or_false] at ha
    rcases ha with e | e <;> subst e <;> assumption
  · have aP : a ≠ P := fun e => (List.nodup_cons.mp h.nd).1 (e ▸ ha)
    have ai := hin a (List.mem_cons_of_mem _ ha)
    rw [lookup_set_ne aP, lookup_ne (fun e => hq' (by rw [← e]; exact ai)), lookup_ne (fun e => hb (by rw [← e]; exact ai))]
  · have nd := List.nodup_cons.mp h.nd
    show (P :: q :: b :: adrs fas).Nodup
    have qn : q ∉ adrs fas := fun m => hq' (hin q (List.mem_cons_of_mem _ m))
    have bn : b ∉ adrs fas := fun m => hb (hin b (List.mem_cons_of_mem _ m))
    refine List.nodup_cons.mpr ⟨?_, List.nodup_cons.mpr ⟨?_, List.nodup_cons.mpr ⟨bn, nd.2⟩⟩⟩
    · intro m
      rcases List.mem_cons.mp m with e | m
      · exact qP e.symm
      · rcases List.mem_cons.mp m with e | m
        · exact bP e.symm
        · exact nd.1 m
    · intro m
      rcases List.mem_cons.mp m with e | m
      · exact qb e
      · exact qn m
theorem BsL.start {b q P : Addr} (hb : ¬ inL L b) (hq : ¬ inL ((b, .lst []) :: L) q) (hP : ¬ inL ((q, FA.d ⟨q, b, none⟩ prog0) :: (b, .lst []) :: L) P) :
    BsL L ((P, .lst [.ptr q]) :: (q, FA.d ⟨q, b, none⟩ prog0) :: (b, .lst []) :: L) P [⟨q, b, none⟩] [prog0] := by
  have qb : q ≠ b := fun e => hq (by rw [e]; exact inL_cons.mpr (.inl rfl))
  have hq' : ¬ inL L q := fun m => hq (inL_cons.mpr (.inr m))
  have Pq : P ≠ q := fun e => hP (by rw [e]; exact inL_cons.mpr (.inl rfl))
  have Pb : P ≠ b := fun e => hP (by rw [e]; exact inL_cons.mpr (.inr (inL_cons.mpr (.inl rfl))))
  have hP' : ¬ inL L P := fun m => hP (inL_cons.mpr (.inr (inL_cons.mpr (.inr m))))
  refine ⟨?_, hP', lookup_top, .cons ⟨?_, ?_, trivial, ?_⟩ .nil, ?_⟩
  · rw [keep_out hP', keep_out hq', keep_out hb]; exact keep_same rfl
  · rw [lookup_ne (Ne.symm Pq)]; exact lookup_top
  · rw [lookup_ne (Ne.symm Pb), lookup_ne (Ne.symm qb)]; exact lookup_top
  · intro a ha
    unfold FA.adr at ha
    simp only [Option.toList_none, List.mem_cons, List.not_mem_nil, or_false] at ha
    rcases ha with e | e <;> subst e <;> assumption
  · show [P, q, b].Nodup
    simp [Pq, Pb, qb]
/-- else: -/
theorem BsL.els {c : Addr} (h : BsL L L' P (fa :: fas) (m :: ms)) (hc : ¬ inL L' c) (hn : m.els = none) :
    ∃ fa', FA.d fa' m = .lst [.lst m.items, .ptr fa.b, .ptr c] ∧ BsL L (setL ((c, .lst []) :: L') fa.q (.lst [.lst m.items, .ptr fa.b, .ptr c])) P (fa' :: fas) ({ m with els := some [] } :: ms) := by
  have hin := h.inl
  have nd := h.nd
  have cl : ¬ inL L c := fun m => hc (keep_keys h.keep _ m)
  have hr : BlkAt L L' fa m := by cases h.all with | cons r _ => exact r
  have hfc : fa.c = none := by
    have := hr.c
    rw [hn] at this
    cases e : fa.c with
    | none => rfl
    | some x => rw [e] at this; exact this.elim
  have hadr : fa.adr = [fa.q, fa.b] := by unfold FA.adr; rw [hfc]; rfl
  have hnd : (P :: fa.q :: fa.b :: adrs fas).Nodup := by
    have : adrs (fa :: fas) = fa.q :: fa.b :: adrs fas := by unfold adrs; rw [List.flatMap_cons, hadr]; rfl
    rw [this] at nd; exact nd
  have hm : ∀ a, a = P ∨ a = fa.q ∨ a = fa.b ∨ a ∈ adrs fas → inL L' a := fun a ha => by
    rcases ha with e | e | e | e
    · subst e; exact hin _ List.mem_cons_self
    · subst e; exact inL_of_lookup hr.q
    · subst e; exact inL_of_lookup hr.b
    · exact hin a (List.mem_cons_of_mem _ (mem_adrs.mpr (.inr e)))
  have hcn : ∀ a, a = P ∨ a = fa.q ∨ a = fa.b ∨ a ∈ adrs fas → a ≠ c := fun a ha e => hc (by rw [← e]; exact hm a ha)
  have n1 := List.nodup_cons.mp hnd
  have n2 := List.nodup_cons.mp n1.2
  have n3 := List.nodup_cons.mp n2.2
  have qc : fa.q ≠ c := hcn _ (.inr (.inl rfl))
  have bq : fa.b ≠ fa.q := fun e => n2.1 (by rw [← e]; exact List.mem_cons_self)
  refine ⟨⟨fa.q, fa.b, some c⟩, rfl, h.mod (fa' := ⟨fa.q, fa.b, some c⟩) ⟨lookup_setL (by rw [lookup_ne qc]; exact hr.q), ?_, ?_, ?_⟩ ?_ (fun a ha => ?_) rfl ?_⟩
  · show List.lookup fa.b _ = _
    rw [lookup_set_ne bq, lookup_ne (hcn _ (.inr (.inr (.inl rfl))))]; exact hr.b
  · show List.lookup c _ = _
    rw [lookup_set_ne (Ne.symm qc)]; exact lookup_top
  · intro a ha
    unfold FA.adr at ha
    simp only [Option.toList_some, List.mem_cons, List.not_mem_nil, or_false] at ha
    have ho := hr.out
    rw [hadr] at ho
    rcases ha with e | e | e
    · subst e; exact ho _ List.mem_cons_self
    · subst e; exact ho _ (List.mem_cons_of_mem _ List.mem_cons_self)
    · subst e; exact cl
  · rw [keep_set (hr.out _ List.mem_cons_self), keep_out cl]; exact h.keep
  · have aq : a ≠ fa.q := by
      rcases ha with e | e
      · subst e; intro e; exact n1.1 (by rw [e]; exact List.mem_cons_self)
      · intro e2; exact n2.1 (by rw [← e2]; exact List.mem_cons_of_mem _ e)
    rw [lookup_set_ne aq, lookup_ne (hcn a (ha.elim .inl fun e => .inr (.inr (.inr e))))]
  · show (P :: fa.q :: fa.b :: c :: adrs fas).Nodup
    refine List.nodup_cons.mpr ⟨?_, List.nodup_cons.mpr ⟨?_, List.nodup_cons.mpr ⟨?_, List.nodup_cons.mpr ⟨fun m => hcn c (.inr (.inr (.inr m))) rfl, n3.2⟩⟩⟩⟩
    · intro m
      rcases List.mem_cons.mp m with e | m
      · exact n1.1 (by rw [e]; exact List.mem_cons_self)
      · rcases List.mem_cons.mp m with e | m
        · exact n1.1 (by rw [e]; exact List.mem_cons_of_mem _ List.mem_cons_self)
        · rcases List.mem_cons.mp m with e | m
          · exact hcn P (.inl rfl) e
          · exact n1.1 (List.mem_cons_of_mem _ (List.mem_cons_of_mem _ m))
    · intro m
      rcases List.mem_cons.mp m with e | m
      · exact bq e.symm
      · rcases List.mem_cons.mp m with e | m
        · exact qc e
        · exact n2.1 (List.mem_cons_of_mem _ m)
    · intro m
      rcases List.mem_cons.mp m with e | m
      · exact hcn _ (.inr (.inr (.inl rfl))) e
      · exact n3.1 m
end
theorem Itm.ok.w {i : Itm} (h : i.ok) : okWs i.d = true ∧ ∃ z r, i.d = .str z :: r ∧ r.length ≤ 3 := by
  have nil : okWs [] = true := by unfold okWs; rfl
  cases i with
  | aLet z v => exact ⟨okWs_mk (by decide +kernel) (okWs_mk (nameOk_w h.1) (okWs_mk h.2.1.okw nil)), _, _, rfl, by show 2 ≤ 3; decide⟩
  | aIf w a b =>
    exact ⟨okWs_mk (by decide +kernel) (okWs_mk (test_w h.1).1 (okWs_mk h.2.1.1.okw (okWs_mk h.2.2.1.okw nil))), _, _, rfl, by show 3 ≤ 3; decide⟩
  | aRep n => exact ⟨okWs_mk (by decide +kernel) (okWs_mk (by unfold okW; rfl) nil), _, _, rfl, by show 1 ≤ 3; decide⟩
  | aStop v => exact ⟨okWs_mk (by decide +kernel) (okWs_mk h.1.okw nil), _, _, rfl, by show 1 ≤ 3; decide⟩
end DL
namespace DL
open PySem PySem.Spec PyProof.Rows L2 TL NumText
def exOk (e : Ex) : Prop := ∃ ns ks : List Str, e.Wf ns ks ∧ e.dp ≤ 6 ∧ (∀ z ∈ ns, nameOk z = true) ∧ ∀ z ∈ ks, nameOk z = true
mutual
def smT : Nat → Sm → Prop
  | _, .letS z e => nameOk z = true ∧ exOk e
  | _, .stop e => exOk e
  | m, .rep n b => n ≤ 9 ∧ ∃ m', m = m' + 1 ∧ smsT m' b
  | m, .ifS t a b p q => t ∈ tests ∧ exOk a ∧ exOk b ∧ ∃ m', m = m' + 1 ∧ smsT m' p ∧ smsT m' q
def smsT : Nat → List Sm → Prop
  | _, [] => True
  | m, s :: r => smT m s ∧ smsT m r
end
end DL
namespace DL
open PySem PySem.Spec PyProof.Rows L2 TL NumText
end DL
namespace DL
open PySem PySem.Spec PyProof.Rows L2 TL NumText
end DL
namespace DL
open PySem PySem.Spec PyProof.Rows L2 TL NumText
end DL
namespace DL
open PySem PySem.Spec PyProof.Rows L2 TL NumText
end DL
namespace DL
open PySem PySem.Spec PyProof.Rows L2 TL NumText
/-- the expression that is read -/
def Fx.ex : Fx → Ex
  | .deep => .lx
  | .num i => .num i
  | .lx => .lx
  | .ly => .ly
  | .nm z => .nm z
  | .call f a b => .call f a.ex b.ex
  | .bin o a b => .bin o a.ex b.ex
def fT (v : Fx) : List Nat := tl (exT v.ex)
/-- the text of a frame that is open -/
def frT (f : Frm) : List Nat := match f.v with
  | none => if f.w = "call" then tl f.n ++ [40] else [40]
  | some a => if f.w = "call" then tl f.n ++ 40 :: (fT a ++ [44, 32]) else 40 :: (fT a ++ tl (sgnW f.w))
def Fx.nms : Fx → List Str
  | .nm z => [z]
  | .call _ a b => a.nms ++ b.nms
  | .bin _ a b => a.nms ++ b.nms
  | _ => []
def Fx.cls : Fx → List Str
  | .call f a b => f :: (a.cls ++ b.cls)
  | .bin _ a b => a.cls ++ b.cls
  | _ => []
theorem Fx.names {v : Fx} (h : v.W) : (∀ z ∈ v.nms, nameOk z = true) ∧ ∀ z ∈ v.cls, nameOk z = true := by
  induction h with
  | nm hz => exact ⟨fun z m => by rw [List.mem_singleton.mp m]; exact hz, fun z m => absurd m (by simp [Fx.cls])⟩
  | @call f a b hf _ _ ia ib => exact ⟨fun z m => (List.mem_append.mp m).elim (ia.1 z) (ib.1 z), fun z m => (List.mem_cons.mp m).elim (fun e => e ▸ hf) fun m => (List.mem_append.mp m).elim (ia.2 z) (ib.2 z)⟩
  | @bin o a b ho _ _ ia ib => exact ⟨fun z m => (List.mem_append.mp m).elim (ia.1 z) (ib.1 z), fun z m => (List.mem_append.mp m).elim (ia.2 z) (ib.2 z)⟩
  | _ => exact ⟨fun z m => absurd m (by simp [Fx.nms]), fun z m => absurd m (by simp [Fx.cls])⟩
end DL
namespace DL
open PySem PySem.Spec PyProof.Rows L2 TL NumText
inductive Rs where
  | flat (l : List Nat) (i : Itm) | blk (l : List Nat) (i : Itm) (p q : List Rs)
def isIfI : Itm → Bool
  | .aIf _ _ _ => true
  | _ => false
mutual
def Rs.d : Rs → D
  | .flat _ i => .tup i.d
  | .blk _ i p q => .tup (i.d ++ [.tup (rsD p)] ++ if isIfI i = true then [.tup (rsD q)] else [])
def rsD : List Rs → List D
  | [] => []
  | s :: r => s.d :: rsD r
end
mutual
def Rs.Ok : Rs → Prop
  | .flat l i => lineL l = some i ∧ opens i = false
  | .blk l i p q => lineL l = some i ∧ opens i = true ∧ rsO p ∧ rsO q ∧ (isIfI i = false → q = [])
def rsO : List Rs → Prop
  | [] => True
  | s :: r => s.Ok ∧ rsO r
end
structure TB where
  hd : Option (List Nat × Itm)
  p : List Rs
  e : Option (List Rs)
def hdD : Option (List Nat × Itm) → List D
  | none => [.str "program"]
  | some (_, i) => i.d
def TB.blk (t : TB) : Blk := ⟨hdD t.hd, rsD t.p, t.e.map rsD⟩
structure TBOk (t : TB) : Prop where
  p : rsO t.p
  e : ∀ q, t.e = some q → rsO q
  hd : ∀ l i, t.hd = some (l, i) → lineL l = some i ∧ opens i = true ∧ (t.e ≠ none → isIfI i = true)
def StOk : List TB → Prop
  | [] => False
  | [t] => t.hd = none ∧ t.e = none ∧ TBOk t
  | t :: u :: r => t.hd ≠ none ∧ TBOk t ∧ StOk (u :: r)
theorem StOk.top {t : TB} {r : List TB} (h : StOk (t :: r)) : TBOk t := by
  cases r with
  | nil => exact h.2.2
  | cons u r => exact h.2.1
end DL
namespace DL
open PySem PySem.Spec PyProof.Rows L2 TL NumText
end DL
namespace NumText
open PySem L2 DL
def ItT (m : Nat) (s : Sm) : DL.It → Prop
  | .ex e => e ∈ exprsX s ∧ exOk e
  | .bl b => b ∈ blocksX s ∧ ∃ m', m = m' + 1 ∧ smsT m' b ∧ cntB b ≤ cntS s
  | .st z => PyData.strOk z = true
  | .nu _ => True
end NumText
namespace DL
open PySem PySem.Spec PyProof.Rows L2 RZ
section
end
end DL
namespace DL
open PySem PySem.Spec PyProof.Rows L2 RZ
section
variable {X : Cx} {Wx : WX} {a b c e o f : Expr} {es : List Expr} {da db dc de do' df : DE} {dl dk : DA} {pos apos : Pos}
theorem pe_makeWn {CX : CXT} {k n : Nat} {C f : Addr} {x : Str} {p : Pos} {fd : FuncData} {ps ks : List Str} {sp : Sp} {dus : List Value} {dvs : List V} {g : Perm3} {t : TA} {E : L2.St → XK} {kws : List Keyword} {tk : TA} (M : Mk X.K C f) (F : FnOk X.prog X.w X.K X.mg X.base CX k f fd ps sp) (hr : Room (k + 1) X.A) (hg : Gl X x) (hm : X.mg x = some (.ref C)) (hb : KwB X.K fd ps (n + 1) ks dus g) (hp : PermOk @g) (hd : Vals dvs dus) (hx : ∀ σ, PassesAt CX X σ (E σ)) (ha : PA X (e :: es) t) (hkw : PK X kws tk)
    (hall : (backToKw pos (keywordEach kws X.env)).all (·.1.isSome) = true := by rfl) (hks : (backToKw pos (keywordEach kws X.env)).filterMap (·.1) = ks := by rfl) (hdb : (x == ("__debug__" : Str)) = false := by decide) (he : starEach (e :: es) X.env = (false, eval e X.env) :: starEach es X.env := by rfl)
    (hpl : ((backTo pos (starEach (e :: es) X.env)).any (·.1) || (backToKw pos (keywordEach kws X.env)).any (·.1.isNone)) = false := by rfl) :
    PE X (.Call (.Name x p) (e :: es) kws pos) (tMakeW C n ks.length sp (fun vs zs => g vs zs dvs) E t tk) := by
  refine ⟨fun pins s σ H Q I h => ?_⟩
  refine wpAny_Call_Name_kw (ld_glob I hg hm ?_ hdb)
  refine PySem.W.callWith_KW (first := []) (h₀ := X.base) I.ok.mod.kin M.kp hall ?_ hpl he
  refine thn (ha.run pos pins s σ H _ I h) fun us s1 ⟨vs, H1, I1, r1, q1⟩ => ?_
  refine thn (hkw.run pos pins s1 σ H1 _ I1 q1) fun ws s2 ⟨zs, H2, I2, rz, l1, l2, q2⟩ => ⟨I2.kIn, ?_⟩
  rw [hks]
  exact run_makeW (us := us) (vs := vs) M F hr hb hp hd (hx σ) I2 r1 rz l1 l2 q2
/-- a class by name, called by position and keywords -/
structure KCalN (P : Program) (w : World) (K : PySem.W.Frag) (mg : Str → Option Value) (base : Heap) (n : Nat) (x : Str) (C : Addr) (np : Nat) (ks : List Str) (dd : List D) (gp : Perm3) (g : DSp) : Prop where
  ex : ∃ f fd ps us dvs, FnOk P w K mg base (L2.CX P w) n f fd ps (spD K g) ∧ Mk K C f ∧ mg x = some (.ref C) ∧ KwB K fd ps (np + 1) ks us gp ∧ PermOk @gp ∧ Vals dvs us ∧ ∀ L H, RpAll L K H dvs dd
def dMakeN (C : Addr) (np m : Nat) (g : DSp) (gp : Perm3) (dd : List D) (dl dk : DA) : DE := fun env L k x => dl env L (fun as L0 => dk env L0 (fun es L1 => as.length = np ∧ es.length = m ∧ ∀ q, ¬ inL L1 q → g (gp (.ptr q :: as) es dd) ((q, .obj C [] []) :: L1) (fun v L2 => v = .non ∧ k (.ptr q) L2) fun n L' => x n env L') x) x
theorem q_makeN {x : Str} {p : Pos} {n k np : Nat} {C : Addr} {ks : List Str} {g : DSp} {gp : Perm3} {dd : List D} {kws : List Keyword} (F : KCalN X.prog X.w X.K X.mg X.base n x C np ks dd gp g) (hn : n + 1 ≤ k) (hr : Room k X.A) (tk : Takes X Wx) (hg : Gl X x) (ha : QA X Wx (e :: es) dl) (hkw : QK X Wx kws dk)
    (hall : (backToKw pos (keywordEach kws X.env)).all (·.1.isSome) = true := by rfl) (hks : (backToKw pos (keywordEach kws X.env)).filterMap (·.1) = ks := by rfl) (hdb : (x == ("__debug__" : Str)) = false := by decide) (he : starEach (e :: es) X.env = (false, eval e X.env) :: starEach es X.env := by rfl)
    (hpl : ((backTo pos (starEach (e :: es) X.env)).any (·.1) || (backToKw pos (keywordEach kws X.env)).any (·.1.isNone)) = false := by rfl) : QE X Wx (.Call (.Name x p) (e :: es) kws pos) (dMakeN C np ks.length g gp dd dl dk) := by
  obtain ⟨f, fd, ps, us, dvs, F, hM, hm, hb, hp, hd, hdd⟩ := F.ex
  obtain ⟨ta, pa, sa⟩ := ha.ex
  obtain ⟨tk2, pk, sk⟩ := hkw.ex
  refine ⟨_, pe_makeWn hM F (hr.mono hn) hg hm hb hp hd (fun σ => passAt tk σ) pa pk hall hks hdb he hpl, fun σ H env L k x Q st h hk hx => ?_⟩
  refine sa σ H env L _ x _ st h (fun as L0 vs H0 h0 g0 j0 r0 => ?_) hx
  refine sk σ H0 env L0 _ x _ (st.go g0 j0) h0 (fun es L1 zs H1 h1 g1 j1 r1 => ?_) (hx.go g0)
  obtain ⟨l1, l2, h1⟩ := h1
  refine ⟨by rw [r0.length]; exact l1, by rw [r1.length]; exact l2, fun q dx hq hdx hne => ?_⟩
  obtain ⟨nq, j2, g2⟩ := made_jl (C := C) j1 hq hdx hne
  have rr : RpAll ((q, .obj C [] []) :: L1) X.K (upd (upd H1 dx (.own q)) q (.ins C dx [])) (gp (.ref q :: vs) zs dvs) (gp (.ptr q :: as) es dd) := paired_rp (hp.map (rp_paired (.cons (.ptr q) ((r0.go g1).go g2))) (rp_paired (r1.go g2)) (rp_paired (hdd _ _)))
  exact ⟨_, _, _, _, j2, rr, h1 q nq, fun d L' v H' ⟨ed, hkq⟩ g' j' r' => by subst ed; cases r'; exact ⟨rfl, hk _ L' _ H' hkq (((g0.trans g1).trans g2).trans g') j' (.ptr q)⟩, fun n L' a H' hxq g' j' r => hx n env L' a H' σ hxq (((g0.trans g1).trans g2).trans g') (st.go (((g0.trans g1).trans g2).trans g') j') r⟩
end
/-- one def, two contracts -/
theorem fn_or {P : Program} {w : World} {K : PySem.W.Frag} {mg : Str → Option Value} {base : Heap} {CX : CXT} {n : Nat} {f : Addr} {fd : FuncData} {ps : List Str} {g1 g2 : DSp} (F1 : FnOk P w K mg base CX n f fd ps (spD K g1)) (F2 : FnOk P w K mg base CX n f fd ps (spD K g2)) : FnOk P w K mg base CX n f fd ps (spD K fun ds L k x => g1 ds L k x ∨ g2 ds L k x) := by
  refine ⟨fun vs H Q E h => ?_, fun A outer s H args us vs Q E r e0 b rv h => ?_⟩
  · obtain ⟨ds, L, k, x, j, r, h, hk, hx⟩ := h
    rcases h with h | h
    · exact F1.len vs H Q E ⟨ds, L, k, x, j, r, h, hk, hx⟩
    · exact F2.len vs H Q E ⟨ds, L, k, x, j, r, h, hk, hx⟩
  · obtain ⟨ds, L, k, x, j, r2, h, hk, hx⟩ := h
    rcases h with h | h
    · exact F1.run A outer s H args us vs Q E r e0 b rv ⟨ds, L, k, x, j, r2, h, hk, hx⟩
    · exact F2.run A outer s H args us vs Q E r e0 b rv ⟨ds, L, k, x, j, r2, h, hk, hx⟩
end DL
namespace HNe
open PySem PySem.Spec PyProof.Rows PySem.SeqAt
section
variable {M : Model} {prog : Program} {w : World} {A : Around} {E : Value → Shared → Prop} {s : Shared} {K : PySem.W.Frag} {x C f L : Addr} {ox : Obj} {od : Option Obj} {h₀ : Heap} {m : Str → Option Value} {b tb : Value}
theorem ifBound_objNe {args : List Value} {Q : Option Value → Shared → Prop} (X : K.In s.heap) (I : PySem.W.InstAt s.heap x ox C od) (hs : PySem.W.findIn K (.ref C) "__ne__" = some (some (.builtin "object.__ne__")))
    (h : wpAny M A (call (.builtin "object.__ne__") (.ref x :: args)) (fun v => Q (some v)) E s) : wpAny M A (callSpecialIfBound? (.ref x) "__ne__" args) Q E s := by
  simp only [callSpecialIfBound?, bindSpecialIfBound?]
  refine wpAny_holding (wpAny_bind (wpAny_bind (wpAny_bind (I.type.here ((PySem.W.looks_findIn X hs).here ?_)))))
  refine wpAny_bind (wpAny_askSetting (wpAny_ite ?_))
  have fin : wpAny M A (call (.builtin "object.__ne__") ([.ref x] ++ args) >>= fun v => pure (some v)) Q E s := wpAny_bind (wpAny_mono h (fun v s' h' => wpAny_pure h') fun _ _ h' => h')
  split
  · exact wpAny_bind (wpAny_of_eq (F.cmp_object.ne.bind _) (wpAny_pure (by exact fin)))
  · exact wpAny_tryCatch (wpAny_bind (wpAny_of_eq (F.cmp_object.ne.bind _) (wpAny_pure (by exact fin))))
theorem objNe_entry (X : K.In s.heap) (I : PySem.W.InstAt s.heap x ox C od) (he : PySem.W.findIn K (.ref C) "__eq__" = some (some (.ref f))) (hf : PySem.W.isFn K (.ref f) = true) (hu : A.units < cLine) {Q : Fin → Shared → Prop}
    (h : wpAny (model prog w) A (call (.ref f) [.ref x, b]) (fun v s' => ∃ r, v = .bool r ∧ Q (.done (.ret (.bool (!r)))) s') E s) : wpAny (model prog w) A (Builtin.«object.__ne__» ⟨[.ref x, b], []⟩) Q E s := by
  unfold Builtin.«object.__ne__»
  repeat (first
    | with_reducible refine wpAny_cRoomFor hu ?_
    | (refine wpAny_bind (m := callSpecialIfBound? (.ref x) (Str.ofString "__eq__") [b])
        (PySem.W.ifBound_K X I he hf (wpAny_mono h (fun v s' hr => by
          obtain ⟨r, rfl, hq⟩ := hr
          repeat (first | exact hq | exact wpAny_pure hq | exact wpAny_truthy_bool hq | (refine wpAny_bind (m := truthy (.bool _)) (wpAny_truthy_bool ?_)) | wp_step)) fun _ _ e => e)))
    | wp_step)
theorem ne_K {Q : Value → Shared → Prop} (hu : A.units + 1 < cLine) (G : PyProof.Rows.Fr h₀ L s.heap m) (X₀ : K.In h₀) (I : PySem.W.InstAt s.heap x ox C od) (hb : PySem.W.Looks (model prog w) s.heap (typeOf b) tb) (hn : PySem.W.notFirst K C tb = true)
    (hne : PySem.W.findIn K (.ref C) "__ne__" = some (some (.builtin "object.__ne__"))) (hm : PySem.W.mroIn K C (.type "object") = some true) (he : PySem.W.findIn K (.ref C) "__eq__" = some (some (.ref f))) (hf : PySem.W.isFn K (.ref f) = true)
    (h : wpAny (model prog w) A.in1 (call (.ref f) [.ref x, b]) (fun v s' => ∃ r, v = .bool r ∧ Q (.bool (!r)) s') E s) : wpAny (model prog w) A (richCompare .NotEq (.ref x) b) Q E s := by
  have X := X₀.keeps G.keep
  have one : wpAny (model prog w) A (tryCompare (.ref x) (cmpInfo .NotEq).2.1 b) (fun r s' => ∃ v, r = some v ∧ Q v s') E s := by
    show wpAny (model prog w) A (tryCompare (.ref x) "__ne__" b) _ E s
    unfold tryCompare
    refine wpAny_bind (ifBound_objNe X I hne (wpAny_call (codeAny_call_builtin F.cmp_object.ne.plain F.cmpEntry_ne (PySem.W.check_slot F.cmpKind_ne F.cmpSplit_ne (I.type.andThen (PySem.W.looks_mroIn X hm)) (F.cmpArgs_ne _ _)
      (objNe_entry (A := A.in1) X I he hf hu (wpAny_mono h (fun v s' hv => ?_) fun _ _ e => e))))))
    obtain ⟨r, rfl, hq⟩ := hv
    exact ⟨r, rfl, wpAny_pure ⟨_, rfl, hq⟩⟩
  unfold richCompare
  simp only [oneThing_ref]
  refine wpAny_holding (wpAny_bind (wpAny_cRoomFor (Nat.lt_of_succ_lt hu) ?_))
  refine wpAny_bind (I.type.here (wpAny_bind (hb.here ?_)))
  split
  · rename_i q
    have e : PySem.W.subIn K tb (.ref C) = some false := by
      rcases Bool.or_eq_true_iff.mp hn with e | e
      · rw [beq_iff_eq.mp e] at q; simp at q
      · exact beq_iff_eq.mp e
    refine wpAny_bind ((PySem.W.looks_subIn X e).here ?_)
    simp only [Bool.false_eq_true, if_false]
    refine wpAny_bind (wpAny_mono one (fun r s' z => ?_) fun _ _ e => e)
    obtain ⟨v, rfl, hq⟩ := z
    exact wpAny_pure hq
  · refine wpAny_bind (wpAny_pure ?_)
    simp only [Bool.false_eq_true, if_false]
    refine wpAny_bind (wpAny_mono one (fun r s' z => ?_) fun _ _ e => e)
    obtain ⟨v, rfl, hq⟩ := z
    exact wpAny_pure hq
end
end HNe
namespace DL
open PySem PySem.Spec PyProof.Rows L2 RZ
section
variable {X : Cx} {Wx : WX} {a b c e o f : Expr} {es : List Expr} {da db dc de do' df : DE} {pos apos : Pos}
/-- what a class with an own __eq__ and no own __ne__ has -/
structure NeC (K : PySem.W.Frag) (C : Addr) : Prop where
  ne : PySem.W.findIn K (.ref C) "__ne__" = some (some (.builtin "object.__ne__"))
  ob : PySem.W.mroIn K C (.type "object") = some true
theorem op_neO {k : Nat} {f : Addr} {fd : FuncData} {C : Addr} {g : DSp} (F : FnOk X.prog X.w X.K X.mg X.base (L2.CX X.prog X.w) k f fd ["self", "other"] (spD X.K g)) (hM : Meth X.K C "__eq__" f) (hN : NeC X.K C) (hr : Room (k + 1) X.A) (hb : Binds X.K fd ["self", "other"] []) :
    OpR X (compareOp .NotEq) (fun x y H Q => ∃ a dx fs t, (x = .ref a ∧ H a = some (.ins C dx fs)) ∧ (TyX X.K H y t ∧ PySem.W.notFirst X.K C t = true) ∧ spD X.K g [.ref a, y] H (fun v H' => ∃ b : Bool, v = .bl b ∧ Q (.bl (!b)) H') (fun _ _ _ => False)) := fun pins s σ H x y v u Q I rx ry ⟨a, dx, fs, t, ⟨ea, hq⟩, ⟨ty, nf⟩, h⟩ => by
  subst ea
  cases rx
  obtain ⟨m, fr⟩ := I.fr
  obtain ⟨mA, O, _⟩ := ins_get I.hok hq
  obtain ⟨od, J, _⟩ := O.look
  obtain ⟨P, Z, p, _⟩ := kit_of I ry ty
  show wpAny (model X.prog X.w) X.A (richCompare .NotEq (.ref a) u) (EP X pins σ Q) X.xe s
  refine HNe.ne_K (show X.A.units + 1 < cLine from hr.in1.units0) fr I.ok.mod.kin J (Z.ty _ _ I.kIn p) nf hN.ne hN.ob hM.at_ hM.fn (wpAny_mono (run_in1 (us := [.ref a, u]) (vs := [.ref a, y]) F hr hb nox_cx I (.cons rfl (.cons ry .nil)) h) (fun u s' z => ?_) fun _ _ z => z)
  obtain ⟨v, H', I', rv', b, ev, q⟩ := z
  subst ev
  obtain rfl : u = Value.bool b := rv'
  exact ⟨b, rfl, .bl (!b), H', I', rfl, q⟩
def dNeO (K : PySem.W.Frag) (C : Addr) (g : DSp) (da db : DE) : DE := fun env L k x => da env L (fun a L1 => db env L1 (fun b L2 => match con L2 a with
  | .obj C' _ _ => C' = C ∧ tyOk K C L2 b ∧ g [a, b] L2 (fun d L3 => ∃ r : Bool, d = .bl r ∧ k (.bl (!r)) L3) (fun _ _ => False)
  | _ => False) x) x
theorem ne_both {K : PySem.W.Frag} {n k : Nat} {C : Addr} {g : DSp} (hK : X.K = K) (F : MCal X.prog X.w X.K X.mg X.base n C "__eq__" ["self", "other"] [] g) (hN : NeC X.K C) (hn : n + 1 ≤ k) (hr : Room k X.A) (ha : QE X Wx a da) (hb : QE X Wx b db) (hmk : behindInMarks .NotEq b = false := by rfl) : ∃ te : TE, (PE X (.Compare a [.NotEq] [b] pos) te ∧ PT X (.Compare a [.NotEq] [b] pos) (tB te)) ∧ SimE X.K Wx te (dNeO K C g da db) := by
  subst hK
  obtain ⟨f, fd, us, dvs, F, hC, hM, hbi, hd, hdd⟩ := F.ex
  obtain rfl : dvs = [] := by cases hdd [] (fun _ => none); rfl
  cases hd
  obtain ⟨ta, pa, sa⟩ := ha.ex
  obtain ⟨tb, pb, sb⟩ := hb.ex
  refine ⟨_, ⟨pe_cmpR (op_neO F hM hN (hr.mono hn) hbi) pa pb hmk, pt_cmpR (op_neO F hM hN (hr.mono hn) hbi) pa pb hmk⟩, fun σ H env L k x Q st h hk hx => ?_⟩
  refine sa σ H env L _ x _ st h (fun a L1 va H1 h1 g1 j1 r1 => ?_) hx
  refine sb σ H1 env L1 _ x _ (st.go g1 j1) h1 (fun o L2 vo H2 h2 g2 j2 r2 => ?_) (hx.go g1)
  split at h2
  · rename_i C' ns ds hc
    obtain ⟨rfl, ht, h2⟩ := h2
    obtain ⟨q, dx, vs, rfl, hq, hl, rv⟩ := con_obj j2 (r1.go g2) hc
    have hty : ∃ t, TyX X.K H2 vo t ∧ PySem.W.notFirst X.K C' t = true := by
      unfold tyOk at ht
      split at ht
      · rename_i hc2
        exact ⟨_, tyX_obj j2 r2 hc2 ht.1, ht.2⟩
      · split at ht
        · rename_i t e
          exact ⟨_, tyX_con j2 r2 e, ht⟩
        · exact ht.elim
    obtain ⟨t, h3, h4⟩ := hty
    exact ⟨q, dx, _, t, ⟨rfl, hq⟩, ⟨h3, h4⟩, [a, o], L2, _, _, j2, .cons (r1.go g2) (.cons r2 .nil), h2, fun d L3 v H3 h3 g3 j3 r3 => by
      obtain ⟨b, e, h3⟩ := h3
      subst e
      cases r3
      exact ⟨b, rfl, hk _ L3 _ H3 h3 ((g1.trans g2).trans g3) j3 (.bl !b)⟩, fun n L' a H' z _ _ _ => z⟩
  · exact h2.elim
theorem t_neO {K : PySem.W.Frag} {n k : Nat} {C : Addr} {g : DSp} (hK : X.K = K) (F : MCal X.prog X.w X.K X.mg X.base n C "__eq__" ["self", "other"] [] g) (hN : NeC X.K C) (hn : n + 1 ≤ k) (hr : Room k X.A) (ha : QE X Wx a da) (hb : QE X Wx b db) (hmk : behindInMarks .NotEq b = false := by rfl) : QT X Wx (.Compare a [.NotEq] [b] pos) (dB (dNeO K C g da db)) := by
  obtain ⟨te, h, s⟩ := ne_both (Wx := Wx) (pos := pos) hK F hN hn hr ha hb hmk
  exact ⟨_, h.2, sim_B s⟩
end
end DL
namespace DL
open PySem PySem.Spec PyProof.Rows L2 RZ
section
end
section
open PySem.W PySem.Builtin PySem.Builtin.Str PySem.Builtin.Float
variable {prog : Program} {w : World} {A : Around} {E : Value → Shared → Prop} {s : Shared} {t : Tok} {x : Str}
abbrev f6 : FormatSpec := { fill := 32, align := 60, width := some 6 }
end
section
end
end DL
namespace DL
open PySem PySem.Spec PyProof.Rows L2 RZ
section
end
end DL
namespace DL
open PySem PySem.Spec PyProof.Rows L2
section
end
section
end
section
end
end DL
namespace DL
open PySem PySem.Spec PyProof.Rows L2
section
end
end DL
namespace DL
open PySem PySem.Spec PyProof.Rows L2
section
variable {κ : Type} [DecidableEq κ]
def lookG {α : Type} : List κ → List α → κ → Option α
  | a :: ks, d :: ds, k => if a = k then some d else lookG ks ds k
  | _, _, _ => none
def setG {α : Type} (k : κ) (v : α) : List κ → List α → List α
  | a :: ks, d :: ds => (if a = k then v else d) :: setG k v ks ds
  | _, _ => []
def putGk (k : κ) (ks : List κ) : List κ := if ks.any (fun a => decide (a = k)) = true then ks else ks ++ [k]
def putGv {α : Type} (k : κ) (v : α) (ks : List κ) (vs : List α) : List α := if ks.any (fun a => decide (a = k)) = true then setG k v ks vs else vs ++ [v]
theorem look_valG : ∀ (ks : List κ) (vs : List V) (k : κ), valV (ks.zip vs) k = lookG ks vs k
  | [], _, _ => rfl
  | _ :: _, [], _ => rfl
  | a :: ks, v :: vs, k => by
    show ((((a, v) :: ks.zip vs).find? fun kv => decide (kv.1 = k)).map (·.2)) = if a = k then some v else lookG ks vs k
    rw [List.find?_cons]
    by_cases e : a = k
    · rw [decide_eq_true e, if_pos e]; rfl
    · rw [decide_eq_false e, if_neg e]; exact look_valG ks vs k
theorem look_rpG {L : Led} {K : PySem.W.Frag} {H : Hp} (k : κ) : ∀ (ks : List κ) {vs : List V} {ds : List D}, RpAll L K H vs ds → match lookG ks ds k with
    | some d => ∃ v, lookG ks vs k = some v ∧ Rp L K H v d
    | none => lookG ks vs k = none
  | [], _, _, _ => rfl
  | a :: ks, _, _, .nil => rfl
  | a :: ks, _, _, .cons (v := v) (vs := vs) (d := d) (ds := ds) h r => by
    have ih := look_rpG k ks r
    show match (if a = k then some d else lookG ks ds k) with | some d => ∃ v', (if a = k then some v else lookG ks vs k) = some v' ∧ Rp L K H v' d | none => (if a = k then some v else lookG ks vs k) = none
    by_cases e : a = k
    · rw [if_pos e, if_pos e]; exact ⟨v, rfl, h⟩
    · rw [if_neg e, if_neg e]; exact ih
theorem setG_len {α : Type} (k : κ) (v : α) : ∀ (ks : List κ) (vs : List α), ks.length = vs.length → (setG k v ks vs).length = vs.length
  | [], [], _ => rfl
  | [], _ :: _, h => by cases h
  | _ :: _, [], h => by cases h
  | a :: ks, x :: vs, h => by
    show (setG k v ks vs).length + 1 = vs.length + 1
    rw [setG_len k v ks vs (by simpa using h)]
theorem set_zipG (k : κ) (v : V) : ∀ (ks : List κ) (vs : List V), (ks.zip vs).map (fun kv => if kv.1 = k then (kv.1, v) else kv) = ks.zip (setG k v ks vs)
  | [], _ => rfl
  | _ :: _, [] => rfl
  | a :: ks, x :: vs => by
    show (if a = k then (a, v) else (a, x)) :: (ks.zip vs).map _ = (a, if a = k then v else x) :: ks.zip (setG k v ks vs)
    rw [set_zipG k v ks vs]
    by_cases e : a = k
    · rw [if_pos e, if_pos e]
    · rw [if_neg e, if_neg e]
theorem any_zipG (k : κ) : ∀ (ks : List κ) (vs : List V), ks.length = vs.length → ((ks.zip vs).any fun kv => decide (kv.1 = k)) = ks.any fun a => decide (a = k)
  | [], _, _ => rfl
  | _ :: _, [], h => by cases h
  | a :: ks, x :: vs, h => by
    show (decide (a = k) || (ks.zip vs).any _) = (decide (a = k) || ks.any _)
    rw [any_zipG k ks vs (by simpa using h)]
theorem putG_zip (k : κ) (v : V) (ks : List κ) (vs : List V) (h : ks.length = vs.length) : putK (ks.zip vs) k v = (putGk k ks).zip (putGv k v ks vs) ∧ (putGk k ks).length = (putGv k v ks vs).length := by
  unfold putK putGk putGv
  rw [any_zipG k ks vs h]
  by_cases e : (ks.any fun a => decide (a = k)) = true
  · rw [if_pos e, if_pos e, if_pos e]
    exact ⟨set_zipG k v ks vs, by rw [setG_len k v ks vs h]; exact h⟩
  · rw [if_neg e, if_neg e, if_neg e]
    refine ⟨?_, by rw [List.length_append, List.length_append, h]; rfl⟩
    rw [List.zip_append h]
    rfl
theorem setG_rp {L : Led} {K : PySem.W.Frag} {H : Hp} {v : V} {d : D} (r : Rp L K H v d) (k : κ) : ∀ (ks : List κ) {vs : List V} {ds : List D}, RpAll L K H vs ds → RpAll L K H (setG k v ks vs) (setG k d ks ds)
  | [], _, _, _ => .nil
  | _ :: _, _, _, .nil => .nil
  | a :: ks, _, _, .cons h t => by
    unfold setG
    by_cases e : a = k
    · rw [if_pos e, if_pos e]; exact .cons r (setG_rp r k ks t)
    · rw [if_neg e, if_neg e]; exact .cons h (setG_rp r k ks t)
theorem putGv_rp {L : Led} {K : PySem.W.Frag} {H : Hp} {v : V} {d : D} (r : Rp L K H v d) (k : κ) (ks : List κ) {vs : List V} {ds : List D} (h : RpAll L K H vs ds) : RpAll L K H (putGv k v ks vs) (putGv k d ks ds) := by
  unfold putGv
  split
  · exact setG_rp r k ks h
  · exact h.append (.cons r .nil)
end
theorem con_dt {L : Led} {K : PySem.W.Frag} {H : Hp} {v : V} {d : D} {ks : List (List Key)} {ds : List D} (j : JL K L H) (r : Rp L K H v d) (e : con L d = .dt ks ds) : ∃ a vs, v = .ref a ∧ L2.Rd H a (.dT (ks.zip vs)) ∧ ks.length = vs.length ∧ RpAll L K H vs ds := by
  cases d with
  | ptr a =>
    cases r
    have e : (L.lookup a).getD (.ptr a) = _ := e
    cases h : L.lookup a with
    | none => rw [h] at e; cases e
    | some c =>
      rw [h] at e
      have e2 : c = .dt ks ds := e
      subst e2
      obtain ⟨vs, h1, h2, h3⟩ := j.look h
      exact ⟨a, vs, rfl, .inl h1, h2, h3⟩
  | dt ks2 ds2 =>
    have e2 : D.dt ks2 ds2 = .dt ks ds := e
    cases e2
    cases r with
    | dt n h e r => exact ⟨_, _, rfl, h, e, r⟩
  | _ => cases e
/-- a tuple of ints and texts, made here -/
def keysD : List D → Option (List Key)
  | [] => some []
  | .int i :: r => (keysD r).map (Sum.inl i :: ·)
  | .str z :: r => (keysD r).map (Sum.inr z :: ·)
  | _ => none
theorem keysD_rp {L : Led} {K : PySem.W.Frag} {H : Hp} : ∀ {ds : List D} {ks : List Key} {vs : List V}, keysD ds = some ks → RpAll L K H vs ds → vs = ks.map kV
  | [], ks, _, h, .nil => by cases h; rfl
  | d :: ds, ks, _, h, .cons h1 h2 => by
    cases d <;> first | (cases h; done) | skip
    · unfold keysD at h
      obtain ⟨l, hl, rfl⟩ := Option.map_eq_some_iff.mp h
      cases h1
      rw [keysD_rp hl h2]
      rfl
    · unfold keysD at h
      obtain ⟨l, hl, rfl⟩ := Option.map_eq_some_iff.mp h
      cases h1
      rw [keysD_rp hl h2]
      rfl
section
variable {X : Cx} {Wx : WX} {a b c e o f : Expr} {es : List Expr} {da db dc de do' df : DE} {dl : DA} {pos apos : Pos}
def dKt (dl : DA) : DE := fun env L k x => dl env L (fun ds L1 => match keysD ds with
  | some ks => ds.length ≤ sizeLine ∧ k (.kt ks) L1
  | none => False) x
theorem q_kt {x1} (h : QA X Wx es dl) : QE X Wx (.Tuple es x1 pos) (dKt dl) := by
  obtain ⟨ta, pa, sa⟩ := h.ex
  refine ⟨_, pe_tup pa, fun σ H env L k x Q st h hk hx => ?_⟩
  refine sa σ H env L _ x _ st h (fun ds L1 vs H1 h1 g1 j1 r1 => ?_) hx
  split at h1
  · rename_i ks hks
    have e := keysD_rp hks r1
    refine ⟨by rw [r1.length]; exact h1.1, fun p hp => ?_⟩
    have s := same_new hp (.tup vs)
    exact hk _ L1 _ _ h1.2 (g1.trans (Go.same s)) (j1.same s) (.kt (j1.notIn hp) (by rw [← e]; exact upd_same))
  · exact h1.elim
theorem kt_of {L : Led} {K : PySem.W.Frag} {H : Hp} {v : V} {ks : List Key} (r : Rp L K H v (.kt ks)) : ∃ b, v = .ref b ∧ ¬ inL L b ∧ H b = some (.tup (ks.map kV)) := by
  cases r with
  | kt n h => exact ⟨_, rfl, n, h⟩
/-- {} with tuples as keys, onto the ledger -/
def dDNewT : DE := fun _ L k _ => ∀ p, ¬ inL L p → k (.ptr p) ((p, .dt [] []) :: L)
theorem q_dnewT : QE X Wx (.Dict [] [] pos) dDNewT := ⟨_, pe_dnewT, fun σ H env L k x Q st h hk hx p hp => by
  obtain ⟨j2, g2⟩ := st.2.push (d := .dt [] []) hp (o := .dT []) ⟨[], upd_same, rfl, .nil⟩
  exact hk _ _ _ _ (h p (st.2.notIn hp)) g2 j2 (.ptr p)⟩
def keyT : D → Option (List Key)
  | .kt ks => some ks
  | _ => none
theorem keyT_of {L : Led} {K : PySem.W.Frag} {H : Hp} {v : V} {d : D} {q : List Key} (r : Rp L K H v d) (h : keyT d = some q) : ∃ b, v = .ref b ∧ ¬ inL L b ∧ H b = some (.tup (q.map kV)) := by
  cases d <;> first | (cases h; done) | skip
  cases h
  exact kt_of r
/-- d.get(k, x) -/
def dGetT (do' de df : DE) : DE := fun env L k x => do' env L (fun o L1 => (match con L1 o with
  | .dt _ _ => True
  | _ => False) ∧ de env L1 (fun b L2 => df env L2 (fun c L3 => match con L3 o, keyT b with
  | .dt ks ds, some q => k ((lookG ks ds q).getD c) L3
  | _, _ => False) x) x) x
theorem q_getT (hu : X.A.units + 64 < cLine) {apos : Pos} (ho : QE X Wx o do') (he : QE X Wx e de) (hf : QE X Wx f df) (m : M2 X o "get" apos e f pos := by exact ⟨rfl, rfl, rfl, rfl⟩) : QE X Wx (.Call (.Attribute o "get" apos) [e, f] [] pos) (dGetT do' de df) := by
  obtain ⟨to, po, so⟩ := ho.ex
  obtain ⟨te, pe, se⟩ := he.ex
  obtain ⟨tf, pf, sf⟩ := hf.ex
  refine ⟨_, pe_dget2 (by omega) po pe pf m, fun σ H env L k x Q st h hk hx => ?_⟩
  refine so σ H env L _ x _ st h (fun o L1 vo H1 h1 g1 j1 r1 => ?_) hx
  obtain ⟨h0, h1⟩ := h1
  split at h0
  rotate_left
  · exact h0.elim
  rename_i ks0 ds0 hc0
  obtain ⟨p, vs0, rfl, hp0, hl0, rv0⟩ := con_dt j1 r1 hc0
  refine ⟨p, rfl, .inr ⟨_, hp0⟩, ?_⟩
  refine se σ H1 env L1 _ x _ (st.go g1 j1) h1 (fun b L2 vb H2 h2 g2 j2 r2 => ?_) (hx.go g1)
  refine sf σ H2 env L2 _ x _ (st.go (g1.trans g2) j2) h2 (fun c L3 vc H3 h3 g3 j3 r3 => ?_) (hx.go (g1.trans g2))
  split at h3
  · rename_i ks ds q hd hq
    obtain ⟨p1, vs, e1, hp, hl, rv⟩ := con_dt j3 ((r1.go g2).go g3) hd
    cases e1
    obtain ⟨b0, e2, _, hb⟩ := keyT_of (r2.go g3) hq
    subst e2
    have hr := look_rpG q ks rv
    refine ⟨_, .inr ⟨_, q, b0, hp, rfl, hb, rfl⟩, ?_⟩
    rw [look_valG]
    have gg := (g1.trans g2).trans g3
    cases hq2 : lookG ks ds q with
    | some d0 =>
      rw [hq2] at hr h3
      obtain ⟨v0, e3, rv3⟩ := hr
      rw [e3]
      exact hk _ L3 _ H3 h3 gg j3 rv3
    | none =>
      rw [hq2] at hr h3
      have hr : lookG ks vs q = none := hr
      rw [hr]
      exact hk _ L3 _ H3 h3 gg j3 r3
  · exact h3.elim
/-- d[k] -/
def gIxT : G2 := fun a b L k => match con L a, keyT b with
  | .dt ks ds, some q => match lookG ks ds q with
    | some d => k d
    | none => False
  | _, _ => False
theorem q_ixT (hu : X.A.units + 64 < cLine) (ha : QE X Wx a da) (hb : QE X Wx b db) (hs : NoSl b := by intro _ _; rfl) : QE X Wx (.Subscript a b pos) (dOp gIxT da db) := by
  obtain ⟨ta, pa, sa⟩ := ha.ex
  obtain ⟨tb, pb, sb⟩ := hb.ex
  refine ⟨_, pe_dget (by omega) pa pb hs, fun σ H env L k x Q st h hk hx => ?_⟩
  refine sa σ H env L _ x _ st h (fun a L1 va H1 h1 g1 j1 r1 => ?_) hx
  refine sb σ H1 env L1 _ x _ (st.go g1 j1) h1 (fun b L2 vb H2 h2 g2 j2 r2 => ?_) (hx.go g1)
  unfold gIxT at h2
  split at h2
  · rename_i ks ds q hd hq
    obtain ⟨p, vs, rfl, hp, hl, rv⟩ := con_dt j2 (r1.go g2) hd
    obtain ⟨b0, e2, _, hb0⟩ := keyT_of r2 hq
    subst e2
    have hr := look_rpG q ks rv
    split at h2
    · rename_i d hd2
      rw [hd2] at hr
      obtain ⟨v, e1, rv2⟩ := hr
      exact ⟨p, v, rfl, .inr ⟨_, q, b0, hp, rfl, hb0, by rw [look_valG]; exact e1.symm⟩, hk d L2 v H2 h2 (g1.trans g2) j2 rv2⟩
    · exact h2.elim
  · exact h2.elim
/-- d[k] = v, d of the ledger -/
def dStoreT (de do' di : DE) : DS := fun D env L => de env L (fun v L1 => do' env L1 (fun o L2 => di env L2 (fun i L3 => match o, keyT i with
  | .ptr p, some q => match L3.lookup p with
    | some (.dt ks ds) => ks.length < sizeLine ∧ D.nx env (setL L3 p (.dt (putGk q ks) (putGv q v ks ds)))
    | _ => False
  | _, _ => False) D.ex) D.ex) D.ex
theorem s_storeT {i : Expr} {di : DE} {ip : Pos} (hu : X.A.units + 64 < cLine) (he : QE X Wx e de) (ho : QE X Wx o do') (hi : QE X Wx i di) (hs : swapsWith e (some (.Subscript o i ip)) pos.line X.env = pure false := by rfl) : QS X Wx (.Assign [.Subscript o i ip] e pos) (dStoreT de do' di) := by
  obtain ⟨te, pe, se⟩ := he.ex
  obtain ⟨to, po, so⟩ := ho.ex
  obtain ⟨ti, pi, si⟩ := hi.ex
  refine ⟨_, ps_dput (by omega) po pi pe hs, fun σ H env L D2 D st h ok => ?_⟩
  refine se σ H env L _ _ _ st h (fun v L1 vv H1 h1 g1 j1 r1 => ?_) ok.ex
  refine so σ H1 env L1 _ _ _ (st.go g1 j1) h1 (fun o L2 vo H2 h2 g2 j2 r2 => ?_) (ok.ex.go g1)
  refine si σ H2 env L2 _ _ _ ((st.go g1 j1).go g2 j2) h2 (fun i L3 vi H3 h3 g3 j3 r3 => ?_) ((ok.ex.go g1).go g2)
  replace r2 := r2.go g3
  replace r1 := (r1.go g2).go g3
  split at h3
  · rename_i p q hq
    cases r2 with
    | ptr p =>
    obtain ⟨b0, e2, _, hb0⟩ := keyT_of r3 hq
    subst e2
    split at h3
    · rename_i ks ds hl
      obtain ⟨vs, e1, e2, rv⟩ := j3.look hl
      have hp := inL_of_lookup hl
      obtain ⟨z1, z2⟩ := putG_zip q vv ks vs e2
      refine ⟨p, _, rfl, .inr ⟨_, q, b0, e1, rfl, hb0, by rw [List.length_zip]; have := h3.1; omega, rfl⟩, ?_⟩
      rw [z1]
      have g4 : Go L3 (setL L3 p (.dt (putGk q ks) (putGv q v ks ds))) H3 (upd H3 p (.dT ((putGk q ks).zip (putGv q vv ks vs)))) := go_set hp
      have j4 : JL X.K (setL L3 p (.dt (putGk q ks) (putGv q v ks ds))) (upd H3 p (.dT ((putGk q ks).zip (putGv q vv ks vs)))) := j3.put hp ⟨_, upd_same, z2, putGv_rp (r1.go g4) q ks (rv.go g4)⟩
      exact ok.nx env _ σ _ h3.2 (((g1.trans g2).trans g3).trans g4) (st.go (((g1.trans g2).trans g3).trans g4) j4)
    · exact h3.elim
  · exact h3.elim
end
end DL
namespace DL
open PySem PySem.Spec PyProof.Rows L2
/-- the entries of a locked dict with tuples as keys -/
theorem frzE {X : Cx} {pp : List (Addr × Obj)} {σ : L2.St} {H : Hp} {s : Shared} {m : Addr} {om : Obj} {es : List (List Key × V)} (I : Inv X pp σ H s) (h : H m = some (.frz om (.dT es))) :
    (m == sysModules) = false ∧ es.length ≤ sizeLine ∧ ∃ (en : Array DictEntry) (ep : Nat), DT.Raw s.heap m en ep ∧ om.data = .dict en ep ∧ en.size = es.length ∧
      ∀ (i : Nat) (k : List Key) (v : V), es[i]? = some (k, v) → ∃ (hi : i < en.size) (q : Addr), en[i].key = .ref q ∧ H q = some (.tup (k.map kV)) ∧ RelV v en[i].val := by
  obtain ⟨at1, z, hs, xs, pr, o', en, ep, at2, ex, dat, he, _⟩ := I.hok m _ h
  have eo : o' = om := by rw [at1] at at2; exact (Option.some.inj at2).symm
  subst eo
  have l1 := size_of_entries he
  have l2 := Paired.length pr
  refine ⟨hs, z, en, ep, ⟨o', at1, ex, dat⟩, dat, by omega, fun i k v e => ?_⟩
  obtain ⟨b, hb, e1, e2, e3⟩ := L2.paired_get pr e
  have hq := entry_at he i
  rw [hb] at hq
  obtain ⟨hi, e4⟩ := Array.getElem?_eq_some_iff.mp hq
  refine ⟨hi, b.2.1, by rw [e4]; rfl, e2, ?_⟩
  rw [e4]
  exact e3
/-- the pairs of the locked dict at m, each a new tuple of the key's own tuple and the value -/
def ItT (m : Addr) (om : Obj) (es : List (List Key × V)) : L2.It :=
  ⟨fun i H => H m = some (.frz om (.dT es)) ∧ i < es.length, fun i H x H' => ∃ T q k v, es[i]? = some (k, v) ∧ x = .ref T ∧ H T = none ∧ H q = some (.tup (k.map kV)) ∧ H' = upd H T (.tup [.ref q, v]), fun i H => H m = some (.frz om (.dT es)) ∧ es.length ≤ i⟩
section
variable {P : Program} {w : World} {K : PySem.W.Frag} {om : Obj} {en : Array DictEntry} {ep : Nat} {m : Addr} {es : List (List Key × V)}
theorem turnT {els : List Expr} {kk : Nat} {tp : Pos} (it : Addr) (dat0 : om.data = .dict en ep) : Turn P w K (.Tuple els kk tp) (ItT m om es) [it] it (fun i h => ∃ a b, IsItemIter h it m i es.length ep a b) where
  mem := List.mem_singleton.mpr rfl
  obj := fun i h st b hb => by
    rw [List.mem_singleton.mp hb]
    exact st.elim fun _ z => z.elim fun _ e => ⟨_, e, fun v z => nomatch z⟩
  keep := fun i h h2 st k => st.elim fun a z => z.elim fun b e => ⟨a, b, k it List.mem_cons_self _ e⟩
  item := by
    intro X hP hw hK hc i pp s σ H E I hf st ⟨hd, hi⟩
    subst hP hw hK
    obtain ⟨hs, hz, en2, ep2, raw, dat, hsz, ent⟩ := frzE I hd
    obtain ⟨rfl, rfl⟩ := dict_ep dat0 dat
    obtain ⟨hi2, q, e1, e2, e3⟩ := ent i es[i].1 es[i].2 (List.getElem?_eq_getElem hi)
    obtain ⟨a, b, he⟩ := st
    rw [← hsz] at he
    have low : it < s.heap.objs.size := Heap.lt_size he
    refine DT.nextI he raw hi2 fun h1 out hT hz1 hk => ⟨_, rfl, wpAny_letOwnedTupleGo_items (s := { s with heap := h1 }) out fun h2 he2 sb => ?_⟩
    have hT2 := (sb.2 _ (Nat.ne_of_gt low)).trans hT
    have I1 : Inv X pp σ (upd H s.heap.objs.size (.tup [.ref q, es[i].2])) { s with heap := h2 } := by
      refine I.turnedNew (t' := s.toks) (ch := [it]) (fun c oc hc e => (sb.2 c fun z => hc (List.mem_singleton.mpr z)).trans (hk c oc (fun z => hc (List.mem_singleton.mpr z)) e)) hf (Nat.le_refl _) ?_
      refine ⟨by show 2 ≤ sizeLine; decide, [en2[i].key, en2[i].val], .cons ?_ (.cons e3 .nil), _, hT2, rfl, _, rfl⟩
      rw [e1]
      exact (rfl : Value.ref q = .ref q)
    refine ⟨.ref s.heap.objs.size, _, I1, rfl, ⟨_, q, _, _, List.getElem?_eq_getElem hi, rfl, I.hok.fresh (Nat.le_refl _), e2, rfl⟩, ⟨_, _, by rw [← hsz]; exact he2⟩, fun c hc => ?_⟩
    rw [List.mem_singleton.mp hc, upd_ne (Nat.ne_of_lt low)]
    exact (hf it List.mem_cons_self).1
  done := by
    intro X hP hw hK hc i pp s σ H E I hf st ⟨hd, hi⟩
    subst hP hw hK
    obtain ⟨f0, f1, f2, f3, f4, f5⟩ := hf it List.mem_cons_self
    obtain ⟨hs, hz, en2, ep2, raw, dat, hsz, ent⟩ := frzE I hd
    obtain ⟨rfl, rfl⟩ := dict_ep dat0 dat
    obtain ⟨a, b, he⟩ := st
    rw [← hsz] at he
    exact DT.endI (I.ok.hd hc) he raw (by omega) fun h1 eb => ⟨rfl, I.turned (t' := s.toks) (fun c oc hc e => eb c oc hc e) f0 f1 f3 f4 f5⟩
  self := fun A i s Q E st h => st.elim fun _ z => z.elim fun _ e => PySem.W.kcp_self e h
end
/-- the dict is locked by the loop itself (or was locked before), and stays so -/
def iItemsT (td : TE) : TI := fun σ H R => td σ H fun x H1 => ∃ m es, x = .ref m ∧ ((H1 m = some (.dT es) ∧ ∀ om, R (ItT m om es) (upd H1 m (.frz om (.dT es)))) ∨ ∃ om, H1 m = some (.frz om (.dT es)) ∧ R (ItT m om es) H1)
section
variable {X : Cx} {td : TE} {e : Expr} {apos cpos : Pos}
theorem pi_itemsT {els : List Expr} {kk : Nat} {tp : Pos} (he : PE X e td) (hbase : attributeBase e "items" X.env (eval e X.env) = eval e X.env := by rfl) (hline : (apos.endLine == cpos.line) = true := by rfl) :
    PI X (.Tuple els kk tp) (.Call (.Attribute e "items" apos) [] [] cpos) (iItemsT td) := by
  refine ⟨fun pp s σ H R I h => ?_⟩
  refine wpAny_Call_method (T := "dict") (id := "dict.items") hbase rfl hline F.plainAttrs_dict F.slot_dict_items F.type_dict_items (thn (he.run pp s σ H _ I h) fun u s1 ⟨x, H1, I1, rx, m, es, ex, q⟩ => ?_)
  subst ex
  obtain rfl : u = Value.ref m := rx
  obtain ⟨om, H2, I2, h2, q2⟩ : ∃ om H2, Inv X pp σ H2 s1 ∧ H2 m = some (.frz om (.dT es)) ∧ R (ItT m om es) H2 := by
    rcases q with ⟨h1, q⟩ | ⟨om, h1, q⟩
    · obtain ⟨om, I2⟩ := I1.lock h1 True.intro
      exact ⟨om, _, I2, upd_same, q om⟩
    · exact ⟨om, H1, I1, h1, q⟩
  obtain ⟨hs, hz, en, ep, raw, dat, hsz, ent⟩ := frzE I2 h2
  obtain ⟨t1, t2, _⟩ := isD_at I2 (.inr ⟨es, .inr ⟨om, h2⟩⟩)
  refine ⟨t1, t2, ?_⟩
  have I3 : Inv X pp σ H2 { s1 with heap := s1.heap.push { cls := .type "dict_items", data := .fields #[.ref m] } } := I2.kept (t' := s1.toks) fun b ob z => Heap.get?_push_of_some _ z
  have go : wpAny (model X.prog X.w) X.A (pyIter (.ref s1.heap.objs.size)) (PIE X pp σ (.Tuple els kk tp) R) X.xe { s1 with heap := s1.heap.push { cls := .type "dict_items", data := .fields #[.ref m] } } := by
    refine DT.iterI (d := m) ⟨_, Heap.get?_push_size _ rfl, rfl, rfl⟩ (raw.push _) (pi_one (tk := s1.toks) I3 _ (turnT _ dat) ⟨.none, .none, ?_⟩ q2)
    rw [← hsz]
    exact Heap.get?_push_size _ rfl
  show wpAny _ _ (callWith cpos (.builtin "dict.items") [.ref m] [] []) _ X.xe s1
  exact method_meetsIn F.slot_dict_items F.entry_dict_items rfl (PySem.evalArgs_none ⟨rfl, t1, F.args_dict_items_1 _, _, DT.meetsItems (es := en) (ep := ep) hs, raw, go⟩)
end
end DL
namespace DL
open PySem PySem.Spec PyProof.Rows L2
section
variable {L L' : Led} {K : PySem.W.Frag} {H H' : Hp} {m : Addr} {om : Obj}
/-- no tuple stands in the ledger -/
theorem JL.notTup (j : JL K L H) {q : Addr} {xs : List V} (h : H q = some (.tup xs)) : ¬ inL L q := fun hm => by
  obtain ⟨e, he, rfl⟩ := List.mem_map.mp hm
  have ow := j.own e.1 e.2 he
  cases hd : e.2 with
  | lst ds => rw [hd] at ow; obtain ⟨vs, e1, _⟩ := ow; rw [h] at e1; cases e1
  | dk ks ds => rw [hd] at ow; obtain ⟨vs, e1, _⟩ := ow; rw [h] at e1; cases e1
  | dt ks ds => rw [hd] at ow; obtain ⟨vs, e1, _⟩ := ow; rw [h] at e1; cases e1
  | obj C ns ds => rw [hd] at ow; obtain ⟨dx, vs, e1, _⟩ := ow; rw [h] at e1; cases e1
  | tab q => rw [hd] at ow; obtain ⟨ps, e1, _⟩ := ow; rw [h] at e1; cases e1
  | _ => rw [hd] at ow; exact ow.elim
theorem go_lock {es : List (List Key × V)} (n : ¬ inL L m) (h : H m = some (.dT es)) : Go L L H (upd H m (.frz om (.dT es))) := fun a o na e => by
  by_cases ha : a = m
  · subst ha
    rw [h] at e
    cases e
    exact ⟨na, .inr ⟨rfl, om, upd_same⟩⟩
  · exact ⟨na, .inl (by rw [upd_ne ha]; exact e)⟩
theorem JL.lock {es : List (List Key × V)} (j : JL K L H) (n : ¬ inL L m) (h : H m = some (.dT es)) : JL K L (upd H m (.frz om (.dT es))) :=
  ⟨j.nd, fun a d hm => Own.move (j.own a d hm) (go_lock n h) fun o e => by
    rw [upd_ne (fun z => n (by rw [← z]; exact List.mem_map.mpr ⟨(a, d), hm, rfl⟩))]
    exact e⟩
/-- the pairs of a dict -/
def itmsD : List (List Key) → List D → List D
  | k :: ks, d :: ds => .tup [.kt k, d] :: itmsD ks ds
  | _, _ => []
theorem itmsD_get : ∀ {ks : List (List Key)} {ds : List D} {i : Nat} {d : D}, (itmsD ks ds)[i]? = some d → ∃ k e, ks[i]? = some k ∧ ds[i]? = some e ∧ d = .tup [.kt k, e]
  | [], _, _, _, h => by simp [itmsD] at h
  | _ :: _, [], _, _, h => by simp [itmsD] at h
  | k :: ks, e :: ds, 0, d, h => by
    simp [itmsD] at h
    exact ⟨k, e, rfl, rfl, h.symm⟩
  | k :: ks, e :: ds, i + 1, d, h => by
    obtain ⟨x, y, h1, h2, h3⟩ := itmsD_get (ks := ks) (ds := ds) (i := i) (d := d) (by simpa [itmsD] using h)
    exact ⟨x, y, by simpa using h1, by simpa using h2, h3⟩
theorem itmsD_len : ∀ (ks : List (List Key)) (ds : List D), ks.length = ds.length → (itmsD ks ds).length = ks.length
  | [], [], _ => rfl
  | [], _ :: _, h => by cases h
  | _ :: _, [], h => by cases h
  | k :: ks, d :: ds, h => by
    show (itmsD ks ds).length + 1 = ks.length + 1
    rw [itmsD_len ks ds (by simpa using h)]
theorem it_itemsT {ks : List (List Key)} {vs : List V} {ds : List D} (n : ¬ inL L m) (hm : H m = some (.frz om (.dT (ks.zip vs)))) (hl : ks.length = vs.length) (r : RpAll L K H vs ds) : ItD K L H (ItT m om (ks.zip vs)) (itmsD ks ds) := fun L2 H2 g j i => by
  have hm2 := (g.at' n hm).2
  have hld : ks.length = ds.length := by rw [hl, r.length]
  have hlz : (ks.zip vs).length = ks.length := by rw [List.length_zip]; omega
  refine ⟨fun d hd => ?_, fun hi => ⟨hm2, by rw [itmsD_len ks ds hld] at hi; omega⟩⟩
  obtain ⟨k, e, q1, q2, rfl⟩ := itmsD_get hd
  obtain ⟨ve, hve, re⟩ := (r.go g).get q2
  have hik : i < ks.length := by
    rcases Nat.lt_or_ge i ks.length with z | z
    · exact z
    · rw [List.getElem?_eq_none z] at q1; cases q1
  refine ⟨⟨hm2, by omega⟩, fun x H3 yl => ?_⟩
  obtain ⟨T, q, k2, v2, e1, rfl, nT, hq, rfl⟩ := yl
  have e2 : (ks.zip vs)[i]? = some (k, ve) := by
    rw [List.getElem?_zip_eq_some]
    exact ⟨q1, hve⟩
  rw [e2] at e1
  cases e1
  have s := same_new nT (.tup [.ref q, ve])
  exact ⟨s, .tup (.inl ⟨j.notIn nT, .inl upd_same⟩) (.cons (.kt (j.notTup hq) (s q _ hq)) (.cons (re.go (Go.same s)) .nil))⟩
end
section
variable {X : Cx} {Wx : WX} {a b c e o f : Expr} {es : List Expr} {da db dc de do' df : DE} {dl : DA} {pos apos cpos : Pos}
def diItemsT (da : DE) : DI := fun env L k x => da env L (fun d L1 => match d with
  | .dt ks ds => k (itmsD ks ds) L1
  | _ => False) x
theorem i_itemsT {els : List Expr} {kk : Nat} {tp : Pos} (h : QE X Wx e da) (hbase : attributeBase e "items" X.env (eval e X.env) = eval e X.env := by rfl) (hline : (apos.endLine == cpos.line) = true := by rfl) :
    QI X Wx (.Tuple els kk tp) (.Call (.Attribute e "items" apos) [] [] cpos) (diItemsT da) := by
  obtain ⟨ta, pa, sa⟩ := h.ex
  refine ⟨_, pi_itemsT pa hbase hline, fun σ H env L k x R st h hk hx => ?_⟩
  refine sa σ H env L _ x _ st h (fun d L1 v H1 h1 g1 j1 r1 => ?_) hx
  split at h1
  · rename_i ks ds
    cases r1 with
    | dt n hm hl r =>
    rcases hm with hm | ⟨om, hm⟩
    · refine ⟨_, _, rfl, .inl ⟨hm, fun om => ?_⟩⟩
      have g2 := go_lock (om := om) n hm
      have j2 := j1.lock (om := om) n hm
      exact hk _ L1 _ _ h1 (g1.trans g2) j2 (it_itemsT n upd_same hl (r.go g2))
    · exact ⟨_, _, rfl, .inr ⟨om, hm, hk _ L1 _ H1 h1 g1 j1 (it_itemsT n hm hl r)⟩⟩
  · exact h1.elim
def gListT : GC := fun ds L k => match ds with
  | [d] => match con L d with
    | .dt ks _ => k (.lst (ks.map D.kt))
    | _ => False
  | _ => False
theorem keys_rp {L : Led} {K : PySem.W.Frag} {H : Hp} (j : JL K L H) : ∀ {ks : List (List Key)} {vs : List V} {bs : List Addr}, ks.length = vs.length → IsKeys H (ks.zip vs) bs → RpAll L K H (bs.map V.ref) (ks.map D.kt)
  | [], [], _, _, h => by cases h; exact .nil
  | [], _ :: _, _, h, _ => by cases h
  | _ :: _, [], _, h, _ => by cases h
  | k :: ks, v :: vs, _, hl, h => by
    cases h with
    | cons h t => exact .cons (.kt (j.notTup h) h) (keys_rp j (by simpa using hl) t)
theorem cq_listT (hc : X.calm = true) : CQ X (.type "list") gListT := ⟨_, call_list_dT hc, fun H L vs ds k Q j r h hk => by
  unfold gListT at h
  split at h
  · cases r with
    | cons r1 r2 =>
      cases r2
      split at h
      · rename_i ks us hd
        obtain ⟨a, ws, rfl, hs, hl, rv⟩ := con_dt j r1 hd
        refine ⟨a, _, rfl, hs, fun p bs hp hb => ?_⟩
        have s := same_new hp (.lst (bs.map V.ref))
        exact hk _ _ _ h s (.lst (j.notIn hp) upd_same ((keys_rp j hl hb).go (Go.same s)))
      · exact h.elim
  · exact h.elim⟩
end
end DL
namespace DL
open PySem PySem.Spec PyProof.Rows L2
/-- the entries of a dict with tuples as keys, locked or not -/
theorem anyE {X : Cx} {pp : List (Addr × Obj)} {σ : L2.St} {H : Hp} {s : Shared} {m : Addr} {es : List (List Key × V)} (I : Inv X pp σ H s) (h : L2.Rd H m (.dT es)) :
    (m == sysModules) = false ∧ es.length ≤ sizeLine ∧ ∃ (en : Array DictEntry) (ep : Nat), DT.Raw s.heap m en ep ∧ en.size = es.length ∧
      ∀ (i : Nat) (k : List Key) (v : V), es[i]? = some (k, v) → ∃ (hi : i < en.size) (q : Addr), en[i].key = .ref q ∧ H q = some (.tup (k.map kV)) ∧ RelV v en[i].val := by
  obtain ⟨z, hs, xs, pr, o, en, ep, at1, ex, dat, he, _⟩ := dt_rd I.hok h
  have l1 := size_of_entries he
  have l2 := Paired.length pr
  refine ⟨hs, z, en, ep, ⟨o, at1, ex, dat⟩, by omega, fun i k v e => ?_⟩
  obtain ⟨b, hb, e1, e2, e3⟩ := L2.paired_get pr e
  have hq := entry_at he i
  rw [hb] at hq
  obtain ⟨hi, e4⟩ := Array.getElem?_eq_some_iff.mp hq
  refine ⟨hi, b.2.1, by rw [e4]; rfl, e2, ?_⟩
  rw [e4]
  exact e3
theorem vals_ix : ∀ (xs : List V) (ys : List Value), xs.length = ys.length → (∀ (i : Nat) (x : V) (y : Value), xs[i]? = some x → ys[i]? = some y → RelV x y) → Vals xs ys
  | [], [], _, _ => .nil
  | [], _ :: _, h, _ => by cases h
  | _ :: _, [], h, _ => by cases h
  | x :: xs, y :: ys, h, q => .cons (q 0 x y rfl rfl) (vals_ix xs ys (by simpa using h) fun i a b e1 e2 => q (i + 1) a b (by simpa using e1) (by simpa using e2))
/-- list(e.values()) -/
def tListVals (te : TE) : TE := fun σ H Q => te σ H fun x H1 => ∃ (d : Addr) (es : List (List Key × V)), x = .ref d ∧ L2.Rd H1 d (.dT es) ∧ ∀ p, H1 p = none → Q (.ref p) (upd H1 p (.lst (es.map (·.2))))
section
variable {X : Cx} {e : Expr} {te : TE} {p apos cpos pos : Pos}
theorem pe_listVals (hc : X.calm = true) (he : PE X e te) (hg : Gl X "list") (hm : X.mg "list" = none) (hbase : attributeBase e "values" X.env (eval e X.env) = eval e X.env := by rfl) (hline : (apos.endLine == cpos.line) = true := by rfl)
    (hs : starEach [.Call (.Attribute e "values" apos) [] [] cpos] X.env = (false, eval (.Call (.Attribute e "values" apos) [] [] cpos) X.env) :: starEach [] X.env := by rfl) :
    PE X (.Call (.Name "list" p) [.Call (.Attribute e "values" apos) [] [] cpos] [] pos) (tListVals te) := by
  refine ⟨fun pp s σ H Q I hq => wpAny_Call_Name_kw (ld_blt I hg hm boot_list (callWith_type1 ?_ hs rfl))⟩
  rw [hs]
  show wpAny _ _ (spliced ((false, eval (.Call (.Attribute e "values" apos) [] [] cpos) X.env) :: backTo pos (starEach [] X.env))) _ _ s
  refine Calls.spliced_cons (wpAny_Call_method (T := "dict") (id := "dict.values") hbase rfl hline F.plainAttrs_dict F.slot_dict_values F.type_dict_values (thn (he.run pp s σ H _ I hq) fun u s1 ⟨x, H1, I1, rx, d, es, ex, hd, q⟩ => ?_))
  subst ex
  obtain rfl : u = Value.ref d := rx
  obtain ⟨nm, z, en, ep, raw, hl, ent⟩ := anyE I1 hd
  obtain ⟨o1, g1, x1, dat1⟩ := id raw
  refine ⟨raw.typeIs, fun b eb => by cases eb; exact ⟨o1, g1, x1.2.1⟩, ?_⟩
  show wpAny _ _ (callWith cpos (.builtin "dict.values") [.ref d] [] []) _ X.xe s1
  refine method_meetsIn F.slot_dict_values F.entry_dict_values rfl (PySem.evalArgs_none ⟨rfl, raw.typeIs, F.args_dict_values_1 _, _, meets_dict_values_raw d nm, ⟨⟨en, ep, raw⟩, ?_⟩⟩)
  refine Calls.spliced_nil (PySem.W.kdl_call (KdlSrc.rawValues (es := en) (ep := ep)) (I1.ok.hd hc) ⟨⟨_, Heap.get?_push_size _ rfl, rfl, rfl⟩, raw.push _⟩ (by omega) fun h2 tk acc c kp at2 hi => ?_)
  have kp1 : ∀ b o, s1.heap.get? b = some o → h2.get? b = some o := fun b o eo => kp b o (Heap.get?_push_of_some _ eo)
  have rv : Vals (es.map (·.2)) acc.toList := by
    refine vals_ix _ _ (by have h0 := hi.1; have h4 := Array.length_toList (xs := acc); rw [List.length_map]; omega) fun i x y hx hy => ?_
    rw [List.getElem?_map] at hx
    obtain ⟨kv, e1, rfl⟩ := Option.map_eq_some_iff.mp hx
    obtain ⟨h1, q1, _, _, r3⟩ := ent i kv.1 kv.2 e1
    obtain ⟨h3, e3⟩ := hi.2 i y (by rw [← Array.getElem?_toList]; exact hy)
    rw [e3]
    exact r3
  refine ⟨.ref _, _, I1.laid (t' := tk) (o := .lst (es.map (·.2))) kp1 (Heap.size_push s1.heap _ ▸ Nat.le_succ _) ⟨by rw [List.length_map]; exact z, acc.toList, c, rv, ?_⟩, rfl, q _ (I1.hok.fresh (Heap.size_push s1.heap _ ▸ Nat.le_succ _))⟩
  rw [Array.toArray_toList]
  exact at2
end
section
variable {P : Program} {w : World} {A : Around} {E : Value → Shared → Prop} {s : Shared} {v d : Addr} {en : Array DictEntry} {ep : Nat}
/-- the new list at l filled from the items' view at v -/
theorem fillI {R : Result → Shared → Prop} (calm : A.handled = none) (view : s.heap.IsItemsView v d) (raw : DT.Raw s.heap d en ep) (l : Addr) (nv : l ≠ v) (nd : d ≠ l) (at0 : s.heap.get? l = some { cls := .type "list", data := .seq #[] }) (room : en.size ≤ sizeLine)
    (out : ∀ h2 tk acc c as, (∀ b o, b ≠ l → s.heap.get? b = some o → h2.get? b = some o) → h2.get? l = some { cls := .type "list", dict := none, data := .seq acc c, slots := #[] } → as.length = en.size → DT.Made en l h2 as → acc.toList = as.map Value.ref → R (.ok (.ret .none)) { s with heap := h2, toks := tk }) :
    wpAny (model P w) A.in1 (Builtin.«list.__init__» ⟨[.ref l, .ref v], []⟩) (fun f s2 => match f with | .done g => R (.ok g) s2 | .again c2 => c2.quiet = true ∧ codeAny (model P w) A c2 R s2) (fun x s2 => R (.error x) s2) s := by
  show wpAny _ _ (Builtin.List.listItems (.ref l) >>= fun old => Builtin.List.listUpdate (.ref l) (fun _ => #[]) >>= fun _ => letGo old.toList.reverse >>= fun _ => Builtin.List.listExtendWith (.ref l) (.ref v) .none) _ _ s
  refine wpAny_bind ?_
  unfold Builtin.List.listItems
  refine wpAny_bind (wpAny_seqItems at0 rfl (wpAny_pure (wpAny_bind ?_)))
  show wpAny _ _ (updateSeq l fun _ => #[]) _ _ s
  refine wpAny_updateSeq at0 rfl ?_
  refine wpAny_bind (wpAny_letGo ?_)
  have at1 := Heap.get?_update_self (Obj.mapSeq fun _ => (#[] : Array Value)) at0 rfl
  have far : ∀ b o, b ≠ l → s.heap.get? b = some o → (s.heap.update l (Obj.mapSeq fun _ => (#[] : Array Value))).get? b = some o := fun b o nb eb => by
    rw [Heap.get?_update_other _ _ (Ne.symm nb)]
    exact eb
  obtain ⟨ov, vat, vx⟩ := id view
  refine DT.extI (es := en) (ep := ep) calm ⟨ov, far v ov nv.symm vat, vx⟩ (raw.at' fun o eo => far d o nd eo) l nv nd .none _ at1 (fun h2 tk acc c as kp at2 hl made ea => out h2 tk acc c as (fun b o nb eb => kp b o nb (far b o nb eb)) at2 hl (made.low (Nat.le_of_lt (Heap.lt_size at1))) ea) room
theorem listI {Q : Value → Shared → Prop} (calm : A.handled = none) (view : s.heap.IsItemsView v d) (raw : DT.Raw s.heap d en ep) (room : en.size ≤ sizeLine)
    (out : ∀ h2 tk acc c as, (∀ b o, s.heap.get? b = some o → h2.get? b = some o) → h2.get? s.heap.objs.size = some { cls := .type "list", dict := none, data := .seq acc c, slots := #[] } → as.length = en.size → DT.Made en s.heap.objs.size h2 as → acc.toList = as.map Value.ref → Q (.ref s.heap.objs.size) { s with heap := h2, toks := tk }) :
    wpAny (model P w) A (call (.type "list") [.ref v]) Q E s := by
  have hv : v < s.heap.objs.size := view.elim fun _ z => Heap.lt_size z.1
  refine callType_codes (Q₁ := fun x s2 => x = .ref s.heap.objs.size ∧ s2 = { s with heap := s.heap.push { cls := .type "list", data := .seq #[] } }) PySem.F.called_list (PySem.F.typeCall_list_1 _) PySem.F.entry_list_init (code_list_new _ ⟨rfl, rfl⟩) fun x s2 ⟨ex, es2⟩ => ?_
  subst ex es2
  have at0 : (s.heap.push { cls := .type "list", data := .seq #[] }).get? s.heap.objs.size = some { cls := .type "list", data := .seq #[] } := Heap.get?_push_size _ rfl
  refine ⟨⟨_, at0, rfl⟩, PySem.F.args_list_init_2 _ _, fillI (A := A.in1) (ep := ep) calm (view.elim fun ov z => ⟨ov, Heap.get?_push_of_some _ z.1, z.2⟩) (raw.push _) _ (Nat.ne_of_gt hv) (Nat.ne_of_lt raw.lt) at0 room fun h2 tk acc c as kp at2 hl made ea => ?_⟩
  exact ⟨rfl, out h2 tk acc c as (fun b o eb => kp b o (Nat.ne_of_lt (Heap.lt_size eb)) (Heap.get?_push_of_some _ eb)) at2 hl made ea⟩
end
/-- the pair at t of a key's own tuple and a value -/
def PairAt (H : Hp) (t : Addr) (kv : List Key × V) : Prop := ∃ q, H t = some (.tup [.ref q, kv.2]) ∧ H q = some (.tup (kv.1.map kV))
/-- list(e.items()) -/
def tListItmT (te : TE) : TE := fun σ H Q => te σ H fun x H1 => ∃ (d : Addr) (es : List (List Key × V)), x = .ref d ∧ L2.Rd H1 d (.dT es) ∧
  ∀ (H2 : Hp) (p : Addr) (ts : List Addr), (∀ b o, H1 b = some o → H2 b = some o) → H1 p = none → (∀ t ∈ ts, H1 t = none) → H2 p = some (.lst (ts.map V.ref)) → Paired (PairAt H2) ts es → Q (.ref p) H2
theorem paired_of {α β : Type} {F : α → β → Prop} : ∀ (xs : List α) (ys : List β), xs.length = ys.length → (∀ (i : Nat) (x : α) (y : β), xs[i]? = some x → ys[i]? = some y → F x y) → Paired F xs ys
  | [], [], _, _ => .nil
  | [], _ :: _, h, _ => by cases h
  | _ :: _, [], h, _ => by cases h
  | x :: xs, y :: ys, h, q => .cons (q 0 x y rfl rfl) (paired_of xs ys (by simpa using h) fun i a b e1 e2 => q (i + 1) a b (by simpa using e1) (by simpa using e2))
section
variable {X : Cx} {e : Expr} {te : TE} {p apos cpos pos : Pos}
theorem pe_listItmT (hc : X.calm = true) (he : PE X e te) (hg : Gl X "list") (hm : X.mg "list" = none) (hbase : attributeBase e "items" X.env (eval e X.env) = eval e X.env := by rfl) (hline : (apos.endLine == cpos.line) = true := by rfl)
    (hs : starEach [.Call (.Attribute e "items" apos) [] [] cpos] X.env = (false, eval (.Call (.Attribute e "items" apos) [] [] cpos) X.env) :: starEach [] X.env := by rfl) :
    PE X (.Call (.Name "list" p) [.Call (.Attribute e "items" apos) [] [] cpos] [] pos) (tListItmT te) := by
  refine ⟨fun pp s σ H Q I hq => wpAny_Call_Name_kw (ld_blt I hg hm boot_list (callWith_type1 ?_ hs rfl))⟩
  rw [hs]
  show wpAny _ _ (spliced ((false, eval (.Call (.Attribute e "items" apos) [] [] cpos) X.env) :: backTo pos (starEach [] X.env))) _ _ s
  refine Calls.spliced_cons (wpAny_Call_method (T := "dict") (id := "dict.items") hbase rfl hline F.plainAttrs_dict F.slot_dict_items F.type_dict_items (thn (he.run pp s σ H _ I hq) fun u s1 ⟨x, H1, I1, rx, d, es, ex, hd, q⟩ => ?_))
  subst ex
  obtain rfl : u = Value.ref d := rx
  obtain ⟨nm, z, en, ep, raw, hl, ent⟩ := anyE I1 hd
  obtain ⟨o1, g1, x1, dat1⟩ := id raw
  refine ⟨raw.typeIs, fun b eb => by cases eb; exact ⟨o1, g1, x1.2.1⟩, ?_⟩
  show wpAny _ _ (callWith cpos (.builtin "dict.items") [.ref d] [] []) _ X.xe s1
  have room : en.size ≤ sizeLine := by omega
  refine method_meetsIn F.slot_dict_items F.entry_dict_items rfl (PySem.evalArgs_none ⟨rfl, raw.typeIs, F.args_dict_items_1 _, _, DT.meetsItems (es := en) (ep := ep) nm, raw, ?_⟩)
  refine Calls.spliced_nil (listI (I1.ok.hd hc) ⟨_, Heap.get?_push_size _ rfl, rfl, rfl⟩ (raw.push _) room fun h2 tk acc c as kp at2 hla made ea => ?_)
  have up : s1.heap.objs.size ≤ (s1.heap.push ({ cls := .type "dict_items", data := .fields #[.ref d] } : Obj)).objs.size := by
    rw [Heap.size_push]
    exact Nat.le_succ _
  generalize hS : (s1.heap.push ({ cls := .type "dict_items", data := .fields #[.ref d] } : Obj)).objs.size = S at at2 made up
  have kp1 : ∀ b o, s1.heap.get? b = some o → h2.get? b = some o := fun b o eo => kp b o (Heap.get?_push_of_some _ eo)
  have hac : acc = (as.map Value.ref).toArray := by rw [← ea, Array.toArray_toList]
  rw [hac] at at2
  have nS : H1 S = none := I1.hok.fresh up
  have I2 : Inv X pp σ (upd H1 S (.lst (as.map V.ref))) { s1 with heap := h2, toks := tk } := I1.laid (t' := tk) kp1 up ⟨by rw [List.length_map, hla]; exact room, as.map Value.ref, c, vals_refs as, at2⟩
  have dif : as.Nodup := List.Pairwise.imp (fun z => Nat.ne_of_lt z) made.rise
  have low : ∀ a ∈ as, s1.heap.objs.size ≤ a := fun a ha => Nat.le_trans up (Nat.le_of_lt (made.above a ha))
  have pr : ∀ (j : Nat) (b : Addr), as[j]? = some b → ∃ k y q, es[j]? = some (k, y) ∧ H1 q = some (.tup (k.map kV)) ∧ ∃ us, Vals [.ref q, y] us ∧ h2.get? b = some { cls := .type "tuple", data := .seq us.toArray } := by
    intro j b hj
    obtain ⟨o3, e3, e4⟩ := made.pairs j b hj
    obtain ⟨hi, e5⟩ := Array.getElem?_eq_some_iff.mp e3
    obtain ⟨hi2, q, r1, r2, r3⟩ := ent j es[j].1 es[j].2 (List.getElem?_eq_getElem (by omega))
    refine ⟨_, _, q, List.getElem?_eq_getElem (by omega), r2, [o3.key, o3.val], .cons ?_ (.cons ?_ .nil), e4⟩
    · rw [← e5, r1]
      exact (rfl : Value.ref q = .ref q)
    · rw [← e5]
      exact r3
  obtain ⟨H2, I3, g, got⟩ := DX.takeT (P := fun b ws => ∃ (j : Nat) (k : List Key) (y : V) (q : Addr), as[j]? = some b ∧ es[j]? = some (k, y) ∧ ws = [.ref q, y] ∧ H1 q = some (.tup (k.map kV))) I1 as _ I2 dif fun b hb => by
    obtain ⟨j, hj⟩ := List.mem_iff_getElem?.mp hb
    obtain ⟨k, y, q, f1, f2, us, f3, f4⟩ := pr j b hj
    refine ⟨low b hb, ?_, [.ref q, y], ⟨j, k, y, q, hj, f1, rfl, f2⟩, fun H3 => ⟨by show 2 ≤ sizeLine; decide, us, f3, _, f4, rfl, _, rfl⟩⟩
    rw [upd_ne (Nat.ne_of_gt (made.above b hb))]
    exact I1.hok.fresh (low b hb)
  have gr : ∀ b o, H1 b = some o → H2 b = some o := fun b o eo => g b o (by rw [upd_ne (fun z => by rw [z, nS] at eo; cases eo)]; exact eo)
  refine ⟨.ref S, H2, I3, rfl, q H2 S as gr nS (fun t ht => I1.hok.fresh (low t ht)) (g _ _ upd_same) (paired_of _ _ (by omega) fun i t kv e1 e2 => ?_)⟩
  obtain ⟨ws, ⟨j, k, y, q2, f1, f2, rfl, f4⟩, f5⟩ := got t (List.mem_of_getElem? e1)
  have ij : i = j := (List.getElem?_inj (List.getElem?_eq_some_iff.mp e1).1 dif).mp (e1.trans f1.symm)
  subst ij
  rw [e2] at f2
  cases f2
  exact ⟨q2, f5, gr _ _ f4⟩
end
end DL
namespace DL
open PySem PySem.Spec PyProof.Rows L2
section
variable {X : Cx} {Wx : WX} {a b c e o f : Expr} {es : List Expr} {da db dc de do' df : DE} {dl : DA} {pos apos cpos p : Pos}
def dListVals (da : DE) : DE := fun env L k x => da env L (fun d L1 => match con L1 d with
  | .dt _ ds => k (.lst ds) L1
  | _ => False) x
theorem q_listVals (hc : X.calm = true) (h : QE X Wx e da) (hg : Gl X "list") (hm : X.mg "list" = none) (hbase : attributeBase e "values" X.env (eval e X.env) = eval e X.env := by rfl) (hline : (apos.endLine == cpos.line) = true := by rfl)
    (hs : starEach [.Call (.Attribute e "values" apos) [] [] cpos] X.env = (false, eval (.Call (.Attribute e "values" apos) [] [] cpos) X.env) :: starEach [] X.env := by rfl) :
    QE X Wx (.Call (.Name "list" p) [.Call (.Attribute e "values" apos) [] [] cpos] [] pos) (dListVals da) := by
  obtain ⟨ta, pa, sa⟩ := h.ex
  refine ⟨_, pe_listVals hc pa hg hm hbase hline hs, fun σ H env L k x R st h hk hx => ?_⟩
  refine sa σ H env L _ x _ st h (fun d L1 v H1 h1 g1 j1 r1 => ?_) hx
  split at h1
  · rename_i ks ds hd
    obtain ⟨q, vs, rfl, hq, hl, rv⟩ := con_dt j1 r1 hd
    refine ⟨q, _, rfl, hq, fun p hp => ?_⟩
    have ez : (ks.zip vs).map (·.2) = vs := List.map_snd_zip (by omega)
    rw [ez]
    have s := same_new hp (.lst vs)
    exact hk _ L1 _ _ h1 (g1.trans (Go.same s)) (j1.same s) (.lst (j1.notIn hp) upd_same (rv.go (Go.same s)))
  · exact h1.elim
def dListItmT (da : DE) : DE := fun env L k x => da env L (fun d L1 => match con L1 d with
  | .dt ks ds => k (.lst (itmsD ks ds)) L1
  | _ => False) x
theorem itms_rp {L : Led} {K : PySem.W.Frag} {H H1 : Hp} (j : JL K L H1) (s : Same H1 H) : ∀ {ks : List (List Key)} {vs : List V} {ds : List D} {ts : List Addr}, ks.length = vs.length → RpAll L K H1 vs ds → (∀ t ∈ ts, H1 t = none) → Paired (PairAt H) ts (ks.zip vs) → RpAll L K H (ts.map V.ref) (itmsD ks ds)
  | [], [], _, _, _, .nil, _, h => by cases h; exact .nil
  | [], _ :: _, _, _, h, _, _, _ => by cases h
  | _ :: _, [], _, _, h, _, _, _ => by cases h
  | k :: ks, v :: vs, _, _, hl, .cons r rs, hn, h => by
    cases h with
    | cons h t =>
      obtain ⟨q, e1, e2⟩ := h
      have j2 := j.same s
      exact .cons (.tup (.inl ⟨j.notIn (hn _ List.mem_cons_self), .inl e1⟩) (.cons (.kt (j2.notTup e2) e2) (.cons (r.go (Go.same s)) .nil))) (itms_rp j s (by simpa using hl) rs (fun t ht => hn t (List.mem_cons_of_mem _ ht)) t)
theorem q_listItmT (hc : X.calm = true) (h : QE X Wx e da) (hg : Gl X "list") (hm : X.mg "list" = none) (hbase : attributeBase e "items" X.env (eval e X.env) = eval e X.env := by rfl) (hline : (apos.endLine == cpos.line) = true := by rfl)
    (hs : starEach [.Call (.Attribute e "items" apos) [] [] cpos] X.env = (false, eval (.Call (.Attribute e "items" apos) [] [] cpos) X.env) :: starEach [] X.env := by rfl) :
    QE X Wx (.Call (.Name "list" p) [.Call (.Attribute e "items" apos) [] [] cpos] [] pos) (dListItmT da) := by
  obtain ⟨ta, pa, sa⟩ := h.ex
  refine ⟨_, pe_listItmT hc pa hg hm hbase hline hs, fun σ H env L k x R st h hk hx => ?_⟩
  refine sa σ H env L _ x _ st h (fun d L1 v H1 h1 g1 j1 r1 => ?_) hx
  split at h1
  · rename_i ks ds hd
    obtain ⟨q, vs, rfl, hq, hl, rv⟩ := con_dt j1 r1 hd
    refine ⟨q, _, rfl, hq, fun H2 p ts s hp hts at2 pr => ?_⟩
    exact hk _ L1 _ _ h1 (g1.trans (Go.same s)) (j1.same s) (.lst (j1.notIn hp) at2 (itms_rp j1 s hl rv hts pr))
  · exact h1.elim
def diRev (da : DE) : DI := fun env L k x => da env L (fun d L1 => match d with
  | .lst ds => k ds.reverse L1
  | _ => False) x
theorem it_rev {K : PySem.W.Frag} {L : Led} {H : Hp} {q : Addr} {vs : List V} {ds : List D} (h : SqL' L K H q vs) (r : RpAll L K H vs ds) : ItD K L H (Itv K q vs.length) ds.reverse := fun L2 H2 g j i => by
  have h' := (g.sqL h).sq
  have r' := r.go g
  have hl := r.length
  refine ⟨fun d hd => ?_, fun hi => by rw [List.length_reverse] at hi; exact (by omega : vs.length ≤ i)⟩
  have hi : i < ds.length := by
    have := (List.getElem?_eq_some_iff.mp hd).1
    rwa [List.length_reverse] at this
  rw [List.getElem?_reverse hi] at hd
  obtain ⟨v, hv, rv⟩ := r'.get hd
  have hv2 : vs[vs.length - 1 - i]? = some v := by rw [hl]; exact hv
  refine ⟨⟨by omega, vs, v, h', hv2⟩, fun x H3 y => ?_⟩
  obtain ⟨e1, e2⟩ := y
  subst e1
  have e3 := e2 vs h'
  rw [hv2] at e3
  cases e3
  exact ⟨Same.refl _, rv⟩
theorem i_rev {tg : Expr} (hg : Gl X "reversed") (hm : X.mg "reversed" = none) (ha : QE X Wx e da) (hs : starEach [e] X.env = (false, eval e X.env) :: starEach [] X.env := by rfl) : QI X Wx tg (.Call (.Name "reversed" p) [e] [] pos) (diRev da) := by
  obtain ⟨ta, pa, sa⟩ := ha.ex
  refine ⟨_, RT.pi_revA hg hm pa hs, fun σ H env L k x R st h hk hx => ?_⟩
  refine sa σ H env L _ _ _ st h (fun d L1 v H1 h1 g1 j1 r1 => ?_) hx
  cases r1 <;> first | exact h1.elim | skip
  rename_i n s r
  exact ⟨_, _, rfl, .inl ⟨SqL.of s, hk _ L1 _ H1 h1 g1 j1 (it_rev (.inl ⟨n, .inl s⟩) r)⟩⟩
theorem RpAll.rev {L : Led} {K : PySem.W.Frag} {H : Hp} : ∀ {vs : List V} {ds : List D}, RpAll L K H vs ds → RpAll L K H vs.reverse ds.reverse
  | _, _, .nil => .nil
  | _, _, .cons h t => by
    rw [List.reverse_cons, List.reverse_cons]
    exact (RpAll.rev t).append (.cons h .nil)
def dRevL (da : DE) : DE := fun env L k x => da env L (fun d L1 => match con L1 d with
  | .lst ds => k (.lst ds.reverse) L1
  | _ => False) x
theorem q_revL {kk : Nat} {p1 p2 p3 pos : Pos} (h : QE X Wx e da) : QE X Wx (.Subscript e (.Slice none none (some (.UnaryOp .USub (.Constant (.int 1) kk p1) p2)) p3) pos) (dRevL da) := by
  obtain ⟨ta, pa, sa⟩ := h.ex
  refine ⟨_, pe_revL pa, fun σ H env L k x R st h hk hx => ?_⟩
  refine sa σ H env L _ x _ st h (fun d L1 v H1 h1 g1 j1 r1 => ?_) hx
  split at h1
  · rename_i ds hd
    obtain ⟨q, vs, rfl, hq, rv⟩ := con_lst j1 r1 hd
    refine ⟨q, _, rfl, SqL.of hq, fun p hp => ?_⟩
    have s := same_new hp (.lst vs.reverse)
    exact hk _ L1 _ _ h1 (g1.trans (Go.same s)) (j1.same s) (.lst (j1.notIn hp) upd_same (rv.go (Go.same s)).rev)
  · exact h1.elim
def gLenT : GC := fun ds L k => match ds with
  | [d] => match con L d with
    | .dt ks _ => k (.int ks.length)
    | _ => False
  | _ => False
theorem call_len_rdT {X : Cx} : CallR X (.builtin "len") (fun xs H Q => ∃ (q : Addr) (kvs : List (List Key × V)), xs = [.ref q] ∧ L2.Rd H q (.dT kvs) ∧ Q (.int ((kvs.length : Nat) : Int)) H) := fun pp s σ H xs us Q I r h => by
  obtain ⟨q, kvs, rfl, hq, hQ⟩ := h
  obtain ⟨u, rfl, rx⟩ := vals1 r
  obtain rfl : u = .ref q := rx
  obtain ⟨z, nm, ys, rel, dd⟩ := dt_rd I.hok hq
  have hl : kvs.length = ys.length := Paired.length rel
  have z2 : kvs.length ≤ 16777216 := by rw [sizeLine_eq] at z; exact z
  refine call_len_dictH nm dd (by omega) ?_
  rw [← hl]
  exact ⟨.int ((kvs.length : Nat) : Int), H, I.tok _, ⟨_, rfl⟩, hQ⟩
theorem cq_lenT : CQ X (.builtin "len") gLenT := ⟨_, call_len_rdT, fun H L vs ds k Q j r h hk => by
  unfold gLenT at h
  split at h
  · cases r with
    | cons r1 r2 =>
      cases r2
      split at h
      · rename_i ks us hd
        obtain ⟨a, ws, rfl, hs, hl, rv⟩ := con_dt j r1 hd
        refine ⟨a, _, rfl, hs, ?_⟩
        have e : ((ks.zip ws).length : Int) = ks.length := by rw [List.length_zip]; omega
        rw [e]
        exact hk _ _ H h (Same.refl H) (.int _)
      · exact h.elim
  · exact h.elim⟩
def pairT (p : Int × Int) : D := .kt [.inl p.1, .inl p.2]
def pairsT : List D → Option (List (Int × Int))
  | [] => some []
  | .kt [.inl i, .inl j] :: r => (pairsT r).map ((i, j) :: ·)
  | _ => none
theorem pairsT_eq : ∀ {ds : List D} {ps : List (Int × Int)}, pairsT ds = some ps → ds = ps.map pairT
  | [], _, h => by cases h; rfl
  | d :: ds, ps, h => by
    unfold pairsT at h
    split at h
    · rename_i e; cases e
    · rename_i i j r e
      cases e
      obtain ⟨l, hl, rfl⟩ := Option.map_eq_some_iff.mp h
      rw [pairsT_eq hl]
      rfl
    · cases h
theorem pairsT_map : ∀ ps : List (Int × Int), pairsT (ps.map pairT) = some ps
  | [] => rfl
  | (i, j) :: ps => by
    show (pairsT (ps.map pairT)).map ((i, j) :: ·) = some ((i, j) :: ps)
    rw [pairsT_map ps]
    rfl
def gSortP : GC := fun ds L k => match ds with
  | [d] => match con L d with
    | .lst xs => match pairsT xs with
      | some ps => ∀ qs : List (Int × Int), qs.Perm ps → qs.Pairwise (fun x y => SrtO.lexB y x = false) → k (.lst (qs.map pairT))
      | none => False
    | _ => False
  | _ => False
/-- the pair of ints that is tracked at a value -/
def pairOf (H : Hp) : V → Int × Int
  | .ref t => match H t with
    | some (.tup [.int i, .int j]) => (i, j)
    | _ => (0, 0)
  | _ => (0, 0)
theorem rp_pair {L : Led} {K : PySem.W.Frag} {H : Hp} {v : V} {q : Int × Int} (r : Rp L K H v (pairT q)) : ∃ t, v = .ref t ∧ ¬ inL L t ∧ H t = some (.tup [.int q.1, .int q.2]) ∧ pairOf H v = q := by
  obtain ⟨t, rfl, n, h⟩ := kt_of r
  refine ⟨t, rfl, n, h, ?_⟩
  have h2 : H t = some (.tup [.int q.1, .int q.2]) := h
  unfold pairOf
  simp only [h2]
theorem rps_pair {L : Led} {K : PySem.W.Frag} {H : Hp} : ∀ {ps : List (Int × Int)} {vs : List V}, RpAll L K H vs (ps.map pairT) → vs.map (pairOf H) = ps ∧ ∀ v ∈ vs, Rp L K H v (pairT (pairOf H v))
  | [], _, h => by cases h; exact ⟨rfl, fun v h => nomatch h⟩
  | q :: ps, _, h => by
    cases h with
    | cons r t =>
      obtain ⟨i1, i2⟩ := rps_pair t
      obtain ⟨_, _, _, _, e⟩ := rp_pair r
      refine ⟨by rw [List.map_cons, e, i1], fun v hv => ?_⟩
      rcases List.mem_cons.mp hv with rfl | hv
      · rw [e]; exact r
      · exact i2 v hv
theorem rps_all {L : Led} {K : PySem.W.Frag} {H : Hp} {f : V → D} : ∀ {vs : List V}, (∀ v ∈ vs, Rp L K H v (f v)) → RpAll L K H vs (vs.map f)
  | [], _ => .nil
  | _ :: _, h => .cons (h _ List.mem_cons_self) (rps_all fun v hv => h v (List.mem_cons_of_mem _ hv))
theorem cq_sortP : CQ X (.builtin "sorted") gSortP := ⟨_, cr_sortedPO, fun H L vs ds k Q j r h hk => by
  unfold gSortP at h
  split at h
  · cases r with
    | cons r1 r2 =>
      cases r2
      split at h
      · rename_i xs hcd
        split at h
        · rename_i ps hps
          obtain ⟨q, ws, rfl, hq, rw0⟩ := con_lst j r1 hcd
          rw [pairsT_eq hps] at rw0
          obtain ⟨e1, e2⟩ := rps_pair rw0
          refine ⟨q, ws, pairOf H, rfl, SqL.of hq, fun x hx => ?_, fun ys p srt stb hp => ?_⟩
          · obtain ⟨t, et, _, ht, _⟩ := rp_pair (e2 x hx)
            exact ⟨t, et, ht⟩
          · have s := same_new hp (.lst ys)
            have rys : RpAll L X.K H ys (ys.map fun y => pairT (pairOf H y)) := rps_all fun v hv => e2 v (stb.perm.mem_iff.mp hv)
            refine hk (.lst ((ys.map (pairOf H)).map pairT)) _ _ (h (ys.map (pairOf H)) (by rw [← e1]; exact stb.perm.map _) (List.pairwise_map.mpr srt)) s (.lst (j.notIn hp) upd_same ?_)
            rw [List.map_map]
            exact rys.go (Go.same s)
        · exact h.elim
      · exact h.elim
  · exact h.elim⟩
end
end DL
namespace DL
open PySem PySem.Spec PyProof.Rows L2
/-- the comprehension puts v at a tuple -/
theorem dcPut {X : Cx} {pp : List (Addr × Obj)} {σ : L2.St} {H : Hp} {s : Shared} {E : Value → Shared → Prop} {N b : Addr} {es : List (List Key × V)} {k : List Key} {v : V} {r : Value} {Q : Unit → Shared → Prop} (room : X.A.units < cLine) (I : Inv X pp σ H s) (at0 : H N = some (.dT es)) (few : es.length < sizeLine)
    (hb : H b = some (.tup (k.map kV))) (rv : RelV v r) (go : ∀ s2, Inv X pp σ (upd H N (.dT (putK es k v))) s2 → Q () s2) : wpAny (model X.prog X.w) X.A (dictSet N (.ref b) r) Q E s := by
  obtain ⟨z, nm, xs, rel, dd⟩ := dt_of I.hok at0
  have few2 : xs.length ≤ sizeLine := Paired.length rel ▸ z
  have few3 : (putK es k v).length ≤ sizeLine := Nat.le_trans (length_putK es k v) few
  refine wpAny_dictSet_heap (hsz := few2) room (L2.key_of I.hok hb) dd fun h2 dd2 sb => go _ ?_
  obtain ⟨o, en, ep, f1, f2, f3, f4, _, f6⟩ := dd2
  refine d_write I (by rw [at0]; exact True.intro) sb ⟨o, f1⟩ ⟨few3, nm, _, (rel.put k hb rv).keeps fun c ys ec => ?_, o, en, ep, f1, f2, f3, f4, f6⟩
  rw [upd_ne (ne_of ec at0 fun z => nomatch z)]
  exact ec
/-- one entry more -/
def AddT (N : Addr) (y z : V) (H : Hp) (Nx : Hp → Prop) : Prop := ∃ es k b, y = .ref b ∧ H b = some (.tup (k.map kV)) ∧ H N = some (.dT es) ∧ es.length < sizeLine ∧ Nx (upd H N (.dT (putK es k z)))
def tDcT (wi : TI) (g : TG) (tt : TT) (tk tv : TE) (vs : List Nat) : TE := fun σ H Q => wi σ H fun J H1 => ∀ N, H1 N = none → ∃ W : Nat → Nat → Hp → Prop, (∃ m, W 0 m (upd H1 N (.dT []))) ∧ ∀ i m H, W i m H →
  (J.stop i H ∧ Q (.ref N) H) ∨ (J.go i H ∧ ∃ Nx : Hp → Prop, (∀ H2, Nx H2 → ∃ m2, m2 < m ∧ W (i + 1) m2 H2) ∧
    ∀ x H2, J.yld i H x H2 → g x (wipe σ vs) H2 fun σ2 H3 => wipe σ2 vs = wipe σ vs ∧ tt σ2 H3 fun b H4 => if b = true then tk σ2 H4 fun y H5 => tv σ2 H5 fun z H6 => AddT N y z H6 Nx else Nx H4)
section
variable {X : Cx}
theorem pe_dcT {kx vx tg iter : Expr} {ifs : List Expr} {scope : Scope} {own : List (Str × Nat)} {pos : Pos} {wi : TI} {g : TG} {tt : TT} {tk tv : TE} (room : X.A.units < cLine) (hc : X.calm = true) (hN : X.N.Nodup) (hi : PI X tg iter wi) (ok : BlkOk X.N X.env.scope scope own)
    (hg : ∀ (s : Shared) (H : Hp) (C : Addr) (cl : List (Str × Addr)) (fp : List Addr), PG (X.blk s H scope (compEnvC scope cl C X.env) fp) tg g)
    (ht : ∀ (s : Shared) (H : Hp) (C : Addr) (cl : List (Str × Addr)) (fp : List Addr), PTs (X.blk s H scope (compEnvC scope cl C X.env) fp) ifs tt)
    (hk : ∀ (s : Shared) (H : Hp) (C : Addr) (cl : List (Str × Addr)) (fp : List Addr), PE (X.blk s H scope (compEnvC scope cl C X.env) fp) kx tk)
    (hv : ∀ (s : Shared) (H : Hp) (C : Addr) (cl : List (Str × Addr)) (fp : List Addr), PE (X.blk s H scope (compEnvC scope cl C X.env) fp) vx tv)
    (hs : ∀ x, foldedSetIterable iter X.env x = pure x := by intro _; rfl) : PE X (.DictComp kx vx [⟨tg, iter, ifs, 0⟩] scope pos) (tDcT wi g tt tk tv (own.map (·.2))) := by
  refine ⟨fun pp s σ H Q I h => ?_⟩
  rw [arm_eval_DictComp]
  have free : ∀ y ∈ scope.names, y.2 = .free → ∃ c, X.env.cells.lookup y.1 = some c := fun y hy ey => (ok.free y hy ey).elim (fun z => I.ok.has _ (.inl z)) fun z => I.ok.has _ (.inr z)
  refine wpAny_comprehension_free rfl hs (closure_ok free) ok.kind (fun y hy ey => (ok.uniq y hy).trans (by rw [ey])) (thn (hi.run pp s σ H _ I h) fun xv s1 hx => thn hx fun itv s2 ⟨it, fp, tn, J, H1, eit, I1, T, tn0, fpk, q⟩ => ?_)
  subst eit
  refine wpAny_newObj_type (newEnv_comp ?_)
  generalize eN : s2.heap.objs.size = N
  obtain ⟨W, ⟨m0, start⟩, turn⟩ := q N (I1.hok.fresh (Nat.le_of_eq eN))
  generalize e3 : ({ s2 with heap := s2.heap.push { cls := .type "dict", data := .dict #[] } } : Shared) = s3
  have heap3 : s3.heap = s2.heap.push { cls := .type "dict", data := .dict #[] } := by rw [← e3]
  have I3 : Inv X pp σ (upd H1 N (.dT [])) s3 := by
    rw [← e3]
    refine I1.laid (t' := s2.toks) (fun b u eb => Heap.get?_push_of_some _ eb) (Nat.le_of_eq eN) ?_
    rw [← eN]
    exact dt_empty s2.heap I1.big
  have here : ∀ b ∈ fp, b < s2.heap.objs.size := fun b hb => (T.obj _ _ tn0 b hb).elim fun u z => Heap.lt_size z.1
  have fpk3 : ∀ b ∈ fp, FpOk X pp (upd H1 N (.dT [])) b ∧ b < s3.heap.objs.size := fun b hb => by
    refine ⟨⟨?_, (fpk b hb).2⟩, by rw [heap3, Heap.size_push]; exact Nat.lt_succ_of_lt (here b hb)⟩
    rw [upd_ne (eN ▸ Nat.ne_of_lt (here b hb))]
    exact (fpk b hb).1
  have tn3 : tn 0 s3.heap := T.keep _ _ _ tn0 fun b _ u eb => heap3 ▸ Heap.get?_push_of_some _ eb
  have I4 := block_start I3 ok hN fpk3
  have rg := hg s3 (upd H1 N (.dT [])) s3.heap.objs.size (cellsFrom (s3.heap.objs.size + 1) scope.names (cloFrom X.env.cells scope.names [])) fp
  have rt := ht s3 (upd H1 N (.dT [])) s3.heap.objs.size (cellsFrom (s3.heap.objs.size + 1) scope.names (cloFrom X.env.cells scope.names [])) fp
  have rk := hk s3 (upd H1 N (.dT [])) s3.heap.objs.size (cellsFrom (s3.heap.objs.size + 1) scope.names (cloFrom X.env.cells scope.names [])) fp
  have rv := hv s3 (upd H1 N (.dT [])) s3.heap.objs.size (cellsFrom (s3.heap.objs.size + 1) scope.names (cloFrom X.env.cells scope.names [])) fp
  -- what is left to show behind the loop
  have last : ∀ (C : Addr) (s9 : Shared) (m : _) (H9 : Hp), Inv X pp σ H9 s9 → Q (.ref N) H9 → s9.heap.Ns C m → FpOk X pp H9 C → compPost (model X.prog X.w) X.A X.xe none (EP X pp σ Q) (.ref N) C (.ok .next) s9 := fun C s9 m H9 I9 q9 hn f => ⟨m, hn, fun h10 sb => by
    obtain ⟨f0, f1, f2, f3, f4, f5⟩ := f
    exact ⟨.ref N, H9, I9.turned (t' := s9.toks) (fun b u nb eb => (sb.2 b nb).trans eb) f0 f1 f3 f4 f5, rfl, q9⟩⟩
  show codeAny _ _ (.compStart (.DictComp kx vx [⟨tg, iter, ifs, 0⟩] scope pos) 0 (.ref it) (.ref N) (compEnvC scope (cellsFrom (s3.heap.objs.size + 1) scope.names (cloFrom X.env.cells scope.names [])) s3.heap.objs.size X.env)) (compPost (model X.prog X.w) X.A X.xe none (EP X pp σ Q) (.ref N) s3.heap.objs.size) { s3 with heap := pushCells (s3.heap.push { cls := .type "dict", data := .dict #[] }) scope.names }
  have none3 : ∀ b ∈ fp, (upd H1 N (.dT [])) b = none := fun b hb => (fpk3 b hb).1.1
  generalize eC : compEnvC scope (cellsFrom (s3.heap.objs.size + 1) scope.names (cloFrom X.env.cells scope.names [])) s3.heap.objs.size X.env = ce at I4 rg rt rk rv ⊢
  have own3 : ce.locals = s3.heap.objs.size := by subst eC; rfl
  generalize eH : upd H1 N (.dT []) = H3 at I3 I4 rg rt rk rv start none3 fpk3
  generalize e4 : ({ s3 with heap := pushCells (s3.heap.push { cls := .type "dict", data := .dict #[] }) scope.names } : Shared) = s4 at I4 ⊢
  have tn4 : tn 0 s4.heap := T.keep _ _ _ tn3 fun b _ u eb => by rw [← e4]; exact pushCells_keeps _ _ _ _ (Heap.get?_push_of_some _ eb)
  have fpB : ∀ {σ' : L2.St} {H' : Hp} {s' : Shared}, Inv (X.blk s3 H3 scope ce fp) [] σ' H' s' → (∀ b ∈ fp, H' b = none) → ∀ b ∈ fp, FpOk (X.blk s3 H3 scope ce fp) [] H' b := fun I' no b hb =>
    ⟨no b hb, (I'.ok.exf b hb).1, I'.ok.exfs b hb, .inl hb, fun x c ec => (I'.ok.exf b hb).2 x c ec, fun w hw => absurd (show w ∈ ([] : List (Addr × Obj)) ++ [] from hw) (by simp)⟩
  refine (fun loop => codeAny_compStart_dict loop (T.self X.A 0 _ _ _ tn4 loop)) (compLoop_anyD (fun n s' => ∃ i H', Inv (X.blk s3 H3 scope ce fp) [] (wipe σ (own.map (·.2))) H' s' ∧ tn i s'.heap ∧ (∀ b ∈ fp, H' b = none) ∧ W i n H') ?_ m0 ⟨0, H3, I4, tn4, none3, start⟩)
  rintro n s5 ⟨i, H5, I5, tn5, none5, w5⟩
  rcases turn i n H5 w5 with ⟨stop, qq⟩ | ⟨go, Nx, less, step⟩
  · refine thnF (T.done (X.blk s3 H3 scope ce fp) rfl rfl rfl hc i [] s5 _ H5 (fun _ _ => False) I5 (fpB I5 none5) tn5 stop) fun r s6 ⟨er, I6⟩ => ?_
    subst er
    have I7 : Inv X pp σ H5 s6 := I3.call' (ch := fp) I6.os I6.base I6.hok I6.bare fun b hb => by
      obtain ⟨⟨_, g1, _, g3, g4, g5⟩, _⟩ := fpk3 b hb
      exact ⟨g3, g1, g4, g5⟩
    have noC : H5 s3.heap.objs.size = none := own3 ▸ I6.free
    obtain ⟨m, hn, _⟩ := I6.loc
    exact last s3.heap.objs.size s6 m H5 I7 qq (own3 ▸ (show s6.heap.Ns ce.locals m from hn)) (I3.fpOk (Nat.le_refl _) noC)
  · refine thnF (T.item (X.blk s3 H3 scope ce fp) rfl rfl rfl hc i [] s5 _ H5 (fun _ _ => False) I5 (fpB I5 none5) tn5 go) fun r s6 ⟨u, er, more⟩ => ?_
    subst er
    refine thnF more fun _ s7 ⟨x, H7, I7, r7, y7, tn7, none7⟩ => ?_
    refine thnF (rg.run _ s7 _ H7 x u _ (I7.pinned (fpB I7 none7) (T.obj _ _ tn7)) r7 (step x H7 y7)) fun _ s8 ⟨σ8, H8, I8, w8, q8⟩ => ?_
    refine thnF (rt.run _ s8 σ8 H8 _ I8 q8) fun b s9 ⟨H9, I9, q9⟩ => ?_
    -- behind a turn
    have next : ∀ {s' : Shared} {H' : Hp}, Inv (X.blk s3 H3 scope ce fp) ([] ++ pinsAt fp s7.heap) σ8 H' s' → Nx H' → ∃ m, m < n ∧ ∃ i H', Inv (X.blk s3 H3 scope ce fp) [] (wipe σ (own.map (·.2))) H' s' ∧ tn i s'.heap ∧ (∀ b ∈ fp, H' b = none) ∧ W i m H' := fun {s' H'} I' nx => by
      obtain ⟨m', lt', w'⟩ := less H' nx
      have pinned : ∀ b ∈ fp, ∀ o, s7.heap.get? b = some o → s'.heap.get? b = some o ∧ H' b = none := fun b hb o eb =>
        (fun z => ⟨z.1, z.2.1⟩) (I'.pin (b, o) (List.mem_append_right _ (List.mem_append_right _ (mem_pinsAt hb eb))))
      have len8 : (wipe σ (own.map (·.2))).length = σ8.length := by rw [← w8, wipe_length]
      refine ⟨m', lt', i + 1, H', (I'.unpinned (pins := [])).weak len8 (fun j v ej => (wipe_some (w8 ▸ ej : (wipe σ8 (own.map (·.2)))[j]? = some (some v))).1), T.keep _ _ _ tn7 fun b hb o eb => (pinned b hb o eb).1, fun b hb => ?_, w'⟩
      obtain ⟨o, eb, _⟩ := T.obj _ _ tn7 b hb
      exact (pinned b hb o eb).2
    cases b with
    | false =>
      simp only [Bool.false_eq_true, if_false] at q9 ⊢
      exact next I9 q9
    | true =>
      simp only [if_true] at q9 ⊢
      refine thnF (rk.run _ s9 σ8 H9 _ I9 q9) fun ky s10 ⟨yk, H10, I10, r10, q10⟩ => ?_
      refine thnF (rv.run _ s10 σ8 H10 _ I10 q10) fun vy s11 ⟨yv, H11, I11, r11, es, k, b, ek, eb, eD, few, nx⟩ => ?_
      subst ek
      obtain rfl : ky = Value.ref b := r10
      exact dcPut (X := X.blk s3 H3 scope ce fp) room I11 eD few eb r11 fun s12 I12 => next I12 nx
end
end DL
namespace DL
open PySem PySem.Spec PyProof.Rows L2
section
variable {X : Cx} {Wx : WX}
@[irreducible] def dcTD (dg : DG) (dt : DT) (dk dv : DE) (env0 : DEnv) (p : Addr) (k : DK) : List D → List (List Key) → List D → Led → Prop
  | [], ks, vs, L => k (.dt ks vs) (remL L p)
  | d :: ds, ks, vs, L => dg d env0 L fun env1 => dt env1 L (fun b L2 => match b with
    | true => dk env1 L2 (fun y L3 => dv env1 L3 (fun z L4 => ∃ q, keyT y = some q ∧ L4.lookup p = some (.dt ks vs) ∧ ks.length < sizeLine ∧ dcTD dg dt dk dv env0 p k ds (putGk q ks) (putGv q z ks vs) (setL L4 p (.dt (putGk q ks) (putGv q z ks vs)))) (fun _ _ _ => False)) (fun _ _ _ => False)
    | false => L2.lookup p = some (.dt ks vs) ∧ dcTD dg dt dk dv env0 p k ds ks vs L2) (fun _ _ _ => False)
theorem dcTD_nil {dg : DG} {dt : DT} {dk dv : DE} {env0 : DEnv} {p : Addr} {k : DK} {ks : List (List Key)} {vs : List D} {L : Led} : dcTD dg dt dk dv env0 p k [] ks vs L = k (.dt ks vs) (remL L p) := by with_unfolding_all rfl
theorem dcTD_cons {dg : DG} {dt : DT} {dk dv : DE} {env0 : DEnv} {p : Addr} {k : DK} {d : D} {ds : List D} {ks : List (List Key)} {vs : List D} {L : Led} : dcTD dg dt dk dv env0 p k (d :: ds) ks vs L = dg d env0 L fun env1 => dt env1 L (fun b L2 => match b with
    | true => dk env1 L2 (fun y L3 => dv env1 L3 (fun z L4 => ∃ q, keyT y = some q ∧ L4.lookup p = some (.dt ks vs) ∧ ks.length < sizeLine ∧ dcTD dg dt dk dv env0 p k ds (putGk q ks) (putGv q z ks vs) (setL L4 p (.dt (putGk q ks) (putGv q z ks vs)))) (fun _ _ _ => False)) (fun _ _ _ => False)
    | false => L2.lookup p = some (.dt ks vs) ∧ dcTD dg dt dk dv env0 p k ds ks vs L2) (fun _ _ _ => False) := by with_unfolding_all rfl
def dDcT (di : DI) (dg : DG) (dt : DT) (dk dv : DE) (vs : List Nat) : DE := fun env L k x => di env L (fun ds L1 => ∀ p, ¬ inL L1 p → dcTD dg dt dk dv (wipeD env vs) p k ds [] [] ((p, .dt [] []) :: L1)) x
theorem sim_dcT {K : PySem.W.Frag} {wi : TI} {di : DI} {dg : DG} {dt : DT} {dk dv : DE} {sl vs : List Nat} (hsl : ∀ i ∈ sl, i ∈ vs)
    (si : ∀ σ H env L k x R, StL K σ H env L → di env L k x → (∀ ds L' J H', k ds L' → Go L L' H H' → JL K L' H' → ItD K L' H' J ds → R J H') → XOk K Wx L H x → wi σ H R) :
    SimE K Wx (tDcT wi (tgOf K sl dg) (ttOf K Wx0 dt) (teOf K Wx0 dk) (teOf K Wx0 dv) vs) (dDcT di dg dt dk dv vs) := by
  intro σ H env L k x Q st h hk hx
  refine si σ H env L _ x _ st h (fun ds L1 J H1 h1 g1 j1 it => ?_) hx
  intro p hp
  have s0 := same_new hp (.dT [])
  obtain ⟨j2, g2⟩ := j1.push (d := .dt [] []) hp (o := .dT []) ⟨[], upd_same, rfl, .nil⟩
  refine ⟨fun i m H2 => m = ds.length - i ∧ i ≤ ds.length ∧ ∃ ks us L2, StL K (wipe σ vs) H2 (wipeD env vs) L2 ∧ Go L1 L2 H1 H2 ∧ L2.lookup p = some (.dt ks us) ∧ dcTD dg dt dk dv (wipeD env vs) p k (ds.drop i) ks us L2, ⟨ds.length, by omega, by omega, [], [], _, ⟨((st.go g1 j1).go g2 j2).1.wipes vs, j2⟩, g2, lookup_top, h1 p (j1.notIn hp)⟩, ?_⟩
  rintro i m H2 ⟨rfl, hi, ks, us, L2, st2, g3, hl, h2⟩
  obtain ⟨i1, i2⟩ := it L2 H2 g3 st2.2 i
  by_cases hlt : i < ds.length
  · have e : ds[i]? = some ds[i] := List.getElem?_eq_getElem hlt
    obtain ⟨go, yl⟩ := i1 _ e
    rw [List.drop_eq_getElem_cons hlt, dcTD_cons] at h2
    refine .inr ⟨go, fun H' => ∃ ks us L2, StL K (wipe σ vs) H' (wipeD env vs) L2 ∧ Go L1 L2 H1 H' ∧ L2.lookup p = some (.dt ks us) ∧ dcTD dg dt dk dv (wipeD env vs) p k (ds.drop (i + 1)) ks us L2, fun H' n => ⟨ds.length - (i + 1), by omega, rfl, hlt, n⟩, fun x H' y => ?_⟩
    obtain ⟨s, rx⟩ := yl x H' y
    have g4 : Go L2 L2 H2 H' := Go.same s
    have st3 := st2.go g4 (st2.2.same s)
    refine ⟨_, _, L2, _, st3, rx, h2, fun σ3 env3 h3 st4 on => ⟨?_, ?_⟩⟩
    · rw [on vs hsl]
      exact wipe_two vs vs (fun _ h => h) σ
    · refine ⟨env3, L2, _, _, st4, h3, fun b L5 H5 h5 g5 j5 => ?_, fun _ _ _ _ _ _ q => q.elim⟩
      have gA : Go L1 L5 H1 H5 := (g3.trans g4).trans g5
      cases b with
      | false => exact iteF ⟨ks, us, L5, ⟨(st3.1.go g5), j5⟩, gA, h5.1, h5.2⟩
      | true =>
        refine iteT ⟨env3, L5, _, _, st4.go g5 j5, h5, fun y L6 vy H6 h6 g6 j6 r6 => ?_, fun _ _ _ _ _ _ q => q.elim⟩
        refine ⟨env3, L6, _, _, (st4.go g5 j5).go g6 j6, h6, fun z L7 vz H7 h7 g7 j7 r7 => ?_, fun _ _ _ _ _ _ q => q.elim⟩
        obtain ⟨q, hq, q1, q2, q3⟩ := h7
        obtain ⟨b0, ey, _, hb0⟩ := keyT_of (r6.go g7) hq
        obtain ⟨ws, e1, hlw, rv⟩ := j7.look q1
        have hp7 := inL_of_lookup q1
        have pz := putG_zip q vz ks ws hlw
        refine ⟨ks.zip ws, q, b0, ey, hb0, e1, by rw [List.length_zip]; omega, putGk q ks, putGv q z ks us, _, ?_, ?_, look_set hp7, q3⟩
        · rw [pz.1]
          have g8 : Go L7 (setL L7 p (.dt (putGk q ks) (putGv q z ks us))) H7 (upd H7 p (.dT ((putGk q ks).zip (putGv q vz ks ws)))) := go_set hp7
          have j8 : JL K (setL L7 p (.dt (putGk q ks) (putGv q z ks us))) (upd H7 p (.dT ((putGk q ks).zip (putGv q vz ks ws)))) := j7.put hp7 ⟨_, upd_same, pz.2, putGv_rp (r7.go g8) q ks (rv.go g8)⟩
          exact ⟨(((st3.1.go g5).go g6).go g7).go g8, j8⟩
        · rw [pz.1]
          exact ((gA.trans g6).trans g7).trans (go_set hp7)
  · have e : i = ds.length := by omega
    subst e
    rw [List.drop_length, dcTD_nil] at h2
    obtain ⟨ws, e1, hlw, rv⟩ := st2.2.look hl
    exact .inl ⟨i2 (Nat.le_refl _), hk _ _ _ H2 h2 ((g1.trans g3).trans go_rem) st2.2.rem (.dt (fun m => (inL_remL.mp m).2 rfl) (.inl e1) hlw (rv.go go_rem))⟩
theorem q_dcT {kx vx tg iter : Expr} {ifs : List Expr} {scope : Scope} {own : List (Str × Nat)} {pos : Pos} {di : DI} {dg : DG} {dt : DT} {dk dv : DE} {sl : List Nat} (hu : X.A.units + 64 < cLine) (hc : X.calm = true) (hN : X.N.Nodup) (hi : QI X Wx tg iter di) (ok : BlkOk X.N X.env.scope scope own)
    (hg : ∀ (s : Shared) (H : Hp) (C : Addr) (cl : List (Str × Addr)) (fp : List Addr), QG (X.blk s H scope (compEnvC scope cl C X.env) fp) tg sl dg) (ht : ∀ (s : Shared) (H : Hp) (C : Addr) (cl : List (Str × Addr)) (fp : List Addr), QTs (X.blk s H scope (compEnvC scope cl C X.env) fp) Wx0 ifs dt)
    (hk : ∀ (s : Shared) (H : Hp) (C : Addr) (cl : List (Str × Addr)) (fp : List Addr), QE (X.blk s H scope (compEnvC scope cl C X.env) fp) Wx0 kx dk)
    (he : ∀ (s : Shared) (H : Hp) (C : Addr) (cl : List (Str × Addr)) (fp : List Addr), QE (X.blk s H scope (compEnvC scope cl C X.env) fp) Wx0 vx dv) (hsl : ∀ i ∈ sl, i ∈ own.map (·.2) := by decide) (hs : ∀ x, foldedSetIterable iter X.env x = pure x := by intro _; rfl) :
    QE X Wx (.DictComp kx vx [⟨tg, iter, ifs, 0⟩] scope pos) (dDcT di dg dt dk dv (own.map (·.2))) := by
  obtain ⟨wi, pi, si⟩ := hi.ex
  exact ⟨_, pe_dcT (by omega) hc hN pi ok (fun s H C cl fp => (hg s H C cl fp).pg) (fun s H C cl fp => (ht s H C cl fp).pt) (fun s H C cl fp => (hk s H C cl fp).pe) (fun s H C cl fp => (he s H C cl fp).pe) hs, sim_dcT hsl si⟩
end
end DL
namespace DL
open PySem PySem.Spec PyProof.Rows L2
section
variable {P : Program} {w : World} {κ : Type} [DecidableEq κ] {hk : HeapKind P w κ} {A : Around} {E : Value → Shared → Prop} {s : Shared}
/-- what the entries of the one dict tell against the other one's, as far as is looked -/
inductive Agr {κ : Type} [DecidableEq κ] (A : Around) (s : Shared) (zs : List (κ × Addr × Value)) : List (κ × Addr × Value) → Bool → Prop
  | end : Agr A s zs [] true
  | lack {x : κ × Addr × Value} {r : List (κ × Addr × Value)} : atKey zs x.1 = none → Agr A s zs (x :: r) false
  | find {x : κ × Addr × Value} {r : List (κ × Addr × Value)} {q : Addr × Value} {e b : Bool} : atKey zs x.1 = some q → SeqAt.EqAt A s x.2.2 q.2 e → Agr A s zs r b → Agr A s zs (x :: r) (e && b)
theorem pairsH {nm : String} {a b : Addr} {xs zs : List (κ × Addr × Value)} {r : Bool} {Q : Bool → Shared → Prop} (room : hk.room A) (na : (a == sysModules) = false) (nb : (b == sysModules) = false) (da : s.heap.DictOfH hk a xs) (db : s.heap.DictOfH hk b zs)
    (agr : xs.length = zs.length → Agr A s zs xs r) (fin : Q (xs.length == zs.length && r) s) : wpAny (model P w) A (Builtin.Dict.samePairs nm a b) Q E s := by
  obtain ⟨oa, ea, pa, ha1, _, ha3, ha4, ha5, ha6⟩ := da
  obtain ⟨ob, eb, pb, hb1, _, hb3, hb4, hb5, hb6⟩ := db
  have la : ea.size = xs.length := size_of_entries ha4
  have lb : eb.size = zs.length := size_of_entries hb4
  unfold Builtin.Dict.samePairs Builtin.Dict.showsAll
  rw [if_neg (by rw [na]; exact Bool.false_ne_true), if_neg (by rw [nb]; exact Bool.false_ne_true)]
  refine wpAny_bind (wpAny_pure (wpAny_bind (wpAny_pure ?_)))
  refine wpAny_bind (wpAny_dictEntries ha1 ha3 ?_)
  dsimp only
  refine wpAny_bind (wpAny_dictEntries hb1 hb3 ?_)
  by_cases same : ea.size = eb.size
  case neg =>
    rw [if_pos (by simpa using same)]
    have ne : (xs.length == zs.length) = false := by rw [← la, ← lb]; simpa using same
    rw [ne, Bool.false_and] at fin
    exact wpAny_bind (wpAny_rule (wpAny_pure fin))
  case pos =>
    have eq : xs.length = zs.length := by omega
    have fin2 : Q r s := by rw [eq] at fin; simpa using fin
    rw [if_neg (by rw [same]; simp)]
    refine wpAny_bind (wpAny_dictEpoch ha1 ha3 (wpAny_bind ?_))
    simp only [Std.Legacy.Range.forIn_eq_forIn_range', Std.Legacy.Range.size, Nat.sub_zero, Nat.div_one, Nat.add_sub_cancel]
    refine wpAny_forIn_list _ (fun left q s2 => s2 = s ∧ q = (none, ()) ∧ ∃ i, left = List.range' i (ea.size - i) ∧ i ≤ ea.size ∧ Agr A s zs (xs.drop i) r) _ (fun i left q s2 h => ?_) (fun q s2 h => ?_) _ _ ⟨rfl, rfl, 0, by simp, Nat.zero_le _, agr eq⟩
    · obtain ⟨rfl, rfl, j, hl, hj, ag⟩ := h
      have lt : j < ea.size := by
        rcases Nat.lt_or_ge j ea.size with z | z
        · exact z
        · rw [Nat.sub_eq_zero_of_le z] at hl; simp at hl
      have one : ea.size - j = (ea.size - (j + 1)) + 1 := by omega
      rw [one, List.range'_succ] at hl
      injection hl with h1 h2
      subst h1
      have ltx : i < xs.length := by omega
      have at_ := entry_at ha4 i
      rw [List.getElem?_eq_getElem ltx, Array.getElem?_eq_getElem lt] at at_
      have ek : ea[i] = entryOfKey hk xs[i] := Option.some.inj at_
      refine wpAny_bind (wpAny_dictEntries ha1 ha3 ?_)
      rw [Array.getElem?_eq_getElem lt, ek]
      rw [List.drop_eq_getElem_cons ltx] at ag
      show wpAny _ _ (holding [.ref xs[i].2.1, xs[i].2.2] _ >>= _) _ _ _
      refine wpAny_bind (wpAny_holding (wpAny_bind (wpAny_dictFind_heap room (ha5 _ (List.getElem_mem ltx)) hb1 hb3 hb4 hb5 hb6 (fun no => ?_) fun m q hq => ?_)))
      · have gone := atKey_none_of_get no
        generalize hr : r = r0 at ag
        cases ag with
        | lack _ =>
          refine wpAny_pure ?_
          show wpAny _ _ (if (!false) = true then _ else _) _ _ _
          rw [if_pos (by decide)]
          rw [hr] at fin2
          exact wpAny_pure (wpAny_pure fin2)
        | find f1 _ _ => rw [gone] at f1; cases f1
      · have is := atKey_of_get hb6 hq
        have ltm : m < eb.size := by
          have := (List.getElem?_eq_some_iff.mp hq).1
          omega
        have at2 := entry_at hb4 m
        rw [hq] at at2
        refine wpAny_bind (wpAny_dictEntries hb1 hb3 ?_)
        rw [at2]
        generalize hr : r = r0 at ag
        cases ag with
        | lack f1 => rw [is] at f1; cases f1
        | @find _ _ q2 e b2 f1 f2 f3 =>
          rw [is] at f1
          cases f1
          refine wpAny_holding (f2 _ _ _ _ ?_)
          cases e with
          | false =>
            show wpAny _ _ (if (!false) = true then _ else _) _ _ _
            rw [if_pos (by decide)]
            rw [hr, Bool.false_and] at fin2
            exact wpAny_pure (wpAny_pure fin2)
          | true =>
            show wpAny _ _ (if (!true) = true then _ else _) _ _ _
            rw [if_neg (by decide)]
            refine wpAny_bind (wpAny_dictEpoch ha1 ha3 ?_)
            rw [if_neg (by simp)]
            refine wpAny_pure ⟨rfl, rfl, i + 1, h2, lt, ?_⟩
            rw [Bool.true_and]
            exact f3
    · obtain ⟨rfl, rfl, j, hl, hj, ag⟩ := h
      have ej : j = ea.size := by
        rcases Nat.lt_or_ge j ea.size with z | z
        · have one : ea.size - j = (ea.size - (j + 1)) + 1 := by omega
          rw [one, List.range'_succ] at hl
          cases hl
        · omega
      refine wpAny_pure ?_
      rw [ej, la, List.drop_length] at ag
      generalize hr : r = r0 at ag
      cases ag
      rw [hr] at fin2
      exact fin2
/-- the way to == and != of two dicts -/
theorem eqH {p q : Addr} {xs zs : List (κ × Addr × Value)} {r : Bool} (room : hk.room A.in1) (np : (p == sysModules) = false) (nq : (q == sysModules) = false) (tp : s.heap.DictOfH hk p xs) (tq : s.heap.DictOfH hk q zs) (hu : A.units < cLine)
    (agr : xs.length = zs.length → Agr A.in1 s zs xs r) {Q : Value → Shared → Prop} (fin : Q (.bool (xs.length == zs.length && r)) s) : wpAny (model P w) A (compareOp .Eq (.ref p) (.ref q)) Q E s := by
  refine wpAny_richCompare_same_room (op := .Eq) tp.typeIs tq.typeIs F.slot_dict_eq (wpAny_call_entry F.slot_dict_eq tp.typeIs F.entry_dict_eq ?_ (F.args_dict_eq_2 _ _)) hu
  show wpAny _ _ (Builtin.Dict.dictSlotArgs "__eq__" ⟨[.ref p, .ref q], []⟩ >>= _) _ _ s
  refine wpAny_bind ?_
  unfold Builtin.Dict.dictSlotArgs
  refine wpAny_bind (wpAny_notOrdered_dict tp.typeIs ?_)
  show wpAny _ _ (pure (Value.ref p, Value.ref q)) _ _ s
  refine wpAny_pure (wpAny_bind (wpAny_isInstance (T := "dict") tq.typeIs F.sub_dict_dict ?_))
  simp only [Bool.not_true, if_false, Bool.false_eq_true]
  refine wpAny_bind (wpAny_pure (wpAny_bind (wpAny_pure (wpAny_bind (pairsH room np nq tp tq agr ?_)))))
  exact wpAny_pure ⟨_, rfl, (fun x => nomatch x), by simpa using fin⟩
end
end DL
namespace DL
open PySem PySem.Spec PyProof.Rows L2
def allT (ls : List (List Key)) (js : List Int) (ps : List (List Key × Int)) : Bool := ps.all fun p => decide (lookG ls js p.1 = some p.2)
def eqDT (ks : List (List Key)) (is : List Int) (ls : List (List Key)) (js : List Int) : Bool := ks.length == ls.length && allT ls js (ks.zip is)
theorem lookG_map {κ α β : Type} [DecidableEq κ] (f : α → β) (k : κ) : ∀ (ks : List κ) (vs : List α), lookG ks (vs.map f) k = (lookG ks vs k).map f
  | [], _ => rfl
  | _ :: _, [] => rfl
  | a :: ks, v :: vs => by
    show (if a = k then some (f v) else lookG ks (vs.map f) k) = (if a = k then some v else lookG ks vs k).map f
    split
    · rfl
    · exact lookG_map f k ks vs
theorem ints_rp {L : Led} {K : PySem.W.Frag} {H : Hp} : ∀ {is : List Int} {vs : List V}, RpAll L K H vs (is.map D.int) → vs = is.map V.int
  | [], _, h => by cases h; rfl
  | _ :: is, _, h => by
    cases h with
    | cons h t =>
      cases h
      rw [ints_rp t]
      rfl
theorem eqI (A : Around) (s : Shared) (i : Int) (t : Tok) (j : Int) (u : Tok) : SeqAt.EqAt A s (.int i t) (.int j u) (decide (j = i)) := by
  refine (SeqAt.EqAt.int_int i t j u).cast ?_
  by_cases e : j = i
  · subst e; simp
  · have e2 : ¬ i = j := fun z => e z.symm
    simp [e, e2]
theorem agr_of {A : Around} {s : Shared} {H : Hp} {zs : List (List Key × Addr × Value)} {ls : List (List Key)} {js : List Int} (rz : KT H (ls.zip (js.map V.int)) zs) : ∀ {ps : List (List Key × Int)} {xs : List (List Key × Addr × Value)}, KT H (ps.map fun p => (p.1, V.int p.2)) xs → Agr A s zs xs (allT ls js ps)
  | [], _, h => by cases h; exact .end
  | (k, i) :: ps, _, h => by
    cases h with
    | @cons _ x _ xs h t =>
      obtain ⟨e1, _, t0, e3⟩ := h
      have e1 : k = x.1 := e1
      have e3 : x.2.2 = .int i t0 := e3
      have ih := agr_of (A := A) (s := s) rz t
      have v := rz.val k
      rw [look_valG, lookG_map] at v
      show Agr A s zs (x :: xs) (decide (lookG ls js k = some i) && allT ls js ps)
      cases hl : lookG ls js k with
      | none =>
        rw [hl] at v
        cases ha : atKey zs k with
        | none =>
          refine (?_ : Agr A s zs (x :: xs) false)
          exact .lack (e1 ▸ ha)
        | some q => rw [ha] at v; exact v.elim
      | some j =>
        rw [hl] at v
        cases ha : atKey zs k with
        | none => rw [ha] at v; exact v.elim
        | some q =>
          rw [ha] at v
          obtain ⟨t1, e4⟩ := (show RelV (.int j) q.2 from v)
          have e4 : q.2 = .int j t1 := e4
          have eq := eqI A s i t0 j t1
          rw [← e3, ← e4] at eq
          have dd : decide (some j = some i) = decide (j = i) := by simp
          rw [dd]
          exact .find (e1 ▸ ha) eq ih
def rCmpT (neg : Bool) : R2 := fun x y H Q => ∃ a b ks is ls js, x = .ref a ∧ y = .ref b ∧ L2.Rd H a (.dT (ks.zip (is.map V.int))) ∧ L2.Rd H b (.dT (ls.zip (js.map V.int))) ∧ ks.length = is.length ∧ ls.length = js.length ∧ Q (.bl (xor neg (eqDT ks is ls js))) H
section
variable {X : Cx}
theorem cmpT {pp : List (Addr × Obj)} {σ : L2.St} {s : Shared} {H : Hp} {a b : Addr} {ks ls : List (List Key)} {is js : List Int} (I : Inv X pp σ H s) (ha : L2.Rd H a (.dT (ks.zip (is.map V.int)))) (hb : L2.Rd H b (.dT (ls.zip (js.map V.int)))) (la : ks.length = is.length) (lb : ls.length = js.length) :
    (a == sysModules) = false ∧ (b == sysModules) = false ∧ ∃ xs zs, s.heap.DictOfH (tupleKind (mixKind X.prog X.w)) a xs ∧ s.heap.DictOfH (tupleKind (mixKind X.prog X.w)) b zs ∧ ∀ A, (xs.length == zs.length && allT ls js (ks.zip is)) = eqDT ks is ls js ∧ Agr A s zs xs (allT ls js (ks.zip is)) := by
  obtain ⟨_, na, xs, ra, da⟩ := dt_rd I.hok ha
  obtain ⟨_, nb, zs, rb, db⟩ := dt_rd I.hok hb
  have h1 := Paired.length ra
  have h2 := Paired.length rb
  rw [List.length_zip, List.length_map] at h1 h2
  refine ⟨na, nb, xs, zs, da, db, fun A => ⟨?_, agr_of rb ?_⟩⟩
  · unfold eqDT
    rw [← h1, ← h2, ← la, ← lb, Nat.min_self, Nat.min_self]
  · rw [List.zip_map_right] at ra
    exact ra
theorem op_eqT (hu : X.A.units + 64 < cLine) : OpR X (compareOp .Eq) (rCmpT false) := fun pp s σ H x y v u Q I rx ry h => by
  obtain ⟨a, b, ks, is, ls, js, rfl, rfl, ha, hb, la, lb, q⟩ := h
  obtain rfl : v = Value.ref a := rx
  obtain rfl : u = Value.ref b := ry
  obtain ⟨na, nb, xs, zs, da, db, f⟩ := cmpT I ha hb la lb
  have room : (tupleKind (mixKind X.prog X.w)).room X.A.in1 := tupleKind_room_in1 (by omega)
  refine eqH room na nb da db (by omega) (fun _ => (f X.A.in1).2) ?_
  rw [(f X.A.in1).1]
  exact fin_bl I q (by simp)
def intsD : List D → Option (List Int)
  | [] => some []
  | .int i :: r => (intsD r).map (i :: ·)
  | _ => none
theorem intsD_eq : ∀ {ds : List D} {is : List Int}, intsD ds = some is → ds = is.map D.int
  | [], _, h => by cases h; rfl
  | d :: ds, is, h => by
    unfold intsD at h
    split at h
    · rename_i e; cases e
    · rename_i i r e
      cases e
      obtain ⟨l, hl, rfl⟩ := Option.map_eq_some_iff.mp h
      rw [intsD_eq hl]
      rfl
    · cases h
theorem intsD_map : ∀ is : List Int, intsD (is.map D.int) = some is
  | [] => rfl
  | i :: is => by
    show (intsD (is.map D.int)).map (i :: ·) = some (i :: is)
    rw [intsD_map is]
    rfl
def gCmpT (neg : Bool) : G2 := fun a b L k => match con L a, con L b with
  | .dt ks ds, .dt ls es => match intsD ds, intsD es with
    | some is, some js => k (.bl (xor neg (eqDT ks is ls js)))
    | _, _ => False
  | _, _ => False
theorem sim_cmpT {K : PySem.W.Frag} {neg : Bool} : Sim2 K (rCmpT neg) (gCmpT neg) := fun H L va vb a b k Q j ra rb h hk => by
  unfold gCmpT at h
  split at h
  · rename_i ks ds ls es h1 h2
    obtain ⟨p, vs, rfl, hp, hl, rv⟩ := con_dt j ra h1
    obtain ⟨q, ws, rfl, hq, hl2, rw2⟩ := con_dt j rb h2
    split at h
    · rename_i is js e1 e2
      rw [intsD_eq e1] at rv
      rw [intsD_eq e2] at rw2
      have ev := ints_rp rv
      have ew := ints_rp rw2
      subst ev ew
      rw [List.length_map] at hl hl2
      exact ⟨p, q, ks, is, ls, js, rfl, rfl, hp, hq, hl, hl2, hk _ _ H h (Same.refl H) (.bl _)⟩
    · exact h.elim
  · exact h.elim
theorem oq_eqT (hu : X.A.units + 64 < cLine) : OQ X (compareOp .Eq) (gCmpT false) := ⟨_, op_eqT hu, sim_cmpT⟩
end
end DL
namespace HBool
open PySem PySem.Spec PyProof.Rows
section
variable {P : Program} {w : World}
theorem meets_any (x : Value) : MeetsIn P w (Builtin.«bool.__new__» ⟨[.type "bool", x], []⟩) (fun A R s => wpAny (model P w) A.in1 (truthy x) (fun b s2 => R (.ok (.ret (.bool b))) s2) (fun e s2 => R (.error e) s2) s) :=
  .of_wp fun A R s h => by
    have f1 := F.conv_sub_bool
    repeat (any_goals (first
      | assumption
      | (refine wpAny_bind (m := truthy x) (wpAny_mono h (fun b s2 z => ?_) fun _ _ z => z))
      | wp_step))
    all_goals first | exact ⟨_, rfl, z⟩ | exact wpAny_pure ⟨_, rfl, z⟩ | skip
end
end HBool
namespace DL
open PySem PySem.Spec PyProof.Rows L2
section
variable {X : Cx} {Wx : WX} {e : Expr} {de : DE} {pos : Pos}
theorem run_in2 {CX : CXT} {k : Nat} {f : Addr} {fd : FuncData} {ps : List Str} {sp : Sp} {E : XK} {E' : Value → Shared → Prop} {pins : List (Addr × Obj)} {σ : L2.St} {H : Hp} {s : Shared} {Q : VK} {us : List Value} {vs : List V}
    (F : FnOk X.prog X.w X.K X.mg X.base CX k f fd ps sp) (hr : Room (k + 1 + 1) X.A) (hb : Binds X.K fd ps []) (hx : Passes CX X.nox E) (I : Inv X pins σ H s) (r : Vals vs us) (h : sp vs H Q E) :
    wpAny (model X.prog X.w) X.A.in1.in1 (call (.ref f) us) (EP X pins σ Q) E' s := by
  have len : us.length = ps.length := by rw [← r.length]; exact F.len _ _ _ _ h
  have b := hb s us I.kIn (by rw [List.append_nil]; exact len)
  rw [List.append_nil] at b
  refine wpAny_call (codeAny_mono (F.run X.A.in1.in1 X.stack s H ⟨us, []⟩ us vs Q E hr.in1.in1 I.env0.in1.in1 b r h) fun w s2 hq => ?_)
  match w, hq with
  | .error er, hq => exact False.elim (hx pins σ H s er s2 (I.wish _) hq)
  | .ok (.ret u), hq => exact I.after hq
/-- bool(x), x of a class with its own __bool__ -/
theorem call_boolO {k : Nat} {f : Addr} {fd : FuncData} {C : Addr} {g : DSp} (G : FnOk X.prog X.w X.K X.mg X.base (L2.CX X.prog X.w) k f fd ["self"] (spD X.K g)) (hM : Meth X.K C "__bool__" f) (hr : Room (k + 1 + 1) X.A) (hb : Binds X.K fd ["self"] []) :
    CallR X (.type "bool") (rOwn1 X.K C g fun v => ∃ b : Bool, v = .bl b) := fun pp s σ H xs us Q I rv ⟨a, dx, fs, ea, hq, h⟩ => by
  subst ea
  obtain ⟨u, eu, ru⟩ := vals1 rv
  subst eu
  cases ru
  obtain ⟨m, fr⟩ := I.fr
  obtain ⟨mA, O, _⟩ := ins_get I.hok hq
  obtain ⟨od, J, _⟩ := O.look
  refine callType_newIn F.called_bool F.newNe_bool (F.typeCall_bool_1 _) (F.newCall_bool_1 _) (fun obj => F.args_object_init_2 obj _) F.entry_bool_new (HBool.meets_any (.ref a)) ?_
  refine PySem.W.truthy_K fr I.ok.mod.kin J hM.at_ hM.fn (wpAny_mono (run_in2 (us := [.ref a]) (vs := [.ref a]) G hr hb nox_cx I (.cons rfl .nil) h) (fun u s2 z => ?_) fun _ _ z => z)
  obtain ⟨v, H2, I2, rv2, ⟨b, ev⟩, q⟩ := z
  subst ev
  obtain rfl : u = Value.bool b := rv2
  exact ⟨rfl, .bl b, H2, I2, rfl, q⟩
theorem q_boolO {n k : Nat} {C : Addr} {g : DSp} {p : Pos} (F : MCal X.prog X.w X.K X.mg X.base n C "__bool__" ["self"] [] g) (hn : n + 2 ≤ k) (hr : Room k X.A) (hg : Gl X "bool") (hm : X.mg "bool" = none) (he : QE X Wx e de)
    (hs : starEach (e :: []) X.env = (false, eval e X.env) :: starEach [] X.env := by rfl) (hpl : (backTo pos (starEach [] X.env)).any (·.1) = false := by rfl) : QE X Wx (.Call (.Name "bool" p) [e] [] pos) (dOwn1 C g (fun d => ∃ b : Bool, d = .bl b) de) := by
  obtain ⟨f, fd, us, dvs, F, hC, hM, hb, hd, hdd⟩ := F.ex
  obtain rfl : dvs = [] := by cases hdd [] (fun _ => none); rfl
  cases hd
  obtain ⟨te, pe, se⟩ := he.ex
  exact ⟨_, pe_callTy (call_boolO F hM (hr.mono hn) hb) hg hm (by rfl) (pa_cons pe pa_nil hs) (by decide) (by decide) hs hpl, sim_own1 (fun L K H v d r ⟨b, e⟩ => by subst e; cases r; exact ⟨b, rfl⟩) (fun σ H Q h => h) se⟩
end
end DL
namespace DL
open PySem PySem.Spec PyProof.Rows L2 RZ
section
variable {X : Cx} {Wx : WX} {a b c e o f : Expr} {es : List Expr} {da db dc de do' df : DE} {dl dk : DA} {pos apos : Pos}
section
variable {CX : CXT} {k : Nat} {C f : Addr} {m : Str} {fd : FuncData} {ps ks : List Str} {sp : Sp} {E : L2.St → XK} {dus : List Value} {dvs : List V} {ta : TE} {tk : TA} {pl : Sem Bool} {g : Perm3} {kws : List Keyword}
def tMethK (C : Addr) (m : Str) (nk : Nat) (sp : Sp) (g : Perm3) (dvs : List V) (E : L2.St → XK) (ta : TE) (tk : TA) : TE := fun σ H Q => ta σ H fun x H1 => ∃ a dx fs, x = .ref a ∧ H1 a = some (.ins C dx fs) ∧ fs.lookup m = none ∧ tk σ H1 fun zs H2 => zs.length = nk ∧ sp (g [x] zs dvs) H2 Q (E σ)
theorem pe_methK (hO : PE X o ta) (hC : Cls X.K C) (hM : Meth X.K C m f) (F : FnOk X.prog X.w X.K X.mg X.base CX k f fd ps sp) (hr : Room k X.A) (hb : KwB X.K fd ps 1 ks dus g) (hp : PermOk @g) (hd : Vals dvs dus) (hx : ∀ σ, PassesAt CX X σ (E σ)) (hkw : PK X kws tk)
    (hall : (backToKw pos (keywordEach kws X.env)).all (·.1.isSome) = true := by rfl) (hks : (backToKw pos (keywordEach kws X.env)).filterMap (·.1) = ks := by rfl)
    (hpl : ((backTo pos (starEach [] X.env)).any (·.1) || (backToKw pos (keywordEach kws X.env)).any (·.1.isNone)) = false := by rfl)
    (h3 : eval (.Call (.Attribute o m apos) [] kws pos) X.env = (do let ov ← eval o X.env; standAt apos.atName; let (f, first) ← holding [ov] (getMethod ov m pl); callWith pos f first (backTo pos (starEach [] X.env)) (backToKw pos (keywordEach kws X.env))) := by rfl) :
    PE X (.Call (.Attribute o m apos) [] kws pos) (tMethK C m ks.length sp @g dvs E ta tk) := ⟨fun pp s σ H Q I h => by
  refine PySem.W.methodCall_KW (pl := pl) (thn (hO.run pp s σ H _ I h) fun u s1 ⟨_, H1, I1, rx, a, _, _, ez, ea, l, q⟩ => ?_) h3
  subst ez
  cases rx
  refine getmeth_ok I1 ea hC hM l (PySem.W.callWith_KW0 (first := [.ref a]) (h₀ := X.base) I.ok.mod.kin hM.kp hall (thn (hkw.run pos pp s1 σ H1 _ I1 q) fun ws s2 ⟨zs, H2, I2, rz, l2, q2⟩ => ⟨I2.kIn, ?_⟩) hpl)
  rw [hks]
  exact run_fnW (us := [.ref a]) (vs := [.ref a]) F hr hb hp hd (hx σ) I2 (.cons rfl .nil) rz rfl l2 q2⟩
end
/-- a method called by keywords alone -/
structure MCalK (P : Program) (w : World) (K : PySem.W.Frag) (mg : Str → Option Value) (base : Heap) (n : Nat) (C : Addr) (m : Str) (ks : List Str) (dd : List D) (gp : Perm3) (g : DSp) : Prop where
  ex : ∃ f fd ps us dvs, FnOk P w K mg base (L2.CX P w) n f fd ps (spD K g) ∧ Cls K C ∧ Meth K C m f ∧ KwB K fd ps 1 ks us gp ∧ PermOk @gp ∧ Vals dvs us ∧ ∀ L H, RpAll L K H dvs dd
def dMethK (C : Addr) (m : Str) (nk : Nat) (g : DSp) (gp : Perm3) (dd : List D) (da : DE) (dk : DA) : DE := fun env L k x => da env L (fun a L1 => match con L1 a with
  | .obj C' ns vs => (C' = C ∧ (ns.zip vs).lookup m = none) ∧ dk env L1 (fun es L2 => es.length = nk ∧ g (gp [a] es dd) L2 k fun n L' => x n env L') x
  | _ => False) x
theorem q_methK {C : Addr} {m : Str} {n k : Nat} {ks : List Str} {g : DSp} {gp : Perm3} {dd : List D} {pl : Sem Bool} {kws : List Keyword} (F : MCalK X.prog X.w X.K X.mg X.base n C m ks dd gp g) (hn : n ≤ k) (hr : Room k X.A) (tk : Takes X Wx) (ho : QE X Wx o do') (hkw : QK X Wx kws dk)
    (hall : (backToKw pos (keywordEach kws X.env)).all (·.1.isSome) = true := by rfl) (hks : (backToKw pos (keywordEach kws X.env)).filterMap (·.1) = ks := by rfl)
    (hpl : ((backTo pos (starEach [] X.env)).any (·.1) || (backToKw pos (keywordEach kws X.env)).any (·.1.isNone)) = false := by rfl)
    (h3 : eval (.Call (.Attribute o m apos) [] kws pos) X.env = (do let ov ← eval o X.env; standAt apos.atName; let (f, first) ← holding [ov] (getMethod ov m pl); callWith pos f first (backTo pos (starEach [] X.env)) (backToKw pos (keywordEach kws X.env))) := by rfl) :
    QE X Wx (.Call (.Attribute o m apos) [] kws pos) (dMethK C m ks.length g gp dd do' dk) := by
  obtain ⟨f, fd, ps, us, dvs, F, hC, hM, hb, hp, hd, hdd⟩ := F.ex
  obtain ⟨to, po, so⟩ := ho.ex
  obtain ⟨tk2, pk, sk⟩ := hkw.ex
  refine ⟨_, pe_methK po hC hM F (hr.mono hn) hb hp hd (fun σ => passAt tk σ) pk hall hks hpl h3, fun σ H env L k x Q st h hk hx => ?_⟩
  refine so σ H env L _ x _ st h (fun a L1 va H1 h1 g1 j1 r1 => ?_) hx
  split at h1
  · rename_i C' ns ds hc
    obtain ⟨⟨rfl, h2⟩, h1⟩ := h1
    obtain ⟨q, dx, vs, rfl, hq, hl, rv⟩ := con_obj j1 r1 hc
    refine ⟨q, dx, _, rfl, hq, lookup_none rv.length h2, ?_⟩
    refine sk σ H1 env L1 _ x _ (st.go g1 j1) h1 (fun es L2 zs H2 h2 g2 j2 r2 => ?_) (hx.go g1)
    obtain ⟨l2, h2⟩ := h2
    refine ⟨by rw [r2.length]; exact l2, gp [a] es dd, L2, k, fun n L' => x n env L', j2, paired_rp (hp.map (rp_paired (.cons (r1.go g2) .nil)) (rp_paired r2) (rp_paired (hdd L2 H2))), h2, (hk.go g1).go g2, fun n L' a H' q g' j' r => hx n env L' a H' σ q ((g1.trans g2).trans g') (st.go ((g1.trans g2).trans g') j') r⟩
  · exact h1.elim
/-- a new object of the ledger, from then on a plain datum -/
def dSealE (de : DE) : DE := fun env L k x => de env L (fun d L1 => match d with
  | .ptr q => match L1.lookup q with
    | some (.obj C ns vs) => k (.obj C ns vs) (remL L1 q)
    | _ => False
  | _ => False) x
theorem q_sealE (h : QE X Wx e de) : QE X Wx e (dSealE de) := by
  obtain ⟨te, pe, se⟩ := h.ex
  refine ⟨te, pe, fun σ H env L k x Q st h hk hx => se σ H env L _ x _ st h (fun d L1 v H1 h1 g1 j1 r1 => ?_) hx⟩
  split at h1
  · rename_i q
    cases r1
    split at h1
    · rename_i C ns vs hl
      obtain ⟨dx, ws, e1, e2, rv⟩ := j1.look hl
      exact hk _ _ _ H1 h1 (g1.trans go_rem) j1.rem (.obj (fun m => (inL_remL.mp m).2 rfl) e1 e2 (rv.go go_rem))
    · exact h1.elim
  · exact h1.elim
/-- one of two walks -/
def diOr (d1 d2 : DI) : DI := fun env L k x => d1 env L k x ∨ d2 env L k x
theorem i_or {tg iter : Expr} {d1 d2 : DI} (h1 : QI X Wx tg iter d1) (h2 : QI X Wx tg iter d2) : QI X Wx tg iter (diOr d1 d2) := by
  obtain ⟨w1, p1, s1⟩ := h1.ex
  obtain ⟨w2, p2, s2⟩ := h2.ex
  refine ⟨fun σ H R => w1 σ H R ∨ w2 σ H R, ⟨fun pp s σ H R I h => h.elim (p1.run pp s σ H R I) (p2.run pp s σ H R I)⟩, fun σ H env L k x R st h hk hx => ?_⟩
  rcases h with h | h
  · exact .inl (s1 σ H env L k x R st h hk hx)
  · exact .inr (s2 σ H env L k x R st h hk hx)
/-- the targets (i, j), of a tuple that is a key -/
def dgKt (n : Nat) (dgs : DGs) : DG := fun d env L k => match d with
  | .kt ks => ks.length = n ∧ dgs (ks.map kD) env L k
  | _ => False
theorem g_kt {kk : Nat} {dgs : DGs} {n : Nat} {sl : List Nat} (hc : X.calm = true) (h : QGs X es sl dgs) (hn : (assignEach es X.env).length = n := by rfl) (hst : (assignEach es X.env).findIdx? (·.1) = none := by rfl) : QG X (.Tuple es kk pos) sl (dgKt n dgs) := by
  obtain ⟨gs, pgs, sgs⟩ := h.ex
  refine ⟨_, pg_tup hc pgs hn hst, fun v d σ H env L k Q st r h hk => ?_⟩
  cases d <;> first | exact h.elim | skip
  rename_i ks
  have r2 : Rp L X.K H v (.tup (ks.map kD)) := con_tupR st.2 r rfl
  generalize hd : D.tup (ks.map kD) = d at r2
  cases r2 <;> first | (cases hd; done) | skip
  rename_i s r3
  cases hd
  exact ⟨_, _, rfl, s.sq, by rw [r3.length, List.length_map]; exact h.1, sgs _ _ σ H env L k Q st r3 h.2 hk⟩
end
end DL
namespace DL
open PySem PySem.Spec PyProof.Rows L2 RZ
section
variable {X : Cx} {Wx : WX}
/-- behind the statement the slot's dict leaves the ledger -/
def dSealT (i : Nat) (ds : DS) : DS := fun D env L => ds { D with nx := fun env' L' => match env'[i]? with
  | some (some (.ptr p)) => match L'.lookup p with
    | some (.dt ks vs) => D.nx (env'.set i (some (.dt ks vs))) (remL L' p)
    | _ => False
  | _ => False } env L
theorem s_sealT (i : Nat) {st : Stmt} {ds : DS} (h : QS X Wx st ds) : QS X Wx st (dSealT i ds) := by
  obtain ⟨t, pt, s1⟩ := h.ex
  refine ⟨t, pt, fun σ H env L D' D st h ok => ?_⟩
  refine s1 σ H env L _ _ st h ⟨fun env' L' σ' H' h' g' st' => ?_, ok.rt, ok.ex, ok.bk, ok.ct⟩
  have h' : (match env'[i]? with
    | some (some (.ptr p)) => match L'.lookup p with
      | some (.dt ks vs) => D'.nx (env'.set i (some (.dt ks vs))) (remL L' p)
      | _ => False
    | _ => False) := h'
  split at h'
  · rename_i p hd
    split at h'
    · rename_i ks ds hl
      obtain ⟨v, e1, r⟩ := st'.1.get hd
      cases r
      obtain ⟨vs, e2, hn, rv⟩ := st'.2.look hl
      have g2 : Go L' (remL L' p) H' H' := go_rem
      have s2 := st'.1.go g2
      have r2 : Rp (remL L' p) X.K H' (.ref p) (.dt ks ds) := .dt (fun m => (inL_remL.mp m).2 rfl) (.inl e2) hn (rv.go go_rem)
      have s3 := s2.set r2 i
      have e3 : σ'.set i (some (V.ref p)) = σ' := by
        apply List.ext_getElem?
        intro j
        rw [List.getElem?_set]
        by_cases hj : i = j
        · subst hj
          rw [if_pos rfl, e1]
          have hlt : i < σ'.length := by
            rcases Nat.lt_or_ge i σ'.length with h | h
            · exact h
            · rw [List.getElem?_eq_none h] at e1; cases e1
          rw [if_pos hlt]
        · rw [if_neg hj]
      rw [e3] at s3
      exact ok.nx _ _ σ' H' h' (g'.trans g2) ⟨s3, st'.2.rem⟩
    · exact h'.elim
  · exact h'.elim
end
section
variable {P : Program} {w : World} {K : PySem.W.Frag} {mg : Str → Option Value} {base : Heap}
/-- a def with defaults, by position and keyword-only -/
abbrev FunF (K : PySem.W.Frag) (x qual : Str) (st : Stmt) (dvs : List V) (kws : List (Str × V)) (f : Addr) (fd : FuncData) : Prop := FunD K x qual (defArgs st) (defBody st) (defScope st) dvs kws f fd
theorem fn_okF {x qual : Str} {st : Stmt} {f : Addr} {fd : FuncData} {dvs : List V} {kws : List (Str × V)} {N ps : List Str} {k : Nat} {g : DSp} (F : FunF K x qual st dvs kws f fd) (S : FnScope N ps (defScope st)) (len : ∀ ds L k x, g ds L k x → ds.length = ps.length)
    (body : ∀ (cdv : Value) (A : Around) (outer : List Env) (s : Shared) (H : Hp) (E : XK), Room k (A.deeper (envOfC qual (defScope st) s.heap.objs.size f cdv)) →
      ∃ t, QSs (cxOf (L2.CX P w) P w K mg base N qual (defScope st) f cdv A outer s H E) (wxOf E) (defBody st) t ∧ ∀ ds L k x, g ds L k x → t (endsD k x) (startD N ds) L) : FnOk P w K mg base (L2.CX P w) (k + 1) f fd ps (spD K g) := by
  refine F.ok S (fun vs H Q E ⟨ds, L, k, x, j, r, h, _⟩ => by rw [r.length]; exact len ds L k x h) (fun cdv A outer s H vs Q E hr ⟨ds, L, k, x, j, r, h, hk, hx⟩ => ?_)
  obtain ⟨t, q, ht⟩ := body cdv A outer s H E hr
  obtain ⟨ts, pts, sts⟩ := q.ex
  refine ⟨ts, pts, sts _ H (startD N ds) L (endsD k x) _ ⟨?_, j⟩ (ht ds L k x h) ⟨fun env' L' σ' H' q g' st' => hk .non L' .non H' q g' st'.2 .non, hk, fun n env' L' a H' σ' q g' st' r' => hx n L' a H' q g' st'.2 r', fun _ _ _ _ q => q.elim, fun _ _ _ _ q => q.elim⟩⟩
  unfold L2.start startD
  rw [r.length]
  exact Sto.start r
/-- all defaults by themselves, as keywords that lack -/
theorem kwb_of {fd : FuncData} {ps : List Str} {n : Nat} {us : List Value} (b : Binds K fd ps us) (hn : n + us.length = ps.length) : KwB K fd ps n [] us (fun a _ c => a ++ c) :=
  ⟨fun s as ws X l1 l2 => b s as X (by rw [List.length_append]; omega)⟩
end
end DL
namespace DL
open PySem PySem.Spec PyProof.Rows L2 RZ
/-- C.m is a static method: its record at p, its def at g -/
structure SMet (K : PySem.W.Frag) (C : Addr) (mc : Value) (m : Str) (p g : Addr) : Prop where
  at_ : PySem.W.findCls K (.ref C) mc m = some (.get (.builtin "staticmethod.__get__") (.ref p) .none (.ref C))
  rc : ∃ rest, PySem.W.recIn K p "staticmethod" = some (.ref g :: rest)
  kp : PySem.W.keepIn K (.ref g) = true
section
variable {X : Cx} {Wx : WX} {a b c e o f : Expr} {es : List Expr} {da db dc de do' df : DE} {dl dk : DA} {pos apos : Pos}
theorem getsm_ok {pp : List (Addr × Obj)} {σ : L2.St} {H : Hp} {s : Shared} {C p g : Addr} {mc : Value} {m : Str} {A : Around} {E : Value → Shared → Prop} {pl : Sem Bool} {Q : Value × List Value → Shared → Prop} (I : Inv X pp σ H s) (r : ClX.CRead X.K C mc) (k : SMet X.K C mc m p g)
    (h : ∀ s', Inv X pp σ H s' → Q (.ref g, []) s') : wpAny (model X.prog X.w) A (getMethod (.ref C) m pl) Q E s := by
  obtain ⟨rest, hp⟩ := k.rc
  refine PySem.W.method_cls I.kIn r.ga (PySem.W.cls_bind I.kIn r.rd k.at_ (wpAny_call (PySem.W.sm_get (s := { s with toks := s.toks + 1 }) I.kIn hp (PySem.W.handed_on (handed_of (show RelV (.ref g) (.ref g) from rfl)) ?_))))
  exact h _ (I.tok _)
/-- C.m(..), a static method by its class and name -/
structure SCal (P : Program) (w : World) (K : PySem.W.Frag) (mg : Str → Option Value) (base : Heap) (n : Nat) (x : Str) (C : Addr) (m : Str) (ps : List Str) (dd : List D) (g : DSp) : Prop where
  ex : ∃ mc p f fd us dvs, FnOk P w K mg base (L2.CX P w) n f fd ps (spD K g) ∧ mg x = some (.ref C) ∧ ClX.CRead K C mc ∧ SMet K C mc m p f ∧ Binds K fd ps us ∧ Vals dvs us ∧ ∀ L H, RpAll L K H dvs dd
theorem q_stat {x m : Str} {p : Pos} {C : Addr} {n k : Nat} {ps : List Str} {g : DSp} {dd : List D} {pl : Sem Bool} (F : SCal X.prog X.w X.K X.mg X.base n x C m ps dd g) (hn : n ≤ k) (hr : Room k X.A) (tk : Takes X Wx) (hg : Gl X x) (ha : QA X Wx (e :: es) dl) (hdb : (x == ("__debug__" : Str)) = false := by decide)
    (h1 : starEach (e :: es) X.env = (false, eval e X.env) :: starEach es X.env := by rfl) (h2 : (backTo pos (starEach es X.env)).any (·.1) = false := by rfl)
    (h3 : eval (.Call (.Attribute (.Name x p) m apos) (e :: es) [] pos) X.env = (do let ov ← eval (.Name x p) X.env; standAt apos.atName; let (f, first) ← holding [ov] (getMethod ov m pl); callWith pos f first (backTo pos (starEach (e :: es) X.env)) (backToKw pos (keywordEach [] X.env))) := by rfl) :
    QE X Wx (.Call (.Attribute (.Name x p) m apos) (e :: es) [] pos) (dCall g dd dl) := by
  obtain ⟨mc, q, f, fd, us, dvs, F, hm, rd, sm, hb, hd, hdd⟩ := F.ex
  obtain ⟨ta, pa, sa⟩ := ha.ex
  refine ⟨tCallSD (spD X.K g) dvs (WE Wx) ta, ⟨fun pp s σ H Q I h => ?_⟩, fun σ H env L k x Q st h hk hx => ?_⟩
  · refine PySem.W.methodCall_KW (pl := pl) (thn ((pe_glob (v := .ref C) hg hm rfl hdb).run pp s σ H (fun v H1 => v = .ref C ∧ tCallSD (spD X.K g) dvs (WE Wx) ta σ H1 Q) I ⟨rfl, h⟩) fun u s1 ⟨v, H1, I1, rv, ev, q1⟩ => ?_) h3
    subst ev
    obtain rfl : u = Value.ref C := rv
    refine getsm_ok I1 rd sm fun s2 I2 => PySem.W.callWith_K (first := []) (h₀ := X.base) I.ok.mod.kin sm.kp (thn (pa.run pos pp s2 σ H1 _ I2 q1) fun us2 _ ⟨vs, _, I3, r, q2⟩ => ⟨I3.kIn, ?_⟩) h1 h2
    exact run_fnSD F (hr.mono hn) hb hd (passAt tk σ) I3 r q2
  · refine sa σ H env L _ x _ st h (fun ds L1 vs H1 h1 g1 j1 r1 => ?_) hx
    exact ⟨ds ++ dd, L1, k, fun n L' => x n env L', j1, r1.append (hdd L1 H1), h1, hk.go g1, fun n L' a H' q g' j' r => hx n env L' a H' σ q (g1.trans g') (st.go (g1.trans g') j') r⟩
/-- .. by keywords alone -/
structure SCalK (P : Program) (w : World) (K : PySem.W.Frag) (mg : Str → Option Value) (base : Heap) (n : Nat) (x : Str) (C : Addr) (m : Str) (ks : List Str) (dd : List D) (gp : Perm3) (g : DSp) : Prop where
  ex : ∃ mc p f fd ps us dvs, FnOk P w K mg base (L2.CX P w) n f fd ps (spD K g) ∧ mg x = some (.ref C) ∧ ClX.CRead K C mc ∧ SMet K C mc m p f ∧ KwB K fd ps 0 ks us gp ∧ PermOk @gp ∧ Vals dvs us ∧ ∀ L H, RpAll L K H dvs dd
theorem q_statK {x m : Str} {p : Pos} {C : Addr} {n k : Nat} {ks : List Str} {g : DSp} {gp : Perm3} {dd : List D} {pl : Sem Bool} {kws : List Keyword} (F : SCalK X.prog X.w X.K X.mg X.base n x C m ks dd gp g) (hn : n ≤ k) (hr : Room k X.A) (tk : Takes X Wx) (hg : Gl X x) (hkw : QK X Wx kws dk) (hdb : (x == ("__debug__" : Str)) = false := by decide)
    (hall : (backToKw pos (keywordEach kws X.env)).all (·.1.isSome) = true := by rfl) (hks : (backToKw pos (keywordEach kws X.env)).filterMap (·.1) = ks := by rfl)
    (hpl : ((backTo pos (starEach [] X.env)).any (·.1) || (backToKw pos (keywordEach kws X.env)).any (·.1.isNone)) = false := by rfl)
    (h3 : eval (.Call (.Attribute (.Name x p) m apos) [] kws pos) X.env = (do let ov ← eval (.Name x p) X.env; standAt apos.atName; let (f, first) ← holding [ov] (getMethod ov m pl); callWith pos f first (backTo pos (starEach [] X.env)) (backToKw pos (keywordEach kws X.env))) := by rfl) :
    QE X Wx (.Call (.Attribute (.Name x p) m apos) [] kws pos) (dCallW 0 ks.length g gp dd dNil dk) := by
  obtain ⟨mc, q, f, fd, ps, us, dvs, F, hm, rd, sm, hb, hp, hd, hdd⟩ := F.ex
  obtain ⟨tk2, pk, sk⟩ := hkw.ex
  refine ⟨tCallW 0 ks.length (spD X.K g) (fun vs zs => gp vs zs dvs) (WE Wx) tNil tk2, ⟨fun pp s σ H Q I h => ?_⟩, sim_callW hp hdd (fun σ H env L k x Q st h hk hx => hk [] L [] H h (Go.refl L H) st.2 .nil) sk⟩
  refine PySem.W.methodCall_KW (pl := pl) (thn ((pe_glob (v := .ref C) hg hm rfl hdb).run pp s σ H (fun v H1 => v = .ref C ∧ tCallW 0 ks.length (spD X.K g) (fun vs zs => gp vs zs dvs) (WE Wx) tNil tk2 σ H1 Q) I ⟨rfl, h⟩) fun u s1 ⟨v, H1, I1, rv, ev, q1⟩ => ?_) h3
  subst ev
  obtain rfl : u = Value.ref C := rv
  refine getsm_ok I1 rd sm fun s2 I2 => PySem.W.callWith_KW0 (first := []) (h₀ := X.base) I.ok.mod.kin sm.kp hall (thn (pk.run pos pp s2 σ H1 _ I2 q1) fun ws s3 ⟨zs, H3, I3, rz, l1, l2, q2⟩ => ⟨I3.kIn, ?_⟩) hpl
  rw [hks]
  exact run_fnW (us := []) (vs := []) F (hr.mono hn) hb hp hd (passAt tk σ) I3 .nil rz rfl l2 q2
/-- o.f, a property whose getter is a def of its own (it raises nothing) -/
structure PropM (P : Program) (w : World) (K : PySem.W.Frag) (mg : Str → Option Value) (base : Heap) (n : Nat) (C : Addr) (f : Str) (g : DSp) : Prop where
  ex : ∃ p q fd, Cls K C ∧ PropOf K C f p q ∧ FnOk P w K mg base (L2.CX P w) n q fd ["self"] (spD K g) ∧ Binds K fd ["self"] []
theorem q_propM {C : Addr} {f : Str} {n k : Nat} {g : DSp} (F : PropM X.prog X.w X.K X.mg X.base n C f g) (hn : n + 1 ≤ k) (hr : Room k X.A) (he : QE X Wx e de) (hab : attributeBase e f X.env (eval e X.env) = eval e X.env := by rfl) : QE X Wx (.Attribute e f pos) (dOwn1 C g (fun _ => True) de) := by
  obtain ⟨p, q, fd, c, hp, F, hb⟩ := F.ex
  obtain ⟨te, pe, se⟩ := he.ex
  refine ⟨_, pe_prop pe c hp F (hr.mono hn) hb .nil (E := fun _ _ _ => False) nox_cx hab, fun σ H env L kk x Q st hh hk hx => ?_⟩
  refine se σ H env L _ x _ st hh (fun a L1 va H1 h1 g1 j1 r1 => ?_) hx
  split at h1
  · rename_i C' ns ds hc
    obtain ⟨rfl, h1⟩ := h1
    obtain ⟨z, dx, vs, rfl, hz, hl, rv⟩ := con_obj j1 r1 hc
    exact ⟨z, dx, _, rfl, hz, [a], L1, _, _, j1, .cons r1 .nil, h1, fun d L2 v H2 h2 g2 j2 r2 => hk d L2 v H2 h2.2 (g1.trans g2) j2 r2, fun n L' a H' z _ _ _ => z⟩
  · exact h1.elim
end
end DL
namespace DL
open PySem PySem.Spec PyProof.Rows L2 RZ
section
variable {X : Cx} {Wx : WX} {a b c e o f : Expr} {es : List Expr} {da db dc de do' df : DE} {dl dk : DA} {pos apos : Pos}
def gNotB : G2 := fun a b L k => match a, b with
  | .bl x, .bl y => k (.bl (!decide (x = y)))
  | _, _ => False
theorem oq_notB : OQ X (compareOp .IsNot) gNotB := ⟨_, op_notBl, fun H L va vb a b k Q j ra rb h hk => by
  unfold gNotB at h
  split at h
  · cases ra
    cases rb
    exact ⟨_, _, rfl, rfl, hk _ _ H h (Same.refl H) (.bl _)⟩
  · exact h.elim⟩
structure GTup (K : PySem.W.Frag) (mg : Str → Option Value) (x : Str) (zs : List Str) : Prop where
  ex : ∃ (a : Addr) (o : Obj) (its : Array Value) (n : Nat), mg x = some (.ref a) ∧ K.lookup a = some o ∧ o.cls = .type "tuple" ∧ o.dict = none ∧ o.data = .seq its n ∧ its.size ≤ sizeLine ∧ Vals (zs.map V.str) its.toList
def dIdxG (zs : List Str) (de : DE) : DE := fun env L k x => de env L (fun b L2 => match b with
  | .str z => ∃ j : Nat, zs[j]? = some z ∧ (∀ m : Nat, m < j → zs[m]? ≠ some z) ∧ k (.int (j : Int)) L2
  | _ => False) x
theorem q_indexG {x : Str} {p : Pos} {zs : List Str} (T : GTup X.K X.mg x zs) (hg : Gl X x) (he : QE X Wx e de) (hdb : (x == ("__debug__" : Str)) = false := by decide)
    (hbase : attributeBase (.Name x p) "index" X.env (eval (.Name x p) X.env) = eval (.Name x p) X.env := by rfl)
    (hfew : ((backTo pos (starEach (e :: []) X.env)).all (fun x => !x.1) && (backToKw pos (keywordEach [] X.env)).all (fun x => x.1.isSome)
      && decide ((e :: []).length + ([] : List Keyword).length + (if ([] : List Keyword).isEmpty then 0 else 1) < 30)) = true := by rfl)
    (hline : (apos.endLine == pos.line) = true := by rfl) (hs : starEach (e :: []) X.env = (false, eval e X.env) :: starEach [] X.env := by rfl) (hplain : (backTo pos (starEach [] X.env)).any (·.1) = false := by rfl) :
    QE X Wx (.Call (.Attribute (.Name x p) "index" apos) [e] [] pos) (dIdxG zs de) := by
  obtain ⟨a, o, its, n, hm, lk, hc, hd, hdat, hz, rv⟩ := T.ex
  obtain ⟨ta, pa, sa⟩ := (a_cons he a_nil hs).ex
  refine ⟨_, pe_bm PySem.F.plainAttrs_tuple PySem.F.slot_tuple_index PySem.F.type_tuple_index mt_tup_index (pe_glob (v := .ref a) hg hm rfl hdb) pa hbase hfew hline hs hplain, fun σ H env L k x Q st h hk hx => ?_⟩
  refine ⟨.inr (.inl ⟨rfl, o, lk, hc, hd⟩), ?_⟩
  refine sa σ H env L (fun ds L2 => match ds with
    | [b] => (match b with
      | .str z => ∃ j : Nat, zs[j]? = some z ∧ (∀ m : Nat, m < j → zs[m]? ≠ some z) ∧ k (.int (j : Int)) L2
      | _ => False)
    | _ => False) x _ st h (fun ds L2 vs H2 h2 g2 j2 r2 => ?_) hx
  split at h2
  · rename_i b
    cases r2 with
    | @cons vb _ _ _ rb r0 =>
    cases r0
    split at h2
    · rename_i z
      cases rb
      obtain ⟨j, hj, hno, h2⟩ := h2
      exact ⟨a, zs, z, j, rfl, rfl, .inr ⟨o, its, n, lk, hc, hdat, hz, rv⟩, hj, hno, hk _ L2 _ H2 h2 g2 j2 (.int _)⟩
    · exact h2.elim
  · exact h2.elim
def rMaxDf (K : PySem.W.Frag) : List V → List V → Hp → VK → Prop := fun vs zs H Q => ∃ (a : Addr) (ns : List Int) (d : Int), vs = [V.ref a] ∧ zs = [V.int d] ∧ SqL K H a (ns.map V.int) ∧ (ns = [] → Q (.int d) H) ∧ ∀ m, m ∈ ns → (∀ y, y ∈ ns → y ≤ m) → Q (.int m) H
theorem hold_ints {h : Heap} : ∀ {ns : List Int} {its : List Value}, Vals (ns.map V.int) its → PySem.W.HoldAll h its ns
  | [], _, r => by cases r; exact PySem.W.HoldAll.nil
  | n :: ns, _, r => by
    cases r with
    | cons r rs =>
      obtain ⟨t, rfl⟩ := r
      exact PySem.W.HoldAll.cons (PySem.W.holds_int n t) (hold_ints rs)
theorem max_is : ∀ (ys : List Int) (y : Int), (PySem.W.maxOf y ys = y ∨ PySem.W.maxOf y ys ∈ ys) ∧ y ≤ PySem.W.maxOf y ys ∧ ∀ z ∈ ys, z ≤ PySem.W.maxOf y ys
  | [], y => ⟨.inl rfl, Int.le_refl _, fun _ h => nomatch h⟩
  | x :: xs, y => by
    have e : PySem.W.maxOf y (x :: xs) = PySem.W.maxOf (if decide (y < x) = true then x else y) xs := rfl
    rw [e]
    by_cases h : y < x
    · rw [if_pos (decide_eq_true h)]
      obtain ⟨p, q, r⟩ := max_is xs x
      refine ⟨.inr ?_, by omega, fun z hz => ?_⟩
      · rcases p with p | p
        · rw [p]; exact .head _
        · exact .tail _ p
      · cases hz with
        | head => exact q
        | tail _ hz => exact r z hz
    · rw [if_neg (by rw [decide_eq_true_eq]; exact h)]
      obtain ⟨p, q, r⟩ := max_is xs y
      refine ⟨p.imp id (.tail _), q, fun z hz => ?_⟩
      cases hz with
      | head => omega
      | tail _ hz => exact r z hz
theorem int_at : ∀ {ns : List Int} {its : List Value} {i : Nat} {v : Value}, Vals (ns.map V.int) its → its[i]? = some v → ∃ n t, v = .int n t
  | [], _, _, _, r, h => by cases r; cases h
  | n :: ns, _, i, v, r, h => by
    cases r with
    | cons r rs =>
      cases i with
      | zero =>
        obtain ⟨t, rfl⟩ := r
        cases h
        exact ⟨n, t, rfl⟩
      | succ i => exact int_at rs h
theorem call_maxDf (hc : X.calm = true) (hu : X.A.units + 64 < cLine) : CallRK X (.builtin "max") ["default"] (rMaxDf X.K) := fun pp s σ H xs zs us ws Q I r rz h => by
  obtain ⟨a, ns, d, rfl, rfl, hs, q0, q1⟩ := h
  obtain ⟨its, rv, hl, _⟩ := I.list hs
  rw [Vals.ref1 r]
  obtain ⟨u, rfl, rd⟩ := vals1 rz
  obtain ⟨t, rfl⟩ := rd
  refine PySem.W.max_list_datum_default (α := Int) (I.ok.hd hc) hl.isList (hold_ints rv) (by show X.A.units + 1 + 0 < cLine; omega) (fun e h2 tk kp => ⟨.int d, H, I.kept kp, ⟨_, rfl⟩, q0 e⟩) (fun y ys i v h2 tk e hi hv kp => ?_)
  subst e
  rw [← Array.getElem?_toList] at hi
  obtain ⟨n, t, rfl⟩ := int_at rv hi
  have en : n = PySem.W.maxOf y ys := by
    obtain ⟨as, hv⟩ := hv
    cases hv
    rfl
  obtain ⟨p, q, r⟩ := max_is ys y
  refine ⟨.int n, H, I.kept kp, ⟨_, rfl⟩, q1 n ?_ fun z hz => ?_⟩
  · rw [en]
    rcases p with p | p
    · rw [p]; exact .head _
    · exact .tail _ p
  · rw [en]
    cases hz with
    | head => exact q
    | tail _ hz => exact r z hz
end
end DL
namespace DH
open PySem PySem.Spec PyProof.Rows L2 DL
def smG (K : Frag) (p : Addr) : Addr := match PySem.W.recIn K p "staticmethod" with
  | some (.ref g :: _) => g
  | _ => 0
def smP (K : Frag) (C : Addr) (m : Str) : Addr := match PySem.W.findCls K (.ref C) (.type "type") m with
  | some (.get _ (.ref p) _ _) => p
  | _ => 0
def smB (K : Frag) (C : Addr) (m : Str) : Bool := (match PySem.W.findCls K (.ref C) (.type "type") m with
  | some (.get (.builtin n) (.ref _) .none (.ref c)) => decide (n = "staticmethod.__get__") && decide (c = C)
  | _ => false) && (match PySem.W.recIn K (smP K C m) "staticmethod" with
  | some (.ref g :: _) => PySem.W.keepIn K (.ref g)
  | _ => false)
theorem smB_ok {K : Frag} {C : Addr} {m : Str} (h : smB K C m = true) : SMet K C (.type "type") m (smP K C m) (smG K (smP K C m)) := by
  obtain ⟨h1, h2⟩ := He.ba h
  have e1 : PySem.W.findCls K (.ref C) (.type "type") m = some (.get (.builtin "staticmethod.__get__") (.ref (smP K C m)) .none (.ref C)) := by
    unfold smP
    split at h1
    · rename_i n p c e
      obtain ⟨k1, k2⟩ := He.ba h1
      have k1 := of_decide_eq_true k1
      have k2 := of_decide_eq_true k2
      subst k1 k2
      rw [e]
    · cases h1
  cases e : PySem.W.recIn K (smP K C m) "staticmethod" with
  | none => rw [e] at h2; cases h2
  | some l =>
    rw [e] at h2
    cases l with
    | nil => cases h2
    | cons v r =>
      cases v with
      | ref g =>
        have eg : smG K (smP K C m) = g := by
          unfold smG
          rw [e]
        rw [eg]
        exact ⟨e1, ⟨r, e⟩, h2⟩
      | _ => cases h2
def crB (K : Frag) (C : Addr) : Bool := PySem.W.readsIn K C (.type "type") && decide (PySem.W.specialIn K (.ref C) "__getattribute__" = some (some (.builtin "type.__getattribute__")))
theorem crB_ok {K : Frag} {C : Addr} (h : crB K C = true) : ClX.CRead K C (.type "type") := by
  obtain ⟨h1, h2⟩ := He.ba h
  exact ⟨h1, of_decide_eq_true h2⟩
def gtB (K : Frag) (a : Addr) (zs : List Str) : Bool := match K.lookup a with
  | some ⟨.type c, none, .seq its _, _⟩ => decide (c = "tuple") && (decide (its.size ≤ sizeLine) && He.relAll (zs.map V.str) its.toList)
  | _ => false
theorem gtB_ok {K : Frag} {mg : Str → Option Value} {x : Str} {a : Addr} {zs : List Str} (h : gtB K a zs = true) (m : mg x = some (.ref a)) : GTup K mg x zs := by
  unfold gtB at h
  split at h
  · rename_i c its n sl e
    obtain ⟨h1, h2⟩ := He.ba h
    obtain ⟨h3, h4⟩ := He.ba h2
    exact ⟨a, _, its, n, m, e, congrArg Value.type (of_decide_eq_true h1), rfl, rfl, of_decide_eq_true h3, He.relAll_ok h4⟩
  · cases h
/-- an empty tuple -/
def emB (K : Frag) (a : Addr) : Bool := match K.lookup a with
  | some ⟨c, _, .seq its _, _⟩ => (c == .type "tuple") && its.isEmpty
  | _ => false
theorem emB_rp {K : Frag} {a : Addr} (h : emB K a = true) : ∀ L H, Rp L K H (.ref a) (.tup []) := fun L H => by
  unfold emB at h
  split at h
  · rename_i c d its n sl e
    rw [Bool.and_eq_true] at h
    obtain ⟨h1, h2⟩ := h
    have hi : its = #[] := Array.isEmpty_iff.mp h2
    subst hi
    exact .tup (.inr ⟨_, #[], n, e, beq_iff_eq.mp h1, rfl, Nat.zero_le _, .nil⟩) .nil
  · cases h
end DH
namespace T05
open PySem L2 DL
abbrev sPolyInit : Stmt := sAt 0 (sBody (top 20))
abbrev sPolyConstant : Stmt := sAt 1 (sBody (top 20))
abbrev sPolyLetter : Stmt := sAt 2 (sBody (top 20))
abbrev sPolyDegree : Stmt := sAt 3 (sBody (top 20))
abbrev sPolyDegreeIn : Stmt := sAt 4 (sBody (top 20))
abbrev sPolyLead : Stmt := sAt 5 (sBody (top 20))
abbrev sPolyTerms : Stmt := sAt 6 (sBody (top 20))
abbrev sPolyCoefficient : Stmt := sAt 7 (sBody (top 20))
abbrev sPolySlope : Stmt := sAt 9 (sBody (top 20))
abbrev sPolyText : Stmt := sAt 11 (sBody (top 20))
abbrev sPolyEq : Stmt := sAt 20 (sBody (top 20))
abbrev sPolyBool : Stmt := sAt 21 (sBody (top 20))
abbrev sPolyRepr : Stmt := sAt 22 (sBody (top 20))
end T05
namespace T05
open PySem L2 DL TL NumText
abbrev sInvalidTerm_init : Stmt := sAt 0 (sBody (top 4))
abbrev sInvalidNumber_init : Stmt := sAt 0 (sBody (top 3))
abbrev sInvalidLetter_init : Stmt := sAt 0 (sBody (top 5))
abbrev sGet0 : Stmt := sAt 3 (sBody (top 20))
namespace Hd
def t0 : PySem.W.Frag → Bool := fun K => decide (PySem.W.nsIn K mainGlobals "Poly" = some (some (.ref (He.ga K "Poly"))))
def t1 : PySem.W.Frag → Bool := fun K => decide (PySem.W.nsIn K mainGlobals "InvalidTerm" = some (some (.ref (He.ga K "InvalidTerm"))))
def t2 : PySem.W.Frag → Bool := fun K => decide (PySem.W.nsIn K mainGlobals "InvalidNumber" = some (some (.ref (He.ga K "InvalidNumber"))))
def t3 : PySem.W.Frag → Bool := fun K => decide (PySem.W.nsIn K mainGlobals "InvalidLetter" = some (some (.ref (He.ga K "InvalidLetter"))))
def t4 : PySem.W.Frag → Bool := fun K => decide (PySem.W.nsIn K mainGlobals "PlaneError" = some (some (.ref (He.ga K "PlaneError"))))
def t5 : PySem.W.Frag → Bool := fun K => decide (PySem.W.nsIn K mainGlobals "Missing" = some (some (.ref (He.ga K "Missing"))))
def t6 : PySem.W.Frag → Bool := fun K => decide (PySem.W.nsIn K mainGlobals "NothingLeft" = some (some (.ref (He.ga K "NothingLeft"))))
def t7 : PySem.W.Frag → Bool := fun K => decide (PySem.W.nsIn K mainGlobals "is_integer" = some (some (.ref (He.fAd K ("is_integer", none)))))
def t8 : PySem.W.Frag → Bool := fun K => decide (PySem.W.nsIn K mainGlobals "is_number" = some (some (.ref (He.fAd K ("is_number", none)))))
def t9 : PySem.W.Frag → Bool := fun K => decide (PySem.W.nsIn K mainGlobals "check_letter" = some (some (.ref (He.fAd K ("check_letter", none)))))
def t10 : PySem.W.Frag → Bool := fun K => decide (PySem.W.nsIn K mainGlobals "check_terms" = some (some (.ref (He.fAd K ("check_terms", none)))))
def t11 : PySem.W.Frag → Bool := fun K => decide (PySem.W.nsIn K mainGlobals "made_of" = some (some (.ref (He.fAd K ("made_of", none)))))
def t12 : PySem.W.Frag → Bool := fun K => decide (PySem.W.nsIn K mainGlobals "power_text" = some (some (.ref (He.fAd K ("power_text", none)))))
def t13 : PySem.W.Frag → Bool := fun K => decide (PySem.W.nsIn K mainGlobals "term_text" = some (some (.ref (He.fAd K ("term_text", none)))))
def t14 : PySem.W.Frag → Bool := fun K => decide (PySem.W.nsIn K mainGlobals "_law_bag" = some (some (.ref (He.fAd K ("_law_bag", none)))))
def t15 : PySem.W.Frag → Bool := fun K => decide (PySem.W.nsIn K mainGlobals "_law_pull" = some (some (.ref (He.fAd K ("_law_pull", none)))))
def t16 : PySem.W.Frag → Bool := fun K => decide (PySem.W.nsIn K mainGlobals "_law_of" = some (some (.ref (He.fAd K ("_law_of", none)))))
def t17 : PySem.W.Frag → Bool := fun K => decide (PySem.W.nsIn K mainGlobals "_law_same" = some (some (.ref (He.fAd K ("_law_same", none)))))
def t18 : PySem.W.Frag → Bool := fun K => decide (PySem.W.nsIn K mainGlobals "_law_field" = some (some (.ref (He.fAd K ("_law_field", none)))))
def t19 : PySem.W.Frag → Bool := fun K => decide (PySem.W.nsIn K mainGlobals "_law_try" = some (some (.ref (He.fAd K ("_law_try", none)))))
def t20 : PySem.W.Frag → Bool := fun K => decide (PySem.W.nsIn K mainGlobals "_law_tries" = some (some (.ref (He.fAd K ("_law_tries", none)))))
def t21 : PySem.W.Frag → Bool := fun K => decide (PySem.W.nsIn K mainGlobals "_law_gathered" = some (some (.ref (He.fAd K ("_law_gathered", none)))))
def t22 : PySem.W.Frag → Bool := fun K => decide (PySem.W.nsIn K mainGlobals "_law_degree" = some (some (.ref (He.fAd K ("_law_degree", none)))))
def t23 : PySem.W.Frag → Bool := fun K => decide (PySem.W.nsIn K mainGlobals "_law_letter_text" = some (some (.ref (He.fAd K ("_law_letter_text", none)))))
def t24 : PySem.W.Frag → Bool := fun K => decide (PySem.W.nsIn K mainGlobals "_law_poly_text" = some (some (.ref (He.fAd K ("_law_poly_text", none)))))
def t25 : PySem.W.Frag → Bool := fun K => decide (PySem.W.nsIn K mainGlobals "law" = some (some (.ref (He.fAd K ("law", none)))))
def t26 : PySem.W.Frag → Bool := fun K => decide (PySem.W.findIn K (.ref (He.ga K "Poly")) "__init__" = some (some (.ref (He.fAd K ("Poly", some "__init__")))))
def t27 : PySem.W.Frag → Bool := fun K => decide (PySem.W.isFn K (.ref (He.fAd K ("Poly", some "__init__"))) = true)
def t28 : PySem.W.Frag → Bool := fun K => DH.emB K (He.dflAt ("Poly", some "__init__") 0 K)
def t29 : PySem.W.Frag → Bool := fun K => decide (PySem.W.findIn K (.ref (He.ga K "Poly")) "degree_in" = some (some (.ref (He.fAd K ("Poly", some "degree_in")))))
def t30 : PySem.W.Frag → Bool := fun K => decide (PySem.W.isFn K (.ref (He.fAd K ("Poly", some "degree_in"))) = true)
def t31 : PySem.W.Frag → Bool := fun K => decide (PySem.W.findIn K (.ref (He.ga K "Poly")) "lead" = some (some (.ref (He.fAd K ("Poly", some "lead")))))
def t32 : PySem.W.Frag → Bool := fun K => decide (PySem.W.isFn K (.ref (He.fAd K ("Poly", some "lead"))) = true)
def t33 : PySem.W.Frag → Bool := fun K => decide (PySem.W.findIn K (.ref (He.ga K "Poly")) "terms" = some (some (.ref (He.fAd K ("Poly", some "terms")))))
def t34 : PySem.W.Frag → Bool := fun K => decide (PySem.W.isFn K (.ref (He.fAd K ("Poly", some "terms"))) = true)
def t35 : PySem.W.Frag → Bool := fun K => decide (PySem.W.findIn K (.ref (He.ga K "Poly")) "coefficient" = some (some (.ref (He.fAd K ("Poly", some "coefficient")))))
def t36 : PySem.W.Frag → Bool := fun K => decide (PySem.W.isFn K (.ref (He.fAd K ("Poly", some "coefficient"))) = true)
def t37 : PySem.W.Frag → Bool := fun K => decide (PySem.W.findIn K (.ref (He.ga K "Poly")) "slope" = some (some (.ref (He.fAd K ("Poly", some "slope")))))
def t38 : PySem.W.Frag → Bool := fun K => decide (PySem.W.isFn K (.ref (He.fAd K ("Poly", some "slope"))) = true)
def t39 : PySem.W.Frag → Bool := fun K => decide (PySem.W.findIn K (.ref (He.ga K "Poly")) "text" = some (some (.ref (He.fAd K ("Poly", some "text")))))
def t40 : PySem.W.Frag → Bool := fun K => decide (PySem.W.isFn K (.ref (He.fAd K ("Poly", some "text"))) = true)
def t41 : PySem.W.Frag → Bool := fun K => decide (PySem.W.findIn K (.ref (He.ga K "Poly")) "__eq__" = some (some (.ref (He.fAd K ("Poly", some "__eq__")))))
def t42 : PySem.W.Frag → Bool := fun K => decide (PySem.W.isFn K (.ref (He.fAd K ("Poly", some "__eq__"))) = true)
def t43 : PySem.W.Frag → Bool := fun K => decide (PySem.W.findIn K (.ref (He.ga K "Poly")) "__bool__" = some (some (.ref (He.fAd K ("Poly", some "__bool__")))))
def t44 : PySem.W.Frag → Bool := fun K => decide (PySem.W.isFn K (.ref (He.fAd K ("Poly", some "__bool__"))) = true)
def t45 : PySem.W.Frag → Bool := fun K => decide (PySem.W.findIn K (.ref (He.ga K "Poly")) "__repr__" = some (some (.ref (He.fAd K ("Poly", some "__repr__")))))
def t46 : PySem.W.Frag → Bool := fun K => decide (PySem.W.isFn K (.ref (He.fAd K ("Poly", some "__repr__"))) = true)
def t47 : PySem.W.Frag → Bool := fun K => decide (PySem.W.nsIn K mainGlobals "isinstance" = some none)
def t48 : PySem.W.Frag → Bool := fun K => decide (PySem.W.nsIn K mainGlobals "int" = some none)
def t49 : PySem.W.Frag → Bool := fun K => decide (PySem.W.nsIn K mainGlobals "bool" = some none)
def t50 : PySem.W.Frag → Bool := fun K => decide (PySem.W.nsIn K mainGlobals "str" = some none)
def t51 : PySem.W.Frag → Bool := fun K => decide (PySem.W.nsIn K mainGlobals "list" = some none)
def t52 : PySem.W.Frag → Bool := fun K => decide (PySem.W.nsIn K mainGlobals "tuple" = some none)
def t53 : PySem.W.Frag → Bool := fun K => decide (PySem.W.nsIn K mainGlobals "len" = some none)
def t54 : PySem.W.Frag → Bool := fun K => decide (PySem.W.nsIn K mainGlobals "abs" = some none)
def t55 : PySem.W.Frag → Bool := fun K => decide (PySem.W.nsIn K mainGlobals "all" = some none)
def t56 : PySem.W.Frag → Bool := fun K => decide (PySem.W.nsIn K mainGlobals "range" = some none)
def t57 : PySem.W.Frag → Bool := fun K => decide (PySem.W.nsIn K mainGlobals "zip" = some none)
def t58 : PySem.W.Frag → Bool := fun K => decide (PySem.W.nsIn K mainGlobals "enumerate" = some none)
def t59 : PySem.W.Frag → Bool := fun K => decide (PySem.W.nsIn K mainGlobals "sorted" = some none)
def t60 : PySem.W.Frag → Bool := fun K => decide (PySem.W.nsIn K mainGlobals "reversed" = some none)
def t61 : PySem.W.Frag → Bool := fun K => decide (PySem.W.nsIn K mainGlobals "repr" = some none)
def t62 : PySem.W.Frag → Bool := fun K => decide (PySem.W.nsIn K mainGlobals "max" = some none)
def t63 : PySem.W.Frag → Bool := fun K => decide (PySem.W.nsIn K mainGlobals "LETTERS" = some (some (.ref (He.ga K "LETTERS"))))
def t64 : PySem.W.Frag → Bool := fun K => He.tupB K "LETTERS" [.str "x", .str "y"]
def t65 : PySem.W.Frag → Bool := fun K => DH.gtB K (He.ga K "LETTERS") ["x", "y"]
def t66 : PySem.W.Frag → Bool := fun K => decide (PySem.W.plainGet K (He.ga K "Poly") Str.empty = true)
def t67 : PySem.W.Frag → Bool := fun K => decide (PySem.W.hasDictIn K (He.ga K "Poly") = true)
def t68 : PySem.W.Frag → Bool := fun K => decide (PySem.W.plainOver K (He.ga K "Poly") = true)
def t69 : PySem.W.Frag → Bool := fun K => decide (PySem.W.findIn K (.ref (He.ga K "Poly")) "__setattr__" = some (some (.builtin "object.__setattr__")))
def t70 : PySem.W.Frag → Bool := fun K => decide (PySem.W.makesIn K (He.ga K "Poly") = true)
def t71 : PySem.W.Frag → Bool := fun K => decide (PySem.W.keepIn K (.ref (He.ga K "Poly")) = true)
def t72 : PySem.W.Frag → Bool := fun K => decide (PySem.W.findIn K (.ref (He.ga K "Poly")) "cells" = some none)
def t73 : PySem.W.Frag → Bool := fun K => DH.oexB K (He.ga K "InvalidTerm")
def t74 : PySem.W.Frag → Bool := fun K => decide (PySem.W.findIn K (.ref (He.ga K "InvalidTerm")) "__setattr__" = some (some (.builtin "object.__setattr__")))
def t75 : PySem.W.Frag → Bool := fun K => decide (PySem.W.subIn K (.ref (He.ga K "InvalidTerm")) (.type "BaseException") = some true)
def t76 : PySem.W.Frag → Bool := fun K => decide (PySem.W.typeIn K (.ref (He.ga K "InvalidTerm")) = some (.type "type"))
def t77 : PySem.W.Frag → Bool := fun K => decide (PySem.W.keepIn K (.ref (He.ga K "InvalidTerm")) = true)
def t78 : PySem.W.Frag → Bool := fun K => decide (PySem.W.findIn K (.ref (He.ga K "InvalidTerm")) "__init__" = some (some (.ref (He.fAd K ("InvalidTerm", some "__init__")))))
def t79 : PySem.W.Frag → Bool := fun K => decide (PySem.W.typeIn K (.ref (He.fAd K ("InvalidTerm", some "__init__"))) = some (.type "function"))
def t80 : PySem.W.Frag → Bool := fun K => decide (PySem.W.findIn K (.ref (He.ga K "InvalidTerm")) "code" = some none)
def t81 : PySem.W.Frag → Bool := fun K => decide (PySem.W.findIn K (.ref (He.ga K "InvalidTerm")) "at" = some none)
def t82 : PySem.W.Frag → Bool := fun K => decide (PySem.W.findIn K (.ref (He.ga K "InvalidTerm")) "__getattribute__" = some (some (.builtin "BaseException.__getattribute__")))
def t83 : PySem.W.Frag → Bool := fun K => decide (PySem.W.findIn K (.ref (He.ga K "InvalidTerm")) "__getattr__" = some none)
def t84 : PySem.W.Frag → Bool := fun K => decide (PySem.W.hasDictIn K (He.ga K "InvalidTerm") = true)
def t85 : PySem.W.Frag → Bool := fun K => decide (PySem.W.exmAny K (.ref (He.ga K "InvalidTerm")) [.ref (He.ga K "PlaneError"), .ref (He.ga K "Missing"), .ref (He.ga K "NothingLeft")] = some true)
def t86 : PySem.W.Frag → Bool := fun K => DH.oexB K (He.ga K "InvalidNumber")
def t87 : PySem.W.Frag → Bool := fun K => decide (PySem.W.findIn K (.ref (He.ga K "InvalidNumber")) "__setattr__" = some (some (.builtin "object.__setattr__")))
def t88 : PySem.W.Frag → Bool := fun K => decide (PySem.W.subIn K (.ref (He.ga K "InvalidNumber")) (.type "BaseException") = some true)
def t89 : PySem.W.Frag → Bool := fun K => decide (PySem.W.typeIn K (.ref (He.ga K "InvalidNumber")) = some (.type "type"))
def t90 : PySem.W.Frag → Bool := fun K => decide (PySem.W.keepIn K (.ref (He.ga K "InvalidNumber")) = true)
def t91 : PySem.W.Frag → Bool := fun K => decide (PySem.W.findIn K (.ref (He.ga K "InvalidNumber")) "__init__" = some (some (.ref (He.fAd K ("InvalidNumber", some "__init__")))))
def t92 : PySem.W.Frag → Bool := fun K => decide (PySem.W.typeIn K (.ref (He.fAd K ("InvalidNumber", some "__init__"))) = some (.type "function"))
def t93 : PySem.W.Frag → Bool := fun K => decide (PySem.W.findIn K (.ref (He.ga K "InvalidNumber")) "code" = some none)
def t94 : PySem.W.Frag → Bool := fun K => decide (PySem.W.findIn K (.ref (He.ga K "InvalidNumber")) "given" = some none)
def t95 : PySem.W.Frag → Bool := fun K => decide (PySem.W.findIn K (.ref (He.ga K "InvalidNumber")) "__getattribute__" = some (some (.builtin "BaseException.__getattribute__")))
def t96 : PySem.W.Frag → Bool := fun K => decide (PySem.W.findIn K (.ref (He.ga K "InvalidNumber")) "__getattr__" = some none)
def t97 : PySem.W.Frag → Bool := fun K => decide (PySem.W.hasDictIn K (He.ga K "InvalidNumber") = true)
def t98 : PySem.W.Frag → Bool := fun K => decide (PySem.W.exmAny K (.ref (He.ga K "InvalidNumber")) [.ref (He.ga K "PlaneError"), .ref (He.ga K "Missing"), .ref (He.ga K "NothingLeft")] = some true)
def t99 : PySem.W.Frag → Bool := fun K => DH.oexB K (He.ga K "InvalidLetter")
def t100 : PySem.W.Frag → Bool := fun K => decide (PySem.W.findIn K (.ref (He.ga K "InvalidLetter")) "__setattr__" = some (some (.builtin "object.__setattr__")))
def t101 : PySem.W.Frag → Bool := fun K => decide (PySem.W.subIn K (.ref (He.ga K "InvalidLetter")) (.type "BaseException") = some true)
def t102 : PySem.W.Frag → Bool := fun K => decide (PySem.W.typeIn K (.ref (He.ga K "InvalidLetter")) = some (.type "type"))
def t103 : PySem.W.Frag → Bool := fun K => decide (PySem.W.keepIn K (.ref (He.ga K "InvalidLetter")) = true)
def t104 : PySem.W.Frag → Bool := fun K => decide (PySem.W.findIn K (.ref (He.ga K "InvalidLetter")) "__init__" = some (some (.ref (He.fAd K ("InvalidLetter", some "__init__")))))
def t105 : PySem.W.Frag → Bool := fun K => decide (PySem.W.typeIn K (.ref (He.fAd K ("InvalidLetter", some "__init__"))) = some (.type "function"))
def t106 : PySem.W.Frag → Bool := fun K => decide (PySem.W.findIn K (.ref (He.ga K "InvalidLetter")) "code" = some none)
def t107 : PySem.W.Frag → Bool := fun K => decide (PySem.W.findIn K (.ref (He.ga K "InvalidLetter")) "given" = some none)
def t108 : PySem.W.Frag → Bool := fun K => decide (PySem.W.findIn K (.ref (He.ga K "InvalidLetter")) "__getattribute__" = some (some (.builtin "BaseException.__getattribute__")))
def t109 : PySem.W.Frag → Bool := fun K => decide (PySem.W.findIn K (.ref (He.ga K "InvalidLetter")) "__getattr__" = some none)
def t110 : PySem.W.Frag → Bool := fun K => decide (PySem.W.hasDictIn K (He.ga K "InvalidLetter") = true)
def t111 : PySem.W.Frag → Bool := fun K => decide (PySem.W.exmAny K (.ref (He.ga K "InvalidLetter")) [.ref (He.ga K "PlaneError"), .ref (He.ga K "Missing"), .ref (He.ga K "NothingLeft")] = some true)
def t112 : PySem.W.Frag → Bool := fun K => decide (PySem.W.findIn K (.ref (He.ga K "Poly")) "__class__" = some (some (.builtin "object.__class__")))
def t113 : PySem.W.Frag → Bool := fun K => decide (PySem.W.specialIn K (.builtin "object.__class__") "__get__" = some (some (.builtin "getset_descriptor.__get__")))
def t114 : PySem.W.Frag → Bool := fun K => decide (PySem.W.takesIn K (.builtin "object.__class__") = some true)
def t115 : PySem.W.Frag → Bool := fun K => decide (PySem.W.mroIn K (He.ga K "Poly") (.type "object") = some true)
def t116 : PySem.W.Frag → Bool := fun K => decide (PySem.W.findIn K (.ref (He.ga K "Poly")) "__ne__" = some (some (.builtin "object.__ne__")))
def t117 : PySem.W.Frag → Bool := fun K => decide (PySem.W.notFirst K (He.ga K "Poly") (.type "list") = true)
def t118 : PySem.W.Frag → Bool := fun K => decide (PySem.W.kitOne K (.type "list") (.ref (He.ga K "Poly")) = some false)
def t119 : PySem.W.Frag → Bool := fun K => DH.smB K (He.ga K "Poly") "constant"
def t120 : PySem.W.Frag → Bool := fun K => DH.fnPl K (DH.smG K (DH.smP K (He.ga K "Poly") "constant")) "Poly.constant"
def t121 : PySem.W.Frag → Bool := fun K => DH.smB K (He.ga K "Poly") "letter"
def t122 : PySem.W.Frag → Bool := fun K => DH.fnPl K (DH.smG K (DH.smP K (He.ga K "Poly") "letter")) "Poly.letter"
def t123 : PySem.W.Frag → Bool := fun K => DH.crB K (He.ga K "Poly")
def t124 : PySem.W.Frag → Bool := fun K => DH.proB K (He.ga K "Poly") "degree"
def t125 : PySem.W.Frag → Bool := fun K => DH.fnPl K (DH.proG K (He.ma K (He.ga K "Poly") "degree")) "Poly.degree"
def t126 : PySem.W.Frag → Bool := fun K => decide (PySem.W.keepIn K (.ref (DH.proG K (He.ma K (He.ga K "Poly") "degree"))) = true)
def tsts : List (PySem.W.Frag → Bool) := [t0, t1, t2, t3, t4, t5, t6, t7, t8, t9, t10, t11, t12, t13, t14, t15, t16, t17, t18, t19, t20, t21, t22, t23, t24, t25, t26, t27, t28, t29, t30, t31, t32, t33, t34, t35, t36, t37, t38, t39, t40, t41, t42, t43, t44, t45, t46, t47, t48, t49, t50, t51, t52, t53, t54, t55, t56, t57, t58, t59, t60, t61, t62, t63, t64, t65, t66, t67, t68, t69, t70, t71, t72, t73, t74, t75, t76, t77, t78, t79, t80, t81, t82, t83, t84, t85, t86, t87, t88, t89, t90, t91, t92, t93, t94, t95, t96, t97, t98, t99, t100, t101, t102, t103, t104, t105, t106, t107, t108, t109, t110, t111, t112, t113, t114, t115, t116, t117, t118, t119, t120, t121, t122, t123, t124, t125, t126]
def d0 : He.DefD := ⟨("is_integer", none), "is_integer", "is_integer", defArgs sIsInteger, defBody sIsInteger, defScope sIsInteger, [], []⟩
def d1 : He.DefD := ⟨("is_number", none), "is_number", "is_number", defArgs sIsNumber, defBody sIsNumber, defScope sIsNumber, [], []⟩
def d2 : He.DefD := ⟨("check_letter", none), "check_letter", "check_letter", defArgs sCheckLetter, defBody sCheckLetter, defScope sCheckLetter, [], []⟩
def d3 : He.DefD := ⟨("check_terms", none), "check_terms", "check_terms", defArgs sCheckTerms, defBody sCheckTerms, defScope sCheckTerms, [], []⟩
def d4 : He.DefD := ⟨("made_of", none), "made_of", "made_of", defArgs sMadeOf, defBody sMadeOf, defScope sMadeOf, [], []⟩
def d5 : He.DefD := ⟨("power_text", none), "power_text", "power_text", defArgs sPowerText, defBody sPowerText, defScope sPowerText, [], []⟩
def d6 : He.DefD := ⟨("term_text", none), "term_text", "term_text", defArgs sTermText, defBody sTermText, defScope sTermText, [], []⟩
def d7 : He.DefD := ⟨("_law_bag", none), "_law_bag", "_law_bag", defArgs sLBag, defBody sLBag, defScope sLBag, [], []⟩
def d8 : He.DefD := ⟨("_law_pull", none), "_law_pull", "_law_pull", defArgs sLPull, defBody sLPull, defScope sLPull, [], []⟩
def d9 : He.DefD := ⟨("_law_of", none), "_law_of", "_law_of", defArgs sLOf, defBody sLOf, defScope sLOf, [], []⟩
def d10 : He.DefD := ⟨("_law_same", none), "_law_same", "_law_same", defArgs sLSame, defBody sLSame, defScope sLSame, [], []⟩
def d11 : He.DefD := ⟨("_law_field", none), "_law_field", "_law_field", defArgs sLField, defBody sLField, defScope sLField, [], []⟩
def d12 : He.DefD := ⟨("_law_try", none), "_law_try", "_law_try", defArgs sLTry, defBody sLTry, defScope sLTry, [], []⟩
def d13 : He.DefD := ⟨("_law_tries", none), "_law_tries", "_law_tries", defArgs sLTries, defBody sLTries, defScope sLTries, [], []⟩
def d14 : He.DefD := ⟨("_law_gathered", none), "_law_gathered", "_law_gathered", defArgs sLGathered, defBody sLGathered, defScope sLGathered, [], []⟩
def d15 : He.DefD := ⟨("_law_degree", none), "_law_degree", "_law_degree", defArgs sLDegree, defBody sLDegree, defScope sLDegree, [], []⟩
def d16 : He.DefD := ⟨("_law_letter_text", none), "_law_letter_text", "_law_letter_text", defArgs sLLetterText, defBody sLLetterText, defScope sLLetterText, [], []⟩
def d17 : He.DefD := ⟨("_law_poly_text", none), "_law_poly_text", "_law_poly_text", defArgs sLPolyText, defBody sLPolyText, defScope sLPolyText, [], []⟩
def d18 : He.DefD := ⟨("law", none), "law", "law", defArgs sLaw, defBody sLaw, defScope sLaw, [], []⟩
def d19 : He.DefD := ⟨("Poly", some "__init__"), "__init__", "Poly.__init__", defArgs sPolyInit, defBody sPolyInit, defScope sPolyInit, [.adr (He.dflAt ("Poly", some "__init__") 0)], [("most", .int 20)]⟩
def d20 : He.DefD := ⟨("Poly", some "degree_in"), "degree_in", "Poly.degree_in", defArgs sPolyDegreeIn, defBody sPolyDegreeIn, defScope sPolyDegreeIn, [], []⟩
def d21 : He.DefD := ⟨("Poly", some "lead"), "lead", "Poly.lead", defArgs sPolyLead, defBody sPolyLead, defScope sPolyLead, [], []⟩
def d22 : He.DefD := ⟨("Poly", some "terms"), "terms", "Poly.terms", defArgs sPolyTerms, defBody sPolyTerms, defScope sPolyTerms, [], []⟩
def d23 : He.DefD := ⟨("Poly", some "coefficient"), "coefficient", "Poly.coefficient", defArgs sPolyCoefficient, defBody sPolyCoefficient, defScope sPolyCoefficient, [], []⟩
def d24 : He.DefD := ⟨("Poly", some "slope"), "slope", "Poly.slope", defArgs sPolySlope, defBody sPolySlope, defScope sPolySlope, [], []⟩
def d25 : He.DefD := ⟨("Poly", some "text"), "text", "Poly.text", defArgs sPolyText, defBody sPolyText, defScope sPolyText, [], []⟩
def d26 : He.DefD := ⟨("Poly", some "__eq__"), "__eq__", "Poly.__eq__", defArgs sPolyEq, defBody sPolyEq, defScope sPolyEq, [], []⟩
def d27 : He.DefD := ⟨("Poly", some "__bool__"), "__bool__", "Poly.__bool__", defArgs sPolyBool, defBody sPolyBool, defScope sPolyBool, [], []⟩
def d28 : He.DefD := ⟨("Poly", some "__repr__"), "__repr__", "Poly.__repr__", defArgs sPolyRepr, defBody sPolyRepr, defScope sPolyRepr, [], []⟩
def d29 : He.DefD := ⟨("InvalidTerm", some "__init__"), "__init__", "InvalidTerm.__init__", defArgs sInvalidTerm_init, defBody sInvalidTerm_init, defScope sInvalidTerm_init, [], []⟩
def d30 : He.DefD := ⟨("InvalidNumber", some "__init__"), "__init__", "InvalidNumber.__init__", defArgs sInvalidNumber_init, defBody sInvalidNumber_init, defScope sInvalidNumber_init, [], []⟩
def d31 : He.DefD := ⟨("InvalidLetter", some "__init__"), "__init__", "InvalidLetter.__init__", defArgs sInvalidLetter_init, defBody sInvalidLetter_init, defScope sInvalidLetter_init, [], []⟩
def fnL : List He.DefD := [d0, d1, d2, d3, d4, d5, d6, d7, d8, d9, d10, d11, d12, d13, d14, d15, d16, d17, d18, d19, d20, d21, d22, d23, d24, d25, d26, d27, d28, d29, d30, d31]
def tabL : List He.Tab := []
def nm0 : List PySem.Str := ["_wall", "PlaneError", "InvalidNumber", "InvalidTerm", "InvalidLetter", "Missing", "NothingLeft", "is_integer", "is_number", "LETTERS", "check_letter", "check_terms", "made_of", "power_text", "term_text", "added", "multiplied", "Poly", "_law_bag", "_law_pull", "_law_of", "_law_same", "_law_field", "_law_try", "_law_tries", "_law_gathered", "_law_degree", "_law_letter_text", "_law_poly_text"]
def nms : List PySem.Str := nm0
def asL : List Addr := ([2, 3, 31, 51, 70, 89, 101, 121, 131, 138, 139, 146, 153, 158, 165, 170, 351, 362, 369, 376, 381, 388, 395, 400, 405, 410, 417, 424, 429, 30, 50, 69, 88, 130, 137, 145, 152, 157, 164, 169] : List Addr) ++ ([350, 361, 368, 375, 380, 387, 394, 399, 404, 409, 416, 423, 428, 48, 67, 86, 199, 208, 218, 225, 230, 237, 242, 249, 261, 275, 334, 341, 348, 47, 66, 85, 198, 193, 194, 206, 216, 224, 229, 236] : List Addr) ++ ([241, 248, 260, 274, 333, 340, 347, 192, 205, 215, 223] : List Addr)
def tf : List He.Defn := [("law", none)]
def gA : List (PySem.W.Frag → Addr) := [fun K => DH.proG K (He.ma K (He.ga K "Poly") "degree"), fun K => DH.smG K (DH.smP K (He.ga K "Poly") "constant"), fun K => DH.smG K (DH.smP K (He.ga K "Poly") "letter")]
def gV : List He.FnW := [some ("degree", "Poly.degree", defArgs sGet0, .stmts (defBody sGet0), defScope sGet0, mainGlobals, [], builtinsNs), some ("constant", "Poly.constant", defArgs sPolyConstant, .stmts (defBody sPolyConstant), defScope sPolyConstant, mainGlobals, [], builtinsNs), some ("letter", "Poly.letter", defArgs sPolyLetter, .stmts (defBody sPolyLetter), defScope sPolyLetter, mainGlobals, [], builtinsNs)]
abbrev hk : PySem.W.Hook := DH.hookM asL fnL tabL tf (DH.exAll tsts) gA gV
def ob (s : PySem.W.SharedT) : He.AlX × List He.FnW := DH.obsM asL fnL tabL tf (DH.exAll tsts) gA (HandSHeadRun.getT s)
theorem ob_eq (s : PySem.W.SharedT) : ob s = hk.obs s.abs := DH.obsM_eq (HandSHeadRun.getT_eq s)
set_option maxHeartbeats 0 in
theorem LkA_0 (w : World) : HandSHeadRun.looksF RR0.prog (Seg.stX w).abs.heap (Seg.stF w).abs = true := by
  kernel_rfl
set_option maxHeartbeats 0 in
theorem LkB_0 (w : World) : HandSHeadRun.seenQ (PySem.W.view RR0.prog [33]) nms (PySem.importedModules RR0.prog.main.body) (fun s => PySem.W.xlAt (PySem.W.view RR0.prog [33]) [] s && PySem.W.recOk RR0.toRowW.records s) (Seg.stF w).abs = PySem.W.openGood (PySem.W.view RR0.prog [33]) nms := by
  kernel_rfl
set_option maxHeartbeats 0 in
theorem LkC_0 (w : World) : ob (Seg.stF w) = hk.val w := by
  kernel_rfl
theorem run0 (w : World) : DS.Run RR0 (PySem.W.view RR0.prog [33]) hk ob 40000 nms w := by
  obtain ⟨a, b, c⟩ := Seg.run_of _ (Seg.Opn_0 w) (Seg.Pre_0 w) (Seg.Blk_0 w) (Seg.Sg1_0 w) (Seg.Fin_0 w)
  exact ⟨_, _, a, b, c, by rw [LkA_0, LkB_0, LkC_0]⟩
theorem run (w : World) : DS.Run RR0 (PySem.W.view RR0.prog [33]) hk ob 40000 nms w := run0 w
end Hd
end T05
namespace DL
open PySem L2 TL NumText
end DL
namespace PO
open PySem L2 DL
abbrev T3 := Int × Int × Int
abbrev ky (t : T3) : Int × Int := (t.1, t.2.1)
abbrev kk (p : Int × Int) : List Key := [.inl p.1, .inl p.2]
abbrev tD (t : T3) : D := .tup [.int t.1, .int t.2.1, .int t.2.2]
abbrev ksD (es : List T3) : List (List Key) := es.map fun t => kk (ky t)
abbrev vsI (es : List T3) : List Int := es.map fun t => t.2.2
abbrev vsD (es : List T3) : List D := es.map fun t => .int t.2.2
theorem kk_inj {p q : Int × Int} (h : kk p = kk q) : p = q := by
  obtain ⟨a, b⟩ := p
  obtain ⟨c, d⟩ := q
  simp only [kk, List.cons.injEq, Sum.inl.injEq, and_true] at h
  rw [h.1, h.2]
def look (es : List T3) (p : Int × Int) : Option Int := match es with
  | [] => none
  | t :: r => if ky t = p then some t.2.2 else look r p
def has (es : List T3) (p : Int × Int) : Bool := es.any fun t => decide (ky t = p)
def put (es : List T3) (p : Int × Int) (v : Int) : List T3 := if has es p = true then es.map (fun t => if ky t = p then (p.1, p.2, v) else t) else es ++ [(p.1, p.2, v)]
theorem look_d (p : Int × Int) : ∀ es : List T3, lookG (ksD es) (vsD es) (kk p) = (look es p).map D.int
  | [] => rfl
  | t :: r => by
    show (if kk (ky t) = kk p then some (D.int t.2.2) else lookG (ksD r) (vsD r) (kk p)) = (if ky t = p then some t.2.2 else look r p).map D.int
    by_cases e : ky t = p
    · rw [if_pos (by rw [e]), if_pos e]; rfl
    · rw [if_neg (fun z => e (kk_inj z)), if_neg e]; exact look_d p r
theorem has_d (p : Int × Int) : ∀ es : List T3, ((ksD es).any fun a => decide (a = kk p)) = has es p
  | [] => rfl
  | t :: r => by
    show (decide (kk (ky t) = kk p) || (ksD r).any _) = (decide (ky t = p) || has r p)
    rw [has_d p r]
    by_cases e : ky t = p
    · rw [decide_eq_true e, decide_eq_true (by rw [e])]
    · rw [decide_eq_false e, decide_eq_false (fun z => e (kk_inj z))]
theorem set_d (p : Int × Int) (v : Int) : ∀ es : List T3, setG (kk p) (D.int v) (ksD es) (vsD es) = vsD (es.map fun t => if ky t = p then (p.1, p.2, v) else t)
  | [] => rfl
  | t :: r => by
    show (if kk (ky t) = kk p then D.int v else D.int t.2.2) :: setG (kk p) (D.int v) (ksD r) (vsD r) = D.int (if ky t = p then ((p.1, p.2, v) : T3) else t).2.2 :: vsD (r.map _)
    rw [set_d p v r]
    by_cases e : ky t = p
    · rw [if_pos (by rw [e]), if_pos e]
    · rw [if_neg (fun z => e (kk_inj z)), if_neg e]
theorem keys_set (p : Int × Int) (v : Int) : ∀ es : List T3, (es.map fun t => if ky t = p then ((p.1, p.2, v) : T3) else t).map ky = es.map ky
  | [] => rfl
  | t :: r => by
    rw [List.map_cons, List.map_cons, List.map_cons, keys_set p v r]
    by_cases e : ky t = p
    · rw [if_pos e, e]
    · rw [if_neg e]
theorem ksD_eq (es : List T3) : ksD es = (es.map ky).map kk := by rw [List.map_map]; rfl
theorem putk_d (es : List T3) (p : Int × Int) (v : Int) : putGk (kk p) (ksD es) = ksD (put es p v) := by
  unfold putGk put
  rw [has_d]
  split
  · rw [ksD_eq, ksD_eq, keys_set]
  · rw [ksD_eq, ksD_eq, List.map_append, List.map_append]; rfl
theorem putv_d (es : List T3) (p : Int × Int) (v : Int) : putGv (kk p) (D.int v) (ksD es) (vsD es) = vsD (put es p v) := by
  unfold putGv put
  rw [has_d]
  split
  · exact set_d p v es
  · unfold vsD; rw [List.map_append]; rfl
def NK (es : List T3) : Prop := (es.map ky).Nodup
theorem has_iff {es : List T3} {p : Int × Int} : has es p = true ↔ p ∈ es.map ky := by
  unfold has
  rw [List.any_eq_true]
  constructor
  · rintro ⟨t, ht, h⟩
    exact List.mem_map.mpr ⟨t, ht, of_decide_eq_true h⟩
  · intro h
    obtain ⟨t, ht, e⟩ := List.mem_map.mp h
    exact ⟨t, ht, decide_eq_true e⟩
theorem put_keys (es : List T3) (p : Int × Int) (v : Int) : (put es p v).map ky = if has es p = true then es.map ky else es.map ky ++ [p] := by
  unfold put
  split
  · exact keys_set p v es
  · rw [List.map_append]; rfl
theorem put_nk {es : List T3} (h : NK es) (p : Int × Int) (v : Int) : NK (put es p v) := by
  unfold NK
  rw [put_keys]
  split
  · exact h
  · rename_i n
    rw [List.nodup_append]
    refine ⟨h, by simp, fun a ha b hb e => ?_⟩
    rw [List.mem_singleton] at hb
    subst e hb
    exact n (has_iff.mpr ha)
theorem put_len (es : List T3) (p : Int × Int) (v : Int) : (put es p v).length ≤ es.length + 1 := by
  unfold put
  split
  · rw [List.length_map]; omega
  · rw [List.length_append]; simp
theorem look_none {p : Int × Int} : ∀ {es : List T3}, p ∉ es.map ky → look es p = none
  | [], _ => rfl
  | t :: r, h => by
    show (if ky t = p then some t.2.2 else look r p) = none
    rw [if_neg (fun e => h (by rw [List.map_cons, e]; exact List.mem_cons_self))]
    exact look_none fun m => h (by rw [List.map_cons]; exact List.mem_cons_of_mem _ m)
theorem put_new {p : Int × Int} {es : List T3} (h : p ∉ es.map ky) (v : Int) : put es p v = es ++ [(p.1, p.2, v)] := by
  unfold put
  rw [if_neg (fun z => h (has_iff.mp z))]
theorem look_of {t : T3} : ∀ {es : List T3}, NK es → t ∈ es → look es (ky t) = some t.2.2
  | [], _, h => by cases h
  | u :: r, n, h => by
    have n : (ky u :: r.map ky).Nodup := n
    rw [List.nodup_cons] at n
    show (if ky u = ky t then some u.2.2 else look r (ky t)) = _
    rcases List.mem_cons.mp h with e | h
    · rw [if_pos (by rw [e]), e]
    · rw [if_neg (fun e => n.1 (by rw [e]; exact List.mem_map.mpr ⟨t, h, rfl⟩))]
      exact look_of n.2 h
/-- the terms put together -/
def add1 (es : List T3) (t : T3) : List T3 := put es (ky t) ((look es (ky t)).getD 0 + t.2.2)
def gat (ts : List T3) : List T3 := ts.foldl add1 []
theorem gat_nk_from {ts es : List T3} (h : NK es) : NK (ts.foldl add1 es) := by
  induction ts generalizing es with
  | nil => exact h
  | cons t r ih => exact ih (put_nk h _ _)
theorem gat_nk (ts : List T3) : NK (gat ts) := gat_nk_from (es := []) List.nodup_nil
theorem gat_from : ∀ (ts es : List T3), NK (es ++ ts) → ts.foldl add1 es = es ++ ts
  | [], es, _ => by rw [List.append_nil]; rfl
  | t :: r, es, h => by
    have hn : ky t ∉ es.map ky := by
      have h : ((es ++ t :: r).map ky).Nodup := h
      rw [List.map_append, List.nodup_append] at h
      exact fun m => h.2.2 _ m _ (by rw [List.map_cons]; exact List.mem_cons_self) rfl
    show r.foldl add1 (add1 es t) = _
    have e : add1 es t = es ++ [t] := by
      unfold add1
      rw [look_none hn, put_new hn]
      simp
    rw [e, gat_from r (es ++ [t]) (by rw [List.append_assoc]; exact h), List.append_assoc]
    rfl
theorem gat_same {ts : List T3} (h : NK ts) : gat ts = ts := gat_from ts [] h
def Asc (ps : List (Int × Int)) : Prop := ps.Pairwise fun x y => SrtO.lexB y x = false
/-- the terms that are told: keys ascending, no zeros -/
structure Can (es : List T3) : Prop where
  asc : (es.map ky).Pairwise fun x y => SrtO.lexB x y = true
  nz : ∀ t ∈ es, t.2.2 ≠ 0
def val (es : List T3) (p : Int × Int) : Int := (look es p).getD 0
def sel (es : List T3) (qs : List (Int × Int)) : List T3 := (qs.filter fun q => decide (val es q ≠ 0)).map fun q => (q.1, q.2, val es q)
theorem lex_ne {x y : Int × Int} (h1 : SrtO.lexB y x = false) (h2 : x ≠ y) : SrtO.lexB x y = true := by
  have a := SrtO.lexB_no.mp h1
  refine SrtO.lexB_iff.mpr ?_
  obtain ⟨x1, x2⟩ := x
  obtain ⟨y1, y2⟩ := y
  have h3 : ¬ (x1 = y1 ∧ x2 = y2) := fun z => h2 (by rw [z.1, z.2])
  simp only at a ⊢
  omega
theorem lex_asym {x y : Int × Int} (h1 : SrtO.lexB x y = true) : SrtO.lexB y x = false := by
  have a := SrtO.lexB_iff.mp h1
  refine SrtO.lexB_no.mpr ?_
  omega
theorem lex_irr {x y : Int × Int} (h1 : SrtO.lexB x y = true) : x ≠ y := fun e => by
  have a := SrtO.lexB_iff.mp h1
  rw [e] at a
  omega
theorem asc_strict {qs : List (Int × Int)} (h : Asc qs) (n : qs.Nodup) : qs.Pairwise fun x y => SrtO.lexB x y = true := by
  have := h.and n
  exact this.imp fun z => lex_ne z.1 z.2
theorem strict_asc {qs : List (Int × Int)} (h : qs.Pairwise fun x y => SrtO.lexB x y = true) : Asc qs := h.imp lex_asym
theorem strict_nodup {qs : List (Int × Int)} (h : qs.Pairwise fun x y => SrtO.lexB x y = true) : qs.Nodup := h.imp lex_irr
theorem Can.nk {es : List T3} (h : Can es) : NK es := strict_nodup h.asc
/-- there is just one sorted list of the same keys -/
theorem asc_one {ps qs : List (Int × Int)} (h : qs.Perm ps) (n : ps.Nodup) (hp : Asc ps) (hq : Asc qs) : qs = ps := by
  refine List.Perm.eq_of_pairwise (le := fun x y => SrtO.lexB y x = false) (fun x y _ _ h1 h2 => ?_) hq hp h
  have a := SrtO.lexB_no.mp h1
  have b := SrtO.lexB_no.mp h2
  obtain ⟨x1, x2⟩ := x
  obtain ⟨y1, y2⟩ := y
  simp only at a b
  have e1 : x1 = y1 := by omega
  have e2 : x2 = y2 := by omega
  rw [e1, e2]
theorem sel_keys (es : List T3) (qs : List (Int × Int)) : (sel es qs).map ky = qs.filter fun q => decide (val es q ≠ 0) := by
  unfold sel
  rw [List.map_map]
  exact List.map_id' _
theorem sel_can {es : List T3} {qs : List (Int × Int)} (h : Asc qs) (n : qs.Nodup) : Can (sel es qs) := by
  refine ⟨?_, fun t ht => ?_⟩
  · rw [sel_keys]
    exact (asc_strict h n).filter _
  · unfold sel at ht
    obtain ⟨q, hq, rfl⟩ := List.mem_map.mp ht
    exact of_decide_eq_true (List.mem_filter.mp hq).2
end PO
namespace PO
open PySem L2 DL TL
abbrev nS (i : Int) : Str := Str.ofString (toString i)
def letT (l : Str) (p : Int) : List Str := if p = 0 then [] else if p = 1 then [l] else [l ++ "^" ++ nS p]
def powT (l : Str) (p : Int) : Str := if p = 0 then "" else if p = 1 then l else Str.empty ++ l ++ "^" ++ nS p
def wordsT (i j : Int) : List Str := letT "x" i ++ letT "y" j
def termW (i j s : Int) : List Str := if wordsT i j = [] ∨ s ≠ 1 then nS s :: wordsT i j else wordsT i j
def termT (i j s : Int) : Str := Txt.join "*" (termW i j s)
theorem nS_len {i : Int} (h1 : -10 ^ 30 < i) (h2 : i < 10 ^ 30) : (nS i).length ≤ 31 := by
  rw [len_tl, tl_int]
  unfold intL
  have h3 : i.natAbs < 10 ^ 30 := by omega
  have h4 := numL_len (n := i.natAbs) (k := 30) (by decide) h3
  split
  · rw [List.length_cons]; omega
  · omega
theorem nS_ne (i : Int) : tl (nS i) ≠ [] := by
  rw [tl_int]
  unfold intL
  split
  · simp
  · exact numL_ne _
theorem emp_app (l : Str) : Str.empty ++ l = l := ext_tl (by rw [tl_append]; rfl)
theorem powT_lets {l : Str} {p : Int} (hp : p ≠ 0) : letT l p = [powT l p] := by
  unfold letT powT
  rw [if_neg hp, if_neg hp, emp_app]
  split <;> rfl
theorem tl_ne_app {a b : Str} (h : tl a ≠ []) : tl (a ++ b) ≠ [] := by
  rw [tl_append]
  intro e
  exact h (List.append_eq_nil_iff.mp e).1
theorem str_ne {a : Str} (h : tl a ≠ []) : a ≠ "" := fun e => h (by rw [e]; decide +kernel)
theorem powT_ne {l : Str} {p : Int} (hl : tl l ≠ []) (hp : p ≠ 0) : tl (powT l p) ≠ [] := by
  unfold powT
  rw [if_neg hp]
  split
  · exact hl
  · rw [emp_app]
    exact tl_ne_app (tl_ne_app hl)
theorem app_len (a b : Str) : (a ++ b).length = a.length + b.length := by
  rw [len_tl, len_tl, len_tl, tl_append, List.length_append]
theorem letT_len {l : Str} (hl : l.length ≤ 10) {p : Int} (h0 : 0 ≤ p) (h1 : p ≤ 1000) : ∀ z ∈ letT l p, z.length ≤ 50 := by
  intro z hz
  unfold letT at hz
  split at hz
  · cases hz
  · split at hz
    · rw [List.mem_singleton.mp hz]; omega
    · rw [List.mem_singleton.mp hz, app_len, app_len]
      have h3 : -(10 : Int) ^ 30 < p := by
        have : (0 : Int) < 10 ^ 30 := by decide +kernel
        omega
      have h4 : p < (10 : Int) ^ 30 := by
        have : (1000 : Int) < 10 ^ 30 := by decide +kernel
        omega
      have h5 := nS_len h3 h4
      have h6 : (Str.ofString "^").length = 1 := by decide +kernel
      omega
theorem letT_few (l : Str) (p : Int) : (letT l p).length ≤ 1 := by
  unfold letT
  split
  · exact Nat.zero_le _
  · split <;> exact Nat.le_refl _
theorem letT_one {l : Str} (hl : tl l ≠ []) {p : Int} : ∀ z ∈ letT l p, tl z ≠ [] := by
  intro z hz
  by_cases hp : p = 0
  · unfold letT at hz; rw [if_pos hp] at hz; cases hz
  · rw [powT_lets hp] at hz
    rw [List.mem_singleton.mp hz]
    exact powT_ne hl hp
theorem x_ne : tl ("x" : Str) ≠ [] := by decide +kernel
theorem y_ne : tl ("y" : Str) ≠ [] := by decide +kernel
theorem x_len : ("x" : Str).length ≤ 10 := by decide +kernel
theorem y_len : ("y" : Str).length ≤ 10 := by decide +kernel
/-- what the parts of a term keep -/
structure TermOk (i j s : Int) : Prop where
  i0 : 0 ≤ i
  i1 : i ≤ 1000
  j0 : 0 ≤ j
  j1 : j ≤ 1000
  s0 : -10 ^ 30 < s
  s1 : s < 10 ^ 30
theorem words_few (i j : Int) : (wordsT i j).length ≤ 2 := by
  unfold wordsT
  rw [List.length_append]
  have := letT_few "x" i
  have := letT_few "y" j
  omega
theorem words_len {i j s : Int} (o : TermOk i j s) : ∀ z ∈ wordsT i j, z.length ≤ 50 := by
  intro z hz
  rcases List.mem_append.mp hz with h | h
  · exact letT_len x_len o.i0 o.i1 z h
  · exact letT_len y_len o.j0 o.j1 z h
theorem words_ne (i j : Int) : ∀ z ∈ wordsT i j, tl z ≠ [] := by
  intro z hz
  rcases List.mem_append.mp hz with h | h
  · exact letT_one x_ne z h
  · exact letT_one y_ne z h
theorem term_few (i j s : Int) : (termW i j s).length ≤ 3 := by
  unfold termW
  have := words_few i j
  split
  · rw [List.length_cons]; omega
  · omega
theorem term_len {i j s : Int} (o : TermOk i j s) : ∀ z ∈ termW i j s, z.length ≤ 50 := by
  intro z hz
  unfold termW at hz
  split at hz
  · rcases List.mem_cons.mp hz with e | h
    · rw [e]
      have := nS_len o.s0 o.s1
      omega
    · exact words_len o z h
  · exact words_len o z hz
theorem term_ne (i j s : Int) : termW i j s ≠ [] ∧ ∀ z ∈ termW i j s, tl z ≠ [] := by
  unfold termW
  split
  · refine ⟨by simp, fun z hz => ?_⟩
    rcases List.mem_cons.mp hz with e | h
    · rw [e]; exact nS_ne s
    · exact words_ne i j z h
  · rename_i h
    exact ⟨fun e => h (.inl e), words_ne i j⟩
theorem sum_le {n : Nat} : ∀ {l : List Nat}, (∀ x ∈ l, x ≤ n) → l.sum ≤ l.length * n
  | [], _ => Nat.zero_le _
  | x :: r, h => by
    rw [List.sum_cons, List.length_cons, Nat.add_mul]
    have := h x List.mem_cons_self
    have := sum_le (l := r) fun y hy => h y (List.mem_cons_of_mem _ hy)
    omega
theorem map_sum {n : Nat} {l : List Str} (h : ∀ z ∈ l, z.length ≤ n) : (l.map (·.length)).sum ≤ l.length * n := by
  have := sum_le (n := n) (l := l.map (·.length)) fun x hx => by
    obtain ⟨z, hz, rfl⟩ := List.mem_map.mp hx
    exact h z hz
  rw [List.length_map] at this
  exact this
theorem join_len (y : Str) (l : List Str) : (Txt.join y l).length ≤ (l.map (·.length)).sum + l.length * y.length := by
  rw [join_eq]
  exact StrLaws.join_length_le y l
theorem termT_len {i j s : Int} (o : TermOk i j s) : (termT i j s).length ≤ 153 := by
  have h1 := join_len "*" (termW i j s)
  have h2 := map_sum (term_len o)
  have h3 := term_few i j s
  have h4 : ("*" : Str).length = 1 := by decide +kernel
  rw [h4] at h1
  unfold termT
  have h5 : (termW i j s).length * 50 ≤ 150 := by omega
  omega
theorem termT_ne (i j s : Int) : tl (termT i j s) ≠ [] := by
  obtain ⟨h1, h2⟩ := term_ne i j s
  unfold termT
  rw [join_eq, tl_join]
  cases hw : termW i j s with
  | nil => exact absurd hw h1
  | cons a r =>
    have ha := h2 a (by rw [hw]; exact List.mem_cons_self)
    cases r with
    | nil => exact ha
    | cons b r =>
      show tl a ++ _ ≠ []
      intro e
      exact ha (List.append_eq_nil_iff.mp e).1
/-- the sign ahead of a term -/
def sgT (first : Bool) (v : Int) : Str := if first = true then (if v < 0 then "-" else "") else (if v < 0 then " - " else " + ")
def absI (v : Int) : Int := if v < 0 then -v else v
def stepT (f : Str) (t : T3) : Str := f ++ sgT (decide (f = "")) t.2.2 ++ termT t.1 t.2.1 (absI t.2.2)
def stepW (ws : List Str) (t : T3) : List Str := ws ++ [sgT ws.isEmpty t.2.2, termT t.1 t.2.1 (absI t.2.2)]
def foldT (es : List T3) : Str := es.reverse.foldl stepT ""
def foldW (es : List T3) : List Str := es.reverse.foldl stepW []
def textT (es : List T3) : Str := if foldT es = "" then "0" else foldT es
theorem join0 (ws : List Str) : tl (Txt.join "" ws) = (ws.map tl).flatten := by
  rw [join_eq, tl_join]
  have e : tl ("" : Str) = [] := by decide +kernel
  rw [e]
  generalize ws.map tl = ls
  induction ls with
  | nil => rfl
  | cons a r ih =>
    cases r with
    | nil => show a = [a].flatten; simp
    | cons b r =>
      show a ++ ([] ++ joinL [] (b :: r)) = (a :: b :: r).flatten
      rw [ih, List.nil_append, List.flatten_cons (l := a)]
theorem stepT_ne (f : Str) (t : T3) : stepT f t ≠ "" := by
  refine str_ne ?_
  unfold stepT
  rw [tl_append]
  intro e
  exact termT_ne _ _ _ (List.append_eq_nil_iff.mp e).2
theorem fold_same : ∀ (l : List T3) (ws : List Str) (f : Str), Txt.join "" ws = f → (ws.isEmpty = decide (f = "")) → Txt.join "" (l.foldl stepW ws) = l.foldl stepT f ∧ ((l.foldl stepW ws).isEmpty = decide (l.foldl stepT f = ""))
  | [], ws, f, h1, h2 => ⟨h1, h2⟩
  | t :: l, ws, f, h1, h2 => by
    refine fold_same l (stepW ws t) (stepT f t) ?_ ?_
    · refine ext_tl ?_
      rw [join0]
      unfold stepW stepT
      rw [List.map_append, List.flatten_append, ← join0, h1, h2, tl_append, tl_append, List.append_assoc]
      simp
    · rw [decide_eq_false (stepT_ne f t)]
      unfold stepW
      cases ws <;> rfl
theorem fold_both (es : List T3) : Txt.join "" (foldW es) = foldT es ∧ (foldW es).isEmpty = decide (foldT es = "") :=
  fold_same es.reverse [] "" (by decide +kernel) (by decide +kernel)
/-- of a whole poly -/
structure PolyOk (es : List T3) : Prop where
  few : es.length ≤ 1000
  all : ∀ t ∈ es, TermOk t.1 t.2.1 t.2.2
theorem abs_ok {i j v : Int} (o : TermOk i j v) : TermOk i j (absI v) := by
  have h := o.s0
  have h' := o.s1
  refine ⟨o.i0, o.i1, o.j0, o.j1, ?_, ?_⟩ <;> unfold absI <;> split <;> omega
theorem sg_len (b : Bool) (v : Int) : (sgT b v).length ≤ 3 := by
  unfold sgT
  split <;> split <;> decide +kernel
theorem step_len {f : Str} {t : T3} (o : TermOk t.1 t.2.1 t.2.2) : (stepT f t).length ≤ f.length + 156 := by
  unfold stepT
  rw [app_len, app_len]
  have := sg_len (decide (f = "")) t.2.2
  have := termT_len (abs_ok o)
  omega
theorem fold_len : ∀ (l : List T3) (f : Str), (∀ t ∈ l, TermOk t.1 t.2.1 t.2.2) → (l.foldl stepT f).length ≤ f.length + l.length * 156
  | [], f, _ => by simp
  | t :: l, f, h => by
    have h1 := step_len (f := f) (h t List.mem_cons_self)
    have h2 := fold_len l (stepT f t) fun u hu => h u (List.mem_cons_of_mem _ hu)
    show (l.foldl stepT (stepT f t)).length ≤ f.length + (l.length + 1) * 156
    omega
theorem textT_len {es : List T3} (o : PolyOk es) : (textT es).length ≤ 200000 := by
  unfold textT foldT
  have h := fold_len es.reverse "" fun t ht => o.all t (List.mem_reverse.mp ht)
  rw [List.length_reverse] at h
  have h2 : ("" : Str).length = 0 := by decide +kernel
  have h3 := o.few
  split
  · have : ("0" : Str).length = 1 := by decide +kernel
    omega
  · omega
def gcds (a : Int) (vs : List Int) : Int := vs.foldl gcdI a
def cont (es : List T3) : Int := gcds 0 (vsI es)
end PO
namespace PO
open PySem L2 DL TL
def lastV (es : List T3) : Int := (vsI es).getLastD 0
def dvs (es : List T3) : Int := if lastV es < 0 then -cont es else cont es
theorem eq_self {es : List T3} (h : NK es) : eqDT (ksD es) (vsI es) (ksD es) (vsI es) = true := by
  unfold eqDT allT
  rw [beq_self_eq_true, Bool.true_and, List.all_eq_true]
  intro p hp
  have e : (ksD es).zip (vsI es) = es.map fun t => (kk (ky t), t.2.2) := by
    unfold ksD vsI
    rw [List.zip_map']
  rw [e] at hp
  obtain ⟨t, ht, rfl⟩ := List.mem_map.mp hp
  refine decide_eq_true ?_
  have h1 := look_d (ky t) es
  rw [look_of h ht] at h1
  have h2 : vsD es = (vsI es).map D.int := by unfold vsD vsI; rw [List.map_map]; rfl
  rw [h2, lookG_map] at h1
  cases hl : lookG (ksD es) (vsI es) (kk (ky t)) with
  | none => rw [hl] at h1; cases h1
  | some v => rw [hl] at h1; cases h1; rfl
end PO
namespace PO
open PySem L2 DL TL
abbrev dtD (es : List T3) : D := .dt (ksD es) (vsD es)
abbrev pD (C : Addr) (es : List T3) : D := .obj C ["cells"] [.dt (ksD es) (vsD es)]
/-- a list or a tuple of terms -/
def tsB (T : D) (ts : List T3) : Prop := T = .lst (ts.map tD) ∨ T = .tup (ts.map tD)
def pw20 (ts : List T3) : Prop := ∀ t ∈ ts, (0 ≤ t.1 ∧ t.1 ≤ 20) ∧ (0 ≤ t.2.1 ∧ t.2.1 ≤ 20)
def cTermsS : DSp := fun ds L k _ => ∃ T ts, ds = [T, .int 20] ∧ tsB T ts ∧ pw20 ts ∧ ts.length < 100000 ∧ k .non L
def powS : DSp := fun ds L k _ => ∃ (l : Str) (p : Int), ds = [.str l, .int p] ∧ l.length ≤ 10 ∧ 0 ≤ p ∧ p ≤ 1000 ∧ k (.str (powT l p)) L
def termS : DSp := fun ds L k _ => ∃ i j s : Int, ds = [.int i, .int j, .int s] ∧ TermOk i j s ∧ k (.str (termT i j s)) L
/-- Poly(terms, most=..): every sorted list of the keys gives the poly -/
def initS (C : Addr) : DSp := fun ds L k _ => ∃ (p : Addr) (T m : D) (ts : List T3), ds = [.ptr p, T, m] ∧ L.lookup p = some (.obj C [] []) ∧ tsB T ts ∧ (m = .non ∨ (m = .int 20 ∧ pw20 ts)) ∧ ts.length < 100000 ∧
  ∀ qs, qs.Perm ((gat ts).map ky) → Asc qs → k .non (setL L p (pD C (sel (gat ts) qs)))
def madeS (C : Addr) : DSp := fun ds L k _ => ∃ es, ds = [.dt (ksD es) (vsD es)] ∧ NK es ∧ es.length < 100000 ∧ ∀ qs, qs.Perm (es.map ky) → Asc qs → k (pD C (sel es qs)) L
def leadS (C : Addr) : DSp := fun ds L k _ => ∃ es, ds = [pD C es] ∧ k (.int (lastV es)) L
def tellS (C : Addr) : DSp := fun ds L k _ => ∃ es, ds = [pD C es] ∧ es.length < 100000 ∧ k (.lst (es.map tD)) L
def textS (C : Addr) : DSp := fun ds L k _ => ∃ es, ds = [pD C es] ∧ PolyOk es ∧ k (.str (textT es)) L
def reprS (C : Addr) : DSp := fun ds L k _ => ∃ es, ds = [pD C es] ∧ PolyOk es ∧ k (.str (Str.empty ++ "Poly(" ++ textT es ++ ")")) L
def eqS (C : Addr) : DSp := fun ds L k _ => ∃ es fs, ds = [pD C es, pD C fs] ∧ k (.bl (eqDT (ksD es) (vsI es) (ksD fs) (vsI fs))) L
def boolS (C : Addr) : DSp := fun ds L k _ => ∃ es : List T3, ds = [pD C es] ∧ k (.bl (decide (0 < (es.length : Int)))) L
theorem vsD_int (es : List T3) : vsD es = (vsI es).map D.int := by
  unfold vsD vsI
  rw [List.map_map]
  rfl
theorem ints_vs (es : List T3) : intsD (vsD es) = some (vsI es) := by
  rw [vsD_int]
  exact intsD_map _
/-- a list comprehension with a test -/
theorem lcD_pick {α : Type} {dg : DG} {dt : DT} {de : DE} {env0 : DEnv} {p : Addr} {k : DK} {L : Led} (f g : α → D) (P : α → Bool) (hp : ¬ inL L p) : ∀ (l : List α) (acc : List D), acc.length + l.length ≤ 200000 →
    (∀ a ∈ l, ∀ (acc : List D) (T F : Led → Prop) (KK : DK), (P a = true → KK (g a) ((p, .lst acc) :: L)) → (P a = false → F ((p, .lst acc) :: L)) → dg (f a) env0 ((p, .lst acc) :: L) fun env1 => dt env1 ((p, .lst acc) :: L) (fun b L2 => match b with
      | true => de env1 L2 KK (fun _ _ _ => False)
      | false => F L2) (fun _ _ _ => False)) →
    k (.lst (acc ++ (l.filter P).map g)) L → lcD dg dt de env0 p k (l.map f) acc ((p, .lst acc) :: L)
  | [], acc, _, _, h => by
    rw [List.map_nil, lcD_nil, remL_top hp]
    have h : k (.lst (acc ++ [])) L := h
    rw [List.append_nil] at h
    exact h
  | a :: l, acc, hz, hs, h => by
    rw [List.map_cons, lcD_cons]
    rw [List.length_cons] at hz
    have hlt : acc.length < sizeLine := Nat.lt_of_lt_of_le (show acc.length < 200000 by omega) (by decide)
    refine hs a List.mem_cons_self acc (fun _ => True) (fun L2 => L2.lookup p = some (.lst acc) ∧ lcD dg dt de env0 p k (l.map f) acc L2) _ (fun hP => ⟨lookup_top, hlt, ?_⟩) fun hP => ⟨lookup_top, ?_⟩
    · rw [setL_top hp]
      refine lcD_pick f g P hp l (acc ++ [g a]) (by rw [List.length_append, List.length_singleton]; omega) (fun b hb => hs b (List.mem_cons_of_mem _ hb)) ?_
      rw [List.append_assoc]
      rw [List.filter_cons_of_pos hP] at h
      exact h
    · refine lcD_pick f g P hp l acc (by omega) (fun b hb => hs b (List.mem_cons_of_mem _ hb)) ?_
      rw [List.filter_cons_of_neg (by rw [hP]; exact Bool.false_ne_true)] at h
      exact h
theorem nk_app {es : List T3} {t : T3} {r : List T3} (h : NK (es ++ t :: r)) : ky t ∉ es.map ky := by
  have h : ((es ++ t :: r).map ky).Nodup := h
  rw [List.map_append, List.nodup_append] at h
  exact fun m => h.2.2 _ m _ (by rw [List.map_cons]; exact List.mem_cons_self) rfl
/-- a dict comprehension of terms with different keys -/
theorem dcT_pick {α : Type} {dg : DG} {dt : DT} {dk dv : DE} {env0 : DEnv} {p : Addr} {k : DK} {L : Led} (f : α → D) (g : α → T3) (P : α → Bool) (hp : ¬ inL L p) : ∀ (l : List α) (es : List T3), es.length + l.length ≤ 200000 → NK (es ++ (l.filter P).map g) →
    (∀ a ∈ l, ∀ (c : D) (N : D → D → Led → Prop) (F : Led → Prop), (P a = true → N (.kt (kk (ky (g a)))) (.int (g a).2.2) ((p, c) :: L)) → (P a = false → F ((p, c) :: L)) → dg (f a) env0 ((p, c) :: L) fun env1 => dt env1 ((p, c) :: L) (fun b L2 => match b with
      | true => dk env1 L2 (fun y L3 => dv env1 L3 (fun z L4 => N y z L4) (fun _ _ _ => False)) (fun _ _ _ => False)
      | false => F L2) (fun _ _ _ => False)) →
    k (dtD (es ++ (l.filter P).map g)) L → dcTD dg dt dk dv env0 p k (l.map f) (ksD es) (vsD es) ((p, dtD es) :: L)
  | [], es, _, _, _, h => by
    rw [List.map_nil, dcTD_nil, remL_top hp]
    have h : k (dtD (es ++ [])) L := h
    rw [List.append_nil] at h
    exact h
  | a :: l, es, hz, hn, hs, h => by
    rw [List.map_cons, dcTD_cons]
    rw [List.length_cons] at hz
    have hlt : (ksD es).length < sizeLine := by
      rw [List.length_map]
      exact Nat.lt_of_lt_of_le (show es.length < 200000 by omega) (by decide)
    refine hs a List.mem_cons_self (dtD es) (fun y z L4 => ∃ q, keyT y = some q ∧ L4.lookup p = some (.dt (ksD es) (vsD es)) ∧ (ksD es).length < sizeLine ∧ dcTD dg dt dk dv env0 p k (l.map f) (putGk q (ksD es)) (putGv q z (ksD es) (vsD es)) (setL L4 p (.dt (putGk q (ksD es)) (putGv q z (ksD es) (vsD es))))) (fun L2 => L2.lookup p = some (.dt (ksD es) (vsD es)) ∧ dcTD dg dt dk dv env0 p k (l.map f) (ksD es) (vsD es) L2) (fun hP => ⟨_, rfl, lookup_top, hlt, ?_⟩) fun hP => ⟨lookup_top, ?_⟩
    · rw [List.filter_cons_of_pos hP, List.map_cons] at h hn
      rw [setL_top hp, putk_d es _ (g a).2.2, putv_d, put_new (nk_app hn)]
      refine dcT_pick f g P hp l (es ++ [g a]) (by rw [List.length_append, List.length_singleton]; omega) ?_ (fun b hb => hs b (List.mem_cons_of_mem _ hb)) ?_
      · rw [List.append_assoc]; exact hn
      · rw [List.append_assoc]; exact h
    · rw [List.filter_cons_of_neg (by rw [hP]; exact Bool.false_ne_true)] at h hn
      exact dcT_pick f g P hp l es (by omega) hn (fun b hb => hs b (List.mem_cons_of_mem _ hb)) h
/-- the items of a dict of terms -/
theorem itms_es : ∀ es : List T3, itmsD (ksD es) (vsD es) = es.map fun t => .tup [.kt (kk (ky t)), .int t.2.2]
  | [] => rfl
  | t :: r => by
    show D.tup [.kt (kk (ky t)), .int t.2.2] :: itmsD (ksD r) (vsD r) = _
    rw [itms_es r]
    rfl
theorem keys_es (es : List T3) : (ksD es).map D.kt = es.map fun t => .kt (kk (ky t)) := by
  unfold ksD
  rw [List.map_map]
  rfl
theorem keys_pairs (es : List T3) : (ksD es).map D.kt = (es.map ky).map pairT := by
  unfold ksD
  rw [List.map_map, List.map_map]
  rfl
theorem lcD_as {dg : DG} {dt : DT} {de : DE} {env0 : DEnv} {p : Addr} {k : DK} {ds ds' acc : List D} {L : Led} (e : ds = ds') (h : lcD dg dt de env0 p k ds' acc L) : lcD dg dt de env0 p k ds acc L := by rw [e]; exact h
theorem forD_as {dg : DG} {db : DS} {En : DEnds} {ds ds' : List D} {env : DEnv} {L : Led} (e : ds = ds') (h : forD dg db En ds' env L) : forD dg db En ds env L := by rw [e]; exact h
theorem filt_true {α : Type} (l : List α) : l.filter (fun _ => true) = l := List.filter_eq_self.mpr fun _ _ => rfl
theorem look_val {es : List T3} {q : Int × Int} (h : q ∈ es.map ky) : lookG (ksD es) (vsD es) (kk q) = some (.int (val es q)) := by
  rw [look_d]
  unfold val
  have : look es q ≠ none := fun e => by
    have : ∀ es : List T3, q ∈ es.map ky → look es q ≠ none := fun es => by
      induction es with
      | nil => intro h; cases h
      | cons t r ih =>
        intro h e
        have e : (if ky t = q then some t.2.2 else look r q) = none := e
        by_cases z : ky t = q
        · rw [if_pos z] at e; cases e
        · rw [if_neg z] at e
          rw [List.map_cons] at h
          rcases List.mem_cons.mp h with y | h
          · exact z y.symm
          · exact ih h e
    exact this es h e
  cases e : look es q with
  | none => exact absurd e this
  | some v => rfl
theorem look_term {es : List T3} (nk : NK es) {t : T3} (ht : t ∈ es) : lookG (ksD es) (vsD es) (kk (ky t)) = some (.int t.2.2) := by
  rw [look_d, look_of nk ht]
  rfl
theorem perm_nodup {es : List T3} (nk : NK es) {qs : List (Int × Int)} (h : qs.Perm (es.map ky)) : qs.Nodup := h.nodup_iff.mpr nk
theorem sel_nk {es : List T3} (nk : NK es) {qs : List (Int × Int)} (h : qs.Perm (es.map ky)) (ha : Asc qs) : NK ([] ++ (qs.filter fun q => decide (val es q ≠ 0)).map fun q => ((q.1, q.2, val es q) : T3)) := (sel_can (es := es) ha (perm_nodup nk h)).nk
theorem gat_len (ts : List T3) : (gat ts).length ≤ ts.length := by
  have : ∀ (ts es : List T3), (ts.foldl add1 es).length ≤ es.length + ts.length := fun ts => by
    induction ts with
    | nil => intro es; exact Nat.le_refl _
    | cons t r ih =>
      intro es
      have h1 := ih (add1 es t)
      have h2 : (add1 es t).length ≤ es.length + 1 := put_len es _ _
      show (r.foldl add1 (add1 es t)).length ≤ es.length + (r.length + 1)
      omega
  have := this ts []
  rw [show ([] : List T3).length = 0 from rfl, Nat.zero_add] at this
  exact this
theorem last_at {es : List T3} (h : es ≠ []) : atI (vsD es) (-1) = some (.int (lastV es)) := by
  have hl : 0 < (vsD es).length := by
    cases es with
    | nil => exact absurd rfl h
    | cons t r => exact Nat.succ_pos _
  have e1 : ixN (vsD es).length (-1) = some ((vsD es).length - 1) := by
    unfold ixN
    rw [if_neg (by decide), if_pos (by omega)]
    congr 1
    omega
  have e2 : (vsD es)[(vsD es).length - 1]? = (vsD es).getLast? := List.getLast?_eq_getElem?.symm
  show (ixN (vsD es).length (-1)).bind (fun j => (vsD es)[j]?) = _
  rw [e1]
  show (vsD es)[(vsD es).length - 1]? = _
  rw [e2, vsD_int, List.getLast?_map]
  unfold lastV
  rw [List.getLastD_eq_getLast?]
  cases hv : vsI es with
  | nil =>
    cases es with
    | nil => exact absurd rfl h
    | cons t r => cases hv
  | cons v r =>
    rw [List.getLast?_eq_some_getLast (by simp)]
    rfl
/-- every item, none left out -/
theorem lcD_each {α : Type} {dg : DG} {dt : DT} {de : DE} {env0 : DEnv} {p : Addr} {k : DK} {L : Led} (f g : α → D) (hp : ¬ inL L p) (l : List α) (hz : l.length ≤ 200000)
    (hs : ∀ a ∈ l, ∀ (acc : List D) (F : Led → Prop) (KK : DK), KK (g a) ((p, .lst acc) :: L) → dg (f a) env0 ((p, .lst acc) :: L) fun env1 => dt env1 ((p, .lst acc) :: L) (fun b L2 => match b with
      | true => de env1 L2 KK (fun _ _ _ => False)
      | false => F L2) (fun _ _ _ => False))
    (h : k (.lst (l.map g)) L) : lcD dg dt de env0 p k (l.map f) [] ((p, .lst []) :: L) := by
  refine lcD_pick f g (fun _ => true) hp l [] (by show 0 + _ ≤ _; omega) (fun a ha acc T F KK h1 _ => hs a ha acc F KK (h1 rfl)) ?_
  rw [filt_true, List.nil_append]
  exact h
theorem letT_pows {l : Str} {p : Int} (hl : tl l ≠ []) : letT l p = ([powT l p].filter fun w : Str => decide (w ≠ ("" : Str))) := by
  by_cases hp : p = 0
  · unfold letT powT
    rw [if_pos hp, if_pos hp]
    rfl
  · rw [powT_lets hp, List.filter_cons_of_pos]
    · rfl
    · exact decide_eq_true (str_ne (powT_ne hl hp))
theorem words_pows (i j : Int) : ([powT "x" i, powT "y" j].filter fun w : Str => decide (w ≠ ("" : Str))) = wordsT i j := by
  unfold wordsT
  rw [letT_pows x_ne, letT_pows y_ne, ← List.filter_append]
  rfl
theorem log_small {n : Nat} (h : n < 10 ^ 30) : n.log2 < 100 := by
  by_cases z : n = 0
  · rw [z]; decide
  · rw [Nat.log2_lt z]
    exact Nat.lt_trans h (by decide +kernel)
theorem termok_nat {i j s : Int} (o : TermOk i j s) : s.natAbs < 10 ^ 30 := by
  have := o.s0
  have := o.s1
  omega
theorem termW_sum {i j s : Int} (o : TermOk i j s) : ((termW i j s).map (·.length)).sum + (termW i j s).length * ("*" : Str).length ≤ 16777216 := by
  have h2 := map_sum (term_len o)
  have h3 := term_few i j s
  have h4 : ("*" : Str).length = 1 := by decide +kernel
  rw [h4]
  omega
theorem foldW_len : ∀ (l : List T3) (ws : List Str), (∀ t ∈ l, TermOk t.1 t.2.1 t.2.2) → (∀ z ∈ ws, z.length ≤ 153) → (∀ z ∈ l.foldl stepW ws, z.length ≤ 153) ∧ (l.foldl stepW ws).length = ws.length + 2 * l.length
  | [], ws, _, h => ⟨h, rfl⟩
  | t :: l, ws, ho, h => by
    have h1 : ∀ z ∈ stepW ws t, z.length ≤ 153 := fun z hz => by
      unfold stepW at hz
      rcases List.mem_append.mp hz with hz | hz
      · exact h z hz
      · rcases List.mem_cons.mp hz with e | hz
        · rw [e]
          have := sg_len ws.isEmpty t.2.2
          omega
        · rw [List.mem_singleton.mp hz]
          exact termT_len (abs_ok (ho t List.mem_cons_self))
    obtain ⟨h2, h3⟩ := foldW_len l (stepW ws t) (fun u hu => ho u (List.mem_cons_of_mem _ hu)) h1
    refine ⟨h2, ?_⟩
    show (l.foldl stepW (stepW ws t)).length = ws.length + 2 * (l.length + 1)
    rw [h3]
    unfold stepW
    rw [List.length_append]
    show ws.length + 2 + 2 * l.length = _
    omega
theorem foldW_sum {es : List T3} (o : PolyOk es) : ((foldW es).map (·.length)).sum + (foldW es).length * ("" : Str).length ≤ 16777216 := by
  obtain ⟨h1, h2⟩ := foldW_len es.reverse [] (fun t ht => o.all t (List.mem_reverse.mp ht)) (fun z h => nomatch h)
  have h3 := map_sum h1
  have h4 := o.few
  have h5 : ("" : Str).length = 0 := by decide +kernel
  rw [List.length_reverse, List.length_nil, Nat.zero_add] at h2
  unfold foldW
  rw [h5, h2] at *
  have : 2 * es.length * 153 ≤ 2 * 1000 * 153 := Nat.mul_le_mul_right _ (by omega)
  omega
end PO
namespace DL
open PySem PySem.Spec PyProof.Rows L2
section
variable {X : Cx} {Wx : WX} {a b c e o f : Expr} {es : List Expr} {da db dc de do' df : DE} {dl dk : DA} {pos apos : Pos}
def dMaxDf (dl dk : DA) : DE := fun env L k x => dl env L (fun ds L1 => dk env L1 (fun es L2 => match ds, es with
  | [a], [.int d] => ∃ ns : List Int, con L2 a = .lst (ns.map D.int) ∧ (ns = [] → k (.int d) L2) ∧ ∀ m, m ∈ ns → (∀ y, y ∈ ns → y ≤ m) → k (.int m) L2
  | _, _ => False) x) x
theorem q_maxDf {p : Pos} {kws : List Keyword} (hc : X.calm = true) (hu : X.A.units + 64 < cLine) (hg : Gl X "max") (hm : X.mg "max" = none) (ha : QA X Wx (e :: []) dl) (hkw : QK X Wx kws dk)
    (he : backTo pos (starEach (e :: []) X.env) = (false, eval e X.env) :: backTo pos (starEach [] X.env) := by rfl) (hpl : (backTo pos (starEach (e :: []) X.env)).any (·.1) = false := by rfl)
    (hall : (backToKw pos (keywordEach kws X.env)).all (·.1.isSome) = true := by rfl) (hnone : (backToKw pos (keywordEach kws X.env)).any (·.1.isNone) = false := by rfl) (hks : (backToKw pos (keywordEach kws X.env)).filterMap (·.1) = [("default" : Str)] := by rfl) :
    QE X Wx (.Call (.Name "max" p) [e] kws pos) (dMaxDf dl dk) := by
  obtain ⟨ta, pa, sa⟩ := ha.ex
  obtain ⟨tk, pk, sk⟩ := hkw.ex
  refine ⟨_, pe_callBK (call_maxDf hc hu) hg hm (by rfl) pa pk (by decide) (by decide) he hpl hall hnone hks, fun σ H env L k x Q st h hk hx => ?_⟩
  refine sa σ H env L _ x _ st h (fun ds L1 vs H1 h1 g1 j1 r1 => ?_) hx
  refine sk σ H1 env L1 _ x _ (st.go g1 j1) h1 (fun es L2 zs H2 h2 g2 j2 r2 => ?_) (hx.go g1)
  have r1 := r1.go g2
  split at h2
  · rename_i a dv
    obtain ⟨ns, hns, h0, h1⟩ := h2
    cases r1 with
    | cons ra r0 =>
    cases r0
    cases r2 with
    | cons rd r0 =>
    cases r0
    cases rd
    obtain ⟨q, ws, rfl, hs, rv⟩ := con_lst j2 ra hns
    have ew := RpAll.ofInts ns rv
    subst ew
    have gg := g1.trans g2
    refine ⟨q, ns, _, rfl, rfl, SqL.of hs, fun z => hk _ L2 _ H2 (h0 z) gg j2 (.int _), fun m hm hy => hk _ L2 _ H2 (h1 m hm hy) gg j2 (.int _)⟩
  · exact h2.elim
mutual
/-- no list, no error, no lambda in it -/
def noL : D → Bool
  | .lst _ => false | .ro _ => false | .exc _ _ _ => false | .fnv _ _ => false | .clo _ _ => false
  | .tup xs => noLs xs
  | .dk _ vs => noLs vs
  | .dt _ vs => noLs vs
  | .obj _ _ vs => noLs vs
  | _ => true
def noLs : List D → Bool
  | [] => true
  | d :: r => noL d && noLs r
end
def lentO : HO → Bool
  | .lst _ => true
  | .tbl _ => true
  | _ => false
def lents (L : Led) : Bool := L.all fun q => match q.2 with
  | .lst _ => true
  | .tab _ => true
  | _ => false
section
variable {L : Led} {K : PySem.W.Frag} {H : Hp}
abbrev Lent (L : Led) (H : Hp) : Prop := ∀ a, inL L a → ∃ o, H a = some o ∧ lentO o = true
theorem Lent.not (hq : Lent L H) {a : Addr} {o : HO} (h : H a = some o) (n : lentO o = false) : ¬ inL L a := fun m => by
  obtain ⟨o2, e, z⟩ := hq a m
  rw [h] at e
  cases e
  rw [n] at z
  cases z
theorem Lent.rd (hq : Lent L H) {a : Addr} {u : HO} (h : L2.Rd H a u) (n : lentO u = false) : ¬ inL L a := by
  rcases h with h | ⟨o, h⟩
  · exact hq.not h n
  · exact hq.not h rfl
mutual
theorem Rp.lend (hq : Lent L H) : ∀ {v : V} {d : D}, Rp [] K H v d → noL d = true → Rp L K H v d
  | _, _, .non, _ => .non
  | _, _, .bl b, _ => .bl b
  | _, _, .int i, _ => .int i
  | _, _, .str x, _ => .str x
  | _, _, .ty n, _ => .ty n
  | _, _, .ptr a, _ => .ptr a
  | _, _, .lst n h r, z => by simp [noL] at z
  | _, _, .ro s r, z => by simp [noL] at z
  | _, _, .tup s r, z => .tup (s.elim (fun w => .inl ⟨hq.rd w.2 rfl, w.2⟩) .inr) (RpAll.lend hq r (by simpa only [noL] using z))
  | _, _, .dk n h e r, z => .dk (hq.rd h rfl) h e (RpAll.lend hq r (by simpa only [noL] using z))
  | _, _, .dt n h e r, z => .dt (hq.rd h rfl) h e (RpAll.lend hq r (by simpa only [noL] using z))
  | _, _, .obj n h e r, z => .obj (hq.not h rfl) h e (RpAll.lend hq r (by simpa only [noL] using z))
  | _, _, .exc _ _ _ _ _ _ _, z => by simp [noL] at z
  | _, _, .fnv _, z => by simp [noL] at z
  | _, _, .clo _ _, z => by simp [noL] at z
  | _, _, .kt n h, _ => .kt (hq.not h rfl) h
theorem RpAll.lend (hq : Lent L H) : ∀ {vs : List V} {ds : List D}, RpAll [] K H vs ds → noLs ds = true → RpAll L K H vs ds
  | _, _, .nil, _ => .nil
  | _, _, .cons (d := d) (ds := ds) h r, z => by
    have z : noL d = true ∧ noLs ds = true := by simpa only [noLs, Bool.and_eq_true] using z
    exact .cons (Rp.lend hq h z.1) (RpAll.lend hq r z.2)
end
theorem JL.lent (j : JL K L H) (hl : lents L = true) : Lent L H := fun a m => by
  obtain ⟨q, hq, e⟩ := List.mem_map.mp m
  have z := List.all_eq_true.mp hl q hq
  have w := j.own q.1 q.2 hq
  rw [e] at w
  split at z
  · rename_i ds hd
    rw [hd] at w
    exact ⟨_, w.choose_spec.1, rfl⟩
  · rename_i ds hd
    rw [hd] at w
    exact ⟨_, w.choose_spec.1, rfl⟩
  · cases z
end
/-- slot i holds a list of the ledger: e reads it while nothing of the ledger may change -/
def dLend (i : Nat) (de : DE) : DE := fun env L k _ => match env[i]? with
  | some (some (.ptr p)) => match L.lookup p with
    | some (.lst xs) => lents L = true ∧ de (env.set i (some (.lst xs))) [] (fun d L1 => L1 = [] ∧ noL d = true ∧ k d L) (fun _ _ _ => False)
    | _ => False
  | _ => False
theorem set_same {σ : L2.St} {i : Nat} {v : V} (e1 : σ[i]? = some (some v)) : σ.set i (some v) = σ := by
  apply List.ext_getElem?
  intro j
  rw [List.getElem?_set]
  by_cases hj : i = j
  · subst hj
    rw [if_pos rfl, e1]
    have hlt : i < σ.length := by
      rcases Nat.lt_or_ge i σ.length with h | h
      · exact h
      · rw [List.getElem?_eq_none h] at e1; cases e1
    rw [if_pos hlt]
  · rw [if_neg hj]
theorem q_lend (i : Nat) (h : QE X Wx e de) : QE X Wx e (dLend i de) := by
  obtain ⟨t, pt, s1⟩ := h.ex
  refine ⟨t, pt, fun σ H env L k x Q st h hk hx => ?_⟩
  unfold dLend at h
  split at h
  · rename_i p hd
    split at h
    · rename_i xs hl
      obtain ⟨hl2, h⟩ := h
      obtain ⟨v, e1, r⟩ := st.1.get hd
      cases r
      obtain ⟨vs, e2, rv⟩ := st.2.look hl
      have g0 : Go L [] H H := .mk' fun a o n e => ⟨(fun m => by cases m), e⟩
      have j0 : JL X.K [] H := ⟨List.nodup_nil, (fun _ _ m => by cases m)⟩
      have r2 : Rp [] X.K H (.ref p) (.lst xs) := .lst (fun m => nomatch m) e2 (rv.go g0)
      have s3 := (st.1.go g0).set r2 i
      rw [set_same e1] at s3
      refine s1 σ H (env.set i (some (.lst xs))) [] _ _ Q ⟨s3, j0⟩ h (fun d L1 v H1 h1 g1 j1 r1 => ?_) fun n env' L' a H' σ' z => z.elim
      obtain ⟨rfl, hn, h1⟩ := h1
      have nn : ∀ a, ¬ inL [] a := fun a m => by cases m
      have keep : ∀ a o, inL L a → H a = some o → H1 a = some o := fun a o m ho => by
        obtain ⟨o2, eo, z⟩ := st.2.lent hl2 a m
        rw [ho] at eo
        cases eo
        refine (g1.at' (nn a) ho ?_).2
        cases o <;> first | rfl | cases z
      have gg : Go L L H H1 := fun a o n ho => ⟨n, (g1 a o (nn a) ho).2⟩
      have jj : JL X.K L H1 := ⟨st.2.nd, fun a d m => Own.move (st.2.own a d m) gg fun o ho => keep a o (List.mem_map.mpr ⟨_, m, rfl⟩) ho⟩
      exact hk d L v H1 h1 gg jj (r1.lend (jj.lent hl2) hn)
    · exact h.elim
  · exact h.elim
end
end DL
namespace T05
open PySem L2 DL PO
structure Zn (w : World) (K : PySem.W.Frag) (mg : Str → Option Value) (cP : Addr) : Prop where
  z_isinstance : mg "isinstance" = none
  z_int : mg "int" = none
  z_bool : mg "bool" = none
  z_str : mg "str" = none
  z_list : mg "list" = none
  z_tuple : mg "tuple" = none
  z_len : mg "len" = none
  z_abs : mg "abs" = none
  z_all : mg "all" = none
  z_range : mg "range" = none
  z_zip : mg "zip" = none
  z_enumerate : mg "enumerate" = none
  z_sorted : mg "sorted" = none
  z_reversed : mg "reversed" = none
  z_repr : mg "repr" = none
  z_max : mg "max" = none
  g_LETTERS : GlbD K mg "LETTERS" (.tup [.str "x", .str "y"])
  t_LETTERS : GTup K mg "LETTERS" ["x", "y"]
  c_P : Cls K cP
  n_P : ∀ f ∈ (["cells"] : List Str), NoAttr K cP f
end T05
namespace T05
open PySem L2 DL PO
def isIntS : DSp := fun ds L k _ => ∃ d, ds = [d] ∧ okT d = true ∧ k (.bl (isInt d)) L
def numS : DSp := fun ds L k _ => ∃ d lo hi, ds = [d, .int lo, .int hi] ∧ okT d = true ∧ k (.bl (numIn lo hi d)) L
def exn1 (C : Addr) (f : Str) (v : D) (code : Str) : Exn := ⟨.ref C, [f, "code"], [v, .str code]⟩
abbrev leE (C : Addr) (v : D) : Exn := exn1 C "given" v "InvalidLetter"
abbrev nuE (C : Addr) (v : D) : Exn := exn1 C "given" v "InvalidNumber"
abbrev itE (C : Addr) (n : Int) : Exn := exn1 C "at" (.int n) "InvalidTerm"
def isLet : D → Bool
  | .str z => decide (z ∈ (["x", "y"] : List Str))
  | _ => false
/-- check_letter, with what it refuses -/
def cLet2S (cL : Addr) : DSp := fun ds L k x => ∃ d, ds = [d] ∧ okW d = true ∧ (isLet d = true → k .non L) ∧ (isLet d = false → x (leE cL d) L)
def termOk : D → Bool
  | .tup [a, b, c] => numIn 0 20 a && numIn 0 20 b && isInt c
  | _ => false
/-- where the first item stands that is no term -/
def badAt : List D → Nat → Option Nat
  | [], _ => none
  | d :: r, a => if termOk d = true then badAt r (a + 1) else some a
/-- check_terms, with what it refuses -/
def cTerms2S (cT : Addr) : DSp := fun ds L k x => ∃ T, ds = [T, .int 20] ∧ okW T = true ∧ (match T with
  | .lst xs => (match badAt xs 0 with | some n => x (itE cT n) L | none => k .non L)
  | .tup xs => (match badAt xs 0 with | some n => x (itE cT n) L | none => k .non L)
  | _ => x (itE cT (-1)) L)
theorem okW_lst {l : List D} (h : okW (.lst l) = true) : l.length < 100000 ∧ okWs l = true := by
  unfold okW at h
  rw [Bool.and_eq_true] at h
  exact ⟨of_decide_eq_true h.1, h.2⟩
section
variable {P : Program} {w : World} {K : PySem.W.Frag} {mg : Str → Option Value} {base : Heap} {cP : Addr}
local macro_rules | `(tactic| walk_at "w") => `(tactic| conv => whnf)
local macro_rules | `(tactic| walk_at "v") => `(tactic| ((conv => whnf); try dsimp only))
local macro_rules | `(tactic| walk_at "s") => `(tactic| ((conv => whnf); repeat ((first | refine ⟨sz_ok rfl, ?_⟩ | refine ⟨rfl, ?_⟩); conv => whnf)))
theorem scIsInteger : FnScope ["value"] ["value"] (defScope sIsInteger) := ⟨rfl, rfl, rfl, by decide +kernel, rfl, by decide +kernel, by decide +kernel⟩
theorem ok_IsInteger {f : Addr} {fd : FuncData} (Z : Zn w K mg cP) (F : Fun K "is_integer" "is_integer" sIsInteger f fd) : FnOk P w K mg base (L2.CX P w) 1 f fd ["value"] (spD K isIntS) := by
  refine fn_ok F scIsInteger ?len (fun cdv A outer s H E hr => ?_)
  rotate_left
  · have tk := takes_of (X := cxOf (L2.CX P w) P w K mg base ["value"] "is_integer" (defScope sIsInteger) f cdv A outer s H E) (E := E) rfl rfl rfl rfl
    have hp := passes_of (X := cxOf (L2.CX P w) P w K mg base ["value"] "is_integer" (defScope sIsInteger) f cdv A outer s H E) rfl
    refine ⟨_, (ss_one (s_ret (q_and (q_isi .int (qv 0) (by rfl) Z.z_isinstance (by rfl) Z.z_int bb_int) (q_one (q_not (q_isi .bl (qv 0) (by rfl) Z.z_isinstance (by rfl) Z.z_bool bb_bool)))))), ?_⟩
    clear tk hp
    rintro ds L k x ⟨d, rfl, h1, h⟩
    cases d <;> first | exact h | cases h1
  · rintro ds L k x ⟨d, rfl, _⟩; rfl
theorem scIsNumber : FnScope ["value", "least", "most"] ["value", "least", "most"] (defScope sIsNumber) := ⟨rfl, rfl, rfl, by decide +kernel, rfl, by decide +kernel, by decide +kernel⟩
theorem ok_IsNumber {f : Addr} {fd : FuncData} (Z : Zn w K mg cP) (F : Fun K "is_number" "is_number" sIsNumber f fd) (CIsInteger : Cal P w K mg base 1 "is_integer" ["value"] [] isIntS) : FnOk P w K mg base (L2.CX P w) 2 f fd ["value", "least", "most"] (spD K numS) := by
  refine fn_ok F scIsNumber ?len (fun cdv A outer s H E hr => ?_)
  rotate_left
  · have tk := takes_of (X := cxOf (L2.CX P w) P w K mg base ["value", "least", "most"] "is_number" (defScope sIsNumber) f cdv A outer s H E) (E := E) rfl rfl rfl rfl
    have hp := passes_of (X := cxOf (L2.CX P w) P w K mg base ["value", "least", "most"] "is_number" (defScope sIsNumber) f cdv A outer s H E) rfl
    refine ⟨_, (ss_one (s_ret (q_and (q_cal CIsInteger (by first | decide | exact Nat.le_refl _ | omega) hr tk (by rfl) (a_cons (qv 0) a_nil)) (q_one (q_chain oq_le oq_le (qv 1) (qv 0) (qv 2)))))), ?_⟩
    clear tk hp
    rintro ds L k x ⟨d, lo, hi, rfl, h1, h⟩
    walk_at "w"
    refine ⟨d, rfl, h1, ?_⟩
    cases d <;> first | cases h1; done | skip
    all_goals walk_at "v"
    all_goals first | exact h | skip
    rename_i i
    cases hl : decide (lo ≤ i) with
    | true =>
      have h : k (.bl (decide (lo ≤ i) && decide (i ≤ hi))) L := h
      rw [hl] at h
      exact h
    | false =>
      have h : k (.bl (decide (lo ≤ i) && decide (i ≤ hi))) L := h
      rw [hl] at h
      exact h
  · rintro ds L k x ⟨d, lo, hi, rfl, _⟩; rfl
theorem scCheckLetter : FnScope ["letter"] ["letter"] (defScope sCheckLetter) := ⟨rfl, rfl, rfl, by decide +kernel, rfl, by decide +kernel, by decide +kernel⟩
theorem ok_CheckLetter {f : Addr} {fd : FuncData} (Z : Zn w K mg cP) (F : Fun K "check_letter" "check_letter" sCheckLetter f fd) {cL : Addr} (E_InvalidLetter : ExCls P w K mg base "InvalidLetter" cL ["self", "given"] (spI1 cL "InvalidLetter" "given")) : FnOk P w K mg base (L2.CX P w) 3 f fd ["letter"] (spD K (cLet2S cL)) := by
  refine fn_ok F scCheckLetter ?len (fun cdv A outer s H E hr => ?_)
  rotate_left
  · have tk := takes_of (X := cxOf (L2.CX P w) P w K mg base ["letter"] "check_letter" (defScope sCheckLetter) f cdv A outer s H E) (E := E) rfl rfl rfl rfl
    have hp := passes_of (X := cxOf (L2.CX P w) P w K mg base ["letter"] "check_letter" (defScope sCheckLetter) f cdv A outer s H E) rfl
    refine ⟨_, (ss_one (s_if (w_or (t_not (t_val (q_isi .str (qv 0) (by rfl) Z.z_isinstance (by rfl) Z.z_str bb_str))) (w_or1 (t_cmp oq_notInQ (qv 0) (q_globD Z.g_LETTERS (by rfl))))).t (ss_one (s_raise1 E_InvalidLetter rfl hr (by first | decide | omega) tk (by rfl) (a_cons (qv 0) a_nil))) ss_nil)), ?_⟩
    clear tk hp
    rintro ds L k x ⟨d, rfl, hw, hk, hx⟩
    cases d with
    | str z =>
      by_cases h1 : z = "x"
      · subst h1
        walk_at "w"
        exact hk rfl
      by_cases h2 : z = "y"
      · subst h2
        walk_at "w"
        exact hk rfl
      have e1 : inV (.str z) [V.str "x", V.str "y"] = false := by
        have : inV (.str z) [V.str "x", V.str "y"] = decide (z ∈ (["x", "y"] : List Str)) := inV_str z ["x", "y"]
        rw [this]
        exact decide_eq_false (by simp [h1, h2])
      have e2 : isLet (.str z) = false := decide_eq_false (by simp [h1, h2])
      walk_at "w"
      rw [e1]
      walk_at "w"
      exact hx e2
    | _ => first | (cases hw; done) | (walk_at "w"; exact hx rfl)
  · rintro ds L k x ⟨d, rfl, _⟩; rfl
theorem scCheckTerms : FnScope ["terms", "most", "at", "term"] ["terms", "most"] (defScope sCheckTerms) := ⟨rfl, rfl, rfl, by decide +kernel, rfl, by decide +kernel, by decide +kernel⟩
theorem ok_CheckTerms {f : Addr} {fd : FuncData} (Z : Zn w K mg cP) (F : Fun K "check_terms" "check_terms" sCheckTerms f fd) {cT : Addr} (CIsNumber : Cal P w K mg base 2 "is_number" ["value", "least", "most"] [] numS) (CIsInteger : Cal P w K mg base 1 "is_integer" ["value"] [] isIntS) (E_InvalidTerm : ExCls P w K mg base "InvalidTerm" cT ["self", "at"] (spI1 cT "InvalidTerm" "at")) : FnOk P w K mg base (L2.CX P w) 3 f fd ["terms", "most"] (spD K (cTerms2S cT)) := by
  refine fn_ok F scCheckTerms ?len (fun cdv A outer s H E hr => ?_)
  rotate_left
  · have tk := takes_of (X := cxOf (L2.CX P w) P w K mg base ["terms", "most", "at", "term"] "check_terms" (defScope sCheckTerms) f cdv A outer s H E) (E := E) rfl rfl rfl rfl
    have hp := passes_of (X := cxOf (L2.CX P w) P w K mg base ["terms", "most", "at", "term"] "check_terms" (defScope sCheckTerms) f cdv A outer s H E) rfl
    refine ⟨_, (ss_cons (s_if (t_not (t_val (q_isi2 .lst .tup (qv 0) (by rfl) Z.z_isinstance (by rfl) Z.z_list bb_list (by rfl) Z.z_tuple bb_tuple))) (ss_one (s_raise1 E_InvalidTerm rfl hr (by first | decide | omega) tk (by rfl) (a_cons (q_neg q_int) a_nil))) ss_nil)
  (ss_one (s_for hp rfl (i_or (i_enum (by rfl) Z.z_enumerate (a_cons (qv 0) a_nil)) (i_enumT (by rfl) Z.z_enumerate (a_cons (qv 0) a_nil))) (g_tup (n := 2) rfl (gs_cons (g_name 2 scCheckTerms.nd) (gs_cons (g_name 3 scCheckTerms.nd) gs_nil))) (ss_cons (s_if (w_or (t_not (t_val (q_isi .tup (qv 3) (by rfl) Z.z_isinstance (by rfl) Z.z_tuple bb_tuple))) (w_or1 (t_cmp (oq_neU hr.units) (q_callB cq_len (by rfl) Z.z_len bb_len (a_cons (qv 3) a_nil)) q_int))).t (ss_one (s_raise1 E_InvalidTerm rfl hr (by first | decide | omega) tk (by rfl) (a_cons (qv 2) a_nil))) ss_nil)
  (ss_one (s_if (w_or (t_not (t_val (q_cal CIsNumber (by first | decide | exact Nat.le_refl _ | omega) hr tk (by rfl) (a_cons (q_ix (qv 3) q_int) (a_cons q_int (a_cons (qv 1) a_nil)))))) (w_or (t_not (t_val (q_cal CIsNumber (by first | decide | exact Nat.le_refl _ | omega) hr tk (by rfl) (a_cons (q_ix (qv 3) q_int) (a_cons q_int (a_cons (qv 1) a_nil)))))) (w_or1 (t_not (t_val (q_cal CIsInteger (by first | decide | exact Nat.le_refl _ | omega) hr tk (by rfl) (a_cons (q_ix (qv 3) q_int) a_nil))))))).t (ss_one (s_raise1 E_InvalidTerm rfl hr (by first | decide | omega) tk (by rfl) (a_cons (qv 2) a_nil))) ss_nil)))))), ?_⟩
    clear tk hp
    rintro ds L k x ⟨T, rfl, hw, h⟩
    cases T with
    | lst xs =>
      have hw := okW_lst hw
      have h : (match badAt xs 0 with | some n => x (itE cT n) L | none => k .non L) := h
      generalize hT : D.lst xs = T
      rw [← hT]
      walk_at "w"
      refine .inl ?_
      walk_at "w"
      rw [hT]
      refine forD_rec (fun r env L' => ∃ (a : Nat) (us : List D) (o3 o4 : Option D), r = enumD a us ∧ env = [some T, some (.int 20), o3, o4] ∧ L' = L ∧ okWs us = true ∧ (match badAt us a with | some n => x (itE cT n) L | none => k .non L)) ?step ?fin _ _ _ ⟨0, xs, none, none, rfl, rfl, rfl, hw.2, h⟩
      case fin =>
        rintro env L' ⟨a, us, o3, o4, hr, rfl, rfl, hz, h⟩
        cases us with
        | cons _ _ => cases hr
        | nil =>
          walk_at "w"
          exact h
      case step =>
        rintro E' d r env L' hrt hex _ _ ⟨a, us, o3, o4, hr, rfl, rfl, hz, h⟩ hnx
        cases us with
        | nil => cases hr
        | cons u us =>
          cases hr
          have hz : okW u = true ∧ okWs us = true := by rw [okWs, Bool.and_eq_true] at hz; exact hz
          have good : termOk u = true → E'.nx [some T, some (.int 20), some (.int a), some u] L' := fun e => hnx _ _ ⟨a + 1, us, _, _, rfl, rfl, rfl, hz.2, by rw [badAt, if_pos e] at h; exact h⟩
          have bad : termOk u = false → E'.ex (itE cT a) [some T, some (.int 20), some (.int a), some u] L' := fun e => by
            rw [hex]
            rw [badAt, if_neg (by rw [e]; exact Bool.false_ne_true)] at h
            exact h
          clear h hnx
          walk_at "w"
          refine ⟨rfl, ?_⟩
          cases u with
          | tup ts =>
            have ww := okW_tup hz.1
            rcases ts with _ | ⟨a1, _ | ⟨a2, _ | ⟨a3, _ | ⟨a4, r4⟩⟩⟩⟩
            · walk_at "w"; exact bad rfl
            · walk_at "w"; exact bad rfl
            · walk_at "w"; exact bad rfl
            · obtain ⟨w1, w2, w3⟩ : okW a1 = true ∧ okW a2 = true ∧ okW a3 = true := by
                have := ww.2
                simp only [okWs, Bool.and_eq_true, Bool.and_true] at this
                exact this
              walk_at "w"
              refine ⟨a1, 0, 20, rfl, okW_T w1, ?_⟩
              cases e1 : numIn 0 20 a1 with
              | false =>
                walk_at "w"
                exact bad (by show (numIn 0 20 a1 && numIn 0 20 a2 && isInt a3) = false; rw [e1]; rfl)
              | true =>
                walk_at "w"
                refine ⟨a2, 0, 20, rfl, okW_T w2, ?_⟩
                cases e2 : numIn 0 20 a2 with
                | false =>
                  walk_at "w"
                  exact bad (by show (numIn 0 20 a1 && numIn 0 20 a2 && isInt a3) = false; rw [e1, e2]; rfl)
                | true =>
                  walk_at "w"
                  refine ⟨a3, rfl, okW_T w3, ?_⟩
                  cases e3 : isInt a3 with
                  | false =>
                    walk_at "w"
                    exact bad (by show (numIn 0 20 a1 && numIn 0 20 a2 && isInt a3) = false; rw [e1, e2, e3]; rfl)
                  | true =>
                    walk_at "w"
                    exact good (by show (numIn 0 20 a1 && numIn 0 20 a2 && isInt a3) = true; rw [e1, e2, e3]; rfl)
            · walk_at "w"
              exact bad rfl
          | _ => first | (cases hz.1; done) | (walk_at "w"; exact bad rfl)
    | tup xs =>
      have hw := okW_tup hw
      have h : (match badAt xs 0 with | some n => x (itE cT n) L | none => k .non L) := h
      generalize hT : D.tup xs = T
      rw [← hT]
      walk_at "w"
      refine .inr ?_
      walk_at "w"
      rw [hT]
      refine forD_rec (fun r env L' => ∃ (a : Nat) (us : List D) (o3 o4 : Option D), r = enumD a us ∧ env = [some T, some (.int 20), o3, o4] ∧ L' = L ∧ okWs us = true ∧ (match badAt us a with | some n => x (itE cT n) L | none => k .non L)) ?step ?fin _ _ _ ⟨0, xs, none, none, rfl, rfl, rfl, hw.2, h⟩
      case fin =>
        rintro env L' ⟨a, us, o3, o4, hr, rfl, rfl, hz, h⟩
        cases us with
        | cons _ _ => cases hr
        | nil =>
          walk_at "w"
          exact h
      case step =>
        rintro E' d r env L' hrt hex _ _ ⟨a, us, o3, o4, hr, rfl, rfl, hz, h⟩ hnx
        cases us with
        | nil => cases hr
        | cons u us =>
          cases hr
          have hz : okW u = true ∧ okWs us = true := by rw [okWs, Bool.and_eq_true] at hz; exact hz
          have good : termOk u = true → E'.nx [some T, some (.int 20), some (.int a), some u] L' := fun e => hnx _ _ ⟨a + 1, us, _, _, rfl, rfl, rfl, hz.2, by rw [badAt, if_pos e] at h; exact h⟩
          have bad : termOk u = false → E'.ex (itE cT a) [some T, some (.int 20), some (.int a), some u] L' := fun e => by
            rw [hex]
            rw [badAt, if_neg (by rw [e]; exact Bool.false_ne_true)] at h
            exact h
          clear h hnx
          walk_at "w"
          refine ⟨rfl, ?_⟩
          cases u with
          | tup ts =>
            have ww := okW_tup hz.1
            rcases ts with _ | ⟨a1, _ | ⟨a2, _ | ⟨a3, _ | ⟨a4, r4⟩⟩⟩⟩
            · walk_at "w"; exact bad rfl
            · walk_at "w"; exact bad rfl
            · walk_at "w"; exact bad rfl
            · obtain ⟨w1, w2, w3⟩ : okW a1 = true ∧ okW a2 = true ∧ okW a3 = true := by
                have := ww.2
                simp only [okWs, Bool.and_eq_true, Bool.and_true] at this
                exact this
              walk_at "w"
              refine ⟨a1, 0, 20, rfl, okW_T w1, ?_⟩
              cases e1 : numIn 0 20 a1 with
              | false =>
                walk_at "w"
                exact bad (by show (numIn 0 20 a1 && numIn 0 20 a2 && isInt a3) = false; rw [e1]; rfl)
              | true =>
                walk_at "w"
                refine ⟨a2, 0, 20, rfl, okW_T w2, ?_⟩
                cases e2 : numIn 0 20 a2 with
                | false =>
                  walk_at "w"
                  exact bad (by show (numIn 0 20 a1 && numIn 0 20 a2 && isInt a3) = false; rw [e1, e2]; rfl)
                | true =>
                  walk_at "w"
                  refine ⟨a3, rfl, okW_T w3, ?_⟩
                  cases e3 : isInt a3 with
                  | false =>
                    walk_at "w"
                    exact bad (by show (numIn 0 20 a1 && numIn 0 20 a2 && isInt a3) = false; rw [e1, e2, e3]; rfl)
                  | true =>
                    walk_at "w"
                    exact good (by show (numIn 0 20 a1 && numIn 0 20 a2 && isInt a3) = true; rw [e1, e2, e3]; rfl)
            · walk_at "w"
              exact bad rfl
          | _ => first | (cases hz.1; done) | (walk_at "w"; exact bad rfl)
    | _ => first | (cases hw; done) | (walk_at "w"; exact h)
  · rintro ds L k x ⟨T, rfl, _⟩; rfl
end
end T05
namespace T05
open PySem L2 DL PO
/-- the greatest of them, -1 of none -/
structure Mx (ns : List Int) (m : Int) : Prop where
  nil : ns = [] → m = -1
  mem : ns ≠ [] → m ∈ ns
  le : ∀ y, y ∈ ns → y ≤ m
theorem Mx.one {ns : List Int} {m m2 : Int} (h : Mx ns m) (h1 : m2 ∈ ns) (h2 : ∀ y, y ∈ ns → y ≤ m2) : m = m2 := by
  have a := h2 m (h.mem fun e => by rw [e] at h1; cases h1)
  have b := h.le m2 h1
  omega
def degS (C : Addr) : DSp := fun ds L k _ => ∃ es m, ds = [pD C es] ∧ es.length < 100000 ∧ Mx (es.map fun t => t.1 + t.2.1) m ∧ k (.int m) L
def dgInS (C : Addr) : DSp := fun ds L k _ => ∃ es, ∃ z : Str, ∃ m, ds = [pD C es, .str z] ∧ es.length < 100000 ∧ ((z = "x" ∧ Mx (es.map fun t => t.1) m) ∨ (z = "y" ∧ Mx (es.map fun t => t.2.1) m)) ∧ k (.int m) L
def coefS (C : Addr) : DSp := fun ds L k _ => ∃ (es : List T3) (i j : Int), ds = [pD C es, .int i, .int j] ∧ k (.int ((look es (i, j)).getD 0)) L
section
variable {P : Program} {w : World} {K : PySem.W.Frag} {mg : Str → Option Value} {base : Heap} {cP : Addr}
local macro_rules | `(tactic| walk_at "w") => `(tactic| conv => whnf)
local macro_rules | `(tactic| walk_at "v") => `(tactic| ((conv => whnf); try dsimp only))
local macro_rules | `(tactic| walk_at "s") => `(tactic| ((conv => whnf); repeat ((first | refine ⟨sz_ok rfl, ?_⟩ | refine ⟨rfl, ?_⟩); conv => whnf)))
theorem scPolyDegree : FnScope ["self", "i", "j"] ["self"] (defScope sPolyDegree) := ⟨rfl, rfl, rfl, by decide +kernel, rfl, by decide +kernel, by decide +kernel⟩
theorem ok_PolyDegree {f : Addr} {fd : FuncData} (Z : Zn w K mg cP) (F : Fun K "degree" "Poly.degree" sPolyDegree f fd) : FnOk P w K mg base (L2.CX P w) 1 f fd ["self"] (spD K (degS cP)) := by
  refine fn_ok F scPolyDegree ?len (fun cdv A outer s H E hr => ?_)
  rotate_left
  · have tk := takes_of (X := cxOf (L2.CX P w) P w K mg base ["self", "i", "j"] "Poly.degree" (defScope sPolyDegree) f cdv A outer s H E) (E := E) rfl rfl rfl rfl
    have hp := passes_of (X := cxOf (L2.CX P w) P w K mg base ["self", "i", "j"] "Poly.degree" (defScope sPolyDegree) f cdv A outer s H E) rfl
    refine ⟨_, (ss_one (s_ret (q_maxDf rfl hr.units (by rfl) Z.z_max (a_cons (q_lc rfl scPolyDegree.nd (i_list (q_callTy (cq_listT rfl) (by rfl) Z.z_list bb_list (a_cons (q_fld (K := K) rfl (qv 0)) a_nil))) (blkOk_by (own := [("i", 1), ("j", 2)]) (N := ["self", "i", "j"]) (sc := (defScope sPolyDegree)) (by decide +kernel)) (fun _ _ _ _ _ => (g_kt (n := 2) rfl (gs_cons (g_name 1 scPolyDegree.nd) (gs_cons (g_name 2 scPolyDegree.nd) gs_nil)))) (fun _ _ _ _ _ => ts_nil) (fun _ _ _ _ _ => (q_op oq_add (qv 1) (qv 2)))) a_nil) (k_cons (q_neg q_int) k_nil)))), ?_⟩
    clear tk hp
    rintro ds L k x ⟨es, m, rfl, hn, hm, h⟩
    walk_at "w"
    refine ⟨⟨Z.c_P, Z.n_P _ (by decide)⟩, ?_⟩
    walk_at "w"
    intro q hq
    refine lcD_as (keys_es es) (lcD_each (fun t => .kt (kk (ky t))) (fun t => .int (t.1 + t.2.1)) hq es (by omega) (fun t ht acc F KK hK => ?_) ?_)
    · walk_at "w"
      exact ⟨rfl, hK⟩
    · walk_at "w"
      refine ⟨es.map fun t => t.1 + t.2.1, by rw [List.map_map]; rfl, fun e => ?_, fun m2 h1 h2 => ?_⟩
      · rw [hm.nil e] at h
        exact h
      · rw [hm.one h1 h2] at h
        exact h
  · rintro ds L k x ⟨es, m, rfl, _⟩; rfl
theorem scPolyDegreeIn : FnScope ["self", "letter", "at", "key"] ["self", "letter"] (defScope sPolyDegreeIn) := ⟨rfl, rfl, rfl, by decide +kernel, rfl, by decide +kernel, by decide +kernel⟩
theorem ok_PolyDegreeIn {f : Addr} {fd : FuncData} (Z : Zn w K mg cP) (F : Fun K "degree_in" "Poly.degree_in" sPolyDegreeIn f fd) {cL : Addr} (CCheckLetter : Cal P w K mg base 3 "check_letter" ["letter"] [] (cLet2S cL)) : FnOk P w K mg base (L2.CX P w) 4 f fd ["self", "letter"] (spD K (dgInS cP)) := by
  refine fn_ok F scPolyDegreeIn ?len (fun cdv A outer s H E hr => ?_)
  rotate_left
  · have tk := takes_of (X := cxOf (L2.CX P w) P w K mg base ["self", "letter", "at", "key"] "Poly.degree_in" (defScope sPolyDegreeIn) f cdv A outer s H E) (E := E) rfl rfl rfl rfl
    have hp := passes_of (X := cxOf (L2.CX P w) P w K mg base ["self", "letter", "at", "key"] "Poly.degree_in" (defScope sPolyDegreeIn) f cdv A outer s H E) rfl
    refine ⟨_, (ss_cons (s_expr (q_cal CCheckLetter (by first | decide | exact Nat.le_refl _ | omega) hr tk (by rfl) (a_cons (qv 1) a_nil)))
  (ss_cut (s_set 2 scPolyDegreeIn.nd (q_indexG Z.t_LETTERS (by rfl) (qv 1)))
  (ss_one (s_ret (q_maxDf rfl hr.units (by rfl) Z.z_max (a_cons (q_lc rfl scPolyDegreeIn.nd (i_list (q_callTy (cq_listT rfl) (by rfl) Z.z_list bb_list (a_cons (q_fld (K := K) rfl (qv 0)) a_nil))) (blkOk_by (own := [("key", 3)]) (N := ["self", "letter", "at", "key"]) (sc := (defScope sPolyDegreeIn)) (by decide +kernel)) (fun _ _ _ _ _ => (g_name 3 scPolyDegreeIn.nd)) (fun _ _ _ _ _ => ts_nil) (fun _ _ _ _ _ => (q_ix (qv 3) (qv 2)))) a_nil) (k_cons (q_neg q_int) k_nil)))))), ?_⟩
    clear tk hp
    rintro ds L k x ⟨es, z, m, rfl, hn, hz, h⟩
    have lk : isLet (.str z) = true := decide_eq_true (by rcases hz with ⟨e, _⟩ | ⟨e, _⟩ <;> simp [e])
    have wz : okW (.str z) = true := by
      have : z.length = 1 := by rcases hz with ⟨e, _⟩ | ⟨e, _⟩ <;> (rw [e]; decide +kernel)
      exact decide_eq_true (by omega)
    walk_at "w"
    refine ⟨.str z, rfl, wz, fun _ => ?_, fun e => absurd lk (by rw [e]; exact Bool.false_ne_true)⟩
    rcases hz with ⟨rfl, hm⟩ | ⟨rfl, hm⟩
    · walk_at "w"
      refine ⟨fun env' L' => env' = [some (pD cP es), some (.str "x"), some (.int 0), none] ∧ L' = L, ?_, ?_⟩
      · walk_at "w"
        refine ⟨0, rfl, fun m hm => absurd hm (Nat.not_lt_zero _), ?_⟩
        walk_at "w"
        exact ⟨rfl, rfl⟩
      · rintro env' L' ⟨rfl, rfl⟩
        walk_at "w"
        refine ⟨⟨Z.c_P, Z.n_P _ (by decide)⟩, ?_⟩
        walk_at "w"
        intro q hq
        refine lcD_as (keys_es es) (lcD_each (fun t => .kt (kk (ky t))) (fun t => .int t.1) hq es (by omega) (fun t ht acc F KK hK => ?_) ?_)
        · walk_at "w"
          exact hK
        · walk_at "w"
          refine ⟨es.map fun t => t.1, by rw [List.map_map]; rfl, fun e => ?_, fun m2 h1 h2 => ?_⟩
          · rw [hm.nil e] at h
            exact h
          · rw [hm.one h1 h2] at h
            exact h
    · walk_at "w"
      refine ⟨fun env' L' => env' = [some (pD cP es), some (.str "y"), some (.int 1), none] ∧ L' = L, ?_, ?_⟩
      · walk_at "w"
        refine ⟨1, rfl, fun m hm => ?_, ?_⟩
        · obtain rfl : m = 0 := by omega
          decide +kernel
        walk_at "w"
        exact ⟨rfl, rfl⟩
      · rintro env' L' ⟨rfl, rfl⟩
        walk_at "w"
        refine ⟨⟨Z.c_P, Z.n_P _ (by decide)⟩, ?_⟩
        walk_at "w"
        intro q hq
        refine lcD_as (keys_es es) (lcD_each (fun t => .kt (kk (ky t))) (fun t => .int t.2.1) hq es (by omega) (fun t ht acc F KK hK => ?_) ?_)
        · walk_at "w"
          exact hK
        · walk_at "w"
          refine ⟨es.map fun t => t.2.1, by rw [List.map_map]; rfl, fun e => ?_, fun m2 h1 h2 => ?_⟩
          · rw [hm.nil e] at h
            exact h
          · rw [hm.one h1 h2] at h
            exact h
  · rintro ds L k x ⟨es, z, m, rfl, _⟩; rfl
theorem scPolyCoefficient : FnScope ["self", "i", "j"] ["self", "i", "j"] (defScope sPolyCoefficient) := ⟨rfl, rfl, rfl, by decide +kernel, rfl, by decide +kernel, by decide +kernel⟩
theorem ok_PolyCoefficient {f : Addr} {fd : FuncData} (Z : Zn w K mg cP) (F : Fun K "coefficient" "Poly.coefficient" sPolyCoefficient f fd) : FnOk P w K mg base (L2.CX P w) 1 f fd ["self", "i", "j"] (spD K (coefS cP)) := by
  refine fn_ok F scPolyCoefficient ?len (fun cdv A outer s H E hr => ?_)
  rotate_left
  · have tk := takes_of (X := cxOf (L2.CX P w) P w K mg base ["self", "i", "j"] "Poly.coefficient" (defScope sPolyCoefficient) f cdv A outer s H E) (E := E) rfl rfl rfl rfl
    have hp := passes_of (X := cxOf (L2.CX P w) P w K mg base ["self", "i", "j"] "Poly.coefficient" (defScope sPolyCoefficient) f cdv A outer s H E) rfl
    refine ⟨_, (ss_one (s_ret (q_getT hr.units (q_fld (K := K) rfl (qv 0)) (q_kt (a_cons (qv 1) (a_cons (qv 2) a_nil))) q_int))), ?_⟩
    clear tk hp
    rintro ds L k x ⟨es, i, j, rfl, h⟩
    walk_at "w"
    refine ⟨⟨Z.c_P, Z.n_P _ (by decide)⟩, ?_⟩
    walk_at "w"
    refine ⟨trivial, ?_⟩
    walk_at "w"
    refine ⟨sz_ok rfl, ?_⟩
    walk_at "w"
    have e0 : (lookG (ksD es) (vsD es) [Sum.inl i, Sum.inl j]).getD (D.int 0) = .int ((look es (i, j)).getD 0) := by
      rw [show ([Sum.inl i, Sum.inl j] : List Key) = kk (i, j) from rfl, look_d]
      cases look es (i, j) <;> rfl
    rw [e0]
    exact h
  · rintro ds L k x ⟨es, i, j, rfl, _⟩; rfl
end
end T05
namespace T05
open PySem L2 DL PO
/-- where a value is no list of terms: -1, or the item -/
def badT : D → Option Int
  | .lst xs => (badAt xs 0).map fun n => (n : Int)
  | .tup xs => (badAt xs 0).map fun n => (n : Int)
  | _ => some (-1)
theorem bad_terms {cT : Addr} {T : D} {n : Int} {k : DK} {x : Exn → Led → Prop} {L : Led} : badT T = some n → x (itE cT n) L → (match T with
  | .lst xs => (match badAt xs 0 with | some n => x (itE cT n) L | none => k .non L)
  | .tup xs => (match badAt xs 0 with | some n => x (itE cT n) L | none => k .non L)
  | _ => x (itE cT (-1)) L) := by
  intro hb hx
  have go : ∀ xs : List D, ((badAt xs 0).map fun n => (n : Int)) = some n → (match badAt xs 0 with | some n => x (itE cT n) L | none => k .non L) := fun xs e => by
    cases hq : badAt xs 0 with
    | none => rw [hq] at e; cases e
    | some m => rw [hq] at e; cases e; exact hx
  cases T with
  | lst xs => exact go xs hb
  | tup xs => exact go xs hb
  | _ => cases hb; exact hx
def initX (C cT : Addr) : DSp := fun ds L _ x => ∃ (p : Addr) (T : D) (n : Int), ds = [.ptr p, T, .int 20] ∧ L.lookup p = some (.obj C [] []) ∧ okW T = true ∧ badT T = some n ∧ x (itE cT n) L
def slopeX (C cL : Addr) : DSp := fun ds L _ x => ∃ (es : List T3) (d : D), ds = [pD C es, d] ∧ okW d = true ∧ isLet d = false ∧ x (leE cL d) L
def dgInX (C cL : Addr) : DSp := fun ds L _ x => ∃ (es : List T3) (d : D), ds = [pD C es, d] ∧ okW d = true ∧ isLet d = false ∧ x (leE cL d) L
def eqL (C : Addr) : DSp := fun ds L k _ => ∃ (es : List T3) (xs : List D), ds = [pD C es, .lst xs] ∧ k (.bl false) L
def tellM (C : Addr) : DSp := fun ds L k _ => ∃ es : List T3, ds = [pD C es] ∧ es.length < 100000 ∧ ∀ p, ¬ inL L p → k (.ptr p) ((p, .lst (es.map tD)) :: L)
def oneP (t : T3) : List T3 := if t.2.2 = 0 then [] else [t]
theorem nk_one (t : T3) : NK [t] := by
  show [ky t].Nodup
  simp
theorem one_sel {t : T3} {qs : List (Int × Int)} (h : qs.Perm ((gat [t]).map ky)) : sel (gat [t]) qs = oneP t := by
  have g : gat [t] = [t] := gat_same (nk_one t)
  rw [g] at h ⊢
  obtain rfl : qs = [ky t] := List.perm_singleton.mp h
  have v : val [t] (ky t) = t.2.2 := by unfold val; rw [look_of (nk_one t) List.mem_cons_self]; rfl
  unfold sel oneP
  by_cases z : t.2.2 = 0
  · rw [List.filter_cons_of_neg (by rw [v, decide_eq_true_eq]; exact fun n => n z), if_pos z]
    rfl
  · rw [List.filter_cons_of_pos (by rw [v, decide_eq_true_eq]; exact z), if_neg z]
    show [((ky t).1, (ky t).2, val [t] (ky t))] = [t]
    rw [v]
def conS (C cN : Addr) : DSp := fun ds L k x => ∃ d, ds = [d] ∧ okW d = true ∧ (∀ v, d = .int v → k (pD C (oneP (0, 0, v))) L) ∧ (isInt d = false → x (nuE cN d) L)
def ltrS (C cL : Addr) : DSp := fun ds L k x => ∃ d, ds = [d] ∧ okW d = true ∧ (d = .str "x" → k (pD C [(1, 0, 1)]) L) ∧ (d = .str "y" → k (pD C [(0, 1, 1)]) L) ∧ (isLet d = false → x (leE cL d) L)
theorem lcDM_each {α : Type} {dg : DG} {dt : DT} {de : DE} {env0 : DEnv} {p : Addr} {k : DK} {L : Led} (f g : α → D) (hp : ¬ inL L p) : ∀ (l : List α) (acc : List D), acc.length + l.length ≤ 200000 →
    (∀ a ∈ l, ∀ (acc : List D) (F : Led → Prop) (KK : DK), KK (g a) ((p, .lst acc) :: L) → dg (f a) env0 ((p, .lst acc) :: L) fun env1 => dt env1 ((p, .lst acc) :: L) (fun b L2 => match b with
      | true => de env1 L2 KK (fun _ _ _ => False)
      | false => F L2) (fun _ _ _ => False)) →
    k (.ptr p) ((p, .lst (acc ++ l.map g)) :: L) → lcDM dg dt de env0 p k (l.map f) acc ((p, .lst acc) :: L)
  | [], acc, _, _, h => by
    rw [List.map_nil, lcDM_nil]
    have h : k (.ptr p) ((p, .lst (acc ++ [])) :: L) := h
    rw [List.append_nil] at h
    exact ⟨lookup_top, h⟩
  | a :: l, acc, hz, hs, h => by
    rw [List.map_cons, lcDM_cons]
    rw [List.length_cons] at hz
    have hlt : acc.length < sizeLine := Nat.lt_of_lt_of_le (show acc.length < 200000 by omega) (by decide)
    refine hs a List.mem_cons_self acc (fun L2 => L2.lookup p = some (.lst acc) ∧ lcDM dg dt de env0 p k (l.map f) acc L2) _ ⟨lookup_top, hlt, ?_⟩
    rw [setL_top hp]
    refine lcDM_each f g hp l (acc ++ [g a]) (by rw [List.length_append, List.length_singleton]; omega) (fun b hb => hs b (List.mem_cons_of_mem _ hb)) ?_
    rw [List.append_assoc]
    exact h
section
variable {P : Program} {w : World} {K : PySem.W.Frag} {mg : Str → Option Value} {base : Heap} {cP : Addr}
local macro_rules | `(tactic| walk_at "w") => `(tactic| conv => whnf)
local macro_rules | `(tactic| walk_at "v") => `(tactic| ((conv => whnf); try dsimp only))
local macro_rules | `(tactic| walk_at "s") => `(tactic| ((conv => whnf); repeat ((first | refine ⟨sz_ok rfl, ?_⟩ | refine ⟨rfl, ?_⟩); conv => whnf)))
theorem scPowerText : FnScope ["letter", "power"] ["letter", "power"] (defScope sPowerText) := ⟨rfl, rfl, rfl, by decide +kernel, rfl, by decide +kernel, by decide +kernel⟩
theorem ok_PowerText {f : Addr} {fd : FuncData} (Z : Zn w K mg cP) (F : Fun K "power_text" "power_text" sPowerText f fd) : FnOk P w K mg base (L2.CX P w) 1 f fd ["letter", "power"] (spD K powS) := by
  refine fn_ok F scPowerText ?len (fun cdv A outer s H E hr => ?_)
  rotate_left
  · have tk := takes_of (X := cxOf (L2.CX P w) P w K mg base ["letter", "power"] "power_text" (defScope sPowerText) f cdv A outer s H E) (E := E) rfl rfl rfl rfl
    have hp := passes_of (X := cxOf (L2.CX P w) P w K mg base ["letter", "power"] "power_text" (defScope sPowerText) f cdv A outer s H E) rfl
    refine ⟨_, (ss_cons (s_if (t_cmp (oq_eqU hr.units) (qv 1) q_int) (ss_one (s_ret q_str)) ss_nil)
  (ss_one (s_ret (q_if (t_cmp (oq_eqU hr.units) (qv 1) q_int) (qv 0) (q_joined (j_cons (q_fmt (qv 0)) (j_cons q_str (j_cons (q_fmt (qv 1)) j_nil)))))))), ?_⟩
    clear tk hp
    rintro ds L k x ⟨l, p, rfl, hl, h0, h1, h⟩
    have p0 : -(10 : Int) ^ 30 < p := Int.lt_of_lt_of_le (show -(10 : Int) ^ 30 < 0 by decide +kernel) h0
    have p1 : p < (10 : Int) ^ 30 := Int.lt_of_le_of_lt h1 (by decide +kernel)
    have hn : (Str.ofString (toString p)).length ≤ 31 := nS_len p0 p1
    unfold powT at h
    walk_at "w"
    by_cases e0 : p = 0
    · rw [if_pos e0] at h
      rw [show flEq (D.int p) (D.int 0) = true from decide_eq_true e0]
      exact h
    · rw [if_neg e0] at h
      rw [show flEq (D.int p) (D.int 0) = false from decide_eq_false e0]
      walk_at "w"
      by_cases e1 : p = 1
      · rw [if_pos e1] at h
        rw [show flEq (D.int p) (D.int 1) = true from decide_eq_true e1]
        exact h
      · rw [if_neg e1] at h
        rw [show flEq (D.int p) (D.int 1) = false from decide_eq_false e1]
        walk_at "w"
        have q6 : (Str.ofString "^").length = 1 := by decide +kernel
        have q0 : (Str.empty).length = 0 := by decide +kernel
        refine ⟨Nat.le_trans (show _ ≤ 100000 by omega) (by decide), ?_⟩
        walk_at "w"
        refine ⟨Nat.le_trans (show _ ≤ 100000 by rw [app_len]; omega) (by decide), ?_⟩
        walk_at "w"
        refine ⟨Nat.le_trans (show _ ≤ 100000 by rw [app_len, app_len]; omega) (by decide), ?_⟩
        walk_at "w"
        refine ⟨by have : p.natAbs.log2 < 100 := (by
          by_cases z : p.natAbs = 0
          · rw [z]; decide
          · rw [Nat.log2_lt z]
            have : p.natAbs < 10 ^ 30 := by omega
            exact Nat.lt_trans this (by decide +kernel)); omega, ?_⟩
        walk_at "w"
        refine ⟨Nat.le_trans (show _ ≤ 100000 by rw [app_len, app_len, app_len]; omega) (by decide), ?_⟩
        exact h
  · rintro ds L k x ⟨l, p, rfl, _⟩; rfl
theorem scTermText : FnScope ["i", "j", "size", "words", "word"] ["i", "j", "size"] (defScope sTermText) := ⟨rfl, rfl, rfl, by decide +kernel, rfl, by decide +kernel, by decide +kernel⟩
theorem ok_TermText {f : Addr} {fd : FuncData} (Z : Zn w K mg cP) (F : Fun K "term_text" "term_text" sTermText f fd) (CPowerText : Cal P w K mg base 1 "power_text" ["letter", "power"] [] powS) : FnOk P w K mg base (L2.CX P w) 2 f fd ["i", "j", "size"] (spD K termS) := by
  refine fn_ok F scTermText ?len (fun cdv A outer s H E hr => ?_)
  rotate_left
  · have tk := takes_of (X := cxOf (L2.CX P w) P w K mg base ["i", "j", "size", "words", "word"] "term_text" (defScope sTermText) f cdv A outer s H E) (E := E) rfl rfl rfl rfl
    have hp := passes_of (X := cxOf (L2.CX P w) P w K mg base ["i", "j", "size", "words", "word"] "term_text" (defScope sTermText) f cdv A outer s H E) rfl
    refine ⟨_, (ss_cons (s_setLc 3 rfl scTermText.nd (i_tup (q_tup (a_cons (q_cal CPowerText (by first | decide | exact Nat.le_refl _ | omega) hr tk (by rfl) (a_cons q_str (a_cons (qv 0) a_nil))) (a_cons (q_cal CPowerText (by first | decide | exact Nat.le_refl _ | omega) hr tk (by rfl) (a_cons q_str (a_cons (qv 1) a_nil))) a_nil)))) (blkOk_by (own := [("word", 4)]) (N := ["i", "j", "size", "words", "word"]) (sc := (defScope sTermText)) (by decide +kernel)) (fun _ _ _ _ _ => (g_name 4 scTermText.nd)) (fun _ _ _ _ _ => (ts_one (t_cmp (oq_neU hr.units) (qv 4) q_str))) (fun _ _ _ _ _ => (qv 4)) (sw_true rfl rfl rfl (by decide +kernel)))
  (ss_cons (s_if (w_or (t_cmp (oq_eqE hr.units) (qv 3) (q_lst a_nil)) (w_or1 (t_cmp (oq_neU hr.units) (qv 2) q_int))).t (ss_one (s_set 3 scTermText.nd (q_op oq_add (q_lst (a_cons (q_callTy cq_str (by rfl) Z.z_str bb_str (a_cons (qv 2) a_nil)) a_nil)) (qv 3)))) ss_nil)
  (ss_one (s_ret (q_join q_str (qv 3)))))), ?_⟩
    clear tk hp
    rintro ds L k x ⟨i, j, s, rfl, o, h⟩
    walk_at "w"
    refine ⟨"x", i, rfl, x_len, o.i0, o.i1, ?_⟩
    walk_at "w"
    refine ⟨"y", j, rfl, y_len, o.j0, o.j1, ?_⟩
    walk_at "w"
    refine ⟨sz_ok rfl, fun q hq => ?_⟩
    refine lcD_as (show _ = [powT "x" i, powT "y" j].map D.str from rfl) (lcD_pick D.str D.str (fun w : Str => decide (w ≠ ("" : Str))) hq _ [] (by show 2 ≤ 200000; decide) (fun w hw acc T F KK hT hF => ?_) ?_)
    · walk_at "w"
      by_cases z : w = ""
      · rw [show flEq (D.str w) (D.str "") = true from decide_eq_true z]
        exact hF (by simp [z])
      · rw [show flEq (D.str w) (D.str "") = false from decide_eq_false z]
        exact hT (by simp [z])
    · rw [words_pows, List.nil_append]
      have join : k (.str (Txt.join "*" (termW i j s))) L := h
      have ts := termW_sum o
      have lg := log_small (termok_nat o)
      have few := words_few i j
      unfold termW at join ts
      have big : wordsT i j = [] ∨ s ≠ 1 → (dRet (dTxt1 gJoin (dC (D.str (Str.ofString "*"))) (dVar 3))) (endsD k x) [some (.int i), some (.int j), some (.int s), some (.lst ([D.str (toString s)] ++ (wordsT i j).map D.str)), none] L := fun c => by
        rw [if_pos c] at join ts
        walk_at "w"
        rw [show strsOf ([D.str (toString s)] ++ (wordsT i j).map D.str) = some (nS s :: wordsT i j) from strsOf_map (nS s :: wordsT i j)]
        exact ⟨ts, join⟩
      walk_at "w"
      cases hw : wordsT i j with
      | nil =>
        rw [hw] at big
        walk_at "w"
        refine ⟨sz_ok rfl, ?_⟩
        walk_at "w"
        refine ⟨by omega, ?_⟩
        walk_at "w"
        refine ⟨sz_ok rfl, ?_⟩
        walk_at "w"
        refine ⟨sz_ok rfl, ?_⟩
        exact big (.inl rfl)
      | cons a r =>
        rw [hw] at big few join ts
        walk_at "w"
        refine ⟨sz_ok rfl, ?_⟩
        walk_at "w"
        by_cases z : s = 1
        · rw [show flEq (D.int s) (D.int 1) = true from decide_eq_true z]
          rw [if_neg (by simp [z])] at join ts
          walk_at "w"
          rw [strsOf_map]
          exact ⟨ts, join⟩
        · rw [show flEq (D.int s) (D.int 1) = false from decide_eq_false z]
          walk_at "w"
          refine ⟨by omega, ?_⟩
          walk_at "w"
          refine ⟨sz_ok rfl, ?_⟩
          walk_at "w"
          refine ⟨?_, ?_⟩
          · have : (List.map D.str (a :: r)).length ≤ 2 := by rw [List.length_map]; exact few
            exact Nat.le_trans (Nat.add_le_add (Nat.le_refl 1) this) (by decide)
          · exact big (.inr z)
  · rintro ds L k x ⟨i, j, s, rfl, _⟩; rfl
theorem scPolyInit : FnScope ["self", "terms", "most", "cells", "i", "j", "value", "key"] ["self", "terms", "most"] (defScope sPolyInit) := ⟨rfl, rfl, rfl, by decide +kernel, rfl, by decide +kernel, by decide +kernel⟩
theorem ok_PolyInit {f : Addr} {fd : FuncData} (Z : Zn w K mg cP) {dvs : List V} {kws : List (Str × V)} (F : FunF K "__init__" "Poly.__init__" sPolyInit dvs kws f fd) (CCheckTerms : Cal P w K mg base 3 "check_terms" ["terms", "most"] [] cTermsS) : FnOk P w K mg base (L2.CX P w) 4 f fd ["self", "terms", "most"] (spD K (initS cP)) := by
  refine fn_okF F scPolyInit ?len (fun cdv A outer s H E hr => ?_)
  rotate_left
  · have tk := takes_of (X := cxOf (L2.CX P w) P w K mg base ["self", "terms", "most", "cells", "i", "j", "value", "key"] "Poly.__init__" (defScope sPolyInit) f cdv A outer s H E) (E := E) rfl rfl rfl rfl
    have hp := passes_of (X := cxOf (L2.CX P w) P w K mg base ["self", "terms", "most", "cells", "i", "j", "value", "key"] "Poly.__init__" (defScope sPolyInit) f cdv A outer s H E) rfl
    refine ⟨_, (ss_cut (s_if (t_cmp oq_notN (qv 2) q_non) (ss_one (s_expr (q_cal CCheckTerms (by first | decide | exact Nat.le_refl _ | omega) hr tk (by rfl) (a_cons (qv 1) (a_cons (qv 2) a_nil))))) ss_nil)
  (ss_cons (s_set 3 scPolyInit.nd q_dnewT)
  (ss_cons (s_sealT 3 (s_for hp rfl (i_or (i_list (qv 1)) (i_tup (qv 1))) (g_tup (n := 3) rfl (gs_cons (g_name 4 scPolyInit.nd) (gs_cons (g_name 5 scPolyInit.nd) (gs_cons (g_name 6 scPolyInit.nd) gs_nil)))) (ss_one (s_storeT hr.units (q_op oq_add (q_getT hr.units (qv 3) (q_kt (a_cons (qv 4) (a_cons (qv 5) a_nil))) q_int) (qv 6)) (qv 3) (q_kt (a_cons (qv 4) (a_cons (qv 5) a_nil)))))))
  (ss_one (s_fld (K := K) rfl (q_dcT hr.units rfl scPolyInit.nd (i_list (q_callB cq_sortP (by rfl) Z.z_sorted bb_sorted (a_cons (q_callTy (cq_listT rfl) (by rfl) Z.z_list bb_list (a_cons (qv 3) a_nil)) a_nil))) (blkOk_by (own := [("key", 7)]) (N := ["self", "terms", "most", "cells", "i", "j", "value", "key"]) (sc := (defScope sPolyInit)) (by decide +kernel)) (fun _ _ _ _ _ => (g_name 7 scPolyInit.nd)) (fun _ _ _ _ _ => (ts_one (t_cmp (oq_neU hr.units) (q_ixT hr.units (qv 3) (qv 7)) q_int))) (fun _ _ _ _ _ => (qv 7)) (fun _ _ _ _ _ => (q_ixT hr.units (qv 3) (qv 7)))) (qv 0)))))), ?_⟩
    clear tk hp
    rintro ds L k x ⟨p, T, m, ts, rfl, hl, hT, hm, hn, h⟩
    refine ⟨fun env' L' => env' = [some (.ptr p), some T, some m, none, none, none, none, none] ∧ L' = L, ?_, ?_⟩
    · rcases hm with rfl | ⟨rfl, h20⟩
      · walk_at "w"
        exact ⟨rfl, rfl⟩
      · walk_at "w"
        exact ⟨T, ts, rfl, hT, h20, hn, rfl, rfl⟩
    · rintro env' L' ⟨rfl, rfl⟩
      walk_at "w"
      intro q hq
      have nq : p ≠ q := fun e => hq (e ▸ inL_of_lookup hl)
      have loop : ∀ (En : DEnds), (∀ o4 o5 o6, En.nx [some (.ptr p), some T, some m, some (.ptr q), o4, o5, o6, none] ((q, dtD (gat ts)) :: L')) →
          forD (dgTup 3 (dgCons (dgName 4) (dgCons (dgName 5) (dgCons (dgName 6) dgNil))))
            (dStoreT (dOp gAdd (dGetT (dVar 3) (dKt (dCons (dVar 4) (dCons (dVar 5) dNil))) (dC (D.int 0))) (dVar 6)) (dVar 3) (dKt (dCons (dVar 4) (dCons (dVar 5) dNil))))
            En (ts.map tD) [some (.ptr p), some T, some m, some (.ptr q), none, none, none, none] ((q, dtD []) :: L') := by
        intro En hf
        refine forD_rec (fun r env L2 => ∃ (us es : List T3) (o4 o5 o6 : Option D), r = us.map tD ∧ env = [some (.ptr p), some T, some m, some (.ptr q), o4, o5, o6, none] ∧ L2 = (q, dtD es) :: L' ∧ us.foldl add1 es = gat ts ∧ es.length + us.length ≤ ts.length) ?step ?fin (ts.map tD) _ _ ⟨ts, [], none, none, none, rfl, rfl, rfl, rfl, by show 0 + _ ≤ _; omega⟩
        case fin =>
          rintro env L2 ⟨us, es, o4, o5, o6, hr, rfl, rfl, e, hz⟩
          cases us with
          | cons _ _ => cases hr
          | nil =>
            have e : es = gat ts := e
            rw [e]
            exact hf o4 o5 o6
        case step =>
          rintro E' d r env L2 _ _ _ _ ⟨us, es, o4, o5, o6, hr, rfl, rfl, e, hz⟩ hnx
          cases us with
          | nil => cases hr
          | cons u us =>
            cases hr
            walk_at "w"
            refine ⟨rfl, ?_⟩
            walk_at "w"
            rw [con_ptr lookup_top]
            walk_at "w"
            refine ⟨trivial, ?_⟩
            walk_at "w"
            refine ⟨sz_ok rfl, ?_⟩
            walk_at "w"
            rw [con_ptr lookup_top]
            walk_at "w"
            have e0 : (lookG (ksD es) (vsD es) [Sum.inl u.1, Sum.inl u.2.1]).getD (D.int 0) = .int ((look es (ky u)).getD 0) := by
              rw [show ([Sum.inl u.1, Sum.inl u.2.1] : List Key) = kk (ky u) from rfl, look_d]
              cases look es (ky u) <;> rfl
            rw [e0]
            walk_at "w"
            refine ⟨sz_ok rfl, ?_⟩
            walk_at "w"
            rw [lookup_top]
            walk_at "w"
            have hlt : (ksD es).length < sizeLine := by
              rw [List.length_map]
              rw [List.length_cons] at hz
              exact Nat.lt_of_lt_of_le (show es.length < 100000 by omega) (by decide)
            refine ⟨hlt, ?_⟩
            rw [setL_top hq]
            refine hnx _ _ ⟨us, add1 es u, _, _, _, rfl, rfl, ?_, e, ?_⟩
            · show (q, D.dt (putGk (kk (ky u)) (ksD es)) (putGv (kk (ky u)) (D.int ((look es (ky u)).getD 0 + u.2.2)) (ksD es) (vsD es))) :: L' = _
              rw [putk_d es (ky u) ((look es (ky u)).getD 0 + u.2.2), putv_d]
              rfl
            · have := put_len es (ky u) ((look es (ky u)).getD 0 + u.2.2)
              rw [List.length_cons] at hz
              have : (add1 es u).length ≤ es.length + 1 := this
              omega
      rcases hT with rfl | rfl
      · walk_at "w"
        refine .inl ?_
        walk_at "w"
        refine loop _ fun o4 o5 o6 => ?_
        walk_at "w"
        rw [lookup_top]
        walk_at "w"
        rw [remL_top hq]
        rw [keys_pairs, pairsT_map]
        intro qs hp ha
        walk_at "w"
        intro q2 hq2
        refine dcT_pick pairT (fun q => (q.1, q.2, val (gat ts) q)) (fun q => decide (val (gat ts) q ≠ 0)) hq2 qs [] ?_ (sel_nk (gat_nk ts) hp ha) (fun q0 hq0 c N F hT hF => ?_) ?_
        · have := hp.length_eq
          rw [List.length_map] at this
          have := gat_len ts
          show 0 + _ ≤ _
          omega
        · have e0 : lookG (ksD (gat ts)) (vsD (gat ts)) [Sum.inl q0.1, Sum.inl q0.2] = some (.int (val (gat ts) q0)) := look_val (hp.mem_iff.mp hq0)
          walk_at "w"
          rw [e0]
          walk_at "w"
          by_cases z : val (gat ts) q0 = 0
          · rw [show flEq (D.int (val (gat ts) q0)) (D.int 0) = true from decide_eq_true z]
            exact hF (by simp [z])
          · rw [show flEq (D.int (val (gat ts) q0)) (D.int 0) = false from decide_eq_false z]
            walk_at "w"
            rw [e0]
            exact hT (by simp [z])
        · walk_at "w"
          rw [hl]
          walk_at "w"
          refine ⟨⟨Z.c_P, Z.n_P _ (by decide), by decide⟩, ?_⟩
          exact h qs hp ha
      · walk_at "w"
        refine .inr ?_
        walk_at "w"
        refine loop _ fun o4 o5 o6 => ?_
        walk_at "w"
        rw [lookup_top]
        walk_at "w"
        rw [remL_top hq]
        rw [keys_pairs, pairsT_map]
        intro qs hp ha
        walk_at "w"
        intro q2 hq2
        refine dcT_pick pairT (fun q => (q.1, q.2, val (gat ts) q)) (fun q => decide (val (gat ts) q ≠ 0)) hq2 qs [] ?_ (sel_nk (gat_nk ts) hp ha) (fun q0 hq0 c N F hT hF => ?_) ?_
        · have := hp.length_eq
          rw [List.length_map] at this
          have := gat_len ts
          show 0 + _ ≤ _
          omega
        · have e0 : lookG (ksD (gat ts)) (vsD (gat ts)) [Sum.inl q0.1, Sum.inl q0.2] = some (.int (val (gat ts) q0)) := look_val (hp.mem_iff.mp hq0)
          walk_at "w"
          rw [e0]
          walk_at "w"
          by_cases z : val (gat ts) q0 = 0
          · rw [show flEq (D.int (val (gat ts) q0)) (D.int 0) = true from decide_eq_true z]
            exact hF (by simp [z])
          · rw [show flEq (D.int (val (gat ts) q0)) (D.int 0) = false from decide_eq_false z]
            walk_at "w"
            rw [e0]
            exact hT (by simp [z])
        · walk_at "w"
          rw [hl]
          walk_at "w"
          refine ⟨⟨Z.c_P, Z.n_P _ (by decide), by decide⟩, ?_⟩
          exact h qs hp ha
  · rintro ds L k x ⟨p, T, m, ts, rfl, _⟩; rfl
theorem scMadeOf : FnScope ["cells", "key"] ["cells"] (defScope sMadeOf) := ⟨rfl, rfl, rfl, by decide +kernel, rfl, by decide +kernel, by decide +kernel⟩
theorem ok_MadeOf {f : Addr} {fd : FuncData} (Z : Zn w K mg cP) (F : Fun K "made_of" "made_of" sMadeOf f fd) (N_Poly_1_most : KCalN P w K mg base 4 "Poly" cP 1 ["most"] [] (fun a b _ => a ++ b) (initS cP)) : FnOk P w K mg base (L2.CX P w) 6 f fd ["cells"] (spD K (madeS cP)) := by
  refine fn_ok F scMadeOf ?len (fun cdv A outer s H E hr => ?_)
  rotate_left
  · have tk := takes_of (X := cxOf (L2.CX P w) P w K mg base ["cells", "key"] "made_of" (defScope sMadeOf) f cdv A outer s H E) (E := E) rfl rfl rfl rfl
    have hp := passes_of (X := cxOf (L2.CX P w) P w K mg base ["cells", "key"] "made_of" (defScope sMadeOf) f cdv A outer s H E) rfl
    refine ⟨_, (ss_one (s_ret (q_sealE (q_makeN N_Poly_1_most (by first | decide | exact Nat.le_refl _ | omega) hr tk (by rfl) (a_cons (q_lc rfl scMadeOf.nd (i_list (q_callTy (cq_listT rfl) (by rfl) Z.z_list bb_list (a_cons (qv 0) a_nil))) (blkOk_by (own := [("key", 1)]) (N := ["cells", "key"]) (sc := (defScope sMadeOf)) (by decide +kernel)) (fun _ _ _ _ _ => (g_name 1 scMadeOf.nd)) (fun _ _ _ _ _ => ts_nil) (fun _ _ _ _ _ => (q_tup (a_cons (q_ix (qv 1) q_int) (a_cons (q_ix (qv 1) q_int) (a_cons (q_ixT hr.units (qv 0) (qv 1)) a_nil)))))) a_nil) (k_cons q_non k_nil))))), ?_⟩
    clear tk hp
    rintro ds L k x ⟨es, rfl, nk, hn, h⟩
    walk_at "w"
    intro q hq
    refine lcD_as (keys_es es) (lcD_each (fun t => .kt (kk (ky t))) tD hq es (by omega) (fun t ht acc F KK hK => ?_) ?_)
    · walk_at "w"
      rw [show lookG (ksD es) (vsD es) [Sum.inl t.1, Sum.inl t.2.1] = some (.int t.2.2) from look_term nk ht]
      walk_at "w"
      exact ⟨sz_ok rfl, hK⟩
    · walk_at "w"
      refine ⟨rfl, rfl, fun q2 hq2 => ?_⟩
      refine ⟨q2, .lst (es.map tD), .non, es, rfl, lookup_top, .inl rfl, .inl rfl, hn, fun qs hp ha => ⟨rfl, ?_⟩⟩
      rw [gat_same nk] at hp ⊢
      rw [setL_top hq2]
      walk_at "w"
      rw [lookup_top]
      walk_at "w"
      rw [remL_top hq2]
      exact h qs hp ha
  · rintro ds L k x ⟨es, rfl, _⟩; rfl
theorem scPolyLead : FnScope ["self"] ["self"] (defScope sPolyLead) := ⟨rfl, rfl, rfl, by decide +kernel, rfl, by decide +kernel, by decide +kernel⟩
theorem ok_PolyLead {f : Addr} {fd : FuncData} (Z : Zn w K mg cP) (F : Fun K "lead" "Poly.lead" sPolyLead f fd) : FnOk P w K mg base (L2.CX P w) 1 f fd ["self"] (spD K (leadS cP)) := by
  refine fn_ok F scPolyLead ?len (fun cdv A outer s H E hr => ?_)
  rotate_left
  · have tk := takes_of (X := cxOf (L2.CX P w) P w K mg base ["self"] "Poly.lead" (defScope sPolyLead) f cdv A outer s H E) (E := E) rfl rfl rfl rfl
    have hp := passes_of (X := cxOf (L2.CX P w) P w K mg base ["self"] "Poly.lead" (defScope sPolyLead) f cdv A outer s H E) rfl
    refine ⟨_, (ss_one (s_ret (q_if (t_cmp oq_gt (q_callB cq_lenT (by rfl) Z.z_len bb_len (a_cons (q_fld (K := K) rfl (qv 0)) a_nil)) q_int) (q_ix (q_listVals rfl (q_fld (K := K) rfl (qv 0)) (by rfl) Z.z_list) (q_neg q_int)) q_int))), ?_⟩
    clear tk hp
    rintro ds L k x ⟨es, rfl, h⟩
    walk_at "w"
    refine ⟨⟨Z.c_P, Z.n_P _ (by decide)⟩, ?_⟩
    walk_at "w"
    rw [List.length_map]
    cases es with
    | nil =>
      walk_at "w"
      exact h
    | cons t r =>
      rw [show decide ((0 : Int) < ((t :: r).length : Int)) = true from decide_eq_true (by rw [List.length_cons]; omega)]
      walk_at "w"
      refine ⟨⟨Z.c_P, Z.n_P _ (by decide)⟩, ?_⟩
      walk_at "w"
      rw [show atI (vsD (t :: r)) (-1) = some (D.int (lastV (t :: r))) from last_at (by simp)]
      exact h
  · rintro ds L k x ⟨es, rfl, _⟩; rfl
theorem scPolyTerms : FnScope ["self", "i", "j", "value"] ["self"] (defScope sPolyTerms) := ⟨rfl, rfl, rfl, by decide +kernel, rfl, by decide +kernel, by decide +kernel⟩
theorem ok_PolyTerms {f : Addr} {fd : FuncData} (Z : Zn w K mg cP) (F : Fun K "terms" "Poly.terms" sPolyTerms f fd) : FnOk P w K mg base (L2.CX P w) 1 f fd ["self"] (spD K (tellS cP)) := by
  refine fn_ok F scPolyTerms ?len (fun cdv A outer s H E hr => ?_)
  rotate_left
  · have tk := takes_of (X := cxOf (L2.CX P w) P w K mg base ["self", "i", "j", "value"] "Poly.terms" (defScope sPolyTerms) f cdv A outer s H E) (E := E) rfl rfl rfl rfl
    have hp := passes_of (X := cxOf (L2.CX P w) P w K mg base ["self", "i", "j", "value"] "Poly.terms" (defScope sPolyTerms) f cdv A outer s H E) rfl
    refine ⟨_, (ss_one (s_ret (q_lc rfl scPolyTerms.nd (i_itemsT (q_fld (K := K) rfl (qv 0))) (blkOk_by (own := [("i", 1), ("j", 2), ("value", 3)]) (N := ["self", "i", "j", "value"]) (sc := (defScope sPolyTerms)) (by decide +kernel)) (fun _ _ _ _ _ => (g_tup (n := 2) rfl (gs_cons (g_kt (n := 2) rfl (gs_cons (g_name 1 scPolyTerms.nd) (gs_cons (g_name 2 scPolyTerms.nd) gs_nil))) (gs_cons (g_name 3 scPolyTerms.nd) gs_nil)))) (fun _ _ _ _ _ => ts_nil) (fun _ _ _ _ _ => (q_tup (a_cons (qv 1) (a_cons (qv 2) (a_cons (qv 3) a_nil)))))))), ?_⟩
    clear tk hp
    rintro ds L k x ⟨es, rfl, hn, h⟩
    walk_at "w"
    refine ⟨⟨Z.c_P, Z.n_P _ (by decide)⟩, ?_⟩
    walk_at "w"
    intro q hq
    refine lcD_as (itms_es es) (lcD_each (fun t => .tup [.kt (kk (ky t)), .int t.2.2]) tD hq es (by omega) (fun t ht acc F KK hK => ?_) ?_)
    · walk_at "w"
      refine ⟨rfl, ?_⟩
      walk_at "w"
      refine ⟨rfl, ?_⟩
      walk_at "w"
      exact ⟨sz_ok rfl, hK⟩
    · exact h
  · rintro ds L k x ⟨es, rfl, _⟩; rfl
theorem scPolySlope : FnScope ["self", "letter", "i", "j", "value"] ["self", "letter"] (defScope sPolySlope) := ⟨rfl, rfl, rfl, by decide +kernel, rfl, by decide +kernel, by decide +kernel⟩
theorem scPolyText : FnScope ["self", "words", "i", "j", "value"] ["self"] (defScope sPolyText) := ⟨rfl, rfl, rfl, by decide +kernel, rfl, by decide +kernel, by decide +kernel⟩
theorem ok_PolyText {f : Addr} {fd : FuncData} (Z : Zn w K mg cP) (F : Fun K "text" "Poly.text" sPolyText f fd) (CTermText : Cal P w K mg base 2 "term_text" ["i", "j", "size"] [] termS) : FnOk P w K mg base (L2.CX P w) 3 f fd ["self"] (spD K (textS cP)) := by
  refine fn_ok F scPolyText ?len (fun cdv A outer s H E hr => ?_)
  rotate_left
  · have tk := takes_of (X := cxOf (L2.CX P w) P w K mg base ["self", "words", "i", "j", "value"] "Poly.text" (defScope sPolyText) f cdv A outer s H E) (E := E) rfl rfl rfl rfl
    have hp := passes_of (X := cxOf (L2.CX P w) P w K mg base ["self", "words", "i", "j", "value"] "Poly.text" (defScope sPolyText) f cdv A outer s H E) rfl
    refine ⟨_, (ss_cons (s_set 1 scPolyText.nd (q_lstM a_nil))
  (ss_cons (s_sealA 1 (s_for hp rfl (i_rev (by rfl) Z.z_reversed (q_listItmT rfl (q_fld (K := K) rfl (qv 0)) (by rfl) Z.z_list)) (g_tup (n := 2) rfl (gs_cons (g_kt (n := 2) rfl (gs_cons (g_name 2 scPolyText.nd) (gs_cons (g_name 3 scPolyText.nd) gs_nil))) (gs_cons (g_name 4 scPolyText.nd) gs_nil))) (ss_cons (s_if (t_cmp (oq_eqE hr.units) (qv 1) (q_lst a_nil)) (ss_one (s_expr (q_append (qv 1) (q_if (t_cmp oq_lt (qv 4) q_int) q_str q_str)))) (ss_one (s_expr (q_append (qv 1) (q_if (t_cmp oq_lt (qv 4) q_int) q_str q_str)))))
  (ss_one (s_expr (q_append (qv 1) (q_cal CTermText (by first | decide | exact Nat.le_refl _ | omega) hr tk (by rfl) (a_cons (qv 2) (a_cons (qv 3) (a_cons (q_callB cq_abs (by rfl) Z.z_abs bb_abs (a_cons (qv 4) a_nil)) a_nil))))))))))
  (ss_one (s_ret (q_if (t_cmp (oq_neE hr.units) (qv 1) (q_lst a_nil)) (q_join q_str (qv 1)) q_str))))), ?_⟩
    clear tk hp
    rintro ds L k x ⟨es, rfl, o, h⟩
    have few := o.few
    walk_at "w"
    refine ⟨sz_ok rfl, fun q hq => ?_⟩
    walk_at "w"
    refine ⟨⟨Z.c_P, Z.n_P _ (by decide)⟩, ?_⟩
    walk_at "w"
    refine forD_as (show (itmsD (ksD es) (vsD es)).reverse = es.reverse.map (fun t => .tup [.kt (kk (ky t)), .int t.2.2]) from by rw [itms_es, List.map_reverse]) ?_
    refine forD_rec (fun r env L2 => ∃ (us : List T3) (ws : List Str) (o2 o3 o4 : Option D), r = us.map (fun t => .tup [.kt (kk (ky t)), .int t.2.2]) ∧ env = [some (pD cP es), some (.ptr q), o2, o3, o4] ∧ L2 = (q, .lst (ws.map .str)) :: L ∧ us.foldl stepW ws = foldW es ∧ ws.length + 2 * us.length ≤ 2 * es.length ∧ (∀ t ∈ us, t ∈ es)) ?step ?fin _ _ _ ⟨es.reverse, [], none, none, none, rfl, rfl, rfl, rfl, by rw [List.length_reverse]; show 0 + _ ≤ _; omega, fun t ht => List.mem_reverse.mp ht⟩
    case fin =>
      rintro env L2 ⟨us, ws, o2, o3, o4, hr, rfl, rfl, e, hz, hm⟩
      cases us with
      | cons _ _ => cases hr
      | nil =>
        have e : ws = foldW es := e
        subst e
        obtain ⟨f1, f2⟩ := fold_both es
        have fs := foldW_sum o
        walk_at "w"
        rw [lookup_top]
        walk_at "w"
        rw [remL_top hq]
        refine ⟨sz_ok rfl, ?_⟩
        walk_at "w"
        have ie : (List.map D.str (foldW es)).isEmpty = decide (foldT es = "") := by
          rw [← f2]
          cases foldW es <;> rfl
        rw [if_pos rfl, ie]
        unfold textT at h
        by_cases z : foldT es = ""
        · rw [if_pos z] at h
          rw [decide_eq_true z]
          exact h
        · rw [if_neg z, ← f1] at h
          rw [decide_eq_false z]
          walk_at "w"
          rw [strsOf_map]
          exact ⟨fs, h⟩
    case step =>
      rintro E' d r env L2 _ _ _ _ ⟨us, ws, o2, o3, o4, hr, rfl, rfl, e, hz, hm⟩ hnx
      cases us with
      | nil => cases hr
      | cons t us =>
        cases hr
        have ho := o.all t (hm t List.mem_cons_self)
        rw [List.length_cons] at hz
        walk_at "w"
        refine ⟨rfl, ?_⟩
        walk_at "w"
        refine ⟨rfl, ?_⟩
        walk_at "w"
        refine ⟨sz_ok rfl, ?_⟩
        walk_at "w"
        rw [con_ptr lookup_top]
        walk_at "w"
        have lw : ∀ n : Nat, n ≤ 1 → (ws.map D.str).length + n < sizeLine := fun n h1 => by
          rw [List.length_map]
          exact Nat.lt_of_lt_of_le (show ws.length + n < 100000 by omega) (by decide)
        have last : ∀ sg : Str, sg = sgT ws.isEmpty t.2.2 → (dDrop (dAppend (dVar 1) (dCall termS [] (dCons (dVar 2) (dCons (dVar 3) (dCons (dCB gAbs (dCons (dVar 4) dNil)) dNil)))))) E' [some (pD cP es), some (.ptr q), some (.int t.1), some (.int t.2.1), some (.int t.2.2)] ((q, .lst (ws.map D.str ++ [.str sg])) :: L) := fun sg hsg => by
          walk_at "w"
          rw [lookup_top]
          walk_at "w"
          refine ⟨t.1, t.2.1, absI t.2.2, rfl, abs_ok ho, ?_⟩
          walk_at "w"
          rw [lookup_top]
          refine ⟨by rw [List.length_append]; exact lw 1 (Nat.le_refl 1), ?_⟩
          rw [setL_top hq]
          refine hnx _ _ ⟨us, stepW ws t, _, _, _, rfl, rfl, ?_, e, ?_, fun u hu => hm u (List.mem_cons_of_mem _ hu)⟩
          · unfold stepW
            rw [hsg, List.map_append, List.append_assoc]
            rfl
          · unfold stepW
            rw [List.length_append]
            show ws.length + 2 + 2 * us.length ≤ _
            omega
        rw [if_neg (by decide)]
        cases hw : ws with
        | nil =>
          rw [hw] at last lw
          walk_at "w"
          rw [lookup_top]
          walk_at "w"
          by_cases z : t.2.2 < 0
          · rw [show decide (t.2.2 < 0) = true from decide_eq_true z]
            walk_at "w"
            rw [lookup_top]
            refine ⟨lw 0 (by omega), ?_⟩
            rw [setL_top hq]
            exact last "-" (by show _ = if t.2.2 < 0 then ("-" : Str) else ""; rw [if_pos z])
          · rw [show decide (t.2.2 < 0) = false from decide_eq_false z]
            walk_at "w"
            rw [lookup_top]
            refine ⟨lw 0 (by omega), ?_⟩
            rw [setL_top hq]
            exact last "" (by show _ = if t.2.2 < 0 then ("-" : Str) else ""; rw [if_neg z])
        | cons a r =>
          rw [hw] at last lw
          walk_at "w"
          rw [lookup_top]
          walk_at "w"
          by_cases z : t.2.2 < 0
          · rw [show decide (t.2.2 < 0) = true from decide_eq_true z]
            walk_at "w"
            rw [lookup_top]
            refine ⟨lw 0 (by omega), ?_⟩
            rw [setL_top hq]
            exact last " - " (by show _ = if t.2.2 < 0 then (" - " : Str) else " + "; rw [if_pos z])
          · rw [show decide (t.2.2 < 0) = false from decide_eq_false z]
            walk_at "w"
            rw [lookup_top]
            refine ⟨lw 0 (by omega), ?_⟩
            rw [setL_top hq]
            exact last " + " (by show _ = if t.2.2 < 0 then (" - " : Str) else " + "; rw [if_neg z])
  · rintro ds L k x ⟨es, rfl, _⟩; rfl
theorem scPolyRepr : FnScope ["self"] ["self"] (defScope sPolyRepr) := ⟨rfl, rfl, rfl, by decide +kernel, rfl, by decide +kernel, by decide +kernel⟩
theorem ok_PolyRepr {f : Addr} {fd : FuncData} (Z : Zn w K mg cP) (F : Fun K "__repr__" "Poly.__repr__" sPolyRepr f fd) (MPolyText : MCal P w K mg base 3 cP "text" ["self"] [] (textS cP)) : FnOk P w K mg base (L2.CX P w) 4 f fd ["self"] (spD K (reprS cP)) := by
  refine fn_ok F scPolyRepr ?len (fun cdv A outer s H E hr => ?_)
  rotate_left
  · have tk := takes_of (X := cxOf (L2.CX P w) P w K mg base ["self"] "Poly.__repr__" (defScope sPolyRepr) f cdv A outer s H E) (E := E) rfl rfl rfl rfl
    have hp := passes_of (X := cxOf (L2.CX P w) P w K mg base ["self"] "Poly.__repr__" (defScope sPolyRepr) f cdv A outer s H E) rfl
    refine ⟨_, (ss_one (s_ret (q_joined (j_cons q_str (j_cons (q_fmt (q_meth0 MPolyText (by first | decide | exact Nat.le_refl _ | omega) hr tk (qv 0))) (j_cons q_str j_nil)))))), ?_⟩
    clear tk hp
    rintro ds L k x ⟨es, rfl, o, h⟩
    have tl := textT_len o
    have p0 : (Str.empty).length = 0 := by decide +kernel
    have p1 : (Str.ofString "Poly(").length = 5 := by decide +kernel
    have p2 : (Str.ofString ")").length = 1 := by decide +kernel
    walk_at "w"
    refine ⟨Nat.le_trans (show _ ≤ 1000000 by rw [app_len]; omega) (by decide), ?_⟩
    walk_at "w"
    refine ⟨⟨rfl, rfl⟩, ?_⟩
    walk_at "w"
    refine ⟨es, rfl, o, ?_⟩
    walk_at "w"
    refine ⟨Nat.le_trans (show _ ≤ 1000000 by omega) (by decide), ?_⟩
    walk_at "w"
    refine ⟨Nat.le_trans (show _ ≤ 1000000 by rw [app_len, app_len]; omega) (by decide), ?_⟩
    walk_at "w"
    refine ⟨Nat.le_trans (show _ ≤ 1000000 by rw [app_len, app_len, app_len]; omega) (by decide), ?_⟩
    exact h
  · rintro ds L k x ⟨es, rfl, _⟩; rfl
theorem scPolyEq : FnScope ["self", "other"] ["self", "other"] (defScope sPolyEq) := ⟨rfl, rfl, rfl, by decide +kernel, rfl, by decide +kernel, by decide +kernel⟩
theorem ok_PolyEq {f : Addr} {fd : FuncData} (Z : Zn w K mg cP) (F : Fun K "__eq__" "Poly.__eq__" sPolyEq f fd) (n_Poly : mg "Poly" = some (.ref cP)) (IB : InsC K cP) (kB : PySem.W.kitOne K (.ref cP) (.ref cP) = some true) : FnOk P w K mg base (L2.CX P w) 1 f fd ["self", "other"] (spD K (eqS cP)) := by
  refine fn_ok F scPolyEq ?len (fun cdv A outer s H E hr => ?_)
  rotate_left
  · have tk := takes_of (X := cxOf (L2.CX P w) P w K mg base ["self", "other"] "Poly.__eq__" (defScope sPolyEq) f cdv A outer s H E) (E := E) rfl rfl rfl rfl
    have hp := passes_of (X := cxOf (L2.CX P w) P w K mg base ["self", "other"] "Poly.__eq__" (defScope sPolyEq) f cdv A outer s H E) rfl
    refine ⟨_, (ss_one (s_ret (q_and (q_isC (K := K) rfl (qv 1) n_Poly (by rfl) Z.z_isinstance (by rfl)) (q_one (q_cmp (oq_eqT hr.units) (q_fld (K := K) rfl (qv 0)) (q_fld (K := K) rfl (qv 1))))))), ?_⟩
    clear tk hp
    rintro ds L k x ⟨es, fs, rfl, h⟩
    walk_at "w"
    refine ⟨true, ⟨IB, kB⟩, ?_⟩
    walk_at "w"
    refine ⟨⟨Z.c_P, Z.n_P _ (by decide)⟩, ?_⟩
    walk_at "w"
    refine ⟨⟨Z.c_P, Z.n_P _ (by decide)⟩, ?_⟩
    walk_at "w"
    rw [ints_vs, ints_vs]
    show k (.bl (xor false (eqDT (ksD es) (vsI es) (ksD fs) (vsI fs)))) L
    rw [Bool.false_xor]
    exact h
  · rintro ds L k x ⟨es, fs, rfl, _⟩; rfl
theorem scPolyBool : FnScope ["self"] ["self"] (defScope sPolyBool) := ⟨rfl, rfl, rfl, by decide +kernel, rfl, by decide +kernel, by decide +kernel⟩
theorem ok_PolyBool {f : Addr} {fd : FuncData} (Z : Zn w K mg cP) (F : Fun K "__bool__" "Poly.__bool__" sPolyBool f fd) : FnOk P w K mg base (L2.CX P w) 1 f fd ["self"] (spD K (boolS cP)) := by
  refine fn_ok F scPolyBool ?len (fun cdv A outer s H E hr => ?_)
  rotate_left
  · have tk := takes_of (X := cxOf (L2.CX P w) P w K mg base ["self"] "Poly.__bool__" (defScope sPolyBool) f cdv A outer s H E) (E := E) rfl rfl rfl rfl
    have hp := passes_of (X := cxOf (L2.CX P w) P w K mg base ["self"] "Poly.__bool__" (defScope sPolyBool) f cdv A outer s H E) rfl
    refine ⟨_, (ss_one (s_ret (q_cmp oq_gt (q_callB cq_lenT (by rfl) Z.z_len bb_len (a_cons (q_fld (K := K) rfl (qv 0)) a_nil)) q_int))), ?_⟩
    clear tk hp
    rintro ds L k x ⟨es, rfl, h⟩
    walk_at "w"
    refine ⟨⟨Z.c_P, Z.n_P _ (by decide)⟩, ?_⟩
    walk_at "w"
    rw [List.length_map]
    exact h
  · rintro ds L k x ⟨es, rfl, _⟩; rfl
theorem ok_PolyInitX {f : Addr} {fd : FuncData} (Z : Zn w K mg cP) {dvs : List V} {kws : List (Str × V)} (F : FunF K "__init__" "Poly.__init__" sPolyInit dvs kws f fd) {cT : Addr} (CCheckTerms : Cal P w K mg base 3 "check_terms" ["terms", "most"] [] (cTerms2S cT)) : FnOk P w K mg base (L2.CX P w) 4 f fd ["self", "terms", "most"] (spD K (initX cP cT)) := by
  refine fn_okF F scPolyInit ?len (fun cdv A outer s H E hr => ?_)
  rotate_left
  · have tk := takes_of (X := cxOf (L2.CX P w) P w K mg base ["self", "terms", "most", "cells", "i", "j", "value", "key"] "Poly.__init__" (defScope sPolyInit) f cdv A outer s H E) (E := E) rfl rfl rfl rfl
    have hp := passes_of (X := cxOf (L2.CX P w) P w K mg base ["self", "terms", "most", "cells", "i", "j", "value", "key"] "Poly.__init__" (defScope sPolyInit) f cdv A outer s H E) rfl
    refine ⟨_, (ss_cut (s_if (t_cmp oq_notN (qv 2) q_non) (ss_one (s_expr (q_cal CCheckTerms (by first | decide | exact Nat.le_refl _ | omega) hr tk (by rfl) (a_cons (qv 1) (a_cons (qv 2) a_nil))))) ss_nil)
  (ss_cons (s_set 3 scPolyInit.nd q_dnewT)
  (ss_cons (s_sealT 3 (s_for hp rfl (i_or (i_list (qv 1)) (i_tup (qv 1))) (g_tup (n := 3) rfl (gs_cons (g_name 4 scPolyInit.nd) (gs_cons (g_name 5 scPolyInit.nd) (gs_cons (g_name 6 scPolyInit.nd) gs_nil)))) (ss_one (s_storeT hr.units (q_op oq_add (q_getT hr.units (qv 3) (q_kt (a_cons (qv 4) (a_cons (qv 5) a_nil))) q_int) (qv 6)) (qv 3) (q_kt (a_cons (qv 4) (a_cons (qv 5) a_nil)))))))
  (ss_one (s_fld (K := K) rfl (q_dcT hr.units rfl scPolyInit.nd (i_list (q_callB cq_sortP (by rfl) Z.z_sorted bb_sorted (a_cons (q_callTy (cq_listT rfl) (by rfl) Z.z_list bb_list (a_cons (qv 3) a_nil)) a_nil))) (blkOk_by (own := [("key", 7)]) (N := ["self", "terms", "most", "cells", "i", "j", "value", "key"]) (sc := (defScope sPolyInit)) (by decide +kernel)) (fun _ _ _ _ _ => (g_name 7 scPolyInit.nd)) (fun _ _ _ _ _ => (ts_one (t_cmp (oq_neU hr.units) (q_ixT hr.units (qv 3) (qv 7)) q_int))) (fun _ _ _ _ _ => (qv 7)) (fun _ _ _ _ _ => (q_ixT hr.units (qv 3) (qv 7)))) (qv 0)))))), ?_⟩
    clear tk hp
    rintro ds L k x ⟨p, T, n, rfl, hl, hw, hb, hx⟩
    refine ⟨fun _ _ => False, ?_, fun _ _ z => z.elim⟩
    walk_at "w"
    refine ⟨T, rfl, hw, ?_⟩
    exact bad_terms (k := fun _ _ => False) hb hx
  · rintro ds L k x ⟨p, T, n, rfl, _⟩; rfl
theorem ok_PolySlopeX {f : Addr} {fd : FuncData} (Z : Zn w K mg cP) (F : Fun K "slope" "Poly.slope" sPolySlope f fd) {cL : Addr} (CCheckLetter : Cal P w K mg base 3 "check_letter" ["letter"] [] (cLet2S cL)) (CMadeOf : Cal P w K mg base 6 "made_of" ["cells"] [] (madeS cP)) : FnOk P w K mg base (L2.CX P w) 7 f fd ["self", "letter"] (spD K (slopeX cP cL)) := by
  refine fn_ok F scPolySlope ?len (fun cdv A outer s H E hr => ?_)
  rotate_left
  · have tk := takes_of (X := cxOf (L2.CX P w) P w K mg base ["self", "letter", "i", "j", "value"] "Poly.slope" (defScope sPolySlope) f cdv A outer s H E) (E := E) rfl rfl rfl rfl
    have hp := passes_of (X := cxOf (L2.CX P w) P w K mg base ["self", "letter", "i", "j", "value"] "Poly.slope" (defScope sPolySlope) f cdv A outer s H E) rfl
    refine ⟨_, (ss_cons (s_expr (q_cal CCheckLetter (by first | decide | exact Nat.le_refl _ | omega) hr tk (by rfl) (a_cons (qv 1) a_nil)))
  (ss_cons (s_if (t_cmp (oq_eqU hr.units) (qv 1) q_str) (ss_one (s_ret (q_cal CMadeOf (by first | decide | exact Nat.le_refl _ | omega) hr tk (by rfl) (a_cons (q_dcT hr.units rfl scPolySlope.nd (i_itemsT (q_fld (K := K) rfl (qv 0))) (blkOk_by (own := [("i", 2), ("j", 3), ("value", 4)]) (N := ["self", "letter", "i", "j", "value"]) (sc := (defScope sPolySlope)) (by decide +kernel)) (fun _ _ _ _ _ => (g_tup (n := 2) rfl (gs_cons (g_kt (n := 2) rfl (gs_cons (g_name 2 scPolySlope.nd) (gs_cons (g_name 3 scPolySlope.nd) gs_nil))) (gs_cons (g_name 4 scPolySlope.nd) gs_nil)))) (fun _ _ _ _ _ => (ts_one (t_cmp oq_gt (qv 2) q_int))) (fun _ _ _ _ _ => (q_kt (a_cons (q_op oq_sub (qv 2) q_int) (a_cons (qv 3) a_nil)))) (fun _ _ _ _ _ => (q_op oq_mulU (qv 2) (qv 4)))) a_nil)))) ss_nil)
  (ss_one (s_ret (q_cal CMadeOf (by first | decide | exact Nat.le_refl _ | omega) hr tk (by rfl) (a_cons (q_dcT hr.units rfl scPolySlope.nd (i_itemsT (q_fld (K := K) rfl (qv 0))) (blkOk_by (own := [("i", 2), ("j", 3), ("value", 4)]) (N := ["self", "letter", "i", "j", "value"]) (sc := (defScope sPolySlope)) (by decide +kernel)) (fun _ _ _ _ _ => (g_tup (n := 2) rfl (gs_cons (g_kt (n := 2) rfl (gs_cons (g_name 2 scPolySlope.nd) (gs_cons (g_name 3 scPolySlope.nd) gs_nil))) (gs_cons (g_name 4 scPolySlope.nd) gs_nil)))) (fun _ _ _ _ _ => (ts_one (t_cmp oq_gt (qv 3) q_int))) (fun _ _ _ _ _ => (q_kt (a_cons (qv 2) (a_cons (q_op oq_sub (qv 3) q_int) a_nil)))) (fun _ _ _ _ _ => (q_op oq_mulU (qv 3) (qv 4)))) a_nil)))))), ?_⟩
    clear tk hp
    rintro ds L k x ⟨es, d, rfl, hw, hb, hx⟩
    walk_at "w"
    exact ⟨d, rfl, hw, fun e => absurd e (by rw [hb]; exact Bool.false_ne_true), fun _ => hx⟩
  · rintro ds L k x ⟨es, d, rfl, _⟩; rfl
theorem ok_PolyDegreeInX {f : Addr} {fd : FuncData} (Z : Zn w K mg cP) (F : Fun K "degree_in" "Poly.degree_in" sPolyDegreeIn f fd) {cL : Addr} (CCheckLetter : Cal P w K mg base 3 "check_letter" ["letter"] [] (cLet2S cL)) : FnOk P w K mg base (L2.CX P w) 4 f fd ["self", "letter"] (spD K (dgInX cP cL)) := by
  refine fn_ok F scPolyDegreeIn ?len (fun cdv A outer s H E hr => ?_)
  rotate_left
  · have tk := takes_of (X := cxOf (L2.CX P w) P w K mg base ["self", "letter", "at", "key"] "Poly.degree_in" (defScope sPolyDegreeIn) f cdv A outer s H E) (E := E) rfl rfl rfl rfl
    have hp := passes_of (X := cxOf (L2.CX P w) P w K mg base ["self", "letter", "at", "key"] "Poly.degree_in" (defScope sPolyDegreeIn) f cdv A outer s H E) rfl
    refine ⟨_, (ss_cons (s_expr (q_cal CCheckLetter (by first | decide | exact Nat.le_refl _ | omega) hr tk (by rfl) (a_cons (qv 1) a_nil)))
  (ss_cut (s_set 2 scPolyDegreeIn.nd (q_indexG Z.t_LETTERS (by rfl) (qv 1)))
  (ss_one (s_ret (q_maxDf rfl hr.units (by rfl) Z.z_max (a_cons (q_lc rfl scPolyDegreeIn.nd (i_list (q_callTy (cq_listT rfl) (by rfl) Z.z_list bb_list (a_cons (q_fld (K := K) rfl (qv 0)) a_nil))) (blkOk_by (own := [("key", 3)]) (N := ["self", "letter", "at", "key"]) (sc := (defScope sPolyDegreeIn)) (by decide +kernel)) (fun _ _ _ _ _ => (g_name 3 scPolyDegreeIn.nd)) (fun _ _ _ _ _ => ts_nil) (fun _ _ _ _ _ => (q_ix (qv 3) (qv 2)))) a_nil) (k_cons (q_neg q_int) k_nil)))))), ?_⟩
    clear tk hp
    rintro ds L k x ⟨es, d, rfl, hw, hb, hx⟩
    walk_at "w"
    refine ⟨d, rfl, hw, fun e => absurd e (by rw [hb]; exact Bool.false_ne_true), fun _ => hx⟩
  · rintro ds L k x ⟨es, d, rfl, _⟩; rfl
theorem ok_PolyEqL {f : Addr} {fd : FuncData} (Z : Zn w K mg cP) (F : Fun K "__eq__" "Poly.__eq__" sPolyEq f fd) (n_Poly : mg "Poly" = some (.ref cP)) (IB : InsC K cP) (kL : PySem.W.kitOne K (.type "list") (.ref cP) = some false) : FnOk P w K mg base (L2.CX P w) 1 f fd ["self", "other"] (spD K (eqL cP)) := by
  refine fn_ok F scPolyEq ?len (fun cdv A outer s H E hr => ?_)
  rotate_left
  · have tk := takes_of (X := cxOf (L2.CX P w) P w K mg base ["self", "other"] "Poly.__eq__" (defScope sPolyEq) f cdv A outer s H E) (E := E) rfl rfl rfl rfl
    have hp := passes_of (X := cxOf (L2.CX P w) P w K mg base ["self", "other"] "Poly.__eq__" (defScope sPolyEq) f cdv A outer s H E) rfl
    refine ⟨_, (ss_one (s_ret (q_and (q_isC (K := K) rfl (qv 1) n_Poly (by rfl) Z.z_isinstance (by rfl)) (q_one (q_cmp (oq_eqT hr.units) (q_fld (K := K) rfl (qv 0)) (q_fld (K := K) rfl (qv 1))))))), ?_⟩
    clear tk hp
    rintro ds L k x ⟨es, xs, rfl, h⟩
    walk_at "w"
    refine ⟨false, kL, ?_⟩
    walk_at "w"
    exact h
  · rintro ds L k x ⟨es, xs, rfl, _⟩; rfl
theorem ok_PolyTermsM {f : Addr} {fd : FuncData} (Z : Zn w K mg cP) (F : Fun K "terms" "Poly.terms" sPolyTerms f fd) : FnOk P w K mg base (L2.CX P w) 1 f fd ["self"] (spD K (tellM cP)) := by
  refine fn_ok F scPolyTerms ?len (fun cdv A outer s H E hr => ?_)
  rotate_left
  · have tk := takes_of (X := cxOf (L2.CX P w) P w K mg base ["self", "i", "j", "value"] "Poly.terms" (defScope sPolyTerms) f cdv A outer s H E) (E := E) rfl rfl rfl rfl
    have hp := passes_of (X := cxOf (L2.CX P w) P w K mg base ["self", "i", "j", "value"] "Poly.terms" (defScope sPolyTerms) f cdv A outer s H E) rfl
    refine ⟨_, (ss_one (s_ret (q_lcM rfl scPolyTerms.nd (i_itemsT (q_fld (K := K) rfl (qv 0))) (blkOk_by (own := [("i", 1), ("j", 2), ("value", 3)]) (N := ["self", "i", "j", "value"]) (sc := (defScope sPolyTerms)) (by decide +kernel)) (fun _ _ _ _ _ => (g_tup (n := 2) rfl (gs_cons (g_kt (n := 2) rfl (gs_cons (g_name 1 scPolyTerms.nd) (gs_cons (g_name 2 scPolyTerms.nd) gs_nil))) (gs_cons (g_name 3 scPolyTerms.nd) gs_nil)))) (fun _ _ _ _ _ => ts_nil) (fun _ _ _ _ _ => (q_tup (a_cons (qv 1) (a_cons (qv 2) (a_cons (qv 3) a_nil)))))))), ?_⟩
    clear tk hp
    rintro ds L k x ⟨es, rfl, hn, h⟩
    walk_at "w"
    refine ⟨⟨Z.c_P, Z.n_P _ (by decide)⟩, ?_⟩
    walk_at "w"
    intro q hq
    rw [itms_es es]
    refine lcDM_each (fun t => .tup [.kt (kk (ky t)), .int t.2.2]) tD hq es [] (by show 0 + _ ≤ _; omega) (fun t ht acc F KK hK => ?_) ?_
    · walk_at "w"
      refine ⟨rfl, ?_⟩
      walk_at "w"
      refine ⟨rfl, ?_⟩
      walk_at "w"
      exact ⟨sz_ok rfl, hK⟩
    · exact h q hq
  · rintro ds L k x ⟨es, rfl, _⟩; rfl
theorem scPolyConstant : FnScope ["value"] ["value"] (defScope sPolyConstant) := ⟨rfl, rfl, rfl, by decide +kernel, rfl, by decide +kernel, by decide +kernel⟩
theorem ok_PolyConstant {f : Addr} {fd : FuncData} (Z : Zn w K mg cP) (F : Fun K "constant" "Poly.constant" sPolyConstant f fd) {cN : Addr} (CIsInteger : Cal P w K mg base 1 "is_integer" ["value"] [] isIntS) (K_Poly : KCal P w K mg base 4 "Poly" cP ["self", "terms", "most"] [.int 20] (initS cP)) (E_InvalidNumber : ExCls P w K mg base "InvalidNumber" cN ["self", "given"] (spI1 cN "InvalidNumber" "given")) : FnOk P w K mg base (L2.CX P w) 6 f fd ["value"] (spD K (conS cP cN)) := by
  refine fn_ok F scPolyConstant ?len (fun cdv A outer s H E hr => ?_)
  rotate_left
  · have tk := takes_of (X := cxOf (L2.CX P w) P w K mg base ["value"] "Poly.constant" (defScope sPolyConstant) f cdv A outer s H E) (E := E) rfl rfl rfl rfl
    have hp := passes_of (X := cxOf (L2.CX P w) P w K mg base ["value"] "Poly.constant" (defScope sPolyConstant) f cdv A outer s H E) rfl
    refine ⟨_, (ss_cons (s_if (t_not (t_val (q_cal CIsInteger (by first | decide | exact Nat.le_refl _ | omega) hr tk (by rfl) (a_cons (qv 0) a_nil)))) (ss_one (s_raise1 E_InvalidNumber rfl hr (by first | decide | omega) tk (by rfl) (a_cons (qv 0) a_nil))) ss_nil)
  (ss_one (s_ret (q_makeD K_Poly (by first | decide | exact Nat.le_refl _ | omega) hr tk (by rfl) (a_cons (q_lst (a_cons (q_tup (a_cons q_int (a_cons q_int (a_cons (qv 0) a_nil)))) a_nil)) a_nil))))), ?_⟩
    clear tk hp
    rintro ds L k x ⟨d, rfl, hw, hk, hx⟩
    walk_at "w"
    refine ⟨d, rfl, okW_T hw, ?_⟩
    cases e : isInt d with
    | false =>
      walk_at "w"
      exact hx e
    | true =>
      cases d <;> first | (cases e; done) | skip
      rename_i v
      walk_at "w"
      refine ⟨sz_ok rfl, ?_⟩
      walk_at "w"
      refine ⟨sz_ok rfl, ?_⟩
      walk_at "w"
      intro q2 hq2
      refine ⟨q2, .lst [tD (0, 0, v)], .int 20, [(0, 0, v)], rfl, lookup_top, .inl rfl, .inr ⟨rfl, fun t ht => by rw [List.mem_singleton.mp ht]; exact ⟨⟨(by show (0 : Int) ≤ 0; decide), (by show (0 : Int) ≤ 20; decide)⟩, (by show (0 : Int) ≤ 0; decide), (by show (0 : Int) ≤ 20; decide)⟩⟩, (by show 1 < 100000; decide), fun qs hp ha => ⟨rfl, ?_⟩⟩
      rw [one_sel hp]
      rw [setL_top hq2, lookup_top]
      walk_at "w"
      rw [remL_top hq2]
      exact hk v rfl
  · rintro ds L k x ⟨d, rfl, _⟩; rfl
theorem scPolyLetter : FnScope ["name"] ["name"] (defScope sPolyLetter) := ⟨rfl, rfl, rfl, by decide +kernel, rfl, by decide +kernel, by decide +kernel⟩
theorem ok_PolyLetter {f : Addr} {fd : FuncData} (Z : Zn w K mg cP) (F : Fun K "letter" "Poly.letter" sPolyLetter f fd) {cL : Addr} (CCheckLetter : Cal P w K mg base 3 "check_letter" ["letter"] [] (cLet2S cL)) (K_Poly : KCal P w K mg base 4 "Poly" cP ["self", "terms", "most"] [.int 20] (initS cP)) : FnOk P w K mg base (L2.CX P w) 6 f fd ["name"] (spD K (ltrS cP cL)) := by
  refine fn_ok F scPolyLetter ?len (fun cdv A outer s H E hr => ?_)
  rotate_left
  · have tk := takes_of (X := cxOf (L2.CX P w) P w K mg base ["name"] "Poly.letter" (defScope sPolyLetter) f cdv A outer s H E) (E := E) rfl rfl rfl rfl
    have hp := passes_of (X := cxOf (L2.CX P w) P w K mg base ["name"] "Poly.letter" (defScope sPolyLetter) f cdv A outer s H E) rfl
    refine ⟨_, (ss_cons (s_expr (q_cal CCheckLetter (by first | decide | exact Nat.le_refl _ | omega) hr tk (by rfl) (a_cons (qv 0) a_nil)))
  (ss_one (s_ret (q_if (t_cmp (oq_eqU hr.units) (qv 0) q_str) (q_makeD K_Poly (by first | decide | exact Nat.le_refl _ | omega) hr tk (by rfl) (a_cons (q_lst (a_cons (q_tup (a_cons q_int (a_cons q_int (a_cons q_int a_nil)))) a_nil)) a_nil)) (q_makeD K_Poly (by first | decide | exact Nat.le_refl _ | omega) hr tk (by rfl) (a_cons (q_lst (a_cons (q_tup (a_cons q_int (a_cons q_int (a_cons q_int a_nil)))) a_nil)) a_nil)))))), ?_⟩
    clear tk hp
    rintro ds L k x ⟨d, rfl, hw, h1, h2, hx⟩
    walk_at "w"
    refine ⟨d, rfl, hw, fun e => ?_, hx⟩
    cases d <;> first | (cases e; done) | skip
    rename_i z
    have hz : z = "x" ∨ z = "y" := by
      have := of_decide_eq_true e
      simpa using this
    rcases hz with rfl | rfl
    · walk_at "w"
      refine ⟨sz_ok rfl, ?_⟩
      walk_at "w"
      refine ⟨sz_ok rfl, ?_⟩
      walk_at "w"
      intro q2 hq2
      refine ⟨q2, .lst [tD (1, 0, 1)], .int 20, [(1, 0, 1)], rfl, lookup_top, .inl rfl, .inr ⟨rfl, fun t ht => by rw [List.mem_singleton.mp ht]; decide⟩, by decide, fun qs hp ha => ⟨rfl, ?_⟩⟩
      rw [one_sel hp]
      rw [setL_top hq2, lookup_top]
      walk_at "w"
      rw [remL_top hq2]
      exact h1 rfl
    · walk_at "w"
      refine ⟨sz_ok rfl, ?_⟩
      walk_at "w"
      refine ⟨sz_ok rfl, ?_⟩
      walk_at "w"
      intro q2 hq2
      refine ⟨q2, .lst [tD (0, 1, 1)], .int 20, [(0, 1, 1)], rfl, lookup_top, .inl rfl, .inr ⟨rfl, fun t ht => by rw [List.mem_singleton.mp ht]; decide⟩, by decide, fun qs hp ha => ⟨rfl, ?_⟩⟩
      rw [one_sel hp]
      rw [setL_top hq2, lookup_top]
      walk_at "w"
      rw [remL_top hq2]
      exact h2 rfl
  · rintro ds L k x ⟨d, rfl, _⟩; rfl
end
end T05
namespace T05
open PySem L2 DL PO
def gathS : DSp := fun ds L k _ => ∃ ts : List T3, ds = [.lst (ts.map tD)] ∧ ts.length < 1000 ∧ ∀ qs, qs.Perm ((gat ts).map ky) → Asc qs → k (.lst ((sel (gat ts) qs).map tD)) L
def letLS : DSp := fun ds L k _ => ∃ (l : Str) (p : Int), ds = [.str l, .int p] ∧ l.length ≤ 10 ∧ 0 ≤ p ∧ p ≤ 1000 ∧ k (.lst ((letT l p).map .str)) L
def polyTS : DSp := fun ds L k _ => ∃ es, ds = [.lst (es.map tD)] ∧ PolyOk es ∧ k (.str (textT es)) L
section
variable {P : Program} {w : World} {K : PySem.W.Frag} {mg : Str → Option Value} {base : Heap} {cP : Addr}
local macro_rules | `(tactic| walk_at "w") => `(tactic| conv => whnf)
local macro_rules | `(tactic| walk_at "v") => `(tactic| ((conv => whnf); try dsimp only))
local macro_rules | `(tactic| walk_at "s") => `(tactic| ((conv => whnf); repeat ((first | refine ⟨sz_ok rfl, ?_⟩ | refine ⟨rfl, ?_⟩); conv => whnf)))
theorem scLBag : FnScope ["_law_script", "_law_mixed", "_law_cell"] ["_law_script"] (defScope sLBag) := ⟨rfl, rfl, rfl, by decide +kernel, rfl, by decide +kernel, by decide +kernel⟩
theorem ok_LBag {f : Addr} {fd : FuncData} (Z : Zn w K mg cP) (F : Fun K "_law_bag" "_law_bag" sLBag f fd) : FnOk P w K mg base (L2.CX P w) 1 f fd ["_law_script"] (spD K bagS) := by
  refine fn_ok F scLBag ?len (fun cdv A outer s H E hr => ?_)
  rotate_left
  · have tk := takes_of (X := cxOf (L2.CX P w) P w K mg base ["_law_script", "_law_mixed", "_law_cell"] "_law_bag" (defScope sLBag) f cdv A outer s H E) (E := E) rfl rfl rfl rfl
    have hp := passes_of (X := cxOf (L2.CX P w) P w K mg base ["_law_script", "_law_mixed", "_law_cell"] "_law_bag" (defScope sLBag) f cdv A outer s H E) rfl
    refine ⟨_, (ss_cons (s_set 1 scLBag.nd q_int)
  (ss_cons (s_for hp rfl (i_list (q_slice (qv 0) o_none (o_some q_int))) (g_name 2 scLBag.nd) (ss_one (s_set 1 scLBag.nd (q_op oq_mod (q_callTy cq_int (by rfl) Z.z_int bb_int (a_cons (q_op oq_add (q_op oq_add (q_op oq_mulU (qv 1) q_int) (q_op oq_mod (q_callTy cq_int (by rfl) Z.z_int bb_int (a_cons (qv 2) a_nil)) q_int)) q_int) a_nil)) q_int))))
  (ss_one (s_ret (q_lstM (a_cons (q_callTy cq_list (by rfl) Z.z_list bb_list (a_cons (q_slice (qv 0) o_none (o_some q_int)) a_nil)) (a_cons q_int (a_cons q_int (a_cons (qv 1) (a_cons q_int a_nil)))))))))), ?_⟩
    clear tk hp
    rintro ds L k x ⟨ns, rfl, h⟩
    obtain ⟨ms, e⟩ : ∃ ms : List Int, cutD (ns.map .int) none (some 63) = ms.map .int := ⟨(ns.drop (HT.sIx (ns.map D.int).length 0 none)).take (HT.sIx (ns.map D.int).length (ns.map D.int).length (some 63) - HT.sIx (ns.map D.int).length 0 none), by unfold cutD; rw [List.map_take, List.map_drop]⟩
    have key : ∀ (En : DEnds) (db : DS), (∀ (m : Int) (o : Option D), 0 ≤ m → m < 2147483497 → En.nx [some (.ro (ns.map .int)), some (.int m), o] L) →
        (∀ (E' : DEnds) (m v : Int), (∀ m' : Int, 0 ≤ m' → m' < 2147483497 → E'.nx [some (.ro (ns.map .int)), some (.int m'), some (.int v)] L) → db E' [some (.ro (ns.map .int)), some (.int m), some (.int v)] L) →
        ∀ (ms : List Int) (m : Int) (o : Option D), 0 ≤ m → m < 2147483497 → forD (dgName 2) db En (ms.map .int) [some (.ro (ns.map .int)), some (.int m), o] L := by
      intro En db hn hb ms
      induction ms with
      | nil => intro m o h0 h1; rw [List.map_nil, forD_nil]; exact hn m o h0 h1
      | cons v r ih => intro m o h0 h1; rw [List.map_cons, forD_cons]; exact hb _ m v fun m' q0 q1 => ih m' (some (.int v)) q0 q1
    walk_at "w"
    rw [e]
    refine key _ _ (fun m o h0 h1 => ?_) (fun E' m v hn => ?_) ms 12019 none (by decide) (by decide)
    · walk_at "w"
      rw [e]
      refine ⟨(by show 5 ≤ sizeLine; decide), fun p hp => ?_⟩
      exact h p ⟨ms, 0, 0, m, 0⟩ hp ⟨Int.le_refl 0, Int.natCast_nonneg _, Int.le_refl 0, h0, h1⟩
    · walk_at "w"
      refine ⟨.inl (.inr (by decide)), ?_⟩
      walk_at "w"
      refine ⟨(by show (2147483423 : Int) ≠ 0; decide), ?_⟩
      walk_at "w"
      refine ⟨(by show (2147483497 : Int) ≠ 0; decide), ?_⟩
      refine hn _ ?_ ?_
      · rw [Int.fmod_eq_emod_of_nonneg _ (by decide)]; exact Int.emod_nonneg _ (by decide)
      · rw [Int.fmod_eq_emod_of_nonneg _ (by decide)]; exact Int.emod_lt_of_pos _ (by decide)
  · rintro ds L k x ⟨ns, rfl, _⟩; rfl
theorem scLPull : FnScope ["_law_bag_here", "_law_many", "_law_cell", "_law_digit", "_law_seed"] ["_law_bag_here", "_law_many"] (defScope sLPull) := ⟨rfl, rfl, rfl, by decide +kernel, rfl, by decide +kernel, by decide +kernel⟩
theorem ok_LPull {f : Addr} {fd : FuncData} (Z : Zn w K mg cP) (F : Fun K "_law_pull" "_law_pull" sLPull f fd) : FnOk P w K mg base (L2.CX P w) 1 f fd ["_law_bag_here", "_law_many"] (spD K pullS) := by
  refine fn_ok F scLPull ?len (fun cdv A outer s H E hr => ?_)
  rotate_left
  · have tk := takes_of (X := cxOf (L2.CX P w) P w K mg base ["_law_bag_here", "_law_many", "_law_cell", "_law_digit", "_law_seed"] "_law_pull" (defScope sLPull) f cdv A outer s H E) (E := E) rfl rfl rfl rfl
    have hp := passes_of (X := cxOf (L2.CX P w) P w K mg base ["_law_bag_here", "_law_many", "_law_cell", "_law_digit", "_law_seed"] "_law_pull" (defScope sLPull) f cdv A outer s H E) rfl
    refine ⟨_, (ss_cons (s_store (q_op oq_add (q_ix (qv 0) q_int) q_int) (qv 0) q_int)
  (ss_cut (s_if (w_and (t_cmp (oq_eqU hr.units) (q_ix (qv 0) q_int) q_int) (w_and1 (t_cmp oq_lt (q_ix (qv 0) q_int) (q_callB cq_len (by rfl) Z.z_len bb_len (a_cons (q_ix (qv 0) q_int) a_nil))))).t (ss_cons (s_set 2 scLPull.nd (q_ix (q_ix (qv 0) q_int) (q_ix (qv 0) q_int)))
  (ss_cons (s_store (q_op oq_add (q_ix (qv 0) q_int) q_int) (qv 0) q_int)
  (ss_one (s_if (t_cmp oq_ge (qv 2) (q_op oq_pow q_int q_int)) (ss_one (s_store (qv 2) (qv 0) q_int)) (ss_one (s_store (q_op oq_mod (q_callTy cq_int (by rfl) Z.z_int bb_int (a_cons (q_op oq_add (q_op oq_add (q_op oq_mulU (q_ix (qv 0) q_int) q_int) (q_op oq_mulU (q_op oq_mod (q_callTy cq_int (by rfl) Z.z_int bb_int (a_cons (qv 2) a_nil)) q_int) q_int)) q_int) a_nil)) q_int) (qv 0) q_int)))))) ss_nil)
  (ss_cons (s_if (t_cmp oq_gt (q_ix (qv 0) q_int) q_int) (ss_cons (s_set 3 scLPull.nd (q_op oq_mod (q_callTy cq_int (by rfl) Z.z_int bb_int (a_cons (q_ix (qv 0) q_int) a_nil)) (qv 1)))
  (ss_cons (s_store (q_op oq_fdiv (q_ix (qv 0) q_int) (qv 1)) (qv 0) q_int)
  (ss_one (s_ret (qv 3))))) ss_nil)
  (ss_cons (s_set 4 scLPull.nd (q_callTy cq_int (by rfl) Z.z_int bb_int (a_cons (q_ix (qv 0) q_int) a_nil)))
  (ss_cons (s_store (q_op oq_mod (q_callTy cq_int (by rfl) Z.z_int bb_int (a_cons (q_op oq_add (q_op oq_add (q_op oq_add (q_op oq_pow (qv 4) q_int) (q_op oq_mulU (qv 4) q_int)) (q_op oq_mulU (q_ix (qv 0) q_int) q_int)) q_int) a_nil)) q_int) (qv 0) q_int)
  (ss_one (s_ret (q_op oq_mod (q_callTy cq_int (by rfl) Z.z_int bb_int (a_cons (q_op oq_add (q_op oq_fdiv (q_ix (qv 0) q_int) q_int) (q_op oq_mulU (q_op oq_mod (q_callTy cq_int (by rfl) Z.z_int bb_int (a_cons (q_ix (qv 0) q_int) a_nil)) q_int) q_int)) a_nil)) (qv 1))))))))), ?_⟩
    clear tk hp
    rintro ds L k x ⟨p, b, m, rfl, hl, ok, m0, m1, h⟩
    obtain ⟨cs, at_, rest, mix, cnt⟩ := b
    have k1 : ∀ d, (setL L p d).lookup p = some d := fun d => lookup_setL hl
    walk_at "w"
    rw [con_ptr hl]
    walk_at "w"
    rw [hl]
    walk_at "w"
    refine ⟨fun env' L' => ∃ (b' : Bag) (o : Option D), BagOk b' ∧ env' = [some (.ptr p), some (.int m), o, none, none] ∧ L' = setL L p (bagC b'), ?_, ?_⟩
    · have st : ∀ (L' : Led) (b' : Bag) (o : Option D), BagOk b' → L' = setL L p (bagC b') → ∃ (b'' : Bag) (o' : Option D), BagOk b'' ∧ [some (D.ptr p), some (D.int m), o, none, none] = [some (.ptr p), some (.int m), o', none, none] ∧ L' = setL L p (bagC b'') := fun L' b' o z e => ⟨b', o, z, rfl, e⟩
      walk_at "w"
      rw [con_ptr (k1 _)]
      walk_at "w"
      try dsimp only
      cases h2 : flEq (D.int rest) (D.int 0) with
      | false => exact st _ ⟨cs, at_, rest, mix, cnt + 1⟩ none ⟨ok.a0, ok.a1, ok.r0, ok.m0, ok.m1⟩ rfl
      | true =>
        walk_at "w"
        rw [con_ptr (k1 _)]
        walk_at "w"
        rw [con_ptr (k1 _)]
        walk_at "w"
        try dsimp only
        cases h3 : decide (at_ < ((cs.map D.int).length : Int)) with
        | false => exact st _ ⟨cs, at_, rest, mix, cnt + 1⟩ none ⟨ok.a0, ok.a1, ok.r0, ok.m0, ok.m1⟩ rfl
        | true =>
          have h3 := of_decide_eq_true h3
          rw [List.length_map] at h3
          have a0 : 0 ≤ at_ := ok.a0
          obtain ⟨n, rfl⟩ := Int.eq_ofNat_of_zero_le a0
          have hn : n < cs.length := by omega
          have hat : atI (cs.map D.int) (n : Int) = some (.int cs[n]) := atI_nat (by rw [List.getElem?_map, List.getElem?_eq_getElem hn]; rfl)
          walk_at "w"
          rw [con_ptr (k1 _)]
          walk_at "w"
          rw [con_ptr (k1 _)]
          walk_at "w"
          rw [show atI (List.map D.int (Bag.mk cs (n : Int) rest mix cnt).cells) (Bag.mk cs (n : Int) rest mix cnt).at_ = some (D.int cs[n]) from hat]
          walk_at "w"
          rw [con_ptr (k1 _)]
          walk_at "w"
          rw [k1]
          walk_at "w"
          rw [setL_setL]
          walk_at "w"
          refine ⟨⟨by decide, by decide, by decide⟩, ?_⟩
          walk_at "w"
          cases h4 : decide ((10 : Int) ^ (Int.toNat 18) ≤ cs[n]) with
          | true =>
            have h4 := of_decide_eq_true h4
            walk_at "w"
            rw [k1]
            walk_at "w"
            rw [setL_setL]
            refine st _ ⟨cs, n + 1, cs[n], mix, cnt + 1⟩ _ ⟨?_, ?_, ?_, ok.m0, ok.m1⟩ rfl
            · show (0 : Int) ≤ n + 1; omega
            · show (n : Int) + 1 ≤ cs.length; omega
            · show 0 ≤ cs[n]
              have : (0 : Int) ≤ 10 ^ (Int.toNat 18) := by decide +kernel
              omega
          | false =>
            walk_at "w"
            rw [con_ptr (k1 _)]
            walk_at "w"
            refine ⟨.inl (.inr (by decide)), ?_⟩
            walk_at "w"
            refine ⟨(by show (2147483423 : Int) ≠ 0; decide), ?_⟩
            walk_at "w"
            refine ⟨.inl (.inr (by decide)), ?_⟩
            walk_at "w"
            refine ⟨(by show (2147483489 : Int) ≠ 0; decide), ?_⟩
            walk_at "w"
            rw [k1]
            walk_at "w"
            rw [setL_setL]
            refine st _ ⟨cs, n + 1, rest, (mix * 39317 + cs[n].fmod 2147483423 * 691 + 43).fmod 2147483489, cnt + 1⟩ _ ⟨?_, ?_, ok.r0, ?_, ?_⟩ rfl
            · show (0 : Int) ≤ n + 1; omega
            · show (n : Int) + 1 ≤ cs.length; omega
            · show (0 : Int) ≤ Int.fmod _ _
              rw [Int.fmod_eq_emod_of_nonneg _ (by decide)]; exact Int.emod_nonneg _ (by decide)
            · show Int.fmod _ _ < (2147483497 : Int)
              rw [Int.fmod_eq_emod_of_nonneg _ (by decide)]
              have := Int.emod_lt_of_pos (mix * 39317 + cs[n].fmod 2147483423 * 691 + 43) (show (0 : Int) < 2147483489 by decide)
              omega
    · rintro env' L' ⟨⟨cs, at_, rest, mix, cnt⟩, o, ok', rfl, rfl⟩
      have r0 : 0 ≤ rest := ok'.r0
      have fm : ∀ z : Int, 0 ≤ z.fmod m ∧ z.fmod m < m := fun z => by
        rw [Int.fmod_eq_emod_of_nonneg _ (Int.le_of_lt m0)]
        exact ⟨Int.emod_nonneg _ (by omega), Int.emod_lt_of_pos _ m0⟩
      walk_at "w"
      rw [con_ptr (k1 _)]
      walk_at "w"
      try dsimp only
      cases h2 : decide (0 < rest) with
      | true =>
        walk_at "w"
        rw [con_ptr (k1 _)]
        walk_at "w"
        refine ⟨(by show m ≠ 0; omega), ?_⟩
        walk_at "w"
        rw [con_ptr (k1 _)]
        walk_at "w"
        refine ⟨⟨(by omega), m1⟩, ?_⟩
        walk_at "w"
        rw [k1]
        walk_at "w"
        rw [setL_setL]
        refine h _ ⟨cs, at_, rest.fdiv m, mix, cnt⟩ (fm rest).1 (fm rest).2 ⟨ok'.a0, ok'.a1, ?_, ok'.m0, ok'.m1⟩
        exact Int.fdiv_nonneg r0 (Int.le_of_lt m0)
      | false =>
        walk_at "w"
        rw [con_ptr (k1 _)]
        walk_at "w"
        have hm0 : 0 ≤ mix := ok'.m0
        have hm1 : mix < 2147483497 := ok'.m1
        refine ⟨⟨by decide, by decide, (by show mix.natAbs < 2 ^ 64; omega)⟩, ?_⟩
        walk_at "w"
        refine ⟨.inl (.inr (by decide)), ?_⟩
        walk_at "w"
        rw [con_ptr (k1 _)]
        walk_at "w"
        refine ⟨.inl (.inr (by decide)), ?_⟩
        walk_at "w"
        refine ⟨(by show (2147483489 : Int) ≠ 0; decide), ?_⟩
        walk_at "w"
        rw [k1]
        walk_at "w"
        rw [setL_setL]
        rw [con_ptr (k1 _)]
        walk_at "w"
        refine ⟨⟨by decide, by decide +kernel⟩, ?_⟩
        walk_at "w"
        rw [con_ptr (k1 _)]
        walk_at "w"
        refine ⟨(by show (7919 : Int) ≠ 0; decide), ?_⟩
        walk_at "w"
        refine ⟨.inl (.inr (by decide)), ?_⟩
        walk_at "w"
        refine ⟨(by show m ≠ 0; omega), ?_⟩
        refine h _ ⟨cs, at_, rest, (mix ^ Int.toNat 3 + mix * 27073 + cnt * 1299827 + 70001).fmod 2147483489, cnt⟩ (fm _).1 (fm _).2 ⟨ok'.a0, ok'.a1, ok'.r0, ?_, ?_⟩
        · show (0 : Int) ≤ Int.fmod _ _
          rw [Int.fmod_eq_emod_of_nonneg _ (by decide)]; exact Int.emod_nonneg _ (by decide)
        · show Int.fmod _ _ < (2147483497 : Int)
          rw [Int.fmod_eq_emod_of_nonneg _ (by decide)]
          have := Int.emod_lt_of_pos (mix ^ Int.toNat 3 + mix * 27073 + cnt * 1299827 + 70001) (show (0 : Int) < 2147483489 by decide)
          omega
  · rintro ds L k x ⟨p, b, m, rfl, _⟩; rfl
theorem scLOf : FnScope ["_law_bag_here", "_law_some"] ["_law_bag_here", "_law_some"] (defScope sLOf) := ⟨rfl, rfl, rfl, by decide +kernel, rfl, by decide +kernel, by decide +kernel⟩
theorem ok_LOf {f : Addr} {fd : FuncData} (Z : Zn w K mg cP) (F : Fun K "_law_of" "_law_of" sLOf f fd) (CLPull : Cal P w K mg base 1 "_law_pull" ["_law_bag_here", "_law_many"] [] pullS) : FnOk P w K mg base (L2.CX P w) 2 f fd ["_law_bag_here", "_law_some"] (spD K ofA) := by
  refine fn_ok F scLOf ?len (fun cdv A outer s H E hr => ?_)
  rotate_left
  · have tk := takes_of (X := cxOf (L2.CX P w) P w K mg base ["_law_bag_here", "_law_some"] "_law_of" (defScope sLOf) f cdv A outer s H E) (E := E) rfl rfl rfl rfl
    have hp := passes_of (X := cxOf (L2.CX P w) P w K mg base ["_law_bag_here", "_law_some"] "_law_of" (defScope sLOf) f cdv A outer s H E) rfl
    refine ⟨_, (ss_one (s_ret (q_ixA (qv 1) (q_cal CLPull (by first | decide | exact Nat.le_refl _ | omega) hr tk (by rfl) (a_cons (qv 0) (a_cons (q_callB cq_len (by rfl) Z.z_len bb_len (a_cons (qv 1) a_nil)) a_nil)))))), ?_⟩
    clear tk hp
    rintro ds L k x ⟨p, b, s, xs, rfl, hs, hl, ok, x0, x1, h⟩
    have lg : ∀ n : Nat, 0 < n → n < 1000 → ((n : Int)).natAbs.log2 < 9000 := fun n n0 n1 => by
      rw [Int.natAbs_natCast]
      have : n.log2 < 10 := by
        rw [Nat.log2_lt (by omega)]
        omega
      omega
    cases s <;> first | cases hs; done | skip
    · rename_i z
      cases hs
      rw [sgD, List.length_map] at x0 x1
      have x0 : 0 < z.length := x0
      have x1 : z.length < 1000 := x1
      have zs : z.length ≤ sizeLine := Nat.le_trans (Nat.le_of_lt x1) (by decide)
      walk_at "w"
      refine ⟨zs, ?_⟩
      walk_at "w"
      refine ⟨p, b, z.length, rfl, hl, ok, by omega, lg _ x0 x1, fun r b' r0 r1 ok' => ?_⟩
      obtain ⟨n, rfl⟩ := Int.eq_ofNat_of_zero_le r0
      have hn : n < z.cps.toList.length := by show n < z.length; omega
      walk_at "w"
      refine ⟨zs, ?_⟩
      rw [show atI z.cps.toList (n : Int) = some z.cps.toList[n] from atI_nat (List.getElem?_eq_getElem hn)]
      exact h _ b' (List.mem_map.mpr ⟨_, List.getElem_mem hn, rfl⟩) ok'
    · rename_i l
      have e : l = xs := by injection hs
      subst e
      walk_at "w"
      refine ⟨p, b, l.length, rfl, hl, ok, by omega, lg _ x0 x1, fun r b' r0 r1 ok' => ?_⟩
      obtain ⟨n, rfl⟩ := Int.eq_ofNat_of_zero_le r0
      have hn : n < l.length := by omega
      walk_at "w"
      rw [show atI l (n : Int) = some l[n] from atI_nat (List.getElem?_eq_getElem hn)]
      exact h _ b' (List.getElem_mem hn) ok'
  · rintro ds L k x ⟨p, b, s, xs, rfl, _⟩; rfl
theorem scLSame : FnScope ["_law_found", "_law_due", "_law_one", "_law_two"] ["_law_found", "_law_due"] (defScope sLSame) := ⟨rfl, rfl, rfl, by decide +kernel, rfl, by decide +kernel, by decide +kernel⟩
theorem ok_LSame {f : Addr} {fd : FuncData} {n : Nat} (Z : Zn w K mg cP) (F : Fun K "_law_same" "_law_same" sLSame f fd) (CLSame : Cal P w K mg base n "_law_same" ["_law_found", "_law_due"] [] (sameS n)) : FnOk P w K mg base (L2.CX P w) (n + 1) f fd ["_law_found", "_law_due"] (spD K (sameS (n + 1))) := by
  refine fn_ok F scLSame ?len (fun cdv A outer s H E hr => ?_)
  rotate_left
  · have tk := takes_of (X := cxOf (L2.CX P w) P w K mg base ["_law_found", "_law_due", "_law_one", "_law_two"] "_law_same" (defScope sLSame) f cdv A outer s H E) (E := E) rfl rfl rfl rfl
    have hp := passes_of (X := cxOf (L2.CX P w) P w K mg base ["_law_found", "_law_due", "_law_one", "_law_two"] "_law_same" (defScope sLSame) f cdv A outer s H E) rfl
    refine ⟨_, (ss_cons (s_if (t_val (q_isi2 .lst .tup (qv 1) (by rfl) Z.z_isinstance (by rfl) Z.z_list bb_list (by rfl) Z.z_tuple bb_tuple)) (ss_cons (s_if (w_or (t_cmp (oq_neU hr.units) (q_isi .lst (qv 0) (by rfl) Z.z_isinstance (by rfl) Z.z_list bb_list) (q_isi .lst (qv 1) (by rfl) Z.z_isinstance (by rfl) Z.z_list bb_list)) (w_or1 (t_cmp (oq_neU hr.units) (q_isi .tup (qv 0) (by rfl) Z.z_isinstance (by rfl) Z.z_tuple bb_tuple) (q_isi .tup (qv 1) (by rfl) Z.z_isinstance (by rfl) Z.z_tuple bb_tuple)))).t (ss_one (s_ret q_bl)) ss_nil)
  (ss_one (s_ret (q_and (q_cmp (oq_eqU hr.units) (q_callB cq_len (by rfl) Z.z_len bb_len (a_cons (qv 0) a_nil)) (q_callB cq_len (by rfl) Z.z_len bb_len (a_cons (qv 1) a_nil))) (q_one (q_callB (cq_all rfl) (by rfl) Z.z_all bb_all (a_cons (q_lc rfl scLSame.nd (i_zip (by rfl) Z.z_zip (a_cons (qv 0) (a_cons (qv 1) a_nil))) (blkOk_by (own := [("_law_one", 2), ("_law_two", 3)]) (N := ["_law_found", "_law_due", "_law_one", "_law_two"]) (sc := (defScope sLSame)) (by decide +kernel)) (fun _ _ _ _ _ => (g_tup (n := 2) rfl (gs_cons (g_name 2 scLSame.nd) (gs_cons (g_name 3 scLSame.nd) gs_nil)))) (fun _ _ _ _ _ => ts_nil) (fun _ _ _ _ _ => (q_cal CLSame (by first | decide | exact Nat.le_refl _ | omega) hr takes0 (by rfl) (a_cons (qv 2) (a_cons (qv 3) a_nil))))) a_nil))))))) ss_nil)
  (ss_cons (s_if (w_or (t_cmp oq_isN (qv 1) q_non) (w_or1 (t_cmp oq_isN (qv 0) q_non))).t (ss_one (s_ret (q_and (q_cmp oq_isN (qv 1) q_non) (q_one (q_cmp oq_isN (qv 0) q_non))))) ss_nil)
  (ss_cons (s_if (w_or (t_cmp (oq_neU hr.units) (q_isi .bl (qv 0) (by rfl) Z.z_isinstance (by rfl) Z.z_bool bb_bool) (q_isi .bl (qv 1) (by rfl) Z.z_isinstance (by rfl) Z.z_bool bb_bool)) (w_or1 (t_cmp (oq_neU hr.units) (q_isi .int (qv 0) (by rfl) Z.z_isinstance (by rfl) Z.z_int bb_int) (q_isi .int (qv 1) (by rfl) Z.z_isinstance (by rfl) Z.z_int bb_int)))).t (ss_one (s_ret q_bl)) ss_nil)
  (ss_one (s_ret (q_and (q_cmp (oq_eqU hr.units) (q_isi .str (qv 0) (by rfl) Z.z_isinstance (by rfl) Z.z_str bb_str) (q_isi .str (qv 1) (by rfl) Z.z_isinstance (by rfl) Z.z_str bb_str)) (q_one (q_cmp (oq_eqU hr.units) (qv 0) (qv 1))))))))), ?_⟩
    clear tk hp
    rintro ds L k x ⟨a, b, rfl, oa, ob, hd, h⟩
    have seq : ∀ (kk : DK) (p : Addr) (e0 : DEnv) (e1 : D → D → DEnv), ¬ inL L p → ∀ (dg : DG) (de : DE), (∀ (x y : D) (L' : Led) (g : DEnv → Prop), g (e1 x y) → dg (.tup [x, y]) e0 L' g) → (∀ (x y : D) (L' : Led) (g : DK) (gx : DX), okP x = true → okP y = true → dep y < n → g (.bl (sameD x y)) L' → de (e1 x y) L' g gx) →
        ∀ (xs ys acc : List D), xs.length = ys.length → okPs xs = true → okPs ys = true → deps ys < n → acc.length + xs.length < 200000 → (∀ bs : List Bool, bs.all id = sameL xs ys → kk (.lst (acc ++ bs.map .bl)) L) → lcD dg dYes de e0 p kk (zipD xs ys) acc ((p, .lst acc) :: L) := by
      intro kk p e0 e1 hp dg de hg he xs
      induction xs with
      | nil =>
        intro ys acc hl _ _ _ _ hk
        cases ys with
        | cons _ _ => simp at hl
        | nil =>
          show lcD _ _ _ _ _ _ [] _ _
          rw [lcD_nil, remL_top hp]
          have := hk [] (by unfold sameL; rfl)
          rw [List.map_nil, List.append_nil] at this
          exact this
      | cons x r ih =>
        intro ys acc hl o1 o2 d2 ha hk
        cases ys with
        | nil => simp at hl
        | cons y s =>
          show lcD _ _ _ _ _ _ (.tup [x, y] :: zipD r s) _ _
          rw [lcD_cons]
          unfold okPs at o1 o2
          rw [Bool.and_eq_true] at o1 o2
          unfold deps at d2
          refine hg x y _ _ ?_
          show de (e1 x y) _ _ _
          refine he x y _ _ _ o1.1 o2.1 (by omega) ⟨lookup_top, ?_, ?_⟩
          · have z : (200000 : Nat) ≤ sizeLine := by decide
            omega
          · rw [setL_top hp]
            refine ih s (acc ++ [.bl (sameD x y)]) (by simpa using hl) o1.2 o2.2 (by omega) (by simp at ha ⊢; omega) fun bs hb => ?_
            have := hk (sameD x y :: bs) (by unfold sameL; rw [List.all_cons, hb]; rfl)
            rw [List.map_cons] at this
            rw [List.append_assoc]
            exact this
    have both : ∀ (xs ys : List D) (kk : DK) (p : Addr) (e0 : DEnv), xs.length = ys.length → okPs xs = true → okPs ys = true → deps ys < n → xs.length < 100000 → (∀ bs : List Bool, bs.all id = sameL xs ys → kk (.lst (bs.map .bl)) L) → ¬ inL L p → ∀ u v, e0 = [u, v, none, none] → lcD (dgTup 2 (dgCons (dgName 2) (dgCons (dgName 3) dgNil))) dYes (dCall (sameS n) [] (dCons (dVar 2) (dCons (dVar 3) dNil))) e0 p kk (zipD xs ys) [] ((p, .lst []) :: L) := by
      intro xs ys kk p e0 hl o1 o2 d2 hz hk hp u v he0
      subst he0
      refine seq kk p _ (fun x y => [u, v, some x, some y]) hp _ _ (fun x y L' g hg => ⟨rfl, hg⟩) (fun x y L' g gx o1 o2 d hg => ?_) xs ys [] hl o1 o2 d2 (by simpa using (by omega : xs.length < 200000)) fun bs hb => hk bs hb
      exact ⟨x, y, rfl, o1, o2, d, hg⟩
    have fin : ∀ (xs ys : List D), okP (.lst xs) = true → okP (.lst ys) = true → deps ys + 1 < n + 1 → sameD a b = sameL xs ys → (decide ((xs.length : Int) = (ys.length : Int)) = false → k (.bl false) L) ∧ (decide ((xs.length : Int) = (ys.length : Int)) = true → xs.length = ys.length ∧ okPs xs = true ∧ okPs ys = true ∧ deps ys < n ∧ xs.length < 100000) := by
      intro xs ys o1 o2 d2 e
      refine ⟨fun z => ?_, fun z => ?_⟩
      · have := of_decide_eq_false z
        rw [e, sameL_len (by omega)] at h
        exact h
      · have := of_decide_eq_true z
        unfold okP at o1 o2
        rw [Bool.and_eq_true] at o1 o2
        exact ⟨by omega, o1.2, o2.2, by omega, of_decide_eq_true o1.1⟩
    have all_ : ∀ (bs : List Bool) (r : Bool), bs.all id = r → k (.bl r) L → gAll [.lst (bs.map .bl)] L fun d => k d L := by
      intro bs r e hk
      show (match blsOf (bs.map .bl) with | some bs => k (.bl (bs.all id)) L | none => False)
      rw [blsOf_map]
      show k (.bl (bs.all id)) L
      rw [e]; exact hk
    cases b with
    | lst ys =>
      cases a with
      | lst xs =>
        have e : sameD (.lst xs) (.lst ys) = sameL xs ys := by unfold sameD; rfl
        rw [e] at h
        unfold dep at hd
        obtain ⟨f1, f2⟩ := fin xs ys oa ob hd e
        walk_at "w"
        cases hh : flEq (D.int (xs.length : Int)) (D.int (ys.length : Int)) with
        | false => exact f1 hh
        | true =>
          obtain ⟨q1, q2, q3, q4, q5⟩ := f2 hh
          walk_at "w"
          intro p hp
          exact both xs ys _ p _ q1 q2 q3 q4 q5 (fun bs hb => all_ bs _ hb h) hp _ _ rfl
      | _ => first | (simp [okP] at oa; done) | (unfold sameD at h; exact h)
    | tup ys =>
      cases a with
      | tup xs =>
        have e : sameD (.tup xs) (.tup ys) = sameL xs ys := by unfold sameD; rfl
        rw [e] at h
        unfold dep at hd
        obtain ⟨f1, f2⟩ := fin xs ys oa ob hd e
        walk_at "w"
        cases hh : flEq (D.int (xs.length : Int)) (D.int (ys.length : Int)) with
        | false => exact f1 hh
        | true =>
          obtain ⟨q1, q2, q3, q4, q5⟩ := f2 hh
          walk_at "w"
          intro p hp
          exact both xs ys _ p _ q1 q2 q3 q4 q5 (fun bs hb => all_ bs _ hb h) hp _ _ rfl
      | _ => first | (simp [okP] at oa; done) | (unfold sameD at h; exact h)
    | non => cases a <;> first | (simp [okP] at oa; done) | (unfold sameD at h; exact h)
    | bl v => cases a <;> first | (simp [okP] at oa; done) | (unfold sameD at h; exact h)
    | int v => cases a <;> first | (simp [okP] at oa; done) | (unfold sameD at h; exact h)
    | str v => cases a <;> first | (simp [okP] at oa; done) | (unfold sameD at h; exact h)
    | _ => simp [okP] at ob
  · rintro ds L k x ⟨a, b, rfl, _⟩; rfl
theorem scLGathered : FnScope ["_law_terms_z", "_law_cells", "_law_i", "_law_j", "_law_worth_z", "_law_key"] ["_law_terms_z"] (defScope sLGathered) := ⟨rfl, rfl, rfl, by decide +kernel, rfl, by decide +kernel, by decide +kernel⟩
theorem ok_LGathered {f : Addr} {fd : FuncData} (Z : Zn w K mg cP) (F : Fun K "_law_gathered" "_law_gathered" sLGathered f fd) : FnOk P w K mg base (L2.CX P w) 1 f fd ["_law_terms_z"] (spD K gathS) := by
  refine fn_ok F scLGathered ?len (fun cdv A outer s H E hr => ?_)
  rotate_left
  · have tk := takes_of (X := cxOf (L2.CX P w) P w K mg base ["_law_terms_z", "_law_cells", "_law_i", "_law_j", "_law_worth_z", "_law_key"] "_law_gathered" (defScope sLGathered) f cdv A outer s H E) (E := E) rfl rfl rfl rfl
    have hp := passes_of (X := cxOf (L2.CX P w) P w K mg base ["_law_terms_z", "_law_cells", "_law_i", "_law_j", "_law_worth_z", "_law_key"] "_law_gathered" (defScope sLGathered) f cdv A outer s H E) rfl
    refine ⟨_, (ss_cons (s_set 1 scLGathered.nd q_dnewT)
  (ss_cons (s_sealT 1 (s_for hp rfl (i_list (qv 0)) (g_tup (n := 3) rfl (gs_cons (g_name 2 scLGathered.nd) (gs_cons (g_name 3 scLGathered.nd) (gs_cons (g_name 4 scLGathered.nd) gs_nil)))) (ss_one (s_storeT hr.units (q_op oq_add (q_getT hr.units (qv 1) (q_kt (a_cons (qv 2) (a_cons (qv 3) a_nil))) q_int) (qv 4)) (qv 1) (q_kt (a_cons (qv 2) (a_cons (qv 3) a_nil)))))))
  (ss_one (s_ret (q_lc rfl scLGathered.nd (i_list (q_callB cq_sortP (by rfl) Z.z_sorted bb_sorted (a_cons (q_callTy (cq_listT rfl) (by rfl) Z.z_list bb_list (a_cons (qv 1) a_nil)) a_nil))) (blkOk_by (own := [("_law_key", 5)]) (N := ["_law_terms_z", "_law_cells", "_law_i", "_law_j", "_law_worth_z", "_law_key"]) (sc := (defScope sLGathered)) (by decide +kernel)) (fun _ _ _ _ _ => (g_name 5 scLGathered.nd)) (fun _ _ _ _ _ => (ts_one (t_cmp (oq_neU hr.units) (q_ixT hr.units (qv 1) (qv 5)) q_int))) (fun _ _ _ _ _ => (q_tup (a_cons (q_ix (qv 5) q_int) (a_cons (q_ix (qv 5) q_int) (a_cons (q_ixT hr.units (qv 1) (qv 5)) a_nil)))))))))), ?_⟩
    clear tk hp
    rintro ds L k x ⟨ts, rfl, hn, h⟩
    walk_at "w"
    intro q hq
    walk_at "w"
    refine forD_rec (fun r env L2 => ∃ (us es : List T3) (o2 o3 o4 : Option D), r = us.map tD ∧ env = [some (.lst (ts.map tD)), some (.ptr q), o2, o3, o4, none] ∧ L2 = (q, dtD es) :: L ∧ us.foldl add1 es = gat ts ∧ es.length + us.length ≤ ts.length) ?step ?fin (ts.map tD) _ _ ⟨ts, [], none, none, none, rfl, rfl, rfl, rfl, by show 0 + _ ≤ _; omega⟩
    case fin =>
      rintro env L2 ⟨us, es, o2, o3, o4, hr, rfl, rfl, e, hz⟩
      cases us with
      | cons _ _ => cases hr
      | nil =>
        have e : es = gat ts := e
        subst e
        walk_at "w"
        rw [lookup_top]
        walk_at "w"
        rw [remL_top hq]
        rw [keys_pairs, pairsT_map]
        intro qs hp ha
        walk_at "w"
        intro q2 hq2
        refine lcD_pick pairT (fun q => tD (q.1, q.2, val (gat ts) q)) (fun q => decide (val (gat ts) q ≠ 0)) hq2 qs [] ?_ (fun q0 hq0 acc T F KK hT hF => ?_) ?_
        · have := hp.length_eq
          rw [List.length_map] at this
          have := gat_len ts
          show 0 + _ ≤ _
          omega
        · have e0 : lookG (ksD (gat ts)) (vsD (gat ts)) [Sum.inl q0.1, Sum.inl q0.2] = some (.int (val (gat ts) q0)) := look_val (hp.mem_iff.mp hq0)
          walk_at "w"
          rw [e0]
          walk_at "w"
          by_cases z : val (gat ts) q0 = 0
          · rw [show flEq (D.int (val (gat ts) q0)) (D.int 0) = true from decide_eq_true z]
            exact hF (by simp [z])
          · rw [show flEq (D.int (val (gat ts) q0)) (D.int 0) = false from decide_eq_false z]
            walk_at "w"
            rw [e0]
            walk_at "w"
            exact ⟨sz_ok rfl, hT (by simp [z])⟩
        · rw [List.nil_append]
          have := h qs hp ha
          unfold sel at this
          rw [List.map_map] at this
          exact this
    case step =>
      rintro E' d r env L2 _ _ _ _ ⟨us, es, o2, o3, o4, hr, rfl, rfl, e, hz⟩ hnx
      cases us with
      | nil => cases hr
      | cons u us =>
        cases hr
        walk_at "w"
        refine ⟨rfl, ?_⟩
        walk_at "w"
        rw [con_ptr lookup_top]
        walk_at "w"
        refine ⟨trivial, ?_⟩
        walk_at "w"
        refine ⟨sz_ok rfl, ?_⟩
        walk_at "w"
        rw [con_ptr lookup_top]
        walk_at "w"
        have e0 : (lookG (ksD es) (vsD es) [Sum.inl u.1, Sum.inl u.2.1]).getD (D.int 0) = .int ((look es (ky u)).getD 0) := by
          rw [show ([Sum.inl u.1, Sum.inl u.2.1] : List Key) = kk (ky u) from rfl, look_d]
          cases look es (ky u) <;> rfl
        rw [e0]
        walk_at "w"
        refine ⟨sz_ok rfl, ?_⟩
        walk_at "w"
        rw [lookup_top]
        walk_at "w"
        rw [List.length_cons] at hz
        have hlt : (ksD es).length < sizeLine := by
          rw [List.length_map]
          exact Nat.lt_of_lt_of_le (show es.length < 100000 by omega) (by decide)
        refine ⟨hlt, ?_⟩
        rw [setL_top hq]
        refine hnx _ _ ⟨us, add1 es u, _, _, _, rfl, rfl, ?_, e, ?_⟩
        · show (q, D.dt (putGk (kk (ky u)) (ksD es)) (putGv (kk (ky u)) (D.int ((look es (ky u)).getD 0 + u.2.2)) (ksD es) (vsD es))) :: L = _
          rw [putk_d es (ky u) ((look es (ky u)).getD 0 + u.2.2), putv_d]
          rfl
        · have : (add1 es u).length ≤ es.length + 1 := put_len es (ky u) ((look es (ky u)).getD 0 + u.2.2)
          omega
  · rintro ds L k x ⟨ts, rfl, _⟩; rfl
theorem scLLetterText : FnScope ["_law_letter", "_law_power"] ["_law_letter", "_law_power"] (defScope sLLetterText) := ⟨rfl, rfl, rfl, by decide +kernel, rfl, by decide +kernel, by decide +kernel⟩
theorem ok_LLetterText {f : Addr} {fd : FuncData} (Z : Zn w K mg cP) (F : Fun K "_law_letter_text" "_law_letter_text" sLLetterText f fd) : FnOk P w K mg base (L2.CX P w) 1 f fd ["_law_letter", "_law_power"] (spD K letLS) := by
  refine fn_ok F scLLetterText ?len (fun cdv A outer s H E hr => ?_)
  rotate_left
  · have tk := takes_of (X := cxOf (L2.CX P w) P w K mg base ["_law_letter", "_law_power"] "_law_letter_text" (defScope sLLetterText) f cdv A outer s H E) (E := E) rfl rfl rfl rfl
    have hp := passes_of (X := cxOf (L2.CX P w) P w K mg base ["_law_letter", "_law_power"] "_law_letter_text" (defScope sLLetterText) f cdv A outer s H E) rfl
    refine ⟨_, (ss_one (s_ret (q_if (t_cmp (oq_eqU hr.units) (qv 1) q_int) (q_lst a_nil) (q_if (t_cmp (oq_eqU hr.units) (qv 1) q_int) (q_lst (a_cons (qv 0) a_nil)) (q_lst (a_cons (q_op oq_add (q_op oq_add (qv 0) q_str) (q_callTy cq_str (by rfl) Z.z_str bb_str (a_cons (qv 1) a_nil))) a_nil)))))), ?_⟩
    clear tk hp
    rintro ds L k x ⟨l, p, rfl, hl, h0, h1, h⟩
    have p0 : -(10 : Int) ^ 30 < p := Int.lt_of_lt_of_le (show -(10 : Int) ^ 30 < 0 by decide +kernel) h0
    have p1 : p < (10 : Int) ^ 30 := Int.lt_of_le_of_lt h1 (by decide +kernel)
    have hn : (Str.ofString (toString p)).length ≤ 31 := nS_len p0 p1
    unfold letT at h
    walk_at "w"
    by_cases e0 : p = 0
    · rw [if_pos e0] at h
      rw [show flEq (D.int p) (D.int 0) = true from decide_eq_true e0]
      walk_at "w"
      exact ⟨sz_ok rfl, h⟩
    · rw [if_neg e0] at h
      rw [show flEq (D.int p) (D.int 0) = false from decide_eq_false e0]
      walk_at "w"
      by_cases e1 : p = 1
      · rw [if_pos e1] at h
        rw [show flEq (D.int p) (D.int 1) = true from decide_eq_true e1]
        walk_at "w"
        exact ⟨sz_ok rfl, h⟩
      · rw [if_neg e1] at h
        rw [show flEq (D.int p) (D.int 1) = false from decide_eq_false e1]
        walk_at "w"
        have q6 : (Str.ofString "^").length = 1 := by decide +kernel
        refine ⟨Nat.le_trans (show _ ≤ 100000 by omega) (by decide), ?_⟩
        walk_at "w"
        refine ⟨by have : p.natAbs.log2 < 100 := log_small (by omega); omega, ?_⟩
        walk_at "w"
        refine ⟨Nat.le_trans (show _ ≤ 100000 by rw [app_len]; omega) (by decide), ?_⟩
        walk_at "w"
        exact ⟨sz_ok rfl, h⟩
  · rintro ds L k x ⟨l, p, rfl, _⟩; rfl
theorem scLPolyText : FnScope ["_law_terms_z", "_law_found", "_law_i", "_law_j", "_law_worth_z", "_law_words", "_law_sign_z"] ["_law_terms_z"] (defScope sLPolyText) := ⟨rfl, rfl, rfl, by decide +kernel, rfl, by decide +kernel, by decide +kernel⟩
theorem ok_LPolyText {f : Addr} {fd : FuncData} (Z : Zn w K mg cP) (F : Fun K "_law_poly_text" "_law_poly_text" sLPolyText f fd) (CLLetterText : Cal P w K mg base 1 "_law_letter_text" ["_law_letter", "_law_power"] [] letLS) : FnOk P w K mg base (L2.CX P w) 2 f fd ["_law_terms_z"] (spD K polyTS) := by
  refine fn_ok F scLPolyText ?len (fun cdv A outer s H E hr => ?_)
  rotate_left
  · have tk := takes_of (X := cxOf (L2.CX P w) P w K mg base ["_law_terms_z", "_law_found", "_law_i", "_law_j", "_law_worth_z", "_law_words", "_law_sign_z"] "_law_poly_text" (defScope sLPolyText) f cdv A outer s H E) (E := E) rfl rfl rfl rfl
    have hp := passes_of (X := cxOf (L2.CX P w) P w K mg base ["_law_terms_z", "_law_found", "_law_i", "_law_j", "_law_worth_z", "_law_words", "_law_sign_z"] "_law_poly_text" (defScope sLPolyText) f cdv A outer s H E) rfl
    refine ⟨_, (ss_cons (s_set 1 scLPolyText.nd q_str)
  (ss_cons (s_for hp rfl (i_list (q_revL (qv 0))) (g_tup (n := 3) rfl (gs_cons (g_name 2 scLPolyText.nd) (gs_cons (g_name 3 scLPolyText.nd) (gs_cons (g_name 4 scLPolyText.nd) gs_nil)))) (ss_cons (s_set 5 scLPolyText.nd (q_op oq_add (q_cal CLLetterText (by first | decide | exact Nat.le_refl _ | omega) hr tk (by rfl) (a_cons q_str (a_cons (qv 2) a_nil))) (q_cal CLLetterText (by first | decide | exact Nat.le_refl _ | omega) hr tk (by rfl) (a_cons q_str (a_cons (qv 3) a_nil)))))
  (ss_cut (s_if (w_or (t_cmp (oq_eqE hr.units) (qv 5) (q_lst a_nil)) (w_or1 (t_cmp (oq_neU hr.units) (q_callB cq_abs (by rfl) Z.z_abs bb_abs (a_cons (qv 4) a_nil)) q_int))).t (ss_one (s_set 5 scLPolyText.nd (q_op oq_add (q_lst (a_cons (q_callTy cq_str (by rfl) Z.z_str bb_str (a_cons (q_callB cq_abs (by rfl) Z.z_abs bb_abs (a_cons (qv 4) a_nil)) a_nil)) a_nil)) (qv 5)))) ss_nil)
  (ss_cut (s_set 6 scLPolyText.nd (q_if (t_cmp oq_lt (qv 4) q_int) q_str q_str))
  (ss_cut (s_if (t_cmp (oq_neU hr.units) (qv 1) q_str) (ss_one (s_set 6 scLPolyText.nd (q_if (t_cmp oq_lt (qv 4) q_int) q_str q_str))) ss_nil)
  (ss_one (s_set 1 scLPolyText.nd (q_op oq_add (q_op oq_add (qv 1) (qv 6)) (q_join q_str (qv 5))))))))))
  (ss_one (s_ret (q_if (t_cmp (oq_neU hr.units) (qv 1) q_str) (qv 1) q_str))))), ?_⟩
    clear tk hp
    rintro ds L k x ⟨es, rfl, o, h⟩
    have few := o.few
    walk_at "w"
    rw [← List.map_reverse]
    refine forD_rec (fun r env L2 => ∃ (us : List T3) (f : Str) (o2 o3 o4 o5 o6 : Option D), r = us.map tD ∧ env = [some (.lst (es.map tD)), some (.str f), o2, o3, o4, o5, o6] ∧ L2 = L ∧ us.foldl stepT f = foldT es ∧ f.length + us.length * 156 ≤ 156000 ∧ (∀ t ∈ us, t ∈ es)) ?step ?fin _ _ _ ⟨es.reverse, "", none, none, none, none, none, rfl, rfl, rfl, rfl, ?_, fun t ht => List.mem_reverse.mp ht⟩
    case fin =>
      rintro env L2 ⟨us, f, o2, o3, o4, o5, o6, hr, rfl, rfl, e, hz, hm⟩
      cases us with
      | cons _ _ => cases hr
      | nil =>
        have e : f = foldT es := e
        subst e
        unfold textT at h
        walk_at "w"
        by_cases z : foldT es = ""
        · rw [if_pos z] at h
          rw [show flEq (D.str (foldT es)) (D.str "") = true from decide_eq_true z]
          exact h
        · rw [if_neg z] at h
          rw [show flEq (D.str (foldT es)) (D.str "") = false from decide_eq_false z]
          exact h
    case step =>
      rintro E' d r env L2 _ _ _ _ ⟨us, f, o2, o3, o4, o5, o6, hr, rfl, rfl, e, hz, hm⟩ hnx
      cases us with
      | nil => cases hr
      | cons t us =>
        cases hr
        have ho := o.all t (hm t List.mem_cons_self)
        have hab := abs_ok ho
        have lg := log_small (termok_nat hab)
        have wf := words_few t.1 t.2.1
        rw [List.length_cons] at hz
        walk_at "w"
        refine ⟨rfl, ?_⟩
        walk_at "w"
        refine ⟨"x", t.1, rfl, x_len, ho.i0, ho.i1, ?_⟩
        walk_at "w"
        refine ⟨"y", t.2.1, rfl, y_len, ho.j0, ho.j1, ?_⟩
        walk_at "w"
        have ew : (letT "x" t.1).map D.str ++ (letT "y" t.2.1).map D.str = (wordsT t.1 t.2.1).map D.str := by
          unfold PO.wordsT
          rw [List.map_append]
        refine ⟨?_, ?_⟩
        · rw [List.length_map, List.length_map]
          have := letT_few "x" t.1
          have := letT_few "y" t.2.1
          exact Nat.le_trans (show _ ≤ 2 by omega) (by decide)
        rw [ew]
        refine ⟨fun env' L' => env' = [some (.lst (es.map tD)), some (.str f), some (.int t.1), some (.int t.2.1), some (.int t.2.2), some (.lst ((termW t.1 t.2.1 (absI t.2.2)).map D.str)), o6] ∧ L' = L2, ?_, ?_⟩
        · have big : wordsT t.1 t.2.1 = [] ∨ absI t.2.2 ≠ 1 → D.lst ([D.str (nS (absI t.2.2))] ++ (wordsT t.1 t.2.1).map D.str) = .lst ((termW t.1 t.2.1 (absI t.2.2)).map D.str) := fun c => by
            unfold termW
            rw [if_pos c]
            rfl
          walk_at "w"
          refine ⟨sz_ok rfl, ?_⟩
          walk_at "w"
          cases hw : wordsT t.1 t.2.1 with
          | nil =>
            rw [hw] at big
            walk_at "w"
            refine ⟨?_, ?_⟩
            · show (absI t.2.2).natAbs.log2 < 1920
              omega
            walk_at "w"
            refine ⟨sz_ok rfl, ?_⟩
            walk_at "w"
            refine ⟨sz_ok rfl, ?_⟩
            walk_at "w"
            refine ⟨?_, rfl⟩
            rw [← big (.inl rfl)]
            rfl
          | cons a r =>
            rw [hw] at big wf
            walk_at "w"
            by_cases z : absI t.2.2 = 1
            · rw [show flEq (D.int (if t.2.2 < 0 then -t.2.2 else t.2.2)) (D.int 1) = true from decide_eq_true z]
              walk_at "w"
              refine ⟨?_, rfl⟩
              unfold termW
              rw [hw, if_neg (by simp [z])]
              rfl
            · rw [show flEq (D.int (if t.2.2 < 0 then -t.2.2 else t.2.2)) (D.int 1) = false from decide_eq_false z]
              walk_at "w"
              refine ⟨?_, ?_⟩
              · show (absI t.2.2).natAbs.log2 < 1920
                omega
              walk_at "w"
              refine ⟨sz_ok rfl, ?_⟩
              walk_at "w"
              refine ⟨?_, ?_⟩
              · have : (List.map D.str (a :: r)).length ≤ 2 := by rw [List.length_map]; exact wf
                exact Nat.le_trans (Nat.add_le_add (Nat.le_refl 1) this) (by decide)
              walk_at "w"
              refine ⟨?_, rfl⟩
              rw [← big (.inr z)]
              rfl
        · rintro env' L' ⟨rfl, rfl⟩
          refine ⟨fun env' L2 => env' = [some (.lst (es.map tD)), some (.str f), some (.int t.1), some (.int t.2.1), some (.int t.2.2), some (.lst ((termW t.1 t.2.1 (absI t.2.2)).map D.str)), some (.str (sgT true t.2.2))] ∧ L2 = L', ?_, ?_⟩
          · walk_at "w"
            by_cases z : t.2.2 < 0
            · rw [show decide (t.2.2 < 0) = true from decide_eq_true z]
              refine ⟨?_, rfl⟩
              unfold sgT
              rw [if_pos rfl, if_pos z]
              rfl
            · rw [show decide (t.2.2 < 0) = false from decide_eq_false z]
              refine ⟨?_, rfl⟩
              unfold sgT
              rw [if_pos rfl, if_neg z]
              rfl
          · rintro env' L2 ⟨rfl, rfl⟩
            refine ⟨fun env' L' => env' = [some (.lst (es.map tD)), some (.str f), some (.int t.1), some (.int t.2.1), some (.int t.2.2), some (.lst ((termW t.1 t.2.1 (absI t.2.2)).map D.str)), some (.str (sgT (decide (f = "")) t.2.2))] ∧ L' = L2, ?_, ?_⟩
            · walk_at "w"
              by_cases y : f = ""
              · rw [show flEq (D.str f) (D.str "") = true from decide_eq_true y, decide_eq_true y]
                walk_at "w"
                exact ⟨rfl, rfl⟩
              · rw [show flEq (D.str f) (D.str "") = false from decide_eq_false y, decide_eq_false y]
                walk_at "w"
                by_cases z : t.2.2 < 0
                · rw [show decide (t.2.2 < 0) = true from decide_eq_true z]
                  refine ⟨?_, rfl⟩
                  have es : sgT false t.2.2 = " - " := by
                    unfold sgT
                    rw [if_neg (by decide), if_pos z]
                  rw [es]
                  rfl
                · rw [show decide (t.2.2 < 0) = false from decide_eq_false z]
                  refine ⟨?_, rfl⟩
                  have es : sgT false t.2.2 = " + " := by
                    unfold sgT
                    rw [if_neg (by decide), if_neg z]
                  rw [es]
                  rfl
            · rintro env' L' ⟨rfl, rfl⟩
              have sl := sg_len (decide (f = "")) t.2.2
              have tlen := termT_len hab
              have ts := termW_sum hab
              walk_at "w"
              refine ⟨Nat.le_trans (show _ ≤ 1000000 by omega) (by decide), ?_⟩
              walk_at "w"
              rw [strsOf_map]
              refine ⟨ts, ?_⟩
              walk_at "w"
              refine ⟨Nat.le_trans (show _ ≤ 1000000 by
                rw [app_len]
                have : (Txt.join (Str.ofString "*") (termW t.1 t.2.1 (absI t.2.2))).length ≤ 153 := tlen
                omega) (by decide), ?_⟩
              refine hnx _ _ ⟨us, stepT f t, _, _, _, _, _, rfl, rfl, rfl, e, ?_, fun u hu => hm u (List.mem_cons_of_mem _ hu)⟩
              have := step_len (f := f) ho
              omega
    · rw [List.length_reverse]
      have : ("" : Str).length = 0 := by decide +kernel
      omega
  · rintro ds L k x ⟨es, rfl, _⟩; rfl
def ldegS : DSp := fun ds L k _ => ∃ (es : List T3) (m : Int), ds = [.lst (es.map tD)] ∧ es.length < 1000 ∧ (∀ t ∈ es, 0 ≤ t.1 + t.2.1) ∧ Mx (es.map fun t => t.1 + t.2.1) m ∧ k (.int m) L
theorem scLDegree : FnScope ["_law_terms_z", "_law_i", "_law_j", "_law_worth_z"] ["_law_terms_z"] (defScope sLDegree) := ⟨rfl, rfl, rfl, by decide +kernel, rfl, by decide +kernel, by decide +kernel⟩
theorem ok_LDegree {f : Addr} {fd : FuncData} (Z : Zn w K mg cP) (F : Fun K "_law_degree" "_law_degree" sLDegree f fd) : FnOk P w K mg base (L2.CX P w) 1 f fd ["_law_terms_z"] (spD K ldegS) := by
  refine fn_ok F scLDegree ?len (fun cdv A outer s H E hr => ?_)
  rotate_left
  · have tk := takes_of (X := cxOf (L2.CX P w) P w K mg base ["_law_terms_z", "_law_i", "_law_j", "_law_worth_z"] "_law_degree" (defScope sLDegree) f cdv A outer s H E) (E := E) rfl rfl rfl rfl
    have hp := passes_of (X := cxOf (L2.CX P w) P w K mg base ["_law_terms_z", "_law_i", "_law_j", "_law_worth_z"] "_law_degree" (defScope sLDegree) f cdv A outer s H E) rfl
    refine ⟨_, (ss_one (s_ret (q_callB (cq_maxL rfl) (by rfl) Z.z_max bb_max (a_cons (q_op oq_add (q_lst (a_cons (q_neg q_int) a_nil)) (q_lc rfl scLDegree.nd (i_list (qv 0)) (blkOk_by (own := [("_law_i", 1), ("_law_j", 2), ("_law_worth_z", 3)]) (N := ["_law_terms_z", "_law_i", "_law_j", "_law_worth_z"]) (sc := (defScope sLDegree)) (by decide +kernel)) (fun _ _ _ _ _ => (g_tup (n := 3) rfl (gs_cons (g_name 1 scLDegree.nd) (gs_cons (g_name 2 scLDegree.nd) (gs_cons (g_name 3 scLDegree.nd) gs_nil))))) (fun _ _ _ _ _ => ts_nil) (fun _ _ _ _ _ => (q_op oq_add (qv 1) (qv 2))))) a_nil)))), ?_⟩
    clear tk hp
    rintro ds L k x ⟨es, m, rfl, hn, h0, hm, h⟩
    walk_at "w"
    refine ⟨sz_ok rfl, ?_⟩
    walk_at "w"
    intro q hq
    refine lcD_each tD (fun t => .int (t.1 + t.2.1)) hq es (by omega) (fun t ht acc F KK hK => ?_) ?_
    · walk_at "w"
      exact ⟨rfl, hK⟩
    · walk_at "w"
      refine ⟨Nat.le_trans (show 1 + (es.map fun t => D.int (t.1 + t.2.1)).length ≤ 1000 by rw [List.length_map]; omega) (by decide), ?_⟩
      walk_at "w"
      have e1 : intsOf ([D.int (-1)] ++ es.map fun t => D.int (t.1 + t.2.1)) = some (-1 :: es.map fun t => t.1 + t.2.1) := by
        have := intsOf_map (-1 :: es.map fun t => t.1 + t.2.1)
        rw [List.map_cons, List.map_map] at this
        exact this
      rw [e1]
      refine ⟨Nat.succ_pos _, fun m2 h1 h2 => ?_⟩
      have e2 : m = m2 := by
        cases es with
        | nil => rw [hm.nil rfl]; exact (List.mem_singleton.mp h1).symm
        | cons t r =>
          rcases List.mem_cons.mp h1 with e | h1
          · have a : t.1 + t.2.1 ≤ m2 := h2 _ (List.mem_cons_of_mem _ List.mem_cons_self)
            have b := h0 t List.mem_cons_self
            omega
          · exact hm.one h1 fun y hy => h2 y (List.mem_cons_of_mem _ hy)
      rw [← e2]
      exact h
  · rintro ds L k x ⟨es, m, rfl, _⟩; rfl
end
end T05
namespace T05
open PySem L2 DL PO
theorem fn_imp {P : Program} {w : World} {K : PySem.W.Frag} {mg : Str → Option Value} {base : Heap} {CX : CXT} {n : Nat} {f : Addr} {fd : FuncData} {ps : List Str} {g1 g2 : DSp} (F : FnOk P w K mg base CX n f fd ps (spD K g2)) (hi : ∀ ds L k x, g1 ds L k x → g2 ds L k x) : FnOk P w K mg base CX n f fd ps (spD K g1) := by
  refine ⟨fun vs H Q E h => ?_, fun A outer s H args us vs Q E r e0 b rv h => ?_⟩
  · obtain ⟨ds, L, k, x, j, r, h, hk, hx⟩ := h
    exact F.len vs H Q E ⟨ds, L, k, x, j, r, hi _ _ _ _ h, hk, hx⟩
  · obtain ⟨ds, L, k, x, j, r2, h, hk, hx⟩ := h
    exact F.run A outer s H args us vs Q E r e0 b rv ⟨ds, L, k, x, j, r2, hi _ _ _ _ h, hk, hx⟩
theorem okWs_ts : ∀ ts : List T3, okWs (ts.map tD) = true
  | [] => by unfold okWs; rfl
  | t :: r => by
    rw [List.map_cons, okWs, okWs_ts r, Bool.and_true]
    simp [okW, okWs]
theorem bad_no : ∀ (ts : List T3) (a : Nat), pw20 ts → badAt (ts.map tD) a = none
  | [], _, _ => rfl
  | t :: r, a, h => by
    obtain ⟨⟨a0, a1⟩, b0, b1⟩ := h t List.mem_cons_self
    have e : termOk (tD t) = true := by
      show (((decide (0 ≤ t.1) && decide (t.1 ≤ 20)) && (decide (0 ≤ t.2.1) && decide (t.2.1 ≤ 20))) && true) = true
      rw [decide_eq_true a0, decide_eq_true a1, decide_eq_true b0, decide_eq_true b1]
      rfl
    rw [List.map_cons, badAt, if_pos e]
    exact bad_no r (a + 1) fun u hu => h u (List.mem_cons_of_mem _ hu)
theorem terms_imp {cT : Addr} (ds : List D) (L : Led) (k : DK) (x : Exn → Led → Prop) (h : cTermsS ds L k x) : cTerms2S cT ds L k x := by
  obtain ⟨T, ts, rfl, hT, hp, hn, h⟩ := h
  have hl : (ts.map tD).length < 100000 := by rw [List.length_map]; exact hn
  have w := okWs_ts ts
  have e := bad_no ts 0 hp
  rcases hT with rfl | rfl
  · refine ⟨_, rfl, by unfold okW; rw [w, decide_eq_true hl]; rfl, ?_⟩
    show (match badAt (ts.map tD) 0 with | some n => x (itE cT n) L | none => k .non L)
    rw [e]
    exact h
  · refine ⟨_, rfl, by unfold okW; rw [w, decide_eq_true hl]; rfl, ?_⟩
    show (match badAt (ts.map tD) 0 with | some n => x (itE cT n) L | none => k .non L)
    rw [e]
    exact h
end T05
namespace T05
open PySem L2 DL PO
section
variable {P : Program} {w : World} {K : PySem.W.Frag} {mg : Str → Option Value} {base : Heap} {cP : Addr}
local macro_rules | `(tactic| walk_at "w") => `(tactic| conv => whnf)
local macro_rules | `(tactic| walk_at "v") => `(tactic| ((conv => whnf); try dsimp only))
local macro_rules | `(tactic| walk_at "s") => `(tactic| ((conv => whnf); repeat ((first | refine ⟨sz_ok rfl, ?_⟩ | refine ⟨rfl, ?_⟩); conv => whnf)))
theorem scLField : FnScope ["_law_e"] ["_law_e"] (defScope sLField) := ⟨rfl, rfl, rfl, by decide +kernel, rfl, by decide +kernel, by decide +kernel⟩
theorem ok_LField {f : Addr} {fd : FuncData} (Z : Zn w K mg cP) (F : Fun K "_law_field" "_law_field" sLField f fd) : FnQ P w K mg base 1 f fd ["_law_e"] (spD K (fieldS K)) := by
  refine fn_okQ F scLField ?len (fun cdv A outer s H hr => ?_)
  rotate_left
  · refine ⟨_, (ss_cons (s_if (t_cmp oq_inQ (q_atEK (K := K) rfl (qv 0)) (q_tup (a_cons q_str (a_cons q_str (a_cons q_str (a_cons q_str (a_cons q_str (a_cons q_str (a_cons q_str a_nil))))))))) (ss_one (s_ret (q_atEK (K := K) rfl (qv 0)))) ss_nil)
  (ss_cons (s_if (t_cmp oq_inQ (q_atEK (K := K) rfl (qv 0)) (q_tup (a_cons q_str (a_cons q_str (a_cons q_str a_nil))))) (ss_one (s_ret (q_atEK (K := K) rfl (qv 0)))) ss_nil)
  (ss_cons (s_if (t_cmp oq_inQ (q_atEK (K := K) rfl (qv 0)) (q_tup (a_cons q_str (a_cons q_str (a_cons q_str a_nil))))) (ss_one (s_ret (q_atEK (K := K) rfl (qv 0)))) ss_nil)
  (ss_cons (s_if (t_cmp oq_inQ (q_atEK (K := K) rfl (qv 0)) (q_tup (a_cons q_str (a_cons q_str a_nil)))) (ss_one (s_ret (q_atEK (K := K) rfl (qv 0)))) ss_nil)
  (ss_cons (s_if (t_cmp (oq_eqU hr.units) (q_atEK (K := K) rfl (qv 0)) q_str) (ss_one (s_ret (q_atEK (K := K) rfl (qv 0)))) ss_nil)
  (ss_cons (s_if (t_cmp (oq_eqU hr.units) (q_atEK (K := K) rfl (qv 0)) q_str) (ss_one (s_ret (q_atEK (K := K) rfl (qv 0)))) ss_nil)
  (ss_one (s_ret (q_if (t_cmp (oq_eqU hr.units) (q_atEK (K := K) rfl (qv 0)) q_str) (q_atEK (K := K) rfl (qv 0)) q_non))))))))), ?_⟩
    rintro ds L k x ⟨C, ns, vs, code, r, rfl, herr, h⟩
    cases herr with
    | one ht h1 h2 =>
      cases ht <;> (repeat (first | exact h | (walk_at "v"; refine ⟨h1, ?_⟩) | (walk_at "v"; refine ⟨h2, ?_⟩) | (walk_at "v"; refine ⟨sz_ok rfl, ?_⟩) | walk_at "v"))
    | no ht h1 =>
      cases ht <;> (repeat (first | exact h | (walk_at "v"; refine ⟨h1, ?_⟩) | (walk_at "v"; refine ⟨sz_ok rfl, ?_⟩) | walk_at "v"))
  · rintro ds L k x ⟨C, ns, vs, code, r, rfl, _⟩; rfl
theorem scLTry : FnScope ["_law_ask", "_law_e"] ["_law_ask"] (defScope sLTry) := ⟨rfl, rfl, rfl, by decide +kernel, rfl, by decide +kernel, by decide +kernel⟩
theorem ok_LTry {f : Addr} {fd : FuncData} (Z : Zn w K mg cP) (F : Fun K "_law_try" "_law_try" sLTry f fd) {cPE cMI cNL : Addr} {G : LamF → DSp} {n : Nat} (hn : 1 ≤ n) (CG : CloOk P w K mg base n (upG G)) (QLField : CalQ P w K mg base 1 "_law_field" ["_law_e"] (fieldS K)) (n_PlaneError : mg "PlaneError" = some (.ref cPE)) (n_Missing : mg "Missing" = some (.ref cMI)) (n_NothingLeft : mg "NothingLeft" = some (.ref cNL)) : FnOk P w K mg base (L2.CX P w) (n + 1) f fd ["_law_ask"] (spD K (tryS K [.ref cPE, .ref cMI, .ref cNL] G)) := by
  refine fn_ok F scLTry ?len (fun cdv A outer s H E hr => ?_)
  rotate_left
  · have tk := takes_of (X := cxOf (L2.CX P w) P w K mg base ["_law_ask", "_law_e"] "_law_try" (defScope sLTry) f cdv A outer s H E) (E := E) rfl rfl rfl rfl
    have hp := passes_of (X := cxOf (L2.CX P w) P w K mg base ["_law_ask", "_law_e"] "_law_try" (defScope sLTry) f cdv A outer s H E) rfl
    refine ⟨_, (ss_one (s_try 1 rfl rfl scLTry.nd (tst_3 ⟨by rfl, by decide, .inl n_PlaneError⟩ ⟨by rfl, by decide, .inl n_Missing⟩ ⟨by rfl, by decide, .inl n_NothingLeft⟩) tk (fun W pn xe tk hp => (ss_one (s_ret (q_tup (a_cons q_str (a_cons (q_callClo 0 CG (by first | decide | exact Nat.le_refl _ | omega) hr tk) a_nil)))))) (fun a pn => (ss_one (s_ret (q_tup (a_cons (q_atEK (K := K) rfl (qv 1)) (a_cons (q_calQ QLField (by first | decide | assumption) (roomS hr) (by rfl) (a_cons (qv 1) a_nil)) a_nil)))))))), ?_⟩
    clear tk hp
    rintro ds L k x ⟨F, es, rfl, h⟩
    walk_at "w"
    refine ⟨_, _, h, fun d L' hk => ⟨sz_ok rfl, hk⟩, fun n L' hc => ?_⟩
    obtain ⟨cls, ns, vs⟩ := n
    obtain ⟨C, code, r, hcls, hm, herr, hk⟩ := hc
    have hcls : cls = .ref C := hcls
    subst hcls
    refine ⟨true, hm, C, rfl, ?_⟩
    cases herr with
    | one ht h1 h2 =>
      have herr := ErrD.one (v := r) ht h1 h2
      cases ht <;> (walk_at "w"; refine ⟨h1, ?_⟩; walk_at "w"; exact ⟨C, _, _, _, _, rfl, herr, sz_ok rfl, hk⟩)
    | no ht h1 =>
      have herr := ErrD.no ht h1
      cases ht <;> (walk_at "w"; refine ⟨h1, ?_⟩; walk_at "w"; exact ⟨C, _, _, _, _, rfl, herr, sz_ok rfl, hk⟩)
  · rintro ds L k x ⟨F, es, rfl, _⟩; rfl
theorem scLTries : FnScope ["_law_asks", "_law_ask"] ["_law_asks"] (defScope sLTries) := ⟨rfl, rfl, rfl, by decide +kernel, rfl, by decide +kernel, by decide +kernel⟩
theorem ok_LTries {f : Addr} {fd : FuncData} {n : Nat} (Z : Zn w K mg cP) (F : Fun K "_law_tries" "_law_tries" sLTries f fd) (CLTry : Cal P w K mg base (n + 1) "_law_try" ["_law_ask"] [] (tryS K [.ref cPE, .ref cMI, .ref cNL] G)) : FnOk P w K mg base (L2.CX P w) (n + 2) f fd ["_law_asks"] (spD K (triesS K [.ref cPE, .ref cMI, .ref cNL] G)) := by
  refine fn_ok F scLTries ?len (fun cdv A outer s H E hr => ?_)
  rotate_left
  · have tk := takes_of (X := cxOf (L2.CX P w) P w K mg base ["_law_asks", "_law_ask"] "_law_tries" (defScope sLTries) f cdv A outer s H E) (E := E) rfl rfl rfl rfl
    have hp := passes_of (X := cxOf (L2.CX P w) P w K mg base ["_law_asks", "_law_ask"] "_law_tries" (defScope sLTries) f cdv A outer s H E) rfl
    refine ⟨_, (ss_one (s_ret (q_lc rfl scLTries.nd (i_list (qv 0)) (blkOk_by (own := [("_law_ask", 1)]) (N := ["_law_asks", "_law_ask"]) (sc := (defScope sLTries)) (by decide +kernel)) (fun _ _ _ _ _ => (g_name 1 scLTries.nd)) (fun _ _ _ _ _ => ts_nil) (fun _ _ _ _ _ => (q_cal CLTry (by first | decide | exact Nat.le_refl _ | omega) hr takes0 (by rfl) (a_cons (qv 1) a_nil)))))), ?_⟩
    clear tk hp
    rintro ds L k x ⟨qs, rs, hq, rfl, hl, pL, pr, hs, h⟩
    walk_at "w"
    intro p hp
    refine lcD_yes hp _ rs [] (by rw [List.length_map]; exact hl) (by rw [List.length_map]; simpa using hq) pr rfl (fun i d r h1 h2 acc' K' pa hK => ?_) h
    rw [List.getElem?_map] at h1
    cases e : qs[i]? with
    | none => rw [e] at h1; cases h1
    | some q =>
      rw [e] at h1
      cases h1
      exact hs i q r e h2 ((p, .lst acc') :: L) K' (by
        show plns (.lst acc' :: L.map (·.2)) = true
        unfold plns
        rw [show pln (.lst acc') = plns acc' by unfold pln; rfl, pa]
        exact pL) hK
  · rintro ds L k x ⟨qs, rs, _, rfl, _⟩; rfl
end
end T05
namespace DL
open PySem PySem.Spec PyProof.Rows L2
section
variable {X : Cx} {Wx : WX} {a b : Expr} {da db : DE} {pos : Pos}
/-- behind the statement any thing may leave the ledger -/
def dForget (ds : DS) : DS := fun D env L => ds { D with nx := fun env' L' => ∃ q, D.nx env' (remL L' q) } env L
theorem s_forget {st : Stmt} {ds : DS} (h : QS X Wx st ds) : QS X Wx st (dForget ds) := by
  obtain ⟨t, pt, s1⟩ := h.ex
  refine ⟨t, pt, fun σ H env L D' D st h ok => ?_⟩
  refine s1 σ H env L _ _ st h ⟨fun env' L' σ' H' h' g' st' => ?_, ok.rt, ok.ex, ok.bk, ok.ct⟩
  obtain ⟨q, h'⟩ := h'
  have g2 : Go L' (remL L' q) H' H' := go_rem
  exact ok.nx _ _ σ' H' h' (g'.trans g2) ⟨st'.1.go g2, st'.2.rem⟩
theorem eqO_both {K : PySem.W.Frag} {n k : Nat} {C : Addr} {g : DSp} (hK : X.K = K) (F : MCal X.prog X.w X.K X.mg X.base n C "__eq__" ["self", "other"] [] g) (hn : n ≤ k) (hr : Room k X.A) (ha : QE X Wx a da) (hb : QE X Wx b db) (hmk : behindInMarks .Eq b = false := by rfl) : ∃ te : TE, (PE X (.Compare a [.Eq] [b] pos) te ∧ PT X (.Compare a [.Eq] [b] pos) (tB te)) ∧ SimE X.K Wx te (dEqO K C g da db) := by
  subst hK
  obtain ⟨f, fd, us, dvs, F, hC, hM, hbi, hd, hdd⟩ := F.ex
  obtain rfl : dvs = [] := by cases hdd [] (fun _ => none); rfl
  cases hd
  obtain ⟨ta, pa, sa⟩ := ha.ex
  obtain ⟨tb, pb, sb⟩ := hb.ex
  refine ⟨_, ⟨pe_cmpR (op_eqO F hM (hr.mono hn) hbi) pa pb hmk, pt_cmpR (op_eqO F hM (hr.mono hn) hbi) pa pb hmk⟩, fun σ H env L k x Q st h hk hx => ?_⟩
  refine sa σ H env L _ x _ st h (fun a L1 va H1 h1 g1 j1 r1 => ?_) hx
  refine sb σ H1 env L1 _ x _ (st.go g1 j1) h1 (fun o L2 vo H2 h2 g2 j2 r2 => ?_) (hx.go g1)
  split at h2
  · rename_i C' ns ds hc
    obtain ⟨rfl, ht, h2⟩ := h2
    obtain ⟨q, dx, vs, rfl, hq, hl, rv⟩ := con_obj j2 (r1.go g2) hc
    have hty : ∃ t, TyX X.K H2 vo t ∧ PySem.W.notFirst X.K C' t = true := by
      unfold tyOk at ht
      split at ht
      · rename_i hc2
        exact ⟨_, tyX_obj j2 r2 hc2 ht.1, ht.2⟩
      · split at ht
        · rename_i t e
          exact ⟨_, tyX_con j2 r2 e, ht⟩
        · exact ht.elim
    obtain ⟨t, h3, h4⟩ := hty
    exact ⟨q, dx, _, t, ⟨rfl, hq⟩, ⟨h3, h4⟩, [a, o], L2, _, _, j2, .cons (r1.go g2) (.cons r2 .nil), h2, fun d L3 v H3 h3 g3 j3 r3 => by
      obtain ⟨b, e, h3⟩ := h3
      subst e
      cases r3
      exact ⟨b, rfl, hk _ L3 _ H3 h3 ((g1.trans g2).trans g3) j3 (.bl b)⟩, fun n L' a H' z _ _ _ => z⟩
  · exact h2.elim
theorem t_eqO {K : PySem.W.Frag} {n k : Nat} {C : Addr} {g : DSp} (hK : X.K = K) (F : MCal X.prog X.w X.K X.mg X.base n C "__eq__" ["self", "other"] [] g) (hn : n ≤ k) (hr : Room k X.A) (ha : QE X Wx a da) (hb : QE X Wx b db) (hmk : behindInMarks .Eq b = false := by rfl) : QT X Wx (.Compare a [.Eq] [b] pos) (dB (dEqO K C g da db)) := by
  obtain ⟨te, h, s⟩ := eqO_both (Wx := Wx) (pos := pos) hK F hn hr ha hb hmk
  exact ⟨_, h.2, sim_B s⟩
end
end DL
namespace PO
open PySem L2 DL TL
/-- the sum of what stands at a pair of powers -/
def cf : List T3 → Int × Int → Int
  | [], _ => 0
  | t :: r, q => (if ky t = q then t.2.2 else 0) + cf r q
theorem cf_app (q : Int × Int) : ∀ a b : List T3, cf (a ++ b) q = cf a q + cf b q
  | [], b => by show cf b q = 0 + cf b q; omega
  | t :: a, b => by
    show (if ky t = q then t.2.2 else 0) + cf (a ++ b) q = (if ky t = q then t.2.2 else 0) + cf a q + cf b q
    rw [cf_app q a b]
    omega
theorem cf_rev (q : Int × Int) : ∀ a : List T3, cf a.reverse q = cf a q
  | [] => rfl
  | t :: a => by
    rw [List.reverse_cons, cf_app, cf_rev q a]
    show cf a q + ((if ky t = q then t.2.2 else 0) + 0) = (if ky t = q then t.2.2 else 0) + cf a q
    omega
theorem look_app (q : Int × Int) : ∀ a b : List T3, look (a ++ b) q = (look a q).or (look b q)
  | [], b => rfl
  | t :: a, b => by
    show (if ky t = q then some t.2.2 else look (a ++ b) q) = (if ky t = q then some t.2.2 else look a q).or (look b q)
    by_cases e : ky t = q
    · rw [if_pos e, if_pos e]; rfl
    · rw [if_neg e, if_neg e, look_app q a b]
theorem look_set_ne {p q : Int × Int} (v : Int) (h : p ≠ q) : ∀ es : List T3, look (es.map fun t => if ky t = p then ((p.1, p.2, v) : T3) else t) q = look es q
  | [] => rfl
  | t :: r => by
    show (if ky (if ky t = p then ((p.1, p.2, v) : T3) else t) = q then some (if ky t = p then ((p.1, p.2, v) : T3) else t).2.2 else look (r.map _) q) = if ky t = q then some t.2.2 else look r q
    rw [look_set_ne v h r]
    by_cases e : ky t = p
    · rw [if_pos e]
      have h1 : ky ((p.1, p.2, v) : T3) = p := rfl
      rw [if_neg (by rw [h1]; exact h), if_neg (by rw [e]; exact h)]
    · rw [if_neg e]
theorem look_set_eq {p : Int × Int} (v : Int) : ∀ es : List T3, has es p = true → look (es.map fun t => if ky t = p then ((p.1, p.2, v) : T3) else t) p = some v
  | [], h => by cases h
  | t :: r, h => by
    show (if ky (if ky t = p then ((p.1, p.2, v) : T3) else t) = p then some (if ky t = p then ((p.1, p.2, v) : T3) else t).2.2 else look (r.map _) p) = some v
    by_cases e : ky t = p
    · rw [if_pos e]
      exact if_pos rfl
    · rw [if_neg e, if_neg e]
      refine look_set_eq v r ?_
      have h : (decide (ky t = p) || has r p) = true := h
      rw [decide_eq_false e] at h
      exact h
theorem val_put (es : List T3) (p q : Int × Int) (v : Int) : val (put es p v) q = if p = q then v else val es q := by
  unfold val put
  by_cases h : has es p = true
  · rw [if_pos h]
    by_cases e : p = q
    · subst e
      rw [if_pos rfl, look_set_eq v es h]
      rfl
    · rw [if_neg e, look_set_ne v e]
  · rw [if_neg h, look_app]
    by_cases e : p = q
    · subst e
      rw [if_pos rfl, look_none (fun m => h (has_iff.mpr m))]
      show ((if ky ((p.1, p.2, v) : T3) = p then some v else none).getD 0) = v
      rw [if_pos rfl]
      rfl
    · rw [if_neg e]
      have : look [((p.1, p.2, v) : T3)] q = none := if_neg e
      rw [this]
      cases look es q <;> rfl
theorem val_fold (q : Int × Int) : ∀ ts es : List T3, val (ts.foldl add1 es) q = val es q + cf ts q
  | [], es => by show val es q = val es q + 0; omega
  | t :: r, es => by
    show val (r.foldl add1 (add1 es t)) q = val es q + ((if ky t = q then t.2.2 else 0) + cf r q)
    rw [val_fold q r]
    have : val (add1 es t) q = val es q + if ky t = q then t.2.2 else 0 := by
      unfold add1
      rw [val_put]
      by_cases e : ky t = q
      · rw [if_pos e, if_pos e, e]; rfl
      · rw [if_neg e, if_neg e]; omega
    omega
theorem val_gat (ts : List T3) (q : Int × Int) : val (gat ts) q = cf ts q := by
  have := val_fold q ts []
  have h0 : val ([] : List T3) q = 0 := rfl
  unfold gat
  omega
theorem val_of {es : List T3} (nk : NK es) {t : T3} (h : t ∈ es) : val es (ky t) = t.2.2 := by
  unfold val
  rw [look_of nk h]
  rfl
theorem val_no {es : List T3} {q : Int × Int} (h : q ∉ es.map ky) : val es q = 0 := by
  unfold val
  rw [look_none h]
  rfl
theorem val_sel {es : List T3} (nk : NK es) {qs : List (Int × Int)} (h : qs.Perm (es.map ky)) (ha : Asc qs) (q : Int × Int) : val (sel es qs) q = val es q := by
  have nk' : NK (sel es qs) := (sel_can ha (perm_nodup nk h)).nk
  by_cases m : q ∈ qs.filter fun q => decide (val es q ≠ 0)
  · have hm : ((q.1, q.2, val es q) : T3) ∈ sel es qs := List.mem_map.mpr ⟨q, m, rfl⟩
    exact val_of nk' hm
  · have e1 : val (sel es qs) q = 0 := val_no (by rw [sel_keys]; exact m)
    rw [e1]
    by_cases z : val es q = 0
    · exact z.symm
    · exact (val_no fun k => m (List.mem_filter.mpr ⟨h.mem_iff.mpr k, decide_eq_true z⟩)).symm
/-- es is what the terms ts tell -/
structure Told (ts es : List T3) : Prop where
  can : Can es
  at_ : ∀ q, val es q = cf ts q
theorem told_of {ts : List T3} {qs : List (Int × Int)} (hp : qs.Perm ((gat ts).map ky)) (ha : Asc qs) : Told ts (sel (gat ts) qs) :=
  ⟨sel_can ha (perm_nodup (gat_nk ts) hp), fun q => by rw [val_sel (gat_nk ts) hp ha, val_gat]⟩
theorem can_mem {es : List T3} (h : Can es) (q : Int × Int) : q ∈ es.map ky ↔ val es q ≠ 0 := by
  constructor
  · intro m
    obtain ⟨t, ht, rfl⟩ := List.mem_map.mp m
    rw [val_of h.nk ht]
    exact h.nz t ht
  · intro z
    by_cases m : q ∈ es.map ky
    · exact m
    · exact absurd (val_no m) z
theorem es_keys {es : List T3} (h : NK es) : es = (es.map ky).map fun q => ((q.1, q.2, val es q) : T3) := by
  rw [List.map_map]
  have : ∀ t ∈ es, ((fun q : Int × Int => ((q.1, q.2, val es q) : T3)) ∘ ky) t = id t := fun t ht => by
    show ((t.1, t.2.1, val es (ky t)) : T3) = t
    rw [val_of h ht]
  rw [List.map_congr_left this, List.map_id]
theorem can_ext {es fs : List T3} (h : Can es) (h' : Can fs) (e : ∀ q, val es q = val fs q) : es = fs := by
  have pm : (es.map ky).Perm (fs.map ky) := (List.perm_ext_iff_of_nodup h.nk h'.nk).mpr fun q => by rw [can_mem h, can_mem h', e]
  have ek : es.map ky = fs.map ky := asc_one pm h'.nk (strict_asc h'.asc) (strict_asc h.asc)
  rw [es_keys h.nk, es_keys h'.nk, ek]
  exact List.map_congr_left fun q _ => by rw [e]
theorem Told.one {ts us es fs : List T3} (a : Told ts es) (b : Told us fs) (e : ∀ q, cf ts q = cf us q) : es = fs :=
  can_ext a.can b.can fun q => by rw [a.at_, b.at_, e]
theorem len_sub : ∀ {l m : List (Int × Int)}, l.Nodup → (∀ x ∈ l, x ∈ m) → l.length ≤ m.length
  | [], _, _, _ => Nat.zero_le _
  | a :: l, m, n, h => by
    have n := List.nodup_cons.mp n
    have ha := h a List.mem_cons_self
    have := len_sub (m := m.erase a) n.2 fun x hx => (List.mem_erase_of_ne (fun (e : x = a) => n.1 (by rw [← e]; exact hx))).mpr (h x (List.mem_cons_of_mem _ hx))
    rw [List.length_erase_of_mem ha] at this
    have hp := List.length_pos_of_mem ha
    rw [List.length_cons]
    omega
theorem eq_val {es fs : List T3} (nk : NK es) (h : eqDT (ksD es) (vsI es) (ksD fs) (vsI fs) = true) (q : Int × Int) : val es q = val fs q := by
  unfold eqDT allT at h
  rw [Bool.and_eq_true, List.all_eq_true] at h
  have e : (ksD es).zip (vsI es) = es.map fun t => (kk (ky t), t.2.2) := by
    unfold ksD vsI
    rw [List.zip_map']
  have len : es.length = fs.length := by
    have := beq_iff_eq.mp h.1
    rwa [List.length_map, List.length_map] at this
  have at_ : ∀ t ∈ es, look fs (ky t) = some t.2.2 := fun t ht => by
    have h2 := of_decide_eq_true (h.2 (kk (ky t), t.2.2) (by rw [e]; exact List.mem_map.mpr ⟨t, ht, rfl⟩))
    have h3 := look_d (ky t) fs
    have h4 : vsD fs = (vsI fs).map D.int := vsD_int fs
    rw [h4, lookG_map, h2] at h3
    cases hl : look fs (ky t) with
    | none => rw [hl] at h3; cases h3
    | some v => rw [hl] at h3; cases h3; rfl
  by_cases m : q ∈ es.map ky
  · obtain ⟨t, ht, rfl⟩ := List.mem_map.mp m
    rw [val_of nk ht]
    unfold val
    rw [at_ t ht]
    rfl
  · rw [val_no m]
    refine (val_no fun k => ?_).symm
    have sub := len_sub (l := q :: es.map ky) (m := fs.map ky) (List.nodup_cons.mpr ⟨m, nk⟩) fun x hx => by
      rcases List.mem_cons.mp hx with rfl | hx
      · exact k
      · obtain ⟨t, ht, rfl⟩ := List.mem_map.mp hx
        have := at_ t ht
        by_cases k2 : ky t ∈ fs.map ky
        · exact k2
        · rw [look_none k2] at this
          cases this
    rw [List.length_cons, List.length_map, List.length_map] at sub
    omega
theorem eq_no {es fs : List T3} (nk : NK es) {q : Int × Int} (h : val es q ≠ val fs q) : eqDT (ksD es) (vsI es) (ksD fs) (vsI fs) = false := by
  cases e : eqDT (ksD es) (vsI es) (ksD fs) (vsI fs) with
  | false => rfl
  | true => exact absurd (eq_val nk e q) h
theorem cf_ne {q : Int × Int} : ∀ {ts : List T3}, cf ts q ≠ 0 → q ∈ ts.map ky
  | [], h => absurd rfl h
  | t :: r, h => by
    rw [List.map_cons]
    by_cases e : ky t = q
    · rw [e]; exact List.mem_cons_self
    · have h : (if ky t = q then t.2.2 else 0) + cf r q ≠ 0 := h
      rw [if_neg e] at h
      exact List.mem_cons_of_mem _ (cf_ne (by omega))
theorem cf_le {b : Nat} (q : Int × Int) : ∀ {ts : List T3}, (∀ t ∈ ts, t.2.2.natAbs ≤ b) → (cf ts q).natAbs ≤ ts.length * b
  | [], _ => Nat.zero_le _
  | t :: r, h => by
    have h1 := h t List.mem_cons_self
    have h2 := cf_le q (ts := r) fun u hu => h u (List.mem_cons_of_mem _ hu)
    show ((if ky t = q then t.2.2 else 0) + cf r q).natAbs ≤ (r.length + 1) * b
    rw [Nat.succ_mul]
    split <;> omega
theorem Told.sub {ts es : List T3} (a : Told ts es) : ∀ t ∈ es, ky t ∈ ts.map ky ∧ t.2.2 = cf ts (ky t) := fun t ht => by
  have e : t.2.2 = cf ts (ky t) := by rw [← a.at_, val_of a.can.nk ht]
  exact ⟨cf_ne (by rw [← e]; exact a.can.nz t ht), e⟩
theorem Told.few {ts es : List T3} (a : Told ts es) : es.length ≤ ts.length := by
  have := len_sub (l := es.map ky) (m := ts.map ky) a.can.nk fun x hx => by
    obtain ⟨t, ht, rfl⟩ := List.mem_map.mp hx
    exact (a.sub t ht).1
  rwa [List.length_map, List.length_map] at this
theorem Told.ok {ts es : List T3} (a : Told ts es) {b : Nat} (hl : ts.length ≤ 1000) (hp : ∀ t ∈ ts, (0 ≤ t.1 ∧ t.1 ≤ 1000) ∧ (0 ≤ t.2.1 ∧ t.2.1 ≤ 1000)) (hb : ∀ t ∈ ts, t.2.2.natAbs ≤ b) (h30 : 1000 * b < 10 ^ 30) : PolyOk es := by
  refine ⟨Nat.le_trans a.few hl, fun t ht => ?_⟩
  obtain ⟨m, e⟩ := a.sub t ht
  obtain ⟨u, hu, eu⟩ := List.mem_map.mp m
  obtain ⟨⟨u0, u1⟩, u2, u3⟩ := hp u hu
  have e1 : u.1 = t.1 := congrArg (fun z : Int × Int => z.1) eu
  have e2 : u.2.1 = t.2.1 := congrArg (fun z : Int × Int => z.2) eu
  have hc := cf_le (ky t) hb
  rw [← e] at hc
  have h1 : ts.length * b ≤ 1000 * b := Nat.mul_le_mul_right b hl
  have h2 : t.2.2.natAbs < 10 ^ 30 := by omega
  rw [e1] at u0 u1
  rw [e2] at u2 u3
  exact ⟨u0, u1, u2, u3, by omega, by omega⟩
theorem Told.nil {ts : List T3} (a : Told ts []) (q : Int × Int) : cf ts q = 0 := (a.at_ q).symm
/-- what stands at a pair, of a poly -/
theorem filt_look {es : List T3} (nk : NK es) (q : Int × Int) : es.filter (fun t => decide (ky t = q)) = match look es q with
    | some v => [((q.1, q.2, v) : T3)]
    | none => [] := by
  induction es with
  | nil => rfl
  | cons t r ih =>
    have n : (ky t :: r.map ky).Nodup := nk
    rw [List.nodup_cons] at n
    show _ = match (if ky t = q then some t.2.2 else look r q) with
      | some v => [((q.1, q.2, v) : T3)]
      | none => []
    by_cases e : ky t = q
    · rw [if_pos e, List.filter_cons_of_pos (p := fun t : T3 => decide (ky t = q)) (decide_eq_true e)]
      have h0 : look r q = none := look_none (by rw [← e]; exact n.1)
      rw [ih n.2, h0, ← e]
    · rw [if_neg e, List.filter_cons_of_neg (p := fun t : T3 => decide (ky t = q)) (by rw [decide_eq_false e]; exact Bool.false_ne_true), ih n.2]
end PO
namespace T05
open PySem L2 DL PO
def lawS (Pt : Addr) : DSp := fun ds L k _ => ∃ ns : List Int, ds = [.ro (ns.map .int)] ∧ L = [(Pt, .tab "law.<locals>.<lambda>")] ∧ ∀ L', k (.bl true) L'
def eq2S (C : Addr) : DSp := fun ds L k x => eqS C ds L k x ∨ eqL C ds L k x
/-- what is drawn in a turn -/
structure Lse (n : Nat) (ts : List T3) : Prop where
  few : ts.length ≤ n
  pw : pw20 ts
  sz : ∀ t ∈ ts, t.2.2.natAbs ≤ 7
theorem Lse.add {n : Nat} {ts : List T3} (h : Lse n ts) {t : T3} (hp : (0 ≤ t.1 ∧ t.1 ≤ 20) ∧ (0 ≤ t.2.1 ∧ t.2.1 ≤ 20)) (hv : t.2.2.natAbs ≤ 7) : Lse (n + 1) (ts ++ [t]) := by
  refine ⟨by rw [List.length_append, List.length_singleton]; have := h.few; omega, fun u hu => ?_, fun u hu => ?_⟩
  · rcases List.mem_append.mp hu with hu | hu
    · exact h.pw u hu
    · rw [List.mem_singleton.mp hu]; exact hp
  · rcases List.mem_append.mp hu with hu | hu
    · exact h.sz u hu
    · rw [List.mem_singleton.mp hu]; exact hv
theorem Lse.mono {n m : Nat} {ts : List T3} (h : Lse n ts) (hm : n ≤ m) : Lse m ts := ⟨Nat.le_trans h.few hm, h.pw, h.sz⟩
theorem Lse.ok {n : Nat} {ts es : List T3} (h : Lse n ts) (hn : n ≤ 100) (a : Told ts es) : PolyOk es := by
  have e30 : 1000 * 7 < 10 ^ 30 := by decide +kernel
  refine a.ok (b := 7) (by have := h.few; omega) (fun t ht => ?_) h.sz e30
  obtain ⟨⟨a0, a1⟩, b0, b1⟩ := h.pw t ht
  omega
theorem Lse.p20 {n : Nat} {ts es : List T3} (h : Lse n ts) (a : Told ts es) : pw20 es := fun t ht => by
  obtain ⟨m, _⟩ := a.sub t ht
  obtain ⟨u, hu, eu⟩ := List.mem_map.mp m
  have e1 : u.1 = t.1 := congrArg (fun z : Int × Int => z.1) eu
  have e2 : u.2.1 = t.2.1 := congrArg (fun z : Int × Int => z.2) eu
  have := h.pw u hu
  rw [e1, e2] at this
  exact this
theorem mx_ex : ∀ ns : List Int, ∃ m, Mx ns m
  | [] => ⟨-1, fun _ => rfl, (fun h => absurd rfl h), (fun _ h => nomatch h)⟩
  | n :: r => by
    obtain ⟨m, hm⟩ := mx_ex r
    by_cases e : r = []
    · subst e
      exact ⟨n, (fun h => nomatch h), (fun _ => List.mem_cons_self), fun y hy => by rw [List.mem_singleton.mp hy]; exact Int.le_refl n⟩
    · by_cases z : n ≤ m
      · exact ⟨m, (fun h => nomatch h), (fun _ => List.mem_cons_of_mem _ (hm.mem e)), fun y hy => (List.mem_cons.mp hy).elim (fun q => by rw [q]; exact z) (hm.le y)⟩
      · exact ⟨n, (fun h => nomatch h), (fun _ => List.mem_cons_self), fun y hy => (List.mem_cons.mp hy).elim (fun q => by rw [q]; exact Int.le_refl n) fun q => by have := hm.le y q; omega⟩
theorem Mx.cons {ns : List Int} {m m2 : Int} (hm : Mx ns m) (h0 : ∀ y ∈ ns, -1 ≤ y) (h1 : m2 ∈ (-1 : Int) :: ns) (h2 : ∀ y, y ∈ (-1 : Int) :: ns → y ≤ m2) : m = m2 := by
  cases ns with
  | nil => rw [hm.nil rfl]; exact (List.mem_singleton.mp h1).symm
  | cons t r =>
    rcases List.mem_cons.mp h1 with e | h1
    · have a : t ≤ m2 := h2 _ (List.mem_cons_of_mem _ List.mem_cons_self)
      have b := h0 t List.mem_cons_self
      have c := hm.le t List.mem_cons_self
      have d := h2 m (List.mem_cons_of_mem _ (hm.mem (by simp)))
      have e2 := hm.le
      have f := h0 m (hm.mem (by simp))
      omega
    · exact hm.one h1 fun y hy => h2 y (List.mem_cons_of_mem _ hy)
theorem last_v {es : List T3} (h : es ≠ []) : ∃ t : T3, atI (es.map tD) ((es.map tD).length - 1 : Int) = some (tD t) ∧ t.2.2 = lastV es := by
  have hl : 0 < es.length := List.length_pos_iff.mpr h
  refine ⟨es.getLast h, ?_, ?_⟩
  · have e1 : ((es.map tD).length - 1 : Int) = ((es.length - 1 : Nat) : Int) := by rw [List.length_map]; omega
    rw [e1]
    refine atI_nat ?_
    rw [List.getElem?_map, ← List.getLast?_eq_getElem?, List.getLast?_eq_some_getLast h]
    rfl
  · unfold lastV vsI
    rw [List.getLastD_eq_getLast?, List.getLast?_map, List.getLast?_eq_some_getLast h]
    rfl
/-- what the law wishes of a coefficient -/
def wishD (es : List T3) (q : Int × Int) : List D := match look es q with
  | some v => [.int v]
  | none => []
theorem wish_eq {es : List T3} (nk : NK es) (q : Int × Int) : ((es.filter fun t => decide (ky t = q)).map fun t => D.int t.2.2) = wishD es q := by
  rw [filt_look nk q]
  unfold wishD
  cases look es q <;> rfl
theorem noL_ints (es : List T3) : noLs (vsD es) = true := by
  induction es with
  | nil => rfl
  | cons t r ih => show (noL (.int t.2.2) && noLs (vsD r)) = true; rw [ih]; rfl
theorem noL_pD (C : Addr) (es : List T3) : noL (pD C es) = true := by
  show (noLs (vsD es) && true) = true
  rw [noL_ints]
  rfl
theorem pln_ints (es : List T3) : plns (vsD es) = true := by
  induction es with
  | nil => rfl
  | cons t r ih => show (pln (.int t.2.2) && plns (vsD r)) = true; rw [ih]; rfl
theorem pln_pD (C : Addr) (es : List T3) : pln (pD C es) = true := by
  show (plns (vsD es) && true) = true
  rw [pln_ints]
  rfl
theorem plns_cons {d : D} {r : List D} (h : pln d = true) (g : plns r = true) : plns (d :: r) = true := by
  unfold plns
  rw [h, g]
  rfl
theorem plns_nil : plns [] = true := by unfold plns; rfl
theorem okW_pln1 {d : D} (h : okW d = true) : plns [d] = true := okWs_pln (okWs_mk h (by unfold okWs; rfl))
theorem okT3 : ∀ es : List T3, okPs (es.map tD) = true
  | [] => rfl
  | t :: r => by
    show (okP (tD t) && okPs (r.map tD)) = true
    rw [okT3 r]
    rfl
theorem depT3 : ∀ es : List T3, deps (es.map tD) ≤ 1
  | [] => Nat.zero_le _
  | t :: r => by
    show max (dep (tD t)) (deps (r.map tD)) ≤ 1
    have : dep (tD t) = 1 := rfl
    have := depT3 r
    omega
theorem okTs {es : List T3} (h : es.length ≤ 1000) : okP (.lst (es.map tD)) = true := by
  unfold okP
  rw [okT3, Bool.and_true]
  exact decide_eq_true (by rw [List.length_map]; omega)
theorem depTs (es : List T3) : dep (.lst (es.map tD)) < 9 := by
  show deps (es.map tD) + 1 < 9
  have := depT3 es
  omega
def toldD (es : List T3) (a b c d : Int) (e : Bool) : D := .lst [.lst (es.map tD), .int a, .int b, .int c, .int d, .bl e]
theorem okTold {es : List T3} (h : es.length ≤ 1000) (a b c d : Int) (e : Bool) : okP (toldD es a b c d e) = true ∧ dep (toldD es a b c d e) < 9 := by
  constructor
  · unfold toldD
    unfold okP
    rw [Bool.and_eq_true]
    refine ⟨rfl, ?_⟩
    show (okP (.lst (es.map tD)) && _) = true
    rw [okTs h]
    rfl
  · show max (deps (es.map tD) + 1) 0 + 1 < 9
    have := depT3 es
    omega
theorem es_has (es : List T3) : decide (0 < (es.length : Int)) = !(es.map tD).isEmpty := by
  cases es with
  | nil => rfl
  | cons t r => exact decide_eq_true (by rw [List.length_cons]; omega)
theorem nil_sel {qs : List (Int × Int)} (h : qs.Perm ((gat []).map ky)) : sel (gat []) qs = [] := by
  have e : qs = [] := List.Perm.eq_nil h
  rw [e]
  rfl
/-- no term within -/
def oddL : List D := [.non, .int 3, .tup [.int 1, .int 2], .tup [.int 1, .int 2, .int 3, .int 4], .lst [.int 1, .int 2, .int 3], .tup [.int (-1), .int 0, .int 1], .tup [.int 0, .int 21, .int 1], .tup [.int 21, .int 0, .int 1], .tup [.bl true, .int 0, .int 1], .tup [.int 0, .int 0, .bl true], .tup [.int 0, .int 0, .str "1"], .tup [.int 0, .str "0", .int 1]]
theorem odd_no : ∀ o ∈ oddL, termOk o = false ∧ okW o = true := by
  intro o ho
  unfold oddL at ho
  simp only [List.mem_cons, List.not_mem_nil, or_false] at ho
  rcases ho with e | e | e | e | e | e | e | e | e | e | e | e <;> subst e <;> exact ⟨by decide +kernel, by decide +kernel⟩
theorem bad_at {d : D} (hd : termOk d = false) (r : List D) : ∀ (ts : List T3) (a : Nat), pw20 ts → badAt (ts.map tD ++ d :: r) a = some (a + ts.length)
  | [], a, _ => by
    show badAt (d :: r) a = some (a + 0)
    rw [badAt, if_neg (by rw [hd]; exact Bool.false_ne_true)]
    rfl
  | t :: ts, a, h => by
    obtain ⟨⟨a0, a1⟩, b0, b1⟩ := h t List.mem_cons_self
    have e : termOk (tD t) = true := by
      show (((decide (0 ≤ t.1) && decide (t.1 ≤ 20)) && (decide (0 ≤ t.2.1) && decide (t.2.1 ≤ 20))) && true) = true
      rw [decide_eq_true a0, decide_eq_true a1, decide_eq_true b0, decide_eq_true b1]
      rfl
    show badAt (tD t :: (ts.map tD ++ d :: r)) a = _
    rw [badAt, if_pos e, bad_at hd r ts (a + 1) fun u hu => h u (List.mem_cons_of_mem _ hu)]
    rw [List.length_cons]
    congr 1
    omega
theorem bad_list {n : Nat} {ts : List T3} (h : Lse n ts) (hn : n ≤ 100) {d : D} (hd : d ∈ oddL) {a : Nat} (ha : a ≤ ts.length) : okW (.lst (cutD (ts.map tD) none (some (a : Int)) ++ [d] ++ cutD (ts.map tD) (some (a : Int)) none)) = true ∧ badT (.lst (cutD (ts.map tD) none (some (a : Int)) ++ [d] ++ cutD (ts.map tD) (some (a : Int)) none)) = some (a : Int) ∧ (cutD (ts.map tD) none (some (a : Int)) ++ [d] ++ cutD (ts.map tD) (some (a : Int)) none).length ≤ 201 := by
  have few := h.few
  obtain ⟨o1, o2⟩ := odd_no d hd
  have c1 : cutD (ts.map tD) none (some (a : Int)) = (ts.take a).map tD := by
    show ((ts.map tD).drop 0).take (HT.sIx (ts.map tD).length (ts.map tD).length (some (a : Int)) - 0) = _
    rw [HT.sIx_nat, List.drop_zero, Nat.sub_zero, List.map_take, List.take_eq_take_iff]
    rw [List.length_map]
    omega
  have c2 : cutD (ts.map tD) (some (a : Int)) none = (ts.drop a).map tD := by
    show ((ts.map tD).drop (HT.sIx (ts.map tD).length 0 (some (a : Int)))).take ((ts.map tD).length - HT.sIx (ts.map tD).length 0 (some (a : Int))) = _
    rw [HT.sIx_nat, List.length_map, Nat.min_eq_left ha, List.map_drop]
    exact List.take_of_length_le (by rw [List.length_drop, List.length_map]; omega)
  rw [c1, c2]
  have len : ((ts.take a).map tD ++ [d] ++ (ts.drop a).map tD).length ≤ 201 := by
    rw [List.length_append, List.length_append, List.length_map, List.length_map, List.length_take, List.length_drop]
    show min a ts.length + 1 + _ ≤ 201
    omega
  refine ⟨?_, ?_, len⟩
  · unfold okW
    rw [Bool.and_eq_true]
    exact ⟨decide_eq_true (by omega), okWs_append (okWs_append (okWs_ts _) (okWs_mk o2 (by unfold okWs; rfl))) (okWs_ts _)⟩
  · show (badAt ((ts.take a).map tD ++ [d] ++ (ts.drop a).map tD) 0).map (fun n => (n : Int)) = some (a : Int)
    rw [List.append_assoc]
    show (badAt ((ts.take a).map tD ++ d :: (ts.drop a).map tD) 0).map (fun n => (n : Int)) = some (a : Int)
    rw [bad_at o1 _ (ts.take a) 0 fun t ht => h.pw t (List.mem_of_mem_take ht), List.length_take, Nat.min_eq_left ha, Nat.zero_add]
    rfl
/-- no list of terms -/
def odd2L : List D := [.non, .int 3, .str "x", .bl true]
def no3 : D → D
  | .int i => if i = 3 then .str "3" else .int i
  | d => d
def noX : D → D
  | .str z => if z = "x" then .str "X" else .str z
  | d => d
theorem odd2_no : ∀ o ∈ odd2L, okW o = true ∧ badT o = some (-1) ∧ okW (no3 o) = true ∧ isInt (no3 o) = false ∧ okW (noX o) = true ∧ isLet (noX o) = false := by
  intro o ho
  unfold odd2L at ho
  simp only [List.mem_cons, List.not_mem_nil, or_false] at ho
  rcases ho with e | e | e | e <;> subst e <;> exact ⟨by decide +kernel, by decide +kernel, by decide +kernel, by decide +kernel, by decide +kernel, by decide +kernel⟩
def wrongL : List D := [.non, .int 0, .str "z", .str "", .str "xy", .lst [.str "x"], .tup [.str "x"], .bl true]
theorem wrong_no : ∀ o ∈ wrongL, okW o = true ∧ isLet o = false := by
  intro o ho
  unfold wrongL at ho
  simp only [List.mem_cons, List.not_mem_nil, or_false] at ho
  rcases ho with e | e | e | e | e | e | e | e <;> subst e <;> exact ⟨by decide +kernel, by decide +kernel⟩
theorem lookup_setL_ne {p q : Addr} {c : D} (h : p ≠ q) : ∀ L : Led, List.lookup q (setL L p c) = List.lookup q L
  | [] => rfl
  | (z, e) :: L => by
    by_cases hz : z = p
    · show List.lookup q ((if z = p then (p, c) else (z, e)) :: setL L p c) = _
      rw [if_pos hz, lookup_ne (Ne.symm h), lookup_setL_ne h L, lookup_ne (by rw [hz]; exact Ne.symm h)]
    · rw [setL_ne hz]
      by_cases hq : q = z
      · subst hq
        rw [lookup_top, lookup_top]
      · rw [lookup_ne hq, lookup_ne hq, lookup_setL_ne h L]
theorem eq_ky (a b i j : Int) : eqD (.tup [.int a, .int b]) (.tup [.int i, .int j]) = decide (((a, b) : Int × Int) = (i, j)) := by
  show (decide (a = i) && (decide (b = j) && true)) = _
  by_cases h1 : a = i
  · by_cases h2 : b = j
    · rw [h1, h2]; simp
    · rw [decide_eq_false h2, decide_eq_false (p := (a, b) = (i, j)) (fun e => h2 (congrArg Prod.snd e))]; simp
  · rw [decide_eq_false h1, decide_eq_false (p := (a, b) = (i, j)) (fun e => h1 (congrArg Prod.fst e))]; simp
theorem okTwo {i : Int} {y : Str} (h : okP (.lst [.int i, .str y]) = true) : dep (.lst [.int i, .str y]) < 9 := by
  show max 0 (max 0 0) + 1 < 9
  decide
section
variable {P : Program} {w : World} {K : PySem.W.Frag} {mg : Str → Option Value} {base : Heap} {cP : Addr}
local macro_rules | `(tactic| walk_at "w") => `(tactic| conv => whnf)
local macro_rules | `(tactic| walk_at "v") => `(tactic| ((conv => whnf); try dsimp only))
local macro_rules | `(tactic| walk_at "s") => `(tactic| ((conv => whnf); repeat ((first | refine ⟨sz_ok rfl, ?_⟩ | refine ⟨rfl, ?_⟩); conv => whnf)))
def ofP : DSp := fun ds L k _ => ∃ (p : Addr) (b : Bag) (q : Addr) (xs : List D), ds = [.ptr p, .ptr q] ∧ L.lookup q = some (.lst xs) ∧ L.lookup p = some (bagC b) ∧ BagOk b ∧ 0 < xs.length ∧ xs.length < 1000 ∧ p ≠ q ∧ ∀ d b', d ∈ xs → BagOk b' → k d (setL L p (bagC b'))
theorem ok_LOfP {f : Addr} {fd : FuncData} (Z : Zn w K mg cP) (F : Fun K "_law_of" "_law_of" sLOf f fd) (CLPull : Cal P w K mg base 1 "_law_pull" ["_law_bag_here", "_law_many"] [] pullS) : FnOk P w K mg base (L2.CX P w) 2 f fd ["_law_bag_here", "_law_some"] (spD K ofP) := by
  refine fn_ok F scLOf ?len (fun cdv A outer s H E hr => ?_)
  rotate_left
  · have tk := takes_of (X := cxOf (L2.CX P w) P w K mg base ["_law_bag_here", "_law_some"] "_law_of" (defScope sLOf) f cdv A outer s H E) (E := E) rfl rfl rfl rfl
    have hp := passes_of (X := cxOf (L2.CX P w) P w K mg base ["_law_bag_here", "_law_some"] "_law_of" (defScope sLOf) f cdv A outer s H E) rfl
    refine ⟨_, (ss_one (s_ret (q_ixA (qv 1) (q_cal CLPull (by first | decide | exact Nat.le_refl _ | omega) hr tk (by rfl) (a_cons (qv 0) (a_cons (q_callB cq_len (by rfl) Z.z_len bb_len (a_cons (qv 1) a_nil)) a_nil)))))), ?_⟩
    clear tk hp
    rintro ds L k x ⟨p, b, q, xs, rfl, hq, hl, ok, x0, x1, npq, h⟩
    have lg : ∀ n : Nat, 0 < n → n < 1000 → ((n : Int)).natAbs.log2 < 9000 := fun n n0 n1 => by
      rw [Int.natAbs_natCast]
      have : n.log2 < 10 := by
        rw [Nat.log2_lt (by omega)]
        omega
      omega
    walk_at "w"
    rw [show lenD L (.ptr q) = some xs.length from by unfold lenD; rw [con_ptr hq]; rfl]
    walk_at "w"
    refine ⟨p, b, xs.length, rfl, hl, ok, by omega, lg _ x0 x1, fun r b' r0 r1 ok' => ?_⟩
    obtain ⟨n, rfl⟩ := Int.eq_ofNat_of_zero_le r0
    have hn : n < xs.length := by omega
    walk_at "w"
    rw [con_ptr (show List.lookup q (setL L p (bagC b')) = some (.lst xs) from by rw [lookup_setL_ne npq, hq])]
    walk_at "w"
    rw [show atI xs (n : Int) = some xs[n] from atI_nat (List.getElem?_eq_getElem hn)]
    exact h _ b' (List.getElem_mem hn) ok'
  · rintro ds L k x ⟨p, b, q, xs, rfl, _⟩; rfl
def SFLaw0 (cP cT cN cL : Addr) : DSp := fun ds L k x => ∃ (T : D) (n : Int), ds = [T] ∧ okW T = true ∧ badT T = some n ∧ x (itE cT n) L
abbrev FLaw0 : LamF := lamAt (eKid 0 (eKid 0 (eKid 0 (sVal (sAt 20 (sBody (sAt 1 (defBody sLaw)))))))) "law.<locals>.<lambda>" [] ["_law_bad"]
theorem df_FLaw0 : DfOk FLaw0 := ⟨rfl, .inl ⟨rfl, rfl⟩⟩
theorem bf_FLaw0 : BindF FLaw0 := fun _ _ _ _ _ => rfl
theorem ns_FLaw0 : NdefX.NScope ["_law_bad"] [] ["_law_bad"] FLaw0.scope := NdefX.nscope_by (by decide +kernel)
theorem fb_FLaw0 : freeB (defScope sLaw) FLaw0 = true := by decide +kernel
theorem cap_FLaw0 : capB (defScope sLaw) ["_law_script", "_law_bag_here", "_law_turn", "_law_high", "_law_loose", "_law_k", "_law_i", "_law_j", "_law_far", "_law_due", "_law_handed", "_law_made", "_law_powers_z", "_law_wish", "_law_told", "_law_at", "_law_odd", "_law_bad", "_law_asks", "_law_found", "_law_wrong", "_law_one"] FLaw0 [17] = true := by decide +kernel
theorem clo_FLaw0 {cT cN cL : Addr} (K_Poly : KCal P w K mg base 4 "Poly" cP ["self", "terms", "most"] [.int 20] (initX cP cT)) (Z : Zn w K mg cP) : CloOk P w K mg base 8 (fun F' ds L k x => F' = FLaw0 ∧ plnL L = true ∧ plns ds = true ∧ SFLaw0 cP cT cN cL ds L k x) := by
  refine clo_of ns_FLaw0 bf_FLaw0 (fun cl c f A outer s H E hr => ?_)
  have tk := takes_of (X := NdefX.ncx (L2.CX P w) P w K mg base ["_law_bad"] (nfOf FLaw0 cl c) f A outer s H E) (E := E) rfl rfl rfl rfl
  refine ⟨_, (q_makeD K_Poly (by first | decide | exact Nat.le_refl _ | omega) hr tk (by rfl) (a_cons (qv 0) a_nil)), ?_⟩
  clear tk
  rintro ds L k x ⟨T, n, rfl, hw, hb, h⟩
  walk_at "w"
  intro q hq
  refine ⟨q, T, n, rfl, lookup_top, hw, hb, ?_⟩
  walk_at "w"
  rw [remL_top hq]
  exact h
def SFLaw1 (cP cT cN cL : Addr) : DSp := fun ds L k x => ∃ (T : D) (n : Int), ds = [T] ∧ okW T = true ∧ badT T = some n ∧ x (itE cT n) L
abbrev FLaw1 : LamF := lamAt (eKid 0 (sVal (sAt 22 (sBody (sAt 1 (defBody sLaw)))))) "law.<locals>.<lambda>" [] ["_law_odd"]
theorem df_FLaw1 : DfOk FLaw1 := ⟨rfl, .inl ⟨rfl, rfl⟩⟩
theorem bf_FLaw1 : BindF FLaw1 := fun _ _ _ _ _ => rfl
theorem ns_FLaw1 : NdefX.NScope ["_law_odd"] [] ["_law_odd"] FLaw1.scope := NdefX.nscope_by (by decide +kernel)
theorem fb_FLaw1 : freeB (defScope sLaw) FLaw1 = true := by decide +kernel
theorem cap_FLaw1 : capB (defScope sLaw) ["_law_script", "_law_bag_here", "_law_turn", "_law_high", "_law_loose", "_law_k", "_law_i", "_law_j", "_law_far", "_law_due", "_law_handed", "_law_made", "_law_powers_z", "_law_wish", "_law_told", "_law_at", "_law_odd", "_law_bad", "_law_asks", "_law_found", "_law_wrong", "_law_one"] FLaw1 [16] = true := by decide +kernel
theorem clo_FLaw1 {cT cN cL : Addr} (K_Poly : KCal P w K mg base 4 "Poly" cP ["self", "terms", "most"] [.int 20] (initX cP cT)) (Z : Zn w K mg cP) : CloOk P w K mg base 8 (fun F' ds L k x => F' = FLaw1 ∧ plnL L = true ∧ plns ds = true ∧ SFLaw1 cP cT cN cL ds L k x) := by
  refine clo_of ns_FLaw1 bf_FLaw1 (fun cl c f A outer s H E hr => ?_)
  have tk := takes_of (X := NdefX.ncx (L2.CX P w) P w K mg base ["_law_odd"] (nfOf FLaw1 cl c) f A outer s H E) (E := E) rfl rfl rfl rfl
  refine ⟨_, (q_makeD K_Poly (by first | decide | exact Nat.le_refl _ | omega) hr tk (by rfl) (a_cons (qv 0) a_nil)), ?_⟩
  clear tk
  rintro ds L k x ⟨T, n, rfl, hw, hb, h⟩
  walk_at "w"
  intro q hq
  refine ⟨q, T, n, rfl, lookup_top, hw, hb, ?_⟩
  walk_at "w"
  rw [remL_top hq]
  exact h
def SFLaw2 (cP cT cN cL : Addr) : DSp := fun ds L k x => ∃ o : D, ds = [o] ∧ o ∈ odd2L ∧ x (nuE cN (no3 o)) L
abbrev FLaw2 : LamF := lamAt (eKid 1 (sVal (sAt 22 (sBody (sAt 1 (defBody sLaw)))))) "law.<locals>.<lambda>" ["_law_a"] ["_law_odd"]
theorem df_FLaw2 : DfOk FLaw2 := ⟨rfl, .inr ⟨_, _, _, rfl, rfl⟩⟩
theorem bf_FLaw2 : BindF FLaw2 := fun _ _ _ _ _ _ => ⟨_, rfl, fun _ => rfl⟩
theorem ns_FLaw2 : NdefX.NScope ["_law_a", "_law_odd"] ["_law_a"] ["_law_odd"] FLaw2.scope := NdefX.nscope_by (by decide +kernel)
theorem fb_FLaw2 : freeB (defScope sLaw) FLaw2 = true := by decide +kernel
theorem cap_FLaw2 : capB (defScope sLaw) ["_law_script", "_law_bag_here", "_law_turn", "_law_high", "_law_loose", "_law_k", "_law_i", "_law_j", "_law_far", "_law_due", "_law_handed", "_law_made", "_law_powers_z", "_law_wish", "_law_told", "_law_at", "_law_odd", "_law_bad", "_law_asks", "_law_found", "_law_wrong", "_law_one"] FLaw2 [16] = true := by decide +kernel
theorem clo_FLaw2 {cT cN cL : Addr} (ST_Poly_constant : SCal P w K mg base 6 "Poly" cP "constant" ["value"] [] (conS cP cN)) (Z : Zn w K mg cP) : CloOk P w K mg base 8 (fun F' ds L k x => F' = FLaw2 ∧ plnL L = true ∧ plns ds = true ∧ SFLaw2 cP cT cN cL ds L k x) := by
  refine clo_of ns_FLaw2 bf_FLaw2 (fun cl c f A outer s H E hr => ?_)
  have tk := takes_of (X := NdefX.ncx (L2.CX P w) P w K mg base ["_law_a", "_law_odd"] (nfOf FLaw2 cl c) f A outer s H E) (E := E) rfl rfl rfl rfl
  refine ⟨_, (q_stat ST_Poly_constant (by first | decide | exact Nat.le_refl _ | omega) hr tk (by rfl) (a_cons (q_if (t_cmp (oq_neU hr.units) (qv 1) q_int) (qv 1) q_str) a_nil)), ?_⟩
  clear tk
  rintro ds L k x ⟨o, rfl, ho, h⟩
  obtain ⟨w1, w2, w3, w4, w5, w6⟩ := odd2_no o ho
  unfold odd2L at ho
  simp only [List.mem_cons, List.not_mem_nil, or_false] at ho
  rcases ho with e | e | e | e <;> subst e
  · walk_at "w"
    first
      | exact ⟨_, rfl, w3, (fun v e => by cases e), fun _ => h⟩
      | (refine ⟨by decide +kernel, by decide +kernel, ?_⟩
         walk_at "w"
         exact ⟨_, rfl, w3, (fun v e => by cases e), fun _ => h⟩)
  · walk_at "w"
    first
      | exact ⟨_, rfl, w3, (fun v e => by cases e), fun _ => h⟩
      | (refine ⟨by decide +kernel, by decide +kernel, ?_⟩
         walk_at "w"
         exact ⟨_, rfl, w3, (fun v e => by cases e), fun _ => h⟩)
  · walk_at "w"
    first
      | exact ⟨_, rfl, w3, (fun v e => by cases e), fun _ => h⟩
      | (refine ⟨by decide +kernel, by decide +kernel, ?_⟩
         walk_at "w"
         exact ⟨_, rfl, w3, (fun v e => by cases e), fun _ => h⟩)
  · walk_at "w"
    first
      | exact ⟨_, rfl, w3, (fun v e => by cases e), fun _ => h⟩
      | (refine ⟨by decide +kernel, by decide +kernel, ?_⟩
         walk_at "w"
         exact ⟨_, rfl, w3, (fun v e => by cases e), fun _ => h⟩)
def SFLaw3 (cP cT cN cL : Addr) : DSp := fun ds L k x => ∃ o : D, ds = [o] ∧ o ∈ odd2L ∧ x (leE cL (noX o)) L
abbrev FLaw3 : LamF := lamAt (eKid 2 (sVal (sAt 22 (sBody (sAt 1 (defBody sLaw)))))) "law.<locals>.<lambda>" ["_law_b"] ["_law_odd"]
theorem df_FLaw3 : DfOk FLaw3 := ⟨rfl, .inr ⟨_, _, _, rfl, rfl⟩⟩
theorem bf_FLaw3 : BindF FLaw3 := fun _ _ _ _ _ _ => ⟨_, rfl, fun _ => rfl⟩
theorem ns_FLaw3 : NdefX.NScope ["_law_b", "_law_odd"] ["_law_b"] ["_law_odd"] FLaw3.scope := NdefX.nscope_by (by decide +kernel)
theorem fb_FLaw3 : freeB (defScope sLaw) FLaw3 = true := by decide +kernel
theorem cap_FLaw3 : capB (defScope sLaw) ["_law_script", "_law_bag_here", "_law_turn", "_law_high", "_law_loose", "_law_k", "_law_i", "_law_j", "_law_far", "_law_due", "_law_handed", "_law_made", "_law_powers_z", "_law_wish", "_law_told", "_law_at", "_law_odd", "_law_bad", "_law_asks", "_law_found", "_law_wrong", "_law_one"] FLaw3 [16] = true := by decide +kernel
theorem clo_FLaw3 {cT cN cL : Addr} (ST_Poly_letter : SCal P w K mg base 6 "Poly" cP "letter" ["name"] [] (ltrS cP cL)) (Z : Zn w K mg cP) : CloOk P w K mg base 8 (fun F' ds L k x => F' = FLaw3 ∧ plnL L = true ∧ plns ds = true ∧ SFLaw3 cP cT cN cL ds L k x) := by
  refine clo_of ns_FLaw3 bf_FLaw3 (fun cl c f A outer s H E hr => ?_)
  have tk := takes_of (X := NdefX.ncx (L2.CX P w) P w K mg base ["_law_b", "_law_odd"] (nfOf FLaw3 cl c) f A outer s H E) (E := E) rfl rfl rfl rfl
  refine ⟨_, (q_stat ST_Poly_letter (by first | decide | exact Nat.le_refl _ | omega) hr tk (by rfl) (a_cons (q_if (t_cmp (oq_neU hr.units) (qv 1) q_str) (qv 1) q_str) a_nil)), ?_⟩
  clear tk
  rintro ds L k x ⟨o, rfl, ho, h⟩
  obtain ⟨w1, w2, w3, w4, w5, w6⟩ := odd2_no o ho
  unfold odd2L at ho
  simp only [List.mem_cons, List.not_mem_nil, or_false] at ho
  rcases ho with e | e | e | e <;> subst e
  · walk_at "w"
    first
      | exact ⟨_, rfl, w5, (fun e => by first | cases e | exact absurd e (by decide +kernel)), (fun e => by first | cases e | exact absurd e (by decide +kernel)), fun _ => h⟩
      | (refine ⟨by decide +kernel, by decide +kernel, ?_⟩
         walk_at "w"
         exact ⟨_, rfl, w5, (fun e => by first | cases e | exact absurd e (by decide +kernel)), (fun e => by first | cases e | exact absurd e (by decide +kernel)), fun _ => h⟩)
  · walk_at "w"
    first
      | exact ⟨_, rfl, w5, (fun e => by first | cases e | exact absurd e (by decide +kernel)), (fun e => by first | cases e | exact absurd e (by decide +kernel)), fun _ => h⟩
      | (refine ⟨by decide +kernel, by decide +kernel, ?_⟩
         walk_at "w"
         exact ⟨_, rfl, w5, (fun e => by first | cases e | exact absurd e (by decide +kernel)), (fun e => by first | cases e | exact absurd e (by decide +kernel)), fun _ => h⟩)
  · walk_at "w"
    first
      | exact ⟨_, rfl, w5, (fun e => by first | cases e | exact absurd e (by decide +kernel)), (fun e => by first | cases e | exact absurd e (by decide +kernel)), fun _ => h⟩
      | (refine ⟨by decide +kernel, by decide +kernel, ?_⟩
         walk_at "w"
         exact ⟨_, rfl, w5, (fun e => by first | cases e | exact absurd e (by decide +kernel)), (fun e => by first | cases e | exact absurd e (by decide +kernel)), fun _ => h⟩)
  · walk_at "w"
    first
      | exact ⟨_, rfl, w5, (fun e => by first | cases e | exact absurd e (by decide +kernel)), (fun e => by first | cases e | exact absurd e (by decide +kernel)), fun _ => h⟩
      | (refine ⟨by decide +kernel, by decide +kernel, ?_⟩
         walk_at "w"
         exact ⟨_, rfl, w5, (fun e => by first | cases e | exact absurd e (by decide +kernel)), (fun e => by first | cases e | exact absurd e (by decide +kernel)), fun _ => h⟩)
def SFLaw4 (cP cT cN cL : Addr) : DSp := fun ds L k x => ∃ (es : List T3) (d : D), ds = [pD cP es, d] ∧ okW d = true ∧ isLet d = false ∧ x (leE cL d) L
abbrev FLaw4 : LamF := lamAt (eKid 0 (sVal (sAt 26 (sBody (sAt 1 (defBody sLaw)))))) "law.<locals>.<lambda>" [] ["_law_made", "_law_wrong"]
theorem df_FLaw4 : DfOk FLaw4 := ⟨rfl, .inl ⟨rfl, rfl⟩⟩
theorem bf_FLaw4 : BindF FLaw4 := fun _ _ _ _ _ => rfl
theorem ns_FLaw4 : NdefX.NScope ["_law_made", "_law_wrong"] [] ["_law_made", "_law_wrong"] FLaw4.scope := NdefX.nscope_by (by decide +kernel)
theorem fb_FLaw4 : freeB (defScope sLaw) FLaw4 = true := by decide +kernel
theorem cap_FLaw4 : capB (defScope sLaw) ["_law_script", "_law_bag_here", "_law_turn", "_law_high", "_law_loose", "_law_k", "_law_i", "_law_j", "_law_far", "_law_due", "_law_handed", "_law_made", "_law_powers_z", "_law_wish", "_law_told", "_law_at", "_law_odd", "_law_bad", "_law_asks", "_law_found", "_law_wrong", "_law_one"] FLaw4 [11, 20] = true := by decide +kernel
theorem clo_FLaw4 {cT cN cL : Addr} (MPolyDegreeIn : MCal P w K mg base 4 cP "degree_in" ["self", "letter"] [] (dgInX cP cL)) (Z : Zn w K mg cP) : CloOk P w K mg base 8 (fun F' ds L k x => F' = FLaw4 ∧ plnL L = true ∧ plns ds = true ∧ SFLaw4 cP cT cN cL ds L k x) := by
  refine clo_of ns_FLaw4 bf_FLaw4 (fun cl c f A outer s H E hr => ?_)
  have tk := takes_of (X := NdefX.ncx (L2.CX P w) P w K mg base ["_law_made", "_law_wrong"] (nfOf FLaw4 cl c) f A outer s H E) (E := E) rfl rfl rfl rfl
  refine ⟨_, (q_meth MPolyDegreeIn (by first | decide | exact Nat.le_refl _ | omega) hr tk (qv 0) (a_cons (qv 1) a_nil)), ?_⟩
  clear tk
  rintro ds L k x ⟨es, d, rfl, hw, hb, h⟩
  walk_at "w"
  refine ⟨⟨rfl, rfl⟩, ?_⟩
  exact ⟨es, d, rfl, hw, hb, h⟩
def SFLaw5 (cP cT cN cL : Addr) : DSp := fun ds L k x => ∃ (es : List T3) (d : D), ds = [pD cP es, d] ∧ okW d = true ∧ isLet d = false ∧ x (leE cL d) L
abbrev FLaw5 : LamF := lamAt (eKid 1 (sVal (sAt 26 (sBody (sAt 1 (defBody sLaw)))))) "law.<locals>.<lambda>" ["_law_a"] ["_law_made", "_law_wrong"]
theorem df_FLaw5 : DfOk FLaw5 := ⟨rfl, .inr ⟨_, _, _, rfl, rfl⟩⟩
theorem bf_FLaw5 : BindF FLaw5 := fun _ _ _ _ _ _ => ⟨_, rfl, fun _ => rfl⟩
theorem ns_FLaw5 : NdefX.NScope ["_law_a", "_law_made", "_law_wrong"] ["_law_a"] ["_law_made", "_law_wrong"] FLaw5.scope := NdefX.nscope_by (by decide +kernel)
theorem fb_FLaw5 : freeB (defScope sLaw) FLaw5 = true := by decide +kernel
theorem cap_FLaw5 : capB (defScope sLaw) ["_law_script", "_law_bag_here", "_law_turn", "_law_high", "_law_loose", "_law_k", "_law_i", "_law_j", "_law_far", "_law_due", "_law_handed", "_law_made", "_law_powers_z", "_law_wish", "_law_told", "_law_at", "_law_odd", "_law_bad", "_law_asks", "_law_found", "_law_wrong", "_law_one"] FLaw5 [11, 20] = true := by decide +kernel
theorem clo_FLaw5 {cT cN cL : Addr} (MPolySlope : MCal P w K mg base 7 cP "slope" ["self", "letter"] [] (slopeX cP cL)) (Z : Zn w K mg cP) : CloOk P w K mg base 8 (fun F' ds L k x => F' = FLaw5 ∧ plnL L = true ∧ plns ds = true ∧ SFLaw5 cP cT cN cL ds L k x) := by
  refine clo_of ns_FLaw5 bf_FLaw5 (fun cl c f A outer s H E hr => ?_)
  have tk := takes_of (X := NdefX.ncx (L2.CX P w) P w K mg base ["_law_a", "_law_made", "_law_wrong"] (nfOf FLaw5 cl c) f A outer s H E) (E := E) rfl rfl rfl rfl
  refine ⟨_, (q_meth MPolySlope (by first | decide | exact Nat.le_refl _ | omega) hr tk (qv 1) (a_cons (qv 2) a_nil)), ?_⟩
  clear tk
  rintro ds L k x ⟨es, d, rfl, hw, hb, h⟩
  walk_at "w"
  refine ⟨⟨rfl, rfl⟩, ?_⟩
  exact ⟨es, d, rfl, hw, hb, h⟩
def SFLaw6 (cP cT cN cL : Addr) : DSp := fun ds L k x => ∃ d : D, ds = [d] ∧ okW d = true ∧ isLet d = false ∧ x (leE cL d) L
abbrev FLaw6 : LamF := lamAt (eKid 2 (sVal (sAt 26 (sBody (sAt 1 (defBody sLaw)))))) "law.<locals>.<lambda>" ["_law_b"] ["_law_wrong"]
theorem df_FLaw6 : DfOk FLaw6 := ⟨rfl, .inr ⟨_, _, _, rfl, rfl⟩⟩
theorem bf_FLaw6 : BindF FLaw6 := fun _ _ _ _ _ _ => ⟨_, rfl, fun _ => rfl⟩
theorem ns_FLaw6 : NdefX.NScope ["_law_b", "_law_wrong"] ["_law_b"] ["_law_wrong"] FLaw6.scope := NdefX.nscope_by (by decide +kernel)
theorem fb_FLaw6 : freeB (defScope sLaw) FLaw6 = true := by decide +kernel
theorem cap_FLaw6 : capB (defScope sLaw) ["_law_script", "_law_bag_here", "_law_turn", "_law_high", "_law_loose", "_law_k", "_law_i", "_law_j", "_law_far", "_law_due", "_law_handed", "_law_made", "_law_powers_z", "_law_wish", "_law_told", "_law_at", "_law_odd", "_law_bad", "_law_asks", "_law_found", "_law_wrong", "_law_one"] FLaw6 [20] = true := by decide +kernel
theorem clo_FLaw6 {cT cN cL : Addr} (ST_Poly_letter : SCal P w K mg base 6 "Poly" cP "letter" ["name"] [] (ltrS cP cL)) (Z : Zn w K mg cP) : CloOk P w K mg base 8 (fun F' ds L k x => F' = FLaw6 ∧ plnL L = true ∧ plns ds = true ∧ SFLaw6 cP cT cN cL ds L k x) := by
  refine clo_of ns_FLaw6 bf_FLaw6 (fun cl c f A outer s H E hr => ?_)
  have tk := takes_of (X := NdefX.ncx (L2.CX P w) P w K mg base ["_law_b", "_law_wrong"] (nfOf FLaw6 cl c) f A outer s H E) (E := E) rfl rfl rfl rfl
  refine ⟨_, (q_stat ST_Poly_letter (by first | decide | exact Nat.le_refl _ | omega) hr tk (by rfl) (a_cons (qv 1) a_nil)), ?_⟩
  clear tk
  rintro ds L k x ⟨d, rfl, hw, hb, h⟩
  walk_at "w"
  exact ⟨d, rfl, hw, (fun e => by rw [e] at hb; exact absurd hb (by decide +kernel)), (fun e => by rw [e] at hb; exact absurd hb (by decide +kernel)), fun _ => h⟩
def lamG (cP cT cN cL : Addr) : LamF → DSp := fun F' ds L k x => ((F' = FLaw0 ∧ plnL L = true ∧ plns ds = true ∧ SFLaw0 cP cT cN cL ds L k x) ∨ ((F' = FLaw1 ∧ plnL L = true ∧ plns ds = true ∧ SFLaw1 cP cT cN cL ds L k x) ∨ ((F' = FLaw2 ∧ plnL L = true ∧ plns ds = true ∧ SFLaw2 cP cT cN cL ds L k x) ∨ ((F' = FLaw3 ∧ plnL L = true ∧ plns ds = true ∧ SFLaw3 cP cT cN cL ds L k x) ∨ ((F' = FLaw4 ∧ plnL L = true ∧ plns ds = true ∧ SFLaw4 cP cT cN cL ds L k x) ∨ ((F' = FLaw5 ∧ plnL L = true ∧ plns ds = true ∧ SFLaw5 cP cT cN cL ds L k x) ∨ (F' = FLaw6 ∧ plnL L = true ∧ plns ds = true ∧ SFLaw6 cP cT cN cL ds L k x)))))))
theorem clo_all {cT cN cL : Addr} (K_Poly : KCal P w K mg base 4 "Poly" cP ["self", "terms", "most"] [.int 20] (initX cP cT)) (ST_Poly_constant : SCal P w K mg base 6 "Poly" cP "constant" ["value"] [] (conS cP cN)) (ST_Poly_letter : SCal P w K mg base 6 "Poly" cP "letter" ["name"] [] (ltrS cP cL)) (MPolyDegreeIn : MCal P w K mg base 4 cP "degree_in" ["self", "letter"] [] (dgInX cP cL)) (MPolySlope : MCal P w K mg base 7 cP "slope" ["self", "letter"] [] (slopeX cP cL)) (Z : Zn w K mg cP) : CloOk P w K mg base 8 (lamG cP cT cN cL) := (CloOk.or (clo_FLaw0 K_Poly Z) (CloOk.or (clo_FLaw1 K_Poly Z) (CloOk.or (clo_FLaw2 ST_Poly_constant Z) (CloOk.or (clo_FLaw3 ST_Poly_letter Z) (CloOk.or (clo_FLaw4 MPolyDegreeIn Z) (CloOk.or (clo_FLaw5 MPolySlope Z) (clo_FLaw6 ST_Poly_letter Z)))))))
end
end T05
namespace T05
open PySem L2 DL PO
section
variable {P : Program} {w : World} {K : PySem.W.Frag} {mg : Str → Option Value} {base : Heap} {cP : Addr}
local macro_rules | `(tactic| walk_at "w") => `(tactic| conv => whnf)
local macro_rules | `(tactic| walk_at "v") => `(tactic| ((conv => whnf); try dsimp only))
local macro_rules | `(tactic| walk_at "s") => `(tactic| ((conv => whnf); repeat ((first | refine ⟨sz_ok rfl, ?_⟩ | refine ⟨rfl, ?_⟩); conv => whnf)))
theorem scLaw : FnScope ["_law_script", "_law_bag_here", "_law_turn", "_law_high", "_law_loose", "_law_k", "_law_i", "_law_j", "_law_far", "_law_due", "_law_handed", "_law_made", "_law_powers_z", "_law_wish", "_law_told", "_law_at", "_law_odd", "_law_bad", "_law_asks", "_law_found", "_law_wrong", "_law_one"] ["_law_script"] (defScope sLaw) := ⟨rfl, rfl, rfl, by decide +kernel, rfl, by decide +kernel, by decide +kernel⟩
theorem ok_Law {cT cN cL cPE cMI cNL : Addr} {f c Pt : Addr} {oc kV doc pm ct : Value} {od an : Option Addr} {osl : Array (Option Value)} (Z : Zn w K mg cP) (lk : K.lookup f = some ⟨oc, od, .func (PySem.W.fnOf "law" "law" (defArgs sLaw) (defBody sLaw) (defScope sLaw) .none kV doc pm an (.ref c) ct), osl⟩) (hcd : PySem.W.codeIn K (.ref c) "law" = true) (TB : LamX.TabB base mg c Pt) (CLBag : Cal P w K mg base 1 "_law_bag" ["_law_script"] [] bagS) (CLPull : Cal P w K mg base 1 "_law_pull" ["_law_bag_here", "_law_many"] [] pullS) (CLOf : Cal P w K mg base 2 "_law_of" ["_law_bag_here", "_law_some"] [] ofA) (CLGathered : Cal P w K mg base 1 "_law_gathered" ["_law_terms_z"] [] gathS) (CLDegree : Cal P w K mg base 1 "_law_degree" ["_law_terms_z"] [] ldegS) (CLPolyText : Cal P w K mg base 2 "_law_poly_text" ["_law_terms_z"] [] polyTS) (CLSame : Cal P w K mg base 9 "_law_same" ["_law_found", "_law_due"] [] (sameS 9)) (CLTry : Cal P w K mg base 9 "_law_try" ["_law_ask"] [] (tryS K [.ref cPE, .ref cMI, .ref cNL] (lamG cP cT cN cL))) (CLTries : Cal P w K mg base 10 "_law_tries" ["_law_asks"] [] (triesS K [.ref cPE, .ref cMI, .ref cNL] (lamG cP cT cN cL))) (CLOfM : Cal P w K mg base 2 "_law_of" ["_law_bag_here", "_law_some"] [] ofP) (K_Poly : KCal P w K mg base 4 "Poly" cP ["self", "terms", "most"] [.int 20] (initS cP)) (MPolyTerms : MCal P w K mg base 1 cP "terms" ["self"] [] (tellS cP)) (MPolyTermsM : MCal P w K mg base 1 cP "terms" ["self"] [] (tellM cP)) (MPolyDegreeIn : MCal P w K mg base 4 cP "degree_in" ["self", "letter"] [] (dgInS cP)) (MPolyLead : MCal P w K mg base 1 cP "lead" ["self"] [] (leadS cP)) (MPolyCoefficient : MCal P w K mg base 1 cP "coefficient" ["self", "i", "j"] [] (coefS cP)) (MPolyRepr : MCal P w K mg base 4 cP "__repr__" ["self"] [] (reprS cP)) (MPolyEq : MCal P w K mg base 1 cP "__eq__" ["self", "other"] [] (eq2S cP)) (MPolyBool : MCal P w K mg base 1 cP "__bool__" ["self"] [] (boolS cP)) (MK_PolyDegreeIn_letter : MCalK P w K mg base 4 cP "degree_in" ["letter"] [] (fun a b _ => a ++ b) (dgInS cP)) (P_degree : PropM P w K mg base 1 cP "degree" (degS cP)) (NePoly : NeC K cP) (W_Poly : KCalW P w K mg base 4 "Poly" cP [] [.tup [], .int 20] (fun a _ c => a ++ c) (initS cP)) (W_Poly_terms : KCalW P w K mg base 4 "Poly" cP ["terms"] [.int 20] (fun a b c => a ++ b ++ c) (initS cP)) (SK_Poly_letter : SCalK P w K mg base 6 "Poly" cP "letter" ["name"] [] (fun a b _ => a ++ b) (ltrS cP cL)) (SK_Poly_constant : SCalK P w K mg base 6 "Poly" cP "constant" ["value"] [] (fun a b _ => a ++ b) (conS cP cN)) (IB : InsC K cP) (nf : PySem.W.notFirst K cP (.ref cP) = true) (nfL : PySem.W.notFirst K cP (.type "list") = true) (hIT : PySem.W.exmAny K (.ref cT) [.ref cPE, .ref cMI, .ref cNL] = some true) (fIT : FldOk K cT "code" ∧ FldOk K cT "at") (hIN : PySem.W.exmAny K (.ref cN) [.ref cPE, .ref cMI, .ref cNL] = some true) (fIN : FldOk K cN "code" ∧ FldOk K cN "given") (hIL : PySem.W.exmAny K (.ref cL) [.ref cPE, .ref cMI, .ref cNL] = some true) (fIL : FldOk K cL "code" ∧ FldOk K cL "given") : FnOk P w K mg base (L2.CX P w) 16 f (PySem.W.fnOf "law" "law" (defArgs sLaw) (defBody sLaw) (defScope sLaw) .none kV doc pm an (.ref c) ct) ["_law_script"] (spD K (lawS Pt)) := by
  refine fn_okC lk hcd scLaw ?len (fun A outer s H E hr => ?_)
  rotate_left
  · have tk := takes_of (X := cxOf (L2.CX P w) P w K mg base ["_law_script", "_law_bag_here", "_law_turn", "_law_high", "_law_loose", "_law_k", "_law_i", "_law_j", "_law_far", "_law_due", "_law_handed", "_law_made", "_law_powers_z", "_law_wish", "_law_told", "_law_at", "_law_odd", "_law_bad", "_law_asks", "_law_found", "_law_wrong", "_law_one"] "law" (defScope sLaw) f (.ref c) A outer s H E) (E := E) rfl rfl rfl rfl
    have hp := passes_of (X := cxOf (L2.CX P w) P w K mg base ["_law_script", "_law_bag_here", "_law_turn", "_law_high", "_law_loose", "_law_k", "_law_i", "_law_j", "_law_far", "_law_due", "_law_handed", "_law_made", "_law_powers_z", "_law_wish", "_law_told", "_law_at", "_law_odd", "_law_bad", "_law_asks", "_law_found", "_law_wrong", "_law_one"] "law" (defScope sLaw) f (.ref c) A outer s H E) rfl
    have hcode : (cxOf (L2.CX P w) P w K mg base ["_law_script", "_law_bag_here", "_law_turn", "_law_high", "_law_loose", "_law_k", "_law_i", "_law_j", "_law_far", "_law_due", "_law_handed", "_law_made", "_law_powers_z", "_law_wish", "_law_told", "_law_at", "_law_odd", "_law_bad", "_law_asks", "_law_found", "_law_wrong", "_law_one"] "law" (defScope sLaw) f (.ref c) A outer s H E).env.code = .ref c := rfl
    refine ⟨_, (ss_cons (s_set 1 scLaw.nd (q_cal CLBag (by first | decide | exact Nat.le_refl _ | omega) hr tk (by rfl) (a_cons (qv 0) a_nil)))
  (ss_cons (s_for hp rfl (i_range1 (by rfl) Z.z_range (a_cons q_int a_nil)) (g_name 2 scLaw.nd) (ss_cons (s_set 3 scLaw.nd (q_cal CLOf (by first | decide | exact Nat.le_refl _ | omega) hr tk (by rfl) (a_cons (qv 1) (a_cons (q_lst (a_cons q_int (a_cons q_int (a_cons q_int a_nil)))) a_nil))))
  (ss_cons (s_set 4 scLaw.nd (q_lstM a_nil))
  (ss_cut (s_for hp rfl (i_range1 (by rfl) Z.z_range (a_cons (q_cal CLPull (by first | decide | exact Nat.le_refl _ | omega) hr tk (by rfl) (a_cons (qv 1) (a_cons q_int a_nil))) a_nil)) (g_name 5 scLaw.nd) (ss_one (s_expr (q_append (qv 4) (q_tup (a_cons (q_cal CLPull (by first | decide | exact Nat.le_refl _ | omega) hr tk (by rfl) (a_cons (qv 1) (a_cons (q_op oq_add (qv 3) q_int) a_nil))) (a_cons (q_cal CLPull (by first | decide | exact Nat.le_refl _ | omega) hr tk (by rfl) (a_cons (qv 1) (a_cons (q_op oq_add (qv 3) q_int) a_nil))) (a_cons (q_op oq_sub (q_cal CLPull (by first | decide | exact Nat.le_refl _ | omega) hr tk (by rfl) (a_cons (qv 1) (a_cons q_int a_nil))) q_int) a_nil))))))))
  (ss_cut (s_sealA 4 (s_if (w_and (t_cmp (oq_neE hr.units) (qv 4) (q_lst a_nil)) (w_and1 (t_cmp (oq_eqU hr.units) (q_cal CLPull (by first | decide | exact Nat.le_refl _ | omega) hr tk (by rfl) (a_cons (qv 1) (a_cons q_int a_nil))) q_int))).t (ss_cons (s_asg (q_cal CLOfM (by first | decide | exact Nat.le_refl _ | omega) hr tk (by rfl) (a_cons (qv 1) (a_cons (qv 4) a_nil))) (g_tup (n := 3) rfl (gs_cons (g_name 6 scLaw.nd) (gs_cons (g_name 7 scLaw.nd) (gs_cons (g_name 8 scLaw.nd) gs_nil)))))
  (ss_one (s_expr (q_append (qv 4) (q_tup (a_cons (qv 6) (a_cons (qv 7) (a_cons (q_op oq_sub q_int (qv 8)) a_nil)))))))) ss_nil))
  (ss_cons (s_set 9 scLaw.nd (q_cal CLGathered (by first | decide | exact Nat.le_refl _ | omega) hr tk (by rfl) (a_cons (qv 4) a_nil)))
  (ss_cons (s_set 10 scLaw.nd (q_listM (by rfl) Z.z_list (a_cons (qv 4) a_nil)))
  (ss_cons (s_set 11 scLaw.nd (q_lend 10 (q_makeD K_Poly (by first | decide | exact Nat.le_refl _ | omega) hr tk (by rfl) (a_cons (qv 10) a_nil))))
  (ss_cut (s_sealA 10 (s_expr (q_append (qv 10) (q_tup (a_cons q_int (a_cons q_int (a_cons q_int a_nil)))))))
  (ss_cons (s_setLc 12 rfl scLaw.nd (i_range1 (by rfl) Z.z_range (a_cons q_int a_nil)) (blkOk_by (own := [("_law_k", 5)]) (N := ["_law_script", "_law_bag_here", "_law_turn", "_law_high", "_law_loose", "_law_k", "_law_i", "_law_j", "_law_far", "_law_due", "_law_handed", "_law_made", "_law_powers_z", "_law_wish", "_law_told", "_law_at", "_law_odd", "_law_bad", "_law_asks", "_law_found", "_law_wrong", "_law_one"]) (sc := (defScope sLaw)) (by decide +kernel)) (fun _ _ _ _ _ => (g_name 5 scLaw.nd)) (fun _ _ _ _ _ => ts_nil) (fun _ _ _ _ _ => (q_callB (cq_maxL rfl) (by rfl) Z.z_max bb_max (a_cons (q_op oq_add (q_lst (a_cons (q_neg q_int) a_nil)) (q_lc rfl scLaw.nd (i_list (qv 9)) (blkOk_by (own := [("_law_one", 21)]) (N := ["_law_script", "_law_bag_here", "_law_turn", "_law_high", "_law_loose", "_law_k", "_law_i", "_law_j", "_law_far", "_law_due", "_law_handed", "_law_made", "_law_powers_z", "_law_wish", "_law_told", "_law_at", "_law_odd", "_law_bad", "_law_asks", "_law_found", "_law_wrong", "_law_one"]) (by rfl)) (fun _ _ _ _ _ => (g_name 21 scLaw.nd)) (fun _ _ _ _ _ => ts_nil) (fun _ _ _ _ _ => (q_ix (qv 21) (qv 5))))) a_nil))) (sw_true rfl rfl rfl (by decide +kernel)))
  (ss_cons (s_asg (q_tup (a_cons (q_cal CLPull (by first | decide | exact Nat.le_refl _ | omega) hr tk (by rfl) (a_cons (qv 1) (a_cons (q_op oq_add (qv 3) q_int) a_nil))) (a_cons (q_cal CLPull (by first | decide | exact Nat.le_refl _ | omega) hr tk (by rfl) (a_cons (qv 1) (a_cons (q_op oq_add (qv 3) q_int) a_nil))) a_nil))) (g_tup (n := 2) rfl (gs_cons (g_name 6 scLaw.nd) (gs_cons (g_name 7 scLaw.nd) gs_nil))))
  (ss_cut (s_setLc 13 rfl scLaw.nd (i_list (qv 9)) (blkOk_by (own := [("_law_one", 21)]) (N := ["_law_script", "_law_bag_here", "_law_turn", "_law_high", "_law_loose", "_law_k", "_law_i", "_law_j", "_law_far", "_law_due", "_law_handed", "_law_made", "_law_powers_z", "_law_wish", "_law_told", "_law_at", "_law_odd", "_law_bad", "_law_asks", "_law_found", "_law_wrong", "_law_one"]) (sc := (defScope sLaw)) (by decide +kernel)) (fun _ _ _ _ _ => (g_name 21 scLaw.nd)) (fun _ _ _ _ _ => (ts_one (t_cmp (oq_eqU hr.units) (q_slice (qv 21) o_none (o_some q_int)) (q_tup (a_cons (qv 6) (a_cons (qv 7) a_nil)))))) (fun _ _ _ _ _ => (q_ix (qv 21) q_int)) (sw_true rfl rfl rfl (by decide +kernel)))
  (ss_cons (s_set 14 scLaw.nd (q_lst (a_cons (q_meth0 MPolyTerms (by first | decide | exact Nat.le_refl _ | omega) hr tk (qv 11)) (a_cons (q_propM P_degree (by first | decide | exact Nat.le_refl _ | omega) hr (qv 11)) (a_cons (q_meth MPolyDegreeIn (by first | decide | exact Nat.le_refl _ | omega) hr tk (qv 11) (a_cons q_str a_nil)) (a_cons (q_methK MK_PolyDegreeIn_letter (by first | decide | exact Nat.le_refl _ | omega) hr tk (qv 11) (k_cons q_str k_nil)) (a_cons (q_meth0 MPolyLead (by first | decide | exact Nat.le_refl _ | omega) hr tk (qv 11)) (a_cons (q_boolO MPolyBool (by first | decide | omega) hr (by rfl) Z.z_bool (qv 11)) a_nil))))))))
  (ss_cut (s_if (t_not (t_val (q_cal CLSame (by first | decide | exact Nat.le_refl _ | omega) hr tk (by rfl) (a_cons (qv 14) (a_cons (q_lst (a_cons (qv 9) (a_cons (q_cal CLDegree (by first | decide | exact Nat.le_refl _ | omega) hr tk (by rfl) (a_cons (qv 9) a_nil)) (a_cons (q_ix (qv 12) q_int) (a_cons (q_ix (qv 12) q_int) (a_cons (q_if (t_cmp (oq_neE hr.units) (qv 9) (q_lst a_nil)) (q_ix (q_ix (qv 9) (q_op oq_sub (q_callB cq_len (by rfl) Z.z_len bb_len (a_cons (qv 9) a_nil)) q_int)) q_int) q_int) (a_cons (q_cmp (oq_neE hr.units) (qv 9) (q_lst a_nil)) a_nil))))))) a_nil))))) (ss_one (s_ret q_bl)) ss_nil)
  (ss_cut (s_if (t_not (t_val (q_cal CLSame (by first | decide | exact Nat.le_refl _ | omega) hr tk (by rfl) (a_cons (q_lst (a_cons (q_meth MPolyCoefficient (by first | decide | exact Nat.le_refl _ | omega) hr tk (qv 11) (a_cons (qv 6) (a_cons (qv 7) a_nil))) (a_cons (q_reprO MPolyRepr (by first | decide | omega) hr hr.units (by rfl) Z.z_repr (qv 11)) a_nil))) (a_cons (q_lst (a_cons (q_if (t_cmp (oq_neE hr.units) (qv 13) (q_lst a_nil)) (q_ix (qv 13) q_int) q_int) (a_cons (q_op oq_add (q_op oq_add q_str (q_cal CLPolyText (by first | decide | exact Nat.le_refl _ | omega) hr tk (by rfl) (a_cons (qv 9) a_nil))) q_str) a_nil))) a_nil))))) (ss_one (s_ret q_bl)) ss_nil)
  (ss_cut (s_forget (s_expr (q_append (q_meth0 MPolyTermsM (by first | decide | exact Nat.le_refl _ | omega) hr tk (qv 11)) q_non)))
  (ss_cut (s_if (w_or (t_neO (K := K) rfl MPolyEq NePoly (by first | decide | omega) hr (qv 11) (q_sealE (q_makeW W_Poly_terms (by first | decide | exact Nat.le_refl _ | omega) hr tk (by rfl) (k_cons (q_callTy cq_tuple (by rfl) Z.z_tuple bb_tuple (a_cons (q_revL (qv 4)) a_nil)) k_nil)))) (w_or (t_eqO (K := K) rfl MPolyEq (by first | decide | omega) hr (qv 11) (qv 9)) (w_or1 (t_not (t_val (q_cal CLSame (by first | decide | exact Nat.le_refl _ | omega) hr tk (by rfl) (a_cons (q_meth0 MPolyTerms (by first | decide | exact Nat.le_refl _ | omega) hr tk (qv 11)) (a_cons (qv 9) a_nil)))))))).t (ss_one (s_ret q_bl)) ss_nil)
  (ss_cut (s_if (w_or (t_cmp oq_notB (q_eqO (K := K) rfl MPolyEq (by first | decide | omega) hr (qv 11) (q_makeD K_Poly (by first | decide | exact Nat.le_refl _ | omega) hr tk (by rfl) (a_cons (q_op oq_add (qv 4) (q_lst (a_cons (q_tup (a_cons q_int (a_cons q_int (a_cons q_int a_nil)))) a_nil))) a_nil))) q_bl) (w_or1 (t_neO (K := K) rfl MPolyEq NePoly (by first | decide | omega) hr (q_makeD K_Poly (by first | decide | exact Nat.le_refl _ | omega) hr tk (by rfl) (a_cons (q_op oq_add (qv 4) (q_lst (a_cons (q_tup (a_cons q_int (a_cons q_int (a_cons q_int a_nil)))) a_nil))) a_nil)) (qv 11)))).t (ss_one (s_ret q_bl)) ss_nil)
  (ss_cons (s_set 15 scLaw.nd (q_cal CLPull (by first | decide | exact Nat.le_refl _ | omega) hr tk (by rfl) (a_cons (qv 1) (a_cons (q_op oq_add (q_callB cq_len (by rfl) Z.z_len bb_len (a_cons (qv 4) a_nil)) q_int) a_nil))))
  (ss_cons (s_set 16 scLaw.nd (q_cal CLOf (by first | decide | exact Nat.le_refl _ | omega) hr tk (by rfl) (a_cons (qv 1) (a_cons (q_lst (a_cons q_non (a_cons q_int (a_cons (q_tup (a_cons q_int (a_cons q_int a_nil))) (a_cons (q_tup (a_cons q_int (a_cons q_int (a_cons q_int (a_cons q_int a_nil))))) (a_cons (q_lst (a_cons q_int (a_cons q_int (a_cons q_int a_nil)))) (a_cons (q_tup (a_cons (q_neg q_int) (a_cons q_int (a_cons q_int a_nil)))) (a_cons (q_tup (a_cons q_int (a_cons q_int (a_cons q_int a_nil)))) (a_cons (q_tup (a_cons q_int (a_cons q_int (a_cons q_int a_nil)))) (a_cons (q_tup (a_cons q_bl (a_cons q_int (a_cons q_int a_nil)))) (a_cons (q_tup (a_cons q_int (a_cons q_int (a_cons q_bl a_nil)))) (a_cons (q_tup (a_cons q_int (a_cons q_int (a_cons q_str a_nil)))) (a_cons (q_tup (a_cons q_int (a_cons q_str (a_cons q_int a_nil)))) a_nil))))))))))))) a_nil))))
  (ss_cut (s_set 17 scLaw.nd (q_op oq_add (q_op oq_add (q_slice (qv 4) o_none (o_some (qv 15))) (q_lst (a_cons (qv 16) a_nil))) (q_slice (qv 4) (o_some (qv 15)) o_none)))
  (ss_cut (s_if (t_not (t_val (q_cal CLSame (by first | decide | exact Nat.le_refl _ | omega) hr tk (by rfl) (a_cons (q_calC CLTry (by first | decide | exact Nat.le_refl _ | omega) hr tk (fun _ => rfl) (by rfl) (a_cons (q_lam (F := FLaw0) TB hcode df_FLaw0 (hfree := fb_FLaw0)) a_nil)) (a_cons (q_tup (a_cons q_str (a_cons (qv 15) a_nil))) a_nil))))) (ss_one (s_ret q_bl)) ss_nil)
  (ss_cons (s_set 16 scLaw.nd (q_cal CLOf (by first | decide | exact Nat.le_refl _ | omega) hr tk (by rfl) (a_cons (qv 1) (a_cons (q_lst (a_cons q_non (a_cons q_int (a_cons q_str (a_cons q_bl a_nil))))) a_nil))))
  (ss_cons (s_set 18 scLaw.nd (q_lst (a_cons (q_lam (F := FLaw1) TB hcode df_FLaw1 (hfree := fb_FLaw1)) (a_cons (q_lam (F := FLaw2) TB hcode df_FLaw2 (hfree := fb_FLaw2)) (a_cons (q_lam (F := FLaw3) TB hcode df_FLaw3 (hfree := fb_FLaw3)) a_nil)))))
  (ss_cons (s_set 19 scLaw.nd (q_calC CLTries (by first | decide | exact Nat.le_refl _ | omega) hr tk (fun _ => rfl) (by rfl) (a_cons (qv 18) a_nil)))
  (ss_cut (s_if (t_cmp (oq_neU hr.units) (qv 19) (q_lst (a_cons (q_tup (a_cons q_str (a_cons (q_neg q_int) a_nil))) (a_cons (q_tup (a_cons q_str (a_cons (q_if (t_cmp (oq_neU hr.units) (qv 16) q_int) (qv 16) q_str) a_nil))) (a_cons (q_tup (a_cons q_str (a_cons (q_if (t_cmp (oq_neU hr.units) (qv 16) q_str) (qv 16) q_str) a_nil))) a_nil))))) (ss_one (s_ret q_bl)) ss_nil)
  (ss_cons (s_set 20 scLaw.nd (q_cal CLOf (by first | decide | exact Nat.le_refl _ | omega) hr tk (by rfl) (a_cons (qv 1) (a_cons (q_lst (a_cons q_non (a_cons q_int (a_cons q_str (a_cons q_str (a_cons q_str (a_cons (q_lst (a_cons q_str a_nil)) (a_cons (q_tup (a_cons q_str a_nil)) (a_cons q_bl a_nil))))))))) a_nil))))
  (ss_cons (s_set 18 scLaw.nd (q_lst (a_cons (q_lam (F := FLaw4) TB hcode df_FLaw4 (hfree := fb_FLaw4)) (a_cons (q_lam (F := FLaw5) TB hcode df_FLaw5 (hfree := fb_FLaw5)) (a_cons (q_lam (F := FLaw6) TB hcode df_FLaw6 (hfree := fb_FLaw6)) a_nil)))))
  (ss_one (s_if (t_not (t_val (q_cal CLSame (by first | decide | exact Nat.le_refl _ | omega) hr tk (by rfl) (a_cons (q_calC CLTries (by first | decide | exact Nat.le_refl _ | omega) hr tk (fun _ => rfl) (by rfl) (a_cons (qv 18) a_nil)) (a_cons (q_op oq_rep (q_lst (a_cons (q_tup (a_cons q_str (a_cons (qv 20) a_nil))) a_nil)) q_int) a_nil))))) (ss_one (s_ret q_bl)) ss_nil))))))))))))))))))))))))))))))
  (ss_one (s_ret (q_and (q_cmp (oq_eqE hr.units) (q_meth0 MPolyTerms (by first | decide | exact Nat.le_refl _ | omega) hr tk (q_sealE (q_make00 W_Poly (by first | decide | exact Nat.le_refl _ | omega) hr tk (by rfl)))) (q_lst a_nil)) (q_and (q_cmp (oq_eqU hr.units) (q_meth0 MPolyTerms (by first | decide | exact Nat.le_refl _ | omega) hr tk (q_statK SK_Poly_letter (by first | decide | exact Nat.le_refl _ | omega) hr tk (by rfl) (k_cons q_str k_nil))) (q_lst (a_cons (q_tup (a_cons q_int (a_cons q_int (a_cons q_int a_nil)))) a_nil))) (q_one (q_eqO (K := K) rfl MPolyEq (by first | decide | omega) hr (q_statK SK_Poly_constant (by first | decide | exact Nat.le_refl _ | omega) hr tk (by rfl) (k_cons q_int k_nil)) (q_sealE (q_make00 W_Poly (by first | decide | exact Nat.le_refl _ | omega) hr tk (by rfl))))))))))), ?_⟩
    clear tk hp hcode
    rintro ds L k x ⟨ns, rfl, rfl, h⟩
    walk_at "w"
    refine ⟨ns, rfl, fun p b0 hp ok0 => ?_⟩
    have np : Pt ≠ p := fun e => hp (by rw [← e]; simp [inL])
    have sp : ∀ c d, setL [(p, c), (Pt, .tab "law.<locals>.<lambda>")] p d = [(p, d), (Pt, .tab "law.<locals>.<lambda>")] := fun c d => setL_top hp
    have hPt : ∀ c, List.lookup Pt [(p, c), (Pt, D.tab "law.<locals>.<lambda>")] = some (.tab "law.<locals>.<lambda>") := fun c => by rw [lookup_ne np]; exact lookup_top
    have pL : ∀ b, plnL [(p, bagC b), (Pt, .tab "law.<locals>.<lambda>")] = true := fun b => by
      show plns [bagC b, .tab "law.<locals>.<lambda>"] = true
      unfold plns
      rw [pln_bag b]
      rfl
    have caught : ∀ (C : Addr) (f : Str) (v : D) (code : Str) (kk : D → Prop), PySem.W.exmAny K (.ref C) [.ref cPE, .ref cMI, .ref cNL] = some true → FldTab code f → FldOk K C "code" → FldOk K C f → kk (.tup [.str code, v]) → Caught K [.ref cPE, .ref cMI, .ref cNL] (exn1 C f v code) kk := fun C f v code kk h1 h2 h3 h4 hk => ⟨C, code, v, rfl, h1, .one h2 h3 h4, hk⟩
    walk_at "w"
    refine ⟨⟨by decide, by decide⟩, ?_⟩
    refine forD_rec (fun r env L => ∃ (b : Bag) (o2 o3 o4 o5 o6 o7 o8 o9 o10 o11 o12 o13 o14 o15 o16 o17 o18 o19 o20 o21 : Option D), BagOk b ∧ env = [some (.ro (ns.map .int)), some (.ptr p), o2, o3, o4, o5, o6, o7, o8, o9, o10, o11, o12, o13, o14, o15, o16, o17, o18, o19, o20, o21] ∧ L = [(p, bagC b), (Pt, .tab "law.<locals>.<lambda>")]) ?step ?fin _ _ _ ⟨b0, none, none, none, none, none, none, none, none, none, none, none, none, none, none, none, none, none, none, none, none, ok0, rfl, rfl⟩
    case fin =>
      rintro env L ⟨b, o2, o3, o4, o5, o6, o7, o8, o9, o10, o11, o12, o13, o14, o15, o16, o17, o18, o19, o20, o21, ok, rfl, rfl⟩
      walk_at "w"
      refine ⟨rfl, fun q hq => ?_⟩
      refine ⟨q, .tup [], .int 20, [], rfl, lookup_top, .inr rfl, .inr ⟨rfl, (fun t ht => nomatch ht)⟩, by decide, fun qs hp1 ha1 => ⟨rfl, ?_⟩⟩
      rw [nil_sel hp1, setL_top hq]
      walk_at "w"
      rw [lookup_top]
      walk_at "w"
      rw [remL_top hq]
      refine ⟨⟨rfl, rfl⟩, ?_⟩
      refine ⟨[], rfl, by decide, ?_⟩
      walk_at "w"
      refine ⟨sz_ok rfl, ?_⟩
      walk_at "w"
      refine ⟨rfl, rfl, .str "y", rfl, by decide +kernel, (fun e => absurd (D.str.inj e) (by decide +kernel)), (fun _ => ?_), (fun e => absurd e (by decide +kernel))⟩
      walk_at "w"
      refine ⟨⟨rfl, rfl⟩, ?_⟩
      refine ⟨[(0, 1, 1)], rfl, by decide, ?_⟩
      walk_at "w"
      repeat (refine ⟨sz_ok rfl, ?_⟩; walk_at "w")
      refine ⟨by decide +kernel, by decide +kernel, ?_⟩
      rw [show eqD (D.lst (List.map tD [(0, 1, 1)])) (D.lst [D.tup [D.int 0, D.int 1, D.int 1]]) = true from by decide +kernel]
      walk_at "w"
      refine ⟨rfl, rfl, .int 0, rfl, rfl, (fun v e => ?_), (fun e => absurd e (by decide +kernel))⟩
      cases e
      rw [show oneP (0, 0, 0) = [] from by decide]
      walk_at "w"
      refine ⟨rfl, fun q2 hq2 => ?_⟩
      refine ⟨q2, .tup [], .int 20, [], rfl, lookup_top, .inr rfl, .inr ⟨rfl, (fun t ht => nomatch ht)⟩, by decide, fun qs hp1 ha1 => ⟨rfl, ?_⟩⟩
      rw [nil_sel hp1, setL_top hq2]
      walk_at "w"
      rw [lookup_top]
      walk_at "w"
      rw [remL_top hq2]
      refine ⟨rfl, ⟨IB, nf⟩, .inl ⟨[], [], rfl, _, rfl, ?_⟩⟩
      rw [PO.eq_self (es := []) List.nodup_nil]
      exact h _
    case step =>
      rintro E' d r env L hrt hex hbk hct ⟨b, o2, o3, o4, o5, o6, o7, o8, o9, o10, o11, o12, o13, o14, o15, o16, o17, o18, o19, o20, o21, ok, rfl, rfl⟩ hnx
      walk_at "w"
      refine ⟨sz_ok rfl, ?_⟩
      walk_at "w"
      refine ⟨p, b, _, _, rfl, rfl, lookup_top, ok, by decide, by decide, fun dh b1 hdh ok1 => ?_⟩
      rw [sp]
      obtain ⟨hh, rfl, hh0, hh1⟩ : ∃ z : Int, dh = .int z ∧ 0 ≤ z ∧ z ≤ 20 := by
        simp only [List.mem_cons, List.not_mem_nil, or_false] at hdh
        rcases hdh with rfl | rfl | rfl
        · exact ⟨2, rfl, by decide, by decide⟩
        · exact ⟨5, rfl, by decide, by decide⟩
        · exact ⟨20, rfl, by decide, by decide⟩
      clear hdh ok
      walk_at "w"
      refine ⟨sz_ok rfl, fun q hq => ?_⟩
      have hq : ∀ b, ¬ inL [(p, bagC b), (Pt, .tab "law.<locals>.<lambda>")] q := fun b m => hq (by simpa [inL] using m)
      have npq : p ≠ q := fun e => hq b1 (by rw [← e]; simp [inL])
      have lq : ∀ (c : D) (b : Bag), List.lookup p ((q, c) :: [(p, bagC b), (Pt, .tab "law.<locals>.<lambda>")]) = some (bagC b) := fun c b => by rw [lookup_ne npq]; exact lookup_top
      have sq : ∀ (c d : D) (b : Bag), setL ((q, c) :: [(p, bagC b), (Pt, .tab "law.<locals>.<lambda>")]) p d = (q, c) :: [(p, d), (Pt, .tab "law.<locals>.<lambda>")] := fun c d b => by rw [setL_ne (Ne.symm npq), sp]
      have stq : ∀ (c d : D) (b : Bag), setL ((q, c) :: [(p, bagC b), (Pt, .tab "law.<locals>.<lambda>")]) q d = (q, d) :: [(p, bagC b), (Pt, .tab "law.<locals>.<lambda>")] := fun c d b => setL_top (hq b)
      have lg : ∀ z : Int, 0 < z → z < 1000 → z.natAbs.log2 < 9000 := fun z z0 z1 => by
        have : z.natAbs.log2 < 100 := log_small (Nat.lt_of_lt_of_le (show z.natAbs < 1000 by omega) (by decide))
        omega
      walk_at "w"
      refine ⟨fun env' L' => ∃ (ts : List T3) (b : Bag) (o2 o5 o6 o7 o8 o9 o10 o11 o12 o13 o14 o15 o16 o17 o18 o19 o20 o21 : Option D), Lse 9 ts ∧ BagOk b ∧ env' = [some (.ro (ns.map .int)), some (.ptr p), o2, some (.int hh), some (.ptr q), o5, o6, o7, o8, o9, o10, o11, o12, o13, o14, o15, o16, o17, o18, o19, o20, o21] ∧ L' = (q, .lst (ts.map tD)) :: [(p, bagC b), (Pt, .tab "law.<locals>.<lambda>")], ?_, ?_⟩
      · walk_at "w"
        refine ⟨p, b1, 10, rfl, lq _ _, ok1, by decide, by decide, fun r0 b2 r00 r01 ok2 => ?_⟩
        rw [sq]
        walk_at "w"
        refine ⟨⟨by omega, by omega⟩, ?_⟩
        walk_at "w"
        refine forD_rec (fun rr env L => ∃ (ts : List T3) (b : Bag) (o2 o5 o6 o7 o8 o9 o10 o11 o12 o13 o14 o15 o16 o17 o18 o19 o20 o21 : Option D), Lse (9 - rr.length) ts ∧ rr.length ≤ 9 ∧ BagOk b ∧ env = [some (.ro (ns.map .int)), some (.ptr p), o2, some (.int hh), some (.ptr q), o5, o6, o7, o8, o9, o10, o11, o12, o13, o14, o15, o16, o17, o18, o19, o20, o21] ∧ L = (q, .lst (ts.map tD)) :: [(p, bagC b), (Pt, .tab "law.<locals>.<lambda>")]) ?stepA ?finA _ _ _ ⟨[], b2, _, _, _, _, _, _, _, _, _, _, _, _, _, _, _, _, _, _, ⟨Nat.zero_le _, (fun t ht => nomatch ht), (fun t ht => nomatch ht)⟩, ?_, ok2, rfl, rfl⟩
        case finA =>
          rintro env L ⟨ts, b, o2, o5, o6, o7, o8, o9, o10, o11, o12, o13, o14, o15, o16, o17, o18, o19, o20, o21, ls, _, ok, rfl, rfl⟩
          exact ⟨ts, b, _, _, _, _, _, _, _, _, _, _, _, _, _, _, _, _, _, _, ls, ok, rfl, rfl⟩
        case stepA =>
          rintro E2 d2 rr env L _ _ _ _ ⟨ts, b, o2, o5, o6, o7, o8, o9, o10, o11, o12, o13, o14, o15, o16, o17, o18, o19, o20, o21, ls, hl, ok, rfl, rfl⟩ hn
          rw [List.length_cons] at ls hl
          walk_at "w"
          rw [lookup_top]
          walk_at "w"
          refine ⟨p, b, hh + 1, rfl, lq _ _, ok, by omega, lg _ (by omega) (by omega), fun i g2 i0 i1 ok2 => ?_⟩
          rw [sq]
          walk_at "w"
          refine ⟨p, g2, hh + 1, rfl, lq _ _, ok2, by omega, lg _ (by omega) (by omega), fun j g3 j0 j1 ok3 => ?_⟩
          rw [sq]
          walk_at "w"
          refine ⟨p, g3, 15, rfl, lq _ _, ok3, by decide, by decide, fun v g4 v0 v1 ok4 => ?_⟩
          rw [sq]
          walk_at "w"
          refine ⟨sz_ok rfl, ?_⟩
          walk_at "w"
          rw [lookup_top]
          have few := ls.few
          refine ⟨by rw [List.length_map]; exact Nat.lt_of_lt_of_le (show ts.length < 1000 by omega) (by decide), ?_⟩
          rw [stq]
          refine hn _ _ ⟨ts ++ [(i, j, v - 7)], g4, _, _, _, _, _, _, _, _, _, _, _, _, _, _, _, _, _, _, ?_, by omega, ok4, rfl, ?_⟩
          · exact (ls.add (t := (i, j, v - 7)) ⟨⟨i0, by show i ≤ 20; omega⟩, j0, by show j ≤ 20; omega⟩ (by show (v - 7).natAbs ≤ 7; omega)).mono (by omega)
          · rw [List.map_append]
            rfl
        · rw [rngD_len]
          omega
      rintro env' L' ⟨ts0, b, o2, o5, o6, o7, o8, o9, o10, o11, o12, o13, o14, o15, o16, o17, o18, o19, o20, o21, ls0, ok, rfl, rfl⟩
      refine ⟨fun env' L' => ∃ (ts : List T3) (b : Bag) (o2 o5 o6 o7 o8 o9 o10 o11 o12 o13 o14 o15 o16 o17 o18 o19 o20 o21 : Option D), Lse 10 ts ∧ BagOk b ∧ env' = [some (.ro (ns.map .int)), some (.ptr p), o2, some (.int hh), some (.lst (ts.map tD)), o5, o6, o7, o8, o9, o10, o11, o12, o13, o14, o15, o16, o17, o18, o19, o20, o21] ∧ L' = [(p, bagC b), (Pt, .tab "law.<locals>.<lambda>")], ?_, ?_⟩
      · have few := ls0.few
        walk_at "w"
        refine ⟨sz_ok rfl, ?_⟩
        walk_at "w"
        rw [con_ptr lookup_top]
        walk_at "w"
        by_cases hts : ts0 = []
        · rw [if_pos rfl, hts]
          walk_at "w"
          rw [lookup_top]
          walk_at "w"
          rw [remL_top (hq b)]
          exact ⟨[], b, _, _, _, _, _, _, _, _, _, _, _, _, _, _, _, _, _, _, ⟨Nat.zero_le _, (fun t ht => nomatch ht), (fun t ht => nomatch ht)⟩, ok, rfl, rfl⟩
        · have pos : 0 < ts0.length := List.length_pos_iff.mpr hts
          rw [if_pos rfl, show (ts0.map tD).isEmpty = false from by rw [List.isEmpty_eq_false_iff, ne_eq, List.map_eq_nil_iff]; exact hts]
          walk_at "w"
          refine ⟨p, b, 2, rfl, lq _ _, ok, by decide, by decide, fun rz b2 z0 z1 ok2 => ?_⟩
          rw [sq]
          walk_at "w"
          by_cases e0 : rz = 0
          · rw [show flEq (D.int rz) (D.int 0) = true from decide_eq_true e0]
            walk_at "w"
            refine ⟨p, b2, q, ts0.map tD, rfl, lookup_top, lq _ _, ok2, by rw [List.length_map]; exact pos, by rw [List.length_map]; omega, npq, fun dd b3 hdd ok3 => ?_⟩
            rw [sq]
            obtain ⟨u, hu, rfl⟩ := List.mem_map.mp hdd
            walk_at "w"
            refine ⟨rfl, ?_⟩
            walk_at "w"
            rw [lookup_top]
            walk_at "w"
            refine ⟨sz_ok rfl, ?_⟩
            walk_at "w"
            rw [lookup_top]
            refine ⟨by rw [List.length_map]; exact Nat.lt_of_lt_of_le (show ts0.length < 1000 by omega) (by decide), ?_⟩
            rw [stq]
            walk_at "w"
            rw [lookup_top]
            walk_at "w"
            rw [remL_top (hq _)]
            rw [show ts0.map tD ++ [D.tup [.int u.1, .int u.2.1, .int (0 - u.2.2)]] = (ts0 ++ [(u.1, u.2.1, 0 - u.2.2)]).map tD from by rw [List.map_append]; rfl]
            refine ⟨ts0 ++ [(u.1, u.2.1, 0 - u.2.2)], b3, _, _, _, _, _, _, _, _, _, _, _, _, _, _, _, _, _, _, ?_, ok3, rfl, rfl⟩
            have h7 := ls0.sz u hu
            exact ls0.add (t := (u.1, u.2.1, 0 - u.2.2)) (ls0.pw u hu) (by show (0 - u.2.2).natAbs ≤ 7; omega)
          · rw [show flEq (D.int rz) (D.int 0) = false from decide_eq_false e0]
            walk_at "w"
            rw [lookup_top]
            walk_at "w"
            rw [remL_top (hq _)]
            exact ⟨ts0, b2, _, _, _, _, _, _, _, _, _, _, _, _, _, _, _, _, _, _, ls0.mono (by decide), ok2, rfl, rfl⟩
      clear ls0 ok hq npq lq sq stq
      rintro env' L' ⟨ts, b, o2, o5, o6, o7, o8, o9, o10, o11, o12, o13, o14, o15, o16, o17, o18, o19, o20, o21, ls, ok, rfl, rfl⟩
      have few := ls.few
      walk_at "w"
      refine ⟨ts, rfl, by omega, fun qs hp0 ha0 => ?_⟩
      have td := told_of hp0 ha0
      generalize sel (gat ts) qs = es at td ⊢
      clear hp0 ha0
      have fewE := td.few
      have okE := ls.ok (by decide) td
      walk_at "w"
      intro q2 hq2
      walk_at "w"
      rw [lookup_top]
      walk_at "w"
      refine ⟨rfl, ?_⟩
      walk_at "w"
      intro q3 hq3
      refine ⟨q3, .lst (ts.map tD), .int 20, ts, rfl, lookup_top, .inl rfl, .inr ⟨rfl, ls.pw⟩, by omega, fun qs hp1 ha1 => ⟨rfl, ?_⟩⟩
      rw [(told_of hp1 ha1).one td fun _ => rfl, setL_top hq3, lookup_top]
      walk_at "w"
      rw [remL_top hq3]
      refine ⟨rfl, noL_pD _ _, ?_⟩
      refine ⟨fun env' L' => ∃ (b : Bag) (o2 o5 o6 o7 o8 o10 o12 o13 o14 o15 o16 o17 o18 o19 o20 o21 : Option D), BagOk b ∧ env' = [some (.ro (ns.map .int)), some (.ptr p), o2, some (.int hh), some (.lst (ts.map tD)), o5, o6, o7, o8, some (.lst (es.map tD)), o10, some (pD cP es), o12, o13, o14, o15, o16, o17, o18, o19, o20, o21] ∧ L' = [(p, bagC b), (Pt, .tab "law.<locals>.<lambda>")], ?_, ?_⟩
      · walk_at "w"
        rw [lookup_top]
        walk_at "w"
        refine ⟨sz_ok rfl, ?_⟩
        walk_at "w"
        rw [lookup_top]
        refine ⟨by rw [List.length_map]; exact Nat.lt_of_lt_of_le (show ts.length < 1000 by omega) (by decide), ?_⟩
        rw [setL_top hq2]
        walk_at "w"
        rw [lookup_top]
        walk_at "w"
        rw [remL_top hq2]
        exact ⟨b, _, _, _, _, _, _, _, _, _, _, _, _, _, _, _, _, ok, rfl, rfl⟩
      clear ok hq2 hq3
      rintro env' L' ⟨b, o2, o5, o6, o7, o8, o10, o12, o13, o14, o15, o16, o17, o18, o19, o20, o21, ok, rfl, rfl⟩
      obtain ⟨md, hmd⟩ := mx_ex (es.map fun t => t.1 + t.2.1)
      obtain ⟨m0, hm0⟩ := mx_ex (es.map fun t => t.1)
      obtain ⟨m1, hm1⟩ := mx_ex (es.map fun t => t.2.1)
      have pE := ls.p20 td
      walk_at "w"
      refine ⟨⟨by decide, by decide⟩, ?_⟩
      walk_at "w"
      intro q4 hq4
      refine lcD_as (show _ = [(0 : Int), 1].map D.int from rfl) (lcD_each D.int (fun k => .int (if k = 0 then m0 else m1)) hq4 [0, 1] (by decide) (fun k hk acc F KK hK => ?_) ?_)
      · rcases List.mem_cons.mp hk with rfl | hk
        · walk_at "w"
          refine ⟨sz_ok rfl, ?_⟩
          walk_at "w"
          intro q5 hq5
          refine lcD_each tD (fun t => .int t.1) hq5 es (by omega) (fun t ht acc F K2 hK2 => ?_) ?_
          · walk_at "w"
            exact hK2
          · walk_at "w"
            refine ⟨Nat.le_trans (show 1 + (es.map fun t => D.int t.1).length ≤ 1000 by rw [List.length_map]; omega) (by decide), ?_⟩
            walk_at "w"
            have e1 : intsOf ([D.int (-1)] ++ es.map fun t => D.int t.1) = some (-1 :: es.map fun t => t.1) := by
              have := intsOf_map (-1 :: es.map fun t => t.1)
              rw [List.map_cons, List.map_map] at this
              exact this
            rw [e1]
            refine ⟨Nat.succ_pos _, fun m2 h1 h2 => ?_⟩
            rw [← hm0.cons (fun y hy => by obtain ⟨t, ht, rfl⟩ := List.mem_map.mp hy; have := (pE t ht).1.1; omega) h1 h2]
            exact hK
        · obtain rfl := List.mem_singleton.mp hk
          walk_at "w"
          refine ⟨sz_ok rfl, ?_⟩
          walk_at "w"
          intro q5 hq5
          refine lcD_each tD (fun t => .int t.2.1) hq5 es (by omega) (fun t ht acc F K2 hK2 => ?_) ?_
          · walk_at "w"
            exact hK2
          · walk_at "w"
            refine ⟨Nat.le_trans (show 1 + (es.map fun t => D.int t.2.1).length ≤ 1000 by rw [List.length_map]; omega) (by decide), ?_⟩
            walk_at "w"
            have e1 : intsOf ([D.int (-1)] ++ es.map fun t => D.int t.2.1) = some (-1 :: es.map fun t => t.2.1) := by
              have := intsOf_map (-1 :: es.map fun t => t.2.1)
              rw [List.map_cons, List.map_map] at this
              exact this
            rw [e1]
            refine ⟨Nat.succ_pos _, fun m2 h1 h2 => ?_⟩
            rw [← hm1.cons (fun y hy => by obtain ⟨t, ht, rfl⟩ := List.mem_map.mp hy; have := (pE t ht).2.1; omega) h1 h2]
            exact hK
      walk_at "w"
      refine ⟨p, b, hh + 1, rfl, lookup_top, ok, by omega, lg _ (by omega) (by omega), fun i b4 i0 i1 ok4 => ?_⟩
      rw [sp]
      walk_at "w"
      refine ⟨p, b4, hh + 1, rfl, lookup_top, ok4, by omega, lg _ (by omega) (by omega), fun j b5 j0 j1 ok5 => ?_⟩
      rw [sp]
      walk_at "w"
      refine ⟨sz_ok rfl, ?_⟩
      walk_at "w"
      refine ⟨rfl, ?_⟩
      refine ⟨fun env' L' => ∃ (b : Bag) (o2 o5 o8 o10 o14 o15 o16 o17 o18 o19 o20 o21 : Option D), BagOk b ∧ env' = [some (.ro (ns.map .int)), some (.ptr p), o2, some (.int hh), some (.lst (ts.map tD)), o5, some (.int i), some (.int j), o8, some (.lst (es.map tD)), o10, some (pD cP es), some (.lst [.int m0, .int m1]), some (.lst (wishD es (i, j))), o14, o15, o16, o17, o18, o19, o20, o21] ∧ L' = [(p, bagC b), (Pt, .tab "law.<locals>.<lambda>")], ?_, ?_⟩
      · walk_at "w"
        intro q6 hq6
        refine lcD_pick tD (fun t => .int t.2.2) (fun t => decide (ky t = (i, j))) hq6 es [] (by show 0 + _ ≤ _; omega) (fun t ht acc T F KK hT hF => ?_) ?_
        · walk_at "w"
          refine ⟨sz_ok rfl, ?_⟩
          walk_at "w"
          refine ⟨rfl, rfl, ?_⟩
          rw [show eqD (.tup (cutD [D.int t.1, .int t.2.1, .int t.2.2] none (some 2))) (.tup [.int i, .int j]) = decide (ky t = (i, j)) from eq_ky _ _ _ _]
          cases hd : decide (ky t = (i, j)) with
          | false => exact hF hd
          | true =>
            walk_at "w"
            exact hT hd
        · rw [List.nil_append, wish_eq td.can.nk]
          exact ⟨b5, _, _, _, _, _, _, _, _, _, _, _, _, ok5, rfl, rfl⟩
      clear ok ok4 ok5
      rintro env' L' ⟨b, o2, o5, o8, o10, o14, o15, o16, o17, o18, o19, o20, o21, ok, rfl, rfl⟩
      walk_at "w"
      refine ⟨⟨rfl, rfl⟩, ?_⟩
      walk_at "w"
      refine ⟨es, rfl, by omega, ?_⟩
      walk_at "w"
      refine ⟨rfl, ?_⟩
      refine ⟨es, md, rfl, by omega, hmd, trivial, ?_⟩
      walk_at "w"
      refine ⟨⟨rfl, rfl⟩, ?_⟩
      refine ⟨es, "x", m0, rfl, by omega, .inl ⟨rfl, hm0⟩, ?_⟩
      walk_at "w"
      refine ⟨⟨rfl, rfl⟩, ?_⟩
      walk_at "w"
      refine ⟨rfl, es, "y", m1, rfl, by omega, .inr ⟨rfl, hm1⟩, ?_⟩
      walk_at "w"
      refine ⟨⟨rfl, rfl⟩, ?_⟩
      refine ⟨es, rfl, ?_⟩
      walk_at "w"
      refine ⟨rfl, es, rfl, ⟨_, rfl⟩, ?_⟩
      walk_at "w"
      refine ⟨sz_ok rfl, ?_⟩
      walk_at "w"
      rw [es_has es]
      obtain ⟨Tl, hTl⟩ : ∃ Tl, Tl = toldD es md m0 m1 (lastV es) (!(es.map tD).isEmpty) := ⟨_, rfl⟩
      rw [show D.lst [.lst (es.map tD), .int md, .int m0, .int m1, .int (lastV es), .bl (!(es.map tD).isEmpty)] = Tl from hTl.symm]
      obtain ⟨k1, k2⟩ := okTold (es := es) (by omega) md m0 m1 (lastV es) (!(es.map tD).isEmpty)
      rw [← hTl] at k1 k2
      refine ⟨fun env' L' => ∃ (b : Bag) (o2 o5 o8 o10 o14 o15 o16 o17 o18 o19 o20 o21 : Option D), BagOk b ∧ env' = [some (.ro (ns.map .int)), some (.ptr p), o2, some (.int hh), some (.lst (ts.map tD)), o5, some (.int i), some (.int j), o8, some (.lst (es.map tD)), o10, some (pD cP es), some (.lst [.int m0, .int m1]), some (.lst (wishD es (i, j))), o14, o15, o16, o17, o18, o19, o20, o21] ∧ L' = [(p, bagC b), (Pt, .tab "law.<locals>.<lambda>")], ?_, ?_⟩
      · walk_at "w"
        refine ⟨es, md, rfl, by omega, fun t ht => by have := (pE t ht).1.1; have := (pE t ht).2.1; omega, hmd, ?_⟩
        walk_at "w"
        refine ⟨sz_ok rfl, ?_⟩
        walk_at "w"
        by_cases he : es = []
        · rw [if_pos rfl, show (es.map tD).isEmpty = true from by rw [he]; rfl]
          walk_at "w"
          refine ⟨sz_ok rfl, ?_⟩
          walk_at "w"
          refine ⟨sz_ok rfl, ?_⟩
          walk_at "w"
          rw [show D.lst [.lst (es.map tD), .int md, .int m0, .int m1, .int 0, .bl (if true = true then !(es.map tD).isEmpty else (es.map tD).isEmpty)] = Tl from by rw [if_pos rfl, hTl, show lastV es = 0 from by rw [he]; rfl]; rfl]
          refine ⟨_, _, rfl, k1, k1, k2, ?_⟩
          rw [sameD_refl _ k1]
          exact ⟨b, _, _, _, _, _, _, _, _, _, _, _, _, ok, rfl, rfl⟩
        · rw [if_pos rfl, show (es.map tD).isEmpty = false from by rw [List.isEmpty_eq_false_iff, ne_eq, List.map_eq_nil_iff]; exact he]
          walk_at "w"
          obtain ⟨t, e1, e2⟩ := last_v he
          rw [e1]
          walk_at "w"
          rw [e2]
          refine ⟨sz_ok rfl, ?_⟩
          walk_at "w"
          refine ⟨sz_ok rfl, ?_⟩
          walk_at "w"
          rw [show D.lst [.lst (es.map tD), .int md, .int m0, .int m1, .int (lastV es), .bl (if true = true then !(es.map tD).isEmpty else (es.map tD).isEmpty)] = Tl from by rw [if_pos rfl, hTl]; rfl]
          refine ⟨_, _, rfl, k1, k1, k2, ?_⟩
          rw [sameD_refl _ k1]
          exact ⟨b, _, _, _, _, _, _, _, _, _, _, _, _, ok, rfl, rfl⟩
      clear ok k1 k2 hTl
      rintro env' L' ⟨b, o2, o5, o8, o10, o14, o15, o16, o17, o18, o19, o20, o21, ok, rfl, rfl⟩
      refine ⟨fun env' L' => ∃ (b : Bag) (o2 o5 o6 o7 o8 o10 o12 o13 o14 o15 o16 o17 o18 o19 o20 o21 : Option D), BagOk b ∧ env' = [some (.ro (ns.map .int)), some (.ptr p), o2, some (.int hh), some (.lst (ts.map tD)), o5, o6, o7, o8, some (.lst (es.map tD)), o10, some (pD cP es), o12, o13, o14, o15, o16, o17, o18, o19, o20, o21] ∧ L' = [(p, bagC b), (Pt, .tab "law.<locals>.<lambda>")], ?_, ?_⟩
      · have tl := textT_len okE
        have q5 : (Str.ofString "Poly(").length = 5 := by decide +kernel
        have q1 : (Str.ofString ")").length = 1 := by decide +kernel
        walk_at "w"
        refine ⟨⟨rfl, rfl⟩, ?_⟩
        refine ⟨es, i, j, rfl, ?_⟩
        walk_at "w"
        refine ⟨rfl, es, rfl, okE, ⟨_, rfl⟩, ?_⟩
        walk_at "w"
        refine ⟨sz_ok rfl, ?_⟩
        walk_at "w"
        refine ⟨sz_ok rfl, ?_⟩
        walk_at "w"
        cases hl : look es (i, j) with
        | none =>
          rw [show wishD es (i, j) = [] from by unfold wishD; rw [hl]]
          walk_at "w"
          refine ⟨es, rfl, okE, ?_⟩
          walk_at "w"
          refine ⟨Nat.le_trans (show _ ≤ 1000000 by omega) (by decide), ?_⟩
          walk_at "w"
          refine ⟨Nat.le_trans (show _ ≤ 1000000 by rw [app_len]; omega) (by decide), ?_⟩
          walk_at "w"
          refine ⟨sz_ok rfl, ?_⟩
          walk_at "w"
          rw [emp_app]
          refine ⟨_, _, rfl, rfl, rfl, okTwo rfl, ?_⟩
          rw [show sameD (.lst [.int (Option.getD none 0), .str (Str.ofString "Poly(" ++ textT es ++ Str.ofString ")")]) (.lst [.int 0, .str (Str.ofString "Poly(" ++ textT es ++ Str.ofString ")")]) = true from sameD_refl (.lst [.int 0, .str (Str.ofString "Poly(" ++ textT es ++ Str.ofString ")")]) rfl]
          exact ⟨b, _, _, _, _, _, _, _, _, _, _, _, _, _, _, _, _, ok, rfl, rfl⟩
        | some v =>
          rw [show wishD es (i, j) = [.int v] from by unfold wishD; rw [hl]]
          walk_at "w"
          refine ⟨es, rfl, okE, ?_⟩
          walk_at "w"
          refine ⟨Nat.le_trans (show _ ≤ 1000000 by omega) (by decide), ?_⟩
          walk_at "w"
          refine ⟨Nat.le_trans (show _ ≤ 1000000 by rw [app_len]; omega) (by decide), ?_⟩
          walk_at "w"
          refine ⟨sz_ok rfl, ?_⟩
          walk_at "w"
          rw [emp_app]
          refine ⟨_, _, rfl, rfl, rfl, okTwo rfl, ?_⟩
          rw [show sameD (.lst [.int (Option.getD (some v) 0), .str (Str.ofString "Poly(" ++ textT es ++ Str.ofString ")")]) (.lst [.int v, .str (Str.ofString "Poly(" ++ textT es ++ Str.ofString ")")]) = true from sameD_refl (.lst [.int v, .str (Str.ofString "Poly(" ++ textT es ++ Str.ofString ")")]) rfl]
          exact ⟨b, _, _, _, _, _, _, _, _, _, _, _, _, _, _, _, _, ok, rfl, rfl⟩
      clear ok
      rintro env' L' ⟨b, o2, o5, o6, o7, o8, o10, o12, o13, o14, o15, o16, o17, o18, o19, o20, o21, ok, rfl, rfl⟩
      refine ⟨fun env' L' => ∃ (b : Bag) (o2 o5 o6 o7 o8 o10 o12 o13 o14 o15 o16 o17 o18 o19 o20 o21 : Option D), BagOk b ∧ env' = [some (.ro (ns.map .int)), some (.ptr p), o2, some (.int hh), some (.lst (ts.map tD)), o5, o6, o7, o8, some (.lst (es.map tD)), o10, some (pD cP es), o12, o13, o14, o15, o16, o17, o18, o19, o20, o21] ∧ L' = [(p, bagC b), (Pt, .tab "law.<locals>.<lambda>")], ?_, ?_⟩
      · walk_at "w"
        refine ⟨⟨rfl, rfl⟩, ?_⟩
        refine ⟨es, rfl, by omega, fun q7 hq7 => ?_⟩
        walk_at "w"
        rw [lookup_top]
        walk_at "w"
        rw [lookup_top]
        refine ⟨by rw [List.length_map]; exact Nat.lt_of_lt_of_le (show es.length < 1000 by omega) (by decide), ?_⟩
        rw [setL_top hq7]
        walk_at "w"
        refine ⟨q7, ?_⟩
        rw [remL_top hq7]
        exact ⟨b, _, _, _, _, _, _, _, _, _, _, _, _, _, _, _, _, ok, rfl, rfl⟩
      clear ok
      rintro env' L' ⟨b, o2, o5, o6, o7, o8, o10, o12, o13, o14, o15, o16, o17, o18, o19, o20, o21, ok, rfl, rfl⟩
      refine ⟨fun env' L' => ∃ (b : Bag) (o2 o5 o6 o7 o8 o10 o12 o13 o14 o15 o16 o17 o18 o19 o20 o21 : Option D), BagOk b ∧ env' = [some (.ro (ns.map .int)), some (.ptr p), o2, some (.int hh), some (.lst (ts.map tD)), o5, o6, o7, o8, some (.lst (es.map tD)), o10, some (pD cP es), o12, o13, o14, o15, o16, o17, o18, o19, o20, o21] ∧ L' = [(p, bagC b), (Pt, .tab "law.<locals>.<lambda>")], ?_, ?_⟩
      · walk_at "w"
        refine ⟨rfl, fun q8 hq8 => ?_⟩
        refine ⟨q8, .tup ((ts.map tD).reverse), .int 20, ts.reverse, rfl, lookup_top, .inr (by rw [List.map_reverse]), .inr ⟨rfl, fun t ht => ls.pw t (List.mem_reverse.mp ht)⟩, by rw [List.length_reverse]; omega, fun qs hp8 ha8 => ⟨rfl, ?_⟩⟩
        rw [(told_of hp8 ha8).one td (fun q => cf_rev q ts), setL_top hq8]
        walk_at "w"
        rw [lookup_top]
        walk_at "w"
        rw [remL_top hq8]
        refine ⟨rfl, ⟨IB, nf⟩, .inl ⟨es, es, rfl, _, rfl, ?_⟩⟩
        rw [PO.eq_self td.can.nk]
        walk_at "w"
        refine ⟨rfl, nfL, .inr ⟨es, es.map tD, rfl, _, rfl, ?_⟩⟩
        walk_at "w"
        refine ⟨⟨rfl, rfl⟩, ?_⟩
        refine ⟨es, rfl, by omega, ?_⟩
        walk_at "w"
        have k1 := okTs (es := es) (by omega)
        refine ⟨_, _, rfl, k1, k1, depTs es, ?_⟩
        rw [sameD_refl _ k1]
        exact ⟨b, _, _, _, _, _, _, _, _, _, _, _, _, _, _, _, _, ok, rfl, rfl⟩
      clear ok
      rintro env' L' ⟨b, o2, o5, o6, o7, o8, o10, o12, o13, o14, o15, o16, o17, o18, o19, o20, o21, ok, rfl, rfl⟩
      refine ⟨fun env' L' => ∃ (b : Bag) (o2 o5 o6 o7 o8 o10 o12 o13 o14 o15 o16 o17 o18 o19 o20 o21 : Option D), BagOk b ∧ env' = [some (.ro (ns.map .int)), some (.ptr p), o2, some (.int hh), some (.lst (ts.map tD)), o5, o6, o7, o8, some (.lst (es.map tD)), o10, some (pD cP es), o12, o13, o14, o15, o16, o17, o18, o19, o20, o21] ∧ L' = [(p, bagC b), (Pt, .tab "law.<locals>.<lambda>")], ?_, ?_⟩
      · have eA : ∀ v : Int, ts.map tD ++ [D.tup [.int 1, .int 1, .int v]] = (ts ++ [(1, 1, v)]).map tD := fun v => by rw [List.map_append]; rfl
        have pA : ∀ v : Int, pw20 (ts ++ [(1, 1, v)]) := fun v t ht => by
          rcases List.mem_append.mp ht with ht | ht
          · exact ls.pw t ht
          · rw [List.mem_singleton.mp ht]
            exact ⟨⟨(by show (0 : Int) ≤ 1; decide), (by show (1 : Int) ≤ 20; decide)⟩, (by show (0 : Int) ≤ 1; decide), (by show (1 : Int) ≤ 20; decide)⟩
        have lA : ∀ v : Int, (ts ++ [((1, 1, v) : T3)]).length < 100000 := fun v => by rw [List.length_append, List.length_singleton]; omega
        walk_at "w"
        refine ⟨sz_ok rfl, ?_⟩
        walk_at "w"
        refine ⟨sz_ok rfl, ?_⟩
        walk_at "w"
        refine ⟨Nat.le_trans (show _ + 1 ≤ 1000 by rw [List.length_map]; omega) (by decide), ?_⟩
        walk_at "w"
        intro q8 hq8
        refine ⟨q8, .lst (ts.map tD ++ [.tup [.int 1, .int 1, .int 1]]), .int 20, ts ++ [(1, 1, 1)], rfl, lookup_top, .inl (by rw [eA]), .inr ⟨rfl, pA _⟩, lA _, fun qs hp8 ha8 => ⟨rfl, ?_⟩⟩
        have t1 := told_of hp8 ha8
        generalize sel (gat (ts ++ [(1, 1, 1)])) qs = fs at t1 ⊢
        rw [setL_top hq8, lookup_top]
        walk_at "w"
        rw [remL_top hq8]
        refine ⟨rfl, ⟨IB, nf⟩, .inl ⟨es, fs, rfl, _, rfl, ?_⟩⟩
        rw [eq_no (q := (1, 1)) td.can.nk (by rw [td.at_, t1.at_, cf_app]; show cf ts (1, 1) ≠ cf ts (1, 1) + (1 + 0); omega)]
        walk_at "w"
        refine ⟨sz_ok rfl, ?_⟩
        walk_at "w"
        refine ⟨sz_ok rfl, ?_⟩
        walk_at "w"
        clear hq8 hp8 ha8
        refine ⟨Nat.le_trans (show _ + 1 ≤ 1000 by rw [List.length_map]; omega) (by decide), ?_⟩
        walk_at "w"
        intro q8 hq8
        refine ⟨q8, .lst (ts.map tD ++ [.tup [.int 1, .int 1, .int 0]]), .int 20, ts ++ [(1, 1, 0)], rfl, lookup_top, .inl (by rw [eA]), .inr ⟨rfl, pA _⟩, lA _, fun qs hp8 ha8 => ⟨rfl, ?_⟩⟩
        have t0 := told_of hp8 ha8
        generalize sel (gat (ts ++ [(1, 1, 0)])) qs = fs at t0 ⊢
        rw [setL_top hq8, lookup_top]
        walk_at "w"
        rw [remL_top hq8]
        rw [t0.one td fun q => by rw [cf_app]; show cf ts q + ((if _ then 0 else 0) + 0) = cf ts q; split <;> omega]
        refine ⟨rfl, ⟨IB, nf⟩, .inl ⟨es, es, rfl, _, rfl, ?_⟩⟩
        rw [PO.eq_self td.can.nk]
        exact ⟨b, _, _, _, _, _, _, _, _, _, _, _, _, _, _, _, _, ok, rfl, rfl⟩
      clear ok
      rintro env' L' ⟨b, o2, o5, o6, o7, o8, o10, o12, o13, o14, o15, o16, o17, o18, o19, o20, o21, ok, rfl, rfl⟩
      walk_at "w"
      refine ⟨p, b, _, rfl, lookup_top, ok, by rw [List.length_map]; omega, lg _ (by rw [List.length_map]; omega) (by rw [List.length_map]; omega), fun az b2 a0 a1 ok2 => ?_⟩
      rw [sp]
      rw [List.length_map] at a1
      obtain ⟨an, rfl⟩ := Int.eq_ofNat_of_zero_le a0
      walk_at "w"
      repeat (refine ⟨sz_ok rfl, ?_⟩; walk_at "w")
      refine ⟨p, b2, _, oddL, rfl, rfl, lookup_top, ok2, by decide, by decide, fun od b3 hod ok3 => ?_⟩
      rw [sp]
      obtain ⟨bw, bt, bl⟩ := bad_list ls (by decide) hod (show an ≤ ts.length by omega)
      rw [List.length_append, List.length_append] at bl
      refine ⟨fun env' L' => ∃ (bad : List D) (b : Bag) (o2 o5 o6 o7 o8 o10 o12 o13 o14 o16 o18 o19 o20 o21 : Option D), okW (.lst bad) = true ∧ badT (.lst bad) = some (an : Int) ∧ BagOk b ∧ env' = [some (.ro (ns.map .int)), some (.ptr p), o2, some (.int hh), some (.lst (ts.map tD)), o5, o6, o7, o8, some (.lst (es.map tD)), o10, some (pD cP es), o12, o13, o14, some (.int (an : Int)), o16, some (.lst bad), o18, o19, o20, o21] ∧ L' = [(p, bagC b), (Pt, .tab "law.<locals>.<lambda>")], ?_, ?_⟩
      · walk_at "w"
        refine ⟨sz_ok rfl, ?_⟩
        walk_at "w"
        refine ⟨Nat.le_trans (show _ ≤ 1000 by omega) (by decide), ?_⟩
        walk_at "w"
        refine ⟨Nat.le_trans (show _ ≤ 1000 by rw [List.length_append]; omega) (by decide), ?_⟩
        exact ⟨_, b3, _, _, _, _, _, _, _, _, _, _, _, _, _, _, bw, bt, ok3, rfl, rfl⟩
      clear ok ok2 ok3 bw bt bl hod
      rintro env' L' ⟨bad, b, o2, o5, o6, o7, o8, o10, o12, o13, o14, o16, o18, o19, o20, o21, bw, bt, ok, rfl, rfl⟩
      refine ⟨fun env' L' => ∃ (b : Bag) (o2 o5 o6 o7 o8 o10 o12 o13 o14 o15 o16 o17 o18 o19 o20 o21 : Option D), BagOk b ∧ env' = [some (.ro (ns.map .int)), some (.ptr p), o2, some (.int hh), some (.lst (ts.map tD)), o5, o6, o7, o8, some (.lst (es.map tD)), o10, some (pD cP es), o12, o13, o14, o15, o16, o17, o18, o19, o20, o21] ∧ L' = [(p, bagC b), (Pt, .tab "law.<locals>.<lambda>")], ?_, ?_⟩
      · walk_at "w"
        refine ⟨hPt _, ?_⟩
        walk_at "w"
        refine ⟨[.clo FLaw0 [.lst bad]], .cons (.fnv cap_FLaw0 rfl) .nil, ?_⟩
        refine ⟨FLaw0, _, rfl, .inl ⟨rfl, pL b, okW_pln1 bw, .lst bad, an, rfl, bw, bt, caught _ _ _ _ _ hIT .c8 fIT.1 fIT.2 ?_⟩⟩
        refine ⟨rfl, pL b, ?_⟩
        walk_at "w"
        refine ⟨sz_ok rfl, ?_⟩
        walk_at "w"
        refine ⟨_, _, rfl, rfl, rfl, Nat.le_of_ble_eq_true rfl, ?_⟩
        rw [sameD_refl _ rfl]
        exact ⟨b, _, _, _, _, _, _, _, _, _, _, _, _, _, _, _, _, ok, rfl, rfl⟩
      clear ok bw bt bad
      rintro env' L' ⟨b, o2, o5, o6, o7, o8, o10, o12, o13, o14, o15, o16, o17, o18, o19, o20, o21, ok, rfl, rfl⟩
      walk_at "w"
      refine ⟨sz_ok rfl, ?_⟩
      walk_at "w"
      refine ⟨p, b, _, odd2L, rfl, rfl, lookup_top, ok, by decide, by decide, fun od b2 hod ok2 => ?_⟩
      rw [sp]
      obtain ⟨w1, w2, w3, w4, w5, w6⟩ := odd2_no od hod
      walk_at "w"
      repeat (refine ⟨hPt _, ?_⟩; walk_at "w")
      refine ⟨sz_ok rfl, ?_⟩
      walk_at "w"
      refine ⟨[.lst [.clo FLaw1 [od], .clo FLaw2 [od], .clo FLaw3 [od]]], .cons (.lst (.cons (.fnv cap_FLaw1 rfl) (.cons (.fnv cap_FLaw2 rfl) (.cons (.fnv cap_FLaw3 rfl) .nil)))) .nil, ?_⟩
      have po : plns [od] = true := okW_pln1 w1
      have p3 : plns [.tup [.str "InvalidTerm", .int (-1)], .tup [.str "InvalidNumber", no3 od], .tup [.str "InvalidLetter", noX od]] = true := plns_cons rfl (plns_cons (by show (true && plns [no3 od]) = true; rw [okW_pln1 w3]; rfl) (plns_cons (by show (true && plns [noX od]) = true; rw [okW_pln1 w5]; rfl) plns_nil))
      refine ⟨[(FLaw1, [od]), (FLaw2, [od]), (FLaw3, [od])], [.tup [.str "InvalidTerm", .int (-1)], .tup [.str "InvalidNumber", no3 od], .tup [.str "InvalidLetter", noX od]], (by show 3 ≤ 1000; decide), rfl, rfl, pL b2, p3, fun i qq r h1 h2 L' k' pl hk => ?_, ?_⟩
      · match i, h1, h2 with
        | 0, h1, h2 =>
          cases h1
          cases h2
          exact ⟨FLaw1, _, rfl, .inr (.inl ⟨rfl, pl, po, od, -1, rfl, w1, w2, caught _ _ _ _ _ hIT .c8 fIT.1 fIT.2 hk⟩)⟩
        | 1, h1, h2 =>
          cases h1
          cases h2
          exact ⟨FLaw2, _, rfl, .inr (.inr (.inl ⟨rfl, pl, po, od, rfl, hod, caught _ _ _ _ _ hIN .c1 fIN.1 fIN.2 hk⟩))⟩
        | 2, h1, h2 =>
          cases h1
          cases h2
          exact ⟨FLaw3, _, rfl, .inr (.inr (.inr (.inl ⟨rfl, pl, po, od, rfl, hod, caught _ _ _ _ _ hIL .c4 fIL.1 fIL.2 hk⟩)))⟩
        | n + 3, h1, _ => cases h1
      refine ⟨p3, pL b2, ?_⟩
      refine ⟨fun env' L' => ∃ (b : Bag) (o2 o5 o6 o7 o8 o10 o12 o13 o14 o15 o16 o17 o18 o19 o20 o21 : Option D), BagOk b ∧ env' = [some (.ro (ns.map .int)), some (.ptr p), o2, some (.int hh), some (.lst (ts.map tD)), o5, o6, o7, o8, some (.lst (es.map tD)), o10, some (pD cP es), o12, o13, o14, o15, o16, o17, o18, o19, o20, o21] ∧ L' = [(p, bagC b), (Pt, .tab "law.<locals>.<lambda>")], ?_, ?_⟩
      · clear po p3 w1 w2 w3 w4 w5 w6
        unfold odd2L at hod
        simp only [List.mem_cons, List.not_mem_nil, or_false] at hod
        rcases hod with e | e | e | e <;> subst e
        all_goals
          walk_at "w"
          repeat (first | refine ⟨sz_ok rfl, ?_⟩ | refine ⟨by decide +kernel, by decide +kernel, ?_⟩; walk_at "w")
        all_goals exact ⟨b2, _, _, _, _, _, _, _, _, _, _, _, _, _, _, _, _, ok2, rfl, rfl⟩
      clear ok ok2 w1 w2 w3 w4 w5 w6 hod po p3
      rintro env' L' ⟨b, o2, o5, o6, o7, o8, o10, o12, o13, o14, o15, o16, o17, o18, o19, o20, o21, ok, rfl, rfl⟩
      walk_at "w"
      repeat (refine ⟨sz_ok rfl, ?_⟩; walk_at "w")
      refine ⟨p, b, _, wrongL, rfl, rfl, lookup_top, ok, by decide, by decide, fun wr b2 hwr ok2 => ?_⟩
      rw [sp]
      obtain ⟨w1, w2⟩ := wrong_no wr hwr
      have dw : dep wr ≤ 1 := by
        unfold wrongL at hwr
        simp only [List.mem_cons, List.not_mem_nil, or_false] at hwr
        rcases hwr with e | e | e | e | e | e | e | e <;> subst e <;> decide +kernel
      have ow : okP wr = true := by
        unfold wrongL at hwr
        simp only [List.mem_cons, List.not_mem_nil, or_false] at hwr
        rcases hwr with e | e | e | e | e | e | e | e <;> subst e <;> decide +kernel
      walk_at "w"
      repeat (refine ⟨hPt _, ?_⟩; walk_at "w")
      refine ⟨sz_ok rfl, ?_⟩
      walk_at "w"
      refine ⟨[.lst [.clo FLaw4 [pD cP es, wr], .clo FLaw5 [pD cP es, wr], .clo FLaw6 [wr]]], .cons (.lst (.cons (.fnv cap_FLaw4 rfl) (.cons (.fnv cap_FLaw5 rfl) (.cons (.fnv cap_FLaw6 rfl) .nil)))) .nil, ?_⟩
      have po : plns [wr] = true := okW_pln1 w1
      have po2 : plns [pD cP es, wr] = true := plns_cons (pln_pD cP es) po
      have p1 : pln (.tup [.str "InvalidLetter", wr]) = true := by show (true && plns [wr]) = true; rw [po]; rfl
      have p3 : plns [.tup [.str "InvalidLetter", wr], .tup [.str "InvalidLetter", wr], .tup [.str "InvalidLetter", wr]] = true := plns_cons p1 (plns_cons p1 (plns_cons p1 plns_nil))
      have o1 : okP (.tup [.str "InvalidLetter", wr]) = true := by
        show (true && (true && (okP wr && true))) = true
        rw [ow]; rfl
      have o3 : okP (.lst [.tup [.str "InvalidLetter", wr], .tup [.str "InvalidLetter", wr], .tup [.str "InvalidLetter", wr]]) = true := by
        show (true && (okP (.tup [.str "InvalidLetter", wr]) && (okP (.tup [.str "InvalidLetter", wr]) && (okP (.tup [.str "InvalidLetter", wr]) && true)))) = true
        rw [o1]; rfl
      have d3 : dep (.lst [.tup [.str "InvalidLetter", wr], .tup [.str "InvalidLetter", wr], .tup [.str "InvalidLetter", wr]]) < 9 := by
        show max (max 0 (max (dep wr) 0) + 1) (max (max 0 (max (dep wr) 0) + 1) (max (max 0 (max (dep wr) 0) + 1) 0)) + 1 < 9
        omega
      refine ⟨[(FLaw4, [pD cP es, wr]), (FLaw5, [pD cP es, wr]), (FLaw6, [wr])], [.tup [.str "InvalidLetter", wr], .tup [.str "InvalidLetter", wr], .tup [.str "InvalidLetter", wr]], (by show 3 ≤ 1000; decide), rfl, rfl, pL b2, p3, fun i qq r h1 h2 L' k' pl hk => ?_, ?_⟩
      · match i, h1, h2 with
        | 0, h1, h2 =>
          cases h1
          cases h2
          exact ⟨FLaw4, _, rfl, .inr (.inr (.inr (.inr (.inl ⟨rfl, pl, po2, es, wr, rfl, w1, w2, caught _ _ _ _ _ hIL .c4 fIL.1 fIL.2 hk⟩))))⟩
        | 1, h1, h2 =>
          cases h1
          cases h2
          exact ⟨FLaw5, _, rfl, .inr (.inr (.inr (.inr (.inr (.inl ⟨rfl, pl, po2, es, wr, rfl, w1, w2, caught _ _ _ _ _ hIL .c4 fIL.1 fIL.2 hk⟩)))))⟩
        | 2, h1, h2 =>
          cases h1
          cases h2
          exact ⟨FLaw6, _, rfl, .inr (.inr (.inr (.inr (.inr (.inr ⟨rfl, pl, po, wr, rfl, w1, w2, caught _ _ _ _ _ hIL .c4 fIL.1 fIL.2 hk⟩)))))⟩
        | n + 3, h1, _ => cases h1
      refine ⟨p3, pL b2, ?_⟩
      walk_at "w"
      refine ⟨sz_ok rfl, ?_⟩
      walk_at "w"
      refine ⟨sz_ok rfl, ?_⟩
      walk_at "w"
      refine ⟨by decide, by decide, by show 1 * 3 ≤ sizeLine; decide, ?_⟩
      walk_at "w"
      refine ⟨_, _, rfl, o3, o3, d3, ?_⟩
      rw [show sameD (.lst [.tup [.str "InvalidLetter", wr], .tup [.str "InvalidLetter", wr], .tup [.str "InvalidLetter", wr]]) (.lst (List.replicate (Int.toNat 3) [D.tup [.str "InvalidLetter", wr]]).flatten) = true from sameD_refl _ o3]
      exact hnx _ _ ⟨b2, _, _, _, _, _, _, _, _, _, _, _, _, _, _, _, _, _, _, _, _, ok2, rfl, rfl⟩
  · rintro ds L k x ⟨ns, rfl, _⟩; rfl
end
end T05
namespace T05
open PySem L2 DL TL NumText PO
theorem scInvalidTerm_init : FnScope ["self", "at"] ["self", "at"] (defScope sInvalidTerm_init) := ⟨rfl, rfl, rfl, by decide +kernel, rfl, by decide +kernel, by decide +kernel⟩
theorem scInvalidNumber_init : FnScope ["self", "given"] ["self", "given"] (defScope sInvalidNumber_init) := ⟨rfl, rfl, rfl, by decide +kernel, rfl, by decide +kernel, by decide +kernel⟩
theorem scInvalidLetter_init : FnScope ["self", "given"] ["self", "given"] (defScope sInvalidLetter_init) := ⟨rfl, rfl, rfl, by decide +kernel, rfl, by decide +kernel, by decide +kernel⟩
theorem cal_mk {P : Program} {w : World} {K : PySem.W.Frag} {mg : Str → Option Value} {base : Heap} {n : Nat} {x : Str} {ps : List Str} {g : DSp} {f : Addr} {fd : FuncData} (G : FnOk P w K mg base (L2.CX P w) n f fd ps (spD K g)) (m : mg x = some (.ref f)) (k : PySem.W.keepIn K (.ref f) = true) (b : Binds K fd ps []) : Cal P w K mg base n x ps [] g := ⟨⟨f, fd, [], [], G, m, k, b, .nil, fun _ _ => .nil⟩⟩
section
variable {P : Program} {w : World} {K : PySem.W.Frag} {mg : Str → Option Value} {base : Heap} {cP : Addr}
theorem paired_append {α β : Type} {R : α → β → Prop} : ∀ {a c : List α} {b d : List β}, Paired R a b → Paired R c d → Paired R (a ++ c) (b ++ d)
  | _, _, _, _, .nil, h => h
  | _, _, _, _, .cons h t, h2 => .cons h (paired_append t h2)
theorem mcal_mk {n : Nat} {C : Addr} {x : Str} {ps : List Str} {g : DSp} {f : Addr} {fd : FuncData} (G : FnOk P w K mg base (L2.CX P w) n f fd ps (spD K g)) (c : Cls K C) (h : Meth K C x f) (b : Binds K fd ps []) : MCal P w K mg base n C x ps [] g := ⟨⟨f, fd, [], [], G, c, h, b, .nil, fun _ _ => .nil⟩⟩
theorem init_1 {fd : FuncData} {f tE : Addr} (F : FunF K "__init__" "Poly.__init__" sPolyInit [.ref tE] [("most", .int 20)] f fd) : ∃ ds, Vals [V.int 20] ds ∧ Binds K fd ["self", "terms", "most"] ds :=
  F.binds 2 1 (by simp) rfl (fun T D doc pm an cdv ct us its ks h1 h2 h3 => match us, its, ks, h1, h2, h3 with | [_, _], [_], [_], _, _, _ => ⟨_, rfl, _, _, _, _, _, _, rfl, rfl, rfl⟩) (by simp)
theorem init_0 {fd : FuncData} {f tE : Addr} (F : FunF K "__init__" "Poly.__init__" sPolyInit [.ref tE] [("most", .int 20)] f fd) : ∃ ds, Vals [V.ref tE, V.int 20] ds ∧ Binds K fd ["self", "terms", "most"] ds :=
  F.binds 1 0 (by simp) rfl (fun T D doc pm an cdv ct us its ks h1 h2 h3 => match us, its, ks, h1, h2, h3 with | [_], [_], [_], _, _, _ => ⟨_, rfl, _, _, _, _, _, _, rfl, rfl, rfl⟩) (by simp)
theorem init_k {fd : FuncData} {f tE : Addr} (F : FunF K "__init__" "Poly.__init__" sPolyInit [.ref tE] [("most", .int 20)] f fd) : KwB K fd ["self", "terms", "most"] 2 ["most"] [] (fun a b _ => a ++ b) := by
  obtain ⟨its, mv, kb⟩ := F.kbinds (ps := ["self", "terms", "most"]) 2 ["most"] [] (fun us _ _ ws => us ++ ws) (by simp) (by simp) (fun q h => nomatch h) (fun r1 _ _ r2 => r1.append r2) (fun T D doc pm an cdv ct us its mv ws h1 h2 h3 h4 => match us, its, mv, ws, h1, h2, h3, h4 with | [_, _], [_], [], [_], _, _, _, _ => ⟨_, rfl, rfl⟩)
  exact ⟨fun s us ws X l1 l2 => kb.to s us ws X l1 l2⟩
theorem init_t {fd : FuncData} {f tE : Addr} (F : FunF K "__init__" "Poly.__init__" sPolyInit [.ref tE] [("most", .int 20)] f fd) : ∃ mv, Vals [V.int 20] mv ∧ KwB K fd ["self", "terms", "most"] 1 ["terms"] mv (fun a b c => a ++ b ++ c) := by
  obtain ⟨its, mv, kb⟩ := F.kbinds (ps := ["self", "terms", "most"]) 1 ["terms"] [("most", V.int 20)] (fun us _ mz ws => us ++ ws ++ mz) (by simp) (by simp) (fun q h => h) (fun r1 _ rk r2 => (r1.append r2).append rk) (fun T D doc pm an cdv ct us its mv ws h1 h2 h3 h4 => match us, its, mv, ws, h1, h2, h3, h4 with | [_], [_], [_], [_], _, _, _, _ => ⟨_, rfl, _, _, _, _, _, _, rfl, rfl, rfl⟩)
  exact ⟨mv, kb.rel .nil .nil, ⟨fun s us ws X l1 l2 => kb.to s us ws X l1 l2⟩⟩
end
theorem same_all {P : Program} {w : World} {K : PySem.W.Frag} {mg : Str → Option Value} {base : Heap} {cP : Addr} {f : Addr} {fd : FuncData} (Z : Zn w K mg cP) (F : Fun K "_law_same" "_law_same" sLSame f fd) (b : Binds K fd ["_law_found", "_law_due"] []) (m : mg "_law_same" = some (.ref f)) : ∀ n : Nat, FnOk P w K mg base (L2.CX P w) n f fd ["_law_found", "_law_due"] (spD K (sameS n))
  | 0 => by
    have no : ∀ vs H Q E, ¬ spD K (sameS 0) vs H Q E := fun vs H Q E h => by
      obtain ⟨ds, L, k, x, _, _, ⟨_, _, _, _, _, h, _⟩, _⟩ := h
      exact absurd h (Nat.not_lt_zero _)
    exact ⟨fun vs H Q E h => absurd h (no vs H Q E), fun A outer s H args us vs Q E _ _ _ _ h => absurd h (no vs H Q E)⟩
  | n + 1 => ok_LSame Z F ⟨⟨f, fd, [], [], same_all Z F b m n, m, F.kp, b, .nil, fun _ _ => .nil⟩⟩
theorem all_mk {P : Program} {w : World} {K : PySem.W.Frag} {h : Heap} {mg : Str → Option Value} {fa : Addr}
    {cP : Addr}
    {c Pt cL cMI cN cNL cPE cT : Addr}
    {f2 : Addr} {od2 an2 : Option Addr} {sl2 : Array (Option Value)} {oc2 kV2 dc2 pm2 cd2 ct2 : Value}
    {f3 : Addr} {od3 an3 : Option Addr} {sl3 : Array (Option Value)} {oc3 kV3 dc3 pm3 cd3 ct3 : Value}
    {f4 : Addr} {od4 an4 : Option Addr} {sl4 : Array (Option Value)} {oc4 kV4 dc4 pm4 cd4 ct4 : Value}
    {f5 : Addr} {od5 an5 : Option Addr} {sl5 : Array (Option Value)} {oc5 kV5 dc5 pm5 cd5 ct5 : Value}
    {f6 : Addr} {od6 an6 : Option Addr} {sl6 : Array (Option Value)} {oc6 kV6 dc6 pm6 cd6 ct6 : Value}
    {f7 : Addr} {od7 an7 : Option Addr} {sl7 : Array (Option Value)} {oc7 kV7 dc7 pm7 cd7 ct7 : Value}
    {f8 : Addr} {od8 an8 : Option Addr} {sl8 : Array (Option Value)} {oc8 kV8 dc8 pm8 cd8 ct8 : Value}
    {f11 : Addr} {od11 an11 : Option Addr} {sl11 : Array (Option Value)} {oc11 kV11 dc11 pm11 cd11 ct11 : Value}
    {f12 : Addr} {od12 an12 : Option Addr} {sl12 : Array (Option Value)} {oc12 kV12 dc12 pm12 cd12 ct12 : Value}
    {f13 : Addr} {od13 an13 : Option Addr} {sl13 : Array (Option Value)} {oc13 kV13 dc13 pm13 cd13 ct13 : Value}
    {f14 : Addr} {od14 an14 : Option Addr} {sl14 : Array (Option Value)} {oc14 kV14 dc14 pm14 cd14 ct14 : Value}
    {f15 : Addr} {od15 an15 : Option Addr} {sl15 : Array (Option Value)} {oc15 kV15 dc15 pm15 cd15 ct15 : Value}
    {f16 : Addr} {od16 an16 : Option Addr} {sl16 : Array (Option Value)} {oc16 kV16 dc16 pm16 cd16 ct16 : Value}
    {f17 : Addr} {od17 an17 : Option Addr} {sl17 : Array (Option Value)} {oc17 kV17 dc17 pm17 cd17 ct17 : Value}
    {f18 : Addr} {od18 an18 : Option Addr} {sl18 : Array (Option Value)} {oc18 kV18 dc18 pm18 cd18 ct18 : Value}
    {f19 : Addr} {od19 an19 : Option Addr} {sl19 : Array (Option Value)} {oc19 kV19 dc19 pm19 cd19 ct19 : Value}
    {f20 : Addr} {od20 an20 : Option Addr} {sl20 : Array (Option Value)} {oc20 kV20 dc20 pm20 cd20 ct20 : Value}
    {f21 : Addr} {od21 an21 : Option Addr} {sl21 : Array (Option Value)} {oc21 kV21 dc21 pm21 cd21 ct21 : Value}
    {f22 : Addr} {od22 an22 : Option Addr} {sl22 : Array (Option Value)} {oc22 kV22 dc22 pm22 ct22 : Value}
    {f23 tE : Addr} {fd23 : FuncData}
    {f27 : Addr} {od27 an27 : Option Addr} {sl27 : Array (Option Value)} {oc27 kV27 dc27 pm27 cd27 ct27 : Value}
    {f28 : Addr} {od28 an28 : Option Addr} {sl28 : Array (Option Value)} {oc28 kV28 dc28 pm28 cd28 ct28 : Value}
    {f29 : Addr} {od29 an29 : Option Addr} {sl29 : Array (Option Value)} {oc29 kV29 dc29 pm29 cd29 ct29 : Value}
    {f30 : Addr} {od30 an30 : Option Addr} {sl30 : Array (Option Value)} {oc30 kV30 dc30 pm30 cd30 ct30 : Value}
    {f32 : Addr} {od32 an32 : Option Addr} {sl32 : Array (Option Value)} {oc32 kV32 dc32 pm32 cd32 ct32 : Value}
    {f34 : Addr} {od34 an34 : Option Addr} {sl34 : Array (Option Value)} {oc34 kV34 dc34 pm34 cd34 ct34 : Value}
    {f43 : Addr} {od43 an43 : Option Addr} {sl43 : Array (Option Value)} {oc43 kV43 dc43 pm43 cd43 ct43 : Value}
    {f44 : Addr} {od44 an44 : Option Addr} {sl44 : Array (Option Value)} {oc44 kV44 dc44 pm44 cd44 ct44 : Value}
    {f45 : Addr} {od45 an45 : Option Addr} {sl45 : Array (Option Value)} {oc45 kV45 dc45 pm45 cd45 ct45 : Value}
    {ad_LETTERS : Addr}
    {nm_InvalidTerm q_InvalidTerm : Str} {N_InvalidTerm fI_InvalidTerm : Addr} {bs_InvalidTerm bm_InvalidTerm su_InvalidTerm : List Value} {sn_InvalidTerm : List Str} {ab_InvalidTerm : Bool} {co_InvalidTerm : Option Bool} {dd_InvalidTerm : Option Addr} {k0_InvalidTerm k1_InvalidTerm k2_InvalidTerm k3_InvalidTerm k5_InvalidTerm : Option Value}
    {odI_InvalidTerm anI_InvalidTerm : Option Addr} {ocI_InvalidTerm kVI_InvalidTerm dcI_InvalidTerm pmI_InvalidTerm cdI_InvalidTerm ctI_InvalidTerm : Value} {slI_InvalidTerm : Array (Option Value)}
    {nm_InvalidNumber q_InvalidNumber : Str} {N_InvalidNumber fI_InvalidNumber : Addr} {bs_InvalidNumber bm_InvalidNumber su_InvalidNumber : List Value} {sn_InvalidNumber : List Str} {ab_InvalidNumber : Bool} {co_InvalidNumber : Option Bool} {dd_InvalidNumber : Option Addr} {k0_InvalidNumber k1_InvalidNumber k2_InvalidNumber k3_InvalidNumber k5_InvalidNumber : Option Value}
    {odI_InvalidNumber anI_InvalidNumber : Option Addr} {ocI_InvalidNumber kVI_InvalidNumber dcI_InvalidNumber pmI_InvalidNumber cdI_InvalidNumber ctI_InvalidNumber : Value} {slI_InvalidNumber : Array (Option Value)}
    {nm_InvalidLetter q_InvalidLetter : Str} {N_InvalidLetter fI_InvalidLetter : Addr} {bs_InvalidLetter bm_InvalidLetter su_InvalidLetter : List Value} {sn_InvalidLetter : List Str} {ab_InvalidLetter : Bool} {co_InvalidLetter : Option Bool} {dd_InvalidLetter : Option Addr} {k0_InvalidLetter k1_InvalidLetter k2_InvalidLetter k3_InvalidLetter k5_InvalidLetter : Option Value}
    {odI_InvalidLetter anI_InvalidLetter : Option Addr} {ocI_InvalidLetter kVI_InvalidLetter dcI_InvalidLetter pmI_InvalidLetter cdI_InvalidLetter ctI_InvalidLetter : Value} {slI_InvalidLetter : Array (Option Value)}
    {gT1 pT1 : Addr} {odT1 anT1 : Option Addr} {slT1 : Array (Option Value)} {ocT1 kVT1 dcT1 pmT1 cdT1 ctT1 : Value}
    {gT2 pT2 : Addr} {odT2 anT2 : Option Addr} {slT2 : Array (Option Value)} {ocT2 kVT2 dcT2 pmT2 cdT2 ctT2 : Value}
    {gL0 pL0 : Addr} {odG0 anG0 : Option Addr} {slG0 : Array (Option Value)} {ocG0 kVG0 dcG0 pmG0 cdG0 ctG0 : Value}
    (X : K.In h) (G : h.Ns mainGlobals mg) (hfa : mg "law" = some (.ref fa))
    (a_Poly : PySem.W.nsIn K mainGlobals "Poly" = some (some (.ref cP)))
    (a_InvalidTerm : PySem.W.nsIn K mainGlobals "InvalidTerm" = some (some (.ref cT)))
    (a_InvalidNumber : PySem.W.nsIn K mainGlobals "InvalidNumber" = some (some (.ref cN)))
    (a_InvalidLetter : PySem.W.nsIn K mainGlobals "InvalidLetter" = some (some (.ref cL)))
    (a_PlaneError : PySem.W.nsIn K mainGlobals "PlaneError" = some (some (.ref cPE)))
    (a_Missing : PySem.W.nsIn K mainGlobals "Missing" = some (some (.ref cMI)))
    (a_NothingLeft : PySem.W.nsIn K mainGlobals "NothingLeft" = some (some (.ref cNL)))
    (a2 : PySem.W.nsIn K mainGlobals "is_integer" = some (some (.ref f2)))
    (l2 : K.lookup f2 = some ⟨oc2, od2, .func (PySem.W.fnOf "is_integer" "is_integer" (defArgs sIsInteger) (defBody sIsInteger) (defScope sIsInteger) .none kV2 dc2 pm2 an2 cd2 ct2), sl2⟩)
    (c2 : PySem.W.codeIn K cd2 "is_integer" = true)
    (k2 : PySem.W.keepIn K (.ref f2) = true)
    (a3 : PySem.W.nsIn K mainGlobals "is_number" = some (some (.ref f3)))
    (l3 : K.lookup f3 = some ⟨oc3, od3, .func (PySem.W.fnOf "is_number" "is_number" (defArgs sIsNumber) (defBody sIsNumber) (defScope sIsNumber) .none kV3 dc3 pm3 an3 cd3 ct3), sl3⟩)
    (c3 : PySem.W.codeIn K cd3 "is_number" = true)
    (k3 : PySem.W.keepIn K (.ref f3) = true)
    (a4 : PySem.W.nsIn K mainGlobals "check_letter" = some (some (.ref f4)))
    (l4 : K.lookup f4 = some ⟨oc4, od4, .func (PySem.W.fnOf "check_letter" "check_letter" (defArgs sCheckLetter) (defBody sCheckLetter) (defScope sCheckLetter) .none kV4 dc4 pm4 an4 cd4 ct4), sl4⟩)
    (c4 : PySem.W.codeIn K cd4 "check_letter" = true)
    (k4 : PySem.W.keepIn K (.ref f4) = true)
    (a5 : PySem.W.nsIn K mainGlobals "check_terms" = some (some (.ref f5)))
    (l5 : K.lookup f5 = some ⟨oc5, od5, .func (PySem.W.fnOf "check_terms" "check_terms" (defArgs sCheckTerms) (defBody sCheckTerms) (defScope sCheckTerms) .none kV5 dc5 pm5 an5 cd5 ct5), sl5⟩)
    (c5 : PySem.W.codeIn K cd5 "check_terms" = true)
    (k5 : PySem.W.keepIn K (.ref f5) = true)
    (a6 : PySem.W.nsIn K mainGlobals "made_of" = some (some (.ref f6)))
    (l6 : K.lookup f6 = some ⟨oc6, od6, .func (PySem.W.fnOf "made_of" "made_of" (defArgs sMadeOf) (defBody sMadeOf) (defScope sMadeOf) .none kV6 dc6 pm6 an6 cd6 ct6), sl6⟩)
    (c6 : PySem.W.codeIn K cd6 "made_of" = true)
    (k6 : PySem.W.keepIn K (.ref f6) = true)
    (a7 : PySem.W.nsIn K mainGlobals "power_text" = some (some (.ref f7)))
    (l7 : K.lookup f7 = some ⟨oc7, od7, .func (PySem.W.fnOf "power_text" "power_text" (defArgs sPowerText) (defBody sPowerText) (defScope sPowerText) .none kV7 dc7 pm7 an7 cd7 ct7), sl7⟩)
    (c7 : PySem.W.codeIn K cd7 "power_text" = true)
    (k7 : PySem.W.keepIn K (.ref f7) = true)
    (a8 : PySem.W.nsIn K mainGlobals "term_text" = some (some (.ref f8)))
    (l8 : K.lookup f8 = some ⟨oc8, od8, .func (PySem.W.fnOf "term_text" "term_text" (defArgs sTermText) (defBody sTermText) (defScope sTermText) .none kV8 dc8 pm8 an8 cd8 ct8), sl8⟩)
    (c8 : PySem.W.codeIn K cd8 "term_text" = true)
    (k8 : PySem.W.keepIn K (.ref f8) = true)
    (a11 : PySem.W.nsIn K mainGlobals "_law_bag" = some (some (.ref f11)))
    (l11 : K.lookup f11 = some ⟨oc11, od11, .func (PySem.W.fnOf "_law_bag" "_law_bag" (defArgs sLBag) (defBody sLBag) (defScope sLBag) .none kV11 dc11 pm11 an11 cd11 ct11), sl11⟩)
    (c11 : PySem.W.codeIn K cd11 "_law_bag" = true)
    (k11 : PySem.W.keepIn K (.ref f11) = true)
    (a12 : PySem.W.nsIn K mainGlobals "_law_pull" = some (some (.ref f12)))
    (l12 : K.lookup f12 = some ⟨oc12, od12, .func (PySem.W.fnOf "_law_pull" "_law_pull" (defArgs sLPull) (defBody sLPull) (defScope sLPull) .none kV12 dc12 pm12 an12 cd12 ct12), sl12⟩)
    (c12 : PySem.W.codeIn K cd12 "_law_pull" = true)
    (k12 : PySem.W.keepIn K (.ref f12) = true)
    (a13 : PySem.W.nsIn K mainGlobals "_law_of" = some (some (.ref f13)))
    (l13 : K.lookup f13 = some ⟨oc13, od13, .func (PySem.W.fnOf "_law_of" "_law_of" (defArgs sLOf) (defBody sLOf) (defScope sLOf) .none kV13 dc13 pm13 an13 cd13 ct13), sl13⟩)
    (c13 : PySem.W.codeIn K cd13 "_law_of" = true)
    (k13 : PySem.W.keepIn K (.ref f13) = true)
    (a14 : PySem.W.nsIn K mainGlobals "_law_same" = some (some (.ref f14)))
    (l14 : K.lookup f14 = some ⟨oc14, od14, .func (PySem.W.fnOf "_law_same" "_law_same" (defArgs sLSame) (defBody sLSame) (defScope sLSame) .none kV14 dc14 pm14 an14 cd14 ct14), sl14⟩)
    (c14 : PySem.W.codeIn K cd14 "_law_same" = true)
    (k14 : PySem.W.keepIn K (.ref f14) = true)
    (a15 : PySem.W.nsIn K mainGlobals "_law_field" = some (some (.ref f15)))
    (l15 : K.lookup f15 = some ⟨oc15, od15, .func (PySem.W.fnOf "_law_field" "_law_field" (defArgs sLField) (defBody sLField) (defScope sLField) .none kV15 dc15 pm15 an15 cd15 ct15), sl15⟩)
    (c15 : PySem.W.codeIn K cd15 "_law_field" = true)
    (k15 : PySem.W.keepIn K (.ref f15) = true)
    (a16 : PySem.W.nsIn K mainGlobals "_law_try" = some (some (.ref f16)))
    (l16 : K.lookup f16 = some ⟨oc16, od16, .func (PySem.W.fnOf "_law_try" "_law_try" (defArgs sLTry) (defBody sLTry) (defScope sLTry) .none kV16 dc16 pm16 an16 cd16 ct16), sl16⟩)
    (c16 : PySem.W.codeIn K cd16 "_law_try" = true)
    (k16 : PySem.W.keepIn K (.ref f16) = true)
    (a17 : PySem.W.nsIn K mainGlobals "_law_tries" = some (some (.ref f17)))
    (l17 : K.lookup f17 = some ⟨oc17, od17, .func (PySem.W.fnOf "_law_tries" "_law_tries" (defArgs sLTries) (defBody sLTries) (defScope sLTries) .none kV17 dc17 pm17 an17 cd17 ct17), sl17⟩)
    (c17 : PySem.W.codeIn K cd17 "_law_tries" = true)
    (k17 : PySem.W.keepIn K (.ref f17) = true)
    (a18 : PySem.W.nsIn K mainGlobals "_law_gathered" = some (some (.ref f18)))
    (l18 : K.lookup f18 = some ⟨oc18, od18, .func (PySem.W.fnOf "_law_gathered" "_law_gathered" (defArgs sLGathered) (defBody sLGathered) (defScope sLGathered) .none kV18 dc18 pm18 an18 cd18 ct18), sl18⟩)
    (c18 : PySem.W.codeIn K cd18 "_law_gathered" = true)
    (k18 : PySem.W.keepIn K (.ref f18) = true)
    (a19 : PySem.W.nsIn K mainGlobals "_law_degree" = some (some (.ref f19)))
    (l19 : K.lookup f19 = some ⟨oc19, od19, .func (PySem.W.fnOf "_law_degree" "_law_degree" (defArgs sLDegree) (defBody sLDegree) (defScope sLDegree) .none kV19 dc19 pm19 an19 cd19 ct19), sl19⟩)
    (c19 : PySem.W.codeIn K cd19 "_law_degree" = true)
    (k19 : PySem.W.keepIn K (.ref f19) = true)
    (a20 : PySem.W.nsIn K mainGlobals "_law_letter_text" = some (some (.ref f20)))
    (l20 : K.lookup f20 = some ⟨oc20, od20, .func (PySem.W.fnOf "_law_letter_text" "_law_letter_text" (defArgs sLLetterText) (defBody sLLetterText) (defScope sLLetterText) .none kV20 dc20 pm20 an20 cd20 ct20), sl20⟩)
    (c20 : PySem.W.codeIn K cd20 "_law_letter_text" = true)
    (k20 : PySem.W.keepIn K (.ref f20) = true)
    (a21 : PySem.W.nsIn K mainGlobals "_law_poly_text" = some (some (.ref f21)))
    (l21 : K.lookup f21 = some ⟨oc21, od21, .func (PySem.W.fnOf "_law_poly_text" "_law_poly_text" (defArgs sLPolyText) (defBody sLPolyText) (defScope sLPolyText) .none kV21 dc21 pm21 an21 cd21 ct21), sl21⟩)
    (c21 : PySem.W.codeIn K cd21 "_law_poly_text" = true)
    (k21 : PySem.W.keepIn K (.ref f21) = true)
    (a22 : PySem.W.nsIn K mainGlobals "law" = some (some (.ref f22)))
    (l22 : K.lookup f22 = some ⟨oc22, od22, .func (PySem.W.fnOf "law" "law" (defArgs sLaw) (defBody sLaw) (defScope sLaw) .none kV22 dc22 pm22 an22 (.ref c) ct22), sl22⟩)
    (c22 : PySem.W.codeIn K (.ref c) "law" = true)
    (k22 : PySem.W.keepIn K (.ref f22) = true)
    (a23 : PySem.W.findIn K (.ref cP) "__init__" = some (some (.ref f23)))
    (i23 : PySem.W.isFn K (.ref f23) = true)
    (FF23 : FunF K "__init__" "Poly.__init__" sPolyInit [.ref tE] [("most", .int 20)] f23 fd23)
    (r_tE : ∀ L H, Rp L K H (.ref tE) (.tup []))
    (a27 : PySem.W.findIn K (.ref cP) "degree_in" = some (some (.ref f27)))
    (i27 : PySem.W.isFn K (.ref f27) = true)
    (l27 : K.lookup f27 = some ⟨oc27, od27, .func (PySem.W.fnOf "degree_in" "Poly.degree_in" (defArgs sPolyDegreeIn) (defBody sPolyDegreeIn) (defScope sPolyDegreeIn) .none kV27 dc27 pm27 an27 cd27 ct27), sl27⟩)
    (c27 : PySem.W.codeIn K cd27 "Poly.degree_in" = true)
    (k27 : PySem.W.keepIn K (.ref f27) = true)
    (a28 : PySem.W.findIn K (.ref cP) "lead" = some (some (.ref f28)))
    (i28 : PySem.W.isFn K (.ref f28) = true)
    (l28 : K.lookup f28 = some ⟨oc28, od28, .func (PySem.W.fnOf "lead" "Poly.lead" (defArgs sPolyLead) (defBody sPolyLead) (defScope sPolyLead) .none kV28 dc28 pm28 an28 cd28 ct28), sl28⟩)
    (c28 : PySem.W.codeIn K cd28 "Poly.lead" = true)
    (k28 : PySem.W.keepIn K (.ref f28) = true)
    (a29 : PySem.W.findIn K (.ref cP) "terms" = some (some (.ref f29)))
    (i29 : PySem.W.isFn K (.ref f29) = true)
    (l29 : K.lookup f29 = some ⟨oc29, od29, .func (PySem.W.fnOf "terms" "Poly.terms" (defArgs sPolyTerms) (defBody sPolyTerms) (defScope sPolyTerms) .none kV29 dc29 pm29 an29 cd29 ct29), sl29⟩)
    (c29 : PySem.W.codeIn K cd29 "Poly.terms" = true)
    (k29 : PySem.W.keepIn K (.ref f29) = true)
    (a30 : PySem.W.findIn K (.ref cP) "coefficient" = some (some (.ref f30)))
    (i30 : PySem.W.isFn K (.ref f30) = true)
    (l30 : K.lookup f30 = some ⟨oc30, od30, .func (PySem.W.fnOf "coefficient" "Poly.coefficient" (defArgs sPolyCoefficient) (defBody sPolyCoefficient) (defScope sPolyCoefficient) .none kV30 dc30 pm30 an30 cd30 ct30), sl30⟩)
    (c30 : PySem.W.codeIn K cd30 "Poly.coefficient" = true)
    (k30 : PySem.W.keepIn K (.ref f30) = true)
    (a32 : PySem.W.findIn K (.ref cP) "slope" = some (some (.ref f32)))
    (i32 : PySem.W.isFn K (.ref f32) = true)
    (l32 : K.lookup f32 = some ⟨oc32, od32, .func (PySem.W.fnOf "slope" "Poly.slope" (defArgs sPolySlope) (defBody sPolySlope) (defScope sPolySlope) .none kV32 dc32 pm32 an32 cd32 ct32), sl32⟩)
    (c32 : PySem.W.codeIn K cd32 "Poly.slope" = true)
    (k32 : PySem.W.keepIn K (.ref f32) = true)
    (a34 : PySem.W.findIn K (.ref cP) "text" = some (some (.ref f34)))
    (i34 : PySem.W.isFn K (.ref f34) = true)
    (l34 : K.lookup f34 = some ⟨oc34, od34, .func (PySem.W.fnOf "text" "Poly.text" (defArgs sPolyText) (defBody sPolyText) (defScope sPolyText) .none kV34 dc34 pm34 an34 cd34 ct34), sl34⟩)
    (c34 : PySem.W.codeIn K cd34 "Poly.text" = true)
    (k34 : PySem.W.keepIn K (.ref f34) = true)
    (a43 : PySem.W.findIn K (.ref cP) "__eq__" = some (some (.ref f43)))
    (i43 : PySem.W.isFn K (.ref f43) = true)
    (l43 : K.lookup f43 = some ⟨oc43, od43, .func (PySem.W.fnOf "__eq__" "Poly.__eq__" (defArgs sPolyEq) (defBody sPolyEq) (defScope sPolyEq) .none kV43 dc43 pm43 an43 cd43 ct43), sl43⟩)
    (c43 : PySem.W.codeIn K cd43 "Poly.__eq__" = true)
    (k43 : PySem.W.keepIn K (.ref f43) = true)
    (a44 : PySem.W.findIn K (.ref cP) "__bool__" = some (some (.ref f44)))
    (i44 : PySem.W.isFn K (.ref f44) = true)
    (l44 : K.lookup f44 = some ⟨oc44, od44, .func (PySem.W.fnOf "__bool__" "Poly.__bool__" (defArgs sPolyBool) (defBody sPolyBool) (defScope sPolyBool) .none kV44 dc44 pm44 an44 cd44 ct44), sl44⟩)
    (c44 : PySem.W.codeIn K cd44 "Poly.__bool__" = true)
    (k44 : PySem.W.keepIn K (.ref f44) = true)
    (a45 : PySem.W.findIn K (.ref cP) "__repr__" = some (some (.ref f45)))
    (i45 : PySem.W.isFn K (.ref f45) = true)
    (l45 : K.lookup f45 = some ⟨oc45, od45, .func (PySem.W.fnOf "__repr__" "Poly.__repr__" (defArgs sPolyRepr) (defBody sPolyRepr) (defScope sPolyRepr) .none kV45 dc45 pm45 an45 cd45 ct45), sl45⟩)
    (c45 : PySem.W.codeIn K cd45 "Poly.__repr__" = true)
    (k45 : PySem.W.keepIn K (.ref f45) = true)
    (z_isinstance : PySem.W.nsIn K mainGlobals "isinstance" = some none)
    (z_int : PySem.W.nsIn K mainGlobals "int" = some none)
    (z_bool : PySem.W.nsIn K mainGlobals "bool" = some none)
    (z_str : PySem.W.nsIn K mainGlobals "str" = some none)
    (z_list : PySem.W.nsIn K mainGlobals "list" = some none)
    (z_tuple : PySem.W.nsIn K mainGlobals "tuple" = some none)
    (z_len : PySem.W.nsIn K mainGlobals "len" = some none)
    (z_abs : PySem.W.nsIn K mainGlobals "abs" = some none)
    (z_all : PySem.W.nsIn K mainGlobals "all" = some none)
    (z_range : PySem.W.nsIn K mainGlobals "range" = some none)
    (z_zip : PySem.W.nsIn K mainGlobals "zip" = some none)
    (z_enumerate : PySem.W.nsIn K mainGlobals "enumerate" = some none)
    (z_sorted : PySem.W.nsIn K mainGlobals "sorted" = some none)
    (z_reversed : PySem.W.nsIn K mainGlobals "reversed" = some none)
    (z_repr : PySem.W.nsIn K mainGlobals "repr" = some none)
    (z_max : PySem.W.nsIn K mainGlobals "max" = some none)
    (g_LETTERS : PySem.W.nsIn K mainGlobals "LETTERS" = some (some (.ref ad_LETTERS)))
    (r_LETTERS : ∀ L H, Rp L K H (.ref ad_LETTERS) (.tup [.str "x", .str "y"]))
    (gt_LETTERS : DH.gtB K ad_LETTERS ["x", "y"] = true)
    (pg_Poly : PySem.W.plainGet K cP Str.empty = true)
    (hd_Poly : PySem.W.hasDictIn K cP = true)
    (po_Poly : PySem.W.plainOver K cP = true)
    (sa_Poly : PySem.W.findIn K (.ref cP) "__setattr__" = some (some (.builtin "object.__setattr__")))
    (mk_Poly : PySem.W.makesIn K cP = true)
    (kc_Poly : PySem.W.keepIn K (.ref cP) = true)
    (no0_Poly : PySem.W.findIn K (.ref cP) "cells" = some none)
    (o_InvalidTerm : K.lookup cT = some (excClassObj nm_InvalidTerm q_InvalidTerm cT N_InvalidTerm bs_InvalidTerm bm_InvalidTerm true sn_InvalidTerm su_InvalidTerm ab_InvalidTerm co_InvalidTerm dd_InvalidTerm k0_InvalidTerm k1_InvalidTerm k2_InvalidTerm k3_InvalidTerm k5_InvalidTerm "ValueError.__new__"))
    (r_InvalidTerm : PySem.HandSPX.refsVE bm_InvalidTerm = true)
    (sa_InvalidTerm : PySem.W.findIn K (.ref cT) "__setattr__" = some (some (.builtin "object.__setattr__")))
    (ex_InvalidTerm : PySem.W.subIn K (.ref cT) (.type "BaseException") = some true)
    (ty_InvalidTerm : PySem.W.typeIn K (.ref cT) = some (.type "type"))
    (kc_InvalidTerm : PySem.W.keepIn K (.ref cT) = true)
    (iI_InvalidTerm : PySem.W.findIn K (.ref cT) "__init__" = some (some (.ref fI_InvalidTerm)))
    (tI_InvalidTerm : PySem.W.typeIn K (.ref fI_InvalidTerm) = some (.type "function"))
    (lI_InvalidTerm : K.lookup fI_InvalidTerm = some ⟨ocI_InvalidTerm, odI_InvalidTerm, .func (PySem.W.fnOf "__init__" "InvalidTerm.__init__" (defArgs sInvalidTerm_init) (defBody sInvalidTerm_init) (defScope sInvalidTerm_init) .none kVI_InvalidTerm dcI_InvalidTerm pmI_InvalidTerm anI_InvalidTerm cdI_InvalidTerm ctI_InvalidTerm), slI_InvalidTerm⟩)
    (cI_InvalidTerm : PySem.W.codeIn K cdI_InvalidTerm "InvalidTerm.__init__" = true)
    (kI_InvalidTerm : PySem.W.keepIn K (.ref fI_InvalidTerm) = true)
    (f0_InvalidTerm : PySem.W.findIn K (.ref cT) "code" = some none)
    (f1_InvalidTerm : PySem.W.findIn K (.ref cT) "at" = some none)
    (ga_InvalidTerm : PySem.W.findIn K (.ref cT) "__getattribute__" = some (some (.builtin "BaseException.__getattribute__")))
    (gg_InvalidTerm : PySem.W.findIn K (.ref cT) "__getattr__" = some none)
    (hd_InvalidTerm : PySem.W.hasDictIn K cT = true)
    (em_InvalidTerm : PySem.W.exmAny K (.ref cT) [.ref cPE, .ref cMI, .ref cNL] = some true)
    (o_InvalidNumber : K.lookup cN = some (excClassObj nm_InvalidNumber q_InvalidNumber cN N_InvalidNumber bs_InvalidNumber bm_InvalidNumber true sn_InvalidNumber su_InvalidNumber ab_InvalidNumber co_InvalidNumber dd_InvalidNumber k0_InvalidNumber k1_InvalidNumber k2_InvalidNumber k3_InvalidNumber k5_InvalidNumber "ValueError.__new__"))
    (r_InvalidNumber : PySem.HandSPX.refsVE bm_InvalidNumber = true)
    (sa_InvalidNumber : PySem.W.findIn K (.ref cN) "__setattr__" = some (some (.builtin "object.__setattr__")))
    (ex_InvalidNumber : PySem.W.subIn K (.ref cN) (.type "BaseException") = some true)
    (ty_InvalidNumber : PySem.W.typeIn K (.ref cN) = some (.type "type"))
    (kc_InvalidNumber : PySem.W.keepIn K (.ref cN) = true)
    (iI_InvalidNumber : PySem.W.findIn K (.ref cN) "__init__" = some (some (.ref fI_InvalidNumber)))
    (tI_InvalidNumber : PySem.W.typeIn K (.ref fI_InvalidNumber) = some (.type "function"))
    (lI_InvalidNumber : K.lookup fI_InvalidNumber = some ⟨ocI_InvalidNumber, odI_InvalidNumber, .func (PySem.W.fnOf "__init__" "InvalidNumber.__init__" (defArgs sInvalidNumber_init) (defBody sInvalidNumber_init) (defScope sInvalidNumber_init) .none kVI_InvalidNumber dcI_InvalidNumber pmI_InvalidNumber anI_InvalidNumber cdI_InvalidNumber ctI_InvalidNumber), slI_InvalidNumber⟩)
    (cI_InvalidNumber : PySem.W.codeIn K cdI_InvalidNumber "InvalidNumber.__init__" = true)
    (kI_InvalidNumber : PySem.W.keepIn K (.ref fI_InvalidNumber) = true)
    (f0_InvalidNumber : PySem.W.findIn K (.ref cN) "code" = some none)
    (f1_InvalidNumber : PySem.W.findIn K (.ref cN) "given" = some none)
    (ga_InvalidNumber : PySem.W.findIn K (.ref cN) "__getattribute__" = some (some (.builtin "BaseException.__getattribute__")))
    (gg_InvalidNumber : PySem.W.findIn K (.ref cN) "__getattr__" = some none)
    (hd_InvalidNumber : PySem.W.hasDictIn K cN = true)
    (em_InvalidNumber : PySem.W.exmAny K (.ref cN) [.ref cPE, .ref cMI, .ref cNL] = some true)
    (o_InvalidLetter : K.lookup cL = some (excClassObj nm_InvalidLetter q_InvalidLetter cL N_InvalidLetter bs_InvalidLetter bm_InvalidLetter true sn_InvalidLetter su_InvalidLetter ab_InvalidLetter co_InvalidLetter dd_InvalidLetter k0_InvalidLetter k1_InvalidLetter k2_InvalidLetter k3_InvalidLetter k5_InvalidLetter "ValueError.__new__"))
    (r_InvalidLetter : PySem.HandSPX.refsVE bm_InvalidLetter = true)
    (sa_InvalidLetter : PySem.W.findIn K (.ref cL) "__setattr__" = some (some (.builtin "object.__setattr__")))
    (ex_InvalidLetter : PySem.W.subIn K (.ref cL) (.type "BaseException") = some true)
    (ty_InvalidLetter : PySem.W.typeIn K (.ref cL) = some (.type "type"))
    (kc_InvalidLetter : PySem.W.keepIn K (.ref cL) = true)
    (iI_InvalidLetter : PySem.W.findIn K (.ref cL) "__init__" = some (some (.ref fI_InvalidLetter)))
    (tI_InvalidLetter : PySem.W.typeIn K (.ref fI_InvalidLetter) = some (.type "function"))
    (lI_InvalidLetter : K.lookup fI_InvalidLetter = some ⟨ocI_InvalidLetter, odI_InvalidLetter, .func (PySem.W.fnOf "__init__" "InvalidLetter.__init__" (defArgs sInvalidLetter_init) (defBody sInvalidLetter_init) (defScope sInvalidLetter_init) .none kVI_InvalidLetter dcI_InvalidLetter pmI_InvalidLetter anI_InvalidLetter cdI_InvalidLetter ctI_InvalidLetter), slI_InvalidLetter⟩)
    (cI_InvalidLetter : PySem.W.codeIn K cdI_InvalidLetter "InvalidLetter.__init__" = true)
    (kI_InvalidLetter : PySem.W.keepIn K (.ref fI_InvalidLetter) = true)
    (f0_InvalidLetter : PySem.W.findIn K (.ref cL) "code" = some none)
    (f1_InvalidLetter : PySem.W.findIn K (.ref cL) "given" = some none)
    (ga_InvalidLetter : PySem.W.findIn K (.ref cL) "__getattribute__" = some (some (.builtin "BaseException.__getattribute__")))
    (gg_InvalidLetter : PySem.W.findIn K (.ref cL) "__getattr__" = some none)
    (hd_InvalidLetter : PySem.W.hasDictIn K cL = true)
    (em_InvalidLetter : PySem.W.exmAny K (.ref cL) [.ref cPE, .ref cMI, .ref cNL] = some true)
    (ic_ha : PySem.W.findIn K (.ref cP) "__class__" = some (some (.builtin "object.__class__")))
    (ic_hn : PySem.W.specialIn K (.builtin "object.__class__") "__get__" = some (some (.builtin "getset_descriptor.__get__")))
    (ic_tk : PySem.W.takesIn K (.builtin "object.__class__") = some true)
    (ic_hm : PySem.W.mroIn K cP (.type "object") = some true)
    (ne_ne : PySem.W.findIn K (.ref cP) "__ne__" = some (some (.builtin "object.__ne__")))
    (nfL : PySem.W.notFirst K cP (.type "list") = true)
    (kL : PySem.W.kitOne K (.type "list") (.ref cP) = some false)
    (SM_constant : SMet K cP (.type "type") "constant" pT1 gT1)
    (lT1 : K.lookup gT1 = some ⟨ocT1, odT1, .func (PySem.W.fnOf "constant" "Poly.constant" (defArgs sPolyConstant) (defBody sPolyConstant) (defScope sPolyConstant) .none kVT1 dcT1 pmT1 anT1 cdT1 ctT1), slT1⟩)
    (cT1 : PySem.W.codeIn K cdT1 "Poly.constant" = true)
    (SM_letter : SMet K cP (.type "type") "letter" pT2 gT2)
    (lT2 : K.lookup gT2 = some ⟨ocT2, odT2, .func (PySem.W.fnOf "letter" "Poly.letter" (defArgs sPolyLetter) (defBody sPolyLetter) (defScope sPolyLetter) .none kVT2 dcT2 pmT2 anT2 cdT2 ctT2), slT2⟩)
    (cT2 : PySem.W.codeIn K cdT2 "Poly.letter" = true)
    (cr : ClX.CRead K cP (.type "type"))
    (PO0 : PropOf K cP "degree" pL0 gL0)
    (lG0 : K.lookup gL0 = some ⟨ocG0, odG0, .func (PySem.W.fnOf "degree" "Poly.degree" (defArgs sGet0) (defBody sGet0) (defScope sGet0) .none kVG0 dcG0 pmG0 anG0 cdG0 ctG0), slG0⟩)
    (cG0 : PySem.W.codeIn K cdG0 "Poly.degree" = true)
    (kG0 : PySem.W.keepIn K (.ref gL0) = true) :
    ∃ fd : FuncData, (∀ (s : Shared) (v : Value), BindsTo s fd ⟨[v], []⟩ [("_law_script", v)]) ∧ ∀ base : Heap, K.In base → base.Ns mainGlobals mg → LamX.TabB base mg c Pt → FnOk P w K mg base (L2.CX P w) 16 fa fd ["_law_script"] (spD K (lawS Pt)) := by
  have n_Poly := PySem.W.mg_of X G a_Poly
  have n_InvalidTerm := PySem.W.mg_of X G a_InvalidTerm
  have n_InvalidNumber := PySem.W.mg_of X G a_InvalidNumber
  have n_InvalidLetter := PySem.W.mg_of X G a_InvalidLetter
  have n_PlaneError := PySem.W.mg_of X G a_PlaneError
  have n_Missing := PySem.W.mg_of X G a_Missing
  have n_NothingLeft := PySem.W.mg_of X G a_NothingLeft
  have e := hfa.symm.trans (PySem.W.mg_of X G a22)
  cases e
  have c_Poly : Cls K cP := ⟨pg_Poly, hd_Poly, po_Poly, sa_Poly⟩
  have Mk_Poly : Mk K cP f23 := ⟨mk_Poly, a23, i23, kc_Poly⟩
  have FI_InvalidTerm := fun_mk (st := sInvalidTerm_init) lI_InvalidTerm cI_InvalidTerm kI_InvalidTerm
  have BI_InvalidTerm := FI_InvalidTerm.binds (ps := ["self", "at"]) fun _ _ _ _ _ _ us hl => match us, hl with | [_, _], _ => rfl
  have OX_InvalidTerm : OexC K cT := ⟨⟨_, _, _, _, _, _, _, _, _, _, _, _, _, _, _, o_InvalidTerm, r_InvalidTerm⟩, sa_InvalidTerm, ex_InvalidTerm, ty_InvalidTerm, kc_InvalidTerm⟩
  have XF_InvalidTerm : XfC K cT := ⟨ga_InvalidTerm, gg_InvalidTerm, ex_InvalidTerm, hd_InvalidTerm⟩
  have FI_InvalidNumber := fun_mk (st := sInvalidNumber_init) lI_InvalidNumber cI_InvalidNumber kI_InvalidNumber
  have BI_InvalidNumber := FI_InvalidNumber.binds (ps := ["self", "given"]) fun _ _ _ _ _ _ us hl => match us, hl with | [_, _], _ => rfl
  have OX_InvalidNumber : OexC K cN := ⟨⟨_, _, _, _, _, _, _, _, _, _, _, _, _, _, _, o_InvalidNumber, r_InvalidNumber⟩, sa_InvalidNumber, ex_InvalidNumber, ty_InvalidNumber, kc_InvalidNumber⟩
  have XF_InvalidNumber : XfC K cN := ⟨ga_InvalidNumber, gg_InvalidNumber, ex_InvalidNumber, hd_InvalidNumber⟩
  have FI_InvalidLetter := fun_mk (st := sInvalidLetter_init) lI_InvalidLetter cI_InvalidLetter kI_InvalidLetter
  have BI_InvalidLetter := FI_InvalidLetter.binds (ps := ["self", "given"]) fun _ _ _ _ _ _ us hl => match us, hl with | [_, _], _ => rfl
  have OX_InvalidLetter : OexC K cL := ⟨⟨_, _, _, _, _, _, _, _, _, _, _, _, _, _, _, o_InvalidLetter, r_InvalidLetter⟩, sa_InvalidLetter, ex_InvalidLetter, ty_InvalidLetter, kc_InvalidLetter⟩
  have XF_InvalidLetter : XfC K cL := ⟨ga_InvalidLetter, gg_InvalidLetter, ex_InvalidLetter, hd_InvalidLetter⟩
  have FPolyConstant := fun_mk (st := sPolyConstant) lT1 cT1 SM_constant.kp
  have bPolyConstant := FPolyConstant.binds (ps := ["value"]) fun _ _ _ _ _ _ us hl => match us, hl with | [_], _ => rfl
  have FPolyLetter := fun_mk (st := sPolyLetter) lT2 cT2 SM_letter.kp
  have bPolyLetter := FPolyLetter.binds (ps := ["name"]) fun _ _ _ _ _ _ us hl => match us, hl with | [_], _ => rfl
  have FPolyDegree := fun_mk (st := sGet0) lG0 cG0 kG0
  have bPolyDegree := FPolyDegree.binds (ps := ["self"]) fun _ _ _ _ _ _ us hl => match us, hl with | [_], _ => rfl
  have FIsInteger := fun_mk (st := sIsInteger) l2 c2 k2
  have bIsInteger := FIsInteger.binds (ps := ["value"]) fun _ _ _ _ _ _ us hl => match us, hl with | [_], _ => rfl
  have mIsInteger := PySem.W.mg_of X G a2
  have FIsNumber := fun_mk (st := sIsNumber) l3 c3 k3
  have bIsNumber := FIsNumber.binds (ps := ["value", "least", "most"]) fun _ _ _ _ _ _ us hl => match us, hl with | [_, _, _], _ => rfl
  have mIsNumber := PySem.W.mg_of X G a3
  have FCheckLetter := fun_mk (st := sCheckLetter) l4 c4 k4
  have bCheckLetter := FCheckLetter.binds (ps := ["letter"]) fun _ _ _ _ _ _ us hl => match us, hl with | [_], _ => rfl
  have mCheckLetter := PySem.W.mg_of X G a4
  have FCheckTerms := fun_mk (st := sCheckTerms) l5 c5 k5
  have bCheckTerms := FCheckTerms.binds (ps := ["terms", "most"]) fun _ _ _ _ _ _ us hl => match us, hl with | [_, _], _ => rfl
  have mCheckTerms := PySem.W.mg_of X G a5
  have FMadeOf := fun_mk (st := sMadeOf) l6 c6 k6
  have bMadeOf := FMadeOf.binds (ps := ["cells"]) fun _ _ _ _ _ _ us hl => match us, hl with | [_], _ => rfl
  have mMadeOf := PySem.W.mg_of X G a6
  have FPowerText := fun_mk (st := sPowerText) l7 c7 k7
  have bPowerText := FPowerText.binds (ps := ["letter", "power"]) fun _ _ _ _ _ _ us hl => match us, hl with | [_, _], _ => rfl
  have mPowerText := PySem.W.mg_of X G a7
  have FTermText := fun_mk (st := sTermText) l8 c8 k8
  have bTermText := FTermText.binds (ps := ["i", "j", "size"]) fun _ _ _ _ _ _ us hl => match us, hl with | [_, _, _], _ => rfl
  have mTermText := PySem.W.mg_of X G a8
  have FLBag := fun_mk (st := sLBag) l11 c11 k11
  have bLBag := FLBag.binds (ps := ["_law_script"]) fun _ _ _ _ _ _ us hl => match us, hl with | [_], _ => rfl
  have mLBag := PySem.W.mg_of X G a11
  have FLPull := fun_mk (st := sLPull) l12 c12 k12
  have bLPull := FLPull.binds (ps := ["_law_bag_here", "_law_many"]) fun _ _ _ _ _ _ us hl => match us, hl with | [_, _], _ => rfl
  have mLPull := PySem.W.mg_of X G a12
  have FLOf := fun_mk (st := sLOf) l13 c13 k13
  have bLOf := FLOf.binds (ps := ["_law_bag_here", "_law_some"]) fun _ _ _ _ _ _ us hl => match us, hl with | [_, _], _ => rfl
  have mLOf := PySem.W.mg_of X G a13
  have FLSame := fun_mk (st := sLSame) l14 c14 k14
  have bLSame := FLSame.binds (ps := ["_law_found", "_law_due"]) fun _ _ _ _ _ _ us hl => match us, hl with | [_, _], _ => rfl
  have mLSame := PySem.W.mg_of X G a14
  have FLField := fun_mk (st := sLField) l15 c15 k15
  have bLField := FLField.binds (ps := ["_law_e"]) fun _ _ _ _ _ _ us hl => match us, hl with | [_], _ => rfl
  have mLField := PySem.W.mg_of X G a15
  have FLTry := fun_mk (st := sLTry) l16 c16 k16
  have bLTry := FLTry.binds (ps := ["_law_ask"]) fun _ _ _ _ _ _ us hl => match us, hl with | [_], _ => rfl
  have mLTry := PySem.W.mg_of X G a16
  have FLTries := fun_mk (st := sLTries) l17 c17 k17
  have bLTries := FLTries.binds (ps := ["_law_asks"]) fun _ _ _ _ _ _ us hl => match us, hl with | [_], _ => rfl
  have mLTries := PySem.W.mg_of X G a17
  have FLGathered := fun_mk (st := sLGathered) l18 c18 k18
  have bLGathered := FLGathered.binds (ps := ["_law_terms_z"]) fun _ _ _ _ _ _ us hl => match us, hl with | [_], _ => rfl
  have mLGathered := PySem.W.mg_of X G a18
  have FLDegree := fun_mk (st := sLDegree) l19 c19 k19
  have bLDegree := FLDegree.binds (ps := ["_law_terms_z"]) fun _ _ _ _ _ _ us hl => match us, hl with | [_], _ => rfl
  have mLDegree := PySem.W.mg_of X G a19
  have FLLetterText := fun_mk (st := sLLetterText) l20 c20 k20
  have bLLetterText := FLLetterText.binds (ps := ["_law_letter", "_law_power"]) fun _ _ _ _ _ _ us hl => match us, hl with | [_, _], _ => rfl
  have mLLetterText := PySem.W.mg_of X G a20
  have FLPolyText := fun_mk (st := sLPolyText) l21 c21 k21
  have bLPolyText := FLPolyText.binds (ps := ["_law_terms_z"]) fun _ _ _ _ _ _ us hl => match us, hl with | [_], _ => rfl
  have mLPolyText := PySem.W.mg_of X G a21
  have FPolyInit := FF23
  have FPolyDegreeIn := fun_mk (st := sPolyDegreeIn) l27 c27 k27
  have bPolyDegreeIn := FPolyDegreeIn.binds (ps := ["self", "letter"]) fun _ _ _ _ _ _ us hl => match us, hl with | [_, _], _ => rfl
  have hPolyDegreeIn : Meth K cP "degree_in" f27 := ⟨a27, i27, k27⟩
  have FPolyLead := fun_mk (st := sPolyLead) l28 c28 k28
  have bPolyLead := FPolyLead.binds (ps := ["self"]) fun _ _ _ _ _ _ us hl => match us, hl with | [_], _ => rfl
  have hPolyLead : Meth K cP "lead" f28 := ⟨a28, i28, k28⟩
  have FPolyTerms := fun_mk (st := sPolyTerms) l29 c29 k29
  have bPolyTerms := FPolyTerms.binds (ps := ["self"]) fun _ _ _ _ _ _ us hl => match us, hl with | [_], _ => rfl
  have hPolyTerms : Meth K cP "terms" f29 := ⟨a29, i29, k29⟩
  have FPolyCoefficient := fun_mk (st := sPolyCoefficient) l30 c30 k30
  have bPolyCoefficient := FPolyCoefficient.binds (ps := ["self", "i", "j"]) fun _ _ _ _ _ _ us hl => match us, hl with | [_, _, _], _ => rfl
  have hPolyCoefficient : Meth K cP "coefficient" f30 := ⟨a30, i30, k30⟩
  have FPolySlope := fun_mk (st := sPolySlope) l32 c32 k32
  have bPolySlope := FPolySlope.binds (ps := ["self", "letter"]) fun _ _ _ _ _ _ us hl => match us, hl with | [_, _], _ => rfl
  have hPolySlope : Meth K cP "slope" f32 := ⟨a32, i32, k32⟩
  have FPolyText := fun_mk (st := sPolyText) l34 c34 k34
  have bPolyText := FPolyText.binds (ps := ["self"]) fun _ _ _ _ _ _ us hl => match us, hl with | [_], _ => rfl
  have hPolyText : Meth K cP "text" f34 := ⟨a34, i34, k34⟩
  have FPolyEq := fun_mk (st := sPolyEq) l43 c43 k43
  have bPolyEq := FPolyEq.binds (ps := ["self", "other"]) fun _ _ _ _ _ _ us hl => match us, hl with | [_, _], _ => rfl
  have hPolyEq : Meth K cP "__eq__" f43 := ⟨a43, i43, k43⟩
  have FPolyBool := fun_mk (st := sPolyBool) l44 c44 k44
  have bPolyBool := FPolyBool.binds (ps := ["self"]) fun _ _ _ _ _ _ us hl => match us, hl with | [_], _ => rfl
  have hPolyBool : Meth K cP "__bool__" f44 := ⟨a44, i44, k44⟩
  have FPolyRepr := fun_mk (st := sPolyRepr) l45 c45 k45
  have bPolyRepr := FPolyRepr.binds (ps := ["self"]) fun _ _ _ _ _ _ us hl => match us, hl with | [_], _ => rfl
  have hPolyRepr : Meth K cP "__repr__" f45 := ⟨a45, i45, k45⟩
  have Z : Zn w K mg cP := { z_isinstance := PySem.W.mg_none_of X G z_isinstance, z_int := PySem.W.mg_none_of X G z_int, z_bool := PySem.W.mg_none_of X G z_bool, z_str := PySem.W.mg_none_of X G z_str, z_list := PySem.W.mg_none_of X G z_list, z_tuple := PySem.W.mg_none_of X G z_tuple, z_len := PySem.W.mg_none_of X G z_len, z_abs := PySem.W.mg_none_of X G z_abs, z_all := PySem.W.mg_none_of X G z_all, z_range := PySem.W.mg_none_of X G z_range, z_zip := PySem.W.mg_none_of X G z_zip, z_enumerate := PySem.W.mg_none_of X G z_enumerate, z_sorted := PySem.W.mg_none_of X G z_sorted, z_reversed := PySem.W.mg_none_of X G z_reversed, z_repr := PySem.W.mg_none_of X G z_repr, z_max := PySem.W.mg_none_of X G z_max, g_LETTERS := glb_tup (PySem.W.mg_of X G g_LETTERS) r_LETTERS, t_LETTERS := DH.gtB_ok gt_LETTERS (PySem.W.mg_of X G g_LETTERS), c_P := c_Poly, n_P := fun f hf => by rw [List.mem_singleton.mp hf]; exact no0_Poly }
  refine ⟨PySem.W.fnOf "law" "law" (defArgs sLaw) (defBody sLaw) (defScope sLaw) .none kV22 dc22 pm22 an22 (.ref c) ct22, fun s v => .of_eq rfl, fun base _ _ TB => ?_⟩
  have E_InvalidTerm : ExCls P w K mg base "InvalidTerm" cT ["self", "at"] (spI1 cT "InvalidTerm" "at") := ⟨OX_InvalidTerm, n_InvalidTerm, fI_InvalidTerm, _, iI_InvalidTerm, tI_InvalidTerm, init1_ok FI_InvalidTerm scInvalidTerm_init rfl rfl rfl (by decide) (by decide) OX_InvalidTerm f0_InvalidTerm f1_InvalidTerm, BI_InvalidTerm⟩
  have E_InvalidNumber : ExCls P w K mg base "InvalidNumber" cN ["self", "given"] (spI1 cN "InvalidNumber" "given") := ⟨OX_InvalidNumber, n_InvalidNumber, fI_InvalidNumber, _, iI_InvalidNumber, tI_InvalidNumber, init1_ok FI_InvalidNumber scInvalidNumber_init rfl rfl rfl (by decide) (by decide) OX_InvalidNumber f0_InvalidNumber f1_InvalidNumber, BI_InvalidNumber⟩
  have E_InvalidLetter : ExCls P w K mg base "InvalidLetter" cL ["self", "given"] (spI1 cL "InvalidLetter" "given") := ⟨OX_InvalidLetter, n_InvalidLetter, fI_InvalidLetter, _, iI_InvalidLetter, tI_InvalidLetter, init1_ok FI_InvalidLetter scInvalidLetter_init rfl rfl rfl (by decide) (by decide) OX_InvalidLetter f0_InvalidLetter f1_InvalidLetter, BI_InvalidLetter⟩
  have IB : InsC K cP := ⟨c_Poly, ic_ha, ic_hn, ic_tk, ic_hm⟩
  have NePoly : NeC K cP := ⟨ne_ne, ic_hm⟩
  have CIsInteger := cal_mk (ok_IsInteger (P := P) (w := w) (base := base) Z FIsInteger) mIsInteger FIsInteger.kp bIsInteger
  have CIsNumber := cal_mk (ok_IsNumber Z FIsNumber CIsInteger) mIsNumber FIsNumber.kp bIsNumber
  have CCheckLetter := cal_mk (ok_CheckLetter (P := P) (w := w) (base := base) Z FCheckLetter E_InvalidLetter) mCheckLetter FCheckLetter.kp bCheckLetter
  have CCheckTerms := cal_mk (ok_CheckTerms Z FCheckTerms CIsNumber CIsInteger E_InvalidTerm) mCheckTerms FCheckTerms.kp bCheckTerms
  have CCheckTerms0 := cal_mk (fn_imp (ok_CheckTerms Z FCheckTerms CIsNumber CIsInteger E_InvalidTerm) terms_imp) mCheckTerms FCheckTerms.kp bCheckTerms
  have CPowerText := cal_mk (ok_PowerText (P := P) (w := w) (base := base) Z FPowerText) mPowerText FPowerText.kp bPowerText
  have CTermText := cal_mk (ok_TermText Z FTermText CPowerText) mTermText FTermText.kp bTermText
  have GI := ok_PolyInit Z FPolyInit CCheckTerms0
  have GX := ok_PolyInitX Z FPolyInit CCheckTerms
  obtain ⟨ds1, v1, b1⟩ := init_1 FPolyInit
  obtain ⟨ds0, v0, b0⟩ := init_0 FPolyInit
  obtain ⟨dst, vt, bt⟩ := init_t FPolyInit
  have l0 : ds0.length = 2 := v0.length.symm
  have K_Poly : KCal P w K mg base 4 "Poly" cP ["self", "terms", "most"] [.int 20] (initS cP) := ⟨⟨f23, _, ds1, _, GI, Mk_Poly, n_Poly, b1, v1, fun _ _ => .cons (.int 20) .nil⟩⟩
  have KX_Poly : KCal P w K mg base 4 "Poly" cP ["self", "terms", "most"] [.int 20] (initX cP cT) := ⟨⟨f23, _, ds1, _, GX, Mk_Poly, n_Poly, b1, v1, fun _ _ => .cons (.int 20) .nil⟩⟩
  have N_Poly : KCalN P w K mg base 4 "Poly" cP 1 ["most"] [] (fun a b _ => a ++ b) (initS cP) := ⟨⟨f23, _, _, [], [], GI, Mk_Poly, n_Poly, init_k FPolyInit, ⟨fun a b _ => paired_append a b⟩, .nil, fun _ _ => .nil⟩⟩
  have W_Poly : KCalW P w K mg base 4 "Poly" cP [] [.tup [], .int 20] (fun a _ c => a ++ c) (initS cP) := ⟨⟨f23, _, _, ds0, _, GI, Mk_Poly, n_Poly, kwb_of b0 (by rw [l0]; rfl), ⟨fun a _ c => paired_append a c⟩, v0, fun L H => .cons (r_tE L H) (.cons (.int 20) .nil)⟩⟩
  have W_Poly_terms : KCalW P w K mg base 4 "Poly" cP ["terms"] [.int 20] (fun a b c => a ++ b ++ c) (initS cP) := ⟨⟨f23, _, _, dst, _, GI, Mk_Poly, n_Poly, bt, ⟨fun a b c => paired_append (paired_append a b) c⟩, vt, fun L H => .cons (.int 20) .nil⟩⟩
  have CMadeOf := cal_mk (ok_MadeOf Z FMadeOf N_Poly) mMadeOf FMadeOf.kp bMadeOf
  have MPolyLead := mcal_mk (ok_PolyLead (P := P) (w := w) (base := base) Z FPolyLead) c_Poly hPolyLead bPolyLead
  have MPolyTerms := mcal_mk (ok_PolyTerms (P := P) (w := w) (base := base) Z FPolyTerms) c_Poly hPolyTerms bPolyTerms
  have MPolyTermsM := mcal_mk (ok_PolyTermsM (P := P) (w := w) (base := base) Z FPolyTerms) c_Poly hPolyTerms bPolyTerms
  have MPolySlopeX := mcal_mk (ok_PolySlopeX Z FPolySlope CCheckLetter CMadeOf) c_Poly hPolySlope bPolySlope
  have MPolyDegreeIn := mcal_mk (ok_PolyDegreeIn Z FPolyDegreeIn CCheckLetter) c_Poly hPolyDegreeIn bPolyDegreeIn
  have MPolyDegreeInX := mcal_mk (ok_PolyDegreeInX Z FPolyDegreeIn CCheckLetter) c_Poly hPolyDegreeIn bPolyDegreeIn
  have MPolyCoefficient := mcal_mk (ok_PolyCoefficient (P := P) (w := w) (base := base) Z FPolyCoefficient) c_Poly hPolyCoefficient bPolyCoefficient
  have MPolyText := mcal_mk (ok_PolyText Z FPolyText CTermText) c_Poly hPolyText bPolyText
  have MPolyRepr := mcal_mk (ok_PolyRepr Z FPolyRepr MPolyText) c_Poly hPolyRepr bPolyRepr
  have MPolyEq := mcal_mk (fn_or (ok_PolyEq (P := P) (w := w) (base := base) Z FPolyEq n_Poly IB kit_self) (ok_PolyEqL (P := P) (w := w) (base := base) Z FPolyEq n_Poly IB kL)) c_Poly hPolyEq bPolyEq
  have MPolyBool := mcal_mk (ok_PolyBool (P := P) (w := w) (base := base) Z FPolyBool) c_Poly hPolyBool bPolyBool
  have MK : MCalK P w K mg base 4 cP "degree_in" ["letter"] [] (fun a b _ => a ++ b) (dgInS cP) := ⟨⟨_, _, _, [], [], ok_PolyDegreeIn Z FPolyDegreeIn CCheckLetter, c_Poly, hPolyDegreeIn, kwb FPolyDegreeIn (fun kV doc pm an cdv ct us ws h1 h2 => match us, ws, h1, h2 with | [_], [_], _, _ => rfl), ⟨fun a b _ => paired_append a b⟩, .nil, fun _ _ => .nil⟩⟩
  have P_degree : PropM P w K mg base 1 cP "degree" (degS cP) := ⟨⟨pL0, gL0, _, c_Poly, PO0, ok_PolyDegree (P := P) (w := w) (base := base) Z FPolyDegree, bPolyDegree⟩⟩
  have SConstant : SCal P w K mg base 6 "Poly" cP "constant" ["value"] [] (conS cP cN) := ⟨⟨.type "type", pT1, gT1, _, [], [], ok_PolyConstant Z FPolyConstant CIsInteger K_Poly E_InvalidNumber, n_Poly, cr, SM_constant, bPolyConstant, .nil, fun _ _ => .nil⟩⟩
  have SKConstant : SCalK P w K mg base 6 "Poly" cP "constant" ["value"] [] (fun a b _ => a ++ b) (conS cP cN) := ⟨⟨.type "type", pT1, gT1, _, _, [], [], ok_PolyConstant Z FPolyConstant CIsInteger K_Poly E_InvalidNumber, n_Poly, cr, SM_constant, kwb FPolyConstant (fun kV doc pm an cdv ct us ws h1 h2 => match us, ws, h1, h2 with | [], [_], _, _ => rfl), ⟨fun a b _ => paired_append a b⟩, .nil, fun _ _ => .nil⟩⟩
  have SLetter : SCal P w K mg base 6 "Poly" cP "letter" ["name"] [] (ltrS cP cL) := ⟨⟨.type "type", pT2, gT2, _, [], [], ok_PolyLetter Z FPolyLetter CCheckLetter K_Poly, n_Poly, cr, SM_letter, bPolyLetter, .nil, fun _ _ => .nil⟩⟩
  have SKLetter : SCalK P w K mg base 6 "Poly" cP "letter" ["name"] [] (fun a b _ => a ++ b) (ltrS cP cL) := ⟨⟨.type "type", pT2, gT2, _, _, [], [], ok_PolyLetter Z FPolyLetter CCheckLetter K_Poly, n_Poly, cr, SM_letter, kwb FPolyLetter (fun kV doc pm an cdv ct us ws h1 h2 => match us, ws, h1, h2 with | [], [_], _, _ => rfl), ⟨fun a b _ => paired_append a b⟩, .nil, fun _ _ => .nil⟩⟩
  have CLBag := cal_mk (ok_LBag (P := P) (w := w) (base := base) Z FLBag) mLBag FLBag.kp bLBag
  have CLPull := cal_mk (ok_LPull (P := P) (w := w) (base := base) Z FLPull) mLPull FLPull.kp bLPull
  have CLOf := cal_mk (ok_LOf Z FLOf CLPull) mLOf FLOf.kp bLOf
  have CLOfM := cal_mk (ok_LOfP Z FLOf CLPull) mLOf FLOf.kp bLOf
  have CLSame := cal_mk (same_all (P := P) (w := w) (base := base) Z FLSame bLSame mLSame 9) mLSame FLSame.kp bLSame
  have CLGathered := cal_mk (ok_LGathered (P := P) (w := w) (base := base) Z FLGathered) mLGathered FLGathered.kp bLGathered
  have CLLetterText := cal_mk (ok_LLetterText (P := P) (w := w) (base := base) Z FLLetterText) mLLetterText FLLetterText.kp bLLetterText
  have CLPolyText := cal_mk (ok_LPolyText Z FLPolyText CLLetterText) mLPolyText FLPolyText.kp bLPolyText
  have CLDegree := cal_mk (ok_LDegree (P := P) (w := w) (base := base) Z FLDegree) mLDegree FLDegree.kp bLDegree
  have QF := calq_mk (ok_LField (P := P) (w := w) (base := base) Z FLField) mLField FLField.kp bLField
  have GC := (clo_all KX_Poly SConstant SLetter MPolyDegreeInX MPolySlopeX Z).up
  have CLTry := cal_mk (ok_LTry Z FLTry (by decide) GC QF n_PlaneError n_Missing n_NothingLeft) mLTry FLTry.kp bLTry
  have CLTries := cal_mk (ok_LTries Z FLTries CLTry) mLTries FLTries.kp bLTries
  exact ok_Law Z l22 c22 TB CLBag CLPull CLOf CLGathered CLDegree CLPolyText CLSame CLTry CLTries CLOfM K_Poly MPolyTerms MPolyTermsM MPolyDegreeIn MPolyLead MPolyCoefficient MPolyRepr MPolyEq MPolyBool MK P_degree NePoly W_Poly W_Poly_terms SKLetter SKConstant IB nf_self nfL em_InvalidTerm ⟨⟨XF_InvalidTerm, f0_InvalidTerm⟩, ⟨XF_InvalidTerm, f1_InvalidTerm⟩⟩ em_InvalidNumber ⟨⟨XF_InvalidNumber, f0_InvalidNumber⟩, ⟨XF_InvalidNumber, f1_InvalidNumber⟩⟩ em_InvalidLetter ⟨⟨XF_InvalidLetter, f0_InvalidLetter⟩, ⟨XF_InvalidLetter, f1_InvalidLetter⟩⟩
open Hd in
theorem fin {l : PySem.W.OpenLaw} {w : World} {h : Heap} {mg : Str → Option Value} {fa : Addr} {K : PySem.W.Frag} (KX : K.In h) (G : h.Ns mainGlobals mg) (hmg : mg "law" = some (.ref fa)) (c : He.SaysX [] fnL tabL tf (DH.exAll tsts) w h K) (eg : (gA.map fun a => DH.fnWa K (a K)) = gV) : LamX.LawAtS l w K (L2.CX l.prog w) 16 63 "_law_script" mg fa h := by
  obtain ⟨oc2, od2, sl2, kV2, dc2, pm2, an2, cd2, ct2, l2, c2, k2⟩ := DH.defN c.t.d 0 (d := d0) rfl rfl
  obtain ⟨oc3, od3, sl3, kV3, dc3, pm3, an3, cd3, ct3, l3, c3, k3⟩ := DH.defN c.t.d 1 (d := d1) rfl rfl
  obtain ⟨oc4, od4, sl4, kV4, dc4, pm4, an4, cd4, ct4, l4, c4, k4⟩ := DH.defN c.t.d 2 (d := d2) rfl rfl
  obtain ⟨oc5, od5, sl5, kV5, dc5, pm5, an5, cd5, ct5, l5, c5, k5⟩ := DH.defN c.t.d 3 (d := d3) rfl rfl
  obtain ⟨oc6, od6, sl6, kV6, dc6, pm6, an6, cd6, ct6, l6, c6, k6⟩ := DH.defN c.t.d 4 (d := d4) rfl rfl
  obtain ⟨oc7, od7, sl7, kV7, dc7, pm7, an7, cd7, ct7, l7, c7, k7⟩ := DH.defN c.t.d 5 (d := d5) rfl rfl
  obtain ⟨oc8, od8, sl8, kV8, dc8, pm8, an8, cd8, ct8, l8, c8, k8⟩ := DH.defN c.t.d 6 (d := d6) rfl rfl
  obtain ⟨oc11, od11, sl11, kV11, dc11, pm11, an11, cd11, ct11, l11, c11, k11⟩ := DH.defN c.t.d 7 (d := d7) rfl rfl
  obtain ⟨oc12, od12, sl12, kV12, dc12, pm12, an12, cd12, ct12, l12, c12, k12⟩ := DH.defN c.t.d 8 (d := d8) rfl rfl
  obtain ⟨oc13, od13, sl13, kV13, dc13, pm13, an13, cd13, ct13, l13, c13, k13⟩ := DH.defN c.t.d 9 (d := d9) rfl rfl
  obtain ⟨oc14, od14, sl14, kV14, dc14, pm14, an14, cd14, ct14, l14, c14, k14⟩ := DH.defN c.t.d 10 (d := d10) rfl rfl
  obtain ⟨oc15, od15, sl15, kV15, dc15, pm15, an15, cd15, ct15, l15, c15, k15⟩ := DH.defN c.t.d 11 (d := d11) rfl rfl
  obtain ⟨oc16, od16, sl16, kV16, dc16, pm16, an16, cd16, ct16, l16, c16, k16⟩ := DH.defN c.t.d 12 (d := d12) rfl rfl
  obtain ⟨oc17, od17, sl17, kV17, dc17, pm17, an17, cd17, ct17, l17, c17, k17⟩ := DH.defN c.t.d 13 (d := d13) rfl rfl
  obtain ⟨oc18, od18, sl18, kV18, dc18, pm18, an18, cd18, ct18, l18, c18, k18⟩ := DH.defN c.t.d 14 (d := d14) rfl rfl
  obtain ⟨oc19, od19, sl19, kV19, dc19, pm19, an19, cd19, ct19, l19, c19, k19⟩ := DH.defN c.t.d 15 (d := d15) rfl rfl
  obtain ⟨oc20, od20, sl20, kV20, dc20, pm20, an20, cd20, ct20, l20, c20, k20⟩ := DH.defN c.t.d 16 (d := d16) rfl rfl
  obtain ⟨oc21, od21, sl21, kV21, dc21, pm21, an21, cd21, ct21, l21, c21, k21⟩ := DH.defN c.t.d 17 (d := d17) rfl rfl
  obtain ⟨oc22, od22, sl22, kV22, dc22, pm22, an22, cd22, ct22, l22, c22, k22⟩ := DH.defN c.t.d 18 (d := d18) rfl rfl
  obtain ⟨cl, hcl⟩ := He.codeIn_ref c22
  subst hcl
  have ec : He.codeOf K ("law", none) = cl := He.codeOf_eq l22 rfl
  obtain ⟨fd23, FF23⟩ := c.t.d.def_ 19 (d := d19) rfl
  obtain ⟨oc27, od27, sl27, kV27, dc27, pm27, an27, cd27, ct27, l27, c27, k27⟩ := DH.defN c.t.d 20 (d := d20) rfl rfl
  obtain ⟨oc28, od28, sl28, kV28, dc28, pm28, an28, cd28, ct28, l28, c28, k28⟩ := DH.defN c.t.d 21 (d := d21) rfl rfl
  obtain ⟨oc29, od29, sl29, kV29, dc29, pm29, an29, cd29, ct29, l29, c29, k29⟩ := DH.defN c.t.d 22 (d := d22) rfl rfl
  obtain ⟨oc30, od30, sl30, kV30, dc30, pm30, an30, cd30, ct30, l30, c30, k30⟩ := DH.defN c.t.d 23 (d := d23) rfl rfl
  obtain ⟨oc32, od32, sl32, kV32, dc32, pm32, an32, cd32, ct32, l32, c32, k32⟩ := DH.defN c.t.d 24 (d := d24) rfl rfl
  obtain ⟨oc34, od34, sl34, kV34, dc34, pm34, an34, cd34, ct34, l34, c34, k34⟩ := DH.defN c.t.d 25 (d := d25) rfl rfl
  obtain ⟨oc43, od43, sl43, kV43, dc43, pm43, an43, cd43, ct43, l43, c43, k43⟩ := DH.defN c.t.d 26 (d := d26) rfl rfl
  obtain ⟨oc44, od44, sl44, kV44, dc44, pm44, an44, cd44, ct44, l44, c44, k44⟩ := DH.defN c.t.d 27 (d := d27) rfl rfl
  obtain ⟨oc45, od45, sl45, kV45, dc45, pm45, an45, cd45, ct45, l45, c45, k45⟩ := DH.defN c.t.d 28 (d := d28) rfl rfl
  obtain ⟨nm_InvalidTerm, q_InvalidTerm, N_InvalidTerm, bs_InvalidTerm, bm_InvalidTerm, sn_InvalidTerm, su_InvalidTerm, ab_InvalidTerm, co_InvalidTerm, dd_InvalidTerm, k0_InvalidTerm, k1_InvalidTerm, k2_InvalidTerm, k3_InvalidTerm, k5_InvalidTerm, o_InvalidTerm, r_InvalidTerm⟩ := DH.oexB_ok (DH.ex_at c.more 73 (f := t73) rfl)
  obtain ⟨ocI_InvalidTerm, odI_InvalidTerm, slI_InvalidTerm, kVI_InvalidTerm, dcI_InvalidTerm, pmI_InvalidTerm, anI_InvalidTerm, cdI_InvalidTerm, ctI_InvalidTerm, lI_InvalidTerm, cI_InvalidTerm, kI_InvalidTerm⟩ := DH.defN c.t.d 29 (d := d29) rfl rfl
  obtain ⟨nm_InvalidNumber, q_InvalidNumber, N_InvalidNumber, bs_InvalidNumber, bm_InvalidNumber, sn_InvalidNumber, su_InvalidNumber, ab_InvalidNumber, co_InvalidNumber, dd_InvalidNumber, k0_InvalidNumber, k1_InvalidNumber, k2_InvalidNumber, k3_InvalidNumber, k5_InvalidNumber, o_InvalidNumber, r_InvalidNumber⟩ := DH.oexB_ok (DH.ex_at c.more 86 (f := t86) rfl)
  obtain ⟨ocI_InvalidNumber, odI_InvalidNumber, slI_InvalidNumber, kVI_InvalidNumber, dcI_InvalidNumber, pmI_InvalidNumber, anI_InvalidNumber, cdI_InvalidNumber, ctI_InvalidNumber, lI_InvalidNumber, cI_InvalidNumber, kI_InvalidNumber⟩ := DH.defN c.t.d 30 (d := d30) rfl rfl
  obtain ⟨nm_InvalidLetter, q_InvalidLetter, N_InvalidLetter, bs_InvalidLetter, bm_InvalidLetter, sn_InvalidLetter, su_InvalidLetter, ab_InvalidLetter, co_InvalidLetter, dd_InvalidLetter, k0_InvalidLetter, k1_InvalidLetter, k2_InvalidLetter, k3_InvalidLetter, k5_InvalidLetter, o_InvalidLetter, r_InvalidLetter⟩ := DH.oexB_ok (DH.ex_at c.more 99 (f := t99) rfl)
  obtain ⟨ocI_InvalidLetter, odI_InvalidLetter, slI_InvalidLetter, kVI_InvalidLetter, dcI_InvalidLetter, pmI_InvalidLetter, anI_InvalidLetter, cdI_InvalidLetter, ctI_InvalidLetter, lI_InvalidLetter, cI_InvalidLetter, kI_InvalidLetter⟩ := DH.defN c.t.d 31 (d := d31) rfl rfl
  obtain ⟨ocT1, odT1, slT1, kVT1, dcT1, pmT1, anT1, cdT1, ctT1, lT1, cT1⟩ := DH.fnWa_ok (DH.eg_at eg 1 rfl rfl) (DH.ex_at c.more 120 (f := t120) rfl)
  obtain ⟨ocT2, odT2, slT2, kVT2, dcT2, pmT2, anT2, cdT2, ctT2, lT2, cT2⟩ := DH.fnWa_ok (DH.eg_at eg 2 rfl rfl) (DH.ex_at c.more 122 (f := t122) rfl)
  obtain ⟨ocG0, odG0, slG0, kVG0, dcG0, pmG0, anG0, cdG0, ctG0, lG0, cG0⟩ := DH.fnWa_ok (DH.eg_at eg 0 rfl rfl) (DH.ex_at c.more 125 (f := t125) rfl)
  have q1 := c.hd ("law", none) (List.mem_singleton.mpr rfl)
  have q2 := c.out ("law", none) (List.mem_singleton.mpr rfl)
  have q3 := c.empty ("law", none) (List.mem_singleton.mpr rfl)
  unfold He.cT at q1 q2 q3
  rw [ec] at q1 q2 q3
  exact DH.law1 (q := "law.<locals>.<lambda>") (lawS := T05.lawS) (c := cl) (Pt := He.tabOf K cl) (PySem.W.codeHd_of_K KX q1) q3 q2 (all_mk KX G hmg
    (of_decide_eq_true (DH.ex_at c.more 0 (f := t0) rfl))
    (of_decide_eq_true (DH.ex_at c.more 1 (f := t1) rfl))
    (of_decide_eq_true (DH.ex_at c.more 2 (f := t2) rfl))
    (of_decide_eq_true (DH.ex_at c.more 3 (f := t3) rfl))
    (of_decide_eq_true (DH.ex_at c.more 4 (f := t4) rfl))
    (of_decide_eq_true (DH.ex_at c.more 5 (f := t5) rfl))
    (of_decide_eq_true (DH.ex_at c.more 6 (f := t6) rfl))
    (of_decide_eq_true (DH.ex_at c.more 7 (f := t7) rfl))
    (l2)
    (c2)
    (k2)
    (of_decide_eq_true (DH.ex_at c.more 8 (f := t8) rfl))
    (l3)
    (c3)
    (k3)
    (of_decide_eq_true (DH.ex_at c.more 9 (f := t9) rfl))
    (l4)
    (c4)
    (k4)
    (of_decide_eq_true (DH.ex_at c.more 10 (f := t10) rfl))
    (l5)
    (c5)
    (k5)
    (of_decide_eq_true (DH.ex_at c.more 11 (f := t11) rfl))
    (l6)
    (c6)
    (k6)
    (of_decide_eq_true (DH.ex_at c.more 12 (f := t12) rfl))
    (l7)
    (c7)
    (k7)
    (of_decide_eq_true (DH.ex_at c.more 13 (f := t13) rfl))
    (l8)
    (c8)
    (k8)
    (of_decide_eq_true (DH.ex_at c.more 14 (f := t14) rfl))
    (l11)
    (c11)
    (k11)
    (of_decide_eq_true (DH.ex_at c.more 15 (f := t15) rfl))
    (l12)
    (c12)
    (k12)
    (of_decide_eq_true (DH.ex_at c.more 16 (f := t16) rfl))
    (l13)
    (c13)
    (k13)
    (of_decide_eq_true (DH.ex_at c.more 17 (f := t17) rfl))
    (l14)
    (c14)
    (k14)
    (of_decide_eq_true (DH.ex_at c.more 18 (f := t18) rfl))
    (l15)
    (c15)
    (k15)
    (of_decide_eq_true (DH.ex_at c.more 19 (f := t19) rfl))
    (l16)
    (c16)
    (k16)
    (of_decide_eq_true (DH.ex_at c.more 20 (f := t20) rfl))
    (l17)
    (c17)
    (k17)
    (of_decide_eq_true (DH.ex_at c.more 21 (f := t21) rfl))
    (l18)
    (c18)
    (k18)
    (of_decide_eq_true (DH.ex_at c.more 22 (f := t22) rfl))
    (l19)
    (c19)
    (k19)
    (of_decide_eq_true (DH.ex_at c.more 23 (f := t23) rfl))
    (l20)
    (c20)
    (k20)
    (of_decide_eq_true (DH.ex_at c.more 24 (f := t24) rfl))
    (l21)
    (c21)
    (k21)
    (of_decide_eq_true (DH.ex_at c.more 25 (f := t25) rfl))
    (l22)
    (c22)
    (k22)
    (of_decide_eq_true (DH.ex_at c.more 26 (f := t26) rfl))
    (of_decide_eq_true (DH.ex_at c.more 27 (f := t27) rfl))
    (FF23)
    (DH.emB_rp (DH.ex_at c.more 28 (f := t28) rfl))
    (of_decide_eq_true (DH.ex_at c.more 29 (f := t29) rfl))
    (of_decide_eq_true (DH.ex_at c.more 30 (f := t30) rfl))
    (l27)
    (c27)
    (k27)
    (of_decide_eq_true (DH.ex_at c.more 31 (f := t31) rfl))
    (of_decide_eq_true (DH.ex_at c.more 32 (f := t32) rfl))
    (l28)
    (c28)
    (k28)
    (of_decide_eq_true (DH.ex_at c.more 33 (f := t33) rfl))
    (of_decide_eq_true (DH.ex_at c.more 34 (f := t34) rfl))
    (l29)
    (c29)
    (k29)
    (of_decide_eq_true (DH.ex_at c.more 35 (f := t35) rfl))
    (of_decide_eq_true (DH.ex_at c.more 36 (f := t36) rfl))
    (l30)
    (c30)
    (k30)
    (of_decide_eq_true (DH.ex_at c.more 37 (f := t37) rfl))
    (of_decide_eq_true (DH.ex_at c.more 38 (f := t38) rfl))
    (l32)
    (c32)
    (k32)
    (of_decide_eq_true (DH.ex_at c.more 39 (f := t39) rfl))
    (of_decide_eq_true (DH.ex_at c.more 40 (f := t40) rfl))
    (l34)
    (c34)
    (k34)
    (of_decide_eq_true (DH.ex_at c.more 41 (f := t41) rfl))
    (of_decide_eq_true (DH.ex_at c.more 42 (f := t42) rfl))
    (l43)
    (c43)
    (k43)
    (of_decide_eq_true (DH.ex_at c.more 43 (f := t43) rfl))
    (of_decide_eq_true (DH.ex_at c.more 44 (f := t44) rfl))
    (l44)
    (c44)
    (k44)
    (of_decide_eq_true (DH.ex_at c.more 45 (f := t45) rfl))
    (of_decide_eq_true (DH.ex_at c.more 46 (f := t46) rfl))
    (l45)
    (c45)
    (k45)
    (of_decide_eq_true (DH.ex_at c.more 47 (f := t47) rfl))
    (of_decide_eq_true (DH.ex_at c.more 48 (f := t48) rfl))
    (of_decide_eq_true (DH.ex_at c.more 49 (f := t49) rfl))
    (of_decide_eq_true (DH.ex_at c.more 50 (f := t50) rfl))
    (of_decide_eq_true (DH.ex_at c.more 51 (f := t51) rfl))
    (of_decide_eq_true (DH.ex_at c.more 52 (f := t52) rfl))
    (of_decide_eq_true (DH.ex_at c.more 53 (f := t53) rfl))
    (of_decide_eq_true (DH.ex_at c.more 54 (f := t54) rfl))
    (of_decide_eq_true (DH.ex_at c.more 55 (f := t55) rfl))
    (of_decide_eq_true (DH.ex_at c.more 56 (f := t56) rfl))
    (of_decide_eq_true (DH.ex_at c.more 57 (f := t57) rfl))
    (of_decide_eq_true (DH.ex_at c.more 58 (f := t58) rfl))
    (of_decide_eq_true (DH.ex_at c.more 59 (f := t59) rfl))
    (of_decide_eq_true (DH.ex_at c.more 60 (f := t60) rfl))
    (of_decide_eq_true (DH.ex_at c.more 61 (f := t61) rfl))
    (of_decide_eq_true (DH.ex_at c.more 62 (f := t62) rfl))
    (of_decide_eq_true (DH.ex_at c.more 63 (f := t63) rfl))
    (DH.tup_rp (DH.ex_at c.more 64 (f := t64) rfl) rfl)
    (DH.ex_at c.more 65 (f := t65) rfl)
    (of_decide_eq_true (DH.ex_at c.more 66 (f := t66) rfl))
    (of_decide_eq_true (DH.ex_at c.more 67 (f := t67) rfl))
    (of_decide_eq_true (DH.ex_at c.more 68 (f := t68) rfl))
    (of_decide_eq_true (DH.ex_at c.more 69 (f := t69) rfl))
    (of_decide_eq_true (DH.ex_at c.more 70 (f := t70) rfl))
    (of_decide_eq_true (DH.ex_at c.more 71 (f := t71) rfl))
    (of_decide_eq_true (DH.ex_at c.more 72 (f := t72) rfl))
    (o_InvalidTerm)
    (r_InvalidTerm)
    (of_decide_eq_true (DH.ex_at c.more 74 (f := t74) rfl))
    (of_decide_eq_true (DH.ex_at c.more 75 (f := t75) rfl))
    (of_decide_eq_true (DH.ex_at c.more 76 (f := t76) rfl))
    (of_decide_eq_true (DH.ex_at c.more 77 (f := t77) rfl))
    (of_decide_eq_true (DH.ex_at c.more 78 (f := t78) rfl))
    (of_decide_eq_true (DH.ex_at c.more 79 (f := t79) rfl))
    (lI_InvalidTerm)
    (cI_InvalidTerm)
    (kI_InvalidTerm)
    (of_decide_eq_true (DH.ex_at c.more 80 (f := t80) rfl))
    (of_decide_eq_true (DH.ex_at c.more 81 (f := t81) rfl))
    (of_decide_eq_true (DH.ex_at c.more 82 (f := t82) rfl))
    (of_decide_eq_true (DH.ex_at c.more 83 (f := t83) rfl))
    (of_decide_eq_true (DH.ex_at c.more 84 (f := t84) rfl))
    (of_decide_eq_true (DH.ex_at c.more 85 (f := t85) rfl))
    (o_InvalidNumber)
    (r_InvalidNumber)
    (of_decide_eq_true (DH.ex_at c.more 87 (f := t87) rfl))
    (of_decide_eq_true (DH.ex_at c.more 88 (f := t88) rfl))
    (of_decide_eq_true (DH.ex_at c.more 89 (f := t89) rfl))
    (of_decide_eq_true (DH.ex_at c.more 90 (f := t90) rfl))
    (of_decide_eq_true (DH.ex_at c.more 91 (f := t91) rfl))
    (of_decide_eq_true (DH.ex_at c.more 92 (f := t92) rfl))
    (lI_InvalidNumber)
    (cI_InvalidNumber)
    (kI_InvalidNumber)
    (of_decide_eq_true (DH.ex_at c.more 93 (f := t93) rfl))
    (of_decide_eq_true (DH.ex_at c.more 94 (f := t94) rfl))
    (of_decide_eq_true (DH.ex_at c.more 95 (f := t95) rfl))
    (of_decide_eq_true (DH.ex_at c.more 96 (f := t96) rfl))
    (of_decide_eq_true (DH.ex_at c.more 97 (f := t97) rfl))
    (of_decide_eq_true (DH.ex_at c.more 98 (f := t98) rfl))
    (o_InvalidLetter)
    (r_InvalidLetter)
    (of_decide_eq_true (DH.ex_at c.more 100 (f := t100) rfl))
    (of_decide_eq_true (DH.ex_at c.more 101 (f := t101) rfl))
    (of_decide_eq_true (DH.ex_at c.more 102 (f := t102) rfl))
    (of_decide_eq_true (DH.ex_at c.more 103 (f := t103) rfl))
    (of_decide_eq_true (DH.ex_at c.more 104 (f := t104) rfl))
    (of_decide_eq_true (DH.ex_at c.more 105 (f := t105) rfl))
    (lI_InvalidLetter)
    (cI_InvalidLetter)
    (kI_InvalidLetter)
    (of_decide_eq_true (DH.ex_at c.more 106 (f := t106) rfl))
    (of_decide_eq_true (DH.ex_at c.more 107 (f := t107) rfl))
    (of_decide_eq_true (DH.ex_at c.more 108 (f := t108) rfl))
    (of_decide_eq_true (DH.ex_at c.more 109 (f := t109) rfl))
    (of_decide_eq_true (DH.ex_at c.more 110 (f := t110) rfl))
    (of_decide_eq_true (DH.ex_at c.more 111 (f := t111) rfl))
    (of_decide_eq_true (DH.ex_at c.more 112 (f := t112) rfl))
    (of_decide_eq_true (DH.ex_at c.more 113 (f := t113) rfl))
    (of_decide_eq_true (DH.ex_at c.more 114 (f := t114) rfl))
    (of_decide_eq_true (DH.ex_at c.more 115 (f := t115) rfl))
    (of_decide_eq_true (DH.ex_at c.more 116 (f := t116) rfl))
    (of_decide_eq_true (DH.ex_at c.more 117 (f := t117) rfl))
    (of_decide_eq_true (DH.ex_at c.more 118 (f := t118) rfl))
    (DH.smB_ok (DH.ex_at c.more 119 (f := t119) rfl))
    (lT1)
    (cT1)
    (DH.smB_ok (DH.ex_at c.more 121 (f := t121) rfl))
    (lT2)
    (cT2)
    (DH.crB_ok (DH.ex_at c.more 123 (f := t123) rfl))
    (DH.proB_ok (DH.ex_at c.more 124 (f := t124) rfl))
    (lG0)
    (cG0)
    (of_decide_eq_true (DH.ex_at c.more 126 (f := t126) rfl))) (fun ns hl => ⟨ns, rfl, rfl, fun _ => rfl⟩)
end T05
open PySem PySem.W PySem.Calls PyProof.Rows
set_option maxHeartbeats 0 in
theorem PySem.Challenge.cw_nearspokes_k05_polys_made_and_refused_holds : PySem.Challenge.rw_nearspokes_k05_polys_made_and_refused.Holds := by
  refine T05.Hd.well fun said => ?_
  w_on
  refine DS.head_seg (r := OpenLaw.row PySem.Challenge.rw_nearspokes_k05_polys_made_and_refused) (q := (PySem.W.view (OpenLaw.row PySem.Challenge.rw_nearspokes_k05_polys_made_and_refused).prog [33])) (H := T05.Hd.hk) (ob := T05.Hd.ob) (N := 40000) (loose := T05.Hd.nms) (d := HandSHeadRun.topDef (OpenLaw.row PySem.Challenge.rw_nearspokes_k05_polys_made_and_refused).prog 33) (kwd := []) T05.Hd.ob_eq
    T05.Hd.run T05.Hd.df1 T05.Hd.df2 (by kernel_rfl) (by rfl) said (Bool.and_eq_true_iff.mpr ⟨Bool.and_eq_true_iff.mpr ⟨T05.Hd.okA, T05.Hd.okB⟩, T05.Hd.okC⟩) T05.Hd.hb ?hw ?hc
  case hw => w_witness2
  case hc =>
    refine LamX.walk_ofTsE (l := PySem.Challenge.rw_nearspokes_k05_polys_made_and_refused) (n := 63) (k := 16) (x := "_law_script") (CX := fun w => L2.CX PySem.Challenge.rw_nearspokes_k05_polys_made_and_refused.prog w) rfl (by decide) (by kernel_rfl) ⟨rfl, by decide, by decide⟩ ?F (fun _ _ _ _ _ z => by obtain ⟨_, _, _, _, _, _, _, _, _, _, _, _, z⟩ := z; exact z)
    intro w mg fa h Y G hmg0
    obtain ⟨K, KX, c, eg⟩ := Y
    have hmg : mg ("law" : PySem.Str) = some (.ref fa) := by
      have e : (HandSHeadRun.topDef (OpenLaw.row PySem.Challenge.rw_nearspokes_k05_polys_made_and_refused).prog 33).name = ("law" : PySem.Str) := by kernel_rfl
      rw [← e]
      exact hmg0
    exact ⟨K, KX, T05.fin KX G hmg c eg⟩
