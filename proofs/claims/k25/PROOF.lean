import PyProof.Rows.All
import Wide.All
import OpenK.AllK
import Wide.FinOn
import HandS.ForMost
import HandS.Exc
import HandS.TryOnly
import HandS.ExcOwn
import HandS.WordsExc
import HandS.CallSlots
import HandS.TryMany
import HandS.EndBits
import HandS.Wide
import HandS.Gcd
import HandS.Zip
import HandS.IsInst
import HandS.Defaults
import HandS.Flow
import HandS.FStr
import HandS.TupAny
import HandS.ExcInit
import HandS.ExcIs
import HandS.ExcField
import HandS.Lambda
import HandS.Nested
import KE.KDflt
import HandS.HotCalls
import HandS.TupMul
import HandS.More
import HandS.Style
import HandS.Head0
import HandS.Head1
import HandS.Head2
import HandS.Head3
import HandS.HeadHook1
import HandS.HeadHook2
import HandS.HeadHook3
import HandS.HeadHook4
import HandS.HeadWalk
import HandS.EndTab
import HandS.New0
import HandS.RaiseMore
import HandS.Dict
import PyProof.TupleOfStr
import HandS.Iter
import HandS.Conv
import PySem.Challenge.RW_nearspokes_k25_whole_texts_of_programs
set_option Elab.async false
set_option linter.all false
set_option maxRecDepth 100000
set_option maxHeartbeats 4000000
/-! # Data over the hand layer: Python's values as plain trees, mutable things in a ledger -/
namespace DL
open PySem L2

/-- a lambda without parameters, or with one whose default is 0: its words, its parameters, the names that it captures -/
structure LamF where
  params : Arguments
  body : Expr
  scope : Scope
  qual : Str
  ps : List Str
  fr : List Str
/-- a value as a whole: what can be seen of it; fnv: a lambda of the running def, cl its cells; clo: a lambda and what its cells hold; tab: a table of code objects; ptr: a thing of the ledger, a def, a class -/
inductive D where
  | non | bl (b : Bool) | int (i : Int) | str (x : Str)
  | lst (xs : List D) | tup (xs : List D) | ro (xs : List D)
  | dk (ks : List Key) (vs : List D) | dt (ks : List (List Key)) (vs : List D)
  | obj (C : Addr) (ns : List Str) (vs : List D)
  | exc (C : Addr) (ns : List Str) (vs : List D)
  | fnv (F : LamF) (cl : List (Str × Addr))
  | clo (F : LamF) (ds : List D)
  | tab (q : Str)
  | ptr (a : Addr) | ty (n : String)

/-- mutable things, by address -/
abbrev Led := List (Addr × D)
def inL (L : Led) (a : Addr) : Prop := a ∈ L.map (·.1)

def SqL' (L : Led) (K : PySem.W.Frag) (H : Hp) (a : Addr) (xs : List V) : Prop :=
  (¬ inL L a ∧ Rd H a (.lst xs)) ∨
    ∃ (o : Obj) (its : Array Value) (n : Nat), K.lookup a = some o ∧ o.cls = .type "list" ∧ o.dict = none ∧ o.data = .seq its n ∧ its.size ≤ sizeLine ∧ Vals xs its.toList
def SqT' (L : Led) (K : PySem.W.Frag) (H : Hp) (a : Addr) (xs : List V) : Prop :=
  (¬ inL L a ∧ Rd H a (.tup xs)) ∨
    ∃ (o : Obj) (its : Array Value) (n : Nat), K.lookup a = some o ∧ o.cls = .type "tuple" ∧ o.data = .seq its n ∧ its.size ≤ sizeLine ∧ Vals xs its.toList
theorem SqL'.sq {L K H a xs} (h : SqL' L K H a xs) : SqL K H a xs := h.elim (fun z => .inl z.2) .inr
theorem SqT'.sq {L K H a xs} (h : SqT' L K H a xs) : SqT K H a xs := h.elim (fun z => .inl z.2) .inr

/-- an error of the class at C stands at a, its own dict at d -/
def ExcAt (h : Heap) (a C d : Addr) : Prop := ∃ (oe : Obj) (vs : Array Value), h.get? a = some oe ∧ oe.cls = .ref C ∧ oe.dict = some d ∧ oe.data = .fields vs
def XDict (H : Hp) (d : Addr) (fs : List (Str × V)) : Prop := H d = some (.xd fs) ∨ H d = some (exd d fs)
/-- the object at f is the lambda F with the cells cl, the defaults dV, the code object at c -/
def LamO (f : Addr) (F : LamF) (cl : List (Str × Addr)) (dV : Value) (c : Addr) : HO := .ext fun h => ∃ (od : Option Addr) (sl : Array (Option Value)) (doc pm ctv : Value), h.get? f = some (⟨.type "function", od, .func (PySem.W.kdv_fn "<lambda>" F.qual F.params (.expr F.body) F.scope cl dV doc pm (.ref c) ctv), sl⟩ : Obj)
def DvAt (L : Led) (H : Hp) (n : Nat) (dV : Value) : Prop := (n = 0 ∧ dV = .none) ∨ (n ≠ 0 ∧ ∃ t, dV = .ref t ∧ ¬ inL L t ∧ H t = some (.tup (List.replicate n (.int 0))))
structure FnvAt (L : Led) (H : Hp) (f : Addr) (F : LamF) (cl : List (Str × Addr)) : Prop where
  nf : ¬ inL L f
  ex : ∃ (c : Addr) (dV : Value), H f = some (LamO f F cl dV c) ∧ ¬ inL L c ∧ H c = some (LamX.CodeO c F.qual) ∧ DvAt L H F.ps.length dV
/-- a cell that is known to the object -/
abbrev celO (o : Obj) : HO := .frz o (.own 0)
/-- .. and its cells are known: they hold vs -/
structure CloAt (L : Led) (H : Hp) (f : Addr) (F : LamF) (vs : List V) : Prop where
  ex : ∃ cl : List (Str × Addr), FnvAt L H f F cl ∧ vs.length = F.fr.length ∧ (∀ x y c, cl.lookup x = some c → cl.lookup y = some c → x = y) ∧ (∀ y c, cl.lookup y = some c → y ∈ F.fr) ∧
    ∀ (i : Nat) (y : Str), F.fr[i]? = some y → ∃ (cc : Addr) (oc : Obj) (u : Value) (v : V), cl.lookup y = some cc ∧ ¬ inL L cc ∧ H cc = some (celO oc) ∧ oc.data = .cell (some u) ∧ vs[i]? = some v ∧ RelV v u
mutual
inductive Rp (L : Led) (K : PySem.W.Frag) (H : Hp) : V → D → Prop
  | non : Rp L K H .non .non
  | bl (b : Bool) : Rp L K H (.bl b) (.bl b)
  | int (i : Int) : Rp L K H (.int i) (.int i)
  | str (x : Str) : Rp L K H (.str x) (.str x)
  | ty (n : String) : Rp L K H (.ty n) (.ty n)
  | ptr (a : Addr) : Rp L K H (.ref a) (.ptr a)
  | lst {a : Addr} {xs : List V} {ds : List D} : ¬ inL L a → H a = some (.lst xs) → RpAll L K H xs ds → Rp L K H (.ref a) (.lst ds)
  | ro {a : Addr} {xs : List V} {ds : List D} : SqL' L K H a xs → RpAll L K H xs ds → Rp L K H (.ref a) (.ro ds)
  | tup {a : Addr} {xs : List V} {ds : List D} : SqT' L K H a xs → RpAll L K H xs ds → Rp L K H (.ref a) (.tup ds)
  | dk {a : Addr} {ks : List Key} {xs : List V} {ds : List D} : ¬ inL L a → Rd H a (.dK (ks.zip xs)) → ks.length = xs.length → RpAll L K H xs ds → Rp L K H (.ref a) (.dk ks ds)
  | dt {a : Addr} {ks : List (List Key)} {xs : List V} {ds : List D} : ¬ inL L a → H a = some (.dT (ks.zip xs)) → ks.length = xs.length → RpAll L K H xs ds → Rp L K H (.ref a) (.dt ks ds)
  | obj {a C dx : Addr} {ns : List Str} {xs : List V} {ds : List D} : ¬ inL L a → H a = some (.ins C dx (ns.zip xs)) → ns.length = xs.length → RpAll L K H xs ds → Rp L K H (.ref a) (.obj C ns ds)
  | exc {a C d : Addr} {φ : Heap → Prop} {ns : List Str} {xs : List V} {ds : List D} : ¬ inL L a → ¬ inL L d → H a = some (.ext φ) → (∀ h, φ h → ExcAt h a C d) → XDict H d (ns.zip xs) → ns.length = xs.length → RpAll L K H xs ds → Rp L K H (.ref a) (.exc C ns ds)
  | fnv {f : Addr} {F : LamF} {cl : List (Str × Addr)} : FnvAt L H f F cl → Rp L K H (.ref f) (.fnv F cl)
  | clo {f : Addr} {F : LamF} {xs : List V} {ds : List D} : CloAt L H f F xs → RpAll L K H xs ds → Rp L K H (.ref f) (.clo F ds)
inductive RpAll (L : Led) (K : PySem.W.Frag) (H : Hp) : List V → List D → Prop
  | nil : RpAll L K H [] []
  | cons {v : V} {vs : List V} {d : D} {ds : List D} : Rp L K H v d → RpAll L K H vs ds → RpAll L K H (v :: vs) (d :: ds)
end

/-- from (L, H) to (L', H'): what is not of the ledger stands -/
def Go (L L' : Led) (H H' : Hp) : Prop := ∀ a o, ¬ inL L a → H a = some o → ¬ inL L' a ∧ H' a = some o
theorem Go.refl (L : Led) (H : Hp) : Go L L H H := fun _ _ n h => ⟨n, h⟩
theorem Go.trans {L L1 L2 : Led} {H H1 H2 : Hp} (a : Go L L1 H H1) (b : Go L1 L2 H1 H2) : Go L L2 H H2 := fun x o n h => let ⟨n1, h1⟩ := a x o n h; b x o n1 h1
theorem Go.same {L : Led} {H H' : Hp} (s : Same H H') : Go L L H H' := fun a o n h => ⟨n, s a o h⟩
theorem Go.rd {L L' : Led} {H H' : Hp} {a : Addr} {u : HO} (g : Go L L' H H') (n : ¬ inL L a) (h : Rd H a u) : ¬ inL L' a ∧ Rd H' a u := by
  rcases h with h | ⟨o, h⟩
  · exact ⟨(g a _ n h).1, .inl (g a _ n h).2⟩
  · exact ⟨(g a _ n h).1, .inr ⟨o, (g a _ n h).2⟩⟩
theorem Go.sqL {L L' K H H' a xs} (g : Go L L' H H') (h : SqL' L K H a xs) : SqL' L' K H' a xs := h.elim (fun z => .inl (g.rd z.1 z.2)) .inr
theorem Go.sqT {L L' K H H' a xs} (g : Go L L' H H') (h : SqT' L K H a xs) : SqT' L' K H' a xs := h.elim (fun z => .inl (g.rd z.1 z.2)) .inr
theorem Go.xdict {L L' : Led} {H H' : Hp} {d : Addr} {fs : List (Str × V)} (g : Go L L' H H') (n : ¬ inL L d) (h : XDict H d fs) : ¬ inL L' d ∧ XDict H' d fs := by
  rcases h with h | h
  · exact ⟨(g d _ n h).1, .inl (g d _ n h).2⟩
  · exact ⟨(g d _ n h).1, .inr (g d _ n h).2⟩
theorem Go.fnv {L L' : Led} {H H' : Hp} {f : Addr} {F : LamF} {cl : List (Str × Addr)} (g : Go L L' H H') (h : FnvAt L H f F cl) : FnvAt L' H' f F cl := by
  obtain ⟨nf, c, dV, h1, n2, h2, h3⟩ := h
  refine ⟨(g _ _ nf h1).1, c, dV, (g _ _ nf h1).2, (g _ _ n2 h2).1, (g _ _ n2 h2).2, ?_⟩
  rcases h3 with h3 | ⟨z, t, e, n, h3⟩
  · exact .inl h3
  · exact .inr ⟨z, t, e, (g _ _ n h3).1, (g _ _ n h3).2⟩
theorem Go.clo {L L' : Led} {H H' : Hp} {f : Addr} {F : LamF} {vs : List V} (g : Go L L' H H') (h : CloAt L H f F vs) : CloAt L' H' f F vs := by
  obtain ⟨cl, h1, h2, h3, h4, h5⟩ := h
  refine ⟨cl, g.fnv h1, h2, h3, h4, fun i y e => ?_⟩
  obtain ⟨cc, oc, u, v, q1, n, q2, q3⟩ := h5 i y e
  exact ⟨cc, oc, u, v, q1, (g _ _ n q2).1, (g _ _ n q2).2, q3⟩
mutual
theorem Rp.go {L L' : Led} {K : PySem.W.Frag} {H H' : Hp} (g : Go L L' H H') : ∀ {v : V} {d : D}, Rp L K H v d → Rp L' K H' v d
  | _, _, .non => .non
  | _, _, .bl b => .bl b
  | _, _, .int i => .int i
  | _, _, .str x => .str x
  | _, _, .ty n => .ty n
  | _, _, .ptr a => .ptr a
  | _, _, .lst n h r => .lst (g _ _ n h).1 (g _ _ n h).2 (RpAll.go g r)
  | _, _, .ro s r => .ro (g.sqL s) (RpAll.go g r)
  | _, _, .tup s r => .tup (g.sqT s) (RpAll.go g r)
  | _, _, .dk n h e r => .dk (g.rd n h).1 (g.rd n h).2 e (RpAll.go g r)
  | _, _, .dt n h e r => .dt (g _ _ n h).1 (g _ _ n h).2 e (RpAll.go g r)
  | _, _, .obj n h e r => .obj (g _ _ n h).1 (g _ _ n h).2 e (RpAll.go g r)
  | _, _, .exc n m h p x e r => .exc (g _ _ n h).1 (g.xdict m x).1 (g _ _ n h).2 p (g.xdict m x).2 e (RpAll.go g r)
  | _, _, .fnv h => .fnv (g.fnv h)
  | _, _, .clo h r => .clo (g.clo h) (RpAll.go g r)
theorem RpAll.go {L L' : Led} {K : PySem.W.Frag} {H H' : Hp} (g : Go L L' H H') : ∀ {vs : List V} {ds : List D}, RpAll L K H vs ds → RpAll L' K H' vs ds
  | _, _, .nil => .nil
  | _, _, .cons h r => .cons (Rp.go g h) (RpAll.go g r)
end
section
variable {L : Led} {K : PySem.W.Frag} {H : Hp}
theorem RpAll.length : ∀ {vs : List V} {ds : List D}, RpAll L K H vs ds → vs.length = ds.length
  | _, _, .nil => rfl
  | _, _, .cons _ r => by rw [List.length_cons, List.length_cons, RpAll.length r]
theorem RpAll.get : ∀ {vs : List V} {ds : List D} {i : Nat} {d : D}, RpAll L K H vs ds → ds[i]? = some d → ∃ v, vs[i]? = some v ∧ Rp L K H v d
  | _, _, _, _, .nil, e => by simp at e
  | _, _, 0, _, .cons h _, e => by simp at e; subst e; exact ⟨_, rfl, h⟩
  | _, _, i + 1, d, .cons _ r, e => by
    obtain ⟨v, e1, h⟩ := RpAll.get (i := i) (d := d) r (by simpa using e)
    exact ⟨v, by simpa using e1, h⟩
theorem RpAll.getV : ∀ {vs : List V} {ds : List D} {i : Nat} {v : V}, RpAll L K H vs ds → vs[i]? = some v → ∃ d, ds[i]? = some d ∧ Rp L K H v d
  | _, _, _, _, .nil, e => by simp at e
  | _, _, 0, _, .cons h _, e => by simp at e; subst e; exact ⟨_, rfl, h⟩
  | _, _, i + 1, v, .cons _ r, e => by
    obtain ⟨d, e1, h⟩ := RpAll.getV (i := i) (v := v) r (by simpa using e)
    exact ⟨d, by simpa using e1, h⟩
theorem RpAll.append : ∀ {vs ws : List V} {ds es : List D}, RpAll L K H vs ds → RpAll L K H ws es → RpAll L K H (vs ++ ws) (ds ++ es)
  | _, _, _, _, .nil, s => s
  | _, _, _, _, .cons h r, s => .cons h (RpAll.append r s)
theorem RpAll.take : ∀ {vs : List V} {ds : List D} (n : Nat), RpAll L K H vs ds → RpAll L K H (vs.take n) (ds.take n)
  | _, _, 0, _ => .nil
  | _, _, _ + 1, .nil => .nil
  | _, _, n + 1, .cons h r => .cons h (RpAll.take n r)
theorem RpAll.drop : ∀ {vs : List V} {ds : List D} (n : Nat), RpAll L K H vs ds → RpAll L K H (vs.drop n) (ds.drop n)
  | _, _, 0, h => h
  | _, _, _ + 1, .nil => .nil
  | _, _, n + 1, .cons _ r => RpAll.drop n r
theorem RpAll.set {v : V} {d : D} (h : Rp L K H v d) : ∀ {vs : List V} {ds : List D} (i : Nat), RpAll L K H vs ds → RpAll L K H (vs.set i v) (ds.set i d)
  | _, _, _, .nil => .nil
  | _, _, 0, .cons _ r => .cons h r
  | _, _, i + 1, .cons a r => .cons a (RpAll.set h i r)
theorem RpAll.ints : ∀ (ns : List Int), RpAll L K H (ns.map V.int) (ns.map D.int)
  | [] => .nil
  | n :: r => .cons (.int n) (RpAll.ints r)
theorem RpAll.ofInts : ∀ {vs : List V} (ns : List Int), RpAll L K H vs (ns.map D.int) → vs = ns.map V.int
  | _, [], .nil => rfl
  | _, _ :: r, .cons h t => by cases h; rw [RpAll.ofInts r t]; rfl
theorem RpAll.ofBls : ∀ {vs : List V} (ns : List Bool), RpAll L K H vs (ns.map D.bl) → vs = ns.map V.bl
  | _, [], .nil => rfl
  | _, _ :: r, .cons h t => by cases h; rw [RpAll.ofBls r t]; rfl
theorem RpAll.ofStrs : ∀ {vs : List V} (ns : List Str), RpAll L K H vs (ns.map D.str) → vs = ns.map V.str
  | _, [], .nil => rfl
  | _, _ :: r, .cons h t => by cases h; rw [RpAll.ofStrs r t]; rfl
theorem RpAll.strs : ∀ (ns : List Str), RpAll L K H (ns.map V.str) (ns.map D.str)
  | [] => .nil
  | n :: r => .cons (.str n) (RpAll.strs r)
end

/-! ### the ledger -/
/-- what stands at a, of the ledger -/
def Own (L : Led) (K : PySem.W.Frag) (H : Hp) (a : Addr) : D → Prop
  | .lst ds => ∃ vs, H a = some (.lst vs) ∧ RpAll L K H vs ds
  | .dk ks ds => ∃ vs, H a = some (.dK (ks.zip vs)) ∧ ks.length = vs.length ∧ RpAll L K H vs ds
  | .dt ks ds => ∃ vs, H a = some (.dT (ks.zip vs)) ∧ ks.length = vs.length ∧ RpAll L K H vs ds
  | .obj C ns ds => ∃ dx vs, H a = some (.ins C dx (ns.zip vs)) ∧ ns.length = vs.length ∧ RpAll L K H vs ds
  | .tab q => ∃ ps : Array Value, H a = some (.tbl ps) ∧ TriplesOk ps.toList ∧ ∀ (pos : Pos) (cv : Value), codeAmong pos ps.toList = some cv → ∃ c, cv = .ref c ∧ ¬ inL L c ∧ H c = some (LamX.CodeO c q)
  | _ => False
structure JL (K : PySem.W.Frag) (L : Led) (H : Hp) : Prop where
  nd : (L.map (·.1)).Nodup
  own : ∀ a d, (a, d) ∈ L → Own L K H a d
section
variable {L L' : Led} {K : PySem.W.Frag} {H H' : Hp} {a p : Addr} {d : D}
theorem Own.there (h : Own L K H a d) : ∃ o, H a = some o := by
  cases d with
  | lst ds => exact ⟨_, h.choose_spec.1⟩
  | dk ks ds => exact ⟨_, h.choose_spec.1⟩
  | dt ks ds => exact ⟨_, h.choose_spec.1⟩
  | obj C ns ds => obtain ⟨dx, vs, e, _⟩ := h; exact ⟨_, e⟩
  | tab q => obtain ⟨ps, e, _⟩ := h; exact ⟨_, e⟩
  | _ => exact h.elim
theorem Own.move (h : Own L K H a d) (g : Go L L' H H') (e : ∀ o, H a = some o → H' a = some o) : Own L' K H' a d := by
  cases d with
  | lst ds => obtain ⟨vs, h1, h2⟩ := h; exact ⟨vs, e _ h1, h2.go g⟩
  | dk ks ds => obtain ⟨vs, h1, h3, h2⟩ := h; exact ⟨vs, e _ h1, h3, h2.go g⟩
  | dt ks ds => obtain ⟨vs, h1, h3, h2⟩ := h; exact ⟨vs, e _ h1, h3, h2.go g⟩
  | obj C ns ds => obtain ⟨dx, vs, h1, h3, h2⟩ := h; exact ⟨dx, vs, e _ h1, h3, h2.go g⟩
  | tab q =>
    obtain ⟨ps, h1, h2, h3⟩ := h
    refine ⟨ps, e _ h1, h2, fun pos cv hc => ?_⟩
    obtain ⟨c, q1, n, q2⟩ := h3 pos cv hc
    exact ⟨c, q1, (g _ _ n q2).1, (g _ _ n q2).2⟩
  | _ => exact h.elim
theorem JL.same (j : JL K L H) (s : Same H H') : JL K L H' := ⟨j.nd, fun a d m => Own.move (j.own a d m) (Go.same s) fun o e => s a o e⟩
theorem JL.notIn (j : JL K L H) (h : H p = none) : ¬ inL L p := fun m => by
  obtain ⟨q, hq, e⟩ := List.mem_map.mp m
  obtain ⟨o, ho⟩ := Own.there (j.own q.1 q.2 hq)
  rw [e, h] at ho
  cases ho
theorem mem_of_lookup : ∀ {L : Led} {a : Addr} {d : D}, L.lookup a = some d → (a, d) ∈ L
  | [], _, _, h => by simp at h
  | (b, e) :: r, a, d, h => by
    by_cases hb : a = b
    · subst hb
      rw [List.lookup_cons_self] at h
      cases h
      exact List.mem_cons_self
    · have q : (a == b) = false := by simpa using hb
      rw [List.lookup_cons, q] at h
      exact List.mem_cons_of_mem _ (mem_of_lookup h)
theorem JL.look (j : JL K L H) (h : L.lookup a = some d) : Own L K H a d := j.own a d (mem_of_lookup h)
/-- what a datum holds, through the ledger -/
def con (L : Led) : D → D
  | .ptr a => (L.lookup a).getD (.ptr a)
  | d => d
theorem con_lst {v : V} {ds : List D} (j : JL K L H) (r : Rp L K H v d) (e : con L d = .lst ds) : ∃ a vs, v = .ref a ∧ H a = some (.lst vs) ∧ RpAll L K H vs ds := by
  cases d with
  | ptr a =>
    cases r
    have e : (L.lookup a).getD (.ptr a) = _ := e
    cases h : L.lookup a with
    | none => rw [h] at e; cases e
    | some c =>
      rw [h] at e
      have e2 : c = .lst ds := e
      subst e2
      obtain ⟨vs, h1, h2⟩ := j.look h
      exact ⟨a, vs, rfl, h1, h2⟩
  | lst xs =>
    have e2 : xs = ds := by unfold con at e; injection e
    subst e2
    cases r with
    | lst n h r => exact ⟨_, _, rfl, h, r⟩
  | _ => cases e
theorem con_tup {v : V} {ds : List D} (j : JL K L H) (r : Rp L K H v d) (e : con L d = .tup ds) : ∃ a vs, v = .ref a ∧ SqT K H a vs ∧ RpAll L K H vs ds := by
  cases d with
  | ptr a =>
    cases r
    have e : (L.lookup a).getD (.ptr a) = _ := e
    cases h : L.lookup a with
    | none => rw [h] at e; cases e
    | some c =>
      rw [h] at e
      have e2 : c = .tup ds := e
      subst e2
      exact (j.look h).elim
  | tup xs =>
    have e2 : xs = ds := by unfold con at e; injection e
    subst e2
    cases r with
    | tup s r => exact ⟨_, _, rfl, s.sq, r⟩
  | _ => cases e
/-- the items of a list or tuple that may be read -/
def seqs : D → Option (List D)
  | .lst ds => some ds
  | .ro ds => some ds
  | .tup ds => some ds
  | _ => none
theorem con_ro {v : V} {ds : List D} (j : JL K L H) (r : Rp L K H v d) (e : con L d = .ro ds) : ∃ a vs, v = .ref a ∧ SqL K H a vs ∧ RpAll L K H vs ds := by
  cases d with
  | ptr a =>
    cases r
    have e : (L.lookup a).getD (.ptr a) = _ := e
    cases h : L.lookup a with
    | none => rw [h] at e; cases e
    | some c =>
      rw [h] at e
      have e2 : c = .ro ds := e
      subst e2
      exact (j.look h).elim
  | ro xs =>
    have e2 : xs = ds := by unfold con at e; injection e
    subst e2
    cases r with
    | ro s r => exact ⟨_, _, rfl, s.sq, r⟩
  | _ => cases e
theorem con_seq {v : V} {ds : List D} (j : JL K L H) (r : Rp L K H v d) (e : seqs (con L d) = some ds) : ∃ a vs, v = .ref a ∧ (SqL K H a vs ∨ SqT K H a vs) ∧ RpAll L K H vs ds := by
  cases h : con L d with
  | lst xs =>
    rw [h] at e; cases e
    obtain ⟨a, vs, h1, h2, h3⟩ := con_lst j r h
    exact ⟨a, vs, h1, .inl (SqL.of h2), h3⟩
  | ro xs =>
    rw [h] at e; cases e
    obtain ⟨a, vs, h1, h2, h3⟩ := con_ro j r h
    exact ⟨a, vs, h1, .inl h2, h3⟩
  | tup xs =>
    rw [h] at e; cases e
    obtain ⟨a, vs, h1, h2, h3⟩ := con_tup j r h
    exact ⟨a, vs, h1, .inr h2, h3⟩
  | _ => rw [h] at e; cases e
theorem same_new (h : H p = none) (o : HO) : Same H (upd H p o) := fun b u q => by rw [upd_ne (ne_of_none q h)]; exact q
/-- a new thing onto the ledger -/
theorem JL.push (j : JL K L H) (hp : H p = none) {o : HO} (ow : Own ((p, d) :: L) K (upd H p o) p d) : JL K ((p, d) :: L) (upd H p o) ∧ Go L ((p, d) :: L) H (upd H p o) := by
  have np := j.notIn hp
  have g : Go L ((p, d) :: L) H (upd H p o) := fun a u n h => by
    have ne : a ≠ p := ne_of_none h hp
    exact ⟨fun m => by
      rcases List.mem_cons.mp m with e | e
      · exact ne e
      · exact n e, by rw [upd_ne ne]; exact h⟩
  refine ⟨⟨List.nodup_cons.mpr ⟨np, j.nd⟩, fun a e m => ?_⟩, g⟩
  rcases List.mem_cons.mp m with q | q
  · cases q
    exact ow
  · exact Own.move (j.own a e q) g fun u h => by rw [upd_ne (ne_of_none h hp)]; exact h
end

/-! ### slots -/
abbrev DEnv := List (Option D)
inductive Sto (L : Led) (K : PySem.W.Frag) (H : Hp) : St → DEnv → Prop
  | nil : Sto L K H [] []
  | sm {v d σ e} : Rp L K H v d → Sto L K H σ e → Sto L K H (some v :: σ) (some d :: e)
  | no {o σ e} : Sto L K H σ e → Sto L K H (o :: σ) (none :: e)
section
variable {L L' : Led} {K : PySem.W.Frag} {H H' : Hp}
theorem Sto.go (g : Go L L' H H') : ∀ {σ : St} {e : DEnv}, Sto L K H σ e → Sto L' K H' σ e
  | _, _, .nil => .nil
  | _, _, .sm h r => .sm (h.go g) (Sto.go g r)
  | _, _, .no r => .no (Sto.go g r)
theorem Sto.get : ∀ {σ : St} {e : DEnv} {i : Nat} {d : D}, Sto L K H σ e → e[i]? = some (some d) → ∃ v, σ[i]? = some (some v) ∧ Rp L K H v d
  | _, _, _, _, .nil, h => by simp at h
  | _, _, 0, _, .sm h _, q => by simp at q; subst q; exact ⟨_, rfl, h⟩
  | _, _, 0, _, .no _, q => by simp at q
  | _, _, i + 1, d, .sm _ r, q => by
    obtain ⟨v, e1, h⟩ := Sto.get (i := i) (d := d) r (by simpa using q)
    exact ⟨v, by simpa using e1, h⟩
  | _, _, i + 1, d, .no r, q => by
    obtain ⟨v, e1, h⟩ := Sto.get (i := i) (d := d) r (by simpa using q)
    exact ⟨v, by simpa using e1, h⟩
theorem Sto.set {v : V} {d : D} (h : Rp L K H v d) : ∀ {σ : St} {e : DEnv} (i : Nat), Sto L K H σ e → Sto L K H (σ.set i (some v)) (e.set i (some d))
  | _, _, _, .nil => .nil
  | _, _, 0, .sm _ r => .sm h r
  | _, _, 0, .no r => .sm h r
  | _, _, i + 1, .sm q r => .sm q (Sto.set h i r)
  | _, _, i + 1, .no r => .no (Sto.set h i r)
theorem Sto.wipe1 {o : Option V} : ∀ {σ : St} {e : DEnv} (i : Nat), Sto L K H σ e → Sto L K H (σ.set i o) (e.set i none)
  | _, _, _, .nil => .nil
  | _, _, 0, .sm _ r => .no r
  | _, _, 0, .no r => .no r
  | _, _, i + 1, .sm q r => .sm q (Sto.wipe1 i r)
  | _, _, i + 1, .no r => .no (Sto.wipe1 i r)
theorem Sto.start : ∀ {vs : List V} {ds : List D} {n : Nat}, RpAll L K H vs ds → Sto L K H (vs.map some ++ List.replicate n none) (ds.map some ++ List.replicate n none)
  | _, _, 0, .nil => .nil
  | _, _, n + 1, .nil => .no (Sto.start (n := n) .nil)
  | _, _, n, .cons h r => .sm h (Sto.start r)
end
end DL

namespace DL
open PySem L2

/-- an error: its class, what its own dict holds -/
structure Exn where
  cls : Value
  ns : List Str
  vs : List D
def ExR (L : Led) (K : PySem.W.Frag) (H : Hp) (a : Addr) (n : Exn) : Prop :=
  ¬ inL L a ∧ ∃ vs, H a = some (.xd (n.ns.zip vs)) ∧ n.ns.length = vs.length ∧ RpAll L K H vs n.vs
abbrev DK := D → Led → Prop
abbrev DX := Exn → DEnv → Led → Prop
abbrev DE := DEnv → Led → DK → DX → Prop
abbrev DT := DEnv → Led → (Bool → Led → Prop) → DX → Prop
abbrev DA := DEnv → Led → (List D → Led → Prop) → DX → Prop
structure DEnds where
  nx : DEnv → Led → Prop
  rt : DK
  ex : DX
  bk : DEnv → Led → Prop
  ct : DEnv → Led → Prop
abbrev DS := DEnds → DEnv → Led → Prop

def StL (K : PySem.W.Frag) (σ : St) (H : Hp) (env : DEnv) (L : Led) : Prop := Sto L K H σ env ∧ JL K L H
theorem StL.go {K : PySem.W.Frag} {σ : St} {H H' : Hp} {env : DEnv} {L L' : Led} (s : StL K σ H env L) (g : Go L L' H H') (j : JL K L' H') : StL K σ H' env L' := ⟨s.1.go g, j⟩
def KOk (K : PySem.W.Frag) (L : Led) (H : Hp) (k : DK) (Q : VK) : Prop := ∀ d L' v H', k d L' → Go L L' H H' → JL K L' H' → Rp L' K H' v d → Q v H'
def XOk (K : PySem.W.Frag) (Wx : WX) (L : Led) (H : Hp) (x : DX) : Prop := ∀ n env' L' a H' σ', x n env' L' → Go L L' H H' → StL K σ' H' env' L' → ExR L' K H' a n → Wx n.cls (some a) σ' H'
structure EOk (K : PySem.W.Frag) (Wx : WX) (L : Led) (H : Hp) (D' : DEnds) (D : Ends) : Prop where
  nx : ∀ env' L' σ' H', D'.nx env' L' → Go L L' H H' → StL K σ' H' env' L' → D.nx σ' H'
  rt : KOk K L H D'.rt D.rt
  ex : XOk K Wx L H D'.ex
  bk : ∀ env' L' σ' H', D'.bk env' L' → Go L L' H H' → StL K σ' H' env' L' → D.bk σ' H'
  ct : ∀ env' L' σ' H', D'.ct env' L' → Go L L' H H' → StL K σ' H' env' L' → D.ct σ' H'
section
variable {K : PySem.W.Frag} {Wx : WX} {L L1 : Led} {H H1 : Hp} {k : DK} {Q : VK} {x : DX} {D' : DEnds} {D : Ends}
theorem KOk.go (h : KOk K L H k Q) (g : Go L L1 H H1) : KOk K L1 H1 k Q := fun d L' v H' q g' j r => h d L' v H' q (g.trans g') j r
theorem XOk.go (h : XOk K Wx L H x) (g : Go L L1 H H1) : XOk K Wx L1 H1 x := fun n e L' a H' σ' q g' s r => h n e L' a H' σ' q (g.trans g') s r
theorem EOk.go (h : EOk K Wx L H D' D) (g : Go L L1 H H1) : EOk K Wx L1 H1 D' D :=
  ⟨fun e L' σ' H' q g' s => h.nx e L' σ' H' q (g.trans g') s, h.rt.go g, h.ex.go g, fun e L' σ' H' q g' s => h.bk e L' σ' H' q (g.trans g') s, fun e L' σ' H' q g' s => h.ct e L' σ' H' q (g.trans g') s⟩
end

def SimE (K : PySem.W.Frag) (Wx : WX) (te : TE) (de : DE) : Prop := ∀ σ H env L k x Q, StL K σ H env L → de env L k x → KOk K L H k Q → XOk K Wx L H x → te σ H Q
def SimT (K : PySem.W.Frag) (Wx : WX) (te : TT) (de : DT) : Prop := ∀ σ H env L k x Q, StL K σ H env L → de env L k x → (∀ b L' H', k b L' → Go L L' H H' → JL K L' H' → Q b H') → XOk K Wx L H x → te σ H Q
def SimA (K : PySem.W.Frag) (Wx : WX) (ta : TA) (da : DA) : Prop := ∀ σ H env L k x Q, StL K σ H env L → da env L k x → (∀ ds L' vs H', k ds L' → Go L L' H H' → JL K L' H' → RpAll L' K H' vs ds → Q vs H') → XOk K Wx L H x → ta σ H Q
def SimS (K : PySem.W.Frag) (Wx : WX) (ts : TS) (ds : DS) : Prop := ∀ σ H env L D' D, StL K σ H env L → ds D' env L → EOk K Wx L H D' D → ts D σ H
structure QE (X : Cx) (Wx : WX) (e : Expr) (de : DE) : Prop where
  ex : ∃ te, PE X e te ∧ SimE X.K Wx te de
structure QT (X : Cx) (Wx : WX) (e : Expr) (dt : DT) : Prop where
  ex : ∃ te, PT X e te ∧ SimT X.K Wx te dt
structure QW (X : Cx) (Wx : WX) (e : Expr) (dt : DT) : Prop where
  ex : ∃ te, PW X e te ∧ SimT X.K Wx te dt
structure QA (X : Cx) (Wx : WX) (es : List Expr) (da : DA) : Prop where
  ex : ∃ ta, PA X es ta ∧ SimA X.K Wx ta da
structure QS (X : Cx) (Wx : WX) (st : Stmt) (ds : DS) : Prop where
  ex : ∃ ts, PS X st ts ∧ SimS X.K Wx ts ds
structure QSs (X : Cx) (Wx : WX) (st : List Stmt) (ds : DS) : Prop where
  ex : ∃ ts, PSs X st ts ∧ SimS X.K Wx ts ds

section
variable {X : Cx} {Wx : WX} {a b c e : Expr} {es : List Expr} {da db dc de : DE} {pos : Pos}

/-! ### names, constants -/
def dVar (i : Nat) : DE := fun env L k _ => match env[i]? with
  | some (some d) => k d L
  | _ => False
theorem qv (i : Nat) {x : Str} {pos : Pos} (hN : X.N[i]? = some x := by rfl) (hv : Vis X.env.scope x := by first | exact Or.inl rfl | exact Or.inr (Or.inl rfl) | exact Or.inr (Or.inr rfl)) (hd : (x == ("__debug__" : Str)) = false := by decide)
    (hcd : (x == ("__classdict__" : Str)) = false := by decide) : QE X Wx (.Name x pos) (dVar i) := by
  refine ⟨tVar i, pv i hN hv hd hcd, fun σ H env L k x Q st h hk _ => ?_⟩
  unfold dVar at h
  split at h
  · rename_i d hd
    obtain ⟨v, e1, r⟩ := st.1.get hd
    exact ⟨v, e1, hk d L v H h (Go.refl L H) st.2 r⟩
  · exact h.elim
def dC (d : D) : DE := fun _ L k _ => k d L
theorem sim_c {K : PySem.W.Frag} {v : V} {d : D} (r : ∀ L H, Rp L K H v d) : SimE K Wx (tC v) (dC d) := fun _ H _ L _ _ _ st h hk _ => hk d L v H h (Go.refl L H) st.2 (r L H)
theorem q_int {i j pos} : QE X Wx (.Constant (.int i) j pos) (dC (.int i)) := ⟨_, pe_int, sim_c fun _ _ => .int i⟩
theorem q_bl {b j pos} : QE X Wx (.Constant (.bool b) j pos) (dC (.bl b)) := ⟨_, pe_bl, sim_c fun _ _ => .bl b⟩
theorem q_non {j pos} : QE X Wx (.Constant .none j pos) (dC .non) := ⟨_, pe_non, sim_c fun _ _ => .non⟩
theorem q_str {x j pos} : QE X Wx (.Constant (.str x) j pos) (dC (.str x)) := ⟨_, pe_str, sim_c fun _ _ => .str x⟩
theorem q_glob {x : Str} {v : V} {d : D} {u : Value} {pos : Pos} (hg : Gl X x) (hm : X.mg x = some u) (r : RelV v u) (rd : ∀ L H, Rp L X.K H v d) (hd : (x == ("__debug__" : Str)) = false := by decide) : QE X Wx (.Name x pos) (dC d) :=
  ⟨_, pe_glob hg hm r hd, sim_c rd⟩
theorem q_bltn {x : Str} {v : V} {d : D} {u : Value} {pos : Pos} (hg : Gl X x) (hm : X.mg x = none) (hv : bootBuiltins x = some u) (r : RelV v u) (rd : ∀ L H, Rp L X.K H v d) (hn : x ≠ "__name__" := by decide) (hd : (x == ("__debug__" : Str)) = false := by decide) : QE X Wx (.Name x pos) (dC d) :=
  ⟨_, pe_bltn hg hm hv r hn hd, sim_c rd⟩

/-! ### operators on values -/
/-- g: two data, the ledger, what is wanted of the answer -/
abbrev G2 := D → D → Led → (D → Prop) → Prop
def ROk (K : PySem.W.Frag) (L : Led) (H : Hp) (k : D → Prop) (Q : VK) : Prop := ∀ d v H', k d → Same H H' → Rp L K H' v d → Q v H'
def Sim2 (K : PySem.W.Frag) (r : R2) (g : G2) : Prop := ∀ H L va vb a b k Q, JL K L H → Rp L K H va a → Rp L K H vb b → g a b L k → ROk K L H k Q → r va vb H Q
def OQ (X : Cx) (f : Value → Value → Sem Value) (g : G2) : Prop := ∃ r, OpR X f r ∧ Sim2 X.K r g
def dOp (g : G2) (da db : DE) : DE := fun env L k x => da env L (fun a L1 => db env L1 (fun b L2 => g a b L2 fun d => k d L2) x) x
theorem sim_op {K : PySem.W.Frag} {ta tb : TE} {r : R2} {g : G2} (sa : SimE K Wx ta da) (sb : SimE K Wx tb db) (sr : Sim2 K r g) : SimE K Wx (tOp r ta tb) (dOp g da db) := by
  intro σ H env L k x Q st h hk hx
  refine sa σ H env L _ x _ st h (fun a L1 va H1 h1 g1 j1 r1 => ?_) hx
  refine sb σ H1 env L1 _ x _ (st.go g1 j1) h1 (fun b L2 vb H2 h2 g2 j2 r2 => ?_) (hx.go g1)
  exact sr H2 L2 va vb a b _ Q j2 (r1.go g2) r2 h2 fun d v H' q s rp => hk d L2 v H' q ((g1.trans g2).trans (Go.same s)) (j2.same s) rp
theorem q_op {op : Operator} {g : G2} (ho : OQ X (binaryOp op) g) (ha : QE X Wx a da) (hb : QE X Wx b db) : QE X Wx (.BinOp a op b pos) (dOp g da db) := by
  obtain ⟨ta, pa, sa⟩ := ha.ex
  obtain ⟨tb, pb, sb⟩ := hb.ex
  obtain ⟨r, hr, sr⟩ := ho
  exact ⟨_, pe_op hr pa pb, sim_op sa sb sr⟩
theorem q_cmp {op : CmpOp} {g : G2} (ho : OQ X (compareOp op) g) (ha : QE X Wx a da) (hb : QE X Wx b db) (hm : behindInMarks op b = false := by rfl) : QE X Wx (.Compare a [op] [b] pos) (dOp g da db) := by
  obtain ⟨ta, pa, sa⟩ := ha.ex
  obtain ⟨tb, pb, sb⟩ := hb.ex
  obtain ⟨r, hr, sr⟩ := ho
  exact ⟨_, pe_cmpR hr pa pb hm, sim_op sa sb sr⟩
/-- two rules for one operator -/
theorem opr_or {f : Value → Value → Sem Value} {r1 r2 : R2} (h1 : OpR X f r1) (h2 : OpR X f r2) : OpR X f (fun x y H Q => r1 x y H Q ∨ r2 x y H Q) := fun pins s σ H x y u v Q I rx ry h =>
  h.elim (fun q => h1 pins s σ H x y u v Q I rx ry q) (fun q => h2 pins s σ H x y u v Q I rx ry q)
theorem OQ.or {f : Value → Value → Sem Value} {g1 g2 g : G2} (h1 : OQ X f g1) (h2 : OQ X f g2) (hg : ∀ a b L k, g a b L k → g1 a b L k ∨ g2 a b L k) : OQ X f g := by
  obtain ⟨r1, o1, s1⟩ := h1
  obtain ⟨r2, o2, s2⟩ := h2
  exact ⟨_, opr_or o1 o2, fun H L va vb a b k Q j ra rb h hk => (hg a b L k h).elim (fun q => .inl (s1 H L va vb a b k Q j ra rb q hk)) (fun q => .inr (s2 H L va vb a b k Q j ra rb q hk))⟩
/-- two ints -/
def gI (C : Int → Int → Prop) (f : Int → Int → D) : G2 := fun a b _ k => match a, b with
  | .int i, .int j => C i j ∧ k (f i j)
  | _, _ => False
def gI0 (f : Int → Int → D) : G2 := fun a b _ k => match a, b with
  | .int i, .int j => k (f i j)
  | _, _ => False
theorem sim2_I {K : PySem.W.Frag} {C : Int → Int → Prop} {f : Int → Int → V} {f' : Int → Int → D} (hf : ∀ i j L H, Rp L K H (f i j) (f' i j)) : Sim2 K (rI C f) (gI C f') := by
  intro H L va vb a b k Q j ra rb h hk
  cases ra <;> cases rb <;> first | exact h.elim | skip
  exact ⟨_, _, rfl, rfl, h.1, hk _ _ H h.2 (Same.refl H) (hf _ _ L H)⟩
theorem sim2_I0 {K : PySem.W.Frag} {f : Int → Int → V} {f' : Int → Int → D} (hf : ∀ i j L H, Rp L K H (f i j) (f' i j)) : Sim2 K (rI0 f) (gI0 f') := by
  intro H L va vb a b k Q j ra rb h hk
  cases ra <;> cases rb <;> first | exact h.elim | skip
  exact ⟨_, _, rfl, rfl, hk _ _ H h (Same.refl H) (hf _ _ L H)⟩
abbrev gAddI : G2 := gI0 fun i j => .int (i + j)
abbrev gSubI : G2 := gI0 fun i j => .int (i - j)
abbrev gMul : G2 := gI CMulW fun i j => .int (i * j)
def CDivA (_ j : Int) : Prop := j ≠ 0 ∧ j.natAbs.log2 < 9000
abbrev gFdiv : G2 := gI CDivA fun i j => .int (i.fdiv j)
abbrev gMod : G2 := gI (fun _ j => j ≠ 0) fun i j => .int (i.fmod j)
abbrev gPow : G2 := gI CPow fun i j => .int (i ^ j.toNat)
theorem oq_addI : OQ X (binaryOp .Add) gAddI := ⟨_, op_add, sim2_I0 fun _ _ _ _ => .int _⟩
theorem oq_sub : OQ X (binaryOp .Sub) gSubI := ⟨_, op_sub, sim2_I0 fun _ _ _ _ => .int _⟩
theorem oq_mul : OQ X (binaryOp .Mult) gMul := ⟨_, op_mulW, sim2_I fun _ _ _ _ => .int _⟩
theorem op_fdivA : OpR X (binaryOp .FloorDiv) (rI CDivA fun i j => .int (i.fdiv j)) := opI fun i j _ _ _ _ _ hc q =>
  PyProof.Rows.floordiv_int hc.1 q (.inl (PyProof.noPylong_of_log2 hc.2))
theorem oq_fdiv : OQ X (binaryOp .FloorDiv) gFdiv := ⟨_, op_fdivA, sim2_I fun _ _ _ _ => .int _⟩
theorem oq_mod : OQ X (binaryOp .Mod) gMod := ⟨_, op_modN, sim2_I fun _ _ _ _ => .int _⟩
theorem oq_pow : OQ X (binaryOp .Pow) gPow := ⟨_, op_pow, sim2_I fun _ _ _ _ => .int _⟩
abbrev gLt : G2 := gI0 fun i j => .bl (decide (i < j))
abbrev gLe : G2 := gI0 fun i j => .bl (decide (i ≤ j))
abbrev gGt : G2 := gI0 fun i j => .bl (decide (j < i))
abbrev gGe : G2 := gI0 fun i j => .bl (decide (j ≤ i))
theorem oq_lt : OQ X (compareOp .Lt) gLt := ⟨_, op_lt, sim2_I0 fun _ _ _ _ => .bl _⟩
theorem oq_le : OQ X (compareOp .LtE) gLe := ⟨_, op_le, sim2_I0 fun _ _ _ _ => .bl _⟩
theorem oq_gt : OQ X (compareOp .Gt) gGt := ⟨_, op_gt, sim2_I0 fun _ _ _ _ => .bl _⟩
theorem oq_ge : OQ X (compareOp .GtE) gGe := ⟨_, op_ge, sim2_I0 fun _ _ _ _ => .bl _⟩
end
end DL

namespace DL
open PySem L2
/-! ### equality -/
mutual
def toPy : D → PyData
  | .non => .none
  | .bl b => .bool b
  | .int i => .int i
  | .str x => .str x
  | .lst xs => .list (toPys xs)
  | .tup xs => .tuple (toPys xs)
  | .ro _ => .dict [] | .dk _ _ => .dict [] | .dt _ _ => .dict [] | .obj _ _ _ => .dict [] | .exc _ _ _ => .dict [] | .fnv _ _ => .dict [] | .clo _ _ => .dict [] | .tab _ => .dict [] | .ptr _ => .dict [] | .ty _ => .dict []
def toPys : List D → List PyData
  | [] => []
  | d :: r => toPy d :: toPys r
end
/-- whether a datum is of None, bools, ints, texts, lists, tuples -/
def shp (d : D) : Bool := SeqAt.shaped (toPy d)
def eqD (a b : D) : Bool := PyData.eqv (toPy a) (toPy b)
mutual
theorem Rp.dp {L : Led} {K : PySem.W.Frag} {H : Hp} : ∀ {v : V} {d : D}, Rp L K H v d → PyData.canLay0 (toPy d) = true → Dp K H v (toPy d)
  | _, _, .non, _ => .non
  | _, _, .bl b, _ => .bl b
  | _, _, .int i, _ => .int i
  | _, _, .str x, _ => .str x
  | _, _, .lst n h r, c => .lst (SqL.of h) (RpAll.dp r (by simpa only [toPy, PyData.canLay0] using c))
  | _, _, .tup s r, c => .tup s.sq (RpAll.dp r (by simpa only [toPy, PyData.canLay0] using c))
  | _, _, .ro _ _, c => by simp [toPy, PyData.canLay0] at c
  | _, _, .ty _, c => by simp [toPy, PyData.canLay0] at c
  | _, _, .ptr _, c => by simp [toPy, PyData.canLay0] at c
  | _, _, .dk _ _ _ _, c => by simp [toPy, PyData.canLay0] at c
  | _, _, .dt _ _ _ _, c => by simp [toPy, PyData.canLay0] at c
  | _, _, .obj _ _ _ _, c => by simp [toPy, PyData.canLay0] at c
  | _, _, .exc _ _ _ _ _ _ _, c => by simp [toPy, PyData.canLay0] at c
  | _, _, .fnv _, c => by simp [toPy, PyData.canLay0] at c
  | _, _, .clo _ _, c => by simp [toPy, PyData.canLay0] at c
theorem RpAll.dp {L : Led} {K : PySem.W.Frag} {H : Hp} : ∀ {vs : List V} {ds : List D}, RpAll L K H vs ds → PyData.canLayAll0 (toPys ds) = true → DpAll K H vs (toPys ds)
  | _, _, .nil, _ => .nil
  | _, _, .cons (d := d) (ds := ds) h r, c => by
    have c' : PyData.canLay0 (toPy d) = true ∧ PyData.canLayAll0 (toPys ds) = true := by simpa only [toPys, PyData.canLayAll0, Bool.and_eq_true] using c
    exact .cons (Rp.dp h c'.1) (RpAll.dp r c'.2)
end
def gEq : G2 := fun a b _ k => shp a = true ∧ shp b = true ∧ k (.bl (eqD a b))
def gNe : G2 := fun a b _ k => shp a = true ∧ shp b = true ∧ k (.bl (!eqD a b))
section
variable {X : Cx} {Wx : WX} {a b c e : Expr} {es : List Expr} {da db dc de : DE} {pos : Pos}
theorem oq_eq (hu : X.A.units + 64 < cLine) : OQ X (compareOp .Eq) gEq := ⟨_, op_eqD hu, fun H L va vb a b k Q j ra rb h hk => by
  obtain ⟨h1, h2, h3⟩ := h
  exact ⟨_, _, ra.dp (SeqAt.canLay_of_shaped h1), rb.dp (SeqAt.canLay_of_shaped h2), h1, h2, hk _ _ H h3 (Same.refl H) (.bl _)⟩⟩
theorem oq_ne (hu : X.A.units + 64 < cLine) : OQ X (compareOp .NotEq) gNe := ⟨_, op_neD hu, fun H L va vb a b k Q j ra rb h hk => by
  obtain ⟨h1, h2, h3⟩ := h
  exact ⟨_, _, ra.dp (SeqAt.canLay_of_shaped h1), rb.dp (SeqAt.canLay_of_shaped h2), h1, h2, hk _ _ H h3 (Same.refl H) (.bl _)⟩⟩
/-- flat things: None, bools, ints, texts -/
def scD : D → D → Bool
  | .non, .non => true
  | .bl _, .bl _ => true
  | .int _, .int _ => true
  | .str _, .str _ => true
  | _, _ => false
def flEq : D → D → Bool
  | .non, .non => true
  | .bl a, .bl b => decide (a = b)
  | .int a, .int b => decide (a = b)
  | .str a, .str b => decide (a = b)
  | _, _ => false
def gEqF : G2 := fun a b _ k => scD a b = true ∧ k (.bl (flEq a b))
def gNeF : G2 := fun a b _ k => scD a b = true ∧ k (.bl (!flEq a b))
theorem flEq_of {L : Led} {K : PySem.W.Frag} {H : Hp} {va vb : V} {a b : D} (ra : Rp L K H va a) (rb : Rp L K H vb b) (h : scD a b = true) : scal va vb = true ∧ decide (va = vb) = flEq a b := by
  cases ra <;> cases rb <;> first | exact absurd h Bool.false_ne_true | skip
  · exact ⟨rfl, by simp [flEq]⟩
  · exact ⟨rfl, by simp [flEq]⟩
  · exact ⟨rfl, by simp [flEq]⟩
  · exact ⟨rfl, by simp [flEq]⟩
theorem oq_eqF : OQ X (compareOp .Eq) gEqF := ⟨_, op_eq, fun H L va vb a b k Q j ra rb h hk => by
  obtain ⟨h1, h2⟩ := flEq_of ra rb h.1
  exact ⟨h1, by rw [h2]; exact hk _ _ H h.2 (Same.refl H) (.bl _)⟩⟩
theorem oq_neF : OQ X (compareOp .NotEq) gNeF := ⟨_, op_ne, fun H L va vb a b k Q j ra rb h hk => by
  obtain ⟨h1, h2⟩ := flEq_of ra rb h.1
  exact ⟨h1, by rw [h2]; exact hk _ _ H h.2 (Same.refl H) (.bl _)⟩⟩
def isNon : D → Bool
  | .non => true
  | _ => false
def gIsN : G2 := fun a b _ k => match b with
  | .non => k (.bl (isNon a))
  | _ => False
def gNotN : G2 := fun a b _ k => match b with
  | .non => k (.bl (!isNon a))
  | _ => False
theorem isNon_of {L : Led} {K : PySem.W.Frag} {H : Hp} {va : V} {a : D} (ra : Rp L K H va a) : decide (va = .non) = isNon a := by
  cases ra <;> first | rfl | (exact decide_eq_false (fun h => nomatch h))
theorem oq_isN : OQ X (compareOp .Is) gIsN := ⟨_, op_isN, fun H L va vb a b k Q j ra rb h hk => by
  cases rb <;> first | exact h.elim | skip
  exact ⟨rfl, by rw [isNon_of ra]; exact hk _ _ H h (Same.refl H) (.bl _)⟩⟩
theorem oq_notN : OQ X (compareOp .IsNot) gNotN := ⟨_, op_notN, fun H L va vb a b k Q j ra rb h hk => by
  cases rb <;> first | exact h.elim | skip
  exact ⟨rfl, by rw [isNon_of ra]; exact hk _ _ H h (Same.refl H) (.bl _)⟩⟩

/-! ### subscripts, slices -/
def atD (ds : List D) (i : Int) : Option D := atI ds i
theorem atI_of {L : Led} {K : PySem.W.Frag} {H : Hp} {vs : List V} {ds : List D} {i : Int} {d : D} (r : RpAll L K H vs ds) (h : atI ds i = some d) : ∃ v, atI vs i = some v ∧ Rp L K H v d := by
  unfold atI at h ⊢
  rw [r.length]
  cases e : ixN ds.length i with
  | none => rw [e] at h; cases h
  | some j =>
    rw [e] at h
    exact r.get h
/-- a list, a tuple at a place -/
def gIx : G2 := fun a b L k => match b with
  | .int i => match seqs (con L a) with
    | some ds => match atI ds i with
      | some d => k d
      | none => False
    | none => False
  | _ => False
def rIxQ (K : PySem.W.Frag) : R2 := fun x y H Q => rIxL K x y H Q ∨ rIxT K x y H Q
theorem ix_or {r1 r2 : R2} (h1 : IxR X r1) (h2 : IxR X r2) : IxR X (fun x y H Q => r1 x y H Q ∨ r2 x y H Q) := fun value slice pins s σ H x y v u Q I rx ry h hs =>
  h.elim (fun q => h1 value slice pins s σ H x y v u Q I rx ry q hs) (fun q => h2 value slice pins s σ H x y v u Q I rx ry q hs)
theorem sim_ix {K : PySem.W.Frag} : Sim2 K (rIxQ K) gIx := by
  intro H L va vb a b k Q j ra rb h hk
  cases rb <;> first | exact h.elim | skip
  unfold gIx at h
  simp only at h
  split at h
  · rename_i ds hd
    split at h
    · rename_i d hi
      obtain ⟨p, vs, rfl, hs, r⟩ := con_seq j ra hd
      obtain ⟨v, hv, rv⟩ := atI_of r hi
      rcases hs with hs | hs
      · exact .inl ⟨p, vs, _, v, rfl, rfl, hs, hv, hk _ _ H h (Same.refl H) rv⟩
      · exact .inr ⟨p, vs, _, v, rfl, rfl, hs, hv, hk _ _ H h (Same.refl H) rv⟩
    · exact h.elim
  · exact h.elim
theorem q_ix (ha : QE X Wx a da) (hb : QE X Wx b db) (hs : PlainIx b := by intro _ _; rfl) : QE X Wx (.Subscript a b pos) (dOp gIx da db) := by
  obtain ⟨ta, pa, sa⟩ := ha.ex
  obtain ⟨tb, pb, sb⟩ := hb.ex
  exact ⟨_, pe_ix (ix_or ix_list ix_tup) pa pb hs, sim_op sa sb sim_ix⟩
/-- a text's sign at a place -/
def gIxS : G2 := fun a b _ k => match a, b with
  | .str z, .int i => z.length ≤ sizeLine ∧ match atI z.cps.toList i with
    | some c => k (.str ⟨#[c]⟩)
    | none => False
  | _, _ => False
theorem sim_ixS {K : PySem.W.Frag} : Sim2 K rIxS gIxS := by
  intro H L va vb a b k Q j ra rb h hk
  cases ra <;> cases rb <;> first | exact h.elim | skip
  obtain ⟨hz, h⟩ := h
  split at h
  · rename_i c hc
    exact ⟨_, _, c, rfl, rfl, hz, hc, hk _ _ H h (Same.refl H) (.str _)⟩
  · exact h.elim
theorem q_ixS (ha : QE X Wx a da) (hb : QE X Wx b db) (hs : PlainIx b := by intro _ _; rfl) : QE X Wx (.Subscript a b pos) (dOp gIxS da db) := by
  obtain ⟨ta, pa, sa⟩ := ha.ex
  obtain ⟨tb, pb, sb⟩ := hb.ex
  exact ⟨_, pe_ix ix_str pa pb hs, sim_op sa sb sim_ixS⟩
end
end DL

namespace DL
open PySem L2
section
variable {X : Cx} {Wx : WX} {a b c e : Expr} {es rest : List Expr} {da db dc de : DE} {dt du : DT} {dl : DA} {pos : Pos}
/-! ### one operand -/
abbrev G1 := D → Led → (D → Prop) → Prop
def dUn (g : G1) (da : DE) : DE := fun env L k x => da env L (fun a L1 => g a L1 fun d => k d L1) x
def Sim1 (K : PySem.W.Frag) (r : V → Hp → VK → Prop) (g : G1) : Prop := ∀ H L va a k Q, JL K L H → Rp L K H va a → g a L k → ROk K L H k Q → r va H Q
theorem sim_un {K : PySem.W.Frag} {ta : TE} {r : V → Hp → VK → Prop} {g : G1} (sa : SimE K Wx ta da) (sr : Sim1 K r g) : SimE K Wx (tUn r ta) (dUn g da) := by
  intro σ H env L k x Q st h hk hx
  refine sa σ H env L _ x _ st h (fun a L1 va H1 h1 g1 j1 r1 => ?_) hx
  exact sr H1 L1 va a _ Q j1 r1 h1 fun d v H' q s rp => hk d L1 v H' q (g1.trans (Go.same s)) (j1.same s) rp
def gNeg : G1 := fun a _ k => match a with
  | .int i => k (.int (-i))
  | _ => False
theorem q_neg (ha : QE X Wx a da) : QE X Wx (.UnaryOp .USub a pos) (dUn gNeg da) := by
  obtain ⟨ta, pa, sa⟩ := ha.ex
  refine ⟨_, pe_un un_neg pa, sim_un sa fun H L va a k Q j ra h hk => ?_⟩
  cases ra <;> first | exact h.elim | skip
  exact ⟨_, rfl, hk _ _ H h (Same.refl H) (.int _)⟩
/-! ### and, or, not (bools) -/
def dAndV (da db : DE) : DE := fun env L k x => da env L (fun a L1 => match a with
  | .bl true => db env L1 k x
  | .bl false => k (.bl false) L1
  | _ => False) x
def dOrV (da db : DE) : DE := fun env L k x => da env L (fun a L1 => match a with
  | .bl true => k (.bl true) L1
  | .bl false => db env L1 k x
  | _ => False) x
def dNotV (da : DE) : DE := fun env L k x => da env L (fun a L1 => match a with
  | .bl b => k (.bl (!b)) L1
  | _ => False) x
theorem q_one {op} (h : QE X Wx a da) : QE X Wx (.BoolOp op [a] pos) da := by
  obtain ⟨ta, pa, sa⟩ := h.ex
  exact ⟨_, pe_one pa, sa⟩
theorem q_and (ha : QE X Wx a da) (hb : QE X Wx (.BoolOp .And (b :: rest) pos) db) : QE X Wx (.BoolOp .And (a :: b :: rest) pos) (dAndV da db) := by
  obtain ⟨ta, pa, sa⟩ := ha.ex
  obtain ⟨tb, pb, sb⟩ := hb.ex
  refine ⟨_, pe_and pa pb, fun σ H env L k x Q st h hk hx => ?_⟩
  refine sa σ H env L _ x _ st h (fun a L1 va H1 h1 g1 j1 r1 => ?_) hx
  cases r1 <;> first | exact h1.elim | skip
  rename_i b
  refine ⟨b, rfl, ?_⟩
  cases b with
  | true => exact iteT (sb σ H1 env L1 k x Q (st.go g1 j1) h1 (hk.go g1) (hx.go g1))
  | false => exact iteF (hk _ L1 _ H1 h1 g1 j1 (.bl false))
theorem q_or (ha : QE X Wx a da) (hb : QE X Wx (.BoolOp .Or (b :: rest) pos) db) : QE X Wx (.BoolOp .Or (a :: b :: rest) pos) (dOrV da db) := by
  obtain ⟨ta, pa, sa⟩ := ha.ex
  obtain ⟨tb, pb, sb⟩ := hb.ex
  refine ⟨_, pe_or pa pb, fun σ H env L k x Q st h hk hx => ?_⟩
  refine sa σ H env L _ x _ st h (fun a L1 va H1 h1 g1 j1 r1 => ?_) hx
  cases r1 <;> first | exact h1.elim | skip
  rename_i b
  refine ⟨b, rfl, ?_⟩
  cases b with
  | true => exact iteT (hk _ L1 _ H1 h1 g1 j1 (.bl true))
  | false => exact iteF (sb σ H1 env L1 k x Q (st.go g1 j1) h1 (hk.go g1) (hx.go g1))
theorem q_not (ha : QE X Wx a da) : QE X Wx (.UnaryOp .Not a pos) (dNotV da) := by
  obtain ⟨ta, pa, sa⟩ := ha.ex
  refine ⟨_, pe_not pa, fun σ H env L k x Q st h hk hx => ?_⟩
  refine sa σ H env L _ x _ st h (fun a L1 va H1 h1 g1 j1 r1 => ?_) hx
  cases r1 <;> first | exact h1.elim | skip
  exact ⟨_, rfl, hk _ L1 _ H1 h1 g1 j1 (.bl _)⟩
/-! ### tests -/
def dB (da : DE) : DT := fun env L k x => da env L (fun a L1 => match a with
  | .bl b => k b L1
  | _ => False) x
theorem sim_B {K : PySem.W.Frag} {ta : TE} (sa : SimE K Wx ta da) : SimT K Wx (tB ta) (dB da) := by
  intro σ H env L k x Q st h hk hx
  refine sa σ H env L _ x _ st h (fun a L1 va H1 h1 g1 j1 r1 => ?_) hx
  cases r1 <;> first | exact h1.elim | skip
  exact ⟨_, rfl, hk _ L1 H1 h1 g1 j1⟩
theorem t_val (h : QE X Wx e da) (he : ∀ whole, isTrue e X.env whole = (do let v ← whole; standAt e.pos; holding [v] (truthy v)) := by intro _; rfl) : QT X Wx e (dB da) := by
  obtain ⟨ta, pa, sa⟩ := h.ex
  exact ⟨_, pt_val pa he, sim_B sa⟩
theorem t_cmp {op : CmpOp} {g : G2} (ho : OQ X (compareOp op) g) (ha : QE X Wx a da) (hb : QE X Wx b db) (hm : behindInMarks op b = false := by rfl) : QT X Wx (.Compare a [op] [b] pos) (dB (dOp g da db)) := by
  obtain ⟨ta, pa, sa⟩ := ha.ex
  obtain ⟨tb, pb, sb⟩ := hb.ex
  obtain ⟨r, hr, sr⟩ := ho
  refine ⟨_, pt_cmpR hr pa pb hm, fun σ H env L k x Q st h hk hx => ?_⟩
  exact sim_B (sim_op sa sb sr) σ H env L k x Q st h hk hx
def dTAnd (dt du : DT) : DT := fun env L k x => dt env L (fun b L1 => match b with
  | true => du env L1 k x
  | false => k false L1) x
def dTOr (dt du : DT) : DT := fun env L k x => dt env L (fun b L1 => match b with
  | true => k true L1
  | false => du env L1 k x) x
def dTNot (dt : DT) : DT := fun env L k x => dt env L (fun b L1 => k (!b) L1) x
theorem w_and1 (h : QT X Wx a dt) : QW X Wx (.BoolOp .And [a] pos) dt := by
  obtain ⟨ta, pa, sa⟩ := h.ex
  exact ⟨_, pw_and1 pa, sa⟩
theorem w_or1 (h : QT X Wx a dt) : QW X Wx (.BoolOp .Or [a] pos) dt := by
  obtain ⟨ta, pa, sa⟩ := h.ex
  exact ⟨_, pw_or1 pa, sa⟩
theorem w_and (ha : QT X Wx a dt) (hb : QW X Wx (.BoolOp .And (b :: rest) pos) du) : QW X Wx (.BoolOp .And (a :: b :: rest) pos) (dTAnd dt du) := by
  obtain ⟨ta, pa, sa⟩ := ha.ex
  obtain ⟨tb, pb, sb⟩ := hb.ex
  refine ⟨_, pw_and pa pb, fun σ H env L k x Q st h hk hx => ?_⟩
  refine sa σ H env L _ x _ st h (fun b L1 H1 h1 g1 j1 => ?_) hx
  cases b with
  | true => exact iteT (sb σ H1 env L1 k x Q (st.go g1 j1) h1 (fun b L2 H2 q g j => hk b L2 H2 q (g1.trans g) j) (hx.go g1))
  | false => exact iteF (hk _ L1 H1 h1 g1 j1)
theorem w_or (ha : QT X Wx a dt) (hb : QW X Wx (.BoolOp .Or (b :: rest) pos) du) : QW X Wx (.BoolOp .Or (a :: b :: rest) pos) (dTOr dt du) := by
  obtain ⟨ta, pa, sa⟩ := ha.ex
  obtain ⟨tb, pb, sb⟩ := hb.ex
  refine ⟨_, pw_or pa pb, fun σ H env L k x Q st h hk hx => ?_⟩
  refine sa σ H env L _ x _ st h (fun b L1 H1 h1 g1 j1 => ?_) hx
  cases b with
  | true => exact iteT (hk _ L1 H1 h1 g1 j1)
  | false => exact iteF (sb σ H1 env L1 k x Q (st.go g1 j1) h1 (fun b L2 H2 q g j => hk b L2 H2 q (g1.trans g) j) (hx.go g1))
theorem QW.t (h : QW X Wx e dt) : QT X Wx e dt := by
  obtain ⟨ta, pa, sa⟩ := h.ex
  exact ⟨_, pa.pt, sa⟩
theorem t_not (h : QT X Wx a dt) : QT X Wx (.UnaryOp .Not a pos) (dTNot dt) := by
  obtain ⟨ta, pa, sa⟩ := h.ex
  refine ⟨_, pt_not pa, fun σ H env L k x Q st h hk hx => ?_⟩
  exact sa σ H env L _ x _ st h (fun b L1 H1 h1 g1 j1 => hk _ L1 H1 h1 g1 j1) hx
/-- the truth of a value -/
def truD (L : Led) (d : D) : Option Bool := match con L d with
  | .non => some false
  | .bl b => some b
  | .int i => some (i != 0)
  | .lst ds => some (!ds.isEmpty)
  | .tup ds => some (!ds.isEmpty)
  | .ro ds => some (!ds.isEmpty)
  | _ => none
def dTru (da : DE) : DT := fun env L k x => da env L (fun a L1 => match truD L1 a with
  | some b => k b L1
  | none => False) x
theorem emp_of {L : Led} {K : PySem.W.Frag} {H : Hp} {vs : List V} {ds : List D} (r : RpAll L K H vs ds) : (!ds.isEmpty) = !vs.isEmpty := by cases r <;> rfl
theorem tru_of {L : Led} {K : PySem.W.Frag} {H : Hp} {v : V} {d : D} {b : Bool} (j : JL K L H) (r : Rp L K H v d) (h : truD L d = some b) : TruV K v H b := by
  unfold truD at h
  split at h
  · rename_i e
    cases d <;> first | (cases e; done) | skip
    · cases r; cases h; rfl
    · rename_i a
      have e : (L.lookup a).getD (.ptr a) = _ := e
      cases q : L.lookup a with
      | none => rw [q] at e; cases e
      | some c =>
        rw [q] at e
        have e2 : c = .non := e
        subst e2
        exact (j.look q).elim
  · rename_i b' e
    cases d <;> first | (cases e; done) | skip
    · cases e; cases r; cases h; rfl
    · rename_i a
      have e : (L.lookup a).getD (.ptr a) = _ := e
      cases q : L.lookup a with
      | none => rw [q] at e; cases e
      | some c =>
        rw [q] at e
        have e2 : c = .bl b' := e
        subst e2
        exact (j.look q).elim
  · rename_i i e
    cases d <;> first | (cases e; done) | skip
    · cases e; cases r; cases h; rfl
    · rename_i a
      have e : (L.lookup a).getD (.ptr a) = _ := e
      cases q : L.lookup a with
      | none => rw [q] at e; cases e
      | some c =>
        rw [q] at e
        have e2 : c = .int i := e
        subst e2
        exact (j.look q).elim
  · rename_i ds e
    cases h
    obtain ⟨a, vs, rfl, h1, h2⟩ := con_lst j r e
    exact .inl ⟨vs, SqL.of h1, emp_of h2⟩
  · rename_i ds e
    cases h
    obtain ⟨a, vs, rfl, h1, h2⟩ := con_tup j r e
    exact .inr (.inl ⟨vs, h1, emp_of h2⟩)
  · rename_i ds e
    cases h
    obtain ⟨a, vs, rfl, h1, h2⟩ := con_ro j r e
    exact .inl ⟨vs, h1, emp_of h2⟩
  · cases h
theorem t_tru (h : QE X Wx a da) (he : ∀ whole, isTrue a X.env whole = (do let v ← whole; standAt a.pos; holding [v] (truthy v)) := by intro _; rfl) : QT X Wx a (dTru da) := by
  obtain ⟨ta, pa, sa⟩ := h.ex
  refine ⟨_, pt_truth pa he, fun σ H env L k x Q st h hk hx => ?_⟩
  refine sa σ H env L _ x _ st h (fun a L1 va H1 h1 g1 j1 r1 => ?_) hx
  split at h1
  · rename_i b hb
    exact ⟨b, tru_of j1 r1 hb, hk b L1 H1 h1 g1 j1⟩
  · exact h1.elim
/-- a if t else b -/
def dIf (dt : DT) (da db : DE) : DE := fun env L k x => dt env L (fun b L1 => match b with
  | true => da env L1 k x
  | false => db env L1 k x) x
theorem q_if (hc : QT X Wx c dt) (ha : QE X Wx a da) (hb : QE X Wx b db) : QE X Wx (.IfExp c a b pos) (dIf dt da db) := by
  obtain ⟨tc, pc, sc⟩ := hc.ex
  obtain ⟨ta, pa, sa⟩ := ha.ex
  obtain ⟨tb, pb, sb⟩ := hb.ex
  refine ⟨_, pe_ifExp pc pa pb, fun σ H env L k x Q st h hk hx => ?_⟩
  refine sc σ H env L _ x _ st h (fun b L1 H1 h1 g1 j1 => ?_) hx
  cases b with
  | true => exact iteT (sa σ H1 env L1 k x Q (st.go g1 j1) h1 (hk.go g1) (hx.go g1))
  | false => exact iteF (sb σ H1 env L1 k x Q (st.go g1 j1) h1 (hk.go g1) (hx.go g1))
/-- a < b < c -/
def dChain (g g' : G2) (da db dc : DE) : DE := fun env L k x => da env L (fun a L1 => db env L1 (fun b L2 => g a b L2 fun z => match z with
  | .bl true => dc env L2 (fun c L3 => g' b c L3 fun d => k d L3) x
  | .bl false => k (.bl false) L2
  | _ => False) x) x
theorem sim_chain {K : PySem.W.Frag} {ta tb tc : TE} {r r' : R2} {g g' : G2} (sa : SimE K Wx ta da) (sb : SimE K Wx tb db) (sc : SimE K Wx tc dc) (sr : Sim2 K r g) (sr' : Sim2 K r' g') : SimE K Wx (tChain r r' ta tb tc) (dChain g g' da db dc) := by
  intro σ H env L k x Q st h hk hx
  refine sa σ H env L _ x _ st h (fun a L1 va H1 h1 g1 j1 r1 => ?_) hx
  refine sb σ H1 env L1 _ x _ (st.go g1 j1) h1 (fun b L2 vb H2 h2 g2 j2 r2 => ?_) (hx.go g1)
  refine sr H2 L2 va vb a b _ _ j2 (r1.go g2) r2 h2 fun z v H' q s rp => ?_
  have g3 : Go L L2 H H' := (g1.trans g2).trans (Go.same s)
  cases rp <;> first | exact q.elim | skip
  rename_i bb
  refine ⟨bb, rfl, ?_⟩
  cases bb with
  | true =>
    refine iteT (sc σ H' env L2 _ x _ (st.go g3 (j2.same s)) q (fun c L3 vc H3 h3 g4 j3 r3 => ?_) (hx.go g3))
    exact sr' H3 L3 vb vc b c _ Q j3 ((r2.go (Go.same s)).go g4) r3 h3 fun d v' H4 q4 s4 rp4 => hk d L3 v' H4 q4 ((g3.trans g4).trans (Go.same s4)) (j3.same s4) rp4
  | false => exact iteF (hk _ L2 _ H' q g3 (j2.same s) (.bl false))
theorem q_chain {op op' : CmpOp} {g g' : G2} (ho : OQ X (compareOp op) g) (ho' : OQ X (compareOp op') g') (ha : QE X Wx a da) (hb : QE X Wx b db) (hc : QE X Wx c dc) (hm : lastMarks [op, op'] [b, c] = false := by rfl) :
    QE X Wx (.Compare a [op, op'] [b, c] pos) (dChain g g' da db dc) := by
  obtain ⟨ta, pa, sa⟩ := ha.ex
  obtain ⟨tb, pb, sb⟩ := hb.ex
  obtain ⟨tc, pc, sc⟩ := hc.ex
  obtain ⟨r, hr, sr⟩ := ho
  obtain ⟨r', hr', sr'⟩ := ho'
  exact ⟨_, pe_chain hr hr' pa pb pc hm, sim_chain sa sb sc sr sr'⟩
theorem t_chain {op op' : CmpOp} {g g' : G2} (ho : OQ X (compareOp op) g) (ho' : OQ X (compareOp op') g') (ha : QE X Wx a da) (hb : QE X Wx b db) (hc : QE X Wx c dc) (hm : lastMarks [op, op'] [b, c] = false := by rfl) :
    QT X Wx (.Compare a [op, op'] [b, c] pos) (dB (dChain g g' da db dc)) := by
  obtain ⟨ta, pa, sa⟩ := ha.ex
  obtain ⟨tb, pb, sb⟩ := hb.ex
  obtain ⟨tc, pc, sc⟩ := hc.ex
  obtain ⟨r, hr, sr⟩ := ho
  obtain ⟨r', hr', sr'⟩ := ho'
  refine ⟨_, pt_chain hr hr' pa pb pc hm, fun σ H env L k x Q st h hk hx => ?_⟩
  exact sim_B (sim_chain sa sb sc sr sr') σ H env L k x Q st h hk hx
/-! ### arguments, displays -/
def dNil : DA := fun _ L k _ => k [] L
def dCons (de : DE) (dl : DA) : DA := fun env L k x => de env L (fun d L1 => dl env L1 (fun ds L2 => k (d :: ds) L2) x) x
theorem a_nil : QA X Wx [] dNil := ⟨_, pa_nil, fun σ H env L k x Q st h hk hx => hk [] L [] H h (Go.refl L H) st.2 .nil⟩
theorem a_cons (ha : QE X Wx e de) (hr : QA X Wx es dl) (hs : starEach (e :: es) X.env = (false, eval e X.env) :: starEach es X.env := by rfl) : QA X Wx (e :: es) (dCons de dl) := by
  obtain ⟨te, pe, se⟩ := ha.ex
  obtain ⟨ta, pa, sa⟩ := hr.ex
  refine ⟨_, pa_cons pe pa hs, fun σ H env L k x Q st h hk hx => ?_⟩
  refine se σ H env L _ x _ st h (fun d L1 v H1 h1 g1 j1 r1 => ?_) hx
  refine sa σ H1 env L1 _ x _ (st.go g1 j1) h1 (fun ds L2 vs H2 h2 g2 j2 r2 => ?_) (hx.go g1)
  exact hk _ L2 _ H2 h2 (g1.trans g2) j2 (.cons (r1.go g2) r2)
def dTup (dl : DA) : DE := fun env L k x => dl env L (fun ds L1 => ds.length ≤ sizeLine ∧ k (.tup ds) L1) x
def dLst (dl : DA) : DE := fun env L k x => dl env L (fun ds L1 => ds.length ≤ sizeLine ∧ k (.lst ds) L1) x
/-- a list that will change: onto the ledger -/
def dLstM (dl : DA) : DE := fun env L k x => dl env L (fun ds L1 => ds.length ≤ sizeLine ∧ ∀ p, ¬ inL L1 p → k (.ptr p) ((p, .lst ds) :: L1)) x
theorem q_tup {x1} (h : QA X Wx es dl) : QE X Wx (.Tuple es x1 pos) (dTup dl) := by
  obtain ⟨ta, pa, sa⟩ := h.ex
  refine ⟨_, pe_tup pa, fun σ H env L k x Q st h hk hx => ?_⟩
  refine sa σ H env L _ x _ st h (fun ds L1 vs H1 h1 g1 j1 r1 => ?_) hx
  refine ⟨by rw [r1.length]; exact h1.1, fun p hp => ?_⟩
  have s := same_new hp (.tup vs)
  exact hk _ L1 _ _ h1.2 (g1.trans (Go.same s)) (j1.same s) (.tup (.inl ⟨j1.notIn hp, .inl upd_same⟩) (r1.go (Go.same s)))
theorem q_lst (h : QA X Wx es dl) : QE X Wx (.List es pos) (dLst dl) := by
  obtain ⟨ta, pa, sa⟩ := h.ex
  refine ⟨_, pe_lst pa, fun σ H env L k x Q st h hk hx => ?_⟩
  refine sa σ H env L _ x _ st h (fun ds L1 vs H1 h1 g1 j1 r1 => ?_) hx
  refine ⟨by rw [r1.length]; exact h1.1, fun p hp => ?_⟩
  have s := same_new hp (.lst vs)
  exact hk _ L1 _ _ h1.2 (g1.trans (Go.same s)) (j1.same s) (.lst (j1.notIn hp) upd_same (r1.go (Go.same s)))
theorem q_lstM (h : QA X Wx es dl) : QE X Wx (.List es pos) (dLstM dl) := by
  obtain ⟨ta, pa, sa⟩ := h.ex
  refine ⟨_, pe_lst pa, fun σ H env L k x Q st h hk hx => ?_⟩
  refine sa σ H env L _ x _ st h (fun ds L1 vs H1 h1 g1 j1 r1 => ?_) hx
  refine ⟨by rw [r1.length]; exact h1.1, fun p hp => ?_⟩
  have gg : Go L1 ((p, .lst ds) :: L1) H1 (upd H1 p (.lst vs)) := fun a u n hh => by
    have ne : a ≠ p := ne_of_none hh hp
    exact ⟨fun m => (List.mem_cons.mp m).elim ne n, by rw [upd_ne ne]; exact hh⟩
  obtain ⟨j2, g2⟩ := j1.push (d := .lst ds) hp (o := .lst vs) ⟨vs, upd_same, r1.go gg⟩
  exact hk _ _ _ _ (h1.2 p (j1.notIn hp)) (g1.trans g2) j2 (.ptr p)
end
end DL

namespace DL
open PySem L2
section
variable {X : Cx} {Wx : WX} {a b c e o : Expr} {es rest : List Expr} {da db dc de do' di : DE} {dt du : DT} {dl dk : DA} {pos : Pos}
/-! ### calls: a def by its contract over data -/
abbrev DSp := List D → Led → DK → (Exn → Led → Prop) → Prop
def spD (K : PySem.W.Frag) (f : DSp) : Sp := fun vs H Q E => ∃ ds L k x, JL K L H ∧ RpAll L K H vs ds ∧ f ds L k x ∧ KOk K L H k Q ∧ ∀ n L' a H', x n L' → Go L L' H H' → JL K L' H' → ExR L' K H' a n → E n.cls (some a) H'
def dCall (g : DSp) (dd : List D) (dl : DA) : DE := fun env L k x => dl env L (fun ds L1 => g (ds ++ dd) L1 k fun n L' => x n env L') x
theorem q_call {x : Str} {p : Pos} {k : Nat} {f : Addr} {fd : FuncData} {ps : List Str} {g : DSp} {us : List Value} {dvs : List V} {dd : List D} (F : FnOk X.prog X.w X.K X.mg X.base (L2.CX X.prog X.w) k f fd ps (spD X.K g)) (hr : Room k X.A) (hg : Gl X x) (hm : X.mg x = some (.ref f))
    (hk : PySem.W.keepIn X.K (.ref f) = true) (hb : Binds X.K fd ps us) (hd : Vals dvs us) (hdd : ∀ L H, RpAll L X.K H dvs dd) (tk : Takes X Wx) (ha : QA X Wx (e :: es) dl) (hdb : (x == ("__debug__" : Str)) = false := by decide)
    (he : starEach (e :: es) X.env = (false, eval e X.env) :: starEach es X.env := by rfl) (hpl : (backTo pos (starEach es X.env)).any (·.1) = false := by rfl) : QE X Wx (.Call (.Name x p) (e :: es) [] pos) (dCall g dd dl) := by
  obtain ⟨ta, pa, sa⟩ := ha.ex
  refine ⟨_, pe_callSD F hr hg hm hk hb hd (fun σ => passAt tk σ) pa hdb he hpl, fun σ H env L k x Q st h hk hx => ?_⟩
  refine sa σ H env L _ x _ st h (fun ds L1 vs H1 h1 g1 j1 r1 => ?_) hx
  exact ⟨ds ++ dd, L1, k, fun n L' => x n env L', j1, r1.append (hdd L1 H1), h1, hk.go g1, fun n L' a H' q g' j' r => hx n env L' a H' σ q (g1.trans g') (st.go (g1.trans g') j') r⟩
/-- by keywords, a def that raises nothing -/
def dCallK (g : DSp) (gD : List D → List D → List D) (dl dk : DA) : DE := fun env L k x => dl env L (fun ds L1 => dk env L1 (fun es L2 => g (gD ds es) L2 k fun _ _ => False) x) x
/-- f() -/
def dCall0 (g : DSp) (dd : List D) : DE := fun env L k x => g dd L k fun n L' => x n env L'
theorem q_call0 {x : Str} {p : Pos} {k : Nat} {f : Addr} {fd : FuncData} {ps : List Str} {g : DSp} {us : List Value} {dvs : List V} {dd : List D} (F : FnOk X.prog X.w X.K X.mg X.base (L2.CX X.prog X.w) k f fd ps (spD X.K g)) (hr : Room k X.A) (hg : Gl X x) (hm : X.mg x = some (.ref f))
    (hk : PySem.W.keepIn X.K (.ref f) = true) (hb : Binds X.K fd ps us) (hd : Vals dvs us) (hdd : ∀ L H, RpAll L X.K H dvs dd) (tk : Takes X (fun cls d _ H => Wx cls d [] H)) (hW : ∀ cls d σ σ' H, Wx cls d σ H → Wx cls d σ' H) (hdb : (x == ("__debug__" : Str)) = false := by decide) : QE X Wx (.Call (.Name x p) [] [] pos) (dCall0 g dd) := by
  refine ⟨_, pe_call0 (E := fun cls d H => Wx cls d [] H) F hr hg hm hk hb hd (passes_call tk fun _ _ _ _ h => h) hdb, fun σ H env L k x Q st h hk hx => ?_⟩
  exact ⟨dd, L, k, fun n L' => x n env L', st.2, by simpa using hdd L H, h, hk, fun n L' a H' q g' j' r => hW _ _ σ _ _ (hx n env L' a H' σ q g' (st.go g' j') r)⟩
/-! ### built-in calls -/
abbrev GC := List D → Led → (D → Prop) → Prop
def CQ (X : Cx) (f : Value) (g : GC) : Prop := ∃ r, CallR X f r ∧ ∀ H L vs ds k Q, JL X.K L H → RpAll L X.K H vs ds → g ds L k → ROk X.K L H k Q → r vs H Q
def dCB (g : GC) (dl : DA) : DE := fun env L k x => dl env L (fun ds L1 => g ds L1 fun d => k d L1) x
theorem sim_cb {K : PySem.W.Frag} {ta : TA} {r : List V → Hp → VK → Prop} {g : GC} (sa : SimA K Wx ta dl) (sr : ∀ H L vs ds k Q, JL K L H → RpAll L K H vs ds → g ds L k → ROk K L H k Q → r vs H Q) : SimE K Wx (tCB r ta) (dCB g dl) := by
  intro σ H env L k x Q st h hk hx
  refine sa σ H env L _ x _ st h (fun ds L1 vs H1 h1 g1 j1 r1 => ?_) hx
  exact sr H1 L1 vs ds _ Q j1 r1 h1 fun d v H' q s rp => hk d L1 v H' q (g1.trans (Go.same s)) (j1.same s) rp
theorem q_callB {x : Str} {p : Pos} {id : String} {g : GC} (hc : CQ X (.builtin id) g) (hg : Gl X x) (hm : X.mg x = none) (hv : bootBuiltins x = some (.builtin id)) (ha : QA X Wx (e :: es) dl) (hn : x ≠ "__name__" := by decide) (hdb : (x == ("__debug__" : Str)) = false := by decide)
    (he : starEach (e :: es) X.env = (false, eval e X.env) :: starEach es X.env := by rfl) (hpl : (backTo pos (starEach es X.env)).any (·.1) = false := by rfl) : QE X Wx (.Call (.Name x p) (e :: es) [] pos) (dCB g dl) := by
  obtain ⟨ta, pa, sa⟩ := ha.ex
  obtain ⟨r, hr, sr⟩ := hc
  exact ⟨_, pe_callB hr hg hm hv pa hn hdb he hpl, sim_cb sa sr⟩
theorem q_callTy {x : Str} {p : Pos} {T : String} {g : GC} (hc : CQ X (.type T) g) (hg : Gl X x) (hm : X.mg x = none) (hv : bootBuiltins x = some (.type T)) (ha : QA X Wx (e :: es) dl) (hn : x ≠ "__name__" := by decide) (hdb : (x == ("__debug__" : Str)) = false := by decide)
    (he : starEach (e :: es) X.env = (false, eval e X.env) :: starEach es X.env := by rfl) (hpl : (backTo pos (starEach es X.env)).any (·.1) = false := by rfl) : QE X Wx (.Call (.Name x p) (e :: es) [] pos) (dCB g dl) := by
  obtain ⟨ta, pa, sa⟩ := ha.ex
  obtain ⟨r, hr, sr⟩ := hc
  exact ⟨_, pe_callTy hr hg hm hv pa hn hdb he hpl, sim_cb sa sr⟩
/-- a module's name for a built-in (gcd) -/
theorem q_callF {x : Str} {p : Pos} {id : String} {g : GC} (hc : CQ X (.builtin id) g) (hg : Gl X x) (hm : X.mg x = some (.builtin id)) (ha : QA X Wx (e :: es) dl) (hdb : (x == ("__debug__" : Str)) = false := by decide)
    (he : starEach (e :: es) X.env = (false, eval e X.env) :: starEach es X.env := by rfl) (hpl : (backTo pos (starEach es X.env)).any (·.1) = false := by rfl) : QE X Wx (.Call (.Name x p) (e :: es) [] pos) (dCB g dl) := by
  obtain ⟨ta, pa, sa⟩ := ha.ex
  obtain ⟨r, hr, sr⟩ := hc
  exact ⟨_, pe_callBfun hr hg hm pa hdb he hpl, sim_cb sa sr⟩
end

/-! ### targets -/
abbrev DG := D → DEnv → Led → (DEnv → Prop) → Prop
abbrev DGs := List D → DEnv → Led → (DEnv → Prop) → Prop
section
variable {X : Cx} {Wx : WX} {a b c e o : Expr} {es rest : List Expr} {da db dc de : DE} {dt du : DT} {dl : DA} {pos : Pos}
/-- slots that a target stores -/
def Only' (sl : List Nat) (σ σ' : St) : Prop := ∀ vs : List Nat, (∀ i ∈ sl, i ∈ vs) → wipe σ' vs = wipe σ vs
def SimG (K : PySem.W.Frag) (sl : List Nat) (g : TG) (dg : DG) : Prop := ∀ v d σ H env L k Q, StL K σ H env L → Rp L K H v d → dg d env L k → (∀ σ' env', k env' → StL K σ' H env' L → Only' sl σ σ' → Q σ' H) → g v σ H Q
structure QG (X : Cx) (tg : Expr) (sl : List Nat) (dg : DG) : Prop where
  ex : ∃ g, PG X tg g ∧ SimG X.K sl g dg
structure QGs (X : Cx) (ts : List Expr) (sl : List Nat) (dg : DGs) : Prop where
  ex : ∃ g, PGs X ts g ∧ ∀ vs ds σ H env L k Q, StL X.K σ H env L → RpAll L X.K H vs ds → dg ds env L k → (∀ σ' env', k env' → StL X.K σ' H env' L → Only' sl σ σ' → Q σ' H) → g vs σ H Q
theorem wipe_set {σ : St} {o : Option V} {i : Nat} : ∀ {vs : List Nat}, i ∈ vs → wipe (σ.set i o) vs = wipe σ vs
  | [], h => by cases h
  | v :: vs, h => by
    by_cases e : i ∈ vs
    · unfold wipe
      rw [wipe_set e]
    · have e2 : i = v := by
        rcases List.mem_cons.mp h with q | q
        · exact q
        · exact absurd q e
      subst e2
      unfold wipe
      have key : ∀ (ws : List Nat), i ∉ ws → wipe (σ.set i o) ws = (wipe σ ws).set i o := by
        intro ws
        induction ws with
        | nil => intro _; rfl
        | cons w ws ih =>
          intro hn
          have h1 : i ≠ w := fun z => hn (by rw [z]; exact List.mem_cons_self)
          have h2 : i ∉ ws := fun z => hn (List.mem_cons_of_mem _ z)
          unfold wipe
          rw [ih h2, List.set_comm _ _ h1]
      rw [key vs e, List.set_set]
theorem only_set {σ : St} {o : Option V} {i : Nat} : Only' [i] σ (σ.set i o) := fun vs h => wipe_set (h i (by simp))
def dgName (i : Nat) : DG := fun d env _ k => k (env.set i (some d))
theorem g_name (i : Nat) {x : Str} (hN : X.N.Nodup) (hi : X.N[i]? = some x := by rfl) (hx : Loc X.env.scope x := by first | exact Or.inl rfl | exact Or.inr rfl) (hf : X.fn x = true ∨ X.env.scope.names.lookup x = some .local := by first | exact .inl rfl | exact .inr rfl | assumption) : QG X (.Name x pos) [i] (dgName i) :=
  ⟨_, pg_name hN hi hx hf, fun v d σ H env L k Q st r h hk => hk _ _ h ⟨st.1.set r i, st.2⟩ only_set⟩
def dgNil : DGs := fun ds env _ k => match ds with
  | [] => k env
  | _ => False
def dgCons (dg : DG) (dgs : DGs) : DGs := fun ds env L k => match ds with
  | d :: r => dg d env L fun env' => dgs r env' L k
  | [] => False
theorem gs_nil : QGs X [] [] dgNil := ⟨_, pgs_nil, fun vs ds σ H env L k Q st r h hk => by
  cases r with
  | nil => exact ⟨rfl, hk _ _ h st fun _ _ => rfl⟩
  | cons _ _ => exact h.elim⟩
theorem gs_cons {dg : DG} {dgs : DGs} {sl sl' : List Nat} (h1 : QG X e sl dg) (h2 : QGs X es sl' dgs) (hs : (assignEach (e :: es) X.env).map (·.2) = assign e X.env :: (assignEach es X.env).map (·.2) := by rfl) : QGs X (e :: es) (sl ++ sl') (dgCons dg dgs) := by
  obtain ⟨g, pg, sg⟩ := h1.ex
  obtain ⟨gs, pgs, sgs⟩ := h2.ex
  refine ⟨_, pgs_cons pg pgs hs, fun vs ds σ H env L k Q st r h hk => ?_⟩
  cases r with
  | nil => exact h.elim
  | cons r1 r2 =>
    refine ⟨_, _, rfl, sg _ _ σ H env L _ _ st r1 h fun σ' env' h' st' o1 => ?_⟩
    exact sgs _ _ σ' H env' L _ _ st' r2 h' fun σ2 env2 h2 st2 o2 => hk σ2 env2 h2 st2 fun vs hv => (o2 vs fun i hi => hv i (List.mem_append_right _ hi)).trans (o1 vs fun i hi => hv i (List.mem_append_left _ hi))
def dgTup (n : Nat) (dgs : DGs) : DG := fun d env L k => match d with
  | .tup ds => ds.length = n ∧ dgs ds env L k
  | _ => False
theorem g_tup {kk : Nat} {dgs : DGs} {n : Nat} {sl : List Nat} (hc : X.calm = true) (h : QGs X es sl dgs) (hn : (assignEach es X.env).length = n := by rfl) (hst : (assignEach es X.env).findIdx? (·.1) = none := by rfl) : QG X (.Tuple es kk pos) sl (dgTup n dgs) := by
  obtain ⟨gs, pgs, sgs⟩ := h.ex
  refine ⟨_, pg_tup hc pgs hn hst, fun v d σ H env L k Q st r h hk => ?_⟩
  cases r <;> first | exact h.elim | skip
  rename_i s r
  exact ⟨_, _, rfl, s.sq, by rw [r.length]; exact h.1, sgs _ _ σ H env L k Q st r h.2 hk⟩

/-! ### statements -/
def dNext : DS := fun D env L => D.nx env L
def dSeq (t u : DS) : DS := fun D env L => t { D with nx := u D } env L
theorem ss_nil : QSs X Wx [] dNext := ⟨_, pss_nil, fun σ H env L D' D st h ok => ok.nx env L σ H h (Go.refl L H) st⟩
theorem sim_seq {K : PySem.W.Frag} {t u : TS} {dt du : DS} (s1 : SimS K Wx t dt) (s2 : SimS K Wx u du) : SimS K Wx (tSeq t u) (dSeq dt du) := by
  intro σ H env L D' D st h ok
  refine s1 σ H env L _ _ st h ⟨fun env' L' σ' H' h' g' st' => ?_, ok.rt, ok.ex, ok.bk, ok.ct⟩
  exact s2 σ' H' env' L' D' D st' h' (ok.go g')
theorem ss_cons {st : Stmt} {rest : List Stmt} {dt du : DS} (h1 : QS X Wx st dt) (h2 : QSs X Wx rest du) : QSs X Wx (st :: rest) (dSeq dt du) := by
  obtain ⟨t, pt, st1⟩ := h1.ex
  obtain ⟨u, pu, su⟩ := h2.ex
  exact ⟨_, pss_cons pt pu, sim_seq st1 su⟩
theorem ss_one {st : Stmt} {dt : DS} (h1 : QS X Wx st dt) : QSs X Wx [st] dt := by
  obtain ⟨t, pt, st1⟩ := h1.ex
  exact ⟨_, pss_one pt, st1⟩
/-- a word between a statement and what follows -/
def dCut (t u : DS) : DS := fun D env L => ∃ M : DEnv → Led → Prop, t { D with nx := M } env L ∧ ∀ env' L', M env' L' → u D env' L'
theorem ss_cut {st : Stmt} {rest : List Stmt} {dt du : DS} (h1 : QS X Wx st dt) (h2 : QSs X Wx rest du) : QSs X Wx (st :: rest) (dCut dt du) := by
  obtain ⟨t, pt, st1⟩ := h1.ex
  obtain ⟨u, pu, su⟩ := h2.ex
  refine ⟨_, pss_cons pt pu, fun σ H env L D' D st h ok => ?_⟩
  obtain ⟨M, hm, hu⟩ := h
  refine st1 σ H env L _ _ st hm ⟨fun env' L' σ' H' h' g' st' => ?_, ok.rt, ok.ex, ok.bk, ok.ct⟩
  exact su σ' H' env' L' D' D st' (hu env' L' h') (ok.go g')
def dAsg (de : DE) (dg : DG) : DS := fun D env L => de env L (fun d L1 => dg d env L1 fun env' => D.nx env' L1) D.ex
theorem sim_asg {te : TE} {g : TG} {dg : DG} {sl : List Nat} (se : SimE X.K Wx te de) (sg : SimG X.K sl g dg) : SimS X.K Wx (tAsg te g) (dAsg de dg) := by
  intro σ H env L D' D st h ok
  refine se σ H env L _ _ _ st h (fun d L1 v H1 h1 g1 j1 r1 => ?_) ok.ex
  exact sg v d σ H1 env L1 _ _ (st.go g1 j1) r1 h1 fun σ' env' h' st' _ => ok.nx env' L1 σ' H1 h' g1 st'
theorem s_set (i : Nat) {x : Str} {pos' : Pos} (hN : X.N.Nodup) (he : QE X Wx e de) (hi : X.N[i]? = some x := by rfl) (hx : Loc X.env.scope x := by first | exact Or.inl rfl | exact Or.inr rfl) (hs : swapsWith e (some (.Name x pos')) pos.line X.env = pure false := by rfl) (hf : X.fn x = true ∨ X.env.scope.names.lookup x = some .local := by first | exact .inl rfl | exact .inr rfl | assumption) :
    QS X Wx (.Assign [.Name x pos'] e pos) (dAsg de (dgName i)) := by
  obtain ⟨te, pe, se⟩ := he.ex
  exact ⟨_, ps_set hN hi hx pe hs hf, sim_asg (sl := [i]) se fun v d σ H env L k Q st r h hk => hk _ _ h ⟨st.1.set r i, st.2⟩ only_set⟩
theorem s_asg {tg : Expr} {dg : DG} {sl : List Nat} (he : QE X Wx e de) (hg : QG X tg sl dg) (hs : swapsWithSole [tg] e pos.line X.env = pure false := by rfl) (hw : swappedStores [tg] e X.env = pure none := by rfl) (h1 : (assignEach [tg] X.env).map (·.2) = [assign tg X.env] := by rfl) : QS X Wx (.Assign [tg] e pos) (dAsg de dg) := by
  obtain ⟨te, pe, se⟩ := he.ex
  obtain ⟨g, pg, sg⟩ := hg.ex
  exact ⟨_, ps_asg pe pg hs hw h1, sim_asg se sg⟩
/-- a, b = x, y -/
def dPar (i j : Nat) (dl : DA) : DS := fun D env L => dl env L (fun ds L1 => match ds with
  | [d, e] => D.nx ((env.set i (some d)).set j (some e)) L1
  | _ => False) D.ex
theorem s_par (i j : Nat) {x y : Str} {px py pt : Pos} {kt k2 pt2} (hc : X.calm = true) (hN : X.N.Nodup) (ha : QA X Wx [a, b] dl) (hi : X.N[i]? = some x := by rfl) (hj : X.N[j]? = some y := by rfl) (hij : i ≠ j := by decide)
    (hx : X.env.scope.names.lookup x = some .local := by rfl) (hy : X.env.scope.names.lookup y = some .local := by rfl)
    (hw : swappedStores [.Tuple [.Name x px, .Name y py] kt pt] (.Tuple [a, b] k2 pt2) X.env = pure (some [x, y]) := by rfl)
    (hs : swapsWithSole [.Tuple [.Name x px, .Name y py] kt pt] (.Tuple [a, b] k2 pt2) pos.line X.env = pure false := by rfl) :
    QS X Wx (.Assign [.Tuple [.Name x px, .Name y py] kt pt] (.Tuple [a, b] k2 pt2) pos) (dPar i j dl) := by
  obtain ⟨ta, pa, sa⟩ := ha.ex
  refine ⟨_, ps_par hc hN hi hj hij hx hy pa hw hs, fun σ H env L D' D st h ok => ?_⟩
  refine sa σ H env L _ _ _ st h (fun ds L1 vs H1 h1 g1 j1 r1 => ?_) ok.ex
  split at h1
  · rename_i d e
    cases r1 with
    | cons r1 r2 => cases r2 with
      | cons r2 r3 => cases r3 with
        | nil => exact ⟨_, _, rfl, ok.nx _ L1 _ H1 h1 g1 ⟨((st.1.go g1).set r1 i).set r2 j, j1⟩⟩
  · exact h1.elim
def dDrop (de : DE) : DS := fun D env L => de env L (fun _ L1 => D.nx env L1) D.ex
theorem s_expr (he : QE X Wx e de) (hs : swapsWith e none pos.line X.env = pure false := by rfl) : QS X Wx (.Expr e pos) (dDrop de) := by
  obtain ⟨te, pe, se⟩ := he.ex
  refine ⟨_, ps_expr pe hs, fun σ H env L D' D st h ok => ?_⟩
  exact se σ H env L _ _ _ st h (fun d L1 v H1 h1 g1 j1 r1 => ok.nx env L1 σ H1 h1 g1 (st.go g1 j1)) ok.ex
def dRet (de : DE) : DS := fun D env L => de env L D.rt D.ex
theorem s_ret (he : QE X Wx e de) : QS X Wx (.Return (some e) pos) (dRet de) := by
  obtain ⟨te, pe, se⟩ := he.ex
  exact ⟨_, ps_ret pe, fun σ H env L D' D st h ok => se σ H env L _ _ _ st h ok.rt ok.ex⟩
def dRetN : DS := fun D _ L => D.rt .non L
theorem s_retN : QS X Wx (.Return none pos) dRetN := ⟨_, ps_retN, fun σ H env L D' D st h ok => ok.rt .non L .non H h (Go.refl L H) st.2 .non⟩
def dIfS (dt : DT) (t u : DS) : DS := fun D env L => dt env L (fun b L1 => match b with
  | true => t D env L1
  | false => u D env L1) D.ex
theorem s_if {as bs : List Stmt} {t u : DS} (hc : QT X Wx c dt) (ha : QSs X Wx as t) (hb : QSs X Wx bs u) : QS X Wx (.If c as bs pos) (dIfS dt t u) := by
  obtain ⟨tc, pc, sc⟩ := hc.ex
  obtain ⟨ta, pa, sa⟩ := ha.ex
  obtain ⟨tb, pb, sb⟩ := hb.ex
  refine ⟨_, ps_if pc pa pb, fun σ H env L D' D st h ok => ?_⟩
  refine sc σ H env L _ _ _ st h (fun b L1 H1 h1 g1 j1 => ?_) ok.ex
  cases b with
  | true => exact iteT (sa σ H1 env L1 D' D (st.go g1 j1) h1 (ok.go g1))
  | false => exact iteF (sb σ H1 env L1 D' D (st.go g1 j1) h1 (ok.go g1))
theorem s_pass : QS X Wx (.Pass pos) dNext := ⟨_, ps_pass, fun σ H env L D' D st h ok => ok.nx env L σ H h (Go.refl L H) st⟩
def dBrk : DS := fun D env L => D.bk env L
theorem s_brk : QS X Wx (.Break pos) dBrk := ⟨_, ps_break, fun σ H env L D' D st h ok => ok.bk env L σ H h (Go.refl L H) st⟩
def dCnt : DS := fun D env L => D.ct env L
theorem s_cnt : QS X Wx (.Continue pos) dCnt := ⟨_, ps_continue, fun σ H env L D' D st h ok => ok.ct env L σ H h (Go.refl L H) st⟩
/-! ### for -/
abbrev DI := DEnv → Led → (List D → Led → Prop) → DX → Prop
def ItD (K : PySem.W.Frag) (L : Led) (H : Hp) (J : It) (ds : List D) : Prop := ∀ L' H', Go L L' H H' → JL K L' H' → ∀ i, (∀ d, ds[i]? = some d → J.go i H' ∧ ∀ x H'', J.yld i H' x H'' → Same H' H'' ∧ Rp L' K H'' x d) ∧ (ds.length ≤ i → J.stop i H')
structure QI (X : Cx) (Wx : WX) (tg iter : Expr) (di : DI) : Prop where
  ex : ∃ wi, PI X tg iter wi ∧ ∀ σ H env L k x R, StL X.K σ H env L → di env L k x → (∀ ds L' J H', k ds L' → Go L L' H H' → JL X.K L' H' → ItD X.K L' H' J ds → R J H') → XOk X.K Wx L H x → wi σ H R
@[irreducible] def forD (dg : DG) (db : DS) (En : DEnds) : List D → DEnv → Led → Prop
  | [], env, L => En.nx env L
  | d :: ds, env, L => dg d env L fun env1 => db { En with nx := forD dg db En ds, ct := forD dg db En ds, bk := En.nx } env1 L
theorem forD_nil {dg : DG} {db : DS} {En : DEnds} {env : DEnv} {L : Led} : forD dg db En [] env L = En.nx env L := by with_unfolding_all rfl
theorem forD_cons {dg : DG} {db : DS} {En : DEnds} {d : D} {ds : List D} {env : DEnv} {L : Led} : forD dg db En (d :: ds) env L = dg d env L fun env1 => db { En with nx := forD dg db En ds, ct := forD dg db En ds, bk := En.nx } env1 L := by with_unfolding_all rfl
def dFor (di : DI) (dg : DG) (db : DS) : DS := fun D env L => di env L (fun ds L1 => forD dg db D ds env L1) D.ex
theorem s_for {tg iter : Expr} {body : List Stmt} {di : DI} {dg : DG} {db : DS} {sl : List Nat} (hp : PassesOwn (model X.prog X.w) X.A X.env X.xe) (hc : X.calm = true) (hi : QI X Wx tg iter di) (hg : QG X tg sl dg) (hb : QSs X Wx body db)
    (hs : ∀ x, foldedSetIterable iter X.env x = pure x := by intro _; rfl) : QS X Wx (.For tg iter body [] pos) (dFor di dg db) := by
  obtain ⟨wi, pi, si⟩ := hi.ex
  obtain ⟨g, pg, sg⟩ := hg.ex
  obtain ⟨tb, pb, sb⟩ := hb.ex
  refine ⟨_, ps_for hp hc pi pg pb hs, fun σ H env L D' D st h ok => ?_⟩
  refine si σ H env L _ _ _ st h (fun ds L1 J H1 h1 g1 j1 it => ?_) ok.ex
  refine ⟨fun i m σ' H' => m = ds.length - i ∧ i ≤ ds.length ∧ ∃ env' L', StL X.K σ' H' env' L' ∧ Go L1 L' H1 H' ∧ forD dg db D' (ds.drop i) env' L', ⟨ds.length, by omega, by omega, env, L1, st.go g1 j1, Go.refl L1 H1, h1⟩, ?_⟩
  rintro i m σ2 H2 ⟨rfl, hi, env2, L2, st2, g2, h2⟩
  obtain ⟨i1, i2⟩ := it L2 H2 g2 st2.2 i
  by_cases hlt : i < ds.length
  · have e : ds[i]? = some ds[i] := List.getElem?_eq_getElem hlt
    obtain ⟨go, yl⟩ := i1 _ e
    rw [List.drop_eq_getElem_cons hlt, forD_cons] at h2
    refine .inr ⟨go, fun σ' H' => ∃ env' L', StL X.K σ' H' env' L' ∧ Go L1 L' H1 H' ∧ forD dg db D' (ds.drop (i + 1)) env' L', fun σ' H' n => ⟨ds.length - (i + 1), by omega, rfl, hlt, n⟩, fun x H' y => ?_⟩
    obtain ⟨s, rx⟩ := yl x H' y
    have g3 : Go L2 L2 H2 H' := Go.same s
    refine sg x _ σ2 H' env2 L2 _ _ (st2.go g3 (st2.2.same s)) rx h2 fun σ3 env3 h3 st3 _ => ?_
    have g4 : Go L1 L2 H1 H' := g2.trans g3
    refine sb σ3 H' env3 L2 _ _ st3 h3 ⟨fun env' L' σ' H'' q g' st' => ⟨env', L', st', g4.trans g', q⟩, (ok.go (g1.trans g4)).rt, (ok.go (g1.trans g4)).ex, (ok.go (g1.trans g4)).nx, fun env' L' σ' H'' q g' st' => ⟨env', L', st', g4.trans g', q⟩⟩
  · have e : i = ds.length := by omega
    subst e
    rw [List.drop_length, forD_nil] at h2
    exact .inl ⟨i2 (Nat.le_refl _), ok.nx env2 L2 σ2 H2 h2 (g1.trans g2) st2⟩
/-- for x in range(n), range(a, b) -/
def rngD (lo : Int) : Nat → List D
  | 0 => []
  | n + 1 => .int lo :: rngD (lo + 1) n
theorem rngD_len : ∀ (n : Nat) (lo : Int), (rngD lo n).length = n
  | 0, _ => rfl
  | n + 1, lo => by show (rngD (lo + 1) n).length + 1 = n + 1; rw [rngD_len n]
theorem rngD_get : ∀ (n : Nat) (lo : Int) (i : Nat) (d : D), (rngD lo n)[i]? = some d → i < n ∧ d = .int (lo + i)
  | 0, _, _, _, h => by simp [rngD] at h
  | n + 1, lo, 0, d, h => by
    simp [rngD] at h
    exact ⟨by omega, by rw [← h]; simp⟩
  | n + 1, lo, i + 1, d, h => by
    obtain ⟨h1, h2⟩ := rngD_get n (lo + 1) i d (by simpa [rngD] using h)
    refine ⟨by omega, ?_⟩
    rw [h2]
    congr 1
    omega
theorem it_rng {K : PySem.W.Frag} {L : Led} {H : Hp} {lo : Int} {n : Nat} : ItD K L H (Itr lo n) (rngD lo n) := fun L' H' g j i => by
  refine ⟨fun d hd => ?_, fun h => ?_⟩
  · obtain ⟨h1, h2⟩ := rngD_get n lo i d hd
    subst h2
    exact ⟨h1, fun x H'' y => by
      obtain ⟨e1, e2⟩ := y
      subst e1 e2
      exact ⟨Same.refl _, .int _⟩⟩
  · rw [rngD_len] at h
    exact h
def diRange (dl : DA) : DI := fun env L k x => dl env L (fun ds L1 => match ds with
  | [.int n] => (-(2 ^ 62) ≤ n ∧ n < 2 ^ 62) ∧ k (rngD 0 n.toNat) L1
  | _ => False) x
theorem i_range1 {tg : Expr} {p : Pos} (hg : Gl X "range") (hm : X.mg "range" = none) (ha : QA X Wx [e] dl) (hs : starEach [e] X.env = [(false, eval e X.env)] := by rfl) : QI X Wx tg (.Call (.Name "range" p) [e] [] pos) (diRange dl) := by
  obtain ⟨ta, pa, sa⟩ := ha.ex
  refine ⟨_, pi_range1 hg hm pa hs, fun σ H env L k x R st h hk hx => ?_⟩
  refine sa σ H env L _ _ _ st h (fun ds L1 vs H1 h1 g1 j1 r1 => ?_) hx
  split at h1
  · rename_i n
    obtain ⟨⟨q1, q2⟩, h1⟩ := h1
    cases r1 with
    | cons r1 r2 =>
      cases r2
      cases r1
      exact ⟨n, rfl, q1, q2, hk _ L1 _ H1 h1 g1 j1 it_rng⟩
  · exact h1.elim
def diRange2 (dl : DA) : DI := fun env L k x => dl env L (fun ds L1 => match ds with
  | [.int a, .int b] => (-(2 ^ 62) ≤ a ∧ a < 2 ^ 62 ∧ -(2 ^ 62) ≤ b ∧ b < 2 ^ 62) ∧ k (rngD a (b - a).toNat) L1
  | _ => False) x
theorem i_range2 {tg e2 : Expr} {p : Pos} (hg : Gl X "range") (hm : X.mg "range" = none) (ha : QA X Wx [e, e2] dl) (hs : starEach [e, e2] X.env = [(false, eval e X.env), (false, eval e2 X.env)] := by rfl) (hs2 : starEach [e2] X.env = [(false, eval e2 X.env)] := by rfl) : QI X Wx tg (.Call (.Name "range" p) [e, e2] [] pos) (diRange2 dl) := by
  obtain ⟨ta, pa, sa⟩ := ha.ex
  refine ⟨_, pi_range2 hg hm pa hs hs2, fun σ H env L k x R st h hk hx => ?_⟩
  refine sa σ H env L _ _ _ st h (fun ds L1 vs H1 h1 g1 j1 r1 => ?_) hx
  split at h1
  · rename_i a b
    obtain ⟨q1, h1⟩ := h1
    cases r1 with
    | cons r1 r2 =>
      cases r2 with
      | cons r2 r3 =>
      cases r3
      cases r1
      cases r2
      exact ⟨a, b, rfl, q1, hk _ L1 _ H1 h1 g1 j1 it_rng⟩
  · exact h1.elim
/-- over a list or a tuple that stands -/
def diSeq (da : DE) : DI := fun env L k x => da env L (fun d L1 => match d with
  | .lst ds => k ds L1
  | .tup ds => k ds L1
  | .ro ds => k ds L1
  | _ => False) x
theorem it_list {K : PySem.W.Frag} {L : Led} {H : Hp} {a : Addr} {vs : List V} {ds : List D} (h : SqL' L K H a vs) (r : RpAll L K H vs ds) : ItD K L H (Itl K a) ds := fun L' H' g j i => by
  have h' := (g.sqL h).sq
  have r' := r.go g
  refine ⟨fun d hd => ?_, fun hi => ⟨vs, h', by rw [r.length]; exact hi⟩⟩
  obtain ⟨v, hv, rv⟩ := r'.get hd
  exact ⟨⟨vs, v, h', hv⟩, fun x H'' y => by
    obtain ⟨e1, e2⟩ := y
    subst e1
    have e3 := e2 vs h'
    rw [hv] at e3
    cases e3
    exact ⟨Same.refl _, rv⟩⟩
theorem it_tup {K : PySem.W.Frag} {L : Led} {H : Hp} {a : Addr} {vs : List V} {ds : List D} (h : SqT' L K H a vs) (r : RpAll L K H vs ds) : ItD K L H (Itt K a) ds := fun L' H' g j i => by
  have h' := (g.sqT h).sq
  have r' := r.go g
  refine ⟨fun d hd => ?_, fun hi => ⟨vs, h', by rw [r.length]; exact hi⟩⟩
  obtain ⟨v, hv, rv⟩ := r'.get hd
  exact ⟨⟨vs, v, h', hv⟩, fun x H'' y => by
    obtain ⟨e1, e2⟩ := y
    subst e1
    have e3 := e2 vs h'
    rw [hv] at e3
    cases e3
    exact ⟨Same.refl _, rv⟩⟩
def diL (da : DE) : DI := fun env L k x => da env L (fun d L1 => match d with
  | .lst ds => k ds L1
  | .ro ds => k ds L1
  | _ => False) x
def diT (da : DE) : DI := fun env L k x => da env L (fun d L1 => match d with
  | .tup ds => k ds L1
  | _ => False) x
theorem i_list {tg : Expr} (ha : QE X Wx e da) : QI X Wx tg e (diL da) := by
  obtain ⟨ta, pa, sa⟩ := ha.ex
  refine ⟨_, pi_list pa, fun σ H env L k x R st h hk hx => ?_⟩
  refine sa σ H env L _ _ _ st h (fun d L1 v H1 h1 g1 j1 r1 => ?_) hx
  cases r1 <;> first | exact h1.elim | skip
  · rename_i n s r
    exact ⟨_, rfl, ⟨_, SqL.of s⟩, hk _ L1 _ H1 h1 g1 j1 (it_list (.inl ⟨n, .inl s⟩) r)⟩
  · rename_i s r
    exact ⟨_, rfl, ⟨_, s.sq⟩, hk _ L1 _ H1 h1 g1 j1 (it_list s r)⟩
theorem i_tup {tg : Expr} (ha : QE X Wx e da) : QI X Wx tg e (diT da) := by
  obtain ⟨ta, pa, sa⟩ := ha.ex
  refine ⟨_, pi_tup pa, fun σ H env L k x R st h hk hx => ?_⟩
  refine sa σ H env L _ _ _ st h (fun d L1 v H1 h1 g1 j1 r1 => ?_) hx
  cases r1 <;> first | exact h1.elim | skip
  rename_i s r
  exact ⟨_, rfl, ⟨_, s.sq⟩, hk _ L1 _ H1 h1 g1 j1 (it_tup s r)⟩
/-! ### while -/
@[irreducible] def whD (dt : DT) (db : DS) (En : DEnds) : Nat → DEnv → Led → Prop
  | 0, _, _ => False
  | n + 1, env, L => dt env L (fun b L1 => match b with
    | true => db { En with nx := whD dt db En n, ct := whD dt db En n, bk := En.nx } env L1
    | false => En.nx env L1) En.ex
theorem whD_zero {dt : DT} {db : DS} {En : DEnds} {env : DEnv} {L : Led} : whD dt db En 0 env L = False := by with_unfolding_all rfl
theorem whD_succ {dt : DT} {db : DS} {En : DEnds} {n : Nat} {env : DEnv} {L : Led} : whD dt db En (n + 1) env L = dt env L (fun b L1 => match b with
    | true => db { En with nx := whD dt db En n, ct := whD dt db En n, bk := En.nx } env L1
    | false => En.nx env L1) En.ex := by with_unfolding_all rfl
def dWhile (dt : DT) (db : DS) : DS := fun En env L => ∃ n, whD dt db En n env L
theorem s_while {body : List Stmt} {db : DS} (hp : PassesOwn (model X.prog X.w) X.A X.env X.xe) (hc : QT X Wx c dt) (hb : QSs X Wx body db) : QS X Wx (.While c body [] pos) (dWhile dt db) := by
  obtain ⟨tc, pc, sc⟩ := hc.ex
  obtain ⟨tb, pb, sb⟩ := hb.ex
  refine ⟨_, ps_while hp pc pb, fun σ H env L D' D st h ok => ?_⟩
  obtain ⟨n, h⟩ := h
  refine ⟨fun m σ' H' => ∃ env' L', StL X.K σ' H' env' L' ∧ Go L L' H H' ∧ whD dt db D' m env' L', ⟨n, env, L, st, Go.refl L H, h⟩, ?_⟩
  rintro m σ2 H2 ⟨env2, L2, st2, g2, h2⟩
  cases m with
  | zero => rw [whD_zero] at h2; exact h2.elim
  | succ m =>
    rw [whD_succ] at h2
    refine sc σ2 H2 env2 L2 _ _ _ st2 h2 (fun b L3 H3 h3 g3 j3 => ?_) (ok.ex.go g2)
    have g4 := g2.trans g3
    cases b with
    | true =>
      refine iteT ⟨fun σ' H' => ∃ env' L', StL X.K σ' H' env' L' ∧ Go L L' H H' ∧ whD dt db D' m env' L', fun σ' H' q => ⟨m, Nat.lt_succ_self m, q⟩, ?_⟩
      exact sb σ2 H3 env2 L3 _ _ (st2.go g3 j3) h3 ⟨fun env' L' σ' H' q g' st' => ⟨env', L', st', g4.trans g', q⟩, (ok.go g4).rt, (ok.go g4).ex, (ok.go g4).nx, fun env' L' σ' H' q g' st' => ⟨env', L', st', g4.trans g', q⟩⟩
    | false => exact iteF (ok.nx env2 L3 σ2 H3 h3 g4 (st2.go g3 j3))
end
/-! ### a def by its body -/
section
open PySem.Spec PyProof.Rows
variable {P : Program} {w : World} {K : PySem.W.Frag} {mg : Str → Option Value} {base : Heap}
def endsD (k : DK) (x : Exn → Led → Prop) : DEnds := { nx := fun _ L => k .non L, rt := k, ex := fun n _ L => x n L, bk := fun _ _ => False, ct := fun _ _ => False }
def startD (N : List Str) (ds : List D) : DEnv := ds.map some ++ List.replicate (N.length - ds.length) none
abbrev wxOf (E : XK) : WX := fun cls d _ H => E cls d H
theorem fn_ok {x qual : Str} {st : Stmt} {f : Addr} {fd : FuncData} {N ps : List Str} {k : Nat} {g : DSp} (F : Fun K x qual st f fd) (S : FnScope N ps (defScope st)) (len : ∀ ds L k x, g ds L k x → ds.length = ps.length)
    (body : ∀ (cdv : Value) (A : Around) (outer : List Env) (s : Shared) (H : Hp) (E : XK), Room k (A.deeper (envOfC qual (defScope st) s.heap.objs.size f cdv)) →
      ∃ t, QSs (cxOf (L2.CX P w) P w K mg base N qual (defScope st) f cdv A outer s H E) (wxOf E) (defBody st) t ∧ ∀ ds L k x, g ds L k x → t (endsD k x) (startD N ds) L) : FnOk P w K mg base (L2.CX P w) (k + 1) f fd ps (spD K g) := by
  refine F.okX S (fun vs H Q E h => ?_) (fun cdv A outer s H vs Q E hr h => ?_)
  · obtain ⟨ds, L, k, x, j, r, h, _⟩ := h
    rw [r.length]
    exact len ds L k x h
  · obtain ⟨ds, L, k, x, j, r, h, hk, hx⟩ := h
    obtain ⟨t, q, ht⟩ := body cdv A outer s H E hr
    obtain ⟨ts, pts, sts⟩ := q.ex
    refine ⟨ts, pts, sts _ H (startD N ds) L (endsD k x) _ ⟨?_, j⟩ (ht ds L k x h) ?_⟩
    · unfold L2.start startD
      rw [r.length]
      exact Sto.start r
    · exact ⟨fun env' L' σ' H' q g' st' => hk .non L' .non H' q g' st'.2 .non, hk, fun n env' L' a H' σ' q g' st' r' => hx n L' a H' q g' st'.2 r', fun _ _ _ _ q => q.elim, fun _ _ _ _ q => q.elim⟩
end
end DL

namespace DL
open PySem L2
/-! ### the ledger changed -/
def setL (L : Led) (p : Addr) (d : D) : Led := L.map fun q => if q.1 = p then (p, d) else q
def remL (L : Led) (p : Addr) : Led := L.filter fun q => decide (q.1 ≠ p)
theorem setL_keys (L : Led) (p : Addr) (d : D) : (setL L p d).map (·.1) = L.map (·.1) := by
  unfold setL
  rw [List.map_map]
  refine List.map_congr_left fun q _ => ?_
  show (if q.1 = p then (p, d) else q).1 = q.1
  split
  · rename_i h; exact h.symm
  · rfl
theorem inL_setL {L : Led} {p a : Addr} {d : D} : inL (setL L p d) a ↔ inL L a := by unfold inL; rw [setL_keys]
theorem setL_out {L : Led} {p : Addr} {d : D} (h : ¬ inL L p) : setL L p d = L := by
  unfold setL
  have : ∀ q ∈ L, (if q.1 = p then (p, d) else q) = id q := fun q hq => by
    rw [if_neg fun e => h (List.mem_map.mpr ⟨q, hq, e⟩)]; rfl
  rw [List.map_congr_left this, List.map_id]
theorem setL_top {L : Led} {p : Addr} {c d : D} (h : ¬ inL L p) : setL ((p, c) :: L) p d = (p, d) :: L := by
  show (if p = p then (p, d) else (p, c)) :: setL L p d = _
  rw [if_pos rfl, setL_out h]
theorem setL_ne {L : Led} {p q : Addr} {c d : D} (h : q ≠ p) : setL ((q, c) :: L) p d = (q, c) :: setL L p d := by
  show (if q = p then (p, d) else (q, c)) :: setL L p d = _
  rw [if_neg h]
theorem remL_out {L : Led} {p : Addr} (h : ¬ inL L p) : remL L p = L := by
  unfold remL
  refine List.filter_eq_self.mpr fun q hq => decide_eq_true fun e => h (List.mem_map.mpr ⟨q, hq, e⟩)
theorem remL_top {L : Led} {p : Addr} {c : D} (h : ¬ inL L p) : remL ((p, c) :: L) p = L := by
  unfold remL
  rw [List.filter_cons, if_neg (by simp)]
  exact remL_out h
theorem inL_remL {L : Led} {p a : Addr} : inL (remL L p) a ↔ inL L a ∧ a ≠ p := by
  unfold inL remL
  constructor
  · intro h
    obtain ⟨q, hq, e⟩ := List.mem_map.mp h
    obtain ⟨h1, h2⟩ := List.mem_filter.mp hq
    subst e
    exact ⟨List.mem_map.mpr ⟨q, h1, rfl⟩, of_decide_eq_true h2⟩
  · rintro ⟨h, hn⟩
    obtain ⟨q, hq, e⟩ := List.mem_map.mp h
    subst e
    exact List.mem_map.mpr ⟨q, List.mem_filter.mpr ⟨hq, decide_eq_true hn⟩, rfl⟩
theorem lookup_top {L : Led} {p : Addr} {c : D} : List.lookup p ((p, c) :: L) = some c := List.lookup_cons_self
theorem lookup_ne {L : Led} {p q : Addr} {c : D} (h : p ≠ q) : List.lookup p ((q, c) :: L) = List.lookup p L := by
  have e : (p == q) = false := by simpa using h
  rw [List.lookup_cons, e]
theorem inL_of_lookup {L : Led} {p : Addr} {c : D} (h : L.lookup p = some c) : inL L p := List.mem_map.mpr ⟨_, mem_of_lookup h, rfl⟩
theorem inL_cons {L : Led} {p a : Addr} {c : D} : inL ((p, c) :: L) a ↔ a = p ∨ inL L a := by unfold inL; simp
section
variable {L L' : Led} {K : PySem.W.Frag} {H H' : Hp} {a p : Addr} {d : D} {o : HO}
theorem go_set (h : inL L p) : Go L (setL L p d) H (upd H p o) := fun a u n e => by
  have ne : a ≠ p := fun z => n (z ▸ h)
  exact ⟨fun m => n (inL_setL.mp m), by rw [upd_ne ne]; exact e⟩
theorem JL.put (j : JL K L H) (h : inL L p) (ow : Own (setL L p d) K (upd H p o) p d) : JL K (setL L p d) (upd H p o) := by
  refine ⟨by rw [setL_keys]; exact j.nd, fun a e m => ?_⟩
  obtain ⟨q, hq, eq⟩ := List.mem_map.mp m
  by_cases hp : q.1 = p
  · rw [if_pos hp] at eq
    cases eq
    exact ow
  · rw [if_neg hp] at eq
    subst eq
    exact Own.move (j.own _ _ hq) (go_set h) fun u e => by rw [upd_ne hp]; exact e
theorem go_rem : Go L (remL L p) H H := fun a u n e => ⟨fun m => n (inL_remL.mp m).1, e⟩
theorem JL.rem (j : JL K L H) : JL K (remL L p) H := by
  refine ⟨?_, fun a e m => ?_⟩
  · have : ((remL L p).map (·.1)).Sublist (L.map (·.1)) := (List.filter_sublist).map _
    exact j.nd.sublist this
  · exact Own.move (j.own _ _ (List.mem_filter.mp m).1) go_rem fun u e => e
end
section
variable {X : Cx} {Wx : WX} {a b c e o : Expr} {es rest : List Expr} {da db dc de do' di : DE} {dt du : DT} {dl dk : DA} {pos : Pos}
/-! ### weaker readings -/
theorem QE.w (h : QE X Wx e de) {de' : DE} (hw : ∀ env L k x, de' env L k x → de env L k x) : QE X Wx e de' := by
  obtain ⟨te, pe, se⟩ := h.ex
  exact ⟨te, pe, fun σ H env L k x Q st h hk hx => se σ H env L k x Q st (hw env L k x h) hk hx⟩
/-- the reading by data, as a reading of the layer -/
def teOf (K : PySem.W.Frag) (Wx : WX) (de : DE) : TE := fun σ H Q => ∃ env L k x, StL K σ H env L ∧ de env L k x ∧ KOk K L H k Q ∧ XOk K Wx L H x
theorem QE.pe (h : QE X Wx e de) : PE X e (teOf X.K Wx de) := by
  obtain ⟨te, pe, se⟩ := h.ex
  refine ⟨fun pins s σ H Q I hw => ?_⟩
  obtain ⟨env, L, k, x, st, h, hk, hx⟩ := hw
  exact pe.run pins s σ H Q I (se σ H env L k x Q st h hk hx)
def ttOf (K : PySem.W.Frag) (Wx : WX) (dt : DT) : TT := fun σ H Q => ∃ env L k x, StL K σ H env L ∧ dt env L k x ∧ (∀ b L' H', k b L' → Go L L' H H' → JL K L' H' → Q b H') ∧ XOk K Wx L H x
theorem QT.pt (h : QT X Wx e dt) : PT X e (ttOf X.K Wx dt) := by
  obtain ⟨te, pe, se⟩ := h.ex
  refine ⟨fun pins s σ H Q I hw => ?_⟩
  obtain ⟨env, L, k, x, st, h, hk, hx⟩ := hw
  exact pe.run pins s σ H Q I (se σ H env L k x Q st h hk hx)
def tgOf (K : PySem.W.Frag) (sl : List Nat) (dg : DG) : TG := fun v σ H Q => ∃ d env L k, StL K σ H env L ∧ Rp L K H v d ∧ dg d env L k ∧ ∀ σ' env', k env' → StL K σ' H env' L → Only' sl σ σ' → Q σ' H
theorem QG.pg {tg : Expr} {sl : List Nat} {dg : DG} (h : QG X tg sl dg) : PG X tg (tgOf X.K sl dg) := by
  obtain ⟨g, pg, sg⟩ := h.ex
  refine ⟨fun pins s σ H v u Q I r hw => ?_⟩
  obtain ⟨d, env, L, k, st, rd, h, hk⟩ := hw
  exact pg.run pins s σ H v u Q I r (sg v d σ H env L k Q st rd h hk)
/-! ### o[i] = v of a list of the ledger -/
def dStore (de do' di : DE) : DS := fun D env L => de env L (fun v L1 => do' env L1 (fun o L2 => di env L2 (fun i L3 => match o, i with
  | .ptr p, .int z => match L3.lookup p with
    | some (.lst ds) => match ixN ds.length z with
      | some j => D.nx env (setL L3 p (.lst (ds.set j v)))
      | none => False
    | _ => False
  | _, _ => False) D.ex) D.ex) D.ex
theorem s_store {i : Expr} {ip : Pos} (he : QE X Wx e de) (ho : QE X Wx o do') (hi : QE X Wx i di) (hix : ∀ h0 : PE X o (teOf X.K Wx do'), ∀ h1 : PE X i (teOf X.K Wx di), PG X (.Subscript o i ip) (L2.gSub (teOf X.K Wx do') (teOf X.K Wx di) rSetL) := by exact fun h0 h1 => pg_sub h0 h1 set_list)
    (hs : swapsWithSole [.Subscript o i ip] e pos.line X.env = pure false := by rfl) (hw : swappedStores [.Subscript o i ip] e X.env = pure none := by rfl) (h1 : (assignEach [.Subscript o i ip] X.env).map (·.2) = [assign (.Subscript o i ip) X.env] := by rfl) : QS X Wx (.Assign [.Subscript o i ip] e pos) (dStore de do' di) := by
  obtain ⟨te, pe, se⟩ := he.ex
  refine ⟨_, ps_asg pe (hix ho.pe hi.pe) hs hw h1, fun σ H env L D' D st h ok => ?_⟩
  refine se σ H env L _ _ _ st h (fun v L1 vv H1 h1 g1 j1 r1 => ?_) ok.ex
  refine ⟨env, L1, _, D'.ex, st.go g1 j1, h1, fun o L2 vo H2 h2 g2 j2 r2 => ?_, ok.ex.go g1⟩
  refine ⟨env, L2, _, D'.ex, (st.go g1 j1).go g2 j2, h2, fun i L3 vi H3 h3 g3 j3 r3 => ?_, (ok.ex.go g1).go g2⟩
  have r2 := r2.go g3
  have r1 := (r1.go g2).go g3
  dsimp only at h3 ⊢
  split at h3
  · cases r2 with
    | ptr p =>
    cases r3 with
    | int z =>
    split at h3
    · rename_i ds hl
      split at h3
      · rename_i j hj
        obtain ⟨vs, e1, rv⟩ := j3.look hl
        have hp := inL_of_lookup hl
        refine ⟨_, vs, _, j, rfl, rfl, e1, by rw [rv.length]; exact hj, ?_⟩
        have g4 : Go L3 (setL L3 _ (.lst (ds.set j v))) H3 (upd H3 _ (.lst (vs.set j vv))) := go_set hp
        have j4 : JL X.K (setL L3 _ (.lst (ds.set j v))) (upd H3 _ (.lst (vs.set j vv))) := j3.put hp ⟨_, upd_same, (rv.go g4).set (r1.go g4) j⟩
        exact ok.nx env _ σ _ h3 (((g1.trans g2).trans g3).trans g4) (st.go (((g1.trans g2).trans g3).trans g4) j4)
      · exact h3.elim
    · exact h3.elim
  · exact h3.elim
end
end DL

namespace DL
open PySem L2
section
variable {X : Cx} {Wx : WX} {a b c e o : Expr} {es rest : List Expr} {da db dc de do' di : DE} {dt du : DT} {dl dk : DA} {pos : Pos}
/-! ### len, abs, int, str, list, all, any, gcd, max, min -/
def lenD (L : Led) (d : D) : Option Nat := match seqs (con L d) with
  | some ds => some ds.length
  | none => none
def gLen : GC := fun ds L k => match ds with
  | [.str z] => z.length ≤ sizeLine ∧ k (.int z.length)
  | [d] => match lenD L d with
    | some n => k (.int n)
    | none => False
  | _ => False
theorem cq_len : CQ X (.builtin "len") gLen := ⟨_, call_len, fun H L vs ds k Q j r h hk => by
  unfold gLen at h
  split at h
  · cases r with
    | cons r1 r2 =>
      cases r2
      cases r1
      exact ⟨_, _, rfl, ⟨h.1, rfl⟩, hk _ _ H h.2 (Same.refl H) (.int _)⟩
  · rename_i d _
    cases r with
    | cons r1 r2 =>
      cases r2
      split at h
      · rename_i n hn
        unfold lenD at hn
        split at hn
        · rename_i ds' hd
          cases hn
          obtain ⟨a, vs, rfl, hs, rv⟩ := con_seq j r1 hd
          refine ⟨_, ds'.length, rfl, ?_, hk _ _ H h (Same.refl H) (.int _)⟩
          rcases hs with hs | hs
          · exact .inl ⟨vs, hs, rv.length.symm⟩
          · exact .inr ⟨vs, hs, rv.length.symm⟩
        · cases hn
      · exact h.elim
  · exact h.elim⟩
def gAbs : GC := fun ds _ k => match ds with
  | [.int i] => k (.int (if i < 0 then -i else i))
  | _ => False
theorem cq_abs : CQ X (.builtin "abs") gAbs := ⟨_, call_abs, fun H L vs ds k Q j r h hk => by
  unfold gAbs at h
  split at h
  · cases r with
    | cons r1 r2 =>
      cases r2
      cases r1
      exact ⟨_, rfl, hk _ _ H h (Same.refl H) (.int _)⟩
  · exact h.elim⟩
def gInt : GC := fun ds _ k => match ds with
  | [.int i] => k (.int i)
  | [.bl b] => k (.int (if b then 1 else 0))
  | _ => False
theorem cq_int : CQ X (.type "int") gInt := ⟨_, call_int1, fun H L vs ds k Q j r h hk => by
  unfold gInt at h
  split at h
  · cases r with
    | cons r1 r2 =>
      cases r2
      cases r1
      exact .inl ⟨_, rfl, hk _ _ H h (Same.refl H) (.int _)⟩
  · cases r with
    | cons r1 r2 =>
      cases r2
      cases r1
      exact .inr ⟨_, rfl, hk _ _ H h (Same.refl H) (.int _)⟩
  · exact h.elim⟩
def gStr : GC := fun ds _ k => match ds with
  | [.int i] => i.natAbs.log2 < 1920 ∧ k (.str (toString i))
  | _ => False
theorem cq_str : CQ X (.type "str") gStr := ⟨_, call_str_int, fun H L vs ds k Q j r h hk => by
  unfold gStr at h
  split at h
  · cases r with
    | cons r1 r2 =>
      cases r2
      cases r1
      exact ⟨_, rfl, h.1, hk _ _ H h.2 (Same.refl H) (.str _)⟩
  · exact h.elim⟩
def gList : GC := fun ds L k => match ds with
  | [d] => match seqs (con L d) with
    | some xs => k (.lst xs)
    | none => False
  | _ => False
theorem cq_list : CQ X (.type "list") gList := ⟨_, call_list_of, fun H L vs ds k Q j r h hk => by
  unfold gList at h
  split at h
  · cases r with
    | cons r1 r2 =>
      cases r2
      split at h
      · rename_i xs hd
        obtain ⟨a, vs, rfl, hs, rv⟩ := con_seq j r1 hd
        refine ⟨a, vs, rfl, hs, fun l hl => ?_⟩
        have s := same_new hl (.lst vs)
        exact hk _ _ _ h s (.lst (j.notIn hl) upd_same (rv.go (Go.same s)))
      · exact h.elim
  · exact h.elim⟩
def gGcd : GC := fun ds _ k => match ds with
  | [.int a, .int b] => k (.int ((Nat.gcd a.natAbs b.natAbs : Nat) : Int))
  | _ => False
theorem cq_gcd : CQ X (.builtin "math.gcd") gGcd := ⟨_, cr_gcd, fun H L vs ds k Q j r h hk => by
  unfold gGcd at h
  split at h
  · cases r with
    | cons r1 r2 => cases r2 with
      | cons r2 r3 =>
      cases r3
      cases r1
      cases r2
      exact ⟨_, _, rfl, hk _ _ H h (Same.refl H) (.int _)⟩
  · exact h.elim⟩
def gMax2 : GC := fun ds _ k => match ds with
  | [.int i, .int j] => k (.int (if j > i then j else i))
  | _ => False
theorem cq_max2 (hc : X.calm = true) : CQ X (.builtin "max") gMax2 := ⟨_, call_max2 hc, fun H L vs ds k Q j r h hk => by
  unfold gMax2 at h
  split at h
  · cases r with
    | cons r1 r2 => cases r2 with
      | cons r2 r3 =>
      cases r3
      cases r1
      cases r2
      exact ⟨_, _, rfl, hk _ _ H h (Same.refl H) (.int _)⟩
  · exact h.elim⟩
def blsOf : List D → Option (List Bool)
  | [] => some []
  | .bl b :: r => match blsOf r with
    | some bs => some (b :: bs)
    | none => none
  | _ => none
theorem blsOf_eq : ∀ {ds : List D} {bs : List Bool}, blsOf ds = some bs → ds = bs.map D.bl
  | [], bs, h => by cases h; rfl
  | d :: r, bs, h => by
    cases d <;> first | (cases h; done) | skip
    unfold blsOf at h
    split at h
    · rename_i bs' hb
      cases h
      rw [blsOf_eq hb]; rfl
    · cases h
theorem blsOf_map : ∀ (bs : List Bool), blsOf (bs.map D.bl) = some bs
  | [] => rfl
  | b :: r => by show (match blsOf (r.map D.bl) with | some bs => some (b :: bs) | none => none) = _; rw [blsOf_map r]
def gAll : GC := fun ds L k => match ds with
  | [d] => match con L d with
    | .lst xs => match blsOf xs with
      | some bs => k (.bl (bs.all id))
      | none => False
    | _ => False
  | _ => False
theorem cq_all (hc : X.calm = true) : CQ X (.builtin "all") gAll := ⟨_, cr_all hc, fun H L vs ds k Q j r h hk => by
  unfold gAll at h
  split at h
  · cases r with
    | cons r1 r2 =>
      cases r2
      split at h
      · rename_i xs hd
        split at h
        · rename_i bs hb
          obtain ⟨a, vs, rfl, hs, rv⟩ := con_lst j r1 hd
          rw [blsOf_eq hb] at rv
          have e := rv.ofBls
          subst e
          exact ⟨a, bs, rfl, SqL.of hs, hk _ _ H h (Same.refl H) (.bl _)⟩
        · exact h.elim
      · exact h.elim
  · exact h.elim⟩
/-! ### isinstance -/
inductive Ty where
  | non | bl | int | str | lst | tup | dct
  deriving DecidableEq
def Ty.nm : Ty → String
  | .non => "NoneType" | .bl => "bool" | .int => "int" | .str => "str" | .lst => "list" | .tup => "tuple" | .dct => "dict"
def tyD : D → Option Ty
  | .non => some .non
  | .bl _ => some .bl
  | .int _ => some .int
  | .str _ => some .str
  | .lst _ => some .lst
  | .ro _ => some .lst
  | .tup _ => some .tup
  | .dk _ _ => some .dct
  | .dt _ _ => some .dct
  | _ => none
def isTy : Ty → Ty → Bool
  | .bl, .int => true
  | .bl, .bl => true
  | .int, .int => true
  | .str, .str => true
  | .lst, .lst => true
  | .tup, .tup => true
  | .dct, .dct => true
  | .non, .non => true
  | _, _ => false
theorem kit_isTy (t c : Ty) (h : c ≠ .non) : kitB t.nm c.nm = some (isTy t c) := by
  cases t <;> cases c <;> first | exact absurd rfl h | decide +kernel
theorem ty_of {L : Led} {K : PySem.W.Frag} {H : Hp} {v : V} {d : D} {t : Ty} (r : Rp L K H v d) (h : tyD d = some t) : TyX K H v (.type t.nm) := by
  cases r <;> first | (cases h; done) | skip
  all_goals cases h
  · exact .base .non
  · exact .base (.bl _)
  · exact .base (.int _)
  · exact .base (.str _)
  · rename_i n e r
    exact .base (.lst e)
  · rename_i s r
    rcases s with ⟨_, s | ⟨o, s⟩⟩ | ⟨o, its, n, h1, h2, _⟩
    · exact .base (.lst s)
    · exact .base (.frz s)
    · exact .kList h1 h2
  · rename_i s r
    rcases s with ⟨_, s | ⟨o, s⟩⟩ | ⟨o, its, n, h1, h2, _⟩
    · exact .base (.tup s)
    · exact .fTuple s
    · exact .kTuple h1 h2
  · rename_i n s _ _
    rcases s with s | ⟨o, s⟩
    · exact .base (.dK s)
    · exact .fDict s
  · rename_i n s _ _
    exact .base (.dT s)
end
end DL

namespace DL
open PySem L2
section
variable {X : Cx} {Wx : WX} {a b c e o : Expr} {es rest : List Expr} {da db dc de do' di : DE} {dt du : DT} {dl dk : DA} {pos : Pos}
/-- isinstance(x, T) -/
def gIsi (c : Ty) : G1 := fun a L k => match tyD (con L a) with
  | some t => k (.bl (isTy t c))
  | none => False
def gIsi2 (c c' : Ty) : G1 := fun a L k => match tyD (con L a) with
  | some t => k (.bl (isTy t c || isTy t c'))
  | none => False
theorem tyX_con {L : Led} {K : PySem.W.Frag} {H : Hp} {v : V} {d : D} {t : Ty} (j : JL K L H) (r : Rp L K H v d) (h : tyD (con L d) = some t) : TyX K H v (.type t.nm) := by
  cases d with
  | ptr a =>
    cases r
    have h : tyD ((L.lookup a).getD (.ptr a)) = some t := h
    cases q : L.lookup a with
    | none => rw [q] at h; cases h
    | some c =>
      rw [q] at h
      have h : tyD c = some t := h
      have ow := j.look q
      cases c with
      | lst ds => cases h; obtain ⟨vs, e, _⟩ := ow; exact .base (.lst e)
      | dk ks ds => cases h; obtain ⟨vs, e, _⟩ := ow; exact .base (.dK e)
      | dt ks ds => cases h; obtain ⟨vs, e, _⟩ := ow; exact .base (.dT e)
      | _ => first | exact ow.elim | cases h
  | _ => exact ty_of r h
def gcIsi (c : Ty) : GC := fun ds L k => match ds with
  | [d, .ty n] => n = c.nm ∧ gIsi c d L k
  | _ => False
theorem cq_isi {c : Ty} (hc : c ≠ .non) : CQ X (.builtin "isinstance") (gcIsi c) := ⟨_, call_isi, fun H L vs ds k Q j r h hk => by
  unfold gcIsi at h
  split at h
  · rename_i d n
    obtain ⟨rfl, h⟩ := h
    unfold gIsi at h
    split at h
    · rename_i t ht
      cases r with
      | cons r1 r2 => cases r2 with
        | cons r2 r3 =>
        cases r3
        cases r2
        exact ⟨_, _, _, _, _, rfl, .ty _, tyX_con j r1 ht, kit_ty (kit_isTy t c hc), hk _ _ H h (Same.refl H) (.bl _)⟩
    · exact h.elim
  · exact h.elim⟩
theorem q_isi {p p2 : Pos} {T : Str} (c : Ty) (ha : QE X Wx e da) (hg : Gl X "isinstance") (hm : X.mg "isinstance" = none) (hgT : Gl X T) (hmT : X.mg T = none) (hv : bootBuiltins T = some (.type c.nm)) (hc : c ≠ .non := by decide)
    (hn : T ≠ "__name__" := by decide) (hd : (T == ("__debug__" : Str)) = false := by decide) (hs : starEach (e :: [.Name T p2]) X.env = (false, eval e X.env) :: starEach [.Name T p2] X.env := by rfl) (hv0 : bootBuiltins "isinstance" = some (.builtin "isinstance") := by decide +kernel) :
    QE X Wx (.Call (.Name "isinstance" p) [e, .Name T p2] [] pos) (dUn (gIsi c) da) := by
  refine (q_callB (g := gcIsi c) (cq_isi hc) hg hm hv0 (a_cons ha (a_cons (q_bltn (v := .ty c.nm) (d := .ty c.nm) hgT hmT hv rfl (fun _ _ => .ty _) hn hd) a_nil (by rfl)) hs) (by decide) (by decide) hs (by rfl)).w ?_
  intro env L k x h
  exact (show dCB (gcIsi c) (dCons da (dCons (dC (.ty c.nm)) dNil)) env L k x from by
    unfold dCB dCons dC dNil
    unfold dUn at h
    refine cast ?_ h
    congr 1
    funext a L1
    show _ = (c.nm = c.nm ∧ _)
    simp)
/-- isinstance(x, (T, T')): the tuple is made on the spot -/
theorem q_isi2 {p p2 p3 p4 : Pos} {kk : Nat} {T T' : Str} (c c' : Ty) (ha : QE X Wx e da) (hg : Gl X "isinstance") (hm : X.mg "isinstance" = none) (hgT : Gl X T) (hmT : X.mg T = none) (hv : bootBuiltins T = some (.type c.nm)) (hgT' : Gl X T') (hmT' : X.mg T' = none) (hv' : bootBuiltins T' = some (.type c'.nm)) (hc : c ≠ .non := by decide) (hc' : c' ≠ .non := by decide)
    (hn : T ≠ "__name__" := by decide) (hd : (T == ("__debug__" : Str)) = false := by decide) (hn' : T' ≠ "__name__" := by decide) (hd' : (T' == ("__debug__" : Str)) = false := by decide) (hs : starEach (e :: [.Tuple [.Name T p2, .Name T' p3] kk p4]) X.env = (false, eval e X.env) :: starEach [.Tuple [.Name T p2, .Name T' p3] kk p4] X.env := by rfl) (hv0 : bootBuiltins "isinstance" = some (.builtin "isinstance") := by decide +kernel) :
    QE X Wx (.Call (.Name "isinstance" p) [e, .Tuple [.Name T p2, .Name T' p3] kk p4] [] pos) (dUn (gIsi2 c c') da) := by
  obtain ⟨ta, pa, sa⟩ := ha.ex
  refine ⟨_, pe_callB call_isiT hg hm hv0 (pa_cons pa (pa_cons (pe_tup (pa_cons (pe_bltn (v := .ty c.nm) hgT hmT hv rfl hn hd) (pa_cons (pe_bltn (v := .ty c'.nm) hgT' hmT' hv' rfl hn' hd') pa_nil (by rfl)) (by rfl))) pa_nil (by rfl)) hs) (by decide) (by decide) hs (by rfl), fun σ H env L k x Q st h hk hx => ?_⟩
  refine sa σ H env L _ x _ st h (fun d L1 v H1 h1 g1 j1 r1 => ?_) hx
  refine ⟨show 2 ≤ sizeLine by decide, fun t ht => ?_⟩
  have s := same_new ht (.tup [.ty c.nm, .ty c'.nm])
  unfold gIsi2 at h1
  split at h1
  · rename_i ty hty
    refine ⟨v, t, _, _, [.type c.nm, .type c'.nm], (isTy ty c || isTy ty c'), rfl, upd_same, .cons (.ty _) (.cons (.ty _) .nil), tyX_con (j1.same s) (r1.go (Go.same s)) hty, ?_, hk _ L1 _ _ h1 (g1.trans (Go.same s)) (j1.same s) (.bl _)⟩
    refine kitAny_cons (kit_ty (kit_isTy ty c hc)) (fun h0 => ?_) (fun h0 => by rw [h0, Bool.true_or])
    rw [h0, Bool.false_or]
    exact kitAny_cons (r := isTy ty c') (kit_ty (kit_isTy ty c' hc')) (fun h1 => by rw [h1]; exact kitAny_nil) (fun h1 => h1)
  · exact h1.elim
/-! ### + -/
def gAdd : G2 := fun a b L k => match con L a, con L b with
  | .int i, .int j => k (.int (i + j))
  | .str x, .str y => x.length + y.length ≤ sizeLine ∧ k (.str (x ++ y))
  | .lst xs, .lst ys => xs.length + ys.length ≤ sizeLine ∧ k (.lst (xs ++ ys))
  | .tup xs, .tup ys => xs.length + ys.length ≤ sizeLine ∧ k (.tup (xs ++ ys))
  | _, _ => False
theorem con_flat {L : Led} {K : PySem.W.Frag} {H : Hp} {v : V} {d c : D} (j : JL K L H) (r : Rp L K H v d) (e : con L d = c) (hc : match c with | .int _ => True | .str _ => True | .bl _ => True | .non => True | _ => False) : d = c := by
  cases d with
  | ptr a =>
    have e : (L.lookup a).getD (.ptr a) = c := e
    cases q : L.lookup a with
    | none => rw [q] at e; subst e; exact hc.elim
    | some c' =>
      rw [q] at e
      have e : c' = c := e
      subst e
      have ow := j.look q
      cases c' <;> first | exact ow.elim | exact hc.elim
  | _ => exact e
theorem oq_addL : OQ X (binaryOp .Add) (fun a b L k => match con L a, con L b with
    | .lst xs, .lst ys => xs.length + ys.length ≤ sizeLine ∧ k (.lst (xs ++ ys))
    | _, _ => False) := ⟨_, op_cat, fun H L va vb a b k Q j ra rb h hk => by
  dsimp only at h
  split at h
  · rename_i xs ys ea eb
    obtain ⟨p, vs, rfl, hp, rv⟩ := con_lst j ra ea
    obtain ⟨q, ws, rfl, hq, rw'⟩ := con_lst j rb eb
    refine ⟨p, q, vs, ws, rfl, rfl, hp, hq, by rw [rv.length, rw'.length]; exact h.1, fun l hl => ?_⟩
    have s := same_new hl (.lst (vs ++ ws))
    exact hk _ _ _ h.2 s (.lst (j.notIn hl) upd_same ((rv.append rw').go (Go.same s)))
  · exact h.elim⟩
theorem oq_addT : OQ X (binaryOp .Add) (fun a b L k => match con L a, con L b with
    | .tup xs, .tup ys => xs.length + ys.length ≤ sizeLine ∧ k (.tup (xs ++ ys))
    | _, _ => False) := ⟨_, op_catA, fun H L va vb a b k Q j ra rb h hk => by
  dsimp only at h
  split at h
  · rename_i xs ys ea eb
    obtain ⟨p, vs, ep, hp, rv⟩ := con_tup j ra ea
    obtain ⟨q, ws, eq, hq, rw'⟩ := con_tup j rb eb
    have ea' : a = .tup xs := by
      cases a with
      | ptr z =>
        have e : (L.lookup z).getD (.ptr z) = _ := ea
        cases q : L.lookup z with
        | none => rw [q] at e; cases e
        | some c' => rw [q] at e; have e : c' = .tup xs := e; subst e; exact (j.look q).elim
      | _ => exact ea
    have eb' : b = .tup ys := by
      cases b with
      | ptr z =>
        have e : (L.lookup z).getD (.ptr z) = _ := eb
        cases q : L.lookup z with
        | none => rw [q] at e; cases e
        | some c' => rw [q] at e; have e : c' = .tup ys := e; subst e; exact (j.look q).elim
      | _ => exact eb
    subst ea' eb' ep eq
    refine ⟨p, q, vs, ws, rfl, rfl, hp, hq, by rw [rv.length, rw'.length]; exact h.1, fun e0 => ?_, fun _ e0 => ?_, fun _ _ l hl => ?_⟩
    · subst e0
      cases rv
      exact hk _ _ H h.2 (Same.refl H) rb
    · subst e0
      cases rw'
      have h2 := h.2
      rw [List.append_nil] at h2
      exact hk _ _ H h2 (Same.refl H) ra
    · have s := same_new hl (.tup (vs ++ ws))
      exact hk _ _ _ h.2 s (.tup (.inl ⟨j.notIn hl, .inl upd_same⟩) ((rv.append rw').go (Go.same s)))
  · exact h.elim⟩
theorem oq_addS : OQ X (binaryOp .Add) (fun a b L k => match a, b with
    | .str x, .str y => x.length + y.length ≤ sizeLine ∧ k (.str (x ++ y))
    | _, _ => False) := ⟨_, op_add_str, fun H L va vb a b k Q j ra rb h hk => by
  dsimp only at h
  split at h
  · cases ra
    cases rb
    exact ⟨_, _, rfl, rfl, h.1, hk _ _ H h.2 (Same.refl H) (.str _)⟩
  · exact h.elim⟩
theorem sim_addOr {K : PySem.W.Frag} {r : R2} {g g' : G2} (h : Sim2 K r g) (hg : ∀ H L va vb a b k, JL K L H → Rp L K H va a → Rp L K H vb b → g' a b L k → g a b L k) : Sim2 K r g' := fun H L va vb a b k Q j ra rb q hk => h H L va vb a b k Q j ra rb (hg H L va vb a b k j ra rb q) hk
theorem oq_add : OQ X (binaryOp .Add) gAdd := by
  obtain ⟨r1, o1, s1⟩ := oq_addI (X := X)
  obtain ⟨r2, o2, s2⟩ := oq_addS (X := X)
  obtain ⟨r3, o3, s3⟩ := oq_addL (X := X)
  obtain ⟨r4, o4, s4⟩ := oq_addT (X := X)
  refine ⟨_, opr_or o1 (opr_or o2 (opr_or o3 o4)), fun H L va vb a b k Q j ra rb h hk => ?_⟩
  unfold gAdd at h
  split at h
  · rename_i i i' ea eb
    have e1 := con_flat j ra ea trivial
    have e2 := con_flat j rb eb trivial
    subst e1 e2
    exact .inl (s1 H L va vb _ _ k Q j ra rb h hk)
  · rename_i i i' ea eb
    have e1 := con_flat j ra ea trivial
    have e2 := con_flat j rb eb trivial
    subst e1 e2
    exact .inr (.inl (s2 H L va vb _ _ k Q j ra rb h hk))
  · rename_i xs ys ea eb
    exact .inr (.inr (.inl (s3 H L va vb _ _ k Q j ra rb (by dsimp only; rw [ea, eb]; exact h) hk)))
  · rename_i xs ys ea eb
    exact .inr (.inr (.inr (s4 H L va vb _ _ k Q j ra rb (by dsimp only; rw [ea, eb]; exact h) hk)))
  · exact h.elim
/-- a list times a number -/
def gRep : G2 := fun a b L k => match con L a, b with
  | .lst xs, .int n => -(2 ^ 63) ≤ n ∧ n < 2 ^ 63 ∧ xs.length * n.toNat ≤ sizeLine ∧ k (.lst (List.replicate n.toNat xs).flatten)
  | _, _ => False
theorem rep_all {L : Led} {K : PySem.W.Frag} {H : Hp} {vs : List V} {ds : List D} (r : RpAll L K H vs ds) : ∀ n : Nat, RpAll L K H (List.replicate n vs).flatten (List.replicate n ds).flatten
  | 0 => .nil
  | n + 1 => by
    rw [List.replicate_succ, List.replicate_succ, List.flatten_cons, List.flatten_cons]
    exact r.append (rep_all r n)
theorem oq_rep : OQ X (binaryOp .Mult) gRep := ⟨_, op_rep, fun H L va vb a b k Q j ra rb h hk => by
  unfold gRep at h
  split at h
  · rename_i xs n ea
    obtain ⟨p, vs, rfl, hp, rv⟩ := con_lst j ra ea
    cases rb
    obtain ⟨h1, h2, h3, h4⟩ := h
    refine ⟨p, n, vs, rfl, rfl, hp, h1, h2, by rw [rv.length]; exact h3, fun l hl => ?_⟩
    have s := same_new hl (.lst (List.replicate n.toNat vs).flatten)
    exact hk _ _ _ h4 s (.lst (j.notIn hl) upd_same ((rep_all rv _).go (Go.same s)))
  · exact h.elim⟩
/-! ### slices -/
abbrev DO := DEnv → Led → (Option Int → Led → Prop) → DX → Prop
structure QO (X : Cx) (Wx : WX) (e : Option Expr) (do' : DO) : Prop where
  ex : ∃ to, PO X e to ∧ ∀ σ H env L k x Q, StL X.K σ H env L → do' env L k x → (∀ i L' H', k i L' → Go L L' H H' → JL X.K L' H' → Q i H') → XOk X.K Wx L H x → to σ H Q
def dNo : DO := fun _ L k _ => k none L
def dPart (da : DE) : DO := fun env L k x => da env L (fun d L1 => match d with
  | .int i => k (some i) L1
  | _ => False) x
theorem o_none : QO X Wx none dNo := ⟨_, po_none, fun σ H env L k x Q st h hk hx => hk none L H h (Go.refl L H) st.2⟩
theorem o_some (h : QE X Wx e da) : QO X Wx (some e) (dPart da) := by
  obtain ⟨ta, pa, sa⟩ := h.ex
  refine ⟨_, po_some pa, fun σ H env L k x Q st h hk hx => ?_⟩
  refine sa σ H env L _ x _ st h (fun d L1 v H1 h1 g1 j1 r1 => ?_) hx
  cases r1 <;> first | exact h1.elim | skip
  exact ⟨_, rfl, hk _ L1 H1 h1 g1 j1⟩
def cutD (xs : List D) (lo hi : Option Int) : List D := (xs.drop (HT.sIx xs.length 0 lo)).take (HT.sIx xs.length xs.length hi - HT.sIx xs.length 0 lo)
def gSl (a : D) (lo hi : Option Int) (L : Led) (k : D → Prop) : Prop := match con L a with
  | .lst xs => k (.lst (cutD xs lo hi))
  | .ro xs => k (.lst (cutD xs lo hi))
  | .tup xs => k (.tup (cutD xs lo hi))
  | .str z => z.length ≤ sizeLine ∧ k (.str (cutS z lo hi))
  | _ => False
def dSl (da : DE) (dl dh : DO) : DE := fun env L k x => da env L (fun a L1 => dl env L1 (fun lo L2 => dh env L2 (fun hi L3 => gSl a lo hi L3 fun d => k d L3) x) x) x
theorem cut_all {L : Led} {K : PySem.W.Frag} {H : Hp} {vs : List V} {ds : List D} (r : RpAll L K H vs ds) (lo hi : Option Int) : RpAll L K H (cutV vs lo hi) (cutD ds lo hi) := by
  unfold cutV cutD
  rw [r.length]
  exact (r.drop _).take _
theorem q_slice {lo hi : Option Expr} {p2 : Pos} {dl dh : DO} (he : QE X Wx e da) (hl : QO X Wx lo dl) (hh : QO X Wx hi dh) : QE X Wx (.Subscript e (.Slice lo hi none p2) pos) (dSl da dl dh) := by
  obtain ⟨ta, pa, sa⟩ := he.ex
  obtain ⟨tl, pl, sl⟩ := hl.ex
  obtain ⟨th, ph, sh⟩ := hh.ex
  refine ⟨_, pe_slice (SlR.or sl_list (SlR.or sl_tupA sl_str)) pa pl ph, fun σ H env L k x Q st h hk hx => ?_⟩
  refine sa σ H env L _ x _ st h (fun a L1 va H1 h1 g1 j1 r1 => ?_) hx
  refine sl σ H1 env L1 _ x _ (st.go g1 j1) h1 (fun lo L2 H2 h2 g2 j2 => ?_) (hx.go g1)
  refine sh σ H2 env L2 _ x _ ((st.go g1 j1).go g2 j2) h2 (fun hi L3 H3 h3 g3 j3 => ?_) ((hx.go g1).go g2)
  have gg := (g1.trans g2).trans g3
  have r1 := (r1.go g2).go g3
  unfold gSl at h3
  split at h3
  · rename_i xs ea
    obtain ⟨p, vs, rfl, hp, rv⟩ := con_lst j3 r1 ea
    refine .inl ⟨p, vs, rfl, SqL.of hp, fun l hl => ?_⟩
    have s := same_new hl (.lst (cutV vs lo hi))
    exact hk _ _ _ _ h3 (gg.trans (Go.same s)) (j3.same s) (.lst (j3.notIn hl) upd_same ((cut_all rv lo hi).go (Go.same s)))
  · rename_i xs ea
    obtain ⟨p, vs, rfl, hp, rv⟩ := con_ro j3 r1 ea
    refine .inl ⟨p, vs, rfl, hp, fun l hl => ?_⟩
    have s := same_new hl (.lst (cutV vs lo hi))
    exact hk _ _ _ _ h3 (gg.trans (Go.same s)) (j3.same s) (.lst (j3.notIn hl) upd_same ((cut_all rv lo hi).go (Go.same s)))
  · rename_i xs ea
    have ea' : a = .tup xs := by
      cases a with
      | ptr z =>
        have e : (L3.lookup z).getD (.ptr z) = _ := ea
        cases q : L3.lookup z with
        | none => rw [q] at e; cases e
        | some c' => rw [q] at e; have e : c' = .tup xs := e; subst e; exact (j3.look q).elim
      | _ => exact ea
    obtain ⟨p, vs, ep, hp, rv⟩ := con_tup j3 r1 ea
    subst ea' ep
    refine .inr (.inl ⟨p, vs, rfl, hp, fun hw => ?_, fun _ l hl => ?_⟩)
    · have e : cutD xs lo hi = xs := by
        unfold cutD
        rw [← rv.length, hw.1, hw.2, List.drop_zero, Nat.sub_zero, rv.length]
        exact List.take_length
      rw [e] at h3
      exact hk _ _ _ H3 h3 gg j3 r1
    · have s := same_new hl (.tup (cutV vs lo hi))
      exact hk _ _ _ _ h3 (gg.trans (Go.same s)) (j3.same s) (.tup (.inl ⟨j3.notIn hl, .inl upd_same⟩) ((cut_all rv lo hi).go (Go.same s)))
  · rename_i z ea
    have e1 := con_flat j3 r1 ea trivial
    subst e1
    cases r1
    exact .inr (.inr ⟨_, rfl, h3.1, hk _ _ _ H3 h3.2 gg j3 (.str _)⟩)
  · exact h3.elim
end
end DL

namespace DL
open PySem L2 RZ
section
variable {X : Cx} {Wx : WX} {a b c e o : Expr} {es rest : List Expr} {da db dc de do' : DE} {dt du : DT} {dl dk : DA} {pos : Pos}
/-! ### comprehensions -/
def wipeD (env : DEnv) : List Nat → DEnv
  | [] => env
  | v :: vs => (wipeD env vs).set v none
theorem Sto.wipes {L : Led} {K : PySem.W.Frag} {H : Hp} {σ : St} {env : DEnv} (h : Sto L K H σ env) : ∀ vs : List Nat, Sto L K H (wipe σ vs) (wipeD env vs)
  | [] => h
  | v :: vs => (Sto.wipes h vs).wipe1 v
structure QTs (X : Cx) (Wx : WX) (ifs : List Expr) (dt : DT) : Prop where
  pt : PTs X ifs (ttOf X.K Wx dt)
def dYes : DT := fun _ L k _ => k true L
theorem ts_nil : QTs X Wx [] dYes := ⟨⟨fun pins s σ H Q I hw => by
  obtain ⟨env, L, k, x, st, h, hk, hx⟩ := hw
  exact pts_nil.run pins s σ H Q I (hk true L H h (Go.refl L H) st.2)⟩⟩
theorem ts_one (h : QT X Wx c dt) : QTs X Wx [c] dt := ⟨pts_one h.pt⟩
abbrev Wx0 : WX := fun _ _ _ _ => False
@[irreducible] def lcD (dg : DG) (dt : DT) (de : DE) (env0 : DEnv) (p : Addr) (k : DK) : List D → List D → Led → Prop
  | [], acc, L => k (.lst acc) (remL L p)
  | d :: ds, acc, L => dg d env0 L fun env1 => dt env1 L (fun b L2 => match b with
    | true => de env1 L2 (fun y L3 => L3.lookup p = some (.lst acc) ∧ acc.length < sizeLine ∧ lcD dg dt de env0 p k ds (acc ++ [y]) (setL L3 p (.lst (acc ++ [y])))) (fun _ _ _ => False)
    | false => L2.lookup p = some (.lst acc) ∧ lcD dg dt de env0 p k ds acc L2) (fun _ _ _ => False)
theorem lcD_nil {dg : DG} {dt : DT} {de : DE} {env0 : DEnv} {p : Addr} {k : DK} {acc : List D} {L : Led} : lcD dg dt de env0 p k [] acc L = k (.lst acc) (remL L p) := by with_unfolding_all rfl
theorem lcD_cons {dg : DG} {dt : DT} {de : DE} {env0 : DEnv} {p : Addr} {k : DK} {d : D} {ds acc : List D} {L : Led} : lcD dg dt de env0 p k (d :: ds) acc L = dg d env0 L fun env1 => dt env1 L (fun b L2 => match b with
    | true => de env1 L2 (fun y L3 => L3.lookup p = some (.lst acc) ∧ acc.length < sizeLine ∧ lcD dg dt de env0 p k ds (acc ++ [y]) (setL L3 p (.lst (acc ++ [y])))) (fun _ _ _ => False)
    | false => L2.lookup p = some (.lst acc) ∧ lcD dg dt de env0 p k ds acc L2) (fun _ _ _ => False) := by with_unfolding_all rfl
def dLc (di : DI) (dg : DG) (dt : DT) (de : DE) (vs : List Nat) : DE := fun env L k x => di env L (fun ds L1 => ∀ p, ¬ inL L1 p → lcD dg dt de (wipeD env vs) p k ds [] ((p, .lst []) :: L1)) x
theorem sim_lc {K : PySem.W.Frag} {wi : TI} {di : DI} {dg : DG} {sl vs : List Nat} (hsl : ∀ i ∈ sl, i ∈ vs)
    (si : ∀ σ H env L k x R, StL K σ H env L → di env L k x → (∀ ds L' J H', k ds L' → Go L L' H H' → JL K L' H' → ItD K L' H' J ds → R J H') → XOk K Wx L H x → wi σ H R) :
    SimE K Wx (tLc wi (tgOf K sl dg) (ttOf K Wx0 dt) (teOf K Wx0 de) vs) (dLc di dg dt de vs) := by
  intro σ H env L k x Q st h hk hx
  refine si σ H env L _ x _ st h (fun ds L1 J H1 h1 g1 j1 it => ?_) hx
  intro p hp
  have s0 := same_new hp (.lst [])
  obtain ⟨j2, g2⟩ := j1.push (d := .lst []) hp (o := .lst []) ⟨[], upd_same, .nil⟩
  refine ⟨fun i m H2 => m = ds.length - i ∧ i ≤ ds.length ∧ ∃ acc L2, StL K (wipe σ vs) H2 (wipeD env vs) L2 ∧ Go L1 L2 H1 H2 ∧ L2.lookup p = some (.lst acc) ∧ lcD dg dt de (wipeD env vs) p k (ds.drop i) acc L2, ⟨ds.length, by omega, by omega, [], _, ⟨((st.go g1 j1).go g2 j2).1.wipes vs, j2⟩, g2, lookup_top, h1 p (j1.notIn hp)⟩, ?_⟩
  rintro i m H2 ⟨rfl, hi, acc, L2, st2, g3, hl, h2⟩
  obtain ⟨i1, i2⟩ := it L2 H2 g3 st2.2 i
  by_cases hlt : i < ds.length
  · have e : ds[i]? = some ds[i] := List.getElem?_eq_getElem hlt
    obtain ⟨go, yl⟩ := i1 _ e
    rw [List.drop_eq_getElem_cons hlt, lcD_cons] at h2
    refine .inr ⟨go, fun H' => ∃ acc L2, StL K (wipe σ vs) H' (wipeD env vs) L2 ∧ Go L1 L2 H1 H' ∧ L2.lookup p = some (.lst acc) ∧ lcD dg dt de (wipeD env vs) p k (ds.drop (i + 1)) acc L2, fun H' n => ⟨ds.length - (i + 1), by omega, rfl, hlt, n⟩, fun x H' y => ?_⟩
    obtain ⟨s, rx⟩ := yl x H' y
    have g4 : Go L2 L2 H2 H' := Go.same s
    have st3 := st2.go g4 (st2.2.same s)
    refine ⟨_, _, L2, _, st3, rx, h2, fun σ3 env3 h3 st4 on => ⟨?_, ?_⟩⟩
    · have := on vs hsl
      rw [this]
      clear this
      have w2 : ∀ (ws us : List Nat), (∀ i ∈ us, i ∈ ws) → ∀ σ : St, wipe (wipe σ us) ws = wipe σ ws := by
        intro ws us
        induction us with
        | nil => intro _ σ; rfl
        | cons u us ih =>
          intro hu σ
          show wipe ((wipe σ us).set u none) ws = _
          rw [wipe_set (hu u List.mem_cons_self), ih (fun i hi => hu i (List.mem_cons_of_mem _ hi))]
      exact w2 vs vs (fun _ h => h) σ
    · refine ⟨env3, L2, _, _, st4, h3, fun b L5 H5 h5 g5 j5 => ?_, fun _ _ _ _ _ _ q => q.elim⟩
      have gA : Go L1 L5 H1 H5 := (g3.trans g4).trans g5
      cases b with
      | false => exact iteF ⟨acc, L5, ⟨(st3.1.go g5), j5⟩, gA, h5.1, h5.2⟩
      | true =>
        refine iteT ⟨env3, L5, _, _, st4.go g5 j5, h5, fun y L6 vy H6 h6 g6 j6 r6 => ?_, fun _ _ _ _ _ _ q => q.elim⟩
        obtain ⟨q1, q2, q3⟩ := h6
        obtain ⟨ws, e1, rv⟩ := j6.look q1
        have hp6 := inL_of_lookup q1
        refine ⟨ws, e1, by rw [rv.length]; exact q2, acc ++ [y], _, ?_, ?_, ?_, q3⟩
        · have g7 : Go L6 (setL L6 p (.lst (acc ++ [y]))) H6 (upd H6 p (.lst (ws ++ [vy]))) := go_set hp6
          have j7 : JL K (setL L6 p (.lst (acc ++ [y]))) (upd H6 p (.lst (ws ++ [vy]))) := j6.put hp6 ⟨_, upd_same, (rv.append (.cons r6 .nil)).go g7⟩
          exact ⟨((st3.1.go g5).go g6).go g7, j7⟩
        · exact (gA.trans g6).trans (go_set hp6)
        · have hm := mem_of_lookup q1
          clear q3 h5 h3 h2
          have key : ∀ (M : Led), inL M p → List.lookup p (setL M p (.lst (acc ++ [y]))) = some (.lst (acc ++ [y])) := by
            intro M
            induction M with
            | nil => intro h; simp [inL] at h
            | cons q M ih =>
              intro h
              by_cases hq : q.1 = p
              · obtain ⟨z1, z2⟩ := q
                have hq : z1 = p := hq
                show List.lookup p ((if z1 = p then (p, D.lst (acc ++ [y])) else (z1, z2)) :: setL M p _) = _
                rw [if_pos hq]
                exact lookup_top
              · obtain ⟨z1, z2⟩ := q
                have hq : z1 ≠ p := hq
                rw [setL_ne hq, lookup_ne (Ne.symm hq)]
                exact ih ((inL_cons.mp h).resolve_left (Ne.symm hq))
          exact key L6 hp6
  · have e : i = ds.length := by omega
    subst e
    rw [List.drop_length, lcD_nil] at h2
    obtain ⟨ws, e1, rv⟩ := st2.2.look hl
    refine .inl ⟨i2 (Nat.le_refl _), hk _ _ _ H2 h2 ((g1.trans g3).trans go_rem) st2.2.rem (.lst (fun m => (inL_remL.mp m).2 rfl) e1 (rv.go go_rem))⟩
theorem q_lc {elt tg iter : Expr} {ifs : List Expr} {scope : Scope} {own : List (Str × Nat)} {di : DI} {dg : DG} {sl : List Nat} (hc : X.calm = true) (hN : X.N.Nodup) (hi : QI X Wx tg iter di) (ok : BlkOk X.N X.env.scope scope own)
    (hg : ∀ (s : Shared) (H : Hp) (C : Addr) (cl : List (Str × Addr)) (fp : List Addr), QG (X.blk s H scope (compEnvC scope cl C X.env) fp) tg sl dg) (ht : ∀ (s : Shared) (H : Hp) (C : Addr) (cl : List (Str × Addr)) (fp : List Addr), QTs (X.blk s H scope (compEnvC scope cl C X.env) fp) Wx0 ifs dt)
    (he : ∀ (s : Shared) (H : Hp) (C : Addr) (cl : List (Str × Addr)) (fp : List Addr), QE (X.blk s H scope (compEnvC scope cl C X.env) fp) Wx0 elt de) (hsl : ∀ i ∈ sl, i ∈ own.map (·.2) := by decide) (hs : ∀ x, foldedSetIterable iter X.env x = pure x := by intro _; rfl) :
    QE X Wx (.ListComp elt [⟨tg, iter, ifs, 0⟩] scope pos) (dLc di dg dt de (own.map (·.2))) := by
  obtain ⟨wi, pi, si⟩ := hi.ex
  exact ⟨_, pe_lc hc hN pi ok (fun s H C cl fp => (hg s H C cl fp).pg) (fun s H C cl fp => (ht s H C cl fp).pt) (fun s H C cl fp => (he s H C cl fp).pe) hs, sim_lc hsl si⟩
theorem s_setLc (i : Nat) {y : Str} {py spos : Pos} {elt tg iter : Expr} {ifs : List Expr} {scope : Scope} {own : List (Str × Nat)} {di : DI} {dg : DG} {sl : List Nat} (hc : X.calm = true) (hN : X.N.Nodup) (hi : QI X Wx tg iter di) (ok : BlkOk X.N X.env.scope scope own)
    (hg : ∀ (s : Shared) (H : Hp) (C : Addr) (cl : List (Str × Addr)) (fp : List Addr), QG (X.blk s H scope (compEnvC scope cl C X.env) fp) tg sl dg) (ht : ∀ (s : Shared) (H : Hp) (C : Addr) (cl : List (Str × Addr)) (fp : List Addr), QTs (X.blk s H scope (compEnvC scope cl C X.env) fp) Wx0 ifs dt)
    (he : ∀ (s : Shared) (H : Hp) (C : Addr) (cl : List (Str × Addr)) (fp : List Addr), QE (X.blk s H scope (compEnvC scope cl C X.env) fp) Wx0 elt de)
    (hsw : swapsWith (.ListComp elt [⟨tg, iter, ifs, 0⟩] scope pos) (some (.Name y py)) spos.line X.env = pure true) (hy : X.N[i]? = some y := by rfl) (hyl : X.env.scope.names.lookup y = some .local := by rfl) (hsl : ∀ i ∈ sl, i ∈ own.map (·.2) := by decide) (hs : ∀ x, foldedSetIterable iter X.env x = pure x := by intro _; rfl) :
    QS X Wx (.Assign [.Name y py] (.ListComp elt [⟨tg, iter, ifs, 0⟩] scope pos) spos) (dAsg (dLc di dg dt de (own.map (·.2))) (dgName i)) := by
  obtain ⟨wi, pi, si⟩ := hi.ex
  exact ⟨_, ps_setLc hc hN hy hyl hsw pi ok (fun s H C cl fp => (hg s H C cl fp).pg) (fun s H C cl fp => (ht s H C cl fp).pt) (fun s H C cl fp => (he s H C cl fp).pe) hs, sim_asg (sl := [i]) (sim_lc hsl si) fun v d σ H env L k Q st r h hk => hk _ _ h ⟨st.1.set r i, st.2⟩ only_set⟩
/-! ### zip -/
def zipD : List D → List D → List D
  | a :: as, b :: bs => .tup [a, b] :: zipD as bs
  | _, _ => []
theorem zipD_get : ∀ (as bs : List D) (i : Nat) (d : D), (zipD as bs)[i]? = some d → ∃ x y, as[i]? = some x ∧ bs[i]? = some y ∧ d = .tup [x, y]
  | [], _, _, _, h => by simp [zipD] at h
  | _ :: _, [], _, _, h => by simp [zipD] at h
  | a :: as, b :: bs, 0, d, h => by
    simp [zipD] at h
    exact ⟨a, b, rfl, rfl, h.symm⟩
  | a :: as, b :: bs, i + 1, d, h => by
    obtain ⟨x, y, h1, h2, h3⟩ := zipD_get as bs i d (by simpa [zipD] using h)
    exact ⟨x, y, by simpa using h1, by simpa using h2, h3⟩
theorem zipD_len : ∀ (as bs : List D), (zipD as bs).length = min as.length bs.length
  | [], _ => by simp [zipD]
  | _ :: _, [] => by simp [zipD]
  | a :: as, b :: bs => by simp [zipD, zipD_len as bs]
def diZip (dl : DA) : DI := fun env L k x => dl env L (fun ds L1 => match ds with
  | [.lst as, .lst bs] => k (zipD as bs) L1
  | [.tup as, .tup bs] => k (zipD as bs) L1
  | _ => False) x
theorem it_zip {K : PySem.W.Frag} {L : Led} {H : Hp} {a b : Addr} {vs ws : List V} {as bs : List D} (h : SqL' L K H a vs) (r : RpAll L K H vs as) (h' : SqL' L K H b ws) (r' : RpAll L K H ws bs) : ItD K L H (Itz K a b) (zipD as bs) := fun L' H' g j i => by
  have e1 := (g.sqL h).sq
  have e2 := (g.sqL h').sq
  refine ⟨fun d hd => ?_, fun hi => ⟨vs, ws, e1, e2, by rw [zipD_len] at hi; rw [r.length, r'.length]; omega⟩⟩
  obtain ⟨x, y, q1, q2, rfl⟩ := zipD_get as bs i d hd
  obtain ⟨vx, hx, rx⟩ := (r.go g).get q1
  obtain ⟨vy, hy, ry⟩ := (r'.go g).get q2
  refine ⟨⟨vs, ws, vx, vy, e1, e2, hx, hy⟩, fun z H'' yl => ?_⟩
  obtain ⟨T, x', y', rfl, nT, rfl, f1, f2⟩ := yl
  have k1 := f1 vs e1
  rw [hx] at k1
  cases k1
  have k2 := f2 ws e2
  rw [hy] at k2
  cases k2
  have s := same_new nT (.tup [vx, vy])
  exact ⟨s, .tup (.inl ⟨j.notIn nT, .inl upd_same⟩) (.cons (rx.go (Go.same s)) (.cons (ry.go (Go.same s)) .nil))⟩
theorem it_zipT {K : PySem.W.Frag} {L : Led} {H : Hp} {a b : Addr} {vs ws : List V} {as bs : List D} (h : SqT' L K H a vs) (r : RpAll L K H vs as) (h' : SqT' L K H b ws) (r' : RpAll L K H ws bs) : ItD K L H (ItzT K a b) (zipD as bs) := fun L' H' g j i => by
  have e1 := (g.sqT h).sq
  have e2 := (g.sqT h').sq
  refine ⟨fun d hd => ?_, fun hi => ⟨vs, ws, e1, e2, by rw [zipD_len] at hi; rw [r.length, r'.length]; omega⟩⟩
  obtain ⟨x, y, q1, q2, rfl⟩ := zipD_get as bs i d hd
  obtain ⟨vx, hx, rx⟩ := (r.go g).get q1
  obtain ⟨vy, hy, ry⟩ := (r'.go g).get q2
  refine ⟨⟨vs, ws, vx, vy, e1, e2, hx, hy⟩, fun z H'' yl => ?_⟩
  obtain ⟨T, x', y', rfl, nT, rfl, f1, f2⟩ := yl
  have k1 := f1 vs e1
  rw [hx] at k1
  cases k1
  have k2 := f2 ws e2
  rw [hy] at k2
  cases k2
  have s := same_new nT (.tup [vx, vy])
  exact ⟨s, .tup (.inl ⟨j.notIn nT, .inl upd_same⟩) (.cons (rx.go (Go.same s)) (.cons (ry.go (Go.same s)) .nil))⟩
theorem i_zip {e2 : Expr} {p tpos : Pos} {elts : List Expr} {kk : Nat} (hg : Gl X "zip") (hm : X.mg "zip" = none) (ha : QA X Wx [e, e2] dl)
    (hs : starEach [e, e2] X.env = (false, eval e X.env) :: starEach [e2] X.env := by rfl) (hpl : (backTo pos (starEach [e2] X.env)).any (·.1) = false := by rfl) : QI X Wx (.Tuple elts kk tpos) (.Call (.Name "zip" p) [e, e2] [] pos) (diZip dl) := by
  obtain ⟨ta, pa, sa⟩ := ha.ex
  refine ⟨_, pi_zipA hg hm pa hs hpl, fun σ H env L k x R st h hk hx => ?_⟩
  refine sa σ H env L _ x _ st h (fun ds L1 vs H1 h1 g1 j1 r1 => ?_) hx
  split at h1
  · cases r1 with
    | cons r1 r2 => cases r2 with
      | cons r2 r3 =>
      cases r3
      cases r1 with
      | lst n1 s1 q1 => cases r2 with
        | lst n2 s2 q2 => exact ⟨_, _, _, _, rfl, .inl ⟨SqL.of s1, SqL.of s2, hk _ L1 _ H1 h1 g1 j1 (it_zip (.inl ⟨n1, .inl s1⟩) q1 (.inl ⟨n2, .inl s2⟩) q2)⟩⟩
  · cases r1 with
    | cons r1 r2 => cases r2 with
      | cons r2 r3 =>
      cases r3
      cases r1 with
      | tup s1 q1 => cases r2 with
        | tup s2 q2 => exact ⟨_, _, _, _, rfl, .inr ⟨s1.sq, s2.sq, hk _ L1 _ H1 h1 g1 j1 (it_zipT s1 q1 s2 q2)⟩⟩
  · exact h1.elim
end
end DL

namespace DL
open PySem L2
section
variable {X : Cx} {Wx : WX} {a b c e o : Expr} {es rest : List Expr} {da db dc de do' : DE} {dt du : DT} {dl dk : DA} {pos : Pos}
/-! ### keywords -/
structure QK (X : Cx) (Wx : WX) (kws : List Keyword) (da : DA) : Prop where
  ex : ∃ ta, PK X kws ta ∧ SimA X.K Wx ta da
theorem k_nil : QK X Wx [] dNil := ⟨_, pk_nil, fun σ H env L k x Q st h hk hx => hk [] L [] H h (Go.refl L H) st.2 .nil⟩
theorem k_cons {nm : Option Str} {kpos : Pos} {kws : List Keyword} (ha : QE X Wx e de) (hr : QK X Wx kws dl) : QK X Wx (⟨nm, e, kpos⟩ :: kws) (dCons de dl) := by
  obtain ⟨te, pe, se⟩ := ha.ex
  obtain ⟨ta, pa, sa⟩ := hr.ex
  refine ⟨_, pk_cons pe pa, fun σ H env L k x Q st h hk hx => ?_⟩
  refine se σ H env L _ x _ st h (fun d L1 v H1 h1 g1 j1 r1 => ?_) hx
  refine sa σ H1 env L1 _ x _ (st.go g1 j1) h1 (fun ds L2 vs H2 h2 g2 j2 r2 => ?_) (hx.go g1)
  exact hk _ L2 _ H2 h2 (g1.trans g2) j2 (.cons (r1.go g2) r2)
/-- how positional values and keywords' values come to the parameters: a choice of places, the same for values and data; ds: defaults -/
abbrev Perm3 := {α : Type} → List α → List α → List α → List α
structure PermOk (g : Perm3) : Prop where
  map : ∀ {α β : Type} {R : α → β → Prop} {vs zs ws : List α} {us ys xs : List β}, Paired R vs us → Paired R zs ys → Paired R ws xs → Paired R (g vs zs ws) (g us ys xs)
structure KwB (K : PySem.W.Frag) (fd : FuncData) (ps : List Str) (n : Nat) (ks : List Str) (dus : List Value) (g : Perm3) : Prop where
  to : ∀ (s : Shared) (us ws : List Value), K.In s.heap → us.length = n → ws.length = ks.length → BindsTo s fd ⟨us, ks.zip ws⟩ (ps.zip (g us ws dus))
theorem rp_paired {L : Led} {K : PySem.W.Frag} {H : Hp} : ∀ {vs : List V} {ds : List D}, RpAll L K H vs ds → Paired (Rp L K H) vs ds
  | _, _, .nil => .nil
  | _, _, .cons h r => .cons h (rp_paired r)
theorem paired_rp {L : Led} {K : PySem.W.Frag} {H : Hp} : ∀ {vs : List V} {ds : List D}, Paired (Rp L K H) vs ds → RpAll L K H vs ds
  | _, _, .nil => .nil
  | _, _, .cons h r => .cons h (paired_rp r)
def tCallW (n m : Nat) (sp : Sp) (gV : List V → List V → List V) (E : St → XK) (t tk : TA) : TE := fun σ H Q => t σ H fun vs H1 => tk σ H1 fun zs H2 => vs.length = n ∧ zs.length = m ∧ sp (gV vs zs) H2 Q (E σ)
theorem run_fnW {CX : CXT} {k n : Nat} {f : Addr} {fd : FuncData} {ps ks : List Str} {sp : Sp} {E : XK} {dus : List Value} {dvs : List V} {g : Perm3} {pins : List (Addr × Obj)} {σ : St} {H : Hp} {s : Shared} {Q : VK} {us ws : List Value} {vs zs : List V} (F : FnOk X.prog X.w X.K X.mg X.base CX k f fd ps sp) (hr : Room k X.A) (hb : KwB X.K fd ps n ks dus g) (hp : PermOk @g) (hd : Vals dvs dus) (hx : PassesAt CX X σ E)
    (I : Inv X pins σ H s) (r : Vals vs us) (rz : Vals zs ws) (l1 : vs.length = n) (l2 : zs.length = ks.length) (h : sp (g vs zs dvs) H Q E) : wpAny (model X.prog X.w) X.A (call (.ref f) us (ks.zip ws)) (EP X pins σ Q) X.xe s := by
  have r2 : Vals (g vs zs dvs) (g us ws dus) := hp.map r rz hd
  refine wpAny_call (codeAny_mono (F.run X.A X.stack s H ⟨us, ks.zip ws⟩ (g us ws dus) (g vs zs dvs) Q E hr I.env0 (hb.to s us ws I.kIn (r.length.symm.trans l1) (rz.length.symm.trans l2)) r2 h) fun r s' hq => ?_)
  cases r with
  | error e => exact hx pins H s e s' I hq
  | ok fl =>
    cases fl with
    | ret u => exact I.after hq
    | next => exact False.elim hq
    | brk => exact False.elim hq
    | cont => exact False.elim hq
theorem pe_callW0 {CX : CXT} {k : Nat} {f : Addr} {fd : FuncData} {ps ks : List Str} {sp : Sp} {E : St → XK} {dus : List Value} {dvs : List V} {g : Perm3} {x : Str} {p : Pos} {kws : List Keyword} {tk : TA} (F : FnOk X.prog X.w X.K X.mg X.base CX k f fd ps sp) (hr : Room k X.A) (hg : Gl X x) (hm : X.mg x = some (.ref f)) (hk : PySem.W.keepIn X.K (.ref f) = true)
    (hb : KwB X.K fd ps 0 ks dus g) (hp : PermOk @g) (hd : Vals dvs dus) (hx : ∀ σ, PassesAt CX X σ (E σ)) (hkw : PK X kws tk) (hall : (backToKw pos (keywordEach kws X.env)).all (·.1.isSome) = true := by rfl) (hks : (backToKw pos (keywordEach kws X.env)).filterMap (·.1) = ks := by rfl)
    (hdb : (x == ("__debug__" : Str)) = false := by decide) (hpl : ((backTo pos (starEach [] X.env)).any (·.1) || (backToKw pos (keywordEach kws X.env)).any (·.1.isNone)) = false := by rfl) :
    PE X (.Call (.Name x p) [] kws pos) (tCallW 0 ks.length sp (fun vs zs => g vs zs dvs) E tNil tk) := by
  refine ⟨fun pins s σ H Q I h => ?_⟩
  refine wpAny_Call_Name_kw (ld_glob I hg hm ?_ hdb)
  refine PySem.W.callWith_KW0 (h₀ := X.base) I.ok.mod.kin hk hall (thn (hkw.run pos pins s σ H _ I h) fun ws s2 ⟨zs, H2, I2, rz, l1, l2, q2⟩ => ⟨I2.kIn, ?_⟩) hpl
  rw [hks]
  exact run_fnW F hr hb hp hd (hx σ) I2 .nil rz l1 l2 q2
theorem pe_callW {CX : CXT} {k n : Nat} {f : Addr} {fd : FuncData} {ps ks : List Str} {sp : Sp} {E : St → XK} {dus : List Value} {dvs : List V} {g : Perm3} {x : Str} {p : Pos} {kws : List Keyword} {t tk : TA} (F : FnOk X.prog X.w X.K X.mg X.base CX k f fd ps sp) (hr : Room k X.A) (hg : Gl X x) (hm : X.mg x = some (.ref f)) (hk : PySem.W.keepIn X.K (.ref f) = true)
    (hb : KwB X.K fd ps n ks dus g) (hp : PermOk @g) (hd : Vals dvs dus) (hx : ∀ σ, PassesAt CX X σ (E σ)) (ha : PA X (e :: es) t) (hkw : PK X kws tk) (hall : (backToKw pos (keywordEach kws X.env)).all (·.1.isSome) = true := by rfl) (hks : (backToKw pos (keywordEach kws X.env)).filterMap (·.1) = ks := by rfl)
    (hdb : (x == ("__debug__" : Str)) = false := by decide) (he : starEach (e :: es) X.env = (false, eval e X.env) :: starEach es X.env := by rfl)
    (hpl : ((backTo pos (starEach (e :: es) X.env)).any (·.1) || (backToKw pos (keywordEach kws X.env)).any (·.1.isNone)) = false := by rfl) :
    PE X (.Call (.Name x p) (e :: es) kws pos) (tCallW n ks.length sp (fun vs zs => g vs zs dvs) E t tk) := by
  refine ⟨fun pins s σ H Q I h => ?_⟩
  refine wpAny_Call_Name_kw (ld_glob I hg hm ?_ hdb)
  refine PySem.W.callWith_KW (h₀ := X.base) I.ok.mod.kin hk hall (thn (ha.run pos pins s σ H _ I h) fun us s1 ⟨vs, H1, I1, r, q⟩ => ?_) hpl he
  refine thn (hkw.run pos pins s1 σ H1 _ I1 q) fun ws s2 ⟨zs, H2, I2, rz, l1, l2, q2⟩ => ⟨I2.kIn, ?_⟩
  rw [hks]
  exact run_fnW F hr hb hp hd (hx σ) I2 r rz l1 l2 q2
def dCallW (n m : Nat) (f : DSp) (g : Perm3) (dd : List D) (dl dk : DA) : DE := fun env L k x => dl env L (fun ds L1 => dk env L1 (fun es L2 => ds.length = n ∧ es.length = m ∧ f (g ds es dd) L2 k fun n L' => x n env L') x) x
theorem sim_callW {K : PySem.W.Frag} {n m : Nat} {f : DSp} {g : Perm3} {dvs : List V} {dd : List D} {t tk : TA} (hp : PermOk @g) (hdd : ∀ L H, RpAll L K H dvs dd) (sa : SimA K Wx t dl) (sk : SimA K Wx tk dk) : SimE K Wx (tCallW n m (spD K f) (fun vs zs => g vs zs dvs) (WE Wx) t tk) (dCallW n m f g dd dl dk) := by
  intro σ H env L k x Q st h hk hx
  refine sa σ H env L _ x _ st h (fun ds L1 vs H1 h1 g1 j1 r1 => ?_) hx
  refine sk σ H1 env L1 _ x _ (st.go g1 j1) h1 (fun es L2 zs H2 h2 g2 j2 r2 => ?_) (hx.go g1)
  obtain ⟨l1, l2, h2⟩ := h2
  have gg := g1.trans g2
  refine ⟨by rw [r1.length]; exact l1, by rw [r2.length]; exact l2, g ds es dd, L2, k, fun n L' => x n env L', j2, paired_rp (hp.map (rp_paired (r1.go g2)) (rp_paired r2) (rp_paired (hdd L2 H2))), h2, hk.go gg, fun n L' a H' q g' j' r => hx n env L' a H' σ q (gg.trans g') (st.go (gg.trans g') j') r⟩
theorem q_callW0 {k : Nat} {f : Addr} {fd : FuncData} {ps ks : List Str} {fD : DSp} {dus : List Value} {dvs : List V} {dd : List D} {x : Str} {p : Pos} {kws : List Keyword} (g : Perm3) (F : FnOk X.prog X.w X.K X.mg X.base (L2.CX X.prog X.w) k f fd ps (spD X.K fD)) (hr : Room k X.A) (hg : Gl X x) (hm : X.mg x = some (.ref f)) (hk : PySem.W.keepIn X.K (.ref f) = true)
    (hb : KwB X.K fd ps 0 ks dus g) (hp : PermOk @g) (hd : Vals dvs dus) (hdd : ∀ L H, RpAll L X.K H dvs dd) (tk : Takes X Wx) (hkw : QK X Wx kws dk) (hall : (backToKw pos (keywordEach kws X.env)).all (·.1.isSome) = true := by rfl) (hks : (backToKw pos (keywordEach kws X.env)).filterMap (·.1) = ks := by rfl)
    (hdb : (x == ("__debug__" : Str)) = false := by decide) (hpl : ((backTo pos (starEach [] X.env)).any (·.1) || (backToKw pos (keywordEach kws X.env)).any (·.1.isNone)) = false := by rfl) :
    QE X Wx (.Call (.Name x p) [] kws pos) (dCallW 0 ks.length fD g dd dNil dk) := by
  obtain ⟨ta, pa, sa⟩ := hkw.ex
  exact ⟨_, pe_callW0 F hr hg hm hk hb hp hd (fun σ => passAt tk σ) pa hall hks hdb hpl, sim_callW hp hdd (fun σ H env L k x Q st h hk hx => hk [] L [] H h (Go.refl L H) st.2 .nil) sa⟩
theorem q_callW {k n : Nat} {f : Addr} {fd : FuncData} {ps ks : List Str} {fD : DSp} {dus : List Value} {dvs : List V} {dd : List D} {x : Str} {p : Pos} {kws : List Keyword} (g : Perm3) (F : FnOk X.prog X.w X.K X.mg X.base (L2.CX X.prog X.w) k f fd ps (spD X.K fD)) (hr : Room k X.A) (hg : Gl X x) (hm : X.mg x = some (.ref f)) (hk : PySem.W.keepIn X.K (.ref f) = true)
    (hb : KwB X.K fd ps n ks dus g) (hp : PermOk @g) (hd : Vals dvs dus) (hdd : ∀ L H, RpAll L X.K H dvs dd) (tk : Takes X Wx) (ha : QA X Wx (e :: es) dl) (hkw : QK X Wx kws dk) (hall : (backToKw pos (keywordEach kws X.env)).all (·.1.isSome) = true := by rfl) (hks : (backToKw pos (keywordEach kws X.env)).filterMap (·.1) = ks := by rfl)
    (hdb : (x == ("__debug__" : Str)) = false := by decide) (he : starEach (e :: es) X.env = (false, eval e X.env) :: starEach es X.env := by rfl)
    (hpl : ((backTo pos (starEach (e :: es) X.env)).any (·.1) || (backToKw pos (keywordEach kws X.env)).any (·.1.isNone)) = false := by rfl) :
    QE X Wx (.Call (.Name x p) (e :: es) kws pos) (dCallW n ks.length fD g dd dl dk) := by
  obtain ⟨ta, pa, sa⟩ := ha.ex
  obtain ⟨tk', pk, sk⟩ := hkw.ex
  exact ⟨_, pe_callW F hr hg hm hk hb hp hd (fun σ => passAt tk σ) pa pk hall hks hdb he hpl, sim_callW hp hdd sa sk⟩
end
end DL

namespace DL
open PySem L2
section
variable {X : Cx} {Wx : WX} {a b c e o : Expr} {es rest : List Expr} {da db dc de do' : DE} {dt du : DT} {dl dk : DA} {pos : Pos}
/-! ### == of anything -/
def gEqU : G2 := fun a b _ k => match scD a b with
  | true => k (.bl (flEq a b))
  | false => shp a = true ∧ shp b = true ∧ k (.bl (eqD a b))
def gNeU : G2 := fun a b _ k => match scD a b with
  | true => k (.bl (!flEq a b))
  | false => shp a = true ∧ shp b = true ∧ k (.bl (!eqD a b))
theorem oq_eqU (hu : X.A.units + 64 < cLine) : OQ X (compareOp .Eq) gEqU := OQ.or oq_eqF (oq_eq hu) fun a b L k h => by
  unfold gEqU at h
  split at h
  · rename_i hs; exact .inl ⟨hs, h⟩
  · exact .inr h
theorem oq_neU (hu : X.A.units + 64 < cLine) : OQ X (compareOp .NotEq) gNeU := OQ.or oq_neF (oq_ne hu) fun a b L k h => by
  unfold gNeU at h
  split at h
  · rename_i hs; exact .inl ⟨hs, h⟩
  · exact .inr h
/-! ### * -/
def MulOk (i j : Int) : Prop := (i.natAbs < 2 ^ 63 ∨ j.natAbs < 2 ^ 63) ∨ CMulW i j
theorem MulOk.ok {i j : Int} (h : MulOk i j) : IntMulOk i j := by
  have key : ∀ z : Int, z.natAbs < 2 ^ 63 → Builtin.Int.intBits z ≤ 64 := fun z hz => intBits_le_64 (by omega) (by omega)
  rcases h with (h | h) | h
  · exact .of_left (key i h)
  · exact .of_right (key j h)
  · exact h.ok
theorem op_mulU : OpR X (binaryOp .Mult) (rI MulOk fun i j => .int (i * j)) := opI fun _ _ _ _ _ _ _ hc q => PyProof.Rows.mul_int q (MulOk.ok hc)
abbrev gMulU : G2 := gI MulOk fun i j => .int (i * j)
theorem oq_mulU : OQ X (binaryOp .Mult) gMulU := ⟨_, op_mulU, sim2_I fun _ _ _ _ => .int _⟩
/-! ### a def that may be called: by its name -/
structure Cal (P : Program) (w : World) (K : PySem.W.Frag) (mg : Str → Option Value) (base : Heap) (n : Nat) (x : Str) (ps : List Str) (dd : List D) (g : DSp) : Prop where
  ex : ∃ (f : Addr) (fd : FuncData) (us : List Value) (dvs : List V), FnOk P w K mg base (L2.CX P w) n f fd ps (spD K g) ∧ mg x = some (.ref f) ∧ PySem.W.keepIn K (.ref f) = true ∧ Binds K fd ps us ∧ Vals dvs us ∧ ∀ L H, RpAll L K H dvs dd
theorem q_cal {x : Str} {p : Pos} {n k : Nat} {ps : List Str} {g : DSp} {dd : List D} (F : Cal X.prog X.w X.K X.mg X.base n x ps dd g) (hn : n ≤ k) (hr : Room k X.A) (tk : Takes X Wx) (hg : Gl X x) (ha : QA X Wx (e :: es) dl) (hdb : (x == ("__debug__" : Str)) = false := by decide)
    (he : starEach (e :: es) X.env = (false, eval e X.env) :: starEach es X.env := by rfl) (hpl : (backTo pos (starEach es X.env)).any (·.1) = false := by rfl) : QE X Wx (.Call (.Name x p) (e :: es) [] pos) (dCall g dd dl) := by
  obtain ⟨f, fd, us, dvs, F, hm, hk, hb, hd, hdd⟩ := F.ex
  exact q_call F (hr.mono hn) hg hm hk hb hd hdd tk ha hdb he hpl
/-- .. by keywords -/
structure CalW (P : Program) (w : World) (K : PySem.W.Frag) (mg : Str → Option Value) (base : Heap) (n : Nat) (x : Str) (np : Nat) (ks : List Str) (dd : List D) (gp : Perm3) (g : DSp) : Prop where
  ex : ∃ (f : Addr) (fd : FuncData) (ps : List Str) (us : List Value) (dvs : List V), FnOk P w K mg base (L2.CX P w) n f fd ps (spD K g) ∧ mg x = some (.ref f) ∧ PySem.W.keepIn K (.ref f) = true ∧ KwB K fd ps np ks us gp ∧ PermOk @gp ∧ Vals dvs us ∧ ∀ L H, RpAll L K H dvs dd
theorem q_calW0 {x : Str} {p : Pos} {n k : Nat} {ks : List Str} {gp : Perm3} {g : DSp} {dd : List D} {kws : List Keyword} (F : CalW X.prog X.w X.K X.mg X.base n x 0 ks dd gp g) (hn : n ≤ k) (hr : Room k X.A) (tk : Takes X Wx) (hg : Gl X x) (hkw : QK X Wx kws dk) (hall : (backToKw pos (keywordEach kws X.env)).all (·.1.isSome) = true := by rfl) (hks : (backToKw pos (keywordEach kws X.env)).filterMap (·.1) = ks := by rfl)
    (hdb : (x == ("__debug__" : Str)) = false := by decide) (hpl : ((backTo pos (starEach [] X.env)).any (·.1) || (backToKw pos (keywordEach kws X.env)).any (·.1.isNone)) = false := by rfl) : QE X Wx (.Call (.Name x p) [] kws pos) (dCallW 0 ks.length g gp dd dNil dk) := by
  obtain ⟨f, fd, ps, us, dvs, F, hm, hk, hb, hp, hd, hdd⟩ := F.ex
  exact q_callW0 gp F (hr.mono hn) hg hm hk hb hp hd hdd tk hkw hall hks hdb hpl
theorem q_calW {x : Str} {p : Pos} {n k np : Nat} {ks : List Str} {gp : Perm3} {g : DSp} {dd : List D} {kws : List Keyword} (F : CalW X.prog X.w X.K X.mg X.base n x np ks dd gp g) (hn : n ≤ k) (hr : Room k X.A) (tk : Takes X Wx) (hg : Gl X x) (ha : QA X Wx (e :: es) dl) (hkw : QK X Wx kws dk) (hall : (backToKw pos (keywordEach kws X.env)).all (·.1.isSome) = true := by rfl) (hks : (backToKw pos (keywordEach kws X.env)).filterMap (·.1) = ks := by rfl)
    (hdb : (x == ("__debug__" : Str)) = false := by decide) (he : starEach (e :: es) X.env = (false, eval e X.env) :: starEach es X.env := by rfl) (hpl : ((backTo pos (starEach (e :: es) X.env)).any (·.1) || (backToKw pos (keywordEach kws X.env)).any (·.1.isNone)) = false := by rfl) : QE X Wx (.Call (.Name x p) (e :: es) kws pos) (dCallW np ks.length g gp dd dl dk) := by
  obtain ⟨f, fd, ps, us, dvs, F, hm, hk, hb, hp, hd, hdd⟩ := F.ex
  exact q_callW gp F (hr.mono hn) hg hm hk hb hp hd hdd tk ha hkw hall hks hdb he hpl
/-- pure defs: the answer is f of the arguments -/
def pur (C : List D → Prop) (f : List D → D) : DSp := fun ds L k _ => C ds ∧ k (f ds) L
end
theorem bb_len : bootBuiltins "len" = some (.builtin "len") := by decide +kernel
theorem bb_abs : bootBuiltins "abs" = some (.builtin "abs") := by decide +kernel
theorem bb_max : bootBuiltins "max" = some (.builtin "max") := by decide +kernel
theorem bb_min : bootBuiltins "min" = some (.builtin "min") := by decide +kernel
theorem bb_all : bootBuiltins "all" = some (.builtin "all") := by decide +kernel
theorem bb_any : bootBuiltins "any" = some (.builtin "any") := by decide +kernel
theorem bb_isinstance : bootBuiltins "isinstance" = some (.builtin "isinstance") := by decide +kernel
theorem bb_sorted : bootBuiltins "sorted" = some (.builtin "sorted") := by decide +kernel
theorem bb_sum : bootBuiltins "sum" = some (.builtin "sum") := by decide +kernel
theorem bb_int : bootBuiltins "int" = some (.type "int") := by decide +kernel
theorem bb_str : bootBuiltins "str" = some (.type "str") := by decide +kernel
theorem bb_list : bootBuiltins "list" = some (.type "list") := by decide +kernel
theorem bb_tuple : bootBuiltins "tuple" = some (.type "tuple") := by decide +kernel
theorem bb_dict : bootBuiltins "dict" = some (.type "dict") := by decide +kernel
theorem bb_bool : bootBuiltins "bool" = some (.type "bool") := by decide +kernel
theorem bb_range : bootBuiltins "range" = some (.type "range") := by decide +kernel
theorem bb_zip : bootBuiltins "zip" = some (.type "zip") := by decide +kernel
theorem bb_enumerate : bootBuiltins "enumerate" = some (.type "enumerate") := by decide +kernel
theorem bb_reversed : bootBuiltins "reversed" = some (.type "reversed") := by decide +kernel
end DL

namespace DL
open PySem PySem.Spec PyProof.Rows L2
section
variable {X : Cx} {Wx : WX} {a b c e o : Expr} {es rest : List Expr} {da db dc de do' : DE} {dt du : DT} {dl dk : DA} {pos : Pos}
/-! ### a field of an error -/
theorem lookup_rp {L : Led} {K : PySem.W.Frag} {H : Hp} {f : Str} : ∀ {ns : List Str} {xs : List V} {ds : List D} {d : D}, RpAll L K H xs ds → (ns.zip ds).lookup f = some d → ∃ v, (ns.zip xs).lookup f = some v ∧ Rp L K H v d
  | [], _, _, _, _, h => by simp at h
  | _ :: _, _, _, _, .nil, h => by simp at h
  | n :: ns, _, _, d, .cons (v := v) (vs := vs) (d := e) (ds := ds) r t, h => by
    by_cases hf : f = n
    · subst hf
      have h' : List.lookup f ((f, e) :: ns.zip ds) = some d := h
      rw [List.lookup_cons_self] at h'
      cases h'
      exact ⟨v, List.lookup_cons_self, r⟩
    · have q : (f == n) = false := by simpa using hf
      have h' : List.lookup f ((n, e) :: ns.zip ds) = some d := h
      rw [List.lookup_cons, q] at h'
      obtain ⟨w, h1, h2⟩ := lookup_rp t h'
      refine ⟨w, ?_, h2⟩
      show List.lookup f ((n, v) :: ns.zip vs) = some w
      rw [List.lookup_cons, q]
      exact h1
def tAtE (K : PySem.W.Frag) (f : Str) (te : TE) : TE := fun σ H Q => te σ H fun x H1 => ∃ (a C d : Addr) (φ : Heap → Prop) (fs : List (Str × V)) (v : V), x = .ref a ∧ H1 a = some (.ext φ) ∧ (∀ h, φ h → ExcAt h a C d) ∧ XDict H1 d fs ∧ XfC K C ∧ PySem.W.findIn K (.ref C) f = some none ∧ fs.lookup f = some v ∧ Q v H1
theorem pe_atE {te : TE} {f : Str} (he : PE X e te) (hb : attributeBase e f X.env (eval e X.env) = eval e X.env := by rfl) : PE X (.Attribute e f pos) (tAtE X.K f te) := by
  refine ⟨fun pins s σ H Q I h => ?_⟩
  refine attr_of hb (thn (he.run pins s σ H _ I h) fun u s1 hh => ?_)
  obtain ⟨x, H1, I1, rx, a, C, d, φ, fs, v, ex, ea, hφ, xd, T, hno, l, q⟩ := hh
  subst ex
  obtain rfl : u = Value.ref a := rx
  have ob : φ s1.heap := by
    have z : ObjOk X.prog X.w H1 s1.heap a (.ext φ) := I1.hok a _ ea
    exact z.1
  obtain ⟨oe, vs, ha, hc, hdd, hdat⟩ := hφ _ ob
  have ns : ∃ mA, s1.heap.Ns1 d mA ∧ ∀ f, RelO (fs.lookup f) (mA f) := by
    rcases xd with xd | xd
    · exact (show ObjOk X.prog X.w H1 s1.heap d (.xd fs) from I1.hok d _ xd)
    · exact exd_at I1.hok xd
  obtain ⟨mA, hns, hr⟩ := ns
  obtain ⟨od, ho, hl⟩ := lookIn_ns hns
  obtain ⟨u, hu, ru⟩ := RelO.some_of (v := v) (o := mA f) (by rw [← l]; exact hr f)
  have J : PySem.W.InstAt s1.heap a oe C (some od) := ⟨ha, hc, by unfold PySem.W.notCls; rw [hdat] <;> rfl, by rw [hdd]; exact ho⟩
  exact HandSPX.exc_get I1.kIn J T.ga T.gg T.exC (PySem.W.findObj_own T.hdC hno rfl (by rw [hl, hu])) (handed_of ru) ⟨v, H1, I1.tok _, ru, q⟩
/-- what the written part must say of a class whose errors' field f is read -/
def FldOk (K : PySem.W.Frag) (C : Addr) (f : Str) : Prop := XfC K C ∧ PySem.W.findIn K (.ref C) f = some none
def dAtE (K : PySem.W.Frag) (f : Str) (da : DE) : DE := fun env L k x => da env L (fun a L1 => match a with
  | .exc C ns vs => FldOk K C f ∧ match (ns.zip vs).lookup f with
    | some d => k d L1
    | none => False
  | _ => False) x
theorem q_atE {f : Str} (he : QE X Wx e da) (hb : attributeBase e f X.env (eval e X.env) = eval e X.env := by rfl) : QE X Wx (.Attribute e f pos) (dAtE X.K f da) := by
  obtain ⟨ta, pa, sa⟩ := he.ex
  refine ⟨_, pe_atE pa hb, fun σ H env L k x Q st h hk hx => ?_⟩
  refine sa σ H env L _ x _ st h (fun a L1 va H1 h1 g1 j1 r1 => ?_) hx
  cases r1 <;> first | exact h1.elim | skip
  rename_i n m ea hφ xd el rv
  obtain ⟨fo, h1⟩ := h1
  split at h1
  · rename_i d hl
    obtain ⟨v, hv, rd⟩ := lookup_rp rv hl
    exact ⟨_, _, _, _, _, v, rfl, ea, hφ, xd, fo.1, fo.2, hv, hk _ L1 _ H1 h1 g1 j1 rd⟩
  · exact h1.elim
/-! ### raise C(..), C an own class over ValueError whose __init__ stores code and one field, or code alone -/
def spI1 (C : Addr) (code f : Str) : Sp := fun vs H Q _ => ∃ (a : Addr) (v : V), vs = [.ref a, v] ∧ H a = some (exo a C none) ∧ ∀ d, H d = none → d ≠ a → Q .non (upd (upd (upd H d (exd d [("code", .str code)])) a (exo a C (some d))) d (exd d [(f, v), ("code", .str code)]))
def spI0 (C : Addr) (code : Str) : Sp := fun vs H Q _ => ∃ (a : Addr), vs = [.ref a] ∧ H a = some (exo a C none) ∧ ∀ d, H d = none → d ≠ a → Q .non (upd (upd H d (exd d [("code", .str code)])) a (exo a C (some d)))
/-- one field alone: Halt(end) -/
def spIf (C : Addr) (f : Str) : Sp := fun vs H Q _ => ∃ (a : Addr) (v : V), vs = [.ref a, v] ∧ H a = some (exo a C none) ∧ ∀ d, H d = none → d ≠ a → Q .non (upd (upd H d (exd d [(f, v)])) a (exo a C (some d)))
/-- an own error class by name: what is needed to make one -/
structure ExCls (P : Program) (w : World) (K : PySem.W.Frag) (mg : Str → Option Value) (base : Heap) (x : Str) (C : Addr) (ps : List Str) (sp : Sp) : Prop where
  oex : OexC K C
  gC : mg x = some (.ref C)
  make_ : ∃ (fI : Addr) (fd : FuncData), PySem.W.findIn K (.ref C) "__init__" = some (some (.ref fI)) ∧ PySem.W.typeIn K (.ref fI) = some (.type "function") ∧ FnOk P w K mg base (L2.CX P w) 1 fI fd ps sp ∧ Binds K fd ps []
def dRaise1 (C : Addr) (code f : Str) (dl : DA) : DS := fun D env L => dl env L (fun ds L1 => match ds with
  | [v] => D.ex ⟨.ref C, [f, "code"], [v, .str code]⟩ env L1
  | _ => False) D.ex
theorem ex_free {H : Hp} {a d : Addr} {o o2 : HO} (ha : H a = none) (hd : (upd H a o) d = none) (hne : d ≠ a) : H d = none := by rw [upd_ne hne] at hd; exact hd
theorem s_raise1 {x : Str} {C : Addr} {ps : List Str} {code f : Str} {p pos2 : Pos} {k : Nat} (T : ExCls X.prog X.w X.K X.mg X.base x C ps (spI1 C code f)) (hcalm : X.calm = true) (hr : Room k X.A) (h2 : 2 ≤ k) (tk : Takes X Wx) (hg : Gl X x) (ha : QA X Wx [e] dl)
    (hdb : (x == ("__debug__" : Str)) = false := by decide) (he : starEach [e] X.env = (false, eval e X.env) :: starEach [] X.env := by rfl) (hpl : (backTo pos (starEach [] X.env)).any (·.1) = false := by rfl) :
    QS X Wx (.Raise (some (.Call (.Name x p) [e] [] pos)) none pos2) (dRaise1 C code f dl) := by
  obtain ⟨fI, fd, iC, tI, F1, hb⟩ := T.make_
  obtain ⟨ta, pa, sa⟩ := ha.ex
  refine ⟨_, ps_raise (W := Wx) hcalm tk (pmk_oex T.oex iC tI F1 (hr.mono h2) hb .nil (fun _ _ _ _ _ _ _ h => by obtain ⟨_, _, _, _, _, _, _, _, _, _, _, _, z⟩ := h; exact z.elim) hg T.gC pa hdb he hpl), fun σ H env L D' D st h ok => ?_⟩
  refine sa σ H env L _ _ _ st h (fun ds L1 vs H1 h1 g1 j1 r1 => ?_) ok.ex
  split at h1
  · rename_i v
    cases r1 with
    | cons rv r2 =>
      cases r2
      rename_i vv
      refine ⟨by simp, fun q hq => ⟨q, vv, rfl, upd_same, fun d hd hne => ?_⟩⟩
      have hd1 : H1 d = none := by rw [upd_ne hne] at hd; exact hd
      refine ⟨rfl, d, _, ?_, upd_same, hd1, ?_⟩
      · rw [upd_ne (Ne.symm hne), upd_same]
      · have s : Same H1 (upd (del (upd (upd (upd (upd H1 q (exo q C none)) d (exd d [("code", .str code)])) q (exo q C (some d))) d (exd d [(f, vv), ("code", .str code)])) q) d (.xd [(f, vv), ("code", .str code)])) := fun b u hb => by
          have n1 : b ≠ q := ne_of_none hb hq
          have n2 : b ≠ d := ne_of_none hb hd1
          rw [upd_ne n2, del_ne n1, upd_ne n2, upd_ne n1, upd_ne n2, upd_ne n1]
          exact hb
        have g2 := g1.trans (Go.same (L := L1) s)
        have j2 := j1.same s
        exact ok.ex ⟨.ref C, [f, "code"], [v, .str code]⟩ env L1 d _ σ h1 g2 (st.go g2 j2) ⟨j1.notIn hd1, [vv, .str code], upd_same, rfl, .cons (rv.go (Go.same s)) (.cons (.str code) .nil)⟩
  · exact h1.elim
end
end DL

namespace DL
open PySem PySem.Spec PyProof.Rows L2
/-! ### cells that are known for a while -/
abbrev Cel := Addr → Option Obj
def addC (cel : Cel) (H : Hp) : Hp := fun b => match cel b with
  | some o => some (celO o)
  | none => H b
def delC (cel : Cel) (H : Hp) : Hp := fun b => match cel b with
  | some _ => none
  | none => H b
section
variable {cel : Cel} {H H' : Hp} {b : Addr} {o : Obj}
theorem addC_in (h : cel b = some o) : addC cel H b = some (celO o) := by unfold addC; rw [h]
theorem addC_out (h : cel b = none) : addC cel H b = H b := by unfold addC; rw [h]
theorem delC_in (h : cel b = some o) : delC cel H b = none := by unfold delC; rw [h]
theorem delC_out (h : cel b = none) : delC cel H b = H b := by unfold delC; rw [h]
end
/-- what the cells' objects are ahead of a call -/
structure CelOk (cel : Cel) (H : Hp) (h : Heap) (fs : List Addr) : Prop where
  at_ : ∀ b o, cel b = some o → h.get? b = some o
  free : ∀ b o, cel b = some o → H b = none
  nofr : ∀ b o, cel b = some o → b ∉ fs
section
variable {P : Program} {w : World} {K : PySem.W.Frag} {mg : Str → Option Value} {base : Heap} {cel : Cel} {H H' : Hp} {h h' B : Heap} {fs : List Addr} {outer : List Env} {s s' : Shared} {A : Around} {Q : VK} {E : XK}
theorem cel_none (c : CelOk cel H h fs) {b : Addr} {u : HO} (e : H b = some u) : cel b = none := by
  cases q : cel b with
  | none => rfl
  | some o => rw [c.free b o q] at e; cases e
theorem hok_add (c : CelOk cel H h fs) (x : HOk P w H h) : HOk P w (addC cel H) h := fun a u e => by
  cases q : cel a with
  | some o =>
    rw [addC_in q] at e
    cases e
    exact ⟨c.at_ a o q, o, c.at_ a o q⟩
  | none =>
    rw [addC_out q] at e
    exact (x a u e).stay (fun _ _ _ z => z) (fun d z => by rw [addC_out (cel_none c z)]; exact z) fun d xs z => by rw [addC_out (cel_none c z)]; exact z
/-- known ones go out of sight -/
theorem hok_del {H1 : Hp} (hc : ∀ b o, cel b = some o → H1 b = some (celO o)) (x : HOk P w H1 h) : HOk P w (delC cel H1) h := fun a u e => by
  cases q : cel a with
  | some o => rw [delC_in q] at e; cases e
  | none =>
    rw [delC_out q] at e
    have out : ∀ d z, H1 d = some z → (∀ o, z ≠ celO o) → cel d = none := fun d z e n => by
      cases q : cel d with
      | none => rfl
      | some o => rw [hc d o q] at e; exact absurd (Option.some.inj e).symm (n o)
    exact (x a u e).stay (fun _ _ _ z => z) (fun d z => by rw [delC_out (out d _ z fun o e => by cases e)]; exact z) fun d xs z => by rw [delC_out (out d _ z fun o e => by cases e)]; exact z
theorem env0_add (c : CelOk cel H s.heap (frs outer)) (hb : ∀ b o, cel b = some o → base.get? b = none) (e : Env0 P w K mg base A outer s H) : Env0 P w K mg base A outer s (addC cel H) := by
  refine ⟨e.frames, e.mod, fun b o q => ⟨(e.bs b o q).1, ?_⟩, e.bsz, e.funs, fun b hb => ?_, hok_add c e.hok, e.bare⟩
  · have z : cel b = none := by
      cases q2 : cel b with
      | none => rfl
      | some o2 => rw [hb b o2 q2] at q; cases q
    rw [addC_out z]
    exact (e.bs b o q).2
  · have z : cel b = none := by
      cases q2 : cel b with
      | none => rfl
      | some o2 => exact absurd hb (c.nofr b o2 q2)
    rw [addC_out z]
    exact e.frf b hb
theorem env0_del (hc : ∀ b o, cel b = some o → H b = some (celO o)) (e : Env0 P w K mg base A outer s H) : Env0 P w K mg base A outer s (delC cel H) := by
  have nn : ∀ b, H b = none → delC cel H b = none := fun b z => by
    cases q : cel b with
    | none => rw [delC_out q]; exact z
    | some o => exact delC_in q
  exact ⟨e.frames, e.mod, fun b o q => ⟨(e.bs b o q).1, nn b (e.bs b o q).2⟩, e.bsz, e.funs, fun b hb => nn b (e.frf b hb), hok_del hc e.hok, e.bare⟩
/-- behind a call that was made with the cells known -/
theorem un_del (c : CelOk cel H h fs) (hok : HOk P w H' h') (u : Un fs [] (addC cel H) H' h h') : Un fs [] H (delC cel H') h h' := by
  have kn : ∀ b o, cel b = some o → H' b = some (celO o) := fun b o q => u.frzs b o _ (addC_in q)
  refine ⟨fun b o e n hb hx => ?_, fun b o e n hb hx => ?_, fun b o e n hx => ?_, fun b o e hx => u.there b o e hx, fun b xs q => ?_, fun b o v q => ?_, fun b ps q => ?_⟩
  · cases q : cel b with
    | some o' =>
      have e1 : h'.get? b = some o' := (hok b _ (kn b o' q)).1
      have e2 := c.at_ b o' q
      rw [e] at e2
      cases e2
      exact e1
    | none => exact u.keep b o e (by rw [addC_out q]; exact n) hb hx
  · cases q : cel b with
    | some o' => exact absurd hb (c.nofr b o' q)
    | none => exact u.slot b o e (by rw [addC_out q]; exact n) hb hx
  · cases q : cel b with
    | some o' => exact delC_in q
    | none => rw [delC_out q]; exact u.free b o e (by rw [addC_out q]; exact n) hx
  · have z := cel_none c q
    rw [delC_out z]
    exact u.tups b xs (by rw [addC_out z]; exact q)
  · have z := cel_none c q
    rw [delC_out z]
    exact u.frzs b o v (by rw [addC_out z]; exact q)
  · have z := cel_none c q
    rw [delC_out z]
    exact u.tbls b ps (by rw [addC_out z]; exact q)
theorem ub_del (c : CelOk cel H h fs) (hok : HOk P w H' B) (u : UB fs (addC cel H) H' h B h') : UB fs H (delC cel H') h B h' := by
  have kn : ∀ b o, cel b = some o → H' b = some (celO o) := fun b o q => u.frzs b o _ (addC_in q)
  refine ⟨fun b o e n hb => ?_, u.slot, fun b o e n => ?_, u.there, fun b xs q => ?_, fun b o v q => ?_, fun b ps q => ?_⟩
  · cases q : cel b with
    | some o' =>
      have e1 : B.get? b = some o' := (hok b _ (kn b o' q)).1
      have e2 := c.at_ b o' q
      rw [e] at e2
      cases e2
      exact e1
    | none => exact u.keep b o e (by rw [addC_out q]; exact n) hb
  · cases q : cel b with
    | some o' => exact delC_in q
    | none => rw [delC_out q]; exact u.free b o e (by rw [addC_out q]; exact n)
  · have z := cel_none c q
    rw [delC_out z]
    exact u.tups b xs (by rw [addC_out z]; exact q)
  · have z := cel_none c q
    rw [delC_out z]
    exact u.frzs b o v (by rw [addC_out z]; exact q)
  · have z := cel_none c q
    rw [delC_out z]
    exact u.tbls b ps (by rw [addC_out z]; exact q)
theorem cr_del (c : CelOk cel H s.heap (frs outer)) {r : Result} (h : CR (L2.CX P w) outer P w (addC cel H) s (fun v H' => Q v (delC cel H')) (fun cls d H' => E cls d (delC cel H')) r s') : CR (L2.CX P w) outer P w H s Q E r s' := by
  cases r with
  | ok fl =>
    cases fl with
    | ret u =>
      obtain ⟨v, H', os, bare, un, hok, rv, q⟩ := h
      exact ⟨v, delC cel H', os, bare, un_del c hok un, hok_del (fun b o e => un.frzs b o _ (addC_in e)) hok, rv, q⟩
    | next => exact h
    | brk => exact h
    | cont => exact h
  | error e =>
    obtain ⟨a, B, H', cls, d, eq, fly, hok, ub, na, os, bare, q⟩ := h
    refine ⟨a, B, delC cel H', cls, d, eq, fly, hok_del (fun b o e => ub.frzs b o _ (addC_in e)) hok, ub_del c hok ub, ?_, os, bare, q⟩
    cases q : cel a with
    | some o => exact delC_in q
    | none => rw [delC_out q]; exact na
/-- behind a call that was made with known cells out of sight -/
theorem un_add (hc : ∀ b o, cel b = some o → H b = some (celO o)) (u : Un fs [] (delC cel H) H' h h') : Un fs [] H (addC cel H') h h' := by
  have out : ∀ b, H b = none → cel b = none := fun b z => by
    cases q : cel b with
    | none => rfl
    | some o => rw [hc b o q] at z; cases z
  have out2 : ∀ d z, H d = some z → (∀ o, z ≠ celO o) → cel d = none := fun d z e n => by
    cases q : cel d with
    | none => rfl
    | some o => rw [hc d o q] at e; exact absurd (Option.some.inj e).symm (n o)
  refine ⟨fun b o e n hb hx => u.keep b o e (by rw [delC_out (out b n)]; exact n) hb hx, fun b o e n hb hx => u.slot b o e (by rw [delC_out (out b n)]; exact n) hb hx, fun b o e n hx => ?_, u.there, fun b xs q => ?_, fun b o v q => ?_, fun b ps q => ?_⟩
  · rw [addC_out (out b n)]
    exact u.free b o e (by rw [delC_out (out b n)]; exact n) hx
  · have z := out2 b _ q (fun o e => by cases e)
    rw [addC_out z]
    exact u.tups b xs (by rw [delC_out z]; exact q)
  · cases z : cel b with
    | some o' =>
      rw [hc b o' z] at q
      rw [addC_in z]
      exact q
    | none =>
      rw [addC_out z]
      exact u.frzs b o v (by rw [delC_out z]; exact q)
  · have z := out2 b _ q (fun o e => by cases e)
    rw [addC_out z]
    exact u.tbls b ps (by rw [delC_out z]; exact q)
theorem ub_add (hc : ∀ b o, cel b = some o → H b = some (celO o)) (u : UB fs (delC cel H) H' h B h') : UB fs H (addC cel H') h B h' := by
  have out : ∀ b, H b = none → cel b = none := fun b z => by
    cases q : cel b with
    | none => rfl
    | some o => rw [hc b o q] at z; cases z
  have out2 : ∀ d z, H d = some z → (∀ o, z ≠ celO o) → cel d = none := fun d z e n => by
    cases q : cel d with
    | none => rfl
    | some o => rw [hc d o q] at e; exact absurd (Option.some.inj e).symm (n o)
  refine ⟨fun b o e n hb => u.keep b o e (by rw [delC_out (out b n)]; exact n) hb, u.slot, fun b o e n => ?_, u.there, fun b xs q => ?_, fun b o v q => ?_, fun b ps q => ?_⟩
  · rw [addC_out (out b n)]
    exact u.free b o e (by rw [delC_out (out b n)]; exact n)
  · have z := out2 b _ q (fun o e => by cases e)
    rw [addC_out z]
    exact u.tups b xs (by rw [delC_out z]; exact q)
  · cases z : cel b with
    | some o' =>
      rw [hc b o' z] at q
      rw [addC_in z]
      exact q
    | none =>
      rw [addC_out z]
      exact u.frzs b o v (by rw [delC_out z]; exact q)
  · have z := out2 b _ q (fun o e => by cases e)
    rw [addC_out z]
    exact u.tbls b ps (by rw [delC_out z]; exact q)
theorem hok_back (ca : ∀ b o, cel b = some o → h'.get? b = some o) (cn : ∀ b o, cel b = some o → H' b = none) (x : HOk P w H' h') : HOk P w (addC cel H') h' := hok_add (fs := []) ⟨ca, cn, fun _ _ _ z => by cases z⟩ x
theorem cr_add (hc : ∀ b o, cel b = some o → H b = some (celO o)) (hh : HOk P w H s.heap) (hf : ∀ b ∈ frs outer, H b = none) {r : Result} (h : CR (L2.CX P w) outer P w (delC cel H) s (fun v H' => (∀ b o, cel b = some o → H' b = none) → Q v (addC cel H')) (fun cls d H' => (∀ b o, cel b = some o → H' b = none) → E cls d (addC cel H')) r s') : CR (L2.CX P w) outer P w H s Q E r s' := by
  have at_ : ∀ b o, cel b = some o → s.heap.get? b = some o := fun b o q => (hh b _ (hc b o q)).1
  have nf : ∀ b o, cel b = some o → b ∉ frs outer := fun b o q z => by have := hf b z; rw [hc b o q] at this; cases this
  cases r with
  | ok fl =>
    cases fl with
    | ret u =>
      obtain ⟨v, H', os, bare, un, hok, rv, q⟩ := h
      have cn : ∀ b o, cel b = some o → H' b = none := fun b o e => un.free b o (at_ b o e) (delC_in e) (by simp)
      exact ⟨v, addC cel H', os, bare, un_add hc un, hok_back (fun b o e => un.keep b o (at_ b o e) (delC_in e) (nf b o e) (by simp)) cn hok, rv, q cn⟩
    | next => exact h
    | brk => exact h
    | cont => exact h
  | error e =>
    obtain ⟨a, B, H', cls, d, eq, fly, hok, ub, na, os, bare, q⟩ := h
    have cn : ∀ b o, cel b = some o → H' b = none := fun b o e => ub.free b o (at_ b o e) (delC_in e)
    have ca : ∀ b o, cel b = some o → B.get? b = some o := fun b o e => ub.keep b o (at_ b o e) (delC_in e) (nf b o e)
    refine ⟨a, B, addC cel H', cls, d, eq, fly, hok_back ca cn hok, ub_add hc ub, ?_, os, bare, q cn⟩
    cases z : cel a with
    | some o =>
      have e1 := ca a o z
      obtain ⟨_, na2, _⟩ := id fly
      rw [na2] at e1
      cases e1
    | none => rw [addC_out z]; exact na
end
end DL

namespace DL
open PySem PySem.Spec PyProof.Rows L2
mutual
/-- no lambda with known cells within -/
def pln : D → Bool
  | .clo _ _ => false
  | .lst xs => plns xs
  | .tup xs => plns xs
  | .ro xs => plns xs
  | .dk _ xs => plns xs
  | .dt _ xs => plns xs
  | .obj _ _ xs => plns xs
  | .exc _ _ xs => plns xs
  | .non => true | .bl _ => true | .int _ => true | .str _ => true | .fnv _ _ => true | .tab _ => true | .ptr _ => true | .ty _ => true
def plns : List D → Bool
  | [] => true
  | d :: r => pln d && plns r
end
def plnL (L : Led) : Bool := plns (L.map (·.2))
theorem plns_map {α : Type} {f : α → D} (h : ∀ a, pln (f a) = true) : ∀ l : List α, plns (l.map f) = true
  | [] => by unfold plns; rfl
  | a :: r => by
    show plns (f a :: r.map f) = true
    unfold plns
    rw [h a, plns_map h r]; rfl
theorem plns_mem : ∀ {l : List D} {d : D}, plns l = true → d ∈ l → pln d = true
  | [], _, _, h => by cases h
  | a :: r, d, p, h => by
    unfold plns at p
    have p := Bool.and_eq_true_iff.mp p
    rcases List.mem_cons.mp h with e | e
    · rw [e]; exact p.1
    · exact plns_mem p.2 e
theorem plns_append : ∀ {a b : List D}, plns a = true → plns b = true → plns (a ++ b) = true
  | [], _, _, h => h
  | x :: a, b, p, h => by
    unfold plns at p
    have p := Bool.and_eq_true_iff.mp p
    show plns (x :: (a ++ b)) = true
    unfold plns
    rw [p.1, plns_append p.2 h]; rfl
section
variable {L : Led} {K : PySem.W.Frag} {H : Hp} {cel : Cel}
section
variable (hc : ∀ b o, cel b = some o → H b = some (celO o))
theorem del_keep {b : Addr} {u : HO} (hc : ∀ b o, cel b = some o → H b = some (celO o)) (e : H b = some u) (n : ∀ o, u ≠ celO o) : delC cel H b = some u := by
  have z : cel b = none := by
    cases q : cel b with
    | none => rfl
    | some o => rw [hc b o q] at e; exact absurd (Option.some.inj e).symm (n o)
  rw [delC_out z]
  exact e
include hc
theorem rd_del {a : Addr} {u : HO} (h : Rd H a u) (n : ∀ o, u ≠ celO o) (n2 : ∀ x, u ≠ .own x) : Rd (delC cel H) a u := by
  rcases h with h | ⟨o, h⟩
  · exact .inl (del_keep hc h n)
  · refine .inr ⟨o, del_keep hc h fun o' e => ?_⟩
    have e2 : u = .own 0 := by cases e; rfl
    exact n2 0 e2
theorem fnv_del {f : Addr} {F : LamF} {cl : List (Str × Addr)} (h : FnvAt L H f F cl) : FnvAt L (delC cel H) f F cl := by
  obtain ⟨nf, c, dV, h1, n2, h2, h3⟩ := h
  refine ⟨nf, c, dV, del_keep hc h1 fun o e => ?_, n2, del_keep hc h2 fun o e => ?_, ?_⟩
  · unfold LamO at e; cases e
  · unfold LamX.CodeO at e; cases e
  · rcases h3 with h3 | ⟨z, t, e, n, h3⟩
    · exact .inl h3
    · exact .inr ⟨z, t, e, n, del_keep hc h3 fun o e => by cases e⟩
end
mutual
theorem Rp.del (hc : ∀ b o, cel b = some o → H b = some (celO o)) : ∀ {v : V} {d : D}, pln d = true → Rp L K H v d → Rp L K (delC cel H) v d
  | _, _, _, .non => .non
  | _, _, _, .bl b => .bl b
  | _, _, _, .int i => .int i
  | _, _, _, .str x => .str x
  | _, _, _, .ty n => .ty n
  | _, _, _, .ptr a => .ptr a
  | _, _, p, .lst n h r => .lst n (del_keep hc h fun o e => by cases e) (RpAll.del hc (by simpa only [pln] using p) r)
  | _, _, p, .ro s r => .ro (s.elim (fun z => .inl ⟨z.1, rd_del hc z.2 (fun o e => by cases e) (fun o e => by cases e)⟩) .inr) (RpAll.del hc (by simpa only [pln] using p) r)
  | _, _, p, .tup s r => .tup (s.elim (fun z => .inl ⟨z.1, rd_del hc z.2 (fun o e => by cases e) (fun o e => by cases e)⟩) .inr) (RpAll.del hc (by simpa only [pln] using p) r)
  | _, _, p, .dk n h e r => .dk n (rd_del hc h (fun o e => by cases e) (fun o e => by cases e)) e (RpAll.del hc (by simpa only [pln] using p) r)
  | _, _, p, .dt n h e r => .dt n (del_keep hc h fun o e => by cases e) e (RpAll.del hc (by simpa only [pln] using p) r)
  | _, _, p, .obj n h e r => .obj n (del_keep hc h fun o e => by cases e) e (RpAll.del hc (by simpa only [pln] using p) r)
  | _, _, p, .exc n m h q x e r => .exc n m (del_keep hc h fun o e => by cases e) q (x.elim (fun z => .inl (del_keep hc z fun o e => by cases e)) (fun z => .inr (del_keep hc z fun o e => by unfold exd at e; cases e))) e (RpAll.del hc (by simpa only [pln] using p) r)
  | _, _, _, .fnv h => .fnv (fnv_del hc h)
  | _, _, p, .clo _ _ => by simp [pln] at p
theorem RpAll.del (hc : ∀ b o, cel b = some o → H b = some (celO o)) : ∀ {vs : List V} {ds : List D}, plns ds = true → RpAll L K H vs ds → RpAll L K (delC cel H) vs ds
  | _, _, _, .nil => .nil
  | _, _, p, .cons h r => by
    have p := Bool.and_eq_true_iff.mp (show (pln _ && plns _) = true by simpa only [plns] using p)
    exact .cons (Rp.del hc p.1 h) (RpAll.del hc p.2 r)
end
theorem Own.del (hc : ∀ b o, cel b = some o → H b = some (celO o)) {a : Addr} {d : D} (p : pln d = true) (h : Own L K H a d) : Own L K (delC cel H) a d := by
  cases d with
  | lst ds => obtain ⟨vs, h1, h2⟩ := h; exact ⟨vs, del_keep hc h1 (fun o e => by cases e), h2.del hc (by simpa only [pln] using p)⟩
  | dk ks ds => obtain ⟨vs, h1, h3, h2⟩ := h; exact ⟨vs, del_keep hc h1 (fun o e => by cases e), h3, h2.del hc (by simpa only [pln] using p)⟩
  | dt ks ds => obtain ⟨vs, h1, h3, h2⟩ := h; exact ⟨vs, del_keep hc h1 (fun o e => by cases e), h3, h2.del hc (by simpa only [pln] using p)⟩
  | obj C ns ds => obtain ⟨dx, vs, h1, h3, h2⟩ := h; exact ⟨dx, vs, del_keep hc h1 (fun o e => by cases e), h3, h2.del hc (by simpa only [pln] using p)⟩
  | tab q =>
    obtain ⟨ps, h1, h2, h3⟩ := h
    refine ⟨ps, del_keep hc h1 (fun o e => by cases e), h2, fun pos cv hh => ?_⟩
    obtain ⟨c, q1, n, q2⟩ := h3 pos cv hh
    exact ⟨c, q1, n, del_keep hc q2 fun o e => by unfold LamX.CodeO at e; cases e⟩
  | _ => exact h.elim
theorem JL.del (hc : ∀ b o, cel b = some o → H b = some (celO o)) (p : plnL L = true) (j : JL K L H) : JL K L (delC cel H) :=
  ⟨j.nd, fun a d m => Own.del hc (plns_mem p (List.mem_map.mpr ⟨_, m, rfl⟩)) (j.own a d m)⟩
/-- .. and back -/
theorem same_add (cn : ∀ b o, cel b = some o → H b = none) : Same H (addC cel H) := fun b o e => by
  have z : cel b = none := by
    cases q : cel b with
    | none => rfl
    | some o => rw [cn b o q] at e; cases e
  rw [addC_out z]
  exact e
/-- from the state without them to the state with them -/
theorem go_back {L' : Led} {H' : Hp} (hc : ∀ b o, cel b = some o → H b = some (celO o)) (cn : ∀ b o, cel b = some o → H' b = none) (j : JL K L' H') (g : Go L L' (delC cel H) H') : Go L L' H (addC cel H') := fun a o n e => by
  cases q : cel a with
  | some o' =>
    rw [hc a o' q] at e
    cases e
    exact ⟨j.notIn (cn a o' q), addC_in q⟩
  | none =>
    rw [addC_out q]
    exact g a o n (by rw [delC_out q]; exact e)
/-- from the state without them to the end of a call with them, and out of sight again -/
theorem go_out {L' : Led} {H' : Hp} (cn : ∀ b o, cel b = some o → H b = none) (g : Go L L' (addC cel H) H') : Go L L' H (delC cel H') := fun a o n e => by
  have z : cel a = none := by
    cases q : cel a with
    | none => rfl
    | some o => rw [cn a o q] at e; cases e
  rw [delC_out z]
  exact g a o n (by rw [addC_out z]; exact e)
end
/-! ### lambdas called -/
structure CloOk (P : Program) (w : World) (K : PySem.W.Frag) (mg : Str → Option Value) (base : Heap) (n : Nat) (G : LamF → DSp) : Prop where
  run : ∀ (A : Around) (outer : List Env) (s : Shared) (H : Hp) (f : Addr) (F : LamF) (vs : List V) (ds : List D) (L : Led) (k : DK) (x : Exn → Led → Prop) (Q : VK) (E : XK), Room n A → Env0 P w K mg base A outer s H → CloAt L H f F vs → JL K L H → RpAll L K H vs ds → G F ds L k x →
    KOk K L H k Q → (∀ n L' a H', x n L' → Go L L' H H' → JL K L' H' → ExR L' K H' a n → E n.cls (some a) H') → codeAny (model P w) A (.call (.ref f) ⟨[], []⟩) (CR (L2.CX P w) outer P w H s Q E) s
theorem CloOk.mono {P : Program} {w : World} {K : PySem.W.Frag} {mg : Str → Option Value} {base : Heap} {n m : Nat} {G : LamF → DSp} (c : CloOk P w K mg base n G) (h : n ≤ m) : CloOk P w K mg base m G :=
  ⟨fun A outer s H f F vs ds L k x Q E hr => c.run A outer s H f F vs ds L k x Q E (hr.mono h)⟩
theorem CloOk.or {P : Program} {w : World} {K : PySem.W.Frag} {mg : Str → Option Value} {base : Heap} {n : Nat} {G G' : LamF → DSp} (c : CloOk P w K mg base n G) (c' : CloOk P w K mg base n G') : CloOk P w K mg base n (fun F ds L k x => G F ds L k x ∨ G' F ds L k x) :=
  ⟨fun A outer s H f F vs ds L k x Q E hr e0 ca j r g hk hx => g.elim (fun g => c.run A outer s H f F vs ds L k x Q E hr e0 ca j r g hk hx) (fun g => c'.run A outer s H f F vs ds L k x Q E hr e0 ca j r g hk hx)⟩
theorem lamO_at {P : Program} {w : World} {H : Hp} {h : Heap} {f c : Addr} {F : LamF} {cl : List (Str × Addr)} {dV : Value} (hok : HOk P w H h) (e : H f = some (LamO f F cl dV c)) : ∃ (od : Option Addr) (sl : Array (Option Value)) (doc pm ctv : Value), h.get? f = some (⟨.type "function", od, .func (PySem.W.kdv_fn "<lambda>" F.qual F.params (.expr F.body) F.scope cl dV doc pm (.ref c) ctv), sl⟩ : Obj) := by
  obtain ⟨z, _, _⟩ := hok f _ e
  exact z
/-- how its (left out) argument is bound -/
def BindF (F : LamF) : Prop := match F.ps with
  | [] => ∀ (cl : List (Str × Addr)) (doc pm cv ctv : Value), bindArgs (PySem.W.kdv_fn "<lambda>" F.qual F.params (.expr F.body) F.scope cl .none doc pm cv ctv) ⟨[], []⟩ = pure []
  | [x] => ∀ (cl : List (Str × Addr)) (t : Addr) (doc pm cv ctv : Value), ∃ k : Option (Array Value) → Sem (List (Str × Value)), bindArgs (PySem.W.kdv_fn "<lambda>" F.qual F.params (.expr F.body) F.scope cl (.ref t) doc pm cv ctv) ⟨[], []⟩ = seqItems? (.ref t) >>= k ∧ ∀ u, k (some #[u]) = pure [(x, u)]
  | _ => False
theorem binds_lam {P : Program} {w : World} {L : Led} {H : Hp} {s : Shared} {F : LamF} {cl : List (Str × Addr)} {dV doc pm cv ctv : Value} (b : BindF F) (hok : HOk P w H s.heap) (d : DvAt L H F.ps.length dV) :
    ∃ us : List Value, Vals (List.replicate F.ps.length (.int 0)) us ∧ BindsTo s (PySem.W.kdv_fn "<lambda>" F.qual F.params (.expr F.body) F.scope cl dV doc pm cv ctv) ⟨[], []⟩ (F.ps.zip us) := by
  unfold BindF at b
  split at b
  · rename_i e
    rw [e] at d ⊢
    rcases d with ⟨_, e2⟩ | ⟨z, t, e2, _, ht⟩
    · subst e2
      exact ⟨[], .nil, .of_eq (b cl doc pm cv ctv)⟩
    · exact absurd rfl z
  · rename_i x e
    rw [e] at d ⊢
    rcases d with ⟨z, _⟩ | ⟨_, t, e2, _, ht⟩
    · cases z
    · subst e2
      obtain ⟨_, its, rv, o, h1, h2, n, h3⟩ := hok t _ ht
      obtain ⟨k, b1, b2⟩ := b cl t doc pm cv ctv
      cases rv with
      | cons r0 r1 =>
        cases r1
        rename_i u
        exact ⟨[u], .cons r0 .nil, BindsTo.of_defaults rfl h1 h3 b1 (b2 u)⟩
  · exact b.elim
def nfOf (F : LamF) (cl : List (Str × Addr)) (c : Addr) : NdefX.NF := ⟨"<lambda>", F.qual, F.params, [], F.scope, cl, c⟩
/-- the slots at a lambda's entry -/
def lamEnvD (N : List Str) (F : LamF) (ds : List D) : DEnv := List.replicate F.ps.length (some (.int 0)) ++ (ds.map some ++ List.replicate (N.length - F.ps.length - ds.length) none)
theorem sto_rep {L : Led} {K : PySem.W.Frag} {H : Hp} {σ : L2.St} {e : DEnv} (h : Sto L K H σ e) : ∀ m : Nat, Sto L K H (List.replicate m (some (.int 0)) ++ σ) (List.replicate m (some (.int 0)) ++ e)
  | 0 => h
  | m + 1 => by
    rw [List.replicate_succ, List.replicate_succ, List.cons_append, List.cons_append]
    exact .sm (.int 0) (sto_rep h m)
theorem sto_lam {L : Led} {K : PySem.W.Frag} {H : Hp} {N : List Str} {F : LamF} {vs : List V} {ds : List D} (r : RpAll L K H vs ds) : Sto L K H (NdefX.startF N (List.replicate F.ps.length (.int 0)) (vs.map some)) (lamEnvD N F ds) := by
  unfold NdefX.startF lamEnvD
  rw [List.map_replicate, List.length_replicate, List.length_map, r.length]
  have h1 : Sto L K H (vs.map some ++ List.replicate (N.length - F.ps.length - ds.length) none) (ds.map some ++ List.replicate (N.length - F.ps.length - ds.length) none) := Sto.start r
  exact sto_rep h1 _
section
variable {P : Program} {w : World} {K : PySem.W.Frag} {mg : Str → Option Value} {base : Heap}
theorem clo_of {F : LamF} {N : List Str} {k : Nat} {g : DSp} (S : NdefX.NScope N F.ps F.fr F.scope) (hb : BindF F)
    (body : ∀ (cl : List (Str × Addr)) (c f : Addr) (A : Around) (outer : List Env) (s : Shared) (H : Hp) (E : XK), Room k (A.deeper (NdefX.envF (nfOf F cl c) f s.heap.objs.size)) →
      ∃ t, QE (NdefX.ncx (L2.CX P w) P w K mg base N (nfOf F cl c) f A outer s H E) (wxOf E) F.body t ∧ ∀ ds L k x, g ds L k x → t (lamEnvD N F ds) L k fun n _ L' => x n L') :
    CloOk P w K mg base (k + 1) (fun F' ds L k x => F' = F ∧ plnL L = true ∧ plns ds = true ∧ g ds L k x) := by
  refine ⟨fun A outer s H f F' vs ds L kk x Q E hr e0 ca j r hg hk hx => ?_⟩
  obtain ⟨rfl, pL, pd, hg⟩ := hg
  obtain ⟨cl, ⟨nf, c, dV, hf, nc, hco, hdv⟩, hlen, hinj, hin, hcells⟩ := ca
  obtain ⟨od, sl, doc, pm, ctv, ho⟩ := lamO_at e0.hok hf
  have lim : s.heap.NoLimit := e0.mod.nolimit.keeps fun b o e => (e0.bs b o e).1
  -- the cells
  open Classical in
  let cel : Cel := fun b => if (∃ y, cl.lookup y = some b) then (match H b with | some (.frz o (.own 0)) => some o | _ => none) else none
  have hc : ∀ b o, cel b = some o → H b = some (celO o) := fun b o e => by
    have e : (if (∃ y, cl.lookup y = some b) then (match H b with | some (.frz o (.own 0)) => some o | _ => none) else none) = some o := e
    split at e
    · split at e
      · rename_i q; cases e; exact q
      · cases e
    · cases e
  have hcc : ∀ (y : Str) (b : Addr) (o : Obj), cl.lookup y = some b → H b = some (celO o) → cel b = some o := fun y b o e1 e2 => by
    show (if (∃ y, cl.lookup y = some b) then (match H b with | some (.frz o (.own 0)) => some o | _ => none) else none) = some o
    rw [if_pos ⟨y, e1⟩, e2]
    rfl
  have e1 := env0_del hc e0
  have C : NdefX.CellsAt cl F'.fr (vs.map some) s.heap (delC cel H) := by
    refine ⟨by rw [List.length_map]; exact hlen, fun y b e => ?_, hinj, fun i y e => ?_⟩
    · obtain ⟨i, hi⟩ := List.mem_iff_getElem?.mp (hin y b e)
      obtain ⟨cc, oc, u, v, q1, _, q2, q3, _⟩ := hcells i y hi
      rw [e] at q1
      cases q1
      exact ⟨delC_in (hcc y b oc e q2), some u, oc, (e0.hok b _ q2).1, q3⟩
    · obtain ⟨cc, oc, u, v, q1, _, q2, q3, q4, q5⟩ := hcells i y e
      refine ⟨cc, q1, fun v' hv => ?_⟩
      rw [List.getElem?_map, q4] at hv
      cases hv
      exact ⟨u, q5, oc, (e0.hok cc _ q2).1, q3⟩
  obtain ⟨us, hus, hbind⟩ := binds_lam (P := P) (w := w) (cl := cl) (doc := doc) (pm := pm) (cv := .ref c) (ctv := ctv) hb e0.hok hdv
  refine codeAny_mono (R := CR (L2.CX P w) outer P w (delC cel H) s (fun v H' => (∀ b o, cel b = some o → H' b = none) → Q v (addC cel H')) (fun cls d H' => (∀ b o, cel b = some o → H' b = none) → E cls d (addC cel H'))) ?_ fun r' s' q => cr_add hc e0.hok e0.frf q
  refine PySem.W.kla_callFunE hr.depth ho rfl S.co S.gen rfl (NdefX.codeO_at e0.hok hco) (hbind _ _ _ _ ?_)
  refine wpAny_newFunctionEnv S.nocell (fun ⟨n, _⟩ hy => S.par n (List.of_mem_zip hy).1) (fun h₁ hns hsb => ⟨lim.fresh _ hsb, ?_⟩) S.kind
  show codeAny _ _ (.expr F'.body (NdefX.envF (nfOf F' cl c) f s.heap.objs.size)) _ _
  have kp : ∀ b o, s.heap.get? b = some o → h₁.get? b = some o := fun b o e => hsb.extBut b o (Nat.ne_of_lt (Heap.lt_size e)) (Heap.get?_push_of_some _ e)
  obtain ⟨t, qe, ht⟩ := body cl c f A outer s (delC cel H) (fun cls d H' => (∀ b o, cel b = some o → H' b = none) → E cls d (addC cel H')) (hr.deeper _)
  obtain ⟨te, pe, se⟩ := qe.ex
  have I := NdefX.inv_startN (CX := L2.CX P w) (F := nfOf F' cl c) (f := f) (E := fun cls d H' => (∀ b o, cel b = some o → H' b = none) → E cls d (addC cel H')) (tk := s.toks + (F'.ps.zip us).length) S hr.hd e1 (List.length_replicate) hus C hns kp
  refine PySem.W.kla_codeExpr (wpAny_mono (pe.run [] _ _ (delC cel H) (fun v H' => (∀ b o, cel b = some o → H' b = none) → Q v (addC cel H')) I ?_) (fun v s' hq => ?_) fun e s' hq => hq)
  · refine se _ (delC cel H) (lamEnvD N F' ds) L kk (fun n _ L' => x n L') _ ⟨sto_lam (r.del hc pd), j.del hc pL⟩ (ht ds L kk x hg) (fun d L' v H' q g' j' r' cn => ?_) (fun n env' L' a H' σ' q g' st' r' cn => ?_)
    · have s1 := same_add (H := H') cn
      exact hk d L' v (addC cel H') q (go_back hc cn j' g') (j'.same s1) (r'.go (Go.same s1))
    · have s1 := same_add (H := H') cn
      obtain ⟨na, vs', e1, e2, e3⟩ := r'
      exact hx n L' a (addC cel H') q (go_back hc cn st'.2 g') (st'.2.same s1) ⟨na, vs', s1 a _ e1, e2, e3.go (Go.same s1)⟩
  · obtain ⟨v', H', J', rv, q⟩ := hq
    exact ⟨v', H', J'.os, J'.bare, J'.base, J'.hok, rv, q⟩
end
end DL

namespace DL
open PySem PySem.Spec PyProof.Rows L2
section
variable {X : Cx} {Wx : WX} {a b c e o : Expr} {es rest : List Expr} {da db dc de do' : DE} {dt du : DT} {dl dk : DA} {pos : Pos}
/-! ### x(), x a lambda -/
def dCallClo (G : LamF → DSp) (i : Nat) : DE := fun env L k x => match env[i]? with
  | some (some (.clo F ds)) => G F ds L k fun n L' => x n env L'
  | _ => False
def tCallClo (K : PySem.W.Frag) (G : LamF → DSp) (i : Nat) (Wx : WX) : TE := fun σ H Q => ∃ f F vs ds L k x, σ[i]? = some (some (.ref f)) ∧ CloAt L H f F vs ∧ JL K L H ∧ RpAll L K H vs ds ∧ G F ds L k x ∧ KOk K L H k Q ∧ ∀ n L' a H', x n L' → Go L L' H H' → JL K L' H' → ExR L' K H' a n → Wx n.cls (some a) σ H'
theorem pe_callClo {x : Str} {p1 p2 : Pos} {k n i : Nat} {G : LamF → DSp} (C : CloOk X.prog X.w X.K X.mg X.base n G) (hn : n ≤ k) (hr : Room k X.A) (tk : Takes X Wx) (hN : X.N[i]? = some x) (hv : Vis X.env.scope x) (hd : (x == ("__debug__" : Str)) = false := by decide) (hcd : (x == ("__classdict__" : Str)) = false := by decide) :
    PE X (.Call (.Name x p1) [] [] p2) (tCallClo X.K G i Wx) := by
  refine ⟨fun pins s σ H Q I h => ?_⟩
  obtain ⟨f, F, vs, ds, L, kk, xx, hs, ca, j, r, g, hk, hx⟩ := h
  refine wpAny_Call_Name_kw (thn ((pe_var (pos := p1) (i := i) hN hv hd hcd).run pins s σ H (fun v H1 => v = .ref f ∧ H1 = H) I ⟨.ref f, hs, rfl, rfl⟩) fun u s1 ⟨v, H1, I1, r1, q1⟩ => ?_)
  obtain ⟨ev, eH⟩ := q1
  subst ev
  rw [eH] at I1
  obtain rfl : u = Value.ref f := r1
  obtain ⟨cl, ⟨nf, c, dV, hf, _⟩, _⟩ := id ca
  obtain ⟨od, sl, doc, pm, ctv, ho⟩ := lamO_at I1.hok hf
  refine PySem.W.callWith_F0 ⟨_, _, _, _, ho⟩ ?_
  have rc := C.run X.A X.stack s1 H f F vs ds L kk xx Q (WE Wx σ) (hr.mono hn) I1.env0 ca j r g hk hx
  refine wpAny_call (codeAny_mono rc fun r' s' hq => ?_)
  cases r' with
  | error e => exact passAt tk σ pins H s1 e s' I1 hq
  | ok fl =>
    cases fl with
    | ret u => exact I1.after hq
    | next => exact False.elim hq
    | brk => exact False.elim hq
    | cont => exact False.elim hq
theorem q_callClo {x : Str} {p1 p2 : Pos} {k n : Nat} (i : Nat) {G : LamF → DSp} (C : CloOk X.prog X.w X.K X.mg X.base n G) (hn : n ≤ k) (hr : Room k X.A) (tk : Takes X Wx) (hN : X.N[i]? = some x := by rfl) (hv : Vis X.env.scope x := by first | exact Or.inl rfl | exact Or.inr (Or.inl rfl) | exact Or.inr (Or.inr rfl)) (hd : (x == ("__debug__" : Str)) = false := by decide) (hcd : (x == ("__classdict__" : Str)) = false := by decide) :
    QE X Wx (.Call (.Name x p1) [] [] p2) (dCallClo G i) := by
  refine ⟨_, pe_callClo (p1 := p1) (p2 := p2) (i := i) C hn hr tk hN hv hd hcd, fun σ H env L kk xx Q st h hk hx => ?_⟩
  unfold dCallClo at h
  split at h
  · rename_i F ds he
    obtain ⟨v, hs, rv⟩ := st.1.get he
    cases rv with
    | clo ca r => exact ⟨_, F, _, ds, L, kk, fun n L' => xx n env L', hs, ca, st.2, r, h, hk, fun n L' a H' q g' j' r' => hx n env L' a H' σ q g' (st.go g' j') r'⟩
  · exact h.elim
/-! ### lambdas handed to a def -/
/-- how the running frame's names lie to what a lambda captures: js the slots -/
def capB (sc : Scope) (N : List Str) (F : LamF) (js : List Nat) : Bool :=
  (F.scope.names.all fun y => !decide (y.2 = .free) || decide (sc.names.lookup y.1 = some .cell) || decide (sc.names.lookup y.1 = some .free)) && (F.fr.all fun y => decide ((y, NameKind.free) ∈ F.scope.names)) && (F.scope.names.all fun y => !decide (y.2 = .free) || decide (y.1 ∈ F.fr)) && decide (js.map (fun j => N[j]?) = F.fr.map some)
mutual
inductive Close (sc : Scope) (N : List Str) (cells : List (Str × Addr)) (env : DEnv) : D → D → Prop
  | refl (d : D) : Close sc N cells env d d
  | fnv {F : LamF} {js : List Nat} {ds : List D} : capB sc N F js = true → js.map (fun j => env[j]?) = ds.map (fun d => some (some d)) → Close sc N cells env (.fnv F (cloFrom cells F.scope.names [])) (.clo F ds)
  | lst {xs ys : List D} : CloseL sc N cells env xs ys → Close sc N cells env (.lst xs) (.lst ys)
inductive CloseL (sc : Scope) (N : List Str) (cells : List (Str × Addr)) (env : DEnv) : List D → List D → Prop
  | nil : CloseL sc N cells env [] []
  | cons {x y : D} {xs ys : List D} : Close sc N cells env x y → CloseL sc N cells env xs ys → CloseL sc N cells env (x :: xs) (y :: ys)
end
/-- what is known of the cells while a def is called -/
structure CelX (X : Cx) (cel : Cel) (σ : L2.St) (H : Hp) : Prop where
  free : ∀ b o, cel b = some o → H b = none
  has : ∀ (j : Nat) (y : Str) (v : V) (cc : Addr), X.N[j]? = some y → σ[j]? = some (some v) → X.env.cells.lookup y = some cc → (X.env.scope.names.lookup y = some .cell ∨ X.env.scope.names.lookup y = some .free) → ∃ oc u, cel cc = some oc ∧ oc.data = .cell (some u) ∧ RelV v u
theorem capB_of (ok : X.Ok) {F : LamF} {js : List Nat} (h : capB X.env.scope X.N F js = true) : NdefX.Caps X (cloFrom X.env.cells F.scope.names []) F.fr js ∧ ∀ y c, (cloFrom X.env.cells F.scope.names []).lookup y = some c → y ∈ F.fr := by
  unfold capB at h
  simp only [Bool.and_eq_true, List.all_eq_true, Bool.or_eq_true, Bool.not_eq_true', decide_eq_true_eq, decide_eq_false_iff_not] at h
  obtain ⟨⟨⟨h1, h2⟩, h3⟩, h4⟩ := h
  have hfree : ∀ y ∈ F.scope.names, y.2 = .free → X.env.scope.names.lookup y.1 = some .cell ∨ X.env.scope.names.lookup y.1 = some .free := fun y hy e => by
    rcases h1 y hy with (z | z) | z
    · exact absurd e z
    · exact .inl z
    · exact .inr z
  refine ⟨NdefX.Caps.made ok hfree h2 h4, fun y c e => ?_⟩
  rcases cloFrom_mem (PySem.mem_of_lookup e) with hm | ⟨q1, q2⟩
  · cases hm
  · rcases h3 _ q1 with z | z
    · exact absurd rfl z
    · exact z
section
variable {L : Led} {H : Hp} {cel : Cel} {σ : L2.St} {env : DEnv}
theorem slot_get {js : List Nat} : ∀ {ds : List D} {js : List Nat}, Sto L X.K H σ env → js.map (fun j => env[j]?) = ds.map (fun d => some (some d)) → ∃ vs : List V, js.map (fun j => σ[j]?) = vs.map (fun v => some (some v)) ∧ RpAll L X.K H vs ds
  | [], [], st, _ => ⟨[], rfl, .nil⟩
  | [], _ :: _, _, h => by simp at h
  | _ :: _, [], _, h => by simp at h
  | d :: ds, j :: js, st, h => by
    rw [List.map_cons, List.map_cons] at h
    obtain ⟨h1, h2⟩ := List.cons.inj h
    obtain ⟨v, e, r⟩ := st.get h1
    obtain ⟨vs, e2, r2⟩ := slot_get (js := js) st h2
    exact ⟨v :: vs, by rw [List.map_cons, List.map_cons, e, e2], .cons r r2⟩
theorem fnv_add (cx : CelX X cel σ H) {f : Addr} {F : LamF} {cl : List (Str × Addr)} (h : FnvAt L H f F cl) : FnvAt L (addC cel H) f F cl := (Go.same (same_add cx.free)).fnv h
mutual
theorem Close.rp (ok : X.Ok) (cx : CelX X cel σ H) (nl : ∀ b o, cel b = some o → ¬ inL L b) (st : Sto L X.K H σ env) : ∀ {v : V} {d d' : D}, Close X.env.scope X.N X.env.cells env d d' → Rp L X.K H v d → Rp L X.K (addC cel H) v d'
  | _, _, _, .refl d, r => r.go (Go.same (same_add cx.free))
  | _, _, _, .fnv (F := F) (js := js) (ds := ds) hb hj, r => by
    cases r with
    | fnv fa =>
      obtain ⟨cp, hin⟩ := capB_of ok hb
      obtain ⟨vs, e1, rv⟩ := slot_get (js := js) st hj
      refine .clo ⟨_, fnv_add cx fa, ?_, fun x y c e e' => ok.inj x y c (cp.sub x c e) (cp.sub y c e'), hin, fun i y hy => ?_⟩ (rv.go (Go.same (same_add cx.free)))
      · have l1 := congrArg List.length e1
        have l2 := congrArg List.length cp.at_
        rw [List.length_map, List.length_map] at l1 l2
        omega
      · have hjs : (js.map (fun j => X.N[j]?))[i]? = some (some y) := by rw [cp.at_, List.getElem?_map, hy]; rfl
        rw [List.getElem?_map] at hjs
        cases hji : js[i]? with
        | none => rw [hji] at hjs; cases hjs
        | some j =>
          rw [hji] at hjs
          have hNj : X.N[j]? = some y := Option.some.inj hjs
          have hv : (js.map (fun j => σ[j]?))[i]? = some σ[j]? := by rw [List.getElem?_map, hji]; rfl
          rw [e1, List.getElem?_map] at hv
          cases hvi : vs[i]? with
          | none => rw [hvi] at hv; cases hv
          | some v =>
            rw [hvi] at hv
            have hσ : σ[j]? = some (some v) := (Option.some.inj hv).symm
            have hm : y ∈ F.fr := List.mem_of_getElem? hy
            obtain ⟨cc, hcc⟩ := ok.has y (cp.kin y hm)
            obtain ⟨oc, u, h1, h2, h3⟩ := cx.has j y v cc hNj hσ hcc (cp.kin y hm)
            exact ⟨cc, oc, u, v, cp.sup y hm cc hcc, nl cc oc h1, addC_in h1, h2, rfl, h3⟩
  | _, _, _, .lst hl, r => by
    cases r with
    | lst n h r => exact .lst n (same_add cx.free _ _ h) (CloseL.rp ok cx nl st hl r)
theorem CloseL.rp (ok : X.Ok) (cx : CelX X cel σ H) (nl : ∀ b o, cel b = some o → ¬ inL L b) (st : Sto L X.K H σ env) : ∀ {vs : List V} {ds ds' : List D}, CloseL X.env.scope X.N X.env.cells env ds ds' → RpAll L X.K H vs ds → RpAll L X.K (addC cel H) vs ds'
  | _, _, _, .nil, .nil => .nil
  | _, _, _, .cons h t, .cons r q => .cons (Close.rp ok cx nl st h r) (CloseL.rp ok cx nl st t q)
end
end
/-- f(..) with lambdas among the arguments -/
def dCallC (sc : Scope) (N : List Str) (cells : List (Str × Addr)) (g : DSp) (dd : List D) (dl : DA) : DE := fun env L k x => dl env L (fun ds L1 => ∃ ds', CloseL sc N cells env ds ds' ∧ g (ds' ++ dd) L1 (fun d L' => pln d = true ∧ plnL L' = true ∧ k d L') fun n L' => plns n.vs = true ∧ plnL L' = true ∧ x n env L') x
def tCallC (X : Cx) (sp : Sp) (dvs : List V) (Wx : WX) (t : TA) : TE := fun σ H Q => t σ H fun vs H1 => ∀ cel : Cel, X.Ok → CelX X cel σ H1 → sp (vs ++ dvs) (addC cel H1) (fun v H' => Q v (delC cel H')) (fun cls d H' => Wx cls d σ (delC cel H'))
theorem pe_callC {x : Str} {p : Pos} {k : Nat} {f : Addr} {fd : FuncData} {ps : List Str} {sp : Sp} {ds : List Value} {dvs : List V} {t : TA} (F : FnOk X.prog X.w X.K X.mg X.base (L2.CX X.prog X.w) k f fd ps sp) (hr : Room k X.A) (hg : Gl X x) (hm : X.mg x = some (.ref f)) (hk : PySem.W.keepIn X.K (.ref f) = true) (hb : Binds X.K fd ps ds) (hd : Vals dvs ds) (tk : Takes X Wx) (hfn : ∀ y, X.fn y = true)
    (ha : PA X (e :: es) t) (hdb : (x == ("__debug__" : Str)) = false := by decide) (he : starEach (e :: es) X.env = (false, eval e X.env) :: starEach es X.env := by rfl) (hpl : (backTo pos (starEach es X.env)).any (·.1) = false := by rfl) :
    PE X (.Call (.Name x p) (e :: es) [] pos) (tCallC X sp dvs Wx t) := by
  refine ⟨fun pins s σ H Q I h => ?_⟩
  refine wpAny_Call_Name_kw (ld_glob I hg hm ?_ hdb)
  refine PySem.W.callWith_K (h₀ := X.base) I.ok.mod.kin hk (thn (ha.run pos pins s σ H _ I h) fun us s1 ⟨vs, H1, I1, r, q⟩ => ⟨I1.kIn, ?_⟩) he hpl
  open Classical in
  let cel : Cel := fun b => if (∃ y, X.env.cells.lookup y = some b) then s1.heap.get? b else none
  have hin : ∀ b o, cel b = some o → (∃ y, X.env.cells.lookup y = some b) ∧ s1.heap.get? b = some o := fun b o e => by
    have e : (if (∃ y, X.env.cells.lookup y = some b) then s1.heap.get? b else none) = some o := e
    split at e
    · rename_i q; exact ⟨q, e⟩
    · cases e
  have above : ∀ b o, cel b = some o → X.s_0.heap.objs.size ≤ b := fun b o e => by
    obtain ⟨⟨y, hy⟩, _⟩ := hin b o e
    exact I1.ok.cab y b (hfn y) hy
  have C : CelOk cel H1 s1.heap (frs X.stack) := by
    refine ⟨fun b o e => (hin b o e).2, fun b o e => ?_, fun b o e hb => ?_⟩
    · obtain ⟨⟨y, hy⟩, _⟩ := hin b o e
      exact I1.freeC y b hy
    · rcases List.mem_cons.mp (I1.stkSub _ hb) with z | z
      · obtain ⟨⟨y, hy⟩, _⟩ := hin b o e
        exact I1.cne y b hy z
      · obtain ⟨_, o2, ho2, _⟩ := I1.ok.funs.mem z
        exact absurd (Heap.lt_size ho2) (Nat.not_lt.mpr (above b o e))
  have CX0 : CelX X cel σ H1 := by
    refine ⟨C.free, fun j y v cc hN hσ hc hkind => ?_⟩
    obtain ⟨m, hn, hl⟩ := I1.loc
    obtain ⟨u, ru, q⟩ := hl j y v hN hσ (.inr hkind)
    rcases q with ⟨k', _⟩ | ⟨_, c3, e', z⟩
    · have k' : X.env.scope.names.lookup y = some .local := k'
      rcases hkind with k2 | k2 <;> rw [k2] at k' <;> cases k'
    · rw [hc] at e'
      cases e'
      obtain ⟨oc, ho, hd⟩ := z
      refine ⟨oc, u, ?_, hd, ru⟩
      show (if (∃ y, X.env.cells.lookup y = some cc) then s1.heap.get? cc else none) = some oc
      rw [if_pos ⟨y, hc⟩]
      exact ho
  have hq := q cel I1.ok CX0
  have hl : (us ++ ds).length = ps.length := by
    have z := F.len _ _ _ _ hq
    rw [← (r.append hd).length]
    exact z
  have rc := F.run X.A X.stack s1 (addC cel H1) ⟨us, []⟩ (us ++ ds) (vs ++ dvs) _ _ hr (env0_add C (fun b o e => Heap.get?_none_of_le (Nat.le_trans I1.ok.bsz (above b o e))) I1.env0) (hb s1 us I1.kIn hl) (r.append hd) hq
  refine wpAny_call (codeAny_mono rc fun r' s' hq => ?_)
  have hq := cr_del (Q := Q) (E := WE Wx σ) C hq
  cases r' with
  | error e => exact passAt tk σ pins H1 s1 e s' I1 hq
  | ok fl =>
    cases fl with
    | ret u => exact I1.after hq
    | next => exact False.elim hq
    | brk => exact False.elim hq
    | cont => exact False.elim hq
theorem q_calC {x : Str} {p : Pos} {n k : Nat} {ps : List Str} {g : DSp} {dd : List D} (F : Cal X.prog X.w X.K X.mg X.base n x ps dd g) (hn : n ≤ k) (hr : Room k X.A) (tk : Takes X Wx) (hfn : ∀ y, X.fn y = true) (hg : Gl X x) (ha : QA X Wx (e :: es) dl) (hdb : (x == ("__debug__" : Str)) = false := by decide)
    (he : starEach (e :: es) X.env = (false, eval e X.env) :: starEach es X.env := by rfl) (hpl : (backTo pos (starEach es X.env)).any (·.1) = false := by rfl) : QE X Wx (.Call (.Name x p) (e :: es) [] pos) (dCallC X.env.scope X.N X.env.cells g dd dl) := by
  obtain ⟨f, fd, us, dvs, F, hm, hk, hb, hd, hdd⟩ := F.ex
  obtain ⟨ta, pa, sa⟩ := ha.ex
  refine ⟨_, pe_callC F (hr.mono hn) hg hm hk hb hd tk hfn pa hdb he hpl, fun σ H env L kk xx Q st h hk hx => ?_⟩
  refine sa σ H env L _ xx _ st h (fun ds L1 vs H1 h1 g1 j1 r1 cel ok cx => ?_) hx
  obtain ⟨ds', hcl, hg⟩ := h1
  have s1 := same_add (H := H1) cx.free
  have st1 := st.go g1 j1
  have nl : ∀ b o, cel b = some o → ¬ inL L1 b := fun b o e => j1.notIn (cx.free b o e)
  refine ⟨ds' ++ dd, L1, _, _, j1.same s1, (CloseL.rp ok cx nl st1.1 hcl r1).append (hdd L1 _), hg, fun d L' v H' q g' j' r' => ?_, fun n L' a H' q g' j' r' => ?_⟩
  · have hc : ∀ b o, cel b = some o → H' b = some (celO o) := fun b o e => (g' b _ (nl b o e) (addC_in e)).2
    exact hk d L' v (delC cel H') q.2.2 (g1.trans (go_out cx.free g')) (j'.del hc q.2.1) (r'.del hc q.1)
  · have hc : ∀ b o, cel b = some o → H' b = some (celO o) := fun b o e => (g' b _ (nl b o e) (addC_in e)).2
    have gg := g1.trans (go_out cx.free g')
    have jj := j'.del hc q.2.1
    obtain ⟨na, vs', e1, e2, e3⟩ := r'
    exact hx n env L' a (delC cel H') σ q.2.2 gg (st.go gg jj) ⟨na, vs', del_keep hc e1 (fun o e => by cases e), e2, e3.del hc q.1⟩
end
end DL

namespace DL
open PySem PySem.Spec PyProof.Rows L2
section
variable {X : Cx} {pins : List (Addr × Obj)} {σ : L2.St} {H : Hp} {s : Shared}
/-! ### a lambda is made -/
theorem inv_lam {F : LamF} {cl : List (Str × Addr)} {dV : Value} {c : Addr} {o : Obj} {t' : Nat} {doc pm ctv : Value} (I : Inv X pins σ H s) (ho : o = { cls := .type "function", data := .func (PySem.W.kdv_fn "<lambda>" F.qual F.params (.expr F.body) F.scope cl dV doc pm (.ref c) ctv) }) :
    Inv X pins σ (upd H s.heap.objs.size (LamO s.heap.objs.size F cl dV c)) { s with heap := s.heap.push o, toks := t' } := by
  subst ho
  refine I.laid (a := s.heap.objs.size) (fun b u e => Heap.get?_push_of_some _ e) (Nat.le_refl _) ?_
  have e : (s.heap.push ({ cls := .type "function", data := .func (PySem.W.kdv_fn "<lambda>" F.qual F.params (.expr F.body) F.scope cl dV doc pm (.ref c) ctv) } : Obj)).get? s.heap.objs.size = some ({ cls := .type "function", data := .func (PySem.W.kdv_fn "<lambda>" F.qual F.params (.expr F.body) F.scope cl dV doc pm (.ref c) ctv) } : Obj) := Heap.get?_push_size _ rfl
  exact ⟨⟨_, _, doc, pm, ctv, e⟩, ⟨_, e⟩, fun h1 h2 ⟨od, sl, d, p, t, z⟩ st => ⟨od, sl, d, p, t, st _ z⟩⟩
/-- what is told of the heap behind: the table P has grown or not -/
structure LamPost (H H1 : Hp) (P : Addr) (ps : Array Value) (q : Str) (pos : Pos) (f c' : Addr) (F : LamF) (cl : List (Str × Addr)) (dV : Value) : Prop where
  keep : ∀ b o, H b = some o → b ≠ P → H1 b = some o
  tab : ∃ ps' : Array Value, H1 P = some (.tbl ps') ∧ TriplesOk ps'.toList ∧ ∀ (p : Pos) (cv : Value), codeAmong p ps'.toList = some cv → codeAmong p ps.toList = some cv ∨ ∃ c0, cv = .ref c0 ∧ H c0 = none ∧ H1 c0 = some (LamX.CodeO c0 q)
  f0 : H f = none
  f1 : H1 f = some (LamO f F cl dV c')
  c1 : H1 c' = some (LamX.CodeO c' q)
  c0 : H c' = none ∨ codeAmong pos ps.toList = some (.ref c')
theorem lam_tail {F : LamF} {c P : Addr} {ps : Array Value} {pos : Pos} {dV : Value} {E : Value → Shared → Prop} {Q : Value → Shared → Prop} (I : Inv X pins σ H s) (TB : LamX.TabB X.base X.mg c P) (hcode : X.env.code = .ref c)
    (hP : H P = some (.tbl ps)) (ht : TriplesOk ps.toList) (ha : ∀ (p : Pos) (cv : Value), codeAmong p ps.toList = some cv → ∃ c, cv = .ref c ∧ H c = some (LamX.CodeO c F.qual)) (hfree : ∀ y ∈ F.scope.names, y.2 = .free → ∃ c, X.env.cells.lookup y.1 = some c)
    (h : ∀ (f c' : Addr) (H1 : Hp) (s' : Shared), Inv X pins σ H1 s' → LamPost H H1 P ps F.qual pos f c' F (cloFrom X.env.cells F.scope.names []) dV → Q (.ref f) s') :
    wpAny (model X.prog X.w) X.A (makeTail "<lambda>" F.qual F.params (.expr F.body) F.scope X.env dV .none none pos pos.line) Q E s := by
  have bP : s.heap.BuiltinsAt X.mg P := TB.bm.keeps I.bk
  have hP' : s.heap.get? P = some { cls := .none, data := .fields ps } := I.hok P _ hP
  cases hc : codeAmong pos ps.toList with
  | none =>
    refine PySem.W.kdv_makeTail (mg := X.mg) (c := c) (P := P) (ps := ps) (closure_ok hfree) I.ok.glob (I.mod.glob.keeps I.bk) hcode (TB.code.keeps I.bk) hP' ht hc TB.gP bP fun c' ctv doc h' tk hx hge hlt hrec htb => ?_
    obtain ⟨c2, oc, vs, t, e2, hoc, hd, hv⟩ := hrec
    cases e2
    have nC : H c' = none := I.hok.fresh hge
    have I1 := LamX.inv_table (t' := tk) (more := #[rawInt pos.line, rawInt pos.col, .ref c']) (h' := h') I hP (fun b o hb e => hx b o hb e) htb hge ⟨oc, vs, t, hoc, hd, hv⟩
    have hE : ∀ b o, H b = some o → b ≠ P → upd (upd H P (.tbl (ps ++ #[rawInt pos.line, rawInt pos.col, .ref c']))) c' (LamX.CodeO c' F.qual) b = some o := fun b o e n => by
      rw [upd_ne (ne_of_none e nC), upd_ne n]
      exact e
    have eL : (ps ++ #[rawInt pos.line, rawInt pos.col, .ref c']).toList = ps.toList ++ [rawInt pos.line, rawInt pos.col, .ref c'] := by simp
    have nF := I1.hok.fresh (Nat.le_refl _)
    have I2 := inv_lam (F := F) (cl := cloFrom X.env.cells F.scope.names []) (dV := dV) (c := c') (t' := tk) (doc := doc) (pm := (X.mg "__name__").getD .none) (ctv := ctv) I1 rfl
    refine h h'.objs.size c' _ _ I2 ⟨fun b o e n => ?_, ⟨ps ++ #[rawInt pos.line, rawInt pos.col, .ref c'], ?_, ?_, fun p cv hcv => ?_⟩, I.hok.fresh (Nat.le_trans hge (Nat.le_of_lt hlt)), upd_same, ?_, .inl nC⟩
    · have e1 := hE b o e n
      exact (upd_ne (ne_of_none e1 nF)).trans e1
    · have e1 : upd (upd H P (.tbl (ps ++ #[rawInt pos.line, rawInt pos.col, .ref c']))) c' (LamX.CodeO c' F.qual) P = some (.tbl (ps ++ #[rawInt pos.line, rawInt pos.col, .ref c'])) := by rw [upd_ne (ne_of_none hP nC), upd_same]
      exact (upd_ne (ne_of_none e1 nF)).trans e1
    · rw [eL]
      exact PySem.TriplesOk_snoc _ _ _ _ ht
    · rw [eL] at hcv
      rcases NdefX.among_app2 _ ht hcv with z | ⟨z, _, _⟩
      · exact .inl z
      · exact .inr ⟨c', z, nC, (upd_ne (Nat.ne_of_lt hlt)).trans upd_same⟩
    · exact (upd_ne (Nat.ne_of_lt hlt)).trans upd_same
  | some cv =>
    obtain ⟨c', e, hco⟩ := ha pos cv hc
    subst e
    refine PySem.W.kdv_makeTailHit (mg := X.mg) (c := c) (P := P) (ps := ps) (closure_ok hfree) I.ok.glob (I.mod.glob.keeps I.bk) hcode (TB.code.keeps I.bk) hP' ht hc bP fun ctv doc h' tk hx hsz => ?_
    have I1 : Inv X pins σ H { s with heap := h', toks := tk } := I.kept hx
    have nF : H h'.objs.size = none := I1.hok.fresh (Nat.le_refl _)
    have I2 := inv_lam (F := F) (cl := cloFrom X.env.cells F.scope.names []) (dV := dV) (c := c') (t' := tk) (doc := doc) (pm := (X.mg "__name__").getD .none) (ctv := ctv) I1 rfl
    refine h h'.objs.size c' _ _ I2 ⟨fun b o e n => ?_, ⟨ps, ?_, ht, fun p cv hcv => .inl hcv⟩, nF, upd_same, ?_, .inr hc⟩
    · exact (upd_ne (ne_of_none e nF)).trans e
    · exact (upd_ne (ne_of_none hP nF)).trans hP
    · exact (upd_ne (ne_of_none hco nF)).trans hco
end
section
variable {X : Cx} {Wx : WX}
/-- its default: none, or 0 -/
def DfOk (F : LamF) : Prop := F.params.kw_defaults = [] ∧ ((F.ps = [] ∧ F.params.defaults = []) ∨ ∃ x j p, F.ps = [x] ∧ F.params.defaults = [.Constant (.int 0) j p])
def tLamD (P : Addr) (pos : Pos) (F : LamF) (cl : List (Str × Addr)) : TE := fun _ H Q => ∃ ps : Array Value, H P = some (.tbl ps) ∧ TriplesOk ps.toList ∧ (∀ (p : Pos) (cv : Value), codeAmong p ps.toList = some cv → ∃ c, cv = .ref c ∧ H c = some (LamX.CodeO c F.qual)) ∧
  ∀ (f c' : Addr) (dV : Value) (H0 H1 : Hp), (F.ps = [] ∧ dV = .none ∧ H0 = H ∨ ∃ t, dV = .ref t ∧ F.ps.length = 1 ∧ H t = none ∧ H0 = upd H t (.tup [.int 0])) → LamPost H0 H1 P ps F.qual pos f c' F cl dV → Q (.ref f) H1
theorem pe_lamD {F : LamF} {c P : Addr} {pos : Pos} (TB : LamX.TabB X.base X.mg c P) (hcode : X.env.code = .ref c) (hq : X.env.qual ++ "<lambda>" = F.qual) (hfree : ∀ y ∈ F.scope.names, y.2 = .free → X.env.scope.names.lookup y.1 = some .cell ∨ X.env.scope.names.lookup y.1 = some .free) (hd : DfOk F) :
    PE X (.Lambda F.params F.body F.scope pos) (tLamD P pos F (cloFrom X.env.cells F.scope.names [])) := by
  refine ⟨fun pins s σ H Q I h => ?_⟩
  obtain ⟨ps, hP, ht, ha, h⟩ := h
  have hfr : ∀ y ∈ F.scope.names, y.2 = .free → ∃ c, X.env.cells.lookup y.1 = some c := fun y hy e => (hfree y hy e).elim (fun z => I.ok.has _ (.inl z)) fun z => I.ok.has _ (.inr z)
  obtain ⟨hk0, hd | ⟨x, j, p, hx, hd⟩⟩ := hd
  · refine PySem.W.kla_eval (by rw [defaultsOf_eq, hd.2, hk0]; rfl) ?_
    rw [hq, makeFunction_eq]
    simp only [List.zip_nil_right, List.filterMap_nil, List.isEmpty_nil, if_true, pure_bind]
    exact lam_tail I TB hcode hP ht ha hfr fun f c' H1 s' I1 po => ⟨.ref f, H1, I1, rfl, h f c' .none H H1 (.inl ⟨hd.1, rfl, rfl⟩) po⟩
  · refine PySem.W.kdv_lam (by rw [hd]; rfl) hk0 ?_
    rw [hd]
    refine PySem.W.kdv_all1 (thn ((pe_int (X := X) (i := 0) (j := j) (pos := p)).run pins s σ H (fun v H1 => v = .int 0 ∧ H1 = H) I ⟨rfl, rfl⟩) fun u s1 ⟨v, H1, I1, r1, q1⟩ => ?_)
    obtain ⟨ev, eH⟩ := q1
    subst ev
    rw [eH] at I1
    refine PySem.W.kdv_all0 ?_
    rw [hq, makeFunction_eq]
    simp only [List.zip_nil_right, List.filterMap_nil, List.isEmpty_nil, List.isEmpty_cons, if_true, if_false, Bool.false_eq_true, pure_bind]
    refine wpAny_bind (wpAny_newTextTuple ?_)
    have nT : H s1.heap.objs.size = none := I1.hok.fresh (Nat.le_refl _)
    have I2 : Inv X pins σ (upd H s1.heap.objs.size (.tup [.int 0])) { s1 with heap := s1.heap.push { cls := .type "tuple", data := .seq [u].toArray } } :=
      I1.laid (a := s1.heap.objs.size) (t' := s1.toks) (fun b u e => Heap.get?_push_of_some _ e) (Nat.le_refl _) ⟨by decide, [u], .cons r1 .nil, _, Heap.get?_push_size _ rfl, rfl, 0, rfl⟩
    have hP2 : upd H s1.heap.objs.size (.tup [.int 0]) P = some (.tbl ps) := by rw [upd_ne (ne_of_none hP nT)]; exact hP
    exact lam_tail I2 TB hcode hP2 ht (fun p cv hc => by
      obtain ⟨c, e1, e2⟩ := ha p cv hc
      exact ⟨c, e1, by rw [upd_ne (ne_of_none e2 nT)]; exact e2⟩) hfr fun f c' H1 s' I1 po => ⟨.ref f, H1, I1, rfl, h f c' _ _ H1 (.inr ⟨_, rfl, by rw [hx]; rfl, nT, rfl⟩) po⟩
def dLam (P : Addr) (F : LamF) (cl : List (Str × Addr)) : DE := fun _ L k _ => L.lookup P = some (.tab F.qual) ∧ k (.fnv F cl) L
def freeB (sc : Scope) (F : LamF) : Bool := F.scope.names.all fun y => !decide (y.2 = .free) || decide (sc.names.lookup y.1 = some .cell) || decide (sc.names.lookup y.1 = some .free)
theorem q_lam {F : LamF} {c P : Addr} {pos : Pos} (TB : LamX.TabB X.base X.mg c P) (hcode : X.env.code = .ref c) (hd : DfOk F) (hq : X.env.qual ++ "<lambda>" = F.qual := by rfl) (hfree : freeB X.env.scope F = true := by decide +kernel) :
    QE X Wx (.Lambda F.params F.body F.scope pos) (dLam P F (cloFrom X.env.cells F.scope.names [])) := by
  refine ⟨_, pe_lamD (pos := pos) TB hcode hq (fun y hy e => ?_) hd, fun σ H env L k x Q st h hk hx => ?_⟩
  · have z := List.all_eq_true.mp hfree y hy
    simp only [Bool.or_eq_true, Bool.not_eq_true', decide_eq_true_eq, decide_eq_false_iff_not] at z
    rcases z with (z | z) | z
    · exact absurd e z
    · exact .inl z
    · exact .inr z
  · obtain ⟨hl, h⟩ := h
    have pin := inL_of_lookup hl
    obtain ⟨ps, hP, ht, ha⟩ := (show ∃ ps : Array Value, H P = some (.tbl ps) ∧ TriplesOk ps.toList ∧ ∀ (pos : Pos) (cv : Value), codeAmong pos ps.toList = some cv → ∃ c, cv = .ref c ∧ ¬ inL L c ∧ H c = some (LamX.CodeO c F.qual) from st.2.look hl)
    refine ⟨ps, hP, ht, fun p cv hc => ?_, fun f c' dV H0 H1 hdv po => ?_⟩
    · obtain ⟨c, e1, _, e2⟩ := ha p cv hc
      exact ⟨c, e1, e2⟩
    · -- from H to H0
      have s0 : Same H H0 := by
        rcases hdv with ⟨_, _, e⟩ | ⟨t, _, _, nt, e⟩
        · rw [e]; exact Same.refl H
        · rw [e]; exact same_new nt _
      have j0 := st.2.same s0
      have n0 : ∀ b, H0 b = none → H b = none := fun b e => by
        cases q : H b with
        | none => rfl
        | some u => rw [s0 b u q] at e; cases e
      have g01 : Go L L H0 H1 := fun b u n e => ⟨n, po.keep b u e fun z => n (z ▸ pin)⟩
      have g : Go L L H H1 := (Go.same s0).trans g01
      have pP : ∀ u, H0 P = some u → False → H1 P = some u := fun _ _ z => z.elim
      have nc : ¬ inL L c' := by
        rcases po.c0 with z | z
        · exact st.2.notIn (n0 c' z)
        · obtain ⟨c, e1, n, _⟩ := ha pos _ z
          cases e1
          exact n
      have j1 : JL X.K L H1 := by
        refine ⟨st.2.nd, fun a d m => ?_⟩
        by_cases hap : a = P
        · subst hap
          have e1 : d = .tab F.qual := by
            have m2 := mem_of_lookup hl
            have key : ∀ {l : Led}, (l.map (·.1)).Nodup → ∀ {x y : D}, (a, x) ∈ l → (a, y) ∈ l → x = y := by
              intro l
              induction l with
              | nil => intro _ x y h; cases h
              | cons p r ih =>
                intro nd x y h1 h2
                rw [List.map_cons, List.nodup_cons] at nd
                rcases List.mem_cons.mp h1 with e1 | e1 <;> rcases List.mem_cons.mp h2 with e2 | e2
                · rw [← e1] at e2; cases e2; rfl
                · subst e1; exact absurd (List.mem_map.mpr ⟨_, e2, rfl⟩) nd.1
                · subst e2; exact absurd (List.mem_map.mpr ⟨_, e1, rfl⟩) nd.1
                · exact ih nd.2 e1 e2
            exact key st.2.nd m m2
          subst e1
          obtain ⟨ps', q1, q2, q3⟩ := po.tab
          refine ⟨ps', q1, q2, fun p cv hc => ?_⟩
          rcases q3 p cv hc with z | ⟨c0, e1, e2, e3⟩
          · obtain ⟨c, e1, n, e2⟩ := ha p cv z
            exact ⟨c, e1, n, (g c _ n e2).2⟩
          · exact ⟨c0, e1, st.2.notIn (n0 c0 e2), e3⟩
        · exact Own.move (st.2.own a d m) g fun u e => po.keep a u (s0 a u e) hap
      refine hk _ L _ H1 h g j1 (.fnv ⟨st.2.notIn (n0 f po.f0), c', dV, po.f1, nc, po.c1, ?_⟩)
      rcases hdv with ⟨e1, e2, _⟩ | ⟨t, e1, e2, nt, e⟩
      · exact .inl ⟨by rw [e1]; rfl, e2⟩
      · refine .inr ⟨by omega, t, e1, st.2.notIn nt, ?_⟩
        have h0 : H0 t = some (.tup [.int 0]) := by rw [e]; exact upd_same
        rw [e2]
        exact po.keep t _ h0 fun z => by
          obtain ⟨o, ho⟩ := Own.there (st.2.look hl)
          rw [← z, nt] at ho
          cases ho
end
end DL

namespace DL
open PySem PySem.Spec PyProof.Rows L2
/-! ### try: .. except tst as n: .. -/
/-- a clause's test: which classes it takes -/
def Tst (X : Cx) (tst : Expr) (m : Value → Option Bool) : Prop := ∀ (a : Addr) (pn pins : List (Addr × Obj)) (σ : L2.St) (H : Hp) (s : Shared) (cls : Value) (b : Bool) (Q : Bool → Shared → Prop) (E E' : Value → Shared → Prop), Inv (X.suite a pn) pins σ H s →
  PySem.W.Looks (model X.prog X.w) s.heap (typeOf (.ref a)) cls → m cls = some b → (∀ h' tk, (∀ q o, s.heap.get? q = some o → h'.get? q = some o) → Q b { s with heap := h', toks := tk }) →
  wpAny (model X.prog X.w) (X.A.mark (some (.ref a))) (eval tst X.env) (fun c s1 => wpAny (model X.prog X.w) (X.A.mark (some (.ref a))) (excMatches (.ref a) c) Q E s1) E' s
section
variable {X : Cx}
theorem nm_at {x : Str} {c : Value} {p : Pos} {a : Addr} {pn pins : List (Addr × Obj)} {σ : L2.St} {H : Hp} {s : Shared} {Q : Value → Shared → Prop} {E : Value → Shared → Prop} (hc : Names X x c) (S3 : Inv (X.suite a pn) pins σ H s) (q : Q c s) : wpAny (model X.prog X.w) (X.A.mark (some (.ref a))) (eval (.Name x p) X.env) Q E s := by
  obtain ⟨hg, hdbg, hm | ⟨hm, hv, hnn⟩⟩ := hc
  · exact ld_glob (X := X.suite a pn) S3 hg hm q hdbg
  · exact ld_blt (X := X.suite a pn) S3 hg hm hv q hnn hdbg
theorem tst_one {x : Str} {c : Value} {p : Pos} (hc : Names X x c) : Tst X (.Name x p) (fun cls => PySem.W.exmOne X.K cls c) := fun a pn pins σ H s cls b Q E E' I LT hm q => by
  refine nm_at hc I ?_
  exact (PySem.W.exm_one (M := model X.prog X.w) I.kIn LT hm).here (q s.heap s.toks fun _ _ e => e)
theorem tst_3 {x1 x2 x3 : Str} {c1 c2 c3 : Value} {p1 p2 p3 tp : Pos} {kk : Nat} (n1 : Names X x1 c1) (n2 : Names X x2 c2) (n3 : Names X x3 c3) : Tst X (.Tuple [.Name x1 p1, .Name x2 p2, .Name x3 p3] kk tp) (fun cls => PySem.W.exmAny X.K cls [c1, c2, c3]) := fun a pn pins σ H s cls b Q E E' I LT hm q => by
  refine wpAny_Tuple ?_
  show wpAny _ _ (spliced ((false, eval (.Name x1 p1) X.env) :: (false, eval (.Name x2 p2) X.env) :: (false, eval (.Name x3 p3) X.env) :: [])) _ _ s
  refine Calls.spliced_cons (nm_at n1 I ?_)
  refine Calls.spliced_cons (nm_at n2 I ?_)
  refine Calls.spliced_cons (nm_at n3 I ?_)
  refine Calls.spliced_nil ⟨by size_fits, ?_⟩
  have kp : ∀ q o, s.heap.get? q = some o → (s.heap.push { cls := .type "tuple", data := .seq [c1, c2, c3].toArray }).get? q = some o := fun _ _ z => Heap.get?_push_of_some _ z
  exact (PySem.W.exm_tup3 (I.kIn.keeps kp) (LT.keeps kp) (Heap.get?_push_size s.heap rfl) hm).here (q _ s.toks kp)
end
/-- the error as a thing that is known -/
abbrev excX (a : Addr) (oe : Obj) : HO := .ext fun h => h.get? a = some oe
section
variable {X : Cx} {pins : List (Addr × Obj)} {σ : L2.St} {H : Hp} {s : Shared}
theorem inv_suiteD (I : Inv X pins σ H s) {a : Addr} {oe : Obj} {vs : Array Value} (ha : s.heap.get? a = some oe) (hd : oe.data = .fields vs) (na : H a = none) (nL : a ≠ X.env.locals) (n0 : ∀ o, X.s_0.heap.get? a = some o → a ∈ X.ex) (np : ∀ p ∈ X.pn ++ pins, p.1 ≠ a) :
    Inv (X.suite a (X.pn ++ pins)) [] σ (upd H a (excX a oe)) s := by
  have ne : ∀ b u, H b = some u → b ≠ a := fun b u e => ne_of_none e na
  refine ⟨I.ok.suite _ _, I.os, I.bare, ⟨I.base.keep, I.base.slot, fun b o e n hx => ?_, I.base.there, fun b xs e => ?_, fun b o u e => ?_, fun b ps e => ?_⟩, I.loc, I.cell, ?_, fun y c e => ?_, fun p hp => ?_, fun b u e => ?_, I.len⟩
  · have hb : b ≠ a := fun z => hx (by rw [z]; exact n0 o (z ▸ e))
    rw [upd_ne hb]
    exact I.base.free b o e n hx
  · have e1 := I.base.tups b xs e
    rw [upd_ne (ne b _ e1)]
    exact e1
  · have e1 := I.base.frzs b o u e
    rw [upd_ne (ne b _ e1)]
    exact e1
  · obtain ⟨m, e1⟩ := I.base.tbls b ps e
    exact ⟨m, by rw [upd_ne (ne b _ e1)]; exact e1⟩
  · show upd H a (excX a oe) X.env.locals = none
    rw [upd_ne (Ne.symm nL)]
    exact I.free
  · have hc : c ≠ a := fun z => by
      obtain ⟨v, o, ho, hd2⟩ := I.cell y c e
      rw [z, ha] at ho
      cases ho
      rw [hd] at hd2
      cases hd2
    rw [upd_ne hc]
    exact I.freeC y c e
  · have hp' : p ∈ X.pn ++ pins := by rw [List.append_nil] at hp; exact hp
    obtain ⟨e1, e2, e3⟩ := I.pin p hp'
    exact ⟨e1, by rw [upd_ne (np p hp')]; exact e2, e3⟩
  · by_cases hb : b = a
    · subst hb
      rw [upd_same] at e
      cases e
      exact ⟨ha, ⟨oe, ha⟩, fun h1 h2 z st => st _ z⟩
    · rw [upd_ne hb] at e
      exact (I.hok b u e).stay (fun _ _ _ z => z) (fun d z => by rw [upd_ne (ne d _ z)]; exact z) fun d xs z => by rw [upd_ne (ne d _ z)]; exact z
theorem inv_unsuiteD {a : Addr} {pn' : List (Addr × Obj)} (I : Inv (X.suite a (X.pn ++ pins)) pn' σ H s) (ok : X.Ok) : Inv X pins σ H s :=
  ⟨ok, I.os, I.bare, I.base, I.loc, I.cell, I.free, I.freeC, fun p hp => I.pin p (List.mem_append_left _ hp), I.hok, I.len⟩
end
theorem fly_keeps {B h h' : Heap} {l : List Env} {a : Addr} {Z : Obj → Prop} (k : ∀ b o, h.get? b = some o → h'.get? b = some o) (x : HandSPX.FlyingZ B l a Z h) : HandSPX.FlyingZ B l a Z h' := by
  obtain ⟨k1, k2, k3, oe, vs, T, oT, ts, he, hz, hd, h1, hB, hne, hT, hdT, r⟩ := x
  exact ⟨fun b o e => k b o (k1 b o e), k2, k3.of_keeps fun b o e _ => ⟨o, k b o e, rfl⟩, oe, vs, T, oT, ts, k _ _ he, hz, hd, h1, hB, hne, k _ _ hT, hdT, r⟩
def wAsD (m : Value → Option Bool) (i : Nat) (ts : TS) (Wout : WX) (D : Ends) : WX := fun cls d σ H =>
  ∃ b, m cls = some b ∧ (b = true → ∀ a oe vs, H a = none → Zc cls d oe → oe.data = .fields vs → ts { nx := fun σ' H' => D.nx (σ'.set i none) H', rt := D.rt, bk := fun σ' H' => D.bk (σ'.set i none) H', ct := fun σ' H' => D.ct (σ'.set i none) H' } (σ.set i (some (.ref a))) (upd H a (excX a oe))) ∧
    (b = false → Wout cls d σ H)
section
variable {X : Cx} {n : Str} {i : Nat} {tst : Expr} {m : Value → Option Bool} {body suite : List Stmt} {b₀ : Stmt} {pos pos' : Pos} {tb : WX → TS} {ts : TS} {Wout : WX}
theorem ps_try_asD (hs : X.stack = X.env :: X.outer) (hf : X.env.frame = some X.env.locals) (hN : X.N.Nodup) (hi : X.N[i]? = some n) (hln : X.env.kindOf n = some .local) (hc : Tst X tst m) (tk : Takes X Wout)
    (hb : ∀ (W : WX) (pn : List (Addr × Obj)) (xe : Value → Shared → Prop), Takes (X.tr pn xe) W → PassesOwn (model X.prog X.w) X.A X.env xe → PSs (X.tr pn xe) body (tb W))
    (hsu : ∀ (a : Addr) (pn : List (Addr × Obj)), PSs (X.suite a pn) (b₀ :: suite) ts) :
    PS X (.Try body [.ExceptHandler (some tst) (some n) (b₀ :: suite) pos'] [] [] pos) (fun D σ H => tb (wAsD m i ts Wout D) D σ H) := by
  refine ⟨fun pins s σ H D I h => ?_⟩
  have ok := I.ok
  have hfr : X.A.frames = some (X.env :: X.outer) := by rw [ok.frames, hs]
  have hloc : Loc X.env.scope n := .inl hln
  refine wpAny_Try_except ?_
  refine wpAny_mono ((hb (wAsD m i ts Wout D) (X.pn ++ pins) (fun e s₁ => wpAny (model X.prog X.w) X.A (noteFrame e X.env) (fun _ s₂ => wpAny (model X.prog X.w) X.A (setFlight e none) (fun _ s₃ =>
    wpAny (model X.prog X.w) X.A (handleBy e X.env [.ExceptHandler (some tst) (some n) (b₀ :: suite) pos']) (SP X pins D) X.xe s₃) X.xe s₂) X.xe s₁) (fun u s' xx => ?_) PassesOwn.looking).run [] s σ H D (I.toTry _) h) (fun f s1 hsp => ?_) (fun e s1 he => he)
  · -- the catch
    obtain ⟨a, B, sI, pins', σ', H', cls, d, rfl, J', nb, up, sky, na, os, ag, b, hb1, hyes, hno⟩ := xx
    have J : Inv X pins σ' H' sI := J'.ofTry ok
    have sky' : Sky B (X.env :: X.outer) a (Zc cls d) X.env.locals s'.heap := by rw [← hs]; exact sky
    show wpAny (model X.prog X.w) X.A (noteFrame (.ref a) X.env) _ _ _
    refine Sky.land Zc.steady hfr hf sky' fun h3 fl3 up3 => ?_
    have J3 : Inv X pins σ' H' { s' with heap := h3 } := J.landed nb fl3.1 (up.trans up3) os ag
    obtain ⟨oe3, vs3, he3, hz3, hd3⟩ := fl3.there
    have notFr : ∀ {h : Heap} {o : Obj} {vs : Array Value}, h.FunFrames B (X.env :: X.outer) → h.get? a = some o → o.data = .fields vs → a ∉ frs (X.env :: X.outer) := fun {h o vs} ff e dd hm => by
      obtain ⟨_, o', e', hnf⟩ := ff.mem hm
      rw [e] at e'; cases e'
      exact hnf _ dd
    have nfr := notFr fl3.2.2.1 he3 hd3
    have nL : a ≠ X.env.locals := fun z => nfr (List.mem_filterMap.mpr ⟨X.env, List.mem_cons_self, by rw [hf, z]⟩)
    have nF : a ∉ X.fs := fun hm => by
      obtain ⟨e, he, q⟩ := List.mem_filterMap.mp hm
      exact nfr (List.mem_filterMap.mpr ⟨e, List.mem_cons_of_mem _ he, q⟩)
    have nI : ∀ o, sI.heap.get? a ≠ some o := fun o e => by
      have z := nb a o e (by rw [hs]; exact nfr)
      rw [fl3.2.1] at z
      cases z
    have n0 : ∀ o, X.s_0.heap.get? a = some o → a ∈ X.ex := fun o e => by
      by_cases hx : a ∈ X.ex
      · exact hx
      · obtain ⟨o', e'⟩ := J.base.there a o e hx
        exact absurd e' (nI o')
    have np : ∀ p ∈ X.pn ++ pins, p.1 ≠ a := fun p hp z => nI p.2 (z ▸ (J.pin p hp).1)
    have S3 := inv_suiteD J3 he3 hd3 na nL n0 np
    refine wpAny_handleBy_cons (codeAny_handlers_test ?_) (by intro q; cases q)
    have LT : PySem.W.Looks (model X.prog X.w) h3 (typeOf (.ref a)) cls := fun A Q E s k q => wpAny_typeOf_ref (k _ _ he3) (by rw [hz3.1]; exact q)
    refine hc a (X.pn ++ pins) [] σ' _ { s' with heap := h3 } cls b _ _ _ S3 LT hb1 fun h3' tk3 kp3 => ?_
    have fl3' := fly_keeps kp3 fl3
    have up3' := up3.trans (Heap.UpToSlots.of_keeps kp3)
    cases b with
    | true =>
      refine codeAny_handlers_suite_as ?_
      refine HandSPX.lands_againZ fl3' fun h4 fl4 up4 => ?_
      have J4 : Inv X pins σ' H' { s' with heap := h4, toks := tk3 } := J.landed nb fl4.1 ((up.trans up3').trans up4) os ag
      obtain ⟨oe4, vs4, he4, hz4, hd4⟩ := fl4.there
      have S4 := inv_suiteD J4 he4 hd4 na nL n0 np
      refine store_ok (X := X.suite a (X.pn ++ pins)) (v := .ref a) S4 hN hi hloc rfl (fun s5 S5 => ?_) (.inr hln)
      refine wpAny_mono ((hsu a (X.pn ++ pins)).run [] s5 _ _ _ S5 (hyes rfl a oe4 vs4 na hz4 hd4)) (fun f s6 hsp => ?_) (fun _ _ z => False.elim z)
      have end_ : ∀ {σ6 : L2.St} {H6 : Hp} {Q : Shared → Prop}, Inv (X.suite a (X.pn ++ pins)) [] σ6 H6 s6 → (∀ s7, Inv X pins (σ6.set i none) H6 s7 → Q s7) →
          wpAny (model X.prog X.w) X.A (do bindName X.env n .none; unbindBehindTheSuite X.env n pos') (fun _ s7 => Q s7) X.xe s6 := fun {σ6 H6 Q} S6 hq => gone_ok (inv_unsuiteD S6 ok) hN hi hln hq
      cases f with
      | next =>
        obtain ⟨σ6, H6, S6, q6⟩ := hsp
        exact end_ S6 fun s7 J7 => ⟨_, _, J7, q6⟩
      | brk =>
        obtain ⟨σ6, H6, S6, q6⟩ := hsp
        exact end_ S6 fun s7 J7 => ⟨_, _, J7, q6⟩
      | cont =>
        obtain ⟨σ6, H6, S6, q6⟩ := hsp
        exact end_ S6 fun s7 J7 => ⟨_, _, J7, q6⟩
      | ret u =>
        obtain ⟨v6, σ6, H6, S6, r6, q6⟩ := hsp
        exact end_ S6 fun s7 J7 => ⟨_, _, _, J7, r6, q6⟩
    | false =>
      show wpAny _ X.A (handleBy (.ref a) X.env []) _ _ _
      refine wpAny_handleBy_nil ?_
      obtain ⟨k1, k2, k3, oe, vs, T, oT, ts', he, hz, hd, h1, hr⟩ := id fl3'
      unfold PySem.passOn
      refine wpAny_bind (wpAny_field he hd h1 ?_)
      rw [if_neg (show ¬ ((Value.ref T == Value.none) = true) from by simp)]
      have fin : wpAny (model X.prog X.w) X.A (setFlight (.ref a) X.env.frame) (fun _ s4 => wpAny (model X.prog X.w) X.A (throw (.ref a) : Sem Flow) (SP X pins D) X.xe s4) X.xe { s' with heap := h3', toks := tk3 } := by
        rw [hf]
        refine HandSPX.setFlight_upZ fl3' fun h4 hh4 up4 => wpAny_throw (tk _ _ ?_)
        exact ⟨a, B, sI, pins, σ', H', cls, d, rfl, J, nb, (up.trans up3').trans up4, .inr (.inr (by rw [hs]; exact hh4)), na, os, ag, hno rfl⟩
      first
        | exact wpAny_bind (wpAny_pure (wpAny_bind fin))
        | exact wpAny_bind fin
  · cases f with
    | next =>
      obtain ⟨σ', H', J', q⟩ := hsp
      exact wpAny_execs_nil ⟨σ', H', J'.ofTry ok, q⟩
    | brk =>
      obtain ⟨σ', H', J', q⟩ := hsp
      exact ⟨σ', H', J'.ofTry ok, q⟩
    | cont =>
      obtain ⟨σ', H', J', q⟩ := hsp
      exact ⟨σ', H', J'.ofTry ok, q⟩
    | ret u =>
      obtain ⟨v, σ', H', J', r, q⟩ := hsp
      exact ⟨v, σ', H', J'.ofTry ok, r, q⟩
end
end DL

namespace DL
open PySem PySem.Spec PyProof.Rows L2
section
variable {X : Cx} {Wx : WX} {a b c e o : Expr} {es rest : List Expr} {da db dc de do' : DE} {dt du : DT} {dl dk : DA} {pos : Pos}
/-! ### statements as readings of the layer -/
def tsOf (K : PySem.W.Frag) (Wx : WX) (ds : DS) : TS := fun D σ H => ∃ env L D', StL K σ H env L ∧ ds D' env L ∧ EOk K Wx L H D' D
theorem QSs.pss {sts : List Stmt} {ds : DS} (h : QSs X Wx sts ds) : PSs X sts (tsOf X.K Wx ds) := by
  obtain ⟨ts, p, s⟩ := h.ex
  refine ⟨fun pins s' σ H D I hw => ?_⟩
  obtain ⟨env, L, D', st, h, ok⟩ := hw
  exact p.run pins s' σ H D I (s σ H env L D' D st h ok)
abbrev noW : WX := fun _ _ _ _ => False
def dTry (m : Value → Option Bool) (i : Nat) (db ds : DS) : DS := fun D env L => db { D with ex := fun n env' L' => ∃ b, m n.cls = some b ∧ match b with
  | true => ∃ C, n.cls = .ref C ∧ ds { nx := fun e L => D.nx (e.set i none) L, rt := D.rt, ex := fun _ _ _ => False, bk := fun e L => D.bk (e.set i none) L, ct := fun e L => D.ct (e.set i none) L } (env'.set i (some (.exc C n.ns n.vs))) L'
  | false => D.ex n env' L' } env L
theorem s_try (i : Nat) {n : Str} {tst : Expr} {m : Value → Option Bool} {body suite : List Stmt} {b₀ : Stmt} {pos pos' : Pos} {db ds : DS} (hs : X.stack = X.env :: X.outer) (hf : X.env.frame = some X.env.locals) (hN : X.N.Nodup) (hc : Tst X tst m) (tk : Takes X Wx)
    (hb : ∀ (W : WX) (pn : List (Addr × Obj)) (xe : Value → Shared → Prop), Takes (X.tr pn xe) W → PassesOwn (model X.prog X.w) X.A X.env xe → QSs (X.tr pn xe) W body db)
    (hsu : ∀ (a : Addr) (pn : List (Addr × Obj)), QSs (X.suite a pn) noW (b₀ :: suite) ds) (hi : X.N[i]? = some n := by rfl) (hln : X.env.kindOf n = some .local := by rfl) :
    QS X Wx (.Try body [.ExceptHandler (some tst) (some n) (b₀ :: suite) pos'] [] [] pos) (dTry m i db ds) := by
  refine ⟨_, ps_try_asD (tb := fun W => tsOf X.K W db) (ts := tsOf X.K noW ds) hs hf hN hi hln hc tk (fun W pn xe tk' po => (hb W pn xe tk' po).pss) (fun a pn => (hsu a pn).pss), fun σ H env L D' D st h ok => ?_⟩
  refine ⟨env, L, _, st, h, ⟨ok.nx, ok.rt, fun nn env' L' d H' σ' hx g' st' er => ?_, ok.bk, ok.ct⟩⟩
  obtain ⟨b, hm, hx⟩ := hx
  refine ⟨b, hm, fun hb => ?_, fun hb => ?_⟩
  · subst hb
    obtain ⟨C, hC, hx⟩ := hx
    intro a oe vs na hz hd
    obtain ⟨nd, xs, h1, h2, h3⟩ := er
    have s1 := same_new na (excX a oe)
    have g1 : Go L' L' H' (upd H' a (excX a oe)) := Go.same s1
    have j1 := st'.2.same s1
    refine ⟨_, L', _, ⟨((st'.1.go g1).set (.exc (st'.2.notIn na) nd upd_same (fun h z => ⟨oe, vs, z, ?_, hz.2, hd⟩) (.inl (s1 d _ h1)) h2 (h3.go g1)) i), j1⟩, hx, ?_⟩
    · rw [← hC]; exact hz.1
    · have ok' := (ok.go g').go g1
      exact ⟨fun e L2 σ2 H2 q g st2 => ok'.nx _ L2 _ H2 q g ⟨st2.1.wipe1 i, st2.2⟩, ok'.rt, fun _ _ _ _ _ _ z => z.elim, fun e L2 σ2 H2 q g st2 => ok'.bk _ L2 _ H2 q g ⟨st2.1.wipe1 i, st2.2⟩, fun e L2 σ2 H2 q g st2 => ok'.ct _ L2 _ H2 q g ⟨st2.1.wipe1 i, st2.2⟩⟩
  · subst hb
    exact ok.ex nn env' L' d H' σ' hx g' st' er
/-! ### what is never reached -/
def dNever : DS := fun _ _ _ => False
theorem s_never {st : Stmt} : QS X Wx st dNever := ⟨_, ps_never, fun _ _ _ _ _ _ _ h _ => h.elim⟩
/-! ### raise C() -/
theorem pmk_oex0 {CX : CXT} {x : Str} {C fI : Addr} {k : Nat} {fd : FuncData} {ps : List Str} {sp : Sp} {p : Pos} (T : OexC X.K C) (iC : PySem.W.findIn X.K (.ref C) "__init__" = some (some (.ref fI))) (tI : PySem.W.typeIn X.K (.ref fI) = some (.type "function"))
    (F1 : FnOk X.prog X.w X.K X.mg X.base CX k fI fd ps sp) (hr : Room (k + 1) X.A) (hb : Binds X.K fd ps []) (hx : Passes CX X (fun _ _ _ => False)) (hg : Gl X x) (hm : X.mg x = some (.ref C))
    (hdb : (x == ("__debug__" : Str)) = false := by decide) :
    PMk X (.Call (.Name x p) [] [] pos) (tMkO C sp [] tNil) := by
  intro pins s σ H Q I h
  obtain ⟨nm, q, N, bs, bm, sn, sub, ab, col, dd, k0, k1, k2, k3, k5, hC, hbm⟩ := T.cls
  refine wpAny_Call_Name_kw (ld_glob I hg hm ?_ hdb)
  refine PySem.W.callWith_K0 I.kIn T.kC ?_
  show wpAny _ _ (call (.ref C) []) _ _ _
  obtain ⟨_, q1⟩ := h
  obtain ⟨hp, g, dr, tk, os⟩ := s
  have I1 := I
  have hsz : hp.objs.size ≤ hp.objs.size + 1 := Nat.le_succ _
  have hn : H (hp.objs.size + 1) = none := I1.hok.fresh hsz
  have hq := q1 (hp.objs.size + 1) hn
  have kk : ∀ b o, hp.get? b = some o → ((hp.push (PySem.W.kdv_tup [])).push (PySem.HandSPX.excO C hp.objs.size)).get? b = some o := fun b o e => Heap.get?_push_of_some _ (Heap.get?_push_of_some _ e)
  have hget : ((hp.push (PySem.W.kdv_tup [])).push (PySem.HandSPX.excO C hp.objs.size)).get? (hp.objs.size + 1) = some (PySem.HandSPX.excO C hp.objs.size) := by heap_get
  have I2 : Inv X pins σ (upd H (hp.objs.size + 1) (exo (hp.objs.size + 1) C none)) ⟨(hp.push (PySem.W.kdv_tup [])).push (PySem.HandSPX.excO C hp.objs.size), g, dr, tk, os⟩ :=
    I1.laid (t' := tk) (a := hp.objs.size + 1) (o := exo (hp.objs.size + 1) C none) (h' := (hp.push (PySem.W.kdv_tup [])).push (PySem.HandSPX.excO C hp.objs.size)) kk hsz (exo_ok hget)
  have r2 : Vals [V.ref (hp.objs.size + 1)] [Value.ref (hp.objs.size + 1)] := .cons rfl .nil
  have hl : ([Value.ref (hp.objs.size + 1)] ++ []).length = ps.length := by
    have e : [V.ref (hp.objs.size + 1)].length = ps.length := F1.len _ _ _ _ hq
    exact e
  refine wpAny_call (PySem.HandSPX.call_own F.excBase_ValueError (fun Y => PySem.HandSPX.refsVE_contains Y bm hbm) (I1.kIn _ _ hC) (PySem.W.looks_findIn I1.kIn iC) (fun self => PySem.W.bind_fn I1.kIn self tI) (Nat.zero_le _)
    (codeAny_mono (F1.run _ X.stack _ _ ⟨[Value.ref (hp.objs.size + 1)], []⟩ [Value.ref (hp.objs.size + 1)] _ _ (fun _ _ _ => False) (hr.make C [] []) (I2.env0.make C [] []) (hb _ [Value.ref (hp.objs.size + 1)] I2.kIn hl) r2 hq) fun r s' hq' => ?_))
  cases r with
  | error er => exact hx pins σ _ _ er s' I2 hq'
  | ok fl =>
    cases fl with
    | ret u =>
      obtain ⟨v, H2, os2, bare2, un2, hok2, rv, ev, d, fs, ea, ed, hd1, q2⟩ := hq'
      subst ev
      obtain ⟨h2, g2, d2, t2, os'⟩ := s'
      exact ⟨rv, mk_end (raises_own T.exC T.tyC) I1 hsz kk un2 hok2 os2 bare2 ea ed hd1 q2⟩
    | next => exact False.elim hq'
    | brk => exact False.elim hq'
    | cont => exact False.elim hq'
def dRaise0 (C : Addr) (code : Str) : DS := fun D env L => D.ex ⟨.ref C, ["code"], [.str code]⟩ env L
theorem s_raise0 {x : Str} {C : Addr} {ps : List Str} {code : Str} {p pos2 : Pos} {k : Nat} (T : ExCls X.prog X.w X.K X.mg X.base x C ps (spI0 C code)) (hcalm : X.calm = true) (hr : Room k X.A) (h2 : 2 ≤ k) (tk : Takes X Wx) (hg : Gl X x) (hdb : (x == ("__debug__" : Str)) = false := by decide) :
    QS X Wx (.Raise (some (.Call (.Name x p) [] [] pos)) none pos2) (dRaise0 C code) := by
  obtain ⟨fI, fd, iC, tI, F1, hb⟩ := T.make_
  refine ⟨_, ps_raise (W := Wx) hcalm tk (pmk_oex0 T.oex iC tI F1 (hr.mono h2) hb (fun _ _ _ _ _ _ _ h => by obtain ⟨_, _, _, _, _, _, _, _, _, _, _, _, z⟩ := h; exact z.elim) hg T.gC hdb), fun σ H env L D' D st h ok => ?_⟩
  refine ⟨by simp, fun q hq => ⟨q, rfl, upd_same, fun d hd hne => ?_⟩⟩
  have hd1 : H d = none := by rw [upd_ne hne] at hd; exact hd
  refine ⟨rfl, d, [("code", .str code)], upd_same, ?_, hd1, ?_⟩
  · rw [upd_ne hne, upd_same]
  · have s : Same H (upd (del (upd (upd (upd H q (exo q C none)) d (exd d [("code", .str code)])) q (exo q C (some d))) q) d (.xd [("code", .str code)])) := fun b u hb => by
      have n1 : b ≠ q := ne_of_none hb hq
      have n2 : b ≠ d := ne_of_none hb hd1
      rw [upd_ne n2, del_ne n1, upd_ne n1, upd_ne n2, upd_ne n1]
      exact hb
    have g2 : Go L L H _ := Go.same (L := L) s
    have j2 := st.2.same s
    exact ok.ex ⟨.ref C, ["code"], [.str code]⟩ env L d _ σ h g2 (st.go g2 j2) ⟨st.2.notIn hd1, [.str code], upd_same, rfl, .cons (.str code) .nil⟩
/-! ### x in (.., ..) of flat things -/
def flD : D → Option V
  | .non => some .non
  | .bl b => some (.bl b)
  | .int i => some (.int i)
  | .str x => some (.str x)
  | _ => none
def flDs : List D → Option (List V)
  | [] => some []
  | d :: r => match flD d, flDs r with
    | some v, some vs => some (v :: vs)
    | _, _ => none
theorem flD_of {L : Led} {K : PySem.W.Frag} {H : Hp} {v v' : V} {d : D} (r : Rp L K H v d) (h : flD d = some v') : v = v' ∧ flatV v = true := by
  cases r <;> first | (cases h; done) | skip
  all_goals (cases h; exact ⟨rfl, rfl⟩)
theorem flDs_of {L : Led} {K : PySem.W.Frag} {H : Hp} : ∀ {vs vs' : List V} {ds : List D}, RpAll L K H vs ds → flDs ds = some vs' → vs = vs' ∧ vs.all flatV = true
  | _, _, _, .nil, h => by cases h; exact ⟨rfl, rfl⟩
  | _, _, _, .cons (d := d) (ds := ds) r t, h => by
    unfold flDs at h
    split at h
    · rename_i v vs h1 h2
      cases h
      obtain ⟨e1, f1⟩ := flD_of r h1
      obtain ⟨e2, f2⟩ := flDs_of t h2
      subst e1 e2
      exact ⟨rfl, by rw [List.all_cons, f1, f2]; rfl⟩
    · cases h
def gIn (neg : Bool) : G2 := fun a b L k => match flD a, seqs (con L b) with
  | some v, some ds => match flDs ds with
    | some vs => k (.bl (if neg then !inV v vs else inV v vs))
    | none => False
  | _, _ => False
theorem sim_in {K : PySem.W.Frag} {neg : Bool} : Sim2 K (rIn K neg) (gIn neg) := by
  intro H L va vb a b k Q j ra rb h hk
  unfold gIn at h
  split at h
  · rename_i v ds h1 h2
    split at h
    · rename_i vs h3
      obtain ⟨e1, f1⟩ := flD_of ra h1
      subst e1
      obtain ⟨p, ws, rfl, hs, rv⟩ := con_seq j rb h2
      obtain ⟨e2, f2⟩ := flDs_of rv h3
      subst e2
      exact ⟨p, ws, rfl, hs, f1, f2, hk _ _ H h (Same.refl H) (.bl _)⟩
    · exact h.elim
  · exact h.elim
theorem oq_inQ : OQ X (compareOp .In) (gIn false) := ⟨_, op_in_seq, sim_in⟩
theorem oq_notInQ : OQ X (compareOp .NotIn) (gIn true) := ⟨_, op_notIn_seq, sim_in⟩
/-! ### defs that are called in an except suite: they raise nothing and do not loop -/
structure FnQ (P : Program) (w : World) (K : PySem.W.Frag) (mg : Str → Option Value) (base : Heap) (k : Nat) (f : Addr) (fd : FuncData) (ps : List Str) (sp : Sp) : Prop where
  len : ∀ vs H Q E, sp vs H Q E → vs.length = ps.length
  run : ∀ (A : Around) (outer : List Env) (s : Shared) (H : Hp) (args : Args) (us : List Value) (vs : List V) (Q : VK), L2H.RoomH k A → Env0 P w K mg base A outer s H → BindsTo s fd args (ps.zip us) → Vals vs us → sp vs H Q (fun _ _ _ => False) →
    codeAny (model P w) A (.call (.ref f) args) (CR (L2.CX P w) outer P w H s Q fun _ _ _ => False) s
end
def cxQ (P : Program) (w : World) (K : PySem.W.Frag) (mg : Str → Option Value) (base : Heap) (N : List Str) (qual : Str) (scope : Scope) (f : Addr) (cd : Value) (A : Around) (outer : List Env) (s : Shared) (H : Hp) : Cx :=
  { cxOf (L2.CX P w) P w K mg base N qual scope f cd A outer s H (fun _ _ _ => False) with calm := false, xe := fun _ _ => False }
section
variable {P : Program} {w : World} {K : PySem.W.Frag} {mg : Str → Option Value} {base : Heap}
theorem fn_okQ {x qual : Str} {st : Stmt} {f : Addr} {fd : FuncData} {N ps : List Str} {k : Nat} {g : DSp} (F : Fun K x qual st f fd) (S : FnScope N ps (defScope st)) (len : ∀ ds L k x, g ds L k x → ds.length = ps.length)
    (body : ∀ (cdv : Value) (A : Around) (outer : List Env) (s : Shared) (H : Hp), L2H.RoomH k (A.deeper (envOfC qual (defScope st) s.heap.objs.size f cdv)) →
      ∃ t, QSs (cxQ P w K mg base N qual (defScope st) f cdv A outer s H) noW (defBody st) t ∧ ∀ ds L k x, g ds L k x → t (endsD k fun _ _ => False) (startD N ds) L) : FnQ P w K mg base (k + 1) f fd ps (spD K g) := by
  obtain ⟨oc, od, kV, doc, pm, an, cdv, ct, osl, rfl, lk, hcd⟩ := F.ex
  have len' : ∀ vs H Q E, spD K g vs H Q E → vs.length = ps.length := fun vs H Q E h => by
    obtain ⟨ds, L, k, x, j, r, h, _⟩ := h
    rw [r.length]
    exact len ds L k x h
  refine ⟨len', fun A outer s H args us vs Q hr e0 hb r hsp => ?_⟩
  have hl := len' _ _ _ _ hsp
  have KX : K.In s.heap := e0.mod.kin.keeps fun b o e => (e0.bs b o e).1
  have lim : s.heap.NoLimit := e0.mod.nolimit.keeps fun b o e => (e0.bs b o e).1
  have hkind : ∀ y ∈ ps.zip us, (defScope st).names.lookup y.1 = some .local ∨ ((defScope st).names.lookup y.1 = some .cell ∧ ((cellsFrom (s.heap.objs.size + 1) (defScope st).names []).lookup y.1).isSome = true) := fun ⟨n, v⟩ hy => by
    rcases S.par n (List.of_mem_zip hy).1 with q | q
    · exact .inl q
    · exact .inr ⟨q, PySem.W.cellsFrom_some _ _ _ (.inl q)⟩
  refine codeAny_call_function hr.depth (KX _ _ lk) rfl S.co S.gen rfl (PySem.W.codeRec_of KX hcd) (hb _ _ _ _ ?_)
  refine wpAny_newFunctionEnv_cells S.kind hkind fun env he s1 x => ?_
  subst he
  refine ⟨lim.keeps x.toInCall.keep, codeAny_func ?_⟩
  obtain ⟨t, q, ht⟩ := body cdv A outer s H (hr.deeper _)
  obtain ⟨ts, pts, sts⟩ := q.ex
  have e1 : Env0 P w K mg base { A with handled := none } outer s H := ⟨e0.frames, e0.mod, e0.bs, e0.bsz, e0.funs, e0.frf, e0.hok, e0.bare⟩
  have I0 := inv_start (CX := L2.CX P w) (qual := qual) (f := f) (cd := cdv) (E := fun _ _ _ => False) S (A := { A with handled := none }) rfl e1 hl r x
  have I : Inv (cxQ P w K mg base N qual (defScope st) f cdv A outer s H) [] (L2.start N vs) H s1 :=
    ⟨⟨I0.ok.mod, I0.ok.kind, I0.ok.glob, I0.ok.blt, I0.ok.above, I0.ok.inj, I0.ok.has, I0.ok.cab, (fun z => Bool.noConfusion (show false = true from z)), Around.frames_deeper e0.frames, I0.ok.stk, I0.ok.exf, I0.ok.bs, I0.ok.bsz, I0.ok.noex, I0.ok.exfs, I0.ok.funs, I0.ok.frf⟩,
      I0.os, I0.bare, I0.base, I0.loc, I0.cell, I0.free, I0.freeC, I0.pin, I0.hok, I0.len⟩
  obtain ⟨ds, L, kk, xx, j, rr, hg, hk, hx⟩ := hsp
  refine wpAny_mono (pts.run [] s1 (L2.start N vs) H { nx := fun _ H' => Q .non H', rt := Q } I (sts _ H (startD N ds) L (endsD kk fun _ _ => False) _ ⟨?_, j⟩ (ht ds L kk xx hg) ?_)) (fun fl s' hs => ?_) fun e s' hs => hs.elim
  · unfold L2.start startD
    rw [rr.length]
    exact Sto.start rr
  · exact ⟨fun env' L' σ' H' q g' st' => hk .non L' .non H' q g' st'.2 .non, hk, fun n env' L' a H' σ' q g' st' r' => q.elim, fun _ _ _ _ q => q.elim, fun _ _ _ _ q => q.elim⟩
  · have fin : ∀ {σ' : L2.St} {H' : Hp} {v : V} {u : Value}, Inv (cxQ P w K mg base N qual (defScope st) f cdv A outer s H) [] σ' H' s' → RelV v u → Q v H' → CE outer P w H s Q u s' :=
      fun {σ' H' v u} J rv q => ⟨v, H', J.os, J.bare, J.base, J.hok, rv, q⟩
    cases fl with
    | ret u =>
      obtain ⟨v, σ', H', J, rv, q⟩ := hs
      exact fin J rv q
    | next =>
      obtain ⟨σ', H', J, q⟩ := hs
      exact fin (v := V.non) (u := Value.none) J rfl q
    | brk =>
      obtain ⟨_, _, _, q⟩ := hs
      exact False.elim q
    | cont =>
      obtain ⟨_, _, _, q⟩ := hs
      exact False.elim q
end
structure CalQ (P : Program) (w : World) (K : PySem.W.Frag) (mg : Str → Option Value) (base : Heap) (n : Nat) (x : Str) (ps : List Str) (g : DSp) : Prop where
  ex : ∃ (f : Addr) (fd : FuncData), FnQ P w K mg base n f fd ps (spD K g) ∧ mg x = some (.ref f) ∧ PySem.W.keepIn K (.ref f) = true ∧ Binds K fd ps []
section
variable {X : Cx} {Wx : WX} {e : Expr} {es : List Expr} {dl : DA} {pos : Pos}
theorem q_calQ {x : Str} {p : Pos} {n k : Nat} {ps : List Str} {g : DSp} (F : CalQ X.prog X.w X.K X.mg X.base n x ps g) (hn : n ≤ k) (hr : L2H.RoomH k X.A) (hg : Gl X x) (ha : QA X Wx (e :: es) dl) (hdb : (x == ("__debug__" : Str)) = false := by decide)
    (he : starEach (e :: es) X.env = (false, eval e X.env) :: starEach es X.env := by rfl) (hpl : (backTo pos (starEach es X.env)).any (·.1) = false := by rfl) : QE X Wx (.Call (.Name x p) (e :: es) [] pos) (fun env L k x => dl env L (fun ds L1 => g ds L1 k fun _ _ => False) x) := by
  obtain ⟨f, fd, F, hm, hk, hb⟩ := F.ex
  obtain ⟨ta, pa, sa⟩ := ha.ex
  refine ⟨fun σ H Q => ta σ H fun vs H1 => spD X.K g vs H1 Q fun _ _ _ => False, ⟨fun pins s σ H Q I h => ?_⟩, fun σ H env L kk xx Q st h hk hx => ?_⟩
  · refine wpAny_Call_Name_kw (ld_glob I hg hm ?_ hdb)
    refine PySem.W.callWith_K (h₀ := X.base) I.ok.mod.kin hk (thn (pa.run pos pins s σ H _ I h) fun us s1 ⟨vs, H1, I1, r, q⟩ => ⟨I1.kIn, ?_⟩) he hpl
    have hl : us.length = ps.length := by rw [← r.length]; exact F.len _ _ _ _ q
    have rc := F.run X.A X.stack s1 H1 ⟨us, []⟩ (us ++ []) vs Q (hr.mono hn) I1.env0 (hb s1 us I1.kIn (by rw [List.append_nil]; exact hl)) (by rw [List.append_nil]; exact r) q
    refine wpAny_call (codeAny_mono rc fun r' s' hq => ?_)
    cases r' with
    | error e => obtain ⟨_, _, _, _, _, _, _, _, _, _, _, _, z⟩ := hq; exact z.elim
    | ok fl =>
      cases fl with
      | ret u => exact I1.after hq
      | next => exact False.elim hq
      | brk => exact False.elim hq
      | cont => exact False.elim hq
  · refine sa σ H env L _ xx _ st h (fun ds L1 vs H1 h1 g1 j1 r1 => ?_) hx
    exact ⟨ds, L1, kk, _, j1, r1, h1, hk.go g1, fun n L' a H' q _ _ _ => q.elim⟩
end
end DL

namespace DL
open PySem L2
section
variable {X : Cx} {Wx : WX} {a b c e o : Expr} {es : List Expr} {da db dc de do' : DE} {dl : DA} {pos : Pos}
/-! ### xs.append(e) of a list of the ledger -/
def dAppend (do' de : DE) : DE := fun env L k x => do' env L (fun o L1 => match o with
  | .ptr p => match L1.lookup p with
    | some (.lst _) => de env L1 (fun d L2 => match L2.lookup p with
      | some (.lst ds) => ds.length < sizeLine ∧ k .non (setL L2 p (.lst (ds ++ [d])))
      | _ => False) x
    | _ => False
  | _ => False) x
theorem q_append {apos : Pos} (ho : QE X Wx o do') (he : QE X Wx e de)
    (hbase : attributeBase o "append" X.env (eval o X.env) = eval o X.env := by rfl)
    (hfew : ((backTo pos (starEach (e :: []) X.env)).all (fun x => !x.1) && (backToKw pos (keywordEach [] X.env)).all (fun x => x.1.isSome)
      && decide ((e :: []).length + ([] : List Keyword).length + (if ([] : List Keyword).isEmpty then 0 else 1) < 30)) = true := by rfl)
    (hline : (apos.endLine == pos.line) = true := by rfl) (hs : starEach (e :: []) X.env = (false, eval e X.env) :: starEach [] X.env := by rfl) (hplain : (backTo pos (starEach [] X.env)).any (·.1) = false := by rfl) :
    QE X Wx (.Call (.Attribute o "append" apos) [e] [] pos) (dAppend do' de) := by
  obtain ⟨to, po, so⟩ := ho.ex
  obtain ⟨ta, pa, sa⟩ := (a_cons he a_nil hs).ex
  refine ⟨_, pe_bm PySem.F.plainAttrs_list PySem.F.slot_list_append PySem.F.type_list_append mt_append po pa hbase hfew hline hs hplain, fun σ H env L k x Q st h hk hx => ?_⟩
  refine so σ H env L _ x _ st h (fun o L1 vo H1 h1 g1 j1 r1 => ?_) hx
  split at h1
  · rename_i p
    cases r1
    split at h1
    · rename_i ds0 hl
      obtain ⟨vs0, e0, rv0⟩ := j1.look hl
      refine ⟨.inl ⟨rfl, _, SqL.of e0⟩, ?_⟩
      refine sa σ H1 env L1 (fun ds L2 => match ds with
        | [d] => (match L2.lookup p with
          | some (.lst ds) => ds.length < sizeLine ∧ k .non (setL L2 p (.lst (ds ++ [d])))
          | _ => False)
        | _ => False) x _ (st.go g1 j1) h1 (fun ds L2 vs H2 h2 g2 j2 r2 => ?_) (hx.go g1)
      split at h2
      · rename_i d
        cases r2 with
        | @cons vd _ _ _ rd r0 =>
        cases r0
        split at h2
        · rename_i ds1 hl2
          obtain ⟨vs1, e1, rv1⟩ := j2.look hl2
          have hp := inL_of_lookup hl2
          refine ⟨p, vs1, _, rfl, rfl, e1, by rw [rv1.length]; exact h2.1, ?_⟩
          have g4 : Go L2 (setL L2 p (.lst (ds1 ++ [d]))) H2 (upd H2 p (.lst (vs1 ++ [vd]))) := go_set hp
          have j4 : JL X.K (setL L2 p (.lst (ds1 ++ [d]))) (upd H2 p (.lst (vs1 ++ [vd]))) := j2.put hp ⟨_, upd_same, (rv1.go g4).append (.cons (rd.go g4) .nil)⟩
          exact hk _ _ _ _ h2.2 ((g1.trans g2).trans g4) j4 .non
        · exact h2.elim
      · exact h2.elim
    · exact h1.elim
  · exact h1.elim
/-- a list of the ledger, read for the last time: from now on a plain datum -/
def dSeal (i : Nat) : DE := fun env L k _ => match env[i]? with
  | some (some (.ptr p)) => match L.lookup p with
    | some (.lst ds) => k (.lst ds) (remL L p)
    | _ => False
  | _ => False
theorem q_seal (i : Nat) {x : Str} {pos : Pos} (hN : X.N[i]? = some x := by rfl) (hv : Vis X.env.scope x := by first | exact Or.inl rfl | exact Or.inr (Or.inl rfl) | exact Or.inr (Or.inr rfl)) (hd : (x == ("__debug__" : Str)) = false := by decide)
    (hcd : (x == ("__classdict__" : Str)) = false := by decide) : QE X Wx (.Name x pos) (dSeal i) := by
  refine ⟨tVar i, pv i hN hv hd hcd, fun σ H env L k x Q st h hk _ => ?_⟩
  unfold dSeal at h
  split at h
  · rename_i p hd
    split at h
    · rename_i ds hl
      obtain ⟨v, e1, r⟩ := st.1.get hd
      cases r
      obtain ⟨vs, e2, rv⟩ := st.2.look hl
      exact ⟨_, e1, hk _ _ _ H h go_rem st.2.rem (.lst (fun m => (inL_remL.mp m).2 rfl) e2 (rv.go go_rem))⟩
    · exact h.elim
  · exact h.elim
/-! ### texts -/
def gInC (neg : Bool) : G2 := fun a b _ k => match a, b with
  | .str ⟨⟨[c]⟩⟩, .str z => k (.bl (if neg then !decide (c ∈ z.cps.toList) else decide (c ∈ z.cps.toList)))
  | _, _ => False
theorem oq_inC : OQ X (compareOp .In) (gInC false) := ⟨_, op_in_sign, fun H L va vb a b k Q j ra rb h hk => by
  unfold gInC at h
  split at h
  · cases ra
    cases rb
    exact ⟨_, _, rfl, rfl, hk _ _ H h (Same.refl H) (.bl _)⟩
  · exact h.elim⟩
theorem oq_notInC : OQ X (compareOp .NotIn) (gInC true) := ⟨_, op_notIn_sign, fun H L va vb a b k Q j ra rb h hk => by
  unfold gInC at h
  split at h
  · cases ra
    cases rb
    exact ⟨_, _, rfl, rfl, hk _ _ H h (Same.refl H) (.bl _)⟩
  · exact h.elim⟩
/-- the signs of a text, one by one -/
def sgD (l : List Nat) : List D := l.map fun c => .str ⟨#[c]⟩
def diStr (da : DE) : DI := fun env L k x => da env L (fun d L1 => match d with
  | .str z => k (sgD z.cps.toList) L1
  | _ => False) x
theorem it_str {K : PySem.W.Frag} {L : Led} {H : Hp} {z : Str} : ItD K L H (Its z) (sgD z.cps.toList) := fun L' H' g j i => by
  refine ⟨fun d hd => ?_, fun hi => ?_⟩
  · unfold sgD at hd
    rw [List.getElem?_map] at hd
    cases hc : z.cps.toList[i]? with
    | none => rw [hc] at hd; cases hd
    | some c =>
      rw [hc] at hd
      cases hd
      have hlt := (List.getElem?_eq_some_iff.mp hc).1
      refine ⟨by show i < z.cps.size; simpa using hlt, fun x H'' hy => ?_⟩
      obtain ⟨rfl, c', hc', rfl⟩ := hy
      rw [← Array.getElem?_toList, hc] at hc'
      cases hc'
      exact ⟨Same.refl _, .str _⟩
  · unfold sgD at hi
    rw [List.length_map] at hi
    show z.cps.size ≤ i
    simpa using hi
theorem i_str {tg : Expr} (ha : QE X Wx e da) : QI X Wx tg e (diStr da) := by
  obtain ⟨ta, pa, sa⟩ := ha.ex
  refine ⟨_, pi_str pa, fun σ H env L k x R st h hk hx => ?_⟩
  refine sa σ H env L _ _ _ st h (fun d L1 v H1 h1 g1 j1 r1 => ?_) hx
  cases r1 <;> first | exact h1.elim | skip
  exact ⟨_, rfl, hk _ L1 _ H1 h1 g1 j1 it_str⟩
/-- a text's method with one argument -/
def dTxt1 (g : G2) (da db : DE) : DE := fun env L k x => da env L (fun a L1 => match a with
  | .str _ => db env L1 (fun b L2 => g a b L2 fun d => k d L2) x
  | _ => False) x
theorem q_txt1 {id : String} {name : Str} {apos : Pos} {r : V → List V → Hp → VK → Prop} {g : G2} (slot : Slot "str" name id) (ty : typeOf (.builtin id) = pure (.type "method_descriptor")) (rule : MtR X id r) (sr : Sim2 X.K (fun x y H Q => r x [y] H Q) g) (ho : QE X Wx o do') (he : QE X Wx e de)
    (hs : starEach [e] X.env = [(false, eval e X.env)] := by rfl) (hbase : attributeBase o name X.env (eval o X.env) = eval o X.env := by rfl) (hline : (apos.endLine == pos.line) = true := by rfl) :
    QE X Wx (.Call (.Attribute o name apos) [e] [] pos) (dTxt1 g do' de) := by
  obtain ⟨to, po, so⟩ := ho.ex
  obtain ⟨te, pe, se⟩ := he.ex
  refine ⟨_, pe_m1 slot ty rule po pe hs hbase hline, fun σ H env L k x Q st h hk hx => ?_⟩
  refine so σ H env L _ x _ st h (fun o L1 vo H1 h1 g1 j1 r1 => ?_) hx
  cases r1 <;> first | exact h1.elim | skip
  refine ⟨⟨_, rfl⟩, ?_⟩
  refine se σ H1 env L1 _ x _ (st.go g1 j1) h1 (fun b L2 vb H2 h2 g2 j2 r2 => ?_) (hx.go g1)
  exact sr H2 L2 _ vb _ b _ Q j2 (.str _) r2 h2 fun d v H' q s rp => hk d L2 v H' q ((g1.trans g2).trans (Go.same s)) (j2.same s) rp
def gStarts : G2 := fun a b _ k => match a, b with
  | .str x, .str y => k (.bl (Txt.startswith x y))
  | _, _ => False
def gPartn : G2 := fun a b _ k => match a, b with
  | .str x, .str y => (y.length == 0) = false ∧ x.length ≤ sizeLine ∧ k (.tup [.str (Txt.partition x y).1, .str (Txt.partition x y).2.1, .str (Txt.partition x y).2.2])
  | _, _ => False
def gSplit : G2 := fun a b _ k => match a, b with
  | .str x, .str y => (y.length == 0) = false ∧ x.length + 2 ≤ sizeLine ∧ k (.lst ((Txt.split x y).map D.str))
  | _, _ => False
def strsOf : List D → Option (List Str)
  | [] => some []
  | .str z :: r => match strsOf r with
    | some l => some (z :: l)
    | none => none
  | _ => none
theorem strsOf_eq : ∀ {ds : List D} {l : List Str}, strsOf ds = some l → ds = l.map D.str
  | [], l, h => by cases h; rfl
  | d :: r, l, h => by
    cases d <;> first | (cases h; done) | skip
    unfold strsOf at h
    cases e : strsOf r with
    | none => rw [e] at h; cases h
    | some m => rw [e] at h; cases h; rw [strsOf_eq e]; rfl
theorem strsOf_map : ∀ l : List Str, strsOf (l.map D.str) = some l
  | [] => rfl
  | z :: r => by show (match strsOf (r.map D.str) with | some l => some (z :: l) | none => none) = _; rw [strsOf_map r]
def gJoin : G2 := fun a b L k => match a, seqs (con L b) with
  | .str x, some ds => match strsOf ds with
    | some ys => (ys.map (·.length)).sum + ys.length * x.length ≤ 16777216 ∧ k (.str (Txt.join x ys))
    | none => False
  | _, _ => False
theorem q_starts {apos : Pos} (ho : QE X Wx o do') (he : QE X Wx e de) (hs : starEach [e] X.env = [(false, eval e X.env)] := by rfl) (hbase : attributeBase o "startswith" X.env (eval o X.env) = eval o X.env := by rfl) (hline : (apos.endLine == pos.line) = true := by rfl) :
    QE X Wx (.Call (.Attribute o "startswith" apos) [e] [] pos) (dTxt1 gStarts do' de) :=
  q_txt1 PySem.F.slot_str_startswith PySem.F.type_str_startswith mt_startswith (fun H L va vb a b k Q j ra rb h hk => by
    cases ra <;> cases rb <;> first | exact h.elim | skip
    exact ⟨_, _, rfl, rfl, hk _ _ H h (Same.refl H) (.bl _)⟩) ho he hs hbase hline
theorem q_partn {apos : Pos} (ho : QE X Wx o do') (he : QE X Wx e de) (hs : starEach [e] X.env = [(false, eval e X.env)] := by rfl) (hbase : attributeBase o "partition" X.env (eval o X.env) = eval o X.env := by rfl) (hline : (apos.endLine == pos.line) = true := by rfl) :
    QE X Wx (.Call (.Attribute o "partition" apos) [e] [] pos) (dTxt1 gPartn do' de) :=
  q_txt1 PySem.F.slot_str_partition PySem.F.type_str_partition mt_partition (fun H L va vb a b k Q j ra rb h hk => by
    cases ra <;> cases rb <;> first | exact h.elim | skip
    refine ⟨_, _, rfl, rfl, h.1, h.2.1, fun p hp => ?_⟩
    exact hk _ _ _ h.2.2 (same_new hp _) (.tup (.inl ⟨j.notIn hp, .inl upd_same⟩) (.cons (.str _) (.cons (.str _) (.cons (.str _) .nil))))) ho he hs hbase hline
theorem q_split {apos : Pos} (ho : QE X Wx o do') (he : QE X Wx e de) (hs : starEach [e] X.env = [(false, eval e X.env)] := by rfl) (hbase : attributeBase o "split" X.env (eval o X.env) = eval o X.env := by rfl) (hline : (apos.endLine == pos.line) = true := by rfl) :
    QE X Wx (.Call (.Attribute o "split" apos) [e] [] pos) (dTxt1 gSplit do' de) :=
  q_txt1 PySem.F.slot_str_split PySem.F.type_str_split mt_split (fun H L va vb a b k Q j ra rb h hk => by
    cases ra <;> cases rb <;> first | exact h.elim | skip
    refine ⟨_, _, rfl, rfl, h.1, h.2.1, fun p hp => ?_⟩
    exact hk _ _ _ h.2.2 (same_new hp _) (.lst (j.notIn hp) upd_same (RpAll.strs _))) ho he hs hbase hline
theorem q_join {apos : Pos} (ho : QE X Wx o do') (he : QE X Wx e de) (hs : starEach [e] X.env = [(false, eval e X.env)] := by rfl) (hbase : attributeBase o "join" X.env (eval o X.env) = eval o X.env := by rfl) (hline : (apos.endLine == pos.line) = true := by rfl) :
    QE X Wx (.Call (.Attribute o "join" apos) [e] [] pos) (dTxt1 gJoin do' de) :=
  q_txt1 PySem.F.slot_str_join PySem.F.type_str_join mt_join (fun H L va vb a b k Q j ra rb h hk => by
    unfold gJoin at h
    split at h
    · rename_i x ds hd
      cases ra
      split at h
      · rename_i ys hy
        obtain ⟨p, vs, rfl, hs, r⟩ := con_seq j rb hd
        rw [strsOf_eq hy] at r
        cases RpAll.ofStrs ys r
        exact ⟨_, p, ys, rfl, rfl, hs, h.1, hk _ _ H h.2 (Same.refl H) (.str _)⟩
      · exact h.elim
    · exact h.elim) ho he hs hbase hline
end
end DL

namespace DL
open PySem L2
section
variable {X : Cx} {Wx : WX} {a b c e o : Expr} {es : List Expr} {da db dc de do' : DE} {dl : DA} {pos : Pos}
/-! ### a list, a tuple, a text at a place -/
def gIxA : G2 := fun a b L k => match b with
  | .int i => match a with
    | .str z => z.length ≤ sizeLine ∧ match atI z.cps.toList i with
      | some c => k (.str ⟨#[c]⟩)
      | none => False
    | _ => match seqs (con L a) with
      | some ds => match atI ds i with
        | some d => k d
        | none => False
      | none => False
  | _ => False
theorem sim_ixA {K : PySem.W.Frag} : Sim2 K (fun x y H Q => rIxQ K x y H Q ∨ rIxS x y H Q) gIxA := by
  intro H L va vb a b k Q j ra rb h hk
  cases rb <;> first | exact h.elim | skip
  rename_i i
  by_cases ha : ∃ z, a = .str z
  · obtain ⟨z, rfl⟩ := ha
    exact .inr (sim_ixS H L va _ (.str z) (.int i) k Q j ra (.int i) h hk)
  · refine .inl (sim_ix H L va _ a (.int i) k Q j ra (.int i) ?_ hk)
    cases a <;> first | exact h | exact absurd ⟨_, rfl⟩ ha
theorem q_ixA (ha : QE X Wx a da) (hb : QE X Wx b db) (hs : PlainIx b := by intro _ _; rfl) : QE X Wx (.Subscript a b pos) (dOp gIxA da db) := by
  obtain ⟨ta, pa, sa⟩ := ha.ex
  obtain ⟨tb, pb, sb⟩ := hb.ex
  exact ⟨_, pe_ix (ix_or (ix_or ix_list ix_tup) ix_str) pa pb hs, sim_op sa sb sim_ixA⟩
/-! ### names of the top -/
/-- the name x of the top holds d -/
def GlbD (K : PySem.W.Frag) (mg : Str → Option Value) (x : Str) (d : D) : Prop := ∃ u v, mg x = some u ∧ RelV v u ∧ ∀ L H, Rp L K H v d
theorem q_globD {x : Str} {d : D} (h : GlbD X.K X.mg x d) (hg : Gl X x) (hd : (x == ("__debug__" : Str)) = false := by decide) : QE X Wx (.Name x pos) (dC d) := by
  obtain ⟨u, v, h1, h2, h3⟩ := h
  exact q_glob hg h1 h2 h3 hd
theorem glb_int {K : PySem.W.Frag} {mg : Str → Option Value} {x : Str} {i : Int} {t : Tok} (h : mg x = some (.int i t)) : GlbD K mg x (.int i) := ⟨_, .int i, h, ⟨t, rfl⟩, fun _ _ => .int i⟩
theorem glb_str {K : PySem.W.Frag} {mg : Str → Option Value} {x z : Str} {t : Tok} (h : mg x = some (.str z t)) : GlbD K mg x (.str z) := ⟨_, .str z, h, ⟨t, rfl⟩, fun _ _ => .str z⟩
theorem glb_ptr {K : PySem.W.Frag} {mg : Str → Option Value} {x : Str} {a : Addr} (h : mg x = some (.ref a)) : GlbD K mg x (.ptr a) := ⟨_, .ref a, h, rfl, fun _ _ => .ptr a⟩
/-- a written tuple of texts -/
theorem vals_strs' : ∀ (l : List (Str × Tok)), Vals (l.map fun q => V.str q.1) (l.map fun q => Value.str q.1 q.2)
  | [] => .nil
  | (z, t) :: r => .cons ⟨t, rfl⟩ (vals_strs' r)
theorem ktup_strs {K : PySem.W.Frag} {a : Addr} {od : Option Addr} {n : Nat} {sl : Array (Option Value)} {l : List (Str × Tok)} (h : K.lookup a = some ⟨.type "tuple", od, .seq (l.map fun q => Value.str q.1 q.2).toArray n, sl⟩) (hz : l.length ≤ sizeLine) : ∀ L H, Rp L K H (.ref a) (.tup (l.map fun q => D.str q.1)) := fun L H => by
  refine .tup (xs := l.map fun q => V.str q.1) (.inr ⟨_, _, n, h, rfl, rfl, by simpa using hz, vals_strs' l⟩) ?_
  have h1 : (l.map fun q => V.str q.1) = (l.map (·.1)).map V.str := by rw [List.map_map]; rfl
  have h2 : (l.map fun q => D.str q.1) = (l.map (·.1)).map D.str := by rw [List.map_map]; rfl
  rw [h1, h2]
  exact RpAll.strs _
theorem glb_tup {K : PySem.W.Frag} {mg : Str → Option Value} {x : Str} {a : Addr} {d : D} (h : mg x = some (.ref a)) (r : ∀ L H, Rp L K H (.ref a) d) : GlbD K mg x d := ⟨_, .ref a, h, rfl, r⟩
/-! ### dicts of the top: texts to what does not change -/
inductive EntsOk (K : PySem.W.Frag) : List (Str × D) → List DictEntry → Prop
  | nil : EntsOk K [] []
  | cons {k : Str} {d : D} {v : V} {e : DictEntry} {t : Tok} {r : List (Str × D)} {es : List DictEntry} : e.key = .str k t → RelV v e.val → (∀ L H, Rp L K H v d) → EntsOk K r es → EntsOk K ((k, d) :: r) (e :: es)
structure KDc (K : PySem.W.Frag) (w : World) (a : Addr) (kvs : List (Str × D)) : Prop where
  ex : ∃ es n, KDict K w a es n ∧ EntsOk K kvs es.toList
theorem ents_any {K : PySem.W.Frag} {kvs : List (Str × D)} {es : List DictEntry} (h : EntsOk K kvs es) : es.any (·.refKey) = false := by
  induction h with
  | nil => rfl
  | cons hk _ _ _ ih =>
    rw [List.any_cons, ih, Bool.or_false]
    unfold DictEntry.refKey
    rw [hk]
theorem ents_find {K : PySem.W.Frag} {kvs : List (Str × D)} {es : List DictEntry} (z : Str) (h : EntsOk K kvs es) : match kvs.lookup z with
    | some d => ∃ e v, es.find? (·.key.isStr z) = some e ∧ RelV v e.val ∧ ∀ L H, Rp L K H v d
    | none => es.find? (·.key.isStr z) = none := by
  induction h with
  | nil => rfl
  | @cons k d v e t r es hk hv hr hs ih =>
    have q : e.key.isStr z = (k == z) := by rw [hk]; rfl
    by_cases hz : z = k
    · subst hz
      rw [List.lookup_cons_self]
      exact ⟨e, v, by rw [List.find?_cons, q, beq_self_eq_true], hv, hr⟩
    · have n1 : (z == k) = false := beq_false_of_ne hz
      have n2 : (k == z) = false := beq_false_of_ne (Ne.symm hz)
      rw [List.lookup_cons, n1]
      simp only [List.find?_cons, q, n2]
      exact ih
theorem kd_ns {K : PySem.W.Frag} {w : World} {a : Addr} {es : Array DictEntry} {n : Nat} {kvs : List (Str × D)} (D' : KDict K w a es n) (h : EntsOk K kvs es.toList) (z : Str) : match kvs.lookup z with
    | some d => ∃ u v, PySem.W.nsIn K a z = some (some u) ∧ RelV v u ∧ ∀ L H, Rp L K H v d
    | none => PySem.W.nsIn K a z = some none := by
  have f := ents_find z h
  have hn : PySem.W.nsIn K a z = (match es.toList.find? (·.key.isStr z) with
      | some e => some (some e.val)
      | none => if es.toList.any (·.refKey) then none else some none) := by
    unfold PySem.W.nsIn
    rw [D'.at_]
    rfl
  cases hl : kvs.lookup z with
  | some d =>
    rw [hl] at f
    obtain ⟨e, v, h1, h2, h3⟩ := f
    exact ⟨e.val, v, by rw [hn, h1], h2, h3⟩
  | none =>
    rw [hl] at f
    dsimp only at f
    show PySem.W.nsIn K a z = some none
    rw [hn, f, ents_any h]
    rfl
def gInKD (p : Addr) (kvs : List (Str × D)) (neg : Bool) : G2 := fun a b _ k => match a, b with
  | .str z, .ptr q => q = p ∧ k (.bl (if neg then !(kvs.lookup z).isSome else (kvs.lookup z).isSome))
  | _, _ => False
theorem oq_inKD {p : Addr} {kvs : List (Str × D)} (hD : KDc X.K X.w p kvs) : OQ X (compareOp .In) (gInKD p kvs false) := by
  obtain ⟨es, n, kd, en⟩ := hD.ex
  refine ⟨_, op_in_kd kd, fun H L va vb a b k Q j ra rb h hk => ?_⟩
  unfold gInKD at h
  split at h
  · rename_i z q
    cases ra
    cases rb
    obtain ⟨rfl, h⟩ := h
    have f := kd_ns kd en z
    cases hl : kvs.lookup z with
    | some d =>
      rw [hl] at f h
      obtain ⟨u, v, h1, _⟩ := f
      exact ⟨z, some u, rfl, rfl, h1, hk _ _ H h (Same.refl H) (.bl _)⟩
    | none =>
      rw [hl] at f h
      exact ⟨z, none, rfl, rfl, f, hk _ _ H h (Same.refl H) (.bl _)⟩
  · exact h.elim
theorem oq_notInKD {p : Addr} {kvs : List (Str × D)} (hD : KDc X.K X.w p kvs) : OQ X (compareOp .NotIn) (gInKD p kvs true) := by
  obtain ⟨es, n, kd, en⟩ := hD.ex
  refine ⟨_, op_notIn_kd kd, fun H L va vb a b k Q j ra rb h hk => ?_⟩
  unfold gInKD at h
  split at h
  · rename_i z q
    cases ra
    cases rb
    obtain ⟨rfl, h⟩ := h
    have f := kd_ns kd en z
    cases hl : kvs.lookup z with
    | some d =>
      rw [hl] at f h
      obtain ⟨u, v, h1, _⟩ := f
      exact ⟨z, some u, rfl, rfl, h1, hk _ _ H h (Same.refl H) (.bl _)⟩
    | none =>
      rw [hl] at f h
      exact ⟨z, none, rfl, rfl, f, hk _ _ H h (Same.refl H) (.bl _)⟩
  · exact h.elim
def gIxKD (p : Addr) (kvs : List (Str × D)) : G2 := fun a b _ k => match a, b with
  | .ptr q, .str z => q = p ∧ match kvs.lookup z with
    | some d => k d
    | none => False
  | _, _ => False
theorem q_ixKD {p : Addr} {kvs : List (Str × D)} (hD : KDc X.K X.w p kvs) (ha : QE X Wx a da) (hb : QE X Wx b db) (hs : PlainIx b := by intro _ _; rfl) : QE X Wx (.Subscript a b pos) (dOp (gIxKD p kvs) da db) := by
  obtain ⟨ta, pa, sa⟩ := ha.ex
  obtain ⟨tb, pb, sb⟩ := hb.ex
  obtain ⟨es, n, kd, en⟩ := hD.ex
  refine ⟨_, pe_ix ix_kdict pa pb hs, sim_op sa sb fun H L va vb a b k Q j ra rb h hk => ?_⟩
  unfold gIxKD at h
  split at h
  · rename_i q z
    cases ra
    cases rb
    obtain ⟨rfl, h⟩ := h
    have f := kd_ns kd en z
    cases hl : kvs.lookup z with
    | some d =>
      rw [hl] at f h
      obtain ⟨u, v, h1, h2, h3⟩ := f
      exact ⟨q, z, v, rfl, rfl, ⟨es, n, u, kd.at_, kd.lit, h1, h2⟩, hk _ _ H h (Same.refl H) (h3 L H)⟩
    | none => rw [hl] at h; exact h.elim
  · exact h.elim
/-! ### a tuple times a number; tuple(..); min -/
def gRepT : G2 := fun a b L k => match con L a, b with
  | .tup xs, .int n => (xs ≠ [] ∧ 2 ≤ n ∧ n ≤ 1000 ∧ xs.length ≤ 1000) ∧ k (.tup (List.replicate n.toNat xs).flatten)
  | _, _ => False
theorem oq_repT : OQ X (binaryOp .Mult) gRepT := ⟨_, op_repT, fun H L va vb a b k Q j ra rb h hk => by
  unfold gRepT at h
  split at h
  · rename_i xs n ea
    cases rb
    obtain ⟨p, vs, rfl, hp, rv⟩ := con_tup j ra ea
    obtain ⟨⟨h1, h2, h3, h4⟩, h⟩ := h
    refine ⟨p, _, vs, rfl, rfl, hp, fun e0 => h1 ?_, h2, h3, by rw [rv.length]; exact h4, fun l hl => ?_⟩
    · subst e0; cases rv; rfl
    · have s := same_new hl (.tup (List.replicate n.toNat vs).flatten)
      exact hk _ _ _ h s (.tup (.inl ⟨j.notIn hl, .inl upd_same⟩) ((rep_all rv n.toNat).go (Go.same s)))
  · exact h.elim⟩
def gTupOf : GC := fun ds L k => match ds with
  | [d] => match con L d with
    | .lst xs => k (.tup xs)
    | .ro xs => k (.tup xs)
    | .tup xs => k (.tup xs)
    | _ => False
  | _ => False
theorem rp_tup {L : Led} {K : PySem.W.Frag} {H : Hp} {v : V} {d : D} {xs : List D} (j : JL K L H) (r : Rp L K H v d) (e : con L d = .tup xs) : Rp L K H v (.tup xs) := by
  cases d with
  | ptr z =>
    have e : (L.lookup z).getD (.ptr z) = _ := e
    cases q : L.lookup z with
    | none => rw [q] at e; cases e
    | some c' => rw [q] at e; have e : c' = .tup xs := e; subst e; exact (j.look q).elim
  | _ => first | (have e : _ = D.tup xs := e; rw [← e]; exact r)
theorem cq_tuple : CQ X (.type "tuple") gTupOf := ⟨_, call_tuple_of, fun H L vs ds k Q j r h hk => by
  unfold gTupOf at h
  split at h
  · cases r with
    | cons r1 r2 =>
      cases r2
      split at h
      · rename_i xs hd
        obtain ⟨a, vs, rfl, hs, rv⟩ := con_lst j r1 hd
        refine ⟨a, vs, rfl, .inl ⟨SqL.of hs, fun l hl => ?_⟩⟩
        have s := same_new hl (.tup vs)
        exact hk _ _ _ h s (.tup (.inl ⟨j.notIn hl, .inl upd_same⟩) (rv.go (Go.same s)))
      · rename_i xs hd
        obtain ⟨a, vs, rfl, hs, rv⟩ := con_ro j r1 hd
        refine ⟨a, vs, rfl, .inl ⟨hs, fun l hl => ?_⟩⟩
        have s := same_new hl (.tup vs)
        exact hk _ _ _ h s (.tup (.inl ⟨j.notIn hl, .inl upd_same⟩) (rv.go (Go.same s)))
      · rename_i xs hd
        obtain ⟨a, vs, rfl, hs, rv⟩ := con_tup j r1 hd
        exact ⟨a, vs, rfl, .inr ⟨hs, hk _ _ H h (Same.refl H) (rp_tup j r1 hd)⟩⟩
      · exact h.elim
  · exact h.elim⟩
def gMin2 : GC := fun ds _ k => match ds with
  | [.int i, .int j] => k (.int (if j < i then j else i))
  | _ => False
theorem cq_min2 (hc : X.calm = true) : CQ X (.builtin "min") gMin2 := ⟨_, call_min2 hc, fun H L vs ds k Q j r h hk => by
  unfold gMin2 at h
  split at h
  · cases r with
    | cons r1 r2 =>
      cases r2 with
      | cons r2 r3 =>
        cases r3
        cases r1
        cases r2
        exact ⟨_, _, rfl, hk _ _ H h (Same.refl H) (.int _)⟩
  · exact h.elim⟩
/-! ### texts with values put in -/
def strD : D → Option Str
  | .str y => some y
  | .int i => some (toString i)
  | _ => none
/-- one piece of a text: a constant, a value -/
def gFmt : G1 := fun a _ k => match a with
  | .str y => y.length ≤ sizeLine ∧ k (.str y)
  | .int i => i.natAbs.log2 < 1920 ∧ k (.str (toString i))
  | _ => False
theorem q_fmt (ha : QE X Wx e da) : QE X Wx (.FormattedValue e (-1) none pos) (dUn gFmt da) := by
  obtain ⟨ta, pa, sa⟩ := ha.ex
  refine ⟨_, pe_fmt pa, fun σ H env L k x Q st h hk hx => ?_⟩
  refine sa σ H env L _ x _ st h (fun a L1 va H1 h1 g1 j1 r1 => ?_) hx
  unfold gFmt at h1
  split at h1
  · cases r1
    exact .inl ⟨_, rfl, h1.1, hk _ L1 _ H1 h1.2 g1 j1 (.str _)⟩
  · cases r1
    exact .inr ⟨_, rfl, h1.1, hk _ L1 _ H1 h1.2 g1 j1 (.str _)⟩
  · exact h1.elim
structure QJ (X : Cx) (Wx : WX) (es : List Expr) (dj : DEnv → Led → Str → (Str → Led → Prop) → DX → Prop) : Prop where
  ex : ∃ ts, PJ X es ts ∧ ∀ σ H env L acc k x (Q : Str → Hp → Prop), StL X.K σ H env L → dj env L acc k x → (∀ z L' H', k z L' → Go L L' H H' → JL X.K L' H' → Q z H') → XOk X.K Wx L H x → tJs ts acc σ H Q
def djNil : DEnv → Led → Str → (Str → Led → Prop) → DX → Prop := fun _ L acc k _ => k acc L
def djCons (de : DE) (dj : DEnv → Led → Str → (Str → Led → Prop) → DX → Prop) : DEnv → Led → Str → (Str → Led → Prop) → DX → Prop := fun env L acc k x => de env L (fun d L1 => match d with
  | .str y => (acc ++ y).length ≤ sizeLine ∧ dj env L1 (acc ++ y) k x
  | _ => False) x
theorem j_nil : QJ X Wx [] djNil := ⟨[], .nil, fun σ H env L acc k x Q st h hk hx => hk acc L H h (Go.refl L H) st.2⟩
theorem j_cons {dj : DEnv → Led → Str → (Str → Led → Prop) → DX → Prop} (he : QE X Wx e de) (hr : QJ X Wx es dj) : QJ X Wx (e :: es) (djCons de dj) := by
  obtain ⟨te, pe, se⟩ := he.ex
  obtain ⟨ts, ps, ss⟩ := hr.ex
  refine ⟨te :: ts, .cons pe ps, fun σ H env L acc k x Q st h hk hx => ?_⟩
  refine se σ H env L _ x _ st h (fun d L1 v H1 h1 g1 j1 r1 => ?_) hx
  cases r1 <;> first | exact h1.elim | skip
  exact ⟨_, rfl, h1.1, ss σ H1 env L1 _ k x Q (st.go g1 j1) h1.2 (fun z L' H' q g j => hk z L' H' q (g1.trans g) j) (hx.go g1)⟩
def dJoined (dj : DEnv → Led → Str → (Str → Led → Prop) → DX → Prop) : DE := fun env L k x => dj env L Str.empty (fun z L' => k (.str z) L') x
theorem q_joined {v1 v2 : Expr} {dj : DEnv → Led → Str → (Str → Led → Prop) → DX → Prop} (h : QJ X Wx (v1 :: v2 :: es) dj) : QE X Wx (.JoinedStr (v1 :: v2 :: es) pos) (dJoined dj) := by
  obtain ⟨ts, ps, ss⟩ := h.ex
  refine ⟨_, pe_joined ps, fun σ H env L k x Q st h hk hx => ?_⟩
  exact ss σ H env L _ _ x _ st h (fun z L' H' q g j => hk _ L' _ H' q g j (.str z)) hx
/-- int(text) -/
def gIntT : GC := fun ds _ k => match ds with
  | [.str z] => z.length ≤ 640 ∧ match PySem.intText? z with
    | some n => k (.int n)
    | none => False
  | _ => False
theorem cq_intT : CQ X (.type "int") gIntT := ⟨_, call_int_str, fun H L vs ds k Q j r h hk => by
  unfold gIntT at h
  split at h
  · cases r with
    | cons r1 r2 =>
      cases r2
      cases r1
      obtain ⟨hz, h⟩ := h
      split at h
      · rename_i n hn
        exact ⟨_, n, rfl, hn, hz, hk _ _ H h (Same.refl H) (.int _)⟩
      · exact h.elim
  · exact h.elim⟩
end
end DL

namespace DL
open PySem L2
section
variable {X : Cx} {Wx : WX} {a b c e o : Expr} {es : List Expr} {da db dc de do' : DE} {dl : DA} {pos : Pos}
/-! ### x op= e -/
abbrev G2L := D → D → Led → (D → Led → Prop) → Prop
def Sim2L (K : PySem.W.Frag) (r : R2) (g : G2L) : Prop := ∀ H L va vb a b k Q, JL K L H → Rp L K H va a → Rp L K H vb b → g a b L k → KOk K L H k Q → r va vb H Q
def OQL (X : Cx) (op : Operator) (g : G2L) : Prop := ∃ r, PIp X op r ∧ Sim2L X.K r g
def dAug (i : Nat) (g : G2L) (de : DE) : DS := fun D env L => match env[i]? with
  | some (some a) => de env L (fun b L1 => g a b L1 fun d L2 => D.nx (env.set i (some d)) L2) D.ex
  | _ => False
theorem s_aug (i : Nat) {x : Str} {op : Operator} {pos' : Pos} {g : G2L} (hN : X.N.Nodup) (he : QE X Wx e de) (ho : OQL X op g) (hi : X.N[i]? = some x := by rfl) (hx : Loc X.env.scope x := by first | exact Or.inl rfl | exact Or.inr rfl) (hf : X.fn x = true ∨ X.env.scope.names.lookup x = some .local := by first | exact .inl rfl | exact .inr rfl | assumption) :
    QS X Wx (.AugAssign (.Name x pos') op e pos) (dAug i g de) := by
  obtain ⟨te, pe, se⟩ := he.ex
  obtain ⟨r, hr, sr⟩ := ho
  refine ⟨_, ps_aug hN hi hx pe hr hf, fun σ H env L D' D st h ok => ?_⟩
  unfold dAug at h
  split at h
  · rename_i a hd
    obtain ⟨v, e1, rv⟩ := st.1.get hd
    refine ⟨v, e1, ?_⟩
    refine se σ H env L _ _ _ st h (fun b L1 vb H1 h1 g1 j1 r1 => ?_) ok.ex
    refine sr H1 L1 v vb a b _ _ j1 (rv.go g1) r1 h1 fun d L2 vd H2 h2 g2 j2 r2 => ?_
    exact ok.nx _ L2 _ H2 h2 (g1.trans g2) ⟨(st.1.go (g1.trans g2)).set r2 i, j2⟩
  · exact h.elim
def gAugSub : G2L := fun a b L k => match a, b with
  | .int i, .int j => k (.int (i - j)) L
  | _, _ => False
theorem ip_subQ : OQL X .Sub gAugSub := ⟨_, ip_sub, fun H L va vb a b k Q j ra rb h hk => by
  unfold gAugSub at h
  split at h
  · cases ra
    cases rb
    exact ⟨_, _, rfl, rfl, hk _ L _ H h (Go.refl L H) j (.int _)⟩
  · exact h.elim⟩
def gAugAdd : G2L := fun a b L k => match a with
  | .int i => (match b with
    | .int j => k (.int (i + j)) L
    | _ => False)
  | .str x => (match b with
    | .str y => x.length + y.length ≤ sizeLine ∧ k (.str (x ++ y)) L
    | _ => False)
  | .ptr p => (match L.lookup p with
    | some (.lst xs) => (match con L b with
      | .lst ys => xs.length + ys.length ≤ sizeLine ∧ k (.ptr p) (setL L p (.lst (xs ++ ys)))
      | _ => False)
    | _ => False)
  | _ => False
theorem ip_addQ : OQL X .Add gAugAdd := by
  refine ⟨_, opr_or (opr_or iop_add iop_add_str) iop_ext, fun H L va vb a b k Q j ra rb h hk => ?_⟩
  unfold gAugAdd at h
  split at h
  · split at h
    · cases ra
      cases rb
      exact .inl (.inl ⟨_, _, rfl, rfl, hk _ L _ H h (Go.refl L H) j (.int _)⟩)
    · exact h.elim
  · split at h
    · cases ra
      cases rb
      exact .inl (.inr ⟨_, _, rfl, rfl, h.1, hk _ L _ H h.2 (Go.refl L H) j (.str _)⟩)
    · exact h.elim
  · rename_i p
    cases ra
    split at h
    · rename_i xs hl
      split at h
      · rename_i ys hb
        obtain ⟨vs, e1, rv⟩ := j.look hl
        obtain ⟨q, ws, rfl, e2, rw'⟩ := con_lst j rb hb
        have hp := inL_of_lookup hl
        refine .inr ⟨p, q, vs, ws, rfl, rfl, e1, e2, by rw [rv.length, rw'.length]; exact h.1, ?_⟩
        have g4 : Go L (setL L p (.lst (xs ++ ys))) H (upd H p (.lst (vs ++ ws))) := go_set hp
        have j4 : JL X.K (setL L p (.lst (xs ++ ys))) (upd H p (.lst (vs ++ ws))) := j.put hp ⟨_, upd_same, (rv.go g4).append (rw'.go g4)⟩
        exact hk _ _ _ _ h.2 g4 j4 (.ptr p)
      · exact h.elim
    · exact h.elim
  · exact h.elim
end
end DL

namespace DL
open PySem L2

/-! ### helpers of the law: the mathematics -/
def isInt : D → Bool
  | .int _ => true
  | _ => false
def okT (d : D) : Bool := (tyD d).isSome
structure Bag where
  cells : List Int
  at_ : Int
  rest : Int
  mix : Int
  cnt : Int
def bagC (b : Bag) : D := .lst [.lst (b.cells.map .int), .int b.at_, .int b.rest, .int b.mix, .int b.cnt]
structure BagOk (b : Bag) : Prop where
  a0 : 0 ≤ b.at_
  a1 : b.at_ ≤ b.cells.length
  r0 : 0 ≤ b.rest
  m0 : 0 ≤ b.mix
  m1 : b.mix < 2147483497
def bagS : DSp := fun ds L k _ => ∃ ns : List Int, ds = [.ro (ns.map .int)] ∧ ∀ p b, ¬ inL L p → BagOk b → k (.ptr p) ((p, bagC b) :: L)
def pullS : DSp := fun ds L k _ => ∃ (p : Addr) (b : Bag) (m : Int), ds = [.ptr p, .int m] ∧ L.lookup p = some (bagC b) ∧ BagOk b ∧ 0 < m ∧ m.natAbs.log2 < 9000 ∧ ∀ r b', 0 ≤ r → r < m → BagOk b' → k (.int r) (setL L p (bagC b'))
def ofS : DSp := fun ds L k _ => ∃ (p : Addr) (b : Bag) (xs : List D), ds = [.ptr p, .lst xs] ∧ L.lookup p = some (bagC b) ∧ BagOk b ∧ 0 < xs.length ∧ xs.length < 1000 ∧ ∀ d b', d ∈ xs → BagOk b' → k d (setL L p (bagC b'))
theorem con_ptr {L : Led} {p : Addr} {c : D} (h : L.lookup p = some c) : con L (.ptr p) = c := by
  show (L.lookup p).getD (.ptr p) = c
  rw [h]; rfl
theorem setL_setL (L : Led) (p : Addr) (c d : D) : setL (setL L p c) p d = setL L p d := by
  unfold setL
  rw [List.map_map]
  refine List.map_congr_left fun q _ => ?_
  show (if (if q.1 = p then (p, c) else q).1 = p then (p, d) else (if q.1 = p then (p, c) else q)) = _
  by_cases h : q.1 = p
  · simp [h]
  · simp [h]
theorem lookup_setL : ∀ {L : Led} {p : Addr} {c d : D}, L.lookup p = some c → (setL L p d).lookup p = some d
  | [], _, _, _, h => by simp at h
  | (q, e) :: L, p, c, d, h => by
    by_cases hq : q = p
    · subst hq
      show List.lookup q ((if q = q then (q, d) else (q, e)) :: setL L q d) = _
      rw [if_pos rfl]
      exact lookup_top
    · rw [setL_ne hq, lookup_ne (Ne.symm hq)]
      rw [lookup_ne (Ne.symm hq)] at h
      exact lookup_setL h
/-! data that can be compared item by item -/
mutual
def okP : D → Bool
  | .non => true | .bl _ => true | .int _ => true | .str _ => true
  | .lst xs => decide (xs.length < 100000) && okPs xs
  | .tup xs => decide (xs.length < 100000) && okPs xs
  | .ro _ => false | .dk _ _ => false | .dt _ _ => false | .obj _ _ _ => false | .exc _ _ _ => false | .fnv _ _ => false | .clo _ _ => false | .tab _ => false | .ptr _ => false | .ty _ => false
def okPs : List D → Bool
  | [] => true
  | d :: r => okP d && okPs r
end
mutual
def dep : D → Nat
  | .lst xs => deps xs + 1
  | .tup xs => deps xs + 1
  | .non => 0 | .bl _ => 0 | .int _ => 0 | .str _ => 0 | .ro _ => 0 | .dk _ _ => 0 | .dt _ _ => 0 | .obj _ _ _ => 0 | .exc _ _ _ => 0 | .fnv _ _ => 0 | .clo _ _ => 0 | .tab _ => 0 | .ptr _ => 0 | .ty _ => 0
def deps : List D → Nat
  | [] => 0
  | d :: r => max (dep d) (deps r)
end
mutual
def sameD : D → D → Bool
  | .lst xs, .lst ys => sameL xs ys
  | .tup xs, .tup ys => sameL xs ys
  | .non, .non => true
  | .bl a, .bl b => decide (a = b)
  | .int a, .int b => decide (a = b)
  | .str a, .str b => decide (a = b)
  | _, _ => false
def sameL : List D → List D → Bool
  | [], [] => true
  | x :: xs, y :: ys => sameD x y && sameL xs ys
  | _, _ => false
end
mutual
theorem sameD_refl : ∀ d : D, okP d = true → sameD d d = true
  | .non, _ => by unfold sameD; rfl
  | .bl _, _ => by unfold sameD; simp
  | .int _, _ => by unfold sameD; simp
  | .str _, _ => by unfold sameD; simp
  | .lst xs, h => by unfold sameD; exact sameL_refl xs (by unfold okP at h; rw [Bool.and_eq_true] at h; exact h.2)
  | .tup xs, h => by unfold sameD; exact sameL_refl xs (by unfold okP at h; rw [Bool.and_eq_true] at h; exact h.2)
  | .ro _, h => by simp [okP] at h
  | .dk _ _, h => by simp [okP] at h
  | .dt _ _, h => by simp [okP] at h
  | .obj _ _ _, h => by simp [okP] at h
  | .exc _ _ _, h => by simp [okP] at h
  | .fnv _ _, h => by simp [okP] at h
  | .clo _ _, h => by simp [okP] at h
  | .tab _, h => by simp [okP] at h
  | .ptr _, h => by simp [okP] at h
  | .ty _, h => by simp [okP] at h
theorem sameL_refl : ∀ ds : List D, okPs ds = true → sameL ds ds = true
  | [], _ => by unfold sameL; rfl
  | d :: r, h => by
    unfold okPs at h
    rw [Bool.and_eq_true] at h
    unfold sameL
    rw [sameD_refl d h.1, sameL_refl r h.2]; rfl
end
theorem sameL_len : ∀ {xs ys : List D}, xs.length ≠ ys.length → sameL xs ys = false
  | [], [], h => absurd rfl h
  | [], _ :: _, _ => by simp [sameL]
  | _ :: _, [], _ => by simp [sameL]
  | x :: xs, y :: ys, h => by
    unfold sameL
    rw [sameL_len (xs := xs) (ys := ys) (fun e => h (by simp [e])), Bool.and_false]
def sameS (n : Nat) : DSp := fun ds L k _ => ∃ a b, ds = [a, b] ∧ okP a = true ∧ okP b = true ∧ dep b < n ∧ k (.bl (sameD a b)) L
/-! ### gcd -/
def gcdI (a b : Int) : Int := ((Nat.gcd a.natAbs b.natAbs : Nat) : Int)
def gcdS : DSp := fun ds L k _ => ∃ a b : Int, ds = [.int a, .int b] ∧ a.natAbs < 2 ^ 1990 ∧ b.natAbs < 2 ^ 1990 ∧ k (.int (gcdI a b)) L
theorem gcdI_step {x y : Int} (hx : 0 ≤ x) (hy : 0 < y) : gcdI y (x.fmod y) = gcdI x y := by
  unfold gcdI
  rw [Int.fmod_eq_emod_of_nonneg x (Int.le_of_lt hy)]
  have h1 : (x % y).natAbs = x.natAbs % y.natAbs := by
    obtain ⟨a, rfl⟩ := Int.eq_ofNat_of_zero_le hx
    obtain ⟨b, rfl⟩ := Int.eq_ofNat_of_zero_le (Int.le_of_lt hy)
    rfl
  rw [h1, Nat.gcd_comm x.natAbs y.natAbs, Nat.gcd_rec y.natAbs x.natAbs, Nat.gcd_comm]
theorem gcdI_zero {x : Int} (hx : 0 ≤ x) : gcdI x 0 = x := by
  unfold gcdI
  rw [show (0 : Int).natAbs = 0 from rfl, Nat.gcd_zero_right]
  omega
theorem gcdI_abs (a b : Int) : gcdI (if a < 0 then -a else a) (if b < 0 then -b else b) = gcdI a b := by
  unfold gcdI
  have h : ∀ z : Int, (if z < 0 then -z else z).natAbs = z.natAbs := fun z => by split <;> omega
  rw [h, h]
theorem fmod_bounds {x y : Int} (hx : 0 ≤ x) (hy : 0 < y) : 0 ≤ x.fmod y ∧ x.fmod y < y ∧ x.fmod y ≤ x := by
  rw [Int.fmod_eq_emod_of_nonneg x (Int.le_of_lt hy)]
  have e : x = y * (x / y) + x % y := (Int.mul_ediv_add_emod x y).symm
  have q : 0 ≤ y * (x / y) := Int.mul_nonneg (Int.le_of_lt hy) (Int.ediv_nonneg hx (Int.le_of_lt hy))
  exact ⟨Int.emod_nonneg _ (by omega), Int.emod_lt_of_pos _ hy, by omega⟩

/-- Euclid's steps: the product falls by half -/
theorem half_step {x y : Int} (hy : 0 < y) (h : y ≤ x) : 2 * (y * x.fmod y) ≤ x * y := by
  obtain ⟨h0, h1, _⟩ := fmod_bounds (x := x) (y := y) (by omega) hy
  have e : x = y * (x / y) + x % y := (Int.mul_ediv_add_emod x y).symm
  have e2 : x.fmod y = x % y := Int.fmod_eq_emod_of_nonneg x (Int.le_of_lt hy)
  have q1 : 1 ≤ x / y := by
    have := Int.ediv_le_ediv hy h
    rw [Int.ediv_self (by omega)] at this
    exact this
  have q2 : y * 1 ≤ y * (x / y) := Int.mul_le_mul_of_nonneg_left q1 (Int.le_of_lt hy)
  have q3 : 2 * x.fmod y ≤ x := by rw [e2]; rw [e2] at h1; omega
  have q4 : y * (2 * x.fmod y) ≤ y * x := Int.mul_le_mul_of_nonneg_left q3 (Int.le_of_lt hy)
  rw [Int.mul_comm x y, ← Int.mul_assoc, Int.mul_comm 2 y, Int.mul_assoc]
  exact q4
/-! ### lowest terms -/
def lowI (t u : Int) : Int × Int := let g := if u < 0 then 0 - gcdI t u else gcdI t u; (t.fdiv g, u.fdiv g)
def lowS : DSp := fun ds L k _ => ∃ t u : Int, ds = [.int t, .int u] ∧ u ≠ 0 ∧ t.natAbs < 2 ^ 1990 ∧ u.natAbs < 2 ^ 1990 ∧ k (.tup [.int (lowI t u).1, .int (lowI t u).2]) L
theorem gcdI_nonneg (a b : Int) : 0 ≤ gcdI a b := Int.natCast_nonneg _
theorem gcdI_pos {a b : Int} (h : b ≠ 0) : 0 < gcdI a b := by
  unfold gcdI
  have : 0 < Nat.gcd a.natAbs b.natAbs := Nat.gcd_pos_of_pos_right _ (by omega)
  omega
theorem gcdI_dvd_left (a b : Int) : gcdI a b ∣ a := Int.natAbs_dvd_natAbs.mp (by unfold gcdI; rw [Int.natAbs_natCast]; exact Nat.gcd_dvd_left _ _)
theorem gcdI_dvd_right (a b : Int) : gcdI a b ∣ b := Int.natAbs_dvd_natAbs.mp (by unfold gcdI; rw [Int.natAbs_natCast]; exact Nat.gcd_dvd_right _ _)
theorem gcdI_le {a b : Int} (h : b ≠ 0) : gcdI a b ≤ b.natAbs := by
  unfold gcdI
  have : Nat.gcd a.natAbs b.natAbs ≤ b.natAbs := Nat.gcd_le_right _ (by omega)
  omega
theorem fdiv_exact {a g : Int} (hg : g ≠ 0) (h : g ∣ a) : a.fdiv g * g = a := by
  obtain ⟨c, rfl⟩ := h
  rw [Int.mul_comm g c, Int.mul_fdiv_cancel _ hg]
/-- what lowest terms are: t / u = p / q, q above 0, no common divisor -/
theorem lowI_spec {t u : Int} (hu : u ≠ 0) : 0 < (lowI t u).2 ∧ gcdI (lowI t u).1 (lowI t u).2 = 1 ∧ (lowI t u).1 * u = t * (lowI t u).2 := by
  have hg := gcdI_pos (a := t) hu
  have hs : ∃ s : Int, s ≠ 0 ∧ (s = gcdI t u ∨ s = - gcdI t u) ∧ lowI t u = (t.fdiv s, u.fdiv s) ∧ (0 < u → 0 < s) ∧ (u < 0 → s < 0) := by
    unfold lowI
    by_cases h : u < 0
    · exact ⟨0 - gcdI t u, by omega, by omega, by simp only [if_pos h], by omega, by omega⟩
    · exact ⟨gcdI t u, by omega, by omega, by simp only [if_neg h], by omega, by omega⟩
  obtain ⟨s, s0, s1, e, sp, sn⟩ := hs
  have d1 : s ∣ t := by
    rcases s1 with h | h
    · rw [h]; exact gcdI_dvd_left t u
    · rw [h]; exact Int.neg_dvd.mpr (gcdI_dvd_left t u)
  have d2 : s ∣ u := by
    rcases s1 with h | h
    · rw [h]; exact gcdI_dvd_right t u
    · rw [h]; exact Int.neg_dvd.mpr (gcdI_dvd_right t u)
  have e1 := fdiv_exact s0 d1
  have e2 := fdiv_exact s0 d2
  rw [e]
  dsimp only
  generalize t.fdiv s = p at *
  generalize u.fdiv s = q at *
  have hq : 0 < q := by
    rcases Int.lt_or_lt_of_ne hu with h | h
    · have := sn h
      rcases Int.lt_trichotomy q 0 with z | z | z
      · have := Int.mul_pos_of_neg_of_neg z this; omega
      · rw [z] at e2; omega
      · exact z
    · have := sp h
      rcases Int.lt_trichotomy q 0 with z | z | z
      · have := Int.mul_neg_of_neg_of_pos z this; omega
      · rw [z] at e2; omega
      · exact z
  refine ⟨hq, ?_, ?_⟩
  · have sa : s.natAbs = Nat.gcd t.natAbs u.natAbs := by
      have : (gcdI t u).natAbs = Nat.gcd t.natAbs u.natAbs := by unfold gcdI; rw [Int.natAbs_natCast]
      rcases s1 with h | h
      · rw [h, this]
      · rw [h, Int.natAbs_neg, this]
    have ta : t.natAbs = p.natAbs * s.natAbs := by rw [← e1, Int.natAbs_mul]
    have ua : u.natAbs = q.natAbs * s.natAbs := by rw [← e2, Int.natAbs_mul]
    have hs0 : 0 < s.natAbs := by omega
    have k : Nat.gcd p.natAbs q.natAbs * s.natAbs = 1 * s.natAbs := by
      rw [← Nat.gcd_mul_right, ← ta, ← ua, ← sa, Nat.one_mul]
    unfold gcdI
    rw [Nat.eq_of_mul_eq_mul_right hs0 k]
    rfl
  · have e1' : t = p * s := e1.symm
    have e2' : u = q * s := e2.symm
    rw [e1', e2', Int.mul_assoc, Int.mul_comm s q]
theorem lowI_small {t u : Int} (hu : u ≠ 0) : (lowI t u).1.natAbs ≤ t.natAbs ∧ (lowI t u).2.natAbs ≤ u.natAbs := by
  have key : ∀ a s : Int, s ≠ 0 → s ∣ a → (a.fdiv s).natAbs ≤ a.natAbs := fun a s h0 h => by
    have e := congrArg Int.natAbs (fdiv_exact h0 h)
    rw [Int.natAbs_mul] at e
    have : 1 ≤ s.natAbs := by omega
    calc (a.fdiv s).natAbs = (a.fdiv s).natAbs * 1 := (Nat.mul_one _).symm
      _ ≤ (a.fdiv s).natAbs * s.natAbs := Nat.mul_le_mul_left _ this
      _ = a.natAbs := e
  have hg := gcdI_pos (a := t) hu
  unfold lowI
  by_cases h : u < 0
  · simp only [if_pos h]
    have z : (0 : Int) - gcdI t u = - gcdI t u := by omega
    rw [z]
    exact ⟨key t _ (by omega) (Int.neg_dvd.mpr (gcdI_dvd_left t u)), key u _ (by omega) (Int.neg_dvd.mpr (gcdI_dvd_right t u))⟩
  · simp only [if_neg h]
    exact ⟨key t _ (by omega) (gcdI_dvd_left t u), key u _ (by omega) (gcdI_dvd_right t u)⟩
/-- a ratio: lowest terms -/
structure Low (p q : Int) : Prop where
  pos : 0 < q
  one : gcdI p q = 1
def ratS : DSp := fun ds L k _ => ∃ (b : Addr) (g : Bag) (h u : Int), ds = [.ptr b, .int h, .int u] ∧ L.lookup b = some (bagC g) ∧ BagOk g ∧ 0 ≤ h ∧ h < 2 ^ 1900 ∧ 0 < u ∧ u < 2 ^ 1900 ∧
  ∀ p q g', Low p q → -h ≤ p → p ≤ h → q ≤ u → BagOk g' → k (.tup [.int p, .int q]) (setL L b (bagC g'))
/-! ### loops by a word -/
theorem forD_inv {dg : DG} {db : DS} {En : DEnds} (I : DEnv → Led → Prop) (hn : ∀ env L, I env L → En.nx env L) : ∀ (ds : List D), (∀ (E' : DEnds) (d : D) (env : DEnv) (L : Led), d ∈ ds → E'.rt = En.rt → E'.ex = En.ex → I env L → (∀ env' L', I env' L' → E'.nx env' L') → dg d env L fun env1 => db E' env1 L) →
    ∀ (env : DEnv) (L : Led), I env L → forD dg db En ds env L
  | [], _, env, L, hi => by rw [forD_nil]; exact hn env L hi
  | d :: ds, hb, env, L, hi => by
    rw [forD_cons]
    exact hb _ d env L List.mem_cons_self rfl rfl hi fun env' L' hi' => forD_inv I hn ds (fun E' d env L hd => hb E' d env L (List.mem_cons_of_mem _ hd)) env' L' hi'
theorem setL_one {p : Addr} {c d : D} : setL [(p, c)] p d = [(p, d)] := setL_top (by simp [inL])
theorem lt1990 {n : Nat} (h : n < 10 ^ 70) : n < 2 ^ 1990 := Nat.lt_trans h (by decide +kernel)
theorem log_le {n : Nat} (h : n < 2 ^ 1000) : n.log2 < 9000 := by
  by_cases h0 : n = 0
  · subst h0; decide +kernel
  · have : n.log2 < 1000 := (Nat.log2_lt h0).mpr h
    omega
theorem sz_ok {n : Nat} (h : Nat.ble n 1000 = true) : n ≤ sizeLine := Nat.le_trans (Nat.le_of_ble_eq_true h) (by decide)
end DL

namespace DL
open PySem L2
/-! ### draws from a list or a text -/
def itemsD : D → Option (List D)
  | .lst xs => some xs
  | .str z => some (sgD z.cps.toList)
  | _ => none
def ofA : DSp := fun ds L k _ => ∃ (p : Addr) (b : Bag) (s : D) (xs : List D), ds = [.ptr p, s] ∧ itemsD s = some xs ∧ L.lookup p = some (bagC b) ∧ BagOk b ∧ 0 < xs.length ∧ xs.length < 1000 ∧ ∀ d b', d ∈ xs → BagOk b' → k d (setL L p (bagC b'))
/-! data of None, bools, ints, short texts, lists, tuples -/
mutual
def okW : D → Bool
  | .non => true | .bl _ => true | .int _ => true
  | .str z => decide (z.length ≤ 100000)
  | .lst xs => decide (xs.length < 100000) && okWs xs
  | .tup xs => decide (xs.length < 100000) && okWs xs
  | .ro _ => false | .dk _ _ => false | .dt _ _ => false | .obj _ _ _ => false | .exc _ _ _ => false | .fnv _ _ => false | .clo _ _ => false | .tab _ => false | .ptr _ => false | .ty _ => false
def okWs : List D → Bool
  | [] => true
  | d :: r => okW d && okWs r
end
theorem okW_T {d : D} (h : okW d = true) : okT d = true := by
  cases d <;> first | rfl | (simp [okW] at h; done)
theorem okW_tup {l : List D} (h : okW (.tup l) = true) : l.length < 100000 ∧ okWs l = true := by
  unfold okW at h
  rw [Bool.and_eq_true] at h
  exact ⟨of_decide_eq_true h.1, h.2⟩
theorem okW_str {z : Str} (h : okW (.str z) = true) : z.length ≤ 100000 := by
  unfold okW at h
  exact of_decide_eq_true h
theorem okWs_cons {d : D} {l : List D} (h : okWs (d :: l) = true) : okW d = true ∧ okWs l = true := by
  unfold okWs at h
  rw [Bool.and_eq_true] at h
  exact h
theorem okWs_mk {d : D} {l : List D} (h1 : okW d = true) (h2 : okWs l = true) : okWs (d :: l) = true := by
  unfold okWs
  rw [h1, h2]; rfl
theorem okWs_mem : ∀ {l : List D} {d : D}, okWs l = true → d ∈ l → okW d = true
  | [], _, _, h => by cases h
  | e :: r, d, h, hm => by
    rcases List.mem_cons.mp hm with q | q
    · subst q; exact (okWs_cons h).1
    · exact okWs_mem (okWs_cons h).2 q
theorem okWs_of : ∀ {l : List D}, (∀ d ∈ l, okW d = true) → okWs l = true
  | [], _ => by unfold okWs; rfl
  | e :: r, h => okWs_mk (h e List.mem_cons_self) (okWs_of fun d hd => h d (List.mem_cons_of_mem _ hd))
theorem okWs_append {l m : List D} (h1 : okWs l = true) (h2 : okWs m = true) : okWs (l ++ m) = true := okWs_of fun d hd => (List.mem_append.mp hd).elim (okWs_mem h1) (okWs_mem h2)
theorem okW_mk {l : List D} (h1 : l.length < 100000) (h2 : okWs l = true) : okW (.tup l) = true := by
  unfold okW
  rw [decide_eq_true h1, h2]; rfl
theorem atI_zero {α : Type} {a : α} {r : List α} : atI (a :: r) 0 = some a := atI_nat (j := 0) rfl
theorem atI_one {α : Type} {a b : α} {r : List α} : atI (a :: b :: r) 1 = some b := atI_nat (j := 1) rfl
theorem fl_ne {a b : Int} (h : a ≠ b) : flEq (.int a) (.int b) = false := decide_eq_false h
theorem fl_eq {a b : Int} (h : a = b) : flEq (.int a) (.int b) = true := decide_eq_true h
theorem fl_str {a b : Str} : flEq (.str a) (.str b) = decide (a = b) := rfl
theorem inV_str (z : Str) : ∀ l : List Str, inV (.str z) (l.map V.str) = decide (z ∈ l)
  | [] => rfl
  | y :: r => by
    have ih := inV_str z r
    unfold inV at ih ⊢
    rw [List.map_cons, List.any_cons, ih]
    by_cases h : z = y
    · subst h
      have : eqV (.str z) (.str z) = true := by simp [eqV]
      rw [this, decide_eq_true List.mem_cons_self]; rfl
    · have : eqV (.str y) (.str z) = false := by simp [eqV]; exact fun e => h e.symm
      rw [this, Bool.false_or]
      exact decide_eq_decide.mpr ⟨fun q => List.mem_cons_of_mem _ q, fun q => (List.mem_cons.mp q).resolve_left h⟩
/-- a for by what is left of its items -/
theorem forD_rec {dg : DG} {db : DS} {En : DEnds} (I : List D → DEnv → Led → Prop) (step : ∀ (E' : DEnds) (d : D) (ds : List D) (env : DEnv) (L : Led), E'.rt = En.rt → E'.ex = En.ex → E'.bk = En.nx → E'.ct = E'.nx → I (d :: ds) env L → (∀ env' L', I ds env' L' → E'.nx env' L') → dg d env L fun env1 => db E' env1 L)
    (stop : ∀ env L, I [] env L → En.nx env L) : ∀ (ds : List D) (env : DEnv) (L : Led), I ds env L → forD dg db En ds env L
  | [], env, L, h => by rw [forD_nil]; exact stop env L h
  | d :: ds, env, L, h => by
    rw [forD_cons]
    exact step _ d ds env L rfl rfl rfl rfl h fun env' L' h' => forD_rec I step stop ds env' L' h'
/-- a list made item by item, the ledger changing meanwhile -/
theorem lcD_inv {dg : DG} {de : DE} {env0 : DEnv} {p : Addr} {k : DK} (I : List D → Led → Prop) (hI : ∀ acc L, I acc L → ¬ inL L p) : ∀ (ds acc : List D) (L : Led), acc.length + ds.length ≤ 1000 → I acc L →
    (∀ d ∈ ds, ∀ (acc : List D) (L : Led), I acc L → ∀ K' : DK, (∀ y L', I (acc ++ [y]) L' → K' y ((p, .lst acc) :: L')) → dg d env0 ((p, .lst acc) :: L) fun env1 => de env1 ((p, .lst acc) :: L) K' (fun _ _ _ => False)) →
    (∀ acc' L', I acc' L' → acc'.length = acc.length + ds.length → k (.lst acc') L') → lcD dg dYes de env0 p k ds acc ((p, .lst acc) :: L)
  | [], acc, L, _, hi, _, hk => by
    rw [lcD_nil, remL_top (hI acc L hi)]
    exact hk acc L hi rfl
  | d :: ds, acc, L, hz, hi, hs, hk => by
    rw [lcD_cons]
    rw [List.length_cons] at hz
    refine hs d List.mem_cons_self acc L hi _ fun y L' hi' => ⟨lookup_top, Nat.lt_of_lt_of_le (show acc.length < 1000 by omega) (by decide), ?_⟩
    rw [setL_top (hI _ _ hi')]
    exact lcD_inv I hI ds (acc ++ [y]) L' (by rw [List.length_append, List.length_singleton]; omega) hi' (fun d hd => hs d (List.mem_cons_of_mem _ hd)) fun acc' L'' h hl => hk acc' L'' h (by rw [hl, List.length_append, List.length_singleton, List.length_cons]; omega)
/-! ### names, numbers, expressions: what the program asks, over data -/
def reserved : List Str := ["x", "y", "let", "if", "else", "end", "repeat", "stop"]
def letters : Str := "abcdefghijklmnopqrstuvwxyz"
def nameOk (z : Str) : Bool := decide (1 ≤ z.length) && (decide (z.length ≤ 6) && (!decide (z ∈ reserved) && z.cps.toList.all fun c => decide (c ∈ letters.cps.toList)))
def isNameD : D → Bool
  | .str z => nameOk z
  | _ => false
def numIn (lo hi : Int) : D → Bool
  | .int i => decide (lo ≤ i) && decide (i ≤ hi)
  | _ => false
def isTupD : D → Bool
  | .tup _ => true
  | _ => false
def signsT : List (Str × D) := [("add", .str "+"), ("sub", .str "-"), ("mul", .str "*"), ("div", .str "/")]
def testsT : List (Str × D) := [("less", .str "<"), ("equal", .str "="), ("upto", .str "<=")]
def isTestD : D → Bool
  | .str z => (testsT.lookup z).isSome
  | _ => false
def exprOk : Nat → D → Bool
  | 0, _ => false
  | n + 1, v => match v with
    | .tup (.str w :: r) =>
      if w = "x" ∨ w = "y" then r.isEmpty
      else if w = "num" then (match r with | [a] => numIn (-999) 999 a | _ => false)
      else if w = "name" then (match r with | [a] => isNameD a | _ => false)
      else if w = "call" then (match r with | [f, a, b] => isNameD f && (exprOk n a && exprOk n b) | _ => false)
      else if (signsT.lookup w).isSome then (match r with | [a, b] => exprOk n a && exprOk n b | _ => false)
      else false
    | _ => false
theorem exprOk_succ (m : Nat) (w : Str) (r : List D) : exprOk (m + 1) (.tup (.str w :: r)) = (if w = "x" ∨ w = "y" then r.isEmpty
      else if w = "num" then (match r with | [a] => numIn (-999) 999 a | _ => false)
      else if w = "name" then (match r with | [a] => isNameD a | _ => false)
      else if w = "call" then (match r with | [f, a, b] => isNameD f && (exprOk m a && exprOk m b) | _ => false)
      else if (signsT.lookup w).isSome then (match r with | [a, b] => exprOk m a && exprOk m b | _ => false)
      else false) := rfl
def headOk : D → Bool
  | .tup (.str w :: r) =>
    if w = "let" then (match r with | [n, e] => isNameD n && exprOk 6 e | _ => false)
    else if w = "if" then (match r with | [t, a, b, p, q] => isTestD t && (exprOk 6 a && exprOk 6 b) && (isTupD p && isTupD q) | _ => false)
    else if w = "repeat" then (match r with | [n, p] => numIn 0 9 n && isTupD p | _ => false)
    else if w = "stop" then (match r with | [e] => exprOk 6 e | _ => false)
    else false
  | _ => false
def isTupOf (d : D) (w : Str) (n : Nat) : Bool := match d with
  | .tup (.str z :: r) => decide (r.length + 1 = n) && decide (z = w)
  | _ => false
theorem isTupOf_is {d : D} {w : Str} {n : Nat} (h : isTupOf d w n = true) : ∃ r : List D, d = .tup (.str w :: r) ∧ r.length + 1 = n := by
  unfold isTupOf at h
  split at h
  · rename_i z r
    rw [Bool.and_eq_true] at h
    obtain rfl := of_decide_eq_true h.2
    exact ⟨r, rfl, of_decide_eq_true h.1⟩
  · cases h
theorem len2 {r : List D} (h : r.length + 1 = 3) : ∃ a b, r = [a, b] := by
  rcases r with _ | ⟨a, _ | ⟨b, _ | ⟨c, t⟩⟩⟩
  · cases h
  · cases h
  · exact ⟨a, b, rfl⟩
  · simp only [List.length_cons] at h; omega
theorem len1 {r : List D} (h : r.length + 1 = 2) : ∃ a, r = [a] := by
  rcases r with _ | ⟨a, _ | ⟨b, t⟩⟩
  · cases h
  · exact ⟨a, rfl⟩
  · simp only [List.length_cons] at h; omega
theorem len5 {r : List D} (h : r.length + 1 = 6) : ∃ a b c d e, r = [a, b, c, d, e] := by
  rcases r with _ | ⟨a, _ | ⟨b, _ | ⟨c, _ | ⟨d, _ | ⟨e, _ | ⟨f, t⟩⟩⟩⟩⟩⟩
  · cases h
  · cases h
  · cases h
  · cases h
  · cases h
  · exact ⟨a, b, c, d, e, rfl⟩
  · simp only [List.length_cons] at h; omega
theorem headOk_str (w : Str) (r : List D) : headOk (.tup (.str w :: r)) = (if w = "let" then (match r with | [n, e] => isNameD n && exprOk 6 e | _ => false)
    else if w = "if" then (match r with | [t, a, b, p, q] => isTestD t && (exprOk 6 a && exprOk 6 b) && (isTupD p && isTupD q) | _ => false)
    else if w = "repeat" then (match r with | [n, p] => numIn 0 9 n && isTupD p | _ => false)
    else if w = "stop" then (match r with | [e] => exprOk 6 e | _ => false)
    else false) := rfl
theorem headOk_no {d : D} (h1 : isTupOf d "let" 3 = false) (h2 : isTupOf d "if" 6 = false) (h3 : isTupOf d "repeat" 3 = false) (h4 : isTupOf d "stop" 2 = false) : headOk d = false := by
  cases d with
  | tup l =>
    rcases l with _ | ⟨a, r⟩
    · rfl
    · cases a with
      | str w =>
        have key : ∀ (z : Str) (n : Nat), isTupOf (.tup (.str w :: r)) z n = false → w = z → r.length + 1 ≠ n := fun z n h e q => by
          have h : (decide (r.length + 1 = n) && decide (w = z)) = false := h
          rw [decide_eq_true q, decide_eq_true e] at h
          cases h
        rw [headOk_str]
        by_cases e1 : w = "let"
        · rw [if_pos e1]
          have := key _ _ h1 e1
          rcases r with _ | ⟨a, _ | ⟨b, _ | ⟨c, t⟩⟩⟩ <;> first | rfl | exact absurd rfl this
        rw [if_neg e1]
        by_cases e2 : w = "if"
        · rw [if_pos e2]
          have := key _ _ h2 e2
          rcases r with _ | ⟨a, _ | ⟨b, _ | ⟨c, _ | ⟨d, _ | ⟨e, _ | ⟨f, t⟩⟩⟩⟩⟩⟩ <;> first | rfl | exact absurd rfl this
        rw [if_neg e2]
        by_cases e3 : w = "repeat"
        · rw [if_pos e3]
          have := key _ _ h3 e3
          rcases r with _ | ⟨a, _ | ⟨b, _ | ⟨c, t⟩⟩⟩ <;> first | rfl | exact absurd rfl this
        rw [if_neg e3]
        by_cases e4 : w = "stop"
        · rw [if_pos e4]
          have := key _ _ h4 e4
          rcases r with _ | ⟨a, _ | ⟨b, t⟩⟩ <;> first | rfl | exact absurd rfl this
        rw [if_neg e4]
      | _ => rfl
  | _ => rfl
def tupL : D → List D
  | .tup l => l
  | _ => []
def blocksOf : D → List (List D)
  | .tup [.str w, _, _, _, p, q] => if w = "if" then [tupL p, tupL q] else []
  | .tup [.str w, _, p] => if w = "repeat" then [tupL p] else []
  | _ => []
theorem blocks_okW {s : D} (h : okW s = true) : ∀ b ∈ blocksOf s, okWs b = true := by
  have tl : ∀ d, okW d = true → okWs (tupL d) = true := fun d hd => by
    cases d <;> first | (unfold tupL okWs; rfl) | skip
    exact (okW_tup hd).2
  intro b hb
  unfold blocksOf at hb
  split at hb
  · rename_i w _ _ _ p q
    obtain ⟨_, hw⟩ := okWs_cons (okW_tup h).2
    obtain ⟨_, hw⟩ := okWs_cons hw
    obtain ⟨_, hw⟩ := okWs_cons hw
    obtain ⟨_, hw⟩ := okWs_cons hw
    obtain ⟨wp, hw⟩ := okWs_cons hw
    obtain ⟨wq, _⟩ := okWs_cons hw
    split at hb
    · simp only [List.mem_cons, List.not_mem_nil, or_false] at hb
      rcases hb with e | e <;> subst e
      · exact tl _ wp
      · exact tl _ wq
    · cases hb
  · obtain ⟨_, hw⟩ := okWs_cons (okW_tup h).2
    obtain ⟨_, hw⟩ := okWs_cons hw
    obtain ⟨wp, hw⟩ := okWs_cons hw
    split at hb
    · simp only [List.mem_cons, List.not_mem_nil, or_false] at hb
      subst hb
      exact tl _ wp
    · cases hb
  · cases hb
/-- how many are counted, or the number of the first wrong one -/
inductive Vis where
  | ok (c : Nat)
  | bad (c : Nat)
deriving DecidableEq
def visL (sub : List D → Nat → Vis) : List (List D) → Nat → Vis
  | [], c => .ok c
  | b :: r, c => match sub b c with
    | .bad e => .bad e
    | .ok c' => visL sub r c'
def visS (sub : List D → Nat → Vis) : List D → Nat → Vis
  | [], c => .ok c
  | s :: r, c => match decide (c < 30) && headOk s with
    | true => (match visL sub (blocksOf s) (c + 1) with
      | .bad e => .bad e
      | .ok c' => visS sub r c')
    | false => .bad c
/-- n: how many levels may still follow -/
def visF : Nat → List D → Nat → Vis
  | 0 => fun l c => match l with
    | [] => .ok c
    | _ :: _ => .bad c
  | n + 1 => visS (visF n)
/-! ### expressions as they are drawn -/
inductive Ex where
  | num (i : Int) | lx | ly | nm (z : Str) | call (f : Str) (a b : Ex) | bin (o : Str) (a b : Ex)
def Ex.d : Ex → D
  | .num i => .tup [.str "num", .int i]
  | .lx => .tup [.str "x"]
  | .ly => .tup [.str "y"]
  | .nm z => .tup [.str "name", .str z]
  | .call f a b => .tup [.str "call", .str f, a.d, b.d]
  | .bin o a b => .tup [.str o, a.d, b.d]
def Ex.dp : Ex → Nat
  | .call _ a b => max a.dp b.dp + 1
  | .bin _ a b => max a.dp b.dp + 1
  | _ => 1
inductive Ex.Wf (ns ks : List Str) : Ex → Prop
  | num {i : Int} : -999 ≤ i → i ≤ 999 → Ex.Wf ns ks (.num i)
  | lx : Ex.Wf ns ks .lx
  | ly : Ex.Wf ns ks .ly
  | nm {z : Str} : z ∈ ns → Ex.Wf ns ks (.nm z)
  | call {f : Str} {a b : Ex} : f ∈ ks → Ex.Wf ns ks a → Ex.Wf ns ks b → Ex.Wf ns ks (.call f a b)
  | bin {o : Str} {a b : Ex} : o ∈ (["add", "sub", "mul", "div"] : List Str) → Ex.Wf ns ks a → Ex.Wf ns ks b → Ex.Wf ns ks (.bin o a b)
theorem Ex.ok_d : ∀ e : Ex, okP e.d = true
  | .num _ => rfl
  | .lx => rfl
  | .ly => rfl
  | .nm _ => rfl
  | .call f a b => by
    have h1 := Ex.ok_d a
    have h2 := Ex.ok_d b
    simp only [Ex.d, okP, okPs, h1, h2, List.length_cons, List.length_nil, Bool.and_true, Bool.true_and]
    exact rfl
  | .bin f a b => by
    have h1 := Ex.ok_d a
    have h2 := Ex.ok_d b
    simp only [Ex.d, okP, okPs, h1, h2, List.length_cons, List.length_nil, Bool.and_true, Bool.true_and]
    exact rfl
theorem Ex.okw_d {ns ks : List Str} (hn : ∀ z ∈ ns, z.length ≤ 100000) (hk : ∀ z ∈ ks, z.length ≤ 100000) {e : Ex} (h : e.Wf ns ks) : okW e.d = true := by
  have ok : ∀ z : Str, z.length ≤ 100000 → okW (.str z) = true := fun z h => by unfold okW; exact decide_eq_true h
  have nil : okWs [] = true := by unfold okWs; rfl
  have int : ∀ i, okW (.int i) = true := fun i => by unfold okW; rfl
  induction h with
  | num h1 h2 => exact okW_mk (by show 2 < 100000; decide) (okWs_mk (ok _ (by decide)) (okWs_mk (int _) nil))
  | lx => exact okW_mk (by decide) (okWs_mk (ok _ (by decide)) nil)
  | ly => exact okW_mk (by decide) (okWs_mk (ok _ (by decide)) nil)
  | nm h => exact okW_mk (by show 2 < 100000; decide) (okWs_mk (ok _ (by decide)) (okWs_mk (ok _ (hn _ h)) nil))
  | call hf ha hb iha ihb => exact okW_mk (by show 4 < 100000; decide) (okWs_mk (ok _ (by decide)) (okWs_mk (ok _ (hk _ hf)) (okWs_mk iha (okWs_mk ihb nil))))
  | bin ho ha hb iha ihb =>
    refine okW_mk (by show 3 < 100000; decide) (okWs_mk ?_ (okWs_mk iha (okWs_mk ihb nil)))
    simp only [List.mem_cons, List.not_mem_nil, or_false] at ho
    rcases ho with e | e | e | e <;> subst e <;> exact ok _ (by decide)
theorem Ex.dp_pos : ∀ e : Ex, 1 ≤ e.dp
  | .num _ => Nat.le_refl _
  | .lx => Nat.le_refl _
  | .ly => Nat.le_refl _
  | .nm _ => Nat.le_refl _
  | .call _ _ _ => Nat.le_add_left _ _
  | .bin _ _ _ => Nat.le_add_left _ _
theorem Ex.Wf.ok {ns ks : List Str} (hn : ∀ z ∈ ns, nameOk z = true) (hk : ∀ z ∈ ks, nameOk z = true) {e : Ex} (h : e.Wf ns ks) : ∀ n, e.dp ≤ n → exprOk n e.d = true := by
  induction h with
  | num h1 h2 =>
    intro n hn
    cases n with
    | zero => exact absurd hn (by show ¬ 1 ≤ 0; decide)
    | succ n =>
      show (decide (_ ≤ _) && decide (_ ≤ _)) = true
      rw [decide_eq_true h1, decide_eq_true h2]; rfl
  | lx => intro n hn; cases n with
    | zero => exact absurd hn (by show ¬ 1 ≤ 0; decide)
    | succ n => rfl
  | ly => intro n hn; cases n with
    | zero => exact absurd hn (by show ¬ 1 ≤ 0; decide)
    | succ n => rfl
  | nm h => intro n hn'; cases n with
    | zero => exact absurd hn' (by show ¬ 1 ≤ 0; decide)
    | succ n => exact hn _ h
  | call hf ha hb iha ihb => intro n hn'; cases n with
    | zero => exact absurd hn' (Nat.not_succ_le_zero _)
    | succ n =>
      have h := Nat.le_of_succ_le_succ hn'
      show (nameOk _ && (exprOk n _ && exprOk n _)) = true
      rw [hk _ hf, iha n (Nat.le_trans (Nat.le_max_left _ _) h), ihb n (Nat.le_trans (Nat.le_max_right _ _) h)]; rfl
  | bin ho ha hb iha ihb => intro n hn'; cases n with
    | zero => exact absurd hn' (Nat.not_succ_le_zero _)
    | succ n =>
      have h := Nat.le_of_succ_le_succ hn'
      have e1 := iha n (Nat.le_trans (Nat.le_max_left _ _) h)
      have e2 := ihb n (Nat.le_trans (Nat.le_max_right _ _) h)
      simp only [List.mem_cons, List.not_mem_nil, or_false] at ho
      rcases ho with e | e | e | e <;> subst e <;> (show (exprOk n _ && exprOk n _) = true; rw [e1, e2]; rfl)
end DL

namespace DL
open PySem L2
def sAt (i : Nat) (l : List Stmt) : Stmt := l.getD i (.Pass ⟨0, 0, 0, 0⟩)
def sBody : Stmt → List Stmt
  | .For _ _ b _ _ => b
  | .If _ b _ _ => b
  | .While _ b _ _ => b
  | .ClassDef _ _ _ b _ _ _ _ _ _ _ => b
  | _ => []
end DL
/-! # The head by facts: what the top leaves, asked by Bools -/
namespace DH
open PySem PySem.Spec PyProof.Rows L2
abbrev Frag := PySem.W.Frag
def exAll (l : List (Frag → Bool)) (K : Frag) : Bool := l.all fun f => f K
theorem ex_at {l : List (Frag → Bool)} {K : Frag} (h : exAll l K = true) (i : Nat) {f : Frag → Bool} (e : l[i]? = some f) : f K = true := List.all_eq_true.mp h f (List.mem_of_getElem? e)
def intB (x : Str) (i : Int) (K : Frag) : Bool := match PySem.W.nsIn K mainGlobals x with
  | some (some (.int j _)) => decide (j = i)
  | _ => false
theorem intB_ok {x : Str} {i : Int} {K : Frag} (h : intB x i K = true) : ∃ t, PySem.W.nsIn K mainGlobals x = some (some (.int i t)) := by
  unfold intB at h
  split at h
  · rename_i j t e
    exact ⟨t, by rw [e, of_decide_eq_true h]⟩
  · cases h
def strB (x z : Str) (K : Frag) : Bool := match PySem.W.nsIn K mainGlobals x with
  | some (some (.str y _)) => decide (y = z)
  | _ => false
theorem strB_ok {x z : Str} {K : Frag} (h : strB x z K = true) : ∃ t, PySem.W.nsIn K mainGlobals x = some (some (.str z t)) := by
  unfold strB at h
  split at h
  · rename_i j t e
    exact ⟨t, by rw [e, of_decide_eq_true h]⟩
  · cases h
/-- a dict of texts -/
def entB (K : Frag) : List (Str × He.Dv) → List DictEntry → Bool
  | [], [] => true
  | q :: qs, e :: es => (match e.key with
    | .str y _ => decide (y = q.1)
    | _ => false) && (He.relB (q.2.v K) e.val && entB K qs es)
  | _, _ => false
def dicB (K : Frag) (a : Addr) (kvs : List (Str × He.Dv)) : Bool := match K.lookup a with
  | some ⟨_, _, .dict es _, _⟩ => entB K kvs es.toList
  | _ => false
/-- the class of an own error over ValueError, as it stands in memory -/
def oexB (K : Frag) (C : Addr) : Bool := match K.lookup C with
  | some ⟨.type "type", _, .cls cd, sl⟩ => (match cd.mro, sl.toList with
    | .ref C' :: bm, [_, _, _, _, some (.builtin n), _] => decide (C' = C) && (decide (n = "ValueError.__new__") && (!cd.hasDel && (cd.hasDict && HandSPX.refsVE bm)))
    | _, _ => false)
  | _ => false
theorem oexB_ok {K : Frag} {C : Addr} (q : oexB K C = true) : ∃ nm qn N bs bm sn sub ab col dd k0 k1 k2 k3 k5, K.lookup C = some (excClassObj nm qn C N bs bm true sn sub ab col dd k0 k1 k2 k3 k5 "ValueError.__new__") ∧ HandSPX.refsVE bm = true := by
  unfold oexB at q
  split at q
  · rename_i dd cd sl ho
    split at q
    · rename_i C' bm k0 k1 k2 k3 n k5 hm hs
      obtain ⟨q1, q⟩ := He.ba q
      obtain ⟨q2, q⟩ := He.ba q
      obtain ⟨q3, q⟩ := He.ba q
      obtain ⟨q4, q5⟩ := He.ba q
      have e1 := of_decide_eq_true q1
      have e2 := of_decide_eq_true q2
      subst e1 e2
      obtain ⟨nm, bs, mro, ns, qn, hd, sn, sub, ab, col, del⟩ := cd
      have hsl : sl = #[k0, k1, k2, k3, some (.builtin "ValueError.__new__"), k5] := by
        obtain ⟨l⟩ := sl
        have hs : l = _ := hs
        rw [hs]
      have hm : mro = .ref C' :: bm := hm
      have q3' : del = false := by simpa using q3
      have q4' : hd = true := q4
      subst hsl hm q3' q4'
      exact ⟨nm, qn, ns, bs, bm, sn, sub, ab, col, dd, k0, k1, k2, k3, k5, ho, q5⟩
    · cases q
  · cases q
/-- what is asked of a class that is there -/
theorem cls_some {K : Frag} {C : Addr} (h : (PySem.W.clsIn K C).isSome = true) : ∃ cl, PySem.W.clsIn K C = some cl := Option.isSome_iff_exists.mp h
/-! ### the Hook, over objects that are told by their addresses -/
def obsL (as : List Addr) (fn : List He.DefD) (ts : List He.Tab) (tf : List He.Defn) (ex : Frag → Bool) (g : Addr → Option Obj) : He.AlX := (He.obsT [] fn ts (He.frT g as), ex (He.frT g as) && He.tabsB g tf (He.frT g as))
theorem saysL {as : List Addr} {fn : List He.DefD} {ts : List He.Tab} {tf : List He.Defn} {ex : Frag → Bool} {w : World} {h : Heap} (e : obsL as fn ts tf ex h.get? = He.valX fn ts w) : He.SaysX [] fn ts tf ex w h (He.frT h.get? as) := by
  have e1 : He.obsT [] fn ts (He.frT h.get? as) = He.valT fn ts w := congrArg (fun z : He.AlX => z.1) e
  have e2 : (ex (He.frT h.get? as) && He.tabsB h.get? tf (He.frT h.get? as)) = true := congrArg (fun z : He.AlX => z.2) e
  obtain ⟨e3, e4⟩ := He.ba e2
  have key : ∀ p ∈ tf, PySem.W.codeHdIn (He.frT h.get? as) (He.cT (He.frT h.get? as) p).1 (He.cT (He.frT h.get? as) p).2 = true ∧ ∃ o, h.get? (He.cT (He.frT h.get? as) p).2 = some o ∧ He.emptyTab o = true := fun p hp => by
    obtain ⟨k1, k2⟩ := He.ba (List.all_eq_true.mp e4 p hp)
    refine ⟨k1, ?_⟩
    split at k2
    · rename_i o ho
      exact ⟨o, ho, k2⟩
    · cases k2
  refine ⟨e1, e3, fun p hp => (key p hp).1, fun p hp => ?_, fun p hp => ?_⟩
  · obtain ⟨_, o, ho, he⟩ := key p hp
    exact He.frT_none ho he
  · obtain ⟨_, o, ho, he⟩ := key p hp
    rw [ho, He.emptyTab_eq he]
def hookL (as : List Addr) (fn : List He.DefD) (ts : List He.Tab) (tf : List He.Defn) (ex : Frag → Bool) : PySem.W.Hook where
  α := He.AlX
  obs := fun s => obsL as fn ts tf ex s.heap.get?
  val := fun w => He.valX fn ts w
  says := fun w h => ∃ K : Frag, K.In h ∧ He.SaysX [] fn ts tf ex w h K
  of := fun _ _ e => ⟨_, He.frT_in, saysL e⟩
  keeps := fun _ _ _ ⟨K, hK, c⟩ k => ⟨K, PySem.W.Frag.In.keeps hK k, ⟨c.t, c.more, c.hd, c.out, fun p hp => k _ _ (c.empty p hp)⟩⟩
theorem obsL_eq {as : List Addr} {fn : List He.DefD} {ts : List He.Tab} {tf : List He.Defn} {ex : Frag → Bool} {g : Addr → Option Obj} {s : Shared} (h : ∀ a, g a = s.heap.get? a) : obsL as fn ts tf ex g = (hookL as fn ts tf ex).obs s := by
  have e : g = s.heap.get? := funext h
  rw [e] <;> rfl
end DH

namespace DL
open PySem PySem.Spec PyProof.Rows L2
/-- as walk_of, the loose names' values told -/
theorem walk_ofX {l : PySem.W.OpenLaw} {n k : Nat} {q : Program} {loose : List Str} {XP : (Str → Option Value) → Heap → Prop} {YP : World → Heap → Prop} {d : DefRec} {K : Params → PySem.W.Frag} {CX : World → CXT} {sp : World → Sp} {x : Str}
    (hn : l.most = some n) (hn2 : n ≤ sizeLine) (hdf : d.params.defaults = []) (hr : Room k callerA)
    (hY : ∀ (w : World) (h : Heap), YP w h → (K w.params).In h)
    (F : ∀ (w : World) (mg : Str → Option Value) (fa : Addr) (h : Heap), (K w.params).In h → XP mg h → h.Ns mainGlobals mg → mg d.name = some (.ref fa) →
      ∃ fd : FuncData, (∀ (s : Shared) (u : Value), BindsTo s fd ⟨[u], []⟩ [(x, u)]) ∧
        ∀ base : Heap, (K w.params).In base → base.Ns mainGlobals mg → FnOk l.prog w (K w.params) mg base (CX w) k fa fd [x] (sp w))
    (hsp : ∀ (w : World) (H : Hp) (a : Addr) (ns : List Int), ns.length ≤ n → Only H → SqL (K w.params) H a (ns.map V.int) → sp w [.ref a] H (fun v _ => v = .bl true) fun _ _ _ => False)
    (hCX : ∀ (w : World) (H : Hp) (s : Shared) (e : Value) (s' : Shared), CX w [] H s (fun _ _ _ => False) e s' → False) :
    PySem.W.WalkO q loose XP YP l.row.toRowW d [] (fun f vs => PySem.call f vs) := by
  refine Att.attach_call hn hdf fun w s₀ s₁ mg mb fa o pm cd doc a vs ns G Y ho hd hcd hmg hobj hints hlen hg => ?_
  have KX := hY w _ Y
  obtain ⟨fd, hb, hF⟩ := F w mg fa _ KX G.X G.T.g hmg
  exact law_call KX G.T.g G.T.b G.T.builtins G.T.nolimit hg hobj hints (Nat.le_trans hlen hn2) hr hF hb (fun H hO hS => hsp w H a ns hlen hO hS) fun H e s' => hCX w H s₁ e s'
theorem loose_int {p : Program} {lv : List (Str × PySem.W.WData)} {mg : Str → Option Value} {h : Heap} (X : PySem.W.XL p lv mg h) {x : Str} {n : Int} (hx : (x, PySem.W.WData.int n) ∈ lv) : ∃ t, mg x = some (.int n t) := by
  obtain ⟨v, h1, h2⟩ := X.2.val _ hx
  cases h2 with
  | int i t => exact ⟨t, h1⟩
end DL

namespace DL
open PySem PySem.Spec PyProof.Rows L2
section
variable {P : Program} {w : World} {K : PySem.W.Frag} {mg : Str → Option Value} {base : Heap}
/-- a def that makes lambdas: its code object is known -/
theorem fn_okC {x qual : Str} {st : Stmt} {f : Addr} {oc kV doc pm cdv ct : Value} {od an : Option Addr} {osl : Array (Option Value)} {N ps : List Str} {k : Nat} {g : DSp} (lk : K.lookup f = some ⟨oc, od, .func (PySem.W.fnOf x qual (defArgs st) (defBody st) (defScope st) .none kV doc pm an cdv ct), osl⟩) (hcd : PySem.W.codeIn K cdv qual = true)
    (S : FnScope N ps (defScope st)) (len : ∀ ds L k x, g ds L k x → ds.length = ps.length)
    (body : ∀ (A : Around) (outer : List Env) (s : Shared) (H : Hp) (E : XK), Room k (A.deeper (envOfC qual (defScope st) s.heap.objs.size f cdv)) →
      ∃ t, QSs (cxOf (L2.CX P w) P w K mg base N qual (defScope st) f cdv A outer s H E) (wxOf E) (defBody st) t ∧ ∀ ds L k x, g ds L k x → t (endsD k x) (startD N ds) L) : FnOk P w K mg base (L2.CX P w) (k + 1) f (PySem.W.fnOf x qual (defArgs st) (defBody st) (defScope st) .none kV doc pm an cdv ct) ps (spD K g) := by
  refine fn_of lk hcd S (fun vs H Q E h => ?_) (fun A outer s H vs Q E hr h => ?_)
  · obtain ⟨ds, L, k, x, j, r, h, _⟩ := h
    rw [r.length]
    exact len ds L k x h
  · obtain ⟨ds, L, k, x, j, r, h, hk, hx⟩ := h
    obtain ⟨t, q, ht⟩ := body A outer s H E hr
    obtain ⟨ts, pts, sts⟩ := q.ex
    refine ⟨ts, pts, sts _ H (startD N ds) L (endsD k x) _ ⟨?_, j⟩ (ht ds L k x h) ?_⟩
    · unfold L2.start startD
      rw [r.length]
      exact Sto.start r
    · exact ⟨fun env' L' σ' H' q g' st' => hk .non L' .non H' q g' st'.2 .non, hk, fun n env' L' a H' σ' q g' st' r' => hx n L' a H' q g' st'.2 r', fun _ _ _ _ q => q.elim, fun _ _ _ _ q => q.elim⟩
/-- a def with defaults -/
abbrev FunV (K : PySem.W.Frag) (x qual : Str) (st : Stmt) (dvs : List V) (f : Addr) (fd : FuncData) : Prop := FunD K x qual (defArgs st) (defBody st) (defScope st) dvs [] f fd
theorem fn_okD {x qual : Str} {st : Stmt} {f : Addr} {fd : FuncData} {dvs : List V} {N ps : List Str} {k : Nat} {g : DSp} (F : FunV K x qual st dvs f fd) (S : FnScope N ps (defScope st)) (len : ∀ ds L k x, g ds L k x → ds.length = ps.length)
    (body : ∀ (cdv : Value) (A : Around) (outer : List Env) (s : Shared) (H : Hp) (E : XK), Room k (A.deeper (envOfC qual (defScope st) s.heap.objs.size f cdv)) →
      ∃ t, QSs (cxOf (L2.CX P w) P w K mg base N qual (defScope st) f cdv A outer s H E) (wxOf E) (defBody st) t ∧ ∀ ds L k x, g ds L k x → t (endsD k x) (startD N ds) L) : FnOk P w K mg base (L2.CX P w) (k + 1) f fd ps (spD K g) := by
  refine F.ok S (fun vs H Q E h => ?_) (fun cdv A outer s H vs Q E hr h => ?_)
  · obtain ⟨ds, L, k, x, j, r, h, _⟩ := h
    rw [r.length]
    exact len ds L k x h
  · obtain ⟨ds, L, k, x, j, r, h, hk, hx⟩ := h
    obtain ⟨t, q, ht⟩ := body cdv A outer s H E hr
    obtain ⟨ts, pts, sts⟩ := q.ex
    refine ⟨ts, pts, sts _ H (startD N ds) L (endsD k x) _ ⟨?_, j⟩ (ht ds L k x h) ?_⟩
    · unfold L2.start startD
      rw [r.length]
      exact Sto.start r
    · exact ⟨fun env' L' σ' H' q g' st' => hk .non L' .non H' q g' st'.2 .non, hk, fun n env' L' a H' σ' q g' st' r' => hx n L' a H' q g' st'.2 r', fun _ _ _ _ q => q.elim, fun _ _ _ _ q => q.elim⟩
theorem funv_mk {x qual : Str} {st : Stmt} {dvs : List V} {its : List Value} {f T : Addr} {oc kV doc pm cdv ct : Value} {od an : Option Addr} {osl : Array (Option Value)} {tc : Value} {td : Option Addr} {tn : Nat} {tsl : Array (Option Value)} (hv : Vals dvs its) (hd : dvs ≠ [])
    (lk : K.lookup f = some ⟨oc, od, .func (PySem.W.fnOf x qual (defArgs st) (defBody st) (defScope st) (.ref T) kV doc pm an cdv ct), osl⟩) (lT : K.lookup T = some ⟨tc, td, .seq its.toArray tn, tsl⟩) (hcd : PySem.W.codeIn K cdv qual = true) (kp : PySem.W.keepIn K (.ref f) = true) :
    FunV K x qual st dvs f (PySem.W.fnOf x qual (defArgs st) (defBody st) (defScope st) (.ref T) kV doc pm an cdv ct) :=
  ⟨⟨oc, od, .ref T, kV, doc, pm, an, cdv, ct, osl, rfl, lk, hcd, .inr ⟨hd, T, _, its, tn, rfl, lT, rfl, hv⟩, .inl rfl⟩, kp⟩
/-- every parameter by keywords, some with defaults -/
theorem kwbV {x qual : Str} {st : Stmt} {f : Addr} {fd : FuncData} {dvs : List V} {ps ks : List Str} {n : Nat} {gp : Perm3} (F : FunV K x qual st dvs f fd) (hd : dvs ≠ [])
    (h : ∀ (T : Addr) (kV doc pm : Value) (an : Option Addr) (cdv ct : Value) (us ws its : List Value), us.length = n → ws.length = ks.length → its.length = dvs.length → ∃ k, bindArgs (PySem.W.fnOf x qual (defArgs st) (defBody st) (defScope st) (.ref T) kV doc pm an cdv ct) ⟨us, ks.zip ws⟩ = seqItems? (.ref T) >>= k ∧ k (some its.toArray) = pure (ps.zip (gp us ws []))) : KwB K fd ps n ks [] gp := by
  obtain ⟨oc, od, dV, kV, doc, pm, an, cdv, ct, osl, rfl, lk, hcd, hD, hK⟩ := F.ex
  rcases hD with ⟨e, _⟩ | ⟨_, T, o, its, m, rfl, lT, oT, rT⟩
  · exact absurd e hd
  · refine ⟨fun s us ws X l1 l2 => ?_⟩
    obtain ⟨k, e1, e2⟩ := h T kV doc pm an cdv ct us ws its l1 l2 rT.length.symm
    refine BindsTo.of_looks fun M => ?_
    rw [e1]
    exact looks_items X lT oT (.of_pure e2)
/-! ### the errors' __init__ -/
theorem init1_ok {qual code f : Str} {st : Stmt} {fI C : Addr} {fd : FuncData} {p1 p2 p3 p4 p5 p6 p7 p8 : Pos} {j : Nat} (F : Fun K "__init__" qual st fI fd) (S : FnScope ["self", f] ["self", f] (defScope st))
    (hbd : defBody st = [.Assign [.Attribute (.Name "self" p1) "code" p2] (.Constant (.str code) j p3) p4, .Assign [.Attribute (.Name "self" p5) f p6] (.Name f p7) p8]) (hs : (defScope st).names.lookup ("self" : Str) = some .local) (hf : (defScope st).names.lookup f = some .local)
    (hd : (f == ("__debug__" : Str)) = false) (hcd : (f == ("__classdict__" : Str)) = false) (T : OexC K C) (h1 : PySem.W.findIn K (.ref C) "code" = some none) (h2 : PySem.W.findIn K (.ref C) f = some none) : FnOk P w K mg base (L2.CX P w) 1 fI fd ["self", f] (spI1 C code f) := by
  refine F.okX S (fun vs H Q E h => ?_) (fun cdv A outer s H vs Q E hr h => ?_)
  · obtain ⟨a, v, rfl, _⟩ := h
    rfl
  · obtain ⟨a, v, rfl, ha, q⟩ := h
    rw [hbd]
    refine ⟨_, pss_cons (ps_ost (pv 0 rfl (.inl hs)) pe_str (by rfl)) (pss_one (ps_ost (pv 0 rfl (.inl hs)) (pv 1 rfl (.inl hf) hd hcd) (by rfl))), ?_⟩
    refine ⟨.ref a, rfl, a, C, rfl, T, h1, .inl ⟨ha, fun d hd hne => ?_⟩⟩
    refine ⟨v, rfl, .ref a, rfl, a, C, rfl, T, h2, .inr ⟨d, [("code", .str code)], upd_same, ?_, by show 1 ≤ 900; omega, ?_⟩⟩
    · rw [upd_ne hne, upd_same]
    · exact q d hd hne
theorem init0_ok {qual code : Str} {st : Stmt} {fI C : Addr} {fd : FuncData} {p1 p2 p3 p4 : Pos} {j : Nat} (F : Fun K "__init__" qual st fI fd) (S : FnScope ["self"] ["self"] (defScope st))
    (hbd : defBody st = [.Assign [.Attribute (.Name "self" p1) "code" p2] (.Constant (.str code) j p3) p4]) (hs : (defScope st).names.lookup ("self" : Str) = some .local)
    (T : OexC K C) (h1 : PySem.W.findIn K (.ref C) "code" = some none) : FnOk P w K mg base (L2.CX P w) 1 fI fd ["self"] (spI0 C code) := by
  refine F.okX S (fun vs H Q E h => ?_) (fun cdv A outer s H vs Q E hr h => ?_)
  · obtain ⟨a, rfl, _⟩ := h
    rfl
  · obtain ⟨a, rfl, ha, q⟩ := h
    rw [hbd]
    refine ⟨_, pss_one (ps_ost (pv 0 rfl (.inl hs)) pe_str (by rfl)), ?_⟩
    exact ⟨.ref a, rfl, a, C, rfl, T, h1, .inl ⟨ha, fun d hd hne => q d hd hne⟩⟩
end
/-! ### the end, with tables -/
theorem tab_code {K : PySem.W.Frag} {x : Str} {f c P : Addr} {oc : Value} {od : Option Addr} {fd : FuncData} {osl : Array (Option Value)} (a : PySem.W.nsIn K mainGlobals x = some (some (.ref f))) (lk : K.lookup f = some ⟨oc, od, .func fd, osl⟩) (t : PySem.W.tabIn K x = some (c, P)) : fd.code = .ref c := by
  unfold PySem.W.tabIn at t
  rw [a] at t
  dsimp only at t
  rw [lk] at t
  dsimp only at t
  split at t
  · rename_i c' hc
    split at t
    · split at t
      · cases t; exact hc
      · cases t
    · cases t
  · cases t
theorem walk_ofXT {l : PySem.W.OpenLaw} {n k : Nat} {q : Program} {loose : List Str} {XP : (Str → Option Value) → Heap → Prop} {YP : World → Heap → Prop} {d : DefRec} {K : Params → PySem.W.Frag} {CX : World → CXT} {x : Str}
    (hn : l.most = some n) (hn2 : n ≤ sizeLine) (hdf : d.params.defaults = []) (hr : Room k callerA) (hY : ∀ (w : World) (h : Heap), YP w h → (K w.params).In h)
    (F : ∀ (w : World) (mg : Str → Option Value) (fa : Addr) (h : Heap), (K w.params).In h → XP mg h → h.Ns mainGlobals mg → mg d.name = some (.ref fa) →
      (∀ (y : Str) (dr : DefRec) (c P : Addr), (recsOf q).find? (fun e => e.name == y) = some dr → PySem.W.tabIn (K w.params) y = some (c, P) → PySem.W.CodeHd h c P ∧ h.get? P = some { cls := .none, data := .fields #[] }) → LamX.LawAtS l w (K w.params) (CX w) k n x mg fa h)
    (hCX : ∀ (w : World) (H : Hp) (s : Shared) (e : Value) (s' : Shared), CX w [] H s (fun _ _ _ => False) e s' → False) :
    PySem.W.WalkO q loose XP YP l.row.toRowW d [] (fun f vs => PySem.call f vs) := by
  refine Att.attach_callB hn hdf fun w s₀ s₁ mg mb fa o pm cd doc a vs ns G Y ho hd hcd hmg hobj hints hlen hbits hg => ?_
  have KX := hY w _ Y
  obtain ⟨fd, cs, sp, hT, nT, C, hb, hsp, hF⟩ := F w mg fa _ KX G.X G.T.g hmg fun y dr c P h1 h2 => PySem.W.tab_of G.T KX h1 h2
  exact LamX.law_callTs KX G.T.g G.T.b G.T.builtins G.T.nolimit hg hT nT C G.T.bmain hobj hints (Nat.le_trans hlen hn2) hr hF hb (fun H hH hS => hsp H a ns hlen hbits hH hS) fun H e s' => hCX w H s₁ e s'
end DL
namespace DL
open PySem L2
/-! ### places in a text -/
def sElse : Stmt → List Stmt
  | .If _ _ b _ => b
  | _ => []
def eNo : Expr := .Constant .none 0 ⟨0, 0, 0, 0⟩
def sVal : Stmt → Expr
  | .Assign _ e _ => e
  | .If e _ _ _ => e
  | .Expr e _ => e
  | .Return (some e) _ => e
  | _ => eNo
def eKid (i : Nat) : Expr → Expr
  | .Call _ as _ _ => as.getD i eNo
  | .List as _ => as.getD i eNo
  | .Tuple as _ _ => as.getD i eNo
  | .BoolOp _ as _ => as.getD i eNo
  | .UnaryOp _ a _ => a
  | .Compare a _ as _ => (a :: as).getD i eNo
  | .BinOp a _ b _ => [a, b].getD i eNo
  | .IfExp a b c _ => [a, b, c].getD i eNo
  | .Subscript a _ _ => a
  | _ => eNo
def lArgs : Expr → Arguments
  | .Lambda a _ _ _ => a
  | _ => defArgs (.Pass ⟨0, 0, 0, 0⟩)
def lBody : Expr → Expr
  | .Lambda _ b _ _ => b
  | _ => eNo
def lScope : Expr → Scope
  | .Lambda _ _ s _ => s
  | _ => defScope (.Pass ⟨0, 0, 0, 0⟩)
theorem q_atEK {X : Cx} {Wx : WX} {e : Expr} {da : DE} {pos : Pos} {K : PySem.W.Frag} {f : Str} (hK : X.K = K) (he : QE X Wx e da) (hb : attributeBase e f X.env (eval e X.env) = eval e X.env := by rfl) : QE X Wx (.Attribute e f pos) (dAtE K f da) := by
  subst hK
  exact q_atE he hb
def lamAt (e : Expr) (qual : Str) (ps fr : List Str) : LamF := ⟨lArgs e, lBody e, lScope e, qual, ps, fr⟩
theorem roomS {k : Nat} {A : Around} {v : Option Value} (h : Room k A) : L2H.RoomH k (A.mark v) := ⟨h.dp, h.un⟩
end DL
namespace L2H
theorem RoomH.units {k : Nat} {A : PySem.Around} (r : RoomH k A) : A.units + 64 < PySem.cLine := by have := r.un; omega
end L2H

namespace DL
open PySem L2
/-! ### the laws' helpers about errors -/
/-- codes and the fields beside them -/
inductive FldTab : Str → Str → Prop
  | c1 : FldTab "InvalidNumber" "given" | c2 : FldTab "InvalidRatio" "given" | c3 : FldTab "InvalidPoint" "given" | c4 : FldTab "InvalidLetter" "given" | c5 : FldTab "NoPlace" "given" | c6 : FldTab "OutOfBox" "given" | c7 : FldTab "InvalidLimit" "given"
  | c8 : FldTab "InvalidTerm" "at" | c9 : FldTab "InvalidProgram" "at" | c10 : FldTab "InvalidCommand" "at"
  | c11 : FldTab "InvalidName" "name" | c12 : FldTab "DuplicateName" "name" | c13 : FldTab "UnknownName" "name"
  | c14 : FldTab "InvalidText" "line" | c15 : FldTab "InvalidPage" "line"
  | c16 : FldTab "NoRoot" "index" | c17 : FldTab "Full" "limit" | c18 : FldTab "InUse" "user"
inductive NoFld : Str → Prop
  | c1 : NoFld "ZeroDivisor" | c2 : NoFld "ZeroPolynomial" | c3 : NoFld "NotDivisible" | c4 : NoFld "NoValue" | c5 : NoFld "NothingLeft"
/-- an error of the package: its fields, its code, what its field holds -/
inductive ErrD (K : PySem.W.Frag) (C : Addr) : List Str → List D → Str → D → Prop
  | one {code f : Str} {v : D} : FldTab code f → FldOk K C "code" → FldOk K C f → ErrD K C [f, "code"] [v, .str code] code v
  | no {code : Str} : NoFld code → FldOk K C "code" → ErrD K C ["code"] [.str code] code .non
def fieldS (K : PySem.W.Frag) : DSp := fun ds L k _ => ∃ C ns vs code r, ds = [.exc C ns vs] ∧ ErrD K C ns vs code r ∧ k r L
/-- what is caught -/
def Caught (K : PySem.W.Frag) (cs : List Value) (n : Exn) (kk : D → Prop) : Prop := ∃ C code r, n.cls = .ref C ∧ PySem.W.exmAny K (.ref C) cs = some true ∧ ErrD K C n.ns n.vs code r ∧ kk (.tup [.str code, r])
/-- a contract for weaker ends -/
def upG (G : LamF → DSp) : LamF → DSp := fun F ds L k x => ∃ k0 x0, G F ds L k0 x0 ∧ (∀ d L', k0 d L' → k d L') ∧ ∀ n L', x0 n L' → x n L'
theorem CloOk.up {P : Program} {w : World} {K : PySem.W.Frag} {mg : Str → Option Value} {base : Heap} {n : Nat} {G : LamF → DSp} (c : CloOk P w K mg base n G) : CloOk P w K mg base n (upG G) :=
  ⟨fun A outer s H f F vs ds L k x Q E hr e0 ca j r g hk hx => by
    obtain ⟨k0, x0, g, h1, h2⟩ := g
    exact c.run A outer s H f F vs ds L k0 x0 Q E hr e0 ca j r g (fun d L' v H' q => hk d L' v H' (h1 d L' q)) fun n L' a H' q => hx n L' a H' (h2 n L' q)⟩
def tryS (K : PySem.W.Frag) (cs : List Value) (G : LamF → DSp) : DSp := fun ds L k _ => ∃ F es, ds = [.clo F es] ∧ G F es L (fun d L' => k (.tup [.str "", d]) L') fun n L' => Caught K cs n fun d => k d L'
/-- each asked in turn; each answers r and leaves the ledger -/
def triesS (K : PySem.W.Frag) (cs : List Value) (G : LamF → DSp) : DSp := fun ds L k _ => ∃ (qs : List (LamF × List D)) (rs : List D), qs.length ≤ 1000 ∧ ds = [.lst (qs.map fun q => .clo q.1 q.2)] ∧ rs.length = qs.length ∧ plnL L = true ∧ plns rs = true ∧
  (∀ (i : Nat) (q : LamF × List D) (r : D), qs[i]? = some q → rs[i]? = some r → ∀ (L' : Led) (k' : DK), plnL L' = true → k' r L' → tryS K cs G [.clo q.1 q.2] L' k' fun _ _ => False) ∧ k (.lst rs) L
theorem lcD_yes {dg : DG} {de : DE} {env0 : DEnv} {p : Addr} {k : DK} {L : Led} (hp : ¬ inL L p) : ∀ (ds rs acc : List D), rs.length = ds.length → acc.length + ds.length ≤ 1000 → plns rs = true → plns acc = true →
    (∀ (i : Nat) (d r : D), ds[i]? = some d → rs[i]? = some r → ∀ (acc' : List D) (K' : DK), plns acc' = true → K' r ((p, .lst acc') :: L) → dg d env0 ((p, .lst acc') :: L) fun env1 => de env1 ((p, .lst acc') :: L) K' (fun _ _ _ => False)) →
    k (.lst (acc ++ rs)) L → lcD dg dYes de env0 p k ds acc ((p, .lst acc) :: L)
  | [], rs, acc, hl, _, _, _, _, h => by
    cases rs with
    | cons _ _ => cases hl
    | nil =>
      rw [lcD_nil, remL_top hp]
      rw [List.append_nil] at h
      exact h
  | d :: ds, rs, acc, hl, hz, pr, pa, hs, h => by
    cases rs with
    | nil => cases hl
    | cons r rs =>
      rw [lcD_cons]
      have pr' := Bool.and_eq_true_iff.mp (show (pln r && plns rs) = true by simpa only [plns] using pr)
      refine hs 0 d r rfl rfl acc _ pa ⟨lookup_top, Nat.lt_of_lt_of_le (show acc.length < 1000 by rw [List.length_cons] at hz; omega) (by decide), ?_⟩
      rw [setL_top hp]
      refine lcD_yes hp ds rs (acc ++ [r]) (by simpa using hl) (by rw [List.length_append, List.length_singleton]; rw [List.length_cons] at hz; omega) pr'.2 (plns_append pa (by unfold plns; rw [pr'.1]; rfl)) (fun i d' r' h1 h2 => hs (i + 1) d' r' (by simpa using h1) (by simpa using h2)) ?_
      rw [List.append_assoc]
      exact h
end DL
namespace DL
open PySem PySem.Spec PyProof.Rows L2
theorem calq_mk {P : Program} {w : World} {K : PySem.W.Frag} {mg : Str → Option Value} {base : Heap} {n : Nat} {x : Str} {ps : List Str} {g : DSp} {f : Addr} {fd : FuncData} (G : FnQ P w K mg base n f fd ps (spD K g)) (m : mg x = some (.ref f)) (k : PySem.W.keepIn K (.ref f) = true) (b : L2.Binds K fd ps []) : CalQ P w K mg base n x ps g := ⟨⟨f, fd, G, m, k, b⟩⟩
theorem kwb {K : PySem.W.Frag} {x qual : Str} {st : Stmt} {f : Addr} {fd : FuncData} {ps ks : List Str} {n : Nat} {gp : Perm3} (F : Fun K x qual st f fd)
    (h : ∀ (kV doc pm : Value) (an : Option Addr) (cdv ct : Value) (us ws : List Value), us.length = n → ws.length = ks.length → bindArgs (PySem.W.fnOf x qual (defArgs st) (defBody st) (defScope st) .none kV doc pm an cdv ct) ⟨us, ks.zip ws⟩ = pure (ps.zip (gp us ws []))) : KwB K fd ps n ks [] gp := by
  obtain ⟨oc, od, kV, doc, pm, an, cdv, ct, osl, rfl, lk, hcd⟩ := F.ex
  exact ⟨fun s us ws _ hu hw => .of_eq (h kV doc pm an cdv ct us ws hu hw)⟩
/-- an error class of the package as the top has left it -/
structure ErrC (K : PySem.W.Frag) (cs : List Value) (C : Addr) (fs : List Str) : Prop where
  oex : OexC K C
  xf : XfC K C
  no : ∀ f ∈ fs, PySem.W.findIn K (.ref C) f = some none
  ex : PySem.W.exmAny K (.ref C) cs = some true
theorem ErrC.fld {K : PySem.W.Frag} {cs : List Value} {C : Addr} {fs : List Str} (e : ErrC K cs C fs) {f : Str} (h : f ∈ fs) : FldOk K C f := ⟨e.xf, e.no f h⟩
theorem exm_ref {K : PySem.W.Frag} {cls : Value} {C : Addr} {d : ClassData} {b : Bool} (hb : PySem.W.subIn K (.ref C) (.type "BaseException") = some true) (hc : PySem.W.clsIn K C = some d) (ht : PySem.W.typeIn K (.ref C) = some (.type "type")) (hs : PySem.W.subIn K cls (.ref C) = some b) : PySem.W.exmOne K cls (.ref C) = some b := by
  unfold PySem.W.exmOne PySem.W.kitCls
  dsimp only
  rw [hb, hc, ht]
  exact hs
theorem exm_3 {K : PySem.W.Frag} {cls c1 c2 c3 : Value} {b1 b2 b3 : Bool} (h1 : PySem.W.exmOne K cls c1 = some b1) (h2 : PySem.W.exmOne K cls c2 = some b2) (h3 : PySem.W.exmOne K cls c3 = some b3) : PySem.W.exmAny K cls [c1, c2, c3] = some (b1 || (b2 || (b3 || false))) := by
  unfold PySem.W.exmAny
  rw [h1]
  unfold PySem.W.exmAny
  rw [h2]
  unfold PySem.W.exmAny
  rw [h3]
  unfold PySem.W.exmAny
  rfl
theorem tab_in {K : PySem.W.Frag} {x : Str} {f c P : Addr} {oc ec : Value} {od ed : Option Addr} {fd : FuncData} {osl esl : Array (Option Value)} {vs : Array Value} (a : PySem.W.nsIn K mainGlobals x = some (some (.ref f))) (lk : K.lookup f = some ⟨oc, od, .func fd, osl⟩) (hc : fd.code = .ref c) (lc : K.lookup c = some ⟨ec, ed, .fields vs, esl⟩) (hv : vs[11]? = some (.ref P)) : PySem.W.tabIn K x = some (c, P) := by
  unfold PySem.W.tabIn
  rw [a]
  dsimp only
  rw [lk]
  dsimp only
  rw [hc]
  dsimp only
  rw [lc]
  dsimp only
  rw [hv]
theorem law_at {l : PySem.W.OpenLaw} {w : World} {K : PySem.W.Frag} {CX : CXT} {k n : Nat} {x : Str} {mg : Str → Option Value} {fa c Pt : Addr} {h : Heap} {pr : Program} {lawS : Addr → DSp} {dr : DefRec} {q : Str}
    (tabs : ∀ (y : Str) (dr : DefRec) (c P : Addr), (recsOf pr).find? (fun e => e.name == y) = some dr → PySem.W.tabIn K y = some (c, P) → PySem.W.CodeHd h c P ∧ h.get? P = some { cls := .none, data := .fields #[] })
    (hr : (recsOf pr).find? (fun e => e.name == ("law" : Str)) = some dr) (hn : K.lookup Pt = none)
    (A : PySem.W.tabIn K "law" = some (c, Pt) ∧ ∃ fd : FuncData, (∀ (s : Shared) (v : Value), BindsTo s fd ⟨[v], []⟩ [(x, v)]) ∧ ∀ base : Heap, K.In base → base.Ns mainGlobals mg → LamX.TabB base mg c Pt → FnOk l.prog w K mg base CX k fa fd [x] (spD K (lawS Pt)))
    (hL : ∀ (ns : List Int), ns.length ≤ n → lawS Pt [.ro (ns.map .int)] [(Pt, .tab q)] (fun d _ => d = .bl true) fun _ _ => False) : LamX.LawAtS l w K CX k n x mg fa h := by
  obtain ⟨ht, fd, hb, hF⟩ := A
  obtain ⟨h1, h2⟩ := tabs "law" dr c Pt hr ht
  refine ⟨fd, [(c, Pt)], spD K (lawS Pt), fun p hp => ?_, fun p hp => ?_, fun p hp => ?_, hb, fun H a ns hlen _ hT hS => ?_, fun base b1 b2 b3 => hF base b1 b2 (b3 (c, Pt) (by simp))⟩
  · have e : p = (c, Pt) := by simpa using hp
    subst e; exact h2
  · have e : p = (c, Pt) := by simpa using hp
    subst e; exact hn
  · have e : p = (c, Pt) := by simpa using hp
    subst e; exact h1
  · have hP : H Pt = some (.tbl #[]) := hT (c, Pt) (by simp)
    have nP : ∀ b : Addr, inL [(Pt, D.tab q)] b → b = Pt := fun b hb => by simpa [inL] using hb
    refine ⟨[.ro (ns.map .int)], [(Pt, .tab q)], fun d _ => d = .bl true, fun _ _ => False, ⟨by simp, fun a d m => ?_⟩, .cons (.ro ?_ (RpAll.ints ns)) .nil, hL ns hlen, fun d L' v H' hd _ _ r => ?_, fun n L' a H' h => h.elim⟩
    · have e : (a, d) = (Pt, .tab q) := by simpa using m
      cases e
      exact ⟨#[], hP, True.intro, fun pos cv hc => by
        have z : codeAmong pos [] = some cv := hc
        simp [codeAmong] at z⟩
    · rcases hS with hs | hs
      · refine .inl ⟨fun hi => ?_, hs⟩
        have e := nP a hi
        subst e
        rcases hs with hs | ⟨o, hs⟩
        · rw [hP] at hs; cases hs
        · rw [hP] at hs; cases hs
      · exact .inr hs
    · subst hd
      cases r
      rfl
end DL

namespace DL
open PySem L2 TL
/-- the bag stands at p, once -/
structure BagAt (L : Led) (p : Addr) (b : Bag) : Prop where
  lk : L.lookup p = some (bagC b)
  self : setL L p (bagC b) = L
  ok : BagOk b
theorem BagAt.set {L : Led} {p : Addr} {b b' : Bag} (h : BagAt L p b) (ok : BagOk b') : BagAt (setL L p (bagC b')) p b' := ⟨lookup_setL h.lk, setL_setL _ _ _ _, ok⟩
theorem BagAt.top {L : Led} {p : Addr} {b : Bag} (h : ¬ inL L p) (ok : BagOk b) : BagAt ((p, bagC b) :: L) p b := ⟨lookup_top, setL_top h, ok⟩
mutual
theorem okW_pln : ∀ {d : D}, okW d = true → pln d = true
  | .non, _ => by unfold pln; rfl
  | .bl _, _ => by unfold pln; rfl
  | .int _, _ => by unfold pln; rfl
  | .str _, _ => by unfold pln; rfl
  | .lst xs, h => by
    unfold okW at h
    rw [Bool.and_eq_true] at h
    unfold pln
    exact okWs_pln h.2
  | .tup xs, h => by
    unfold okW at h
    rw [Bool.and_eq_true] at h
    unfold pln
    exact okWs_pln h.2
  | .ro _, h => by simp [okW] at h
  | .dk _ _, h => by simp [okW] at h
  | .dt _ _, h => by simp [okW] at h
  | .obj _ _ _, h => by simp [okW] at h
  | .exc _ _ _, h => by simp [okW] at h
  | .fnv _ _, h => by simp [okW] at h
  | .clo _ _, h => by simp [okW] at h
  | .tab _, h => by simp [okW] at h
  | .ptr _, h => by simp [okW] at h
  | .ty _, h => by simp [okW] at h
theorem okWs_pln : ∀ {l : List D}, okWs l = true → plns l = true
  | [], _ => by unfold plns; rfl
  | d :: r, h => by
    unfold okWs at h
    rw [Bool.and_eq_true] at h
    unfold plns
    rw [okW_pln h.1, okWs_pln h.2]; rfl
end
theorem pln_bag (b : Bag) : pln (bagC b) = true := by
  have h : plns (b.cells.map D.int) = true := plns_map (fun _ => by unfold pln; rfl) _
  simp only [bagC, pln, plns, h, Bool.and_self]
/-! ### names that are drawn -/
def AllLet (l : List Nat) : Prop := ∀ c ∈ l, c ∈ tl letters
theorem tl_len (z : Str) : z.length = (tl z).length := len_tl z
theorem cut_pre (z : Str) (n : Nat) : tl (cutS z none (some (n : Int))) = (tl z).take n := by
  show ((tl z).drop 0).take (HT.sIx z.length z.length (some (n : Int)) - 0) = _
  rw [HT.sIx_nat, List.drop_zero, Nat.sub_zero, tl_len, List.take_eq_take_iff]
  omega
theorem cut_suf (z : Str) (n : Nat) : tl (cutS z (some (n : Int)) none) = (tl z).drop n := by
  show ((tl z).drop (HT.sIx z.length 0 (some (n : Int)))).take (z.length - HT.sIx z.length 0 (some (n : Int))) = _
  rw [HT.sIx_nat, tl_len]
  rcases Nat.le_total n (tl z).length with h | h
  · rw [Nat.min_eq_left h]
    exact List.take_of_length_le (by rw [List.length_drop]; omega)
  · rw [Nat.min_eq_right h, Nat.sub_self, List.take_zero, List.drop_eq_nil_of_le h]
theorem name_of {z : Str} (h1 : 1 ≤ z.length) (h2 : z.length ≤ 6) (h3 : z ∉ reserved) (h4 : AllLet (tl z)) : nameOk z = true := by
  unfold nameOk
  rw [decide_eq_true h1, decide_eq_true h2, decide_eq_false h3]
  simp only [Bool.not_false, Bool.true_and, List.all_eq_true]
  exact fun c hc => decide_eq_true (h4 c hc)
theorem barred_q {z : Str} (hz : z.length ≤ 5) (h : z ∈ reserved) : nameOk (z ++ "q") = true := by
  unfold reserved at h
  simp only [List.mem_cons, List.not_mem_nil, or_false] at h
  rcases h with e | e | e | e | e | e | e | e <;> subst e <;> first | decide +kernel | exact absurd hz (by decide)
/-- a stem with a letter put in -/
theorem word_ok {stem : List Nat} {n c : Nat} {z : Str} (hs : AllLet stem) (hl : stem.length ≤ 4) (hn : n ≤ stem.length) (hc : c ∈ tl letters) (hz : tl z = stem.take n ++ [c] ++ stem.drop n) : 1 ≤ z.length ∧ z.length ≤ 5 ∧ AllLet (tl z) := by
  have e : z.length = stem.length + 1 := by
    rw [tl_len, hz]
    simp only [List.length_append, List.length_take, List.length_drop, List.length_cons, List.length_nil]
    omega
  refine ⟨by omega, by omega, fun d hd => ?_⟩
  rw [hz] at hd
  simp only [List.mem_append, List.mem_cons, List.not_mem_nil, or_false] at hd
  rcases hd with (h | h) | h
  · exact hs d (List.mem_of_mem_take h)
  · subst h; exact hc
  · exact hs d (List.mem_of_mem_drop h)
def namesS : DSp := fun ds L k _ => ∃ (p : Addr) (b : Bag) (m : Nat), ds = [.ptr p, .int m] ∧ BagAt L p b ∧ m ≤ 100 ∧ ∀ (zs : List Str) b', zs.length = m → (∀ z ∈ zs, nameOk z = true) → BagOk b' → k (.lst (zs.map D.str)) (setL L p (bagC b'))
theorem mem_sgD {l : List Nat} {d : D} (h : d ∈ sgD l) : ∃ c ∈ l, d = .str ⟨#[c]⟩ := by
  unfold sgD at h
  obtain ⟨c, hc, e⟩ := List.mem_map.mp h
  exact ⟨c, hc, e.symm⟩
theorem nameOk_len {z : Str} (h : nameOk z = true) : z.length ≤ 6 := by
  unfold nameOk at h
  simp only [Bool.and_eq_true] at h
  exact of_decide_eq_true h.2.1
theorem nameOk_let {z : Str} (h : nameOk z = true) : AllLet (tl z) := by
  unfold nameOk at h
  simp only [Bool.and_eq_true, List.all_eq_true] at h
  exact fun c hc => of_decide_eq_true (h.2.2.2 c hc)
theorem let_lt {c : Nat} (h : c ∈ tl letters) : c < 128 := by
  have : ∀ c ∈ tl letters, c < 128 := by decide +kernel
  exact this c h
theorem nameOk_str {z : Str} (h : nameOk z = true) : PyData.strOk z = true := by
  unfold PyData.strOk
  rw [← Array.all_toList, List.all_eq_true]
  intro c hc
  have := let_lt (nameOk_let h c hc)
  exact decide_eq_true (by omega)
theorem canLay_strs : ∀ (l : List Str), (∀ z ∈ l, PyData.strOk z = true) → PyData.canLayAll0 (toPys (l.map D.str)) = true ∧ PyData.depthAll (toPys (l.map D.str)) = 0
  | [], _ => ⟨rfl, rfl⟩
  | z :: r, h => by
    obtain ⟨h1, h2⟩ := canLay_strs r fun z hz => h z (List.mem_cons_of_mem _ hz)
    constructor
    · show (PyData.strOk z && PyData.canLayAll0 (toPys (r.map D.str))) = true
      rw [h1, h z List.mem_cons_self]; rfl
    · show max 0 (PyData.depthAll (toPys (r.map D.str))) = 0
      rw [h2]; rfl
theorem shp_strs {l : List Str} (h : ∀ z ∈ l, nameOk z = true) : shp (.lst (l.map D.str)) = true := by
  obtain ⟨h1, h2⟩ := canLay_strs l fun z hz => nameOk_str (h z hz)
  show (PyData.canLayAll0 (toPys (l.map D.str)) && decide (PyData.depthAll (toPys (l.map D.str)) + 1 ≤ 64)) = true
  rw [h1, h2]; rfl
theorem eqD_strs (l : List Str) : eqD (.lst (l.map D.str)) (.lst []) = l.isEmpty := by
  cases l <;> rfl
def wrongS : DSp := fun ds L k _ => ∃ (p : Addr) (b : Bag), ds = [.ptr p] ∧ BagAt L p b ∧ ∀ d b', headOk d = false → okW d = true → pln d = true → BagOk b' → k d (setL L p (bagC b'))
/-! ### visits -/
theorem vis_good {sub : List D → Nat → Vis} {s : D} {r : List D} {c : Nat} (h1 : headOk s = true) (h2 : blocksOf s = []) (h3 : c < 30) : visS sub (s :: r) c = visS sub r (c + 1) := by
  show (match decide (c < 30) && headOk s with | true => (match visL sub (blocksOf s) (c + 1) with | .bad e => Vis.bad e | .ok c' => visS sub r c') | false => Vis.bad c) = _
  rw [h1, h2, decide_eq_true h3]
  rfl
theorem vis_bad {sub : List D → Nat → Vis} {s : D} {r : List D} {c : Nat} (h1 : headOk s = false) : visS sub (s :: r) c = .bad c := by
  show (match decide (c < 30) && headOk s with | true => (match visL sub (blocksOf s) (c + 1) with | .bad e => Vis.bad e | .ok c' => visS sub r c') | false => Vis.bad c) = _
  rw [h1, Bool.and_false]
theorem vis_blk {sub : List D → Nat → Vis} {s : D} {r : List D} {c : Nat} (h1 : headOk s = true) (h3 : c < 30) : visS sub (s :: r) c = (match visL sub (blocksOf s) (c + 1) with | .bad e => Vis.bad e | .ok c' => visS sub r c') := by
  show (match decide (c < 30) && headOk s with | true => (match visL sub (blocksOf s) (c + 1) with | .bad e => Vis.bad e | .ok c' => visS sub r c') | false => Vis.bad c) = _
  rw [h1, decide_eq_true h3]
  rfl
/-- a statement without blocks -/
structure Plain (s : D) : Prop where
  ok : headOk s = true
  no : blocksOf s = []
/-- good ones, then a wrong one -/
theorem vis_run {sub : List D → Nat → Vis} {bad : D} {r : List D} (hb : headOk bad = false) : ∀ (gs : List D) (c : Nat), (∀ s ∈ gs, Plain s) → c + gs.length < 30 → visS sub (gs ++ bad :: r) c = .bad (c + gs.length)
  | [], c, _, _ => vis_bad hb
  | s :: gs, c, h, hc => by
    rw [List.length_cons] at hc
    rw [List.cons_append, vis_good (h s List.mem_cons_self).ok (h s List.mem_cons_self).no (by omega), vis_run hb gs (c + 1) (fun s hs => h s (List.mem_cons_of_mem _ hs)) (by omega), List.length_cons]
    congr 1
    omega
theorem vis_all {sub : List D → Nat → Vis} {r : List D} : ∀ (gs : List D) (c : Nat), (∀ s ∈ gs, Plain s) → c + gs.length ≤ 30 → visS sub (gs ++ r) c = visS sub r (c + gs.length)
  | [], c, _, _ => rfl
  | s :: gs, c, h, hc => by
    rw [List.length_cons] at hc
    rw [List.cons_append, vis_good (h s List.mem_cons_self).ok (h s List.mem_cons_self).no (by omega), vis_all gs (c + 1) (fun s hs => h s (List.mem_cons_of_mem _ hs)) (by omega), List.length_cons]
    congr 1
    omega
def leafS : DSp := fun ds L k _ => ∃ (p : Addr) (b : Bag) (ns : List Str), ds = [.ptr p, .lst (ns.map D.str)] ∧ BagAt L p b ∧ ns.length ≤ 100 ∧ (∀ z ∈ ns, nameOk z = true) ∧ ∀ (e : Ex) b', e.dp = 1 → (∀ ks, e.Wf ns ks) → BagOk b' → k e.d (setL L p (bagC b'))
def exprG (n : Nat) : DSp := fun ds L k _ => ∃ (p : Addr) (b : Bag) (ns ks : List Str) (m : Nat), ds = [.ptr p, .lst (ns.map D.str), .lst (ks.map D.str), .int m] ∧ m < n ∧ BagAt L p b ∧ ns.length ≤ 100 ∧ (∀ z ∈ ns, nameOk z = true) ∧ ks.length ≤ 100 ∧ (∀ z ∈ ks, nameOk z = true) ∧ ∀ (e : Ex) b', e.dp ≤ max m 1 → e.Wf ns ks → BagOk b' → k e.d (setL L p (bagC b'))
end DL

namespace DL
open PySem L2
/-! ### runs of programs, as the law tells them -/
abbrev VAL := (Int × Int) × Int
def rtD (r : Int × Int) : D := .tup [.int r.1, .int r.2]
def valD (v : VAL) : D := .tup [rtD v.1, .int v.2]
/-- ends without a value -/
inductive EE where
  | unset (z : Str) | heavy | zero | long | none
def EE.l : EE → List Str
  | .unset z => ["unset", z]
  | .heavy => ["heavy"]
  | .zero => ["zero"]
  | .long => ["long"]
  | .none => ["none"]
def EE.d (e : EE) : D := .tup (e.l.map D.str)
structure RSt where
  outs : List Str
  steps : Nat
inductive R1 where
  | ok (v : VAL) | halt (e : EE)
def sgI (z : Int) : Int := (if decide (0 < z) then 1 else 0) - (if decide (z < 0) then 1 else 0)
def rAddL (a b : Int × Int) : Int × Int := lowI (a.1 * b.2 + b.1 * a.2) (a.2 * b.2)
def rSubL (a b : Int × Int) : Int × Int := lowI (a.1 * b.2 - b.1 * a.2) (a.2 * b.2)
def rMulL (a b : Int × Int) : Int × Int := lowI (a.1 * b.1) (a.2 * b.2)
def rDivL (a b : Int × Int) : Int × Int := lowI (a.1 * b.2) (a.2 * b.1)
def joinR (o : Str) (a b : Int × Int) : Int × Int := if o = "add" then rAddL a b else if o = "sub" then rSubL a b else if o = "mul" then rMulL a b else rDivL a b
def orderR (a b : Int × Int) : Int := sgI (a.1 * b.2 - b.1 * a.2)
abbrev NMS := List (Str × VAL)
abbrev FUN := Str → VAL → VAL → RSt → R1 × RSt
def evalE (F : FUN) (nm : NMS) (x y : VAL) : Ex → RSt → R1 × RSt
  | .num i, s => (.ok ((i, 1), 1), s)
  | .lx, s => (.ok x, s)
  | .ly, s => (.ok y, s)
  | .nm z, s => match nm.lookup z with
    | some v => (.ok v, s)
    | none => (.halt (.unset z), s)
  | .call f a b, s => match evalE F nm x y a s with
    | (.halt e, s1) => (.halt e, s1)
    | (.ok v, s1) => match evalE F nm x y b s1 with
      | (.halt e, s2) => (.halt e, s2)
      | (.ok w, s2) => F f v w s2
  | .bin o a b, s => match evalE F nm x y a s with
    | (.halt e, s1) => (.halt e, s1)
    | (.ok v, s1) => match evalE F nm x y b s1 with
      | (.halt e, s2) => (.halt e, s2)
      | (.ok w, s2) => if 10 < v.2 + w.2 then (.halt .heavy, s2) else if o = "div" ∧ w.1.1 = 0 then (.halt .zero, s2) else (.ok (joinR o v.1 w.1, v.2 + w.2), s2)
inductive Sm where
  | letS (z : Str) (e : Ex) | stop (e : Ex) | rep (n : Nat) (b : List Sm) | ifS (t : Str) (a b : Ex) (p q : List Sm)
mutual
def Sm.d : Sm → D
  | .letS z e => .tup [.str "let", .str z, e.d]
  | .stop e => .tup [.str "stop", e.d]
  | .rep n b => .tup [.str "repeat", .int n, .tup (Sm.ds b)]
  | .ifS t a b p q => .tup [.str "if", .str t, a.d, b.d, .tup (Sm.ds p), .tup (Sm.ds q)]
def Sm.ds : List Sm → List D
  | [] => []
  | s :: r => s.d :: Sm.ds r
end
/-- how a block ends: by a halt, by a value or by its last statement -/
inductive BR where
  | halt (e : EE) | done (o : Option VAL)
def putN (z : Str) (v : VAL) : NMS → NMS
  | [] => [(z, v)]
  | (a, u) :: r => if a = z then (a, v) :: r else (a, u) :: putN z v r
def sgnS (t : Int) : Str := if t = 0 then "=" else if t = 1 then ">" else "<"
def takes (t : Str) (turn : Int) : Bool := if t = "less" then decide (turn = -1) else if t = "equal" then decide (turn = 0) else decide (turn = -1) || decide (turn = 0)
def repM (body : NMS → RSt → BR × NMS × RSt) : Nat → NMS → RSt → BR × NMS × RSt
  | 0, nm, s => (.done none, nm, s)
  | n + 1, nm, s => match body nm s with
    | (.done none, nm1, s1) => repM body n nm1 s1
    | r => r
mutual
def stmM (F : FUN) (x y : VAL) : Sm → NMS → RSt → BR × NMS × RSt
  | .letS z e, nm, s => match evalE F nm x y e s with
    | (.halt h, s1) => (.halt h, nm, s1)
    | (.ok v, s1) => (.done none, putN z v nm, s1)
  | .stop e, nm, s => match evalE F nm x y e s with
    | (.halt h, s1) => (.halt h, nm, s1)
    | (.ok v, s1) => (.done (some v), nm, s1)
  | .rep n b, nm, s => repM (blkM F x y b) n nm s
  | .ifS t a b p q, nm, s => match evalE F nm x y a s with
    | (.halt h, s1) => (.halt h, nm, s1)
    | (.ok v, s1) => match evalE F nm x y b s1 with
      | (.halt h, s2) => (.halt h, nm, s2)
      | (.ok w, s2) => if 10 < v.2 + w.2 then (.halt .heavy, nm, s2) else
        match takes t (orderR v.1 w.1) with
        | true => blkM F x y p nm ⟨s2.outs ++ [sgnS (orderR v.1 w.1)], s2.steps⟩
        | false => blkM F x y q nm ⟨s2.outs ++ [sgnS (orderR v.1 w.1)], s2.steps⟩
def blkM (F : FUN) (x y : VAL) : List Sm → NMS → RSt → BR × NMS × RSt
  | [], nm, s => (.done none, nm, s)
  | st :: r, nm, s => if s.steps = 60 then (.halt .long, nm, s) else
    match stmM F x y st nm ⟨s.outs, s.steps + 1⟩ with
    | (.done none, nm1, s1) => blkM F x y r nm1 s1
    | q => q
end
/-- a program run with values for x and y -/
def execM (F : FUN) (p : List Sm) (x y : VAL) (s : RSt) : R1 × RSt := match blkM F x y p [] s with
  | (.halt e, _, s1) => (.halt e, s1)
  | (.done none, _, s1) => (.halt .none, s1)
  | (.done (some v), _, s1) => (.ok v, s1)
abbrev TAB := List (Str × List Sm)
def funM (tab : TAB) : Nat → FUN
  | 0 => fun _ _ _ s => (.halt .none, s)
  | n + 1 => fun f x y s => match tab.lookup f with
    | some p => execM (funM tab n) p x y s
    | none => (.halt .none, s)
def wholeD (r : R1 × RSt) : D := .tup [.tup (r.2.outs.map D.str), match r.1 with
  | .halt e => e.d
  | .ok v => .tup [.str "value", rtD v.1]]
/-! ### how great the numbers grow -/
structure VOk (v : VAL) : Prop where
  w1 : 1 ≤ v.2
  w2 : v.2 ≤ 10
  pos : 0 < v.1.2
  low : gcdI v.1.1 v.1.2 = 1
  top : v.1.1.natAbs < 2 ^ (64 * v.2.toNat - 1)
  bot : v.1.2.natAbs < 2 ^ (64 * v.2.toNat - 1)
theorem VOk.small {v : VAL} (h : VOk v) : v.1.1.natAbs < 2 ^ 640 ∧ v.1.2.natAbs < 2 ^ 640 := by
  have : 64 * v.2.toNat - 1 ≤ 640 := by have := h.w2; omega
  exact ⟨Nat.lt_of_lt_of_le h.top (Nat.pow_le_pow_right (by decide) this), Nat.lt_of_lt_of_le h.bot (Nat.pow_le_pow_right (by decide) this)⟩
theorem mul_lt {a b : Int} {n m : Nat} (ha : a.natAbs < 2 ^ n) (hb : b.natAbs < 2 ^ m) : (a * b).natAbs < 2 ^ (n + m) := by
  rw [Int.natAbs_mul, Nat.pow_add]
  exact Nat.mul_lt_mul'' ha hb
theorem VOk.join {v w : VAL} (hv : VOk v) (hw : VOk w) (o : Str) (h10 : ¬ 10 < v.2 + w.2) (hz : ¬ (o = "div" ∧ w.1.1 = 0)) (ho : o ∈ (["add", "sub", "mul", "div"] : List Str)) : VOk (joinR o v.1 w.1, v.2 + w.2) := by
  have e : (64 * v.2.toNat - 1) + (64 * w.2.toNat - 1) + 1 = 64 * (v.2 + w.2).toNat - 1 := by have := hv.w1; have := hw.w1; omega
  have p1 := mul_lt hv.top hw.bot
  have p2 := mul_lt hw.top hv.bot
  have p3 := mul_lt hv.bot hw.bot
  have p4 := mul_lt hv.top hw.top
  have p5 := mul_lt hv.bot hw.top
  have e2 : (2 : Nat) ^ (64 * (v.2 + w.2).toNat - 1) = 2 ^ ((64 * v.2.toNat - 1) + (64 * w.2.toNat - 1)) + 2 ^ ((64 * v.2.toNat - 1) + (64 * w.2.toNat - 1)) := by rw [← e, Nat.pow_succ]; omega
  rw [Nat.add_comm (64 * w.2.toNat - 1)] at p2
  have mk : ∀ t u : Int, u ≠ 0 → t.natAbs < 2 ^ (64 * (v.2 + w.2).toNat - 1) → u.natAbs < 2 ^ (64 * (v.2 + w.2).toNat - 1) → VOk (lowI t u, v.2 + w.2) := fun t u hu ht hb => by
    obtain ⟨s1, s2⟩ := lowI_small (t := t) hu
    obtain ⟨l1, l2, _⟩ := lowI_spec (t := t) hu
    exact ⟨by show 1 ≤ v.2 + w.2; have := hv.w1; have := hw.w1; omega, by show v.2 + w.2 ≤ 10; omega, l1, l2, Nat.lt_of_le_of_lt s1 ht, Nat.lt_of_le_of_lt s2 hb⟩
  have nz : v.1.2 * w.1.2 ≠ 0 := Int.mul_ne_zero (by have := hv.pos; omega) (by have := hw.pos; omega)
  unfold joinR
  simp only [List.mem_cons, List.not_mem_nil, or_false] at ho
  rcases ho with q | q | q | q <;> subst q
  · rw [if_pos rfl]
    exact mk _ _ nz (by omega) (by omega)
  · rw [if_neg (by decide), if_pos rfl]
    exact mk _ _ nz (by omega) (by omega)
  · rw [if_neg (by decide), if_neg (by decide), if_pos rfl]
    exact mk _ _ nz (by omega) (by omega)
  · rw [if_neg (by decide), if_neg (by decide), if_neg (by decide)]
    exact mk _ _ (Int.mul_ne_zero (by have := hv.pos; omega) fun z => hz ⟨rfl, z⟩) (by omega) (by omega)
end DL

namespace DL
open PySem L2 TL
section
variable {X : Cx} {Wx : WX} {a b c e o : Expr} {es : List Expr} {da db dc de do' : DE} {dl : DA} {pos : Pos}
/-- a text times a number -/
def gRepS : G2 := fun a b _ k => match a, b with
  | .str x, .int n => PySem.MulOk x n ∧ k (.str (Txt.mul x n))
  | _, _ => False
theorem op_repS : OpR X (binaryOp .Mult) (fun x y H Q => ∃ (z : Str) (n : Int), x = .str z ∧ y = .int n ∧ PySem.MulOk z n ∧ Q (.str (Txt.mul z n)) H) := by
  intro pins s σ H x y v u Q I rx ry h
  obtain ⟨z, n, rfl, rfl, hok, q⟩ := h
  obtain ⟨t, rfl⟩ := rx
  obtain ⟨t2, rfl⟩ := ry
  exact PySem.SB.mul hok fun t' k => ⟨.str _, H, I.tok k, ⟨t', rfl⟩, q⟩
theorem oq_repS : OQ X (binaryOp .Mult) gRepS := ⟨_, op_repS, fun H L va vb a b k Q j ra rb h hk => by
  unfold gRepS at h
  split at h
  · cases ra
    cases rb
    exact ⟨_, _, rfl, rfl, h.1, hk _ _ H h.2 (Same.refl H) (.str _)⟩
  · exact h.elim⟩
end
theorem starts_pre (x y : Str) (hy : tl y ≠ []) : Txt.startswith x y = pre (tl y) (tl x) := by
  have h := at_iff (x := x) (y := y) hy 0
  rw [List.drop_zero] at h
  have e : Txt.startswith x y = true ↔ PySem.StrLaws.At x y x.length 0 := by
    unfold Txt.startswith
    rw [Bool.and_eq_true, decide_eq_true_eq]
    exact Iff.rfl
  cases h1 : Txt.startswith x y with
  | true => exact (h.mp (e.mp h1)).symm
  | false =>
    cases h2 : pre (tl y) (tl x) with
    | false => rfl
    | true => rw [e.mpr (h.mpr h2)] at h1; cases h1
end DL

namespace DL
open PySem PySem.Spec PyProof.Rows L2
/-! ### instances -/
theorem con_obj {L : Led} {K : PySem.W.Frag} {H : Hp} {v : V} {d : D} {C : Addr} {ns : List Str} {ds : List D} (j : JL K L H) (r : Rp L K H v d) (e : con L d = .obj C ns ds) : ∃ a dx vs, v = .ref a ∧ H a = some (.ins C dx (ns.zip vs)) ∧ ns.length = vs.length ∧ RpAll L K H vs ds := by
  cases d with
  | ptr a =>
    cases r
    have e : (L.lookup a).getD (.ptr a) = _ := e
    cases h : L.lookup a with
    | none => rw [h] at e; cases e
    | some c =>
      rw [h] at e
      have e2 : c = .obj C ns ds := e
      subst e2
      obtain ⟨dx, vs, h1, h2, h3⟩ := j.look h
      exact ⟨a, dx, vs, rfl, h1, h2, h3⟩
  | obj C' ns' ds' =>
    have e2 : D.obj C' ns' ds' = .obj C ns ds := e
    cases e2
    cases r with
    | obj n h e r => exact ⟨_, _, _, rfl, h, e, r⟩
  | _ => cases e
def putNs (f : Str) : List Str → List Str
  | [] => [f]
  | g :: r => if g = f then g :: r else g :: putNs f r
def putVs {α : Type} (f : Str) (v : α) : List Str → List α → List α
  | [], _ => [v]
  | g :: r, x :: xs => if g = f then v :: xs else x :: putVs f v r xs
  | _ :: _, [] => []
theorem put_zip (f : Str) (v : V) : ∀ (ns : List Str) (xs : List V), ns.length = xs.length → putF f v (ns.zip xs) = (putNs f ns).zip (putVs f v ns xs) ∧ (putNs f ns).length = (putVs f v ns xs).length
  | [], [], _ => ⟨rfl, rfl⟩
  | [], _ :: _, h => by cases h
  | _ :: _, [], h => by cases h
  | g :: r, x :: xs, h => by
    obtain ⟨h1, h2⟩ := put_zip f v r xs (by simpa using h)
    show (if g = f then (g, v) :: r.zip xs else (g, x) :: putF f v (r.zip xs)) = (if g = f then g :: r else g :: putNs f r).zip (if g = f then v :: xs else x :: putVs f v r xs) ∧ (if g = f then g :: r else g :: putNs f r).length = (if g = f then v :: xs else x :: putVs f v r xs).length
    by_cases e : g = f
    · rw [if_pos e, if_pos e, if_pos e]
      exact ⟨rfl, h⟩
    · rw [if_neg e, if_neg e, if_neg e, h1]
      exact ⟨rfl, by rw [List.length_cons, List.length_cons, h2]⟩
theorem put_rp {L : Led} {K : PySem.W.Frag} {H : Hp} {f : Str} {v : V} {d : D} (r : Rp L K H v d) : ∀ (ns : List Str) {xs : List V} {ds : List D}, RpAll L K H xs ds → RpAll L K H (putVs f v ns xs) (putVs f d ns ds)
  | [], _, _, _ => .cons r .nil
  | g :: ns, _, _, .nil => .nil
  | g :: ns, _, _, .cons (v := x) (d := y) h t => by
    unfold putVs
    by_cases e : g = f
    · rw [if_pos e, if_pos e]; exact .cons r t
    · rw [if_neg e, if_neg e]; exact .cons h (put_rp r ns t)
section
variable {X : Cx} {Wx : WX} {a b c e o : Expr} {es : List Expr} {da db dc de do' : DE} {dl : DA} {pos apos : Pos}
/-- e.f -/
def dFld (K : PySem.W.Frag) (f : Str) (da : DE) : DE := fun env L k x => da env L (fun a L1 => match con L1 a with
  | .obj C ns ds => (Cls K C ∧ NoAttr K C f) ∧ match (ns.zip ds).lookup f with
    | some d => k d L1
    | none => False
  | _ => False) x
theorem q_fld {K : PySem.W.Frag} {f : Str} (hK : X.K = K) (he : QE X Wx e da) (hb : attributeBase e f X.env (eval e X.env) = eval e X.env := by rfl) : QE X Wx (.Attribute e f pos) (dFld K f da) := by
  subst hK
  obtain ⟨ta, pa, sa⟩ := he.ex
  refine ⟨_, pe_fld pa hb, fun σ H env L k x Q st h hk hx => ?_⟩
  refine sa σ H env L _ x _ st h (fun a L1 va H1 h1 g1 j1 r1 => ?_) hx
  split at h1
  · rename_i C ns ds hc
    obtain ⟨q, dx, vs, rfl, hq, hl, rv⟩ := con_obj j1 r1 hc
    obtain ⟨⟨h2, h3⟩, h1⟩ := h1
    split at h1
    · rename_i d hd
      obtain ⟨v, e1, r⟩ := lookup_rp rv hd
      exact ⟨q, C, dx, _, v, rfl, hq, h2, h3, e1, hk d L1 v H1 h1 g1 j1 r⟩
    · exact h1.elim
  · exact h1.elim
/-- o.f = e, o of the ledger -/
def dFldS (K : PySem.W.Frag) (f : Str) (de do' : DE) : DS := fun D env L => de env L (fun v L1 => do' env L1 (fun o L2 => match o with
  | .ptr p => match L2.lookup p with
    | some (.obj C ns ds) => (Cls K C ∧ NoAttr K C f ∧ ns.length < 1000) ∧ D.nx env (setL L2 p (.obj C (putNs f ns) (putVs f v ns ds)))
    | _ => False
  | _ => False) D.ex) D.ex
theorem s_fld {K : PySem.W.Frag} {f : Str} {p' : Pos} (hK : X.K = K) (he : QE X Wx e de) (ho : QE X Wx o do') (hs : swapsWith e (some (.Attribute o f p')) pos.line X.env = pure false := by rfl) : QS X Wx (.Assign [.Attribute o f p'] e pos) (dFldS K f de do') := by
  subst hK
  obtain ⟨te, pe, se⟩ := he.ex
  obtain ⟨to, po, so⟩ := ho.ex
  refine ⟨_, ps_fld po pe hs, fun σ H env L D' D st h ok => ?_⟩
  refine se σ H env L _ _ _ st h (fun v L1 vv H1 h1 g1 j1 r1 => ?_) ok.ex
  refine so σ H1 env L1 _ _ _ (st.go g1 j1) h1 (fun o L2 vo H2 h2 g2 j2 r2 => ?_) (ok.ex.go g1)
  split at h2
  · rename_i p
    cases r2
    split at h2
    · rename_i C ns ds hl
      obtain ⟨dx, vs, e1, e2, rv⟩ := j2.look hl
      obtain ⟨⟨c1, c2, c3⟩, h2⟩ := h2
      have hp := inL_of_lookup hl
      obtain ⟨z1, z2⟩ := put_zip f vv ns vs e2
      refine ⟨p, C, dx, _, rfl, e1, c1, c2, by rw [List.length_zip]; omega, ?_⟩
      rw [z1]
      have g4 : Go L2 (setL L2 p (.obj C (putNs f ns) (putVs f v ns ds))) H2 (upd H2 p (.ins C dx ((putNs f ns).zip (putVs f vv ns vs)))) := go_set hp
      have j4 : JL X.K (setL L2 p (.obj C (putNs f ns) (putVs f v ns ds))) (upd H2 p (.ins C dx ((putNs f ns).zip (putVs f vv ns vs)))) := j2.put hp ⟨dx, _, upd_same, z2, put_rp ((r1.go g2).go g4) ns (rv.go g4)⟩
      exact ok.nx env _ σ _ h2 ((g1.trans g2).trans g4) (st.go ((g1.trans g2).trans g4) j4)
    · exact h2.elim
  · exact h2.elim
/-- o.f += e (ints), o of the ledger -/
def dFldAdd (K : PySem.W.Frag) (f : Str) (do' de : DE) : DS := fun D env L => do' env L (fun o L1 => match o with
  | .ptr p => match L1.lookup p with
    | some (.obj C ns ds) => (Cls K C ∧ NoAttr K C f) ∧ match (ns.zip ds).lookup f with
      | some (.int i) => de env L1 (fun v L2 => match v with
        | .int j => match L2.lookup p with
          | some (.obj C' ns' ds') => (C' = C ∧ ns'.length < 1000) ∧ D.nx env (setL L2 p (.obj C (putNs f ns') (putVs f (.int (i + j)) ns' ds')))
          | _ => False
        | _ => False) D.ex
      | _ => False
    | _ => False
  | _ => False) D.ex
theorem s_fldAdd {K : PySem.W.Frag} {f : Str} {p' : Pos} (hK : X.K = K) (ho : QE X Wx o do') (he : QE X Wx e de) : QS X Wx (.AugAssign (.Attribute o f p') .Add e pos) (dFldAdd K f do' de) := by
  subst hK
  obtain ⟨te, pe, se⟩ := he.ex
  obtain ⟨to, po, so⟩ := ho.ex
  refine ⟨_, ps_fldaug po pe (rd := _) iop_add, fun σ H env L D' D st h ok => ?_⟩
  refine so σ H env L _ _ _ st h (fun o L1 vo H1 h1 g1 j1 r1 => ?_) ok.ex
  split at h1
  · rename_i p
    cases r1
    split at h1
    · rename_i C ns ds hl
      obtain ⟨dx, vs, e1, e2, rv⟩ := j1.look hl
      obtain ⟨⟨c1, c2⟩, h1⟩ := h1
      split at h1
      · rename_i i hi
        obtain ⟨v, ev, r⟩ := lookup_rp rv hi
        cases r
        refine ⟨p, C, dx, _, _, rfl, e1, c1, c2, ev, ?_⟩
        refine se σ H1 env L1 _ _ _ (st.go g1 j1) h1 (fun v L2 vv H2 h2 g2 j2 r2 => ?_) (ok.ex.go g1)
        split at h2
        · rename_i j
          cases r2
          split at h2
          · rename_i C' ns' ds' hl'
            obtain ⟨⟨rfl, c3⟩, h2⟩ := h2
            obtain ⟨dx', vs', e1', e2', rv'⟩ := j2.look hl'
            have hp := inL_of_lookup hl'
            obtain ⟨z1, z2⟩ := put_zip f (.int (i + j)) ns' vs' e2'
            refine ⟨i, j, rfl, rfl, dx', _, e1', by rw [List.length_zip]; omega, ?_⟩
            rw [z1]
            have g4 : Go L2 (setL L2 p (.obj C' (putNs f ns') (putVs f (.int (i + j)) ns' ds'))) H2 (upd H2 p (.ins C' dx' ((putNs f ns').zip (putVs f (.int (i + j)) ns' vs')))) := go_set hp
            have j4 : JL X.K (setL L2 p (.obj C' (putNs f ns') (putVs f (.int (i + j)) ns' ds'))) (upd H2 p (.ins C' dx' ((putNs f ns').zip (putVs f (.int (i + j)) ns' vs')))) := j2.put hp ⟨dx', _, upd_same, z2, put_rp (.int _) ns' (rv'.go g4)⟩
            exact ok.nx env _ σ _ h2 ((g1.trans g2).trans g4) (st.go ((g1.trans g2).trans g4) j4)
          · exact h2.elim
        · exact h2.elim
      · exact h1.elim
    · exact h1.elim
  · exact h1.elim
/-! ### methods -/
section
variable {CX : CXT} {k : Nat} {C f : Addr} {m : Str} {fd : FuncData} {ps : List Str} {sp : Sp} {E : L2.St → XK} {ds : List Value} {dvs : List V} {ta : TE} {t : TA} {pl : Sem Bool}
def tMethE (C : Addr) (m : Str) (sp : Sp) (dvs : List V) (E : L2.St → XK) (ta : TE) (t : TA) : TE := fun σ H Q => ta σ H fun x H1 => ∃ a dx fs, x = .ref a ∧ H1 a = some (.ins C dx fs) ∧ fs.lookup m = none ∧ t σ H1 fun vs H2 => sp (x :: (vs ++ dvs)) H2 Q (E σ)
theorem pe_methE (hO : PE X o ta) (hC : Cls X.K C) (hM : Meth X.K C m f) (F : FnOk X.prog X.w X.K X.mg X.base CX k f fd ps sp) (hr : Room k X.A) (hb : Binds X.K fd ps ds) (hd : Vals dvs ds) (hx : ∀ σ, PassesAt CX X σ (E σ)) (hA : PA X (e :: es) t)
    (h1 : starEach (e :: es) X.env = (false, eval e X.env) :: starEach es X.env := by rfl) (h2 : (backTo pos (starEach es X.env)).any (·.1) = false := by rfl)
    (h3 : eval (.Call (.Attribute o m apos) (e :: es) [] pos) X.env = (do let ov ← eval o X.env; standAt apos.atName; let (f, first) ← holding [ov] (getMethod ov m pl); callWith pos f first (backTo pos (starEach (e :: es) X.env)) (backToKw pos (keywordEach [] X.env))) := by rfl) :
    PE X (.Call (.Attribute o m apos) (e :: es) [] pos) (tMethE C m sp dvs E ta t) := ⟨fun pins s σ H Q I h => by
  refine PySem.W.methodCall_KW (pl := pl) (thn (hO.run pins s σ H _ I h) fun u s1 ⟨_, H1, I1, rx, a, _, _, ez, ea, l, q⟩ => ?_) h3
  subst ez
  cases rx
  refine getmeth_ok I1 ea hC hM l (PySem.W.callWith_K (first := [.ref a]) (h₀ := X.base) I.ok.mod.kin hM.kp (thn (hA.run pos pins s1 σ H1 _ I1 q) fun us _ ⟨vs, _, I2, r, q2⟩ => ⟨I2.kIn, ?_⟩) h1 h2)
  exact run_fnSD (us := .ref a :: us) (vs := .ref a :: vs) F hr hb hd (hx σ) I2 (.cons rfl r) q2⟩
theorem pe_meth0E (hO : PE X o ta) (hC : Cls X.K C) (hM : Meth X.K C m f) (F : FnOk X.prog X.w X.K X.mg X.base CX k f fd ps sp) (hr : Room k X.A) (hb : Binds X.K fd ps ds) (hd : Vals dvs ds) (hx : ∀ σ, PassesAt CX X σ (E σ))
    (h3 : eval (.Call (.Attribute o m apos) [] [] pos) X.env = (do let ov ← eval o X.env; standAt apos.atName; let (f, first) ← holding [ov] (getMethod ov m pl); callWith pos f first (backTo pos (starEach [] X.env)) (backToKw pos (keywordEach [] X.env))) := by rfl) :
    PE X (.Call (.Attribute o m apos) [] [] pos) (tMethE C m sp dvs E ta tNil) := ⟨fun pins s σ H Q I h => by
  refine PySem.W.methodCall_KW (pl := pl) (thn (hO.run pins s σ H _ I h) fun u s1 ⟨_, H1, I1, rx, a, _, _, ez, ea, l, q⟩ => ?_) h3
  subst ez
  cases rx
  exact getmeth_ok I1 ea hC hM l (PySem.W.callWith_K0 (first := [.ref a]) I1.kIn hM.kp (run_fnSD (us := [.ref a]) (vs := [.ref a]) F hr hb hd (hx σ) I1 (.cons rfl .nil) q))⟩
end
/-- a method by its class and name -/
structure MCal (P : Program) (w : World) (K : PySem.W.Frag) (mg : Str → Option Value) (base : Heap) (n : Nat) (C : Addr) (m : Str) (ps : List Str) (dd : List D) (g : DSp) : Prop where
  ex : ∃ f fd us dvs, FnOk P w K mg base (L2.CX P w) n f fd ps (spD K g) ∧ Cls K C ∧ Meth K C m f ∧ Binds K fd ps us ∧ Vals dvs us ∧ ∀ L H, RpAll L K H dvs dd
def dMeth (C : Addr) (m : Str) (g : DSp) (dd : List D) (da : DE) (dl : DA) : DE := fun env L k x => da env L (fun a L1 => match con L1 a with
  | .obj C' ns vs => (C' = C ∧ (ns.zip vs).lookup m = none) ∧ dl env L1 (fun ds L2 => g (a :: (ds ++ dd)) L2 k fun n L' => x n env L') x
  | _ => False) x
theorem lookup_none {f : Str} : ∀ {ns : List Str} {xs : List V} {ds : List D}, xs.length = ds.length → (ns.zip ds).lookup f = none → (ns.zip xs).lookup f = none
  | [], _, _, _, _ => rfl
  | _ :: _, [], [], _, _ => rfl
  | _ :: _, [], _ :: _, h, _ => by cases h
  | _ :: _, _ :: _, [], h, _ => by cases h
  | n :: ns, x :: xs, d :: ds, h, e => by
    rw [List.zip_cons_cons, List.lookup_cons] at e ⊢
    cases hb : f == n with
    | true => rw [hb] at e; cases e
    | false => rw [hb] at e; exact lookup_none (by simpa using h) e
theorem q_meth {C : Addr} {m : Str} {n k : Nat} {ps : List Str} {g : DSp} {dd : List D} {pl : Sem Bool} (F : MCal X.prog X.w X.K X.mg X.base n C m ps dd g) (hn : n ≤ k) (hr : Room k X.A) (tk : Takes X Wx) (ho : QE X Wx o do') (ha : QA X Wx (e :: es) dl)
    (h1 : starEach (e :: es) X.env = (false, eval e X.env) :: starEach es X.env := by rfl) (h2 : (backTo pos (starEach es X.env)).any (·.1) = false := by rfl)
    (h3 : eval (.Call (.Attribute o m apos) (e :: es) [] pos) X.env = (do let ov ← eval o X.env; standAt apos.atName; let (f, first) ← holding [ov] (getMethod ov m pl); callWith pos f first (backTo pos (starEach (e :: es) X.env)) (backToKw pos (keywordEach [] X.env))) := by rfl) :
    QE X Wx (.Call (.Attribute o m apos) (e :: es) [] pos) (dMeth C m g dd do' dl) := by
  obtain ⟨f, fd, us, dvs, F, hC, hM, hb, hd, hdd⟩ := F.ex
  obtain ⟨to, po, so⟩ := ho.ex
  obtain ⟨ta, pa, sa⟩ := ha.ex
  refine ⟨_, pe_methE po hC hM F (hr.mono hn) hb hd (fun σ => passAt tk σ) pa h1 h2 h3, fun σ H env L k x Q st h hk hx => ?_⟩
  refine so σ H env L _ x _ st h (fun a L1 va H1 h1 g1 j1 r1 => ?_) hx
  split at h1
  · rename_i C' ns ds hc
    obtain ⟨⟨rfl, h2⟩, h1⟩ := h1
    obtain ⟨q, dx, vs, rfl, hq, hl, rv⟩ := con_obj j1 r1 hc
    refine ⟨q, dx, _, rfl, hq, lookup_none rv.length h2, ?_⟩
    refine sa σ H1 env L1 _ x _ (st.go g1 j1) h1 (fun ds L2 vs H2 h2 g2 j2 r2 => ?_) (hx.go g1)
    exact ⟨a :: (ds ++ dd), L2, k, fun n L' => x n env L', j2, .cons (r1.go g2) (r2.append (hdd L2 H2)), h2, (hk.go g1).go g2, fun n L' a H' q g' j' r => hx n env L' a H' σ q ((g1.trans g2).trans g') (st.go ((g1.trans g2).trans g') j') r⟩
  · exact h1.elim
def dMeth0 (C : Addr) (m : Str) (g : DSp) (dd : List D) (da : DE) : DE := fun env L k x => da env L (fun a L1 => match con L1 a with
  | .obj C' ns vs => (C' = C ∧ (ns.zip vs).lookup m = none) ∧ g (a :: dd) L1 k fun n L' => x n env L'
  | _ => False) x
theorem q_meth0 {C : Addr} {m : Str} {n k : Nat} {ps : List Str} {g : DSp} {dd : List D} {pl : Sem Bool} (F : MCal X.prog X.w X.K X.mg X.base n C m ps dd g) (hn : n ≤ k) (hr : Room k X.A) (tk : Takes X Wx) (ho : QE X Wx o do')
    (h3 : eval (.Call (.Attribute o m apos) [] [] pos) X.env = (do let ov ← eval o X.env; standAt apos.atName; let (f, first) ← holding [ov] (getMethod ov m pl); callWith pos f first (backTo pos (starEach [] X.env)) (backToKw pos (keywordEach [] X.env))) := by rfl) :
    QE X Wx (.Call (.Attribute o m apos) [] [] pos) (dMeth0 C m g dd do') := by
  obtain ⟨f, fd, us, dvs, F, hC, hM, hb, hd, hdd⟩ := F.ex
  obtain ⟨to, po, so⟩ := ho.ex
  refine ⟨_, pe_meth0E po hC hM F (hr.mono hn) hb hd (fun σ => passAt tk σ) h3, fun σ H env L k x Q st h hk hx => ?_⟩
  refine so σ H env L _ x _ st h (fun a L1 va H1 h1 g1 j1 r1 => ?_) hx
  split at h1
  · rename_i C' ns ds hc
    obtain ⟨⟨rfl, h2⟩, h1⟩ := h1
    obtain ⟨q, dx, vs, rfl, hq, hl, rv⟩ := con_obj j1 r1 hc
    refine ⟨q, dx, _, rfl, hq, lookup_none rv.length h2, ?_⟩
    exact ⟨a :: dd, L1, k, fun n L' => x n env L', j1, .cons r1 (hdd L1 H1), h1, hk.go g1, fun n L' a H' q g' j' r => hx n env L' a H' σ q (g1.trans g') (st.go (g1.trans g') j') r⟩
  · exact h1.elim
end
end DL

namespace DL
open PySem PySem.Spec PyProof.Rows L2
section
variable {X : Cx} {Wx : WX} {a b c e o : Expr} {es : List Expr} {da db dc de do' : DE} {dl : DA} {pos apos : Pos}
/-! ### an instance made: C(..) -/
section
variable {CX : CXT} {k : Nat} {C f : Addr} {x : Str} {p : Pos} {fd : FuncData} {ps : List Str} {sp : Sp} {E : L2.St → XK} {ds : List Value} {dvs : List V} {t : TA}
def tMakeE (C : Addr) (sp : Sp) (dvs : List V) (E : L2.St → XK) (t : TA) : TE := fun σ H Q => t σ H fun vs H1 => ∀ x dx, H1 x = none → H1 dx = none → dx ≠ x → sp (.ref x :: (vs ++ dvs)) (upd (upd H1 dx (.own x)) x (.ins C dx [])) (fun v H2 => v = .non ∧ Q (.ref x) H2) (E σ)
theorem run_makeE {pins : List (Addr × Obj)} {σ : L2.St} {H : Hp} {s : Shared} {Q : VK} {us : List Value} {vs : List V} (M : Mk X.K C f) (F : FnOk X.prog X.w X.K X.mg X.base CX k f fd ps sp) (hr : Room (k + 1) X.A) (hb : Binds X.K fd ps ds) (hd : Vals dvs ds) (hx : PassesAt CX X σ (E σ)) (I : Inv X pins σ H s) (r : Vals vs us)
    (h : ∀ x dx, H x = none → H dx = none → dx ≠ x → sp (.ref x :: (vs ++ dvs)) (upd (upd H dx (.own x)) x (.ins C dx [])) (fun v H2 => v = .non ∧ Q (.ref x) H2) (E σ)) : wpAny (model X.prog X.w) X.A (call (.ref C) us) (EP X pins σ Q) X.xe s := by
  have q0 := h (s.heap.objs.size + 1) s.heap.objs.size (I.hok.fresh (Nat.le_succ _)) (I.hok.fresh (Nat.le_refl _)) (Nat.ne_of_lt (Nat.lt_succ_self _))
  have I2 := Inv.made (C := C) I
  have rr : Vals (V.ref (s.heap.objs.size + 1) :: (vs ++ dvs)) (.ref (s.heap.objs.size + 1) :: (us ++ ds)) := .cons rfl (r.append hd)
  have ll : (Value.ref (s.heap.objs.size + 1) :: us ++ ds).length = ps.length := rr.length.symm.trans (F.len _ _ _ _ q0)
  have run := F.run _ X.stack _ _ ⟨.ref (s.heap.objs.size + 1) :: us, []⟩ (.ref (s.heap.objs.size + 1) :: (us ++ ds)) _ _ (E σ) (hr.make C us []) (I2.env0.make C us []) (hb _ (.ref (s.heap.objs.size + 1) :: us) I2.kIn ll) rr q0
  refine wpAny_call (make_map (f := f) I.kIn M.makes M.init (beq_iff_eq.mp M.fn) (codeAny_mono run fun w s' hw => ?_))
  cases w with
  | error er => exact hx pins _ _ er s' I2 hw
  | ok fl =>
  cases fl with
  | brk => exact hw.elim
  | cont => exact hw.elim
  | next => exact hw.elim
  | ret u =>
  obtain ⟨_, H3, I3, rv, ev, q3⟩ := I2.after hw
  subst ev
  exact ⟨rv, ⟨.ref (s.heap.objs.size + 1), H3, I3, rfl, q3⟩⟩
theorem pe_makeE (M : Mk X.K C f) (F : FnOk X.prog X.w X.K X.mg X.base CX k f fd ps sp) (hr : Room (k + 1) X.A) (hg : Gl X x) (hm : X.mg x = some (.ref C)) (hb : Binds X.K fd ps ds) (hd : Vals dvs ds) (hx : ∀ σ, PassesAt CX X σ (E σ)) (hA : PA X (e :: es) t)
    (h0 : (x == ("__debug__" : Str)) = false := by decide) (h1 : starEach (e :: es) X.env = (false, eval e X.env) :: starEach es X.env := by rfl) (h2 : (backTo pos (starEach es X.env)).any (·.1) = false := by rfl) : PE X (.Call (.Name x p) (e :: es) [] pos) (tMakeE C sp dvs E t) :=
  ⟨fun pins s σ H Q I h => wpAny_Call_Name_kw (ld_glob I hg hm (PySem.W.callWith_K (h₀ := X.base) I.ok.mod.kin M.kp (thn (hA.run pos pins s σ H _ I h) fun us _ ⟨vs, _, I1, r, q⟩ => ⟨I1.kIn, run_makeE M F hr hb hd (hx σ) I1 r q⟩) h1 h2) h0)⟩
theorem pe_make0E (M : Mk X.K C f) (F : FnOk X.prog X.w X.K X.mg X.base CX k f fd ps sp) (hr : Room (k + 1) X.A) (hg : Gl X x) (hm : X.mg x = some (.ref C)) (hb : Binds X.K fd ps ds) (hd : Vals dvs ds) (hx : ∀ σ, PassesAt CX X σ (E σ))
    (h0 : (x == ("__debug__" : Str)) = false := by decide) : PE X (.Call (.Name x p) [] [] pos) (tMakeE C sp dvs E tNil) :=
  ⟨fun pins s σ H Q I h => wpAny_Call_Name_kw (ld_glob I hg hm (PySem.W.callWith_K0 I.kIn M.kp (run_makeE (us := []) M F hr hb hd (hx σ) I .nil h)) h0)⟩
end
/-- a class by name: what its __init__ promises of the new thing of the ledger -/
structure KCal (P : Program) (w : World) (K : PySem.W.Frag) (mg : Str → Option Value) (base : Heap) (n : Nat) (x : Str) (C : Addr) (ps : List Str) (dd : List D) (g : DSp) : Prop where
  ex : ∃ f fd us dvs, FnOk P w K mg base (L2.CX P w) n f fd ps (spD K g) ∧ Mk K C f ∧ mg x = some (.ref C) ∧ Binds K fd ps us ∧ Vals dvs us ∧ ∀ L H, RpAll L K H dvs dd
/-- .. it stays in the ledger -/
def dMakeM (C : Addr) (g : DSp) (dd : List D) (dl : DA) : DE := fun env L k x => dl env L (fun ds L1 => ∀ q, ¬ inL L1 q → g (.ptr q :: (ds ++ dd)) ((q, .obj C [] []) :: L1) (fun v L2 => v = .non ∧ k (.ptr q) L2) fun n L' => x n env L') x
/-- .. it is from then on a plain datum -/
def dMakeD (C : Addr) (g : DSp) (dd : List D) (dl : DA) : DE := fun env L k x => dl env L (fun ds L1 => ∀ q, ¬ inL L1 q → g (.ptr q :: (ds ++ dd)) ((q, .obj C [] []) :: L1) (fun v L2 => v = .non ∧ match L2.lookup q with
  | some (.obj C' ns vs) => k (.obj C' ns vs) (remL L2 q)
  | _ => False) fun n L' => x n env (remL L' q)) x
theorem made_jl {K : PySem.W.Frag} {L : Led} {H : Hp} {q dx C : Addr} (j : JL K L H) (hq : H q = none) (hd : H dx = none) (hne : dx ≠ q) : ¬ inL L q ∧ JL K ((q, .obj C [] []) :: L) (upd (upd H dx (.own q)) q (.ins C dx [])) ∧ Go L ((q, .obj C [] []) :: L) H (upd (upd H dx (.own q)) q (.ins C dx [])) := by
  have s := same_new hd (.own q)
  have hq' : (upd H dx (.own q)) q = none := by rw [upd_ne (Ne.symm hne)]; exact hq
  obtain ⟨j2, g2⟩ := (j.same s).push (d := .obj C [] []) hq' (o := .ins C dx []) ⟨dx, [], upd_same, rfl, .nil⟩
  exact ⟨j.notIn hq, j2, (Go.same s).trans g2⟩
theorem q_makeM {x : Str} {p : Pos} {n k : Nat} {C : Addr} {ps : List Str} {g : DSp} {dd : List D} (F : KCal X.prog X.w X.K X.mg X.base n x C ps dd g) (hn : n + 1 ≤ k) (hr : Room k X.A) (tk : Takes X Wx) (hg : Gl X x) (ha : QA X Wx (e :: es) dl)
    (h0 : (x == ("__debug__" : Str)) = false := by decide) (h1 : starEach (e :: es) X.env = (false, eval e X.env) :: starEach es X.env := by rfl) (h2 : (backTo pos (starEach es X.env)).any (·.1) = false := by rfl) : QE X Wx (.Call (.Name x p) (e :: es) [] pos) (dMakeM C g dd dl) := by
  obtain ⟨f, fd, us, dvs, F, hM, hm, hb, hd, hdd⟩ := F.ex
  obtain ⟨ta, pa, sa⟩ := ha.ex
  refine ⟨_, pe_makeE hM F (hr.mono hn) hg hm hb hd (fun σ => passAt tk σ) pa h0 h1 h2, fun σ H env L k x Q st h hk hx => ?_⟩
  refine sa σ H env L _ x _ st h (fun ds L1 vs H1 h1 g1 j1 r1 q dx hq hdx hne => ?_) hx
  obtain ⟨nq, j2, g2⟩ := made_jl (C := C) j1 hq hdx hne
  exact ⟨_, _, _, _, j2, .cons (.ptr q) ((r1.go g2).append (hdd _ _)), h1 q nq, fun d L' v H' ⟨ed, hkq⟩ g' j' r' => by subst ed; cases r'; exact ⟨rfl, hk _ L' _ H' hkq ((g1.trans g2).trans g') j' (.ptr q)⟩, fun n L' a H' hxq g' j' r => hx n env L' a H' σ hxq ((g1.trans g2).trans g') (st.go ((g1.trans g2).trans g') j') r⟩
theorem exR_go {L L' : Led} {K : PySem.W.Frag} {H H' : Hp} {a : Addr} {n : Exn} (g : Go L L' H H') (h : ExR L K H a n) : ExR L' K H' a n := by
  obtain ⟨na, vs, e1, e2, e3⟩ := h
  exact ⟨(g _ _ na e1).1, vs, (g _ _ na e1).2, e2, e3.go g⟩
theorem q_makeD {x : Str} {p : Pos} {n k : Nat} {C : Addr} {ps : List Str} {g : DSp} {dd : List D} (F : KCal X.prog X.w X.K X.mg X.base n x C ps dd g) (hn : n + 1 ≤ k) (hr : Room k X.A) (tk : Takes X Wx) (hg : Gl X x) (ha : QA X Wx (e :: es) dl)
    (h0 : (x == ("__debug__" : Str)) = false := by decide) (h1 : starEach (e :: es) X.env = (false, eval e X.env) :: starEach es X.env := by rfl) (h2 : (backTo pos (starEach es X.env)).any (·.1) = false := by rfl) : QE X Wx (.Call (.Name x p) (e :: es) [] pos) (dMakeD C g dd dl) := by
  obtain ⟨f, fd, us, dvs, F, hM, hm, hb, hd, hdd⟩ := F.ex
  obtain ⟨ta, pa, sa⟩ := ha.ex
  refine ⟨_, pe_makeE hM F (hr.mono hn) hg hm hb hd (fun σ => passAt tk σ) pa h0 h1 h2, fun σ H env L k x Q st h hk hx => ?_⟩
  refine sa σ H env L _ x _ st h (fun ds L1 vs H1 h1 g1 j1 r1 q dx hq hdx hne => ?_) hx
  obtain ⟨nq, j2, g2⟩ := made_jl (C := C) j1 hq hdx hne
  refine ⟨_, _, _, _, j2, .cons (.ptr q) ((r1.go g2).append (hdd _ _)), h1 q nq, fun d L' v H' ⟨ed, hkq⟩ g' j' r' => ?_, fun n L' a H' hxq g' j' r => ?_⟩
  · subst ed
    cases r'
    refine ⟨rfl, ?_⟩
    split at hkq
    · rename_i C' ns vs' hl
      obtain ⟨dx', ws, e1, e2, rv⟩ := j'.look hl
      exact hk _ _ _ H' hkq (((g1.trans g2).trans g').trans go_rem) j'.rem (.obj (fun m => (inL_remL.mp m).2 rfl) e1 e2 (rv.go go_rem))
    · exact hkq.elim
  · exact hx n env _ a H' σ hxq (((g1.trans g2).trans g').trans go_rem) (st.go (((g1.trans g2).trans g').trans go_rem) j'.rem) (exR_go go_rem r)
end
end DL

namespace DL
open PySem PySem.Spec PyProof.Rows PySem.W L2
/-- a class without an __init__ of its own -/
structure Bare (K : PySem.W.Frag) (C : Addr) : Prop where
  makes : PySem.W.makesIn K C = true
  ini : PySem.W.findIn K (.ref C) "__init__" = some (some (.builtin "object.__init__"))
  top : PySem.W.mroIn K C (.type "object") = some true
  kp : PySem.W.keepIn K (.ref C) = true
section
variable {X : Cx} {Wx : WX} {pos : Pos}
theorem pe_bare {C : Addr} {x : Str} {p : Pos} (B : Bare X.K C) (hg : Gl X x) (hm : X.mg x = some (.ref C)) (h0 : (x == ("__debug__" : Str)) = false := by decide) :
    PE X (.Call (.Name x p) [] [] pos) (fun σ H Q => ∀ x dx, H x = none → H dx = none → dx ≠ x → Q (.ref x) (upd (upd H dx (.own x)) x (.ins C dx []))) := by
  refine ⟨fun pins s σ H Q I h => ?_⟩
  refine wpAny_Call_Name_kw (ld_glob I hg hm (PySem.W.callWith_K0 I.kIn B.kp ?_) h0)
  have q0 := h (s.heap.objs.size + 1) s.heap.objs.size (I.hok.fresh (Nat.le_succ _)) (I.hok.fresh (Nat.le_refl _)) (Nat.ne_of_lt (Nat.lt_succ_self _))
  have I2 := Inv.made (C := C) I
  refine wpAny_call (make_map0 I.kIn B.makes B.ini (fun self => Looks.of_pure (oi_bind _)) ?_)
  have kin := I2.kIn
  have t1 : Looks (model X.prog X.w) ((s.heap.push PySem.W.emptyDict).push (PySem.W.instObj C s.heap.objs.size)) (typeOf (.ref (s.heap.objs.size + 1))) (.ref C) := NwA.type_at (o := PySem.W.instObj C s.heap.objs.size) (by
    have e : (s.heap.push PySem.W.emptyDict).objs.size = s.heap.objs.size + 1 := Array.size_push _
    rw [← e]
    exact Heap.get?_push_size _ rfl) rfl
  have t2 : Looks (model X.prog X.w) ((s.heap.push PySem.W.emptyDict).push (PySem.W.instObj C s.heap.objs.size)) (isInstance (.ref (s.heap.objs.size + 1)) (.type "object")) true := t1.andThen (looks_mroIn kin B.top)
  refine codeAny_call_builtin oi_plain entry_oi (check_slot oi_kind oi_split t2 (NwA.oi_args_any _ _ _) ?_)
  rw [oi_run]
  exact wpAny_pure (And.intro rfl ⟨.ref (s.heap.objs.size + 1), _, I2, rfl, q0⟩)
def dBare (C : Addr) : DE := fun _ L k _ => k (.obj C [] []) L
theorem q_bare {C : Addr} {x : Str} {p : Pos} (B : Bare X.K C) (hg : Gl X x) (hm : X.mg x = some (.ref C)) (h0 : (x == ("__debug__" : Str)) = false := by decide) : QE X Wx (.Call (.Name x p) [] [] pos) (dBare C) := by
  refine ⟨_, pe_bare B hg hm h0, fun σ H env L k x Q st h hk hx q dx hq hd hne => ?_⟩
  have s1 := same_new hd (.own q)
  have hq' : (upd H dx (.own q)) q = none := by rw [upd_ne (Ne.symm hne)]; exact hq
  have s2 := same_new hq' (.ins C dx [])
  have s : Same H (upd (upd H dx (.own q)) q (.ins C dx [])) := fun b u e => s2 b u (s1 b u e)
  exact hk _ L _ _ h (Go.same s) (st.2.same s) (.obj (dx := dx) (xs := []) (st.2.notIn hq) upd_same rfl .nil)
end
end DL

namespace DL
open PySem L2
/-! ### dicts with keys that are ints and texts -/
def keyD : D → Option Key
  | .int i => some (.inl i)
  | .str z => some (.inr z)
  | _ => none
theorem key_of {L : Led} {K : PySem.W.Frag} {H : Hp} {v : V} {d : D} {k : Key} (r : Rp L K H v d) (h : keyD d = some k) : v = kV k := by
  cases d <;> first | (cases h; done) | skip
  · cases h; cases r; rfl
  · cases h; cases r; rfl
def lookK {α : Type} : List Key → List α → Key → Option α
  | a :: ks, d :: ds, k => if a = k then some d else lookK ks ds k
  | _, _, _ => none
def setK {α : Type} (k : Key) (v : α) : List Key → List α → List α
  | a :: ks, d :: ds => (if a = k then v else d) :: setK k v ks ds
  | _, _ => []
def putKk (k : Key) (ks : List Key) : List Key := if ks.any (fun a => decide (a = k)) = true then ks else ks ++ [k]
def putKv {α : Type} (k : Key) (v : α) (ks : List Key) (vs : List α) : List α := if ks.any (fun a => decide (a = k)) = true then setK k v ks vs else vs ++ [v]
theorem look_val : ∀ (ks : List Key) (vs : List V) (k : Key), valV (ks.zip vs) k = lookK ks vs k
  | [], _, _ => rfl
  | _ :: _, [], _ => rfl
  | a :: ks, v :: vs, k => by
    show ((((a, v) :: ks.zip vs).find? fun kv => decide (kv.1 = k)).map (·.2)) = if a = k then some v else lookK ks vs k
    rw [List.find?_cons]
    by_cases e : a = k
    · rw [decide_eq_true e, if_pos e]; rfl
    · rw [decide_eq_false e, if_neg e]; exact look_val ks vs k
theorem look_rp {L : Led} {K : PySem.W.Frag} {H : Hp} (k : Key) : ∀ (ks : List Key) {vs : List V} {ds : List D}, RpAll L K H vs ds → match lookK ks ds k with
    | some d => ∃ v, lookK ks vs k = some v ∧ Rp L K H v d
    | none => lookK ks vs k = none
  | [], _, _, _ => rfl
  | a :: ks, _, _, .nil => rfl
  | a :: ks, _, _, .cons (v := v) (vs := vs) (d := d) (ds := ds) h r => by
    have ih := look_rp k ks r
    show match (if a = k then some d else lookK ks ds k) with | some d => ∃ v', (if a = k then some v else lookK ks vs k) = some v' ∧ Rp L K H v' d | none => (if a = k then some v else lookK ks vs k) = none
    by_cases e : a = k
    · rw [if_pos e, if_pos e]; exact ⟨v, rfl, h⟩
    · rw [if_neg e, if_neg e]; exact ih
theorem setK_len {α : Type} (k : Key) (v : α) : ∀ (ks : List Key) (vs : List α), ks.length = vs.length → (setK k v ks vs).length = vs.length
  | [], [], _ => rfl
  | [], _ :: _, h => by cases h
  | _ :: _, [], h => by cases h
  | a :: ks, x :: vs, h => by
    show (setK k v ks vs).length + 1 = vs.length + 1
    rw [setK_len k v ks vs (by simpa using h)]
theorem set_zip (k : Key) (v : V) : ∀ (ks : List Key) (vs : List V), (ks.zip vs).map (fun kv => if kv.1 = k then (kv.1, v) else kv) = ks.zip (setK k v ks vs)
  | [], _ => rfl
  | _ :: _, [] => rfl
  | a :: ks, x :: vs => by
    show (if a = k then (a, v) else (a, x)) :: (ks.zip vs).map _ = (a, if a = k then v else x) :: ks.zip (setK k v ks vs)
    rw [set_zip k v ks vs]
    by_cases e : a = k
    · rw [if_pos e, if_pos e]
    · rw [if_neg e, if_neg e]
theorem any_zip (k : Key) : ∀ (ks : List Key) (vs : List V), ks.length = vs.length → ((ks.zip vs).any fun kv => decide (kv.1 = k)) = ks.any fun a => decide (a = k)
  | [], _, _ => rfl
  | _ :: _, [], h => by cases h
  | a :: ks, x :: vs, h => by
    show (decide (a = k) || (ks.zip vs).any _) = (decide (a = k) || ks.any _)
    rw [any_zip k ks vs (by simpa using h)]
theorem putK_zip (k : Key) (v : V) (ks : List Key) (vs : List V) (h : ks.length = vs.length) : putK (ks.zip vs) k v = (putKk k ks).zip (putKv k v ks vs) ∧ (putKk k ks).length = (putKv k v ks vs).length := by
  unfold putK putKk putKv
  rw [any_zip k ks vs h]
  by_cases e : (ks.any fun a => decide (a = k)) = true
  · rw [if_pos e, if_pos e, if_pos e]
    exact ⟨set_zip k v ks vs, by rw [setK_len k v ks vs h]; exact h⟩
  · rw [if_neg e, if_neg e, if_neg e]
    refine ⟨?_, by rw [List.length_append, List.length_append, h]; rfl⟩
    rw [List.zip_append h]
    rfl
theorem setK_rp {L : Led} {K : PySem.W.Frag} {H : Hp} {v : V} {d : D} (r : Rp L K H v d) (k : Key) : ∀ (ks : List Key) {vs : List V} {ds : List D}, RpAll L K H vs ds → RpAll L K H (setK k v ks vs) (setK k d ks ds)
  | [], _, _, _ => .nil
  | _ :: _, _, _, .nil => .nil
  | a :: ks, _, _, .cons h t => by
    unfold setK
    by_cases e : a = k
    · rw [if_pos e, if_pos e]; exact .cons r (setK_rp r k ks t)
    · rw [if_neg e, if_neg e]; exact .cons h (setK_rp r k ks t)
theorem putKv_rp {L : Led} {K : PySem.W.Frag} {H : Hp} {v : V} {d : D} (r : Rp L K H v d) (k : Key) (ks : List Key) {vs : List V} {ds : List D} (h : RpAll L K H vs ds) : RpAll L K H (putKv k v ks vs) (putKv k d ks ds) := by
  unfold putKv
  split
  · exact setK_rp r k ks h
  · exact h.append (.cons r .nil)
theorem con_dk {L : Led} {K : PySem.W.Frag} {H : Hp} {v : V} {d : D} {ks : List Key} {ds : List D} (j : JL K L H) (r : Rp L K H v d) (e : con L d = .dk ks ds) : ∃ a vs, v = .ref a ∧ Rd H a (.dK (ks.zip vs)) ∧ ks.length = vs.length ∧ RpAll L K H vs ds := by
  cases d with
  | ptr a =>
    cases r
    have e : (L.lookup a).getD (.ptr a) = _ := e
    cases h : L.lookup a with
    | none => rw [h] at e; cases e
    | some c =>
      rw [h] at e
      have e2 : c = .dk ks ds := e
      subst e2
      obtain ⟨vs, h1, h2, h3⟩ := j.look h
      exact ⟨a, vs, rfl, .inl h1, h2, h3⟩
  | dk ks' ds' =>
    have e2 : D.dk ks' ds' = .dk ks ds := e
    cases e2
    cases r with
    | dk n h e r => exact ⟨_, _, rfl, h, e, r⟩
  | _ => cases e
section
variable {X : Cx} {Wx : WX} {a b c e o : Expr} {es : List Expr} {da db dc de do' : DE} {dl : DA} {pos apos : Pos}
def dDNewM : DE := fun _ L k _ => ∀ p, ¬ inL L p → k (.ptr p) ((p, .dk [] []) :: L)
def dDNewD : DE := fun _ L k _ => k (.dk [] []) L
theorem q_dnewM : QE X Wx (.Dict [] [] pos) dDNewM := ⟨_, pe_dnewK, fun σ H env L k x Q st h hk hx p hp => by
  obtain ⟨j2, g2⟩ := st.2.push (d := .dk [] []) hp (o := .dK []) ⟨[], upd_same, rfl, .nil⟩
  exact hk _ _ _ _ (h p (st.2.notIn hp)) g2 j2 (.ptr p)⟩
theorem q_dnewD : QE X Wx (.Dict [] [] pos) dDNewD := ⟨_, pe_dnewK, fun σ H env L k x Q st h hk hx p hp => by
  have s := same_new hp (.dK [])
  exact hk _ L _ _ h (Go.same s) (st.2.same s) (.dk (xs := []) (st.2.notIn hp) (.inl upd_same) rfl .nil)⟩
def gInDk (neg : Bool) : G2 := fun a b L k => match keyD a, con L b with
  | some q, .dk ks ds => k (.bl (if neg then !(lookK ks ds q).isSome else (lookK ks ds q).isSome))
  | _, _ => False
theorem in_look {L : Led} {K : PySem.W.Frag} {H : Hp} {ks : List Key} {vs : List V} {ds : List D} (q : Key) (r : RpAll L K H vs ds) : (lookK ks vs q).isSome = (lookK ks ds q).isSome := by
  have h := look_rp q ks r
  cases e : lookK ks ds q with
  | some d => rw [e] at h; obtain ⟨v, e1, _⟩ := h; rw [e1]; rfl
  | none => rw [e] at h; rw [show lookK ks vs q = none from h]; rfl
theorem op_inDk (hu : X.A.units + 1 < cLine) : OpR X (compareOp .In) (fun x y H Q => ∃ a ov, y = .ref a ∧ DGet H a x ov ∧ Q (.bl ov.isSome) H) := fun pins s σ H x y v u Q I rx ry ⟨a, ov, ea, g, q⟩ => by
  subst ea
  cases ry
  exact d_in hu I g rx fun s3 I3 => ⟨.bl ov.isSome, H, I3, rfl, q⟩
theorem op_notInDk (hu : X.A.units + 1 < cLine) : OpR X (compareOp .NotIn) (fun x y H Q => ∃ a ov, y = .ref a ∧ DGet H a x ov ∧ Q (.bl (!ov.isSome)) H) := fun pins s σ H x y v u Q I rx ry ⟨a, ov, ea, g, q⟩ => by
  subst ea
  cases ry
  exact d_notIn hu I g rx fun s3 I3 => ⟨.bl (!ov.isSome), H, I3, rfl, q⟩
theorem oq_inDk (hu : X.A.units + 64 < cLine) : OQ X (compareOp .In) (gInDk false) := ⟨_, op_inDk (by omega), fun H L va vb a b k Q j ra rb h hk => by
  unfold gInDk at h
  split at h
  · rename_i q ks ds hq hd
    obtain ⟨p, vs, rfl, hp, hl, rv⟩ := con_dk j rb hd
    cases key_of ra hq
    refine ⟨p, _, rfl, .inl ⟨_, q, hp, rfl, rfl⟩, ?_⟩
    rw [look_val, in_look q rv]
    exact hk _ _ H h (Same.refl H) (.bl _)
  · exact h.elim⟩
theorem oq_notInDk (hu : X.A.units + 64 < cLine) : OQ X (compareOp .NotIn) (gInDk true) := ⟨_, op_notInDk (by omega), fun H L va vb a b k Q j ra rb h hk => by
  unfold gInDk at h
  split at h
  · rename_i q ks ds hq hd
    obtain ⟨p, vs, rfl, hp, hl, rv⟩ := con_dk j rb hd
    cases key_of ra hq
    refine ⟨p, _, rfl, .inl ⟨_, q, hp, rfl, rfl⟩, ?_⟩
    rw [look_val, in_look q rv]
    exact hk _ _ H h (Same.refl H) (.bl _)
  · exact h.elim⟩
/-- d[k] -/
def gIxDk : G2 := fun a b L k => match con L a, keyD b with
  | .dk ks ds, some q => match lookK ks ds q with
    | some d => k d
    | none => False
  | _, _ => False
theorem q_ixDk (hu : X.A.units + 64 < cLine) (ha : QE X Wx a da) (hb : QE X Wx b db) (hs : NoSl b := by intro _ _; rfl) : QE X Wx (.Subscript a b pos) (dOp gIxDk da db) := by
  obtain ⟨ta, pa, sa⟩ := ha.ex
  obtain ⟨tb, pb, sb⟩ := hb.ex
  refine ⟨_, pe_dget (by omega) pa pb hs, fun σ H env L k x Q st h hk hx => ?_⟩
  refine sa σ H env L _ x _ st h (fun a L1 va H1 h1 g1 j1 r1 => ?_) hx
  refine sb σ H1 env L1 _ x _ (st.go g1 j1) h1 (fun b L2 vb H2 h2 g2 j2 r2 => ?_) (hx.go g1)
  unfold gIxDk at h2
  split at h2
  · rename_i ks ds q hd hq
    obtain ⟨p, vs, rfl, hp, hl, rv⟩ := con_dk j2 (r1.go g2) hd
    cases key_of r2 hq
    have hr := look_rp q ks rv
    split at h2
    · rename_i d hd2
      rw [hd2] at hr
      obtain ⟨v, e1, rv2⟩ := hr
      exact ⟨p, v, rfl, .inl ⟨_, q, hp, rfl, by rw [look_val]; exact e1.symm⟩, hk d L2 v H2 h2 (g1.trans g2) j2 rv2⟩
    · exact h2.elim
  · exact h2.elim
/-- d[k] = v, d of the ledger -/
def dStoreDk (de do' di : DE) : DS := fun D env L => de env L (fun v L1 => do' env L1 (fun o L2 => di env L2 (fun i L3 => match o, keyD i with
  | .ptr p, some q => match L3.lookup p with
    | some (.dk ks ds) => ks.length < sizeLine ∧ D.nx env (setL L3 p (.dk (putKk q ks) (putKv q v ks ds)))
    | _ => False
  | _, _ => False) D.ex) D.ex) D.ex
theorem s_storeDk {i : Expr} {di : DE} {ip : Pos} (hu : X.A.units + 64 < cLine) (he : QE X Wx e de) (ho : QE X Wx o do') (hi : QE X Wx i di) (hs : swapsWith e (some (.Subscript o i ip)) pos.line X.env = pure false := by rfl) : QS X Wx (.Assign [.Subscript o i ip] e pos) (dStoreDk de do' di) := by
  obtain ⟨te, pe, se⟩ := he.ex
  obtain ⟨to, po, so⟩ := ho.ex
  obtain ⟨ti, pi, si⟩ := hi.ex
  refine ⟨_, ps_dput (by omega) po pi pe hs, fun σ H env L D' D st h ok => ?_⟩
  refine se σ H env L _ _ _ st h (fun v L1 vv H1 h1 g1 j1 r1 => ?_) ok.ex
  refine so σ H1 env L1 _ _ _ (st.go g1 j1) h1 (fun o L2 vo H2 h2 g2 j2 r2 => ?_) (ok.ex.go g1)
  refine si σ H2 env L2 _ _ _ ((st.go g1 j1).go g2 j2) h2 (fun i L3 vi H3 h3 g3 j3 r3 => ?_) ((ok.ex.go g1).go g2)
  replace r2 := r2.go g3
  replace r1 := (r1.go g2).go g3
  split at h3
  · rename_i p q hq
    cases r2 with
    | ptr p =>
    cases key_of r3 hq
    split at h3
    · rename_i ks ds hl
      obtain ⟨vs, e1, e2, rv⟩ := j3.look hl
      have hp := inL_of_lookup hl
      obtain ⟨z1, z2⟩ := putK_zip q vv ks vs e2
      refine ⟨p, _, rfl, .inl ⟨_, q, e1, rfl, by rw [List.length_zip]; have := h3.1; omega, rfl⟩, ?_⟩
      rw [z1]
      have g4 : Go L3 (setL L3 p (.dk (putKk q ks) (putKv q v ks ds))) H3 (upd H3 p (.dK ((putKk q ks).zip (putKv q vv ks vs)))) := go_set hp
      have j4 : JL X.K (setL L3 p (.dk (putKk q ks) (putKv q v ks ds))) (upd H3 p (.dK ((putKk q ks).zip (putKv q vv ks vs)))) := j3.put hp ⟨_, upd_same, z2, putKv_rp (r1.go g4) q ks (rv.go g4)⟩
      exact ok.nx env _ σ _ h3.2 (((g1.trans g2).trans g3).trans g4) (st.go (((g1.trans g2).trans g3).trans g4) j4)
    · exact h3.elim
  · exact h3.elim
/-! ### {k: v, ..} -/
abbrev DPs := DEnv → Led → (List (D × D) → Led → Prop) → DX → Prop
structure QPs (X : Cx) (Wx : WX) (pos : Pos) (keys : List (Option Expr)) (values : List Expr) (dp : DPs) : Prop where
  ex : ∃ trs, PPs X pos keys values trs ∧ ∀ σ H env L k x (Q : List (V × V) → Hp → Prop), StL X.K σ H env L → dp env L k x → (∀ ps L' vs ws H', k ps L' → Go L L' H H' → JL X.K L' H' → RpAll L' X.K H' vs (ps.map (·.1)) → RpAll L' X.K H' ws (ps.map (·.2)) → Q (vs.zip ws) H') → XOk X.K Wx L H x → tPairs trs σ H Q
def dPnil : DPs := fun _ L k _ => k [] L
def dPcons (dk dv : DE) (dp : DPs) : DPs := fun env L k x => dk env L (fun a L1 => dv env L1 (fun b L2 => dp env L2 (fun ps L3 => k ((a, b) :: ps) L3) x) x) x
theorem p_nil : QPs X Wx pos [] [] dPnil := ⟨[], pps_nil, fun σ H env L k x Q st h hk hx => hk [] L [] [] H h (Go.refl L H) st.2 .nil .nil⟩
theorem p_cons {ks : List (Option Expr)} {vs : List Expr} {dk dv : DE} {dp : DPs} (h1 : QE X Wx a dk) (h2 : QE X Wx b dv) (hr : QPs X Wx pos ks vs dp) : QPs X Wx pos (some a :: ks) (b :: vs) (dPcons dk dv dp) := by
  obtain ⟨t1, p1, s1⟩ := h1.ex
  obtain ⟨t2, p2, s2⟩ := h2.ex
  obtain ⟨tr, p3, s3⟩ := hr.ex
  refine ⟨(t1, t2) :: tr, pps_cons p1 p2 p3, fun σ H env L k x Q st h hk hx => ?_⟩
  refine s1 σ H env L _ x _ st h (fun a L1 va H1 h1 g1 j1 r1 => ?_) hx
  refine s2 σ H1 env L1 _ x _ (st.go g1 j1) h1 (fun b L2 vb H2 h2 g2 j2 r2 => ?_) (hx.go g1)
  refine s3 σ H2 env L2 _ x _ ((st.go g1 j1).go g2 j2) h2 (fun ps L3 vs ws H3 h3 g3 j3 r3 r4 => ?_) ((hx.go g1).go g2)
  exact hk _ L3 (va :: vs) (vb :: ws) H3 h3 ((g1.trans g2).trans g3) j3 (.cons ((r1.go g2).go g3) r3) (.cons (r2.go g3) r4)
def keysOf : List (D × D) → Option (List Key)
  | [] => some []
  | (a, _) :: r => match keyD a, keysOf r with
    | some k, some l => some (k :: l)
    | _, _ => none
theorem keysOf_rp {L : Led} {K : PySem.W.Frag} {H : Hp} : ∀ {ps : List (D × D)} {ks : List Key} {vs : List V}, keysOf ps = some ks → RpAll L K H vs (ps.map (·.1)) → vs = ks.map kV ∧ ks.length = ps.length
  | [], ks, _, h, .nil => by cases h; exact ⟨rfl, rfl⟩
  | (a, b) :: r, ks, _, h, .cons h1 h2 => by
    unfold keysOf at h
    split at h
    · rename_i k l hk hl
      cases h
      obtain ⟨e1, e2⟩ := keysOf_rp hl h2
      cases key_of h1 hk
      exact ⟨by rw [e1]; rfl, by rw [List.length_cons, List.length_cons, e2]⟩
    · cases h
theorem put_fresh (k : Key) (v : V) (kvs : List (Key × V)) (h : k ∉ kvs.map (·.1)) : putK kvs k v = kvs ++ [(k, v)] := by
  unfold putK
  rw [if_neg]
  intro e
  obtain ⟨p, hp, e⟩ := List.any_eq_true.mp e
  exact h (List.mem_map.mpr ⟨p, hp, of_decide_eq_true e⟩)
theorem merge_fresh : ∀ (more kvs : List (Key × V)), (kvs.map (·.1) ++ more.map (·.1)).Nodup → mergeK kvs more = kvs ++ more
  | [], kvs, _ => by show kvs = kvs ++ []; rw [List.append_nil]
  | p :: r, kvs, h => by
    have hp : p.1 ∉ kvs.map (·.1) := fun hm => (List.nodup_append.mp h).2.2 _ hm _ List.mem_cons_self rfl
    show mergeK (putK kvs p.1 p.2) r = _
    rw [put_fresh p.1 p.2 kvs hp, merge_fresh r (kvs ++ [(p.1, p.2)]) (by simpa using h)]
    simp
theorem rem_set (L : Led) (p : Addr) (d : D) : remL (setL L p d) p = remL L p := by
  unfold remL setL
  induction L with
  | nil => rfl
  | cons q r ih =>
    rw [List.map_cons]
    by_cases e : q.1 = p
    · rw [if_pos e, List.filter_cons, List.filter_cons, decide_eq_false (fun h => h rfl), decide_eq_false (fun h => h e)]
      exact ih
    · rw [if_neg e, List.filter_cons, List.filter_cons, decide_eq_true e, if_pos rfl, if_pos rfl, ih]
def dDisp (dp : DPs) : DE := fun env L k x => ∀ p, ¬ inL L p → dp env ((p, .dk [] []) :: L) (fun ps L1 => match keysOf ps with
  | some ks => (L1.lookup p = some (.dk [] []) ∧ ks.Nodup ∧ ks.length ≤ 15) ∧ k (.dk ks (ps.map (·.2))) (remL L1 p)
  | none => False) (fun n env' L' => x n env' L')
theorem q_disp {keys : List (Option Expr)} {values : List Expr} {dp : DPs} (h : QPs X Wx pos keys values dp) (hall : keys.all (·.isSome) = true := by rfl) (hl : keys.length = values.length := by rfl) (h0 : keys ≠ [] := by simp) (h15 : keys.length ≤ 15 := by decide) : QE X Wx (.Dict keys values pos) (dDisp dp) := by
  obtain ⟨trs, pp, sp⟩ := h.ex
  refine ⟨_, pe_disp pp hall hl h0 h15, fun σ H env L k x Q st h hk hx p hp => ?_⟩
  obtain ⟨j2, g2⟩ := st.2.push (d := .dk [] []) hp (o := .dK []) ⟨[], upd_same, rfl, .nil⟩
  refine sp σ _ env _ _ _ _ (st.go g2 j2) (h p (st.2.notIn hp)) (fun ps L1 vs ws H1 h1 g1 j1 r1 r2 => ?_) (hx.go g2)
  split at h1
  · rename_i ks hk1
    obtain ⟨⟨hlk, hnd, h15'⟩, h1⟩ := h1
    obtain ⟨e1, e2⟩ := keysOf_rp hk1 r1
    obtain ⟨vs0, hp1, _, _⟩ := j1.look hlk
    have lw : ks.length = ws.length := by rw [r2.length, List.length_map]; exact e2
    have em : (ks.zip ws).map (·.1) = ks := List.map_fst_zip (by omega)
    have hin := inL_of_lookup hlk
    refine ⟨by simpa using hp1, ks.zip ws, ?_, by rw [List.length_zip]; omega, ?_⟩
    · rw [e1]
      clear e1 e2 em lw h1 hk1 r1 r2 hnd h15'
      induction ks generalizing ws with
      | nil => rfl
      | cons a t ih =>
        cases ws with
        | nil => rfl
        | cons w ws =>
          show (kV a, w) :: (t.map kV).zip ws = (kV a, w) :: (t.zip ws).map _
          rw [ih]
    · rw [merge_fresh (ks.zip ws) [] (by rw [List.map_nil, List.nil_append, em]; exact hnd), List.nil_append]
      have g4 : Go L1 (setL L1 p (.dk ks (ps.map (·.2)))) H1 (upd H1 p (.dK (ks.zip ws))) := go_set hin
      have j4 : JL X.K (setL L1 p (.dk ks (ps.map (·.2)))) (upd H1 p (.dK (ks.zip ws))) := j1.put hin ⟨ws, upd_same, lw, r2.go g4⟩
      have j5 := j4.rem (p := p)
      have g5 : Go (setL L1 p (.dk ks (ps.map (·.2)))) (remL (setL L1 p (.dk ks (ps.map (·.2)))) p) (upd H1 p (.dK (ks.zip ws))) (upd H1 p (.dK (ks.zip ws))) := go_rem
      rw [rem_set] at j5 g5
      exact hk _ _ _ _ h1 (((g2.trans g1).trans g4).trans g5) j5 (.dk (fun m => (inL_remL.mp m).2 rfl) (.inl upd_same) lw ((r2.go g4).go g5))
  · exact h1.elim
end
end DL

namespace DL
open PySem L2
/-! ### what a def has made for itself is forgotten -/
def keepL (L L' : Led) : Led := L'.filter fun q => decide (q.1 ∈ L.map (·.1))
theorem inL_keep {L L' : Led} {a : Addr} : inL (keepL L L') a ↔ inL L' a ∧ inL L a := by
  unfold inL keepL
  constructor
  · intro h
    obtain ⟨q, hq, rfl⟩ := List.mem_map.mp h
    obtain ⟨h1, h2⟩ := List.mem_filter.mp hq
    exact ⟨List.mem_map.mpr ⟨q, h1, rfl⟩, of_decide_eq_true h2⟩
  · rintro ⟨h1, h2⟩
    obtain ⟨q, hq, rfl⟩ := List.mem_map.mp h1
    exact List.mem_map.mpr ⟨q, List.mem_filter.mpr ⟨hq, decide_eq_true h2⟩, rfl⟩
theorem go_keep {L L' : Led} {H : Hp} : Go L' (keepL L L') H H := fun a o n h => ⟨fun m => n (inL_keep.mp m).1, h⟩
theorem JL.keep {K : PySem.W.Frag} {L L' : Led} {H : Hp} (j : JL K L' H) : JL K (keepL L L') H := by
  refine ⟨?_, fun a d m => ?_⟩
  · exact List.Nodup.sublist (List.Sublist.map _ List.filter_sublist) j.nd
  · exact Own.move (j.own a d (List.mem_filter.mp m).1) go_keep fun o e => e
/-- the contract with what is new in the ledger left out behind the call -/
def tidyS (g : DSp) : DSp := fun ds L k x => g ds L (fun d L' => k d (keepL L L')) fun n L' => x n (keepL L L')
theorem fn_tidy {P : Program} {w : World} {K : PySem.W.Frag} {mg : Str → Option Value} {base : Heap} {n : Nat} {f : Addr} {fd : FuncData} {ps : List Str} {g : DSp} (F : FnOk P w K mg base (L2.CX P w) n f fd ps (spD K g)) : FnOk P w K mg base (L2.CX P w) n f fd ps (spD K (tidyS g)) := by
  have key : ∀ vs H Q E, spD K (tidyS g) vs H Q E → spD K g vs H Q E := fun vs H Q E h => by
    obtain ⟨ds, L, k, x, j, r, h, hk, hx⟩ := h
    refine ⟨ds, L, _, _, j, r, h, fun d L' v H' q g' j' r' => ?_, fun n L' a H' q g' j' r' => ?_⟩
    · exact hk d _ v H' q (g'.trans go_keep) j'.keep (r'.go go_keep)
    · exact hx n _ a H' q (g'.trans go_keep) j'.keep (exR_go go_keep r')
  exact ⟨fun vs H Q E h => F.len vs H Q E (key vs H Q E h), fun A outer s H args us vs Q E hr e0 hb hv h => F.run A outer s H args us vs Q E hr e0 hb hv (key vs H Q E h)⟩
theorem keep_out {L L' : Led} {p : Addr} {d : D} (h : ¬ inL L p) : keepL L ((p, d) :: L') = keepL L L' := by
  unfold keepL
  rw [List.filter_cons, decide_eq_false (show ¬ p ∈ L.map (·.1) from h)]
  rfl
theorem keep_same {L L' : Led} (h : L'.map (·.1) = L.map (·.1)) : keepL L L' = L' := by
  unfold keepL
  refine List.filter_eq_self.mpr fun q hq => decide_eq_true ?_
  rw [← h]
  exact List.mem_map.mpr ⟨q, hq, rfl⟩
end DL

namespace DL
open PySem L2
/-! ### the runner and the names in the ledger -/
theorem lookup_setL_ne : ∀ {L : Led} {p q : Addr} {d : D}, p ≠ q → (setL L q d).lookup p = L.lookup p
  | [], _, _, _, _ => rfl
  | (a, c) :: L, p, q, d, h => by
    by_cases e : a = q
    · subst e
      show List.lookup p ((if a = a then (a, d) else (a, c)) :: setL L a d) = _
      rw [if_pos rfl, lookup_ne h, lookup_ne h]
      exact lookup_setL_ne h
    · rw [setL_ne e]
      by_cases e2 : p = a
      · subst e2
        rw [List.lookup_cons_self, List.lookup_cons_self]
      · rw [lookup_ne e2, lookup_ne e2]
        exact lookup_setL_ne h
theorem setL_comm {p q : Addr} (h : p ≠ q) (c d : D) (L : Led) : setL (setL L p c) q d = setL (setL L q d) p c := by
  unfold setL
  rw [List.map_map, List.map_map]
  refine List.map_congr_left fun a _ => ?_
  show (if (if a.1 = p then (p, c) else a).1 = q then (q, d) else (if a.1 = p then (p, c) else a)) = (if (if a.1 = q then (q, d) else a).1 = p then (p, c) else (if a.1 = q then (q, d) else a))
  by_cases e : a.1 = p
  · rw [if_pos e, if_neg (show ¬ (p, c).1 = q from h), if_neg (show ¬ a.1 = q from fun z => h (e.symm.trans z)), if_pos e]
  · rw [if_neg e]
    by_cases e2 : a.1 = q
    · rw [if_pos e2, if_neg (show ¬ (q, d).1 = p from Ne.symm h)]
    · rw [if_neg e2, if_neg e]
theorem lookup_in : ∀ {L : Led} {p : Addr}, inL L p → ∃ d, L.lookup p = some d
  | [], p, h => by simp [inL] at h
  | (a, c) :: L, p, h => by
    by_cases e : p = a
    · subst e; exact ⟨c, List.lookup_cons_self⟩
    · rw [lookup_ne e]
      exact lookup_in ((inL_cons.mp h).resolve_left e)
def fldsR : List Str := ["arithmetic", "programs", "outcomes", "steps"]
def runD (cP cR : Addr) (tb : D) (o : Addr) (n : Nat) : D := .obj cR fldsR [.obj cP [] [], tb, .ptr o, .int n]
def dkD (nm : NMS) : D := .dk (nm.map fun p => .inr p.1) (nm.map fun p => valD p.2)
def tabD (tab : TAB) : D := .dk (tab.map fun p => .inr p.1) (tab.map fun p => .tup (Sm.ds p.2))
structure RR where
  cP : Addr
  cR : Addr
  r : Addr
  o : Addr
  tb : D
@[irreducible] def st2 (R : RR) (L : Led) (s : RSt) : Led := setL (setL L R.r (runD R.cP R.cR R.tb R.o s.steps)) R.o (.lst (s.outs.map D.str))
structure B2 (R : RR) (L : Led) : Prop where
  r : inL L R.r
  o : inL L R.o
  ne : R.r ≠ R.o
section
variable {R : RR} {L : Led} {s : RSt}
theorem st2_keys : (st2 R L s).map (·.1) = L.map (·.1) := by unfold st2; rw [setL_keys, setL_keys]
theorem st2_r (b : B2 R L) : (st2 R L s).lookup R.r = some (runD R.cP R.cR R.tb R.o s.steps) := by
  obtain ⟨d, hd⟩ := lookup_in b.r
  unfold st2
  rw [lookup_setL_ne b.ne]
  exact lookup_setL hd
theorem st2_o (b : B2 R L) : (st2 R L s).lookup R.o = some (.lst (s.outs.map D.str)) := by
  obtain ⟨d, hd⟩ := lookup_in b.o
  unfold st2
  exact lookup_setL (c := d) (by rw [lookup_setL_ne (Ne.symm b.ne)]; exact hd)
theorem st2_q {q : Addr} (h1 : q ≠ R.r) (h2 : q ≠ R.o) : (st2 R L s).lookup q = L.lookup q := by
  unfold st2
  rw [lookup_setL_ne h2, lookup_setL_ne h1]
theorem st2_setr (b : B2 R L) (n : Nat) : setL (st2 R L s) R.r (runD R.cP R.cR R.tb R.o n) = st2 R L ⟨s.outs, n⟩ := by
  unfold st2
  rw [setL_comm (Ne.symm b.ne), setL_setL]
theorem st2_seto (b : B2 R L) (l : List Str) : setL (st2 R L s) R.o (.lst (l.map D.str)) = st2 R L ⟨l, s.steps⟩ := by
  unfold st2
  rw [setL_setL]
theorem st2_setq {q : Addr} (h1 : q ≠ R.r) (h2 : q ≠ R.o) (d : D) : setL (st2 R L s) q d = st2 R (setL L q d) s := by
  unfold st2
  rw [setL_comm (Ne.symm h2), setL_comm (Ne.symm h1)]
theorem st2_cons {q : Addr} (h1 : q ≠ R.r) (h2 : q ≠ R.o) (d : D) : (q, d) :: st2 R L s = st2 R ((q, d) :: L) s := by
  unfold st2
  rw [setL_ne h1, setL_ne h2]
theorem B2.set (b : B2 R L) (q : Addr) (d : D) : B2 R (setL L q d) := ⟨inL_setL.mpr b.r, inL_setL.mpr b.o, b.ne⟩
theorem B2.cons (b : B2 R L) (q : Addr) (d : D) : B2 R ((q, d) :: L) := ⟨inL_cons.mpr (.inr b.r), inL_cons.mpr (.inr b.o), b.ne⟩
end
/-! ### names as a dict -/
theorem look_nm (z : Str) : ∀ nm : NMS, lookK (nm.map fun p => (Sum.inr p.1 : Key)) (nm.map fun p => valD p.2) (.inr z) = (nm.lookup z).map valD
  | [] => rfl
  | (a, v) :: r => by
    show (if (Sum.inr a : Key) = .inr z then some (valD v) else lookK _ _ _) = _
    by_cases e : a = z
    · subst e; rw [if_pos rfl, List.lookup_cons_self]; rfl
    · rw [if_neg (fun h => e (by injection h)), look_nm z r, List.lookup_cons, beq_false_of_ne (Ne.symm e)]
theorem look_tab (z : Str) : ∀ tab : TAB, lookK (tab.map fun p => (Sum.inr p.1 : Key)) (tab.map fun p => D.tup (Sm.ds p.2)) (.inr z) = (tab.lookup z).map fun p => .tup (Sm.ds p)
  | [] => rfl
  | (a, v) :: r => by
    show (if (Sum.inr a : Key) = .inr z then some _ else lookK _ _ _) = _
    by_cases e : a = z
    · subst e; rw [if_pos rfl, List.lookup_cons_self]; rfl
    · rw [if_neg (fun h => e (by injection h)), look_tab z r, List.lookup_cons, beq_false_of_ne (Ne.symm e)]
theorem putN_keys (z : Str) (v : VAL) : ∀ nm : NMS, (nm.map (·.1)).Nodup → putKk (.inr z) (nm.map fun p => (Sum.inr p.1 : Key)) = (putN z v nm).map (fun p => Sum.inr p.1) ∧ putKv (.inr z) (valD v) (nm.map fun p => (Sum.inr p.1 : Key)) (nm.map fun p => valD p.2) = (putN z v nm).map fun p => valD p.2
  | [], _ => ⟨rfl, rfl⟩
  | (a, u) :: r, h => by
    rw [List.map_cons, List.nodup_cons] at h
    obtain ⟨i1, i2⟩ := putN_keys z v r h.2
    have hs : ∀ (l : NMS), z ∉ l.map (·.1) → setK (.inr z) (valD v) (l.map fun p => (Sum.inr p.1 : Key)) (l.map fun p => valD p.2) = l.map fun p => valD p.2 := by
      intro l
      induction l with
      | nil => intro _; rfl
      | cons p l ih =>
        intro hn
        rw [List.map_cons, List.mem_cons, not_or] at hn
        show (if (Sum.inr p.1 : Key) = .inr z then valD v else valD p.2) :: setK _ _ _ _ = valD p.2 :: l.map _
        rw [if_neg (fun q => hn.1 (by injection q with q; exact q.symm)), ih hn.2]
    unfold putKk at i1
    unfold putKv at i2
    unfold putKk putKv
    rw [List.map_cons, List.any_cons]
    by_cases e : a = z
    · subst e
      rw [decide_eq_true (show (Sum.inr a : Key) = .inr a from rfl), Bool.true_or, if_pos rfl, if_pos rfl]
      unfold putN
      rw [if_pos rfl]
      refine ⟨rfl, ?_⟩
      show (if (Sum.inr a : Key) = .inr a then valD v else valD u) :: setK _ _ _ _ = _
      rw [if_pos rfl, hs r h.1]
      rfl
    · rw [decide_eq_false (show ¬ (Sum.inr a : Key) = .inr z from fun q => e (by injection q)), Bool.false_or]
      unfold putN
      rw [if_neg e]
      by_cases c : ((r.map fun p => (Sum.inr p.1 : Key)).any fun a => decide (a = .inr z)) = true
      · rw [if_pos c] at i1 i2
        rw [if_pos c, if_pos c]
        refine ⟨by rw [List.map_cons, ← i1], ?_⟩
        show (if (Sum.inr a : Key) = .inr z then valD v else valD u) :: setK _ _ _ _ = _
        rw [if_neg (fun q => e (by injection q)), List.map_cons, ← i2]
      · rw [if_neg c] at i1 i2
        rw [if_neg c, if_neg c]
        exact ⟨by rw [List.map_cons, ← i1]; rfl, by rw [List.map_cons, List.map_cons, ← i2]; rfl⟩
theorem putN_mem (z : Str) (v : VAL) : ∀ (nm : NMS) (a : Str), a ∈ (putN z v nm).map (·.1) → a = z ∨ a ∈ nm.map (·.1)
  | [], a, h => .inl (by simpa [putN] using h)
  | (b, u) :: r, a, h => by
    unfold putN at h
    split at h
    · exact .inr h
    · rw [List.map_cons, List.mem_cons] at h
      rcases h with h | h
      · exact .inr (by rw [h]; exact List.mem_cons_self)
      · rcases putN_mem z v r a h with q | q
        · exact .inl q
        · exact .inr (List.mem_cons_of_mem _ q)
theorem putN_nodup (z : Str) (v : VAL) : ∀ nm : NMS, (nm.map (·.1)).Nodup → ((putN z v nm).map (·.1)).Nodup
  | [], _ => by simp [putN]
  | (b, u) :: r, h => by
    unfold putN
    split
    · exact h
    · rename_i e
      rw [List.map_cons, List.nodup_cons] at h ⊢
      refine ⟨fun m => ?_, putN_nodup z v r h.2⟩
      rcases putN_mem z v r b m with q | q
      · exact e q
      · exact h.1 q
theorem putN_ok {P : VAL → Prop} {z : Str} {v : VAL} (hv : P v) : ∀ {nm : NMS}, (∀ p ∈ nm, P p.2) → ∀ p ∈ putN z v nm, P p.2
  | [], _, p, hp => by simp [putN] at hp; subst hp; exact hv
  | (b, u) :: r, h, p, hp => by
    unfold putN at hp
    split at hp
    · rcases List.mem_cons.mp hp with q | q
      · subst q; exact hv
      · exact h p (List.mem_cons_of_mem _ q)
    · rcases List.mem_cons.mp hp with q | q
      · subst q; exact h _ List.mem_cons_self
      · exact putN_ok hv (fun p hp => h p (List.mem_cons_of_mem _ hp)) p q
theorem putN_len (z : Str) (v : VAL) : ∀ nm : NMS, (putN z v nm).length ≤ nm.length + 1
  | [] => Nat.le_refl _
  | (b, u) :: r => by
    unfold putN
    split
    · rw [List.length_cons, List.length_cons]; omega
    · rw [List.length_cons, List.length_cons]; have := putN_len z v r; omega
end DL

namespace DL
open PySem L2
/-! ### what the model keeps -/
inductive XpOk (ks : Str → Prop) : Nat → Ex → Prop
  | num {m : Nat} {i : Int} : -999 ≤ i → i ≤ 999 → XpOk ks m (.num i)
  | lx {m : Nat} : XpOk ks m .lx
  | ly {m : Nat} : XpOk ks m .ly
  | nm {m : Nat} {z : Str} : XpOk ks m (.nm z)
  | call {m : Nat} {f : Str} {a b : Ex} : ks f → XpOk ks m a → XpOk ks m b → XpOk ks (m + 1) (.call f a b)
  | bin {m : Nat} {o : Str} {a b : Ex} : o ∈ (["add", "sub", "mul", "div"] : List Str) → XpOk ks m a → XpOk ks m b → XpOk ks (m + 1) (.bin o a b)
def tests : List Str := ["less", "equal", "upto"]
mutual
def smOk (ks : Str → Prop) : Nat → Sm → Prop
  | _, .letS _ e => XpOk ks 7 e
  | _, .stop e => XpOk ks 7 e
  | m, .rep n b => n ≤ 9 ∧ ∃ m', m = m' + 1 ∧ smsOk ks m' b
  | m, .ifS t a b p q => t ∈ tests ∧ XpOk ks 7 a ∧ XpOk ks 7 b ∧ ∃ m', m = m' + 1 ∧ smsOk ks m' p ∧ smsOk ks m' q
def smsOk (ks : Str → Prop) : Nat → List Sm → Prop
  | _, [] => True
  | m, s :: r => smOk ks m s ∧ smsOk ks m r
end
theorem XpOk.mono {ks : Str → Prop} {m : Nat} {e : Ex} (h : XpOk ks m e) : ∀ {m' : Nat}, m ≤ m' → XpOk ks m' e := by
  induction h with
  | num h1 h2 => intro _ _; exact .num h1 h2
  | lx => intro _ _; exact .lx
  | ly => intro _ _; exact .ly
  | nm => intro _ _; exact .nm
  | call hf _ _ ia ib =>
    intro m' hm
    obtain ⟨k, rfl⟩ : ∃ k, m' = k + 1 := ⟨m' - 1, by omega⟩
    exact .call hf (ia (by omega)) (ib (by omega))
  | bin ho _ _ ia ib =>
    intro m' hm
    obtain ⟨k, rfl⟩ : ∃ k, m' = k + 1 := ⟨m' - 1, by omega⟩
    exact .bin ho (ia (by omega)) (ib (by omega))
structure Gd (s : RSt) (r : R1 × RSt) : Prop where
  lim : r.2.steps ≤ 60
  mono : s.steps ≤ r.2.steps
  grow : r.2.outs.length + s.steps ≤ s.outs.length + r.2.steps
  v : ∀ v, r.1 = .ok v → VOk v
theorem Gd.refl {s : RSt} {r : R1} (h : s.steps ≤ 60) (hv : ∀ v, r = .ok v → VOk v) : Gd s (r, s) := ⟨h, Nat.le_refl _, Nat.le_refl _, hv⟩
theorem Gd.then {s s1 : RSt} {r1 : R1} {r : R1 × RSt} (a : Gd s (r1, s1)) (b : Gd s1 r) : Gd s r := ⟨b.lim, Nat.le_trans a.mono b.mono, by have h1 := a.grow; have h2 := b.grow; dsimp only at h1; omega, b.v⟩
theorem Gd.halt {s s1 : RSt} {r1 : R1} {e : EE} (a : Gd s (r1, s1)) : Gd s (.halt e, s1) := ⟨a.lim, a.mono, a.grow, fun v e => by cases e⟩
def FOk (F : FUN) : Prop := ∀ f x y s, VOk x → VOk y → s.steps ≤ 60 → Gd s (F f x y s)
theorem VOk.num {i : Int} (h1 : -999 ≤ i) (h2 : i ≤ 999) : VOk ((i, 1), 1) := by
  have e : (2 : Nat) ^ (64 * (1 : Int).toNat - 1) = 9223372036854775808 := by decide
  refine ⟨Int.le_refl _, by show (1 : Int) ≤ 10; decide, by show (0 : Int) < 1; decide, ?_, ?_, ?_⟩
  · show gcdI i 1 = 1
    unfold gcdI
    rw [show (1 : Int).natAbs = 1 from rfl, Nat.gcd_one_right]
    rfl
  · show i.natAbs < 2 ^ (64 * (1 : Int).toNat - 1)
    rw [e]; omega
  · show (1 : Int).natAbs < 2 ^ (64 * (1 : Int).toNat - 1)
    rw [e]; decide
theorem evalE_ok {F : FUN} {ks : Str → Prop} {nm : NMS} {x y : VAL} (hF : FOk F) (hn : ∀ p ∈ nm, VOk p.2) (hx : VOk x) (hy : VOk y) {m : Nat} {e : Ex} (he : XpOk ks m e) : ∀ s, s.steps ≤ 60 → Gd s (evalE F nm x y e s) := by
  have lk : ∀ (nm : NMS) z v, (∀ p ∈ nm, VOk p.2) → nm.lookup z = some v → VOk v := by
    intro nm
    induction nm with
    | nil => intro z v _ h; cases h
    | cons p r ih =>
      intro z v hp h
      rw [List.lookup_cons] at h
      cases hb : z == p.1 with
      | true => rw [hb] at h; cases h; exact hp p List.mem_cons_self
      | false => rw [hb] at h; exact ih z v (fun q hq => hp q (List.mem_cons_of_mem _ hq)) h
  induction he with
  | num h1 h2 => intro s hs; exact .refl hs fun v e => by cases e; exact VOk.num h1 h2
  | lx => intro s hs; exact .refl hs fun v e => by cases e; exact hx
  | ly => intro s hs; exact .refl hs fun v e => by cases e; exact hy
  | @nm _ z =>
    intro s hs
    unfold evalE
    cases h : nm.lookup z with
    | some v => exact .refl hs fun v' e => by cases e; exact lk nm z v hn h
    | none => exact .refl hs fun v' e => by cases e
  | @call _ f a b hf _ _ iha ihb =>
    intro s hs
    unfold evalE
    have ga := iha s hs
    rcases ea : evalE F nm x y a s with ⟨r1, s1⟩
    rw [ea] at ga
    rcases r1 with v | e
    rotate_left
    · exact ga.halt
    have gb := ihb s1 ga.lim
    dsimp only
    rcases eb : evalE F nm x y b s1 with ⟨r2, s2⟩
    rw [eb] at gb
    rcases r2 with w | e
    rotate_left
    · exact ga.then gb.halt
    exact ga.then (gb.then (hF f v w s2 (ga.v v rfl) (gb.v w rfl) gb.lim))
  | @bin _ o a b ho _ _ iha ihb =>
    intro s hs
    unfold evalE
    have ga := iha s hs
    rcases ea : evalE F nm x y a s with ⟨r1, s1⟩
    rw [ea] at ga
    rcases r1 with v | e
    rotate_left
    · exact ga.halt
    have gb := ihb s1 ga.lim
    dsimp only
    rcases eb : evalE F nm x y b s1 with ⟨r2, s2⟩
    rw [eb] at gb
    rcases r2 with w | e
    rotate_left
    · exact ga.then gb.halt
    dsimp only
    by_cases h1 : 10 < v.2 + w.2
    · rw [if_pos h1]; exact ga.then gb.halt
    · rw [if_neg h1]
      by_cases h2 : o = "div" ∧ w.1.1 = 0
      · rw [if_pos h2]; exact ga.then gb.halt
      · rw [if_neg h2]
        exact ga.then ⟨gb.lim, gb.mono, gb.grow, fun v' e => by cases e; exact VOk.join (ga.v v rfl) (gb.v w rfl) o h1 h2 ho⟩
/-- names that may stand when so many statements were executed -/
structure NOk (nm : NMS) : Prop where
  v : ∀ p ∈ nm, VOk p.2
  nd : (nm.map (·.1)).Nodup
structure Gb (nm : NMS) (s : RSt) (r : BR × NMS × RSt) : Prop where
  lim : r.2.2.steps ≤ 60
  mono : s.steps ≤ r.2.2.steps
  grow : r.2.2.outs.length + s.steps ≤ s.outs.length + r.2.2.steps
  n : NOk r.2.1
  len : r.2.1.length + s.steps ≤ nm.length + r.2.2.steps
  v : ∀ v, r.1 = .done (some v) → VOk v
theorem Gb.then {nm nm1 : NMS} {s s1 : RSt} {b : BR} {r : BR × NMS × RSt} (g : Gb nm s (b, nm1, s1)) (h : Gb nm1 s1 r) : Gb nm s r := ⟨h.lim, Nat.le_trans g.mono h.mono, by have h1 := g.grow; have h2 := h.grow; dsimp only at h1; omega, h.n, by have h1 := g.len; have h2 := h.len; dsimp only at h1; omega, h.v⟩
theorem repM_ok {body : NMS → RSt → BR × NMS × RSt} (h : ∀ nm s, NOk nm → s.steps ≤ 60 → Gb nm s (body nm s)) : ∀ (n : Nat) (nm : NMS) (s : RSt), NOk nm → s.steps ≤ 60 → Gb nm s (repM body n nm s)
  | 0, nm, s, hn, hs => ⟨hs, Nat.le_refl _, Nat.le_refl _, hn, Nat.le_refl _, fun v e => by cases e⟩
  | n + 1, nm, s, hn, hs => by
    unfold repM
    have g := h nm s hn hs
    rcases hb : body nm s with ⟨r, nm1, s1⟩
    rw [hb] at g
    rcases r with e | o
    · exact g
    · rcases o with _ | v
      · exact g.then (repM_ok h n nm1 s1 g.n g.lim)
      · exact g
/-- a statement: one name and one sign more than its steps -/
structure Gs (nm : NMS) (s : RSt) (r : BR × NMS × RSt) : Prop where
  lim : r.2.2.steps ≤ 60
  mono : s.steps ≤ r.2.2.steps
  grow : r.2.2.outs.length + s.steps ≤ s.outs.length + 1 + r.2.2.steps
  n : NOk r.2.1
  len : r.2.1.length + s.steps ≤ nm.length + 1 + r.2.2.steps
  v : ∀ v, r.1 = .done (some v) → VOk v
theorem Gd.gs {nm : NMS} {s s1 : RSt} {r : R1} {b : BR} (g : Gd s (r, s1)) (hn : NOk nm) (hv : ∀ v, b = .done (some v) → VOk v) : Gs nm s (b, nm, s1) := ⟨g.lim, g.mono, by have h1 := g.grow; dsimp only at h1 ⊢; omega, hn, by have h1 := g.mono; dsimp only at h1 ⊢; omega, hv⟩
mutual
theorem stmM_ok {F : FUN} {ks : Str → Prop} {x y : VAL} (hF : FOk F) (hx : VOk x) (hy : VOk y) : ∀ (m : Nat) (st : Sm) (nm : NMS) (s : RSt), smOk ks m st → NOk nm → s.steps ≤ 60 → Gs nm s (stmM F x y st nm s)
  | m, .letS z e, nm, s, h, hn, hs => by
    have g := evalE_ok hF hn.v hx hy (show XpOk ks 7 e by unfold smOk at h; exact h) s hs
    unfold stmM
    rcases he : evalE F nm x y e s with ⟨r, s1⟩
    rw [he] at g
    rcases r with v | e
    · exact ⟨g.lim, g.mono, by have h1 := g.grow; dsimp only at h1 ⊢; omega, ⟨putN_ok (g.v v rfl) hn.v, putN_nodup z v nm hn.nd⟩, by have h1 := putN_len z v nm; have h2 := g.mono; dsimp only at h2 ⊢; omega, fun v e => by cases e⟩
    · exact g.gs hn fun v e => by cases e
  | m, .stop e, nm, s, h, hn, hs => by
    have g := evalE_ok hF hn.v hx hy (show XpOk ks 7 e by unfold smOk at h; exact h) s hs
    unfold stmM
    rcases he : evalE F nm x y e s with ⟨r, s1⟩
    rw [he] at g
    rcases r with v | e
    · exact g.gs hn fun v' e => by cases e; exact g.v v rfl
    · exact g.gs hn fun v e => by cases e
  | m, .rep n b, nm, s, h, hn, hs => by
    obtain ⟨_, m', _, hb⟩ : n ≤ 9 ∧ ∃ m', m = m' + 1 ∧ smsOk ks m' b := by unfold smOk at h; exact h
    have g := repM_ok (fun nm s hn hs => blkM_ok hF hx hy m' b nm s hb hn hs) n nm s hn hs
    unfold stmM
    exact ⟨g.lim, g.mono, by have := g.grow; omega, g.n, by have := g.len; omega, g.v⟩
  | m, .ifS t a b p q, nm, s, h, hn, hs => by
    obtain ⟨_, hxa, hxb, m', _, hp, hq⟩ : t ∈ tests ∧ XpOk ks 7 a ∧ XpOk ks 7 b ∧ ∃ m', m = m' + 1 ∧ smsOk ks m' p ∧ smsOk ks m' q := by unfold smOk at h; exact h
    have ga := evalE_ok hF hn.v hx hy hxa s hs
    unfold stmM
    rcases ea : evalE F nm x y a s with ⟨r, s1⟩
    rw [ea] at ga
    rcases r with v | e
    rotate_left
    · exact ga.gs hn fun v e => by cases e
    have gb := evalE_ok hF hn.v hx hy hxb s1 ga.lim
    dsimp only
    rcases eb : evalE F nm x y b s1 with ⟨r, s2⟩
    rw [eb] at gb
    rcases r with w | e
    rotate_left
    · exact (ga.then gb).gs hn fun v e => by cases e
    dsimp only
    have gab := ga.then gb
    by_cases h1 : 10 < v.2 + w.2
    · rw [if_pos h1]
      exact gab.gs hn fun v e => by cases e
    · rw [if_neg h1]
      have key : ∀ z, Gb nm ⟨s2.outs ++ [sgnS (orderR v.1 w.1)], s2.steps⟩ z → Gs nm s z := fun z g => by
        refine ⟨g.lim, Nat.le_trans gab.mono g.mono, ?_, g.n, ?_, g.v⟩
        · have h1 := g.grow
          have h2 := gab.grow
          dsimp only at h1 h2
          rw [List.length_append, List.length_singleton] at h1
          omega
        · have h1 := g.len
          have h2 := gab.mono
          dsimp only at h1 h2
          omega
      cases takes t (orderR v.1 w.1) with
      | true => exact key _ (blkM_ok hF hx hy m' p nm ⟨s2.outs ++ [sgnS (orderR v.1 w.1)], s2.steps⟩ hp hn gab.lim)
      | false => exact key _ (blkM_ok hF hx hy m' q nm ⟨s2.outs ++ [sgnS (orderR v.1 w.1)], s2.steps⟩ hq hn gab.lim)
theorem blkM_ok {F : FUN} {ks : Str → Prop} {x y : VAL} (hF : FOk F) (hx : VOk x) (hy : VOk y) : ∀ (m : Nat) (l : List Sm) (nm : NMS) (s : RSt), smsOk ks m l → NOk nm → s.steps ≤ 60 → Gb nm s (blkM F x y l nm s)
  | m, [], nm, s, _, hn, hs => by
    unfold blkM
    exact ⟨hs, Nat.le_refl _, Nat.le_refl _, hn, Nat.le_refl _, fun v e => by cases e⟩
  | m, st :: r, nm, s, h, hn, hs => by
    have h : smOk ks m st ∧ smsOk ks m r := by unfold smsOk at h; exact h
    unfold blkM
    by_cases h60 : s.steps = 60
    · rw [if_pos h60]
      exact ⟨hs, Nat.le_refl _, Nat.le_refl _, hn, Nat.le_refl _, fun v e => by cases e⟩
    · rw [if_neg h60]
      have g := stmM_ok hF hx hy m st nm ⟨s.outs, s.steps + 1⟩ h.1 hn (by show s.steps + 1 ≤ 60; omega)
      rcases hb : stmM F x y st nm ⟨s.outs, s.steps + 1⟩ with ⟨b, nm1, s1⟩
      rw [hb] at g
      have g' : Gb nm s (b, nm1, s1) := ⟨g.lim, by have := g.mono; dsimp only at this ⊢; omega, by have := g.grow; dsimp only at this ⊢; omega, g.n, by have := g.len; dsimp only at this ⊢; omega, g.v⟩
      rcases b with e | o
      · exact g'
      · rcases o with _ | v
        · exact g'.then (blkM_ok hF hx hy m r nm1 s1 h.2 g.n g.lim)
        · exact g'
end
theorem execM_ok {F : FUN} {ks : Str → Prop} (hF : FOk F) {m : Nat} {p : List Sm} (hp : smsOk ks m p) {x y : VAL} (hx : VOk x) (hy : VOk y) (s : RSt) (hs : s.steps ≤ 60) : Gd s (execM F p x y s) := by
  have g := blkM_ok hF hx hy m p [] s hp (NOk.mk (fun p hp => nomatch hp) List.nodup_nil) hs
  unfold execM
  rcases hb : blkM F x y p [] s with ⟨b, nm1, s1⟩
  rw [hb] at g
  rcases b with e | o
  · exact ⟨g.lim, g.mono, g.grow, fun v e => by cases e⟩
  · rcases o with _ | v
    · exact ⟨g.lim, g.mono, g.grow, fun v e => by cases e⟩
    · exact ⟨g.lim, g.mono, g.grow, fun v' e => by cases e; exact g.v v rfl⟩
/-- names of the table that may be called with so many calls one within another -/
def Lv (tab : TAB) : Nat → Str → Prop
  | 0, _ => False
  | c + 1, f => ∃ p, tab.lookup f = some p ∧ smsOk (Lv tab c) 5 p
theorem funM_ok {tab : TAB} (ht : ∀ p ∈ tab, ∃ ks m, smsOk ks m p.2) : ∀ n, FOk (funM tab n)
  | 0 => fun f x y s hx hy hs => .refl hs fun v e => by cases e
  | n + 1 => fun f x y s hx hy hs => by
    unfold funM
    cases h : tab.lookup f with
    | none => exact .refl hs fun v e => by cases e
    | some p =>
      have : ∀ (tab : TAB), (∀ p ∈ tab, ∃ ks m, smsOk ks m p.2) → tab.lookup f = some p → ∃ ks m, smsOk ks m p := by
        intro tab
        induction tab with
        | nil => intro _ h; cases h
        | cons q r ih =>
          intro hq h
          rw [List.lookup_cons] at h
          cases hb : f == q.1 with
          | true => rw [hb] at h; cases h; exact hq q List.mem_cons_self
          | false => rw [hb] at h; exact ih (fun z hz => hq z (List.mem_cons_of_mem _ hz)) h
      obtain ⟨ks, m, hp⟩ := this tab ht h
      exact execM_ok (funM_ok ht n) (ks := ks) hp hx hy s hs
end DL

namespace DL
open PySem L2 TL
/-! ### programs that are drawn -/
mutual
def smW (ns ks : List Str) : Nat → Sm → Prop
  | _, .letS z e => z ∈ ns ∧ e.Wf ns ks ∧ e.dp ≤ 3
  | _, .stop e => e.Wf ns ks ∧ e.dp ≤ 3
  | m, .rep n b => n ≤ 9 ∧ ∃ m', m = m' + 1 ∧ smsW ns ks m' b
  | m, .ifS t a b p q => t ∈ tests ∧ (a.Wf ns ks ∧ a.dp ≤ 3) ∧ (b.Wf ns ks ∧ b.dp ≤ 3) ∧ ∃ m', m = m' + 1 ∧ smsW ns ks m' p ∧ smsW ns ks m' q
def smsW (ns ks : List Str) : Nat → List Sm → Prop
  | _, [] => True
  | m, s :: r => smW ns ks m s ∧ smsW ns ks m r
end
mutual
def cntS : Sm → Nat
  | .letS _ _ => 1
  | .stop _ => 1
  | .rep _ b => cntB b + 1
  | .ifS _ _ _ p q => cntB p + cntB q + 1
def cntB : List Sm → Nat
  | [] => 0
  | s :: r => cntS s + cntB r
end
theorem cntB_append : ∀ a b : List Sm, cntB (a ++ b) = cntB a + cntB b
  | [], b => by show cntB b = 0 + cntB b; omega
  | s :: r, b => by
    show cntS s + cntB (r ++ b) = cntS s + cntB r + cntB b
    rw [cntB_append r b]; omega
theorem smsW_append {ns ks : List Str} {m : Nat} : ∀ {a b : List Sm}, smsW ns ks m a → smsW ns ks m b → smsW ns ks m (a ++ b)
  | [], b, _, h => h
  | s :: r, b, ha, hb => by
    rw [List.cons_append]
    unfold smsW at ha ⊢
    exact ⟨ha.1, smsW_append ha.2 hb⟩
theorem cntB_len : ∀ l : List Sm, l.length ≤ cntB l
  | [] => Nat.le_refl _
  | s :: r => by
    have := cntB_len r
    have h1 : 1 ≤ cntS s := by cases s <;> unfold cntS <;> omega
    unfold cntB
    rw [List.length_cons]; omega
theorem Wf_xp {ns ks : List Str} {kk : Str → Prop} (hk : ∀ z ∈ ks, kk z) {e : Ex} (h : e.Wf ns ks) : ∀ {m : Nat}, e.dp ≤ m + 1 → XpOk kk m e := by
  induction h with
  | num h1 h2 => exact fun _ => .num h1 h2
  | lx => exact fun _ => .lx
  | ly => exact fun _ => .ly
  | nm _ => exact fun _ => .nm
  | call hf _ _ iha ihb =>
    intro m hm
    unfold Ex.dp at hm
    cases m with
    | zero => rename_i a b _ _; have : 1 ≤ a.dp := by cases a <;> unfold Ex.dp <;> omega
              omega
    | succ m => exact .call (hk _ hf) (iha (by omega)) (ihb (by omega))
  | bin ho _ _ iha ihb =>
    intro m hm
    unfold Ex.dp at hm
    cases m with
    | zero => rename_i a b _ _; have : 1 ≤ a.dp := by cases a <;> unfold Ex.dp <;> omega
              omega
    | succ m => exact .bin ho (iha (by omega)) (ihb (by omega))
mutual
theorem smW_ok {ns ks : List Str} {kk : Str → Prop} (hk : ∀ z ∈ ks, kk z) : ∀ (m : Nat) (s : Sm), smW ns ks m s → smOk kk m s
  | m, .letS z e, h => by
    unfold smW at h; unfold smOk
    exact Wf_xp hk h.2.1 (by omega)
  | m, .stop e, h => by
    unfold smW at h; unfold smOk
    exact Wf_xp hk h.1 (by omega)
  | m, .rep n b, h => by
    unfold smW at h; unfold smOk
    obtain ⟨h1, m', e, h2⟩ := h
    exact ⟨h1, m', e, smsW_ok hk m' b h2⟩
  | m, .ifS t a b p q, h => by
    unfold smW at h; unfold smOk
    obtain ⟨h1, h2, h3, m', e, h4, h5⟩ := h
    exact ⟨h1, Wf_xp hk h2.1 (by omega), Wf_xp hk h3.1 (by omega), m', e, smsW_ok hk m' p h4, smsW_ok hk m' q h5⟩
theorem smsW_ok {ns ks : List Str} {kk : Str → Prop} (hk : ∀ z ∈ ks, kk z) : ∀ (m : Nat) (l : List Sm), smsW ns ks m l → smsOk kk m l
  | m, [], _ => by unfold smsOk; trivial
  | m, s :: r, h => by
    unfold smsW at h; unfold smsOk
    exact ⟨smW_ok hk m s h.1, smsW_ok hk m r h.2⟩
end
mutual
theorem smOk_mono {kk : Str → Prop} : ∀ (m : Nat) (s : Sm) (m' : Nat), m ≤ m' → smOk kk m s → smOk kk m' s
  | m, .letS z e, m', _, h => by unfold smOk at h ⊢; exact h
  | m, .stop e, m', _, h => by unfold smOk at h ⊢; exact h
  | m, .rep n b, m', hm, h => by
    unfold smOk at h ⊢
    obtain ⟨h1, m1, e, h2⟩ := h
    exact ⟨h1, m' - 1, by omega, smsOk_mono m1 b (m' - 1) (by omega) h2⟩
  | m, .ifS t a b p q, m', hm, h => by
    unfold smOk at h ⊢
    obtain ⟨h1, h2, h3, m1, e, h4, h5⟩ := h
    exact ⟨h1, h2, h3, m' - 1, by omega, smsOk_mono m1 p (m' - 1) (by omega) h4, smsOk_mono m1 q (m' - 1) (by omega) h5⟩
theorem smsOk_mono {kk : Str → Prop} : ∀ (m : Nat) (l : List Sm) (m' : Nat), m ≤ m' → smsOk kk m l → smsOk kk m' l
  | m, [], m', _, _ => by unfold smsOk; trivial
  | m, s :: r, m', hm, h => by
    unfold smsOk at h ⊢
    exact ⟨smOk_mono m s m' hm h.1, smsOk_mono m r m' hm h.2⟩
end
theorem ds_app : ∀ a b : List Sm, Sm.ds (a ++ b) = Sm.ds a ++ Sm.ds b
  | [], b => by unfold Sm.ds; rfl
  | s :: r, b => by
    show s.d :: Sm.ds (r ++ b) = s.d :: (Sm.ds r ++ Sm.ds b)
    rw [ds_app r b]
theorem ds_length : ∀ l : List Sm, (Sm.ds l).length = l.length
  | [] => by unfold Sm.ds; rfl
  | s :: r => by unfold Sm.ds; rw [List.length_cons, List.length_cons, ds_length r]
/-! the bag and the number of statements that are left, in the ledger -/
def pst (L : Led) (p q : Addr) (b : Bag) (m : Nat) : Led := setL (setL L p (bagC b)) q (.lst [.int m])
structure PB (L : Led) (p q : Addr) : Prop where
  ip : inL L p
  iq : inL L q
  ne : p ≠ q
theorem lookup_inL {L : Led} {p : Addr} {d : D} (h : inL L p) : (setL L p d).lookup p = some d := by
  have : ∃ c, L.lookup p = some c := by
    clear d
    induction L with
    | nil => unfold inL at h; simp at h
    | cons z r ih =>
      by_cases e : p = z.1
      · subst e; exact ⟨_, List.lookup_cons_self⟩
      · have hr : inL r p := by
          unfold inL at h ⊢
          rw [List.map_cons] at h
          exact (List.mem_cons.mp h).resolve_left e
        obtain ⟨c, hc⟩ := ih hr
        exact ⟨c, by rw [show z = (z.1, z.2) from rfl, lookup_ne e]; exact hc⟩
  exact lookup_setL this.choose_spec
theorem lookup_set_ne {L : Led} {p q : Addr} {d : D} (h : q ≠ p) : (setL L p d).lookup q = L.lookup q := by
  induction L with
  | nil => rfl
  | cons z r ih =>
    by_cases e : z.1 = p
    · show List.lookup q ((if z.1 = p then (p, d) else z) :: setL r p d) = _
      rw [if_pos e, lookup_ne h, ih, show z = (z.1, z.2) from rfl, lookup_ne (by rw [e]; exact h)]
    · show List.lookup q ((if z.1 = p then (p, d) else z) :: setL r p d) = _
      rw [if_neg e]
      by_cases e2 : q = z.1
      · subst e2; rw [show z = (z.1, z.2) from rfl, List.lookup_cons_self, List.lookup_cons_self]
      · rw [show z = (z.1, z.2) from rfl, lookup_ne e2, lookup_ne e2, ih]
section
variable {L : Led} {p q : Addr} {b b' : Bag} {m m' : Nat}
theorem PB.lp (h : PB L p q) : (pst L p q b m).lookup p = some (bagC b) := by
  unfold pst
  rw [lookup_set_ne h.ne, lookup_inL h.ip]
theorem PB.lq (h : PB L p q) : (pst L p q b m).lookup q = some (.lst [.int m]) := lookup_inL (inL_setL.mpr h.iq)
theorem pst_bag (h : PB L p q) : setL (pst L p q b m) p (bagC b') = pst L p q b' m := by
  unfold pst
  rw [← setL_comm h.ne, setL_setL]
theorem pst_left : setL (pst L p q b m) q (.lst [.int (m' : Int)]) = pst L p q b m' := by
  unfold pst
  rw [setL_setL]
theorem PB.at (h : PB L p q) (ok : BagOk b) : BagAt (pst L p q b m) p b := ⟨h.lp, pst_bag h, ok⟩
theorem PB.cons (h : PB L p q) (f : Addr) (d : D) : PB ((f, d) :: L) p q := ⟨inL_cons.mpr (.inr h.ip), inL_cons.mpr (.inr h.iq), h.ne⟩
theorem pst_cons {f : Addr} {d : D} (h1 : f ≠ p) (h2 : f ≠ q) : pst ((f, d) :: L) p q b m = (f, d) :: pst L p q b m := by
  unfold pst
  rw [setL_ne h1, setL_ne h2]
theorem inL_pst {a : Addr} : inL (pst L p q b m) a ↔ inL L a := by unfold pst; rw [inL_setL, inL_setL]
end
structure NmL (l : List Str) : Prop where
  len : l.length ≤ 100
  ok : ∀ z ∈ l, nameOk z = true
def stG (n : Nat) : DSp := fun ds L k _ => ∃ (p q : Addr) (b : Bag) (m d : Nat) (ns ks : List Str) (L0 : Led), ds = [.ptr p, .lst (ns.map D.str), .lst (ks.map D.str), .int d, .ptr q] ∧ L = pst L0 p q b m ∧ PB L0 p q ∧ BagOk b ∧ d < n ∧ 1 ≤ d ∧ m ≤ 1000 ∧ NmL ns ∧ ns ≠ [] ∧ NmL ks ∧
  ∀ (s : Sm) b' m', smW ns ks (d - 1) s → cntS s + m' = m + 1 → BagOk b' → k s.d (pst L0 p q b' m')
def bkG (n : Nat) : DSp := fun ds L k _ => ∃ (p q : Addr) (b : Bag) (m d : Nat) (ns ks : List Str) (L0 : Led), ds = [.ptr p, .lst (ns.map D.str), .lst (ks.map D.str), .int d, .ptr q] ∧ L = pst L0 p q b m ∧ PB L0 p q ∧ BagOk b ∧ d < n ∧ 1 ≤ d ∧ m ≤ 1000 ∧ NmL ns ∧ ns ≠ [] ∧ NmL ks ∧
  ∀ (l : List Sm) b' m', smsW ns ks (d - 1) l → cntB l + m' = m → BagOk b' → k (.tup (Sm.ds l)) (pst L0 p q b' m')
def prG : DSp := fun ds L k _ => ∃ (p : Addr) (b : Bag) (m : Nat) (ns ks : List Str), ds = [.ptr p, .lst (ns.map D.str), .lst (ks.map D.str), .int m] ∧ BagAt L p b ∧ m ≤ 1000 ∧ NmL ns ∧ ns ≠ [] ∧ NmL ks ∧
  ∀ (l : List Sm) b', smsW ns ks 3 l → cntB l ≤ m → BagOk b' → k (.tup (Sm.ds l)) (setL L p (bagC b'))
/-- before what the def made for itself is left out -/
def prR : DSp := fun ds L k _ => ∃ (p : Addr) (b : Bag) (m : Nat) (ns ks : List Str), ds = [.ptr p, .lst (ns.map D.str), .lst (ks.map D.str), .int m] ∧ BagAt L p b ∧ m ≤ 1000 ∧ NmL ns ∧ ns ≠ [] ∧ NmL ks ∧
  ∀ (l : List Sm) b' q m', ¬ inL L q → smsW ns ks 3 l → cntB l ≤ m → BagOk b' → k (.tup (Sm.ds l)) ((q, .lst [.int (m' : Int)]) :: setL L p (bagC b'))
theorem pr_tidy {P : Program} {w : World} {K : PySem.W.Frag} {mg : Str → Option Value} {base : Heap} {n : Nat} {f : Addr} {fd : FuncData} {ps : List Str} (F : FnOk P w K mg base (L2.CX P w) n f fd ps (spD K prR)) : FnOk P w K mg base (L2.CX P w) n f fd ps (spD K prG) := by
  have G := fn_tidy F
  have key : ∀ vs H Q E, spD K prG vs H Q E → spD K (tidyS prR) vs H Q E := fun vs H Q E q => by
    obtain ⟨ds, L, k, x, j, r, ⟨p, b, m, ns, ks, e, hb, hm, h1, h2, h3, h⟩, hk, hx⟩ := q
    refine ⟨ds, L, k, x, j, r, ⟨p, b, m, ns, ks, e, hb, hm, h1, h2, h3, fun l b' q m' hq w1 w2 ok => ?_⟩, hk, hx⟩
    show k _ (keepL L _)
    rw [keep_out hq, keep_same (setL_keys _ _ _)]
    exact h l b' w1 w2 ok
  exact ⟨fun vs H Q E q => G.len vs H Q E (key vs H Q E q), fun A outer s H args us vs Q E hr e0 hb hv q => G.run A outer s H args us vs Q E hr e0 hb hv (key vs H Q E q)⟩
end DL

namespace DL
open PySem PySem.Spec PyProof.Rows L2
/-! ### f(lambda: ..) within a block: the cells of the names that fn tells -/
def eElt : Expr → Expr
  | .ListComp e _ _ _ => e
  | _ => eNo
def eScope : Expr → Scope
  | .ListComp _ _ s _ => s
  | _ => defScope (.Pass ⟨0, 0, 0, 0⟩)
section
variable {X : Cx} {Wx : WX} {e : Expr} {dl : DA} {pos : Pos}
structure CelZ (X : Cx) (cel : Cel) (σ : L2.St) (H : Hp) : Prop where
  free : ∀ b o, cel b = some o → H b = none
  has : ∀ (j : Nat) (y : Str) (v : V) (cc : Addr), X.fn y = true → X.N[j]? = some y → σ[j]? = some (some v) → X.env.cells.lookup y = some cc → (X.env.scope.names.lookup y = some .cell ∨ X.env.scope.names.lookup y = some .free) → ∃ oc u, cel cc = some oc ∧ oc.data = .cell (some u) ∧ RelV v u
def fnB (fn : Str → Bool) (F : LamF) : Bool := F.fr.all fn
section
variable {L : Led} {H : Hp} {cel : Cel} {σ : L2.St} {env : DEnv}
theorem rpZ (ok : X.Ok) (cx : CelZ X cel σ H) (nl : ∀ b o, cel b = some o → ¬ inL L b) (st : Sto L X.K H σ env) {F : LamF} {js : List Nat} {ds : List D} (hb : capB X.env.scope X.N F js = true) (hf : fnB X.fn F = true) (hj : js.map (fun j => env[j]?) = ds.map (fun d => some (some d))) {v : V}
    (r : Rp L X.K H v (.fnv F (cloFrom X.env.cells F.scope.names []))) : Rp L X.K (addC cel H) v (.clo F ds) := by
  cases r with
  | fnv fa =>
    obtain ⟨cp, hin⟩ := capB_of ok hb
    obtain ⟨vs, e1, rv⟩ := slot_get (js := js) st hj
    refine .clo ⟨_, (Go.same (same_add cx.free)).fnv fa, ?_, fun x y c e e' => ok.inj x y c (cp.sub x c e) (cp.sub y c e'), hin, fun i y hy => ?_⟩ (rv.go (Go.same (same_add cx.free)))
    · have l1 := congrArg List.length e1
      have l2 := congrArg List.length cp.at_
      rw [List.length_map, List.length_map] at l1 l2
      omega
    · have hjs : (js.map (fun j => X.N[j]?))[i]? = some (some y) := by rw [cp.at_, List.getElem?_map, hy]; rfl
      rw [List.getElem?_map] at hjs
      cases hji : js[i]? with
      | none => rw [hji] at hjs; cases hjs
      | some j =>
        rw [hji] at hjs
        have hNj : X.N[j]? = some y := Option.some.inj hjs
        have hv : (js.map (fun j => σ[j]?))[i]? = some σ[j]? := by rw [List.getElem?_map, hji]; rfl
        rw [e1, List.getElem?_map] at hv
        cases hvi : vs[i]? with
        | none => rw [hvi] at hv; cases hv
        | some v =>
          rw [hvi] at hv
          have hσ : σ[j]? = some (some v) := (Option.some.inj hv).symm
          have hm : y ∈ F.fr := List.mem_of_getElem? hy
          obtain ⟨cc, hcc⟩ := ok.has y (cp.kin y hm)
          obtain ⟨oc, u, h1, h2, h3⟩ := cx.has j y v cc (List.all_eq_true.mp hf y hm) hNj hσ hcc (cp.kin y hm)
          exact ⟨cc, oc, u, v, cp.sup y hm cc hcc, nl cc oc h1, addC_in h1, h2, rfl, h3⟩
end
def tCallZ (X : Cx) (sp : Sp) (dvs : List V) (Wx : WX) (t : TA) : TE := fun σ H Q => t σ H fun vs H1 => ∀ cel : Cel, X.Ok → CelZ X cel σ H1 → sp (vs ++ dvs) (addC cel H1) (fun v H' => Q v (delC cel H')) (fun cls d H' => Wx cls d σ (delC cel H'))
theorem pe_callZ {x : Str} {p : Pos} {k : Nat} {f : Addr} {fd : FuncData} {ps : List Str} {sp : Sp} {ds : List Value} {dvs : List V} {t : TA} (F : FnOk X.prog X.w X.K X.mg X.base (L2.CX X.prog X.w) k f fd ps sp) (hr : Room k X.A) (hg : Gl X x) (hm : X.mg x = some (.ref f)) (hk : PySem.W.keepIn X.K (.ref f) = true) (hb : Binds X.K fd ps ds) (hd : Vals dvs ds) (tk : Takes X Wx)
    (ha : PA X [e] t) (hdb : (x == ("__debug__" : Str)) = false := by decide) (he : starEach [e] X.env = (false, eval e X.env) :: starEach [] X.env := by rfl) (hpl : (backTo pos (starEach [] X.env)).any (·.1) = false := by rfl) :
    PE X (.Call (.Name x p) [e] [] pos) (tCallZ X sp dvs Wx t) := by
  refine ⟨fun pins s σ H Q I h => ?_⟩
  refine wpAny_Call_Name_kw (ld_glob I hg hm ?_ hdb)
  refine PySem.W.callWith_K (h₀ := X.base) I.ok.mod.kin hk (thn (ha.run pos pins s σ H _ I h) fun us s1 ⟨vs, H1, I1, r, q⟩ => ⟨I1.kIn, ?_⟩) he hpl
  open Classical in
  let cel : Cel := fun b => if (∃ y, X.fn y = true ∧ X.env.cells.lookup y = some b) then s1.heap.get? b else none
  have hin : ∀ b o, cel b = some o → (∃ y, X.fn y = true ∧ X.env.cells.lookup y = some b) ∧ s1.heap.get? b = some o := fun b o e => by
    have e : (if (∃ y, X.fn y = true ∧ X.env.cells.lookup y = some b) then s1.heap.get? b else none) = some o := e
    split at e
    · rename_i q; exact ⟨q, e⟩
    · cases e
  have above : ∀ b o, cel b = some o → X.s_0.heap.objs.size ≤ b := fun b o e => by
    obtain ⟨⟨y, hf, hy⟩, _⟩ := hin b o e
    exact I1.ok.cab y b hf hy
  have C : CelOk cel H1 s1.heap (frs X.stack) := by
    refine ⟨fun b o e => (hin b o e).2, fun b o e => ?_, fun b o e hb => ?_⟩
    · obtain ⟨⟨y, _, hy⟩, _⟩ := hin b o e
      exact I1.freeC y b hy
    · rcases List.mem_cons.mp (I1.stkSub _ hb) with z | z
      · obtain ⟨⟨y, _, hy⟩, _⟩ := hin b o e
        exact I1.cne y b hy z
      · obtain ⟨_, o2, ho2, _⟩ := I1.ok.funs.mem z
        exact absurd (Heap.lt_size ho2) (Nat.not_lt.mpr (above b o e))
  have CX0 : CelZ X cel σ H1 := by
    refine ⟨C.free, fun j y v cc hf hN hσ hc hkind => ?_⟩
    obtain ⟨m, hn, hl⟩ := I1.loc
    obtain ⟨u, ru, q⟩ := hl j y v hN hσ (.inr hkind)
    rcases q with ⟨k', _⟩ | ⟨_, c3, e', z⟩
    · have k' : X.env.scope.names.lookup y = some .local := k'
      rcases hkind with k2 | k2 <;> rw [k2] at k' <;> cases k'
    · rw [hc] at e'
      cases e'
      obtain ⟨oc, ho, hd⟩ := z
      refine ⟨oc, u, ?_, hd, ru⟩
      show (if (∃ y, X.fn y = true ∧ X.env.cells.lookup y = some cc) then s1.heap.get? cc else none) = some oc
      rw [if_pos ⟨y, hf, hc⟩]
      exact ho
  have hq := q cel I1.ok CX0
  have hl : (us ++ ds).length = ps.length := by
    have z := F.len _ _ _ _ hq
    rw [← (r.append hd).length]
    exact z
  have rc := F.run X.A X.stack s1 (addC cel H1) ⟨us, []⟩ (us ++ ds) (vs ++ dvs) _ _ hr (env0_add C (fun b o e => Heap.get?_none_of_le (Nat.le_trans I1.ok.bsz (above b o e))) I1.env0) (hb s1 us I1.kIn hl) (r.append hd) hq
  refine wpAny_call (codeAny_mono rc fun r' s' hq => ?_)
  have hq := cr_del (Q := Q) (E := WE Wx σ) C hq
  cases r' with
  | error e => exact passAt tk σ pins H1 s1 e s' I1 hq
  | ok fl =>
    cases fl with
    | ret u => exact I1.after hq
    | next => exact False.elim hq
    | brk => exact False.elim hq
    | cont => exact False.elim hq
/-- f(lambda: ..): the slots js hold what it reads -/
def dCallZ (g : DSp) (dd : List D) (P : Addr) (F : LamF) (js : List Nat) : DE := fun env L k x => L.lookup P = some (.tab F.qual) ∧ ∃ ds, js.map (fun j => env[j]?) = ds.map (fun d => some (some d)) ∧ g (.clo F ds :: dd) L (fun d L' => pln d = true ∧ plnL L' = true ∧ k d L') fun n L' => plns n.vs = true ∧ plnL L' = true ∧ x n env L'
theorem q_calZ {x : Str} {p lp : Pos} {n k : Nat} {ps : List Str} {g : DSp} {dd : List D} {P : Addr} {F : LamF} (js : List Nat) (C : Cal X.prog X.w X.K X.mg X.base n x ps dd g) (hn : n ≤ k) (hr : Room k X.A) (tk : Takes X Wx) (hg : Gl X x) (hl : QE X Wx (.Lambda F.params F.body F.scope lp) (dLam P F (cloFrom X.env.cells F.scope.names [])))
    (hb : capB X.env.scope X.N F js = true) (hf : fnB X.fn F = true) (hdb : (x == ("__debug__" : Str)) = false := by decide)
    (he : starEach [.Lambda F.params F.body F.scope lp] X.env = (false, eval (.Lambda F.params F.body F.scope lp) X.env) :: starEach [] X.env := by rfl) (hpl : (backTo pos (starEach [] X.env)).any (·.1) = false := by rfl) : QE X Wx (.Call (.Name x p) [.Lambda F.params F.body F.scope lp] [] pos) (dCallZ g dd P F js) := by
  obtain ⟨f, fd, us, dvs, G, hm, hk, hbd, hd, hdd⟩ := C.ex
  obtain ⟨ta, pa, sa⟩ := (a_cons hl a_nil he).ex
  refine ⟨_, pe_callZ G (hr.mono hn) hg hm hk hbd hd tk pa hdb he hpl, fun σ H env L kk xx Q st h hk hx => ?_⟩
  obtain ⟨hL, ds, hj, h⟩ := h
  refine sa σ H env L (fun ds' L1 => L1 = L ∧ ds' = [.fnv F (cloFrom X.env.cells F.scope.names [])]) xx _ st ⟨hL, rfl, rfl⟩ (fun ds' L1 vs H1 h1 g1 j1 r1 cel ok cx => ?_) hx
  obtain ⟨e1, e2⟩ := h1
  subst e1 e2
  have s1 := same_add (H := H1) cx.free
  have st1 := st.go g1 j1
  have nl : ∀ b o, cel b = some o → ¬ inL L1 b := fun b o e => j1.notIn (cx.free b o e)
  cases r1 with
  | cons ra rn =>
  cases rn with
  | nil =>
  refine ⟨.clo F ds :: dd, L1, _, _, j1.same s1, RpAll.cons (rpZ ok cx nl st1.1 hb hf hj ra) (hdd L1 _), h, fun d L' v H' q g' j' r' => ?_, fun n L' a H' q g' j' r' => ?_⟩
  · have hc : ∀ b o, cel b = some o → H' b = some (celO o) := fun b o e => (g' b _ (nl b o e) (addC_in e)).2
    exact hk d L' v (delC cel H') q.2.2 (g1.trans (go_out cx.free g')) (j'.del hc q.2.1) (r'.del hc q.1)
  · have hc : ∀ b o, cel b = some o → H' b = some (celO o) := fun b o e => (g' b _ (nl b o e) (addC_in e)).2
    have gg := g1.trans (go_out cx.free g')
    have jj := j'.del hc q.2.1
    obtain ⟨na, vs', e1, e2, e3⟩ := r'
    exact hx n env L' a (delC cel H') σ q.2.2 gg (st.go gg jj) ⟨na, vs', del_keep hc e1 (fun o e => by cases e), e2, e3.del hc q.1⟩
end
end DL

namespace DL
open PySem L2 TL NumText
/-! ### texts of ratios, as lists of signs -/
def figs : Str := "0123456789"
def allFig (l : List Nat) : Bool := l.all fun c => decide (c ∈ figs.cps.toList)
theorem figs_mem {c : Nat} : c ∈ figs.cps.toList ↔ 48 ≤ c ∧ c ≤ 57 := by
  have e : figs.cps.toList = [48, 49, 50, 51, 52, 53, 54, 55, 56, 57] := by decide +kernel
  rw [e]
  simp only [List.mem_cons, List.not_mem_nil, or_false]
  omega
theorem allFig_iff {l : List Nat} : allFig l = true ↔ AllDigits l := by
  unfold allFig AllDigits
  rw [List.all_eq_true]
  exact ⟨fun h c hc => figs_mem.mp (of_decide_eq_true (h c hc)), fun h c hc => decide_eq_true (figs_mem.mpr (h c hc))⟩
/-- a number of at most 30 signs without leading zeros -/
def digOk (l : List Nat) : Bool := decide (1 ≤ l.length) && (decide (l.length ≤ 30) && (allFig l && (decide (l = [48]) || decide (l.head? ≠ some 48))))
structure DigOk (l : List Nat) : Prop where
  ne : l ≠ []
  len : l.length ≤ 30
  dig : AllDigits l
  lead : l = [48] ∨ l.head? ≠ some 48
theorem digOk_iff {l : List Nat} : digOk l = true ↔ DigOk l := by
  unfold digOk
  simp only [Bool.and_eq_true, Bool.or_eq_true, decide_eq_true_eq, allFig_iff]
  constructor
  · rintro ⟨h1, h2, h3, h4⟩
    exact ⟨fun e => by rw [e] at h1; exact absurd h1 (by decide), h2, h3, h4⟩
  · rintro ⟨h1, h2, h3, h4⟩
    refine ⟨?_, h2, h3, h4⟩
    cases l with
    | nil => exact absurd rfl h1
    | cons _ _ => exact Nat.succ_le_succ (Nat.zero_le _)
def figuresOf : List Nat → List Nat
  | 45 :: cs => cs
  | l => l
def topVal : List Nat → Int
  | 45 :: cs => -((digitsVal cs : Nat) : Int)
  | l => ((digitsVal l : Nat) : Int)
def lowB (t u : Int) : Bool := decide (0 < u) && decide (gcdI t u = 1)
def botVal : Option (List Nat) → Int
  | none => 1
  | some b => ((digitsVal b : Nat) : Int)
def botOk : Option (List Nat) → Bool
  | none => true
  | some b => digOk b
/-- what stands ahead of the first stroke, what stands behind it -/
def readP (a : List Nat) (b : Option (List Nat)) : Option (Int × Int) :=
  match digOk (figuresOf a) && (!decide (a = [45, 48]) && botOk b) with
  | false => none
  | true => match lowB (topVal a) (botVal b) && !(b.isSome && decide (botVal b = 1)) with
    | true => some (topVal a, botVal b)
    | false => none
def readM (l : List Nat) : Option (Int × Int) := match par [47] [] l with
  | none => readP l none
  | some (a, b) => readP a (some b)
/-- the signs of an int -/
def intL (i : Int) : List Nat := if i < 0 then 45 :: numL i.natAbs else numL i.natAbs
theorem tl_int (i : Int) : tl (Str.ofString (toString i)) = intL i := by
  unfold intL
  cases i with
  | ofNat n =>
    rw [if_neg (by show ¬ (Int.ofNat n < 0); exact Int.not_lt.mpr (Int.natCast_nonneg n))]
    exact tl_num n
  | negSucc n =>
    rw [if_pos (Int.negSucc_lt_zero n)]
    have e : toString (Int.negSucc n) = "-" ++ toString ((n + 1 : Nat) : Int) := rfl
    rw [e, tl_ofString, String.toList_append, List.map_append]
    show 45 :: ((toString ((n + 1 : Nat) : Int)).toList.map Char.toNat) = _
    rw [← tl_ofString, tl_num]
    rfl
theorem numL_lead : ∀ n : Nat, numL n = [48] ∨ (numL n).head? ≠ some 48 := by
  intro n
  induction n using Nat.strongRecOn with
  | _ n ih =>
    by_cases h : n < 10
    · rw [numL_lt h]
      by_cases h0 : n = 0
      · subst h0; exact .inl rfl
      · refine .inr ?_
        show some (48 + n) ≠ some 48
        intro e
        injection e with e
        omega
    · rw [numL_step (by omega)]
      refine .inr ?_
      have ne := numL_ne (n / 10)
      cases hl : numL (n / 10) with
      | nil => exact absurd hl ne
      | cons c r =>
        show some c ≠ some 48
        rcases ih (n / 10) (by omega) with e | e
        · have v := numL_val (n / 10)
          rw [e] at v
          have v : 0 = n / 10 := v
          omega
        · rw [hl] at e
          exact e
theorem numL_ok {n : Nat} (h : n < 10 ^ 30) : DigOk (numL n) := ⟨numL_ne n, numL_len (by decide) h, numL_digits n, numL_lead n⟩
theorem numL_head {n : Nat} : ∀ c r, numL n = c :: r → c ≠ 45 := fun c r e h => by
  have := numL_digits n c (by rw [e]; exact List.mem_cons_self)
  omega
theorem figures_int (i : Int) : figuresOf (intL i) = numL i.natAbs := by
  unfold intL
  split
  · rfl
  · cases h : numL i.natAbs with
    | nil => exact absurd h (numL_ne _)
    | cons c r =>
      have hc := numL_head c r h
      unfold figuresOf
      split
      · rename_i e; injection e with e; exact absurd e hc
      · rfl
theorem top_int (i : Int) : topVal (intL i) = i := by
  unfold intL
  split
  · show -((digitsVal (numL i.natAbs) : Nat) : Int) = i
    rw [numL_val]
    omega
  · cases h : numL i.natAbs with
    | nil => exact absurd h (numL_ne _)
    | cons c r =>
      have hc := numL_head c r h
      unfold topVal
      split
      · rename_i e; injection e with e; exact absurd e hc
      · rw [← h, numL_val]
        omega
theorem int_not {i : Int} : intL i ≠ [45, 48] := fun e => by
  have v := top_int i
  have f := figures_int i
  rw [e] at v f
  have v : (0 : Int) = i := by rw [← v]; decide
  subst v
  have : intL 0 = [48] := by decide +kernel
  rw [this] at e
  cases e
theorem stroke_free {i : Int} : 47 ∉ intL i := by
  unfold intL
  split
  · intro h
    rcases List.mem_cons.mp h with h | h
    · cases h
    · exact numL_free (.inl (by decide)) h
  · exact numL_free (.inl (by decide))
def textL (t u : Int) : List Nat := if u = 1 then intL t else intL t ++ (47 :: intL u)
theorem read_back {t u : Int} (h : Low t u) (ht : t.natAbs < 10 ^ 30) (hu : u.natAbs < 10 ^ 30) : readM (textL t u) = some (t, u) := by
  have gl : lowB t u = true := by unfold lowB; rw [decide_eq_true h.pos, decide_eq_true h.one]; rfl
  have f1 : digOk (figuresOf (intL t)) = true := by rw [figures_int]; exact digOk_iff.mpr (numL_ok ht)
  unfold textL readM
  by_cases e : u = 1
  · subst e
    rw [if_pos rfl, par_none1 stroke_free]
    show readP (intL t) none = _
    unfold readP
    rw [f1, decide_eq_false int_not]
    show (match true && (!false && true) with | false => none | true => match lowB (topVal (intL t)) 1 && !(false && decide ((1 : Int) = 1)) with | true => some (topVal (intL t), (1 : Int)) | false => none) = _
    rw [top_int, gl]
    rfl
  · rw [if_neg e, show intL t ++ 47 :: intL u = intL t ++ ([47] ++ intL u) from rfl, par_part1 stroke_free, List.nil_append]
    show readP (intL t) (some (intL u)) = _
    have iu : intL u = numL u.natAbs := by unfold intL; rw [if_neg (Int.not_lt.mpr (Int.le_of_lt h.pos))]
    have f2 : digOk (intL u) = true := by rw [iu]; exact digOk_iff.mpr (numL_ok hu)
    have vu : ((digitsVal (intL u) : Nat) : Int) = u := by rw [iu, numL_val]; have := h.pos; omega
    unfold readP
    rw [f1, decide_eq_false int_not]
    show (match true && (!false && digOk (intL u)) with | false => none | true => match lowB (topVal (intL t)) ((digitsVal (intL u) : Nat) : Int) && !(true && decide (((digitsVal (intL u) : Nat) : Int) = 1)) with | true => some (topVal (intL t), ((digitsVal (intL u) : Nat) : Int)) | false => none) = _
    rw [f2, top_int, vu, gl, decide_eq_false e]
    rfl
theorem figures_len (l : List Nat) : (figuresOf l).length ≤ l.length ∧ l.length ≤ (figuresOf l).length + 1 := by
  unfold figuresOf
  split
  · rw [List.length_cons]; omega
  · omega
theorem int_bot {z : Str} (h : digOk (tl z) = true) : intText? z = some ((digitsVal (tl z) : Nat) : Int) ∧ z.length ≤ 640 := by
  have h := digOk_iff.mp h
  have hl : z.length ≤ 30 := by rw [len_tl]; exact h.len
  exact ⟨intText_digits h.dig h.ne (by omega), by omega⟩
theorem int_top {z : Str} (h : digOk (figuresOf (tl z)) = true) : intText? z = some (topVal (tl z)) ∧ z.length ≤ 640 := by
  have h := digOk_iff.mp h
  have hf := figures_len (tl z)
  have hl : z.length ≤ 31 := by rw [len_tl]; have := h.len; omega
  refine ⟨?_, by omega⟩
  by_cases e : ∃ cs, tl z = 45 :: cs
  · obtain ⟨cs, e⟩ := e
    rw [e] at h ⊢
    exact intText_neg e h.dig h.ne (by omega)
  · have e1 : figuresOf (tl z) = tl z := by
      unfold figuresOf
      split
      · rename_i cs q; exact absurd ⟨cs, q⟩ e
      · rfl
    have e2 : topVal (tl z) = ((digitsVal (tl z) : Nat) : Int) := by
      unfold topVal
      split
      · rename_i cs q; exact absurd ⟨cs, q⟩ e
      · rfl
    rw [e1] at h
    rw [e2]
    exact intText_digits h.dig h.ne (by omega)
theorem pre_minus (l : List Nat) : pre [45] l = true ↔ ∃ cs, l = 45 :: cs := by
  constructor
  · intro h
    cases l with
    | nil => exact absurd h (by decide)
    | cons c r =>
      have e : [c] = [45] := eq_of_beq h
      injection e with e
      subst e
      exact ⟨r, rfl⟩
  · rintro ⟨cs, rfl⟩
    exact pre_self [45] cs
/-- where the first stroke parts a text -/
theorem part_at (z : Str) : ∃ top stroke bottom : Str, Txt.partition z "/" = (top, stroke, bottom) ∧ top.length ≤ z.length ∧ bottom.length ≤ z.length ∧ ((stroke = "" ∧ par [47] [] (tl z) = none ∧ tl top = tl z) ∨ (stroke = "/" ∧ par [47] [] (tl z) = some (tl top, tl bottom))) := by
  have hs : tl ("/" : Str) = [47] := by decide +kernel
  have h := partition_par z "/" (by rw [hs]; simp)
  rw [hs] at h
  cases hp : par [47] [] (tl z) with
  | none =>
    rw [hp] at h
    exact ⟨z, "", "", h, Nat.le_refl _, Nat.zero_le _, .inl ⟨rfl, rfl, rfl⟩⟩
  | some ab =>
    obtain ⟨a, b⟩ := ab
    rw [hp] at h
    have le : ∀ (l acc a b : List Nat), par [47] acc l = some (a, b) → a.length + b.length ≤ acc.length + l.length := by
      intro l
      induction l with
      | nil => intro acc a b h; cases h
      | cons c r ih =>
        intro acc a b h
        by_cases hc : pre [47] (c :: r) = true
        · rw [par_hit hc] at h
          cases h
          show acc.length + r.length ≤ acc.length + (r.length + 1)
          omega
        · rw [par_miss (Bool.eq_false_iff.mpr hc)] at h
          have := ih _ _ _ h
          rw [List.length_append, List.length_singleton] at this
          rw [List.length_cons]
          omega
    have l1 := le _ _ _ _ hp
    rw [List.length_nil] at l1
    refine ⟨⟨a.toArray⟩, "/", ⟨b.toArray⟩, h, ?_, ?_, .inr ⟨rfl, rfl⟩⟩
    · rw [len_tl, len_tl, tl_mk]; omega
    · rw [len_tl, len_tl, tl_mk]; omega
end DL

namespace DL
open PySem PySem.Spec PyProof.Rows L2 TL NumText
/-! ### contracts made weaker -/
theorem fn_weak {P : Program} {w : World} {K : PySem.W.Frag} {mg : Str → Option Value} {base : Heap} {n : Nat} {f : Addr} {fd : FuncData} {ps : List Str} {g g' : DSp} (h : ∀ ds L k x, g' ds L k x → g ds L k x) (F : FnOk P w K mg base (L2.CX P w) n f fd ps (spD K g)) : FnOk P w K mg base (L2.CX P w) n f fd ps (spD K g') := by
  have key : ∀ vs H Q E, spD K g' vs H Q E → spD K g vs H Q E := fun vs H Q E ⟨ds, L, k, x, a, b, c, d⟩ => ⟨ds, L, k, x, a, b, h _ _ _ _ c, d⟩
  exact ⟨fun vs H Q E z => F.len vs H Q E (key _ _ _ _ z), fun A outer s H args us vs Q E a b c d z => F.run A outer s H args us vs Q E a b c d (key _ _ _ _ z)⟩
theorem cal_weak {P : Program} {w : World} {K : PySem.W.Frag} {mg : Str → Option Value} {base : Heap} {n : Nat} {x : Str} {ps : List Str} {dd : List D} {g g' : DSp} (h : ∀ ds L k x, g' ds L k x → g ds L k x) (C : Cal P w K mg base n x ps dd g) : Cal P w K mg base n x ps dd g' := by
  obtain ⟨f, fd, us, dvs, F, r⟩ := C.ex
  exact ⟨⟨f, fd, us, dvs, fn_weak h F, r⟩⟩
/-! ### str(x) -/
section
variable {X : Cx}
def gStrA : GC := fun ds _ k => match ds with
  | [.int i] => i.natAbs.log2 < 1920 ∧ k (.str (toString i))
  | [.str z] => k (.str z)
  | _ => False
theorem callr_or {f : Value} {r1 r2 : List V → Hp → VK → Prop} (h1 : CallR X f r1) (h2 : CallR X f r2) : CallR X f (fun xs H Q => r1 xs H Q ∨ r2 xs H Q) := by
  intro a1 a2 a3 a4 a5 a6 a7 a8 a9 a10
  rcases a10 with z | z
  · exact h1 _ _ _ _ _ _ _ a8 a9 z
  · exact h2 _ _ _ _ _ _ _ a8 a9 z
theorem cq_strA : CQ X (.type "str") gStrA := ⟨_, callr_or call_str_int SkE.call_str_str, fun H L vs ds k Q j r h hk => by
  unfold gStrA at h
  split at h
  · cases r with
    | cons r1 r2 =>
      cases r2
      cases r1
      exact .inl ⟨_, rfl, h.1, hk _ _ H h.2 (Same.refl H) (.str _)⟩
  · cases r with
    | cons r1 r2 =>
      cases r2
      cases r1
      exact .inr ⟨_, rfl, hk _ _ H h (Same.refl H) (.str _)⟩
  · exact h.elim⟩
end
/-! ### names that are called -/
def callsE : Ex → List Str
  | .call f a b => f :: (callsE a ++ callsE b)
  | .bin _ a b => callsE a ++ callsE b
  | _ => []
theorem callsE_call (f : Str) (a b : Ex) : callsE (.call f a b) = f :: (callsE a ++ callsE b) := rfl
theorem callsE_bin (z : Str) (a b : Ex) : callsE (.bin z a b) = callsE a ++ callsE b := rfl
mutual
def callsS : Sm → List Str
  | .letS _ e => callsE e
  | .stop e => callsE e
  | .rep _ b => callsB b
  | .ifS _ a b p q => callsE a ++ callsE b ++ (callsB p ++ callsB q)
def callsB : List Sm → List Str
  | [] => []
  | s :: r => callsS s ++ callsB r
end
def exprsX : Sm → List Ex
  | .letS _ e => [e]
  | .stop e => [e]
  | .rep _ _ => []
  | .ifS _ a b _ _ => [a, b]
def blocksX : Sm → List (List Sm)
  | .rep _ b => [b]
  | .ifS _ _ _ p q => [p, q]
  | _ => []
theorem calls_split (s : Sm) : callsS s = (exprsX s).flatMap callsE ++ (blocksX s).flatMap callsB := by
  cases s <;> simp [callsS, exprsX, blocksX]
/-! ### the items of a statement -/
inductive It where
  | ex (e : Ex) | bl (b : List Sm) | st (z : Str) | nu (n : Nat)
def It.d : It → D
  | .ex e => e.d
  | .bl b => .tup (Sm.ds b)
  | .st z => .str z
  | .nu n => .int n
def It.calls : It → List Str
  | .ex e => callsE e
  | .bl b => callsB b
  | _ => []
def itsX : Sm → List It
  | .letS z e => [.st z, .ex e]
  | .stop e => [.ex e]
  | .rep n b => [.nu n, .bl b]
  | .ifS t a b p q => [.st t, .ex a, .ex b, .bl p, .bl q]
theorem its_calls (s : Sm) : callsS s = (itsX s).flatMap It.calls := by
  cases s <;> simp [callsS, itsX, It.calls]
def ItOk (ks : Str → Prop) (m : Nat) : It → Prop
  | .ex e => XpOk ks 7 e
  | .bl b => ∃ m', m = m' + 1 ∧ smsOk ks m' b
  | _ => True
theorem its_ok {ks : Str → Prop} {m : Nat} {s : Sm} (h1 : smOk ks m s) : ∀ i ∈ itsX s, ItOk ks m i := by
  intro i hi
  cases s with
  | letS z e =>
    unfold smOk at h1
    rcases List.mem_cons.mp hi with rfl | hi
    · trivial
    · cases List.mem_singleton.mp hi; exact h1
  | stop e => unfold smOk at h1; cases List.mem_singleton.mp hi; exact h1
  | rep n b =>
    unfold smOk at h1
    rcases List.mem_cons.mp hi with rfl | hi
    · trivial
    · cases List.mem_singleton.mp hi; exact h1.2
  | ifS t a b p q =>
    unfold smOk at h1
    obtain ⟨_, ha, hb, m', em, hp, hq⟩ := h1
    simp only [itsX, List.mem_cons, List.not_mem_nil, or_false] at hi
    rcases hi with rfl | rfl | rfl | rfl | rfl
    · trivial
    · exact ha
    · exact hb
    · exact ⟨m', em, hp⟩
    · exact ⟨m', em, hq⟩
theorem Ex.dp_call (f : Str) (a b : Ex) : (Ex.call f a b).dp = max a.dp b.dp + 1 := rfl
theorem Ex.dp_bin (f : Str) (a b : Ex) : (Ex.bin f a b).dp = max a.dp b.dp + 1 := rfl
theorem callsE_len : ∀ e : Ex, (callsE e).length + 1 ≤ 2 ^ (e.dp - 1)
  | .num _ => Nat.le_refl _
  | .lx => Nat.le_refl _
  | .ly => Nat.le_refl _
  | .nm _ => Nat.le_refl _
  | .call f a b => by
    have h1 := callsE_len a
    have h2 := callsE_len b
    have p1 := a.dp_pos
    have p2 := b.dp_pos
    have m1 : 2 ^ (a.dp - 1) ≤ 2 ^ (max a.dp b.dp - 1) := Nat.pow_le_pow_right (by decide) (by omega)
    have m2 : 2 ^ (b.dp - 1) ≤ 2 ^ (max a.dp b.dp - 1) := Nat.pow_le_pow_right (by decide) (by omega)
    have e : 2 ^ ((Ex.call f a b).dp - 1) = 2 ^ (max a.dp b.dp - 1) * 2 := by
      rw [Ex.dp_call, ← Nat.pow_succ]; congr 1; omega
    rw [e, callsE_call, List.length_cons, List.length_append]
    omega
  | .bin f a b => by
    have h1 := callsE_len a
    have h2 := callsE_len b
    have p1 := a.dp_pos
    have p2 := b.dp_pos
    have m1 : 2 ^ (a.dp - 1) ≤ 2 ^ (max a.dp b.dp - 1) := Nat.pow_le_pow_right (by decide) (by omega)
    have m2 : 2 ^ (b.dp - 1) ≤ 2 ^ (max a.dp b.dp - 1) := Nat.pow_le_pow_right (by decide) (by omega)
    have e : 2 ^ ((Ex.bin f a b).dp - 1) = 2 ^ (max a.dp b.dp - 1) * 2 := by
      rw [Ex.dp_bin, ← Nat.pow_succ]; congr 1; omega
    rw [e, callsE_bin, List.length_append]
    omega
theorem callsE_mem {ns ks : List Str} {e : Ex} (h : e.Wf ns ks) : ∀ z ∈ callsE e, z ∈ ks := by
  induction h with
  | num _ _ => intro z hz; cases hz
  | lx => intro z hz; cases hz
  | ly => intro z hz; cases hz
  | nm _ => intro z hz; cases hz
  | call hf ha hb iha ihb =>
    intro z hz
    rw [callsE_call] at hz
    rcases List.mem_cons.mp hz with rfl | hz
    · exact hf
    · exact (List.mem_append.mp hz).elim (iha z) (ihb z)
  | bin ho ha hb iha ihb =>
    intro z hz
    rw [callsE_bin] at hz
    exact (List.mem_append.mp hz).elim (iha z) (ihb z)
mutual
theorem callsS_ok {ns ks : List Str} : ∀ (m : Nat) (s : Sm), smW ns ks m s → (callsS s).length ≤ 6 * cntS s ∧ ∀ z ∈ callsS s, z ∈ ks
  | _, .letS z e, h => by
    unfold smW at h
    have h1 := callsE_len e
    have h2 : 2 ^ (e.dp - 1) ≤ 2 ^ 2 := Nat.pow_le_pow_right (by decide) (by omega)
    exact ⟨by show (callsE e).length ≤ 6 * 1; omega, callsE_mem h.2.1⟩
  | _, .stop e, h => by
    unfold smW at h
    have h1 := callsE_len e
    have h2 : 2 ^ (e.dp - 1) ≤ 2 ^ 2 := Nat.pow_le_pow_right (by decide) (by omega)
    exact ⟨by show (callsE e).length ≤ 6 * 1; omega, callsE_mem h.1⟩
  | m, .rep n b, h => by
    unfold smW at h
    obtain ⟨_, m', _, hb⟩ := h
    have g := callsB_ok m' b hb
    exact ⟨by show (callsB b).length ≤ 6 * (cntB b + 1); omega, g.2⟩
  | m, .ifS t a b p q, h => by
    unfold smW at h
    obtain ⟨_, ha, hb, m', _, hp, hq⟩ := h
    have g1 := callsB_ok m' p hp
    have g2 := callsB_ok m' q hq
    have h1 := callsE_len a
    have h2 : 2 ^ (a.dp - 1) ≤ 2 ^ 2 := Nat.pow_le_pow_right (by decide) (by omega)
    have h3 := callsE_len b
    have h4 : 2 ^ (b.dp - 1) ≤ 2 ^ 2 := Nat.pow_le_pow_right (by decide) (by omega)
    refine ⟨?_, fun z hz => ?_⟩
    · show (callsE a ++ callsE b ++ (callsB p ++ callsB q)).length ≤ 6 * (cntB p + cntB q + 1)
      simp only [List.length_append]
      omega
    · have hz : z ∈ callsE a ++ callsE b ++ (callsB p ++ callsB q) := hz
      simp only [List.mem_append] at hz
      rcases hz with (hz | hz) | hz | hz
      · exact callsE_mem ha.1 z hz
      · exact callsE_mem hb.1 z hz
      · exact g1.2 z hz
      · exact g2.2 z hz
theorem callsB_ok {ns ks : List Str} : ∀ (m : Nat) (l : List Sm), smsW ns ks m l → (callsB l).length ≤ 6 * cntB l ∧ ∀ z ∈ callsB l, z ∈ ks
  | _, [], _ => ⟨Nat.zero_le _, fun z hz => by cases hz⟩
  | m, s :: r, h => by
    unfold smsW at h
    have g1 := callsS_ok m s h.1
    have g2 := callsB_ok m r h.2
    refine ⟨?_, fun z hz => ?_⟩
    · show (callsS s ++ callsB r).length ≤ 6 * (cntS s + cntB r)
      rw [List.length_append]; omega
    · have hz : z ∈ callsS s ++ callsB r := hz
      exact (List.mem_append.mp hz).elim (g1.2 z) (g2.2 z)
end
/-! ### programs that are drawn are programs -/
theorem nameOk_w {z : Str} (h : nameOk z = true) : okW (.str z) = true := by unfold okW; exact decide_eq_true (Nat.le_trans (nameOk_len h) (by decide))
theorem Wf_w {ns ks : List Str} (hn : ∀ z ∈ ns, nameOk z = true) (hk : ∀ z ∈ ks, nameOk z = true) {e : Ex} (h : e.Wf ns ks) : okW e.d = true :=
  Ex.okw_d (fun z hz => Nat.le_trans (nameOk_len (hn z hz)) (by decide)) (fun z hz => Nat.le_trans (nameOk_len (hk z hz)) (by decide)) h
theorem test_w {t : Str} (h : t ∈ tests) : okW (.str t) = true ∧ isTestD (.str t) = true := by
  simp only [tests, List.mem_cons, List.not_mem_nil, or_false] at h
  rcases h with rfl | rfl | rfl <;> exact ⟨by decide +kernel, by decide +kernel⟩
mutual
theorem smW_w {ns ks : List Str} (hn : ∀ z ∈ ns, nameOk z = true) (hk : ∀ z ∈ ks, nameOk z = true) : ∀ (m : Nat) (s : Sm), smW ns ks m s → cntS s < 100000 → okW s.d = true ∧ headOk s.d = true
  | _, .letS z e, h, _ => by
    unfold smW at h
    have hz := hn z h.1
    refine ⟨?_, ?_⟩
    · exact okW_mk (by show 3 < 100000; decide) (okWs_mk (by decide +kernel) (okWs_mk (nameOk_w hz) (okWs_mk (Wf_w hn hk h.2.1) (by unfold okWs; rfl))))
    · show (nameOk z && exprOk 6 e.d) = true
      rw [hz, h.2.1.ok hn hk 6 (by omega)]; rfl
  | _, .stop e, h, _ => by
    unfold smW at h
    refine ⟨?_, ?_⟩
    · exact okW_mk (by show 2 < 100000; decide) (okWs_mk (by decide +kernel) (okWs_mk (Wf_w hn hk h.1) (by unfold okWs; rfl)))
    · show exprOk 6 e.d = true
      exact h.1.ok hn hk 6 (by omega)
  | m, .rep n b, h, hc => by
    unfold smW at h
    obtain ⟨h9, m', _, hb⟩ := h
    have hc : cntB b + 1 < 100000 := hc
    have g := smsW_w hn hk m' b hb (by omega)
    refine ⟨?_, ?_⟩
    · exact okW_mk (by show 3 < 100000; decide) (okWs_mk (by decide +kernel) (okWs_mk (by unfold okW; rfl) (okWs_mk g (by unfold okWs; rfl))))
    · show ((decide ((0 : Int) ≤ n) && decide ((n : Int) ≤ 9)) && true) = true
      rw [decide_eq_true (by omega), decide_eq_true (by omega)]; rfl
  | m, .ifS t a b p q, h, hc => by
    unfold smW at h
    obtain ⟨ht, ha, hb, m', _, hp, hq⟩ := h
    have hc : cntB p + cntB q + 1 < 100000 := hc
    have g1 := smsW_w hn hk m' p hp (by omega)
    have g2 := smsW_w hn hk m' q hq (by omega)
    obtain ⟨t1, t2⟩ := test_w ht
    refine ⟨?_, ?_⟩
    · exact okW_mk (by show 6 < 100000; decide) (okWs_mk (by decide +kernel) (okWs_mk t1 (okWs_mk (Wf_w hn hk ha.1) (okWs_mk (Wf_w hn hk hb.1) (okWs_mk g1 (okWs_mk g2 (by unfold okWs; rfl)))))))
    · show (isTestD (.str t) && (exprOk 6 a.d && exprOk 6 b.d) && (true && true)) = true
      rw [t2, ha.1.ok hn hk 6 (by omega), hb.1.ok hn hk 6 (by omega)]; rfl
theorem smsW_w {ns ks : List Str} (hn : ∀ z ∈ ns, nameOk z = true) (hk : ∀ z ∈ ks, nameOk z = true) : ∀ (m : Nat) (l : List Sm), smsW ns ks m l → cntB l < 100000 → okW (.tup (Sm.ds l)) = true
  | m, l, h, hc => by
    refine okW_mk (by rw [ds_length]; exact Nat.lt_of_le_of_lt (cntB_len l) hc) ?_
    exact smsW_ws hn hk m l h hc
theorem smsW_ws {ns ks : List Str} (hn : ∀ z ∈ ns, nameOk z = true) (hk : ∀ z ∈ ks, nameOk z = true) : ∀ (m : Nat) (l : List Sm), smsW ns ks m l → cntB l < 100000 → okWs (Sm.ds l) = true
  | _, [], _, _ => by unfold Sm.ds okWs; rfl
  | m, s :: r, h, hc => by
    unfold smsW at h
    have hc : cntS s + cntB r < 100000 := hc
    show okWs (s.d :: Sm.ds r) = true
    exact okWs_mk (smW_w hn hk m s h.1 (by omega)).1 (smsW_ws hn hk m r h.2 (by omega))
end
theorem blocksOf_sm (s : Sm) : blocksOf s.d = (blocksX s).map Sm.ds := by cases s <;> rfl
mutual
theorem vis_sm {ns ks : List Str} (hn : ∀ z ∈ ns, nameOk z = true) (hk : ∀ z ∈ ks, nameOk z = true) : ∀ (n m : Nat) (s : Sm) (c : Nat), m ≤ n → smW ns ks m s → c + cntS s ≤ 30 → visL (visF n) (blocksOf s.d) (c + 1) = .ok (c + cntS s)
  | n, m, .letS z e, c, _, h, hc => rfl
  | n, m, .stop e, c, _, h, hc => rfl
  | n, m, .rep k b, c, hm, h, hc => by
    unfold smW at h
    obtain ⟨_, m', em, hb⟩ := h
    have hc : c + (cntB b + 1) ≤ 30 := hc
    cases n with
    | zero => omega
    | succ n =>
    have g := vis_sms hn hk n m' b (c + 1) (by omega) hb (by omega)
    show (match visF (n + 1) (Sm.ds b) (c + 1) with | .bad e => Vis.bad e | .ok c' => Vis.ok c') = _
    rw [g]
    show Vis.ok (c + 1 + cntB b) = .ok (c + (cntB b + 1))
    congr 1; omega
  | n, m, .ifS t a b p q, c, hm, h, hc => by
    unfold smW at h
    obtain ⟨_, _, _, m', em, hp, hq⟩ := h
    have hc : c + (cntB p + cntB q + 1) ≤ 30 := hc
    cases n with
    | zero => omega
    | succ n =>
    have g := vis_sms hn hk n m' p (c + 1) (by omega) hp (by omega)
    have g2 := vis_sms hn hk n m' q (c + 1 + cntB p) (by omega) hq (by omega)
    show (match visF (n + 1) (Sm.ds p) (c + 1) with | .bad e => Vis.bad e | .ok c' => (match visF (n + 1) (Sm.ds q) c' with | .bad e => Vis.bad e | .ok c' => Vis.ok c')) = _
    rw [g]
    show (match visF (n + 1) (Sm.ds q) (c + 1 + cntB p) with | .bad e => Vis.bad e | .ok c' => Vis.ok c') = _
    rw [g2]
    show Vis.ok (c + 1 + cntB p + cntB q) = .ok (c + (cntB p + cntB q + 1))
    congr 1; omega
theorem vis_sms {ns ks : List Str} (hn : ∀ z ∈ ns, nameOk z = true) (hk : ∀ z ∈ ks, nameOk z = true) : ∀ (n m : Nat) (l : List Sm) (c : Nat), m ≤ n → smsW ns ks m l → c + cntB l ≤ 30 → visF (n + 1) (Sm.ds l) c = .ok (c + cntB l)
  | n, m, [], c, _, h, hc => rfl
  | n, m, s :: r, c, hm, h, hc => by
    unfold smsW at h
    have hc : c + (cntS s + cntB r) ≤ 30 := hc
    have h1 : 1 ≤ cntS s := by cases s <;> unfold cntS <;> omega
    have g1 := vis_sm hn hk n m s c hm h.1 (by omega)
    have g2 := vis_sms hn hk n m r (c + cntS s) hm h.2 (by omega)
    show visS (visF n) (s.d :: Sm.ds r) c = _
    rw [vis_blk (smW_w hn hk m s h.1 (by omega)).2 (by omega), g1]
    show visF (n + 1) (Sm.ds r) (c + cntS s) = _
    rw [g2]
    show Vis.ok (c + cntS s + cntB r) = .ok (c + (cntS s + cntB r))
    congr 1; omega
end
/-! ### texts of expressions -/
def sgnT (o : Str) : Str := if o = "add" then "+" else if o = "sub" then "-" else if o = "mul" then "*" else "/"
def sgnW (o : Str) : Str := if o = "add" then " + " else if o = "sub" then " - " else if o = "mul" then " * " else " / "
def exT : Ex → Str
  | .num i => toString i
  | .lx => "x"
  | .ly => "y"
  | .nm z => z
  | .call f a b => f ++ "(" ++ exT a ++ ", " ++ exT b ++ ")"
  | .bin o a b => "(" ++ exT a ++ sgnW o ++ exT b ++ ")"
theorem str_assoc (a b c : Str) : a ++ b ++ c = a ++ (b ++ c) := ext_tl (by rw [tl_append, tl_append, tl_append, tl_append, List.append_assoc])
theorem str_empty (z : Str) : Str.empty ++ z = z := ext_tl (by rw [tl_append]; rfl)
theorem exT_call (f : Str) (a b : Ex) : Str.empty ++ f ++ "(" ++ exT a ++ ", " ++ exT b ++ ")" = exT (.call f a b) := by rw [str_empty]; rfl
theorem exT_bin {o : Str} (ho : o ∈ (["add", "sub", "mul", "div"] : List Str)) (a b : Ex) : Str.empty ++ "(" ++ exT a ++ " " ++ sgnT o ++ " " ++ exT b ++ ")" = exT (.bin o a b) := by
  rw [str_empty]
  show _ = "(" ++ exT a ++ sgnW o ++ exT b ++ ")"
  have e : ∀ y : Str, y ++ " " ++ sgnT o ++ " " = y ++ sgnW o := fun y => by
    rw [str_assoc, str_assoc]
    congr 1
    simp only [List.mem_cons, List.not_mem_nil, or_false] at ho
    rcases ho with rfl | rfl | rfl | rfl <;> decide +kernel
  rw [e]
theorem str_len (a b : Str) : (a ++ b).length = a.length + b.length := by rw [len_tl, tl_append, List.length_append, len_tl, len_tl]
theorem num_len {i : Int} (h1 : -999 ≤ i) (h2 : i ≤ 999) : (Str.ofString (toString i)).length ≤ 4 := by
  rw [len_tl, tl_int]
  have h := numL_len (n := i.natAbs) (k := 3) (by decide) (by show i.natAbs < 1000; omega)
  unfold intL
  split
  · rw [List.length_cons]; omega
  · omega
theorem exT_len {ns ks : List Str} (hn : ∀ z ∈ ns, nameOk z = true) (hk : ∀ z ∈ ks, nameOk z = true) {e : Ex} (h : e.Wf ns ks) : (exT e).length + 10 ≤ 16 * 2 ^ (e.dp - 1) := by
  induction h with
  | num h1 h2 => have := num_len h1 h2; show (Str.ofString (toString _)).length + 10 ≤ 16 * 1; omega
  | lx => show (Str.ofString "x").length + 10 ≤ 16 * 1; decide
  | ly => show (Str.ofString "y").length + 10 ≤ 16 * 1; decide
  | @nm z h => have := nameOk_len (hn z h); show z.length + 10 ≤ 16 * 1; omega
  | @call f a b hf ha hb iha ihb =>
    have p1 := a.dp_pos
    have p2 := b.dp_pos
    have m1 : 2 ^ (a.dp - 1) ≤ 2 ^ (max a.dp b.dp - 1) := Nat.pow_le_pow_right (by decide) (by omega)
    have m2 : 2 ^ (b.dp - 1) ≤ 2 ^ (max a.dp b.dp - 1) := Nat.pow_le_pow_right (by decide) (by omega)
    have e : 2 ^ ((Ex.call f a b).dp - 1) = 2 ^ (max a.dp b.dp - 1) * 2 := by
      rw [Ex.dp_call, ← Nat.pow_succ]; congr 1; omega
    have hz := nameOk_len (hk f hf)
    rw [e]
    show (f ++ "(" ++ exT a ++ ", " ++ exT b ++ ")").length + 10 ≤ _
    simp only [str_len]
    have l1 : (Str.ofString "(").length = 1 := by decide
    have l2 : (Str.ofString ", ").length = 2 := by decide
    have l3 : (Str.ofString ")").length = 1 := by decide
    omega
  | @bin o a b ho ha hb iha ihb =>
    have p1 := a.dp_pos
    have p2 := b.dp_pos
    have m1 : 2 ^ (a.dp - 1) ≤ 2 ^ (max a.dp b.dp - 1) := Nat.pow_le_pow_right (by decide) (by omega)
    have m2 : 2 ^ (b.dp - 1) ≤ 2 ^ (max a.dp b.dp - 1) := Nat.pow_le_pow_right (by decide) (by omega)
    have e : 2 ^ ((Ex.bin o a b).dp - 1) = 2 ^ (max a.dp b.dp - 1) * 2 := by
      rw [Ex.dp_bin, ← Nat.pow_succ]; congr 1; omega
    rw [e]
    show ("(" ++ exT a ++ sgnW o ++ exT b ++ ")" : Str).length + 10 ≤ _
    simp only [str_len]
    have l1 : (Str.ofString "(").length = 1 := by decide
    have l2 : (sgnW o).length = 3 := by
      simp only [List.mem_cons, List.not_mem_nil, or_false] at ho
      rcases ho with rfl | rfl | rfl | rfl <;> decide +kernel
    have l3 : (Str.ofString ")").length = 1 := by decide
    omega
theorem exT_small {ns ks : List Str} (hn : ∀ z ∈ ns, nameOk z = true) (hk : ∀ z ∈ ks, nameOk z = true) {e : Ex} (h : e.Wf ns ks) {n : Nat} (hd : e.dp ≤ n) (h6 : n ≤ 6) : (exT e).length ≤ 502 := by
  have h1 := exT_len hn hk h
  have h2 : 2 ^ (e.dp - 1) ≤ 2 ^ 5 := Nat.pow_le_pow_right (by decide) (by omega)
  omega
end DL

namespace DL
open PySem PySem.Spec PyProof.Rows L2
section
variable {X : Cx} {Wx : WX} {a b c e o : Expr} {es : List Expr} {da db dc de do' : DE} {dl : DA} {pos apos : Pos}
/-! ### raise C(v), C an own class over ValueError whose __init__ stores one field alone -/
def dRaiseF (C : Addr) (f : Str) (dl : DA) : DS := fun D env L => dl env L (fun ds L1 => match ds with
  | [v] => D.ex ⟨.ref C, [f], [v]⟩ env L1
  | _ => False) D.ex
theorem s_raiseF {x : Str} {C : Addr} {ps : List Str} {f : Str} {p pos2 : Pos} {k : Nat} (T : ExCls X.prog X.w X.K X.mg X.base x C ps (spIf C f)) (hcalm : X.calm = true) (hr : Room k X.A) (h2 : 2 ≤ k) (tk : Takes X Wx) (hg : Gl X x) (ha : QA X Wx [e] dl)
    (hdb : (x == ("__debug__" : Str)) = false := by decide) (he : starEach [e] X.env = (false, eval e X.env) :: starEach [] X.env := by rfl) (hpl : (backTo pos (starEach [] X.env)).any (·.1) = false := by rfl) :
    QS X Wx (.Raise (some (.Call (.Name x p) [e] [] pos)) none pos2) (dRaiseF C f dl) := by
  obtain ⟨fI, fd, iC, tI, F1, hb⟩ := T.make_
  obtain ⟨ta, pa, sa⟩ := ha.ex
  refine ⟨_, ps_raise (W := Wx) hcalm tk (pmk_oex T.oex iC tI F1 (hr.mono h2) hb .nil (fun _ _ _ _ _ _ _ h => by obtain ⟨_, _, _, _, _, _, _, _, _, _, _, _, z⟩ := h; exact z.elim) hg T.gC pa hdb he hpl), fun σ H env L D' D st h ok => ?_⟩
  refine sa σ H env L _ _ _ st h (fun ds L1 vs H1 h1 g1 j1 r1 => ?_) ok.ex
  split at h1
  · rename_i v
    cases r1 with
    | cons rv r2 =>
      cases r2
      rename_i vv
      refine ⟨by simp, fun q hq => ⟨q, vv, rfl, upd_same, fun d hd hne => ?_⟩⟩
      have hd1 : H1 d = none := by rw [upd_ne hne] at hd; exact hd
      refine ⟨rfl, d, [(f, vv)], upd_same, ?_, hd1, ?_⟩
      · rw [upd_ne hne, upd_same]
      · have s : Same H1 (upd (del (upd (upd (upd H1 q (exo q C none)) d (exd d [(f, vv)])) q (exo q C (some d))) q) d (.xd [(f, vv)])) := fun b u hb => by
          have n1 : b ≠ q := ne_of_none hb hq
          have n2 : b ≠ d := ne_of_none hb hd1
          rw [upd_ne n2, del_ne n1, upd_ne n1, upd_ne n2, upd_ne n1]
          exact hb
        have g2 := g1.trans (Go.same (L := L1) s)
        have j2 := j1.same s
        exact ok.ex ⟨.ref C, [f], [v]⟩ env L1 d _ σ h1 g2 (st.go g2 j2) ⟨j1.notIn hd1, [vv], upd_same, rfl, .cons (rv.go (Go.same s)) .nil⟩
  · exact h1.elim
end
section
variable {P : Program} {w : World} {K : PySem.W.Frag} {mg : Str → Option Value} {base : Heap}
theorem initf_ok {qual f : Str} {st : Stmt} {fI C : Addr} {fd : FuncData} {p5 p6 p7 p8 : Pos} (F : Fun K "__init__" qual st fI fd) (S : FnScope ["self", f] ["self", f] (defScope st))
    (hbd : defBody st = [.Assign [.Attribute (.Name "self" p5) f p6] (.Name f p7) p8]) (hs : (defScope st).names.lookup ("self" : Str) = some .local) (hf : (defScope st).names.lookup f = some .local)
    (hd : (f == ("__debug__" : Str)) = false) (hcd : (f == ("__classdict__" : Str)) = false) (T : OexC K C) (h2 : PySem.W.findIn K (.ref C) f = some none) : FnOk P w K mg base (L2.CX P w) 1 fI fd ["self", f] (spIf C f) := by
  refine F.okX S (fun vs H Q E h => ?_) (fun cdv A outer s H vs Q E hr h => ?_)
  · obtain ⟨a, v, rfl, _⟩ := h
    rfl
  · obtain ⟨a, v, rfl, ha, q⟩ := h
    rw [hbd]
    refine ⟨_, pss_one (ps_ost (pv 0 rfl (.inl hs)) (pv 1 rfl (.inl hf) hd hcd) (by rfl)), ?_⟩
    exact ⟨v, rfl, .ref a, rfl, a, C, rfl, T, h2, .inl ⟨ha, fun d hd hne => q d hd hne⟩⟩
end
end DL

namespace DL
open PySem PySem.Spec PyProof.Rows L2
theorem mul_one (l : Addr) (items : Array Value) (n : Nat) (dd : Option Addr) (sl : Array (Option Value)) (u : Tok) :
    Meets (Builtin.«tuple.__mul__» ⟨[.ref l, .int 1 u], []⟩) (fun _ R s => s.heap.get? l = some { cls := .type "tuple", dict := dd, data := .seq items n, slots := sl } ∧ R (.ok (.ret (Value.ref l))) s) :=
  .of_wp fun prog w A R s h => by
    obtain ⟨hp, g, d, tk, os⟩ := s
    obtain ⟨hl, h⟩ := h
    have f1 := AutoSeq1.idx_int
    wp_walk using wpAny_loadPart' hl
    exact ⟨_, rfl, h⟩
theorem mul_zero (l : Addr) (items : Array Value) (n : Nat) (dd : Option Addr) (sl : Array (Option Value)) (u : Tok) (hn : items.isEmpty = false) :
    Meets (Builtin.«tuple.__mul__» ⟨[.ref l, .int 0 u], []⟩) (fun _ R s => s.heap.get? l = some { cls := .type "tuple", dict := dd, data := .seq items n, slots := sl } ∧
      R (.ok (.ret (Value.ref s.heap.objs.size))) { s with heap := s.heap.push { cls := Value.type "tuple", data := Data.seq #[] }, toks := s.toks }) :=
  .of_wp fun prog w A R s h => by
    obtain ⟨hp, g, d, tk, os⟩ := s
    obtain ⟨hl, h⟩ := h
    have f1 := AutoSeq1.idx_int
    wp_walk using wpAny_loadPart' hl
    exact ⟨_, rfl, h⟩
section
variable {X : Cx} {Wx : WX} {a b c e o : Expr} {es : List Expr} {da db dc de do' : DE} {dl : DA} {pos apos : Pos}
/-- a tuple times 0 or 1 -/
def rRepF (K : PySem.W.Frag) : R2 := fun x y H Q => ∃ l k xs, x = .ref l ∧ y = .int k ∧ SqT K H l xs ∧ xs ≠ [] ∧ ((k = 1 ∧ Q (.ref l) H) ∨ (k = 0 ∧ ∀ p, H p = none → Q (.ref p) (upd H p (.tup []))))
theorem op_repF : OpR X (binaryOp .Mult) (rRepF X.K) := by
  intro pins st σ H x y v u Q I rx ry hq
  obtain ⟨l, k, xs, rfl, rfl, hT, hne, hk⟩ := hq
  cases rx
  obtain ⟨t, rfl⟩ := ry
  obtain ⟨its, r, ⟨⟨cl, dd, dat, sl⟩, ho, hc, n, hd⟩, hs⟩ := I.tuple hT
  simp only at hc hd
  subst hc
  subst hd
  have hi : its.toArray.isEmpty = false := by
    rcases its with _ | ⟨z, zs⟩
    · cases r; exact absurd rfl hne
    · rfl
  rcases hk with ⟨rfl, q⟩ | ⟨rfl, q⟩
  · refine wpAny_binaryOp_repeat_ref (T := "tuple") (U := "int") (by decide) ⟨_, ho, rfl⟩ (fun s' => typeIs_int s' 1 t) noFill_tuple_mul F.fills_int_mul F.slot_int_rmul repeat_tuple F.slot_int_index.lookup
      (call_meets F.slot_int_rmul (typeIs_int st 1 t) F.entry_int_rmul (F.args_int_rmul_2 _ _) (int_rmul_tuple 1 t l its.toArray n dd sl)
        ⟨ho, rfl, ⟨_, ho, rfl⟩, call_meets F.slot_tuple_mul ⟨_, ho, rfl⟩ F.entry_tuple_mul (F.args_tuple_mul_2 _ _) (mul_one l its.toArray n dd sl t) ⟨ho, ?_⟩⟩)
    exact ⟨.ref l, H, I, rfl, q⟩
  · refine wpAny_binaryOp_repeat_ref (T := "tuple") (U := "int") (by decide) ⟨_, ho, rfl⟩ (fun s' => typeIs_int s' 0 t) noFill_tuple_mul F.fills_int_mul F.slot_int_rmul repeat_tuple F.slot_int_index.lookup
      (call_meets F.slot_int_rmul (typeIs_int st 0 t) F.entry_int_rmul (F.args_int_rmul_2 _ _) (int_rmul_tuple 0 t l its.toArray n dd sl)
        ⟨ho, rfl, ⟨_, ho, rfl⟩, call_meets F.slot_tuple_mul ⟨_, ho, rfl⟩ F.entry_tuple_mul (F.args_tuple_mul_2 _ _) (mul_zero l its.toArray n dd sl t hi) ⟨ho, ?_⟩⟩)
    refine ⟨.ref st.heap.objs.size, _, I.laid (t' := st.toks) (o := .tup []) (fun b ob q => Heap.get?_push_of_some _ q) (Nat.le_refl _) ?_, rfl, q _ (I.hok.fresh (Nat.le_refl _))⟩
    exact ⟨Nat.zero_le _, [], .nil, IsTup.new _ _⟩
def gRepA : G2 := fun a b _ k => match a, b with
  | .tup xs, .int n => (xs ≠ [] ∧ 0 ≤ n ∧ n ≤ 1000 ∧ xs.length ≤ 1000) ∧ k (.tup (List.replicate n.toNat xs).flatten)
  | _, _ => False
theorem oq_repA : OQ X (binaryOp .Mult) gRepA := ⟨_, opr_or op_repF op_repT, fun H L va vb a b k Q j ra rb h hk => by
  unfold gRepA at h
  split at h
  · rename_i xs n
    cases rb
    obtain ⟨p, vs, rfl, hp, rv⟩ := con_tup j ra rfl
    obtain ⟨⟨h1, h2, h3, h4⟩, h⟩ := h
    have hv : vs ≠ [] := fun e0 => h1 (by subst e0; cases rv; rfl)
    by_cases n2 : 2 ≤ n
    · refine .inr ⟨p, _, vs, rfl, rfl, hp, hv, n2, h3, by rw [rv.length]; exact h4, fun l hl => ?_⟩
      have s := same_new hl (.tup (List.replicate n.toNat vs).flatten)
      exact hk _ _ _ h s (.tup (.inl ⟨j.notIn hl, .inl upd_same⟩) ((rep_all rv n.toNat).go (Go.same s)))
    · by_cases n1 : n = 1
      · subst n1
        refine .inl ⟨p, _, vs, rfl, rfl, hp, hv, .inl ⟨rfl, ?_⟩⟩
        rw [show (List.replicate (1 : Int).toNat xs).flatten = xs from by show xs ++ [] = xs; rw [List.append_nil]] at h
        exact hk _ _ _ h (Same.refl H) ra
      · have n0 : n = 0 := by omega
        subst n0
        refine .inl ⟨p, _, vs, rfl, rfl, hp, hv, .inr ⟨rfl, fun l hl => ?_⟩⟩
        have s := same_new hl (.tup [])
        exact hk _ _ _ h s (.tup (.inl ⟨j.notIn hl, .inl upd_same⟩) .nil)
  · exact h.elim⟩
/-- dict([(key, value), ..]): a plain datum; the keys differ -/
def pairD : D → Option (Key × D)
  | .tup [a, b] => (keyD a).map fun k => (k, b)
  | _ => none
def pairsD : List D → Option (List (Key × D))
  | [] => some []
  | d :: r => match pairD d, pairsD r with
    | some p, some l => some (p :: l)
    | _, _ => none
theorem pairs_rp {L : Led} {K : PySem.W.Frag} {H : Hp} (j : JL K L H) : ∀ {xs : List D} {l : List (Key × D)} {vs : List V}, pairsD xs = some l → RpAll L K H vs xs → ∃ (ps : List Addr) (kvs : List (Key × V)), vs = ps.map V.ref ∧ Paired (fun p kv => SqT K H p [kV kv.1, kv.2]) ps kvs ∧ kvs.map (·.1) = l.map (·.1) ∧ RpAll L K H (kvs.map (·.2)) (l.map (·.2))
  | [], l, _, h, .nil => by cases h; exact ⟨[], [], rfl, .nil, rfl, .nil⟩
  | d :: r, l, _, h, .cons h1 h2 => by
    unfold pairsD at h
    split at h
    · rename_i p l' hp hl
      cases h
      obtain ⟨ps, kvs, e1, e2, e3, e4⟩ := pairs_rp j hl h2
      unfold pairD at hp
      split at hp
      · rename_i a b
        cases hk : keyD a with
        | none => rw [hk] at hp; cases hp
        | some q =>
          rw [hk] at hp
          cases hp
          obtain ⟨t, us, rfl, ht, ru⟩ := con_tup j h1 rfl
          cases ru with
          | cons ra rr =>
            cases rr with
            | cons rb rn =>
              cases rn
              cases key_of ra hk
              exact ⟨t :: ps, (q, _) :: kvs, by rw [e1]; rfl, .cons ht e2, by rw [List.map_cons, e3]; rfl, .cons rb e4⟩
      · cases hp
    · cases h
theorem zip_fs {α β : Type} : ∀ l : List (α × β), l = (l.map (·.1)).zip (l.map (·.2))
  | [] => rfl
  | p :: r => by rw [List.map_cons, List.map_cons, List.zip_cons_cons, ← zip_fs r]
def gDictOf : GC := fun ds L k => match ds with
  | [d] => match con L d with
    | .lst xs => match pairsD xs with
      | some l => (l.map (·.1)).Nodup ∧ k (.dk (l.map (·.1)) (l.map (·.2)))
      | none => False
    | _ => False
  | _ => False
theorem cq_dict (hcalm : X.calm = true) : CQ X (.type "dict") gDictOf := ⟨_, call_dictP hcalm, fun H L vs ds k Q j r h hk => by
  unfold gDictOf at h
  split at h
  · cases r with
    | cons r1 r2 =>
      cases r2
      split at h
      · rename_i xs hd
        obtain ⟨a, vs, rfl, hs, rv⟩ := con_lst j r1 hd
        split at h
        · rename_i l hl
          obtain ⟨ps, kvs, rfl, e2, e3, e4⟩ := pairs_rp j hl rv
          refine ⟨a, ps, kvs, rfl, SqL.of hs, e2, fun q hq => ?_⟩
          rw [merge_fresh kvs [] (by rw [List.map_nil, List.nil_append, e3]; exact h.1), List.nil_append]
          have s := same_new hq (.dK kvs)
          have ez : kvs = (l.map (·.1)).zip (kvs.map (·.2)) := by
            rw [← e3]
            exact zip_fs kvs
          refine hk _ _ _ h.2 s (.dk (xs := kvs.map (·.2)) (j.notIn hq) (.inl (by rw [← ez]; exact upd_same)) (by rw [← e3, List.length_map, List.length_map]) (e4.go (Go.same s)))
        · exact h.elim
      · exact h.elim
  · exact h.elim⟩
end
end DL

namespace DL
open PySem L2
/-! ### isinstance with an own class; what is never read -/
theorem kit_own {K : PySem.W.Frag} {t : Value} {C : Addr} {cl : ClassData} {b : Bool} (ht : (t == .ref C) = false) (hc : PySem.W.clsIn K C = some cl) (hy : PySem.W.typeIn K (.ref C) = some (.type "type")) (hs : PySem.W.subIn K t (.ref C) = some b) : PySem.W.kitOne K t (.ref C) = some b := by
  unfold PySem.W.kitOne
  rw [if_neg (by rw [ht]; decide)]
  unfold PySem.W.kitCls
  dsimp only
  rw [hc, hy, if_pos (by simp), hs]
/-- what a class must be known for, that its instances are asked for their class -/
structure InsC (K : PySem.W.Frag) (C : Addr) : Prop where
  cl : Cls K C
  ha : PySem.W.findIn K (.ref C) "__class__" = some (some (.builtin "object.__class__"))
  hn : PySem.W.specialIn K (.builtin "object.__class__") "__get__" = some (some (.builtin "getset_descriptor.__get__"))
  htk : PySem.W.takesIn K (.builtin "object.__class__") = some true
  hm : PySem.W.mroIn K C (.type "object") = some true
section
variable {X : Cx} {Wx : WX} {a b c e o : Expr} {es rest : List Expr} {da db dc de do' di : DE} {dt du : DT} {dl dk : DA} {pos : Pos}
def gIsC (K : PySem.W.Frag) (C : Addr) : G1 := fun a L k => match con L a with
  | .obj C' _ _ => ∃ b, (InsC K C' ∧ PySem.W.kitOne K (.ref C') (.ref C) = some b) ∧ k (.bl b)
  | c => match tyD c with
    | some t => ∃ b, PySem.W.kitOne K (.type t.nm) (.ref C) = some b ∧ k (.bl b)
    | none => False
def gcIsC (K : PySem.W.Frag) (C : Addr) : GC := fun ds L k => match ds with
  | [d, .ptr C'] => C' = C ∧ gIsC K C d L k
  | _ => False
theorem tyX_obj {L : Led} {K : PySem.W.Frag} {H : Hp} {v : V} {d : D} {C : Addr} {ns : List Str} {ds : List D} (j : JL K L H) (r : Rp L K H v d) (h : con L d = .obj C ns ds) (hI : InsC K C) : TyX K H v (.ref C) := by
  obtain ⟨a, dx, vs, rfl, e, _⟩ := con_obj j r h
  exact .base (.ins e hI.cl hI.ha hI.hn hI.htk hI.hm)
theorem cq_isC {K : PySem.W.Frag} (hK : X.K = K) {C : Addr} : CQ X (.builtin "isinstance") (gcIsC K C) := ⟨_, call_isi, fun H L vs ds k Q j r h hk => by
  subst hK
  unfold gcIsC at h
  split at h
  · rename_i d C'
    obtain ⟨rfl, h⟩ := h
    cases r with
    | cons r1 r2 => cases r2 with
      | cons r2 r3 =>
      cases r3
      cases r2
      unfold gIsC at h
      split at h
      · rename_i hc
        obtain ⟨b, ⟨hI, hb⟩, h⟩ := h
        exact ⟨_, _, _, _, _, rfl, .own _, tyX_obj j r1 hc hI, hb, hk _ _ H h (Same.refl H) (.bl _)⟩
      · split at h
        · rename_i t ht
          obtain ⟨b, hb, h⟩ := h
          exact ⟨_, _, _, _, _, rfl, .own _, tyX_con j r1 ht, hb, hk _ _ H h (Same.refl H) (.bl _)⟩
        · exact h.elim
  · exact h.elim⟩
theorem q_isC {K : PySem.W.Frag} {p p2 : Pos} {T : Str} {C : Addr} (hK : X.K = K) (ha : QE X Wx e da) (hmT : X.mg T = some (.ref C)) (hg : Gl X "isinstance") (hm : X.mg "isinstance" = none) (hgT : Gl X T)
    (hd : (T == ("__debug__" : Str)) = false := by decide) (hs : starEach (e :: [.Name T p2]) X.env = (false, eval e X.env) :: starEach [.Name T p2] X.env := by rfl) (hv0 : bootBuiltins "isinstance" = some (.builtin "isinstance") := by decide +kernel) :
    QE X Wx (.Call (.Name "isinstance" p) [e, .Name T p2] [] pos) (dUn (gIsC K C) da) := by
  refine (q_callB (g := gcIsC K C) (cq_isC hK) hg hm hv0 (a_cons ha (a_cons (q_glob (v := .ref C) (d := .ptr C) hgT hmT rfl (fun _ _ => .ptr _) hd) a_nil (by rfl)) hs) (by decide) (by decide) hs (by rfl)).w ?_
  intro env L k x h
  exact (show dCB (gcIsC K C) (dCons da (dCons (dC (.ptr C)) dNil)) env L k x from by
    unfold dCB dCons dC dNil
    unfold dUn at h
    refine cast ?_ h
    congr 1
    funext a L1
    show _ = (C = C ∧ _)
    simp)
def dNev : DE := fun _ _ _ _ => False
theorem q_nev : QE X Wx e dNev := ⟨fun _ _ _ => False, ⟨fun _ _ _ _ _ _ h => h.elim⟩, fun _ _ _ _ _ _ _ _ h _ _ => h.elim⟩
end
end DL

namespace DL
open PySem L2
/-- a while by a measure -/
theorem whD_inv {dt : DT} {db : DS} {En : DEnds} (I : Nat → DEnv → Led → Prop)
    (step : ∀ (E' : DEnds) (m : Nat) (env : DEnv) (L : Led), E'.rt = En.rt → E'.ex = En.ex → E'.bk = En.nx → E'.ct = E'.nx → I m env L → (∀ m' env' L', m' < m → I m' env' L' → E'.nx env' L') →
      dt env L (fun b L1 => match b with | true => db E' env L1 | false => En.nx env L1) En.ex) {m : Nat} {env : DEnv} {L : Led} (h : I m env L) : ∃ n, whD dt db En n env L := by
  have key : ∀ (n m : Nat) (env : DEnv) (L : Led), m < n → I m env L → whD dt db En n env L := fun n => by
    induction n with
    | zero => intro m env L h; exact absurd h (Nat.not_lt_zero _)
    | succ n ih =>
      intro m env L hm hi
      rw [whD_succ]
      exact step { En with nx := whD dt db En n, ct := whD dt db En n, bk := En.nx } m env L rfl rfl rfl rfl hi fun m' env' L' h1 h2 => ih m' env' L' (by omega) h2
  exact ⟨m + 1, key _ _ _ _ (Nat.lt_succ_self m) h⟩
section
variable {X : Cx} {Wx : WX} {a b c e o : Expr} {es : List Expr} {da db dc de do' di : DE} {dl : DA} {pos apos : Pos}
/-! ### == and != with an empty list or tuple -/
def gEqE (neg : Bool) : G2 := fun a b L k => match con L a, b with
  | .lst xs, .lst [] => k (.bl (if neg then !xs.isEmpty else xs.isEmpty))
  | .tup xs, .tup [] => k (.bl (if neg then !xs.isEmpty else xs.isEmpty))
  | .non, .lst [] => k (.bl neg)
  | _, _ => False
def rEmp (K : PySem.W.Frag) (neg : Bool) : R2 := fun x y H Q =>
  (∃ a b xs, x = .ref a ∧ y = .ref b ∧ SqL K H a xs ∧ SqL K H b [] ∧ Q (.bl (if neg then !xs.isEmpty else xs.isEmpty)) H) ∨
  (∃ a b xs, x = .ref a ∧ y = .ref b ∧ SqT K H a xs ∧ SqT K H b [] ∧ Q (.bl (if neg then !xs.isEmpty else xs.isEmpty)) H) ∨
  (∃ b, x = .non ∧ y = .ref b ∧ SqL K H b [] ∧ Q (.bl neg) H)
theorem isEmp_of {xs : List V} {its : List Value} (r : Vals xs its) : xs.isEmpty = its.isEmpty := by cases r <;> rfl
theorem op_eqEmp (hu : X.A.units + 64 < cLine) : OpR X (compareOp .Eq) (rEmp X.K false) := by
  intro pins s σ H x y v u Q I rx ry h
  have hu' : X.A.units < cLine := by omega
  rcases h with ⟨a, b, xs, rfl, rfl, ha, hb, q⟩ | ⟨a, b, xs, rfl, rfl, ha, hb, q⟩ | ⟨b, rfl, rfl, hb, q⟩
  · cases rx; cases ry
    obtain ⟨its, rv, pl, hz⟩ := I.list ha
    obtain ⟨its2, rv2, pl2, hz2⟩ := I.list hb
    cases rv2
    cases its with
    | nil =>
      cases rv
      exact SeqAt.RcAt.lists (e := fun _ => true) pl.isList pl2.isList rfl hu' (fun j h1 h2 => absurd h1 (Nat.not_lt_zero j)) X.prog X.w X.xe _ ⟨.bl _, H, I, rfl, q⟩
    | cons z r =>
      cases rv
      exact SeqAt.RcAt.lists_lengths pl.isList pl2.isList (by simp) hu' X.prog X.w X.xe _ ⟨.bl _, H, I, rfl, q⟩
  · cases rx; cases ry
    obtain ⟨its, rv, pl, hz⟩ := I.tuple ha
    obtain ⟨its2, rv2, pl2, hz2⟩ := I.tuple hb
    cases rv2
    refine SeqAt.RcAt.tuples (e := fun _ => true) pl pl2 hu' (fun j h1 h2 => absurd h2 (by simp)) X.prog X.w X.xe _ ⟨.bl _, H, I, ?_, q⟩
    show (_ : Value) = _
    rw [isEmp_of rv]
    cases its <;> simp
  · cases rx; cases ry
    obtain ⟨its2, rv2, pl2, hz2⟩ := I.list hb
    exact SeqAt.RcAt.none_list pl2.isList hu' X.prog X.w X.xe _ ⟨.bl _, H, I, rfl, q⟩
theorem op_neEmp (hu : X.A.units + 64 < cLine) : OpR X (compareOp .NotEq) (rEmp X.K true) := by
  intro pins s σ H x y v u Q I rx ry h
  have hu' : X.A.units < cLine := by omega
  rcases h with ⟨a, b, xs, rfl, rfl, ha, hb, q⟩ | ⟨a, b, xs, rfl, rfl, ha, hb, q⟩ | ⟨b, rfl, rfl, hb, q⟩
  · cases rx; cases ry
    obtain ⟨its, rv, pl, hz⟩ := I.list ha
    obtain ⟨its2, rv2, pl2, hz2⟩ := I.list hb
    cases rv2
    cases its with
    | nil =>
      cases rv
      exact SeqAt.RcNeAt.lists (e := fun _ => true) pl.isList pl2.isList rfl hu' (fun j h1 h2 => absurd h1 (Nat.not_lt_zero j)) X.prog X.w X.xe _ ⟨.bl _, H, I, rfl, q⟩
    | cons z r =>
      cases rv
      exact SeqAt.RcNeAt.lists_lengths pl.isList pl2.isList (by simp) hu' X.prog X.w X.xe _ ⟨.bl _, H, I, rfl, q⟩
  · cases rx; cases ry
    obtain ⟨its, rv, pl, hz⟩ := I.tuple ha
    obtain ⟨its2, rv2, pl2, hz2⟩ := I.tuple hb
    cases rv2
    refine SeqAt.RcNeAt.tuples (e := fun _ => true) pl pl2 hu' (fun j h1 h2 => absurd h2 (by simp)) X.prog X.w X.xe _ ⟨.bl _, H, I, ?_, q⟩
    show (_ : Value) = _
    rw [isEmp_of rv]
    cases its <;> simp
  · cases rx; cases ry
    obtain ⟨its2, rv2, pl2, hz2⟩ := I.list hb
    exact SeqAt.RcNeAt.none_list pl2.isList hu' X.prog X.w X.xe _ ⟨.bl _, H, I, rfl, q⟩
theorem emp_rp {L : Led} {K : PySem.W.Frag} {H : Hp} {vs : List V} {ds : List D} (r : RpAll L K H vs ds) : vs.isEmpty = ds.isEmpty := by cases r <;> rfl
theorem sim_emp {K : PySem.W.Frag} {neg : Bool} : Sim2 K (rEmp K neg) (gEqE neg) := fun H L va vb a b k Q j ra rb h hk => by
  unfold gEqE at h
  split at h
  · rename_i xs hc
    obtain ⟨p, vs, rfl, e1, r1⟩ := con_lst j ra hc
    cases rb with
    | lst n s q =>
      cases q
      exact .inl ⟨p, _, vs, rfl, rfl, SqL.of e1, SqL.of s, by rw [emp_rp r1]; exact hk _ _ H h (Same.refl H) (.bl _)⟩
  · rename_i xs hc
    obtain ⟨p, vs, rfl, e1, r1⟩ := con_tup j ra hc
    cases rb with
    | tup s q =>
      cases q
      exact .inr (.inl ⟨p, _, vs, rfl, rfl, e1, s.sq, by rw [emp_rp r1]; exact hk _ _ H h (Same.refl H) (.bl _)⟩)
  · rename_i hc
    have e0 := con_flat j ra hc trivial
    subst e0
    cases ra
    cases rb with
    | lst n s q =>
      cases q
      exact .inr (.inr ⟨_, rfl, rfl, SqL.of s, hk _ _ H h (Same.refl H) (.bl _)⟩)
  · exact h.elim
theorem oq_eqE (hu : X.A.units + 64 < cLine) : OQ X (compareOp .Eq) (gEqE false) := ⟨_, op_eqEmp hu, sim_emp⟩
theorem oq_neE (hu : X.A.units + 64 < cLine) : OQ X (compareOp .NotEq) (gEqE true) := ⟨_, op_neEmp hu, sim_emp⟩
/-! ### a list that is made by + and will change -/
def dOpL (g : G2L) (da db : DE) : DE := fun env L k x => da env L (fun a L1 => db env L1 (fun b L2 => g a b L2 k) x) x
theorem q_opL {op : Operator} {r : R2} {g : G2L} (ho : OpR X (binaryOp op) r) (hs : Sim2L X.K r g) (ha : QE X Wx a da) (hb : QE X Wx b db) : QE X Wx (.BinOp a op b pos) (dOpL g da db) := by
  obtain ⟨ta, pa, sa⟩ := ha.ex
  obtain ⟨tb, pb, sb⟩ := hb.ex
  refine ⟨_, pe_op ho pa pb, fun σ H env L k x Q st h hk hx => ?_⟩
  refine sa σ H env L _ x _ st h (fun d1 L1 v1 H1 h1 g1 j1 r1 => ?_) hx
  refine sb σ H1 env L1 _ x _ (st.go g1 j1) h1 (fun d2 L2 v2 H2 h2 g2 j2 r2 => ?_) (hx.go g1)
  exact hs H2 L2 v1 v2 d1 d2 k Q j2 (r1.go g2) r2 h2 (hk.go (g1.trans g2))
def gAddM : G2L := fun a b L k => match con L a, con L b with
  | .lst xs, .lst ys => xs.length + ys.length ≤ sizeLine ∧ ∀ p, ¬ inL L p → k (.ptr p) ((p, .lst (xs ++ ys)) :: L)
  | _, _ => False
theorem sim_addM {K : PySem.W.Frag} : Sim2L K rCat gAddM := fun H L va vb a b k Q j ra rb h hk => by
  unfold gAddM at h
  split at h
  · rename_i xs ys hc hd
    obtain ⟨p, vs, rfl, e1, r1⟩ := con_lst j ra hc
    obtain ⟨q, ws, rfl, e2, r2⟩ := con_lst j rb hd
    refine ⟨p, q, vs, ws, rfl, rfl, e1, e2, by rw [r1.length, r2.length]; exact h.1, fun l hl => ?_⟩
    have nl := j.notIn hl
    have g4 : Go L ((l, .lst (xs ++ ys)) :: L) H (upd H l (.lst (vs ++ ws))) := fun b u n e => ⟨fun m => (inL_cons.mp m).elim (fun z => ne_of_none e hl z) n, by rw [upd_ne (ne_of_none e hl)]; exact e⟩
    obtain ⟨j4, g5⟩ := j.push (d := .lst (xs ++ ys)) hl (o := .lst (vs ++ ws)) ⟨_, upd_same, (r1.go g4).append (r2.go g4)⟩
    exact hk _ _ _ _ (h.2 l nl) g5 j4 (.ptr l)
  · exact h.elim
theorem q_addM (ha : QE X Wx a da) (hb : QE X Wx b db) : QE X Wx (.BinOp a .Add b pos) (dOpL gAddM da db) := q_opL op_cat sim_addM ha hb
/-! ### xs.pop() of a list of the ledger -/
def dPop (do' : DE) : DE := fun env L k x => do' env L (fun o L1 => match o with
  | .ptr p => match L1.lookup p with
    | some (.lst ds) => match ds.getLast? with
      | some d => k d (setL L1 p (.lst ds.dropLast))
      | none => False
    | _ => False
  | _ => False) x
theorem RpAll.dropLast {L : Led} {K : PySem.W.Frag} {H : Hp} {vs : List V} {ds : List D} (h : RpAll L K H vs ds) : RpAll L K H vs.dropLast ds.dropLast := by
  rw [List.dropLast_eq_take, List.dropLast_eq_take, h.length]
  exact h.take _
theorem q_pop (ho : QE X Wx o do') (hbase : attributeBase o "pop" X.env (eval o X.env) = eval o X.env := by rfl) (hline : (apos.endLine == pos.line) = true := by rfl) :
    QE X Wx (.Call (.Attribute o "pop" apos) [] [] pos) (dPop do') := by
  obtain ⟨to, po, so⟩ := ho.ex
  refine ⟨_, pe_bm0 PySem.F.plainAttrs_list PySem.F.slot_list_pop PySem.F.type_list_pop mt_pop po hbase hline, fun σ H env L k x Q st h hk hx => ?_⟩
  refine so σ H env L _ x _ st h (fun o L1 vo H1 h1 g1 j1 r1 => ?_) hx
  split at h1
  · rename_i p
    cases r1
    split at h1
    · rename_i ds hl
      split at h1
      · rename_i d hd
        obtain ⟨vs, e0, rv⟩ := j1.look hl
        have hp := inL_of_lookup hl
        rw [List.getLast?_eq_getElem?] at hd
        rw [← rv.length] at hd
        obtain ⟨v, hv, rd⟩ := rv.get hd
        refine ⟨.inl ⟨rfl, _, SqL.of e0⟩, p, vs, v, rfl, rfl, e0, hv, ?_⟩
        have g4 : Go L1 (setL L1 p (.lst ds.dropLast)) H1 (upd H1 p (.lst vs.dropLast)) := go_set hp
        have j4 : JL X.K (setL L1 p (.lst ds.dropLast)) (upd H1 p (.lst vs.dropLast)) := j1.put hp ⟨_, upd_same, (rv.go g4).dropLast⟩
        exact hk _ _ _ _ h1 (g1.trans g4) j4 (rd.go g4)
      · exact h1.elim
    · exact h1.elim
  · exact h1.elim
/-! ### o[i], o2[j] = e1, e2: two places of lists of the ledger -/
def putL (v : D) (o i : D) (L : Led) (k : Led → Prop) : Prop := match o, i with
  | .ptr p, .int z => match L.lookup p with
    | some (.lst ds) => match ixN ds.length z with
      | some j => k (setL L p (.lst (ds.set j v)))
      | none => False
    | _ => False
  | _, _ => False
def dStore2 (dl : DA) (do1 di1 do2 di2 : DE) : DS := fun D env L => dl env L (fun vs L1 => match vs with
  | [v, w] => do1 env L1 (fun o L2 => di1 env L2 (fun i L3 => putL v o i L3 fun L4 => do2 env L4 (fun o L5 => di2 env L5 (fun i L6 => putL w o i L6 fun L7 => D.nx env L7) D.ex) D.ex) D.ex) D.ex
  | _ => False) D.ex
theorem put_sim {K : PySem.W.Frag} {H : Hp} {L : Led} {o i v : D} {vo vi vv : V} {k : Led → Prop} {Q : Hp → Prop} (j : JL K L H) (ro : Rp L K H vo o) (ri : Rp L K H vi i) (rv : Rp L K H vv v) (h : putL v o i L k) (hk : ∀ L' H', k L' → Go L L' H H' → JL K L' H' → Q H') : rSetL vo vi vv H Q := by
  unfold putL at h
  split at h
  · cases ro with
    | ptr p =>
    cases ri with
    | int z =>
    split at h
    · rename_i ds hl
      split at h
      · rename_i q hq
        obtain ⟨vs, e1, rvs⟩ := j.look hl
        have hp := inL_of_lookup hl
        have g4 : Go L (setL L _ (.lst (ds.set q v))) H (upd H _ (.lst (vs.set q vv))) := go_set hp
        have j4 : JL K (setL L _ (.lst (ds.set q v))) (upd H _ (.lst (vs.set q vv))) := j.put hp ⟨_, upd_same, (rvs.go g4).set (rv.go g4) q⟩
        exact ⟨_, vs, _, q, rfl, rfl, e1, by rw [rvs.length]; exact hq, hk _ _ h g4 j4⟩
      · exact h.elim
    · exact h.elim
  · exact h.elim
theorem s_store2 {o1 i1 o2 i2 : Expr} {do1 di1 do2 di2 : DE} {p1 p2 tp vp : Pos} {kk kv : Nat} {dl : DA} (hc : X.calm = true) (hl : QA X Wx es dl) (ho1 : QE X Wx o1 do1) (hi1 : QE X Wx i1 di1) (ho2 : QE X Wx o2 do2) (hi2 : QE X Wx i2 di2)
    (h1 : ∀ h0 : PE X o1 (teOf X.K Wx do1), ∀ h1 : PE X i1 (teOf X.K Wx di1), PG X (.Subscript o1 i1 p1) (L2.gSub (teOf X.K Wx do1) (teOf X.K Wx di1) rSetL) := by exact fun h0 h1 => pg_sub h0 h1 set_list)
    (h2 : ∀ h0 : PE X o2 (teOf X.K Wx do2), ∀ h1 : PE X i2 (teOf X.K Wx di2), PG X (.Subscript o2 i2 p2) (L2.gSub (teOf X.K Wx do2) (teOf X.K Wx di2) rSetL) := by exact fun h0 h1 => pg_sub h0 h1 set_list)
    (hn : (assignEach [.Subscript o1 i1 p1, .Subscript o2 i2 p2] X.env).length = 2 := by rfl) (hst : (assignEach [.Subscript o1 i1 p1, .Subscript o2 i2 p2] X.env).findIdx? (·.1) = none := by rfl)
    (hs1 : (assignEach [.Subscript o1 i1 p1, .Subscript o2 i2 p2] X.env).map (·.2) = assign (.Subscript o1 i1 p1) X.env :: (assignEach [.Subscript o2 i2 p2] X.env).map (·.2) := by rfl)
    (hs2 : (assignEach [.Subscript o2 i2 p2] X.env).map (·.2) = assign (.Subscript o2 i2 p2) X.env :: (assignEach [] X.env).map (·.2) := by rfl)
    (hs : swapsWithSole [.Tuple [.Subscript o1 i1 p1, .Subscript o2 i2 p2] kk tp] (.Tuple es kv vp) pos.line X.env = pure false := by rfl) (hw : swappedStores [.Tuple [.Subscript o1 i1 p1, .Subscript o2 i2 p2] kk tp] (.Tuple es kv vp) X.env = pure none := by rfl)
    (ha : (assignEach [.Tuple [.Subscript o1 i1 p1, .Subscript o2 i2 p2] kk tp] X.env).map (·.2) = [assign (.Tuple [.Subscript o1 i1 p1, .Subscript o2 i2 p2] kk tp) X.env] := by rfl) :
    QS X Wx (.Assign [.Tuple [.Subscript o1 i1 p1, .Subscript o2 i2 p2] kk tp] (.Tuple es kv vp) pos) (dStore2 dl do1 di1 do2 di2) := by
  obtain ⟨te, pe, se⟩ := hl.ex
  refine ⟨_, ps_asg (pe_tup pe) (pg_tup hc (pgs_cons (h1 ho1.pe hi1.pe) (pgs_cons (h2 ho2.pe hi2.pe) pgs_nil hs2) hs1) hn hst) hs hw ha, fun σ H env L D' D st h ok => ?_⟩
  refine se σ H env L _ _ _ st h (fun ds L1 vs H1 h1 g1 j1 r1 => ?_) ok.ex
  split at h1
  · rename_i v w
    cases r1 with
    | @cons vv _ _ _ rv r1 =>
    cases r1 with
    | @cons vw _ _ _ rw r1 =>
    cases r1
    refine ⟨by show 2 ≤ sizeLine; decide, fun p hp => ?_⟩
    have s0 : Same H1 (upd H1 p (.tup [vv, vw])) := same_new hp _
    have g0 := (Go.same s0 : Go L1 L1 H1 _)
    refine ⟨p, _, rfl, .inl (.inl upd_same), rfl, vv, _, rfl, ?_⟩
    have st0 := (st.go g1 j1).go g0 (j1.same s0)
    refine ⟨env, L1, _, D'.ex, st0, h1, fun o L2 vo H2 h2 g2 j2 r2 => ?_, (ok.ex.go g1).go g0⟩
    refine ⟨env, L2, _, D'.ex, st0.go g2 j2, h2, fun i L3 vi H3 h3 g3 j3 r3 => ?_, ((ok.ex.go g1).go g0).go g2⟩
    refine put_sim j3 (r2.go g3) r3 (((rv.go g0).go g2).go g3) h3 fun L4 H4 h4 g4 j4 => ?_
    have st4 := ((st0.go g2 j2).go g3 j3).go g4 j4
    have x4 := ((((ok.ex.go g1).go g0).go g2).go g3).go g4
    refine ⟨vw, _, rfl, ?_⟩
    refine ⟨env, L4, _, D'.ex, st4, h4, fun o L5 vo H5 h5 g5 j5 r5 => ?_, x4⟩
    refine ⟨env, L5, _, D'.ex, st4.go g5 j5, h5, fun i L6 vi H6 h6 g6 j6 r6 => ?_, x4.go g5⟩
    refine put_sim j6 (r5.go g6) r6 ((((((rw.go g0).go g2).go g3).go g4).go g5).go g6) h6 fun L7 H7 h7 g7 j7 => ?_
    refine ⟨rfl, ?_⟩
    exact ok.nx env _ σ _ h7 ((((((((g1.trans g0).trans g2).trans g3).trans g4).trans g5).trans g6)).trans g7) (((st4.go g5 j5).go g6 j6).go g7 j7)
  · exact h1.elim
/-! ### for i, x in enumerate(xs) -/
def enumD : Nat → List D → List D
  | _, [] => []
  | n, d :: r => .tup [.int n, d] :: enumD (n + 1) r
theorem enumD_get : ∀ (ds : List D) (n i : Nat) (d : D), (enumD n ds)[i]? = some d → ∃ y, ds[i]? = some y ∧ d = .tup [.int ((n + i : Nat) : Int), y]
  | [], n, i, d, h => by cases h
  | x :: r, n, 0, d, h => by cases h; exact ⟨x, rfl, rfl⟩
  | x :: r, n, i + 1, d, h => by
    obtain ⟨y, h1, h2⟩ := enumD_get r (n + 1) i d h
    exact ⟨y, h1, by rw [h2, show n + 1 + i = n + (i + 1) by omega]⟩
theorem enumD_len : ∀ (ds : List D) (n : Nat), (enumD n ds).length = ds.length
  | [], _ => rfl
  | _ :: r, n => by show (enumD (n + 1) r).length + 1 = _; rw [enumD_len r]; rfl
theorem it_enum {K : PySem.W.Frag} {L : Led} {H : Hp} {a : Addr} {vs : List V} {as : List D} (h : SqL' L K H a vs) (r : RpAll L K H vs as) : ItD K L H (Ite K a) (enumD 0 as) := fun L' H' g j i => by
  have e1 := (g.sqL h).sq
  refine ⟨fun d hd => ?_, fun hi => ⟨vs, e1, by rw [enumD_len] at hi; rw [r.length]; omega⟩⟩
  obtain ⟨x, q1, rfl⟩ := enumD_get as 0 i d hd
  obtain ⟨vx, hx, rx⟩ := (r.go g).get q1
  refine ⟨⟨vs, vx, e1, hx⟩, fun z H'' yl => ?_⟩
  obtain ⟨T, x', rfl, nT, rfl, f1⟩ := yl
  have k1 := f1 vs e1
  rw [hx] at k1
  cases k1
  have s := same_new nT (.tup [.int ((i : Nat) : Int), vx])
  refine ⟨s, .tup (.inl ⟨j.notIn nT, .inl upd_same⟩) (.cons ?_ (.cons (rx.go (Go.same s)) .nil))⟩
  rw [Nat.zero_add]
  exact .int _
def diEnum (dl : DA) : DI := fun env L k x => dl env L (fun ds L1 => match ds with
  | [.lst as] => k (enumD 0 as) L1
  | [.ro as] => k (enumD 0 as) L1
  | _ => False) x
theorem i_enum {p tpos : Pos} {elts : List Expr} {kk : Nat} (hg : Gl X "enumerate") (hm : X.mg "enumerate" = none) (ha : QA X Wx [e] dl) (hs : starEach [e] X.env = [(false, eval e X.env)] := by rfl) : QI X Wx (.Tuple elts kk tpos) (.Call (.Name "enumerate" p) [e] [] pos) (diEnum dl) := by
  obtain ⟨ta, pa, sa⟩ := ha.ex
  refine ⟨_, pi_enum hg hm pa hs, fun σ H env L k x R st h hk hx => ?_⟩
  refine sa σ H env L _ x _ st h (fun ds L1 vs H1 h1 g1 j1 r1 => ?_) hx
  split at h1
  · cases r1 with
    | cons r1 r2 =>
      cases r2
      cases r1 with
      | lst n1 s1 q1 => exact ⟨_, _, rfl, SqL.of s1, hk _ L1 _ H1 h1 g1 j1 (it_enum (.inl ⟨n1, .inl s1⟩) q1)⟩
  · cases r1 with
    | cons r1 r2 =>
      cases r2
      cases r1 with
      | ro s1 q1 => exact ⟨_, _, rfl, s1.sq, hk _ L1 _ H1 h1 g1 j1 (it_enum s1 q1)⟩
  · exact h1.elim
/-! ### max of a list of ints; tuple of a text -/
def intsOf : List D → Option (List Int)
  | [] => some []
  | .int z :: r => match intsOf r with
    | some l => some (z :: l)
    | none => none
  | _ => none
theorem intsOf_eq : ∀ {ds : List D} {l : List Int}, intsOf ds = some l → ds = l.map D.int
  | [], l, h => by cases h; rfl
  | d :: r, l, h => by
    cases d <;> first | (cases h; done) | skip
    unfold intsOf at h
    cases e : intsOf r with
    | none => rw [e] at h; cases h
    | some m => rw [e] at h; cases h; rw [intsOf_eq e]; rfl
theorem intsOf_map : ∀ l : List Int, intsOf (l.map D.int) = some l
  | [] => rfl
  | z :: r => by show (match intsOf (r.map D.int) with | some l => some (z :: l) | none => none) = _; rw [intsOf_map r]
def gMaxL : GC := fun ds L k => match ds with
  | [d] => match con L d with
    | .lst xs => match intsOf xs with
      | some ns => 0 < ns.length ∧ ∀ m, m ∈ ns → (∀ y, y ∈ ns → y ≤ m) → k (.int m)
      | none => False
    | _ => False
  | _ => False
theorem cq_maxL (hc : X.calm = true) : CQ X (.builtin "max") gMaxL := ⟨_, cr_max hc, fun H L vs ds k Q j r h hk => by
  unfold gMaxL at h
  split at h
  · rename_i d
    cases r with
    | cons r1 r2 =>
      cases r2
      split at h
      · rename_i xs hcd
        split at h
        · rename_i ns hn
          obtain ⟨p, ws, rfl, e1, rw⟩ := con_lst j r1 hcd
          rw [intsOf_eq hn] at rw
          cases RpAll.ofInts ns rw
          exact ⟨p, ns, rfl, SqL.of e1, h.1, fun m h1 h2 => hk _ _ H (h.2 m h1 h2) (Same.refl H) (.int _)⟩
        · exact h.elim
      · exact h.elim
  · exact h.elim⟩
theorem call_tuple_sg (hc : X.calm = true) : CallR X (.type "tuple") (fun xs H Q => ∃ z : Str, xs = [.str z] ∧ z.length ≤ sizeLine ∧ ∀ q, H q = none → Q (.ref q) (upd H q (.tup (z.cps.toList.map fun c => V.str ⟨#[c]⟩)))) := by
  intro pins s σ H xs us Q I r h
  obtain ⟨z, rfl, hz, q⟩ := h
  obtain ⟨u, rfl, t, rfl⟩ := vals1 r
  refine call_tuple_str (I.ok.hd hc) z t (fun h' tk acc kp ha => ?_) hz
  have I1 : Inv X pins σ H { s with heap := h', toks := tk } := I.kept (t' := tk) kp
  have hv : Vals (z.cps.toList.map fun c => V.str ⟨#[c]⟩) acc.toList := by
    refine vals_of_at (by rw [List.length_map]; exact ha.1.symm) fun j x y h1 h2 => ?_
    rw [List.getElem?_map] at h1
    obtain ⟨c, u, hc, rfl⟩ := ha.2 j y (by simpa using h2)
    rw [← Array.getElem?_toList] at hc
    rw [hc] at h1
    cases h1
    exact ⟨_, rfl⟩
  have I2 : Inv X pins σ (upd H h'.objs.size (.tup (z.cps.toList.map fun c => V.str ⟨#[c]⟩))) { s with heap := h'.push { cls := .type "tuple", data := .seq acc }, toks := tk } :=
    I1.laid (t' := tk) (fun b o e => Heap.get?_push_of_some _ e) (Nat.le_refl _) (show ObjOk X.prog X.w _ _ _ (.tup _) from ⟨by rw [List.length_map]; exact hz, acc.toList, hv, by simpa using PyProof.Rows.IsTup.new _ _⟩)
  exact ⟨.ref h'.objs.size, _, I2, rfl, q _ (I1.hok.fresh (Nat.le_refl _))⟩
def gTupS : GC := fun ds L k => match ds with
  | [.str z] => z.length ≤ sizeLine ∧ k (.tup (sgD z.cps.toList))
  | _ => False
theorem cq_tupS (hc : X.calm = true) : CQ X (.type "tuple") gTupS := ⟨_, call_tuple_sg hc, fun H L vs ds k Q j r h hk => by
  unfold gTupS at h
  split at h
  · rename_i z
    cases r with
    | cons r1 r2 =>
      cases r2
      cases r1
      refine ⟨z, rfl, h.1, fun p hp => ?_⟩
      refine hk _ _ _ h.2 (same_new hp _) (.tup (.inl ⟨j.notIn hp, .inl upd_same⟩) ?_)
      have := RpAll.strs (L := L) (K := X.K) (H := upd H p (.tup (z.cps.toList.map fun c => V.str ⟨#[c]⟩))) (z.cps.toList.map fun c => (⟨#[c]⟩ : Str))
      rw [List.map_map, List.map_map] at this
      exact this
  · exact h.elim⟩
end
end DL

namespace DL
open PySem PySem.Spec PyProof.Rows L2 TL NumText
/-! ### texts by their signs -/
abbrev mkS (l : List Nat) : Str := ⟨l.toArray⟩
theorem tl_mkS (l : List Nat) : tl (mkS l) = l := rfl
theorem mkS_tl (z : Str) : mkS (tl z) = z := rfl
theorem mkS_len (l : List Nat) : (mkS l).length = l.length := by rw [len_tl, tl_mkS]
theorem mkS_inj {l : List Nat} {z : Str} : (mkS l = z) ↔ (l = tl z) := ⟨fun h => by rw [← h], fun h => by rw [h]⟩
theorem cut_mid (z : Str) (a b : Nat) : tl (cutS z (some (a : Int)) (some (b : Int))) = ((tl z).drop a).take (b - a) := by
  show ((tl z).drop (HT.sIx z.length 0 (some (a : Int)))).take (HT.sIx z.length z.length (some (b : Int)) - HT.sIx z.length 0 (some (a : Int))) = _
  rw [HT.sIx_nat, HT.sIx_nat, tl_len]
  rcases Nat.le_total a (tl z).length with h | h
  · rw [Nat.min_eq_left h]
    rw [List.take_eq_take_iff, List.length_drop]
    omega
  · rw [Nat.min_eq_right h, List.drop_eq_nil_of_le (Nat.le_refl _), List.drop_eq_nil_of_le h, List.take_nil, List.take_nil]
theorem cut_midI (z : Str) (a b : Int) (n m : Nat) (ha : a = (n : Int)) (hb : b = (m : Int)) : cutS z (some a) (some b) = mkS (((tl z).drop n).take (m - n)) := by
  subst ha hb
  exact ext_tl (by rw [cut_mid])
/-- one sign of a text -/
theorem take_one (l : List Nat) (c : Nat) : decide (l.take 1 = [c]) = decide (l.head? = some c) := by
  cases l with
  | nil => rfl
  | cons x r => simp
def figB (c : Nat) : Bool := decide (c ∈ tl figs)
def letB (c : Nat) : Bool := decide (c ∈ tl letters)
/-! ### expressions that are read -/
inductive Fx where
  | deep | num (i : Int) | lx | ly | nm (z : Str) | call (f : Str) (a b : Fx) | bin (o : Str) (a b : Fx)
def Fx.d : Fx → D
  | .deep => .tup [.str "deep"]
  | .num i => .tup [.str "num", .int i]
  | .lx => .tup [.str "x"]
  | .ly => .tup [.str "y"]
  | .nm z => .tup [.str "name", .str z]
  | .call f a b => .tup [.str "call", .str f, a.d, b.d]
  | .bin o a b => .tup [.str o, a.d, b.d]
def Fx.dp : Fx → Nat
  | .deep => 7
  | .call _ a b => max a.dp b.dp + 1
  | .bin _ a b => max a.dp b.dp + 1
  | _ => 1
def Fx.ht : Fx → Nat
  | .call _ a b => max a.ht b.ht + 1
  | .bin _ a b => max a.ht b.ht + 1
  | _ => 1
theorem Fx.ht_dp : ∀ v : Fx, v.ht ≤ v.dp
  | .deep => by decide
  | .num _ => Nat.le_refl _
  | .lx => Nat.le_refl _
  | .ly => Nat.le_refl _
  | .nm _ => Nat.le_refl _
  | .call _ a b => by
    have h1 := Fx.ht_dp a
    have h2 := Fx.ht_dp b
    show max a.ht b.ht + 1 ≤ max a.dp b.dp + 1
    omega
  | .bin _ a b => by
    have h1 := Fx.ht_dp a
    have h2 := Fx.ht_dp b
    show max a.ht b.ht + 1 ≤ max a.dp b.dp + 1
    omega
inductive Fx.W : Fx → Prop
  | deep : Fx.W .deep
  | num {i : Int} : i.natAbs < 1000 → Fx.W (.num i)
  | lx : Fx.W .lx
  | ly : Fx.W .ly
  | nm {z : Str} : nameOk z = true → Fx.W (.nm z)
  | call {f : Str} {a b : Fx} : nameOk f = true → Fx.W a → Fx.W b → Fx.W (.call f a b)
  | bin {o : Str} {a b : Fx} : o ∈ (["add", "sub", "mul", "div"] : List Str) → Fx.W a → Fx.W b → Fx.W (.bin o a b)
/-- what a frame or an answer holds -/
def Fx.sm (v : Fx) : Prop := v.W ∧ (v = .deep ∨ v.dp ≤ 6)
theorem Fx.sm_ht {v : Fx} (h : v.sm) : v.ht ≤ 6 := by
  rcases h.2 with h | h
  · subst h; decide
  · exact Nat.le_trans v.ht_dp h
def numF (cs : List Nat) : Fx := if (topVal cs).natAbs < 1000 then .num (topVal cs) else .deep
def figOk (w : List Nat) : Bool := decide (w ≠ []) && (decide (w = [48]) || decide (w.head? ≠ some 48))
def leafT (l : List Nat) : Option (Fx × List Nat) :=
  let w := l.takeWhile letB
  if w = [120] then some (.lx, l.drop w.length) else if w = [121] then some (.ly, l.drop w.length) else if nameOk (mkS w) = true then some (.nm (mkS w), l.drop w.length) else none
def leafL : List Nat → Option (Fx × List Nat)
  | [] => leafT []
  | c :: r =>
    if c = 45 then
      let w := r.takeWhile figB
      if (figOk w && !decide (w = [48])) = true then some (numF (45 :: w), r.drop w.length) else none
    else if figB c = true then
      let w := (c :: r).takeWhile figB
      if figOk w = true then some (numF w, (c :: r).drop w.length) else none
    else leafT (c :: r)
structure Frm where
  w : Str
  n : Str
  v : Option Fx
def Frm.d (f : Frm) : D := .lst [.str f.w, .str f.n, match f.v with
  | some v => v.d
  | none => .non]
def joinT (f : Frm) (a v : Fx) : Fx := if f.w = "call" then .call f.n a v else .bin f.w a v
def joinF (f : Frm) (a v : Fx) : Fx := if (joinT f a v).dp ≤ 6 then joinT f a v else .deep
def openL (l : List Nat) : Option (Frm × List Nat) :=
  if l.head? = some 40 then some (⟨"", "", none⟩, l.drop 1) else
  let w := l.takeWhile letB
  if nameOk (mkS w) = true ∧ (l.drop w.length).head? = some 40 then some (⟨"call", mkS w, none⟩, l.drop (w.length + 1)) else none
def wordsT : List (Str × D) := [("+", .str "add"), ("-", .str "sub"), ("*", .str "mul"), ("/", .str "div")]
def wordOf (c : Nat) : Option Str := if c = 43 then some "add" else if c = 45 then some "sub" else if c = 42 then some "mul" else if c = 47 then some "div" else none
def contL (f : Frm) (v : Fx) (l : List Nat) : Option (Frm × List Nat) :=
  if f.w = "call" then (if l.take 2 = [44, 32] then some (⟨f.w, f.n, some v⟩, l.drop 2) else none)
  else match l with
    | 32 :: c :: 32 :: r => (match wordOf c with
      | some o => some (⟨o, f.n, some v⟩, r)
      | none => none)
    | _ => none
def closeL : List Frm → Fx → List Nat → Option (List Frm × Fx × List Nat)
  | [], v, l => some ([], v, l)
  | f :: fs, v, l => match f.v with
    | none => some (f :: fs, v, l)
    | some a => if l.head? = some 41 then closeL fs (joinF f a v) (l.drop 1) else none
def rdL : Nat → List Frm → List Nat → Option (Fx × List Nat)
  | 0, _, _ => none
  | n + 1, fs, l => match openL l with
    | some (f, r) => rdL n (f :: fs) r
    | none => match leafL l with
      | none => none
      | some (v, r) => match closeL fs v r with
        | none => none
        | some ([], v', r') => some (v', r')
        | some (f :: fs', v', r') => match contL f v' r' with
          | none => none
          | some (f', r2) => rdL n (f' :: fs') r2
/-! ### what is read is small -/
structure FrmOk (f : Frm) : Prop where
  w : f.w = "call" ∨ (f.v = none ∧ f.w = "") ∨ f.w ∈ (["add", "sub", "mul", "div"] : List Str)
  n : f.w = "call" → nameOk f.n = true
  nl : f.n.length ≤ 6
  v : ∀ a, f.v = some a → a.sm
  e : f.v ≠ none → f.w ≠ ""
theorem numF_sm (cs : List Nat) : (numF cs).sm := by
  unfold numF
  split
  · exact ⟨.num ‹_›, .inr (by show (1 : Nat) ≤ 6; decide)⟩
  · exact ⟨.deep, .inl rfl⟩
theorem leafT_ok {l : List Nat} {v : Fx} {r : List Nat} (h : leafT l = some (v, r)) : v.sm ∧ r.length < l.length := by
  unfold leafT at h
  have key : ∀ w : List Nat, w = l.takeWhile letB → w ≠ [] → (l.drop w.length).length < l.length := fun w hw hn => by
    rw [List.length_drop]
    have : w.length ≤ l.length := by rw [hw]; exact List.IsPrefix.length_le (List.takeWhile_prefix _)
    have : 0 < w.length := List.length_pos_iff.mpr hn
    omega
  dsimp only at h
  split at h
  · cases h; exact ⟨⟨.lx, .inr (by decide)⟩, key _ rfl (by rw [‹l.takeWhile letB = [120]›]; simp)⟩
  · split at h
    · cases h; exact ⟨⟨.ly, .inr (by decide)⟩, key _ rfl (by rw [‹l.takeWhile letB = [121]›]; simp)⟩
    · split at h
      · rename_i hn
        cases h
        refine ⟨⟨.nm hn, .inr (by show (1 : Nat) ≤ 6; decide)⟩, key _ rfl fun e => ?_⟩
        rw [e] at hn
        revert hn
        decide +kernel
      · cases h
theorem leafL_ok {l : List Nat} {v : Fx} {r : List Nat} (h : leafL l = some (v, r)) : v.sm ∧ r.length < l.length := by
  cases l with
  | nil => exact leafT_ok h
  | cons c t =>
    unfold leafL at h
    dsimp only at h
    split at h
    · split at h
      · cases h
        refine ⟨numF_sm _, ?_⟩
        rw [List.length_drop, List.length_cons]
        omega
      · cases h
    · split at h
      · rename_i hf
        split at h
        · cases h
          refine ⟨numF_sm _, ?_⟩
          rw [List.length_drop, List.takeWhile_cons, if_pos hf, List.length_cons, List.length_cons]
          omega
        · cases h
      · exact leafT_ok h
theorem openL_ok {l : List Nat} {f : Frm} {r : List Nat} (h : openL l = some (f, r)) : FrmOk f ∧ r.length < l.length := by
  unfold openL at h
  dsimp only at h
  split at h
  · rename_i h0
    cases h
    refine ⟨⟨.inr (.inl ⟨rfl, rfl⟩), fun e => by revert e; decide +kernel, by decide +kernel, fun a e => by (cases e), fun e => absurd rfl e⟩, ?_⟩
    cases l with
    | nil => cases h0
    | cons c t => rw [List.length_drop, List.length_cons]; omega
  · split at h
    · rename_i h0
      cases h
      refine ⟨⟨.inl rfl, fun _ => h0.1, nameOk_len h0.1, fun a e => by (cases e), fun e => absurd rfl e⟩, ?_⟩
      have hl : 0 < (l.drop (l.takeWhile letB).length).length := by
        cases e : l.drop (l.takeWhile letB).length with
        | nil => rw [e] at h0; cases h0.2
        | cons c t => rw [List.length_cons]; omega
      rw [List.length_drop] at hl ⊢
      omega
    · cases h
theorem joinF_sm {f : Frm} (hf : FrmOk f) {a v : Fx} (he : f.v = some a) (hv : v.sm) : (joinF f a v).sm := by
  have hs := hf.v a he
  have h2 : (joinT f a v).W := by
    unfold joinT
    split
    · rename_i h; exact .call (hf.n h) hs.1 hv.1
    · rename_i h
      refine .bin ?_ hs.1 hv.1
      rcases hf.w with e | e | e
      · exact absurd e h
      · exact absurd e.2 (hf.e (by rw [he]; simp))
      · exact e
  unfold joinF
  split
  · rename_i h; exact ⟨h2, .inr h⟩
  · exact ⟨.deep, .inl rfl⟩
theorem closeL_ok : ∀ {fs : List Frm} {v : Fx} {l : List Nat} {fs' : List Frm} {v' : Fx} {l' : List Nat}, closeL fs v l = some (fs', v', l') → (∀ f ∈ fs, FrmOk f) → v.sm → (∀ f ∈ fs', FrmOk f) ∧ v'.sm ∧ l'.length ≤ l.length
  | [], v, l, fs', v', l', h, hf, hv => by cases h; exact ⟨fun f m => by (cases m), hv, Nat.le_refl _⟩
  | f :: fs, v, l, fs', v', l', h, hf, hv => by
    unfold closeL at h
    split at h
    · cases h; exact ⟨hf, hv, Nat.le_refl _⟩
    · rename_i a ha
      split at h
      · have := closeL_ok h (fun g m => hf g (List.mem_cons_of_mem _ m)) (joinF_sm (hf f List.mem_cons_self) ha hv)
        refine ⟨this.1, this.2.1, Nat.le_trans this.2.2 ?_⟩
        rw [List.length_drop]; omega
      · cases h
theorem wordOf_mem {c : Nat} {o : Str} (h : wordOf c = some o) : o ∈ (["add", "sub", "mul", "div"] : List Str) := by
  unfold wordOf at h
  split at h
  · cases h; decide +kernel
  · split at h
    · cases h; decide +kernel
    · split at h
      · cases h; decide +kernel
      · split at h
        · cases h; decide +kernel
        · cases h
theorem contL_ok {f : Frm} {v : Fx} {l : List Nat} {f' : Frm} {r : List Nat} (h : contL f v l = some (f', r)) (hf : FrmOk f) (hv : v.sm) : FrmOk f' ∧ r.length < l.length := by
  unfold contL at h
  split at h
  · rename_i hc
    split at h
    · rename_i h2
      cases h
      refine ⟨⟨.inl hc, fun _ => hf.n hc, hf.nl, fun a e => by cases e; exact hv, fun _ => by rw [hc]; decide +kernel⟩, ?_⟩
      rw [List.length_drop]
      have : (l.take 2).length = 2 := by rw [h2]; rfl
      rw [List.length_take] at this
      omega
    · cases h
  · split at h
    · split at h
      · rename_i o ho
        cases h
        have ho := wordOf_mem ho
        refine ⟨⟨.inr (.inr ho), fun e => ?_, hf.nl, fun a e => by cases e; exact hv, fun _ e => ?_⟩, ?_⟩
        · have e : o = "call" := e
          subst e; exact absurd ho (by decide +kernel)
        · have e : o = "" := e
          subst e; exact absurd ho (by decide +kernel)
        · simp only [List.length_cons]; omega
      · cases h
    · cases h
theorem rdL_ok : ∀ {n : Nat} {fs : List Frm} {l : List Nat} {v : Fx} {r : List Nat}, rdL n fs l = some (v, r) → (∀ f ∈ fs, FrmOk f) → v.sm ∧ r.length < l.length
  | 0, _, _, _, _, h, _ => by cases h
  | n + 1, fs, l, v, r, h, hf => by
    unfold rdL at h
    split at h
    · rename_i f t ho
      have h1 := openL_ok ho
      have := rdL_ok h (fun g m => (List.mem_cons.mp m).elim (fun e => e ▸ h1.1) (hf g))
      exact ⟨this.1, Nat.lt_trans this.2 h1.2⟩
    · split at h
      · cases h
      · rename_i v1 t hl
        have h1 := leafL_ok hl
        split at h
        · cases h
        · rename_i v2 t2 hc
          cases h
          have := closeL_ok hc hf h1.1
          exact ⟨this.2.1, Nat.lt_of_le_of_lt this.2.2 h1.2⟩
        · rename_i f fs' v2 t2 hc
          have h2 := closeL_ok hc hf h1.1
          split at h
          · cases h
          · rename_i f' t3 hk
            have h3 := contL_ok hk (h2.1 f List.mem_cons_self) h2.2.1
            have := rdL_ok h (fun g m => (List.mem_cons.mp m).elim (fun e => e ▸ h3.1) (fun m => h2.1 g (List.mem_cons_of_mem _ m)))
            exact ⟨this.1, by omega⟩
/-! ### data of such expressions -/
theorem Fx.W.okw {v : Fx} (h : v.W) : okW v.d = true := by
  induction h with
  | deep => decide +kernel
  | num _ => unfold Fx.d; exact okW_mk (by show 2 < 100000; decide) (okWs_mk (by decide +kernel) (okWs_mk (by unfold okW; rfl) (by unfold okWs; rfl)))
  | lx => decide +kernel
  | ly => decide +kernel
  | nm h => unfold Fx.d; exact okW_mk (by show 2 < 100000; decide) (okWs_mk (by decide +kernel) (okWs_mk (nameOk_w h) (by unfold okWs; rfl)))
  | call h _ _ h1 h2 => unfold Fx.d; exact okW_mk (by show 4 < 100000; decide) (okWs_mk (by decide +kernel) (okWs_mk (nameOk_w h) (okWs_mk h1 (okWs_mk h2 (by unfold okWs; rfl)))))
  | bin h _ _ h1 h2 =>
    unfold Fx.d
    refine okW_mk (by show 3 < 100000; decide) (okWs_mk ?_ (okWs_mk h1 (okWs_mk h2 (by unfold okWs; rfl))))
    revert h
    rename_i o _ _ _ _
    intro h
    simp only [List.mem_cons, List.not_mem_nil, or_false] at h
    rcases h with rfl | rfl | rfl | rfl <;> decide +kernel
end DL

namespace DL
open PySem PySem.Spec PyProof.Rows L2 TL NumText
/-! ### what the walks ask of signs -/
theorem cut1 (z : Str) (a : Nat) : cutS z (some (a : Int)) (some ((a : Int) + 1)) = mkS (((tl z).drop a).take 1) := by
  rw [cut_midI z (a : Int) ((a : Int) + 1) a (a + 1) rfl rfl]
  rw [Nat.add_sub_cancel_left]
theorem cutM (z : Str) (a n : Nat) (b : Int) (hb : b = ((a + n : Nat) : Int)) : cutS z (some (a : Int)) (some b) = mkS (((tl z).drop a).take n) := by
  rw [cut_midI z _ _ a (a + n) rfl hb]
  rw [Nat.add_sub_cancel_left]
theorem flS {l : List Nat} {w : Str} (v : List Nat) (h : tl w = v) : flEq (.str (mkS l)) (.str w) = decide (l = v) := by
  show decide (mkS l = w) = _
  rw [← h]
  exact decide_eq_decide.mpr mkS_inj
theorem fl1 {l : List Nat} {w : Str} (c : Nat) (h : tl w = [c]) : flEq (.str (mkS (l.take 1))) (.str w) = decide (l.head? = some c) := by
  rw [flS [c] h, take_one]
theorem inV_sg (c : Nat) : ∀ l : List Nat, inV (.str (mkS [c])) (l.map fun d => V.str ⟨#[d]⟩) = decide (c ∈ l)
  | [] => rfl
  | d :: r => by
    have ih := inV_sg c r
    show (eqV (V.str ⟨#[d]⟩) (.str (mkS [c])) || inV (.str (mkS [c])) (r.map fun d => V.str ⟨#[d]⟩)) = _
    rw [ih]
    have e : eqV (V.str ⟨#[d]⟩) (.str (mkS [c])) = decide (d = c) := by
      show decide ((⟨#[d]⟩ : Str) = mkS [c]) = _
      refine decide_eq_decide.mpr ⟨fun h => ?_, fun h => by subst h; rfl⟩
      have := congrArg tl h
      simpa [tl] using this
    rw [e]
    by_cases h : d = c
    · subst h; simp
    · rw [decide_eq_false h, Bool.false_or]
      exact decide_eq_decide.mpr ⟨fun m => List.mem_cons_of_mem _ m, fun m => (List.mem_cons.mp m).elim (fun e => absurd e.symm h) id⟩
theorem inV_sg0 : ∀ l : List Nat, inV (.str (mkS [])) (l.map fun d => V.str ⟨#[d]⟩) = false
  | [] => rfl
  | d :: r => by
    show (eqV (V.str ⟨#[d]⟩) (.str (mkS [])) || inV (.str (mkS [])) (r.map fun d => V.str ⟨#[d]⟩)) = _
    rw [inV_sg0 r, Bool.or_false]
    show decide ((⟨#[d]⟩ : Str) = mkS []) = false
    exact decide_eq_false fun h => by have := congrArg tl h; simp [tl] at this
def headB (p : Nat → Bool) : List Nat → Bool
  | [] => false
  | c :: _ => p c
theorem inV_fig (l : List Nat) : inV (.str (mkS (l.take 1))) ((tl figs).map fun d => V.str ⟨#[d]⟩) = headB figB l := by
  cases l with
  | nil => exact inV_sg0 _
  | cons c r => exact inV_sg c _
theorem flDs_sg : ∀ l : List Nat, flDs (sgD l) = some (l.map fun d => V.str ⟨#[d]⟩)
  | [] => rfl
  | c :: r => by
    show (match flD (.str ⟨#[c]⟩), flDs (sgD r) with | some v, some vs => some (v :: vs) | _, _ => none) = _
    rw [flDs_sg r]
    rfl
/-- a text that may be read -/
structure OkZ (z : Str) : Prop where
  len : z.length ≤ 90000
  run : ∀ a : Nat, (((tl z).drop a).takeWhile figB).length ≤ 600
theorem OkZ.sz {z : Str} (h : OkZ z) : z.length ≤ sizeLine := Nat.le_trans h.len (by decide)
theorem drop_len (z : Str) {a : Nat} (ha : a ≤ z.length) : ((tl z).drop a).length = z.length - a := by rw [List.length_drop, ← len_tl]
theorem atI_drop {l : List Nat} {a : Nat} {c : Nat} {r : List Nat} (h : l.drop a = c :: r) : atI l (a : Int) = some c := by
  refine atI_nat ?_
  have : (l.drop a)[0]? = some c := by rw [h]; rfl
  rw [List.getElem?_drop] at this
  simpa using this
theorem takeW_drop (p : Nat → Bool) : ∀ l : List Nat, l.take (l.takeWhile p).length = l.takeWhile p
  | [] => rfl
  | c :: r => by
    rw [List.takeWhile_cons]
    split
    · rw [List.length_cons, List.take_succ_cons, takeW_drop p r]
    · rfl
theorem fig_all : ∀ {l : List Nat}, AllDigits (l.takeWhile figB)
  | [] => fun c m => by cases m
  | c :: r => by
    rw [List.takeWhile_cons]
    split
    · rename_i h
      intro d m
      rcases List.mem_cons.mp m with e | m
      · subst e; exact figs_mem.mp (of_decide_eq_true h)
      · exact fig_all d m
    · intro d m; cases m
theorem tops_plain {w : List Nat} (h : w.head? ≠ some 45) : topVal w = ((digitsVal w : Nat) : Int) := by
  unfold topVal
  split
  · exact absurd rfl h
  · rfl
theorem int_run {z : Str} (hl : z.length ≤ 640) (h : (AllDigits (tl z) ∧ tl z ≠ []) ∨ ∃ cs, tl z = 45 :: cs ∧ AllDigits cs ∧ cs ≠ []) : intText? z = some (topVal (tl z)) := by
  rcases h with ⟨h1, h2⟩ | ⟨cs, e, h1, h2⟩
  · rw [tops_plain (fun e => ?_)]
    · exact intText_digits h1 h2 (by omega)
    · cases hz : tl z with
      | nil => exact h2 hz
      | cons c r =>
        rw [hz] at e h1
        cases e
        exact absurd (h1 45 List.mem_cons_self).1 (by decide)
  · rw [e]
    exact intText_neg e h1 h2 (by omega)
theorem figOk_ne {w : List Nat} (h : figOk w = true) : w ≠ [] := by
  unfold figOk at h
  rw [Bool.and_eq_true] at h
  exact of_decide_eq_true h.1
/-! ### .. and of expressions -/
theorem Fx.W.lay {v : Fx} (h : v.W) : PyData.canLay0 (toPy v.d) = true ∧ PyData.depth (toPy v.d) ≤ v.ht := by
  have str : ∀ z : Str, PyData.canLay0 (toPy (.str z)) = PyData.strOk z := fun z => rfl
  induction h with
  | deep => decide +kernel
  | num h => exact ⟨by show (PyData.strOk "num" && (true && true)) = true; decide +kernel, by show (1 : Nat) ≤ 1; decide⟩
  | lx => decide +kernel
  | ly => decide +kernel
  | nm h =>
    refine ⟨?_, by show (1 : Nat) ≤ 1; decide⟩
    show (PyData.strOk "name" && (PyData.strOk _ && true)) = true
    rw [nameOk_str h]
    decide +kernel
  | @call f a b h _ _ h1 h2 =>
    constructor
    · show (PyData.strOk "call" && (PyData.strOk f && (PyData.canLay0 (toPy a.d) && (PyData.canLay0 (toPy b.d) && true)))) = true
      rw [nameOk_str h, h1.1, h2.1]
      decide +kernel
    · show max 0 (max 0 (max (PyData.depth (toPy a.d)) (max (PyData.depth (toPy b.d)) 0))) + 1 ≤ max a.ht b.ht + 1
      have := h1.2; have := h2.2
      omega
  | @bin o a b h _ _ h1 h2 =>
    constructor
    · show (PyData.strOk o && (PyData.canLay0 (toPy a.d) && (PyData.canLay0 (toPy b.d) && true))) = true
      rw [h1.1, h2.1]
      simp only [List.mem_cons, List.not_mem_nil, or_false] at h
      rcases h with rfl | rfl | rfl | rfl <;> decide +kernel
    · show max 0 (max (PyData.depth (toPy a.d)) (max (PyData.depth (toPy b.d)) 0)) + 1 ≤ max a.ht b.ht + 1
      have := h1.2; have := h2.2
      omega
theorem Fx.W.shp {v : Fx} (h : v.W) (hd : v.ht ≤ 60) : shp v.d = true := by
  have := h.lay
  show (PyData.canLay0 (toPy v.d) && decide (PyData.depth (toPy v.d) ≤ 64)) = true
  rw [this.1, decide_eq_true (by omega)]
  rfl
def Fx.isDeep : Fx → Bool
  | .deep => true
  | _ => false
theorem Fx.eqDeep {v : Fx} (h : v.W) : eqD v.d (.tup [.str "deep"]) = v.isDeep := by
  cases h with
  | deep => decide +kernel
  | num _ => rfl
  | lx => decide +kernel
  | ly => decide +kernel
  | nm _ => rfl
  | call _ _ _ => rfl
  | @bin o a b h _ _ =>
    simp only [List.mem_cons, List.not_mem_nil, or_false] at h
    rcases h with rfl | rfl | rfl | rfl <;> rfl
def wordAt : List Nat → Option Str
  | [] => none
  | c :: _ => wordOf c
theorem contL_bin {f : Frm} {v : Fx} (h : f.w ≠ "call") (l : List Nat) : contL f v l = if l.head? = some 32 then (if (l.drop 2).head? = some 32 then (match wordAt (l.drop 1) with
    | some o => some (⟨o, f.n, some v⟩, l.drop 3)
    | none => none) else none) else none := by
  unfold contL
  rw [if_neg h]
  split
  · rfl
  · rename_i hn
    split
    · rename_i h1
      split
      · rename_i h2
        exfalso
        rcases l with _ | ⟨a, _ | ⟨b, _ | ⟨c, r⟩⟩⟩
        · cases h1
        · cases h2
        · cases h2
        · cases h1
          cases h2
          exact hn b r rfl
      · rfl
    · rfl
theorem word_look (l : List Nat) : wordsT.lookup (mkS (l.take 1)) = (wordAt l).map D.str := by
  have e : ∀ (w : Str) (c : Nat), tl w = [c] → (mkS (l.take 1) == w) = decide (l.head? = some c) := fun w c h => by
    rw [← take_one, show (mkS (l.take 1) == w) = decide (mkS (l.take 1) = w) from rfl, ← h]
    exact decide_eq_decide.mpr mkS_inj
  unfold wordsT
  simp only [List.lookup_cons, List.lookup_nil]
  rw [e "+" 43 (by decide +kernel), e "-" 45 (by decide +kernel), e "*" 42 (by decide +kernel), e "/" 47 (by decide +kernel)]
  cases l with
  | nil => rfl
  | cons c r =>
    show _ = (wordOf c).map D.str
    unfold wordOf
    simp only [List.head?_cons, Option.some.injEq]
    by_cases h1 : c = 43
    · simp [h1]
    · by_cases h2 : c = 45
      · simp [h2]
      · by_cases h3 : c = 42
        · simp [h3]
        · by_cases h4 : c = 47
          · simp [h4]
          · simp [h1, h2, h3, h4]
theorem shp_deep : shp (.tup [.str "deep"]) = true := by decide +kernel
end DL

namespace DL
open PySem PySem.Spec PyProof.Rows L2 TL NumText
/-! ### frames in the ledger -/
theorem keep_set {L L' : Led} {p : Addr} {d : D} (h : ¬ inL L p) : keepL L (setL L' p d) = keepL L L' := by
  unfold keepL setL
  induction L' with
  | nil => rfl
  | cons q r ih =>
    rw [List.map_cons, List.filter_cons, List.filter_cons, ih]
    by_cases e : q.1 = p
    · rw [if_pos e]
      rw [decide_eq_false (show ¬ p ∈ L.map (·.1) from h), decide_eq_false (show ¬ q.1 ∈ L.map (·.1) by rw [e]; exact h)]
      rfl
    · rw [if_neg e]
theorem keep_rem {L L' : Led} {p : Addr} (h : ¬ inL L p) : keepL L (remL L' p) = keepL L L' := by
  unfold keepL remL
  rw [List.filter_filter]
  refine List.filter_congr fun q _ => ?_
  by_cases e : q.1 = p
  · rw [decide_eq_false (show ¬ q.1 ∈ L.map (·.1) by rw [e]; exact h), Bool.false_and]
  · rw [decide_eq_true (show q.1 ≠ p from e), Bool.and_true]
structure FsL (L L' : Led) (P : Addr) (ps : List Addr) (fs : List Frm) : Prop where
  keep : keepL L L' = L
  np : ¬ inL L P
  top : L'.lookup P = some (.lst (ps.reverse.map D.ptr))
  all : Paired (fun p f => L'.lookup p = some f.d ∧ ¬ inL L p ∧ p ≠ P) ps fs
  nd : ps.Nodup
theorem paired_mono {α β : Type} {R R' : α → β → Prop} : ∀ {xs : List α} {ys : List β}, (∀ x ∈ xs, ∀ y, R x y → R' x y) → Paired R xs ys → Paired R' xs ys
  | _, _, _, .nil => .nil
  | _, _, h, .cons r t => .cons (h _ List.mem_cons_self _ r) (paired_mono (fun x m y => h x (List.mem_cons_of_mem _ m) y) t)
section
variable {L L' : Led} {P p : Addr} {ps : List Addr} {f f' : Frm} {fs : List Frm}
theorem FsL.start {Q : Addr} (h : ¬ inL L Q) : FsL L ((Q, .lst []) :: L) Q [] [] := ⟨by rw [keep_out h]; exact keep_same rfl, h, lookup_top, .nil, List.nodup_nil⟩
theorem mem_in {ps : List Addr} {fs : List Frm} (h : Paired (fun p f => L'.lookup p = some f.d ∧ ¬ inL L p ∧ p ≠ P) ps fs) : ∀ q ∈ ps, inL L' q ∧ q ≠ P := by
  induction h with
  | nil => intro q m; cases m
  | cons r _ ih =>
    intro q m
    rcases List.mem_cons.mp m with e | m
    · subst e; exact ⟨inL_of_lookup r.1, r.2.2⟩
    · exact ih q m
theorem FsL.push (h : FsL L L' P ps fs) (hp : ¬ inL L' p) (hL : ∀ a, inL L a → inL L' a) : FsL L (setL ((p, f.d) :: L') P (.lst ((ps.reverse.map D.ptr) ++ [.ptr p]))) P (p :: ps) (f :: fs) := by
  have pP : p ≠ P := fun e => hp (by rw [e]; exact inL_of_lookup h.top)
  have npl : ¬ inL L p := fun m => hp (hL _ m)
  refine ⟨?_, h.np, ?_, ?_, ?_⟩
  · rw [keep_set h.np, keep_out npl]; exact h.keep
  · rw [List.reverse_cons, List.map_append]
    exact lookup_setL (by rw [lookup_ne (Ne.symm pP)]; exact h.top)
  · refine .cons ⟨?_, npl, pP⟩ (paired_mono (fun q m g r => ⟨?_, r.2.1, r.2.2⟩) h.all)
    · rw [lookup_set_ne pP]; exact lookup_top
    · rw [lookup_set_ne r.2.2, lookup_ne (fun e => hp (by rw [← e]; exact (mem_in h.all q m).1))]
      exact r.1
  · exact List.nodup_cons.mpr ⟨fun m => hp (mem_in h.all p m).1, h.nd⟩
theorem FsL.pop (h : FsL L L' P (p :: ps) (f :: fs)) : FsL L (setL L' P (.lst (ps.reverse.map D.ptr))) P ps fs ∧ (setL L' P (.lst (ps.reverse.map D.ptr))).lookup p = some f.d := by
  obtain ⟨hk, hn, ht, ha, hd⟩ := h
  cases ha with
  | cons r ha =>
    refine ⟨⟨by rw [keep_set hn]; exact hk, hn, lookup_setL ht, paired_mono (fun q m g r => ⟨by rw [lookup_set_ne r.2.2]; exact r.1, r.2.1, r.2.2⟩) ha, (List.nodup_cons.mp hd).2⟩, ?_⟩
    rw [lookup_set_ne r.2.2]
    exact r.1
theorem FsL.put (h : FsL L L' P (p :: ps) (f :: fs)) : FsL L (setL L' p f'.d) P (p :: ps) (f' :: fs) := by
  obtain ⟨hk, hn, ht, ha, hd⟩ := h
  cases ha with
  | cons r ha =>
    have hd' := List.nodup_cons.mp hd
    refine ⟨by rw [keep_set r.2.1]; exact hk, hn, by rw [lookup_set_ne (Ne.symm r.2.2)]; exact ht, .cons ⟨lookup_setL r.1, r.2.1, r.2.2⟩ (paired_mono (fun q m g r' => ⟨?_, r'.2.1, r'.2.2⟩) ha), hd⟩
    rw [lookup_set_ne (fun e => hd'.1 (by rw [← e]; exact m))]
    exact r'.1
theorem FsL.look (h : FsL L L' P (p :: ps) (f :: fs)) : L'.lookup p = some f.d := by
  cases h.all with
  | cons r _ => exact r.1
end
theorem keep_keys {L L' : Led} (h : keepL L L' = L) : ∀ a, inL L a → inL L' a := fun a m => by
  rw [← h] at m
  exact (inL_keep.mp m).1
theorem Fx.notNon (v : Fx) : isNon v.d = false := by cases v <;> rfl
theorem rdL_succ (n : Nat) (fs : List Frm) (l : List Nat) : rdL (n + 1) fs l = (match openL l with
    | some (f, r) => rdL n (f :: fs) r
    | none => match leafL l with
      | none => none
      | some (v, r) => match closeL fs v r with
        | none => none
        | some ([], v', r') => some (v', r')
        | some (f :: fs', v', r') => match contL f v' r' with
          | none => none
          | some (f', r2) => rdL n (f' :: fs') r2) := rfl
/-- what stands behind a place of a text -/
theorem drop_pos (z : Str) {a : Nat} {l r : List Nat} (e : (tl z).drop a = l) (ha : a ≤ z.length) {m : Nat} (hr : r = l.drop m) : r.length ≤ l.length ∧ (tl z).drop (z.length - r.length) = r ∧ z.length - r.length ≤ z.length := by
  have hl := drop_len z ha
  rw [e] at hl
  have h1 : r.length = l.length - m := by rw [hr, List.length_drop]
  refine ⟨by omega, ?_, Nat.sub_le _ _⟩
  rcases Nat.le_total m l.length with h | h
  · rw [show z.length - r.length = a + m by omega, ← List.drop_drop, e, hr]
  · have : r = [] := by rw [hr]; exact List.drop_eq_nil_of_le h
    rw [this, List.length_nil, Nat.sub_zero]
    exact List.drop_eq_nil_of_le (by rw [← len_tl]; exact Nat.le_refl _)
/-- each step leaves an end of what stood there -/
theorem leafT_suf {l r : List Nat} {v : Fx} (h : leafT l = some (v, r)) : ∃ m, r = l.drop m := by
  unfold leafT at h
  dsimp only at h
  split at h
  · cases h; exact ⟨_, rfl⟩
  · split at h
    · cases h; exact ⟨_, rfl⟩
    · split at h
      · cases h; exact ⟨_, rfl⟩
      · cases h
theorem leafL_suf {l r : List Nat} {v : Fx} (h : leafL l = some (v, r)) : ∃ m, r = l.drop m := by
  cases l with
  | nil => exact leafT_suf h
  | cons c t =>
    unfold leafL at h
    dsimp only at h
    split at h
    · split at h
      · cases h; exact ⟨_ + 1, by rw [List.drop_succ_cons]⟩
      · cases h
    · split at h
      · split at h
        · cases h; exact ⟨_, rfl⟩
        · cases h
      · exact leafT_suf h
theorem openL_suf {l r : List Nat} {f : Frm} (h : openL l = some (f, r)) : ∃ m, r = l.drop m := by
  unfold openL at h
  dsimp only at h
  split at h
  · cases h; exact ⟨_, rfl⟩
  · split at h
    · cases h; exact ⟨_, rfl⟩
    · cases h
theorem contL_suf {f f' : Frm} {v : Fx} {l r : List Nat} (h : contL f v l = some (f', r)) : ∃ m, r = l.drop m := by
  unfold contL at h
  split at h
  · split at h
    · cases h; exact ⟨_, rfl⟩
    · cases h
  · split at h
    · split at h
      · cases h; exact ⟨3, rfl⟩
      · cases h
    · cases h
theorem closeL_suf : ∀ {fs : List Frm} {v : Fx} {l : List Nat} {fs' : List Frm} {v' : Fx} {r : List Nat}, closeL fs v l = some (fs', v', r) → ∃ m, r = l.drop m
  | [], v, l, fs', v', r, h => by cases h; exact ⟨0, rfl⟩
  | f :: fs, v, l, fs', v', r, h => by
    unfold closeL at h
    split at h
    · cases h; exact ⟨0, rfl⟩
    · split at h
      · obtain ⟨m, hm⟩ := closeL_suf h
        exact ⟨1 + m, by rw [hm, List.drop_drop]⟩
      · cases h
end DL

namespace DL
open PySem PySem.Spec PyProof.Rows L2 TL NumText
/-! ### as many turns as there are signs -/
theorem rdL_fuel : ∀ (n m : Nat) (fs : List Frm) (l : List Nat), l.length < n → l.length < m → rdL n fs l = rdL m fs l
  | 0, _, _, _, h, _ => absurd h (Nat.not_lt_zero _)
  | _, 0, _, _, _, h => absurd h (Nat.not_lt_zero _)
  | n + 1, m + 1, fs, l, h1, h2 => by
    rw [rdL_succ, rdL_succ]
    cases ho : openL l with
    | some q =>
      have := (openL_ok ho).2
      exact rdL_fuel n m _ _ (by omega) (by omega)
    | none =>
      cases hl : leafL l with
      | none => rfl
      | some q =>
        have h3 := (leafL_ok hl).2
        show (match closeL fs q.1 q.2 with | none => none | some ([], v', r') => some (v', r') | some (f :: fs', v', r') => match contL f v' r' with | none => none | some (f', r2) => rdL n (f' :: fs') r2) = (match closeL fs q.1 q.2 with | none => none | some ([], v', r') => some (v', r') | some (f :: fs', v', r') => match contL f v' r' with | none => none | some (f', r2) => rdL m (f' :: fs') r2)
        cases hc : closeL fs q.1 q.2 with
        | none => rfl
        | some t =>
          obtain ⟨fs', v', r'⟩ := t
          cases fs' with
          | nil => rfl
          | cons f fs' =>
            obtain ⟨k, hk⟩ := closeL_suf hc
            have h4 : r'.length ≤ q.2.length := by rw [hk, List.length_drop]; omega
            show (match contL f v' r' with | none => none | some (f', r2) => rdL n (f' :: fs') r2) = (match contL f v' r' with | none => none | some (f', r2) => rdL m (f' :: fs') r2)
            cases hd : contL f v' r' with
            | none => rfl
            | some u =>
              obtain ⟨j, hj⟩ := contL_suf hd
              have h5 : u.2.length ≤ r'.length := by rw [hj, List.length_drop]; omega
              exact rdL_fuel n m _ _ (by omega) (by omega)
def rdA (l : List Nat) : Option (Fx × List Nat) := rdL (l.length + 1) [] l
theorem rdA_of {l : List Nat} {n : Nat} (h : l.length < n) : rdL n [] l = rdA l := rdL_fuel _ _ _ _ h (Nat.lt_succ_self _)
theorem rdA_ok {l r : List Nat} {v : Fx} (h : rdA l = some (v, r)) : v.sm ∧ r.length < l.length := rdL_ok h fun f m => by cases m
theorem rdL_suf : ∀ (n : Nat) (fs : List Frm) (l : List Nat) (v : Fx) (r : List Nat), rdL n fs l = some (v, r) → ∃ m, r = l.drop m
  | 0, _, _, _, _, h => by cases h
  | n + 1, fs, l, v, r, h => by
    rw [rdL_succ] at h
    split at h
    · rename_i f t ho
      obtain ⟨m, hm⟩ := openL_suf ho
      obtain ⟨k, hk⟩ := rdL_suf n _ _ _ _ h
      exact ⟨m + k, by rw [hk, hm, List.drop_drop]⟩
    · split at h
      · cases h
      · rename_i v1 t hl
        obtain ⟨m, hm⟩ := leafL_suf hl
        split at h
        · cases h
        · rename_i v2 t2 hc
          cases h
          obtain ⟨k, hk⟩ := closeL_suf hc
          exact ⟨m + k, by rw [hk, hm, List.drop_drop]⟩
        · rename_i f fs' v2 t2 hc
          obtain ⟨k, hk⟩ := closeL_suf hc
          split at h
          · cases h
          · rename_i f' t3 hk2
            obtain ⟨j, hj⟩ := contL_suf hk2
            obtain ⟨i, hi⟩ := rdL_suf n _ _ _ _ h
            exact ⟨m + (k + (j + i)), by rw [hi, hj, hk, hm, List.drop_drop, List.drop_drop, List.drop_drop]⟩
/-! ### lines -/
def wholeL (l : List Nat) : Option Fx := match rdA l with
  | some (v, []) => some v
  | _ => none
inductive Itm where
  | aLet (z : Str) (v : Fx) | aIf (w : Str) (a b : Fx) | aRep (n : Int) | aStop (v : Fx)
def Itm.d : Itm → List D
  | .aLet z v => [.str "let", .str z, v.d]
  | .aIf w a b => [.str "if", .str w, a.d, b.d]
  | .aRep n => [.str "repeat", .int n]
  | .aStop v => [.str "stop", v.d]
def testR (v : Fx) (r : List Nat) : Option Itm :=
  if pre [32, 60, 61, 32] r = true then (wholeL (r.drop 4)).map (.aIf "upto" v) else if pre [32, 60, 32] r = true then (wholeL (r.drop 3)).map (.aIf "less" v) else if pre [32, 61, 32] r = true then (wholeL (r.drop 3)).map (.aIf "equal" v) else none
def testL (l : List Nat) : Option Itm := match rdA (l.drop 3) with
  | none => none
  | some (v, r) => testR v r
def letL (l : List Nat) : Option Itm :=
  let w := (l.drop 4).takeWhile letB
  let r := (l.drop 4).drop w.length
  match (if r.take 3 = [32, 61, 32] then wholeL (r.drop 3) else none) with
  | none => none
  | some v => if nameOk (mkS w) = true then some (.aLet (mkS w) v) else none
def repL (l : List Nat) : Option Itm := match leafL (l.drop 7) with
  | some (.num n, []) => some (.aRep n)
  | some (.deep, []) => some (.aRep (-1))
  | _ => none
def ifP : List Nat := [105, 102, 32]
def stopP : List Nat := [115, 116, 111, 112, 32]
def letP : List Nat := [108, 101, 116, 32]
def repP : List Nat := [114, 101, 112, 101, 97, 116, 32]
def lineL (l : List Nat) : Option Itm :=
  if pre ifP l = true then testL l else if pre stopP l = true then (wholeL (l.drop 5)).map .aStop else if pre letP l = true then letL l else if pre repP l = true then repL l else none
def itmD : Option Itm → D
  | none => .non
  | some i => .lst i.d
theorem pre_len {S l : List Nat} (h : pre S l = true) : S.length ≤ l.length := by
  unfold pre at h
  have := congrArg List.length (eq_of_beq h)
  rw [List.length_take] at this
  omega
def Itm.ok : Itm → Prop
  | .aLet z v => nameOk z = true ∧ v.sm
  | .aIf w a b => w ∈ tests ∧ a.sm ∧ b.sm
  | .aRep n => n.natAbs < 1000
  | .aStop v => v.sm
theorem wholeL_ok {l : List Nat} {v : Fx} (h : wholeL l = some v) : v.sm := by
  unfold wholeL at h
  split at h
  · rename_i w hw; cases h; exact (rdA_ok hw).1
  · cases h
theorem map_some {α β : Type} {f : α → β} {o : Option α} {y : β} (h : o.map f = some y) : ∃ x, o = some x ∧ y = f x := by
  cases o with
  | none => cases h
  | some x => exact ⟨x, rfl, by cases h; rfl⟩
theorem lineL_ok {l : List Nat} {i : Itm} (h : lineL l = some i) : i.ok := by
  unfold lineL at h
  split at h
  · unfold testL at h
    split at h
    · cases h
    · rename_i v r hr
      have hv := (rdA_ok hr).1
      unfold testR at h
      split at h
      · obtain ⟨x, hx, rfl⟩ := map_some h
        exact ⟨by decide +kernel, hv, wholeL_ok hx⟩
      · split at h
        · obtain ⟨x, hx, rfl⟩ := map_some h
          exact ⟨by decide +kernel, hv, wholeL_ok hx⟩
        · split at h
          · obtain ⟨x, hx, rfl⟩ := map_some h
            exact ⟨by decide +kernel, hv, wholeL_ok hx⟩
          · cases h
  · split at h
    · obtain ⟨x, hx, rfl⟩ := map_some h
      exact wholeL_ok hx
    · split at h
      · unfold letL at h
        dsimp only at h
        split at h
        · cases h
        · rename_i v hv
          split at hv
          · split at h
            · cases h; exact ⟨‹_›, wholeL_ok hv⟩
            · cases h
          · cases hv
      · split at h
        · unfold repL at h
          split at h
          · rename_i n hl
            cases h
            have := (leafL_ok hl).1.1
            cases this with
            | num q => exact q
          · cases h; show (-1 : Int).natAbs < 1000; decide
          · cases h
        · cases h
/-! ### blocks that are open -/
structure Blk where
  items : List D
  blk : List D
  els : Option (List D)
def putB (u : Blk) (s : D) : Blk := match u.els with
  | none => { u with blk := u.blk ++ [s] }
  | some e => { u with els := some (e ++ [s]) }
def isIf (u : Blk) : Bool := match u.items with
  | .str z :: _ => decide (z = "if")
  | _ => false
def closeD (u : Blk) : D := .tup (u.items ++ [.tup u.blk] ++ if isIf u = true then [.tup (u.els.getD [])] else [])
def elseP : List Nat := [101, 108, 115, 101]
def endP : List Nat := [101, 110, 100]
def opens : Itm → Bool
  | .aIf _ _ _ => true
  | .aRep _ => true
  | _ => false
def noEls : Option (List D) → Bool
  | some [] => true
  | _ => false
def takeM : List Blk → List Nat → Option (List Blk)
  | [], _ => none
  | t :: r, l =>
    if l = elseP then (if r.isEmpty = false ∧ isIf t = true ∧ t.els.isNone = true then some ({ t with els := some [] } :: r) else none)
    else if l = endP then (match r with
      | [] => none
      | u :: r' => if noEls t.els = true then none else some (putB u (closeD t) :: r'))
    else match lineL l with
      | none => none
      | some i => some (if opens i = true then ⟨i.d, [], none⟩ :: t :: r else putB t (.tup i.d) :: r)
inductive Rd where
  | bad (n : Nat)
  | ok (l : List D)
def takeA : Nat → List Blk → List (List Nat) → Nat ⊕ List Blk
  | _, ms, [] => .inr ms
  | n, ms, l :: r => match takeM ms l with
    | none => .inl n
    | some ms' => takeA (n + 1) ms' r
def prog0 : Blk := ⟨[.str "program"], [], none⟩
def readT (l : List Nat) : Rd :=
  let ls := spl [10] 0 [] l
  match takeA 0 [prog0] ls.dropLast with
  | .inl n => .bad n
  | .inr [m] => if ls.getLast? = some [] then .ok m.blk else .bad (ls.length - 1)
  | .inr _ => .bad (ls.length - 1)
end DL

namespace DL
open PySem PySem.Spec PyProof.Rows L2 TL NumText
/-! ### open blocks in the ledger -/
structure FA where
  q : Addr
  b : Addr
  c : Option Addr
def FA.adr (fa : FA) : List Addr := fa.q :: fa.b :: fa.c.toList
def FA.d (fa : FA) (m : Blk) : D := .lst [.lst m.items, .ptr fa.b, match fa.c with
  | some c => .ptr c
  | none => .non]
structure BlkAt (L L' : Led) (fa : FA) (m : Blk) : Prop where
  q : L'.lookup fa.q = some (fa.d m)
  b : L'.lookup fa.b = some (.lst m.blk)
  c : match fa.c, m.els with
    | none, none => True
    | some c, some e => L'.lookup c = some (.lst e)
    | _, _ => False
  out : ∀ a ∈ fa.adr, ¬ inL L a
def adrs (fas : List FA) : List Addr := fas.flatMap FA.adr
structure BsL (L L' : Led) (P : Addr) (fas : List FA) (ms : List Blk) : Prop where
  keep : keepL L L' = L
  np : ¬ inL L P
  top : L'.lookup P = some (.lst (fas.reverse.map fun fa => D.ptr fa.q))
  all : Paired (BlkAt L L') fas ms
  nd : (P :: adrs fas).Nodup
section
variable {L L' L2 : Led} {P p : Addr} {fa fa' : FA} {fas : List FA} {m m' : Blk} {ms : List Blk}
theorem BlkAt.inl (h : BlkAt L L' fa m) : ∀ a ∈ fa.adr, inL L' a := fun a ha => by
  unfold FA.adr at ha
  rcases List.mem_cons.mp ha with e | ha
  · subst e; exact inL_of_lookup h.q
  · rcases List.mem_cons.mp ha with e | ha
    · subst e; exact inL_of_lookup h.b
    · have hc := h.c
      cases e : fa.c with
      | none => rw [e] at ha; cases ha
      | some c =>
        rw [e] at ha hc
        cases List.mem_singleton.mp ha
        cases e2 : m.els with
        | none => rw [e2] at hc; exact hc.elim
        | some x => rw [e2] at hc; exact inL_of_lookup hc
theorem BlkAt.eqv (h : BlkAt L L' fa m) (e : ∀ a ∈ fa.adr, L2.lookup a = L'.lookup a) : BlkAt L L2 fa m := by
  refine ⟨by rw [e _ List.mem_cons_self]; exact h.q, by rw [e _ (List.mem_cons_of_mem _ List.mem_cons_self)]; exact h.b, ?_, h.out⟩
  have hc := h.c
  cases e1 : fa.c with
  | none =>
    rw [e1] at hc
    cases e2 : m.els with
    | none => trivial
    | some x => rw [e2] at hc; exact hc.elim
  | some c =>
    rw [e1] at hc
    cases e2 : m.els with
    | none => rw [e2] at hc; exact hc.elim
    | some x =>
      rw [e2] at hc
      have : c ∈ fa.adr := by unfold FA.adr; rw [e1]; simp
      show L2.lookup c = _
      rw [e c this]
      exact hc
theorem mem_adrs {a : Addr} : a ∈ adrs (fa :: fas) ↔ a ∈ fa.adr ∨ a ∈ adrs fas := by unfold adrs; rw [List.flatMap_cons, List.mem_append]
theorem all_inl (h : Paired (BlkAt L L') fas ms) : ∀ a ∈ adrs fas, inL L' a := by
  induction h with
  | nil => intro a ha; cases ha
  | cons r _ ih =>
    intro a ha
    rcases mem_adrs.mp ha with e | e
    · exact r.inl a e
    · exact ih a e
theorem BsL.inl (h : BsL L L' P fas ms) : ∀ a ∈ P :: adrs fas, inL L' a := fun a ha => by
  rcases List.mem_cons.mp ha with e | e
  · subst e; exact inL_of_lookup h.top
  · exact all_inl h.all a e
theorem all_eqv (h : Paired (BlkAt L L') fas ms) (e : ∀ a ∈ adrs fas, L2.lookup a = L'.lookup a) : Paired (BlkAt L L2) fas ms := by
  induction h with
  | nil => exact .nil
  | cons r _ ih => exact .cons (r.eqv fun a ha => e a (mem_adrs.mpr (.inl ha))) (ih fun a ha => e a (mem_adrs.mpr (.inr ha)))
/-- the top one changed -/
theorem BsL.mod (h : BsL L L' P (fa :: fas) (m :: ms)) (hb : BlkAt L L2 fa' m') (hk : keepL L L2 = L) (ho : ∀ a, a = P ∨ a ∈ adrs fas → L2.lookup a = L'.lookup a) (hq : fa'.q = fa.q) (nd : (P :: adrs (fa' :: fas)).Nodup) : BsL L L2 P (fa' :: fas) (m' :: ms) := by
  refine ⟨hk, h.np, ?_, ?_, nd⟩
  · rw [ho P (.inl rfl), h.top, List.reverse_cons, List.reverse_cons, List.map_append, List.map_append, List.map_singleton, List.map_singleton, hq]
  · cases h.all with
    | cons r t => exact .cons hb (all_eqv t fun a ha => ho a (.inr ha))
theorem BsL.pop (h : BsL L L' P (fa :: fas) (m :: ms)) : BsL L (setL L' P (.lst (fas.reverse.map fun fa => D.ptr fa.q))) P fas ms ∧ BlkAt L (setL L' P (.lst (fas.reverse.map fun fa => D.ptr fa.q))) fa m := by
  have nd := h.nd
  rw [List.nodup_cons] at nd
  have ne : ∀ a ∈ adrs (fa :: fas), a ≠ P := fun a ha e => nd.1 (e ▸ ha)
  cases h.all with
  | cons r t =>
    refine ⟨⟨by rw [keep_set h.np]; exact h.keep, h.np, lookup_setL h.top, all_eqv t fun a ha => lookup_set_ne (ne a (mem_adrs.mpr (.inr ha))), ?_⟩, r.eqv fun a ha => lookup_set_ne (ne a (mem_adrs.mpr (.inl ha)))⟩
    refine List.nodup_cons.mpr ⟨fun hm => nd.1 (mem_adrs.mpr (.inr hm)), ?_⟩
    have := nd.2
    unfold adrs at this
    rw [List.flatMap_cons] at this
    exact (List.nodup_append.mp this).2.1
theorem BsL.push {items : List D} {b q : Addr} (h : BsL L L' P fas ms) (hb : ¬ inL L' b) (hq : ¬ inL ((b, .lst []) :: L') q) :
    BsL L (setL ((q, FA.d ⟨q, b, none⟩ ⟨items, [], none⟩) :: (b, .lst []) :: L') P (.lst ((fas.reverse.map fun fa => D.ptr fa.q) ++ [.ptr q]))) P (⟨q, b, none⟩ :: fas) (⟨items, [], none⟩ :: ms) := by
  have hin := h.inl
  have qb : q ≠ b := fun e => hq (by rw [e]; exact inL_cons.mpr (.inl rfl))
  have hq' : ¬ inL L' q := fun m => hq (inL_cons.mpr (.inr m))
  have bP : b ≠ P := fun e => hb (by rw [e]; exact hin P List.mem_cons_self)
  have qP : q ≠ P := fun e => hq' (by rw [e]; exact hin P List.mem_cons_self)
  have bl : ¬ inL L b := fun m => hb (keep_keys h.keep _ m)
  have ql : ¬ inL L q := fun m => hq' (keep_keys h.keep _ m)
  refine ⟨?_, h.np, ?_, .cons ⟨?_, ?_, trivial, ?_⟩ (all_eqv h.all fun a ha => ?_), ?_⟩
  · rw [keep_set h.np, keep_out ql, keep_out bl]; exact h.keep
  · rw [List.reverse_cons, List.map_append]
    exact lookup_setL (by rw [lookup_ne (Ne.symm qP), lookup_ne (Ne.symm bP)]; exact h.top)
  · rw [lookup_set_ne qP]; exact lookup_top
  · rw [lookup_set_ne bP, lookup_ne (Ne.symm qb)]; exact lookup_top
  · intro a ha
    unfold FA.adr at ha
    simp only [Option.toList_none, List.mem_cons, List.not_mem_nil, or_false] at ha
    rcases ha with e | e <;> subst e <;> assumption
  · have aP : a ≠ P := fun e => (List.nodup_cons.mp h.nd).1 (e ▸ ha)
    have ai := hin a (List.mem_cons_of_mem _ ha)
    rw [lookup_set_ne aP, lookup_ne (fun e => hq' (by rw [← e]; exact ai)), lookup_ne (fun e => hb (by rw [← e]; exact ai))]
  · have nd := List.nodup_cons.mp h.nd
    show (P :: q :: b :: adrs fas).Nodup
    have qn : q ∉ adrs fas := fun m => hq' (hin q (List.mem_cons_of_mem _ m))
    have bn : b ∉ adrs fas := fun m => hb (hin b (List.mem_cons_of_mem _ m))
    refine List.nodup_cons.mpr ⟨?_, List.nodup_cons.mpr ⟨?_, List.nodup_cons.mpr ⟨bn, nd.2⟩⟩⟩
    · intro m
      rcases List.mem_cons.mp m with e | m
      · exact qP e.symm
      · rcases List.mem_cons.mp m with e | m
        · exact bP e.symm
        · exact nd.1 m
    · intro m
      rcases List.mem_cons.mp m with e | m
      · exact qb e
      · exact qn m
theorem BsL.start {b q P : Addr} (hb : ¬ inL L b) (hq : ¬ inL ((b, .lst []) :: L) q) (hP : ¬ inL ((q, FA.d ⟨q, b, none⟩ prog0) :: (b, .lst []) :: L) P) :
    BsL L ((P, .lst [.ptr q]) :: (q, FA.d ⟨q, b, none⟩ prog0) :: (b, .lst []) :: L) P [⟨q, b, none⟩] [prog0] := by
  have qb : q ≠ b := fun e => hq (by rw [e]; exact inL_cons.mpr (.inl rfl))
  have hq' : ¬ inL L q := fun m => hq (inL_cons.mpr (.inr m))
  have Pq : P ≠ q := fun e => hP (by rw [e]; exact inL_cons.mpr (.inl rfl))
  have Pb : P ≠ b := fun e => hP (by rw [e]; exact inL_cons.mpr (.inr (inL_cons.mpr (.inl rfl))))
  have hP' : ¬ inL L P := fun m => hP (inL_cons.mpr (.inr (inL_cons.mpr (.inr m))))
  refine ⟨?_, hP', lookup_top, .cons ⟨?_, ?_, trivial, ?_⟩ .nil, ?_⟩
  · rw [keep_out hP', keep_out hq', keep_out hb]; exact keep_same rfl
  · rw [lookup_ne (Ne.symm Pq)]; exact lookup_top
  · rw [lookup_ne (Ne.symm Pb), lookup_ne (Ne.symm qb)]; exact lookup_top
  · intro a ha
    unfold FA.adr at ha
    simp only [Option.toList_none, List.mem_cons, List.not_mem_nil, or_false] at ha
    rcases ha with e | e <;> subst e <;> assumption
  · show [P, q, b].Nodup
    simp [Pq, Pb, qb]
/-- else: -/
theorem BsL.els {c : Addr} (h : BsL L L' P (fa :: fas) (m :: ms)) (hc : ¬ inL L' c) (hn : m.els = none) :
    ∃ fa', FA.d fa' m = .lst [.lst m.items, .ptr fa.b, .ptr c] ∧ BsL L (setL ((c, .lst []) :: L') fa.q (.lst [.lst m.items, .ptr fa.b, .ptr c])) P (fa' :: fas) ({ m with els := some [] } :: ms) := by
  have hin := h.inl
  have nd := h.nd
  have cl : ¬ inL L c := fun m => hc (keep_keys h.keep _ m)
  have hr : BlkAt L L' fa m := by cases h.all with | cons r _ => exact r
  have hfc : fa.c = none := by
    have := hr.c
    rw [hn] at this
    cases e : fa.c with
    | none => rfl
    | some x => rw [e] at this; exact this.elim
  have hadr : fa.adr = [fa.q, fa.b] := by unfold FA.adr; rw [hfc]; rfl
  have hnd : (P :: fa.q :: fa.b :: adrs fas).Nodup := by
    have : adrs (fa :: fas) = fa.q :: fa.b :: adrs fas := by unfold adrs; rw [List.flatMap_cons, hadr]; rfl
    rw [this] at nd; exact nd
  have hm : ∀ a, a = P ∨ a = fa.q ∨ a = fa.b ∨ a ∈ adrs fas → inL L' a := fun a ha => by
    rcases ha with e | e | e | e
    · subst e; exact hin _ List.mem_cons_self
    · subst e; exact inL_of_lookup hr.q
    · subst e; exact inL_of_lookup hr.b
    · exact hin a (List.mem_cons_of_mem _ (mem_adrs.mpr (.inr e)))
  have hcn : ∀ a, a = P ∨ a = fa.q ∨ a = fa.b ∨ a ∈ adrs fas → a ≠ c := fun a ha e => hc (by rw [← e]; exact hm a ha)
  have n1 := List.nodup_cons.mp hnd
  have n2 := List.nodup_cons.mp n1.2
  have n3 := List.nodup_cons.mp n2.2
  have qc : fa.q ≠ c := hcn _ (.inr (.inl rfl))
  have bq : fa.b ≠ fa.q := fun e => n2.1 (by rw [← e]; exact List.mem_cons_self)
  refine ⟨⟨fa.q, fa.b, some c⟩, rfl, h.mod (fa' := ⟨fa.q, fa.b, some c⟩) ⟨lookup_setL (by rw [lookup_ne qc]; exact hr.q), ?_, ?_, ?_⟩ ?_ (fun a ha => ?_) rfl ?_⟩
  · show List.lookup fa.b _ = _
    rw [lookup_set_ne bq, lookup_ne (hcn _ (.inr (.inr (.inl rfl))))]; exact hr.b
  · show List.lookup c _ = _
    rw [lookup_set_ne (Ne.symm qc)]; exact lookup_top
  · intro a ha
    unfold FA.adr at ha
    simp only [Option.toList_some, List.mem_cons, List.not_mem_nil, or_false] at ha
    have ho := hr.out
    rw [hadr] at ho
    rcases ha with e | e | e
    · subst e; exact ho _ List.mem_cons_self
    · subst e; exact ho _ (List.mem_cons_of_mem _ List.mem_cons_self)
    · subst e; exact cl
  · rw [keep_set (hr.out _ List.mem_cons_self), keep_out cl]; exact h.keep
  · have aq : a ≠ fa.q := by
      rcases ha with e | e
      · subst e; intro e; exact n1.1 (by rw [e]; exact List.mem_cons_self)
      · intro e2; exact n2.1 (by rw [← e2]; exact List.mem_cons_of_mem _ e)
    rw [lookup_set_ne aq, lookup_ne (hcn a (ha.elim .inl fun e => .inr (.inr (.inr e))))]
  · show (P :: fa.q :: fa.b :: c :: adrs fas).Nodup
    refine List.nodup_cons.mpr ⟨?_, List.nodup_cons.mpr ⟨?_, List.nodup_cons.mpr ⟨?_, List.nodup_cons.mpr ⟨fun m => hcn c (.inr (.inr (.inr m))) rfl, n3.2⟩⟩⟩⟩
    · intro m
      rcases List.mem_cons.mp m with e | m
      · exact n1.1 (by rw [e]; exact List.mem_cons_self)
      · rcases List.mem_cons.mp m with e | m
        · exact n1.1 (by rw [e]; exact List.mem_cons_of_mem _ List.mem_cons_self)
        · rcases List.mem_cons.mp m with e | m
          · exact hcn P (.inl rfl) e
          · exact n1.1 (List.mem_cons_of_mem _ (List.mem_cons_of_mem _ m))
    · intro m
      rcases List.mem_cons.mp m with e | m
      · exact bq e.symm
      · rcases List.mem_cons.mp m with e | m
        · exact qc e
        · exact n2.1 (List.mem_cons_of_mem _ m)
    · intro m
      rcases List.mem_cons.mp m with e | m
      · exact hcn _ (.inr (.inr (.inl rfl))) e
      · exact n3.1 m
theorem takeM_cons (t : Blk) (r : List Blk) (l : List Nat) : takeM (t :: r) l = (if l = elseP then (if r.isEmpty = false ∧ isIf t = true ∧ t.els.isNone = true then some ({ t with els := some [] } :: r) else none)
    else if l = endP then (match r with
      | [] => none
      | u :: r' => if noEls t.els = true then none else some (putB u (closeD t) :: r'))
    else match lineL l with
      | none => none
      | some i => some (if opens i = true then ⟨i.d, [], none⟩ :: t :: r else putB t (.tup i.d) :: r)) := rfl
theorem pairedLen {α β : Type} {R : α → β → Prop} : ∀ {xs : List α} {ys : List β}, Paired R xs ys → xs.length = ys.length
  | _, _, .nil => rfl
  | _, _, .cons _ t => by rw [List.length_cons, List.length_cons, pairedLen t]
def FA.cur (fa : FA) : Addr := fa.c.getD fa.b
def Blk.cur (m : Blk) : List D := m.els.getD m.blk
theorem BlkAt.cur (h : BlkAt L L' fa m) : L'.lookup fa.cur = some (.lst m.cur) := by
  have hc := h.c
  unfold FA.cur Blk.cur
  cases e : fa.c with
  | none =>
    rw [e] at hc
    cases e2 : m.els with
    | none => exact h.b
    | some x => rw [e2] at hc; exact hc.elim
  | some c =>
    rw [e] at hc
    cases e2 : m.els with
    | none => rw [e2] at hc; exact hc.elim
    | some x => rw [e2] at hc; exact hc
/-- a statement more -/
theorem BsL.stm {s : D} (h : BsL L L' P (fa :: fas) (m :: ms)) : BsL L (setL L' fa.cur (.lst (m.cur ++ [s]))) P (fa :: fas) (putB m s :: ms) := by
  have hr : BlkAt L L' fa m := by cases h.all with | cons r _ => exact r
  have nd := h.nd
  have n1 := List.nodup_cons.mp nd
  have hcm : fa.cur ∈ fa.adr := by
    unfold FA.cur FA.adr
    cases fa.c with
    | none => simp
    | some c => simp
  have hmem : fa.cur ∈ adrs (fa :: fas) := mem_adrs.mpr (.inl hcm)
  have n4 : (fa.adr ++ adrs fas).Nodup := by
    have := n1.2
    unfold adrs at this
    rw [List.flatMap_cons] at this
    exact this
  have n5 := List.nodup_append.mp n4
  have hqc : fa.q ≠ fa.cur := by
    have := List.nodup_cons.mp n5.1
    intro e
    apply this.1
    rw [e]
    unfold FA.cur
    cases fa.c with
    | none => simp
    | some c => simp
  have hcur := hr.cur
  refine h.mod (fa' := fa) ⟨?_, ?_, ?_, hr.out⟩ ?_ (fun a ha => ?_) rfl nd
  · rw [lookup_set_ne hqc, hr.q]
    unfold FA.d putB
    cases m.els <;> rfl
  · cases e : fa.c with
    | none =>
      have hb : fa.cur = fa.b := by unfold FA.cur; rw [e]; rfl
      have hc := hr.c
      rw [e] at hc
      cases e2 : m.els with
      | some x => rw [e2] at hc; exact hc.elim
      | none =>
        have : m.cur = m.blk := by unfold Blk.cur; rw [e2]; rfl
        rw [hb, this]
        unfold putB
        rw [e2]
        exact lookup_setL hr.b
    | some c =>
      have hb : fa.cur = c := by unfold FA.cur; rw [e]; rfl
      have hbc : fa.b ≠ c := by
        intro e3
        have := List.nodup_cons.mp (List.nodup_cons.mp n5.1).2
        apply this.1
        rw [e, e3]
        simp
      rw [hb, lookup_set_ne hbc, hr.b]
      unfold putB
      have hc := hr.c
      rw [e] at hc
      cases e2 : m.els with
      | none => rw [e2] at hc; exact hc.elim
      | some x => rfl
  · have hc := hr.c
    cases e : fa.c with
    | none =>
      rw [e] at hc
      cases e2 : m.els with
      | some x => rw [e2] at hc; exact hc.elim
      | none => unfold putB; rw [e2]; dsimp only
    | some c =>
      rw [e] at hc
      cases e2 : m.els with
      | none => rw [e2] at hc; exact hc.elim
      | some x =>
        rw [e2] at hc
        have hb : fa.cur = c := by unfold FA.cur; rw [e]; rfl
        have hm2 : m.cur = x := by unfold Blk.cur; rw [e2]; rfl
        unfold putB
        rw [e2, hb, hm2]
        exact lookup_setL hc
  · rw [keep_set (hr.out _ hcm)]; exact h.keep
  · refine lookup_set_ne ?_
    rcases ha with e | e
    · subst e; intro e; exact n1.1 (by rw [e]; exact hmem)
    · intro e2
      exact n5.2.2 _ hcm _ e e2.symm
end
/-! ### sizes -/
def ItmsOk (m : Blk) : Prop := ∃ z r, m.items = .str z :: r ∧ r.length ≤ 5
structure BSz (N : Nat) (ms : List Blk) : Prop where
  it : ∀ m ∈ ms, ItmsOk m
  bl : ∀ m ∈ ms, m.blk.length ≤ N ∧ (m.els.getD []).length ≤ N
  w : ∀ m ∈ ms, okWs m.items = true ∧ okWs m.blk = true ∧ okWs (m.els.getD []) = true
  n : ms.length ≤ N + 1
theorem bsz0 : BSz 0 [prog0] := by
  refine ⟨fun m h => ?_, fun m h => ?_, fun m h => ?_, Nat.le_refl _⟩ <;> cases List.mem_singleton.mp h
  · exact ⟨_, _, rfl, by decide⟩
  · exact ⟨Nat.le_refl _, Nat.le_refl _⟩
  · exact ⟨by decide +kernel, by decide +kernel, by decide +kernel⟩
theorem Itm.ok.w {i : Itm} (h : i.ok) : okWs i.d = true ∧ ∃ z r, i.d = .str z :: r ∧ r.length ≤ 3 := by
  have nil : okWs [] = true := by unfold okWs; rfl
  cases i with
  | aLet z v => exact ⟨okWs_mk (by decide +kernel) (okWs_mk (nameOk_w h.1) (okWs_mk h.2.1.okw nil)), _, _, rfl, by show 2 ≤ 3; decide⟩
  | aIf w a b =>
    exact ⟨okWs_mk (by decide +kernel) (okWs_mk (test_w h.1).1 (okWs_mk h.2.1.1.okw (okWs_mk h.2.2.1.okw nil))), _, _, rfl, by show 3 ≤ 3; decide⟩
  | aRep n => exact ⟨okWs_mk (by decide +kernel) (okWs_mk (by unfold okW; rfl) nil), _, _, rfl, by show 1 ≤ 3; decide⟩
  | aStop v => exact ⟨okWs_mk (by decide +kernel) (okWs_mk h.1.okw nil), _, _, rfl, by show 1 ≤ 3; decide⟩
theorem putB_sz {N : Nat} {u : Blk} {s : D} (hs : okW s = true) (h1 : ItmsOk u) (h2 : u.blk.length ≤ N ∧ (u.els.getD []).length ≤ N) (h3 : okWs u.items = true ∧ okWs u.blk = true ∧ okWs (u.els.getD []) = true) :
    ItmsOk (putB u s) ∧ ((putB u s).blk.length ≤ N + 1 ∧ ((putB u s).els.getD []).length ≤ N + 1) ∧ (okWs (putB u s).items = true ∧ okWs (putB u s).blk = true ∧ okWs ((putB u s).els.getD []) = true) := by
  have nil : okWs [] = true := by unfold okWs; rfl
  unfold putB
  cases e : u.els with
  | none =>
    rw [e] at h2 h3
    exact ⟨h1, ⟨by show (u.blk ++ [s]).length ≤ N + 1; rw [List.length_append, List.length_singleton]; omega, Nat.zero_le _⟩, h3.1, okWs_append h3.2.1 (okWs_mk hs nil), nil⟩
  | some x =>
    rw [e] at h2 h3
    have h22 : x.length ≤ N := h2.2
    exact ⟨h1, ⟨Nat.le_succ_of_le h2.1, by show (x ++ [s]).length ≤ N + 1; rw [List.length_append, List.length_singleton]; omega⟩, h3.1, h3.2.1, okWs_append h3.2.2 (okWs_mk hs nil)⟩
theorem close_w {N : Nat} {m : Blk} (hN : N ≤ 90000) (h1 : ItmsOk m) (h2 : m.blk.length ≤ N ∧ (m.els.getD []).length ≤ N) (h3 : okWs m.items = true ∧ okWs m.blk = true ∧ okWs (m.els.getD []) = true) : okW (closeD m) = true := by
  have nil : okWs [] = true := by unfold okWs; rfl
  obtain ⟨z, r, hi, hr⟩ := h1
  have q1 : m.items.length ≤ 6 := by rw [hi, List.length_cons]; omega
  have q2 : okW (.tup m.blk) = true := okW_mk (by omega) h3.2.1
  have q3 : okW (.tup (m.els.getD [])) = true := okW_mk (by omega) h3.2.2
  unfold closeD
  refine okW_mk ?_ (okWs_append (okWs_append h3.1 (okWs_mk q2 nil)) ?_)
  · rw [List.length_append, List.length_append, List.length_singleton]
    split
    · rw [List.length_singleton]; omega
    · rw [List.length_nil]; omega
  · split
    · exact okWs_mk q3 nil
    · exact nil
theorem takeM_sz {N : Nat} {ms ms' : List Blk} {l : List Nat} (h : takeM ms l = some ms') (hN : N ≤ 90000) (hs : BSz N ms) : BSz (N + 1) ms' := by
  cases ms with
  | nil => cases h
  | cons t r =>
    rw [takeM_cons] at h
    have up : ∀ m ∈ t :: r, m.blk.length ≤ N + 1 ∧ (m.els.getD []).length ≤ N + 1 := fun m hm => ⟨Nat.le_succ_of_le (hs.bl m hm).1, Nat.le_succ_of_le (hs.bl m hm).2⟩
    have hn := hs.n
    rw [List.length_cons] at hn
    have nil : okWs [] = true := by unfold okWs; rfl
    have tm : t ∈ t :: r := List.mem_cons_self
    have rm : ∀ {m}, m ∈ r → m ∈ t :: r := fun hm => List.mem_cons_of_mem _ hm
    split at h
    · split at h
      · cases h
        refine ⟨fun m hm => ?_, fun m hm => ?_, fun m hm => ?_, by rw [List.length_cons]; omega⟩ <;> rcases List.mem_cons.mp hm with e | hm
        · subst e; exact hs.it t tm
        · exact hs.it m (rm hm)
        · subst e; exact ⟨(up t tm).1, Nat.zero_le _⟩
        · exact up m (rm hm)
        · subst e; exact ⟨(hs.w t tm).1, (hs.w t tm).2.1, nil⟩
        · exact hs.w m (rm hm)
      · cases h
    · split at h
      · split at h
        · cases h
        · rename_i u r'
          split at h
          · cases h
          · cases h
            have um : u ∈ t :: u :: r' := rm List.mem_cons_self
            obtain ⟨q1, q2, q3⟩ := putB_sz (N := N) (close_w hN (hs.it t tm) (hs.bl t tm) (hs.w t tm)) (hs.it u um) (hs.bl u um) (hs.w u um)
            rw [List.length_cons] at hn
            refine ⟨fun m hm => ?_, fun m hm => ?_, fun m hm => ?_, by rw [List.length_cons]; omega⟩ <;> rcases List.mem_cons.mp hm with e | hm
            · subst e; exact q1
            · exact hs.it m (rm (List.mem_cons_of_mem _ hm))
            · subst e; exact q2
            · exact up m (rm (List.mem_cons_of_mem _ hm))
            · subst e; exact q3
            · exact hs.w m (rm (List.mem_cons_of_mem _ hm))
      · split at h
        · cases h
        · rename_i i hi
          obtain ⟨w1, z, r0, w2, w3⟩ := (lineL_ok hi).w
          split at h
          · cases h
            refine ⟨fun m hm => ?_, fun m hm => ?_, fun m hm => ?_, by rw [List.length_cons, List.length_cons]; omega⟩ <;> rcases List.mem_cons.mp hm with e | hm
            · subst e; exact ⟨z, r0, w2, by omega⟩
            · exact hs.it m hm
            · subst e; exact ⟨Nat.zero_le _, Nat.zero_le _⟩
            · exact up m hm
            · subst e; exact ⟨w1, nil, nil⟩
            · exact hs.w m hm
          · cases h
            have wi : okW (.tup i.d) = true := okW_mk (by rw [w2, List.length_cons]; omega) w1
            obtain ⟨q1, q2, q3⟩ := putB_sz (N := N) wi (hs.it t tm) (hs.bl t tm) (hs.w t tm)
            refine ⟨fun m hm => ?_, fun m hm => ?_, fun m hm => ?_, by rw [List.length_cons]; omega⟩ <;> rcases List.mem_cons.mp hm with e | hm
            · subst e; exact q1
            · exact hs.it m (rm hm)
            · subst e; exact q2
            · exact up m (rm hm)
            · subst e; exact q3
            · exact hs.w m (rm hm)
theorem takeM_ne {ms ms' : List Blk} {l : List Nat} (h : takeM ms l = some ms') : ms' ≠ [] := by
  cases ms with
  | nil => cases h
  | cons t r =>
    rw [takeM_cons] at h
    intro e
    subst e
    split at h
    · split at h <;> cases h
    · split at h
      · split at h
        · cases h
        · split at h <;> cases h
      · split at h
        · cases h
        · split at h <;> cases h
/-! ### the lines of a text -/
def lns : List Nat → List Nat → List (List Nat)
  | acc, [] => [acc]
  | acc, c :: r => if c = 10 then acc :: lns [] r else lns (acc ++ [c]) r
theorem spl_ten : ∀ (l acc : List Nat), spl [10] 0 acc l = lns acc l
  | [], acc => spl_nil _ _ _
  | c :: r, acc => by
    by_cases h : c = 10
    · subst h
      rw [spl_hit (by simp [pre])]
      show acc :: spl [10] 0 [] r = _
      rw [spl_ten r []]
      show _ = if (10 : Nat) = 10 then acc :: lns [] r else lns (acc ++ [10]) r
      rw [if_pos rfl]
    · rw [spl_miss (pre_of_head [] r h), spl_ten r _]
      show _ = if c = 10 then acc :: lns [] r else lns (acc ++ [c]) r
      rw [if_neg h]
theorem lns_inf : ∀ (l acc p : List Nat), p ∈ lns acc l → ∃ u v, acc ++ l = u ++ p ++ v
  | [], acc, p, h => by cases List.mem_singleton.mp h; exact ⟨[], [], by simp⟩
  | c :: r, acc, p, h => by
    unfold lns at h
    split at h
    · rcases List.mem_cons.mp h with e | h
      · subst e; exact ⟨[], c :: r, by simp⟩
      · obtain ⟨u, v, e⟩ := lns_inf r [] p h
        rw [List.nil_append] at e
        exact ⟨acc ++ c :: u, v, by rw [e]; simp⟩
    · obtain ⟨u, v, e⟩ := lns_inf r _ p h
      exact ⟨u, v, by rw [← e]; simp⟩
theorem lns_len : ∀ (l acc : List Nat), (lns acc l).length ≤ l.length + 1
  | [], acc => Nat.le_refl _
  | c :: r, acc => by
    unfold lns
    split
    · have := lns_len r []
      rw [List.length_cons, List.length_cons]; omega
    · have := lns_len r (acc ++ [c])
      rw [List.length_cons]; omega
theorem lns_ne (l acc : List Nat) : lns acc l ≠ [] := by
  induction l generalizing acc with
  | nil => intro e; cases e
  | cons c r ih =>
    unfold lns
    split
    · intro e; cases e
    · exact ih _
theorem takeW_le (p : Nat → Bool) : ∀ x y : List Nat, (x.takeWhile p).length ≤ ((x ++ y).takeWhile p).length
  | [], y => Nat.zero_le _
  | c :: r, y => by
    rw [List.cons_append, List.takeWhile_cons, List.takeWhile_cons]
    split
    · rw [List.length_cons, List.length_cons]
      have := takeW_le p r y
      omega
    · exact Nat.le_refl _
theorem OkZ.inf {z y : Str} (h : OkZ z) {u v : List Nat} (e : tl z = u ++ tl y ++ v) : OkZ y := by
  have l1 := congrArg List.length e
  rw [List.length_append, List.length_append, ← len_tl, ← len_tl] at l1
  refine ⟨Nat.le_trans (by omega) h.len, fun a => ?_⟩
  by_cases ha : a ≤ y.length
  · have := h.run (u.length + a)
    rw [e, List.append_assoc, ← List.drop_drop, List.drop_left, List.drop_append_of_le_length (by rw [← len_tl]; exact ha)] at this
    exact Nat.le_trans (takeW_le _ _ _) this
  · rw [List.drop_eq_nil_of_le (by rw [← len_tl]; omega)]
    exact Nat.zero_le _
theorem split_lines (z : Str) : (Txt.split z "\n").map tl = lns [] (tl z) := by
  rw [split_spl z "\n" (by decide +kernel) (kind_ok (by decide +kernel)), show tl ("\n" : Str) = [10] by decide +kernel, spl_ten]
theorem line_ok {z y : Str} (h : OkZ z) (hy : y ∈ Txt.split z "\n") : OkZ y := by
  have : tl y ∈ lns [] (tl z) := by rw [← split_lines]; exact List.mem_map.mpr ⟨y, hy, rfl⟩
  obtain ⟨u, v, e⟩ := lns_inf _ _ _ this
  exact h.inf (by simpa using e)
theorem cut_init {α : Type} (f : α → D) (xs : List α) : cutD (xs.map f) none (some (-1)) = (xs.dropLast).map f := by
  have e : HT.sIx (xs.map f).length (xs.map f).length (some (-1)) = xs.length - 1 := by
    rw [List.length_map]
    unfold HT.sIx
    cases xs with
    | nil => rfl
    | cons a r => simp; omega
  show ((xs.map f).drop 0).take (HT.sIx (xs.map f).length (xs.map f).length (some (-1)) - 0) = _
  rw [e, List.drop_zero, Nat.sub_zero, List.dropLast_eq_take, List.map_take]
theorem readT_eq (l : List Nat) : readT l = (match takeA 0 [prog0] (lns [] l).dropLast with
  | .inl n => .bad n
  | .inr [m] => if (lns [] l).getLast? = some [] then .ok m.blk else .bad ((lns [] l).length - 1)
  | .inr _ => .bad ((lns [] l).length - 1)) := by
  unfold readT
  dsimp only
  rw [spl_ten]
  all_goals (
    cases takeA 0 [prog0] (lns [] l).dropLast with
    | inl n => rfl
    | inr ms => rcases ms with _ | ⟨a, _ | ⟨b, c⟩⟩ <;> rfl)
end DL

namespace DL
open PySem PySem.Spec PyProof.Rows L2 TL NumText
/-! ### programs that can be written -/
def exOk (e : Ex) : Prop := ∃ ns ks : List Str, e.Wf ns ks ∧ e.dp ≤ 6 ∧ (∀ z ∈ ns, nameOk z = true) ∧ ∀ z ∈ ks, nameOk z = true
mutual
def smT : Nat → Sm → Prop
  | _, .letS z e => nameOk z = true ∧ exOk e
  | _, .stop e => exOk e
  | m, .rep n b => n ≤ 9 ∧ ∃ m', m = m' + 1 ∧ smsT m' b
  | m, .ifS t a b p q => t ∈ tests ∧ exOk a ∧ exOk b ∧ ∃ m', m = m' + 1 ∧ smsT m' p ∧ smsT m' q
def smsT : Nat → List Sm → Prop
  | _, [] => True
  | m, s :: r => smT m s ∧ smsT m r
end
def tsT (t : Str) : Str := if t = "less" then "<" else if t = "equal" then "=" else "<="
def tsW (t : Str) : Str := if t = "less" then " < " else if t = "equal" then " = " else " <= "
def lineT : Sm → Str
  | .letS z e => "let " ++ z ++ " = " ++ exT e
  | .stop e => "stop " ++ exT e
  | .rep n _ => "repeat " ++ toString (n : Int)
  | .ifS t a b _ _ => "if " ++ exT a ++ tsW t ++ exT b
mutual
def restS : Sm → List Str
  | .letS _ _ => []
  | .stop _ => []
  | .rep _ b => linesB b ++ (["end"] : List Str)
  | .ifS _ _ _ p q => linesB p ++ ((if q.isEmpty = true then ([] : List Str) else ("else" : Str) :: linesB q) ++ (["end"] : List Str))
def linesB : List Sm → List Str
  | [] => []
  | s :: r => lineT s :: (restS s ++ linesB r)
end
theorem exT_le {e : Ex} (h : exOk e) : (exT e).length ≤ 502 := by
  obtain ⟨ns, ks, h1, h2, h3, h4⟩ := h
  exact exT_small h3 h4 h1 h2 (Nat.le_refl 6)
theorem tsW_le (t : Str) : (tsW t).length ≤ 4 := by
  unfold tsW
  split
  · decide +kernel
  · split <;> decide +kernel
theorem rep_le {n : Nat} (h : n ≤ 9) : (Str.ofString (toString (n : Int))).length ≤ 4 := num_len (by omega) (by omega)
theorem lineT_le {m : Nat} {s : Sm} (h : smT m s) : (lineT s).length ≤ 1100 := by
  cases s with
  | letS z e =>
    unfold smT at h
    have h1 := nameOk_len h.1
    have h2 := exT_le h.2
    show ((Str.ofString "let " ++ z ++ " = " ++ exT e).length) ≤ _
    rw [str_len, str_len, str_len]
    have e1 : (Str.ofString "let ").length = 4 := by decide
    have e2 : (Str.ofString " = ").length = 3 := by decide
    omega
  | stop e =>
    unfold smT at h
    have h2 := exT_le h
    show ((Str.ofString "stop " ++ exT e).length) ≤ _
    rw [str_len]
    have e1 : (Str.ofString "stop ").length = 5 := by decide
    omega
  | rep n b =>
    unfold smT at h
    have h2 := rep_le h.1
    show ((Str.ofString "repeat " ++ Str.ofString (toString (n : Int))).length) ≤ _
    rw [str_len]
    have e1 : (Str.ofString "repeat ").length = 7 := by decide
    omega
  | ifS t a b p q =>
    unfold smT at h
    have h1 := exT_le h.2.1
    have h2 := exT_le h.2.2.1
    have h3 := tsW_le t
    show ((Str.ofString "if " ++ exT a ++ tsW t ++ exT b).length) ≤ _
    rw [str_len, str_len, str_len]
    have e1 : (Str.ofString "if ").length = 3 := by decide
    omega
def charsL (l : List Str) : Nat := (l.map fun z => z.length + 1).sum
theorem charsL_app (a b : List Str) : charsL (a ++ b) = charsL a + charsL b := by unfold charsL; rw [List.map_append, List.sum_append]
theorem charsL_cons (a : Str) (b : List Str) : charsL (a :: b) = a.length + 1 + charsL b := rfl
theorem len_chars (l : List Str) : l.length ≤ charsL l := by
  induction l with
  | nil => exact Nat.le_refl _
  | cons a r ih => rw [charsL_cons, List.length_cons]; omega
mutual
theorem restS_le : ∀ (m : Nat) (s : Sm), smT m s → charsL (restS s) + 1101 ≤ 1110 * cntS s
  | m, .letS z e, _ => by show 0 + 1101 ≤ 1110 * 1; omega
  | m, .stop e, _ => by show 0 + 1101 ≤ 1110 * 1; omega
  | m, .rep n b, h => by
    unfold smT at h
    obtain ⟨_, m', _, hb⟩ := h
    have h1 := linesB_le m' b hb
    show charsL (linesB b ++ (["end"] : List Str)) + 1101 ≤ 1110 * (cntB b + 1)
    rw [charsL_app]
    have e1 : charsL (["end"] : List Str) = 4 := by decide
    omega
  | m, .ifS t a b p q, h => by
    unfold smT at h
    obtain ⟨_, _, _, m', _, hp, hq⟩ := h
    have h1 := linesB_le m' p hp
    have h2 := linesB_le m' q hq
    show charsL (linesB p ++ ((if q.isEmpty = true then ([] : List Str) else ("else" : Str) :: linesB q) ++ (["end"] : List Str))) + 1101 ≤ 1110 * (cntB p + cntB q + 1)
    rw [charsL_app, charsL_app]
    have e1 : charsL (["end"] : List Str) = 4 := by decide
    have e2 : charsL (if q.isEmpty = true then ([] : List Str) else ("else" : Str) :: linesB q) ≤ charsL (linesB q) + 5 := by
      split
      · exact Nat.zero_le _
      · rw [charsL_cons]
        have e3 : ("else" : Str).length = 4 := by decide
        omega
    omega
theorem linesB_le : ∀ (m : Nat) (l : List Sm), smsT m l → charsL (linesB l) ≤ 1110 * cntB l
  | m, [], _ => Nat.zero_le _
  | m, s :: r, h => by
    unfold smsT at h
    have h1 := restS_le m s h.1
    have h2 := linesB_le m r h.2
    have h3 := lineT_le h.1
    have h4 : 1 ≤ cntS s := by cases s <;> first | exact Nat.le_refl _ | (show 1 ≤ _ + 1; omega)
    show charsL (lineT s :: (restS s ++ linesB r)) ≤ 1110 * (cntS s + cntB r)
    rw [charsL_cons, charsL_app]
    omega
end
mutual
theorem restS_n : ∀ s : Sm, (restS s).length + 1 ≤ 3 * cntS s
  | .letS z e => by show 0 + 1 ≤ 3 * 1; omega
  | .stop e => by show 0 + 1 ≤ 3 * 1; omega
  | .rep n b => by
    have h1 := linesB_n b
    show (linesB b ++ (["end"] : List Str)).length + 1 ≤ 3 * (cntB b + 1)
    rw [List.length_append, List.length_singleton]
    omega
  | .ifS t a b p q => by
    have h1 := linesB_n p
    have h2 := linesB_n q
    show (linesB p ++ ((if q.isEmpty = true then ([] : List Str) else ("else" : Str) :: linesB q) ++ (["end"] : List Str))).length + 1 ≤ 3 * (cntB p + cntB q + 1)
    rw [List.length_append, List.length_append, List.length_singleton]
    have e2 : (if q.isEmpty = true then ([] : List Str) else ("else" : Str) :: linesB q).length ≤ (linesB q).length + 1 := by
      split
      · exact Nat.zero_le _
      · rw [List.length_cons]; exact Nat.le_refl _
    omega
theorem linesB_n : ∀ l : List Sm, (linesB l).length ≤ 3 * cntB l
  | [] => Nat.zero_le _
  | s :: r => by
    have h1 := restS_n s
    have h2 := linesB_n r
    show (lineT s :: (restS s ++ linesB r)).length ≤ 3 * (cntS s + cntB r)
    rw [List.length_cons, List.length_append]
    omega
end
mutual
theorem smT_mono : ∀ (m : Nat) (s : Sm) (m' : Nat), m ≤ m' → smT m s → smT m' s
  | m, .letS z e, m', _, h => by unfold smT at h ⊢; exact h
  | m, .stop e, m', _, h => by unfold smT at h ⊢; exact h
  | m, .rep n b, m', hm, h => by
    unfold smT at h ⊢
    obtain ⟨h1, k, hk, hb⟩ := h
    exact ⟨h1, m' - 1, by omega, smsT_mono k b _ (by omega) hb⟩
  | m, .ifS t a b p q, m', hm, h => by
    unfold smT at h ⊢
    obtain ⟨h1, h2, h3, k, hk, hp, hq⟩ := h
    exact ⟨h1, h2, h3, m' - 1, by omega, smsT_mono k p _ (by omega) hp, smsT_mono k q _ (by omega) hq⟩
theorem smsT_mono : ∀ (m : Nat) (l : List Sm) (m' : Nat), m ≤ m' → smsT m l → smsT m' l
  | m, [], m', _, _ => by unfold smsT; trivial
  | m, s :: r, m', hm, h => by
    unfold smsT at h ⊢
    exact ⟨smT_mono m s m' hm h.1, smsT_mono m r m' hm h.2⟩
end
def lnJ (l : List Str) : Str := Txt.join "" (l.map fun z => z ++ "\n")
def progT (l : List Sm) : Str := lnJ (linesB l)
end DL

namespace DL
open PySem PySem.Spec PyProof.Rows L2 TL NumText
/-! ### what is written is read -/
def Ex.fx : Ex → Fx
  | .num i => .num i
  | .lx => .lx
  | .ly => .ly
  | .nm z => .nm z
  | .call f a b => .call f a.fx b.fx
  | .bin o a b => .bin o a.fx b.fx
theorem Ex.fx_d : ∀ e : Ex, e.fx.d = e.d
  | .num i => rfl
  | .lx => rfl
  | .ly => rfl
  | .nm z => rfl
  | .call f a b => by show D.tup [.str "call", .str f, a.fx.d, b.fx.d] = D.tup [.str "call", .str f, a.d, b.d]; rw [a.fx_d, b.fx_d]
  | .bin o a b => by show D.tup [.str o, a.fx.d, b.fx.d] = D.tup [.str o, a.d, b.d]; rw [a.fx_d, b.fx_d]
theorem Ex.fx_dp : ∀ e : Ex, e.fx.dp = e.dp
  | .num i => rfl
  | .lx => rfl
  | .ly => rfl
  | .nm z => rfl
  | .call f a b => by show max a.fx.dp b.fx.dp + 1 = max a.dp b.dp + 1; rw [a.fx_dp, b.fx_dp]
  | .bin o a b => by show max a.fx.dp b.fx.dp + 1 = max a.dp b.dp + 1; rw [a.fx_dp, b.fx_dp]
def Ex.cost : Ex → Nat
  | .call _ a b => 1 + (a.cost + b.cost)
  | .bin _ a b => 1 + (a.cost + b.cost)
  | _ => 1
def stopB : List Nat → Bool
  | [] => true
  | c :: _ => !letB c && (!figB c && decide (c ≠ 40))
def aft (n : Nat) (fs : List Frm) (v : Fx) (l : List Nat) : Option (Fx × List Nat) := match closeL fs v l with
  | none => none
  | some ([], v', r') => some (v', r')
  | some (f :: fs', v', r') => match contL f v' r' with
    | none => none
    | some (f', r2) => rdL n (f' :: fs') r2
theorem takeW_app (p : Nat → Bool) : ∀ (x y : List Nat), (∀ c ∈ x, p c = true) → (∀ c r, y = c :: r → p c = false) → (x ++ y).takeWhile p = x
  | [], y, _, h => by
    cases y with
    | nil => rfl
    | cons c r => rw [List.nil_append, List.takeWhile_cons, h c r rfl]; rfl
  | c :: r, y, h1, h2 => by
    rw [List.cons_append, List.takeWhile_cons, h1 c List.mem_cons_self]
    show c :: (r ++ y).takeWhile p = _
    rw [takeW_app p r y (fun d m => h1 d (List.mem_cons_of_mem _ m)) h2]
theorem stop_let {t : List Nat} (h : stopB t = true) : ∀ c r, t = c :: r → letB c = false := fun c r e => by
  subst e
  have h : (!letB c && (!figB c && decide (c ≠ 40))) = true := h
  cases hl : letB c with
  | false => rfl
  | true => rw [hl] at h; cases h
theorem stop_fig {t : List Nat} (h : stopB t = true) : ∀ c r, t = c :: r → figB c = false := fun c r e => by
  subst e
  have h : (!letB c && (!figB c && decide (c ≠ 40))) = true := h
  cases hl : figB c with
  | false => rfl
  | true => rw [hl, Bool.not_true, Bool.false_and, Bool.and_false] at h; cases h
theorem stop_open {t : List Nat} (h : stopB t = true) : t.head? ≠ some 40 := fun e => by
  cases t with
  | nil => cases e
  | cons c r =>
    cases e
    have h : (!letB 40 && (!figB 40 && decide ((40 : Nat) ≠ 40))) = true := h
    exact absurd h (by decide +kernel)
theorem let_of {z : Str} (h : nameOk z = true) : ∀ c ∈ tl z, letB c = true := fun c hc => decide_eq_true (nameOk_let h c hc)
theorem let_not {c : Nat} (h : letB c = true) : c ≠ 45 ∧ figB c = false ∧ c ≠ 40 ∧ c ≠ 10 ∧ c ≠ 32 := by
  have h := of_decide_eq_true h
  have : ∀ c ∈ tl letters, c ≠ 45 ∧ figB c = false ∧ c ≠ 40 ∧ c ≠ 10 ∧ c ≠ 32 := by decide +kernel
  exact this c h
theorem fig_not {c : Nat} (h : figB c = true) : c ≠ 45 ∧ letB c = false ∧ c ≠ 40 ∧ c ≠ 10 := by
  have h := of_decide_eq_true h
  have : ∀ c ∈ tl figs, c ≠ 45 ∧ letB c = false ∧ c ≠ 40 ∧ c ≠ 10 := by decide +kernel
  exact this c h
theorem name_ne {z : Str} (h : nameOk z = true) : ∃ c r, tl z = c :: r ∧ letB c = true := by
  cases e : tl z with
  | nil =>
    have : z = "" := ext_tl (by rw [e]; decide +kernel)
    subst this
    exact absurd h (by decide +kernel)
  | cons c r => exact ⟨c, r, rfl, let_of h c (by rw [e]; exact List.mem_cons_self)⟩
theorem name_res {z w : Str} (h : nameOk z = true) (hw : w ∈ reserved) : z ≠ w := fun e => by
  subst e
  unfold nameOk at h
  rw [decide_eq_true hw] at h
  simp at h
/-- a name that stands there -/
theorem openL_nm {z : Str} (h : nameOk z = true) {t : List Nat} (ht : stopB t = true) : openL (tl z ++ t) = none := by
  obtain ⟨c, r, e, hc⟩ := name_ne h
  unfold openL
  dsimp only
  rw [takeW_app letB (tl z) t (let_of h) (stop_let ht)]
  rw [if_neg (by rw [e]; simp only [List.cons_append, List.head?_cons, Option.some.injEq]; exact (let_not hc).2.2.1)]
  rw [if_neg]
  rintro ⟨_, h2⟩
  rw [List.drop_left] at h2
  exact stop_open ht h2
theorem leafL_word {w : List Nat} (hw : ∀ c ∈ w, letB c = true) (hn : w ≠ []) {t : List Nat} (ht : ∀ c r, t = c :: r → letB c = false) : leafL (w ++ t) = (if w = [120] then some (.lx, t) else if w = [121] then some (.ly, t) else if nameOk (mkS w) = true then some (.nm (mkS w), t) else none) := by
  have e : leafL (w ++ t) = leafT (w ++ t) := by
    cases w with
    | nil => exact absurd rfl hn
    | cons c r =>
      have hc := let_not (hw c List.mem_cons_self)
      show (if c = 45 then _ else if figB c = true then _ else leafT (c :: (r ++ t))) = _
      rw [if_neg hc.1, if_neg (by rw [hc.2.1]; exact Bool.false_ne_true)]
      rfl
  rw [e]
  unfold leafT
  dsimp only
  rw [takeW_app letB w t hw ht, List.drop_left]
theorem openL_lt {w t : List Nat} (hw : ∀ c ∈ w, letB c = true) (hn : nameOk (mkS w) = false) (h0 : w ≠ []) (ht : ∀ c r, t = c :: r → letB c = false) : openL (w ++ t) = none := by
  unfold openL
  dsimp only
  rw [takeW_app letB w t hw ht]
  rw [if_neg, if_neg (fun e => by rw [hn] at e; exact Bool.false_ne_true e.1)]
  cases w with
  | nil => exact absurd rfl h0
  | cons c r =>
    rw [List.cons_append, List.head?_cons]
    intro e
    exact (let_not (hw c List.mem_cons_self)).2.2.1 (Option.some.inj e)
theorem openL_no {l : List Nat} (h1 : l.head? ≠ some 40) (h2 : l.takeWhile letB = []) : openL l = none := by
  unfold openL
  dsimp only
  rw [if_neg h1, h2, if_neg]
  intro e
  exact absurd e.1 (by decide +kernel)
theorem num_figs (n : Nat) : ∀ c ∈ numL n, figB c = true := fun c hc => decide_eq_true (figs_mem.mpr (numL_digits n c hc))
theorem num_ok (n : Nat) : figOk (numL n) = true := by
  unfold figOk
  rw [decide_eq_true (numL_ne n), Bool.true_and]
  rcases numL_lead n with h | h
  · rw [decide_eq_true h]; rfl
  · rw [decide_eq_true h, Bool.or_true]
theorem leafL_num {i : Int} (h : i.natAbs < 1000) {t : List Nat} (ht : stopB t = true) : openL (intL i ++ t) = none ∧ leafL (intL i ++ t) = some (.num i, t) := by
  have htp := top_int i
  obtain ⟨c, r, ec⟩ : ∃ c r, numL i.natAbs = c :: r := by
    cases e : numL i.natAbs with
    | nil => exact absurd e (numL_ne _)
    | cons c r => exact ⟨c, r, rfl⟩
  have hcf : figB c = true := num_figs i.natAbs c (by rw [ec]; exact List.mem_cons_self)
  have tw := takeW_app figB (numL i.natAbs) t (num_figs _) (stop_fig ht)
  by_cases hi : i < 0
  · have e : intL i = 45 :: numL i.natAbs := by unfold intL; rw [if_pos hi]
    rw [e] at htp ⊢
    refine ⟨openL_no (by simp) (by rw [List.cons_append, List.takeWhile_cons]; exact if_neg (by decide +kernel)), ?_⟩
    show (if (45 : Nat) = 45 then (if (figOk ((numL i.natAbs ++ t).takeWhile figB) && !decide ((numL i.natAbs ++ t).takeWhile figB = [48])) = true then some (numF (45 :: (numL i.natAbs ++ t).takeWhile figB), (numL i.natAbs ++ t).drop ((numL i.natAbs ++ t).takeWhile figB).length) else none) else (none : Option (Fx × List Nat))) = _
    rw [if_pos rfl, tw, num_ok, List.drop_left]
    have hn : numL i.natAbs ≠ [48] := fun e2 => by
      have := int_not (i := i)
      rw [e, e2] at this
      exact this rfl
    rw [decide_eq_false hn]
    show some (numF (45 :: numL i.natAbs), t) = _
    unfold numF
    rw [htp, if_pos h]
  · have e : intL i = numL i.natAbs := by unfold intL; rw [if_neg hi]
    rw [e] at htp ⊢
    have c45 := fig_not hcf
    refine ⟨openL_no (by rw [ec, List.cons_append, List.head?_cons]; intro e; exact c45.2.2.1 (Option.some.inj e)) (by rw [ec, List.cons_append, List.takeWhile_cons, c45.2.1]; rfl), ?_⟩
    rw [ec] at tw ⊢
    show (if c = 45 then _ else if figB c = true then (if figOk ((c :: (r ++ t)).takeWhile figB) = true then some (numF ((c :: (r ++ t)).takeWhile figB), (c :: (r ++ t)).drop ((c :: (r ++ t)).takeWhile figB).length) else none) else _) = _
    rw [if_neg c45.1, if_pos hcf]
    have tw : (c :: (r ++ t)).takeWhile figB = c :: r := tw
    rw [tw, ← ec, num_ok, if_pos rfl]
    have : (c :: (r ++ t)).drop (numL i.natAbs).length = t := by rw [ec]; exact List.drop_left (l₁ := c :: r) (l₂ := t)
    rw [this]
    unfold numF
    rw [htp, if_pos h]
theorem rdL_leaf {l t : List Nat} {v : Fx} (h1 : openL l = none) (h2 : leafL l = some (v, t)) (n : Nat) (fs : List Frm) : rdL (1 + n) fs l = aft n fs v t := by
  rw [Nat.add_comm, rdL_succ, h1]
  dsimp only
  rw [h2]
  rfl
theorem sgn_of {o : Str} (h : o ∈ (["add", "sub", "mul", "div"] : List Str)) : ∃ c, tl (sgnW o) = [32, c, 32] ∧ wordOf c = some o ∧ o ≠ "call" := by
  simp only [List.mem_cons, List.not_mem_nil, or_false] at h
  rcases h with rfl | rfl | rfl | rfl
  · exact ⟨43, by decide +kernel, by decide +kernel, by decide +kernel⟩
  · exact ⟨45, by decide +kernel, by decide +kernel, by decide +kernel⟩
  · exact ⟨42, by decide +kernel, by decide +kernel, by decide +kernel⟩
  · exact ⟨47, by decide +kernel, by decide +kernel, by decide +kernel⟩
theorem tl_call (f : Str) (a b : Ex) (t : List Nat) : tl (exT (.call f a b)) ++ t = tl f ++ 40 :: (tl (exT a) ++ 44 :: 32 :: (tl (exT b) ++ 41 :: t)) := by
  show tl (f ++ "(" ++ exT a ++ ", " ++ exT b ++ ")") ++ t = _
  simp only [tl_append]
  rw [show tl (Str.ofString "(") = [40] by decide +kernel, show tl (Str.ofString ", ") = [44, 32] by decide +kernel, show tl (Str.ofString ")") = [41] by decide +kernel]
  simp
theorem tl_bin (o : Str) (a b : Ex) (t : List Nat) : tl (exT (.bin o a b)) ++ t = 40 :: (tl (exT a) ++ (tl (sgnW o) ++ (tl (exT b) ++ 41 :: t))) := by
  show tl ("(" ++ exT a ++ sgnW o ++ exT b ++ ")") ++ t = _
  simp only [tl_append]
  rw [show tl (Str.ofString "(") = [40] by decide +kernel, show tl (Str.ofString ")") = [41] by decide +kernel]
  simp
theorem rd_ex {ns ks : List Str} (hn : ∀ z ∈ ns, nameOk z = true) (hk : ∀ z ∈ ks, nameOk z = true) {e : Ex} (h : e.Wf ns ks) : e.dp ≤ 6 → ∀ (n : Nat) (fs : List Frm) (t : List Nat), stopB t = true → rdL (e.cost + n) fs (tl (exT e) ++ t) = aft n fs e.fx t := by
  induction h with
  | @num i h1 h2 =>
    intro _ n fs t ht
    have := leafL_num (i := i) (by omega) ht
    rw [show tl (exT (.num i)) = intL i from tl_int i]
    exact rdL_leaf this.1 this.2 n fs
  | lx =>
    intro _ n fs t ht
    rw [show tl (exT .lx) = [120] by decide +kernel]
    have hw : ∀ c ∈ ([120] : List Nat), letB c = true := by decide +kernel
    refine rdL_leaf (openL_lt hw (by decide +kernel) (by simp) (stop_let ht)) ?_ n fs
    rw [leafL_word hw (by simp) (stop_let ht), if_pos rfl]
    rfl
  | ly =>
    intro _ n fs t ht
    rw [show tl (exT .ly) = [121] by decide +kernel]
    have hw : ∀ c ∈ ([121] : List Nat), letB c = true := by decide +kernel
    refine rdL_leaf (openL_lt hw (by decide +kernel) (by simp) (stop_let ht)) ?_ n fs
    rw [leafL_word hw (by simp) (stop_let ht), if_neg (by simp), if_pos rfl]
    rfl
  | @nm z hz =>
    intro _ n fs t ht
    have hz := hn z hz
    show rdL (1 + n) fs (tl z ++ t) = _
    refine rdL_leaf (openL_nm hz ht) ?_ n fs
    obtain ⟨c, r, e, _⟩ := name_ne hz
    rw [leafL_word (let_of hz) (by rw [e]; simp) (stop_let ht), if_neg (fun e => name_res hz (w := "x") (by decide +kernel) (ext_tl (e.trans (by decide +kernel)))), if_neg (fun e => name_res hz (w := "y") (by decide +kernel) (ext_tl (e.trans (by decide +kernel))))]
    rw [mkS_tl, if_pos hz]
    rfl
  | @call f a b hf ha hb ia ib =>
    intro hd n fs t ht
    have hf := hk f hf
    have d : max a.dp b.dp + 1 ≤ 6 := hd
    rw [tl_call]
    show rdL (1 + (a.cost + b.cost) + n) fs _ = _
    rw [show 1 + (a.cost + b.cost) + n = (a.cost + (b.cost + n)) + 1 by omega, rdL_succ]
    have ho : openL (tl f ++ 40 :: (tl (exT a) ++ 44 :: 32 :: (tl (exT b) ++ 41 :: t))) = some (⟨"call", f, none⟩, tl (exT a) ++ 44 :: 32 :: (tl (exT b) ++ 41 :: t)) := by
      obtain ⟨c, r, e, hc⟩ := name_ne hf
      unfold openL
      dsimp only
      rw [takeW_app letB (tl f) _ (let_of hf) (fun c r e => by cases e; decide +kernel)]
      rw [if_neg (by rw [e]; simp only [List.cons_append, List.head?_cons, Option.some.injEq]; exact (let_not hc).2.2.1)]
      rw [if_pos ⟨hf, by rw [List.drop_left]; rfl⟩]
      rw [← List.drop_drop, List.drop_left, mkS_tl]
      rfl
    rw [ho]
    dsimp only
    rw [ia (by omega) _ _ _ (show stopB (44 :: 32 :: (tl (exT b) ++ 41 :: t)) = true by show (!letB 44 && (!figB 44 && decide (44 ≠ 40))) = true; decide +kernel)]
    have e1 : aft (b.cost + n) (⟨"call", f, none⟩ :: fs) a.fx (44 :: 32 :: (tl (exT b) ++ 41 :: t)) = rdL (b.cost + n) (⟨"call", f, some a.fx⟩ :: fs) (tl (exT b) ++ 41 :: t) := by
      have q : contL ⟨"call", f, none⟩ a.fx (44 :: 32 :: (tl (exT b) ++ 41 :: t)) = some (⟨"call", f, some a.fx⟩, tl (exT b) ++ 41 :: t) := by
        unfold contL
        rw [if_pos rfl, if_pos (show List.take 2 (44 :: 32 :: (tl (exT b) ++ 41 :: t)) = [44, 32] from rfl)]
        rfl
      show (match contL ⟨"call", f, none⟩ a.fx (44 :: 32 :: (tl (exT b) ++ 41 :: t)) with | none => none | some (f', r2) => rdL (b.cost + n) (f' :: fs) r2) = _
      rw [q]
    rw [e1, ib (by omega) _ _ _ (show stopB (41 :: t) = true by show (!letB 41 && (!figB 41 && decide (41 ≠ 40))) = true; decide +kernel)]
    have e2 : closeL (⟨"call", f, some a.fx⟩ :: fs) b.fx (41 :: t) = closeL fs (Ex.call f a b).fx t := by
      show (if (41 :: t).head? = some 41 then closeL fs (joinF ⟨"call", f, some a.fx⟩ a.fx b.fx) ((41 :: t).drop 1) else none) = _
      rw [if_pos (show (41 :: t).head? = some 41 from rfl)]
      have : joinF ⟨"call", f, some a.fx⟩ a.fx b.fx = (Ex.call f a b).fx := by
        unfold joinF joinT
        rw [if_pos rfl]
        exact if_pos (by show max a.fx.dp b.fx.dp + 1 ≤ 6; rw [a.fx_dp, b.fx_dp]; exact d)
      rw [this]
      rfl
    unfold aft
    rw [e2]
  | @bin o a b ho ha hb ia ib =>
    intro hd n fs t ht
    have d : max a.dp b.dp + 1 ≤ 6 := hd
    obtain ⟨c, hs, hc, hne⟩ := sgn_of ho
    rw [tl_bin, hs]
    show rdL (1 + (a.cost + b.cost) + n) fs _ = _
    rw [show 1 + (a.cost + b.cost) + n = (a.cost + (b.cost + n)) + 1 by omega, rdL_succ]
    have ho' : openL (40 :: (tl (exT a) ++ ([32, c, 32] ++ (tl (exT b) ++ 41 :: t)))) = some (⟨"", "", none⟩, tl (exT a) ++ (32 :: c :: 32 :: (tl (exT b) ++ 41 :: t))) := by
      unfold openL
      dsimp only
      exact if_pos rfl
    rw [ho']
    dsimp only
    rw [ia (by omega) _ _ _ (show stopB (32 :: c :: 32 :: (tl (exT b) ++ 41 :: t)) = true by show (!letB 32 && (!figB 32 && decide (32 ≠ 40))) = true; decide +kernel)]
    have e1 : aft (b.cost + n) (⟨"", "", none⟩ :: fs) a.fx (32 :: c :: 32 :: (tl (exT b) ++ 41 :: t)) = rdL (b.cost + n) (⟨o, "", some a.fx⟩ :: fs) (tl (exT b) ++ 41 :: t) := by
      have q : contL ⟨"", "", none⟩ a.fx (32 :: c :: 32 :: (tl (exT b) ++ 41 :: t)) = some (⟨o, "", some a.fx⟩, tl (exT b) ++ 41 :: t) := by
        unfold contL
        rw [if_neg (by decide +kernel)]
        show (match wordOf c with | some o => some (⟨o, "", some a.fx⟩, tl (exT b) ++ 41 :: t) | none => none) = (_ : Option (Frm × List Nat))
        rw [hc]
      show (match contL ⟨"", "", none⟩ a.fx (32 :: c :: 32 :: (tl (exT b) ++ 41 :: t)) with | none => none | some (f', r2) => rdL (b.cost + n) (f' :: fs) r2) = _
      rw [q]
    rw [e1, ib (by omega) _ _ _ (show stopB (41 :: t) = true by show (!letB 41 && (!figB 41 && decide (41 ≠ 40))) = true; decide +kernel)]
    have e2 : closeL (⟨o, "", some a.fx⟩ :: fs) b.fx (41 :: t) = closeL fs (Ex.bin o a b).fx t := by
      show (if (41 :: t).head? = some 41 then closeL fs (joinF ⟨o, "", some a.fx⟩ a.fx b.fx) ((41 :: t).drop 1) else none) = _
      rw [if_pos (show (41 :: t).head? = some 41 from rfl)]
      have : joinF ⟨o, "", some a.fx⟩ a.fx b.fx = (Ex.bin o a b).fx := by
        unfold joinF joinT
        rw [if_neg hne]
        exact if_pos (by show max a.fx.dp b.fx.dp + 1 ≤ 6; rw [a.fx_dp, b.fx_dp]; exact d)
      rw [this]
      rfl
    unfold aft
    rw [e2]
theorem cost_le {ns ks : List Str} (hn : ∀ z ∈ ns, nameOk z = true) (hk : ∀ z ∈ ks, nameOk z = true) {e : Ex} (h : e.Wf ns ks) : e.cost ≤ (tl (exT e)).length := by
  induction h with
  | @num i _ _ =>
    rw [show tl (exT (.num i)) = intL i from tl_int i]
    show 1 ≤ _
    unfold intL
    have : 0 < (numL i.natAbs).length := List.length_pos_iff.mpr (numL_ne _)
    split
    · rw [List.length_cons]; omega
    · omega
  | lx => decide +kernel
  | ly => decide +kernel
  | @nm z hz =>
    obtain ⟨c, r, e, _⟩ := name_ne (hn z hz)
    show 1 ≤ (tl z).length
    rw [e, List.length_cons]; omega
  | @call f a b _ _ _ ia ib =>
    have := congrArg List.length (tl_call f a b [])
    simp only [List.append_nil, List.length_append, List.length_cons, List.length_nil] at this
    show 1 + (a.cost + b.cost) ≤ _
    omega
  | @bin o a b _ _ _ ia ib =>
    have := congrArg List.length (tl_bin o a b [])
    simp only [List.append_nil, List.length_append, List.length_cons, List.length_nil] at this
    show 1 + (a.cost + b.cost) ≤ _
    omega
theorem rdA_ex {e : Ex} (h : exOk e) {t : List Nat} (ht : stopB t = true) : rdA (tl (exT e) ++ t) = some (e.fx, t) := by
  obtain ⟨ns, ks, h1, h2, h3, h4⟩ := h
  have hc := cost_le h3 h4 h1
  unfold rdA
  have hl : e.cost ≤ (tl (exT e) ++ t).length := by rw [List.length_append]; omega
  rw [show (tl (exT e) ++ t).length + 1 = e.cost + ((tl (exT e) ++ t).length + 1 - e.cost) by omega, rd_ex h3 h4 h1 h2 _ _ _ ht]
  rfl
theorem whole_ex {e : Ex} (h : exOk e) : wholeL (tl (exT e)) = some e.fx := by
  have := rdA_ex h (t := []) rfl
  rw [List.append_nil] at this
  unfold wholeL
  rw [this]
end DL

namespace DL
open PySem PySem.Spec PyProof.Rows L2 TL NumText
def itmOf : Sm → Itm
  | .letS z e => .aLet z e.fx
  | .stop e => .aStop e.fx
  | .rep n _ => .aRep n
  | .ifS t a b _ _ => .aIf t a.fx b.fx
theorem tl_let (z : Str) (e : Ex) : tl (lineT (.letS z e)) = letP ++ (tl z ++ (32 :: 61 :: 32 :: tl (exT e))) := by
  show tl ("let " ++ z ++ " = " ++ exT e) = _
  simp only [tl_append]
  rw [show tl (Str.ofString "let ") = letP by decide +kernel, show tl (Str.ofString " = ") = [32, 61, 32] by decide +kernel]
  simp
theorem tl_stop (e : Ex) : tl (lineT (.stop e)) = stopP ++ tl (exT e) := by
  show tl ("stop " ++ exT e) = _
  rw [tl_append, show tl (Str.ofString "stop ") = stopP by decide +kernel]
theorem tl_rep (n : Nat) (b : List Sm) : tl (lineT (.rep n b)) = repP ++ intL n := by
  show tl ("repeat " ++ Str.ofString (toString (n : Int))) = _
  rw [tl_append, show tl (Str.ofString "repeat ") = repP by decide +kernel, tl_int]
theorem tl_if (t : Str) (a b : Ex) (p q : List Sm) : tl (lineT (.ifS t a b p q)) = ifP ++ (tl (exT a) ++ (tl (tsW t) ++ tl (exT b))) := by
  show tl ("if " ++ exT a ++ tsW t ++ exT b) = _
  simp only [tl_append]
  rw [show tl (Str.ofString "if ") = ifP by decide +kernel]
  simp
theorem line_sm {m : Nat} {s : Sm} (h : smT m s) : lineL (tl (lineT s)) = some (itmOf s) := by
  cases s with
  | letS z e =>
    unfold smT at h
    rw [tl_let]
    unfold lineL
    rw [if_neg (by rw [show pre ifP (letP ++ _) = false from pre_of_head _ _ (by decide)]; exact Bool.false_ne_true), if_neg (by rw [show pre stopP (letP ++ _) = false from pre_of_head _ _ (by decide)]; exact Bool.false_ne_true), if_pos (pre_self letP _)]
    unfold letL
    dsimp only
    rw [show (letP ++ (tl z ++ (32 :: 61 :: 32 :: tl (exT e)))).drop 4 = tl z ++ (32 :: 61 :: 32 :: tl (exT e)) from rfl]
    rw [takeW_app letB (tl z) _ (let_of h.1) (fun c r e => by cases e; decide +kernel), List.drop_left]
    rw [if_pos (show (32 :: 61 :: 32 :: tl (exT e)).take 3 = [32, 61, 32] from rfl)]
    rw [show (32 :: 61 :: 32 :: tl (exT e)).drop 3 = tl (exT e) from rfl, whole_ex h.2]
    show (if nameOk (mkS (tl z)) = true then some (Itm.aLet (mkS (tl z)) e.fx) else none) = _
    rw [mkS_tl, if_pos h.1]
    rfl
  | stop e =>
    unfold smT at h
    rw [tl_stop]
    unfold lineL
    rw [if_neg (by rw [show pre ifP (stopP ++ _) = false from pre_of_head _ _ (by decide)]; exact Bool.false_ne_true), if_pos (pre_self stopP _)]
    rw [show (stopP ++ tl (exT e)).drop 5 = tl (exT e) from rfl, whole_ex h]
    rfl
  | rep n b =>
    unfold smT at h
    rw [tl_rep]
    unfold lineL
    rw [if_neg (by rw [show pre ifP (repP ++ _) = false from pre_of_head _ _ (by decide)]; exact Bool.false_ne_true), if_neg (by rw [show pre stopP (repP ++ _) = false from pre_of_head _ _ (by decide)]; exact Bool.false_ne_true), if_neg (by rw [show pre letP (repP ++ _) = false from pre_of_head _ _ (by decide)]; exact Bool.false_ne_true), if_pos (pre_self repP _)]
    unfold repL
    rw [show (repP ++ intL n).drop 7 = intL n from rfl]
    have := (leafL_num (i := (n : Int)) (by have := h.1; omega) (t := []) rfl).2
    rw [List.append_nil] at this
    rw [this]
    rfl
  | ifS t a b p q =>
    unfold smT at h
    rw [tl_if]
    unfold lineL
    rw [if_pos (pre_self ifP _)]
    unfold testL
    rw [show (ifP ++ (tl (exT a) ++ (tl (tsW t) ++ tl (exT b)))).drop 3 = tl (exT a) ++ (tl (tsW t) ++ tl (exT b)) from rfl]
    have ht := h.1
    unfold tests at ht
    simp only [List.mem_cons, List.not_mem_nil, or_false] at ht
    have sp : ∀ r, stopB (32 :: r) = true := fun r => by show (!letB 32 && (!figB 32 && decide ((32 : Nat) ≠ 40))) = true; decide +kernel
    have np : ∀ (S r : List Nat) (c d : Nat), c ≠ d → pre (32 :: d :: S) (32 :: c :: r) = false := fun S r c d hcd => by
      unfold pre
      simp [hcd]
    rcases ht with rfl | rfl | rfl
    · rw [show tl (tsW "less") = [32, 60, 32] by decide +kernel, rdA_ex h.2.1 (t := [32, 60, 32] ++ tl (exT b)) (sp _)]
      show testR a.fx (32 :: 60 :: 32 :: tl (exT b)) = _
      unfold testR
      rw [if_neg (by unfold pre; simp), if_pos (show pre [32, 60, 32] (32 :: 60 :: 32 :: tl (exT b)) = true from pre_self [32, 60, 32] (tl (exT b)))]
      rw [show (32 :: 60 :: 32 :: tl (exT b)).drop 3 = tl (exT b) from rfl, whole_ex h.2.2.1]
      rfl
    · rw [show tl (tsW "equal") = [32, 61, 32] by decide +kernel, rdA_ex h.2.1 (t := [32, 61, 32] ++ tl (exT b)) (sp _)]
      show testR a.fx (32 :: 61 :: 32 :: tl (exT b)) = _
      unfold testR
      rw [if_neg (by unfold pre; simp), if_neg (by unfold pre; simp), if_pos (show pre [32, 61, 32] (32 :: 61 :: 32 :: tl (exT b)) = true from pre_self [32, 61, 32] (tl (exT b)))]
      rw [show (32 :: 61 :: 32 :: tl (exT b)).drop 3 = tl (exT b) from rfl, whole_ex h.2.2.1]
      rfl
    · rw [show tl (tsW "upto") = [32, 60, 61, 32] by decide +kernel, rdA_ex h.2.1 (t := [32, 60, 61, 32] ++ tl (exT b)) (sp _)]
      show testR a.fx (32 :: 60 :: 61 :: 32 :: tl (exT b)) = _
      unfold testR
      rw [if_pos (show pre [32, 60, 61, 32] (32 :: 60 :: 61 :: 32 :: tl (exT b)) = true from pre_self [32, 60, 61, 32] (tl (exT b)))]
      rw [show (32 :: 60 :: 61 :: 32 :: tl (exT b)).drop 4 = tl (exT b) from rfl, whole_ex h.2.2.1]
      rfl
theorem line_not {l : List Nat} {i : Itm} (h : lineL l = some i) : l ≠ elseP ∧ l ≠ endP := by
  have e1 : (lineL elseP).isNone = true := by decide +kernel
  have e2 : (lineL endP).isNone = true := by decide +kernel
  constructor
  · intro e; subst e; rw [h] at e1; cases e1
  · intro e; subst e; rw [h] at e2; cases e2
theorem take_line {l : List Nat} {i : Itm} (h : lineL l = some i) (t : Blk) (r : List Blk) : takeM (t :: r) l = some (if opens i = true then ⟨i.d, [], none⟩ :: t :: r else putB t (.tup i.d) :: r) := by
  have hn := line_not h
  rw [takeM_cons, if_neg hn.1, if_neg hn.2, h]
def putBs (u : Blk) (ds : List D) : Blk := match u.els with
  | none => { u with blk := u.blk ++ ds }
  | some e => { u with els := some (e ++ ds) }
theorem putBs_nil (u : Blk) : putBs u [] = u := by
  obtain ⟨i, b, e⟩ := u
  cases e with
  | none => show Blk.mk i (b ++ []) none = _; rw [List.append_nil]
  | some x => show Blk.mk i b (some (x ++ [])) = _; rw [List.append_nil]
theorem putBs_cons (u : Blk) (d : D) (ds : List D) : putBs (putB u d) ds = putBs u (d :: ds) := by
  obtain ⟨i, b, e⟩ := u
  cases e with
  | none => show Blk.mk i (b ++ [d] ++ ds) none = Blk.mk i (b ++ d :: ds) none; rw [List.append_assoc]; rfl
  | some x => show Blk.mk i b (some (x ++ [d] ++ ds)) = Blk.mk i b (some (x ++ d :: ds)); rw [List.append_assoc]; rfl
theorem takeA_cons {n : Nat} {ms ms' : List Blk} {l : List Nat} {r : List (List Nat)} (h : takeM ms l = some ms') : takeA n ms (l :: r) = takeA (n + 1) ms' r := by
  show (match takeM ms l with | none => (Sum.inl n : Nat ⊕ List Blk) | some ms' => takeA (n + 1) ms' r) = _
  rw [h]
theorem tl_end : tl ("end" : Str) = endP := by decide +kernel
theorem tl_else : tl ("else" : Str) = elseP := by decide +kernel
theorem take_end (t u : Blk) (r : List Blk) (h : noEls t.els = false) : takeM (t :: u :: r) endP = some (putB u (closeD t) :: r) := by
  rw [takeM_cons, if_neg (by decide +kernel), if_pos rfl]
  show (if noEls t.els = true then none else some (putB u (closeD t) :: r)) = _
  rw [if_neg (by rw [h]; exact Bool.false_ne_true)]
theorem take_else (t u : Blk) (r : List Blk) (h1 : isIf t = true) (h2 : t.els = none) : takeM (t :: u :: r) elseP = some ({ t with els := some [] } :: u :: r) := by
  rw [takeM_cons, if_pos rfl, if_pos ⟨rfl, h1, by rw [h2]; rfl⟩]
mutual
theorem take_sm : ∀ (m : Nat) (s : Sm), smT m s → ∀ (n : Nat) (u : Blk) (ms : List Blk) (rest : List (List Nat)), takeA n (u :: ms) ((lineT s :: restS s).map tl ++ rest) = takeA (n + (1 + (restS s).length)) (putB u s.d :: ms) rest
  | m, .letS z e, h, n, u, ms, rest => by
    show takeA n (u :: ms) (tl (lineT (.letS z e)) :: rest) = _
    rw [takeA_cons (take_line (line_sm h) u ms), if_neg (by exact Bool.false_ne_true)]
    show takeA (n + 1) (putB u (.tup [.str "let", .str z, e.fx.d]) :: ms) rest = _
    rw [e.fx_d]
    rfl
  | m, .stop e, h, n, u, ms, rest => by
    show takeA n (u :: ms) (tl (lineT (.stop e)) :: rest) = _
    rw [takeA_cons (take_line (line_sm h) u ms), if_neg (by exact Bool.false_ne_true)]
    show takeA (n + 1) (putB u (.tup [.str "stop", e.fx.d]) :: ms) rest = _
    rw [e.fx_d]
    rfl
  | m, .rep k b, h, n, u, ms, rest => by
    have hl := line_sm h
    unfold smT at h
    obtain ⟨_, m', _, hb⟩ := h
    show takeA n (u :: ms) (tl (lineT (.rep k b)) :: ((linesB b ++ (["end"] : List Str)).map tl ++ rest)) = takeA (n + (1 + (linesB b ++ (["end"] : List Str)).length)) _ _
    rw [takeA_cons (take_line hl u ms), if_pos (show opens (itmOf (.rep k b)) = true from rfl), List.map_append, List.append_assoc]
    rw [take_sms m' b hb]
    have e : takeM (putBs ⟨[.str "repeat", .int k], [], none⟩ (Sm.ds b) :: u :: ms) (tl ("end" : Str)) = some (putB u (Sm.rep k b).d :: ms) := by
      rw [tl_end, take_end _ _ _ rfl]
      rfl
    show takeA (n + 1 + (linesB b).length) (putBs ⟨[.str "repeat", .int k], [], none⟩ (Sm.ds b) :: u :: ms) (tl ("end" : Str) :: rest) = _
    rw [takeA_cons e, List.length_append, List.length_singleton]
    congr 1
    omega
  | m, .ifS t a b p q, h, n, u, ms, rest => by
    have hl := line_sm h
    unfold smT at h
    obtain ⟨_, _, _, m', _, hp, hq⟩ := h
    show takeA n (u :: ms) (tl (lineT (.ifS t a b p q)) :: ((linesB p ++ ((if q.isEmpty = true then ([] : List Str) else ("else" : Str) :: linesB q) ++ (["end"] : List Str))).map tl ++ rest)) = takeA (n + (1 + (linesB p ++ ((if q.isEmpty = true then ([] : List Str) else ("else" : Str) :: linesB q) ++ (["end"] : List Str))).length)) _ _
    rw [takeA_cons (take_line hl u ms), if_pos (show opens (itmOf (.ifS t a b p q)) = true from rfl), List.map_append, List.append_assoc]
    rw [take_sms m' p hp]
    have hif : ∀ bl el, isIf ⟨(itmOf (.ifS t a b p q)).d, bl, el⟩ = true := fun _ _ => rfl
    have hd : (itmOf (.ifS t a b p q)).d = [.str "if", .str t, a.d, b.d] := by show [D.str "if", D.str t, a.fx.d, b.fx.d] = _; rw [a.fx_d, b.fx_d]
    have hpu : putBs ⟨(itmOf (.ifS t a b p q)).d, [], none⟩ (Sm.ds p) = ⟨(itmOf (.ifS t a b p q)).d, Sm.ds p, none⟩ := rfl
    rw [hpu]
    cases q with
    | nil =>
      have e : takeM (⟨(itmOf (.ifS t a b p [])).d, Sm.ds p, none⟩ :: u :: ms) (tl ("end" : Str)) = some (putB u (Sm.ifS t a b p []).d :: ms) := by
        rw [tl_end, take_end _ _ _ rfl]
        unfold closeD
        rw [if_pos (hif _ _), hd]
        rfl
      show takeA (n + 1 + (linesB p).length) (⟨(itmOf (.ifS t a b p [])).d, Sm.ds p, none⟩ :: u :: ms) (tl ("end" : Str) :: rest) = takeA (n + (1 + (linesB p ++ (([] : List Str) ++ (["end"] : List Str))).length)) _ _
      rw [takeA_cons e, List.nil_append, List.length_append, List.length_singleton]
      congr 1
      omega
    | cons q0 qr =>
      have e1 : takeM (⟨(itmOf (.ifS t a b p (q0 :: qr))).d, Sm.ds p, none⟩ :: u :: ms) (tl ("else" : Str)) = some (⟨(itmOf (.ifS t a b p (q0 :: qr))).d, Sm.ds p, some []⟩ :: u :: ms) := by
        rw [tl_else]
        exact take_else _ _ _ (hif _ _) rfl
      show takeA (n + 1 + (linesB p).length) (⟨(itmOf (.ifS t a b p (q0 :: qr))).d, Sm.ds p, none⟩ :: u :: ms) (((("else" : Str) :: linesB (q0 :: qr)) ++ (["end"] : List Str)).map tl ++ rest) = takeA (n + (1 + (linesB p ++ ((("else" : Str) :: linesB (q0 :: qr)) ++ (["end"] : List Str))).length)) _ _
      rw [List.map_append, List.append_assoc]
      show takeA (n + 1 + (linesB p).length) (⟨(itmOf (.ifS t a b p (q0 :: qr))).d, Sm.ds p, none⟩ :: u :: ms) (tl ("else" : Str) :: ((linesB (q0 :: qr)).map tl ++ (tl ("end" : Str) :: rest))) = _
      rw [takeA_cons e1, take_sms m' (q0 :: qr) hq]
      have e2 : takeM (putBs ⟨(itmOf (.ifS t a b p (q0 :: qr))).d, Sm.ds p, some []⟩ (Sm.ds (q0 :: qr)) :: u :: ms) (tl ("end" : Str)) = some (putB u (Sm.ifS t a b p (q0 :: qr)).d :: ms) := by
        rw [tl_end, take_end _ _ _ rfl]
        have : putBs ⟨(itmOf (.ifS t a b p (q0 :: qr))).d, Sm.ds p, some []⟩ (Sm.ds (q0 :: qr)) = ⟨(itmOf (.ifS t a b p (q0 :: qr))).d, Sm.ds p, some (Sm.ds (q0 :: qr))⟩ := rfl
        rw [this]
        unfold closeD
        rw [if_pos (hif _ _), hd]
        rfl
      rw [takeA_cons e2]
      congr 1
      rw [List.length_append, List.length_append, List.length_cons, List.length_singleton]
      omega
theorem take_sms : ∀ (m : Nat) (l : List Sm), smsT m l → ∀ (n : Nat) (u : Blk) (ms : List Blk) (rest : List (List Nat)), takeA n (u :: ms) ((linesB l).map tl ++ rest) = takeA (n + (linesB l).length) (putBs u (Sm.ds l) :: ms) rest
  | m, [], h, n, u, ms, rest => by
    show takeA n (u :: ms) rest = takeA n (putBs u [] :: ms) rest
    rw [putBs_nil]
  | m, s :: r, h, n, u, ms, rest => by
    unfold smsT at h
    show takeA n (u :: ms) ((lineT s :: (restS s ++ linesB r)).map tl ++ rest) = takeA (n + (lineT s :: (restS s ++ linesB r)).length) (putBs u (s.d :: Sm.ds r) :: ms) rest
    have e : (lineT s :: (restS s ++ linesB r)).map tl ++ rest = (lineT s :: restS s).map tl ++ ((linesB r).map tl ++ rest) := by simp
    rw [e, take_sm m s h.1, take_sms m r h.2, putBs_cons]
    congr 1
    rw [List.length_cons, List.length_append]
    omega
end
end DL

namespace DL
open PySem PySem.Spec PyProof.Rows L2 TL NumText
/-! ### such programs are programs -/
theorem exOk_w {e : Ex} (h : exOk e) : okW e.d = true := by
  obtain ⟨ns, ks, h1, _, h3, h4⟩ := h
  exact Wf_w h3 h4 h1
theorem exOk_6 {e : Ex} (h : exOk e) : exprOk 6 e.d = true := by
  obtain ⟨ns, ks, h1, h2, h3, h4⟩ := h
  exact h1.ok h3 h4 6 h2
mutual
theorem smT_w : ∀ (m : Nat) (s : Sm), smT m s → cntS s < 100000 → okW s.d = true ∧ headOk s.d = true
  | _, .letS z e, h, _ => by
    unfold smT at h
    have hz := h.1
    refine ⟨?_, ?_⟩
    · exact okW_mk (by show 3 < 100000; decide) (okWs_mk (by decide +kernel) (okWs_mk (nameOk_w hz) (okWs_mk (exOk_w h.2) (by unfold okWs; rfl))))
    · show (nameOk z && exprOk 6 e.d) = true
      rw [hz, exOk_6 h.2]; rfl
  | _, .stop e, h, _ => by
    unfold smT at h
    refine ⟨?_, ?_⟩
    · exact okW_mk (by show 2 < 100000; decide) (okWs_mk (by decide +kernel) (okWs_mk (exOk_w h) (by unfold okWs; rfl)))
    · show exprOk 6 e.d = true
      exact exOk_6 h
  | m, .rep n b, h, hc => by
    unfold smT at h
    obtain ⟨h9, m', _, hb⟩ := h
    have hc : cntB b + 1 < 100000 := hc
    have g := smsT_w m' b hb (by omega)
    refine ⟨?_, ?_⟩
    · exact okW_mk (by show 3 < 100000; decide) (okWs_mk (by decide +kernel) (okWs_mk (by unfold okW; rfl) (okWs_mk g (by unfold okWs; rfl))))
    · show ((decide ((0 : Int) ≤ n) && decide ((n : Int) ≤ 9)) && true) = true
      rw [decide_eq_true (by omega), decide_eq_true (by omega)]; rfl
  | m, .ifS t a b p q, h, hc => by
    unfold smT at h
    obtain ⟨ht, ha, hb, m', _, hp, hq⟩ := h
    have hc : cntB p + cntB q + 1 < 100000 := hc
    have g1 := smsT_w m' p hp (by omega)
    have g2 := smsT_w m' q hq (by omega)
    obtain ⟨t1, t2⟩ := test_w ht
    refine ⟨?_, ?_⟩
    · exact okW_mk (by show 6 < 100000; decide) (okWs_mk (by decide +kernel) (okWs_mk t1 (okWs_mk (exOk_w ha) (okWs_mk (exOk_w hb) (okWs_mk g1 (okWs_mk g2 (by unfold okWs; rfl)))))))
    · show (isTestD (.str t) && (exprOk 6 a.d && exprOk 6 b.d) && (true && true)) = true
      rw [t2, exOk_6 ha, exOk_6 hb]; rfl
theorem smsT_w : ∀ (m : Nat) (l : List Sm), smsT m l → cntB l < 100000 → okW (.tup (Sm.ds l)) = true
  | m, l, h, hc => by
    refine okW_mk (by rw [ds_length]; exact Nat.lt_of_le_of_lt (cntB_len l) hc) ?_
    exact smsT_ws m l h hc
theorem smsT_ws : ∀ (m : Nat) (l : List Sm), smsT m l → cntB l < 100000 → okWs (Sm.ds l) = true
  | _, [], _, _ => by unfold Sm.ds okWs; rfl
  | m, s :: r, h, hc => by
    unfold smsT at h
    have hc : cntS s + cntB r < 100000 := hc
    show okWs (s.d :: Sm.ds r) = true
    exact okWs_mk (smT_w m s h.1 (by omega)).1 (smsT_ws m r h.2 (by omega))
end
mutual
theorem vis_smT : ∀ (n m : Nat) (s : Sm) (c : Nat), m ≤ n → smT m s → c + cntS s ≤ 30 → visL (visF n) (blocksOf s.d) (c + 1) = .ok (c + cntS s)
  | n, m, .letS z e, c, _, h, hc => rfl
  | n, m, .stop e, c, _, h, hc => rfl
  | n, m, .rep k b, c, hm, h, hc => by
    unfold smT at h
    obtain ⟨_, m', em, hb⟩ := h
    have hc : c + (cntB b + 1) ≤ 30 := hc
    cases n with
    | zero => omega
    | succ n =>
    have g := vis_smsT n m' b (c + 1) (by omega) hb (by omega)
    show (match visF (n + 1) (Sm.ds b) (c + 1) with | .bad e => Vis.bad e | .ok c' => Vis.ok c') = _
    rw [g]
    show Vis.ok (c + 1 + cntB b) = .ok (c + (cntB b + 1))
    congr 1; omega
  | n, m, .ifS t a b p q, c, hm, h, hc => by
    unfold smT at h
    obtain ⟨_, _, _, m', em, hp, hq⟩ := h
    have hc : c + (cntB p + cntB q + 1) ≤ 30 := hc
    cases n with
    | zero => omega
    | succ n =>
    have g := vis_smsT n m' p (c + 1) (by omega) hp (by omega)
    have g2 := vis_smsT n m' q (c + 1 + cntB p) (by omega) hq (by omega)
    show (match visF (n + 1) (Sm.ds p) (c + 1) with | .bad e => Vis.bad e | .ok c' => (match visF (n + 1) (Sm.ds q) c' with | .bad e => Vis.bad e | .ok c' => Vis.ok c')) = _
    rw [g]
    show (match visF (n + 1) (Sm.ds q) (c + 1 + cntB p) with | .bad e => Vis.bad e | .ok c' => Vis.ok c') = _
    rw [g2]
    show Vis.ok (c + 1 + cntB p + cntB q) = .ok (c + (cntB p + cntB q + 1))
    congr 1; omega
theorem vis_smsT : ∀ (n m : Nat) (l : List Sm) (c : Nat), m ≤ n → smsT m l → c + cntB l ≤ 30 → visF (n + 1) (Sm.ds l) c = .ok (c + cntB l)
  | n, m, [], c, _, h, hc => rfl
  | n, m, s :: r, c, hm, h, hc => by
    unfold smsT at h
    have hc : c + (cntS s + cntB r) ≤ 30 := hc
    have h1 : 1 ≤ cntS s := by cases s <;> unfold cntS <;> omega
    have g1 := vis_smT n m s c hm h.1 (by omega)
    have g2 := vis_smsT n m r (c + cntS s) hm h.2 (by omega)
    show visS (visF n) (s.d :: Sm.ds r) c = _
    rw [vis_blk (smT_w m s h.1 (by omega)).2 (by omega), g1]
    show visF (n + 1) (Sm.ds r) (c + cntS s) = _
    rw [g2]
    show Vis.ok (c + cntS s + cntB r) = .ok (c + (cntS s + cntB r))
    congr 1; omega
end

mutual
theorem smW_T {ns ks : List Str} (hn : ∀ z ∈ ns, nameOk z = true) (hk : ∀ z ∈ ks, nameOk z = true) : ∀ (m : Nat) (s : Sm), smW ns ks m s → smT m s
  | m, .letS z e, h => by unfold smW at h; unfold smT; exact ⟨hn z h.1, ns, ks, h.2.1, by omega, hn, hk⟩
  | m, .stop e, h => by unfold smW at h; unfold smT; exact ⟨ns, ks, h.1, by omega, hn, hk⟩
  | m, .rep n b, h => by
    unfold smW at h; unfold smT
    obtain ⟨h1, k, hk', hb⟩ := h
    exact ⟨h1, k, hk', smsW_T hn hk k b hb⟩
  | m, .ifS t a b p q, h => by
    unfold smW at h; unfold smT
    obtain ⟨h1, ⟨h2, d2⟩, ⟨h3, d3⟩, k, hk', hp, hq⟩ := h
    exact ⟨h1, ⟨ns, ks, h2, by omega, hn, hk⟩, ⟨ns, ks, h3, by omega, hn, hk⟩, k, hk', smsW_T hn hk k p hp, smsW_T hn hk k q hq⟩
theorem smsW_T {ns ks : List Str} (hn : ∀ z ∈ ns, nameOk z = true) (hk : ∀ z ∈ ks, nameOk z = true) : ∀ (m : Nat) (l : List Sm), smsW ns ks m l → smsT m l
  | m, [], _ => by unfold smsT; trivial
  | m, s :: r, h => by
    unfold smsW at h; unfold smsT
    exact ⟨smW_T hn hk m s h.1, smsW_T hn hk m r h.2⟩
end
/-! ### their texts have lines -/
def noNl (l : List Nat) : Prop := ∀ c ∈ l, c ≠ 10
theorem noNl_app {a b : List Nat} (ha : noNl a) (hb : noNl b) : noNl (a ++ b) := fun c h => (List.mem_append.mp h).elim (ha c) (hb c)
theorem noNl_cons {c : Nat} {b : List Nat} (ha : c ≠ 10) (hb : noNl b) : noNl (c :: b) := fun d h => (List.mem_cons.mp h).elim (fun e => e ▸ ha) (hb d)
theorem noNl_nil : noNl [] := fun c h => by cases h
theorem nm_nl {z : Str} (h : nameOk z = true) : noNl (tl z) := fun c hc => (let_not (let_of h c hc)).2.2.2.1
theorem int_nl (i : Int) : noNl (intL i) := by
  have h : noNl (numL i.natAbs) := fun c hc => (fig_not (num_figs _ c hc)).2.2.2
  unfold intL
  split
  · exact noNl_cons (by decide) h
  · exact h
theorem ex_nl {ns ks : List Str} (hn : ∀ z ∈ ns, nameOk z = true) (hk : ∀ z ∈ ks, nameOk z = true) {e : Ex} (h : e.Wf ns ks) : noNl (tl (exT e)) := by
  induction h with
  | @num i _ _ => rw [show tl (exT (.num i)) = intL i from tl_int i]; exact int_nl i
  | lx => intro c hc; have : ∀ c ∈ tl (exT .lx), c ≠ 10 := by decide +kernel
          exact this c hc
  | ly => intro c hc; have : ∀ c ∈ tl (exT .ly), c ≠ 10 := by decide +kernel
          exact this c hc
  | @nm z hz => exact nm_nl (hn z hz)
  | @call f a b hf _ _ ia ib =>
    have := tl_call f a b []
    rw [List.append_nil] at this
    rw [this]
    exact noNl_app (nm_nl (hk f hf)) (noNl_cons (by decide) (noNl_app ia (noNl_cons (by decide) (noNl_cons (by decide) (noNl_app ib (noNl_cons (by decide) noNl_nil))))))
  | @bin o a b ho _ _ ia ib =>
    have := tl_bin o a b []
    rw [List.append_nil] at this
    rw [this]
    obtain ⟨c, hs, hc, _⟩ := sgn_of ho
    have hc10 : c ≠ 10 := fun e => by
      subst e
      have q : (wordOf 10).isNone = true := by decide +kernel
      rw [hc] at q
      cases q
    rw [hs]
    exact noNl_cons (by decide) (noNl_app ia (noNl_app (noNl_cons (by decide) (noNl_cons hc10 (noNl_cons (by decide) noNl_nil))) (noNl_app ib (noNl_cons (by decide) noNl_nil))))
theorem exOk_nl {e : Ex} (h : exOk e) : noNl (tl (exT e)) := by
  obtain ⟨ns, ks, h1, _, h3, h4⟩ := h
  exact ex_nl h3 h4 h1
theorem const_nl {l : List Nat} (h : l.all (fun c => decide (c ≠ 10)) = true) : noNl l := fun c hc => of_decide_eq_true (List.all_eq_true.mp h c hc)
theorem line_nl {m : Nat} {s : Sm} (h : smT m s) : noNl (tl (lineT s)) := by
  cases s with
  | letS z e =>
    unfold smT at h
    rw [tl_let]
    exact noNl_app (const_nl (by decide)) (noNl_app (nm_nl h.1) (noNl_cons (by decide) (noNl_cons (by decide) (noNl_cons (by decide) (exOk_nl h.2)))))
  | stop e =>
    unfold smT at h
    rw [tl_stop]
    exact noNl_app (const_nl (by decide)) (exOk_nl h)
  | rep n b =>
    rw [tl_rep]
    exact noNl_app (const_nl (by decide)) (int_nl _)
  | ifS t a b p q =>
    unfold smT at h
    rw [tl_if]
    refine noNl_app (const_nl (by decide)) (noNl_app (exOk_nl h.2.1) (noNl_app ?_ (exOk_nl h.2.2.1)))
    unfold tsW
    split
    · exact const_nl (by decide +kernel)
    · split <;> exact const_nl (by decide +kernel)
/-- runs of figures -/
def RunB (K : Nat) (l : List Nat) : Prop := ∀ a : Nat, ((l.drop a).takeWhile figB).length ≤ K
theorem tw_le (l : List Nat) : (l.takeWhile figB).length ≤ l.length := List.IsPrefix.length_le (List.takeWhile_prefix _)
theorem runB_len {K : Nat} {l : List Nat} (h : l.length ≤ K) : RunB K l := fun a => Nat.le_trans (tw_le _) (by rw [List.length_drop]; omega)
theorem tw_cut (x y : List Nat) (c : Nat) (hc : figB c = false) : ((x ++ c :: y).takeWhile figB).length ≤ (x.takeWhile figB).length := by
  induction x with
  | nil => rw [List.nil_append, List.takeWhile_cons, hc]; exact Nat.le_refl _
  | cons d r ih =>
    rw [List.cons_append, List.takeWhile_cons, List.takeWhile_cons]
    split
    · rw [List.length_cons, List.length_cons]; omega
    · exact Nat.le_refl _
theorem runB_app {K c : Nat} {x y : List Nat} (hx : RunB K x) (hc : figB c = false) (hy : RunB K y) : RunB K (x ++ c :: y) := fun a => by
  by_cases ha : a ≤ x.length
  · rw [List.drop_append_of_le_length ha]
    exact Nat.le_trans (tw_cut _ _ _ hc) (hx a)
  · rw [List.drop_append, List.drop_eq_nil_of_le (by omega), List.nil_append]
    obtain ⟨k, hk⟩ : ∃ k, a - x.length = k + 1 := ⟨a - x.length - 1, by omega⟩
    rw [hk, List.drop_succ_cons]
    exact hy k
theorem line_run {m : Nat} {s : Sm} (h : smT m s) : RunB 600 (tl (lineT s)) := by
  cases s with
  | letS z e =>
    unfold smT at h
    have h1 := nameOk_len h.1
    have h2 := exT_le h.2
    rw [len_tl] at h1 h2
    rw [tl_let, show letP ++ (tl z ++ (32 :: 61 :: 32 :: tl (exT e))) = (letP ++ tl z ++ [32, 61]) ++ 32 :: tl (exT e) by simp]
    refine runB_app (runB_len ?_) (by decide +kernel) (runB_len (by omega))
    rw [List.length_append, List.length_append]
    show 4 + (tl z).length + 2 ≤ 600
    omega
  | stop e =>
    unfold smT at h
    have h2 := exT_le h
    rw [len_tl] at h2
    rw [tl_stop]
    refine runB_len ?_
    rw [List.length_append]
    show 5 + (tl (exT e)).length ≤ 600
    omega
  | rep n b =>
    unfold smT at h
    have h2 := rep_le h.1
    rw [len_tl, tl_int] at h2
    rw [tl_rep]
    refine runB_len ?_
    rw [List.length_append]
    show 7 + (intL n).length ≤ 600
    omega
  | ifS t a b p q =>
    unfold smT at h
    have h1 := exT_le h.2.1
    have h2 := exT_le h.2.2.1
    rw [len_tl] at h1 h2
    have ht := h.1
    unfold tests at ht
    simp only [List.mem_cons, List.not_mem_nil, or_false] at ht
    have key : ∀ w : List Nat, w.length ≤ 4 → RunB 600 (ifP ++ (tl (exT a) ++ ((32 :: w ++ [32]) ++ tl (exT b)))) := fun w hw => by
      rw [show ifP ++ (tl (exT a) ++ ((32 :: w ++ [32]) ++ tl (exT b))) = (ifP ++ tl (exT a)) ++ 32 :: (w ++ 32 :: tl (exT b)) by simp]
      refine runB_app (runB_len ?_) (by decide +kernel) (runB_app (runB_len (by omega)) (by decide +kernel) (runB_len (by omega)))
      rw [List.length_append]
      show 3 + (tl (exT a)).length ≤ 600
      omega
    rw [tl_if]
    rcases ht with rfl | rfl | rfl
    · rw [show tl (tsW "less") = 32 :: [60] ++ [32] by decide +kernel]; exact key [60] (by decide)
    · rw [show tl (tsW "equal") = 32 :: [61] ++ [32] by decide +kernel]; exact key [61] (by decide)
    · rw [show tl (tsW "upto") = 32 :: [60, 61] ++ [32] by decide +kernel]; exact key [60, 61] (by decide)
def LnOk (z : Str) : Prop := noNl (tl z) ∧ RunB 600 (tl z)
mutual
theorem rest_lines : ∀ (m : Nat) (s : Sm), smT m s → ∀ z ∈ restS s, LnOk z
  | m, .letS z e, _, y, hy => by cases hy
  | m, .stop e, _, y, hy => by cases hy
  | m, .rep n b, h, y, hy => by
    unfold smT at h
    obtain ⟨_, m', _, hb⟩ := h
    have hy : y ∈ linesB b ++ (["end"] : List Str) := hy
    rcases List.mem_append.mp hy with e | e
    · exact all_lines m' b hb y e
    · cases List.mem_singleton.mp e; exact ⟨const_nl (by decide +kernel), runB_len (by decide +kernel)⟩
  | m, .ifS t a b p q, h, y, hy => by
    unfold smT at h
    obtain ⟨_, _, _, m', _, hp, hq⟩ := h
    have hy : y ∈ linesB p ++ ((if q.isEmpty = true then ([] : List Str) else ("else" : Str) :: linesB q) ++ (["end"] : List Str)) := hy
    rcases List.mem_append.mp hy with e | e
    · exact all_lines m' p hp y e
    · rcases List.mem_append.mp e with e | e
      · split at e
        · cases e
        · rcases List.mem_cons.mp e with e | e
          · subst e; exact ⟨const_nl (by decide +kernel), runB_len (by decide +kernel)⟩
          · exact all_lines m' q hq y e
      · cases List.mem_singleton.mp e; exact ⟨const_nl (by decide +kernel), runB_len (by decide +kernel)⟩
theorem all_lines : ∀ (m : Nat) (l : List Sm), smsT m l → ∀ z ∈ linesB l, LnOk z
  | m, [], _, y, hy => by cases hy
  | m, s :: r, h, y, hy => by
    unfold smsT at h
    have hy : y ∈ lineT s :: (restS s ++ linesB r) := hy
    rcases List.mem_cons.mp hy with e | e
    · subst e; exact ⟨line_nl h.1, line_run h.1⟩
    · rcases List.mem_append.mp e with e | e
      · exact rest_lines m s h.1 y e
      · exact all_lines m r h.2 y e
end
def joinN (ls : List (List Nat)) : List Nat := (ls.map fun l => l ++ [10]).flatten
theorem joinE_nil : ∀ ps : List (List Nat), joinL [] ps = ps.flatten
  | [] => rfl
  | [p] => by show p = [p].flatten; simp
  | p :: q :: r => by
    show p ++ ([] ++ joinL [] (q :: r)) = (p :: q :: r).flatten
    rw [joinE_nil (q :: r), List.nil_append, List.flatten_cons (l := p)]
theorem tl_lnJ (ls : List Str) : tl (lnJ ls) = joinN (ls.map tl) := by
  unfold lnJ joinN
  rw [show ("" : Str) = Str.empty by decide +kernel, TL.join_eq, TL.tl_join]
  show joinL [] _ = _
  rw [joinE_nil, List.map_map, List.map_map]
  congr 1
  refine List.map_congr_left fun z _ => ?_
  show tl (z ++ "\n") = tl z ++ [10]
  rw [tl_append, show tl ("\n" : Str) = [10] by decide +kernel]
theorem lns_line : ∀ (l acc r : List Nat), noNl l → lns acc (l ++ 10 :: r) = (acc ++ l) :: lns [] r
  | [], acc, r, _ => by
    show (if (10 : Nat) = 10 then acc :: lns [] r else lns (acc ++ [10]) r) = _
    rw [if_pos rfl, List.append_nil]
  | c :: l, acc, r, h => by
    show (if c = 10 then acc :: lns [] (l ++ 10 :: r) else lns (acc ++ [c]) (l ++ 10 :: r)) = _
    rw [if_neg (h c List.mem_cons_self), lns_line l _ r fun d hd => h d (List.mem_cons_of_mem _ hd)]
    rw [List.append_assoc]
    rfl
theorem lns_join : ∀ ls : List (List Nat), (∀ l ∈ ls, noNl l) → lns [] (joinN ls) = ls ++ [[]]
  | [], _ => rfl
  | l :: r, h => by
    have e : joinN (l :: r) = l ++ 10 :: joinN r := by unfold joinN; rw [List.map_cons, List.flatten_cons, List.append_assoc]; rfl
    rw [e, lns_line l [] _ (h l List.mem_cons_self), lns_join r fun x hx => h x (List.mem_cons_of_mem _ hx)]
    rfl
theorem joinN_run : ∀ ls : List (List Nat), (∀ l ∈ ls, RunB 600 l) → RunB 600 (joinN ls)
  | [], _ => runB_len (Nat.zero_le _)
  | l :: r, h => by
    have e : joinN (l :: r) = l ++ 10 :: joinN r := by unfold joinN; rw [List.map_cons, List.flatten_cons, List.append_assoc]; rfl
    rw [e]
    exact runB_app (h l List.mem_cons_self) (by decide +kernel) (joinN_run r fun x hx => h x (List.mem_cons_of_mem _ hx))
theorem joinN_len (ls : List Str) : (joinN (ls.map tl)).length = charsL ls := by
  induction ls with
  | nil => rfl
  | cons z r ih =>
    have e : joinN ((z :: r).map tl) = tl z ++ 10 :: joinN (r.map tl) := by unfold joinN; rw [List.map_cons, List.map_cons, List.flatten_cons, List.append_assoc]; rfl
    rw [e, List.length_append, List.length_cons, ih, charsL_cons, ← len_tl]
    omega
theorem progT_ok {m : Nat} {l : List Sm} (h : smsT m l) (hc : cntB l ≤ 80) : OkZ (progT l) := by
  have hL := linesB_le m l h
  have e : tl (progT l) = joinN ((linesB l).map tl) := tl_lnJ _
  refine ⟨?_, ?_⟩
  · rw [len_tl, e, joinN_len]
    omega
  · show RunB 600 (tl (progT l))
    rw [e]
    refine joinN_run _ fun x hx => ?_
    obtain ⟨z, hz, rfl⟩ := List.mem_map.mp hx
    exact (all_lines m l h z hz).2
/-- what a program's text is read as -/
theorem read_progT {m : Nat} {l : List Sm} (h : smsT m l) : readT (tl (progT l)) = .ok (Sm.ds l) := by
  have e : tl (progT l) = joinN ((linesB l).map tl) := tl_lnJ _
  have e2 : lns [] (tl (progT l)) = (linesB l).map tl ++ [[]] := by
    rw [e]
    refine lns_join _ fun x hx => ?_
    obtain ⟨z, hz, rfl⟩ := List.mem_map.mp hx
    exact (all_lines m l h z hz).1
  rw [readT_eq, e2, List.dropLast_concat, List.getLast?_concat]
  have e3 := take_sms m l h 0 prog0 [] []
  rw [List.append_nil] at e3
  rw [e3]
  rfl
end DL

namespace DL
open PySem PySem.Spec PyProof.Rows L2 TL NumText
/-! ### programs, compared item by item -/
theorem okPs_mk {d : D} {l : List D} (h1 : okP d = true) (h2 : okPs l = true) : okPs (d :: l) = true := by unfold okPs; rw [h1, h2]; rfl
theorem okPs_nil : okPs [] = true := by unfold okPs; rfl
theorem okP_mk {l : List D} (h1 : l.length < 100000) (h2 : okPs l = true) : okP (.tup l) = true := by unfold okP; rw [decide_eq_true h1, h2]; rfl
theorem okP_mkL {l : List D} (h1 : l.length < 100000) (h2 : okPs l = true) : okP (.lst l) = true := by unfold okP; rw [decide_eq_true h1, h2]; rfl
theorem okP_strI (z : Str) : okP (.str z) = true := by unfold okP; rfl
theorem okP_intI (z : Int) : okP (.int z) = true := by unfold okP; rfl
theorem dep_tup (l : List D) : dep (.tup l) = deps l + 1 := by rw [dep]
theorem dep_lst (l : List D) : dep (.lst l) = deps l + 1 := by rw [dep]
theorem deps_cons (d : D) (l : List D) : deps (d :: l) = max (dep d) (deps l) := by rw [deps]
theorem deps_nil : deps [] = 0 := by rw [deps]
theorem dep_str (z : Str) : dep (.str z) = 0 := by rw [dep]
theorem dep_int (z : Int) : dep (.int z) = 0 := by rw [dep]
theorem ex_dep : ∀ e : Ex, dep e.d ≤ e.dp
  | .num i => by show dep (.tup [.str "num", .int i]) ≤ 1; simp only [dep_tup, deps_cons, deps_nil, dep_str, dep_int]; omega
  | .lx => by show dep (.tup [.str "x"]) ≤ 1; simp only [dep_tup, deps_cons, deps_nil, dep_str]; omega
  | .ly => by show dep (.tup [.str "y"]) ≤ 1; simp only [dep_tup, deps_cons, deps_nil, dep_str]; omega
  | .nm z => by show dep (.tup [.str "name", .str z]) ≤ 1; simp only [dep_tup, deps_cons, deps_nil, dep_str]; omega
  | .call f a b => by
    have h1 := ex_dep a
    have h2 := ex_dep b
    show dep (.tup [.str "call", .str f, a.d, b.d]) ≤ max a.dp b.dp + 1
    simp only [dep_tup, deps_cons, deps_nil, dep_str]
    omega
  | .bin o a b => by
    have h1 := ex_dep a
    have h2 := ex_dep b
    show dep (.tup [.str o, a.d, b.d]) ≤ max a.dp b.dp + 1
    simp only [dep_tup, deps_cons, deps_nil, dep_str]
    omega
theorem exOk_dep {e : Ex} (h : exOk e) : dep e.d ≤ 6 := by
  obtain ⟨_, _, _, h2, _, _⟩ := h
  exact Nat.le_trans (ex_dep e) h2
mutual
theorem sm_same : ∀ (m : Nat) (s : Sm), smT m s → cntS s < 100000 → okP s.d = true ∧ dep s.d ≤ 2 * m + 8
  | m, .letS z e, h, _ => by
    unfold smT at h
    refine ⟨okP_mk (by show 3 < 100000; decide) (okPs_mk (okP_strI _) (okPs_mk (okP_strI _) (okPs_mk e.ok_d okPs_nil))), ?_⟩
    have := exOk_dep h.2
    show dep (.tup [.str "let", .str z, e.d]) ≤ _
    simp only [dep_tup, deps_cons, deps_nil, dep_str]
    omega
  | m, .stop e, h, _ => by
    unfold smT at h
    refine ⟨okP_mk (by show 2 < 100000; decide) (okPs_mk (okP_strI _) (okPs_mk e.ok_d okPs_nil)), ?_⟩
    have := exOk_dep h
    show dep (.tup [.str "stop", e.d]) ≤ _
    simp only [dep_tup, deps_cons, deps_nil, dep_str]
    omega
  | m, .rep n b, h, hc => by
    unfold smT at h
    obtain ⟨_, m', rfl, hb⟩ := h
    have hc : cntB b + 1 < 100000 := hc
    have g := sms_same m' b hb (by omega)
    have hl := Nat.lt_of_le_of_lt (cntB_len b) (show cntB b < 100000 by omega)
    refine ⟨okP_mk (by show 3 < 100000; decide) (okPs_mk (okP_strI _) (okPs_mk (okP_intI _) (okPs_mk (okP_mk (by rw [ds_length]; exact hl) g.1) okPs_nil))), ?_⟩
    show dep (.tup [.str "repeat", .int n, .tup (Sm.ds b)]) ≤ _
    have := g.2
    simp only [dep_tup, deps_cons, deps_nil, dep_str, dep_int]
    omega
  | m, .ifS t a b p q, h, hc => by
    unfold smT at h
    obtain ⟨_, ha, hb, m', rfl, hp, hq⟩ := h
    have hc : cntB p + cntB q + 1 < 100000 := hc
    have g1 := sms_same m' p hp (by omega)
    have g2 := sms_same m' q hq (by omega)
    have l1 := Nat.lt_of_le_of_lt (cntB_len p) (show cntB p < 100000 by omega)
    have l2 := Nat.lt_of_le_of_lt (cntB_len q) (show cntB q < 100000 by omega)
    refine ⟨okP_mk (by show 6 < 100000; decide) (okPs_mk (okP_strI _) (okPs_mk (okP_strI _) (okPs_mk a.ok_d (okPs_mk b.ok_d (okPs_mk (okP_mk (by rw [ds_length]; exact l1) g1.1) (okPs_mk (okP_mk (by rw [ds_length]; exact l2) g2.1) okPs_nil)))))), ?_⟩
    show dep (.tup [.str "if", .str t, a.d, b.d, .tup (Sm.ds p), .tup (Sm.ds q)]) ≤ _
    have := g1.2
    have := g2.2
    have := exOk_dep ha
    have := exOk_dep hb
    simp only [dep_tup, deps_cons, deps_nil, dep_str]
    omega
theorem sms_same : ∀ (m : Nat) (l : List Sm), smsT m l → cntB l < 100000 → okPs (Sm.ds l) = true ∧ deps (Sm.ds l) ≤ 2 * m + 8
  | m, [], _, _ => ⟨okPs_nil, by show deps [] ≤ _; rw [deps_nil]; omega⟩
  | m, s :: r, h, hc => by
    unfold smsT at h
    have hc : cntS s + cntB r < 100000 := hc
    have g1 := sm_same m s h.1 (by omega)
    have g2 := sms_same m r h.2 (by omega)
    refine ⟨okPs_mk g1.1 g2.1, ?_⟩
    show deps (s.d :: Sm.ds r) ≤ _
    rw [deps_cons]
    have := g1.2
    have := g2.2
    omega
end
theorem prog_same {m : Nat} {l : List Sm} (h : smsT m l) (hc : cntB l < 100000) : okP (.tup (Sm.ds l)) = true ∧ dep (.tup (Sm.ds l)) ≤ 2 * m + 9 := by
  have g := sms_same m l h hc
  refine ⟨okP_mk (by rw [ds_length]; exact Nat.lt_of_le_of_lt (cntB_len l) hc) g.1, ?_⟩
  rw [dep_tup]
  have := g.2
  omega
end DL

namespace T25
open PySem L2 DL TL NumText
def top (i : Nat) : Stmt := PySem.Challenge.pw_nearspokes_k25_whole_texts_of_programs.main.body.getD i (.Pass ⟨0, 0, 0, 0⟩)
abbrev sIsInteger : Stmt := top 5
abbrev sIsNumber : Stmt := top 6
abbrev sIsName : Stmt := top 15
abbrev sIsTupleOf : Stmt := top 16
abbrev sIsExpression : Stmt := top 17
abbrev sBoth : Stmt := top 18
abbrev sIsHead : Stmt := top 19
abbrev sBlocksOf : Stmt := top 20
abbrev sVisit : Stmt := top 21
abbrev sCheckProgram : Stmt := top 22
abbrev sExpressionText : Stmt := top 23
abbrev sLineOf : Stmt := top 28
abbrev sLinesOf : Stmt := top 29
abbrev sProgramText : Stmt := top 30
abbrev sRunOf : Stmt := top 31
abbrev sIsFigureWord : Stmt := top 32
abbrev sReadLeaf : Stmt := top 33
abbrev sDepthOf : Stmt := top 34
abbrev sJoined : Stmt := top 35
abbrev sOpened : Stmt := top 36
abbrev sContinued : Stmt := top 37
abbrev sReadExpression : Stmt := top 38
abbrev sReadWhole : Stmt := top 39
abbrev sReadTest : Stmt := top 40
abbrev sReadLine : Stmt := top 41
abbrev sClosed : Stmt := top 42
abbrev sBlockIn : Stmt := top 43
abbrev sTakeLine : Stmt := top 44
abbrev sReadProgram : Stmt := top 45
abbrev sLBag : Stmt := top 47
abbrev sLPull : Stmt := top 48
abbrev sLOf : Stmt := top 49
abbrev sLSame : Stmt := top 50
abbrev sLNames : Stmt := top 51
abbrev sLLeaf : Stmt := top 52
abbrev sLExpression : Stmt := top 53
abbrev sLStatement : Stmt := top 54
abbrev sLBlock : Stmt := top 55
abbrev sLProgram : Stmt := top 56
abbrev sLExpressionText : Stmt := top 57
abbrev sLLines : Stmt := top 58
abbrev sLText : Stmt := top 59
abbrev sLaw : Stmt := top 60
structure Zn (w : World) (K : PySem.W.Frag) (mg : Str → Option Value) (pS pT pW : Addr) : Prop where
  z_isinstance : mg "isinstance" = none
  z_int : mg "int" = none
  z_bool : mg "bool" = none
  z_str : mg "str" = none
  z_list : mg "list" = none
  z_tuple : mg "tuple" = none
  z_len : mg "len" = none
  z_abs : mg "abs" = none
  z_all : mg "all" = none
  z_range : mg "range" = none
  z_zip : mg "zip" = none
  z_enumerate : mg "enumerate" = none
  z_max : mg "max" = none
  g_RESERVED : GlbD K mg "RESERVED" (.tup (reserved.map D.str))
  g_LETTERS : GlbD K mg "LETTERS" (.str letters)
  g_DEEPEST_EXPRESSION : GlbD K mg "DEEPEST_EXPRESSION" (.int 6)
  g_DEEPEST_STATEMENT : GlbD K mg "DEEPEST_STATEMENT" (.int 4)
  g_MOST_STATEMENTS : GlbD K mg "MOST_STATEMENTS" (.int 30)
  g_SIGNS : GlbD K mg "SIGNS" (.ptr pS)
  g_TESTS : GlbD K mg "TESTS" (.ptr pT)
  d_SIGNS : KDc K w pS signsT
  d_TESTS : KDc K w pT testsT
  g_TOO_DEEP : GlbD K mg "TOO_DEEP" (.tup [.str "deep"])
  g_WORDS : GlbD K mg "WORDS" (.ptr pW)
  d_WORDS : KDc K w pW wordsT
  g_COMPARISONS : GlbD K mg "COMPARISONS" (.tup [.tup [.str " <= ", .str "upto"], .tup [.str " < ", .str "less"], .tup [.str " = ", .str "equal"]])
section
variable {P : Program} {w : World} {K : PySem.W.Frag} {mg : Str → Option Value} {base : Heap} {pS pT pW : Addr}
local macro_rules | `(tactic| walk_at "w") => `(tactic| conv => whnf)
local macro_rules | `(tactic| walk_at "v") => `(tactic| ((conv => whnf); try dsimp only))
local macro_rules | `(tactic| walk_at "s") => `(tactic| ((conv => whnf); repeat ((first | refine ⟨sz_ok rfl, ?_⟩ | refine ⟨rfl, ?_⟩); conv => whnf)))

def isIntS : DSp := fun ds L k _ => ∃ d, ds = [d] ∧ okT d = true ∧ k (.bl (isInt d)) L
def numS : DSp := fun ds L k _ => ∃ d lo hi, ds = [d, .int lo, .int hi] ∧ okT d = true ∧ k (.bl (numIn lo hi d)) L
def nameS : DSp := fun ds L k _ => ∃ d, ds = [d] ∧ okW d = true ∧ k (.bl (isNameD d)) L
def tupOfS : DSp := fun ds L k _ => ∃ d w, ∃ n : Nat, ds = [d, .str w, .int n] ∧ okW d = true ∧ 1 ≤ n ∧ k (.bl (isTupOf d w n)) L
def exprS (n : Nat) : DSp := fun ds L k _ => ∃ d, ∃ m : Nat, ds = [d, .int m] ∧ okW d = true ∧ m < n ∧ k (.bl (exprOk m d)) L
def bothS (n : Nat) : DSp := fun ds L k _ => ∃ t a b, ∃ m : Nat, ds = [.tup (a :: b :: t), .int (m + 1 : Nat)] ∧ okW a = true ∧ okW b = true ∧ m < n ∧ k (.bl (exprOk m a && exprOk m b)) L
def headS : DSp := fun ds L k _ => ∃ d, ds = [d] ∧ okW d = true ∧ k (.bl (headOk d)) L
def blocksS : DSp := fun ds L k _ => ∃ d, ds = [d] ∧ headOk d = true ∧ k (.lst ((blocksOf d).map .tup)) L
def ipE (C : Addr) (e : Int) : Exn := ⟨.ref C, ["at", "code"], [.int e, .str "InvalidProgram"]⟩
def visitS (C : Addr) (N : Nat) : DSp := fun ds L k x => ∃ l, ∃ n c : Nat, ds = [.tup l, .int (5 - (n : Int)), .int c] ∧ n < N ∧ okWs l = true ∧ (∀ c' : Nat, visF n l c = .ok c' → k (.int c') L) ∧ ∀ e : Nat, visF n l c = .bad e → x (ipE C e) L
def checkS (C : Addr) : DSp := fun ds L k x => ∃ v, ds = [v] ∧ okW v = true ∧ (isTupD v = false → x (ipE C (-1)) L) ∧ ∀ l, v = .tup l → (∀ c, visF 4 l 0 = .ok c → k .non L) ∧ ∀ e : Nat, visF 4 l 0 = .bad e → x (ipE C e) L
def txS (m : Nat) : DSp := fun ds L k _ => ∃ e ns ks, ds = [e.d] ∧ e.Wf ns ks ∧ e.dp < m ∧ m ≤ 7 ∧ (∀ z ∈ ns, nameOk z = true) ∧ (∀ z ∈ ks, nameOk z = true) ∧ k (.str (exT e)) L
theorem scIsInteger : FnScope ["value"] ["value"] (defScope sIsInteger) := ⟨rfl, rfl, rfl, by decide +kernel, rfl, by decide +kernel, by decide +kernel⟩
theorem ok_IsInteger {f : Addr} {fd : FuncData} (Z : Zn w K mg pS pT pW) (F : Fun K "is_integer" "is_integer" sIsInteger f fd) : FnOk P w K mg base (L2.CX P w) 1 f fd ["value"] (spD K isIntS) := by
  refine fn_ok F scIsInteger ?len (fun cdv A outer s H E hr => ?_)
  rotate_left
  · have tk := takes_of (X := cxOf (L2.CX P w) P w K mg base ["value"] "is_integer" (defScope sIsInteger) f cdv A outer s H E) (E := E) rfl rfl rfl rfl
    have hp := passes_of (X := cxOf (L2.CX P w) P w K mg base ["value"] "is_integer" (defScope sIsInteger) f cdv A outer s H E) rfl
    refine ⟨_, (ss_one (s_ret (q_and (q_isi .int (qv 0) (by rfl) Z.z_isinstance (by rfl) Z.z_int bb_int) (q_one (q_not (q_isi .bl (qv 0) (by rfl) Z.z_isinstance (by rfl) Z.z_bool bb_bool)))))), ?_⟩
    clear tk hp
    rintro ds L k x ⟨d, rfl, h1, h⟩
    cases d <;> first | exact h | cases h1
  · rintro ds L k x ⟨d, rfl, _⟩; rfl
theorem scIsNumber : FnScope ["value", "least", "most"] ["value", "least", "most"] (defScope sIsNumber) := ⟨rfl, rfl, rfl, by decide +kernel, rfl, by decide +kernel, by decide +kernel⟩
theorem ok_IsNumber {f : Addr} {fd : FuncData} (Z : Zn w K mg pS pT pW) (F : Fun K "is_number" "is_number" sIsNumber f fd) (CIsInteger : Cal P w K mg base 1 "is_integer" ["value"] [] isIntS) : FnOk P w K mg base (L2.CX P w) 2 f fd ["value", "least", "most"] (spD K numS) := by
  refine fn_ok F scIsNumber ?len (fun cdv A outer s H E hr => ?_)
  rotate_left
  · have tk := takes_of (X := cxOf (L2.CX P w) P w K mg base ["value", "least", "most"] "is_number" (defScope sIsNumber) f cdv A outer s H E) (E := E) rfl rfl rfl rfl
    have hp := passes_of (X := cxOf (L2.CX P w) P w K mg base ["value", "least", "most"] "is_number" (defScope sIsNumber) f cdv A outer s H E) rfl
    refine ⟨_, (ss_one (s_ret (q_and (q_cal CIsInteger (by first | decide | exact Nat.le_refl _ | omega) hr tk (by rfl) (a_cons (qv 0) a_nil)) (q_one (q_chain oq_le oq_le (qv 1) (qv 0) (qv 2)))))), ?_⟩
    clear tk hp
    rintro ds L k x ⟨d, lo, hi, rfl, h1, h⟩
    walk_at "w"
    refine ⟨d, rfl, h1, ?_⟩
    cases d <;> first | cases h1; done | skip
    all_goals walk_at "v"
    all_goals first | exact h | skip
    rename_i i
    cases hl : decide (lo ≤ i) with
    | true =>
      have h : k (.bl (decide (lo ≤ i) && decide (i ≤ hi))) L := h
      rw [hl] at h
      exact h
    | false =>
      have h : k (.bl (decide (lo ≤ i) && decide (i ≤ hi))) L := h
      rw [hl] at h
      exact h
  · rintro ds L k x ⟨d, lo, hi, rfl, _⟩; rfl
theorem scIsName : FnScope ["value", "letter"] ["value"] (defScope sIsName) := ⟨rfl, rfl, rfl, by decide +kernel, rfl, by decide +kernel, by decide +kernel⟩
theorem ok_IsName {f : Addr} {fd : FuncData} (Z : Zn w K mg pS pT pW) (F : Fun K "is_name" "is_name" sIsName f fd) : FnOk P w K mg base (L2.CX P w) 1 f fd ["value"] (spD K nameS) := by
  refine fn_ok F scIsName ?len (fun cdv A outer s H E hr => ?_)
  rotate_left
  · have tk := takes_of (X := cxOf (L2.CX P w) P w K mg base ["value", "letter"] "is_name" (defScope sIsName) f cdv A outer s H E) (E := E) rfl rfl rfl rfl
    have hp := passes_of (X := cxOf (L2.CX P w) P w K mg base ["value", "letter"] "is_name" (defScope sIsName) f cdv A outer s H E) rfl
    refine ⟨_, (ss_cons (s_if (w_or (t_not (t_val (q_isi .str (qv 0) (by rfl) Z.z_isinstance (by rfl) Z.z_str bb_str))) (w_or (t_not (t_chain oq_le oq_le q_int (q_callB cq_len (by rfl) Z.z_len bb_len (a_cons (qv 0) a_nil)) q_int)) (w_or1 (t_cmp oq_inQ (qv 0) (q_globD Z.g_RESERVED (by rfl)))))).t (ss_one (s_ret q_bl)) ss_nil)
  (ss_one (s_ret (q_callB (cq_all rfl) (by rfl) Z.z_all bb_all (a_cons (q_lc rfl scIsName.nd (i_str (qv 0)) (blkOk_by (own := [("letter", 1)]) (N := ["value", "letter"]) (sc := (defScope sIsName)) (by decide +kernel)) (fun _ _ _ _ _ => (g_name 1 scIsName.nd)) (fun _ _ _ _ _ => ts_nil) (fun _ _ _ _ _ => (q_cmp oq_inC (qv 1) (q_globD Z.g_LETTERS (by rfl))))) a_nil))))), ?_⟩
    clear tk hp
    rintro ds L k x ⟨d, rfl, hd, h⟩
    cases d <;> first | exact h | (simp [okW] at hd; done) | skip
    rename_i z
    have hz := okW_str hd
    have h : k (.bl (nameOk z)) L := h
    walk_at "w"
    refine ⟨Nat.le_trans hz (by decide), ?_⟩
    walk_at "v"
    cases h1 : decide (1 ≤ (z.length : Int)) with
    | false =>
      have h1 := of_decide_eq_false h1
      rw [show nameOk z = false by unfold nameOk; rw [decide_eq_false (by omega)]; rfl] at h
      exact h
    | true =>
      have h1 := of_decide_eq_true h1
      walk_at "v"
      cases h2 : decide ((z.length : Int) ≤ 6) with
      | false =>
        have h2 := of_decide_eq_false h2
        rw [show nameOk z = false by unfold nameOk; rw [decide_eq_false (show ¬ z.length ≤ 6 by omega), Bool.false_and, Bool.and_false]] at h
        exact h
      | true =>
        have h2 := of_decide_eq_true h2
        walk_at "v"
        generalize hb : (if false = true then _ else _) = bb
        have hb : decide (z ∈ reserved) = bb := (inV_str z reserved).symm.trans hb
        cases bb with
        | true =>
          rw [show nameOk z = false by unfold nameOk; rw [hb, Bool.not_true, Bool.false_and, Bool.and_false, Bool.and_false]] at h
          exact h
        | false =>
          walk_at "w"
          intro q hq
          refine lcD_yes hq _ (z.cps.toList.map fun c => D.bl (decide (c ∈ letters.cps.toList))) [] (by rw [sgD, List.length_map, List.length_map]) (by rw [sgD, List.length_map]; have : z.length = z.cps.toList.length := rfl; show 0 + _ ≤ 1000; omega) (plns_map (fun _ => by unfold pln; rfl) _) (by unfold plns; rfl) (fun i d r e1 e2 acc' K' pa hK => ?_) ?_
          · rw [sgD, List.getElem?_map] at e1
            rw [List.getElem?_map] at e2
            cases ec : z.cps.toList[i]? with
            | none => rw [ec] at e1; cases e1
            | some c =>
              rw [ec] at e1 e2
              cases e1
              cases e2
              exact hK
          · walk_at "w"
            have e : blsOf ([] ++ z.cps.toList.map fun c => D.bl (decide (c ∈ letters.cps.toList))) = some (z.cps.toList.map fun c => decide (c ∈ letters.cps.toList)) := by
              rw [List.nil_append]
              have := blsOf_map (z.cps.toList.map fun c => decide (c ∈ letters.cps.toList))
              rw [List.map_map] at this
              exact this
            rw [e]
            rw [show nameOk z = ((z.cps.toList.map fun c => decide (c ∈ letters.cps.toList)).all id) by unfold nameOk; rw [decide_eq_true (show 1 ≤ z.length by omega), decide_eq_true (show z.length ≤ 6 by omega), hb, List.all_map]; rfl] at h
            exact h
  · rintro ds L k x ⟨d, rfl, _⟩; rfl
theorem scIsTupleOf : FnScope ["value", "word", "many"] ["value", "word", "many"] (defScope sIsTupleOf) := ⟨rfl, rfl, rfl, by decide +kernel, rfl, by decide +kernel, by decide +kernel⟩
theorem ok_IsTupleOf {f : Addr} {fd : FuncData} (Z : Zn w K mg pS pT pW) (F : Fun K "is_tuple_of" "is_tuple_of" sIsTupleOf f fd) : FnOk P w K mg base (L2.CX P w) 1 f fd ["value", "word", "many"] (spD K tupOfS) := by
  refine fn_ok F scIsTupleOf ?len (fun cdv A outer s H E hr => ?_)
  rotate_left
  · have tk := takes_of (X := cxOf (L2.CX P w) P w K mg base ["value", "word", "many"] "is_tuple_of" (defScope sIsTupleOf) f cdv A outer s H E) (E := E) rfl rfl rfl rfl
    have hp := passes_of (X := cxOf (L2.CX P w) P w K mg base ["value", "word", "many"] "is_tuple_of" (defScope sIsTupleOf) f cdv A outer s H E) rfl
    refine ⟨_, (ss_one (s_ret (q_and (q_isi .tup (qv 0) (by rfl) Z.z_isinstance (by rfl) Z.z_tuple bb_tuple) (q_and (q_cmp (oq_eqU hr.units) (q_callB cq_len (by rfl) Z.z_len bb_len (a_cons (qv 0) a_nil)) (qv 2)) (q_and (q_isi .str (q_ix (qv 0) q_int) (by rfl) Z.z_isinstance (by rfl) Z.z_str bb_str) (q_one (q_cmp (oq_eqU hr.units) (q_ix (qv 0) q_int) (qv 1)))))))), ?_⟩
    clear tk hp
    rintro ds L k x ⟨d, w, n, rfl, hd, hn, h⟩
    cases d <;> first | exact h | (simp [okW] at hd; done) | skip
    rename_i l
    obtain ⟨hl, hw⟩ := okW_tup hd
    cases l with
    | nil =>
      walk_at "v"
      cases h1 : flEq (D.int (([] : List D).length : Nat)) (D.int n) with
      | false => exact h
      | true =>
        have h1 : (0 : Int) = n := of_decide_eq_true h1
        omega
    | cons a r =>
      walk_at "v"
      cases h1 : flEq (D.int ((a :: r).length : Nat)) (D.int n) with
      | false =>
        have h1 : ¬ ((((a :: r).length : Nat) : Int) = n) := of_decide_eq_false h1
        rw [List.length_cons] at h1
        have hr : isTupOf (.tup (a :: r)) w n = false := by
          cases a <;> first | rfl | skip
          show (decide (r.length + 1 = n) && decide (_ = w)) = false
          rw [decide_eq_false (by omega)]; rfl
        rw [hr] at h
        exact h
      | true =>
        have h1 : ((((a :: r).length : Nat) : Int) = n) := of_decide_eq_true h1
        rw [List.length_cons] at h1
        have hw1 := (okWs_cons hw).1
        clear hw hd
        walk_at "v"
        rw [atI_zero]
        cases a <;> first | exact h | (simp [okW] at hw1; done) | skip
        walk_at "v"
        rw [atI_zero]
        clear hw1
        rename_i z
        have h : k (.bl (decide (r.length + 1 = n) && decide (z = w))) L := h
        rw [decide_eq_true (by omega), Bool.true_and] at h
        exact h
  · rintro ds L k x ⟨d, w, n, rfl, _⟩; rfl
theorem scIsExpression : FnScope ["value", "deep"] ["value", "deep"] (defScope sIsExpression) := ⟨rfl, rfl, rfl, by decide +kernel, rfl, by decide +kernel, by decide +kernel⟩
theorem ok_IsExpression {f : Addr} {fd : FuncData} {n : Nat} (Z : Zn w K mg pS pT pW) (F : FunV K "is_expression" "is_expression" sIsExpression [.int 6] f fd) (CIsNumber : Cal P w K mg base 2 "is_number" ["value", "least", "most"] [] numS) (CIsName : Cal P w K mg base 1 "is_name" ["value"] [] nameS) (CBoth : Cal P w K mg base (2 * n + 4) "both" ["values", "deep"] [] (bothS n)) : FnOk P w K mg base (L2.CX P w) (2 * n + 5) f fd ["value", "deep"] (spD K (exprS (n + 1))) := by
  refine fn_okD F scIsExpression ?len (fun cdv A outer s H E hr => ?_)
  rotate_left
  · have tk := takes_of (X := cxOf (L2.CX P w) P w K mg base ["value", "deep"] "is_expression" (defScope sIsExpression) f cdv A outer s H E) (E := E) rfl rfl rfl rfl
    have hp := passes_of (X := cxOf (L2.CX P w) P w K mg base ["value", "deep"] "is_expression" (defScope sIsExpression) f cdv A outer s H E) rfl
    refine ⟨_, (ss_cons (s_if (w_or (t_cmp (oq_eqU hr.units) (qv 1) q_int) (w_or (t_not (t_val (q_isi .tup (qv 0) (by rfl) Z.z_isinstance (by rfl) Z.z_tuple bb_tuple))) (w_or (t_cmp (oq_eqU hr.units) (q_callB cq_len (by rfl) Z.z_len bb_len (a_cons (qv 0) a_nil)) q_int) (w_or1 (t_not (t_val (q_isi .str (q_ix (qv 0) q_int) (by rfl) Z.z_isinstance (by rfl) Z.z_str bb_str))))))).t (ss_one (s_ret q_bl)) ss_nil)
  (ss_cons (s_if (t_cmp oq_inQ (q_ix (qv 0) q_int) (q_tup (a_cons q_str (a_cons q_str a_nil)))) (ss_one (s_ret (q_cmp (oq_eqU hr.units) (q_callB cq_len (by rfl) Z.z_len bb_len (a_cons (qv 0) a_nil)) q_int))) ss_nil)
  (ss_cons (s_if (t_cmp (oq_eqU hr.units) (q_ix (qv 0) q_int) q_str) (ss_one (s_ret (q_and (q_cmp (oq_eqU hr.units) (q_callB cq_len (by rfl) Z.z_len bb_len (a_cons (qv 0) a_nil)) q_int) (q_one (q_cal CIsNumber (by first | decide | exact Nat.le_refl _ | omega) hr tk (by rfl) (a_cons (q_ix (qv 0) q_int) (a_cons (q_neg q_int) (a_cons q_int a_nil)))))))) ss_nil)
  (ss_cons (s_if (t_cmp (oq_eqU hr.units) (q_ix (qv 0) q_int) q_str) (ss_one (s_ret (q_and (q_cmp (oq_eqU hr.units) (q_callB cq_len (by rfl) Z.z_len bb_len (a_cons (qv 0) a_nil)) q_int) (q_one (q_cal CIsName (by first | decide | exact Nat.le_refl _ | omega) hr tk (by rfl) (a_cons (q_ix (qv 0) q_int) a_nil)))))) ss_nil)
  (ss_cons (s_if (t_cmp (oq_eqU hr.units) (q_ix (qv 0) q_int) q_str) (ss_one (s_ret (q_and (q_cmp (oq_eqU hr.units) (q_callB cq_len (by rfl) Z.z_len bb_len (a_cons (qv 0) a_nil)) q_int) (q_and (q_cal CIsName (by first | decide | exact Nat.le_refl _ | omega) hr tk (by rfl) (a_cons (q_ix (qv 0) q_int) a_nil)) (q_one (q_cal CBoth (by first | decide | exact Nat.le_refl _ | omega) hr tk (by rfl) (a_cons (q_slice (qv 0) (o_some q_int) o_none) (a_cons (qv 1) a_nil)))))))) ss_nil)
  (ss_one (s_ret (q_and (q_cmp (oq_inKD Z.d_SIGNS) (q_ix (qv 0) q_int) (q_globD Z.g_SIGNS (by rfl))) (q_and (q_cmp (oq_eqU hr.units) (q_callB cq_len (by rfl) Z.z_len bb_len (a_cons (qv 0) a_nil)) q_int) (q_one (q_cal CBoth (by first | decide | exact Nat.le_refl _ | omega) hr tk (by rfl) (a_cons (q_slice (qv 0) (o_some q_int) o_none) (a_cons (qv 1) a_nil))))))))))))), ?_⟩
    clear tk hp
    rintro ds L k x ⟨d, m, rfl, hd, hm, h⟩
    cases m with
    | zero => exact h
    | succ m =>
    walk_at "v"
    cases d <;> first | exact h | (simp [okW] at hd; done) | skip
    rename_i l
    obtain ⟨hl, hw⟩ := okW_tup hd
    cases l with
    | nil => exact h
    | cons a r =>
    walk_at "v"
    try (rw [show flEq (D.int (((a :: r).length : Nat) : Int)) (D.int 0) = false from fl_ne (by rw [List.length_cons]; omega)]; walk_at "v")
    rw [atI_zero]
    obtain ⟨ha, hr⟩ := okWs_cons hw
    cases a <;> first | exact h | (simp [okW] at ha; done) | skip
    rename_i w
    walk_at "v"
    rw [atI_zero]
    walk_at "s"
    try dsimp only
    generalize hb : (if false = true then _ else _) = bb
    have hb : decide (w ∈ (["x", "y"] : List Str)) = bb := (inV_str w ["x", "y"]).symm.trans hb
    rw [exprOk_succ] at h
    clear hw hd
    cases bb with
    | true =>
      have hx : w = "x" ∨ w = "y" := by simpa using hb
      rw [if_pos hx] at h
      walk_at "v"
      rcases r with _ | ⟨b, t⟩
      · exact h
      · rw [fl_ne (by rw [List.length_cons, List.length_cons]; omega)]
        exact h
    | false =>
    have hx : ¬ (w = "x" ∨ w = "y") := by simpa using hb
    rw [if_neg hx] at h
    clear hx hb
    walk_at "v"
    rw [atI_zero]
    walk_at "v"
    cases h1 : flEq (.str w) (.str "num") with
    | true =>
      rw [if_pos (of_decide_eq_true h1)] at h
      walk_at "v"
      rcases r with _ | ⟨b, _ | ⟨c, t⟩⟩
      · exact h
      · walk_at "w"
        exact ⟨b, -999, 999, rfl, okW_T (okWs_cons hr).1, h⟩
      · rw [fl_ne (by rw [List.length_cons, List.length_cons, List.length_cons]; omega)]
        exact h
    | false =>
    rw [if_neg (of_decide_eq_false h1)] at h
    clear h1
    walk_at "v"
    rw [atI_zero]
    walk_at "v"
    cases h1 : flEq (.str w) (.str "name") with
    | true =>
      rw [if_pos (of_decide_eq_true h1)] at h
      walk_at "v"
      rcases r with _ | ⟨b, _ | ⟨c, t⟩⟩
      · exact h
      · walk_at "w"
        exact ⟨b, rfl, (okWs_cons hr).1, h⟩
      · rw [fl_ne (by rw [List.length_cons, List.length_cons, List.length_cons]; omega)]
        exact h
    | false =>
    rw [if_neg (of_decide_eq_false h1)] at h
    clear h1
    walk_at "v"
    rw [atI_zero]
    walk_at "v"
    cases h1 : flEq (.str w) (.str "call") with
    | true =>
      rw [if_pos (of_decide_eq_true h1)] at h
      walk_at "v"
      rcases r with _ | ⟨b, _ | ⟨c, _ | ⟨e, _ | ⟨f, t⟩⟩⟩⟩
      · exact h
      · exact h
      · exact h
      · obtain ⟨w1, hr⟩ := okWs_cons hr
        obtain ⟨w2, hr⟩ := okWs_cons hr
        obtain ⟨w3, hr⟩ := okWs_cons hr
        walk_at "w"
        refine ⟨b, rfl, w1, ?_⟩
        have h : k (.bl (isNameD b && (exprOk m c && exprOk m e))) L := h
        cases hn : isNameD b with
        | true =>
          rw [hn] at h
          walk_at "w"
          exact ⟨[], c, e, m, rfl, w2, w3, Nat.lt_of_succ_lt_succ hm, h⟩
        | false =>
          rw [hn] at h
          exact h
      · rw [fl_ne (by simp only [List.length_cons]; omega)]
        exact h
    | false =>
    rw [if_neg (of_decide_eq_false h1)] at h
    clear h1
    walk_at "v"
    rw [atI_zero]
    walk_at "w"
    refine ⟨rfl, ?_⟩
    walk_at "v"
    rw [if_neg Bool.false_ne_true]
    cases h1 : (signsT.lookup w).isSome with
    | true =>
      rw [if_pos h1] at h
      walk_at "v"
      rcases r with _ | ⟨b, _ | ⟨c, _ | ⟨e, t⟩⟩⟩
      · exact h
      · exact h
      · obtain ⟨w1, hr⟩ := okWs_cons hr
        obtain ⟨w2, hr⟩ := okWs_cons hr
        walk_at "w"
        exact ⟨[], b, c, m, rfl, w1, w2, Nat.lt_of_succ_lt_succ hm, h⟩
      · rw [fl_ne (by simp only [List.length_cons]; omega)]
        exact h
    | false =>
      rw [if_neg (by rw [h1]; exact Bool.false_ne_true)] at h
      exact h
  · rintro ds L k x ⟨d, m, rfl, _⟩; rfl
theorem scBoth : FnScope ["values", "deep"] ["values", "deep"] (defScope sBoth) := ⟨rfl, rfl, rfl, by decide +kernel, rfl, by decide +kernel, by decide +kernel⟩
theorem ok_Both {f : Addr} {fd : FuncData} {n : Nat} (Z : Zn w K mg pS pT pW) (F : Fun K "both" "both" sBoth f fd) (CIsExpression : Cal P w K mg base (2 * n + 3) "is_expression" ["value", "deep"] [] (exprS n)) : FnOk P w K mg base (L2.CX P w) (2 * n + 4) f fd ["values", "deep"] (spD K (bothS n)) := by
  refine fn_ok F scBoth ?len (fun cdv A outer s H E hr => ?_)
  rotate_left
  · have tk := takes_of (X := cxOf (L2.CX P w) P w K mg base ["values", "deep"] "both" (defScope sBoth) f cdv A outer s H E) (E := E) rfl rfl rfl rfl
    have hp := passes_of (X := cxOf (L2.CX P w) P w K mg base ["values", "deep"] "both" (defScope sBoth) f cdv A outer s H E) rfl
    refine ⟨_, (ss_one (s_ret (q_and (q_cal CIsExpression (by first | decide | exact Nat.le_refl _ | omega) hr tk (by rfl) (a_cons (q_ix (qv 0) q_int) (a_cons (q_op oq_sub (qv 1) q_int) a_nil))) (q_one (q_cal CIsExpression (by first | decide | exact Nat.le_refl _ | omega) hr tk (by rfl) (a_cons (q_ix (qv 0) q_int) (a_cons (q_op oq_sub (qv 1) q_int) a_nil))))))), ?_⟩
    clear tk hp
    rintro ds L k x ⟨t, a, b, m, rfl, ha, hb, hm, h⟩
    have e : ((m + 1 : Nat) : Int) - 1 = (m : Int) := by omega
    walk_at "v"
    rw [atI_zero]
    walk_at "w"
    refine ⟨a, m, by show [a, D.int (((m + 1 : Nat) : Int) - 1)] = _; rw [e], ha, hm, ?_⟩
    cases h1 : exprOk m a with
    | true =>
      rw [h1, Bool.true_and] at h
      walk_at "v"
      rw [atI_one]
      walk_at "w"
      exact ⟨b, m, by show [b, D.int (((m + 1 : Nat) : Int) - 1)] = _; rw [e], hb, hm, h⟩
    | false =>
      rw [h1, Bool.false_and] at h
      exact h
  · rintro ds L k x ⟨t, a, b, m, rfl, _⟩; rfl
theorem scIsHead : FnScope ["value"] ["value"] (defScope sIsHead) := ⟨rfl, rfl, rfl, by decide +kernel, rfl, by decide +kernel, by decide +kernel⟩
theorem ok_IsHead {f : Addr} {fd : FuncData} (Z : Zn w K mg pS pT pW) (F : Fun K "is_head" "is_head" sIsHead f fd) (CIsTupleOf : Cal P w K mg base 1 "is_tuple_of" ["value", "word", "many"] [] tupOfS) (CIsNumber : Cal P w K mg base 2 "is_number" ["value", "least", "most"] [] numS) (CIsName : Cal P w K mg base 1 "is_name" ["value"] [] nameS) (CIsExpression_1 : Cal P w K mg base 17 "is_expression" ["value", "deep"] [.int 6] (exprS 7)) : FnOk P w K mg base (L2.CX P w) 18 f fd ["value"] (spD K headS) := by
  refine fn_ok F scIsHead ?len (fun cdv A outer s H E hr => ?_)
  rotate_left
  · have tk := takes_of (X := cxOf (L2.CX P w) P w K mg base ["value"] "is_head" (defScope sIsHead) f cdv A outer s H E) (E := E) rfl rfl rfl rfl
    have hp := passes_of (X := cxOf (L2.CX P w) P w K mg base ["value"] "is_head" (defScope sIsHead) f cdv A outer s H E) rfl
    refine ⟨_, (ss_cons (s_if (t_val (q_cal CIsTupleOf (by first | decide | exact Nat.le_refl _ | omega) hr tk (by rfl) (a_cons (qv 0) (a_cons q_str (a_cons q_int a_nil))))) (ss_one (s_ret (q_and (q_cal CIsName (by first | decide | exact Nat.le_refl _ | omega) hr tk (by rfl) (a_cons (q_ix (qv 0) q_int) a_nil)) (q_one (q_cal CIsExpression_1 (by first | decide | exact Nat.le_refl _ | omega) hr tk (by rfl) (a_cons (q_ix (qv 0) q_int) a_nil)))))) ss_nil)
  (ss_cons (s_if (t_val (q_cal CIsTupleOf (by first | decide | exact Nat.le_refl _ | omega) hr tk (by rfl) (a_cons (qv 0) (a_cons q_str (a_cons q_int a_nil))))) (ss_cons (s_if (w_or (t_not (t_val (q_isi .str (q_ix (qv 0) q_int) (by rfl) Z.z_isinstance (by rfl) Z.z_str bb_str))) (w_or1 (t_cmp (oq_notInKD Z.d_TESTS) (q_ix (qv 0) q_int) (q_globD Z.g_TESTS (by rfl))))).t (ss_one (s_ret q_bl)) ss_nil)
  (ss_cons (s_if (w_or (t_not (t_val (q_cal CIsExpression_1 (by first | decide | exact Nat.le_refl _ | omega) hr tk (by rfl) (a_cons (q_ix (qv 0) q_int) a_nil)))) (w_or1 (t_not (t_val (q_cal CIsExpression_1 (by first | decide | exact Nat.le_refl _ | omega) hr tk (by rfl) (a_cons (q_ix (qv 0) q_int) a_nil)))))).t (ss_one (s_ret q_bl)) ss_nil)
  (ss_one (s_ret (q_and (q_isi .tup (q_ix (qv 0) q_int) (by rfl) Z.z_isinstance (by rfl) Z.z_tuple bb_tuple) (q_one (q_isi .tup (q_ix (qv 0) q_int) (by rfl) Z.z_isinstance (by rfl) Z.z_tuple bb_tuple))))))) ss_nil)
  (ss_cons (s_if (t_val (q_cal CIsTupleOf (by first | decide | exact Nat.le_refl _ | omega) hr tk (by rfl) (a_cons (qv 0) (a_cons q_str (a_cons q_int a_nil))))) (ss_one (s_ret (q_and (q_cal CIsNumber (by first | decide | exact Nat.le_refl _ | omega) hr tk (by rfl) (a_cons (q_ix (qv 0) q_int) (a_cons q_int (a_cons q_int a_nil)))) (q_one (q_isi .tup (q_ix (qv 0) q_int) (by rfl) Z.z_isinstance (by rfl) Z.z_tuple bb_tuple))))) ss_nil)
  (ss_one (s_ret (q_and (q_cal CIsTupleOf (by first | decide | exact Nat.le_refl _ | omega) hr tk (by rfl) (a_cons (qv 0) (a_cons q_str (a_cons q_int a_nil)))) (q_one (q_cal CIsExpression_1 (by first | decide | exact Nat.le_refl _ | omega) hr tk (by rfl) (a_cons (q_ix (qv 0) q_int) a_nil))))))))), ?_⟩
    clear tk hp
    rintro ds L k x ⟨d, rfl, hd, h⟩
    walk_at "w"
    refine ⟨d, "let", 3, rfl, hd, by decide, ?_⟩
    cases h1 : isTupOf d "let" 3 with
    | true =>
      obtain ⟨r, rfl, hl⟩ := isTupOf_is h1
      obtain ⟨a, b, rfl⟩ := len2 hl
      obtain ⟨_, hw⟩ := okWs_cons (okW_tup hd).2
      obtain ⟨wa, hw⟩ := okWs_cons hw
      obtain ⟨wb, _⟩ := okWs_cons hw
      have h : k (.bl (isNameD a && exprOk 6 b)) L := h
      walk_at "w"
      refine ⟨a, rfl, wa, ?_⟩
      cases hn : isNameD a with
      | true =>
        rw [hn] at h
        walk_at "w"
        exact ⟨b, 6, rfl, wb, by decide, h⟩
      | false => rw [hn] at h; exact h
    | false =>
    walk_at "w"
    refine ⟨d, "if", 6, rfl, hd, by decide, ?_⟩
    cases h2 : isTupOf d "if" 6 with
    | true =>
      obtain ⟨r, rfl, hl⟩ := isTupOf_is h2
      obtain ⟨t, a, b, p, q, rfl⟩ := len5 hl
      obtain ⟨_, hw⟩ := okWs_cons (okW_tup hd).2
      obtain ⟨wt, hw⟩ := okWs_cons hw
      obtain ⟨wa, hw⟩ := okWs_cons hw
      obtain ⟨wb, hw⟩ := okWs_cons hw
      obtain ⟨wp, hw⟩ := okWs_cons hw
      obtain ⟨wq, _⟩ := okWs_cons hw
      replace h : k (.bl (isTestD t && (exprOk 6 a && exprOk 6 b) && (isTupD p && isTupD q))) L := h
      clear h1 h2 hl hd
      cases t <;> first | exact h | (simp [okW] at wt; done) | skip
      rename_i z
      walk_at "w"
      refine ⟨rfl, ?_⟩
      walk_at "v"
      rw [if_pos rfl]
      replace h : k (.bl ((testsT.lookup z).isSome && (exprOk 6 a && exprOk 6 b) && (isTupD p && isTupD q))) L := h
      cases hz : (testsT.lookup z).isSome with
      | false => rw [hz] at h; exact h
      | true =>
        rw [hz] at h
        walk_at "w"
        refine ⟨a, 6, rfl, wa, by decide, ?_⟩
        cases e1 : exprOk 6 a with
        | false => rw [e1] at h; exact h
        | true =>
          rw [e1] at h
          walk_at "w"
          refine ⟨b, 6, rfl, wb, by decide, ?_⟩
          cases e2 : exprOk 6 b with
          | false => rw [e2] at h; exact h
          | true =>
            rw [e2] at h
            cases p <;> first | exact h | (simp [okW] at wp; done) | skip
            cases q <;> first | exact h | (simp [okW] at wq; done) | skip
    | false =>
    walk_at "w"
    refine ⟨d, "repeat", 3, rfl, hd, by decide, ?_⟩
    cases h3 : isTupOf d "repeat" 3 with
    | true =>
      obtain ⟨r, rfl, hl⟩ := isTupOf_is h3
      obtain ⟨a, p, rfl⟩ := len2 hl
      obtain ⟨_, hw⟩ := okWs_cons (okW_tup hd).2
      obtain ⟨wa, hw⟩ := okWs_cons hw
      obtain ⟨wp, _⟩ := okWs_cons hw
      have h : k (.bl (numIn 0 9 a && isTupD p)) L := h
      walk_at "w"
      refine ⟨a, 0, 9, rfl, okW_T wa, ?_⟩
      cases hn : numIn 0 9 a with
      | true =>
        rw [hn] at h
        cases p <;> first | exact h | (simp [okW] at wp; done)
      | false => rw [hn] at h; exact h
    | false =>
    walk_at "w"
    refine ⟨d, "stop", 2, rfl, hd, by decide, ?_⟩
    cases h4 : isTupOf d "stop" 2 with
    | true =>
      obtain ⟨r, rfl, hl⟩ := isTupOf_is h4
      obtain ⟨a, rfl⟩ := len1 hl
      obtain ⟨_, hw⟩ := okWs_cons (okW_tup hd).2
      obtain ⟨wa, _⟩ := okWs_cons hw
      walk_at "w"
      exact ⟨a, 6, rfl, wa, by decide, h⟩
    | false =>
      rw [headOk_no h1 h2 h3 h4] at h
      exact h
  · rintro ds L k x ⟨d, rfl, _⟩; rfl
theorem scBlocksOf : FnScope ["statement"] ["statement"] (defScope sBlocksOf) := ⟨rfl, rfl, rfl, by decide +kernel, rfl, by decide +kernel, by decide +kernel⟩
theorem ok_BlocksOf {f : Addr} {fd : FuncData} (Z : Zn w K mg pS pT pW) (F : Fun K "blocks_of" "blocks_of" sBlocksOf f fd) : FnOk P w K mg base (L2.CX P w) 1 f fd ["statement"] (spD K blocksS) := by
  refine fn_ok F scBlocksOf ?len (fun cdv A outer s H E hr => ?_)
  rotate_left
  · have tk := takes_of (X := cxOf (L2.CX P w) P w K mg base ["statement"] "blocks_of" (defScope sBlocksOf) f cdv A outer s H E) (E := E) rfl rfl rfl rfl
    have hp := passes_of (X := cxOf (L2.CX P w) P w K mg base ["statement"] "blocks_of" (defScope sBlocksOf) f cdv A outer s H E) rfl
    refine ⟨_, (ss_cons (s_if (t_cmp (oq_eqU hr.units) (q_ix (qv 0) q_int) q_str) (ss_one (s_ret (q_lst (a_cons (q_ix (qv 0) q_int) (a_cons (q_ix (qv 0) q_int) a_nil))))) ss_nil)
  (ss_one (s_ret (q_if (t_cmp (oq_eqU hr.units) (q_ix (qv 0) q_int) q_str) (q_lst (a_cons (q_ix (qv 0) q_int) a_nil)) (q_lst a_nil))))), ?_⟩
    clear tk hp
    rintro ds L k x ⟨d, rfl, hd, h⟩
    cases d <;> first | cases hd; done | skip
    rename_i l
    rcases l with _ | ⟨a, r⟩
    · cases hd
    cases a <;> first | cases hd; done | skip
    rename_i w
    rw [headOk_str] at hd
    walk_at "v"
    rw [atI_zero]
    walk_at "v"
    by_cases e1 : w = "let"
    · subst e1
      rw [if_pos rfl] at hd
      rcases r with _ | ⟨a, _ | ⟨b, _ | ⟨c, t⟩⟩⟩ <;> first | cases hd; done | skip
      walk_at "s"
      exact h
    rw [if_neg e1] at hd
    by_cases e2 : w = "if"
    · subst e2
      rw [if_pos rfl] at hd
      rcases r with _ | ⟨a, _ | ⟨b, _ | ⟨c, _ | ⟨p, _ | ⟨q, _ | ⟨f, t⟩⟩⟩⟩⟩⟩ <;> first | cases hd; done | skip
      replace hd : (isTestD a && (exprOk 6 b && exprOk 6 c) && (isTupD p && isTupD q)) = true := hd
      simp only [Bool.and_eq_true] at hd
      cases p <;> first | exact absurd hd.2.1 Bool.false_ne_true | skip
      cases q <;> first | exact absurd hd.2.2 Bool.false_ne_true | skip
      walk_at "s"
      exact h
    rw [if_neg e2] at hd
    by_cases e3 : w = "repeat"
    · subst e3
      rw [if_pos rfl] at hd
      rcases r with _ | ⟨a, _ | ⟨p, _ | ⟨c, t⟩⟩⟩ <;> first | cases hd; done | skip
      replace hd : (numIn 0 9 a && isTupD p) = true := hd
      rw [Bool.and_eq_true] at hd
      cases p <;> first | exact absurd hd.2 Bool.false_ne_true | skip
      walk_at "s"
      exact h
    rw [if_neg e3] at hd
    by_cases e4 : w = "stop"
    · subst e4
      rw [if_pos rfl] at hd
      rcases r with _ | ⟨a, _ | ⟨b, t⟩⟩ <;> first | cases hd; done | skip
      walk_at "s"
      exact h
    rw [if_neg e4] at hd
    cases hd
  · rintro ds L k x ⟨d, rfl, _⟩; rfl
theorem scVisit : FnScope ["statements", "deep", "count", "statement", "block"] ["statements", "deep", "count"] (defScope sVisit) := ⟨rfl, rfl, rfl, by decide +kernel, rfl, by decide +kernel, by decide +kernel⟩
theorem ok_Visit {f : Addr} {fd : FuncData} {n : Nat} (Z : Zn w K mg pS pT pW) (F : Fun K "visit" "visit" sVisit f fd) {C : Addr} (CIsHead : Cal P w K mg base 18 "is_head" ["value"] [] headS) (CBlocksOf : Cal P w K mg base 1 "blocks_of" ["statement"] [] blocksS) (CVisit : Cal P w K mg base (n + 19) "visit" ["statements", "deep", "count"] [] (visitS C n)) (E_InvalidProgram : ExCls P w K mg base "InvalidProgram" C ["self", "at"] (spI1 C "InvalidProgram" "at")) : FnOk P w K mg base (L2.CX P w) (n + 20) f fd ["statements", "deep", "count"] (spD K (visitS C (n + 1))) := by
  refine fn_ok F scVisit ?len (fun cdv A outer s H E hr => ?_)
  rotate_left
  · have tk := takes_of (X := cxOf (L2.CX P w) P w K mg base ["statements", "deep", "count", "statement", "block"] "visit" (defScope sVisit) f cdv A outer s H E) (E := E) rfl rfl rfl rfl
    have hp := passes_of (X := cxOf (L2.CX P w) P w K mg base ["statements", "deep", "count", "statement", "block"] "visit" (defScope sVisit) f cdv A outer s H E) rfl
    refine ⟨_, (ss_cons (s_for hp rfl (i_tup (qv 0)) (g_name 3 scVisit.nd) (ss_cons (s_if (w_or (t_cmp oq_gt (qv 1) (q_globD Z.g_DEEPEST_STATEMENT (by rfl))) (w_or (t_cmp oq_ge (qv 2) (q_globD Z.g_MOST_STATEMENTS (by rfl))) (w_or1 (t_not (t_val (q_cal CIsHead (by first | decide | exact Nat.le_refl _ | omega) hr tk (by rfl) (a_cons (qv 3) a_nil))))))).t (ss_one (s_raise1 E_InvalidProgram rfl hr (by first | decide | omega) tk (by rfl) (a_cons (qv 2) a_nil))) ss_nil)
  (ss_cons (s_aug 2 scVisit.nd q_int ip_addQ)
  (ss_one (s_for hp rfl (i_list (q_cal CBlocksOf (by first | decide | exact Nat.le_refl _ | omega) hr tk (by rfl) (a_cons (qv 3) a_nil))) (g_name 4 scVisit.nd) (ss_one (s_set 2 scVisit.nd (q_cal CVisit (by first | decide | exact Nat.le_refl _ | omega) hr tk (by rfl) (a_cons (qv 4) (a_cons (q_op oq_add (qv 1) q_int) (a_cons (qv 2) a_nil)))))))))))
  (ss_one (s_ret (qv 2)))), ?_⟩
    clear tk hp
    rintro ds L k x ⟨l, n, c, rfl, hn, hw, hk, hx⟩
    walk_at "w"
    refine forD_rec (fun r env L' => ∃ (c : Nat) (o3 o4 : Option D), env = [some (.tup l), some (.int (5 - (n : Int))), some (.int c), o3, o4] ∧ L' = L ∧ okWs r = true ∧ (∀ c' : Nat, visF n r c = .ok c' → k (.int c') L) ∧ ∀ e : Nat, visF n r c = .bad e → x (ipE C e) L) ?step ?stop _ _ _ ⟨c, none, none, rfl, rfl, hw, hk, hx⟩
    case stop =>
      rintro env L' ⟨c, o3, o4, rfl, rfl, _, hk, _⟩
      exact hk c (by cases n <;> rfl)
    case step =>
      clear hk hx hw c
      rintro E' s r env L' hrt hex hbk hct ⟨c, o3, o4, rfl, rfl, hw, hk, hx⟩ hnx
      obtain ⟨ws, wr⟩ := okWs_cons hw
      have hx' : ∀ e env, x e L' → E'.ex e env L' := fun e env h => by rw [hex]; exact h
      walk_at "v"
      cases n with
      | zero =>
        rw [show decide ((4 : Int) < 5 - ((0 : Nat) : Int)) = true from rfl]
        walk_at "w"
        exact hx' _ _ (hx c rfl)
      | succ n =>
        rw [show decide ((4 : Int) < 5 - ((n + 1 : Nat) : Int)) = false from decide_eq_false (by omega)]
        walk_at "v"
        cases hc : decide ((30 : Int) ≤ (c : Int)) with
        | true =>
          walk_at "w"
          refine hx' _ _ (hx c ?_)
          show (match decide (c < 30) && headOk s with | true => _ | false => Vis.bad c) = _
          rw [decide_eq_false (by have := of_decide_eq_true hc; omega)]
          rfl
        | false =>
          have hc := of_decide_eq_false hc
          walk_at "w"
          refine ⟨s, rfl, ws, ?_⟩
          cases hh : headOk s with
          | false =>
            walk_at "w"
            refine hx' _ _ (hx c ?_)
            show (match decide (c < 30) && headOk s with | true => _ | false => Vis.bad c) = _
            rw [hh, Bool.and_false]
          | true =>
            have hv : visF (n + 1) (s :: r) c = (match visL (visF n) (blocksOf s) (c + 1) with | .bad e => Vis.bad e | .ok c' => visF (n + 1) r c') := by
              show (match decide (c < 30) && headOk s with | true => (match visL (visF n) (blocksOf s) (c + 1) with | .bad e => Vis.bad e | .ok c' => visF (n + 1) r c') | false => Vis.bad c) = _
              rw [hh, decide_eq_true (by omega)]
              rfl
            rw [hv] at hk hx
            walk_at "w"
            refine ⟨s, rfl, hh, ?_⟩
            have hbw : ∀ b ∈ blocksOf s, okWs b = true := blocks_okW ws
            refine forD_rec (fun q env L'' => ∃ (bs : List (List D)) (c' : Nat) (o4 : Option D), q = bs.map .tup ∧ env = [some (.tup l), some (.int (5 - ((n + 1 : Nat) : Int))), some (.int c'), some s, o4] ∧ L'' = L' ∧ (∀ b ∈ bs, okWs b = true) ∧ visL (visF n) (blocksOf s) (c + 1) = visL (visF n) bs c') ?step ?stop _ _ _ ⟨blocksOf s, c + 1, o4, rfl, rfl, rfl, hbw, rfl⟩
            case stop =>
              rintro env L'' ⟨bs, c', o4, hq, rfl, rfl, _, hv⟩
              cases bs with
              | cons _ _ => cases hq
              | nil =>
                rw [hv] at hk hx
                exact hnx _ _ ⟨c', _, _, rfl, rfl, wr, hk, hx⟩
            case step =>
              rintro E2 d q env L'' hrt2 hex2 hbk2 hct2 ⟨bs, c', o4, hq, rfl, rfl, hb, hv⟩ hnx2
              cases bs with
              | nil => cases hq
              | cons b bs =>
                cases hq
                rw [hv] at hk hx
                walk_at "w"
                refine ⟨b, n, c', ?_, by omega, hb b List.mem_cons_self, fun c2 h2 => ?_, fun e h2 => ?_⟩
                · show [D.tup b, D.int (5 - ((n + 1 : Nat) : Int) + 1), D.int c'] = _
                  rw [show (5 - ((n + 1 : Nat) : Int) + 1) = 5 - (n : Int) by omega]
                · refine hnx2 _ _ ⟨bs, c2, _, rfl, rfl, rfl, fun b hb' => hb b (List.mem_cons_of_mem _ hb'), ?_⟩
                  rw [hv]
                  show (match visF n b c' with | .bad e => _ | .ok c' => visL (visF n) bs c') = _
                  rw [h2]
                · walk_at "w"
                  have hx2 : ∀ e env, x e L'' → E2.ex e env L'' := fun e env h => by rw [hex2]; exact hx' e env h
                  refine hx2 _ _ (hx e ?_)
                  show (match (match visF n b c' with | .bad e => Vis.bad e | .ok c' => visL (visF n) bs c') with | .bad e => _ | .ok c' => _) = _
                  rw [h2]
  · rintro ds L k x ⟨l, n, c, rfl, _⟩; rfl
theorem scCheckProgram : FnScope ["value"] ["value"] (defScope sCheckProgram) := ⟨rfl, rfl, rfl, by decide +kernel, rfl, by decide +kernel, by decide +kernel⟩
theorem ok_CheckProgram {f : Addr} {fd : FuncData} (Z : Zn w K mg pS pT pW) (F : Fun K "check_program" "check_program" sCheckProgram f fd) {C : Addr} (CVisit : Cal P w K mg base 24 "visit" ["statements", "deep", "count"] [] (visitS C 5)) (E_InvalidProgram : ExCls P w K mg base "InvalidProgram" C ["self", "at"] (spI1 C "InvalidProgram" "at")) : FnOk P w K mg base (L2.CX P w) 25 f fd ["value"] (spD K (checkS C)) := by
  refine fn_ok F scCheckProgram ?len (fun cdv A outer s H E hr => ?_)
  rotate_left
  · have tk := takes_of (X := cxOf (L2.CX P w) P w K mg base ["value"] "check_program" (defScope sCheckProgram) f cdv A outer s H E) (E := E) rfl rfl rfl rfl
    have hp := passes_of (X := cxOf (L2.CX P w) P w K mg base ["value"] "check_program" (defScope sCheckProgram) f cdv A outer s H E) rfl
    refine ⟨_, (ss_cons (s_if (t_not (t_val (q_isi .tup (qv 0) (by rfl) Z.z_isinstance (by rfl) Z.z_tuple bb_tuple))) (ss_one (s_raise1 E_InvalidProgram rfl hr (by first | decide | omega) tk (by rfl) (a_cons (q_neg q_int) a_nil))) ss_nil)
  (ss_one (s_expr (q_cal CVisit (by first | decide | exact Nat.le_refl _ | omega) hr tk (by rfl) (a_cons (qv 0) (a_cons q_int (a_cons q_int a_nil))))))), ?_⟩
    clear tk hp
    rintro ds L k x ⟨v, rfl, hw, h1, h2⟩
    cases v <;> first | exact h1 rfl | (simp [okW] at hw; done) | skip
    rename_i l
    obtain ⟨hk, hx⟩ := h2 l rfl
    walk_at "w"
    exact ⟨l, 4, 0, rfl, by decide, (okW_tup hw).2, fun c' h => hk c' h, fun e h => hx e h⟩
  · rintro ds L k x ⟨v, rfl, _⟩; rfl
end
end T25

namespace T25
open PySem L2 DL TL NumText
section
variable {P : Program} {w : World} {K : PySem.W.Frag} {mg : Str → Option Value} {base : Heap} {pS pT pW : Addr}
local macro_rules | `(tactic| walk_at "w") => `(tactic| conv => whnf)
local macro_rules | `(tactic| walk_at "v") => `(tactic| ((conv => whnf); try dsimp only))
local macro_rules | `(tactic| walk_at "s") => `(tactic| ((conv => whnf); repeat ((first | refine ⟨sz_ok rfl, ?_⟩ | refine ⟨rfl, ?_⟩); conv => whnf)))
theorem scLBag : FnScope ["_law_script", "_law_mixed", "_law_cell"] ["_law_script"] (defScope sLBag) := ⟨rfl, rfl, rfl, by decide +kernel, rfl, by decide +kernel, by decide +kernel⟩
theorem ok_LBag {f : Addr} {fd : FuncData} (Z : Zn w K mg pS pT pW) (F : Fun K "_law_bag" "_law_bag" sLBag f fd) : FnOk P w K mg base (L2.CX P w) 1 f fd ["_law_script"] (spD K bagS) := by
  refine fn_ok F scLBag ?len (fun cdv A outer s H E hr => ?_)
  rotate_left
  · have tk := takes_of (X := cxOf (L2.CX P w) P w K mg base ["_law_script", "_law_mixed", "_law_cell"] "_law_bag" (defScope sLBag) f cdv A outer s H E) (E := E) rfl rfl rfl rfl
    have hp := passes_of (X := cxOf (L2.CX P w) P w K mg base ["_law_script", "_law_mixed", "_law_cell"] "_law_bag" (defScope sLBag) f cdv A outer s H E) rfl
    refine ⟨_, (ss_cons (s_set 1 scLBag.nd q_int)
  (ss_cons (s_for hp rfl (i_list (q_slice (qv 0) o_none (o_some q_int))) (g_name 2 scLBag.nd) (ss_one (s_set 1 scLBag.nd (q_op oq_mod (q_callTy cq_int (by rfl) Z.z_int bb_int (a_cons (q_op oq_add (q_op oq_add (q_op oq_mulU (qv 1) q_int) (q_op oq_mod (q_callTy cq_int (by rfl) Z.z_int bb_int (a_cons (qv 2) a_nil)) q_int)) q_int) a_nil)) q_int))))
  (ss_one (s_ret (q_lstM (a_cons (q_callTy cq_list (by rfl) Z.z_list bb_list (a_cons (q_slice (qv 0) o_none (o_some q_int)) a_nil)) (a_cons q_int (a_cons q_int (a_cons (qv 1) (a_cons q_int a_nil)))))))))), ?_⟩
    clear tk hp
    rintro ds L k x ⟨ns, rfl, h⟩
    obtain ⟨ms, e⟩ : ∃ ms : List Int, cutD (ns.map .int) none (some 63) = ms.map .int := ⟨(ns.drop (HT.sIx (ns.map D.int).length 0 none)).take (HT.sIx (ns.map D.int).length (ns.map D.int).length (some 63) - HT.sIx (ns.map D.int).length 0 none), by unfold cutD; rw [List.map_take, List.map_drop]⟩
    have key : ∀ (En : DEnds) (db : DS), (∀ (m : Int) (o : Option D), 0 ≤ m → m < 2147483497 → En.nx [some (.ro (ns.map .int)), some (.int m), o] L) →
        (∀ (E' : DEnds) (m v : Int), (∀ m' : Int, 0 ≤ m' → m' < 2147483497 → E'.nx [some (.ro (ns.map .int)), some (.int m'), some (.int v)] L) → db E' [some (.ro (ns.map .int)), some (.int m), some (.int v)] L) →
        ∀ (ms : List Int) (m : Int) (o : Option D), 0 ≤ m → m < 2147483497 → forD (dgName 2) db En (ms.map .int) [some (.ro (ns.map .int)), some (.int m), o] L := by
      intro En db hn hb ms
      induction ms with
      | nil => intro m o h0 h1; rw [List.map_nil, forD_nil]; exact hn m o h0 h1
      | cons v r ih => intro m o h0 h1; rw [List.map_cons, forD_cons]; exact hb _ m v fun m' q0 q1 => ih m' (some (.int v)) q0 q1
    walk_at "w"
    rw [e]
    refine key _ _ (fun m o h0 h1 => ?_) (fun E' m v hn => ?_) ms 12019 none (by decide) (by decide)
    · walk_at "w"
      rw [e]
      refine ⟨(by show 5 ≤ sizeLine; decide), fun p hp => ?_⟩
      exact h p ⟨ms, 0, 0, m, 0⟩ hp ⟨Int.le_refl 0, Int.natCast_nonneg _, Int.le_refl 0, h0, h1⟩
    · walk_at "w"
      refine ⟨.inl (.inr (by decide)), ?_⟩
      walk_at "w"
      refine ⟨(by show (2147483423 : Int) ≠ 0; decide), ?_⟩
      walk_at "w"
      refine ⟨(by show (2147483497 : Int) ≠ 0; decide), ?_⟩
      refine hn _ ?_ ?_
      · rw [Int.fmod_eq_emod_of_nonneg _ (by decide)]; exact Int.emod_nonneg _ (by decide)
      · rw [Int.fmod_eq_emod_of_nonneg _ (by decide)]; exact Int.emod_lt_of_pos _ (by decide)
  · rintro ds L k x ⟨ns, rfl, _⟩; rfl
theorem scLPull : FnScope ["_law_bag_here", "_law_many", "_law_cell", "_law_digit", "_law_seed"] ["_law_bag_here", "_law_many"] (defScope sLPull) := ⟨rfl, rfl, rfl, by decide +kernel, rfl, by decide +kernel, by decide +kernel⟩
theorem ok_LPull {f : Addr} {fd : FuncData} (Z : Zn w K mg pS pT pW) (F : Fun K "_law_pull" "_law_pull" sLPull f fd) : FnOk P w K mg base (L2.CX P w) 1 f fd ["_law_bag_here", "_law_many"] (spD K pullS) := by
  refine fn_ok F scLPull ?len (fun cdv A outer s H E hr => ?_)
  rotate_left
  · have tk := takes_of (X := cxOf (L2.CX P w) P w K mg base ["_law_bag_here", "_law_many", "_law_cell", "_law_digit", "_law_seed"] "_law_pull" (defScope sLPull) f cdv A outer s H E) (E := E) rfl rfl rfl rfl
    have hp := passes_of (X := cxOf (L2.CX P w) P w K mg base ["_law_bag_here", "_law_many", "_law_cell", "_law_digit", "_law_seed"] "_law_pull" (defScope sLPull) f cdv A outer s H E) rfl
    refine ⟨_, (ss_cons (s_store (q_op oq_add (q_ix (qv 0) q_int) q_int) (qv 0) q_int)
  (ss_cut (s_if (w_and (t_cmp (oq_eqU hr.units) (q_ix (qv 0) q_int) q_int) (w_and1 (t_cmp oq_lt (q_ix (qv 0) q_int) (q_callB cq_len (by rfl) Z.z_len bb_len (a_cons (q_ix (qv 0) q_int) a_nil))))).t (ss_cons (s_set 2 scLPull.nd (q_ix (q_ix (qv 0) q_int) (q_ix (qv 0) q_int)))
  (ss_cons (s_store (q_op oq_add (q_ix (qv 0) q_int) q_int) (qv 0) q_int)
  (ss_one (s_if (t_cmp oq_ge (qv 2) (q_op oq_pow q_int q_int)) (ss_one (s_store (qv 2) (qv 0) q_int)) (ss_one (s_store (q_op oq_mod (q_callTy cq_int (by rfl) Z.z_int bb_int (a_cons (q_op oq_add (q_op oq_add (q_op oq_mulU (q_ix (qv 0) q_int) q_int) (q_op oq_mulU (q_op oq_mod (q_callTy cq_int (by rfl) Z.z_int bb_int (a_cons (qv 2) a_nil)) q_int) q_int)) q_int) a_nil)) q_int) (qv 0) q_int)))))) ss_nil)
  (ss_cons (s_if (t_cmp oq_gt (q_ix (qv 0) q_int) q_int) (ss_cons (s_set 3 scLPull.nd (q_op oq_mod (q_callTy cq_int (by rfl) Z.z_int bb_int (a_cons (q_ix (qv 0) q_int) a_nil)) (qv 1)))
  (ss_cons (s_store (q_op oq_fdiv (q_ix (qv 0) q_int) (qv 1)) (qv 0) q_int)
  (ss_one (s_ret (qv 3))))) ss_nil)
  (ss_cons (s_set 4 scLPull.nd (q_callTy cq_int (by rfl) Z.z_int bb_int (a_cons (q_ix (qv 0) q_int) a_nil)))
  (ss_cons (s_store (q_op oq_mod (q_callTy cq_int (by rfl) Z.z_int bb_int (a_cons (q_op oq_add (q_op oq_add (q_op oq_add (q_op oq_pow (qv 4) q_int) (q_op oq_mulU (qv 4) q_int)) (q_op oq_mulU (q_ix (qv 0) q_int) q_int)) q_int) a_nil)) q_int) (qv 0) q_int)
  (ss_one (s_ret (q_op oq_mod (q_callTy cq_int (by rfl) Z.z_int bb_int (a_cons (q_op oq_add (q_op oq_fdiv (q_ix (qv 0) q_int) q_int) (q_op oq_mulU (q_op oq_mod (q_callTy cq_int (by rfl) Z.z_int bb_int (a_cons (q_ix (qv 0) q_int) a_nil)) q_int) q_int)) a_nil)) (qv 1))))))))), ?_⟩
    clear tk hp
    rintro ds L k x ⟨p, b, m, rfl, hl, ok, m0, m1, h⟩
    obtain ⟨cs, at_, rest, mix, cnt⟩ := b
    have k1 : ∀ d, (setL L p d).lookup p = some d := fun d => lookup_setL hl
    walk_at "w"
    rw [con_ptr hl]
    walk_at "w"
    rw [hl]
    walk_at "w"
    refine ⟨fun env' L' => ∃ (b' : Bag) (o : Option D), BagOk b' ∧ env' = [some (.ptr p), some (.int m), o, none, none] ∧ L' = setL L p (bagC b'), ?_, ?_⟩
    · have st : ∀ (L' : Led) (b' : Bag) (o : Option D), BagOk b' → L' = setL L p (bagC b') → ∃ (b'' : Bag) (o' : Option D), BagOk b'' ∧ [some (D.ptr p), some (D.int m), o, none, none] = [some (.ptr p), some (.int m), o', none, none] ∧ L' = setL L p (bagC b'') := fun L' b' o z e => ⟨b', o, z, rfl, e⟩
      walk_at "w"
      rw [con_ptr (k1 _)]
      walk_at "w"
      try dsimp only
      cases h2 : flEq (D.int rest) (D.int 0) with
      | false => exact st _ ⟨cs, at_, rest, mix, cnt + 1⟩ none ⟨ok.a0, ok.a1, ok.r0, ok.m0, ok.m1⟩ rfl
      | true =>
        walk_at "w"
        rw [con_ptr (k1 _)]
        walk_at "w"
        rw [con_ptr (k1 _)]
        walk_at "w"
        try dsimp only
        cases h3 : decide (at_ < ((cs.map D.int).length : Int)) with
        | false => exact st _ ⟨cs, at_, rest, mix, cnt + 1⟩ none ⟨ok.a0, ok.a1, ok.r0, ok.m0, ok.m1⟩ rfl
        | true =>
          have h3 := of_decide_eq_true h3
          rw [List.length_map] at h3
          have a0 : 0 ≤ at_ := ok.a0
          obtain ⟨n, rfl⟩ := Int.eq_ofNat_of_zero_le a0
          have hn : n < cs.length := by omega
          have hat : atI (cs.map D.int) (n : Int) = some (.int cs[n]) := atI_nat (by rw [List.getElem?_map, List.getElem?_eq_getElem hn]; rfl)
          walk_at "w"
          rw [con_ptr (k1 _)]
          walk_at "w"
          rw [con_ptr (k1 _)]
          walk_at "w"
          rw [show atI (List.map D.int (Bag.mk cs (n : Int) rest mix cnt).cells) (Bag.mk cs (n : Int) rest mix cnt).at_ = some (D.int cs[n]) from hat]
          walk_at "w"
          rw [con_ptr (k1 _)]
          walk_at "w"
          rw [k1]
          walk_at "w"
          rw [setL_setL]
          walk_at "w"
          refine ⟨⟨by decide, by decide, by decide⟩, ?_⟩
          walk_at "w"
          cases h4 : decide ((10 : Int) ^ (Int.toNat 18) ≤ cs[n]) with
          | true =>
            have h4 := of_decide_eq_true h4
            walk_at "w"
            rw [k1]
            walk_at "w"
            rw [setL_setL]
            refine st _ ⟨cs, n + 1, cs[n], mix, cnt + 1⟩ _ ⟨?_, ?_, ?_, ok.m0, ok.m1⟩ rfl
            · show (0 : Int) ≤ n + 1; omega
            · show (n : Int) + 1 ≤ cs.length; omega
            · show 0 ≤ cs[n]
              have : (0 : Int) ≤ 10 ^ (Int.toNat 18) := by decide +kernel
              omega
          | false =>
            walk_at "w"
            rw [con_ptr (k1 _)]
            walk_at "w"
            refine ⟨.inl (.inr (by decide)), ?_⟩
            walk_at "w"
            refine ⟨(by show (2147483423 : Int) ≠ 0; decide), ?_⟩
            walk_at "w"
            refine ⟨.inl (.inr (by decide)), ?_⟩
            walk_at "w"
            refine ⟨(by show (2147483489 : Int) ≠ 0; decide), ?_⟩
            walk_at "w"
            rw [k1]
            walk_at "w"
            rw [setL_setL]
            refine st _ ⟨cs, n + 1, rest, (mix * 39317 + cs[n].fmod 2147483423 * 691 + 43).fmod 2147483489, cnt + 1⟩ _ ⟨?_, ?_, ok.r0, ?_, ?_⟩ rfl
            · show (0 : Int) ≤ n + 1; omega
            · show (n : Int) + 1 ≤ cs.length; omega
            · show (0 : Int) ≤ Int.fmod _ _
              rw [Int.fmod_eq_emod_of_nonneg _ (by decide)]; exact Int.emod_nonneg _ (by decide)
            · show Int.fmod _ _ < (2147483497 : Int)
              rw [Int.fmod_eq_emod_of_nonneg _ (by decide)]
              have := Int.emod_lt_of_pos (mix * 39317 + cs[n].fmod 2147483423 * 691 + 43) (show (0 : Int) < 2147483489 by decide)
              omega
    · rintro env' L' ⟨⟨cs, at_, rest, mix, cnt⟩, o, ok', rfl, rfl⟩
      have r0 : 0 ≤ rest := ok'.r0
      have fm : ∀ z : Int, 0 ≤ z.fmod m ∧ z.fmod m < m := fun z => by
        rw [Int.fmod_eq_emod_of_nonneg _ (Int.le_of_lt m0)]
        exact ⟨Int.emod_nonneg _ (by omega), Int.emod_lt_of_pos _ m0⟩
      walk_at "w"
      rw [con_ptr (k1 _)]
      walk_at "w"
      try dsimp only
      cases h2 : decide (0 < rest) with
      | true =>
        walk_at "w"
        rw [con_ptr (k1 _)]
        walk_at "w"
        refine ⟨(by show m ≠ 0; omega), ?_⟩
        walk_at "w"
        rw [con_ptr (k1 _)]
        walk_at "w"
        refine ⟨⟨(by omega), m1⟩, ?_⟩
        walk_at "w"
        rw [k1]
        walk_at "w"
        rw [setL_setL]
        refine h _ ⟨cs, at_, rest.fdiv m, mix, cnt⟩ (fm rest).1 (fm rest).2 ⟨ok'.a0, ok'.a1, ?_, ok'.m0, ok'.m1⟩
        exact Int.fdiv_nonneg r0 (Int.le_of_lt m0)
      | false =>
        walk_at "w"
        rw [con_ptr (k1 _)]
        walk_at "w"
        have hm0 : 0 ≤ mix := ok'.m0
        have hm1 : mix < 2147483497 := ok'.m1
        refine ⟨⟨by decide, by decide, (by show mix.natAbs < 2 ^ 64; omega)⟩, ?_⟩
        walk_at "w"
        refine ⟨.inl (.inr (by decide)), ?_⟩
        walk_at "w"
        rw [con_ptr (k1 _)]
        walk_at "w"
        refine ⟨.inl (.inr (by decide)), ?_⟩
        walk_at "w"
        refine ⟨(by show (2147483489 : Int) ≠ 0; decide), ?_⟩
        walk_at "w"
        rw [k1]
        walk_at "w"
        rw [setL_setL]
        rw [con_ptr (k1 _)]
        walk_at "w"
        refine ⟨⟨by decide, by decide +kernel⟩, ?_⟩
        walk_at "w"
        rw [con_ptr (k1 _)]
        walk_at "w"
        refine ⟨(by show (7919 : Int) ≠ 0; decide), ?_⟩
        walk_at "w"
        refine ⟨.inl (.inr (by decide)), ?_⟩
        walk_at "w"
        refine ⟨(by show m ≠ 0; omega), ?_⟩
        refine h _ ⟨cs, at_, rest, (mix ^ Int.toNat 3 + mix * 27073 + cnt * 1299827 + 70001).fmod 2147483489, cnt⟩ (fm _).1 (fm _).2 ⟨ok'.a0, ok'.a1, ok'.r0, ?_, ?_⟩
        · show (0 : Int) ≤ Int.fmod _ _
          rw [Int.fmod_eq_emod_of_nonneg _ (by decide)]; exact Int.emod_nonneg _ (by decide)
        · show Int.fmod _ _ < (2147483497 : Int)
          rw [Int.fmod_eq_emod_of_nonneg _ (by decide)]
          have := Int.emod_lt_of_pos (mix ^ Int.toNat 3 + mix * 27073 + cnt * 1299827 + 70001) (show (0 : Int) < 2147483489 by decide)
          omega
  · rintro ds L k x ⟨p, b, m, rfl, _⟩; rfl
theorem scLOf : FnScope ["_law_bag_here", "_law_some"] ["_law_bag_here", "_law_some"] (defScope sLOf) := ⟨rfl, rfl, rfl, by decide +kernel, rfl, by decide +kernel, by decide +kernel⟩
theorem ok_LOf {f : Addr} {fd : FuncData} (Z : Zn w K mg pS pT pW) (F : Fun K "_law_of" "_law_of" sLOf f fd) (CLPull : Cal P w K mg base 1 "_law_pull" ["_law_bag_here", "_law_many"] [] pullS) : FnOk P w K mg base (L2.CX P w) 2 f fd ["_law_bag_here", "_law_some"] (spD K ofA) := by
  refine fn_ok F scLOf ?len (fun cdv A outer s H E hr => ?_)
  rotate_left
  · have tk := takes_of (X := cxOf (L2.CX P w) P w K mg base ["_law_bag_here", "_law_some"] "_law_of" (defScope sLOf) f cdv A outer s H E) (E := E) rfl rfl rfl rfl
    have hp := passes_of (X := cxOf (L2.CX P w) P w K mg base ["_law_bag_here", "_law_some"] "_law_of" (defScope sLOf) f cdv A outer s H E) rfl
    refine ⟨_, (ss_one (s_ret (q_ixA (qv 1) (q_cal CLPull (by first | decide | exact Nat.le_refl _ | omega) hr tk (by rfl) (a_cons (qv 0) (a_cons (q_callB cq_len (by rfl) Z.z_len bb_len (a_cons (qv 1) a_nil)) a_nil)))))), ?_⟩
    clear tk hp
    rintro ds L k x ⟨p, b, s, xs, rfl, hs, hl, ok, x0, x1, h⟩
    have lg : ∀ n : Nat, 0 < n → n < 1000 → ((n : Int)).natAbs.log2 < 9000 := fun n n0 n1 => by
      rw [Int.natAbs_natCast]
      have : n.log2 < 10 := by
        rw [Nat.log2_lt (by omega)]
        omega
      omega
    cases s <;> first | cases hs; done | skip
    · rename_i z
      cases hs
      rw [sgD, List.length_map] at x0 x1
      have x0 : 0 < z.length := x0
      have x1 : z.length < 1000 := x1
      have zs : z.length ≤ sizeLine := Nat.le_trans (Nat.le_of_lt x1) (by decide)
      walk_at "w"
      refine ⟨zs, ?_⟩
      walk_at "w"
      refine ⟨p, b, z.length, rfl, hl, ok, by omega, lg _ x0 x1, fun r b' r0 r1 ok' => ?_⟩
      obtain ⟨n, rfl⟩ := Int.eq_ofNat_of_zero_le r0
      have hn : n < z.cps.toList.length := by show n < z.length; omega
      walk_at "w"
      refine ⟨zs, ?_⟩
      rw [show atI z.cps.toList (n : Int) = some z.cps.toList[n] from atI_nat (List.getElem?_eq_getElem hn)]
      exact h _ b' (List.mem_map.mpr ⟨_, List.getElem_mem hn, rfl⟩) ok'
    · rename_i l
      have e : l = xs := by injection hs
      subst e
      walk_at "w"
      refine ⟨p, b, l.length, rfl, hl, ok, by omega, lg _ x0 x1, fun r b' r0 r1 ok' => ?_⟩
      obtain ⟨n, rfl⟩ := Int.eq_ofNat_of_zero_le r0
      have hn : n < l.length := by omega
      walk_at "w"
      rw [show atI l (n : Int) = some l[n] from atI_nat (List.getElem?_eq_getElem hn)]
      exact h _ b' (List.getElem_mem hn) ok'
  · rintro ds L k x ⟨p, b, s, xs, rfl, _⟩; rfl
theorem scLSame : FnScope ["_law_found", "_law_due", "_law_one", "_law_two"] ["_law_found", "_law_due"] (defScope sLSame) := ⟨rfl, rfl, rfl, by decide +kernel, rfl, by decide +kernel, by decide +kernel⟩
theorem ok_LSame {f : Addr} {fd : FuncData} {n : Nat} (Z : Zn w K mg pS pT pW) (F : Fun K "_law_same" "_law_same" sLSame f fd) (CLSame : Cal P w K mg base n "_law_same" ["_law_found", "_law_due"] [] (sameS n)) : FnOk P w K mg base (L2.CX P w) (n + 1) f fd ["_law_found", "_law_due"] (spD K (sameS (n + 1))) := by
  refine fn_ok F scLSame ?len (fun cdv A outer s H E hr => ?_)
  rotate_left
  · have tk := takes_of (X := cxOf (L2.CX P w) P w K mg base ["_law_found", "_law_due", "_law_one", "_law_two"] "_law_same" (defScope sLSame) f cdv A outer s H E) (E := E) rfl rfl rfl rfl
    have hp := passes_of (X := cxOf (L2.CX P w) P w K mg base ["_law_found", "_law_due", "_law_one", "_law_two"] "_law_same" (defScope sLSame) f cdv A outer s H E) rfl
    refine ⟨_, (ss_cons (s_if (t_val (q_isi2 .lst .tup (qv 1) (by rfl) Z.z_isinstance (by rfl) Z.z_list bb_list (by rfl) Z.z_tuple bb_tuple)) (ss_cons (s_if (w_or (t_cmp (oq_neU hr.units) (q_isi .lst (qv 0) (by rfl) Z.z_isinstance (by rfl) Z.z_list bb_list) (q_isi .lst (qv 1) (by rfl) Z.z_isinstance (by rfl) Z.z_list bb_list)) (w_or1 (t_cmp (oq_neU hr.units) (q_isi .tup (qv 0) (by rfl) Z.z_isinstance (by rfl) Z.z_tuple bb_tuple) (q_isi .tup (qv 1) (by rfl) Z.z_isinstance (by rfl) Z.z_tuple bb_tuple)))).t (ss_one (s_ret q_bl)) ss_nil)
  (ss_one (s_ret (q_and (q_cmp (oq_eqU hr.units) (q_callB cq_len (by rfl) Z.z_len bb_len (a_cons (qv 0) a_nil)) (q_callB cq_len (by rfl) Z.z_len bb_len (a_cons (qv 1) a_nil))) (q_one (q_callB (cq_all rfl) (by rfl) Z.z_all bb_all (a_cons (q_lc rfl scLSame.nd (i_zip (by rfl) Z.z_zip (a_cons (qv 0) (a_cons (qv 1) a_nil))) (blkOk_by (own := [("_law_one", 2), ("_law_two", 3)]) (N := ["_law_found", "_law_due", "_law_one", "_law_two"]) (sc := (defScope sLSame)) (by decide +kernel)) (fun _ _ _ _ _ => (g_tup (n := 2) rfl (gs_cons (g_name 2 scLSame.nd) (gs_cons (g_name 3 scLSame.nd) gs_nil)))) (fun _ _ _ _ _ => ts_nil) (fun _ _ _ _ _ => (q_cal CLSame (by first | decide | exact Nat.le_refl _ | omega) hr takes0 (by rfl) (a_cons (qv 2) (a_cons (qv 3) a_nil))))) a_nil))))))) ss_nil)
  (ss_cons (s_if (w_or (t_cmp oq_isN (qv 1) q_non) (w_or1 (t_cmp oq_isN (qv 0) q_non))).t (ss_one (s_ret (q_and (q_cmp oq_isN (qv 1) q_non) (q_one (q_cmp oq_isN (qv 0) q_non))))) ss_nil)
  (ss_cons (s_if (w_or (t_cmp (oq_neU hr.units) (q_isi .bl (qv 0) (by rfl) Z.z_isinstance (by rfl) Z.z_bool bb_bool) (q_isi .bl (qv 1) (by rfl) Z.z_isinstance (by rfl) Z.z_bool bb_bool)) (w_or1 (t_cmp (oq_neU hr.units) (q_isi .int (qv 0) (by rfl) Z.z_isinstance (by rfl) Z.z_int bb_int) (q_isi .int (qv 1) (by rfl) Z.z_isinstance (by rfl) Z.z_int bb_int)))).t (ss_one (s_ret q_bl)) ss_nil)
  (ss_one (s_ret (q_and (q_cmp (oq_eqU hr.units) (q_isi .str (qv 0) (by rfl) Z.z_isinstance (by rfl) Z.z_str bb_str) (q_isi .str (qv 1) (by rfl) Z.z_isinstance (by rfl) Z.z_str bb_str)) (q_one (q_cmp (oq_eqU hr.units) (qv 0) (qv 1))))))))), ?_⟩
    clear tk hp
    rintro ds L k x ⟨a, b, rfl, oa, ob, hd, h⟩
    have seq : ∀ (kk : DK) (p : Addr) (e0 : DEnv) (e1 : D → D → DEnv), ¬ inL L p → ∀ (dg : DG) (de : DE), (∀ (x y : D) (L' : Led) (g : DEnv → Prop), g (e1 x y) → dg (.tup [x, y]) e0 L' g) → (∀ (x y : D) (L' : Led) (g : DK) (gx : DX), okP x = true → okP y = true → dep y < n → g (.bl (sameD x y)) L' → de (e1 x y) L' g gx) →
        ∀ (xs ys acc : List D), xs.length = ys.length → okPs xs = true → okPs ys = true → deps ys < n → acc.length + xs.length < 200000 → (∀ bs : List Bool, bs.all id = sameL xs ys → kk (.lst (acc ++ bs.map .bl)) L) → lcD dg dYes de e0 p kk (zipD xs ys) acc ((p, .lst acc) :: L) := by
      intro kk p e0 e1 hp dg de hg he xs
      induction xs with
      | nil =>
        intro ys acc hl _ _ _ _ hk
        cases ys with
        | cons _ _ => simp at hl
        | nil =>
          show lcD _ _ _ _ _ _ [] _ _
          rw [lcD_nil, remL_top hp]
          have := hk [] (by unfold sameL; rfl)
          rw [List.map_nil, List.append_nil] at this
          exact this
      | cons x r ih =>
        intro ys acc hl o1 o2 d2 ha hk
        cases ys with
        | nil => simp at hl
        | cons y s =>
          show lcD _ _ _ _ _ _ (.tup [x, y] :: zipD r s) _ _
          rw [lcD_cons]
          unfold okPs at o1 o2
          rw [Bool.and_eq_true] at o1 o2
          unfold deps at d2
          refine hg x y _ _ ?_
          show de (e1 x y) _ _ _
          refine he x y _ _ _ o1.1 o2.1 (by omega) ⟨lookup_top, ?_, ?_⟩
          · have z : (200000 : Nat) ≤ sizeLine := by decide
            omega
          · rw [setL_top hp]
            refine ih s (acc ++ [.bl (sameD x y)]) (by simpa using hl) o1.2 o2.2 (by omega) (by simp at ha ⊢; omega) fun bs hb => ?_
            have := hk (sameD x y :: bs) (by unfold sameL; rw [List.all_cons, hb]; rfl)
            rw [List.map_cons] at this
            rw [List.append_assoc]
            exact this
    have both : ∀ (xs ys : List D) (kk : DK) (p : Addr) (e0 : DEnv), xs.length = ys.length → okPs xs = true → okPs ys = true → deps ys < n → xs.length < 100000 → (∀ bs : List Bool, bs.all id = sameL xs ys → kk (.lst (bs.map .bl)) L) → ¬ inL L p → ∀ u v, e0 = [u, v, none, none] → lcD (dgTup 2 (dgCons (dgName 2) (dgCons (dgName 3) dgNil))) dYes (dCall (sameS n) [] (dCons (dVar 2) (dCons (dVar 3) dNil))) e0 p kk (zipD xs ys) [] ((p, .lst []) :: L) := by
      intro xs ys kk p e0 hl o1 o2 d2 hz hk hp u v he0
      subst he0
      refine seq kk p _ (fun x y => [u, v, some x, some y]) hp _ _ (fun x y L' g hg => ⟨rfl, hg⟩) (fun x y L' g gx o1 o2 d hg => ?_) xs ys [] hl o1 o2 d2 (by simpa using (by omega : xs.length < 200000)) fun bs hb => hk bs hb
      exact ⟨x, y, rfl, o1, o2, d, hg⟩
    have fin : ∀ (xs ys : List D), okP (.lst xs) = true → okP (.lst ys) = true → deps ys + 1 < n + 1 → sameD a b = sameL xs ys → (decide ((xs.length : Int) = (ys.length : Int)) = false → k (.bl false) L) ∧ (decide ((xs.length : Int) = (ys.length : Int)) = true → xs.length = ys.length ∧ okPs xs = true ∧ okPs ys = true ∧ deps ys < n ∧ xs.length < 100000) := by
      intro xs ys o1 o2 d2 e
      refine ⟨fun z => ?_, fun z => ?_⟩
      · have := of_decide_eq_false z
        rw [e, sameL_len (by omega)] at h
        exact h
      · have := of_decide_eq_true z
        unfold okP at o1 o2
        rw [Bool.and_eq_true] at o1 o2
        exact ⟨by omega, o1.2, o2.2, by omega, of_decide_eq_true o1.1⟩
    have all_ : ∀ (bs : List Bool) (r : Bool), bs.all id = r → k (.bl r) L → gAll [.lst (bs.map .bl)] L fun d => k d L := by
      intro bs r e hk
      show (match blsOf (bs.map .bl) with | some bs => k (.bl (bs.all id)) L | none => False)
      rw [blsOf_map]
      show k (.bl (bs.all id)) L
      rw [e]; exact hk
    cases b with
    | lst ys =>
      cases a with
      | lst xs =>
        have e : sameD (.lst xs) (.lst ys) = sameL xs ys := by unfold sameD; rfl
        rw [e] at h
        unfold dep at hd
        obtain ⟨f1, f2⟩ := fin xs ys oa ob hd e
        walk_at "w"
        cases hh : flEq (D.int (xs.length : Int)) (D.int (ys.length : Int)) with
        | false => exact f1 hh
        | true =>
          obtain ⟨q1, q2, q3, q4, q5⟩ := f2 hh
          walk_at "w"
          intro p hp
          exact both xs ys _ p _ q1 q2 q3 q4 q5 (fun bs hb => all_ bs _ hb h) hp _ _ rfl
      | _ => first | (simp [okP] at oa; done) | (unfold sameD at h; exact h)
    | tup ys =>
      cases a with
      | tup xs =>
        have e : sameD (.tup xs) (.tup ys) = sameL xs ys := by unfold sameD; rfl
        rw [e] at h
        unfold dep at hd
        obtain ⟨f1, f2⟩ := fin xs ys oa ob hd e
        walk_at "w"
        cases hh : flEq (D.int (xs.length : Int)) (D.int (ys.length : Int)) with
        | false => exact f1 hh
        | true =>
          obtain ⟨q1, q2, q3, q4, q5⟩ := f2 hh
          walk_at "w"
          intro p hp
          exact both xs ys _ p _ q1 q2 q3 q4 q5 (fun bs hb => all_ bs _ hb h) hp _ _ rfl
      | _ => first | (simp [okP] at oa; done) | (unfold sameD at h; exact h)
    | non => cases a <;> first | (simp [okP] at oa; done) | (unfold sameD at h; exact h)
    | bl v => cases a <;> first | (simp [okP] at oa; done) | (unfold sameD at h; exact h)
    | int v => cases a <;> first | (simp [okP] at oa; done) | (unfold sameD at h; exact h)
    | str v => cases a <;> first | (simp [okP] at oa; done) | (unfold sameD at h; exact h)
    | _ => simp [okP] at ob
  · rintro ds L k x ⟨a, b, rfl, _⟩; rfl
theorem scLNames : FnScope ["_law_bag_here", "_law_many", "_law_letters", "_law_stem", "_law_k", "_law_at", "_law_first", "_law_found", "_law_barred", "_law_word"] ["_law_bag_here", "_law_many"] (defScope sLNames) := ⟨rfl, rfl, rfl, by decide +kernel, rfl, by decide +kernel, by decide +kernel⟩
theorem ok_LNames {f : Addr} {fd : FuncData} (Z : Zn w K mg pS pT pW) (F : Fun K "_law_names" "_law_names" sLNames f fd) (CLPull : Cal P w K mg base 1 "_law_pull" ["_law_bag_here", "_law_many"] [] pullS) (CLOf : Cal P w K mg base 2 "_law_of" ["_law_bag_here", "_law_some"] [] ofA) : FnOk P w K mg base (L2.CX P w) 3 f fd ["_law_bag_here", "_law_many"] (spD K namesS) := by
  refine fn_ok F scLNames ?len (fun cdv A outer s H E hr => ?_)
  rotate_left
  · have tk := takes_of (X := cxOf (L2.CX P w) P w K mg base ["_law_bag_here", "_law_many", "_law_letters", "_law_stem", "_law_k", "_law_at", "_law_first", "_law_found", "_law_barred", "_law_word"] "_law_names" (defScope sLNames) f cdv A outer s H E) (E := E) rfl rfl rfl rfl
    have hp := passes_of (X := cxOf (L2.CX P w) P w K mg base ["_law_bag_here", "_law_many", "_law_letters", "_law_stem", "_law_k", "_law_at", "_law_first", "_law_found", "_law_barred", "_law_word"] "_law_names" (defScope sLNames) f cdv A outer s H E) rfl
    refine ⟨_, (ss_cons (s_asg (q_tup (a_cons q_str (a_cons q_str a_nil))) (g_tup (n := 2) rfl (gs_cons (g_name 2 scLNames.nd) (gs_cons (g_name 3 scLNames.nd) gs_nil))))
  (ss_cons (s_for hp rfl (i_range1 (by rfl) Z.z_range (a_cons (q_cal CLPull (by first | decide | exact Nat.le_refl _ | omega) hr tk (by rfl) (a_cons (qv 0) (a_cons q_int a_nil))) a_nil)) (g_name 4 scLNames.nd) (ss_one (s_set 3 scLNames.nd (q_op oq_add (qv 3) (q_cal CLOf (by first | decide | exact Nat.le_refl _ | omega) hr tk (by rfl) (a_cons (qv 0) (a_cons (qv 2) a_nil)))))))
  (ss_cons (s_asg (q_tup (a_cons (q_cal CLPull (by first | decide | exact Nat.le_refl _ | omega) hr tk (by rfl) (a_cons (qv 0) (a_cons (q_op oq_add (q_callB cq_len (by rfl) Z.z_len bb_len (a_cons (qv 3) a_nil)) q_int) a_nil))) (a_cons (q_cal CLPull (by first | decide | exact Nat.le_refl _ | omega) hr tk (by rfl) (a_cons (qv 0) (a_cons q_int a_nil))) a_nil))) (g_tup (n := 2) rfl (gs_cons (g_name 5 scLNames.nd) (gs_cons (g_name 6 scLNames.nd) gs_nil))))
  (ss_cons (s_setLc 7 rfl scLNames.nd (i_range1 (by rfl) Z.z_range (a_cons (qv 1) a_nil)) (blkOk_by (own := [("_law_k", 4)]) (N := ["_law_bag_here", "_law_many", "_law_letters", "_law_stem", "_law_k", "_law_at", "_law_first", "_law_found", "_law_barred", "_law_word"]) (sc := (defScope sLNames)) (by decide +kernel)) (fun _ _ _ _ _ => (g_name 4 scLNames.nd)) (fun _ _ _ _ _ => ts_nil) (fun _ _ _ _ _ => (q_op oq_add (q_op oq_add (q_slice (qv 3) o_none (o_some (qv 5))) (q_ixS (qv 2) (q_op oq_mod (q_callTy cq_int (by rfl) Z.z_int bb_int (a_cons (q_op oq_add (qv 6) (q_op oq_mulU q_int (qv 4))) a_nil)) q_int))) (q_slice (qv 3) (o_some (qv 5)) o_none))) (sw_true rfl rfl rfl (by decide +kernel)))
  (ss_cons (s_set 8 scLNames.nd (q_tup (a_cons q_str (a_cons q_str (a_cons q_str (a_cons q_str (a_cons q_str (a_cons q_str (a_cons q_str (a_cons q_str a_nil))))))))))
  (ss_one (s_ret (q_lc rfl scLNames.nd (i_list (qv 7)) (blkOk_by (own := [("_law_word", 9)]) (N := ["_law_bag_here", "_law_many", "_law_letters", "_law_stem", "_law_k", "_law_at", "_law_first", "_law_found", "_law_barred", "_law_word"]) (sc := (defScope sLNames)) (by decide +kernel)) (fun _ _ _ _ _ => (g_name 9 scLNames.nd)) (fun _ _ _ _ _ => ts_nil) (fun _ _ _ _ _ => (q_if (t_cmp oq_inQ (qv 9) (qv 8)) (q_op oq_add (qv 9) q_str) (qv 9))))))))))), ?_⟩
    clear tk hp
    rintro ds L k x ⟨p, b, m, rfl, ba, hm, h⟩
    have lg : ∀ n : Nat, 0 < n → n < 1000 → ((n : Int)).natAbs.log2 < 9000 := fun n n0 n1 => by
      rw [Int.natAbs_natCast]
      have : n.log2 < 10 := by
        rw [Nat.log2_lt (by omega)]
        omega
      omega
    have sl : ∀ n : Nat, n ≤ 1000 → n ≤ sizeLine := fun n hn => Nat.le_trans hn (by decide)
    walk_at "s"
    refine ⟨p, b, 5, rfl, ba.lk, ba.ok, by decide, by decide +kernel, fun r b1 r0 r1 ok1 => ?_⟩
    obtain ⟨t, rfl⟩ := Int.eq_ofNat_of_zero_le r0
    walk_at "w"
    refine ⟨⟨by omega, by omega⟩, ?_⟩
    refine forD_rec (fun q env L' => ∃ (stem : Str) (b : Bag) (o4 : Option D), AllLet (tl stem) ∧ stem.length + q.length ≤ 4 ∧ BagOk b ∧ env = [some (.ptr p), some (.int m), some (.str letters), some (.str stem), o4, none, none, none, none, none] ∧ L' = setL L p (bagC b)) ?step ?stop _ _ _ ⟨"", b1, none, (fun c hc => nomatch (show c ∈ ([] : List Nat) from hc)), ?start, ok1, rfl, rfl⟩
    case start =>
      rw [rngD_len, Int.toNat_natCast]
      show 0 + t ≤ 4
      omega
    case step =>
      rintro E' d q env L' _ _ _ _ ⟨stem, b, o4, hs, hl, ok, rfl, rfl⟩ hnx
      rw [List.length_cons] at hl
      walk_at "w"
      refine ⟨p, b, .str letters, _, rfl, rfl, (ba.set ok).lk, ok, by decide, by decide, fun d b2 hd ok2 => ?_⟩
      obtain ⟨c, hc, rfl⟩ := mem_sgD hd
      rw [setL_setL]
      walk_at "w"
      refine ⟨sl _ (by show stem.length + 1 ≤ 1000; omega), ?_⟩
      refine hnx _ _ ⟨stem ++ ⟨#[c]⟩, b2, _, ?_, ?_, ok2, rfl, rfl⟩
      · intro d hd
        rw [tl_append] at hd
        rcases List.mem_append.mp hd with q | q
        · exact hs d q
        · have e : d = c := by simpa [tl] using q
          subst e
          exact hc
      · rw [tl_len, tl_append, List.length_append, ← tl_len]
        show stem.length + 1 + q.length ≤ 4
        omega
    case stop =>
      rintro env L' ⟨stem, b, o4, hs, hl, ok, rfl, rfl⟩
      have hl : stem.length ≤ 4 := hl
      walk_at "w"
      refine ⟨sl _ (by omega), ?_⟩
      walk_at "w"
      refine ⟨p, b, ((stem.length + 1 : Nat) : Int), rfl, (ba.set ok).lk, ok, by omega, lg _ (by omega) (by omega), fun at_ b2 a0 a1 ok2 => ?_⟩
      rw [setL_setL]
      obtain ⟨n, rfl⟩ := Int.eq_ofNat_of_zero_le a0
      walk_at "w"
      refine ⟨p, b2, 26, rfl, (ba.set ok2).lk, ok2, by decide, by decide +kernel, fun f b3 f0 f1 ok3 => ?_⟩
      rw [setL_setL]
      walk_at "s"
      refine ⟨⟨by omega, by omega⟩, fun q hq => ?_⟩
      refine lcD_inv (fun acc L' => L' = setL L p (bagC b3) ∧ ∃ zs : List Str, acc = zs.map D.str ∧ ∀ z ∈ zs, 1 ≤ z.length ∧ z.length ≤ 5 ∧ AllLet (tl z)) (fun acc L' h => by rw [h.1]; exact hq) _ [] _ (by rw [rngD_len]; show 0 + ((m : Int)).toNat ≤ 1000; omega) ⟨rfl, [], rfl, fun z hz => by cases hz⟩ ?_ ?_
      · rintro d hd acc L' ⟨rfl, zs, rfl, hz⟩ K' hK
        obtain ⟨i, hi⟩ := List.getElem?_of_mem hd
        obtain ⟨_, rfl⟩ := rngD_get _ _ _ _ hi
        walk_at "w"
        refine ⟨sl _ (by omega), ?_⟩
        walk_at "w"
        refine ⟨.inl (.inl (by decide)), ?_⟩
        walk_at "w"
        refine ⟨(by show (26 : Int) ≠ 0; decide), ?_⟩
        walk_at "w"
        refine ⟨by decide, ?_⟩
        have hj : ∃ c, atI (tl letters) ((f + 7 * (0 + (i : Int))).fmod 26) = some c ∧ c ∈ tl letters := by
          rw [Int.fmod_eq_emod_of_nonneg _ (by decide)]
          have h0 := Int.emod_nonneg (f + 7 * (0 + (i : Int))) (show (26 : Int) ≠ 0 by decide)
          have h1 := Int.emod_lt_of_pos (f + 7 * (0 + (i : Int))) (show (0 : Int) < 26 by decide)
          obtain ⟨j, ej⟩ := Int.eq_ofNat_of_zero_le h0
          rw [ej] at h1 ⊢
          have hj : j < (tl letters).length := by show j < 26; omega
          exact ⟨(tl letters)[j], atI_nat (List.getElem?_eq_getElem hj), List.getElem_mem hj⟩
        obtain ⟨c, hc1, hc2⟩ := hj
        rw [show atI letters.cps.toList ((f + 7 * (0 + (i : Int))).fmod 26) = some c from hc1]
        have l1 : (cutS stem none (some (n : Int))).length ≤ 4 := Nat.le_trans (cutS_length _ _ _) hl
        have l2 : (cutS stem (some (n : Int)) none).length ≤ 4 := Nat.le_trans (cutS_length _ _ _) hl
        walk_at "w"
        refine ⟨sl _ (by show _ + 1 ≤ 1000; omega), ?_⟩
        walk_at "w"
        refine ⟨sl _ (by omega), ?_⟩
        have l3 : (cutS stem none (some (n : Int)) ++ ⟨#[c]⟩).length ≤ 5 := by
          rw [tl_len, tl_append, List.length_append, ← tl_len]
          show _ + 1 ≤ 5
          omega
        walk_at "w"
        refine ⟨sl _ (by omega), ?_⟩
        refine hK _ _ ⟨rfl, zs ++ [cutS stem none (some (n : Int)) ++ ⟨#[c]⟩ ++ cutS stem (some (n : Int)) none], by rw [List.map_append]; rfl, fun z hz' => ?_⟩
        rcases List.mem_append.mp hz' with q | q
        · exact hz z q
        · have e := List.mem_singleton.mp q
          subst e
          refine word_ok (n := n) (c := c) hs (by rw [← tl_len]; exact hl) (by rw [← tl_len]; omega) hc2 ?_
          rw [tl_append, tl_append, cut_pre, cut_suf]
      · rintro acc L' ⟨rfl, zs, rfl, hz⟩ hlen
        have hlen : zs.length = m := by
          rw [List.length_map, rngD_len, List.length_nil, Int.toNat_natCast] at hlen
          omega
        walk_at "s"
        intro q2 hq2
        refine lcD_inv (fun acc L' => L' = setL L p (bagC b3) ∧ ∃ zs : List Str, acc = zs.map D.str ∧ ∀ z ∈ zs, nameOk z = true) (fun acc L' h => by rw [h.1]; exact hq2) _ [] _ (by rw [List.length_map]; show 0 + zs.length ≤ 1000; omega) ⟨rfl, [], rfl, fun z hz => by cases hz⟩ ?_ ?_
        · rintro d hd acc L' ⟨rfl, ys, rfl, hy⟩ K' hK
          obtain ⟨z, hzm, rfl⟩ := List.mem_map.mp hd
          obtain ⟨z1, z2, z3⟩ := hz z hzm
          have put : ∀ z', nameOk z' = true → K' (.str z') ((q2, .lst (ys.map D.str)) :: setL L p (bagC b3)) := fun z' hz' => hK _ _ ⟨rfl, ys ++ [z'], by rw [List.map_append]; rfl, fun y hy' => (List.mem_append.mp hy').elim (hy y) fun q => by rw [List.mem_singleton.mp q]; exact hz'⟩
          walk_at "v"
          generalize hb : (if false = true then _ else _) = bb
          have hb : decide (z ∈ reserved) = bb := (inV_str z reserved).symm.trans hb
          cases bb with
          | true =>
            walk_at "w"
            refine ⟨sl _ (by show z.length + 1 ≤ 1000; omega), ?_⟩
            exact put _ (barred_q z2 (of_decide_eq_true hb))
          | false =>
            exact put _ (name_of z1 (by omega) (of_decide_eq_false hb) z3)
        · rintro acc L' ⟨rfl, ys, rfl, hy⟩ hlen2
          refine h ys b3 ?_ hy ok3
          rw [List.length_map, List.length_map, List.length_nil] at hlen2
          omega
  · rintro ds L k x ⟨p, b, m, rfl, _⟩; rfl
theorem scLLeaf : FnScope ["_law_bag_here", "_law_names_z", "_law_way"] ["_law_bag_here", "_law_names_z"] (defScope sLLeaf) := ⟨rfl, rfl, rfl, by decide +kernel, rfl, by decide +kernel, by decide +kernel⟩
theorem ok_LLeaf {f : Addr} {fd : FuncData} (Z : Zn w K mg pS pT pW) (F : Fun K "_law_leaf" "_law_leaf" sLLeaf f fd) (CLPull : Cal P w K mg base 1 "_law_pull" ["_law_bag_here", "_law_many"] [] pullS) (CLOf : Cal P w K mg base 2 "_law_of" ["_law_bag_here", "_law_some"] [] ofA) : FnOk P w K mg base (L2.CX P w) 3 f fd ["_law_bag_here", "_law_names_z"] (spD K leafS) := by
  refine fn_ok F scLLeaf ?len (fun cdv A outer s H E hr => ?_)
  rotate_left
  · have tk := takes_of (X := cxOf (L2.CX P w) P w K mg base ["_law_bag_here", "_law_names_z", "_law_way"] "_law_leaf" (defScope sLLeaf) f cdv A outer s H E) (E := E) rfl rfl rfl rfl
    have hp := passes_of (X := cxOf (L2.CX P w) P w K mg base ["_law_bag_here", "_law_names_z", "_law_way"] "_law_leaf" (defScope sLLeaf) f cdv A outer s H E) rfl
    refine ⟨_, (ss_cons (s_set 2 scLLeaf.nd (q_cal CLPull (by first | decide | exact Nat.le_refl _ | omega) hr tk (by rfl) (a_cons (qv 0) (a_cons q_int a_nil))))
  (ss_cons (s_if (t_cmp (oq_eqU hr.units) (qv 2) q_int) (ss_one (s_ret (q_tup (a_cons q_str (a_cons (q_cal CLOf (by first | decide | exact Nat.le_refl _ | omega) hr tk (by rfl) (a_cons (qv 0) (a_cons (q_lst (a_cons (q_op oq_sub (q_cal CLPull (by first | decide | exact Nat.le_refl _ | omega) hr tk (by rfl) (a_cons (qv 0) (a_cons q_int a_nil))) q_int) (a_cons (q_op oq_sub (q_cal CLPull (by first | decide | exact Nat.le_refl _ | omega) hr tk (by rfl) (a_cons (qv 0) (a_cons q_int a_nil))) q_int) a_nil))) a_nil))) a_nil))))) ss_nil)
  (ss_cons (s_if (w_and (t_cmp (oq_eqU hr.units) (qv 2) q_int) (w_and1 (t_cmp (oq_neU hr.units) (qv 1) (q_lst a_nil)))).t (ss_one (s_ret (q_tup (a_cons q_str (a_cons (q_cal CLOf (by first | decide | exact Nat.le_refl _ | omega) hr tk (by rfl) (a_cons (qv 0) (a_cons (qv 1) a_nil))) a_nil))))) ss_nil)
  (ss_one (s_ret (q_cal CLOf (by first | decide | exact Nat.le_refl _ | omega) hr tk (by rfl) (a_cons (qv 0) (a_cons (q_lst (a_cons (q_tup (a_cons q_str a_nil)) (a_cons (q_tup (a_cons q_str a_nil)) a_nil))) a_nil)))))))), ?_⟩
    clear tk hp
    rintro ds L k x ⟨p, b, ns, rfl, ba, hl, hn, h⟩
    have last : ∀ b, BagOk b → ofA [.ptr p, .lst [Ex.lx.d, Ex.ly.d]] (setL L p (bagC b)) k (fun _ _ => False) := fun b ok => by
      refine ⟨p, b, _, _, rfl, rfl, (ba.set ok).lk, ok, by show 0 < 2; decide, by show 2 < 1000; decide, fun d b2 hd ok2 => ?_⟩
      rw [setL_setL]
      simp only [List.mem_cons, List.not_mem_nil, or_false] at hd
      rcases hd with e | e <;> subst e
      · exact h .lx b2 rfl (fun _ => .lx) ok2
      · exact h .ly b2 rfl (fun _ => .ly) ok2
    walk_at "w"
    refine ⟨p, b, 5, rfl, ba.lk, ba.ok, by decide, by decide +kernel, fun r b1 r0 r1 ok1 => ?_⟩
    walk_at "v"
    cases h0 : flEq (.int r) (.int 0) with
    | true =>
      walk_at "w"
      refine ⟨p, b1, 1999, rfl, (ba.set ok1).lk, ok1, by decide, by decide +kernel, fun r2 b2 r20 r21 ok2 => ?_⟩
      rw [setL_setL]
      walk_at "w"
      refine ⟨p, b2, 7, rfl, (ba.set ok2).lk, ok2, by decide, by decide +kernel, fun r3 b3 r30 r31 ok3 => ?_⟩
      rw [setL_setL]
      walk_at "s"
      refine ⟨p, b3, _, _, rfl, rfl, (ba.set ok3).lk, ok3, by show 0 < 2; decide, by show 2 < 1000; decide, fun d b4 hd ok4 => ?_⟩
      rw [setL_setL]
      walk_at "w"
      refine ⟨sz_ok rfl, ?_⟩
      simp only [List.mem_cons, List.not_mem_nil, or_false] at hd
      rcases hd with e | e <;> subst e
      · exact h (.num (r2 - 999)) b4 rfl (fun _ => .num (by omega) (by omega)) ok4
      · exact h (.num (r3 - 3)) b4 rfl (fun _ => .num (by omega) (by omega)) ok4
    | false =>
      walk_at "v"
      cases h1 : flEq (.int r) (.int 1) with
      | false =>
        walk_at "s"
        exact last b1 ok1
      | true =>
        walk_at "s"
        refine ⟨shp_strs hn, rfl, ?_⟩
        walk_at "v"
        rw [eqD_strs]
        cases he : ns.isEmpty with
        | true =>
          walk_at "s"
          exact last b1 ok1
        | false =>
          walk_at "s"
          refine ⟨p, b1, _, _, rfl, rfl, (ba.set ok1).lk, ok1, ?_, by rw [List.length_map]; omega, fun d b2 hd ok2 => ?_⟩
          · rw [List.length_map]
            cases ns with
            | nil => cases he
            | cons _ _ => exact Nat.succ_pos _
          rw [setL_setL]
          walk_at "w"
          refine ⟨sz_ok rfl, ?_⟩
          obtain ⟨z, hz, rfl⟩ := List.mem_map.mp hd
          exact h (.nm z) b2 rfl (fun _ => .nm hz) ok2
  · rintro ds L k x ⟨p, b, ns, rfl, _⟩; rfl
theorem scLExpression : FnScope ["_law_bag_here", "_law_names_z", "_law_known", "_law_deep", "_law_one", "_law_two"] ["_law_bag_here", "_law_names_z", "_law_known", "_law_deep"] (defScope sLExpression) := ⟨rfl, rfl, rfl, by decide +kernel, rfl, by decide +kernel, by decide +kernel⟩
theorem ok_LExpression {f : Addr} {fd : FuncData} {n : Nat} (Z : Zn w K mg pS pT pW) (F : Fun K "_law_expression" "_law_expression" sLExpression f fd) (CLPull : Cal P w K mg base 1 "_law_pull" ["_law_bag_here", "_law_many"] [] pullS) (CLOf : Cal P w K mg base 2 "_law_of" ["_law_bag_here", "_law_some"] [] ofA) (CLLeaf : Cal P w K mg base 3 "_law_leaf" ["_law_bag_here", "_law_names_z"] [] leafS) (CLExpression : Cal P w K mg base (n + 3) "_law_expression" ["_law_bag_here", "_law_names_z", "_law_known", "_law_deep"] [] (exprG n)) : FnOk P w K mg base (L2.CX P w) (n + 4) f fd ["_law_bag_here", "_law_names_z", "_law_known", "_law_deep"] (spD K (exprG (n + 1))) := by
  refine fn_ok F scLExpression ?len (fun cdv A outer s H E hr => ?_)
  rotate_left
  · have tk := takes_of (X := cxOf (L2.CX P w) P w K mg base ["_law_bag_here", "_law_names_z", "_law_known", "_law_deep", "_law_one", "_law_two"] "_law_expression" (defScope sLExpression) f cdv A outer s H E) (E := E) rfl rfl rfl rfl
    have hp := passes_of (X := cxOf (L2.CX P w) P w K mg base ["_law_bag_here", "_law_names_z", "_law_known", "_law_deep", "_law_one", "_law_two"] "_law_expression" (defScope sLExpression) f cdv A outer s H E) rfl
    refine ⟨_, (ss_cons (s_if (w_or (t_cmp oq_lt (qv 3) q_int) (w_or1 (t_cmp (oq_eqU hr.units) (q_cal CLPull (by first | decide | exact Nat.le_refl _ | omega) hr tk (by rfl) (a_cons (qv 0) (a_cons q_int a_nil))) q_int))).t (ss_one (s_ret (q_cal CLLeaf (by first | decide | exact Nat.le_refl _ | omega) hr tk (by rfl) (a_cons (qv 0) (a_cons (qv 1) a_nil))))) ss_nil)
  (ss_cons (s_par 4 5 rfl scLExpression.nd (a_cons (q_cal CLExpression (by first | decide | exact Nat.le_refl _ | omega) hr tk (by rfl) (a_cons (qv 0) (a_cons (qv 1) (a_cons (qv 2) (a_cons (q_op oq_sub (qv 3) q_int) a_nil))))) (a_cons (q_cal CLExpression (by first | decide | exact Nat.le_refl _ | omega) hr tk (by rfl) (a_cons (qv 0) (a_cons (qv 1) (a_cons (qv 2) (a_cons (q_op oq_sub (qv 3) q_int) a_nil))))) a_nil)))
  (ss_cons (s_if (w_and (t_cmp (oq_neU hr.units) (qv 2) (q_lst a_nil)) (w_and1 (t_cmp (oq_eqU hr.units) (q_cal CLPull (by first | decide | exact Nat.le_refl _ | omega) hr tk (by rfl) (a_cons (qv 0) (a_cons q_int a_nil))) q_int))).t (ss_one (s_ret (q_tup (a_cons q_str (a_cons (q_cal CLOf (by first | decide | exact Nat.le_refl _ | omega) hr tk (by rfl) (a_cons (qv 0) (a_cons (qv 2) a_nil))) (a_cons (qv 4) (a_cons (qv 5) a_nil))))))) ss_nil)
  (ss_one (s_ret (q_tup (a_cons (q_cal CLOf (by first | decide | exact Nat.le_refl _ | omega) hr tk (by rfl) (a_cons (qv 0) (a_cons (q_lst (a_cons q_str (a_cons q_str (a_cons q_str (a_cons q_str a_nil))))) a_nil))) (a_cons (qv 4) (a_cons (qv 5) a_nil))))))))), ?_⟩
    clear tk hp
    rintro ds L k x ⟨p, b, ns, ks, m, rfl, hm, ba, hl, hn, kl, hk, h⟩
    have leaf : ∀ b, BagAt L p b → leafS [.ptr p, .lst (ns.map D.str)] L k (fun _ _ => False) := fun b ba => ⟨p, b, ns, rfl, ba, hl, hn, fun e b' h1 h2 ok => h e b' (by rw [h1]; exact Nat.le_max_right _ _) (h2 ks) ok⟩
    have leaf2 : ∀ b, BagOk b → leafS [.ptr p, .lst (ns.map D.str)] (setL L p (bagC b)) k (fun _ _ => False) := fun b ok => ⟨p, b, ns, rfl, ba.set ok, hl, hn, fun e b' h1 h2 ok => by rw [setL_setL]; exact h e b' (by rw [h1]; exact Nat.le_max_right _ _) (h2 ks) ok⟩
    walk_at "v"
    cases h0 : decide ((m : Int) < 2) with
    | true =>
      walk_at "w"
      exact leaf b ba
    | false =>
      have h0 := of_decide_eq_false h0
      obtain ⟨m, rfl⟩ : ∃ m', m = m' + 1 := ⟨m - 1, by omega⟩
      walk_at "w"
      refine ⟨p, b, 4, rfl, ba.lk, ba.ok, by decide, by decide +kernel, fun r b1 r0 r1 ok1 => ?_⟩
      walk_at "v"
      cases h1 : flEq (.int r) (.int 0) with
      | true =>
        walk_at "w"
        exact leaf2 b1 ok1
      | false =>
        have em : ((m + 1 : Nat) : Int) - 1 = (m : Int) := by omega
        walk_at "w"
        refine ⟨p, b1, ns, ks, m, by show [D.ptr p, D.lst (ns.map D.str), D.lst (ks.map D.str), D.int (((m + 1 : Nat) : Int) - 1)] = _; rw [em], by omega, ba.set ok1, hl, hn, kl, hk, fun e1 b2 d1 w1 ok2 => ?_⟩
        rw [setL_setL]
        walk_at "w"
        refine ⟨p, b2, ns, ks, m, by show [D.ptr p, D.lst (ns.map D.str), D.lst (ks.map D.str), D.int (((m + 1 : Nat) : Int) - 1)] = _; rw [em], by omega, ba.set ok2, hl, hn, kl, hk, fun e2 b3 d2 w2 ok3 => ?_⟩
        rw [setL_setL]
        have dd : max e1.dp e2.dp + 1 ≤ max (m + 1) 1 := by
          have : 1 ≤ m := by omega
          rw [Nat.max_eq_left this] at d1 d2
          rw [show max (m + 1) 1 = m + 1 from Nat.max_eq_left (by omega)]
          exact Nat.succ_le_succ (Nat.max_le.mpr ⟨d1, d2⟩)
        have fin : ∀ b, BagOk b → ofA [.ptr p, .lst [.str "add", .str "sub", .str "mul", .str "div"]] (setL L p (bagC b)) (fun d L' => [d, e1.d, e2.d].length ≤ sizeLine ∧ k (.tup [d, e1.d, e2.d]) L') (fun _ _ => False) := fun b ok => by
          refine ⟨p, b, _, _, rfl, rfl, (ba.set ok).lk, ok, by decide, by decide, fun d b' hd ok' => ?_⟩
          rw [setL_setL]
          refine ⟨sz_ok rfl, ?_⟩
          have : ∃ o : Str, d = .str o ∧ o ∈ (["add", "sub", "mul", "div"] : List Str) := by
            simp only [List.mem_cons, List.not_mem_nil, or_false] at hd
            rcases hd with e | e | e | e <;> subst e <;> exact ⟨_, rfl, by decide⟩
          obtain ⟨o, rfl, ho⟩ := this
          exact h (.bin o e1 e2) b' dd (.bin ho w1 w2) ok'
        walk_at "s"
        refine ⟨shp_strs hk, rfl, ?_⟩
        walk_at "v"
        rw [eqD_strs]
        cases he : ks.isEmpty with
        | true =>
          walk_at "s"
          exact fin b3 ok3
        | false =>
          walk_at "w"
          refine ⟨p, b3, 5, rfl, (ba.set ok3).lk, ok3, by decide, by decide +kernel, fun r2 b4 r20 r21 ok4 => ?_⟩
          rw [setL_setL]
          walk_at "v"
          cases h2 : flEq (.int r2) (.int 0) with
          | false =>
            walk_at "s"
            exact fin b4 ok4
          | true =>
            walk_at "s"
            refine ⟨p, b4, _, _, rfl, rfl, (ba.set ok4).lk, ok4, ?_, by rw [List.length_map]; omega, fun d b5 hd ok5 => ?_⟩
            · rw [List.length_map]
              cases ks with
              | nil => cases he
              | cons _ _ => exact Nat.succ_pos _
            rw [setL_setL]
            walk_at "w"
            refine ⟨sz_ok rfl, ?_⟩
            obtain ⟨z, hz, rfl⟩ := List.mem_map.mp hd
            exact h (.call z e1 e2) b5 dd (.call hz w1 w2) ok5
  · rintro ds L k x ⟨p, b, ns, ks, m, rfl, _⟩; rfl
theorem scLStatement : FnScope ["_law_bag_here", "_law_names_z", "_law_known", "_law_deep", "_law_left", "_law_way", "_law_often_z", "_law_one", "_law_two", "_law_word", "_law_then"] ["_law_bag_here", "_law_names_z", "_law_known", "_law_deep", "_law_left"] (defScope sLStatement) := ⟨rfl, rfl, rfl, by decide +kernel, rfl, by decide +kernel, by decide +kernel⟩
theorem ok_LStatement {f : Addr} {fd : FuncData} {n : Nat} (Z : Zn w K mg pS pT pW) (F : Fun K "_law_statement" "_law_statement" sLStatement f fd) (CLPull : Cal P w K mg base 1 "_law_pull" ["_law_bag_here", "_law_many"] [] pullS) (CLOf : Cal P w K mg base 2 "_law_of" ["_law_bag_here", "_law_some"] [] ofA) (CLExpression : Cal P w K mg base 8 "_law_expression" ["_law_bag_here", "_law_names_z", "_law_known", "_law_deep"] [] (exprG 5)) (CLBlock : Cal P w K mg base (2 * n + 9) "_law_block" ["_law_bag_here", "_law_names_z", "_law_known", "_law_deep", "_law_left"] [] (bkG n)) : FnOk P w K mg base (L2.CX P w) (2 * n + 10) f fd ["_law_bag_here", "_law_names_z", "_law_known", "_law_deep", "_law_left"] (spD K (stG (n + 1))) := by
  refine fn_ok F scLStatement ?len (fun cdv A outer s H E hr => ?_)
  rotate_left
  · have tk := takes_of (X := cxOf (L2.CX P w) P w K mg base ["_law_bag_here", "_law_names_z", "_law_known", "_law_deep", "_law_left", "_law_way", "_law_often_z", "_law_one", "_law_two", "_law_word", "_law_then"] "_law_statement" (defScope sLStatement) f cdv A outer s H E) (E := E) rfl rfl rfl rfl
    have hp := passes_of (X := cxOf (L2.CX P w) P w K mg base ["_law_bag_here", "_law_names_z", "_law_known", "_law_deep", "_law_left", "_law_way", "_law_often_z", "_law_one", "_law_two", "_law_word", "_law_then"] "_law_statement" (defScope sLStatement) f cdv A outer s H E) rfl
    refine ⟨_, (ss_cons (s_set 5 scLStatement.nd (q_cal CLPull (by first | decide | exact Nat.le_refl _ | omega) hr tk (by rfl) (a_cons (qv 0) (a_cons q_int a_nil))))
  (ss_cons (s_if (w_or (t_cmp oq_lt (qv 5) q_int) (w_or1 (w_and (t_cmp oq_lt (qv 3) q_int) (w_and1 (t_cmp oq_lt (qv 5) q_int))).t)).t (ss_one (s_ret (q_tup (a_cons q_str (a_cons (q_cal CLOf (by first | decide | exact Nat.le_refl _ | omega) hr tk (by rfl) (a_cons (qv 0) (a_cons (qv 1) a_nil))) (a_cons (q_cal CLExpression (by first | decide | exact Nat.le_refl _ | omega) hr tk (by rfl) (a_cons (qv 0) (a_cons (qv 1) (a_cons (qv 2) (a_cons q_int a_nil))))) a_nil)))))) ss_nil)
  (ss_cons (s_if (w_or (t_cmp (oq_eqU hr.units) (qv 5) q_int) (w_or1 (t_cmp oq_lt (qv 3) q_int))).t (ss_one (s_ret (q_tup (a_cons q_str (a_cons (q_cal CLExpression (by first | decide | exact Nat.le_refl _ | omega) hr tk (by rfl) (a_cons (qv 0) (a_cons (qv 1) (a_cons (qv 2) (a_cons q_int a_nil))))) a_nil))))) ss_nil)
  (ss_cons (s_if (t_cmp (oq_eqU hr.units) (qv 5) q_int) (ss_cons (s_set 6 scLStatement.nd (q_cal CLOf (by first | decide | exact Nat.le_refl _ | omega) hr tk (by rfl) (a_cons (qv 0) (a_cons (q_lst (a_cons q_int (a_cons q_int (a_cons q_int (a_cons q_int (a_cons q_int a_nil)))))) a_nil))))
  (ss_one (s_ret (q_tup (a_cons q_str (a_cons (qv 6) (a_cons (q_cal CLBlock (by first | decide | exact Nat.le_refl _ | omega) hr tk (by rfl) (a_cons (qv 0) (a_cons (qv 1) (a_cons (qv 2) (a_cons (q_op oq_sub (qv 3) q_int) (a_cons (qv 4) a_nil)))))) a_nil))))))) ss_nil)
  (ss_cons (s_par 7 8 rfl scLStatement.nd (a_cons (q_cal CLExpression (by first | decide | exact Nat.le_refl _ | omega) hr tk (by rfl) (a_cons (qv 0) (a_cons (qv 1) (a_cons (qv 2) (a_cons q_int a_nil))))) (a_cons (q_cal CLExpression (by first | decide | exact Nat.le_refl _ | omega) hr tk (by rfl) (a_cons (qv 0) (a_cons (qv 1) (a_cons (qv 2) (a_cons q_int a_nil))))) a_nil)))
  (ss_cons (s_par 9 10 rfl scLStatement.nd (a_cons (q_cal CLOf (by first | decide | exact Nat.le_refl _ | omega) hr tk (by rfl) (a_cons (qv 0) (a_cons (q_lst (a_cons q_str (a_cons q_str (a_cons q_str a_nil)))) a_nil))) (a_cons (q_cal CLBlock (by first | decide | exact Nat.le_refl _ | omega) hr tk (by rfl) (a_cons (qv 0) (a_cons (qv 1) (a_cons (qv 2) (a_cons (q_op oq_sub (qv 3) q_int) (a_cons (qv 4) a_nil)))))) a_nil)))
  (ss_one (s_ret (q_tup (a_cons q_str (a_cons (qv 9) (a_cons (qv 7) (a_cons (qv 8) (a_cons (qv 10) (a_cons (q_cal CLBlock (by first | decide | exact Nat.le_refl _ | omega) hr tk (by rfl) (a_cons (qv 0) (a_cons (qv 1) (a_cons (qv 2) (a_cons (q_op oq_sub (qv 3) q_int) (a_cons (qv 4) a_nil)))))) a_nil))))))))))))))), ?_⟩
    clear tk hp
    rintro ds L k x ⟨p, q, b, m, d, ns, ks, L0, rfl, rfl, hB, ok, hd, hd1, hm, hn, hne, hk, h⟩
    obtain ⟨d, rfl⟩ : ∃ d', d = d' + 1 := ⟨d - 1, by omega⟩
    have em : ((d + 1 : Nat) : Int) - 1 = (d : Int) := by omega
    have npos : 0 < (ns.map D.str).length := by
      rw [List.length_map]
      cases ns with
      | nil => exact absurd rfl hne
      | cons _ _ => exact Nat.succ_pos _
    have nlt : (ns.map D.str).length < 1000 := by rw [List.length_map]; have := hn.len; omega
    walk_at "w"
    refine ⟨p, b, 8, rfl, hB.lp, ok, by decide, by decide +kernel, fun r b1 r0 r1 ok1 => ?_⟩
    rw [pst_bag hB]
    walk_at "v"
    cases c1 : decide (r < 3) with
    | true =>
      walk_at "w"
      refine ⟨p, b1, _, _, rfl, rfl, hB.lp, ok1, npos, nlt, fun d b2 hd ok2 => ?_⟩
      rw [pst_bag hB]
      obtain ⟨z, hz, rfl⟩ := List.mem_map.mp hd
      walk_at "w"
      refine ⟨p, b2, ns, ks, 3, rfl, by decide, hB.at ok2, hn.len, hn.ok, hk.len, hk.ok, fun e b3 h1 h2 ok3 => ?_⟩
      rw [pst_bag hB]
      walk_at "w"
      exact ⟨sz_ok rfl, h (.letS z e) b3 m (by unfold smW; exact ⟨hz, h2, by omega⟩) (by unfold cntS; omega) ok3⟩
    | false =>
      have c1 := of_decide_eq_false c1
      walk_at "v"
      cases c2 : decide (((d + 1 : Nat) : Int) < 2) with
      | true =>
        have c2 := of_decide_eq_true c2
        walk_at "v"
        cases c3 : decide (r < 6) with
        | true =>
          walk_at "w"
          refine ⟨p, b1, _, _, rfl, rfl, hB.lp, ok1, npos, nlt, fun d b2 hd ok2 => ?_⟩
          rw [pst_bag hB]
          obtain ⟨z, hz, rfl⟩ := List.mem_map.mp hd
          walk_at "w"
          refine ⟨p, b2, ns, ks, 3, rfl, by decide, hB.at ok2, hn.len, hn.ok, hk.len, hk.ok, fun e b3 h1 h2 ok3 => ?_⟩
          rw [pst_bag hB]
          walk_at "w"
          exact ⟨sz_ok rfl, h (.letS z e) b3 m (by unfold smW; exact ⟨hz, h2, by omega⟩) (by unfold cntS; omega) ok3⟩
        | false =>
          walk_at "v"
          cases c4 : flEq (.int r) (.int 7) with
          | true =>
            walk_at "w"
            refine ⟨p, b1, ns, ks, 3, rfl, by decide, hB.at ok1, hn.len, hn.ok, hk.len, hk.ok, fun e b3 h1 h2 ok3 => ?_⟩
            rw [pst_bag hB]
            walk_at "w"
            exact ⟨sz_ok rfl, h (.stop e) b3 m (by unfold smW; exact ⟨h2, by omega⟩) (by unfold cntS; omega) ok3⟩
          | false =>
            walk_at "v"
            rw [show decide (((d + 1 : Nat) : Int) < 2) = true from decide_eq_true c2]
            walk_at "w"
            refine ⟨p, b1, ns, ks, 3, rfl, by decide, hB.at ok1, hn.len, hn.ok, hk.len, hk.ok, fun e b3 h1 h2 ok3 => ?_⟩
            rw [pst_bag hB]
            walk_at "w"
            exact ⟨sz_ok rfl, h (.stop e) b3 m (by unfold smW; exact ⟨h2, by omega⟩) (by unfold cntS; omega) ok3⟩
      | false =>
        have c2 := of_decide_eq_false c2
        walk_at "v"
        cases c4 : flEq (.int r) (.int 7) with
        | true =>
          walk_at "w"
          refine ⟨p, b1, ns, ks, 3, rfl, by decide, hB.at ok1, hn.len, hn.ok, hk.len, hk.ok, fun e b3 h1 h2 ok3 => ?_⟩
          rw [pst_bag hB]
          walk_at "w"
          exact ⟨sz_ok rfl, h (.stop e) b3 m (by unfold smW; exact ⟨h2, by omega⟩) (by unfold cntS; omega) ok3⟩
        | false =>
          walk_at "v"
          rw [show decide (((d + 1 : Nat) : Int) < 2) = false from decide_eq_false c2]
          walk_at "v"
          cases c5 : flEq (.int r) (.int 6) with
          | true =>
            walk_at "s"
            refine ⟨p, b1, _, _, rfl, rfl, hB.lp, ok1, by decide, by decide, fun r2 b2 hr2 ok2 => ?_⟩
            rw [pst_bag hB]
            obtain ⟨t, ht, rfl⟩ : ∃ t : Nat, t ≤ 9 ∧ r2 = .int (t : Int) := by
              simp only [List.mem_cons, List.not_mem_nil, or_false] at hr2
              rcases hr2 with e | e | e | e | e <;> subst e
              · exact ⟨0, by decide, rfl⟩
              · exact ⟨1, by decide, rfl⟩
              · exact ⟨2, by decide, rfl⟩
              · exact ⟨3, by decide, rfl⟩
              · exact ⟨9, by decide, rfl⟩
            walk_at "w"
            refine ⟨p, q, b2, m, d, ns, ks, L0, by show [D.ptr p, D.lst (ns.map D.str), D.lst (ks.map D.str), D.int (((d + 1 : Nat) : Int) - 1), D.ptr q] = _; rw [em], rfl, hB, ok2, by omega, by omega, hm, hn, hne, hk, fun l b3 m' w1 w2 ok3 => ?_⟩
            walk_at "w"
            exact ⟨sz_ok rfl, h (.rep t l) b3 m' (by unfold smW; exact ⟨ht, d - 1, by omega, w1⟩) (by unfold cntS; omega) ok3⟩
          | false =>
            walk_at "w"
            refine ⟨p, b1, ns, ks, 3, rfl, by decide, hB.at ok1, hn.len, hn.ok, hk.len, hk.ok, fun e1 b2 d1 w1 ok2 => ?_⟩
            rw [pst_bag hB]
            walk_at "w"
            refine ⟨p, b2, ns, ks, 2, rfl, by decide, hB.at ok2, hn.len, hn.ok, hk.len, hk.ok, fun e2 b3 d2 w2 ok3 => ?_⟩
            rw [pst_bag hB]
            walk_at "s"
            refine ⟨p, b3, _, _, rfl, rfl, hB.lp, ok3, by decide, by decide, fun dt b4 hd ok4 => ?_⟩
            rw [pst_bag hB]
            obtain ⟨t, ht, rfl⟩ : ∃ t : Str, t ∈ tests ∧ dt = .str t := by
              simp only [List.mem_cons, List.not_mem_nil, or_false] at hd
              rcases hd with e | e | e <;> subst e
              · exact ⟨_, by decide, rfl⟩
              · exact ⟨_, by decide, rfl⟩
              · exact ⟨_, by decide, rfl⟩
            walk_at "w"
            refine ⟨p, q, b4, m, d, ns, ks, L0, by show [D.ptr p, D.lst (ns.map D.str), D.lst (ks.map D.str), D.int (((d + 1 : Nat) : Int) - 1), D.ptr q] = _; rw [em], rfl, hB, ok4, by omega, by omega, hm, hn, hne, hk, fun l b5 m' w3 c3 ok5 => ?_⟩
            walk_at "w"
            refine ⟨p, q, b5, m', d, ns, ks, L0, by show [D.ptr p, D.lst (ns.map D.str), D.lst (ks.map D.str), D.int (((d + 1 : Nat) : Int) - 1), D.ptr q] = _; rw [em], rfl, hB, ok5, by omega, by omega, by omega, hn, hne, hk, fun l2 b6 m2 w4 c4 ok6 => ?_⟩
            walk_at "w"
            exact ⟨sz_ok rfl, h (.ifS t e1 e2 l l2) b6 m2 (by unfold smW; exact ⟨ht, ⟨w1, by omega⟩, ⟨w2, by omega⟩, d - 1, by omega, w3, w4⟩) (by unfold cntS; omega) ok6⟩
  · rintro ds L k x ⟨p, q, b, m, d, ns, ks, L0, rfl, _⟩; rfl
theorem scLBlock : FnScope ["_law_bag_here", "_law_names_z", "_law_known", "_law_deep", "_law_left", "_law_found", "_law_k"] ["_law_bag_here", "_law_names_z", "_law_known", "_law_deep", "_law_left"] (defScope sLBlock) := ⟨rfl, rfl, rfl, by decide +kernel, rfl, by decide +kernel, by decide +kernel⟩
theorem ok_LBlock {f : Addr} {fd : FuncData} {n : Nat} (Z : Zn w K mg pS pT pW) (F : Fun K "_law_block" "_law_block" sLBlock f fd) (CLPull : Cal P w K mg base 1 "_law_pull" ["_law_bag_here", "_law_many"] [] pullS) (CLStatement : Cal P w K mg base (2 * n + 10) "_law_statement" ["_law_bag_here", "_law_names_z", "_law_known", "_law_deep", "_law_left"] [] (stG (n + 1))) : FnOk P w K mg base (L2.CX P w) (2 * n + 11) f fd ["_law_bag_here", "_law_names_z", "_law_known", "_law_deep", "_law_left"] (spD K (bkG (n + 1))) := by
  refine fn_ok F scLBlock ?len (fun cdv A outer s H E hr => ?_)
  rotate_left
  · have tk := takes_of (X := cxOf (L2.CX P w) P w K mg base ["_law_bag_here", "_law_names_z", "_law_known", "_law_deep", "_law_left", "_law_found", "_law_k"] "_law_block" (defScope sLBlock) f cdv A outer s H E) (E := E) rfl rfl rfl rfl
    have hp := passes_of (X := cxOf (L2.CX P w) P w K mg base ["_law_bag_here", "_law_names_z", "_law_known", "_law_deep", "_law_left", "_law_found", "_law_k"] "_law_block" (defScope sLBlock) f cdv A outer s H E) rfl
    refine ⟨_, (ss_cons (s_set 5 scLBlock.nd (q_lstM a_nil))
  (ss_cons (s_for hp rfl (i_range1 (by rfl) Z.z_range (a_cons (q_cal CLPull (by first | decide | exact Nat.le_refl _ | omega) hr tk (by rfl) (a_cons (qv 0) (a_cons q_int a_nil))) a_nil)) (g_name 6 scLBlock.nd) (ss_one (s_if (t_cmp oq_gt (q_ix (qv 4) q_int) q_int) (ss_cons (s_store (q_op oq_sub (q_ix (qv 4) q_int) q_int) (qv 4) q_int)
  (ss_one (s_expr (q_append (qv 5) (q_cal CLStatement (by first | decide | exact Nat.le_refl _ | omega) hr tk (by rfl) (a_cons (qv 0) (a_cons (qv 1) (a_cons (qv 2) (a_cons (qv 3) (a_cons (qv 4) a_nil)))))))))) ss_nil)))
  (ss_one (s_ret (q_callTy cq_tuple (by rfl) Z.z_tuple bb_tuple (a_cons (q_seal 5) a_nil)))))), ?_⟩
    clear tk hp
    rintro ds L k x ⟨p, q, b, m, d, ns, ks, L0, rfl, rfl, hB, ok, hd, hd1, hm, hn, hne, hk, h⟩
    walk_at "w"
    refine ⟨sz_ok rfl, fun f hf => ?_⟩
    have hf : ¬ inL L0 f := fun z => hf (inL_pst.mpr z)
    have fp : f ≠ p := fun e => hf (e ▸ hB.ip)
    have fq : f ≠ q := fun e => hf (e ▸ hB.iq)
    have lp : ∀ c b m, List.lookup p ((f, c) :: pst L0 p q b m) = some (bagC b) := fun c b m => by rw [lookup_ne (Ne.symm fp)]; exact hB.lp
    have lq : ∀ c b m, List.lookup q ((f, c) :: pst L0 p q b m) = some (.lst [.int (m : Int)]) := fun c b m => by rw [lookup_ne (Ne.symm fq)]; exact hB.lq
    have sp : ∀ c b b' m, setL ((f, c) :: pst L0 p q b m) p (bagC b') = (f, c) :: pst L0 p q b' m := fun c b b' m => by rw [setL_ne fp, pst_bag hB]
    have sq : ∀ (c : D) (b : Bag) (m m' : Nat), setL ((f, c) :: pst L0 p q b m) q (.lst [.int (m' : Int)]) = (f, c) :: pst L0 p q b m' := fun c b m m' => by rw [setL_ne fq, pst_left]
    walk_at "w"
    refine ⟨p, b, 4, rfl, lp _ _ _, ok, by decide, by decide +kernel, fun r b1 r0 r1 ok1 => ?_⟩
    rw [sp]
    walk_at "w"
    refine ⟨⟨by omega, by omega⟩, ?_⟩
    refine forD_rec (fun rs env L' => ∃ (l : List Sm) (b : Bag) (m' : Nat) (o6 : Option D), env = [some (.ptr p), some (.lst (ns.map D.str)), some (.lst (ks.map D.str)), some (.int d), some (.ptr q), some (.ptr f), o6] ∧ L' = (f, .lst (Sm.ds l)) :: pst L0 p q b m' ∧ l.length + rs.length ≤ 3 ∧ smsW ns ks (d - 1) l ∧ cntB l + m' = m ∧ BagOk b) ?step ?fin _ _ _ ⟨[], b1, m, none, rfl, rfl, by rw [rngD_len]; show 0 + _ ≤ 3; omega, by unfold smsW; trivial, by unfold cntB; omega, ok1⟩
    case fin =>
      rintro env L' ⟨l, b, m', o6, rfl, rfl, hl, hw, hc, ok⟩
      walk_at "w"
      rw [lookup_top]
      walk_at "w"
      rw [remL_top (fun z => hf (inL_pst.mp z))]
      exact h l b m' hw hc ok
    case step =>
      rintro E' _ rs env L' hrt hex hbk hct ⟨l, b, m', o6, rfl, rfl, hl, hw, hc, ok⟩ hnx
      have hl : l.length + (rs.length + 1) ≤ 3 := hl
      walk_at "w"
      rw [con_ptr (lq _ _ _)]
      walk_at "v"
      cases c1 : decide ((0 : Int) < (m' : Int)) with
      | false => exact hnx _ _ ⟨l, b, m', _, rfl, rfl, by omega, hw, hc, ok⟩
      | true =>
        have c1 := of_decide_eq_true c1
        obtain ⟨m', rfl⟩ : ∃ n, m' = n + 1 := ⟨m' - 1, by omega⟩
        have em : ((m' + 1 : Nat) : Int) - 1 = (m' : Int) := by omega
        walk_at "w"
        rw [con_ptr (lq _ _ _)]
        walk_at "w"
        rw [lq]
        walk_at "w"
        rw [show setL ((f, .lst (Sm.ds l)) :: pst L0 p q b (m' + 1)) q (D.lst ([D.int ((m' + 1 : Nat) : Int)].set (Int.toNat 0) ((fun i j => D.int (i - j)) ((m' + 1 : Nat) : Int) 1))) = (f, .lst (Sm.ds l)) :: pst L0 p q b m' from by
          show setL _ q (.lst [.int (((m' + 1 : Nat) : Int) - 1)]) = _
          rw [em]; exact sq _ _ _ _]
        rw [lookup_top]
        walk_at "w"
        refine ⟨p, q, b, m', d, ns, ks, (f, .lst (Sm.ds l)) :: L0, rfl, (pst_cons fp fq).symm, hB.cons _ _, ok, by omega, hd1, by omega, hn, hne, hk, fun s b2 m2 ws cs ok2 => ?_⟩
        rw [pst_cons fp fq]
        walk_at "w"
        rw [lookup_top]
        refine ⟨by rw [ds_length]; exact Nat.lt_of_lt_of_le (show l.length < 1000 by omega) (by decide), ?_⟩
        rw [setL_top (fun z => hf (inL_pst.mp z))]
        refine hnx _ _ ⟨l ++ [s], b2, m2, _, rfl, by rw [ds_app]; rfl, by rw [List.length_append, List.length_singleton]; omega, smsW_append hw (by unfold smsW; exact ⟨ws, by unfold smsW; trivial⟩), ?_, ok2⟩
        rw [cntB_append]
        have : cntB [s] = cntS s := by unfold cntB; unfold cntB; omega
        omega
  · rintro ds L k x ⟨p, q, b, m, d, ns, ks, L0, rfl, _⟩; rfl
theorem scLProgram : FnScope ["_law_bag_here", "_law_names_z", "_law_known", "_law_many"] ["_law_bag_here", "_law_names_z", "_law_known", "_law_many"] (defScope sLProgram) := ⟨rfl, rfl, rfl, by decide +kernel, rfl, by decide +kernel, by decide +kernel⟩
theorem ok_LProgram {f : Addr} {fd : FuncData} (Z : Zn w K mg pS pT pW) (F : Fun K "_law_program" "_law_program" sLProgram f fd) (CLBlock : Cal P w K mg base 19 "_law_block" ["_law_bag_here", "_law_names_z", "_law_known", "_law_deep", "_law_left"] [] (bkG 5)) : FnOk P w K mg base (L2.CX P w) 20 f fd ["_law_bag_here", "_law_names_z", "_law_known", "_law_many"] (spD K prR) := by
  refine fn_ok F scLProgram ?len (fun cdv A outer s H E hr => ?_)
  rotate_left
  · have tk := takes_of (X := cxOf (L2.CX P w) P w K mg base ["_law_bag_here", "_law_names_z", "_law_known", "_law_many"] "_law_program" (defScope sLProgram) f cdv A outer s H E) (E := E) rfl rfl rfl rfl
    have hp := passes_of (X := cxOf (L2.CX P w) P w K mg base ["_law_bag_here", "_law_names_z", "_law_known", "_law_many"] "_law_program" (defScope sLProgram) f cdv A outer s H E) rfl
    refine ⟨_, (ss_one (s_ret (q_cal CLBlock (by first | decide | exact Nat.le_refl _ | omega) hr tk (by rfl) (a_cons (qv 0) (a_cons (qv 1) (a_cons (qv 2) (a_cons q_int (a_cons (q_lstM (a_cons (qv 3) a_nil)) a_nil)))))))), ?_⟩
    clear tk hp
    rintro ds L k x ⟨p, b, m, ns, ks, rfl, hb, hm, hn, hne, hk, h⟩
    walk_at "w"
    refine ⟨sz_ok rfl, fun q hq => ?_⟩
    have ip : inL L p := inL_of_lookup hb.lk
    have pq : p ≠ q := fun e => hq (e ▸ ip)
    have e : ∀ (b : Bag) (m' : Nat), pst ((q, .lst [.int (m : Int)]) :: L) p q b m' = (q, .lst [.int (m' : Int)]) :: setL L p (bagC b) := fun b m' => by
      unfold pst
      rw [setL_ne (Ne.symm pq), setL_top (fun z => hq (inL_setL.mp z))]
    walk_at "w"
    refine ⟨p, q, b, m, 4, ns, ks, (q, .lst [.int (m : Int)]) :: L, rfl, by rw [e, hb.self], ⟨inL_cons.mpr (.inr ip), inL_cons.mpr (.inl rfl), pq⟩, hb.ok, by decide, by decide, hm, hn, hne, hk, fun l b' m' w1 w2 ok => ?_⟩
    rw [e]
    exact h l b' q m' hq w1 (by omega) ok
  · rintro ds L k x ⟨p, b, m, ns, ks, rfl, _⟩; rfl
end
end T25

namespace T25
open PySem L2 DL TL NumText
def perm1 : Perm3 := fun _ ws _ => ws
theorem perm1_ok : PermOk @perm1 := ⟨fun _ h _ => h⟩
def lawS : DSp := fun ds L k _ => ∃ ns : List Int, ds = [.ro (ns.map .int)] ∧ L = [] ∧ ∀ L', k (.bl true) L'
theorem cutL_pre {α : Type} (f : α → D) (xs : List α) (n : Nat) : cutD (xs.map f) none (some (n : Int)) = (xs.take n).map f := by
  show ((xs.map f).drop 0).take (HT.sIx (xs.map f).length (xs.map f).length (some (n : Int)) - 0) = _
  rw [HT.sIx_nat, List.drop_zero, Nat.sub_zero, List.map_take, List.take_eq_take_iff]
  omega
theorem cutL_suf {α : Type} (f : α → D) (xs : List α) (n : Nat) : cutD (xs.map f) (some (n : Int)) none = (xs.drop n).map f := by
  show ((xs.map f).drop (HT.sIx (xs.map f).length 0 (some (n : Int)))).take ((xs.map f).length - HT.sIx (xs.map f).length 0 (some (n : Int))) = _
  rw [HT.sIx_nat, List.map_drop]
  rcases Nat.le_total n (xs.map f).length with h | h
  · rw [Nat.min_eq_left h]
    exact List.take_of_length_le (by rw [List.length_drop]; omega)
  · rw [Nat.min_eq_right h, Nat.sub_self, List.take_zero, List.drop_eq_nil_of_le h]
theorem setL_one {b : Addr} {c d : D} : setL [(b, c)] b d = [(b, d)] := setL_top (by simp [inL])
def fixL : List Sm := [.ifS "upto" (.bin "add" .lx (.num (-7))) (.call "f" .ly (.nm "a")) [] [.rep 0 []]]
def fixT : Str := "if (x + -7) <= f(y, a)\nelse\nrepeat 0\nend\nend\nlet else"
theorem fix_cut : cutS fixT none (some (-8)) = progT fixL := by decide +kernel
theorem fix_ok : smsT 2 fixL := by
  unfold fixL
  simp only [smsT, smT]
  refine ⟨⟨by decide +kernel, ⟨[], [], ?_, by decide, fun z h => (by cases h), fun z h => (by cases h)⟩, ⟨["a"], ["f"], ?_, by decide, ?_, ?_⟩, 1, rfl, trivial, ⟨by decide, 0, rfl, trivial⟩, trivial⟩, trivial⟩
  · exact .bin (by decide +kernel) .lx (.num (by decide) (by decide))
  · exact .call (by decide +kernel) .ly (.nm (by decide +kernel))
  · intro z h; cases List.mem_singleton.mp h; decide +kernel
  · intro z h; cases List.mem_singleton.mp h; decide +kernel
end T25

namespace T25
open PySem L2 DL TL NumText
section
variable {P : Program} {w : World} {K : PySem.W.Frag} {mg : Str → Option Value} {base : Heap} {pS pT pW : Addr}
local macro_rules | `(tactic| walk_at "w") => `(tactic| conv => whnf)
local macro_rules | `(tactic| walk_at "v") => `(tactic| ((conv => whnf); try dsimp only))
local macro_rules | `(tactic| walk_at "s") => `(tactic| ((conv => whnf); repeat ((first | refine ⟨sz_ok rfl, ?_⟩ | refine ⟨rfl, ?_⟩); conv => whnf)))

def llR (m : Nat) : DSp := fun ds L k _ => ∃ (l : List Sm) (m' : Nat), ds = [.tup (Sm.ds l)] ∧ m = m' + 1 ∧ smsT m' l ∧ cntB l ≤ 80 ∧ ∀ L', keepL L L' = L → k (.lst ((linesB l).map D.str)) L'
def lnS : DSp := fun ds L k _ => ∃ (s : Sm) (m : Nat), ds = [s.d] ∧ smT m s ∧ k (.str (lineT s)) L
def lsS (m : Nat) : DSp := fun ds L k _ => ∃ (l : List Sm) (m' : Nat), ds = [.tup (Sm.ds l)] ∧ m = m' + 1 ∧ smsT m' l ∧ cntB l ≤ 80 ∧ k (.lst ((linesB l).map D.str)) L
def ptS : DSp := fun ds L k _ => ∃ (l : List Sm) (m' : Nat), ds = [.tup (Sm.ds l)] ∧ m' ≤ 5 ∧ smsT m' l ∧ cntB l ≤ 80 ∧ k (.str (progT l)) L
def itE (C : Addr) (n : Int) : Exn := ⟨.ref C, ["line", "code"], [.int n, .str "InvalidText"]⟩
def readR (C CT : Addr) : DSp := fun ds L k x => ∃ v, ds = [v] ∧ okT v = true ∧ ((∀ z, v ≠ .str z) → x (itE CT 0) L) ∧ ∀ z, v = .str z → OkZ z ∧ ∀ L', keepL L L' = L → match readT (tl z) with
  | .bad n => x (itE CT n) L'
  | .ok l => (∀ c, visF 4 l 0 = .ok c → k (.tup l) L') ∧ ∀ e : Nat, visF 4 l 0 = .bad e → x (ipE C e) L'
def readS (C CT : Addr) : DSp := fun ds L k x => ∃ v, ds = [v] ∧ okT v = true ∧ ((∀ z, v ≠ .str z) → x (itE CT 0) L) ∧ ∀ z, v = .str z → OkZ z ∧ match readT (tl z) with
  | .bad n => x (itE CT n) L
  | .ok l => (∀ c, visF 4 l 0 = .ok c → k (.tup l) L) ∧ ∀ e : Nat, visF 4 l 0 = .bad e → x (ipE C e) L
def wholeS : DSp := fun ds L k _ => ∃ (z : Str) (a : Nat), ds = [.str z, .int a] ∧ a ≤ z.length ∧ OkZ z ∧ k (match wholeL ((tl z).drop a) with
  | some v => v.d
  | none => .non) L
def testS : DSp := fun ds L k _ => ∃ (z : Str), ds = [.str z] ∧ 3 ≤ z.length ∧ OkZ z ∧ k (itmD (testL (tl z))) L
def lineS : DSp := fun ds L k _ => ∃ (z : Str), ds = [.str z] ∧ OkZ z ∧ k (itmD (lineL (tl z))) L
def closedR : DSp := fun ds L k _ => ∃ (L0 : Led) (fa : FA) (m : Blk), ds = [.ptr fa.q] ∧ BlkAt L0 L fa m ∧ ItmsOk m ∧ ∀ L', keepL L L' = L → k (closeD m) L'
def closedS : DSp := fun ds L k _ => ∃ (L0 : Led) (fa : FA) (m : Blk), ds = [.ptr fa.q] ∧ BlkAt L0 L fa m ∧ ItmsOk m ∧ k (closeD m) L
def blockInS : DSp := fun ds L k _ => ∃ (L0 : Led) (P : Addr) (fa : FA) (fas : List FA) (m : Blk) (ms : List Blk), ds = [.ptr P] ∧ BsL L0 L P (fa :: fas) (m :: ms) ∧ k (.ptr fa.cur) L
def takeS : DSp := fun ds L k _ => ∃ (L0 : Led) (P : Addr) (z : Str) (fas : List FA) (ms : List Blk) (N : Nat), ds = [.ptr P, .str z] ∧ BsL L0 L P fas ms ∧ OkZ z ∧ BSz N ms ∧ N ≤ 90000 ∧ ms ≠ [] ∧ match takeM ms (tl z) with
  | none => ∀ L', keepL L0 L' = L0 → k (.bl false) L'
  | some ms' => ∀ L' fas', BsL L0 L' P fas' ms' → k (.bl true) L'
def runS : DSp := fun ds L k _ => ∃ (z s : Str) (a : Nat), ds = [.str z, .int a, .str s] ∧ a ≤ z.length ∧ z.length ≤ 90000 ∧ k (.str (mkS (((tl z).drop a).takeWhile fun c => decide (c ∈ tl s)))) L
def figS : DSp := fun ds L k _ => ∃ l : List Nat, ds = [.str (mkS l)] ∧ l.length ≤ 90000 ∧ k (.bl (figOk l)) L
def ansD (z : Str) : Option (Fx × List Nat) → D
  | none => .non
  | some (v, r) => .tup [v.d, .int ((z.length - r.length : Nat) : Int)]
def leafR : DSp := fun ds L k _ => ∃ (z : Str) (a : Nat), ds = [.str z, .int a] ∧ a ≤ z.length ∧ OkZ z ∧ k (ansD z (leafL ((tl z).drop a))) L
def dpS (n : Nat) : DSp := fun ds L k _ => ∃ v : Fx, ds = [v.d] ∧ v.W ∧ v.ht < n ∧ n ≤ 20 ∧ k (.int (v.dp : Int)) L
def joinS : DSp := fun ds L k _ => ∃ (p : Addr) (f : Frm) (a v : Fx), ds = [.ptr p, v.d] ∧ L.lookup p = some f.d ∧ f.v = some a ∧ FrmOk f ∧ v.sm ∧ k (joinF f a v).d L
def openS : DSp := fun ds L k _ => ∃ (z : Str) (a : Nat), ds = [.str z, .int a] ∧ a ≤ z.length ∧ OkZ z ∧ match openL ((tl z).drop a) with
  | none => k .non L
  | some (f, r) => ∀ p, ¬ inL L p → k (.tup [.ptr p, .int ((z.length - r.length : Nat) : Int)]) ((p, f.d) :: L)
def rexR : DSp := fun ds L k _ => ∃ (z : Str) (a : Nat), ds = [.str z, .int a] ∧ a ≤ z.length ∧ OkZ z ∧ ∀ L', keepL L L' = L → k (ansD z (rdL (z.length + 1) [] ((tl z).drop a))) L'
def rexS : DSp := fun ds L k _ => ∃ (z : Str) (a : Nat), ds = [.str z, .int a] ∧ a ≤ z.length ∧ OkZ z ∧ k (ansD z (rdL (z.length + 1) [] ((tl z).drop a))) L
def contS : DSp := fun ds L k _ => ∃ (z : Str) (a : Nat) (p : Addr) (f : Frm) (v : Fx), ds = [.str z, .int a, .ptr p, v.d] ∧ a ≤ z.length ∧ OkZ z ∧ L.lookup p = some f.d ∧ match contL f v ((tl z).drop a) with
  | none => ∀ L', (L' = L ∨ ∃ d, L' = setL L p d) → k .non L'
  | some (f', r) => k (.int ((z.length - r.length : Nat) : Int)) (setL L p f'.d)
theorem scRunOf : FnScope ["text", "at", "signs", "end"] ["text", "at", "signs"] (defScope sRunOf) := ⟨rfl, rfl, rfl, by decide +kernel, rfl, by decide +kernel, by decide +kernel⟩
theorem ok_RunOf {f : Addr} {fd : FuncData} (Z : Zn w K mg pS pT pW) (F : Fun K "run_of" "run_of" sRunOf f fd) : FnOk P w K mg base (L2.CX P w) 1 f fd ["text", "at", "signs"] (spD K runS) := by
  refine fn_ok F scRunOf ?len (fun cdv A outer s H E hr => ?_)
  rotate_left
  · have tk := takes_of (X := cxOf (L2.CX P w) P w K mg base ["text", "at", "signs", "end"] "run_of" (defScope sRunOf) f cdv A outer s H E) (E := E) rfl rfl rfl rfl
    have hp := passes_of (X := cxOf (L2.CX P w) P w K mg base ["text", "at", "signs", "end"] "run_of" (defScope sRunOf) f cdv A outer s H E) rfl
    refine ⟨_, (ss_cons (s_set 3 scRunOf.nd (qv 1))
  (ss_cons (s_while hp (w_and (t_cmp oq_lt (qv 3) (q_callB cq_len (by rfl) Z.z_len bb_len (a_cons (qv 0) a_nil))) (w_and1 (t_cmp oq_inC (q_ixS (qv 0) (qv 3)) (qv 2)))).t (ss_one (s_aug 3 scRunOf.nd q_int ip_addQ)))
  (ss_one (s_ret (q_slice (qv 0) (o_some (qv 1)) (o_some (qv 3))))))), ?_⟩
    clear tk hp
    rintro ds L k x ⟨z, s, a, rfl, ha, hz, h⟩
    have sz : z.length ≤ sizeLine := Nat.le_trans hz (by decide)
    walk_at "w"
    refine whD_inv (fun m env L' => ∃ (u v : List Nat), m = v.length ∧ (tl z).drop a = u ++ v ∧ env = [some (.str z), some (.int a), some (.str s), some (.int ((a + u.length : Nat) : Int))] ∧ L' = L ∧ ∀ c ∈ u, c ∈ tl s) ?step ⟨[], (tl z).drop a, rfl, rfl, rfl, rfl, fun c m => by cases m⟩
    rintro E' m env L' hrt hex hbk hct ⟨u, v, rfl, huv, rfl, rfl, hu⟩ hnx
    have hd : (tl z).drop (a + u.length) = v := by rw [← List.drop_drop, huv, List.drop_left]
    have ht : ((tl z).drop a).takeWhile (fun c => decide (c ∈ tl s)) = u ++ v.takeWhile fun c => decide (c ∈ tl s) := by
      rw [huv, List.takeWhile_append_of_pos fun c m => decide_eq_true (hu c m)]
    have hl : z.length = a + u.length + v.length := by
      have := congrArg List.length huv
      rw [List.length_drop, List.length_append, ← len_tl] at this
      omega
    have fin : v.takeWhile (fun c => decide (c ∈ tl s)) = [] → k (.str (cutS z (some (a : Int)) (some ((a + u.length : Nat) : Int)))) L' := fun e => by
      rw [cutM z a u.length _ rfl]
      rw [ht, e, List.append_nil] at h
      rw [huv, List.take_left' rfl]
      exact h
    walk_at "w"
    refine ⟨sz, ?_⟩
    walk_at "v"
    cases v with
    | nil =>
      rw [show decide (((a + u.length : Nat) : Int) < (z.length : Int)) = false from decide_eq_false (by rw [List.length_nil] at hl; omega)]
      walk_at "w"
      exact ⟨sz, fin rfl⟩
    | cons c v =>
      rw [show decide (((a + u.length : Nat) : Int) < (z.length : Int)) = true from decide_eq_true (by rw [List.length_cons] at hl; omega)]
      walk_at "w"
      refine ⟨sz, ?_⟩
      rw [show atI z.cps.toList ((a + u.length : Nat) : Int) = some c from atI_drop hd]
      walk_at "v"
      cases hc : decide (c ∈ tl s) with
      | false =>
        walk_at "w"
        exact ⟨sz, fin (by rw [List.takeWhile_cons, hc]; rfl)⟩
      | true =>
        walk_at "w"
        refine hnx v.length _ _ (by rw [List.length_cons]; omega) ⟨u ++ [c], v, rfl, by rw [huv, List.append_assoc]; rfl, ?_, rfl, fun d m => ?_⟩
        · rw [List.length_append]; rfl
        · exact (List.mem_append.mp m).elim (hu d) fun m => by cases List.mem_singleton.mp m; exact of_decide_eq_true hc
  · rintro ds L k x ⟨z, s, a, rfl, _⟩; rfl
theorem scIsFigureWord : FnScope ["word"] ["word"] (defScope sIsFigureWord) := ⟨rfl, rfl, rfl, by decide +kernel, rfl, by decide +kernel, by decide +kernel⟩
theorem ok_IsFigureWord {f : Addr} {fd : FuncData} (Z : Zn w K mg pS pT pW) (F : Fun K "is_figure_word" "is_figure_word" sIsFigureWord f fd) : FnOk P w K mg base (L2.CX P w) 1 f fd ["word"] (spD K figS) := by
  refine fn_ok F scIsFigureWord ?len (fun cdv A outer s H E hr => ?_)
  rotate_left
  · have tk := takes_of (X := cxOf (L2.CX P w) P w K mg base ["word"] "is_figure_word" (defScope sIsFigureWord) f cdv A outer s H E) (E := E) rfl rfl rfl rfl
    have hp := passes_of (X := cxOf (L2.CX P w) P w K mg base ["word"] "is_figure_word" (defScope sIsFigureWord) f cdv A outer s H E) rfl
    refine ⟨_, (ss_one (s_ret (q_and (q_cmp (oq_neU hr.units) (qv 0) q_str) (q_one (q_or (q_cmp (oq_eqU hr.units) (qv 0) q_str) (q_one (q_cmp (oq_neU hr.units) (q_ixS (qv 0) q_int) q_str))))))), ?_⟩
    clear tk hp
    rintro ds L k x ⟨l, rfl, hl, h⟩
    walk_at "v"
    rw [flS [] (by decide +kernel)]
    cases l with
    | nil => exact h
    | cons c r =>
      rw [show decide (c :: r = []) = false from decide_eq_false (by simp)]
      walk_at "v"
      rw [flS [48] (by decide +kernel)]
      have h : k (.bl (decide (c :: r = [48]) || decide ((c :: r).head? ≠ some 48))) L := h
      cases h1 : decide (c :: r = [48]) with
      | true => rw [h1] at h; exact h
      | false =>
        rw [h1] at h
        walk_at "w"
        refine ⟨by rw [mkS_len]; exact Nat.le_trans hl (by decide), ?_⟩
        walk_at "w"
        have e : decide ((c :: r).head? ≠ some 48) = !flEq (.str ⟨#[c]⟩) (.str "0") := by
          rw [show flEq (.str ⟨#[c]⟩) (.str "0") = decide ([c] = [48]) from flS (l := [c]) [48] (by decide +kernel)]
          simp
        rw [e, Bool.false_or] at h
        rw [show atI (mkS (c :: r)).cps.toList 0 = some c from atI_nat (j := 0) rfl]
        exact h
  · rintro ds L k x ⟨l, rfl, _⟩; rfl
theorem scReadLeaf : FnScope ["text", "at", "start", "word", "number"] ["text", "at"] (defScope sReadLeaf) := ⟨rfl, rfl, rfl, by decide +kernel, rfl, by decide +kernel, by decide +kernel⟩
theorem ok_ReadLeaf {f : Addr} {fd : FuncData} (Z : Zn w K mg pS pT pW) (F : Fun K "read_leaf" "read_leaf" sReadLeaf f fd) (CRunOf : Cal P w K mg base 1 "run_of" ["text", "at", "signs"] [] runS) (CIsFigureWord : Cal P w K mg base 1 "is_figure_word" ["word"] [] figS) (CIsName : Cal P w K mg base 1 "is_name" ["value"] [] nameS) : FnOk P w K mg base (L2.CX P w) 2 f fd ["text", "at"] (spD K leafR) := by
  refine fn_ok F scReadLeaf ?len (fun cdv A outer s H E hr => ?_)
  rotate_left
  · have tk := takes_of (X := cxOf (L2.CX P w) P w K mg base ["text", "at", "start", "word", "number"] "read_leaf" (defScope sReadLeaf) f cdv A outer s H E) (E := E) rfl rfl rfl rfl
    have hp := passes_of (X := cxOf (L2.CX P w) P w K mg base ["text", "at", "start", "word", "number"] "read_leaf" (defScope sReadLeaf) f cdv A outer s H E) rfl
    refine ⟨_, (ss_cons (s_if (w_or (t_cmp (oq_eqU hr.units) (q_slice (qv 0) (o_some (qv 1)) (o_some (q_op oq_add (qv 1) q_int))) q_str) (w_or1 (t_cmp oq_inQ (q_slice (qv 0) (o_some (qv 1)) (o_some (q_op oq_add (qv 1) q_int))) (q_callTy (cq_tupS rfl) (by rfl) Z.z_tuple bb_tuple (a_cons q_str a_nil))))).t (ss_cons (s_set 2 scReadLeaf.nd (q_if (t_cmp (oq_eqU hr.units) (q_ixS (qv 0) (qv 1)) q_str) (q_op oq_add (qv 1) q_int) (qv 1)))
  (ss_cons (s_set 3 scReadLeaf.nd (q_cal CRunOf (by first | decide | exact Nat.le_refl _ | omega) hr tk (by rfl) (a_cons (qv 0) (a_cons (qv 2) (a_cons q_str a_nil)))))
  (ss_cons (s_if (w_or (t_not (t_val (q_cal CIsFigureWord (by first | decide | exact Nat.le_refl _ | omega) hr tk (by rfl) (a_cons (qv 3) a_nil)))) (w_or1 (w_and (t_cmp (oq_eqU hr.units) (q_ixS (qv 0) (qv 1)) q_str) (w_and1 (t_cmp (oq_eqU hr.units) (qv 3) q_str))).t)).t (ss_one (s_ret q_non)) ss_nil)
  (ss_cons (s_set 4 scReadLeaf.nd (q_callTy cq_intT (by rfl) Z.z_int bb_int (a_cons (q_op oq_add (q_slice (qv 0) (o_some (qv 1)) (o_some (qv 2))) (qv 3)) a_nil)))
  (ss_one (s_ret (q_tup (a_cons (q_if (t_cmp oq_lt (q_callB cq_abs (by rfl) Z.z_abs bb_abs (a_cons (qv 4) a_nil)) q_int) (q_tup (a_cons q_str (a_cons (qv 4) a_nil))) (q_globD Z.g_TOO_DEEP (by rfl))) (a_cons (q_op oq_add (qv 2) (q_callB cq_len (by rfl) Z.z_len bb_len (a_cons (qv 3) a_nil))) a_nil))))))))) ss_nil)
  (ss_cons (s_set 3 scReadLeaf.nd (q_cal CRunOf (by first | decide | exact Nat.le_refl _ | omega) hr tk (by rfl) (a_cons (qv 0) (a_cons (qv 1) (a_cons (q_globD Z.g_LETTERS (by rfl)) a_nil)))))
  (ss_cons (s_if (t_cmp oq_inQ (qv 3) (q_tup (a_cons q_str (a_cons q_str a_nil)))) (ss_one (s_ret (q_tup (a_cons (q_tup (a_cons (qv 3) a_nil)) (a_cons (q_op oq_add (qv 1) (q_callB cq_len (by rfl) Z.z_len bb_len (a_cons (qv 3) a_nil))) a_nil))))) ss_nil)
  (ss_one (s_ret (q_if (t_val (q_cal CIsName (by first | decide | exact Nat.le_refl _ | omega) hr tk (by rfl) (a_cons (qv 3) a_nil))) (q_tup (a_cons (q_tup (a_cons q_str (a_cons (qv 3) a_nil))) (a_cons (q_op oq_add (qv 1) (q_callB cq_len (by rfl) Z.z_len bb_len (a_cons (qv 3) a_nil))) a_nil))) q_non)))))), ?_⟩
    clear tk hp
    rintro ds L k x ⟨z, a, rfl, ha, hz, h⟩
    have hd := drop_len z ha
    generalize el : (tl z).drop a = l at h hd
    walk_at "w"
    refine ⟨hz.sz, ?_⟩
    rw [cut1, el]
    walk_at "v"
    rw [fl1 45 (by decide +kernel)]
    cases l with
    | nil =>
      walk_at "s"
      refine ⟨hz.sz, ?_⟩
      rw [cut1, el]
      walk_at "s"
      walk_at "s"
      refine ⟨z, letters, a, rfl, ha, hz.len, ?_⟩
      rw [show ((tl z).drop a).takeWhile (fun c => decide (c ∈ tl letters)) = (([] : List Nat)).takeWhile letB by rw [el]; rfl]
      have h : k (ansD z (leafT (([] : List Nat)))) L := h
      unfold leafT at h
      dsimp only at h
      have hwl : ((([] : List Nat)).takeWhile letB).length ≤ (([] : List Nat)).length := List.IsPrefix.length_le (List.takeWhile_prefix _)
      generalize (([] : List Nat)).takeWhile letB = w at h hwl ⊢
      have hw9 : w.length ≤ 90000 := by have := hz.len; omega
      have sw : (mkS w).length ≤ sizeLine := by rw [mkS_len]; exact Nat.le_trans hw9 (by decide)
      have hp : ((a + w.length : Nat) : Int) = ((z.length - ((([] : List Nat)).drop w.length).length : Nat) : Int) := by
        rw [List.length_drop]
        congr 1
        omega
      have hpk : ∀ v : Fx, ansD z (some (v, (([] : List Nat)).drop w.length)) = .tup [v.d, .int ((a + w.length : Nat) : Int)] := fun v => by rw [hp]; rfl
      walk_at "s"
      generalize hb : (if false = true then _ else _) = bb
      have hb : decide (mkS w ∈ (["x", "y"] : List Str)) = bb := (inV_str (mkS w) ["x", "y"]).symm.trans hb
      have ex : ∀ (u : Str) (v : List Nat), tl u = v → decide (mkS w = u) = decide (w = v) := fun u v e => by subst e; exact decide_eq_decide.mpr mkS_inj
      have hb2 : (decide (w = [120]) || decide (w = [121])) = bb := by
        rw [← hb, ← ex "x" [120] (by decide +kernel), ← ex "y" [121] (by decide +kernel)]
        by_cases h1 : mkS w = "x" <;> by_cases h2 : mkS w = "y" <;> simp [h1, h2]
      clear hb
      by_cases e1 : w = [120]
      · subst e1
        rw [if_pos rfl, hpk] at h
        subst hb2
        walk_at "s"
        rw [mkS_len]
        rw [show (mkS [120] : Str) = "x" by decide +kernel]
        exact h
      rw [if_neg e1] at h
      by_cases e2 : w = [121]
      · subst e2
        rw [if_pos rfl, hpk] at h
        rw [decide_eq_false e1, decide_eq_true rfl, Bool.false_or] at hb2
        subst hb2
        walk_at "s"
        rw [mkS_len]
        rw [show (mkS [121] : Str) = "y" by decide +kernel]
        exact h
      rw [if_neg e2] at h
      rw [decide_eq_false e1, decide_eq_false e2, Bool.false_or] at hb2
      subst hb2
      walk_at "s"
      refine ⟨.str (mkS w), rfl, by unfold okW; exact decide_eq_true (by rw [mkS_len]; omega), ?_⟩
      rw [show isNameD (.str (mkS w)) = nameOk (mkS w) from rfl]
      cases hn : nameOk (mkS w) with
      | false =>
        rw [hn] at h
        exact h
      | true =>
        rw [hn, if_pos rfl, hpk] at h
        walk_at "s"
        refine ⟨sw, ?_⟩
        walk_at "s"
        rw [mkS_len]
        exact h

    | cons c r =>
    have drop1 : (tl z).drop (a + 1) = r := by rw [← List.drop_drop, el]; rfl
    by_cases hc : c = 45
    · subst hc
      have hL : leafL (45 :: r) = (match figOk (r.takeWhile figB) && !decide (r.takeWhile figB = [48]) with | true => some (numF (45 :: r.takeWhile figB), r.drop (r.takeWhile figB).length) | false => none) := by
        show (if (figOk (r.takeWhile figB) && !decide (r.takeWhile figB = [48])) = true then some (numF (45 :: r.takeWhile figB), r.drop (r.takeWhile figB).length) else none) = _
        cases figOk (r.takeWhile figB) && !decide (r.takeWhile figB = [48]) <;> rfl
      rw [hL] at h
      clear hL
      walk_at "s"
      have hw : ((r).takeWhile figB).length ≤ 600 := by have := hz.run (a + 1); rw [drop1] at this; exact this
      have hwl : ((r).takeWhile figB).length ≤ (r).length := List.IsPrefix.length_le (List.takeWhile_prefix _)
      refine ⟨hz.sz, ?_⟩
      rw [show atI z.cps.toList (a : Int) = some 45 from atI_drop el]
      walk_at "s"
      refine ⟨z, figs, a + 1, rfl, by rw [List.length_cons] at hd; omega, hz.len, ?_⟩
      rw [show ((tl z).drop (a + 1)).takeWhile (fun c => decide (c ∈ tl figs)) = (r).takeWhile figB by rw [drop1]; rfl]
      generalize ew : (r).takeWhile figB = w at h hw hwl
      walk_at "s"
      refine ⟨w, rfl, by omega, ?_⟩
      cases hf : figOk w with
      | false =>
        rw [hf] at h
        exact h
      | true =>
      rw [hf] at h
      walk_at "v"
      refine ⟨hz.sz, ?_⟩
      rw [show atI z.cps.toList (a : Int) = some 45 from atI_drop el]
      walk_at "v"
      rw [flS [48] (by decide +kernel)]
      cases h48 : decide (w = [48]) with
      | true => rw [h48] at h; exact h
      | false =>
      rw [h48] at h
      walk_at "v"
      refine ⟨hz.sz, ?_⟩
      rw [show cutS z (some (a : Int)) (some ((a : Int) + 1)) = mkS [45] from by rw [cut1, el]; rfl]
      have hl2 : (mkS [45]).length + (mkS w).length ≤ 640 := by rw [mkS_len, mkS_len]; show 1 + w.length ≤ 640; omega
      walk_at "v"
      refine ⟨Nat.le_trans hl2 (by decide), ?_⟩
      walk_at "w"
      refine ⟨by rw [str_len]; exact hl2, ?_⟩
      have etl : tl (mkS [45] ++ mkS w) = 45 :: w := by rw [tl_append]; rfl
      rw [int_run (by rw [str_len]; exact hl2) (by rw [etl]; exact .inr ⟨w, rfl, by rw [← ew]; exact fig_all, figOk_ne ‹_›⟩), etl]
      have h : k (ansD z (some (numF (45 :: w), r.drop w.length))) L := h
      clear hf
      have hp : ((a + 1 + w.length : Nat) : Int) = ((z.length - (r.drop w.length).length : Nat) : Int) := by
        rw [List.length_drop, ← ew]
        rw [List.length_cons] at hd
        have := List.IsPrefix.length_le (List.takeWhile_prefix figB (l := r))
        try simp only [List.length_cons] at this ⊢
        congr 1
        omega
      unfold numF at h
      generalize topVal (45 :: w) = n at h
      walk_at "v"
      have ab : decide ((if n < 0 then -n else n) < 1000) = decide (n.natAbs < 1000) := decide_eq_decide.mpr (by split <;> omega)
      rw [ab]
      by_cases hn : n.natAbs < 1000
      · rw [decide_eq_true hn]
        rw [if_pos hn] at h
        walk_at "s"
        refine ⟨by rw [mkS_len]; exact Nat.le_trans hw (by decide), ?_⟩
        walk_at "s"
        rw [mkS_len]
        rw [show ansD z (some (Fx.num n, r.drop w.length)) = .tup [.tup [.str "num", .int n], .int ((z.length - (r.drop w.length).length : Nat) : Int)] from rfl, ← hp] at h
        exact h
      · rw [decide_eq_false hn]
        rw [if_neg hn] at h
        walk_at "s"
        refine ⟨by rw [mkS_len]; exact Nat.le_trans hw (by decide), ?_⟩
        walk_at "s"
        rw [mkS_len]
        rw [show ansD z (some (Fx.deep, r.drop w.length)) = .tup [.tup [.str "deep"], .int ((z.length - (r.drop w.length).length : Nat) : Int)] from rfl, ← hp] at h
        exact h

    rw [show decide ((c :: r).head? = some 45) = false from decide_eq_false (by simpa using hc)]
    walk_at "s"
    refine ⟨hz.sz, ?_⟩
    rw [cut1, el]
    walk_at "s"
    generalize hb : (if false = true then _ else _) = bb
    have hb : figB c = bb := (inV_fig (c :: r)).symm.trans hb
    have hL : leafL (c :: r) = if figB c = true then (match figOk ((c :: r).takeWhile figB) with | true => some (numF ((c :: r).takeWhile figB), (c :: r).drop ((c :: r).takeWhile figB).length) | false => none) else leafT (c :: r) := by
      show (if c = 45 then _ else _) = _
      rw [if_neg hc]
      show (if figB c = true then (if figOk ((c :: r).takeWhile figB) = true then some (numF ((c :: r).takeWhile figB), (c :: r).drop ((c :: r).takeWhile figB).length) else none) else leafT (c :: r)) = _
      cases figOk ((c :: r).takeWhile figB) <;> rfl
    rw [hL] at h
    clear hL
    cases bb with
    | true =>
      rw [hb, if_pos rfl] at h
      walk_at "s"
      have hw : ((c :: r).takeWhile figB).length ≤ 600 := by have := hz.run (a); rw [el] at this; exact this
      have hwl : ((c :: r).takeWhile figB).length ≤ (c :: r).length := List.IsPrefix.length_le (List.takeWhile_prefix _)
      refine ⟨hz.sz, ?_⟩
      rw [show atI z.cps.toList (a : Int) = some c from atI_drop el]
      walk_at "v"
      rw [show flEq (.str ⟨#[c]⟩) (.str "-") = false from by rw [show flEq (.str ⟨#[c]⟩) (.str "-") = decide ([c] = [45]) from flS (l := [c]) [45] (by decide +kernel)]; exact decide_eq_false (by simpa using hc)]
      walk_at "s"
      refine ⟨z, figs, a, rfl, by rw [List.length_cons] at hd; omega, hz.len, ?_⟩
      rw [show ((tl z).drop (a)).takeWhile (fun c => decide (c ∈ tl figs)) = (c :: r).takeWhile figB by rw [el]; rfl]
      generalize ew : (c :: r).takeWhile figB = w at h hw hwl
      walk_at "s"
      refine ⟨w, rfl, by omega, ?_⟩
      cases hf : figOk w with
      | false =>
        rw [hf] at h
        exact h
      | true =>
      rw [hf] at h
      walk_at "v"
      refine ⟨hz.sz, ?_⟩
      rw [show atI z.cps.toList (a : Int) = some c from atI_drop el]
      walk_at "v"
      rw [show flEq (.str ⟨#[c]⟩) (.str "-") = false from by rw [show flEq (.str ⟨#[c]⟩) (.str "-") = decide ([c] = [45]) from flS (l := [c]) [45] (by decide +kernel)]; exact decide_eq_false (by simpa using hc)]
      walk_at "v"
      refine ⟨hz.sz, ?_⟩
      rw [show cutS z (some (a : Int)) (some (a : Int)) = mkS [] from cutM z a 0 _ rfl]
      have hl2 : (mkS []).length + (mkS w).length ≤ 640 := by rw [mkS_len, mkS_len]; show 0 + w.length ≤ 640; omega
      walk_at "v"
      refine ⟨Nat.le_trans hl2 (by decide), ?_⟩
      walk_at "w"
      refine ⟨by rw [str_len]; exact hl2, ?_⟩
      have etl : tl (mkS [] ++ mkS w) = w := by rw [tl_append]; rfl
      rw [int_run (by rw [str_len]; exact hl2) (by rw [etl]; exact .inl ⟨by rw [← ew]; exact fig_all, figOk_ne ‹_›⟩), etl]
      have h : k (ansD z (some (numF (w), (c :: r).drop w.length))) L := h
      clear hf
      have hp : ((a + w.length : Nat) : Int) = ((z.length - ((c :: r).drop w.length).length : Nat) : Int) := by
        rw [List.length_drop, ← ew]
        rw [List.length_cons] at hd
        have := List.IsPrefix.length_le (List.takeWhile_prefix figB (l := c :: r))
        try simp only [List.length_cons] at this ⊢
        congr 1
        omega
      unfold numF at h
      generalize topVal (w) = n at h
      walk_at "v"
      have ab : decide ((if n < 0 then -n else n) < 1000) = decide (n.natAbs < 1000) := decide_eq_decide.mpr (by split <;> omega)
      rw [ab]
      by_cases hn : n.natAbs < 1000
      · rw [decide_eq_true hn]
        rw [if_pos hn] at h
        walk_at "s"
        refine ⟨by rw [mkS_len]; exact Nat.le_trans hw (by decide), ?_⟩
        walk_at "s"
        rw [mkS_len]
        rw [show ansD z (some (Fx.num n, (c :: r).drop w.length)) = .tup [.tup [.str "num", .int n], .int ((z.length - ((c :: r).drop w.length).length : Nat) : Int)] from rfl, ← hp] at h
        exact h
      · rw [decide_eq_false hn]
        rw [if_neg hn] at h
        walk_at "s"
        refine ⟨by rw [mkS_len]; exact Nat.le_trans hw (by decide), ?_⟩
        walk_at "s"
        rw [mkS_len]
        rw [show ansD z (some (Fx.deep, (c :: r).drop w.length)) = .tup [.tup [.str "deep"], .int ((z.length - ((c :: r).drop w.length).length : Nat) : Int)] from rfl, ← hp] at h
        exact h

    | false =>
      rw [hb, if_neg Bool.false_ne_true] at h
      walk_at "s"
      walk_at "s"
      refine ⟨z, letters, a, rfl, ha, hz.len, ?_⟩
      rw [show ((tl z).drop a).takeWhile (fun c => decide (c ∈ tl letters)) = (c :: r).takeWhile letB by rw [el]; rfl]
      have h : k (ansD z (leafT (c :: r))) L := h
      unfold leafT at h
      dsimp only at h
      have hwl : ((c :: r).takeWhile letB).length ≤ (c :: r).length := List.IsPrefix.length_le (List.takeWhile_prefix _)
      generalize (c :: r).takeWhile letB = w at h hwl ⊢
      have hw9 : w.length ≤ 90000 := by have := hz.len; omega
      have sw : (mkS w).length ≤ sizeLine := by rw [mkS_len]; exact Nat.le_trans hw9 (by decide)
      have hp : ((a + w.length : Nat) : Int) = ((z.length - ((c :: r).drop w.length).length : Nat) : Int) := by
        rw [List.length_drop]
        congr 1
        omega
      have hpk : ∀ v : Fx, ansD z (some (v, (c :: r).drop w.length)) = .tup [v.d, .int ((a + w.length : Nat) : Int)] := fun v => by rw [hp]; rfl
      walk_at "s"
      generalize hb : (if false = true then _ else _) = bb
      have hb : decide (mkS w ∈ (["x", "y"] : List Str)) = bb := (inV_str (mkS w) ["x", "y"]).symm.trans hb
      have ex : ∀ (u : Str) (v : List Nat), tl u = v → decide (mkS w = u) = decide (w = v) := fun u v e => by subst e; exact decide_eq_decide.mpr mkS_inj
      have hb2 : (decide (w = [120]) || decide (w = [121])) = bb := by
        rw [← hb, ← ex "x" [120] (by decide +kernel), ← ex "y" [121] (by decide +kernel)]
        by_cases h1 : mkS w = "x" <;> by_cases h2 : mkS w = "y" <;> simp [h1, h2]
      clear hb
      by_cases e1 : w = [120]
      · subst e1
        rw [if_pos rfl, hpk] at h
        subst hb2
        walk_at "s"
        rw [mkS_len]
        rw [show (mkS [120] : Str) = "x" by decide +kernel]
        exact h
      rw [if_neg e1] at h
      by_cases e2 : w = [121]
      · subst e2
        rw [if_pos rfl, hpk] at h
        rw [decide_eq_false e1, decide_eq_true rfl, Bool.false_or] at hb2
        subst hb2
        walk_at "s"
        rw [mkS_len]
        rw [show (mkS [121] : Str) = "y" by decide +kernel]
        exact h
      rw [if_neg e2] at h
      rw [decide_eq_false e1, decide_eq_false e2, Bool.false_or] at hb2
      subst hb2
      walk_at "s"
      refine ⟨.str (mkS w), rfl, by unfold okW; exact decide_eq_true (by rw [mkS_len]; omega), ?_⟩
      rw [show isNameD (.str (mkS w)) = nameOk (mkS w) from rfl]
      cases hn : nameOk (mkS w) with
      | false =>
        rw [hn] at h
        exact h
      | true =>
        rw [hn, if_pos rfl, hpk] at h
        walk_at "s"
        refine ⟨sw, ?_⟩
        walk_at "s"
        rw [mkS_len]
        exact h

  · rintro ds L k x ⟨z, a, rfl, _⟩; rfl
end
end T25

namespace T25
open PySem L2 DL TL NumText
section
variable {P : Program} {w : World} {K : PySem.W.Frag} {mg : Str → Option Value} {base : Heap} {pS pT pW : Addr}
local macro_rules | `(tactic| walk_at "w") => `(tactic| conv => whnf)
local macro_rules | `(tactic| walk_at "v") => `(tactic| ((conv => whnf); try dsimp only))
local macro_rules | `(tactic| walk_at "s") => `(tactic| ((conv => whnf); repeat ((first | refine ⟨sz_ok rfl, ?_⟩ | refine ⟨rfl, ?_⟩); conv => whnf)))
theorem scDepthOf : FnScope ["value", "part"] ["value"] (defScope sDepthOf) := ⟨rfl, rfl, rfl, by decide +kernel, rfl, by decide +kernel, by decide +kernel⟩
theorem ok_DepthOf {f : Addr} {fd : FuncData} {n : Nat} (Z : Zn w K mg pS pT pW) (F : Fun K "depth_of" "depth_of" sDepthOf f fd) (CDepthOf : Cal P w K mg base n "depth_of" ["value"] [] (dpS n)) : FnOk P w K mg base (L2.CX P w) (n + 1) f fd ["value"] (spD K (dpS (n + 1))) := by
  refine fn_ok F scDepthOf ?len (fun cdv A outer s H E hr => ?_)
  rotate_left
  · have tk := takes_of (X := cxOf (L2.CX P w) P w K mg base ["value", "part"] "depth_of" (defScope sDepthOf) f cdv A outer s H E) (E := E) rfl rfl rfl rfl
    have hp := passes_of (X := cxOf (L2.CX P w) P w K mg base ["value", "part"] "depth_of" (defScope sDepthOf) f cdv A outer s H E) rfl
    refine ⟨_, (ss_cons (s_if (t_cmp (oq_eqU hr.units) (qv 0) (q_globD Z.g_TOO_DEEP (by rfl))) (ss_one (s_ret (q_op oq_add (q_globD Z.g_DEEPEST_EXPRESSION (by rfl)) q_int))) ss_nil)
  (ss_cons (s_if (w_or (t_cmp (oq_inKD Z.d_SIGNS) (q_ix (qv 0) q_int) (q_globD Z.g_SIGNS (by rfl))) (w_or1 (t_cmp (oq_eqU hr.units) (q_ix (qv 0) q_int) q_str))).t (ss_one (s_ret (q_op oq_add q_int (q_callB (cq_maxL rfl) (by rfl) Z.z_max bb_max (a_cons (q_lc rfl scDepthOf.nd (i_tup (q_slice (qv 0) (o_some (q_neg q_int)) o_none)) (blkOk_by (own := [("part", 1)]) (N := ["value", "part"]) (sc := (defScope sDepthOf)) (by decide +kernel)) (fun _ _ _ _ _ => (g_name 1 scDepthOf.nd)) (fun _ _ _ _ _ => ts_nil) (fun _ _ _ _ _ => (q_cal CDepthOf (by first | decide | exact Nat.le_refl _ | omega) hr takes0 (by rfl) (a_cons (qv 1) a_nil)))) a_nil))))) ss_nil)
  (ss_one (s_ret q_int)))), ?_⟩
    clear tk hp
    rintro ds L k x ⟨v, rfl, hv, hh, hn, h⟩
    walk_at "w"
    rw [show scD v.d (.tup [.str "deep"]) = false by cases v <;> rfl]
    walk_at "w"
    refine ⟨hv.shp (by omega), shp_deep, ?_⟩
    rw [Fx.eqDeep hv]
    cases hv with
    | deep => walk_at "s"; exact h
    | num _ => walk_at "s"; exact h
    | lx => walk_at "s"; exact h
    | ly => walk_at "s"; exact h
    | nm _ => walk_at "s"; exact h
    | @call f a b hf ha hb =>
      have e1 : a.ht < n := by have : max a.ht b.ht + 1 < n + 1 := hh; omega
      have e2 : b.ht < n := by have : max a.ht b.ht + 1 < n + 1 := hh; omega
      have h : k (.int ((max a.dp b.dp + 1 : Nat) : Int)) L := h
      walk_at "s"
      intro p hp
      rw [show cutD [D.str "call", D.str f, a.d, b.d] (some (-2)) none = [a.d, b.d] from rfl]
      rw [lcD_cons]
      walk_at "s"
      refine ⟨a, rfl, ha, e1, by omega, ?_⟩
      refine ⟨lookup_top, by decide, ?_⟩
      rw [setL_top hp, lcD_cons]
      walk_at "s"
      refine ⟨b, rfl, hb, e2, by omega, ?_⟩
      refine ⟨lookup_top, by show 1 < sizeLine; decide, ?_⟩
      rw [setL_top hp, lcD_nil, remL_top hp]
      walk_at "s"
      refine ⟨by show 0 < 2; decide, fun m h1 h2 => ?_⟩
      have q1 := h2 (a.dp : Int) List.mem_cons_self
      have q2 := h2 (b.dp : Int) (List.mem_cons_of_mem _ List.mem_cons_self)
      have q3 : m = (a.dp : Int) ∨ m = (b.dp : Int) := by
        rcases List.mem_cons.mp h1 with e | e
        · exact .inl e
        · exact .inr (List.mem_singleton.mp e)
      have q4 : (1 : Int) + m = ((max a.dp b.dp + 1 : Nat) : Int) := by omega
      walk_at "s"
      rw [q4]
      exact h

    | @bin o a b ho ha hb =>
      have e1 : a.ht < n := by have : max a.ht b.ht + 1 < n + 1 := hh; omega
      have e2 : b.ht < n := by have : max a.ht b.ht + 1 < n + 1 := hh; omega
      have h : k (.int ((max a.dp b.dp + 1 : Nat) : Int)) L := h
      simp only [List.mem_cons, List.not_mem_nil, or_false] at ho
      rcases ho with rfl | rfl | rfl | rfl
      · skip
        walk_at "s"
        intro p hp
        rw [show cutD [D.str "add", a.d, b.d] (some (-2)) none = [a.d, b.d] from rfl]
        rw [lcD_cons]
        walk_at "s"
        refine ⟨a, rfl, ha, e1, by omega, ?_⟩
        refine ⟨lookup_top, by decide, ?_⟩
        rw [setL_top hp, lcD_cons]
        walk_at "s"
        refine ⟨b, rfl, hb, e2, by omega, ?_⟩
        refine ⟨lookup_top, by show 1 < sizeLine; decide, ?_⟩
        rw [setL_top hp, lcD_nil, remL_top hp]
        walk_at "s"
        refine ⟨by show 0 < 2; decide, fun m h1 h2 => ?_⟩
        have q1 := h2 (a.dp : Int) List.mem_cons_self
        have q2 := h2 (b.dp : Int) (List.mem_cons_of_mem _ List.mem_cons_self)
        have q3 : m = (a.dp : Int) ∨ m = (b.dp : Int) := by
          rcases List.mem_cons.mp h1 with e | e
          · exact .inl e
          · exact .inr (List.mem_singleton.mp e)
        have q4 : (1 : Int) + m = ((max a.dp b.dp + 1 : Nat) : Int) := by omega
        walk_at "s"
        rw [q4]
        exact h
      · skip
        walk_at "s"
        intro p hp
        rw [show cutD [D.str "sub", a.d, b.d] (some (-2)) none = [a.d, b.d] from rfl]
        rw [lcD_cons]
        walk_at "s"
        refine ⟨a, rfl, ha, e1, by omega, ?_⟩
        refine ⟨lookup_top, by decide, ?_⟩
        rw [setL_top hp, lcD_cons]
        walk_at "s"
        refine ⟨b, rfl, hb, e2, by omega, ?_⟩
        refine ⟨lookup_top, by show 1 < sizeLine; decide, ?_⟩
        rw [setL_top hp, lcD_nil, remL_top hp]
        walk_at "s"
        refine ⟨by show 0 < 2; decide, fun m h1 h2 => ?_⟩
        have q1 := h2 (a.dp : Int) List.mem_cons_self
        have q2 := h2 (b.dp : Int) (List.mem_cons_of_mem _ List.mem_cons_self)
        have q3 : m = (a.dp : Int) ∨ m = (b.dp : Int) := by
          rcases List.mem_cons.mp h1 with e | e
          · exact .inl e
          · exact .inr (List.mem_singleton.mp e)
        have q4 : (1 : Int) + m = ((max a.dp b.dp + 1 : Nat) : Int) := by omega
        walk_at "s"
        rw [q4]
        exact h
      · skip
        walk_at "s"
        intro p hp
        rw [show cutD [D.str "mul", a.d, b.d] (some (-2)) none = [a.d, b.d] from rfl]
        rw [lcD_cons]
        walk_at "s"
        refine ⟨a, rfl, ha, e1, by omega, ?_⟩
        refine ⟨lookup_top, by decide, ?_⟩
        rw [setL_top hp, lcD_cons]
        walk_at "s"
        refine ⟨b, rfl, hb, e2, by omega, ?_⟩
        refine ⟨lookup_top, by show 1 < sizeLine; decide, ?_⟩
        rw [setL_top hp, lcD_nil, remL_top hp]
        walk_at "s"
        refine ⟨by show 0 < 2; decide, fun m h1 h2 => ?_⟩
        have q1 := h2 (a.dp : Int) List.mem_cons_self
        have q2 := h2 (b.dp : Int) (List.mem_cons_of_mem _ List.mem_cons_self)
        have q3 : m = (a.dp : Int) ∨ m = (b.dp : Int) := by
          rcases List.mem_cons.mp h1 with e | e
          · exact .inl e
          · exact .inr (List.mem_singleton.mp e)
        have q4 : (1 : Int) + m = ((max a.dp b.dp + 1 : Nat) : Int) := by omega
        walk_at "s"
        rw [q4]
        exact h
      · skip
        walk_at "s"
        intro p hp
        rw [show cutD [D.str "div", a.d, b.d] (some (-2)) none = [a.d, b.d] from rfl]
        rw [lcD_cons]
        walk_at "s"
        refine ⟨a, rfl, ha, e1, by omega, ?_⟩
        refine ⟨lookup_top, by decide, ?_⟩
        rw [setL_top hp, lcD_cons]
        walk_at "s"
        refine ⟨b, rfl, hb, e2, by omega, ?_⟩
        refine ⟨lookup_top, by show 1 < sizeLine; decide, ?_⟩
        rw [setL_top hp, lcD_nil, remL_top hp]
        walk_at "s"
        refine ⟨by show 0 < 2; decide, fun m h1 h2 => ?_⟩
        have q1 := h2 (a.dp : Int) List.mem_cons_self
        have q2 := h2 (b.dp : Int) (List.mem_cons_of_mem _ List.mem_cons_self)
        have q3 : m = (a.dp : Int) ∨ m = (b.dp : Int) := by
          rcases List.mem_cons.mp h1 with e | e
          · exact .inl e
          · exact .inr (List.mem_singleton.mp e)
        have q4 : (1 : Int) + m = ((max a.dp b.dp + 1 : Nat) : Int) := by omega
        walk_at "s"
        rw [q4]
        exact h

  · rintro ds L k x ⟨v, rfl, _⟩; rfl
theorem scJoined : FnScope ["frame", "value", "head", "found"] ["frame", "value"] (defScope sJoined) := ⟨rfl, rfl, rfl, by decide +kernel, rfl, by decide +kernel, by decide +kernel⟩
theorem ok_Joined {f : Addr} {fd : FuncData} (Z : Zn w K mg pS pT pW) (F : Fun K "joined" "joined" sJoined f fd) (CDepthOf : Cal P w K mg base 9 "depth_of" ["value"] [] (dpS 9)) : FnOk P w K mg base (L2.CX P w) 10 f fd ["frame", "value"] (spD K joinS) := by
  refine fn_ok F scJoined ?len (fun cdv A outer s H E hr => ?_)
  rotate_left
  · have tk := takes_of (X := cxOf (L2.CX P w) P w K mg base ["frame", "value", "head", "found"] "joined" (defScope sJoined) f cdv A outer s H E) (E := E) rfl rfl rfl rfl
    have hp := passes_of (X := cxOf (L2.CX P w) P w K mg base ["frame", "value", "head", "found"] "joined" (defScope sJoined) f cdv A outer s H E) rfl
    refine ⟨_, (ss_cons (s_set 2 scJoined.nd (q_if (t_cmp (oq_eqU hr.units) (q_ix (qv 0) q_int) q_str) (q_tup (a_cons q_str (a_cons (q_ix (qv 0) q_int) a_nil))) (q_tup (a_cons (q_ix (qv 0) q_int) a_nil))))
  (ss_cons (s_set 3 scJoined.nd (q_op oq_add (qv 2) (q_tup (a_cons (q_ix (qv 0) q_int) (a_cons (qv 1) a_nil)))))
  (ss_one (s_ret (q_if (t_cmp oq_le (q_cal CDepthOf (by first | decide | exact Nat.le_refl _ | omega) hr tk (by rfl) (a_cons (qv 3) a_nil)) (q_globD Z.g_DEEPEST_EXPRESSION (by rfl))) (qv 3) (q_globD Z.g_TOO_DEEP (by rfl))))))), ?_⟩
    clear tk hp
    rintro ds L k x ⟨p, f, a, v, rfl, hl, hv, hf, sv, h⟩
    have hs := hf.v a hv
    have hJ : (joinT f a v).W ∧ (joinT f a v).ht < 9 := by
      have j1 := Fx.sm_ht hs
      have j2 := Fx.sm_ht sv
      have h2 := hf.w
      unfold joinT
      split
      · rename_i e
        exact ⟨.call (hf.n e) hs.1 sv.1, by show max a.ht v.ht + 1 < 9; omega⟩
      · rename_i e
        refine ⟨.bin ?_ hs.1 sv.1, by show max a.ht v.ht + 1 < 9; omega⟩
        rcases h2 with e2 | e2 | e2
        · exact absurd e2 e
        · exact absurd e2.2 (hf.e (by rw [hv]; simp))
        · exact e2
    have hfd : f.d = .lst [.str f.w, .str f.n, a.d] := by unfold Frm.d; rw [hv]
    have hsq : seqs (con L (.ptr p)) = some [.str f.w, .str f.n, a.d] := by show seqs ((L.lookup p).getD _) = _; rw [hl, hfd]; rfl
    obtain ⟨hW, hH⟩ := hJ
    unfold joinF at h
    unfold joinT at h hW hH
    walk_at "w"
    rw [hsq]
    walk_at "v"
    by_cases hc : f.w = "call"
    · rw [show flEq (.str f.w) (.str "call") = true from decide_eq_true hc]
      rw [if_pos hc] at h hW hH
      walk_at "w"
      rw [hsq]
      walk_at "s"
      rw [hsq]
      walk_at "s"
      refine ⟨.call f.n a v, rfl, hW, hH, by decide, ?_⟩
      walk_at "v"
      rw [show decide ((((Fx.call f.n a v).dp : Nat) : Int) ≤ 6) = decide ((Fx.call f.n a v).dp ≤ 6) from decide_eq_decide.mpr (by omega)]
      by_cases h6 : (Fx.call f.n a v).dp ≤ 6
      · rw [decide_eq_true h6]
        rw [if_pos h6] at h
        exact h
      · rw [decide_eq_false h6]
        rw [if_neg h6] at h
        exact h
    · rw [show flEq (.str f.w) (.str "call") = false from decide_eq_false hc]
      rw [if_neg hc] at h hW hH
      walk_at "w"
      rw [hsq]
      walk_at "s"
      rw [hsq]
      walk_at "s"
      refine ⟨.bin f.w a v, rfl, hW, hH, by decide, ?_⟩
      walk_at "v"
      rw [show decide ((((Fx.bin f.w a v).dp : Nat) : Int) ≤ 6) = decide ((Fx.bin f.w a v).dp ≤ 6) from decide_eq_decide.mpr (by omega)]
      by_cases h6 : (Fx.bin f.w a v).dp ≤ 6
      · rw [decide_eq_true h6]
        rw [if_pos h6] at h
        exact h
      · rw [decide_eq_false h6]
        rw [if_neg h6] at h
        exact h
  · rintro ds L k x ⟨p, f, a, v, rfl, _⟩; rfl
theorem scOpened : FnScope ["text", "at", "word"] ["text", "at"] (defScope sOpened) := ⟨rfl, rfl, rfl, by decide +kernel, rfl, by decide +kernel, by decide +kernel⟩
theorem ok_Opened {f : Addr} {fd : FuncData} (Z : Zn w K mg pS pT pW) (F : Fun K "opened" "opened" sOpened f fd) (CRunOf : Cal P w K mg base 1 "run_of" ["text", "at", "signs"] [] runS) (CIsName : Cal P w K mg base 1 "is_name" ["value"] [] nameS) : FnOk P w K mg base (L2.CX P w) 2 f fd ["text", "at"] (spD K openS) := by
  refine fn_ok F scOpened ?len (fun cdv A outer s H E hr => ?_)
  rotate_left
  · have tk := takes_of (X := cxOf (L2.CX P w) P w K mg base ["text", "at", "word"] "opened" (defScope sOpened) f cdv A outer s H E) (E := E) rfl rfl rfl rfl
    have hp := passes_of (X := cxOf (L2.CX P w) P w K mg base ["text", "at", "word"] "opened" (defScope sOpened) f cdv A outer s H E) rfl
    refine ⟨_, (ss_cons (s_if (t_cmp (oq_eqU hr.units) (q_slice (qv 0) (o_some (qv 1)) (o_some (q_op oq_add (qv 1) q_int))) q_str) (ss_one (s_ret (q_tup (a_cons (q_lstM (a_cons q_str (a_cons q_str (a_cons q_non a_nil)))) (a_cons (q_op oq_add (qv 1) q_int) a_nil))))) ss_nil)
  (ss_cons (s_set 2 scOpened.nd (q_cal CRunOf (by first | decide | exact Nat.le_refl _ | omega) hr tk (by rfl) (a_cons (qv 0) (a_cons (qv 1) (a_cons (q_globD Z.g_LETTERS (by rfl)) a_nil)))))
  (ss_cons (s_if (w_and (t_val (q_cal CIsName (by first | decide | exact Nat.le_refl _ | omega) hr tk (by rfl) (a_cons (qv 2) a_nil))) (w_and1 (t_cmp (oq_eqU hr.units) (q_slice (qv 0) (o_some (q_op oq_add (qv 1) (q_callB cq_len (by rfl) Z.z_len bb_len (a_cons (qv 2) a_nil)))) (o_some (q_op oq_add (q_op oq_add (qv 1) (q_callB cq_len (by rfl) Z.z_len bb_len (a_cons (qv 2) a_nil))) q_int))) q_str))).t (ss_one (s_ret (q_tup (a_cons (q_lstM (a_cons q_str (a_cons (qv 2) (a_cons q_non a_nil)))) (a_cons (q_op oq_add (q_op oq_add (qv 1) (q_callB cq_len (by rfl) Z.z_len bb_len (a_cons (qv 2) a_nil))) q_int) a_nil))))) ss_nil)
  (ss_one (s_ret q_non))))), ?_⟩
    clear tk hp
    rintro ds L k x ⟨z, a, rfl, ha, hz, h⟩
    have hd := drop_len z ha
    generalize el : (tl z).drop a = l at h hd
    unfold openL at h
    dsimp only at h
    walk_at "w"
    refine ⟨hz.sz, ?_⟩
    rw [cut1, el]
    walk_at "v"
    rw [fl1 40 (by decide +kernel)]
    by_cases h0 : l.head? = some 40
    · rw [decide_eq_true h0]
      rw [if_pos h0] at h
      have hp : ((a + 1 : Nat) : Int) = ((z.length - (l.drop 1).length : Nat) : Int) := by
        rw [List.length_drop]
        cases l with
        | nil => cases h0
        | cons c r => rw [List.length_cons] at hd ⊢; congr 1; omega
      walk_at "s"
      intro p hp1
      have h := h p hp1
      rw [← hp] at h
      walk_at "s"
      exact h
    · rw [decide_eq_false h0]
      rw [if_neg h0] at h
      walk_at "s"
      refine ⟨z, letters, a, rfl, ha, hz.len, ?_⟩
      rw [show ((tl z).drop a).takeWhile (fun c => decide (c ∈ tl letters)) = l.takeWhile letB by rw [el]; rfl]
      have hwl : (l.takeWhile letB).length ≤ l.length := List.IsPrefix.length_le (List.takeWhile_prefix _)
      generalize l.takeWhile letB = w at h hwl ⊢
      have hw9 : w.length ≤ 90000 := by have := hz.len; omega
      have sw : (mkS w).length ≤ sizeLine := by rw [mkS_len]; exact Nat.le_trans hw9 (by decide)
      walk_at "s"
      refine ⟨.str (mkS w), rfl, by unfold okW; exact decide_eq_true (by rw [mkS_len]; omega), ?_⟩
      rw [show isNameD (.str (mkS w)) = nameOk (mkS w) from rfl]
      cases hn : nameOk (mkS w) with
      | false =>
        rw [hn, if_neg (fun e => Bool.false_ne_true e.1)] at h
        exact h
      | true =>
        rw [hn] at h
        walk_at "s"
        refine ⟨sw, ?_⟩
        walk_at "s"
        refine ⟨sw, ?_⟩
        walk_at "s"
        refine ⟨hz.sz, ?_⟩
        rw [mkS_len]
        rw [show cutS z (some ((a : Int) + (w.length : Int))) (some ((a : Int) + (w.length : Int) + 1)) = mkS ((l.drop w.length).take 1) by
          rw [← el, List.drop_drop]
          exact cut1 z (a + w.length)]
        walk_at "v"
        rw [fl1 40 (by decide +kernel)]
        by_cases h1 : (l.drop w.length).head? = some 40
        · rw [decide_eq_true h1]
          rw [if_pos ⟨rfl, h1⟩] at h
          have hp : ((a + w.length + 1 : Nat) : Int) = ((z.length - (l.drop (w.length + 1)).length : Nat) : Int) := by
            have : 0 < (l.drop w.length).length := by
              cases e : l.drop w.length with
              | nil => rw [e] at h1; cases h1
              | cons c t => rw [List.length_cons]; omega
            rw [List.length_drop] at this ⊢
            congr 1
            omega
          walk_at "s"
          intro p hp1
          have h := h p hp1
          rw [← hp] at h
          walk_at "s"
          refine ⟨sw, ?_⟩
          walk_at "s"
          rw [mkS_len]
          exact h
        · rw [decide_eq_false h1]
          rw [if_neg (fun e => h1 e.2)] at h
          exact h
  · rintro ds L k x ⟨z, a, rfl, _⟩; rfl
theorem scContinued : FnScope ["text", "at", "frame", "value", "sign_z"] ["text", "at", "frame", "value"] (defScope sContinued) := ⟨rfl, rfl, rfl, by decide +kernel, rfl, by decide +kernel, by decide +kernel⟩
theorem ok_Continued {f : Addr} {fd : FuncData} (Z : Zn w K mg pS pT pW) (F : Fun K "continued" "continued" sContinued f fd) : FnOk P w K mg base (L2.CX P w) 1 f fd ["text", "at", "frame", "value"] (spD K contS) := by
  refine fn_ok F scContinued ?len (fun cdv A outer s H E hr => ?_)
  rotate_left
  · have tk := takes_of (X := cxOf (L2.CX P w) P w K mg base ["text", "at", "frame", "value", "sign_z"] "continued" (defScope sContinued) f cdv A outer s H E) (E := E) rfl rfl rfl rfl
    have hp := passes_of (X := cxOf (L2.CX P w) P w K mg base ["text", "at", "frame", "value", "sign_z"] "continued" (defScope sContinued) f cdv A outer s H E) rfl
    refine ⟨_, (ss_cons (s_if (t_cmp (oq_eqU hr.units) (q_ix (qv 2) q_int) q_str) (ss_cons (s_store (qv 3) (qv 2) q_int)
  (ss_one (s_ret (q_if (t_cmp (oq_eqU hr.units) (q_slice (qv 0) (o_some (qv 1)) (o_some (q_op oq_add (qv 1) q_int))) q_str) (q_op oq_add (qv 1) q_int) q_non)))) ss_nil)
  (ss_cons (s_set 4 scContinued.nd (q_slice (qv 0) (o_some (q_op oq_add (qv 1) q_int)) (o_some (q_op oq_add (qv 1) q_int))))
  (ss_cons (s_if (w_or (t_cmp (oq_neU hr.units) (q_slice (qv 0) (o_some (qv 1)) (o_some (q_op oq_add (qv 1) q_int))) q_str) (w_or (t_cmp (oq_neU hr.units) (q_slice (qv 0) (o_some (q_op oq_add (qv 1) q_int)) (o_some (q_op oq_add (qv 1) q_int))) q_str) (w_or1 (t_cmp (oq_notInKD Z.d_WORDS) (qv 4) (q_globD Z.g_WORDS (by rfl)))))).t (ss_one (s_ret q_non)) ss_nil)
  (ss_cons (s_store2 rfl (a_cons (q_ixKD Z.d_WORDS (q_globD Z.g_WORDS (by rfl)) (qv 4)) (a_cons (qv 3) a_nil)) (qv 2) q_int (qv 2) q_int)
  (ss_one (s_ret (q_op oq_add (qv 1) q_int))))))), ?_⟩
    clear tk hp
    rintro ds L k x ⟨z, a, p, f, v, rfl, ha, hz, hl, h⟩
    have hd := drop_len z ha
    generalize el : (tl z).drop a = l at h hd
    have hsq : seqs (con L (.ptr p)) = seqs f.d := by show seqs ((L.lookup p).getD _) = _; rw [hl]; rfl
    have hfd : ∃ d, f.d = .lst [.str f.w, .str f.n, d] := ⟨_, rfl⟩
    obtain ⟨d2, hfd⟩ := hfd
    have hin := inL_of_lookup hl
    rw [hfd] at hsq hl
    walk_at "w"
    rw [hsq]
    walk_at "v"
    by_cases hc : f.w = "call"
    · rw [show flEq (.str f.w) (.str "call") = true from decide_eq_true hc]
      walk_at "w"
      rw [hl]
      walk_at "w"
      refine ⟨hz.sz, ?_⟩
      rw [show cutS z (some (a : Int)) (some ((a : Int) + 2)) = mkS (((tl z).drop a).take 2) from cutM z a 2 _ rfl, el]
      walk_at "v"
      rw [flS [44, 32] (by decide +kernel)]
      unfold contL at h
      rw [if_pos hc] at h
      by_cases h2 : l.take 2 = [44, 32]
      · rw [decide_eq_true h2]
        rw [if_pos h2] at h
        have hp : ((a + 2 : Nat) : Int) = ((z.length - (l.drop 2).length : Nat) : Int) := by
          have := congrArg List.length h2
          rw [List.length_take] at this
          rw [List.length_drop]
          congr 1
          simp only [List.length_cons, List.length_nil] at this
          omega
        walk_at "w"
        have h : k (.int ((z.length - (l.drop 2).length : Nat) : Int)) (setL L p (.lst [.str f.w, .str f.n, v.d])) := h
        rw [← hp] at h
        exact h
      · rw [decide_eq_false h2]
        rw [if_neg h2] at h
        exact h _ (.inr ⟨_, rfl⟩)
    · rw [show flEq (.str f.w) (.str "call") = false from decide_eq_false hc]
      rw [contL_bin hc] at h
      walk_at "w"
      refine ⟨hz.sz, ?_⟩
      rw [show cutS z (some ((a : Int) + 1)) (some ((a : Int) + 2)) = mkS ((l.drop 1).take 1) by
        rw [← el, List.drop_drop]
        exact cut1 z (a + 1)]
      walk_at "w"
      refine ⟨hz.sz, ?_⟩
      rw [cut1, el]
      walk_at "v"
      rw [fl1 32 (by decide +kernel)]
      by_cases h1 : l.head? = some 32
      · rw [decide_eq_true h1]
        rw [if_pos h1] at h
        walk_at "w"
        refine ⟨hz.sz, ?_⟩
        rw [show cutS z (some ((a : Int) + 2)) (some ((a : Int) + 3)) = mkS ((l.drop 2).take 1) by
          rw [← el, List.drop_drop]
          exact cut1 z (a + 2)]
        walk_at "v"
        rw [fl1 32 (by decide +kernel)]
        by_cases h3 : (l.drop 2).head? = some 32
        · rw [decide_eq_true h3]
          rw [if_pos h3] at h
          walk_at "s"
          rw [word_look]
          cases hw : wordAt (l.drop 1) with
          | none =>
            rw [hw] at h
            exact h _ (.inl rfl)
          | some o =>
            rw [hw] at h
            have hp : ((a + 3 : Nat) : Int) = ((z.length - (l.drop 3).length : Nat) : Int) := by
              have : 0 < (l.drop 2).length := by
                cases e : l.drop 2 with
                | nil => rw [e] at h3; cases h3
                | cons c t => rw [List.length_cons]; omega
              rw [List.length_drop] at this ⊢
              congr 1
              omega
            walk_at "s"
            rw [word_look, hw]
            walk_at "w"
            rw [hl]
            walk_at "w"
            rw [lookup_setL hl]
            walk_at "w"
            rw [setL_setL]
            have h : k (.int ((z.length - (l.drop 3).length : Nat) : Int)) (setL L p (.lst [.str o, .str f.n, v.d])) := h
            rw [← hp] at h
            exact h
        · rw [decide_eq_false h3]
          rw [if_neg h3] at h
          exact h _ (.inl rfl)
      · rw [decide_eq_false h1]
        rw [if_neg h1] at h
        exact h _ (.inl rfl)
  · rintro ds L k x ⟨z, a, p, f, v, rfl, _⟩; rfl
end
end T25

namespace T25
open PySem L2 DL TL NumText
section
variable {P : Program} {w : World} {K : PySem.W.Frag} {mg : Str → Option Value} {base : Heap} {pS pT pW : Addr}
local macro_rules | `(tactic| walk_at "w") => `(tactic| conv => whnf)
local macro_rules | `(tactic| walk_at "v") => `(tactic| ((conv => whnf); try dsimp only))
local macro_rules | `(tactic| walk_at "s") => `(tactic| ((conv => whnf); repeat ((first | refine ⟨sz_ok rfl, ?_⟩ | refine ⟨rfl, ?_⟩); conv => whnf)))
theorem scReadExpression : FnScope ["text", "at", "frames", "begun", "leaf", "value", "late"] ["text", "at"] (defScope sReadExpression) := ⟨rfl, rfl, rfl, by decide +kernel, rfl, by decide +kernel, by decide +kernel⟩
theorem ok_ReadExpression {f : Addr} {fd : FuncData} (Z : Zn w K mg pS pT pW) (F : Fun K "read_expression" "read_expression" sReadExpression f fd) (COpened : Cal P w K mg base 2 "opened" ["text", "at"] [] openS) (CReadLeaf : Cal P w K mg base 2 "read_leaf" ["text", "at"] [] leafR) (CJoined : Cal P w K mg base 10 "joined" ["frame", "value"] [] joinS) (CContinued : Cal P w K mg base 1 "continued" ["text", "at", "frame", "value"] [] contS) : FnOk P w K mg base (L2.CX P w) 11 f fd ["text", "at"] (spD K rexR) := by
  refine fn_ok F scReadExpression ?len (fun cdv A outer s H E hr => ?_)
  rotate_left
  · have tk := takes_of (X := cxOf (L2.CX P w) P w K mg base ["text", "at", "frames", "begun", "leaf", "value", "late"] "read_expression" (defScope sReadExpression) f cdv A outer s H E) (E := E) rfl rfl rfl rfl
    have hp := passes_of (X := cxOf (L2.CX P w) P w K mg base ["text", "at", "frames", "begun", "leaf", "value", "late"] "read_expression" (defScope sReadExpression) f cdv A outer s H E) rfl
    refine ⟨_, (ss_cons (s_set 2 scReadExpression.nd (q_lstM a_nil))
  (ss_one (s_while hp (t_val q_bl) (ss_cons (s_set 3 scReadExpression.nd (q_cal COpened (by first | decide | exact Nat.le_refl _ | omega) hr tk (by rfl) (a_cons (qv 0) (a_cons (qv 1) a_nil))))
  (ss_cons (s_if (t_cmp oq_notN (qv 3) q_non) (ss_cons (s_expr (q_append (qv 2) (q_ix (qv 3) q_int)))
  (ss_cons (s_set 1 scReadExpression.nd (q_ix (qv 3) q_int))
  (ss_one s_cnt))) ss_nil)
  (ss_cons (s_set 4 scReadExpression.nd (q_cal CReadLeaf (by first | decide | exact Nat.le_refl _ | omega) hr tk (by rfl) (a_cons (qv 0) (a_cons (qv 1) a_nil))))
  (ss_cons (s_if (t_cmp oq_isN (qv 4) q_non) (ss_one (s_ret q_non)) ss_nil)
  (ss_cons (s_asg (qv 4) (g_tup (n := 2) rfl (gs_cons (g_name 5 scReadExpression.nd) (gs_cons (g_name 1 scReadExpression.nd) gs_nil))))
  (ss_cons (s_while hp (w_and (t_cmp (oq_neE hr.units) (qv 2) (q_lst a_nil)) (w_and1 (t_cmp oq_notN (q_ix (q_ix (qv 2) (q_neg q_int)) q_int) q_non))).t (ss_cons (s_if (t_cmp (oq_neU hr.units) (q_slice (qv 0) (o_some (qv 1)) (o_some (q_op oq_add (qv 1) q_int))) q_str) (ss_one (s_ret q_non)) ss_nil)
  (ss_one (s_par 5 1 rfl scReadExpression.nd (a_cons (q_cal CJoined (by first | decide | exact Nat.le_refl _ | omega) hr tk (by rfl) (a_cons (q_pop (qv 2)) (a_cons (qv 5) a_nil))) (a_cons (q_op oq_add (qv 1) q_int) a_nil))))))
  (ss_cons (s_if (t_cmp (oq_eqE hr.units) (qv 2) (q_lst a_nil)) (ss_one (s_ret (q_tup (a_cons (qv 5) (a_cons (qv 1) a_nil))))) ss_nil)
  (ss_cons (s_set 6 scReadExpression.nd (q_cal CContinued (by first | decide | exact Nat.le_refl _ | omega) hr tk (by rfl) (a_cons (qv 0) (a_cons (qv 1) (a_cons (q_ix (qv 2) (q_neg q_int)) (a_cons (qv 5) a_nil))))))
  (ss_cons (s_if (t_cmp oq_isN (qv 6) q_non) (ss_one (s_ret q_non)) ss_nil)
  (ss_one (s_set 1 scReadExpression.nd (qv 6))))))))))))))), ?_⟩
    clear tk hp
    rintro ds L k x ⟨z, a, rfl, ha, hz, h⟩
    generalize el : (tl z).drop a = l0 at h
    generalize hX : rdL (z.length + 1) [] l0 = X at h
    walk_at "s"
    intro P hP
    walk_at "w"
    refine whD_inv (fun m env L' => ∃ (a n : Nat) (l : List Nat) (ps : List Addr) (fs : List Frm) (o3 o4 o5 o6 : Option D), m = l.length ∧ l.length < n ∧ a ≤ z.length ∧ (tl z).drop a = l ∧ X = rdL n fs l ∧ FsL L L' P ps fs ∧ (∀ f ∈ fs, FrmOk f) ∧ ps.length + l.length ≤ z.length ∧ env = [some (.str z), some (.int a), some (.ptr P), o3, o4, o5, o6]) ?step ⟨a, z.length + 1, l0, [], [], none, none, none, none, rfl, ?_, ha, el, hX.symm, FsL.start hP, (fun f m => by cases m), ?_, rfl⟩
    rotate_left
    · rw [← el, drop_len z ha]; omega
    · rw [← el, drop_len z ha]; show 0 + _ ≤ _; omega
    clear ha el hX
    rintro E' m env L' hrt hex hbk hct ⟨a, n, l, ps, fs, o3, o4, o5, o6, rfl, hn, ha, el, hr, hF, hfs, hlen, rfl⟩ hnx
    obtain ⟨n, rfl⟩ : ∃ n', n = n' + 1 := ⟨n - 1, by omega⟩
    have z9 := hz.len
    have ct' : ∀ env L, E'.nx env L → E'.ct env L := fun _ _ h => by rw [hct]; exact h
    have rt' : ∀ d L, k d L → E'.rt d L := fun _ _ h => by rw [hrt]; exact h
    rw [rdL_succ] at hr
    walk_at "w"
    refine ⟨z, a, rfl, ha, hz, ?_⟩
    rw [el]
    cases ho : openL l with
    | some q =>
      obtain ⟨f, r⟩ := q
      rw [ho] at hr
      obtain ⟨o1, o2⟩ := openL_ok ho
      obtain ⟨m, hm⟩ := openL_suf ho
      obtain ⟨d1, d2, d3⟩ := drop_pos z el ha hm
      intro p hp
      walk_at "s"
      rw [lookup_ne (fun e => hp (by rw [← e]; exact inL_of_lookup hF.top)), hF.top]
      walk_at "w"
      rw [lookup_ne (fun e => hp (by rw [← e]; exact inL_of_lookup hF.top)), hF.top]
      walk_at "w"
      refine ⟨by rw [List.length_map, List.length_reverse]; exact Nat.lt_of_le_of_lt (show ps.length ≤ 90000 by omega) (by decide), ?_⟩
      walk_at "w"
      refine ct' _ _ (hnx r.length _ _ o2 ⟨z.length - r.length, n, r, p :: ps, f :: fs, _, _, _, _, rfl, by omega, d3, d2, hr, hF.push hp (keep_keys hF.keep), ?_, ?_, rfl⟩)
      · intro g m
        rcases List.mem_cons.mp m with e | m
        · subst e; exact o1
        · exact hfs g m
      · rw [List.length_cons]; omega
    | none =>
      rw [ho] at hr
      walk_at "s"
      refine ⟨z, a, rfl, ha, hz, ?_⟩
      rw [el]
      cases hl : leafL l with
      | none =>
        rw [hl] at hr
        subst hr
        walk_at "s"
        exact rt' _ _ (h _ hF.keep)
      | some q =>
      obtain ⟨v, r⟩ := q
      rw [hl] at hr
      obtain ⟨o1, o2⟩ := leafL_ok hl
      obtain ⟨m, hm⟩ := leafL_suf hl
      obtain ⟨d1, d2, d3⟩ := drop_pos z el ha hm
      have hr : X = (match closeL fs v r with
        | none => none
        | some ([], v', r') => some (v', r')
        | some (f :: fs', v', r') => match contL f v' r' with
          | none => none
          | some (f', r2) => rdL n (f' :: fs') r2) := hr
      walk_at "s"
      refine whD_inv (fun m env L2 => ∃ (a : Nat) (v : Fx) (l : List Nat) (ps : List Addr) (fs2 : List Frm) (o3 o4 o6 : Option D), m = ps.length ∧ a ≤ z.length ∧ (tl z).drop a = l ∧ l.length ≤ r.length ∧ v.sm ∧ X = (match closeL fs2 v l with
        | none => none
        | some ([], v', r') => some (v', r')
        | some (f :: fs', v', r') => match contL f v' r' with
          | none => none
          | some (f', r2) => rdL n (f' :: fs') r2) ∧ FsL L L2 P ps fs2 ∧ (∀ f ∈ fs2, FrmOk f) ∧ ps.length + l.length ≤ z.length ∧ env = [some (.str z), some (.int a), some (.ptr P), o3, o4, some v.d, o6]) ?turn ⟨z.length - r.length, v, r, ps, fs, _, _, _, rfl, d3, d2, Nat.le_refl _, o1, hr, hF, hfs, by omega, rfl⟩
      clear hr hF hfs hlen o1 d2 d3 d1 hm ho el ha hl
      rintro E2 m env L2 hrt2 hex2 hbk2 hct2 ⟨a, v, l1, ps, fs, o3, o4, o6, rfl, ha, el, hlr, hv, hr, hF, hfs, hlen, rfl⟩ hnx2
      walk_at "s"
      rw [show con L2 (.ptr P) = .lst (ps.reverse.map D.ptr) by show (L2.lookup P).getD _ = _; rw [hF.top]; rfl]
      cases hfs0 : fs with
      | nil =>
        subst hfs0
        have hps : ps = [] := by have := hF.all; cases this; rfl
        subst hps
        have hr : X = some (v, l1) := hr
        subst hr
        walk_at "s"
        rw [show con L2 (.ptr P) = .lst [] by show (L2.lookup P).getD _ = _; rw [hF.top]; rfl]
        walk_at "s"
        refine rt' _ _ ?_
        have hp := drop_pos z el ha (m := 0) rfl
        have hl1 := drop_len z ha
        rw [el] at hl1
        have h := h _ hF.keep
        rw [show ansD z (some (v, l1)) = .tup [v.d, .int ((z.length - l1.length : Nat) : Int)] from rfl, show z.length - l1.length = a by omega] at h
        exact h
      | cons f fr =>
        subst hfs0
        obtain ⟨p, pr, rfl⟩ : ∃ p pr, ps = p :: pr := by have := hF.all; cases this; exact ⟨_, _, rfl⟩
        have hlk := hF.look
        have hrev : (p :: pr).reverse.map D.ptr = pr.reverse.map D.ptr ++ [D.ptr p] := by rw [List.reverse_cons, List.map_append]; rfl
        have hseq : seqs (con L2 (.ptr P)) = some (pr.reverse.map D.ptr ++ [D.ptr p]) := by show seqs ((L2.lookup P).getD _) = _; rw [hF.top, hrev]; rfl
        have hsf : ∃ d2, f.d = .lst [.str f.w, .str f.n, d2] ∧ isNon d2 = f.v.isNone := by
          cases hv : f.v with
          | none => exact ⟨.non, by unfold Frm.d; rw [hv], rfl⟩
          | some a => exact ⟨a.d, by unfold Frm.d; rw [hv], a.notNon⟩
        obtain ⟨d2, hfd, hnon⟩ := hsf
        have hsp : seqs (con L2 (.ptr p)) = some [.str f.w, .str f.n, d2] := by show seqs ((L2.lookup p).getD _) = _; rw [hlk, hfd]; rfl
        walk_at "s"
        have hif : ∀ b : Bool, (if b = true then !(List.map D.ptr (p :: pr).reverse).isEmpty else (List.map D.ptr (p :: pr).reverse).isEmpty) = b := fun b => by rw [hrev]; cases b <;> simp
        rw [hif true]
        walk_at "w"
        rw [hseq]
        walk_at "w"
        rw [atI_last]
        walk_at "w"
        rw [hsp]
        walk_at "w"
        rw [hnon]
        cases hv2 : f.v with
        | none =>
          have hr : X = (match contL f v l1 with
            | none => none
            | some (f', r2) => rdL n (f' :: fr) r2) := by rw [hr]; unfold closeL; rw [hv2]
          walk_at "s"
          rw [show con L2 (.ptr P) = .lst ((p :: pr).reverse.map D.ptr) by show (L2.lookup P).getD _ = _; rw [hF.top]; rfl]
          walk_at "s"
          rw [hif false]
          walk_at "w"
          rw [hseq]
          walk_at "w"
          rw [atI_last]
          walk_at "w"
          refine ⟨z, a, p, f, v, rfl, ha, hz, hlk, ?_⟩
          rw [el]
          cases hc : contL f v l1 with
          | none =>
            rw [hc] at hr
            subst hr
            intro L3 hL3
            walk_at "s"
            refine rt' _ _ (h _ ?_)
            rcases hL3 with e | ⟨d, e⟩
            · rw [e]; exact hF.keep
            · have hnp : ¬ inL L p := by cases hF.all with | cons r _ => exact r.2.1
              rw [e, keep_set hnp]; exact hF.keep
          | some q =>
            obtain ⟨f', r2⟩ := q
            rw [hc] at hr
            obtain ⟨q1, q2⟩ := contL_ok hc (hfs f List.mem_cons_self) hv
            obtain ⟨m, hm⟩ := contL_suf hc
            obtain ⟨d1, d2', d3⟩ := drop_pos z el ha hm
            walk_at "s"
            have hn3 := hn
            refine hnx r2.length _ _ (by omega) ⟨z.length - r2.length, n, r2, p :: pr, f' :: fr, _, _, _, _, rfl, by omega, d3, d2', hr, hF.put, ?_, ?_, rfl⟩
            · intro g m
              rcases List.mem_cons.mp m with e | m
              · subst e; exact q1
              · exact hfs g (List.mem_cons_of_mem _ m)
            · omega
        | some a2 =>
          walk_at "w"
          refine ⟨hz.sz, ?_⟩
          rw [cut1, el]
          walk_at "v"
          rw [fl1 41 (by decide +kernel)]
          by_cases h41 : l1.head? = some 41
          · rw [decide_eq_true h41]
            walk_at "w"
            rw [hF.top, hrev]
            walk_at "w"
            rw [List.getLast?_concat, List.dropLast_concat]
            obtain ⟨F2, F3⟩ := hF.pop
            walk_at "w"
            refine ⟨p, f, a2, v, rfl, F3, hv2, hfs f List.mem_cons_self, hv, ?_⟩
            have hl1 := drop_len z ha
            rw [el] at hl1
            have l0 : 0 < l1.length := by
              cases l1 with
              | nil => cases h41
              | cons c t => rw [List.length_cons]; omega
            have hr : X = (match closeL fr (joinF f a2 v) (l1.drop 1) with
              | none => none
              | some ([], v', r') => some (v', r')
              | some (f :: fs', v', r') => match contL f v' r' with
                | none => none
                | some (f', r2) => rdL n (f' :: fs') r2) := by rw [hr]; unfold closeL; rw [hv2]; dsimp only; rw [if_pos h41]; cases fr <;> rfl
            walk_at "w"
            refine hnx2 pr.length _ _ (by rw [List.length_cons]; omega) ⟨a + 1, joinF f a2 v, l1.drop 1, pr, fr, _, _, _, rfl, by omega, by rw [← List.drop_drop, el], ?_, joinF_sm (hfs f List.mem_cons_self) hv2 hv, hr, F2, fun g m => hfs g (List.mem_cons_of_mem _ m), ?_, rfl⟩
            · rw [List.length_drop]; omega
            · rw [List.length_cons] at hlen
              rw [List.length_drop]; omega
          · rw [decide_eq_false h41]
            walk_at "w"
            have rt2' : ∀ d L, k d L → E2.rt d L := fun _ _ hh => by rw [hrt2]; exact rt' _ _ hh
            have hr : X = none := by rw [hr]; unfold closeL; rw [hv2]; dsimp only; rw [if_neg h41]
            subst hr
            exact rt2' _ _ (h _ hF.keep)
  · rintro ds L k x ⟨z, a, rfl, _⟩; rfl
end
end T25

namespace T25
open PySem L2 DL TL NumText
section
variable {P : Program} {w : World} {K : PySem.W.Frag} {mg : Str → Option Value} {base : Heap} {pS pT pW : Addr}
local macro_rules | `(tactic| walk_at "w") => `(tactic| conv => whnf)
local macro_rules | `(tactic| walk_at "v") => `(tactic| ((conv => whnf); try dsimp only))
local macro_rules | `(tactic| walk_at "s") => `(tactic| ((conv => whnf); repeat ((first | refine ⟨sz_ok rfl, ?_⟩ | refine ⟨rfl, ?_⟩); conv => whnf)))
theorem scReadWhole : FnScope ["text", "at", "found"] ["text", "at"] (defScope sReadWhole) := ⟨rfl, rfl, rfl, by decide +kernel, rfl, by decide +kernel, by decide +kernel⟩
theorem ok_ReadWhole {f : Addr} {fd : FuncData} (Z : Zn w K mg pS pT pW) (F : Fun K "read_whole" "read_whole" sReadWhole f fd) (CReadExpression : Cal P w K mg base 11 "read_expression" ["text", "at"] [] rexS) : FnOk P w K mg base (L2.CX P w) 12 f fd ["text", "at"] (spD K wholeS) := by
  refine fn_ok F scReadWhole ?len (fun cdv A outer s H E hr => ?_)
  rotate_left
  · have tk := takes_of (X := cxOf (L2.CX P w) P w K mg base ["text", "at", "found"] "read_whole" (defScope sReadWhole) f cdv A outer s H E) (E := E) rfl rfl rfl rfl
    have hp := passes_of (X := cxOf (L2.CX P w) P w K mg base ["text", "at", "found"] "read_whole" (defScope sReadWhole) f cdv A outer s H E) rfl
    refine ⟨_, (ss_cons (s_set 2 scReadWhole.nd (q_cal CReadExpression (by first | decide | exact Nat.le_refl _ | omega) hr tk (by rfl) (a_cons (qv 0) (a_cons (qv 1) a_nil))))
  (ss_one (s_ret (q_if (w_and (t_cmp oq_notN (qv 2) q_non) (w_and1 (t_cmp (oq_eqU hr.units) (q_ix (qv 2) q_int) (q_callB cq_len (by rfl) Z.z_len bb_len (a_cons (qv 0) a_nil))))).t (q_ix (qv 2) q_int) q_non)))), ?_⟩
    clear tk hp
    rintro ds L k x ⟨z, a, rfl, ha, hz, h⟩
    have hd := drop_len z ha
    walk_at "w"
    refine ⟨z, a, rfl, ha, hz, ?_⟩
    rw [rdA_of (by omega)]
    generalize (tl z).drop a = l at h hd
    unfold wholeL at h
    cases hr : rdA l with
    | none =>
      rw [hr] at h
      exact h
    | some q =>
      obtain ⟨v, r⟩ := q
      rw [hr] at h
      have hl := (rdA_ok hr).2
      have hlen := hz.len
      walk_at "s"
      refine ⟨hz.sz, ?_⟩
      walk_at "v"
      cases r with
      | nil =>
        rw [show flEq (.int ((z.length - ([] : List Nat).length : Nat) : Int)) (.int (z.length : Int)) = true from decide_eq_true (by rw [List.length_nil]; rfl)]
        exact h
      | cons c t =>
        rw [show flEq (.int ((z.length - (c :: t).length : Nat) : Int)) (.int (z.length : Int)) = false from decide_eq_false (by rw [List.length_cons] at hl ⊢; omega)]
        exact h
  · rintro ds L k x ⟨z, a, rfl, _⟩; rfl
theorem scReadTest : FnScope ["line", "first", "sign_z", "word", "second"] ["line"] (defScope sReadTest) := ⟨rfl, rfl, rfl, by decide +kernel, rfl, by decide +kernel, by decide +kernel⟩
theorem ok_ReadTest {f : Addr} {fd : FuncData} (Z : Zn w K mg pS pT pW) (F : Fun K "read_test" "read_test" sReadTest f fd) (CReadExpression : Cal P w K mg base 11 "read_expression" ["text", "at"] [] rexS) (CReadWhole : Cal P w K mg base 12 "read_whole" ["text", "at"] [] wholeS) : FnOk P w K mg base (L2.CX P w) 13 f fd ["line"] (spD K testS) := by
  refine fn_ok F scReadTest ?len (fun cdv A outer s H E hr => ?_)
  rotate_left
  · have tk := takes_of (X := cxOf (L2.CX P w) P w K mg base ["line", "first", "sign_z", "word", "second"] "read_test" (defScope sReadTest) f cdv A outer s H E) (E := E) rfl rfl rfl rfl
    have hp := passes_of (X := cxOf (L2.CX P w) P w K mg base ["line", "first", "sign_z", "word", "second"] "read_test" (defScope sReadTest) f cdv A outer s H E) rfl
    refine ⟨_, (ss_cons (s_set 1 scReadTest.nd (q_cal CReadExpression (by first | decide | exact Nat.le_refl _ | omega) hr tk (by rfl) (a_cons (qv 0) (a_cons q_int a_nil))))
  (ss_cons (s_if (t_cmp oq_isN (qv 1) q_non) (ss_one (s_ret q_non)) ss_nil)
  (ss_cons (s_for hp rfl (i_tup (q_globD Z.g_COMPARISONS (by rfl))) (g_tup (n := 2) rfl (gs_cons (g_name 2 scReadTest.nd) (gs_cons (g_name 3 scReadTest.nd) gs_nil))) (ss_one (s_if (t_val (q_starts (q_slice (qv 0) (o_some (q_ix (qv 1) q_int)) o_none) (qv 2))) (ss_cons (s_set 4 scReadTest.nd (q_cal CReadWhole (by first | decide | exact Nat.le_refl _ | omega) hr tk (by rfl) (a_cons (qv 0) (a_cons (q_op oq_add (q_ix (qv 1) q_int) (q_callB cq_len (by rfl) Z.z_len bb_len (a_cons (qv 2) a_nil))) a_nil))))
  (ss_one (s_ret (q_if (t_cmp oq_isN (qv 4) q_non) q_non (q_lst (a_cons q_str (a_cons (qv 3) (a_cons (q_ix (qv 1) q_int) (a_cons (qv 4) a_nil))))))))) ss_nil)))
  (ss_one (s_ret q_non))))), ?_⟩
    clear tk hp
    rintro ds L k x ⟨z, rfl, ha, hz, h⟩
    have hd := drop_len z ha
    walk_at "w"
    refine ⟨z, 3, rfl, ha, hz, ?_⟩
    rw [rdA_of (by omega)]
    unfold testL at h
    generalize el : (tl z).drop 3 = l at h hd
    cases hr : rdA l with
    | none =>
      rw [hr] at h
      exact h
    | some q =>
      obtain ⟨v, r⟩ := q
      rw [hr] at h
      have hl := (rdA_ok hr).2
      obtain ⟨m, hm⟩ := rdL_suf _ _ _ _ _ hr
      obtain ⟨d1, d2, d3⟩ := drop_pos z el ha hm
      have hcut : tl (cutS z (some ((z.length - r.length : Nat) : Int)) none) = r := by rw [cut_suf, d2]
      have h : k (itmD (testR v r)) L := h
      unfold testR at h
      walk_at "s"
      rw [forD_cons]
      walk_at "s"
      refine ⟨hz.sz, ?_⟩
      walk_at "w"
      rw [starts_pre _ " <= " (by decide +kernel), show tl (" <= " : Str) = [32, 60, 61, 32] by decide +kernel, hcut]
      by_cases hq1 : pre [32, 60, 61, 32] r = true
      · rw [hq1]
        rw [if_pos hq1] at h
        have hpl := pre_len hq1
        have hpl : 4 ≤ r.length := hpl
        walk_at "s"
        refine ⟨z, z.length - r.length + 4, rfl, by omega, hz, ?_⟩
        rw [← List.drop_drop, d2]
        cases hw : wholeL (r.drop 4) with
        | none => rw [hw] at h; walk_at "s"; exact h
        | some w =>
          rw [hw] at h
          walk_at "w"
          rw [w.notNon]
          walk_at "s"
          exact h
      rw [if_neg hq1] at h
      rw [(Bool.not_eq_true _).mp hq1]

      walk_at "s"
      rw [forD_cons]
      walk_at "s"
      refine ⟨hz.sz, ?_⟩
      walk_at "w"
      rw [starts_pre _ " < " (by decide +kernel), show tl (" < " : Str) = [32, 60, 32] by decide +kernel, hcut]
      by_cases hq2 : pre [32, 60, 32] r = true
      · rw [hq2]
        rw [if_pos hq2] at h
        have hpl := pre_len hq2
        have hpl : 3 ≤ r.length := hpl
        walk_at "s"
        refine ⟨z, z.length - r.length + 3, rfl, by omega, hz, ?_⟩
        rw [← List.drop_drop, d2]
        cases hw : wholeL (r.drop 3) with
        | none => rw [hw] at h; walk_at "s"; exact h
        | some w =>
          rw [hw] at h
          walk_at "w"
          rw [w.notNon]
          walk_at "s"
          exact h
      rw [if_neg hq2] at h
      rw [(Bool.not_eq_true _).mp hq2]

      walk_at "s"
      rw [forD_cons]
      walk_at "s"
      refine ⟨hz.sz, ?_⟩
      walk_at "w"
      rw [starts_pre _ " = " (by decide +kernel), show tl (" = " : Str) = [32, 61, 32] by decide +kernel, hcut]
      by_cases hq3 : pre [32, 61, 32] r = true
      · rw [hq3]
        rw [if_pos hq3] at h
        have hpl := pre_len hq3
        have hpl : 3 ≤ r.length := hpl
        walk_at "s"
        refine ⟨z, z.length - r.length + 3, rfl, by omega, hz, ?_⟩
        rw [← List.drop_drop, d2]
        cases hw : wholeL (r.drop 3) with
        | none => rw [hw] at h; walk_at "s"; exact h
        | some w =>
          rw [hw] at h
          walk_at "w"
          rw [w.notNon]
          walk_at "s"
          exact h
      rw [if_neg hq3] at h
      rw [(Bool.not_eq_true _).mp hq3]

      walk_at "s"
      rw [forD_nil]
      walk_at "s"
      exact h
  · rintro ds L k x ⟨z, rfl, _⟩; rfl
theorem scReadLine : FnScope ["line", "value", "name", "at", "leaf"] ["line"] (defScope sReadLine) := ⟨rfl, rfl, rfl, by decide +kernel, rfl, by decide +kernel, by decide +kernel⟩
theorem ok_ReadLine {f : Addr} {fd : FuncData} (Z : Zn w K mg pS pT pW) (F : Fun K "read_line" "read_line" sReadLine f fd) (CReadTest : Cal P w K mg base 13 "read_test" ["line"] [] testS) (CReadWhole : Cal P w K mg base 12 "read_whole" ["text", "at"] [] wholeS) (CRunOf : Cal P w K mg base 1 "run_of" ["text", "at", "signs"] [] runS) (CIsName : Cal P w K mg base 1 "is_name" ["value"] [] nameS) (CReadLeaf : Cal P w K mg base 2 "read_leaf" ["text", "at"] [] leafR) : FnOk P w K mg base (L2.CX P w) 14 f fd ["line"] (spD K lineS) := by
  refine fn_ok F scReadLine ?len (fun cdv A outer s H E hr => ?_)
  rotate_left
  · have tk := takes_of (X := cxOf (L2.CX P w) P w K mg base ["line", "value", "name", "at", "leaf"] "read_line" (defScope sReadLine) f cdv A outer s H E) (E := E) rfl rfl rfl rfl
    have hp := passes_of (X := cxOf (L2.CX P w) P w K mg base ["line", "value", "name", "at", "leaf"] "read_line" (defScope sReadLine) f cdv A outer s H E) rfl
    refine ⟨_, (ss_cons (s_if (t_val (q_starts (qv 0) q_str)) (ss_one (s_ret (q_cal CReadTest (by first | decide | exact Nat.le_refl _ | omega) hr tk (by rfl) (a_cons (qv 0) a_nil)))) ss_nil)
  (ss_cons (s_if (t_val (q_starts (qv 0) q_str)) (ss_cons (s_set 1 scReadLine.nd (q_cal CReadWhole (by first | decide | exact Nat.le_refl _ | omega) hr tk (by rfl) (a_cons (qv 0) (a_cons q_int a_nil))))
  (ss_one (s_ret (q_if (t_cmp oq_isN (qv 1) q_non) q_non (q_lst (a_cons q_str (a_cons (qv 1) a_nil))))))) ss_nil)
  (ss_cons (s_if (t_val (q_starts (qv 0) q_str)) (ss_cons (s_set 2 scReadLine.nd (q_cal CRunOf (by first | decide | exact Nat.le_refl _ | omega) hr tk (by rfl) (a_cons (qv 0) (a_cons q_int (a_cons (q_globD Z.g_LETTERS (by rfl)) a_nil)))))
  (ss_cons (s_set 3 scReadLine.nd (q_op oq_add q_int (q_callB cq_len (by rfl) Z.z_len bb_len (a_cons (qv 2) a_nil))))
  (ss_cons (s_set 1 scReadLine.nd (q_if (t_cmp (oq_eqU hr.units) (q_slice (qv 0) (o_some (qv 3)) (o_some (q_op oq_add (qv 3) q_int))) q_str) (q_cal CReadWhole (by first | decide | exact Nat.le_refl _ | omega) hr tk (by rfl) (a_cons (qv 0) (a_cons (q_op oq_add (qv 3) q_int) a_nil))) q_non))
  (ss_one (s_ret (q_if (w_and (t_val (q_cal CIsName (by first | decide | exact Nat.le_refl _ | omega) hr tk (by rfl) (a_cons (qv 2) a_nil))) (w_and1 (t_cmp oq_notN (qv 1) q_non))).t (q_lst (a_cons q_str (a_cons (qv 2) (a_cons (qv 1) a_nil)))) q_non)))))) ss_nil)
  (ss_cons (s_if (t_val (q_starts (qv 0) q_str)) (ss_cons (s_set 4 scReadLine.nd (q_cal CReadLeaf (by first | decide | exact Nat.le_refl _ | omega) hr tk (by rfl) (a_cons (qv 0) (a_cons q_int a_nil))))
  (ss_cons (s_if (w_or (t_cmp oq_isN (qv 4) q_non) (w_or (t_cmp (oq_neU hr.units) (q_ix (qv 4) q_int) (q_callB cq_len (by rfl) Z.z_len bb_len (a_cons (qv 0) a_nil))) (w_or1 (t_cmp oq_notInQ (q_ix (q_ix (qv 4) q_int) q_int) (q_tup (a_cons q_str (a_cons q_str a_nil))))))).t (ss_one (s_ret q_non)) ss_nil)
  (ss_one (s_ret (q_lst (a_cons q_str (a_cons (q_if (t_cmp (oq_eqU hr.units) (q_ix (q_ix (qv 4) q_int) q_int) q_str) (q_ix (q_ix (qv 4) q_int) q_int) (q_neg q_int)) a_nil))))))) ss_nil)
  (ss_one (s_ret q_non)))))), ?_⟩
    clear tk hp
    rintro ds L k x ⟨z, rfl, hz, h⟩
    have zl : z.length = (tl z).length := len_tl z
    unfold lineL at h
    walk_at "w"
    rw [starts_pre _ "if " (by decide +kernel), show tl ("if " : Str) = ifP by decide +kernel]
    by_cases p1 : pre ifP (tl z) = true
    · rw [p1]
      rw [if_pos p1] at h
      have hl : 3 ≤ (tl z).length := pre_len p1
      walk_at "w"
      exact ⟨z, rfl, by omega, hz, h⟩
    rw [if_neg p1] at h
    rw [(Bool.not_eq_true _).mp p1]
    walk_at "w"
    rw [starts_pre _ "stop " (by decide +kernel), show tl ("stop " : Str) = stopP by decide +kernel]
    by_cases p2 : pre stopP (tl z) = true
    · rw [p2]
      rw [if_pos p2] at h
      have hl : 5 ≤ (tl z).length := pre_len p2
      walk_at "w"
      refine ⟨z, 5, rfl, by omega, hz, ?_⟩
      cases hw : wholeL ((tl z).drop 5) with
      | none => rw [hw] at h; walk_at "s"; exact h
      | some w =>
        rw [hw] at h
        walk_at "w"
        rw [w.notNon]
        walk_at "s"
        exact h
    rw [if_neg p2] at h
    rw [(Bool.not_eq_true _).mp p2]
    walk_at "w"
    rw [starts_pre _ "let " (by decide +kernel), show tl ("let " : Str) = letP by decide +kernel]
    by_cases p3 : pre letP (tl z) = true
    · rw [p3]
      rw [if_pos p3] at h
      have hl : 4 ≤ (tl z).length := pre_len p3
      unfold letL at h
      dsimp only at h
      walk_at "s"
      refine ⟨z, letters, 4, rfl, by omega, hz.len, ?_⟩
      rw [show (fun c => decide (c ∈ tl letters)) = letB from rfl]
      have hd := drop_len z (show 4 ≤ z.length by omega)
      have hwl : (((tl z).drop 4).takeWhile letB).length ≤ ((tl z).drop 4).length := List.IsPrefix.length_le (List.takeWhile_prefix _)
      generalize ((tl z).drop 4).takeWhile letB = w at h hwl ⊢
      have z9 := hz.len
      have hw9 : w.length ≤ 90000 := by omega
      have sw : (mkS w).length ≤ sizeLine := by rw [mkS_len]; exact Nat.le_trans hw9 (by decide)
      walk_at "w"
      refine ⟨sw, ?_⟩
      walk_at "w"
      refine ⟨hz.sz, ?_⟩
      rw [mkS_len]
      rw [show cutS z (some ((4 : Int) + (w.length : Int))) (some ((4 : Int) + (w.length : Int) + 3)) = mkS ((((tl z).drop 4).drop w.length).take 3) by
        rw [List.drop_drop]
        exact cutM z (4 + w.length) 3 _ rfl]
      walk_at "v"
      rw [flS [32, 61, 32] (by decide +kernel)]
      by_cases q1 : (((tl z).drop 4).drop w.length).take 3 = [32, 61, 32]
      · rw [decide_eq_true q1]
        rw [if_pos q1] at h
        have hq := congrArg List.length q1
        rw [List.length_take, List.length_drop] at hq
        have hq : min 3 (((tl z).drop 4).length - w.length) = 3 := hq
        walk_at "w"
        refine ⟨z, 4 + w.length + 3, rfl, by omega, hz, ?_⟩
        rw [show (tl z).drop (4 + w.length + 3) = (((tl z).drop 4).drop w.length).drop 3 by rw [List.drop_drop, List.drop_drop, Nat.add_assoc]]
        cases hw : wholeL ((((tl z).drop 4).drop w.length).drop 3) with
        | none =>
          rw [hw] at h
          walk_at "w"
          refine ⟨.str (mkS w), rfl, by unfold okW; exact decide_eq_true (by rw [mkS_len]; omega), ?_⟩
          rw [show isNameD (.str (mkS w)) = nameOk (mkS w) from rfl]
          cases nameOk (mkS w) with
          | true => walk_at "s"; exact h
          | false => walk_at "s"; exact h
        | some v =>
          rw [hw] at h
          walk_at "w"
          refine ⟨.str (mkS w), rfl, by unfold okW; exact decide_eq_true (by rw [mkS_len]; omega), ?_⟩
          rw [show isNameD (.str (mkS w)) = nameOk (mkS w) from rfl]
          cases hn : nameOk (mkS w) with
          | true =>
            rw [hn] at h
            walk_at "w"
            rw [v.notNon]
            walk_at "s"
            exact h
          | false => rw [hn] at h; walk_at "s"; exact h
      · rw [decide_eq_false q1]
        rw [if_neg q1] at h
        walk_at "w"
        refine ⟨.str (mkS w), rfl, by unfold okW; exact decide_eq_true (by rw [mkS_len]; omega), ?_⟩
        rw [show isNameD (.str (mkS w)) = nameOk (mkS w) from rfl]
        cases nameOk (mkS w) with
        | true => walk_at "s"; exact h
        | false => walk_at "s"; exact h
    rw [if_neg p3] at h
    rw [(Bool.not_eq_true _).mp p3]
    walk_at "w"
    rw [starts_pre _ "repeat " (by decide +kernel), show tl ("repeat " : Str) = repP by decide +kernel]
    by_cases p4 : pre repP (tl z) = true
    · rw [p4]
      rw [if_pos p4] at h
      have hl : 7 ≤ (tl z).length := pre_len p4
      have hd := drop_len z (show 7 ≤ z.length by omega)
      unfold repL at h
      walk_at "w"
      refine ⟨z, 7, rfl, by omega, hz, ?_⟩
      cases hr : leafL ((tl z).drop 7) with
      | none => rw [hr] at h; walk_at "s"; exact h
      | some q =>
        obtain ⟨v, r⟩ := q
        rw [hr] at h
        have hlt := (leafL_ok hr).2
        walk_at "s"
        refine ⟨hz.sz, ?_⟩
        walk_at "v"
        cases r with
        | cons c t =>
          rw [show flEq (.int ((z.length - (c :: t).length : Nat) : Int)) (.int (z.length : Int)) = false from decide_eq_false (by rw [List.length_cons] at hlt ⊢; omega)]
          cases v <;> exact h
        | nil =>
          rw [show flEq (.int ((z.length - ([] : List Nat).length : Nat) : Int)) (.int (z.length : Int)) = true from decide_eq_true (by rw [List.length_nil]; rfl)]
          have hv := (leafL_ok hr).1
          cases v with
          | deep => walk_at "s"; exact h
          | num n => walk_at "s"; exact h
          | lx => walk_at "s"; exact h
          | ly => walk_at "s"; exact h
          | nm z => walk_at "s"; exact h
          | call f a b => walk_at "s"; exact h
          | bin o a b =>
            have ho : o ∈ (["add", "sub", "mul", "div"] : List Str) := by cases hv.1 with | bin h _ _ => exact h
            simp only [List.mem_cons, List.not_mem_nil, or_false] at ho
            rcases ho with rfl | rfl | rfl | rfl <;> (walk_at "s"; exact h)
    rw [if_neg p4] at h
    rw [(Bool.not_eq_true _).mp p4]
    walk_at "w"
    exact h
  · rintro ds L k x ⟨z, rfl, _⟩; rfl
theorem scClosed : FnScope ["frame", "items"] ["frame"] (defScope sClosed) := ⟨rfl, rfl, rfl, by decide +kernel, rfl, by decide +kernel, by decide +kernel⟩
theorem ok_Closed {f : Addr} {fd : FuncData} (Z : Zn w K mg pS pT pW) (F : Fun K "closed" "closed" sClosed f fd) : FnOk P w K mg base (L2.CX P w) 1 f fd ["frame"] (spD K closedR) := by
  refine fn_ok F scClosed ?len (fun cdv A outer s H E hr => ?_)
  rotate_left
  · have tk := takes_of (X := cxOf (L2.CX P w) P w K mg base ["frame", "items"] "closed" (defScope sClosed) f cdv A outer s H E) (E := E) rfl rfl rfl rfl
    have hp := passes_of (X := cxOf (L2.CX P w) P w K mg base ["frame", "items"] "closed" (defScope sClosed) f cdv A outer s H E) rfl
    refine ⟨_, (ss_cons (s_set 1 scClosed.nd (q_addM (q_ix (qv 0) q_int) (q_lst (a_cons (q_callTy cq_tuple (by rfl) Z.z_tuple bb_tuple (a_cons (q_ix (qv 0) q_int) a_nil)) a_nil))))
  (ss_cons (s_if (t_cmp (oq_eqU hr.units) (q_ix (q_ix (qv 0) q_int) q_int) q_str) (ss_one (s_expr (q_append (qv 1) (q_if (t_cmp oq_isN (q_ix (qv 0) q_int) q_non) (q_tup a_nil) (q_callTy cq_tuple (by rfl) Z.z_tuple bb_tuple (a_cons (q_ix (qv 0) q_int) a_nil)))))) ss_nil)
  (ss_one (s_ret (q_callTy cq_tuple (by rfl) Z.z_tuple bb_tuple (a_cons (qv 1) a_nil)))))), ?_⟩
    clear tk hp
    rintro ds L k x ⟨L0, fa, m, rfl, hb, ⟨z0, r0, hi, hr⟩, h⟩
    have hsq : seqs (con L (.ptr fa.q)) = some [.lst m.items, .ptr fa.b, match fa.c with | some c => .ptr c | none => .non] := by show seqs ((L.lookup fa.q).getD _) = _; rw [hb.q]; rfl
    have hin := hb.inl
    have hqi := hin fa.q List.mem_cons_self
    have hbi := hin fa.b (List.mem_cons_of_mem _ List.mem_cons_self)
    walk_at "w"
    rw [hsq]
    walk_at "w"
    rw [hsq]
    walk_at "w"
    rw [show con L (.ptr fa.b) = .lst m.blk by show (L.lookup fa.b).getD _ = _; rw [hb.b]; rfl]
    walk_at "s"
    refine ⟨by rw [hi]; show r0.length + 1 + 1 ≤ sizeLine; exact Nat.le_trans (show r0.length + 1 + 1 ≤ 7 by omega) (by decide), fun p hp => ?_⟩
    have qp : ∀ a, inL L a → a ≠ p := fun a ha e => hp (e ▸ ha)
    have hsq2 : ∀ d, seqs (con ((p, d) :: L) (.ptr fa.q)) = some [.lst m.items, .ptr fa.b, match fa.c with | some c => .ptr c | none => .non] := fun d => by show seqs ((List.lookup fa.q ((p, d) :: L)).getD _) = _; rw [lookup_ne (qp _ hqi), hb.q]; rfl
    have hkp : ∀ d, keepL L ((p, d) :: L) = L := fun d => by rw [keep_out hp]; exact keep_same rfl
    have h := fun d => h _ (hkp d)
    have hcd : closeD m = .tup ((.str z0 :: r0) ++ [.tup m.blk] ++ if decide (z0 = "if") = true then [.tup (m.els.getD [])] else []) := by simp only [closeD, isIf, hi]
    rw [hcd] at h
    rw [hi] at hsq2 ⊢
    walk_at "s"
    rw [hsq2]
    walk_at "w"
    rw [atI_zero]
    walk_at "v"
    have sl : ∀ n : Nat, n ≤ 9 → n < sizeLine := fun n hn => Nat.lt_of_le_of_lt hn (by decide)
    have hlk : ∀ d, List.lookup p ((p, d) :: L) = some d := fun d => lookup_top
    cases hz0 : flEq (.str z0) (.str "if") with
    | false =>
      have hz1 : z0 ≠ "if" := of_decide_eq_false hz0
      walk_at "w"
      rw [show con ((p, D.lst ((.str z0 :: r0) ++ [.tup m.blk])) :: L) (.ptr p) = .lst ((.str z0 :: r0) ++ [.tup m.blk]) by show (List.lookup p _).getD _ = _; rw [lookup_top]; rfl]
      walk_at "w"
      have h := h (D.lst ((.str z0 :: r0) ++ [.tup m.blk]))
      rw [decide_eq_false hz1, if_neg Bool.false_ne_true, List.append_nil] at h
      exact h
    | true =>
      have hz1 : z0 = "if" := of_decide_eq_true hz0
      have h := fun d => (by have h := h d; rw [decide_eq_true hz1, if_pos rfl] at h; exact h : k (.tup ((.str z0 :: r0) ++ [.tup m.blk] ++ [.tup (m.els.getD [])])) ((p, d) :: L))
      walk_at "w"
      rw [hlk]
      walk_at "w"
      rw [hsq2]
      have hc := hb.c
      cases ec : fa.c with
      | none =>
        rw [ec] at hc
        have he : m.els = none := by
          cases e2 : m.els with
          | none => rfl
          | some x => rw [e2] at hc; exact hc.elim
        walk_at "s"
        rw [hlk]
        walk_at "w"
        refine ⟨sl _ (by rw [List.length_append]; show (r0.length + 1) + 1 ≤ 9; omega), ?_⟩
        rw [setL_top hp]
        walk_at "w"
        rw [show ∀ d, con ((p, d) :: L) (.ptr p) = d from fun d => by show (List.lookup p _).getD _ = _; rw [lookup_top]; rfl]
        walk_at "w"
        rw [he] at h
        exact h _
      | some c =>
        rw [ec] at hc
        obtain ⟨e, he⟩ : ∃ e, m.els = some e := by
          cases e2 : m.els with
          | none => rw [e2] at hc; exact hc.elim
          | some x => exact ⟨x, rfl⟩
        rw [he] at hc h
        have hc : L.lookup c = some (.lst e) := hc
        walk_at "w"
        rw [hsq2, ec]
        walk_at "w"
        rw [show con ((p, D.lst ((.str z0 :: r0) ++ [.tup m.blk])) :: L) (.ptr c) = .lst e by show (List.lookup c _).getD _ = _; rw [lookup_ne (qp _ (inL_of_lookup hc)), hc]; rfl]
        walk_at "w"
        rw [hlk]
        walk_at "w"
        refine ⟨sl _ (by rw [List.length_append]; show (r0.length + 1) + 1 ≤ 9; omega), ?_⟩
        rw [setL_top hp]
        walk_at "w"
        rw [show ∀ d, con ((p, d) :: L) (.ptr p) = d from fun d => by show (List.lookup p _).getD _ = _; rw [lookup_top]; rfl]
        walk_at "w"
        exact h _
  · rintro ds L k x ⟨L0, fa, m, rfl, _⟩; rfl
theorem scBlockIn : FnScope ["frames"] ["frames"] (defScope sBlockIn) := ⟨rfl, rfl, rfl, by decide +kernel, rfl, by decide +kernel, by decide +kernel⟩
theorem ok_BlockIn {f : Addr} {fd : FuncData} (Z : Zn w K mg pS pT pW) (F : Fun K "block_in" "block_in" sBlockIn f fd) : FnOk P w K mg base (L2.CX P w) 1 f fd ["frames"] (spD K blockInS) := by
  refine fn_ok F scBlockIn ?len (fun cdv A outer s H E hr => ?_)
  rotate_left
  · have tk := takes_of (X := cxOf (L2.CX P w) P w K mg base ["frames"] "block_in" (defScope sBlockIn) f cdv A outer s H E) (E := E) rfl rfl rfl rfl
    have hp := passes_of (X := cxOf (L2.CX P w) P w K mg base ["frames"] "block_in" (defScope sBlockIn) f cdv A outer s H E) rfl
    refine ⟨_, (ss_one (s_ret (q_if (t_cmp oq_isN (q_ix (q_ix (qv 0) (q_neg q_int)) q_int) q_non) (q_ix (q_ix (qv 0) (q_neg q_int)) q_int) (q_ix (q_ix (qv 0) (q_neg q_int)) q_int)))), ?_⟩
    clear tk hp
    rintro ds L k x ⟨L0, P, fa, fas, m, ms, rfl, hF, h⟩
    have hrev : (fa :: fas).reverse.map (fun fa => D.ptr fa.q) = fas.reverse.map (fun fa => D.ptr fa.q) ++ [D.ptr fa.q] := by rw [List.reverse_cons, List.map_append]; rfl
    have hseq : seqs (con L (.ptr P)) = some (fas.reverse.map (fun fa => D.ptr fa.q) ++ [D.ptr fa.q]) := by show seqs ((L.lookup P).getD _) = _; rw [hF.top, hrev]; rfl
    have hb : BlkAt L0 L fa m := by cases hF.all with | cons r _ => exact r
    have hsq : seqs (con L (.ptr fa.q)) = some [.lst m.items, .ptr fa.b, match fa.c with | some c => .ptr c | none => .non] := by show seqs ((L.lookup fa.q).getD _) = _; rw [hb.q]; rfl
    walk_at "w"
    rw [hseq]
    walk_at "w"
    rw [atI_last]
    walk_at "w"
    rw [hsq]
    unfold FA.cur at h
    cases hc : fa.c with
    | none =>
      rw [hc] at h
      walk_at "w"
      rw [hseq]
      walk_at "w"
      rw [atI_last]
      walk_at "w"
      rw [hsq]
      walk_at "s"
      exact h
    | some c =>
      rw [hc] at h
      walk_at "w"
      rw [hseq]
      walk_at "w"
      rw [atI_last]
      walk_at "w"
      rw [hsq, hc]
      walk_at "s"
      exact h
  · rintro ds L k x ⟨L0, P, fa, fas, m, ms, rfl, _⟩; rfl
end
end T25

namespace T25
open PySem L2 DL TL NumText
section
variable {P : Program} {w : World} {K : PySem.W.Frag} {mg : Str → Option Value} {base : Heap} {pS pT pW : Addr}
local macro_rules | `(tactic| walk_at "w") => `(tactic| conv => whnf)
local macro_rules | `(tactic| walk_at "v") => `(tactic| ((conv => whnf); try dsimp only))
local macro_rules | `(tactic| walk_at "s") => `(tactic| ((conv => whnf); repeat ((first | refine ⟨sz_ok rfl, ?_⟩ | refine ⟨rfl, ?_⟩); conv => whnf)))
theorem scTakeLine : FnScope ["frames", "line", "top", "items"] ["frames", "line"] (defScope sTakeLine) := ⟨rfl, rfl, rfl, by decide +kernel, rfl, by decide +kernel, by decide +kernel⟩
theorem ok_TakeLine {f : Addr} {fd : FuncData} (Z : Zn w K mg pS pT pW) (F : Fun K "take_line" "take_line" sTakeLine f fd) (CReadLine : Cal P w K mg base 14 "read_line" ["line"] [] lineS) (CClosed : Cal P w K mg base 1 "closed" ["frame"] [] closedS) (CBlockIn : Cal P w K mg base 1 "block_in" ["frames"] [] blockInS) : FnOk P w K mg base (L2.CX P w) 15 f fd ["frames", "line"] (spD K takeS) := by
  refine fn_ok F scTakeLine ?len (fun cdv A outer s H E hr => ?_)
  rotate_left
  · have tk := takes_of (X := cxOf (L2.CX P w) P w K mg base ["frames", "line", "top", "items"] "take_line" (defScope sTakeLine) f cdv A outer s H E) (E := E) rfl rfl rfl rfl
    have hp := passes_of (X := cxOf (L2.CX P w) P w K mg base ["frames", "line", "top", "items"] "take_line" (defScope sTakeLine) f cdv A outer s H E) rfl
    refine ⟨_, (ss_cons (s_set 2 scTakeLine.nd (q_ix (qv 0) (q_neg q_int)))
  (ss_cons (s_if (t_cmp (oq_eqU hr.units) (qv 1) q_str) (ss_cons (s_if (w_or (t_cmp oq_lt (q_callB cq_len (by rfl) Z.z_len bb_len (a_cons (qv 0) a_nil)) q_int) (w_or (t_cmp (oq_neU hr.units) (q_ix (q_ix (qv 2) q_int) q_int) q_str) (w_or1 (t_cmp oq_notN (q_ix (qv 2) q_int) q_non)))).t (ss_one (s_ret q_bl)) ss_nil)
  (ss_cons (s_store (q_lstM a_nil) (qv 2) q_int)
  (ss_one (s_ret q_bl)))) ss_nil)
  (ss_cons (s_if (t_cmp (oq_eqU hr.units) (qv 1) q_str) (ss_cons (s_if (w_or (t_cmp oq_lt (q_callB cq_len (by rfl) Z.z_len bb_len (a_cons (qv 0) a_nil)) q_int) (w_or1 (t_cmp (oq_eqE hr.units) (q_ix (qv 2) q_int) (q_lst a_nil)))).t (ss_one (s_ret q_bl)) ss_nil)
  (ss_cons (s_expr (q_pop (qv 0)))
  (ss_cons (s_expr (q_append (q_cal CBlockIn (by first | decide | exact Nat.le_refl _ | omega) hr tk (by rfl) (a_cons (qv 0) a_nil)) (q_cal CClosed (by first | decide | exact Nat.le_refl _ | omega) hr tk (by rfl) (a_cons (qv 2) a_nil))))
  (ss_one (s_ret q_bl))))) ss_nil)
  (ss_cons (s_set 3 scTakeLine.nd (q_cal CReadLine (by first | decide | exact Nat.le_refl _ | omega) hr tk (by rfl) (a_cons (qv 1) a_nil)))
  (ss_cons (s_if (t_cmp oq_isN (qv 3) q_non) (ss_one (s_ret q_bl)) ss_nil)
  (ss_cons (s_if (t_cmp oq_inQ (q_ix (qv 3) q_int) (q_tup (a_cons q_str (a_cons q_str a_nil)))) (ss_one (s_expr (q_append (qv 0) (q_lstM (a_cons (qv 3) (a_cons (q_lstM a_nil) (a_cons q_non a_nil))))))) (ss_one (s_expr (q_append (q_cal CBlockIn (by first | decide | exact Nat.le_refl _ | omega) hr tk (by rfl) (a_cons (qv 0) a_nil)) (q_callTy cq_tuple (by rfl) Z.z_tuple bb_tuple (a_cons (qv 3) a_nil))))))
  (ss_one (s_ret q_bl)))))))), ?_⟩
    clear tk hp
    rintro ds L k x ⟨L0, P, z, fas, ms, N, rfl, hF, hz, hs, hN, hne, h⟩
    cases ms with
    | nil => exact absurd rfl hne
    | cons m mr =>
    obtain ⟨fa, fr, rfl⟩ : ∃ fa fr, fas = fa :: fr := by have := hF.all; cases this; exact ⟨_, _, rfl⟩
    have hrev : (fa :: fr).reverse.map (fun fa => D.ptr fa.q) = fr.reverse.map (fun fa => D.ptr fa.q) ++ [D.ptr fa.q] := by rw [List.reverse_cons, List.map_append]; rfl
    have hseq : seqs (con L (.ptr P)) = some (fr.reverse.map (fun fa => D.ptr fa.q) ++ [D.ptr fa.q]) := by show seqs ((L.lookup P).getD _) = _; rw [hF.top, hrev]; rfl
    have hb : BlkAt L0 L fa m := by cases hF.all with | cons r _ => exact r
    have hsq : seqs (con L (.ptr fa.q)) = some [.lst m.items, .ptr fa.b, match fa.c with | some c => .ptr c | none => .non] := by show seqs ((L.lookup fa.q).getD _) = _; rw [hb.q]; rfl
    obtain ⟨z0, r0, hi, hr⟩ := hs.it m List.mem_cons_self
    have hlen : fr.length = mr.length := by
      cases hF.all with
      | cons _ t => exact pairedLen t
    have hl2 : decide ((((fr.reverse.map (fun fa => D.ptr fa.q) ++ [D.ptr fa.q]).length : Nat) : Int) < 2) = mr.isEmpty := by
      rw [List.length_append, List.length_map, List.length_reverse, hlen]
      cases mr with
      | nil => rfl
      | cons _ _ => exact decide_eq_false (by rw [List.length_cons]; simp; omega)
    rw [takeM_cons] at h
    have hll : lenD L (.ptr P) = some (fr.reverse.map (fun fa => D.ptr fa.q) ++ [D.ptr fa.q]).length := by unfold lenD; rw [hseq]
    walk_at "w"
    rw [hseq]
    walk_at "w"
    rw [atI_last]
    walk_at "v"
    rw [flS (l := tl z) elseP (by decide +kernel)]
    by_cases e1 : tl z = elseP
    · rw [decide_eq_true e1]
      rw [if_pos e1] at h
      walk_at "w"
      rw [hll]
      walk_at "v"
      rw [hl2]
      cases hme : mr.isEmpty with
      | true =>
        rw [if_neg (fun q => by rw [hme] at q; exact Bool.noConfusion q.1)] at h
        walk_at "s"
        exact h _ hF.keep
      | false =>
        walk_at "w"
        rw [hsq]
        walk_at "v"
        rw [hi, atI_zero]
        walk_at "v"
        have hif : isIf m = flEq (.str z0) (.str "if") := by unfold isIf; rw [hi]; rfl
        cases hz0 : flEq (.str z0) (.str "if") with
        | false =>
          rw [hz0] at hif
          rw [if_neg (fun q => by rw [hif] at q; exact Bool.noConfusion q.2.1)] at h
          walk_at "s"
          exact h _ hF.keep
        | true =>
        rw [hz0] at hif
        walk_at "w"
        rw [hsq]
        walk_at "w"
        have hc := hb.c
        cases ec : fa.c with
        | some c =>
          rw [ec] at hc
          obtain ⟨e, he⟩ : ∃ e, m.els = some e := by
            cases e2 : m.els with
            | none => rw [e2] at hc; exact hc.elim
            | some x => exact ⟨x, rfl⟩
          rw [if_neg (fun q => by rw [he] at q; exact Bool.noConfusion q.2.2)] at h
          walk_at "s"
          exact h _ hF.keep
        | none =>
          rw [ec] at hc
          have he : m.els = none := by
            cases e2 : m.els with
            | none => rfl
            | some x => rw [e2] at hc; exact hc.elim
          rw [if_pos ⟨hme, hif, by rw [he]; rfl⟩] at h
          walk_at "s"
          intro c hcn
          obtain ⟨fa', _, hF'⟩ := hF.els hcn he
          have hbq := hb.q
          unfold FA.d at hbq
          rw [ec] at hbq
          walk_at "w"
          rw [lookup_ne (fun e => hcn (by rw [← e]; exact inL_of_lookup hb.q)), hbq]
          walk_at "w"
          exact h _ _ hF'
    rw [decide_eq_false e1]
    rw [if_neg e1] at h
    walk_at "v"
    rw [flS (l := tl z) endP (by decide +kernel)]
    by_cases e2 : tl z = endP
    · rw [decide_eq_true e2]
      rw [if_pos e2] at h
      walk_at "w"
      rw [hll]
      walk_at "v"
      rw [hl2]
      cases mr with
      | nil =>
        walk_at "s"
        exact h _ hF.keep
      | cons u mr =>
      obtain ⟨fu, fr, rfl⟩ : ∃ fu fr', fr = fu :: fr' := by
        cases fr with
        | nil => cases hlen
        | cons a b => exact ⟨a, b, rfl⟩
      obtain ⟨F2, B2⟩ := hF.pop
      have bu : BlkAt L0 (setL L P (.lst ((fu :: fr).reverse.map fun fa => D.ptr fa.q))) fu u := by cases F2.all with | cons r _ => exact r
      have hun : u.cur.length < sizeLine := by
        have := hs.bl u (List.mem_cons_of_mem _ List.mem_cons_self)
        refine Nat.lt_of_le_of_lt (show u.cur.length ≤ 90000 from ?_) (by decide)
        unfold Blk.cur
        cases e3 : u.els with
        | none => exact Nat.le_trans this.1 hN
        | some x => rw [e3] at this; exact Nat.le_trans this.2 hN
      have fin : ∀ b : Bool, noEls m.els = b → (match b with | true => k (.bl false) L | false => k (.bl true) (setL (setL L P (.lst ((fu :: fr).reverse.map fun fa => D.ptr fa.q))) fu.cur (.lst (u.cur ++ [closeD m])))) := fun b hb => by
        cases b with
        | true =>
          have h : (match (if noEls m.els = true then none else some (putB u (closeD m) :: mr)) with | none => ∀ L', keepL L0 L' = L0 → k (.bl false) L' | some ms' => ∀ L' fas', BsL L0 L' P fas' ms' → k (.bl true) L') := h
          rw [if_pos hb] at h
          exact h _ hF.keep
        | false =>
          have h : (match (if noEls m.els = true then none else some (putB u (closeD m) :: mr)) with | none => ∀ L', keepL L0 L' = L0 → k (.bl false) L' | some ms' => ∀ L' fas', BsL L0 L' P fas' ms' → k (.bl true) L') := h
          rw [if_neg (by rw [hb]; exact Bool.false_ne_true)] at h
          exact h _ _ F2.stm
      walk_at "w"
      rw [hsq]
      have hc := hb.c
      cases ec : fa.c with
      | none =>
        rw [ec] at hc
        have he : m.els = none := by
          cases e3 : m.els with
          | none => rfl
          | some x => rw [e3] at hc; exact hc.elim
        have fin := fin false (by rw [he]; rfl)
        walk_at "s"
        rw [hF.top, hrev]
        walk_at "w"
        rw [List.getLast?_concat, List.dropLast_concat]
        walk_at "w"
        refine ⟨L0, P, fu, fr, u, mr, rfl, F2, ?_⟩
        walk_at "w"
        rw [bu.cur]
        walk_at "w"
        refine ⟨L0, fa, m, rfl, B2, ⟨z0, r0, hi, hr⟩, ?_⟩
        walk_at "w"
        rw [bu.cur]
        walk_at "w"
        refine ⟨hun, ?_⟩
        walk_at "w"
        exact fin
      | some c =>
        rw [ec] at hc
        obtain ⟨e, he⟩ : ∃ e, m.els = some e := by
          cases e3 : m.els with
          | none => rw [e3] at hc; exact hc.elim
          | some x => exact ⟨x, rfl⟩
        rw [he] at hc
        have hc : L.lookup c = some (.lst e) := hc
        walk_at "s"
        rw [show con L (.ptr c) = .lst e by show (L.lookup c).getD _ = _; rw [hc]; rfl]
        cases e with
        | nil =>
          have fin := fin true (by rw [he]; rfl)
          walk_at "s"
          exact fin
        | cons e0 er =>
          have fin := fin false (by rw [he]; rfl)
          walk_at "s"
          rw [hF.top, hrev]
          walk_at "w"
          rw [List.getLast?_concat, List.dropLast_concat]
          walk_at "w"
          refine ⟨L0, P, fu, fr, u, mr, rfl, F2, ?_⟩
          walk_at "w"
          rw [bu.cur]
          walk_at "w"
          refine ⟨L0, fa, m, rfl, B2, ⟨z0, r0, hi, hr⟩, ?_⟩
          walk_at "w"
          rw [bu.cur]
          walk_at "w"
          refine ⟨hun, ?_⟩
          walk_at "w"
          exact fin
    rw [decide_eq_false e2]
    rw [if_neg e2] at h
    walk_at "w"
    refine ⟨z, rfl, hz, ?_⟩
    cases hl : lineL (tl z) with
    | none =>
      rw [hl] at h
      walk_at "s"
      exact h _ hF.keep
    | some i =>
    rw [hl] at h
    have hmn : m.cur.length < sizeLine := by
      have := hs.bl m List.mem_cons_self
      refine Nat.lt_of_le_of_lt (show m.cur.length ≤ 90000 from ?_) (by decide)
      unfold Blk.cur
      cases e3 : m.els with
      | none => exact Nat.le_trans this.1 hN
      | some x => rw [e3] at this; exact Nat.le_trans this.2 hN
    have hpn : (fr.reverse.map (fun fa => D.ptr fa.q) ++ [D.ptr fa.q]).length < sizeLine := by
      have := hs.n
      rw [List.length_cons] at this
      rw [List.length_append, List.length_map, List.length_reverse, hlen]
      exact Nat.lt_of_le_of_lt (show mr.length + 1 ≤ 90001 by omega) (by decide)
    have app : opens i = false → ∀ d, d = D.tup i.d → k (.bl true) (setL L fa.cur (.lst (m.cur ++ [d]))) := fun e d hd => by
      have h : (match (some (if opens i = true then (⟨i.d, [], none⟩ :: m :: mr : List Blk) else putB m (.tup i.d) :: mr)) with | none => ∀ L', keepL L0 L' = L0 → k (.bl false) L' | some ms' => ∀ L' fas', BsL L0 L' P fas' ms' → k (.bl true) L') := h
      rw [if_neg (by rw [e]; exact Bool.false_ne_true)] at h
      rw [hd]
      exact h _ _ hF.stm
    have opn : opens i = true → ∀ b q, ¬ inL L b → ¬ inL ((b, .lst []) :: L) q → k (.bl true) (setL ((q, FA.d ⟨q, b, none⟩ ⟨i.d, [], none⟩) :: (b, .lst []) :: L) P (.lst (((fa :: fr).reverse.map fun fa => D.ptr fa.q) ++ [.ptr q]))) := fun e b q h1 h2 => by
      have h : (match (some (if opens i = true then (⟨i.d, [], none⟩ :: m :: mr : List Blk) else putB m (.tup i.d) :: mr)) with | none => ∀ L', keepL L0 L' = L0 → k (.bl false) L' | some ms' => ∀ L' fas', BsL L0 L' P fas' ms' → k (.bl true) L') := h
      rw [if_pos e] at h
      exact h _ _ (hF.push h1 h2)
    have lP : ∀ b, ¬ inL L b → b ≠ P := fun b hb' e => hb' (by rw [e]; exact inL_of_lookup hF.top)
    clear h
    cases i with
    | aLet z1 v =>
      walk_at "s"
      refine ⟨L0, P, fa, fr, m, mr, rfl, hF, ?_⟩
      walk_at "w"
      rw [hb.cur]
      walk_at "w"
      rw [hb.cur]
      walk_at "w"
      refine ⟨hmn, ?_⟩
      walk_at "w"
      exact app rfl _ rfl
    | aStop v =>
      walk_at "s"
      refine ⟨L0, P, fa, fr, m, mr, rfl, hF, ?_⟩
      walk_at "w"
      rw [hb.cur]
      walk_at "w"
      rw [hb.cur]
      walk_at "w"
      refine ⟨hmn, ?_⟩
      walk_at "w"
      exact app rfl _ rfl
    | aIf w a b =>
      walk_at "s"
      rw [hF.top]
      walk_at "s"
      intro b1 hb1
      walk_at "s"
      intro q1 hq1
      have hq2 : ¬ inL L q1 := fun m => hq1 (inL_cons.mpr (.inr m))
      walk_at "w"
      rw [lookup_ne (Ne.symm (lP q1 hq2)), lookup_ne (Ne.symm (lP b1 hb1)), hF.top]
      walk_at "w"
      rw [hrev]
      refine ⟨hpn, ?_⟩
      walk_at "w"
      rw [← hrev]
      exact opn rfl b1 q1 hb1 hq1
    | aRep n =>
      walk_at "s"
      rw [hF.top]
      walk_at "s"
      intro b1 hb1
      walk_at "s"
      intro q1 hq1
      have hq2 : ¬ inL L q1 := fun m => hq1 (inL_cons.mpr (.inr m))
      walk_at "w"
      rw [lookup_ne (Ne.symm (lP q1 hq2)), lookup_ne (Ne.symm (lP b1 hb1)), hF.top]
      walk_at "w"
      rw [hrev]
      refine ⟨hpn, ?_⟩
      walk_at "w"
      rw [← hrev]
      exact opn rfl b1 q1 hb1 hq1
  · rintro ds L k x ⟨L0, P, z, fas, ms, N, rfl, _⟩; rfl
end
end T25

namespace T25
open PySem L2 DL TL NumText
section
variable {P : Program} {w : World} {K : PySem.W.Frag} {mg : Str → Option Value} {base : Heap} {pS pT pW : Addr}
local macro_rules | `(tactic| walk_at "w") => `(tactic| conv => whnf)
local macro_rules | `(tactic| walk_at "v") => `(tactic| ((conv => whnf); try dsimp only))
local macro_rules | `(tactic| walk_at "s") => `(tactic| ((conv => whnf); repeat ((first | refine ⟨sz_ok rfl, ?_⟩ | refine ⟨rfl, ?_⟩); conv => whnf)))
theorem scReadProgram : FnScope ["text", "lines", "frames", "at", "line", "found"] ["text"] (defScope sReadProgram) := ⟨rfl, rfl, rfl, by decide +kernel, rfl, by decide +kernel, by decide +kernel⟩
theorem ok_ReadProgram {f : Addr} {fd : FuncData} (Z : Zn w K mg pS pT pW) (F : Fun K "read_program" "read_program" sReadProgram f fd) {C CT : Addr} (CTakeLine : Cal P w K mg base 15 "take_line" ["frames", "line"] [] takeS) (CCheckProgram : Cal P w K mg base 25 "check_program" ["value"] [] (checkS C)) (E_InvalidText : ExCls P w K mg base "InvalidText" CT ["self", "line"] (spI1 CT "InvalidText" "line")) : FnOk P w K mg base (L2.CX P w) 26 f fd ["text"] (spD K (readR C CT)) := by
  refine fn_ok F scReadProgram ?len (fun cdv A outer s H E hr => ?_)
  rotate_left
  · have tk := takes_of (X := cxOf (L2.CX P w) P w K mg base ["text", "lines", "frames", "at", "line", "found"] "read_program" (defScope sReadProgram) f cdv A outer s H E) (E := E) rfl rfl rfl rfl
    have hp := passes_of (X := cxOf (L2.CX P w) P w K mg base ["text", "lines", "frames", "at", "line", "found"] "read_program" (defScope sReadProgram) f cdv A outer s H E) rfl
    refine ⟨_, (ss_cons (s_if (t_not (t_val (q_isi .str (qv 0) (by rfl) Z.z_isinstance (by rfl) Z.z_str bb_str))) (ss_one (s_raise1 E_InvalidText rfl hr (by first | decide | omega) tk (by rfl) (a_cons q_int a_nil))) ss_nil)
  (ss_cons (s_set 1 scReadProgram.nd (q_split (qv 0) q_str))
  (ss_cons (s_set 2 scReadProgram.nd (q_lstM (a_cons (q_lstM (a_cons (q_lst (a_cons q_str a_nil)) (a_cons (q_lstM a_nil) (a_cons q_non a_nil)))) a_nil)))
  (ss_cons (s_for hp rfl (i_enum (by rfl) Z.z_enumerate (a_cons (q_slice (qv 1) o_none (o_some (q_neg q_int))) a_nil)) (g_tup (n := 2) rfl (gs_cons (g_name 3 scReadProgram.nd) (gs_cons (g_name 4 scReadProgram.nd) gs_nil))) (ss_one (s_if (t_not (t_val (q_cal CTakeLine (by first | decide | exact Nat.le_refl _ | omega) hr tk (by rfl) (a_cons (qv 2) (a_cons (qv 4) a_nil))))) (ss_one (s_raise1 E_InvalidText rfl hr (by first | decide | omega) tk (by rfl) (a_cons (qv 3) a_nil))) ss_nil)))
  (ss_cons (s_if (w_or (t_cmp (oq_neU hr.units) (q_ix (qv 1) (q_neg q_int)) q_str) (w_or1 (t_cmp oq_gt (q_callB cq_len (by rfl) Z.z_len bb_len (a_cons (qv 2) a_nil)) q_int))).t (ss_one (s_raise1 E_InvalidText rfl hr (by first | decide | omega) tk (by rfl) (a_cons (q_op oq_sub (q_callB cq_len (by rfl) Z.z_len bb_len (a_cons (qv 1) a_nil)) q_int) a_nil))) ss_nil)
  (ss_cons (s_set 5 scReadProgram.nd (q_callTy cq_tuple (by rfl) Z.z_tuple bb_tuple (a_cons (q_ix (q_ix (qv 2) q_int) q_int) a_nil)))
  (ss_cons (s_expr (q_cal CCheckProgram (by first | decide | exact Nat.le_refl _ | omega) hr tk (by rfl) (a_cons (qv 5) a_nil)))
  (ss_one (s_ret (qv 5)))))))))), ?_⟩
    clear tk hp
    rintro ds L k x ⟨v, rfl, hv, h1, h2⟩
    cases v <;> first | exact h1 (fun z e => by cases e) | (cases hv; done) | skip
    rename_i z
    obtain ⟨hz, h⟩ := h2 z rfl
    clear h1 h2 hv
    have z9 := hz.len
    rw [readT_eq] at h
    have hsl := split_lines z
    have hlo : ∀ y ∈ Txt.split z "\n", OkZ y := fun y hy => line_ok hz hy
    have hne : Txt.split z "\n" ≠ [] := fun e => lns_ne (tl z) [] (by rw [← hsl, e]; rfl)
    have hle : (Txt.split z "\n").length ≤ z.length + 1 := by
      have := lns_len (tl z) []
      rw [← hsl, List.length_map, ← len_tl] at this
      exact this
    rw [← hsl, ← List.map_dropLast] at h
    walk_at "s"
    refine ⟨Nat.le_trans (show z.length + 2 ≤ 90002 by omega) (by decide), ?_⟩
    generalize Txt.split z "\n" = ys at h hlo hne hle ⊢
    clear hsl
    walk_at "s"
    intro b hb
    walk_at "s"
    intro q hq
    walk_at "s"
    intro P hP
    have hF0 := BsL.start hb hq hP
    have hdl : ys.dropLast.length ≤ 90000 := by rw [List.length_dropLast]; omega
    have hld : ∀ y ∈ ys.dropLast, OkZ y := fun y hy => hlo y (List.dropLast_subset _ hy)
    generalize hX : takeA 0 [prog0] (ys.dropLast.map tl) = X at h
    walk_at "s"
    rw [cut_init]
    walk_at "w"
    refine forD_rec (fun r env L' => ∃ (us : List Str) (n : Nat) (fas : List FA) (ms : List Blk) (o3 o4 : Option D), r = enumD n (us.map D.str) ∧ X = takeA n ms (us.map tl) ∧ BsL L L' P fas ms ∧ BSz n ms ∧ ms ≠ [] ∧ n + us.length ≤ 90000 ∧ (∀ y ∈ us, OkZ y) ∧ env = [some (.str z), some (.lst (ys.map D.str)), some (.ptr P), o3, o4, none]) ?step ?stop _ _ _ ⟨ys.dropLast, 0, _, _, none, none, rfl, hX.symm, hF0, bsz0, by simp, by omega, hld, rfl⟩
    case step =>
      rintro E' d r env L' hrt hex hbk hct ⟨us, n, fas, ms, o3, o4, hr, hX, hF, hs, hm, hn, ho, rfl⟩ hnx
      have hx' : ∀ e env L, x e L → E'.ex e env L := fun e env L hh => by rw [hex]; exact hh
      cases us with
      | nil => cases hr
      | cons u us =>
      cases hr
      rw [List.length_cons] at hn
      walk_at "s"
      refine ⟨L, P, u, fas, ms, n, rfl, hF, ho u List.mem_cons_self, hs, by omega, hm, ?_⟩
      have hX : X = (match takeM ms (tl u) with | none => .inl n | some ms' => takeA (n + 1) ms' (us.map tl)) := hX
      cases ht : takeM ms (tl u) with
      | none =>
        rw [ht] at hX
        subst hX
        intro L2 hk
        walk_at "s"
        exact hx' _ _ _ (h L2 hk)
      | some ms' =>
        rw [ht] at hX
        intro L2 fas' hF'
        walk_at "s"
        exact hnx _ _ ⟨us, n + 1, fas', ms', _, _, rfl, hX, hF', takeM_sz ht (by omega) hs, takeM_ne ht, by omega, fun y hy => ho y (List.mem_cons_of_mem _ hy), rfl⟩
    case stop =>
      rintro env L' ⟨us, n, fas, ms, o3, o4, hr, hX, hF, hs, hm, hn, ho, rfl⟩
      cases us with
      | cons _ _ => cases hr
      | nil =>
      have hX : X = .inr ms := hX
      subst hX
      have h := h L' hF.keep
      obtain ⟨yi, yl, rfl⟩ : ∃ yi yl, ys = yi ++ [yl] := ⟨ys.dropLast, ys.getLast hne, (List.dropLast_concat_getLast hne).symm⟩
      have hgl : ((yi ++ [yl]).map tl).getLast? = some (tl yl) := by rw [List.map_append, List.map_singleton, List.getLast?_concat]
      have hln : ((((yi ++ [yl]).map tl).length - 1 : Nat) : Int) = ((((yi ++ [yl]).map D.str).length : Nat) : Int) - 1 := by
        rw [List.length_map, List.length_map, List.length_append, List.length_singleton]
        omega
      have hll : lenD L' (.ptr P) = some ms.length := by
        unfold lenD
        rw [show seqs (con L' (.ptr P)) = some (fas.reverse.map fun fa => D.ptr fa.q) by show seqs ((L'.lookup P).getD _) = _; rw [hF.top]; rfl]
        show some (fas.reverse.map fun fa => D.ptr fa.q).length = _
        rw [List.length_map, List.length_reverse, pairedLen hF.all]
      walk_at "s"
      rw [show atI (List.map D.str (yi ++ [yl])) (-1) = some (.str yl) by rw [List.map_append]; exact atI_last _ _]
      walk_at "v"
      rw [flS (l := tl yl) [] (by decide +kernel)]
      rcases ms with _ | ⟨m, _ | ⟨m2, mr⟩⟩
      · exact absurd rfl hm
      · have h : (match (if ((yi ++ [yl]).map tl).getLast? = some [] then Rd.ok m.blk else Rd.bad (((yi ++ [yl]).map tl).length - 1)) with
          | .bad n => x (itE CT n) L'
          | .ok l => (∀ c, visF 4 l 0 = .ok c → k (.tup l) L') ∧ ∀ e : Nat, visF 4 l 0 = .bad e → x (ipE C e) L') := h
        rw [hgl] at h
        by_cases hy : tl yl = []
        · rw [decide_eq_true hy]
          rw [if_pos (by rw [hy])] at h
          walk_at "w"
          rw [hll]
          walk_at "w"
          obtain ⟨fa, rfl⟩ : ∃ fa, fas = [fa] := by
            have := pairedLen hF.all
            rcases fas with _ | ⟨a, _ | ⟨b, c⟩⟩
            · cases this
            · exact ⟨a, rfl⟩
            · simp at this
          have hb : BlkAt L L' fa m := by cases hF.all with | cons r _ => exact r
          rw [show seqs (con L' (.ptr P)) = some [D.ptr fa.q] by show seqs ((L'.lookup P).getD _) = _; rw [hF.top]; rfl]
          walk_at "w"
          rw [show seqs (con L' (.ptr fa.q)) = some [.lst m.items, .ptr fa.b, match fa.c with | some c => .ptr c | none => .non] by show seqs ((L'.lookup fa.q).getD _) = _; rw [hb.q]; rfl]
          walk_at "w"
          rw [show con L' (.ptr fa.b) = .lst m.blk by show (L'.lookup fa.b).getD _ = _; rw [hb.b]; rfl]
          walk_at "w"
          have hbl := (hs.bl m List.mem_cons_self).1
          refine ⟨_, rfl, okW_mk (by omega) (hs.w m List.mem_cons_self).2.1, (fun z => by cases z), fun l' el => ?_⟩
          cases el
          refine ⟨fun c hc => ?_, fun e he => ?_⟩
          · walk_at "s"
            exact h.1 c hc
          · walk_at "s"
            exact h.2 e he
        · rw [decide_eq_false hy]
          rw [if_neg (fun e => hy (Option.some.inj e))] at h
          have h : x (itE CT ((((yi ++ [yl]).map tl).length - 1 : Nat) : Int)) L' := h
          rw [hln] at h
          walk_at "s"
          exact h
      · have h : x (itE CT ((((yi ++ [yl]).map tl).length - 1 : Nat) : Int)) L' := h
        rw [hln] at h
        by_cases hy : tl yl = []
        · rw [decide_eq_true hy]
          walk_at "w"
          rw [hll]
          walk_at "w"
          rw [show decide ((1 : Int) < (((m :: m2 :: mr).length : Nat) : Int)) = true from decide_eq_true (by rw [List.length_cons, List.length_cons]; omega)]
          walk_at "s"
          exact h
        · rw [decide_eq_false hy]
          walk_at "s"
          exact h
  · rintro ds L k x ⟨v, rfl, _⟩; rfl
end
end T25

namespace T25
open PySem L2 DL TL NumText
section
variable {P : Program} {w : World} {K : PySem.W.Frag} {mg : Str → Option Value} {base : Heap} {pS pT pW : Addr}
local macro_rules | `(tactic| walk_at "w") => `(tactic| conv => whnf)
local macro_rules | `(tactic| walk_at "v") => `(tactic| ((conv => whnf); try dsimp only))
local macro_rules | `(tactic| walk_at "s") => `(tactic| ((conv => whnf); repeat ((first | refine ⟨sz_ok rfl, ?_⟩ | refine ⟨rfl, ?_⟩); conv => whnf)))
theorem scExpressionText : FnScope ["expression", "word"] ["expression"] (defScope sExpressionText) := ⟨rfl, rfl, rfl, by decide +kernel, rfl, by decide +kernel, by decide +kernel⟩
theorem ok_ExpressionText {f : Addr} {fd : FuncData} (Z : Zn w K mg pS pT pW) (F : Fun K "expression_text" "expression_text" sExpressionText f fd) (CExpressionText : Cal P w K mg base m "expression_text" ["expression"] [] (txS m)) : FnOk P w K mg base (L2.CX P w) (m + 1) f fd ["expression"] (spD K (txS (m + 1))) := by
  refine fn_ok F scExpressionText ?len (fun cdv A outer s H E hr => ?_)
  rotate_left
  · have tk := takes_of (X := cxOf (L2.CX P w) P w K mg base ["expression", "word"] "expression_text" (defScope sExpressionText) f cdv A outer s H E) (E := E) rfl rfl rfl rfl
    have hp := passes_of (X := cxOf (L2.CX P w) P w K mg base ["expression", "word"] "expression_text" (defScope sExpressionText) f cdv A outer s H E) rfl
    refine ⟨_, (ss_cons (s_set 1 scExpressionText.nd (q_ix (qv 0) q_int))
  (ss_cons (s_if (t_cmp oq_inQ (qv 1) (q_tup (a_cons q_str (a_cons q_str a_nil)))) (ss_one (s_ret (q_callTy cq_strA (by rfl) Z.z_str bb_str (a_cons (q_ix (qv 0) q_int) a_nil)))) ss_nil)
  (ss_cons (s_if (t_cmp (oq_eqU hr.units) (qv 1) q_str) (ss_one (s_ret (q_joined (j_cons (q_fmt (q_ix (qv 0) q_int)) (j_cons q_str (j_cons (q_fmt (q_cal CExpressionText (by first | decide | exact Nat.le_refl _ | omega) hr tk (by rfl) (a_cons (q_ix (qv 0) q_int) a_nil))) (j_cons q_str (j_cons (q_fmt (q_cal CExpressionText (by first | decide | exact Nat.le_refl _ | omega) hr tk (by rfl) (a_cons (q_ix (qv 0) q_int) a_nil))) (j_cons q_str j_nil))))))))) ss_nil)
  (ss_cons (s_if (t_cmp (oq_inKD Z.d_SIGNS) (qv 1) (q_globD Z.g_SIGNS (by rfl))) (ss_one (s_ret (q_joined (j_cons q_str (j_cons (q_fmt (q_cal CExpressionText (by first | decide | exact Nat.le_refl _ | omega) hr tk (by rfl) (a_cons (q_ix (qv 0) q_int) a_nil))) (j_cons q_str (j_cons (q_fmt (q_ixKD Z.d_SIGNS (q_globD Z.g_SIGNS (by rfl)) (qv 1))) (j_cons q_str (j_cons (q_fmt (q_cal CExpressionText (by first | decide | exact Nat.le_refl _ | omega) hr tk (by rfl) (a_cons (q_ix (qv 0) q_int) a_nil))) (j_cons q_str j_nil)))))))))) ss_nil)
  (ss_one (s_ret (qv 1))))))), ?_⟩
    clear tk hp
    rintro ds L k x ⟨e, ns, ks, rfl, he, hm, h7, hn, hk, h⟩
    have ls : ∀ e' : Ex, e'.Wf ns ks → e'.dp < m → (exT e').length ≤ 502 := fun e' h1 h2 => exT_small hn hk h1 (n := e'.dp) (Nat.le_refl _) (by omega)
    have lk : ∀ z ∈ ks, z.length ≤ 6 := fun z hz => nameOk_len (hk z hz)
    have lz : ∀ i : Nat, i ≤ 100000 → i ≤ sizeLine := fun i h => Nat.le_trans h (by decide)
    have q1 : (Str.ofString "(").length = 1 := by decide
    have q2 : (Str.ofString ", ").length = 2 := by decide
    have q3 : (Str.ofString ")").length = 1 := by decide
    have q4 : (Str.ofString " ").length = 1 := by decide
    have q5 : (Str.ofString "+").length = 1 := by decide
    have q6 : (Str.ofString "-").length = 1 := by decide
    have q7 : (Str.ofString "*").length = 1 := by decide
    have q8 : (Str.ofString "/").length = 1 := by decide
    have qe : Str.empty.length = 0 := rfl
    cases he with
    | num h1 h2 =>
      walk_at "s"
      refine ⟨?_, h⟩
      exact Nat.lt_of_le_of_lt (Nat.log2_le_self _) (by show Int.natAbs _ < 1920; omega)
    | lx => walk_at "s"; exact h
    | ly => walk_at "s"; exact h
    | nm hz => walk_at "s"; exact h
    | @call f a b hf ha hb =>
      have l0 := lk f hf
      walk_at "s"
      repeat (refine ⟨lz _ (by (try simp only [str_len]); omega), ?_⟩; walk_at "s")
      refine ⟨a, ns, ks, rfl, ha, by have := Ex.dp_call f a b; have := Nat.le_max_left a.dp b.dp; have := Nat.le_max_right a.dp b.dp; omega, by omega, hn, hk, ?_⟩
      have l1 := ls a ha (by have := Ex.dp_call f a b; have := Nat.le_max_left a.dp b.dp; have := Nat.le_max_right a.dp b.dp; omega)
      walk_at "s"
      repeat (refine ⟨lz _ (by (try simp only [str_len]); omega), ?_⟩; walk_at "s")
      refine ⟨b, ns, ks, rfl, hb, by have := Ex.dp_call f a b; have := Nat.le_max_left a.dp b.dp; have := Nat.le_max_right a.dp b.dp; omega, by omega, hn, hk, ?_⟩
      have l2 := ls b hb (by have := Ex.dp_call f a b; have := Nat.le_max_left a.dp b.dp; have := Nat.le_max_right a.dp b.dp; omega)
      walk_at "s"
      repeat (refine ⟨lz _ (by (try simp only [str_len]); omega), ?_⟩; walk_at "s")

      rw [exT_call]
      exact h
    | @bin o a b ho ha hb =>
      simp only [List.mem_cons, List.not_mem_nil, or_false] at ho
      rcases ho with rfl | rfl | rfl | rfl
      · skip
        skip
        walk_at "s"
        repeat (refine ⟨lz _ (by (try simp only [str_len]); omega), ?_⟩; walk_at "s")
        refine ⟨a, ns, ks, rfl, ha, by have := Ex.dp_bin "add" a b; have := Nat.le_max_left a.dp b.dp; have := Nat.le_max_right a.dp b.dp; omega, by omega, hn, hk, ?_⟩
        have l1 := ls a ha (by have := Ex.dp_bin "add" a b; have := Nat.le_max_left a.dp b.dp; have := Nat.le_max_right a.dp b.dp; omega)
        walk_at "s"
        repeat (refine ⟨lz _ (by (try simp only [str_len]); omega), ?_⟩; walk_at "s")
        refine ⟨b, ns, ks, rfl, hb, by have := Ex.dp_bin "add" a b; have := Nat.le_max_left a.dp b.dp; have := Nat.le_max_right a.dp b.dp; omega, by omega, hn, hk, ?_⟩
        have l2 := ls b hb (by have := Ex.dp_bin "add" a b; have := Nat.le_max_left a.dp b.dp; have := Nat.le_max_right a.dp b.dp; omega)
        walk_at "s"
        repeat (refine ⟨lz _ (by (try simp only [str_len]); omega), ?_⟩; walk_at "s")

        have hh := exT_bin (o := "add") (by simp) a b
        rw [show sgnT "add" = "+" by decide +kernel] at hh
        rw [hh]
        exact h
      · skip
        skip
        walk_at "s"
        repeat (refine ⟨lz _ (by (try simp only [str_len]); omega), ?_⟩; walk_at "s")
        refine ⟨a, ns, ks, rfl, ha, by have := Ex.dp_bin "sub" a b; have := Nat.le_max_left a.dp b.dp; have := Nat.le_max_right a.dp b.dp; omega, by omega, hn, hk, ?_⟩
        have l1 := ls a ha (by have := Ex.dp_bin "sub" a b; have := Nat.le_max_left a.dp b.dp; have := Nat.le_max_right a.dp b.dp; omega)
        walk_at "s"
        repeat (refine ⟨lz _ (by (try simp only [str_len]); omega), ?_⟩; walk_at "s")
        refine ⟨b, ns, ks, rfl, hb, by have := Ex.dp_bin "sub" a b; have := Nat.le_max_left a.dp b.dp; have := Nat.le_max_right a.dp b.dp; omega, by omega, hn, hk, ?_⟩
        have l2 := ls b hb (by have := Ex.dp_bin "sub" a b; have := Nat.le_max_left a.dp b.dp; have := Nat.le_max_right a.dp b.dp; omega)
        walk_at "s"
        repeat (refine ⟨lz _ (by (try simp only [str_len]); omega), ?_⟩; walk_at "s")

        have hh := exT_bin (o := "sub") (by simp) a b
        rw [show sgnT "sub" = "-" by decide +kernel] at hh
        rw [hh]
        exact h
      · skip
        skip
        walk_at "s"
        repeat (refine ⟨lz _ (by (try simp only [str_len]); omega), ?_⟩; walk_at "s")
        refine ⟨a, ns, ks, rfl, ha, by have := Ex.dp_bin "mul" a b; have := Nat.le_max_left a.dp b.dp; have := Nat.le_max_right a.dp b.dp; omega, by omega, hn, hk, ?_⟩
        have l1 := ls a ha (by have := Ex.dp_bin "mul" a b; have := Nat.le_max_left a.dp b.dp; have := Nat.le_max_right a.dp b.dp; omega)
        walk_at "s"
        repeat (refine ⟨lz _ (by (try simp only [str_len]); omega), ?_⟩; walk_at "s")
        refine ⟨b, ns, ks, rfl, hb, by have := Ex.dp_bin "mul" a b; have := Nat.le_max_left a.dp b.dp; have := Nat.le_max_right a.dp b.dp; omega, by omega, hn, hk, ?_⟩
        have l2 := ls b hb (by have := Ex.dp_bin "mul" a b; have := Nat.le_max_left a.dp b.dp; have := Nat.le_max_right a.dp b.dp; omega)
        walk_at "s"
        repeat (refine ⟨lz _ (by (try simp only [str_len]); omega), ?_⟩; walk_at "s")

        have hh := exT_bin (o := "mul") (by simp) a b
        rw [show sgnT "mul" = "*" by decide +kernel] at hh
        rw [hh]
        exact h
      · skip
        skip
        walk_at "s"
        repeat (refine ⟨lz _ (by (try simp only [str_len]); omega), ?_⟩; walk_at "s")
        refine ⟨a, ns, ks, rfl, ha, by have := Ex.dp_bin "div" a b; have := Nat.le_max_left a.dp b.dp; have := Nat.le_max_right a.dp b.dp; omega, by omega, hn, hk, ?_⟩
        have l1 := ls a ha (by have := Ex.dp_bin "div" a b; have := Nat.le_max_left a.dp b.dp; have := Nat.le_max_right a.dp b.dp; omega)
        walk_at "s"
        repeat (refine ⟨lz _ (by (try simp only [str_len]); omega), ?_⟩; walk_at "s")
        refine ⟨b, ns, ks, rfl, hb, by have := Ex.dp_bin "div" a b; have := Nat.le_max_left a.dp b.dp; have := Nat.le_max_right a.dp b.dp; omega, by omega, hn, hk, ?_⟩
        have l2 := ls b hb (by have := Ex.dp_bin "div" a b; have := Nat.le_max_left a.dp b.dp; have := Nat.le_max_right a.dp b.dp; omega)
        walk_at "s"
        repeat (refine ⟨lz _ (by (try simp only [str_len]); omega), ?_⟩; walk_at "s")

        have hh := exT_bin (o := "div") (by simp) a b
        rw [show sgnT "div" = "/" by decide +kernel] at hh
        rw [hh]
        exact h
  · rintro ds L k x ⟨e, ns, ks, rfl, _⟩; rfl
theorem scLExpressionText : FnScope ["_law_one", "_law_signs_z"] ["_law_one"] (defScope sLExpressionText) := ⟨rfl, rfl, rfl, by decide +kernel, rfl, by decide +kernel, by decide +kernel⟩
theorem ok_LExpressionText {f : Addr} {fd : FuncData} (Z : Zn w K mg pS pT pW) (F : Fun K "_law_expression_text" "_law_expression_text" sLExpressionText f fd) (CLExpressionText : Cal P w K mg base m "_law_expression_text" ["_law_one"] [] (txS m)) : FnOk P w K mg base (L2.CX P w) (m + 1) f fd ["_law_one"] (spD K (txS (m + 1))) := by
  refine fn_ok F scLExpressionText ?len (fun cdv A outer s H E hr => ?_)
  rotate_left
  · have tk := takes_of (X := cxOf (L2.CX P w) P w K mg base ["_law_one", "_law_signs_z"] "_law_expression_text" (defScope sLExpressionText) f cdv A outer s H E) (E := E) rfl rfl rfl rfl
    have hp := passes_of (X := cxOf (L2.CX P w) P w K mg base ["_law_one", "_law_signs_z"] "_law_expression_text" (defScope sLExpressionText) f cdv A outer s H E) rfl
    refine ⟨_, (ss_cons (s_if (t_cmp oq_inQ (q_ix (qv 0) q_int) (q_tup (a_cons q_str (a_cons q_str a_nil)))) (ss_one (s_ret (q_callTy cq_strA (by rfl) Z.z_str bb_str (a_cons (q_ix (qv 0) q_int) a_nil)))) ss_nil)
  (ss_cons (s_if (t_cmp (oq_eqU hr.units) (q_ix (qv 0) q_int) q_str) (ss_one (s_ret (q_op oq_add (q_op oq_add (q_op oq_add (q_op oq_add (q_op oq_add (q_ix (qv 0) q_int) q_str) (q_cal CLExpressionText (by first | decide | exact Nat.le_refl _ | omega) hr tk (by rfl) (a_cons (q_ix (qv 0) q_int) a_nil))) q_str) (q_cal CLExpressionText (by first | decide | exact Nat.le_refl _ | omega) hr tk (by rfl) (a_cons (q_ix (qv 0) q_int) a_nil))) q_str))) ss_nil)
  (ss_cons (s_if (t_cmp oq_inQ (q_ix (qv 0) q_int) (q_tup (a_cons q_str (a_cons q_str a_nil)))) (ss_one (s_ret (q_ix (qv 0) q_int))) ss_nil)
  (ss_cons (s_set 1 scLExpressionText.nd (q_disp (p_cons q_str q_str (p_cons q_str q_str (p_cons q_str q_str (p_cons q_str q_str p_nil))))))
  (ss_one (s_ret (q_op oq_add (q_op oq_add (q_op oq_add (q_op oq_add q_str (q_cal CLExpressionText (by first | decide | exact Nat.le_refl _ | omega) hr tk (by rfl) (a_cons (q_ix (qv 0) q_int) a_nil))) (q_ixDk hr.units (qv 1) (q_ix (qv 0) q_int))) (q_cal CLExpressionText (by first | decide | exact Nat.le_refl _ | omega) hr tk (by rfl) (a_cons (q_ix (qv 0) q_int) a_nil))) q_str))))))), ?_⟩
    clear tk hp
    rintro ds L k x ⟨e, ns, ks, rfl, he, hm, h7, hn, hk, h⟩
    have ls : ∀ e' : Ex, e'.Wf ns ks → e'.dp < m → (exT e').length ≤ 502 := fun e' h1 h2 => exT_small hn hk h1 (n := e'.dp) (Nat.le_refl _) (by omega)
    have lk : ∀ z ∈ ks, z.length ≤ 6 := fun z hz => nameOk_len (hk z hz)
    have lz : ∀ i : Nat, i ≤ 100000 → i ≤ sizeLine := fun i h => Nat.le_trans h (by decide)
    have q1 : (Str.ofString "(").length = 1 := by decide
    have q2 : (Str.ofString ", ").length = 2 := by decide
    have q3 : (Str.ofString ")").length = 1 := by decide
    have q4 : (Str.ofString " ").length = 1 := by decide
    have q5 : (Str.ofString "+").length = 1 := by decide
    have q6 : (Str.ofString "-").length = 1 := by decide
    have q7 : (Str.ofString "*").length = 1 := by decide
    have q8 : (Str.ofString "/").length = 1 := by decide
    have qe : Str.empty.length = 0 := rfl
    have r0 : (Str.ofString " + ").length = 3 := by decide
    have r1 : (Str.ofString " - ").length = 3 := by decide
    have r2 : (Str.ofString " * ").length = 3 := by decide
    have r3 : (Str.ofString " / ").length = 3 := by decide
    cases he with
    | num h1 h2 =>
      walk_at "s"
      refine ⟨?_, h⟩
      exact Nat.lt_of_le_of_lt (Nat.log2_le_self _) (by show Int.natAbs _ < 1920; omega)
    | lx => walk_at "s"; exact h
    | ly => walk_at "s"; exact h
    | nm hz => walk_at "s"; exact h
    | @call f a b hf ha hb =>
      have l0 := lk f hf
      walk_at "s"
      repeat (refine ⟨lz _ (by (try simp only [str_len]); omega), ?_⟩; walk_at "s")
      refine ⟨a, ns, ks, rfl, ha, by have := Ex.dp_call f a b; have := Nat.le_max_left a.dp b.dp; have := Nat.le_max_right a.dp b.dp; omega, by omega, hn, hk, ?_⟩
      have l1 := ls a ha (by have := Ex.dp_call f a b; have := Nat.le_max_left a.dp b.dp; have := Nat.le_max_right a.dp b.dp; omega)
      walk_at "s"
      repeat (refine ⟨lz _ (by (try simp only [str_len]); omega), ?_⟩; walk_at "s")
      refine ⟨b, ns, ks, rfl, hb, by have := Ex.dp_call f a b; have := Nat.le_max_left a.dp b.dp; have := Nat.le_max_right a.dp b.dp; omega, by omega, hn, hk, ?_⟩
      have l2 := ls b hb (by have := Ex.dp_call f a b; have := Nat.le_max_left a.dp b.dp; have := Nat.le_max_right a.dp b.dp; omega)
      walk_at "s"
      repeat (refine ⟨lz _ (by (try simp only [str_len]); omega), ?_⟩; walk_at "s")
      exact h
    | @bin o a b ho ha hb =>
      simp only [List.mem_cons, List.not_mem_nil, or_false] at ho
      rcases ho with rfl | rfl | rfl | rfl
      · skip
        walk_at "s"
        intro p hp
        walk_at "w"
        refine ⟨⟨lookup_top, by decide +kernel, by decide⟩, ?_⟩
        rw [remL_top hp]
        walk_at "s"
        repeat (refine ⟨lz _ (by (try simp only [str_len]); omega), ?_⟩; walk_at "s")
        refine ⟨a, ns, ks, rfl, ha, by have := Ex.dp_bin "add" a b; have := Nat.le_max_left a.dp b.dp; have := Nat.le_max_right a.dp b.dp; omega, by omega, hn, hk, ?_⟩
        have l1 := ls a ha (by have := Ex.dp_bin "add" a b; have := Nat.le_max_left a.dp b.dp; have := Nat.le_max_right a.dp b.dp; omega)
        walk_at "s"
        repeat (refine ⟨lz _ (by (try simp only [str_len]); omega), ?_⟩; walk_at "s")
        refine ⟨b, ns, ks, rfl, hb, by have := Ex.dp_bin "add" a b; have := Nat.le_max_left a.dp b.dp; have := Nat.le_max_right a.dp b.dp; omega, by omega, hn, hk, ?_⟩
        have l2 := ls b hb (by have := Ex.dp_bin "add" a b; have := Nat.le_max_left a.dp b.dp; have := Nat.le_max_right a.dp b.dp; omega)
        walk_at "s"
        repeat (refine ⟨lz _ (by (try simp only [str_len]); omega), ?_⟩; walk_at "s")
        exact h
      · skip
        walk_at "s"
        intro p hp
        walk_at "w"
        refine ⟨⟨lookup_top, by decide +kernel, by decide⟩, ?_⟩
        rw [remL_top hp]
        walk_at "s"
        repeat (refine ⟨lz _ (by (try simp only [str_len]); omega), ?_⟩; walk_at "s")
        refine ⟨a, ns, ks, rfl, ha, by have := Ex.dp_bin "sub" a b; have := Nat.le_max_left a.dp b.dp; have := Nat.le_max_right a.dp b.dp; omega, by omega, hn, hk, ?_⟩
        have l1 := ls a ha (by have := Ex.dp_bin "sub" a b; have := Nat.le_max_left a.dp b.dp; have := Nat.le_max_right a.dp b.dp; omega)
        walk_at "s"
        repeat (refine ⟨lz _ (by (try simp only [str_len]); omega), ?_⟩; walk_at "s")
        refine ⟨b, ns, ks, rfl, hb, by have := Ex.dp_bin "sub" a b; have := Nat.le_max_left a.dp b.dp; have := Nat.le_max_right a.dp b.dp; omega, by omega, hn, hk, ?_⟩
        have l2 := ls b hb (by have := Ex.dp_bin "sub" a b; have := Nat.le_max_left a.dp b.dp; have := Nat.le_max_right a.dp b.dp; omega)
        walk_at "s"
        repeat (refine ⟨lz _ (by (try simp only [str_len]); omega), ?_⟩; walk_at "s")
        exact h
      · skip
        walk_at "s"
        intro p hp
        walk_at "w"
        refine ⟨⟨lookup_top, by decide +kernel, by decide⟩, ?_⟩
        rw [remL_top hp]
        walk_at "s"
        repeat (refine ⟨lz _ (by (try simp only [str_len]); omega), ?_⟩; walk_at "s")
        refine ⟨a, ns, ks, rfl, ha, by have := Ex.dp_bin "mul" a b; have := Nat.le_max_left a.dp b.dp; have := Nat.le_max_right a.dp b.dp; omega, by omega, hn, hk, ?_⟩
        have l1 := ls a ha (by have := Ex.dp_bin "mul" a b; have := Nat.le_max_left a.dp b.dp; have := Nat.le_max_right a.dp b.dp; omega)
        walk_at "s"
        repeat (refine ⟨lz _ (by (try simp only [str_len]); omega), ?_⟩; walk_at "s")
        refine ⟨b, ns, ks, rfl, hb, by have := Ex.dp_bin "mul" a b; have := Nat.le_max_left a.dp b.dp; have := Nat.le_max_right a.dp b.dp; omega, by omega, hn, hk, ?_⟩
        have l2 := ls b hb (by have := Ex.dp_bin "mul" a b; have := Nat.le_max_left a.dp b.dp; have := Nat.le_max_right a.dp b.dp; omega)
        walk_at "s"
        repeat (refine ⟨lz _ (by (try simp only [str_len]); omega), ?_⟩; walk_at "s")
        exact h
      · skip
        walk_at "s"
        intro p hp
        walk_at "w"
        refine ⟨⟨lookup_top, by decide +kernel, by decide⟩, ?_⟩
        rw [remL_top hp]
        walk_at "s"
        repeat (refine ⟨lz _ (by (try simp only [str_len]); omega), ?_⟩; walk_at "s")
        refine ⟨a, ns, ks, rfl, ha, by have := Ex.dp_bin "div" a b; have := Nat.le_max_left a.dp b.dp; have := Nat.le_max_right a.dp b.dp; omega, by omega, hn, hk, ?_⟩
        have l1 := ls a ha (by have := Ex.dp_bin "div" a b; have := Nat.le_max_left a.dp b.dp; have := Nat.le_max_right a.dp b.dp; omega)
        walk_at "s"
        repeat (refine ⟨lz _ (by (try simp only [str_len]); omega), ?_⟩; walk_at "s")
        refine ⟨b, ns, ks, rfl, hb, by have := Ex.dp_bin "div" a b; have := Nat.le_max_left a.dp b.dp; have := Nat.le_max_right a.dp b.dp; omega, by omega, hn, hk, ?_⟩
        have l2 := ls b hb (by have := Ex.dp_bin "div" a b; have := Nat.le_max_left a.dp b.dp; have := Nat.le_max_right a.dp b.dp; omega)
        walk_at "s"
        repeat (refine ⟨lz _ (by (try simp only [str_len]); omega), ?_⟩; walk_at "s")
        exact h
  · rintro ds L k x ⟨e, ns, ks, rfl, _⟩; rfl
end
end T25

namespace T25
open PySem L2 DL TL NumText
section
variable {P : Program} {w : World} {K : PySem.W.Frag} {mg : Str → Option Value} {base : Heap} {pS pT pW : Addr}
local macro_rules | `(tactic| walk_at "w") => `(tactic| conv => whnf)
local macro_rules | `(tactic| walk_at "v") => `(tactic| ((conv => whnf); try dsimp only))
local macro_rules | `(tactic| walk_at "s") => `(tactic| ((conv => whnf); repeat ((first | refine ⟨sz_ok rfl, ?_⟩ | refine ⟨rfl, ?_⟩); conv => whnf)))
theorem scLineOf : FnScope ["statement", "first", "second"] ["statement"] (defScope sLineOf) := ⟨rfl, rfl, rfl, by decide +kernel, rfl, by decide +kernel, by decide +kernel⟩
theorem ok_LineOf {f : Addr} {fd : FuncData} (Z : Zn w K mg pS pT pW) (F : Fun K "line_of" "line_of" sLineOf f fd) (CExpressionText : Cal P w K mg base 7 "expression_text" ["expression"] [] (txS 7)) : FnOk P w K mg base (L2.CX P w) 8 f fd ["statement"] (spD K lnS) := by
  refine fn_ok F scLineOf ?len (fun cdv A outer s H E hr => ?_)
  rotate_left
  · have tk := takes_of (X := cxOf (L2.CX P w) P w K mg base ["statement", "first", "second"] "line_of" (defScope sLineOf) f cdv A outer s H E) (E := E) rfl rfl rfl rfl
    have hp := passes_of (X := cxOf (L2.CX P w) P w K mg base ["statement", "first", "second"] "line_of" (defScope sLineOf) f cdv A outer s H E) rfl
    refine ⟨_, (ss_cons (s_if (t_cmp (oq_eqU hr.units) (q_ix (qv 0) q_int) q_str) (ss_one (s_ret (q_joined (j_cons q_str (j_cons (q_fmt (q_ix (qv 0) q_int)) (j_cons q_str (j_cons (q_fmt (q_cal CExpressionText (by first | decide | exact Nat.le_refl _ | omega) hr tk (by rfl) (a_cons (q_ix (qv 0) q_int) a_nil))) j_nil))))))) ss_nil)
  (ss_cons (s_if (t_cmp (oq_eqU hr.units) (q_ix (qv 0) q_int) q_str) (ss_cons (s_par 1 2 rfl scLineOf.nd (a_cons (q_cal CExpressionText (by first | decide | exact Nat.le_refl _ | omega) hr tk (by rfl) (a_cons (q_ix (qv 0) q_int) a_nil)) (a_cons (q_cal CExpressionText (by first | decide | exact Nat.le_refl _ | omega) hr tk (by rfl) (a_cons (q_ix (qv 0) q_int) a_nil)) a_nil)))
  (ss_one (s_ret (q_joined (j_cons q_str (j_cons (q_fmt (qv 1)) (j_cons q_str (j_cons (q_fmt (q_ixKD Z.d_TESTS (q_globD Z.g_TESTS (by rfl)) (q_ix (qv 0) q_int))) (j_cons q_str (j_cons (q_fmt (qv 2)) j_nil)))))))))) ss_nil)
  (ss_cons (s_if (t_cmp (oq_eqU hr.units) (q_ix (qv 0) q_int) q_str) (ss_one (s_ret (q_joined (j_cons q_str (j_cons (q_fmt (q_ix (qv 0) q_int)) j_nil))))) ss_nil)
  (ss_one (s_ret (q_joined (j_cons q_str (j_cons (q_fmt (q_cal CExpressionText (by first | decide | exact Nat.le_refl _ | omega) hr tk (by rfl) (a_cons (q_ix (qv 0) q_int) a_nil))) j_nil)))))))), ?_⟩
    clear tk hp
    rintro ds L k x ⟨s, m, rfl, hs, h⟩
    have lz : ∀ i : Nat, i ≤ 100000 → i ≤ sizeLine := fun i h => Nat.le_trans h (by decide)
    have q1 : (Str.ofString "let ").length = 4 := by decide
    have q2 : (Str.ofString " = ").length = 3 := by decide
    have q3 : (Str.ofString "if ").length = 3 := by decide
    have q4 : (Str.ofString " ").length = 1 := by decide
    have q5 : (Str.ofString "repeat ").length = 7 := by decide
    have q6 : (Str.ofString "stop ").length = 5 := by decide
    have qe : Str.empty.length = 0 := rfl
    cases s with
    | letS z e =>
      unfold smT at hs
      have n1 := nameOk_len hs.1
      have n2 := exT_le hs.2
      walk_at "s"
      repeat (refine ⟨lz _ (by (try simp only [str_len]); omega), ?_⟩; walk_at "s")
      obtain ⟨ns, ks, w1, w2, w3, w4⟩ := hs.2
      refine ⟨e, ns, ks, rfl, w1, by omega, by decide, w3, w4, ?_⟩
      walk_at "s"
      repeat (refine ⟨lz _ (by (try simp only [str_len]); omega), ?_⟩; walk_at "s")

      rw [str_empty]
      exact h
    | stop e =>
      unfold smT at hs
      have n2 := exT_le hs
      walk_at "s"
      repeat (refine ⟨lz _ (by (try simp only [str_len]); omega), ?_⟩; walk_at "s")
      obtain ⟨ns, ks, w1, w2, w3, w4⟩ := hs
      refine ⟨e, ns, ks, rfl, w1, by omega, by decide, w3, w4, ?_⟩
      walk_at "s"
      repeat (refine ⟨lz _ (by (try simp only [str_len]); omega), ?_⟩; walk_at "s")

      rw [str_empty]
      exact h
    | rep n b =>
      unfold smT at hs
      have n2 := rep_le hs.1
      have n9 := hs.1
      walk_at "s"
      repeat (refine ⟨lz _ (by (try simp only [str_len]); omega), ?_⟩; walk_at "s")
      refine ⟨Nat.lt_of_le_of_lt (Nat.log2_le_self _) (by show Int.natAbs _ < 1920; omega), ?_⟩
      walk_at "s"
      repeat (refine ⟨lz _ (by (try simp only [str_len]); omega), ?_⟩; walk_at "s")
      rw [str_empty]
      exact h
    | ifS t a b p q =>
      unfold smT at hs
      have n1 := exT_le hs.2.1
      have n2 := exT_le hs.2.2.1
      have ht := hs.1
      unfold tests at ht
      simp only [List.mem_cons, List.not_mem_nil, or_false] at ht
      have q7 : (Str.ofString "<").length = 1 := by decide
      have q8 : (Str.ofString "=").length = 1 := by decide
      have q9 : (Str.ofString "<=").length = 2 := by decide
      have tw : ∀ u v : Str, " " ++ v ++ " " = u → Str.empty ++ "if " ++ exT a ++ " " ++ v ++ " " ++ exT b = "if " ++ exT a ++ u ++ exT b := fun u v e => by
        rw [str_empty, ← e]
        simp only [str_assoc]
      rcases ht with rfl | rfl | rfl
      · skip
        walk_at "s"
        repeat (refine ⟨lz _ (by (try simp only [str_len]); omega), ?_⟩; walk_at "s")
        obtain ⟨ns, ks, w1, w2, w3, w4⟩ := hs.2.1
        refine ⟨a, ns, ks, rfl, w1, by omega, by decide, w3, w4, ?_⟩
        walk_at "s"
        repeat (refine ⟨lz _ (by (try simp only [str_len]); omega), ?_⟩; walk_at "s")
        obtain ⟨ns, ks, w1, w2, w3, w4⟩ := hs.2.2.1
        refine ⟨b, ns, ks, rfl, w1, by omega, by decide, w3, w4, ?_⟩
        walk_at "s"
        repeat (refine ⟨lz _ (by (try simp only [str_len]); omega), ?_⟩; walk_at "s")

        rw [tw " < " "<" (by decide +kernel)]
        exact h
      · skip
        walk_at "s"
        repeat (refine ⟨lz _ (by (try simp only [str_len]); omega), ?_⟩; walk_at "s")
        obtain ⟨ns, ks, w1, w2, w3, w4⟩ := hs.2.1
        refine ⟨a, ns, ks, rfl, w1, by omega, by decide, w3, w4, ?_⟩
        walk_at "s"
        repeat (refine ⟨lz _ (by (try simp only [str_len]); omega), ?_⟩; walk_at "s")
        obtain ⟨ns, ks, w1, w2, w3, w4⟩ := hs.2.2.1
        refine ⟨b, ns, ks, rfl, w1, by omega, by decide, w3, w4, ?_⟩
        walk_at "s"
        repeat (refine ⟨lz _ (by (try simp only [str_len]); omega), ?_⟩; walk_at "s")

        rw [tw " = " "=" (by decide +kernel)]
        exact h
      · skip
        walk_at "s"
        repeat (refine ⟨lz _ (by (try simp only [str_len]); omega), ?_⟩; walk_at "s")
        obtain ⟨ns, ks, w1, w2, w3, w4⟩ := hs.2.1
        refine ⟨a, ns, ks, rfl, w1, by omega, by decide, w3, w4, ?_⟩
        walk_at "s"
        repeat (refine ⟨lz _ (by (try simp only [str_len]); omega), ?_⟩; walk_at "s")
        obtain ⟨ns, ks, w1, w2, w3, w4⟩ := hs.2.2.1
        refine ⟨b, ns, ks, rfl, w1, by omega, by decide, w3, w4, ?_⟩
        walk_at "s"
        repeat (refine ⟨lz _ (by (try simp only [str_len]); omega), ?_⟩; walk_at "s")

        rw [tw " <= " "<=" (by decide +kernel)]
        exact h

  · rintro ds L k x ⟨s, m, rfl, _⟩; rfl
theorem scLinesOf : FnScope ["program", "found", "statement"] ["program"] (defScope sLinesOf) := ⟨rfl, rfl, rfl, by decide +kernel, rfl, by decide +kernel, by decide +kernel⟩
theorem ok_LinesOf {f : Addr} {fd : FuncData} (Z : Zn w K mg pS pT pW) (F : Fun K "lines_of" "lines_of" sLinesOf f fd) (CLineOf : Cal P w K mg base 8 "line_of" ["statement"] [] lnS) (CLinesOf : Cal P w K mg base (m + 8) "lines_of" ["program"] [] (lsS m)) : FnOk P w K mg base (L2.CX P w) (m + 9) f fd ["program"] (spD K (lsS (m + 1))) := by
  refine fn_ok F scLinesOf ?len (fun cdv A outer s H E hr => ?_)
  rotate_left
  · have tk := takes_of (X := cxOf (L2.CX P w) P w K mg base ["program", "found", "statement"] "lines_of" (defScope sLinesOf) f cdv A outer s H E) (E := E) rfl rfl rfl rfl
    have hp := passes_of (X := cxOf (L2.CX P w) P w K mg base ["program", "found", "statement"] "lines_of" (defScope sLinesOf) f cdv A outer s H E) rfl
    refine ⟨_, (ss_cons (s_set 1 scLinesOf.nd (q_lstM a_nil))
  (ss_cons (s_for hp rfl (i_tup (qv 0)) (g_name 2 scLinesOf.nd) (ss_cons (s_expr (q_append (qv 1) (q_cal CLineOf (by first | decide | exact Nat.le_refl _ | omega) hr tk (by rfl) (a_cons (qv 2) a_nil))))
  (ss_one (s_if (t_cmp (oq_eqU hr.units) (q_ix (qv 2) q_int) q_str) (ss_one (s_aug 1 scLinesOf.nd (q_op oq_add (q_cal CLinesOf (by first | decide | exact Nat.le_refl _ | omega) hr tk (by rfl) (a_cons (q_ix (qv 2) q_int) a_nil)) (q_lst (a_cons q_str a_nil))) ip_addQ)) (ss_one (s_if (t_cmp (oq_eqU hr.units) (q_ix (qv 2) q_int) q_str) (ss_cons (s_aug 1 scLinesOf.nd (q_cal CLinesOf (by first | decide | exact Nat.le_refl _ | omega) hr tk (by rfl) (a_cons (q_ix (qv 2) q_int) a_nil)) ip_addQ)
  (ss_cons (s_if (t_cmp (oq_neE hr.units) (q_ix (qv 2) q_int) (q_tup a_nil)) (ss_one (s_aug 1 scLinesOf.nd (q_op oq_add (q_lst (a_cons q_str a_nil)) (q_cal CLinesOf (by first | decide | exact Nat.le_refl _ | omega) hr tk (by rfl) (a_cons (q_ix (qv 2) q_int) a_nil))) ip_addQ)) ss_nil)
  (ss_one (s_expr (q_append (qv 1) q_str))))) ss_nil))))))
  (ss_one (s_ret (q_seal 1))))), ?_⟩
    clear tk hp
    rintro ds L k x ⟨l, m', rfl, hm, hs, hc, h⟩
    cases hm
    have hL := linesB_le m l hs
    have hl9 := len_chars (linesB l)
    walk_at "s"
    intro p hp
    have st : ∀ (v c : D), setL ((p, c) :: L) p v = (p, v) :: L := fun v c => setL_top hp
    have lz : ∀ i : Nat, i ≤ 100000 → i < sizeLine := fun i h => Nat.lt_of_le_of_lt h (by decide)
    walk_at "w"
    refine forD_rec (fun r env L' => ∃ (l' : List Sm) (pre : List Str) (o2 : Option D), r = Sm.ds l' ∧ env = [some (.tup (Sm.ds l)), some (.ptr p), o2] ∧ L' = (p, .lst (pre.map D.str)) :: L ∧ smsT m l' ∧ cntB l' ≤ 80 ∧ pre ++ linesB l' = linesB l) ?step ?fin _ _ _ ⟨l, [], none, rfl, rfl, rfl, hs, hc, rfl⟩
    case fin =>
      rintro env L' ⟨l', pre, o2, hr, rfl, rfl, hs, hc, he⟩
      cases l' with
      | cons a b => cases hr
      | nil =>
        walk_at "w"
        rw [lookup_top]
        walk_at "w"
        rw [remL_top hp]
        have he : pre ++ [] = linesB l := he
        rw [List.append_nil] at he
        rw [he]
        exact h
    case step =>
      clear hs
      rintro E' s r env L' hrt hex hbk hct ⟨l', pre, o2, hr, rfl, rfl, hs, hc, he⟩ hnx
      cases l' with
      | nil => cases hr
      | cons s r =>
      cases hr
      have hs2 : smT m s ∧ smsT m r := by unfold smsT at hs; exact hs
      have hc2 : cntS s + cntB r ≤ 80 := hc
      have he : pre ++ (lineT s :: (restS s ++ linesB r)) = linesB l := he
      have hlen : pre.length + 1 + (restS s).length ≤ 99000 := by
        have h1 := congrArg List.length he
        rw [List.length_append, List.length_cons, List.length_append] at h1
        omega
      have go : ∀ env L', (∃ o, env = [some (.tup (Sm.ds l)), some (.ptr p), o]) → L' = (p, .lst ((pre ++ lineT s :: restS s).map D.str)) :: L → E'.nx env L' := fun env L' ⟨o, e1⟩ e2 => hnx _ _ ⟨r, pre ++ lineT s :: restS s, o, rfl, e1, e2, hs2.2, by omega, by rw [← he]; simp⟩
      have s1 := hs2.1
      clear hnx he hs hs2
      walk_at "w"
      rw [lookup_top]
      walk_at "w"
      refine ⟨s, m, rfl, s1, ?_⟩
      walk_at "w"
      rw [lookup_top]
      walk_at "w"
      refine ⟨lz _ (by rw [List.length_map]; omega), ?_⟩
      rw [st]
      have e0 : ∀ z : Str, pre.map D.str ++ [D.str z] = (pre ++ [z]).map D.str := fun z => by rw [List.map_append]; rfl
      cases s with
      | letS z e =>
        walk_at "s"
        exact go _ _ ⟨_, rfl⟩ (by rw [e0]; rfl)
      | stop e =>
        walk_at "s"
        exact go _ _ ⟨_, rfl⟩ (by rw [e0]; rfl)
      | rep n b =>
        unfold smT at s1
        obtain ⟨_, m1, em, hb⟩ := s1
        walk_at "s"
        refine ⟨b, m1, rfl, em, hb, ?_, ?_⟩
        · have : cntB b + 1 + cntB r ≤ 80 := hc2
          omega
        have hlen : pre.length + 1 + (linesB b ++ (["end"] : List Str)).length ≤ 99000 := hlen
        rw [List.length_append, List.length_singleton] at hlen
        walk_at "s"
        refine ⟨Nat.le_of_lt (lz _ (by rw [List.length_map]; show (linesB b).length + 1 ≤ 100000; omega)), ?_⟩
        walk_at "w"
        rw [lookup_top]
        walk_at "w"
        refine ⟨Nat.le_of_lt (lz _ ?_), ?_⟩
        · rw [List.length_append, List.length_append, List.length_map, List.length_map]
          show pre.length + 1 + ((linesB b).length + 1) ≤ 100000
          omega
        rw [st]
        refine go _ _ ⟨_, rfl⟩ ?_
        show (p, D.lst (pre.map D.str ++ [D.str (lineT (.rep n b))] ++ ((linesB b).map D.str ++ [D.str "end"]))) :: L = (p, D.lst ((pre ++ lineT (.rep n b) :: (linesB b ++ (["end"] : List Str))).map D.str)) :: L
        congr 3
        simp
      | ifS t a b u v =>
        unfold smT at s1
        obtain ⟨_, _, _, m1, em, hu, hv⟩ := s1
        have hcc : cntB u + cntB v + 1 + cntB r ≤ 80 := hc2
        have hlen : pre.length + 1 + (linesB u ++ ((if v.isEmpty = true then ([] : List Str) else ("else" : Str) :: linesB v) ++ (["end"] : List Str))).length ≤ 99000 := hlen
        rw [List.length_append, List.length_append, List.length_singleton] at hlen
        have go : ∀ env L', (∃ o, env = [some (.tup (Sm.ds l)), some (.ptr p), o]) → L' = (p, .lst ((pre ++ lineT (.ifS t a b u v) :: (linesB u ++ ((if v.isEmpty = true then ([] : List Str) else ("else" : Str) :: linesB v) ++ (["end"] : List Str)))).map D.str)) :: L → E'.nx env L' := go
        walk_at "s"
        refine ⟨u, m1, rfl, em, hu, by omega, ?_⟩
        walk_at "w"
        rw [lookup_top]
        walk_at "w"
        refine ⟨Nat.le_of_lt (lz _ ?_), ?_⟩
        · rw [List.length_append, List.length_map, List.length_map]
          show pre.length + 1 + (linesB u).length ≤ 100000
          omega
        rw [st]
        cases v with
        | nil =>
          walk_at "s"
          rw [lookup_top]
          walk_at "w"
          rw [lookup_top]
          walk_at "w"
          refine ⟨lz _ ?_, ?_⟩
          · rw [List.length_append, List.length_append, List.length_map, List.length_map]
            show pre.length + 1 + (linesB u).length ≤ 100000
            omega
          rw [st]
          refine go _ _ ⟨_, rfl⟩ ?_
          show (p, D.lst (pre.map D.str ++ [D.str (lineT (.ifS t a b u []))] ++ (linesB u).map D.str ++ [D.str "end"])) :: L = (p, D.lst ((pre ++ lineT (.ifS t a b u []) :: (linesB u ++ (([] : List Str) ++ (["end"] : List Str)))).map D.str)) :: L
          congr 3
          simp
        | cons v0 vr =>
          rw [if_neg (by simp)] at hlen
          rw [List.length_cons] at hlen
          walk_at "s"
          refine ⟨v0 :: vr, m1, rfl, em, hv, by omega, ?_⟩
          walk_at "w"
          refine ⟨Nat.le_of_lt (lz _ (by rw [List.length_map]; show 1 + (linesB (v0 :: vr)).length ≤ 100000; omega)), ?_⟩
          walk_at "w"
          rw [lookup_top]
          walk_at "w"
          refine ⟨Nat.le_of_lt (lz _ ?_), ?_⟩
          · rw [List.length_append, List.length_append, List.length_append, List.length_map, List.length_map, List.length_map]
            show pre.length + 1 + (linesB u).length + (1 + (linesB (v0 :: vr)).length) ≤ 100000
            omega
          rw [st]
          walk_at "w"
          rw [lookup_top]
          walk_at "w"
          rw [lookup_top]
          walk_at "w"
          refine ⟨lz _ ?_, ?_⟩
          · rw [List.length_append, List.length_append, List.length_append, List.length_append, List.length_map, List.length_map, List.length_map]
            show pre.length + 1 + (linesB u).length + (1 + (linesB (v0 :: vr)).length) ≤ 100000
            omega
          rw [st]
          refine go _ _ ⟨_, rfl⟩ ?_
          show (p, D.lst (pre.map D.str ++ [D.str (lineT (.ifS t a b u (v0 :: vr)))] ++ (linesB u).map D.str ++ ([D.str "else"] ++ (linesB (v0 :: vr)).map D.str) ++ [D.str "end"])) :: L = (p, D.lst ((pre ++ lineT (.ifS t a b u (v0 :: vr)) :: (linesB u ++ ((("else" : Str) :: linesB (v0 :: vr)) ++ (["end"] : List Str)))).map D.str)) :: L
          congr 3
          simp
  · rintro ds L k x ⟨l, m', rfl, _⟩; rfl
theorem scProgramText : FnScope ["program", "line"] ["program"] (defScope sProgramText) := ⟨rfl, rfl, rfl, by decide +kernel, rfl, by decide +kernel, by decide +kernel⟩
theorem ok_ProgramText {f : Addr} {fd : FuncData} (Z : Zn w K mg pS pT pW) (F : Fun K "program_text" "program_text" sProgramText f fd) (CLinesOf : Cal P w K mg base 14 "lines_of" ["program"] [] (lsS 6)) : FnOk P w K mg base (L2.CX P w) 15 f fd ["program"] (spD K ptS) := by
  refine fn_ok F scProgramText ?len (fun cdv A outer s H E hr => ?_)
  rotate_left
  · have tk := takes_of (X := cxOf (L2.CX P w) P w K mg base ["program", "line"] "program_text" (defScope sProgramText) f cdv A outer s H E) (E := E) rfl rfl rfl rfl
    have hp := passes_of (X := cxOf (L2.CX P w) P w K mg base ["program", "line"] "program_text" (defScope sProgramText) f cdv A outer s H E) rfl
    refine ⟨_, (ss_one (s_ret (q_join q_str (q_lc rfl scProgramText.nd (i_list (q_cal CLinesOf (by first | decide | exact Nat.le_refl _ | omega) hr tk (by rfl) (a_cons (qv 0) a_nil))) (blkOk_by (own := [("line", 1)]) (N := ["program", "line"]) (sc := (defScope sProgramText)) (by decide +kernel)) (fun _ _ _ _ _ => (g_name 1 scProgramText.nd)) (fun _ _ _ _ _ => ts_nil) (fun _ _ _ _ _ => (q_op oq_add (qv 1) q_str)))))), ?_⟩
    clear tk hp
    rintro ds L k x ⟨l, m', rfl, hm, hs, hc, h⟩
    walk_at "s"
    refine ⟨l, 5, rfl, rfl, smsT_mono _ _ _ hm hs, hc, ?_⟩
    walk_at "w"
    intro p hp
    have hn := linesB_n l
    have hL := linesB_le m' l hs
    refine lcD_yes hp _ ((linesB l).map fun z => D.str (z ++ "\n")) [] (by rw [List.length_map, List.length_map]) (by rw [List.length_map]; show 0 + _ ≤ 1000; omega) (plns_map (fun _ => by unfold pln; rfl) _) (by unfold plns; rfl) (fun i d r e1 e2 acc' K' pa hK => ?_) ?_
    · rw [List.getElem?_map] at e1 e2
      cases ec : (linesB l)[i]? with
      | none => rw [ec] at e1; cases e1
      | some y =>
        rw [ec] at e1 e2
        cases e1
        cases e2
        have hy : y.length ≤ 99000 := by
          have h1 : charsL [y] ≤ charsL (linesB l) := by
            have hmem := List.mem_of_getElem? ec
            obtain ⟨u, v, e⟩ := List.append_of_mem hmem
            have e5 : charsL (u ++ y :: v) = charsL u + (y.length + 1 + charsL v) := by rw [charsL_app, charsL_cons]
            rw [e, e5]
            show y.length + 1 + 0 ≤ _
            omega
          have h2 : charsL [y] = y.length + 1 := rfl
          omega
        walk_at "w"
        exact ⟨Nat.le_trans (show y.length + ("\n" : Str).length ≤ 100000 by rw [show ("\n" : Str).length = 1 by decide]; omega) (by decide), hK⟩
    · have e : ([] : List D) ++ (linesB l).map (fun z => D.str (z ++ "\n")) = ((linesB l).map fun z : Str => z ++ "\n").map D.str := by rw [List.map_map]; rfl
      rw [e]
      show (match strsOf (((linesB l).map fun z : Str => z ++ "\n").map D.str) with | some ys => _ | none => False)
      rw [strsOf_map]
      refine ⟨?_, h⟩
      have e2 : (((linesB l).map fun z : Str => z ++ "\n").map (·.length)).sum = charsL (linesB l) := by
        unfold charsL
        rw [List.map_map]
        congr 1
        refine List.map_congr_left fun z _ => ?_
        show (z ++ "\n").length = z.length + 1
        rw [str_len]
        rfl
      rw [e2, show ("" : Str).length = 0 by decide, Nat.mul_zero]
      omega

  · rintro ds L k x ⟨l, m', rfl, _⟩; rfl
end
end T25

namespace T25
open PySem L2 DL TL NumText
section
variable {P : Program} {w : World} {K : PySem.W.Frag} {mg : Str → Option Value} {base : Heap} {pS pT pW : Addr}
local macro_rules | `(tactic| walk_at "w") => `(tactic| conv => whnf)
local macro_rules | `(tactic| walk_at "v") => `(tactic| ((conv => whnf); try dsimp only))
local macro_rules | `(tactic| walk_at "s") => `(tactic| ((conv => whnf); repeat ((first | refine ⟨sz_ok rfl, ?_⟩ | refine ⟨rfl, ?_⟩); conv => whnf)))
theorem scLLines : FnScope ["_law_program_z", "_law_found", "_law_one", "_law_sign_z"] ["_law_program_z"] (defScope sLLines) := ⟨rfl, rfl, rfl, by decide +kernel, rfl, by decide +kernel, by decide +kernel⟩
theorem ok_LLines {f : Addr} {fd : FuncData} (Z : Zn w K mg pS pT pW) (F : Fun K "_law_lines" "_law_lines" sLLines f fd) (CLExpressionText : Cal P w K mg base 7 "_law_expression_text" ["_law_one"] [] (txS 7)) (CLLines : Cal P w K mg base (m + 8) "_law_lines" ["_law_program_z"] [] (lsS m)) : FnOk P w K mg base (L2.CX P w) (m + 9) f fd ["_law_program_z"] (spD K (llR (m + 1))) := by
  refine fn_ok F scLLines ?len (fun cdv A outer s H E hr => ?_)
  rotate_left
  · have tk := takes_of (X := cxOf (L2.CX P w) P w K mg base ["_law_program_z", "_law_found", "_law_one", "_law_sign_z"] "_law_lines" (defScope sLLines) f cdv A outer s H E) (E := E) rfl rfl rfl rfl
    have hp := passes_of (X := cxOf (L2.CX P w) P w K mg base ["_law_program_z", "_law_found", "_law_one", "_law_sign_z"] "_law_lines" (defScope sLLines) f cdv A outer s H E) rfl
    refine ⟨_, (ss_cons (s_set 1 scLLines.nd (q_lstM a_nil))
  (ss_cons (s_for hp rfl (i_tup (qv 0)) (g_name 2 scLLines.nd) (ss_one (s_if (t_cmp (oq_eqU hr.units) (q_ix (qv 2) q_int) q_str) (ss_one (s_expr (q_append (qv 1) (q_op oq_add (q_op oq_add (q_op oq_add q_str (q_ix (qv 2) q_int)) q_str) (q_cal CLExpressionText (by first | decide | exact Nat.le_refl _ | omega) hr tk (by rfl) (a_cons (q_ix (qv 2) q_int) a_nil)))))) (ss_one (s_if (t_cmp (oq_eqU hr.units) (q_ix (qv 2) q_int) q_str) (ss_one (s_expr (q_append (qv 1) (q_op oq_add q_str (q_cal CLExpressionText (by first | decide | exact Nat.le_refl _ | omega) hr tk (by rfl) (a_cons (q_ix (qv 2) q_int) a_nil)))))) (ss_one (s_if (t_cmp (oq_eqU hr.units) (q_ix (qv 2) q_int) q_str) (ss_one (s_set 1 scLLines.nd (q_addM (q_op oq_add (q_op oq_add (qv 1) (q_lst (a_cons (q_op oq_add q_str (q_callTy cq_strA (by rfl) Z.z_str bb_str (a_cons (q_ix (qv 2) q_int) a_nil))) a_nil))) (q_cal CLLines (by first | decide | exact Nat.le_refl _ | omega) hr tk (by rfl) (a_cons (q_ix (qv 2) q_int) a_nil))) (q_lst (a_cons q_str a_nil))))) (ss_cons (s_set 3 scLLines.nd (q_ixDk hr.units (q_disp (p_cons q_str q_str (p_cons q_str q_str (p_cons q_str q_str p_nil)))) (q_ix (qv 2) q_int)))
  (ss_cons (s_expr (q_append (qv 1) (q_op oq_add (q_op oq_add (q_op oq_add q_str (q_cal CLExpressionText (by first | decide | exact Nat.le_refl _ | omega) hr tk (by rfl) (a_cons (q_ix (qv 2) q_int) a_nil))) (qv 3)) (q_cal CLExpressionText (by first | decide | exact Nat.le_refl _ | omega) hr tk (by rfl) (a_cons (q_ix (qv 2) q_int) a_nil)))))
  (ss_cons (s_set 1 scLLines.nd (q_addM (qv 1) (q_cal CLLines (by first | decide | exact Nat.le_refl _ | omega) hr tk (by rfl) (a_cons (q_ix (qv 2) q_int) a_nil))))
  (ss_cons (s_if (t_cmp (oq_neE hr.units) (q_ix (qv 2) q_int) (q_tup a_nil)) (ss_one (s_set 1 scLLines.nd (q_addM (q_op oq_add (qv 1) (q_lst (a_cons q_str a_nil))) (q_cal CLLines (by first | decide | exact Nat.le_refl _ | omega) hr tk (by rfl) (a_cons (q_ix (qv 2) q_int) a_nil))))) ss_nil)
  (ss_one (s_expr (q_append (qv 1) q_str))))))))))))))
  (ss_one (s_ret (q_seal 1))))), ?_⟩
    clear tk hp
    rintro ds L k x ⟨l, m', rfl, hm, hs, hc, h⟩
    cases hm
    have hL := linesB_le m l hs
    have hl9 := len_chars (linesB l)
    walk_at "s"
    intro p hp
    have lz : ∀ i : Nat, i ≤ 100000 → i < sizeLine := fun i h => Nat.lt_of_le_of_lt h (by decide)
    have lz' : ∀ i : Nat, i ≤ 100000 → i ≤ sizeLine := fun i h => Nat.le_of_lt (lz i h)
    walk_at "w"
    refine forD_rec (fun r env L' => ∃ (l' : List Sm) (pre : List Str) (p : Addr) (o2 o3 : Option D), r = Sm.ds l' ∧ env = [some (.tup (Sm.ds l)), some (.ptr p), o2, o3] ∧ L'.lookup p = some (.lst (pre.map D.str)) ∧ keepL L L' = L ∧ ¬ inL L p ∧ smsT m l' ∧ cntB l' ≤ 80 ∧ pre ++ linesB l' = linesB l) ?step ?fin _ _ _ ⟨l, [], p, none, none, rfl, rfl, lookup_top, by rw [keep_out hp]; exact keep_same rfl, hp, hs, hc, rfl⟩
    case fin =>
      rintro env L' ⟨l', pre, p, o2, o3, hr, rfl, hp, hk, hpl, hs, hc, he⟩
      cases l' with
      | cons a b => cases hr
      | nil =>
        walk_at "w"
        rw [hp]
        walk_at "w"
        have he : pre ++ [] = linesB l := he
        rw [List.append_nil] at he
        rw [he]
        exact h _ (by rw [keep_rem hpl]; exact hk)
    case step =>
      clear hs hp p
      rintro E' s r env L' hrt hex hbk hct ⟨l', pre, p, o2, o3, hr, rfl, hp, hk, hpl, hs, hc, he⟩ hnx
      cases l' with
      | nil => cases hr
      | cons s r =>
      cases hr
      have hs2 : smT m s ∧ smsT m r := by unfold smsT at hs; exact hs
      have hc2 : cntS s + cntB r ≤ 80 := hc
      have he : pre ++ (lineT s :: (restS s ++ linesB r)) = linesB l := he
      have hlen : pre.length + 1 + (restS s).length ≤ 99000 := by
        have h1 := congrArg List.length he
        rw [List.length_append, List.length_cons, List.length_append] at h1
        omega
      have go : ∀ env L' p, (∃ o o', env = [some (.tup (Sm.ds l)), some (.ptr p), o, o']) → L'.lookup p = some (.lst ((pre ++ lineT s :: restS s).map D.str)) → keepL L L' = L → ¬ inL L p → E'.nx env L' := fun env L' p ⟨o, o', e1⟩ e2 e3 e4 => hnx _ _ ⟨r, pre ++ lineT s :: restS s, p, o, o', rfl, e1, e2, e3, e4, hs2.2, by omega, by rw [← he]; simp⟩
      have s1 := hs2.1
      clear hnx he hs hs2
      have e0 : ∀ z : Str, pre.map D.str ++ [D.str z] = (pre ++ [z]).map D.str := fun z => by rw [List.map_append]; rfl
      have q1 : (Str.ofString "let ").length = 4 := by decide
      have q2 : (Str.ofString " = ").length = 3 := by decide
      have q3 : (Str.ofString "if ").length = 3 := by decide
      have q5 : (Str.ofString "repeat ").length = 7 := by decide
      have q6 : (Str.ofString "stop ").length = 5 := by decide
      have hcon : con L' (.ptr p) = .lst (pre.map D.str) := by show (L'.lookup p).getD _ = _; rw [hp]; rfl
      cases s with
      | letS z e =>
        unfold smT at s1
        have n1 := nameOk_len s1.1
        have n2 := exT_le s1.2
        obtain ⟨ns, ks, w1, w2, w3, w4⟩ := s1.2
        walk_at "s"
        rw [hp]
        walk_at "w"
        refine ⟨lz' _ (by omega), ?_⟩
        walk_at "w"
        refine ⟨lz' _ (by simp only [str_len]; omega), ?_⟩
        walk_at "w"
        refine ⟨e, ns, ks, rfl, w1, by omega, by decide, w3, w4, ?_⟩
        walk_at "w"
        refine ⟨lz' _ (by simp only [str_len]; omega), ?_⟩
        walk_at "w"
        rw [hp]
        walk_at "w"
        refine ⟨lz _ (by rw [List.length_map]; omega), ?_⟩
        walk_at "w"
        exact go _ _ _ ⟨_, _, rfl⟩ (by rw [lookup_setL hp, e0]; rfl) (by rw [keep_set hpl]; exact hk) hpl
      | stop e =>
        unfold smT at s1
        have n2 := exT_le s1
        obtain ⟨ns, ks, w1, w2, w3, w4⟩ := s1
        walk_at "s"
        rw [hp]
        walk_at "w"
        refine ⟨e, ns, ks, rfl, w1, by omega, by decide, w3, w4, ?_⟩
        walk_at "w"
        refine ⟨lz' _ (by omega), ?_⟩
        walk_at "w"
        rw [hp]
        walk_at "w"
        refine ⟨lz _ (by rw [List.length_map]; omega), ?_⟩
        walk_at "w"
        exact go _ _ _ ⟨_, _, rfl⟩ (by rw [lookup_setL hp, e0]; rfl) (by rw [keep_set hpl]; exact hk) hpl
      | rep n b =>
        unfold smT at s1
        obtain ⟨n9, m1, em, hb⟩ := s1
        have n2 := rep_le n9
        have hlen : pre.length + 1 + (linesB b ++ (["end"] : List Str)).length ≤ 99000 := hlen
        rw [List.length_append, List.length_singleton] at hlen
        walk_at "s"
        refine ⟨Nat.lt_of_le_of_lt (Nat.log2_le_self _) (by show Int.natAbs _ < 1920; omega), ?_⟩
        walk_at "w"
        refine ⟨lz' _ (by omega), ?_⟩
        walk_at "s"
        rw [hcon]
        walk_at "w"
        refine ⟨lz' _ (by rw [List.length_map]; show pre.length + 1 ≤ 100000; omega), ?_⟩
        walk_at "w"
        refine ⟨b, m1, rfl, em, hb, ?_, ?_⟩
        · have : cntB b + 1 + cntB r ≤ 80 := hc2
          omega
        walk_at "w"
        refine ⟨lz' _ (by rw [List.length_append, List.length_map, List.length_map]; show pre.length + 1 + (linesB b).length ≤ 100000; omega), ?_⟩
        walk_at "s"
        refine ⟨lz' _ (by rw [List.length_append, List.length_append, List.length_map, List.length_map]; show pre.length + 1 + (linesB b).length + 1 ≤ 100000; omega), fun p' hp' => ?_⟩
        walk_at "w"
        have np : ¬ inL L p' := fun m => hp' (keep_keys hk _ m)
        refine go _ _ _ ⟨_, _, rfl⟩ ?_ (by rw [keep_out np]; exact hk) np
        rw [lookup_top]
        congr 2
        show pre.map D.str ++ [D.str (lineT (.rep n b))] ++ (linesB b).map D.str ++ [D.str "end"] = (pre ++ lineT (.rep n b) :: (linesB b ++ (["end"] : List Str))).map D.str
        simp
      | ifS t a b u v =>
        unfold smT at s1
        obtain ⟨ht, ha, hb, m1, em, hu, hv⟩ := s1
        have hcc : cntB u + cntB v + 1 + cntB r ≤ 80 := hc2
        replace hlen : pre.length + 1 + (linesB u ++ ((if v.isEmpty = true then ([] : List Str) else ("else" : Str) :: linesB v) ++ (["end"] : List Str))).length ≤ 99000 := hlen
        rw [List.length_append, List.length_append, List.length_singleton] at hlen
        replace go : ∀ env L' p, (∃ o o', env = [some (.tup (Sm.ds l)), some (.ptr p), o, o']) → L'.lookup p = some (.lst ((pre ++ lineT (.ifS t a b u v) :: (linesB u ++ ((if v.isEmpty = true then ([] : List Str) else ("else" : Str) :: linesB v) ++ (["end"] : List Str)))).map D.str)) → keepL L L' = L → ¬ inL L p → E'.nx env L' := go
        have n1 := exT_le ha
        have n2 := exT_le hb
        have n3 := tsW_le t
        obtain ⟨ns, ks, w1, w2, w3, w4⟩ := ha
        obtain ⟨ns', ks', v1, v2, v3, v4⟩ := hb
        unfold tests at ht
        simp only [List.mem_cons, List.not_mem_nil, or_false] at ht
        rcases ht with rfl | rfl | rfl
        · skip
          have etw : tsW "less" = " < " := by decide +kernel
          have elt : lineT (.ifS "less" a b u v) = "if " ++ exT a ++ " < " ++ exT b := by show "if " ++ exT a ++ tsW "less" ++ exT b = _; rw [etw]
          rw [elt] at go
          rw [etw] at n3
          walk_at "s"
          intro pd hpd
          walk_at "s"
          refine ⟨⟨lookup_top, by decide +kernel, by decide⟩, ?_⟩
          rw [remL_top hpd]
          walk_at "w"
          rw [hp]
          walk_at "w"
          refine ⟨a, ns, ks, rfl, w1, by omega, by decide, w3, w4, ?_⟩
          walk_at "w"
          refine ⟨lz' _ (by omega), ?_⟩
          walk_at "w"
          refine ⟨lz' _ (by simp only [str_len]; omega), ?_⟩
          walk_at "w"
          refine ⟨b, ns', ks', rfl, v1, by omega, by decide, v3, v4, ?_⟩
          walk_at "w"
          refine ⟨lz' _ (by simp only [str_len]; omega), ?_⟩
          walk_at "w"
          rw [hp]
          walk_at "w"
          refine ⟨lz _ (by rw [List.length_map]; omega), ?_⟩
          have hp2 : (setL L' p (.lst (pre.map D.str ++ [.str ("if " ++ exT a ++ " < " ++ exT b)]))).lookup p = some (.lst (pre.map D.str ++ [.str ("if " ++ exT a ++ " < " ++ exT b)])) := lookup_setL hp
          have hk2 : keepL L (setL L' p (.lst (pre.map D.str ++ [.str ("if " ++ exT a ++ " < " ++ exT b)]))) = L := by rw [keep_set hpl]; exact hk
          generalize setL L' p (.lst (pre.map D.str ++ [.str ("if " ++ exT a ++ " < " ++ exT b)])) = L2 at hp2 hk2 ⊢
          clear hcon hp hk
          walk_at "w"
          refine ⟨u, m1, rfl, em, hu, by omega, ?_⟩
          walk_at "w"
          rw [show con L2 (.ptr p) = .lst (pre.map D.str ++ [.str ("if " ++ exT a ++ " < " ++ exT b)]) by show (L2.lookup p).getD _ = _; rw [hp2]; rfl]
          walk_at "w"
          refine ⟨lz' _ (by rw [List.length_append, List.length_map, List.length_map]; show pre.length + 1 + (linesB u).length ≤ 100000; omega), fun p3 hp3 => ?_⟩
          have np3 : ¬ inL L p3 := fun m => hp3 (keep_keys hk2 _ m)
          have hk3 : ∀ d, keepL L ((p3, d) :: L2) = L := fun d => by rw [keep_out np3]; exact hk2
          cases v with
          | nil =>
            walk_at "s"
            rw [show List.lookup p3 ((p3, D.lst (pre.map D.str ++ [.str ("if " ++ exT a ++ " < " ++ exT b)] ++ (linesB u).map D.str)) :: L2) = _ from lookup_top]
            walk_at "w"
            rw [show List.lookup p3 ((p3, D.lst (pre.map D.str ++ [.str ("if " ++ exT a ++ " < " ++ exT b)] ++ (linesB u).map D.str)) :: L2) = _ from lookup_top]
            walk_at "w"
            refine ⟨lz _ (by rw [List.length_append, List.length_append, List.length_map, List.length_map]; show pre.length + 1 + (linesB u).length ≤ 100000; omega), ?_⟩
            walk_at "w"
            refine go _ _ p3 ⟨_, _, rfl⟩ ?_ (by rw [keep_set np3]; exact hk3 _) np3
            rw [lookup_setL lookup_top]
            congr 2
            show pre.map D.str ++ [D.str ("if " ++ exT a ++ " < " ++ exT b)] ++ (linesB u).map D.str ++ [D.str "end"] = (pre ++ ("if " ++ exT a ++ " < " ++ exT b) :: (linesB u ++ (([] : List Str) ++ (["end"] : List Str)))).map D.str
            simp
          | cons v0 vr =>
            rw [if_neg (by simp)] at hlen
            rw [List.length_cons] at hlen
            walk_at "s"
            rw [show con ((p3, D.lst (pre.map D.str ++ [.str ("if " ++ exT a ++ " < " ++ exT b)] ++ (linesB u).map D.str)) :: L2) (.ptr p3) = .lst (pre.map D.str ++ [.str ("if " ++ exT a ++ " < " ++ exT b)] ++ (linesB u).map D.str) by show (List.lookup p3 _).getD _ = _; rw [lookup_top]; rfl]
            walk_at "w"
            refine ⟨lz' _ (by rw [List.length_append, List.length_append, List.length_map, List.length_map]; show pre.length + 1 + (linesB u).length + 1 ≤ 100000; omega), ?_⟩
            walk_at "w"
            refine ⟨v0 :: vr, m1, rfl, em, hv, by omega, ?_⟩
            walk_at "w"
            refine ⟨lz' _ (by rw [List.length_append, List.length_append, List.length_append, List.length_map, List.length_map, List.length_map]; show pre.length + 1 + (linesB u).length + 1 + (linesB (v0 :: vr)).length ≤ 100000; omega), fun p4 hp4 => ?_⟩
            have np4 : ¬ inL L p4 := fun m => hp4 (inL_cons.mpr (.inr (keep_keys hk2 _ m)))
            walk_at "w"
            rw [show ∀ d L, List.lookup p4 ((p4, d) :: L) = some d from fun d L => lookup_top]
            walk_at "w"
            rw [show ∀ d L, List.lookup p4 ((p4, d) :: L) = some d from fun d L => lookup_top]
            walk_at "w"
            refine ⟨lz _ (by rw [List.length_append, List.length_append, List.length_append, List.length_append, List.length_map, List.length_map, List.length_map]; show pre.length + 1 + (linesB u).length + 1 + (linesB (v0 :: vr)).length ≤ 100000; omega), ?_⟩
            walk_at "w"
            refine go _ _ p4 ⟨_, _, rfl⟩ ?_ (by rw [keep_set np4, keep_out np4]; exact hk3 _) np4
            rw [lookup_setL lookup_top]
            congr 2
            show pre.map D.str ++ [D.str ("if " ++ exT a ++ " < " ++ exT b)] ++ (linesB u).map D.str ++ [D.str "else"] ++ (linesB (v0 :: vr)).map D.str ++ [D.str "end"] = (pre ++ ("if " ++ exT a ++ " < " ++ exT b) :: (linesB u ++ ((("else" : Str) :: linesB (v0 :: vr)) ++ (["end"] : List Str)))).map D.str
            simp
        · skip
          have etw : tsW "equal" = " = " := by decide +kernel
          have elt : lineT (.ifS "equal" a b u v) = "if " ++ exT a ++ " = " ++ exT b := by show "if " ++ exT a ++ tsW "equal" ++ exT b = _; rw [etw]
          rw [elt] at go
          rw [etw] at n3
          walk_at "s"
          intro pd hpd
          walk_at "s"
          refine ⟨⟨lookup_top, by decide +kernel, by decide⟩, ?_⟩
          rw [remL_top hpd]
          walk_at "w"
          rw [hp]
          walk_at "w"
          refine ⟨a, ns, ks, rfl, w1, by omega, by decide, w3, w4, ?_⟩
          walk_at "w"
          refine ⟨lz' _ (by omega), ?_⟩
          walk_at "w"
          refine ⟨lz' _ (by simp only [str_len]; omega), ?_⟩
          walk_at "w"
          refine ⟨b, ns', ks', rfl, v1, by omega, by decide, v3, v4, ?_⟩
          walk_at "w"
          refine ⟨lz' _ (by simp only [str_len]; omega), ?_⟩
          walk_at "w"
          rw [hp]
          walk_at "w"
          refine ⟨lz _ (by rw [List.length_map]; omega), ?_⟩
          have hp2 : (setL L' p (.lst (pre.map D.str ++ [.str ("if " ++ exT a ++ " = " ++ exT b)]))).lookup p = some (.lst (pre.map D.str ++ [.str ("if " ++ exT a ++ " = " ++ exT b)])) := lookup_setL hp
          have hk2 : keepL L (setL L' p (.lst (pre.map D.str ++ [.str ("if " ++ exT a ++ " = " ++ exT b)]))) = L := by rw [keep_set hpl]; exact hk
          generalize setL L' p (.lst (pre.map D.str ++ [.str ("if " ++ exT a ++ " = " ++ exT b)])) = L2 at hp2 hk2 ⊢
          clear hcon hp hk
          walk_at "w"
          refine ⟨u, m1, rfl, em, hu, by omega, ?_⟩
          walk_at "w"
          rw [show con L2 (.ptr p) = .lst (pre.map D.str ++ [.str ("if " ++ exT a ++ " = " ++ exT b)]) by show (L2.lookup p).getD _ = _; rw [hp2]; rfl]
          walk_at "w"
          refine ⟨lz' _ (by rw [List.length_append, List.length_map, List.length_map]; show pre.length + 1 + (linesB u).length ≤ 100000; omega), fun p3 hp3 => ?_⟩
          have np3 : ¬ inL L p3 := fun m => hp3 (keep_keys hk2 _ m)
          have hk3 : ∀ d, keepL L ((p3, d) :: L2) = L := fun d => by rw [keep_out np3]; exact hk2
          cases v with
          | nil =>
            walk_at "s"
            rw [show List.lookup p3 ((p3, D.lst (pre.map D.str ++ [.str ("if " ++ exT a ++ " = " ++ exT b)] ++ (linesB u).map D.str)) :: L2) = _ from lookup_top]
            walk_at "w"
            rw [show List.lookup p3 ((p3, D.lst (pre.map D.str ++ [.str ("if " ++ exT a ++ " = " ++ exT b)] ++ (linesB u).map D.str)) :: L2) = _ from lookup_top]
            walk_at "w"
            refine ⟨lz _ (by rw [List.length_append, List.length_append, List.length_map, List.length_map]; show pre.length + 1 + (linesB u).length ≤ 100000; omega), ?_⟩
            walk_at "w"
            refine go _ _ p3 ⟨_, _, rfl⟩ ?_ (by rw [keep_set np3]; exact hk3 _) np3
            rw [lookup_setL lookup_top]
            congr 2
            show pre.map D.str ++ [D.str ("if " ++ exT a ++ " = " ++ exT b)] ++ (linesB u).map D.str ++ [D.str "end"] = (pre ++ ("if " ++ exT a ++ " = " ++ exT b) :: (linesB u ++ (([] : List Str) ++ (["end"] : List Str)))).map D.str
            simp
          | cons v0 vr =>
            rw [if_neg (by simp)] at hlen
            rw [List.length_cons] at hlen
            walk_at "s"
            rw [show con ((p3, D.lst (pre.map D.str ++ [.str ("if " ++ exT a ++ " = " ++ exT b)] ++ (linesB u).map D.str)) :: L2) (.ptr p3) = .lst (pre.map D.str ++ [.str ("if " ++ exT a ++ " = " ++ exT b)] ++ (linesB u).map D.str) by show (List.lookup p3 _).getD _ = _; rw [lookup_top]; rfl]
            walk_at "w"
            refine ⟨lz' _ (by rw [List.length_append, List.length_append, List.length_map, List.length_map]; show pre.length + 1 + (linesB u).length + 1 ≤ 100000; omega), ?_⟩
            walk_at "w"
            refine ⟨v0 :: vr, m1, rfl, em, hv, by omega, ?_⟩
            walk_at "w"
            refine ⟨lz' _ (by rw [List.length_append, List.length_append, List.length_append, List.length_map, List.length_map, List.length_map]; show pre.length + 1 + (linesB u).length + 1 + (linesB (v0 :: vr)).length ≤ 100000; omega), fun p4 hp4 => ?_⟩
            have np4 : ¬ inL L p4 := fun m => hp4 (inL_cons.mpr (.inr (keep_keys hk2 _ m)))
            walk_at "w"
            rw [show ∀ d L, List.lookup p4 ((p4, d) :: L) = some d from fun d L => lookup_top]
            walk_at "w"
            rw [show ∀ d L, List.lookup p4 ((p4, d) :: L) = some d from fun d L => lookup_top]
            walk_at "w"
            refine ⟨lz _ (by rw [List.length_append, List.length_append, List.length_append, List.length_append, List.length_map, List.length_map, List.length_map]; show pre.length + 1 + (linesB u).length + 1 + (linesB (v0 :: vr)).length ≤ 100000; omega), ?_⟩
            walk_at "w"
            refine go _ _ p4 ⟨_, _, rfl⟩ ?_ (by rw [keep_set np4, keep_out np4]; exact hk3 _) np4
            rw [lookup_setL lookup_top]
            congr 2
            show pre.map D.str ++ [D.str ("if " ++ exT a ++ " = " ++ exT b)] ++ (linesB u).map D.str ++ [D.str "else"] ++ (linesB (v0 :: vr)).map D.str ++ [D.str "end"] = (pre ++ ("if " ++ exT a ++ " = " ++ exT b) :: (linesB u ++ ((("else" : Str) :: linesB (v0 :: vr)) ++ (["end"] : List Str)))).map D.str
            simp
        · skip
          have etw : tsW "upto" = " <= " := by decide +kernel
          have elt : lineT (.ifS "upto" a b u v) = "if " ++ exT a ++ " <= " ++ exT b := by show "if " ++ exT a ++ tsW "upto" ++ exT b = _; rw [etw]
          rw [elt] at go
          rw [etw] at n3
          walk_at "s"
          intro pd hpd
          walk_at "s"
          refine ⟨⟨lookup_top, by decide +kernel, by decide⟩, ?_⟩
          rw [remL_top hpd]
          walk_at "w"
          rw [hp]
          walk_at "w"
          refine ⟨a, ns, ks, rfl, w1, by omega, by decide, w3, w4, ?_⟩
          walk_at "w"
          refine ⟨lz' _ (by omega), ?_⟩
          walk_at "w"
          refine ⟨lz' _ (by simp only [str_len]; omega), ?_⟩
          walk_at "w"
          refine ⟨b, ns', ks', rfl, v1, by omega, by decide, v3, v4, ?_⟩
          walk_at "w"
          refine ⟨lz' _ (by simp only [str_len]; omega), ?_⟩
          walk_at "w"
          rw [hp]
          walk_at "w"
          refine ⟨lz _ (by rw [List.length_map]; omega), ?_⟩
          have hp2 : (setL L' p (.lst (pre.map D.str ++ [.str ("if " ++ exT a ++ " <= " ++ exT b)]))).lookup p = some (.lst (pre.map D.str ++ [.str ("if " ++ exT a ++ " <= " ++ exT b)])) := lookup_setL hp
          have hk2 : keepL L (setL L' p (.lst (pre.map D.str ++ [.str ("if " ++ exT a ++ " <= " ++ exT b)]))) = L := by rw [keep_set hpl]; exact hk
          generalize setL L' p (.lst (pre.map D.str ++ [.str ("if " ++ exT a ++ " <= " ++ exT b)])) = L2 at hp2 hk2 ⊢
          clear hcon hp hk
          walk_at "w"
          refine ⟨u, m1, rfl, em, hu, by omega, ?_⟩
          walk_at "w"
          rw [show con L2 (.ptr p) = .lst (pre.map D.str ++ [.str ("if " ++ exT a ++ " <= " ++ exT b)]) by show (L2.lookup p).getD _ = _; rw [hp2]; rfl]
          walk_at "w"
          refine ⟨lz' _ (by rw [List.length_append, List.length_map, List.length_map]; show pre.length + 1 + (linesB u).length ≤ 100000; omega), fun p3 hp3 => ?_⟩
          have np3 : ¬ inL L p3 := fun m => hp3 (keep_keys hk2 _ m)
          have hk3 : ∀ d, keepL L ((p3, d) :: L2) = L := fun d => by rw [keep_out np3]; exact hk2
          cases v with
          | nil =>
            walk_at "s"
            rw [show List.lookup p3 ((p3, D.lst (pre.map D.str ++ [.str ("if " ++ exT a ++ " <= " ++ exT b)] ++ (linesB u).map D.str)) :: L2) = _ from lookup_top]
            walk_at "w"
            rw [show List.lookup p3 ((p3, D.lst (pre.map D.str ++ [.str ("if " ++ exT a ++ " <= " ++ exT b)] ++ (linesB u).map D.str)) :: L2) = _ from lookup_top]
            walk_at "w"
            refine ⟨lz _ (by rw [List.length_append, List.length_append, List.length_map, List.length_map]; show pre.length + 1 + (linesB u).length ≤ 100000; omega), ?_⟩
            walk_at "w"
            refine go _ _ p3 ⟨_, _, rfl⟩ ?_ (by rw [keep_set np3]; exact hk3 _) np3
            rw [lookup_setL lookup_top]
            congr 2
            show pre.map D.str ++ [D.str ("if " ++ exT a ++ " <= " ++ exT b)] ++ (linesB u).map D.str ++ [D.str "end"] = (pre ++ ("if " ++ exT a ++ " <= " ++ exT b) :: (linesB u ++ (([] : List Str) ++ (["end"] : List Str)))).map D.str
            simp
          | cons v0 vr =>
            rw [if_neg (by simp)] at hlen
            rw [List.length_cons] at hlen
            walk_at "s"
            rw [show con ((p3, D.lst (pre.map D.str ++ [.str ("if " ++ exT a ++ " <= " ++ exT b)] ++ (linesB u).map D.str)) :: L2) (.ptr p3) = .lst (pre.map D.str ++ [.str ("if " ++ exT a ++ " <= " ++ exT b)] ++ (linesB u).map D.str) by show (List.lookup p3 _).getD _ = _; rw [lookup_top]; rfl]
            walk_at "w"
            refine ⟨lz' _ (by rw [List.length_append, List.length_append, List.length_map, List.length_map]; show pre.length + 1 + (linesB u).length + 1 ≤ 100000; omega), ?_⟩
            walk_at "w"
            refine ⟨v0 :: vr, m1, rfl, em, hv, by omega, ?_⟩
            walk_at "w"
            refine ⟨lz' _ (by rw [List.length_append, List.length_append, List.length_append, List.length_map, List.length_map, List.length_map]; show pre.length + 1 + (linesB u).length + 1 + (linesB (v0 :: vr)).length ≤ 100000; omega), fun p4 hp4 => ?_⟩
            have np4 : ¬ inL L p4 := fun m => hp4 (inL_cons.mpr (.inr (keep_keys hk2 _ m)))
            walk_at "w"
            rw [show ∀ d L, List.lookup p4 ((p4, d) :: L) = some d from fun d L => lookup_top]
            walk_at "w"
            rw [show ∀ d L, List.lookup p4 ((p4, d) :: L) = some d from fun d L => lookup_top]
            walk_at "w"
            refine ⟨lz _ (by rw [List.length_append, List.length_append, List.length_append, List.length_append, List.length_map, List.length_map, List.length_map]; show pre.length + 1 + (linesB u).length + 1 + (linesB (v0 :: vr)).length ≤ 100000; omega), ?_⟩
            walk_at "w"
            refine go _ _ p4 ⟨_, _, rfl⟩ ?_ (by rw [keep_set np4, keep_out np4]; exact hk3 _) np4
            rw [lookup_setL lookup_top]
            congr 2
            show pre.map D.str ++ [D.str ("if " ++ exT a ++ " <= " ++ exT b)] ++ (linesB u).map D.str ++ [D.str "else"] ++ (linesB (v0 :: vr)).map D.str ++ [D.str "end"] = (pre ++ ("if " ++ exT a ++ " <= " ++ exT b) :: (linesB u ++ ((("else" : Str) :: linesB (v0 :: vr)) ++ (["end"] : List Str)))).map D.str
            simp

  · rintro ds L k x ⟨l, m', rfl, _⟩; rfl
theorem scLText : FnScope ["_law_program_z", "_law_line"] ["_law_program_z"] (defScope sLText) := ⟨rfl, rfl, rfl, by decide +kernel, rfl, by decide +kernel, by decide +kernel⟩
theorem ok_LText {f : Addr} {fd : FuncData} (Z : Zn w K mg pS pT pW) (F : Fun K "_law_text" "_law_text" sLText f fd) (CLLines : Cal P w K mg base 14 "_law_lines" ["_law_program_z"] [] (lsS 6)) : FnOk P w K mg base (L2.CX P w) 15 f fd ["_law_program_z"] (spD K ptS) := by
  refine fn_ok F scLText ?len (fun cdv A outer s H E hr => ?_)
  rotate_left
  · have tk := takes_of (X := cxOf (L2.CX P w) P w K mg base ["_law_program_z", "_law_line"] "_law_text" (defScope sLText) f cdv A outer s H E) (E := E) rfl rfl rfl rfl
    have hp := passes_of (X := cxOf (L2.CX P w) P w K mg base ["_law_program_z", "_law_line"] "_law_text" (defScope sLText) f cdv A outer s H E) rfl
    refine ⟨_, (ss_one (s_ret (q_join q_str (q_lc rfl scLText.nd (i_list (q_cal CLLines (by first | decide | exact Nat.le_refl _ | omega) hr tk (by rfl) (a_cons (qv 0) a_nil))) (blkOk_by (own := [("_law_line", 1)]) (N := ["_law_program_z", "_law_line"]) (sc := (defScope sLText)) (by decide +kernel)) (fun _ _ _ _ _ => (g_name 1 scLText.nd)) (fun _ _ _ _ _ => ts_nil) (fun _ _ _ _ _ => (q_op oq_add (qv 1) q_str)))))), ?_⟩
    clear tk hp
    rintro ds L k x ⟨l, m', rfl, hm, hs, hc, h⟩
    walk_at "s"
    refine ⟨l, 5, rfl, rfl, smsT_mono _ _ _ hm hs, hc, ?_⟩
    walk_at "w"
    intro p hp
    have hn := linesB_n l
    have hL := linesB_le m' l hs
    refine lcD_yes hp _ ((linesB l).map fun z => D.str (z ++ "\n")) [] (by rw [List.length_map, List.length_map]) (by rw [List.length_map]; show 0 + _ ≤ 1000; omega) (plns_map (fun _ => by unfold pln; rfl) _) (by unfold plns; rfl) (fun i d r e1 e2 acc' K' pa hK => ?_) ?_
    · rw [List.getElem?_map] at e1 e2
      cases ec : (linesB l)[i]? with
      | none => rw [ec] at e1; cases e1
      | some y =>
        rw [ec] at e1 e2
        cases e1
        cases e2
        have hy : y.length ≤ 99000 := by
          have h1 : charsL [y] ≤ charsL (linesB l) := by
            have hmem := List.mem_of_getElem? ec
            obtain ⟨u, v, e⟩ := List.append_of_mem hmem
            have e5 : charsL (u ++ y :: v) = charsL u + (y.length + 1 + charsL v) := by rw [charsL_app, charsL_cons]
            rw [e, e5]
            show y.length + 1 + 0 ≤ _
            omega
          have h2 : charsL [y] = y.length + 1 := rfl
          omega
        walk_at "w"
        exact ⟨Nat.le_trans (show y.length + ("\n" : Str).length ≤ 100000 by rw [show ("\n" : Str).length = 1 by decide]; omega) (by decide), hK⟩
    · have e : ([] : List D) ++ (linesB l).map (fun z => D.str (z ++ "\n")) = ((linesB l).map fun z : Str => z ++ "\n").map D.str := by rw [List.map_map]; rfl
      rw [e]
      show (match strsOf (((linesB l).map fun z : Str => z ++ "\n").map D.str) with | some ys => _ | none => False)
      rw [strsOf_map]
      refine ⟨?_, h⟩
      have e2 : (((linesB l).map fun z : Str => z ++ "\n").map (·.length)).sum = charsL (linesB l) := by
        unfold charsL
        rw [List.map_map]
        congr 1
        refine List.map_congr_left fun z _ => ?_
        show (z ++ "\n").length = z.length + 1
        rw [str_len]
        rfl
      rw [e2, show ("" : Str).length = 0 by decide, Nat.mul_zero]
      omega

  · rintro ds L k x ⟨l, m', rfl, _⟩; rfl
end
end T25

namespace T25
open PySem L2 DL TL NumText
section
variable {P : Program} {w : World} {K : PySem.W.Frag} {mg : Str → Option Value} {base : Heap} {pS pT pW : Addr}
local macro_rules | `(tactic| walk_at "w") => `(tactic| conv => whnf)
local macro_rules | `(tactic| walk_at "v") => `(tactic| ((conv => whnf); try dsimp only))
local macro_rules | `(tactic| walk_at "s") => `(tactic| ((conv => whnf); repeat ((first | refine ⟨sz_ok rfl, ?_⟩ | refine ⟨rfl, ?_⟩); conv => whnf)))
theorem scLaw : FnScope ["_law_script", "_law_bag_here", "_law_turn", "_law_names_z", "_law_program_z", "_law_term", "_law_deep", "_law_due"] ["_law_script"] (defScope sLaw) := ⟨rfl, rfl, rfl, by decide +kernel, rfl, by decide +kernel, by decide +kernel⟩
theorem ok_Law {f : Addr} {fd : FuncData} (Z : Zn w K mg pS pT pW) (F : Fun K "law" "law" sLaw f fd) {C CT : Addr} (CLBag : Cal P w K mg base 1 "_law_bag" ["_law_script"] [] bagS) (CLPull : Cal P w K mg base 1 "_law_pull" ["_law_bag_here", "_law_many"] [] pullS) (CLNames : Cal P w K mg base 3 "_law_names" ["_law_bag_here", "_law_many"] [] namesS) (CLProgram : Cal P w K mg base 20 "_law_program" ["_law_bag_here", "_law_names_z", "_law_known", "_law_many"] [] prG) (CLExpression : Cal P w K mg base 10 "_law_expression" ["_law_bag_here", "_law_names_z", "_law_known", "_law_deep"] [] (exprG 7)) (CLSame : Cal P w K mg base 29 "_law_same" ["_law_found", "_law_due"] [] (sameS 29)) (CLText : Cal P w K mg base 15 "_law_text" ["_law_program_z"] [] ptS) (CProgramText : Cal P w K mg base 15 "program_text" ["program"] [] ptS) (CReadProgram : Cal P w K mg base 26 "read_program" ["text"] [] (readS C CT)) (W_ProgramText_0_program : CalW P w K mg base 15 "program_text" 0 ["program"] [] perm1 ptS) (W_ReadProgram_0_text : CalW P w K mg base 26 "read_program" 0 ["text"] [] perm1 (readS C CT)) : FnOk P w K mg base (L2.CX P w) 32 f fd ["_law_script"] (spD K lawS) := by
  refine fn_ok F scLaw ?len (fun cdv A outer s H E hr => ?_)
  rotate_left
  · have tk := takes_of (X := cxOf (L2.CX P w) P w K mg base ["_law_script", "_law_bag_here", "_law_turn", "_law_names_z", "_law_program_z", "_law_term", "_law_deep", "_law_due"] "law" (defScope sLaw) f cdv A outer s H E) (E := E) rfl rfl rfl rfl
    have hp := passes_of (X := cxOf (L2.CX P w) P w K mg base ["_law_script", "_law_bag_here", "_law_turn", "_law_names_z", "_law_program_z", "_law_term", "_law_deep", "_law_due"] "law" (defScope sLaw) f cdv A outer s H E) rfl
    refine ⟨_, (ss_cons (s_set 1 scLaw.nd (q_cal CLBag (by first | decide | exact Nat.le_refl _ | omega) hr tk (by rfl) (a_cons (qv 0) a_nil)))
  (ss_cons (s_for hp rfl (i_range1 (by rfl) Z.z_range (a_cons q_int a_nil)) (g_name 2 scLaw.nd) (ss_cons (s_set 3 scLaw.nd (q_cal CLNames (by first | decide | exact Nat.le_refl _ | omega) hr tk (by rfl) (a_cons (qv 1) (a_cons q_int a_nil))))
  (ss_cons (s_set 4 scLaw.nd (q_cal CLProgram (by first | decide | exact Nat.le_refl _ | omega) hr tk (by rfl) (a_cons (qv 1) (a_cons (q_slice (qv 3) o_none (o_some q_int)) (a_cons (q_slice (qv 3) (o_some q_int) o_none) (a_cons q_int a_nil))))))
  (ss_cons (s_set 5 scLaw.nd (q_cal CLText (by first | decide | exact Nat.le_refl _ | omega) hr tk (by rfl) (a_cons (qv 4) a_nil)))
  (ss_cons (s_if (t_not (t_val (q_cal CLSame (by first | decide | exact Nat.le_refl _ | omega) hr tk (by rfl) (a_cons (q_lst (a_cons (q_cal CProgramText (by first | decide | exact Nat.le_refl _ | omega) hr tk (by rfl) (a_cons (qv 4) a_nil)) (a_cons (q_cal CReadProgram (by first | decide | exact Nat.le_refl _ | omega) hr tk (by rfl) (a_cons (qv 5) a_nil)) a_nil))) (a_cons (q_lst (a_cons (qv 5) (a_cons (qv 4) a_nil))) a_nil))))) (ss_one (s_ret q_bl)) ss_nil)
  (ss_cons (s_set 6 scLaw.nd (q_tup (a_cons (q_tup (a_cons q_str (a_cons (q_ix (qv 3) q_int) (a_cons (q_cal CLExpression (by first | decide | exact Nat.le_refl _ | omega) hr tk (by rfl) (a_cons (qv 1) (a_cons (qv 3) (a_cons (qv 3) (a_cons q_int a_nil))))) a_nil)))) a_nil)))
  (ss_one (s_if (t_not (t_val (q_cal CLSame (by first | decide | exact Nat.le_refl _ | omega) hr tk (by rfl) (a_cons (q_cal CReadProgram (by first | decide | exact Nat.le_refl _ | omega) hr tk (by rfl) (a_cons (q_calW0 W_ProgramText_0_program (by decide) hr tk (by rfl) (k_cons (qv 6) k_nil)) a_nil)) (a_cons (qv 6) a_nil))))) (ss_one (s_ret q_bl)) ss_nil))))))))
  (ss_cons (s_set 5 scLaw.nd q_str)
  (ss_cons (s_set 7 scLaw.nd (q_tup (a_cons (q_tup (a_cons q_str (a_cons q_str (a_cons (q_tup (a_cons q_str (a_cons (q_tup (a_cons q_str a_nil)) (a_cons (q_tup (a_cons q_str (a_cons (q_neg q_int) a_nil))) a_nil)))) (a_cons (q_tup (a_cons q_str (a_cons q_str (a_cons (q_tup (a_cons q_str a_nil)) (a_cons (q_tup (a_cons q_str (a_cons q_str a_nil))) a_nil))))) (a_cons (q_tup a_nil) (a_cons (q_tup (a_cons (q_tup (a_cons q_str (a_cons q_int (a_cons (q_tup a_nil) a_nil)))) a_nil)) a_nil))))))) a_nil)))
  (ss_one (s_ret (q_and (q_cmp (oq_eqU hr.units) (q_cal CReadProgram (by first | decide | exact Nat.le_refl _ | omega) hr tk (by rfl) (a_cons (q_slice (qv 5) o_none (o_some (q_neg q_int))) a_nil)) (qv 7)) (q_and (q_cmp (oq_eqE hr.units) (q_calW0 W_ReadProgram_0_text (by decide) hr tk (by rfl) (k_cons q_str k_nil)) (q_tup a_nil)) (q_one (q_cmp (oq_eqU hr.units) (q_cal CProgramText (by first | decide | exact Nat.le_refl _ | omega) hr tk (by rfl) (a_cons (q_tup a_nil) a_nil)) q_str)))))))))), ?_⟩
    clear tk hp
    rintro ds L k x ⟨ns, rfl, rfl, h⟩
    have top : ∀ (b : Addr) (g : Bag), BagOk g → BagAt [(b, bagC g)] b g := fun b g ok => BagAt.top (by simp [inL]) ok
    walk_at "w"
    refine ⟨ns, rfl, fun p b hp ok => ?_⟩
    walk_at "w"
    refine ⟨⟨by decide, by decide⟩, ?_⟩
    refine forD_rec (fun r env L' => ∃ (b : Bag) (o2 o3 o4 o5 o6 o7 : Option D), env = [some (.ro (ns.map .int)), some (.ptr p), o2, o3, o4, o5, o6, o7] ∧ L' = [(p, bagC b)] ∧ BagOk b) ?step ?fin _ _ _ ⟨b, none, none, none, none, none, none, rfl, rfl, ok⟩
    case fin =>
      rintro env L' ⟨b, o2, o3, o4, o5, o6, o7, rfl, rfl, ok⟩
      walk_at "s"
      rw [show cutS (Str.ofString "if (x + -7) <= f(y, a)\nelse\nrepeat 0\nend\nend\nlet else") none (some (-8)) = progT fixL from fix_cut]
      refine ⟨_, rfl, rfl, (fun e => absurd rfl (e _)), fun z e => ?_⟩
      cases e
      refine ⟨progT_ok fix_ok (by decide), ?_⟩
      rw [read_progT fix_ok]
      have hv := vis_smsT 3 2 fixL 0 (by decide) fix_ok (by decide)
      refine ⟨fun c _ => ?_, fun e he => by rw [hv] at he; cases he⟩
      walk_at "w"
      refine ⟨by decide +kernel, by decide +kernel, ?_⟩
      generalize hs : eqD _ _ = bb
      have hb : bb = true := hs.symm.trans (by decide +kernel)
      subst hb
      clear hs
      walk_at "s"
      refine ⟨_, rfl, rfl, (fun e => absurd rfl (e _)), fun z e => ?_⟩
      cases e
      have h0 : smsT 0 [] := by unfold smsT; trivial
      have e0 : (Str.ofString "") = progT [] := by decide +kernel
      rw [e0]
      refine ⟨progT_ok h0 (by decide), ?_⟩
      rw [read_progT h0]
      refine ⟨fun c _ => ?_, fun e he => by cases he⟩
      walk_at "s"
      refine ⟨[], 0, rfl, by decide, h0, by decide, ?_⟩
      rw [← e0]
      walk_at "s"
      exact h _
    case step =>
      clear ok
      rintro E' d r env L' hrt hex hbk hct ⟨b, o2, o3, o4, o5, o6, o7, rfl, rfl, ok⟩ hnx
      have hrt' : ∀ d L, k d L → E'.rt d L := fun d L h => by rw [hrt]; exact h
      walk_at "w"
      refine ⟨p, b, 4, rfl, top p b ok, by decide, fun zs b1 hl hz ok1 => ?_⟩
      rw [setL_one]
      have nl : NmL zs := ⟨by omega, hz⟩
      have nl2 : NmL (zs.take 2) := ⟨by rw [List.length_take]; omega, fun z hz' => hz z (List.mem_of_mem_take hz')⟩
      have nl1 : NmL (zs.drop 1) := ⟨by rw [List.length_drop]; omega, fun z hz' => hz z (List.mem_of_mem_drop hz')⟩
      obtain ⟨z0, zr, ez⟩ : ∃ z0 zr, zs = z0 :: zr := by
        cases zs with
        | nil => cases hl
        | cons a r => exact ⟨a, r, rfl⟩
      have ne2 : zs.take 2 ≠ [] := by rw [ez]; simp
      walk_at "w"
      have c2 : cutD (zs.map D.str) none (some 2) = (zs.take 2).map D.str := cutL_pre D.str zs 2
      have c1 : cutD (zs.map D.str) (some 1) none = (zs.drop 1).map D.str := cutL_suf D.str zs 1
      rw [c2, c1]
      refine ⟨p, b1, 14, _, _, rfl, top p b1 ok1, by decide, nl2, ne2, nl1, fun l b2 hw hc ok2 => ?_⟩
      rw [setL_one]
      have ht := smsW_T nl2.ok nl1.ok 3 l hw
      have hsm := prog_same ht (by omega)
      have hv := vis_smsT 3 3 l 0 (by decide) ht (by omega)
      walk_at "w"
      refine ⟨l, 3, rfl, by decide, ht, by omega, ?_⟩
      walk_at "s"
      refine ⟨l, 3, rfl, by decide, ht, by omega, ?_⟩
      walk_at "w"
      refine ⟨_, rfl, rfl, (fun e => absurd rfl (e _)), fun z e => ?_⟩
      cases e
      refine ⟨progT_ok ht (by omega), ?_⟩
      rw [read_progT ht]
      refine ⟨fun c _ => ?_, fun e he => by rw [hv] at he; cases he⟩
      walk_at "s"
      have ho : okP (.lst [.str (progT l), .tup (Sm.ds l)]) = true := okP_mkL (by show 2 < 100000; decide) (okPs_mk (okP_strI _) (okPs_mk hsm.1 okPs_nil))
      refine ⟨_, _, rfl, ho, ho, ?_, ?_⟩
      · rw [dep_lst, deps_cons, deps_cons, deps_nil, dep_str]
        have := hsm.2
        omega
      rw [sameD_refl _ ho]
      clear ho hsm hv c2 c1 hw hc
      walk_at "s"
      have a0 : atI (zs.map D.str) 0 = some (.str z0) := by rw [ez]; exact atI_zero
      rw [a0]
      walk_at "w"
      refine ⟨p, b2, zs, zs, 6, rfl, by decide, top p b2 ok2, nl.len, hz, nl.len, hz, fun e b3 hd we ok3 => ?_⟩
      rw [setL_one]
      have hd : e.dp ≤ 6 := hd
      have hn0 : nameOk z0 = true := hz z0 (by rw [ez]; exact List.mem_cons_self)
      have ht2 : smsT 0 [.letS z0 e] := by
        simp only [smsT, smT]
        exact ⟨⟨hn0, zs, zs, we, hd, hz, hz⟩, trivial⟩
      have hsm := prog_same ht2 (by show 1 < 100000; decide)
      have hv := vis_smsT 3 0 [.letS z0 e] 0 (by decide) ht2 (by show 0 + (1 + 0) ≤ 30; decide)
      walk_at "s"
      refine ⟨[.letS z0 e], 0, rfl, by decide, ht2, by show 1 + 0 ≤ 80; decide, ?_⟩
      walk_at "w"
      refine ⟨_, rfl, rfl, (fun e => absurd rfl (e _)), fun z e => ?_⟩
      cases e
      refine ⟨progT_ok ht2 (by show 1 + 0 ≤ 80; decide), ?_⟩
      rw [read_progT ht2]
      refine ⟨fun c _ => ?_, fun e he => by rw [hv] at he; cases he⟩
      walk_at "s"
      refine ⟨_, _, rfl, hsm.1, hsm.1, Nat.lt_of_le_of_lt hsm.2 (by decide), ?_⟩
      rw [show sameD (D.tup (Sm.ds [Sm.letS z0 e])) (D.tup [D.tup [D.str "let", D.str z0, e.d]]) = true from sameD_refl _ hsm.1]
      walk_at "s"
      exact hnx _ _ ⟨b3, _, _, _, _, _, _, rfl, rfl, ok3⟩
  · rintro ds L k x ⟨ns, rfl, _⟩; rfl
end
end T25

namespace DL
open PySem L2
/-- a tuple of the top -/
theorem ktup_of {K : PySem.W.Frag} {a : Addr} {od : Option Addr} {n : Nat} {sl : Array (Option Value)} {us : List Value} {vs : List V} {ds : List D} (h : K.lookup a = some ⟨.type "tuple", od, .seq us.toArray n, sl⟩) (hz : us.length ≤ sizeLine) (hv : Vals vs us) (hd : ∀ L H, RpAll L K H vs ds) : ∀ L H, Rp L K H (.ref a) (.tup ds) := fun L H =>
  .tup (.inr ⟨_, us.toArray, n, h, rfl, rfl, by simpa using hz, by simpa using hv⟩) (hd L H)
end DL

namespace T25
open PySem L2 DL TL NumText
abbrev sInvalidProgram_init : Stmt := sAt 0 (sBody (top 2))
theorem scInvalidProgram_init : FnScope ["self", "at"] ["self", "at"] (defScope sInvalidProgram_init) := ⟨rfl, rfl, rfl, by decide +kernel, rfl, by decide +kernel, by decide +kernel⟩
abbrev sInvalidText_init : Stmt := sAt 0 (sBody (top 3))
theorem scInvalidText_init : FnScope ["self", "line"] ["self", "line"] (defScope sInvalidText_init) := ⟨rfl, rfl, rfl, by decide +kernel, rfl, by decide +kernel, by decide +kernel⟩
theorem cal_mk {P : Program} {w : World} {K : PySem.W.Frag} {mg : Str → Option Value} {base : Heap} {n : Nat} {x : Str} {ps : List Str} {g : DSp} {f : Addr} {fd : FuncData} (G : FnOk P w K mg base (L2.CX P w) n f fd ps (spD K g)) (m : mg x = some (.ref f)) (k : PySem.W.keepIn K (.ref f) = true) (b : Binds K fd ps []) : Cal P w K mg base n x ps [] g := ⟨⟨f, fd, [], [], G, m, k, b, .nil, fun _ _ => .nil⟩⟩
theorem cald_mk {P : Program} {w : World} {K : PySem.W.Frag} {mg : Str → Option Value} {base : Heap} {n : Nat} {x : Str} {ps : List Str} {g : DSp} {f : Addr} {fd : FuncData} {us : List Value} {dvs : List V} {dd : List D} (G : FnOk P w K mg base (L2.CX P w) n f fd ps (spD K g)) (m : mg x = some (.ref f)) (k : PySem.W.keepIn K (.ref f) = true) (v : Vals dvs us) (b : Binds K fd ps us) (r : ∀ L H, RpAll L K H dvs dd) : Cal P w K mg base n x ps dd g := ⟨⟨f, fd, us, dvs, G, m, k, b, v, r⟩⟩
theorem calw_mk {P : Program} {w : World} {K : PySem.W.Frag} {mg : Str → Option Value} {base : Heap} {n np : Nat} {x : Str} {ps ks : List Str} {g : DSp} {gp : Perm3} {f : Addr} {fd : FuncData} (G : FnOk P w K mg base (L2.CX P w) n f fd ps (spD K g)) (m : mg x = some (.ref f)) (k : PySem.W.keepIn K (.ref f) = true) (b : KwB K fd ps np ks [] gp) (hp : PermOk @gp) : CalW P w K mg base n x np ks [] gp g := ⟨⟨f, fd, ps, [], [], G, m, k, b, hp, .nil, fun _ _ => .nil⟩⟩
theorem expr_all {P : Program} {w : World} {K : PySem.W.Frag} {mg : Str → Option Value} {base : Heap} {pS pT pW : Addr} {f f2 : Addr} {fd fd2 : FuncData} {dvs : List V} {us : List Value} (Z : Zn w K mg pS pT pW) (F : FunV K "is_expression" "is_expression" sIsExpression [.int 6] f fd) (F2 : Fun K "both" "both" sBoth f2 fd2) (m : mg "is_expression" = some (.ref f)) (m2 : mg "both" = some (.ref f2)) (b : Binds K fd ["value", "deep"] us) (v : Vals dvs us) (hd : dvs = []) (b2 : Binds K fd2 ["values", "deep"] [])
    (CN : Cal P w K mg base 2 "is_number" ["value", "least", "most"] [] numS) (CM : Cal P w K mg base 1 "is_name" ["value"] [] nameS) : ∀ n : Nat, FnOk P w K mg base (L2.CX P w) (2 * n + 3) f fd ["value", "deep"] (spD K (exprS n))
  | 0 => by
    have no : ∀ vs H Q E, ¬ spD K (exprS 0) vs H Q E := fun vs H Q E h => by
      obtain ⟨ds, L, k, x, _, _, ⟨_, _, _, _, h, _⟩, _⟩ := h
      first | exact absurd h (Nat.not_lt_zero _) | cases h
    exact ⟨fun vs H Q E h => absurd h (no vs H Q E), fun A outer s H args us vs Q E _ _ _ _ h => absurd h (no vs H Q E)⟩
  | n + 1 => ok_IsExpression Z F CN CM ⟨⟨f2, fd2, [], [], ok_Both Z F2 ⟨⟨f, fd, us, dvs, expr_all Z F F2 m m2 b v hd b2 CN CM n, m, F.kp, b, v, fun _ _ => by subst hd; exact .nil⟩⟩, m2, F2.kp, b2, .nil, fun _ _ => .nil⟩⟩
theorem visit_all {P : Program} {w : World} {K : PySem.W.Frag} {mg : Str → Option Value} {base : Heap} {pS pT pW : Addr} {f C : Addr} {fd : FuncData} (Z : Zn w K mg pS pT pW) (F : Fun K "visit" "visit" sVisit f fd) (m : mg "visit" = some (.ref f)) (b : Binds K fd ["statements", "deep", "count"] []) (CH : Cal P w K mg base 18 "is_head" ["value"] [] headS) (CB : Cal P w K mg base 1 "blocks_of" ["statement"] [] blocksS) (E : ExCls P w K mg base "InvalidProgram" C ["self", "at"] (spI1 C "InvalidProgram" "at")) : ∀ n : Nat, FnOk P w K mg base (L2.CX P w) (n + 19) f fd ["statements", "deep", "count"] (spD K (visitS C n))
  | 0 => by
    have no : ∀ vs H Q E, ¬ spD K (visitS C 0) vs H Q E := fun vs H Q E h => by
      obtain ⟨ds, L, k, x, _, _, ⟨_, _, _, _, h, _⟩, _⟩ := h
      first | exact absurd h (Nat.not_lt_zero _) | cases h
    exact ⟨fun vs H Q E h => absurd h (no vs H Q E), fun A outer s H args us vs Q E _ _ _ _ h => absurd h (no vs H Q E)⟩
  | n + 1 => ok_Visit Z F CH CB ⟨⟨f, fd, [], [], visit_all Z F m b CH CB E n, m, F.kp, b, .nil, fun _ _ => .nil⟩⟩ E
theorem lexpr_all {P : Program} {w : World} {K : PySem.W.Frag} {mg : Str → Option Value} {base : Heap} {pS pT pW : Addr} {f : Addr} {fd : FuncData} (Z : Zn w K mg pS pT pW) (F : Fun K "_law_expression" "_law_expression" sLExpression f fd) (m : mg "_law_expression" = some (.ref f)) (b : Binds K fd ["_law_bag_here", "_law_names_z", "_law_known", "_law_deep"] []) (CP : Cal P w K mg base 1 "_law_pull" ["_law_bag_here", "_law_many"] [] pullS) (CO : Cal P w K mg base 2 "_law_of" ["_law_bag_here", "_law_some"] [] ofA) (CL : Cal P w K mg base 3 "_law_leaf" ["_law_bag_here", "_law_names_z"] [] leafS) : ∀ n : Nat, FnOk P w K mg base (L2.CX P w) (n + 3) f fd ["_law_bag_here", "_law_names_z", "_law_known", "_law_deep"] (spD K (exprG n))
  | 0 => by
    have no : ∀ vs H Q E, ¬ spD K (exprG 0) vs H Q E := fun vs H Q E h => by
      obtain ⟨ds, L, k, x, _, _, ⟨_, _, _, _, _, _, h, _⟩, _⟩ := h
      first | exact absurd h (Nat.not_lt_zero _) | cases h
    exact ⟨fun vs H Q E h => absurd h (no vs H Q E), fun A outer s H args us vs Q E _ _ _ _ h => absurd h (no vs H Q E)⟩
  | n + 1 => ok_LExpression Z F CP CO CL ⟨⟨f, fd, [], [], lexpr_all Z F m b CP CO CL n, m, F.kp, b, .nil, fun _ _ => .nil⟩⟩
theorem bk_all {P : Program} {w : World} {K : PySem.W.Frag} {mg : Str → Option Value} {base : Heap} {pS pT pW : Addr} (Z : Zn w K mg pS pT pW) {fLBlock : Addr} {fdLBlock : FuncData} (FLBlock : Fun K "_law_block" "_law_block" sLBlock fLBlock fdLBlock) (bLBlock : Binds K fdLBlock ["_law_bag_here", "_law_names_z", "_law_known", "_law_deep", "_law_left"] []) (mLBlock : mg "_law_block" = some (.ref fLBlock)) {fLStatement : Addr} {fdLStatement : FuncData} (FLStatement : Fun K "_law_statement" "_law_statement" sLStatement fLStatement fdLStatement) (bLStatement : Binds K fdLStatement ["_law_bag_here", "_law_names_z", "_law_known", "_law_deep", "_law_left"] []) (mLStatement : mg "_law_statement" = some (.ref fLStatement)) (CLPull : Cal P w K mg base 1 "_law_pull" ["_law_bag_here", "_law_many"] [] pullS) (CLOf : Cal P w K mg base 2 "_law_of" ["_law_bag_here", "_law_some"] [] ofA) (CLExpression : Cal P w K mg base 8 "_law_expression" ["_law_bag_here", "_law_names_z", "_law_known", "_law_deep"] [] (exprG 5)) : ∀ n : Nat, FnOk P w K mg base (L2.CX P w) (2 * n + 9) fLBlock fdLBlock ["_law_bag_here", "_law_names_z", "_law_known", "_law_deep", "_law_left"] (spD K (bkG n))
  | 0 => by
    have no : ∀ vs H Q E, ¬ spD K (bkG 0) vs H Q E := fun vs H Q E h => by
      obtain ⟨ds, L, k, x, _, _, ⟨_, _, _, _, _, _, _, _, _, _, _, _, h, _⟩, _⟩ := h
      first | exact absurd h (Nat.not_lt_zero _) | cases h
    exact ⟨fun vs H Q E h => absurd h (no vs H Q E), fun A outer s H args us vs Q E _ _ _ _ h => absurd h (no vs H Q E)⟩
  | n + 1 => ok_LBlock Z FLBlock CLPull (cal_mk (ok_LStatement Z FLStatement CLPull CLOf CLExpression (cal_mk (bk_all Z FLBlock bLBlock mLBlock FLStatement bLStatement mLStatement CLPull CLOf CLExpression n) mLBlock FLBlock.kp bLBlock)) mLStatement FLStatement.kp bLStatement)
theorem rex_tidy {P : Program} {w : World} {K : PySem.W.Frag} {mg : Str → Option Value} {base : Heap} {n : Nat} {f : Addr} {fd : FuncData} (F : FnOk P w K mg base (L2.CX P w) n f fd ["text", "at"] (spD K (rexR))) : FnOk P w K mg base (L2.CX P w) n f fd ["text", "at"] (spD K (rexS)) := by
  refine fn_weak ?_ (fn_tidy F)
  rintro ds L k x ⟨z, a, rfl, ha, hz, h⟩
  exact ⟨z, a, rfl, ha, hz, fun L' e => by show k _ (keepL L L'); rw [e]; exact h⟩
theorem closed_tidy {P : Program} {w : World} {K : PySem.W.Frag} {mg : Str → Option Value} {base : Heap} {n : Nat} {f : Addr} {fd : FuncData} (F : FnOk P w K mg base (L2.CX P w) n f fd ["frame"] (spD K (closedR))) : FnOk P w K mg base (L2.CX P w) n f fd ["frame"] (spD K (closedS)) := by
  refine fn_weak ?_ (fn_tidy F)
  rintro ds L k x ⟨L0, fa, m, rfl, hb, hm, h⟩
  exact ⟨L0, fa, m, rfl, hb, hm, fun L' e => by show k _ (keepL L L'); rw [e]; exact h⟩
theorem read_tidy {P : Program} {w : World} {K : PySem.W.Frag} {mg : Str → Option Value} {base : Heap} {n : Nat} {f : Addr} {fd : FuncData} {C CT : Addr} (F : FnOk P w K mg base (L2.CX P w) n f fd ["text"] (spD K (readR C CT))) : FnOk P w K mg base (L2.CX P w) n f fd ["text"] (spD K (readS C CT)) := by
  refine fn_weak ?_ (fn_tidy F)
  rintro ds L k x ⟨v, rfl, hv, h1, h2⟩
  exact ⟨v, rfl, hv, fun z => by show x _ (keepL L L); rw [keep_same rfl]; exact h1 z, fun z e => ⟨(h2 z e).1, fun L' hk => by
    have h3 := (h2 z e).2
    revert h3
    cases hr : readT (tl z) with
    | bad n => exact fun h3 => by show x _ (keepL L L'); rw [hk]; exact h3
    | ok l => exact fun h3 => ⟨fun c hc => by show k _ (keepL L L'); rw [hk]; exact h3.1 c hc, fun e he => by show x _ (keepL L L'); rw [hk]; exact h3.2 e he⟩⟩⟩
theorem dp_all {P : Program} {w : World} {K : PySem.W.Frag} {mg : Str → Option Value} {base : Heap} {pS pT pW : Addr} (Z : Zn w K mg pS pT pW) {fDepthOf : Addr} {fdDepthOf : FuncData} (FDepthOf : Fun K "depth_of" "depth_of" sDepthOf fDepthOf fdDepthOf) (bDepthOf : Binds K fdDepthOf ["value"] []) (mDepthOf : mg "depth_of" = some (.ref fDepthOf))  : ∀ m : Nat, FnOk P w K mg base (L2.CX P w) m fDepthOf fdDepthOf ["value"] (spD K (dpS m))
  | 0 => by
    have no : ∀ vs H Q E, ¬ spD K (dpS 0) vs H Q E := fun vs H Q E h => by
      obtain ⟨ds, L, k, x, _, _, ⟨_, _, _, h, _⟩, _⟩ := h
      first | exact absurd h (Nat.not_lt_zero _) | cases h
    exact ⟨fun vs H Q E h => absurd h (no vs H Q E), fun A outer s H args us vs Q E _ _ _ _ h => absurd h (no vs H Q E)⟩
  | m + 1 => (ok_DepthOf Z FDepthOf (cal_mk (dp_all Z FDepthOf bDepthOf mDepthOf m) mDepthOf FDepthOf.kp bDepthOf))
theorem tx_all {P : Program} {w : World} {K : PySem.W.Frag} {mg : Str → Option Value} {base : Heap} {pS pT pW : Addr} (Z : Zn w K mg pS pT pW) {fExpressionText : Addr} {fdExpressionText : FuncData} (FExpressionText : Fun K "expression_text" "expression_text" sExpressionText fExpressionText fdExpressionText) (bExpressionText : Binds K fdExpressionText ["expression"] []) (mExpressionText : mg "expression_text" = some (.ref fExpressionText))  : ∀ m : Nat, FnOk P w K mg base (L2.CX P w) m fExpressionText fdExpressionText ["expression"] (spD K (txS m))
  | 0 => by
    have no : ∀ vs H Q E, ¬ spD K (txS 0) vs H Q E := fun vs H Q E h => by
      obtain ⟨ds, L, k, x, _, _, ⟨_, _, _, _, _, h, _⟩, _⟩ := h
      first | exact absurd h (Nat.not_lt_zero _) | cases h
    exact ⟨fun vs H Q E h => absurd h (no vs H Q E), fun A outer s H args us vs Q E _ _ _ _ h => absurd h (no vs H Q E)⟩
  | m + 1 => (ok_ExpressionText Z FExpressionText (cal_mk (tx_all Z FExpressionText bExpressionText mExpressionText m) mExpressionText FExpressionText.kp bExpressionText))
theorem ls_all {P : Program} {w : World} {K : PySem.W.Frag} {mg : Str → Option Value} {base : Heap} {pS pT pW : Addr} (Z : Zn w K mg pS pT pW) {fLinesOf : Addr} {fdLinesOf : FuncData} (FLinesOf : Fun K "lines_of" "lines_of" sLinesOf fLinesOf fdLinesOf) (bLinesOf : Binds K fdLinesOf ["program"] []) (mLinesOf : mg "lines_of" = some (.ref fLinesOf)) (CLineOf : Cal P w K mg base 8 "line_of" ["statement"] [] lnS) : ∀ m : Nat, FnOk P w K mg base (L2.CX P w) (m + 8) fLinesOf fdLinesOf ["program"] (spD K (lsS m))
  | 0 => by
    have no : ∀ vs H Q E, ¬ spD K (lsS 0) vs H Q E := fun vs H Q E h => by
      obtain ⟨ds, L, k, x, _, _, ⟨_, _, _, h, _⟩, _⟩ := h
      first | exact absurd h (Nat.not_lt_zero _) | cases h
    exact ⟨fun vs H Q E h => absurd h (no vs H Q E), fun A outer s H args us vs Q E _ _ _ _ h => absurd h (no vs H Q E)⟩
  | m + 1 => (ok_LinesOf Z FLinesOf CLineOf (cal_mk (ls_all Z FLinesOf bLinesOf mLinesOf CLineOf m) mLinesOf FLinesOf.kp bLinesOf))
theorem ll_tidy {P : Program} {w : World} {K : PySem.W.Frag} {mg : Str → Option Value} {base : Heap} {n : Nat} {f : Addr} {fd : FuncData} {m : Nat} (F : FnOk P w K mg base (L2.CX P w) n f fd ["_law_program_z"] (spD K (llR m))) : FnOk P w K mg base (L2.CX P w) n f fd ["_law_program_z"] (spD K (lsS m)) := by
  refine fn_weak ?_ (fn_tidy F)
  rintro ds L k x ⟨l, m', rfl, hm, hs, hc, h⟩
  exact ⟨l, m', rfl, hm, hs, hc, fun L' e => by show k _ (keepL L L'); rw [e]; exact h⟩
theorem ltx_all {P : Program} {w : World} {K : PySem.W.Frag} {mg : Str → Option Value} {base : Heap} {pS pT pW : Addr} (Z : Zn w K mg pS pT pW) {fLExpressionText : Addr} {fdLExpressionText : FuncData} (FLExpressionText : Fun K "_law_expression_text" "_law_expression_text" sLExpressionText fLExpressionText fdLExpressionText) (bLExpressionText : Binds K fdLExpressionText ["_law_one"] []) (mLExpressionText : mg "_law_expression_text" = some (.ref fLExpressionText))  : ∀ m : Nat, FnOk P w K mg base (L2.CX P w) m fLExpressionText fdLExpressionText ["_law_one"] (spD K (txS m))
  | 0 => by
    have no : ∀ vs H Q E, ¬ spD K (txS 0) vs H Q E := fun vs H Q E h => by
      obtain ⟨ds, L, k, x, _, _, ⟨_, _, _, _, _, h, _⟩, _⟩ := h
      first | exact absurd h (Nat.not_lt_zero _) | cases h
    exact ⟨fun vs H Q E h => absurd h (no vs H Q E), fun A outer s H args us vs Q E _ _ _ _ h => absurd h (no vs H Q E)⟩
  | m + 1 => (ok_LExpressionText Z FLExpressionText (cal_mk (ltx_all Z FLExpressionText bLExpressionText mLExpressionText m) mLExpressionText FLExpressionText.kp bLExpressionText))
theorem ll_all {P : Program} {w : World} {K : PySem.W.Frag} {mg : Str → Option Value} {base : Heap} {pS pT pW : Addr} (Z : Zn w K mg pS pT pW) {fLLines : Addr} {fdLLines : FuncData} (FLLines : Fun K "_law_lines" "_law_lines" sLLines fLLines fdLLines) (bLLines : Binds K fdLLines ["_law_program_z"] []) (mLLines : mg "_law_lines" = some (.ref fLLines)) (CLExpressionText : Cal P w K mg base 7 "_law_expression_text" ["_law_one"] [] (txS 7)) : ∀ m : Nat, FnOk P w K mg base (L2.CX P w) (m + 8) fLLines fdLLines ["_law_program_z"] (spD K (lsS m))
  | 0 => by
    have no : ∀ vs H Q E, ¬ spD K (lsS 0) vs H Q E := fun vs H Q E h => by
      obtain ⟨ds, L, k, x, _, _, ⟨_, _, _, h, _⟩, _⟩ := h
      first | exact absurd h (Nat.not_lt_zero _) | cases h
    exact ⟨fun vs H Q E h => absurd h (no vs H Q E), fun A outer s H args us vs Q E _ _ _ _ h => absurd h (no vs H Q E)⟩
  | m + 1 => ll_tidy (ok_LLines Z FLLines CLExpressionText (cal_mk (ll_all Z FLLines bLLines mLLines CLExpressionText m) mLLines FLLines.kp bLLines))
theorem same_all {P : Program} {w : World} {K : PySem.W.Frag} {mg : Str → Option Value} {base : Heap} {pS pT pW : Addr} {f : Addr} {fd : FuncData} (Z : Zn w K mg pS pT pW) (F : Fun K "_law_same" "_law_same" sLSame f fd) (b : Binds K fd ["_law_found", "_law_due"] []) (m : mg "_law_same" = some (.ref f)) : ∀ n : Nat, FnOk P w K mg base (L2.CX P w) n f fd ["_law_found", "_law_due"] (spD K (sameS n))
  | 0 => by
    have no : ∀ vs H Q E, ¬ spD K (sameS 0) vs H Q E := fun vs H Q E h => by
      obtain ⟨ds, L, k, x, _, _, ⟨_, _, _, _, _, h, _⟩, _⟩ := h
      exact absurd h (Nat.not_lt_zero _)
    exact ⟨fun vs H Q E h => absurd h (no vs H Q E), fun A outer s H args us vs Q E _ _ _ _ h => absurd h (no vs H Q E)⟩
  | n + 1 => ok_LSame Z F ⟨⟨f, fd, [], [], same_all Z F b m n, m, F.kp, b, .nil, fun _ _ => .nil⟩⟩
theorem all_mk {P : Program} {w : World} {K : PySem.W.Frag} {h : Heap} {mg : Str → Option Value} {fa : Addr}
    {pS pT pW : Addr}
    {C CT : Addr}
    {f1 : Addr} {od1 an1 : Option Addr} {sl1 : Array (Option Value)} {oc1 kV1 dc1 pm1 cd1 ct1 : Value}
    {f2 : Addr} {od2 an2 : Option Addr} {sl2 : Array (Option Value)} {oc2 kV2 dc2 pm2 cd2 ct2 : Value}
    {f3 : Addr} {od3 an3 : Option Addr} {sl3 : Array (Option Value)} {oc3 kV3 dc3 pm3 cd3 ct3 : Value}
    {f4 : Addr} {od4 an4 : Option Addr} {sl4 : Array (Option Value)} {oc4 kV4 dc4 pm4 cd4 ct4 : Value}
    {f5 : Addr} {od5 an5 : Option Addr} {sl5 : Array (Option Value)} {oc5 kV5 dc5 pm5 cd5 ct5 : Value}
    {T5 : Addr} {tc5 : Value} {td5 : Option Addr} {tn5 : Nat} {ts5 : Array (Option Value)} {tk5_0 : Tok}
    {f6 : Addr} {od6 an6 : Option Addr} {sl6 : Array (Option Value)} {oc6 kV6 dc6 pm6 cd6 ct6 : Value}
    {f7 : Addr} {od7 an7 : Option Addr} {sl7 : Array (Option Value)} {oc7 kV7 dc7 pm7 cd7 ct7 : Value}
    {f8 : Addr} {od8 an8 : Option Addr} {sl8 : Array (Option Value)} {oc8 kV8 dc8 pm8 cd8 ct8 : Value}
    {f9 : Addr} {od9 an9 : Option Addr} {sl9 : Array (Option Value)} {oc9 kV9 dc9 pm9 cd9 ct9 : Value}
    {f10 : Addr} {od10 an10 : Option Addr} {sl10 : Array (Option Value)} {oc10 kV10 dc10 pm10 cd10 ct10 : Value}
    {f11 : Addr} {od11 an11 : Option Addr} {sl11 : Array (Option Value)} {oc11 kV11 dc11 pm11 cd11 ct11 : Value}
    {f12 : Addr} {od12 an12 : Option Addr} {sl12 : Array (Option Value)} {oc12 kV12 dc12 pm12 cd12 ct12 : Value}
    {f13 : Addr} {od13 an13 : Option Addr} {sl13 : Array (Option Value)} {oc13 kV13 dc13 pm13 cd13 ct13 : Value}
    {f14 : Addr} {od14 an14 : Option Addr} {sl14 : Array (Option Value)} {oc14 kV14 dc14 pm14 cd14 ct14 : Value}
    {f15 : Addr} {od15 an15 : Option Addr} {sl15 : Array (Option Value)} {oc15 kV15 dc15 pm15 cd15 ct15 : Value}
    {f16 : Addr} {od16 an16 : Option Addr} {sl16 : Array (Option Value)} {oc16 kV16 dc16 pm16 cd16 ct16 : Value}
    {f17 : Addr} {od17 an17 : Option Addr} {sl17 : Array (Option Value)} {oc17 kV17 dc17 pm17 cd17 ct17 : Value}
    {f18 : Addr} {od18 an18 : Option Addr} {sl18 : Array (Option Value)} {oc18 kV18 dc18 pm18 cd18 ct18 : Value}
    {f19 : Addr} {od19 an19 : Option Addr} {sl19 : Array (Option Value)} {oc19 kV19 dc19 pm19 cd19 ct19 : Value}
    {f20 : Addr} {od20 an20 : Option Addr} {sl20 : Array (Option Value)} {oc20 kV20 dc20 pm20 cd20 ct20 : Value}
    {f21 : Addr} {od21 an21 : Option Addr} {sl21 : Array (Option Value)} {oc21 kV21 dc21 pm21 cd21 ct21 : Value}
    {f22 : Addr} {od22 an22 : Option Addr} {sl22 : Array (Option Value)} {oc22 kV22 dc22 pm22 cd22 ct22 : Value}
    {f23 : Addr} {od23 an23 : Option Addr} {sl23 : Array (Option Value)} {oc23 kV23 dc23 pm23 cd23 ct23 : Value}
    {f24 : Addr} {od24 an24 : Option Addr} {sl24 : Array (Option Value)} {oc24 kV24 dc24 pm24 cd24 ct24 : Value}
    {f25 : Addr} {od25 an25 : Option Addr} {sl25 : Array (Option Value)} {oc25 kV25 dc25 pm25 cd25 ct25 : Value}
    {f26 : Addr} {od26 an26 : Option Addr} {sl26 : Array (Option Value)} {oc26 kV26 dc26 pm26 cd26 ct26 : Value}
    {f27 : Addr} {od27 an27 : Option Addr} {sl27 : Array (Option Value)} {oc27 kV27 dc27 pm27 cd27 ct27 : Value}
    {f28 : Addr} {od28 an28 : Option Addr} {sl28 : Array (Option Value)} {oc28 kV28 dc28 pm28 cd28 ct28 : Value}
    {f29 : Addr} {od29 an29 : Option Addr} {sl29 : Array (Option Value)} {oc29 kV29 dc29 pm29 cd29 ct29 : Value}
    {f30 : Addr} {od30 an30 : Option Addr} {sl30 : Array (Option Value)} {oc30 kV30 dc30 pm30 cd30 ct30 : Value}
    {f31 : Addr} {od31 an31 : Option Addr} {sl31 : Array (Option Value)} {oc31 kV31 dc31 pm31 cd31 ct31 : Value}
    {f32 : Addr} {od32 an32 : Option Addr} {sl32 : Array (Option Value)} {oc32 kV32 dc32 pm32 cd32 ct32 : Value}
    {f33 : Addr} {od33 an33 : Option Addr} {sl33 : Array (Option Value)} {oc33 kV33 dc33 pm33 cd33 ct33 : Value}
    {f34 : Addr} {od34 an34 : Option Addr} {sl34 : Array (Option Value)} {oc34 kV34 dc34 pm34 cd34 ct34 : Value}
    {f35 : Addr} {od35 an35 : Option Addr} {sl35 : Array (Option Value)} {oc35 kV35 dc35 pm35 cd35 ct35 : Value}
    {f36 : Addr} {od36 an36 : Option Addr} {sl36 : Array (Option Value)} {oc36 kV36 dc36 pm36 cd36 ct36 : Value}
    {f37 : Addr} {od37 an37 : Option Addr} {sl37 : Array (Option Value)} {oc37 kV37 dc37 pm37 cd37 ct37 : Value}
    {f38 : Addr} {od38 an38 : Option Addr} {sl38 : Array (Option Value)} {oc38 kV38 dc38 pm38 cd38 ct38 : Value}
    {f39 : Addr} {od39 an39 : Option Addr} {sl39 : Array (Option Value)} {oc39 kV39 dc39 pm39 cd39 ct39 : Value}
    {f40 : Addr} {od40 an40 : Option Addr} {sl40 : Array (Option Value)} {oc40 kV40 dc40 pm40 cd40 ct40 : Value}
    {f41 : Addr} {od41 an41 : Option Addr} {sl41 : Array (Option Value)} {oc41 kV41 dc41 pm41 cd41 ct41 : Value}
    {f42 : Addr} {od42 an42 : Option Addr} {sl42 : Array (Option Value)} {oc42 kV42 dc42 pm42 cd42 ct42 : Value}
    {f43 : Addr} {od43 an43 : Option Addr} {sl43 : Array (Option Value)} {oc43 kV43 dc43 pm43 cd43 ct43 : Value}
    {tk_DEEPEST_EXPRESSION : Tok}
    {tk_DEEPEST_STATEMENT : Tok}
    {tk_MOST_STATEMENTS : Tok}
    {tk_LETTERS : Tok}
    {ad_RESERVED : Addr} {od_RESERVED : Option Addr} {nn_RESERVED : Nat} {sl_RESERVED : Array (Option Value)} {tk0_RESERVED : Tok} {tk1_RESERVED : Tok} {tk2_RESERVED : Tok} {tk3_RESERVED : Tok} {tk4_RESERVED : Tok} {tk5_RESERVED : Tok} {tk6_RESERVED : Tok} {tk7_RESERVED : Tok}
    {es_SIGNS : Array DictEntry} {nn_SIGNS : Nat}
    {es_TESTS : Array DictEntry} {nn_TESTS : Nat}
    {ad_TOO_DEEP : Addr} {od_TOO_DEEP : Option Addr} {nn_TOO_DEEP : Nat} {sl_TOO_DEEP : Array (Option Value)} {tk0_TOO_DEEP : Tok}
    {es_WORDS : Array DictEntry} {nn_WORDS : Nat}
    {ad_COMPARISONS : Addr} {od_COMPARISONS : Option Addr} {nn_COMPARISONS : Nat} {sl_COMPARISONS : Array (Option Value)} {ad_COMPARISONS0 : Addr} {od_COMPARISONS0 : Option Addr} {nn_COMPARISONS0 : Nat} {sl_COMPARISONS0 : Array (Option Value)} {tk0_COMPARISONS0 : Tok} {tk1_COMPARISONS0 : Tok} {ad_COMPARISONS1 : Addr} {od_COMPARISONS1 : Option Addr} {nn_COMPARISONS1 : Nat} {sl_COMPARISONS1 : Array (Option Value)} {tk0_COMPARISONS1 : Tok} {tk1_COMPARISONS1 : Tok} {ad_COMPARISONS2 : Addr} {od_COMPARISONS2 : Option Addr} {nn_COMPARISONS2 : Nat} {sl_COMPARISONS2 : Array (Option Value)} {tk0_COMPARISONS2 : Tok} {tk1_COMPARISONS2 : Tok} 
    {nm_InvalidProgram q_InvalidProgram : Str} {N_InvalidProgram fI_InvalidProgram : Addr} {bs_InvalidProgram bm_InvalidProgram su_InvalidProgram : List Value} {sn_InvalidProgram : List Str} {ab_InvalidProgram : Bool} {co_InvalidProgram : Option Bool} {dd_InvalidProgram odI_InvalidProgram anI_InvalidProgram : Option Addr} {k0_InvalidProgram k1_InvalidProgram k2_InvalidProgram k3_InvalidProgram k5_InvalidProgram : Option Value} {ocI_InvalidProgram kVI_InvalidProgram dcI_InvalidProgram pmI_InvalidProgram cdI_InvalidProgram ctI_InvalidProgram : Value} {slI_InvalidProgram : Array (Option Value)}
    {nm_InvalidText q_InvalidText : Str} {N_InvalidText fI_InvalidText : Addr} {bs_InvalidText bm_InvalidText su_InvalidText : List Value} {sn_InvalidText : List Str} {ab_InvalidText : Bool} {co_InvalidText : Option Bool} {dd_InvalidText odI_InvalidText anI_InvalidText : Option Addr} {k0_InvalidText k1_InvalidText k2_InvalidText k3_InvalidText k5_InvalidText : Option Value} {ocI_InvalidText kVI_InvalidText dcI_InvalidText pmI_InvalidText cdI_InvalidText ctI_InvalidText : Value} {slI_InvalidText : Array (Option Value)}
    (X : K.In h) (G : h.Ns mainGlobals mg) (hfa : mg "law" = some (.ref fa))
    (a1 : PySem.W.nsIn K mainGlobals "is_integer" = some (some (.ref f1))) (l1 : K.lookup f1 = some ⟨oc1, od1, .func (PySem.W.fnOf "is_integer" "is_integer" (defArgs sIsInteger) (defBody sIsInteger) (defScope sIsInteger) .none kV1 dc1 pm1 an1 cd1 ct1), sl1⟩) (c1 : PySem.W.codeIn K cd1 "is_integer" = true) (k1 : PySem.W.keepIn K (.ref f1) = true)
    (a2 : PySem.W.nsIn K mainGlobals "is_number" = some (some (.ref f2))) (l2 : K.lookup f2 = some ⟨oc2, od2, .func (PySem.W.fnOf "is_number" "is_number" (defArgs sIsNumber) (defBody sIsNumber) (defScope sIsNumber) .none kV2 dc2 pm2 an2 cd2 ct2), sl2⟩) (c2 : PySem.W.codeIn K cd2 "is_number" = true) (k2 : PySem.W.keepIn K (.ref f2) = true)
    (a3 : PySem.W.nsIn K mainGlobals "is_name" = some (some (.ref f3))) (l3 : K.lookup f3 = some ⟨oc3, od3, .func (PySem.W.fnOf "is_name" "is_name" (defArgs sIsName) (defBody sIsName) (defScope sIsName) .none kV3 dc3 pm3 an3 cd3 ct3), sl3⟩) (c3 : PySem.W.codeIn K cd3 "is_name" = true) (k3 : PySem.W.keepIn K (.ref f3) = true)
    (a4 : PySem.W.nsIn K mainGlobals "is_tuple_of" = some (some (.ref f4))) (l4 : K.lookup f4 = some ⟨oc4, od4, .func (PySem.W.fnOf "is_tuple_of" "is_tuple_of" (defArgs sIsTupleOf) (defBody sIsTupleOf) (defScope sIsTupleOf) .none kV4 dc4 pm4 an4 cd4 ct4), sl4⟩) (c4 : PySem.W.codeIn K cd4 "is_tuple_of" = true) (k4 : PySem.W.keepIn K (.ref f4) = true)
    (a5 : PySem.W.nsIn K mainGlobals "is_expression" = some (some (.ref f5))) (l5 : K.lookup f5 = some ⟨oc5, od5, .func (PySem.W.fnOf "is_expression" "is_expression" (defArgs sIsExpression) (defBody sIsExpression) (defScope sIsExpression) (.ref T5) kV5 dc5 pm5 an5 cd5 ct5), sl5⟩) (c5 : PySem.W.codeIn K cd5 "is_expression" = true) (k5 : PySem.W.keepIn K (.ref f5) = true)
    (lT5 : K.lookup T5 = some ⟨tc5, td5, .seq [.int 6 tk5_0].toArray tn5, ts5⟩)
    (a6 : PySem.W.nsIn K mainGlobals "both" = some (some (.ref f6))) (l6 : K.lookup f6 = some ⟨oc6, od6, .func (PySem.W.fnOf "both" "both" (defArgs sBoth) (defBody sBoth) (defScope sBoth) .none kV6 dc6 pm6 an6 cd6 ct6), sl6⟩) (c6 : PySem.W.codeIn K cd6 "both" = true) (k6 : PySem.W.keepIn K (.ref f6) = true)
    (a7 : PySem.W.nsIn K mainGlobals "is_head" = some (some (.ref f7))) (l7 : K.lookup f7 = some ⟨oc7, od7, .func (PySem.W.fnOf "is_head" "is_head" (defArgs sIsHead) (defBody sIsHead) (defScope sIsHead) .none kV7 dc7 pm7 an7 cd7 ct7), sl7⟩) (c7 : PySem.W.codeIn K cd7 "is_head" = true) (k7 : PySem.W.keepIn K (.ref f7) = true)
    (a8 : PySem.W.nsIn K mainGlobals "blocks_of" = some (some (.ref f8))) (l8 : K.lookup f8 = some ⟨oc8, od8, .func (PySem.W.fnOf "blocks_of" "blocks_of" (defArgs sBlocksOf) (defBody sBlocksOf) (defScope sBlocksOf) .none kV8 dc8 pm8 an8 cd8 ct8), sl8⟩) (c8 : PySem.W.codeIn K cd8 "blocks_of" = true) (k8 : PySem.W.keepIn K (.ref f8) = true)
    (a9 : PySem.W.nsIn K mainGlobals "visit" = some (some (.ref f9))) (l9 : K.lookup f9 = some ⟨oc9, od9, .func (PySem.W.fnOf "visit" "visit" (defArgs sVisit) (defBody sVisit) (defScope sVisit) .none kV9 dc9 pm9 an9 cd9 ct9), sl9⟩) (c9 : PySem.W.codeIn K cd9 "visit" = true) (k9 : PySem.W.keepIn K (.ref f9) = true)
    (a10 : PySem.W.nsIn K mainGlobals "check_program" = some (some (.ref f10))) (l10 : K.lookup f10 = some ⟨oc10, od10, .func (PySem.W.fnOf "check_program" "check_program" (defArgs sCheckProgram) (defBody sCheckProgram) (defScope sCheckProgram) .none kV10 dc10 pm10 an10 cd10 ct10), sl10⟩) (c10 : PySem.W.codeIn K cd10 "check_program" = true) (k10 : PySem.W.keepIn K (.ref f10) = true)
    (a11 : PySem.W.nsIn K mainGlobals "expression_text" = some (some (.ref f11))) (l11 : K.lookup f11 = some ⟨oc11, od11, .func (PySem.W.fnOf "expression_text" "expression_text" (defArgs sExpressionText) (defBody sExpressionText) (defScope sExpressionText) .none kV11 dc11 pm11 an11 cd11 ct11), sl11⟩) (c11 : PySem.W.codeIn K cd11 "expression_text" = true) (k11 : PySem.W.keepIn K (.ref f11) = true)
    (a12 : PySem.W.nsIn K mainGlobals "line_of" = some (some (.ref f12))) (l12 : K.lookup f12 = some ⟨oc12, od12, .func (PySem.W.fnOf "line_of" "line_of" (defArgs sLineOf) (defBody sLineOf) (defScope sLineOf) .none kV12 dc12 pm12 an12 cd12 ct12), sl12⟩) (c12 : PySem.W.codeIn K cd12 "line_of" = true) (k12 : PySem.W.keepIn K (.ref f12) = true)
    (a13 : PySem.W.nsIn K mainGlobals "lines_of" = some (some (.ref f13))) (l13 : K.lookup f13 = some ⟨oc13, od13, .func (PySem.W.fnOf "lines_of" "lines_of" (defArgs sLinesOf) (defBody sLinesOf) (defScope sLinesOf) .none kV13 dc13 pm13 an13 cd13 ct13), sl13⟩) (c13 : PySem.W.codeIn K cd13 "lines_of" = true) (k13 : PySem.W.keepIn K (.ref f13) = true)
    (a14 : PySem.W.nsIn K mainGlobals "program_text" = some (some (.ref f14))) (l14 : K.lookup f14 = some ⟨oc14, od14, .func (PySem.W.fnOf "program_text" "program_text" (defArgs sProgramText) (defBody sProgramText) (defScope sProgramText) .none kV14 dc14 pm14 an14 cd14 ct14), sl14⟩) (c14 : PySem.W.codeIn K cd14 "program_text" = true) (k14 : PySem.W.keepIn K (.ref f14) = true)
    (a15 : PySem.W.nsIn K mainGlobals "run_of" = some (some (.ref f15))) (l15 : K.lookup f15 = some ⟨oc15, od15, .func (PySem.W.fnOf "run_of" "run_of" (defArgs sRunOf) (defBody sRunOf) (defScope sRunOf) .none kV15 dc15 pm15 an15 cd15 ct15), sl15⟩) (c15 : PySem.W.codeIn K cd15 "run_of" = true) (k15 : PySem.W.keepIn K (.ref f15) = true)
    (a16 : PySem.W.nsIn K mainGlobals "is_figure_word" = some (some (.ref f16))) (l16 : K.lookup f16 = some ⟨oc16, od16, .func (PySem.W.fnOf "is_figure_word" "is_figure_word" (defArgs sIsFigureWord) (defBody sIsFigureWord) (defScope sIsFigureWord) .none kV16 dc16 pm16 an16 cd16 ct16), sl16⟩) (c16 : PySem.W.codeIn K cd16 "is_figure_word" = true) (k16 : PySem.W.keepIn K (.ref f16) = true)
    (a17 : PySem.W.nsIn K mainGlobals "read_leaf" = some (some (.ref f17))) (l17 : K.lookup f17 = some ⟨oc17, od17, .func (PySem.W.fnOf "read_leaf" "read_leaf" (defArgs sReadLeaf) (defBody sReadLeaf) (defScope sReadLeaf) .none kV17 dc17 pm17 an17 cd17 ct17), sl17⟩) (c17 : PySem.W.codeIn K cd17 "read_leaf" = true) (k17 : PySem.W.keepIn K (.ref f17) = true)
    (a18 : PySem.W.nsIn K mainGlobals "depth_of" = some (some (.ref f18))) (l18 : K.lookup f18 = some ⟨oc18, od18, .func (PySem.W.fnOf "depth_of" "depth_of" (defArgs sDepthOf) (defBody sDepthOf) (defScope sDepthOf) .none kV18 dc18 pm18 an18 cd18 ct18), sl18⟩) (c18 : PySem.W.codeIn K cd18 "depth_of" = true) (k18 : PySem.W.keepIn K (.ref f18) = true)
    (a19 : PySem.W.nsIn K mainGlobals "joined" = some (some (.ref f19))) (l19 : K.lookup f19 = some ⟨oc19, od19, .func (PySem.W.fnOf "joined" "joined" (defArgs sJoined) (defBody sJoined) (defScope sJoined) .none kV19 dc19 pm19 an19 cd19 ct19), sl19⟩) (c19 : PySem.W.codeIn K cd19 "joined" = true) (k19 : PySem.W.keepIn K (.ref f19) = true)
    (a20 : PySem.W.nsIn K mainGlobals "opened" = some (some (.ref f20))) (l20 : K.lookup f20 = some ⟨oc20, od20, .func (PySem.W.fnOf "opened" "opened" (defArgs sOpened) (defBody sOpened) (defScope sOpened) .none kV20 dc20 pm20 an20 cd20 ct20), sl20⟩) (c20 : PySem.W.codeIn K cd20 "opened" = true) (k20 : PySem.W.keepIn K (.ref f20) = true)
    (a21 : PySem.W.nsIn K mainGlobals "continued" = some (some (.ref f21))) (l21 : K.lookup f21 = some ⟨oc21, od21, .func (PySem.W.fnOf "continued" "continued" (defArgs sContinued) (defBody sContinued) (defScope sContinued) .none kV21 dc21 pm21 an21 cd21 ct21), sl21⟩) (c21 : PySem.W.codeIn K cd21 "continued" = true) (k21 : PySem.W.keepIn K (.ref f21) = true)
    (a22 : PySem.W.nsIn K mainGlobals "read_expression" = some (some (.ref f22))) (l22 : K.lookup f22 = some ⟨oc22, od22, .func (PySem.W.fnOf "read_expression" "read_expression" (defArgs sReadExpression) (defBody sReadExpression) (defScope sReadExpression) .none kV22 dc22 pm22 an22 cd22 ct22), sl22⟩) (c22 : PySem.W.codeIn K cd22 "read_expression" = true) (k22 : PySem.W.keepIn K (.ref f22) = true)
    (a23 : PySem.W.nsIn K mainGlobals "read_whole" = some (some (.ref f23))) (l23 : K.lookup f23 = some ⟨oc23, od23, .func (PySem.W.fnOf "read_whole" "read_whole" (defArgs sReadWhole) (defBody sReadWhole) (defScope sReadWhole) .none kV23 dc23 pm23 an23 cd23 ct23), sl23⟩) (c23 : PySem.W.codeIn K cd23 "read_whole" = true) (k23 : PySem.W.keepIn K (.ref f23) = true)
    (a24 : PySem.W.nsIn K mainGlobals "read_test" = some (some (.ref f24))) (l24 : K.lookup f24 = some ⟨oc24, od24, .func (PySem.W.fnOf "read_test" "read_test" (defArgs sReadTest) (defBody sReadTest) (defScope sReadTest) .none kV24 dc24 pm24 an24 cd24 ct24), sl24⟩) (c24 : PySem.W.codeIn K cd24 "read_test" = true) (k24 : PySem.W.keepIn K (.ref f24) = true)
    (a25 : PySem.W.nsIn K mainGlobals "read_line" = some (some (.ref f25))) (l25 : K.lookup f25 = some ⟨oc25, od25, .func (PySem.W.fnOf "read_line" "read_line" (defArgs sReadLine) (defBody sReadLine) (defScope sReadLine) .none kV25 dc25 pm25 an25 cd25 ct25), sl25⟩) (c25 : PySem.W.codeIn K cd25 "read_line" = true) (k25 : PySem.W.keepIn K (.ref f25) = true)
    (a26 : PySem.W.nsIn K mainGlobals "closed" = some (some (.ref f26))) (l26 : K.lookup f26 = some ⟨oc26, od26, .func (PySem.W.fnOf "closed" "closed" (defArgs sClosed) (defBody sClosed) (defScope sClosed) .none kV26 dc26 pm26 an26 cd26 ct26), sl26⟩) (c26 : PySem.W.codeIn K cd26 "closed" = true) (k26 : PySem.W.keepIn K (.ref f26) = true)
    (a27 : PySem.W.nsIn K mainGlobals "block_in" = some (some (.ref f27))) (l27 : K.lookup f27 = some ⟨oc27, od27, .func (PySem.W.fnOf "block_in" "block_in" (defArgs sBlockIn) (defBody sBlockIn) (defScope sBlockIn) .none kV27 dc27 pm27 an27 cd27 ct27), sl27⟩) (c27 : PySem.W.codeIn K cd27 "block_in" = true) (k27 : PySem.W.keepIn K (.ref f27) = true)
    (a28 : PySem.W.nsIn K mainGlobals "take_line" = some (some (.ref f28))) (l28 : K.lookup f28 = some ⟨oc28, od28, .func (PySem.W.fnOf "take_line" "take_line" (defArgs sTakeLine) (defBody sTakeLine) (defScope sTakeLine) .none kV28 dc28 pm28 an28 cd28 ct28), sl28⟩) (c28 : PySem.W.codeIn K cd28 "take_line" = true) (k28 : PySem.W.keepIn K (.ref f28) = true)
    (a29 : PySem.W.nsIn K mainGlobals "read_program" = some (some (.ref f29))) (l29 : K.lookup f29 = some ⟨oc29, od29, .func (PySem.W.fnOf "read_program" "read_program" (defArgs sReadProgram) (defBody sReadProgram) (defScope sReadProgram) .none kV29 dc29 pm29 an29 cd29 ct29), sl29⟩) (c29 : PySem.W.codeIn K cd29 "read_program" = true) (k29 : PySem.W.keepIn K (.ref f29) = true)
    (a30 : PySem.W.nsIn K mainGlobals "_law_bag" = some (some (.ref f30))) (l30 : K.lookup f30 = some ⟨oc30, od30, .func (PySem.W.fnOf "_law_bag" "_law_bag" (defArgs sLBag) (defBody sLBag) (defScope sLBag) .none kV30 dc30 pm30 an30 cd30 ct30), sl30⟩) (c30 : PySem.W.codeIn K cd30 "_law_bag" = true) (k30 : PySem.W.keepIn K (.ref f30) = true)
    (a31 : PySem.W.nsIn K mainGlobals "_law_pull" = some (some (.ref f31))) (l31 : K.lookup f31 = some ⟨oc31, od31, .func (PySem.W.fnOf "_law_pull" "_law_pull" (defArgs sLPull) (defBody sLPull) (defScope sLPull) .none kV31 dc31 pm31 an31 cd31 ct31), sl31⟩) (c31 : PySem.W.codeIn K cd31 "_law_pull" = true) (k31 : PySem.W.keepIn K (.ref f31) = true)
    (a32 : PySem.W.nsIn K mainGlobals "_law_of" = some (some (.ref f32))) (l32 : K.lookup f32 = some ⟨oc32, od32, .func (PySem.W.fnOf "_law_of" "_law_of" (defArgs sLOf) (defBody sLOf) (defScope sLOf) .none kV32 dc32 pm32 an32 cd32 ct32), sl32⟩) (c32 : PySem.W.codeIn K cd32 "_law_of" = true) (k32 : PySem.W.keepIn K (.ref f32) = true)
    (a33 : PySem.W.nsIn K mainGlobals "_law_same" = some (some (.ref f33))) (l33 : K.lookup f33 = some ⟨oc33, od33, .func (PySem.W.fnOf "_law_same" "_law_same" (defArgs sLSame) (defBody sLSame) (defScope sLSame) .none kV33 dc33 pm33 an33 cd33 ct33), sl33⟩) (c33 : PySem.W.codeIn K cd33 "_law_same" = true) (k33 : PySem.W.keepIn K (.ref f33) = true)
    (a34 : PySem.W.nsIn K mainGlobals "_law_names" = some (some (.ref f34))) (l34 : K.lookup f34 = some ⟨oc34, od34, .func (PySem.W.fnOf "_law_names" "_law_names" (defArgs sLNames) (defBody sLNames) (defScope sLNames) .none kV34 dc34 pm34 an34 cd34 ct34), sl34⟩) (c34 : PySem.W.codeIn K cd34 "_law_names" = true) (k34 : PySem.W.keepIn K (.ref f34) = true)
    (a35 : PySem.W.nsIn K mainGlobals "_law_leaf" = some (some (.ref f35))) (l35 : K.lookup f35 = some ⟨oc35, od35, .func (PySem.W.fnOf "_law_leaf" "_law_leaf" (defArgs sLLeaf) (defBody sLLeaf) (defScope sLLeaf) .none kV35 dc35 pm35 an35 cd35 ct35), sl35⟩) (c35 : PySem.W.codeIn K cd35 "_law_leaf" = true) (k35 : PySem.W.keepIn K (.ref f35) = true)
    (a36 : PySem.W.nsIn K mainGlobals "_law_expression" = some (some (.ref f36))) (l36 : K.lookup f36 = some ⟨oc36, od36, .func (PySem.W.fnOf "_law_expression" "_law_expression" (defArgs sLExpression) (defBody sLExpression) (defScope sLExpression) .none kV36 dc36 pm36 an36 cd36 ct36), sl36⟩) (c36 : PySem.W.codeIn K cd36 "_law_expression" = true) (k36 : PySem.W.keepIn K (.ref f36) = true)
    (a37 : PySem.W.nsIn K mainGlobals "_law_statement" = some (some (.ref f37))) (l37 : K.lookup f37 = some ⟨oc37, od37, .func (PySem.W.fnOf "_law_statement" "_law_statement" (defArgs sLStatement) (defBody sLStatement) (defScope sLStatement) .none kV37 dc37 pm37 an37 cd37 ct37), sl37⟩) (c37 : PySem.W.codeIn K cd37 "_law_statement" = true) (k37 : PySem.W.keepIn K (.ref f37) = true)
    (a38 : PySem.W.nsIn K mainGlobals "_law_block" = some (some (.ref f38))) (l38 : K.lookup f38 = some ⟨oc38, od38, .func (PySem.W.fnOf "_law_block" "_law_block" (defArgs sLBlock) (defBody sLBlock) (defScope sLBlock) .none kV38 dc38 pm38 an38 cd38 ct38), sl38⟩) (c38 : PySem.W.codeIn K cd38 "_law_block" = true) (k38 : PySem.W.keepIn K (.ref f38) = true)
    (a39 : PySem.W.nsIn K mainGlobals "_law_program" = some (some (.ref f39))) (l39 : K.lookup f39 = some ⟨oc39, od39, .func (PySem.W.fnOf "_law_program" "_law_program" (defArgs sLProgram) (defBody sLProgram) (defScope sLProgram) .none kV39 dc39 pm39 an39 cd39 ct39), sl39⟩) (c39 : PySem.W.codeIn K cd39 "_law_program" = true) (k39 : PySem.W.keepIn K (.ref f39) = true)
    (a40 : PySem.W.nsIn K mainGlobals "_law_expression_text" = some (some (.ref f40))) (l40 : K.lookup f40 = some ⟨oc40, od40, .func (PySem.W.fnOf "_law_expression_text" "_law_expression_text" (defArgs sLExpressionText) (defBody sLExpressionText) (defScope sLExpressionText) .none kV40 dc40 pm40 an40 cd40 ct40), sl40⟩) (c40 : PySem.W.codeIn K cd40 "_law_expression_text" = true) (k40 : PySem.W.keepIn K (.ref f40) = true)
    (a41 : PySem.W.nsIn K mainGlobals "_law_lines" = some (some (.ref f41))) (l41 : K.lookup f41 = some ⟨oc41, od41, .func (PySem.W.fnOf "_law_lines" "_law_lines" (defArgs sLLines) (defBody sLLines) (defScope sLLines) .none kV41 dc41 pm41 an41 cd41 ct41), sl41⟩) (c41 : PySem.W.codeIn K cd41 "_law_lines" = true) (k41 : PySem.W.keepIn K (.ref f41) = true)
    (a42 : PySem.W.nsIn K mainGlobals "_law_text" = some (some (.ref f42))) (l42 : K.lookup f42 = some ⟨oc42, od42, .func (PySem.W.fnOf "_law_text" "_law_text" (defArgs sLText) (defBody sLText) (defScope sLText) .none kV42 dc42 pm42 an42 cd42 ct42), sl42⟩) (c42 : PySem.W.codeIn K cd42 "_law_text" = true) (k42 : PySem.W.keepIn K (.ref f42) = true)
    (a43 : PySem.W.nsIn K mainGlobals "law" = some (some (.ref f43))) (l43 : K.lookup f43 = some ⟨oc43, od43, .func (PySem.W.fnOf "law" "law" (defArgs sLaw) (defBody sLaw) (defScope sLaw) .none kV43 dc43 pm43 an43 cd43 ct43), sl43⟩) (c43 : PySem.W.codeIn K cd43 "law" = true) (k43 : PySem.W.keepIn K (.ref f43) = true)
    (z_isinstance : PySem.W.nsIn K mainGlobals "isinstance" = some none)
    (z_int : PySem.W.nsIn K mainGlobals "int" = some none)
    (z_bool : PySem.W.nsIn K mainGlobals "bool" = some none)
    (z_str : PySem.W.nsIn K mainGlobals "str" = some none)
    (z_list : PySem.W.nsIn K mainGlobals "list" = some none)
    (z_tuple : PySem.W.nsIn K mainGlobals "tuple" = some none)
    (z_len : PySem.W.nsIn K mainGlobals "len" = some none)
    (z_abs : PySem.W.nsIn K mainGlobals "abs" = some none)
    (z_all : PySem.W.nsIn K mainGlobals "all" = some none)
    (z_range : PySem.W.nsIn K mainGlobals "range" = some none)
    (z_zip : PySem.W.nsIn K mainGlobals "zip" = some none)
    (z_enumerate : PySem.W.nsIn K mainGlobals "enumerate" = some none)
    (z_max : PySem.W.nsIn K mainGlobals "max" = some none)
    (g_DEEPEST_EXPRESSION : PySem.W.nsIn K mainGlobals "DEEPEST_EXPRESSION" = some (some (.int 6 tk_DEEPEST_EXPRESSION)))
    (g_DEEPEST_STATEMENT : PySem.W.nsIn K mainGlobals "DEEPEST_STATEMENT" = some (some (.int 4 tk_DEEPEST_STATEMENT)))
    (g_MOST_STATEMENTS : PySem.W.nsIn K mainGlobals "MOST_STATEMENTS" = some (some (.int 30 tk_MOST_STATEMENTS)))
    (g_LETTERS : PySem.W.nsIn K mainGlobals "LETTERS" = some (some (.str letters tk_LETTERS)))
    (g_RESERVED : PySem.W.nsIn K mainGlobals "RESERVED" = some (some (.ref ad_RESERVED)))
    (lk_RESERVED : K.lookup ad_RESERVED = some ⟨.type "tuple", od_RESERVED, .seq [.str "x" tk0_RESERVED, .str "y" tk1_RESERVED, .str "let" tk2_RESERVED, .str "if" tk3_RESERVED, .str "else" tk4_RESERVED, .str "end" tk5_RESERVED, .str "repeat" tk6_RESERVED, .str "stop" tk7_RESERVED].toArray nn_RESERVED, sl_RESERVED⟩)
    (g_SIGNS : PySem.W.nsIn K mainGlobals "SIGNS" = some (some (.ref pS)))
    (lk_SIGNS : K.lookup pS = some ⟨.type "dict", none, .dict es_SIGNS nn_SIGNS, #[]⟩)
    (li_SIGNS : PySem.W.KeysLit w.params es_SIGNS.toList)
    (lo_SIGNS : (pS == sysModules) = false)
    (en_SIGNS : EntsOk K signsT es_SIGNS.toList)
    (g_TESTS : PySem.W.nsIn K mainGlobals "TESTS" = some (some (.ref pT)))
    (lk_TESTS : K.lookup pT = some ⟨.type "dict", none, .dict es_TESTS nn_TESTS, #[]⟩)
    (li_TESTS : PySem.W.KeysLit w.params es_TESTS.toList)
    (lo_TESTS : (pT == sysModules) = false)
    (en_TESTS : EntsOk K testsT es_TESTS.toList)
    (g_TOO_DEEP : PySem.W.nsIn K mainGlobals "TOO_DEEP" = some (some (.ref ad_TOO_DEEP)))
    (lk_TOO_DEEP : K.lookup ad_TOO_DEEP = some ⟨.type "tuple", od_TOO_DEEP, .seq [.str "deep" tk0_TOO_DEEP].toArray nn_TOO_DEEP, sl_TOO_DEEP⟩)
    (g_WORDS : PySem.W.nsIn K mainGlobals "WORDS" = some (some (.ref pW)))
    (lk_WORDS : K.lookup pW = some ⟨.type "dict", none, .dict es_WORDS nn_WORDS, #[]⟩)
    (li_WORDS : PySem.W.KeysLit w.params es_WORDS.toList)
    (lo_WORDS : (pW == sysModules) = false)
    (en_WORDS : EntsOk K wordsT es_WORDS.toList)
    (g_COMPARISONS : PySem.W.nsIn K mainGlobals "COMPARISONS" = some (some (.ref ad_COMPARISONS)))
    (lk_COMPARISONS : K.lookup ad_COMPARISONS = some ⟨.type "tuple", od_COMPARISONS, .seq [.ref ad_COMPARISONS0, .ref ad_COMPARISONS1, .ref ad_COMPARISONS2].toArray nn_COMPARISONS, sl_COMPARISONS⟩)
    (lk_COMPARISONS0 : K.lookup ad_COMPARISONS0 = some ⟨.type "tuple", od_COMPARISONS0, .seq [.str " <= " tk0_COMPARISONS0, .str "upto" tk1_COMPARISONS0].toArray nn_COMPARISONS0, sl_COMPARISONS0⟩)
    (lk_COMPARISONS1 : K.lookup ad_COMPARISONS1 = some ⟨.type "tuple", od_COMPARISONS1, .seq [.str " < " tk0_COMPARISONS1, .str "less" tk1_COMPARISONS1].toArray nn_COMPARISONS1, sl_COMPARISONS1⟩)
    (lk_COMPARISONS2 : K.lookup ad_COMPARISONS2 = some ⟨.type "tuple", od_COMPARISONS2, .seq [.str " = " tk0_COMPARISONS2, .str "equal" tk1_COMPARISONS2].toArray nn_COMPARISONS2, sl_COMPARISONS2⟩)
    (a_InvalidProgram : PySem.W.nsIn K mainGlobals "InvalidProgram" = some (some (.ref C)))
    (o_InvalidProgram : K.lookup C = some (excClassObj nm_InvalidProgram q_InvalidProgram C N_InvalidProgram bs_InvalidProgram bm_InvalidProgram true sn_InvalidProgram su_InvalidProgram ab_InvalidProgram co_InvalidProgram dd_InvalidProgram k0_InvalidProgram k1_InvalidProgram k2_InvalidProgram k3_InvalidProgram k5_InvalidProgram "ValueError.__new__"))
    (r_InvalidProgram : PySem.HandSPX.refsVE bm_InvalidProgram = true)
    (sa_InvalidProgram : PySem.W.findIn K (.ref C) "__setattr__" = some (some (.builtin "object.__setattr__")))
    (ex_InvalidProgram : PySem.W.subIn K (.ref C) (.type "BaseException") = some true)
    (ty_InvalidProgram : PySem.W.typeIn K (.ref C) = some (.type "type"))
    (kc_InvalidProgram : PySem.W.keepIn K (.ref C) = true)
    (ga_InvalidProgram : PySem.W.findIn K (.ref C) "__getattribute__" = some (some (.builtin "BaseException.__getattribute__")))
    (gg_InvalidProgram : PySem.W.findIn K (.ref C) "__getattr__" = some none)
    (hd_InvalidProgram : PySem.W.hasDictIn K C = true)
    (iI_InvalidProgram : PySem.W.findIn K (.ref C) "__init__" = some (some (.ref fI_InvalidProgram)))
    (tI_InvalidProgram : PySem.W.typeIn K (.ref fI_InvalidProgram) = some (.type "function"))
    (lI_InvalidProgram : K.lookup fI_InvalidProgram = some ⟨ocI_InvalidProgram, odI_InvalidProgram, .func (PySem.W.fnOf "__init__" "InvalidProgram.__init__" (defArgs sInvalidProgram_init) (defBody sInvalidProgram_init) (defScope sInvalidProgram_init) .none kVI_InvalidProgram dcI_InvalidProgram pmI_InvalidProgram anI_InvalidProgram cdI_InvalidProgram ctI_InvalidProgram), slI_InvalidProgram⟩)
    (cI_InvalidProgram : PySem.W.codeIn K cdI_InvalidProgram "InvalidProgram.__init__" = true)
    (kI_InvalidProgram : PySem.W.keepIn K (.ref fI_InvalidProgram) = true)
    (f0_InvalidProgram : PySem.W.findIn K (.ref C) "at" = some none)
    (f1_InvalidProgram : PySem.W.findIn K (.ref C) "code" = some none)
    (a_InvalidText : PySem.W.nsIn K mainGlobals "InvalidText" = some (some (.ref CT)))
    (o_InvalidText : K.lookup CT = some (excClassObj nm_InvalidText q_InvalidText CT N_InvalidText bs_InvalidText bm_InvalidText true sn_InvalidText su_InvalidText ab_InvalidText co_InvalidText dd_InvalidText k0_InvalidText k1_InvalidText k2_InvalidText k3_InvalidText k5_InvalidText "ValueError.__new__"))
    (r_InvalidText : PySem.HandSPX.refsVE bm_InvalidText = true)
    (sa_InvalidText : PySem.W.findIn K (.ref CT) "__setattr__" = some (some (.builtin "object.__setattr__")))
    (ex_InvalidText : PySem.W.subIn K (.ref CT) (.type "BaseException") = some true)
    (ty_InvalidText : PySem.W.typeIn K (.ref CT) = some (.type "type"))
    (kc_InvalidText : PySem.W.keepIn K (.ref CT) = true)
    (ga_InvalidText : PySem.W.findIn K (.ref CT) "__getattribute__" = some (some (.builtin "BaseException.__getattribute__")))
    (gg_InvalidText : PySem.W.findIn K (.ref CT) "__getattr__" = some none)
    (hd_InvalidText : PySem.W.hasDictIn K CT = true)
    (iI_InvalidText : PySem.W.findIn K (.ref CT) "__init__" = some (some (.ref fI_InvalidText)))
    (tI_InvalidText : PySem.W.typeIn K (.ref fI_InvalidText) = some (.type "function"))
    (lI_InvalidText : K.lookup fI_InvalidText = some ⟨ocI_InvalidText, odI_InvalidText, .func (PySem.W.fnOf "__init__" "InvalidText.__init__" (defArgs sInvalidText_init) (defBody sInvalidText_init) (defScope sInvalidText_init) .none kVI_InvalidText dcI_InvalidText pmI_InvalidText anI_InvalidText cdI_InvalidText ctI_InvalidText), slI_InvalidText⟩)
    (cI_InvalidText : PySem.W.codeIn K cdI_InvalidText "InvalidText.__init__" = true)
    (kI_InvalidText : PySem.W.keepIn K (.ref fI_InvalidText) = true)
    (f0_InvalidText : PySem.W.findIn K (.ref CT) "line" = some none)
    (f1_InvalidText : PySem.W.findIn K (.ref CT) "code" = some none) :
    ∃ fd : FuncData, (∀ (s : Shared) (v : Value), BindsTo s fd ⟨[v], []⟩ [("_law_script", v)]) ∧ ∀ base : Heap, K.In base → base.Ns mainGlobals mg → FnOk P w K mg base (L2.CX P w) 32 fa fd ["_law_script"] (spD K lawS) := by
  have e := hfa.symm.trans (PySem.W.mg_of X G a43)
  cases e
  have n_InvalidProgram := PySem.W.mg_of X G a_InvalidProgram
  have OX_InvalidProgram : OexC K C := ⟨⟨_, _, _, _, _, _, _, _, _, _, _, _, _, _, _, o_InvalidProgram, r_InvalidProgram⟩, sa_InvalidProgram, ex_InvalidProgram, ty_InvalidProgram, kc_InvalidProgram⟩
  have XF_InvalidProgram : XfC K C := ⟨ga_InvalidProgram, gg_InvalidProgram, ex_InvalidProgram, hd_InvalidProgram⟩
  have FI_InvalidProgram := fun_mk (st := sInvalidProgram_init) lI_InvalidProgram cI_InvalidProgram kI_InvalidProgram
  have BI_InvalidProgram := FI_InvalidProgram.binds (ps := ["self", "at"]) fun _ _ _ _ _ _ us hl => match us, hl with | [_, _], _ => rfl
  have n_InvalidText := PySem.W.mg_of X G a_InvalidText
  have OX_InvalidText : OexC K CT := ⟨⟨_, _, _, _, _, _, _, _, _, _, _, _, _, _, _, o_InvalidText, r_InvalidText⟩, sa_InvalidText, ex_InvalidText, ty_InvalidText, kc_InvalidText⟩
  have XF_InvalidText : XfC K CT := ⟨ga_InvalidText, gg_InvalidText, ex_InvalidText, hd_InvalidText⟩
  have FI_InvalidText := fun_mk (st := sInvalidText_init) lI_InvalidText cI_InvalidText kI_InvalidText
  have BI_InvalidText := FI_InvalidText.binds (ps := ["self", "line"]) fun _ _ _ _ _ _ us hl => match us, hl with | [_, _], _ => rfl
  have FIsInteger := fun_mk (st := sIsInteger) l1 c1 k1
  have bIsInteger := FIsInteger.binds (ps := ["value"]) fun _ _ _ _ _ _ us hl => match us, hl with | [_], _ => rfl
  have mIsInteger := PySem.W.mg_of X G a1
  have FIsNumber := fun_mk (st := sIsNumber) l2 c2 k2
  have bIsNumber := FIsNumber.binds (ps := ["value", "least", "most"]) fun _ _ _ _ _ _ us hl => match us, hl with | [_, _, _], _ => rfl
  have mIsNumber := PySem.W.mg_of X G a2
  have FIsName := fun_mk (st := sIsName) l3 c3 k3
  have bIsName := FIsName.binds (ps := ["value"]) fun _ _ _ _ _ _ us hl => match us, hl with | [_], _ => rfl
  have mIsName := PySem.W.mg_of X G a3
  have FIsTupleOf := fun_mk (st := sIsTupleOf) l4 c4 k4
  have bIsTupleOf := FIsTupleOf.binds (ps := ["value", "word", "many"]) fun _ _ _ _ _ _ us hl => match us, hl with | [_, _, _], _ => rfl
  have mIsTupleOf := PySem.W.mg_of X G a4
  have FIsExpression := funv_mk (st := sIsExpression) (dvs := [.int 6]) (its := [.int 6 tk5_0]) (.cons ⟨_, rfl⟩ (.nil)) (by simp) l5 lT5 c5 k5
  obtain ⟨ds5_1, vs5_1, bIsExpression_1⟩ := FIsExpression.binds1 (ps := ["value", "deep"]) 1 0 (by simp) rfl fun T _ _ _ _ _ _ us its hu hi => match us, its, hu, hi with | [_], [_], _, _ => ⟨_, rfl, rfl⟩
  obtain ⟨ds5_2, vs5_2, bIsExpression_2⟩ := FIsExpression.binds1 (ps := ["value", "deep"]) 2 1 (by simp) rfl fun T _ _ _ _ _ _ us its hu hi => match us, its, hu, hi with | [_, _], [_], _, _ => ⟨_, rfl, rfl⟩
  have mIsExpression := PySem.W.mg_of X G a5
  have FBoth := fun_mk (st := sBoth) l6 c6 k6
  have bBoth := FBoth.binds (ps := ["values", "deep"]) fun _ _ _ _ _ _ us hl => match us, hl with | [_, _], _ => rfl
  have mBoth := PySem.W.mg_of X G a6
  have FIsHead := fun_mk (st := sIsHead) l7 c7 k7
  have bIsHead := FIsHead.binds (ps := ["value"]) fun _ _ _ _ _ _ us hl => match us, hl with | [_], _ => rfl
  have mIsHead := PySem.W.mg_of X G a7
  have FBlocksOf := fun_mk (st := sBlocksOf) l8 c8 k8
  have bBlocksOf := FBlocksOf.binds (ps := ["statement"]) fun _ _ _ _ _ _ us hl => match us, hl with | [_], _ => rfl
  have mBlocksOf := PySem.W.mg_of X G a8
  have FVisit := fun_mk (st := sVisit) l9 c9 k9
  have bVisit := FVisit.binds (ps := ["statements", "deep", "count"]) fun _ _ _ _ _ _ us hl => match us, hl with | [_, _, _], _ => rfl
  have mVisit := PySem.W.mg_of X G a9
  have FCheckProgram := fun_mk (st := sCheckProgram) l10 c10 k10
  have bCheckProgram := FCheckProgram.binds (ps := ["value"]) fun _ _ _ _ _ _ us hl => match us, hl with | [_], _ => rfl
  have mCheckProgram := PySem.W.mg_of X G a10
  have FExpressionText := fun_mk (st := sExpressionText) l11 c11 k11
  have bExpressionText := FExpressionText.binds (ps := ["expression"]) fun _ _ _ _ _ _ us hl => match us, hl with | [_], _ => rfl
  have mExpressionText := PySem.W.mg_of X G a11
  have FLineOf := fun_mk (st := sLineOf) l12 c12 k12
  have bLineOf := FLineOf.binds (ps := ["statement"]) fun _ _ _ _ _ _ us hl => match us, hl with | [_], _ => rfl
  have mLineOf := PySem.W.mg_of X G a12
  have FLinesOf := fun_mk (st := sLinesOf) l13 c13 k13
  have bLinesOf := FLinesOf.binds (ps := ["program"]) fun _ _ _ _ _ _ us hl => match us, hl with | [_], _ => rfl
  have mLinesOf := PySem.W.mg_of X G a13
  have FProgramText := fun_mk (st := sProgramText) l14 c14 k14
  have bProgramText := FProgramText.binds (ps := ["program"]) fun _ _ _ _ _ _ us hl => match us, hl with | [_], _ => rfl
  have mProgramText := PySem.W.mg_of X G a14
  have FRunOf := fun_mk (st := sRunOf) l15 c15 k15
  have bRunOf := FRunOf.binds (ps := ["text", "at", "signs"]) fun _ _ _ _ _ _ us hl => match us, hl with | [_, _, _], _ => rfl
  have mRunOf := PySem.W.mg_of X G a15
  have FIsFigureWord := fun_mk (st := sIsFigureWord) l16 c16 k16
  have bIsFigureWord := FIsFigureWord.binds (ps := ["word"]) fun _ _ _ _ _ _ us hl => match us, hl with | [_], _ => rfl
  have mIsFigureWord := PySem.W.mg_of X G a16
  have FReadLeaf := fun_mk (st := sReadLeaf) l17 c17 k17
  have bReadLeaf := FReadLeaf.binds (ps := ["text", "at"]) fun _ _ _ _ _ _ us hl => match us, hl with | [_, _], _ => rfl
  have mReadLeaf := PySem.W.mg_of X G a17
  have FDepthOf := fun_mk (st := sDepthOf) l18 c18 k18
  have bDepthOf := FDepthOf.binds (ps := ["value"]) fun _ _ _ _ _ _ us hl => match us, hl with | [_], _ => rfl
  have mDepthOf := PySem.W.mg_of X G a18
  have FJoined := fun_mk (st := sJoined) l19 c19 k19
  have bJoined := FJoined.binds (ps := ["frame", "value"]) fun _ _ _ _ _ _ us hl => match us, hl with | [_, _], _ => rfl
  have mJoined := PySem.W.mg_of X G a19
  have FOpened := fun_mk (st := sOpened) l20 c20 k20
  have bOpened := FOpened.binds (ps := ["text", "at"]) fun _ _ _ _ _ _ us hl => match us, hl with | [_, _], _ => rfl
  have mOpened := PySem.W.mg_of X G a20
  have FContinued := fun_mk (st := sContinued) l21 c21 k21
  have bContinued := FContinued.binds (ps := ["text", "at", "frame", "value"]) fun _ _ _ _ _ _ us hl => match us, hl with | [_, _, _, _], _ => rfl
  have mContinued := PySem.W.mg_of X G a21
  have FReadExpression := fun_mk (st := sReadExpression) l22 c22 k22
  have bReadExpression := FReadExpression.binds (ps := ["text", "at"]) fun _ _ _ _ _ _ us hl => match us, hl with | [_, _], _ => rfl
  have mReadExpression := PySem.W.mg_of X G a22
  have FReadWhole := fun_mk (st := sReadWhole) l23 c23 k23
  have bReadWhole := FReadWhole.binds (ps := ["text", "at"]) fun _ _ _ _ _ _ us hl => match us, hl with | [_, _], _ => rfl
  have mReadWhole := PySem.W.mg_of X G a23
  have FReadTest := fun_mk (st := sReadTest) l24 c24 k24
  have bReadTest := FReadTest.binds (ps := ["line"]) fun _ _ _ _ _ _ us hl => match us, hl with | [_], _ => rfl
  have mReadTest := PySem.W.mg_of X G a24
  have FReadLine := fun_mk (st := sReadLine) l25 c25 k25
  have bReadLine := FReadLine.binds (ps := ["line"]) fun _ _ _ _ _ _ us hl => match us, hl with | [_], _ => rfl
  have mReadLine := PySem.W.mg_of X G a25
  have FClosed := fun_mk (st := sClosed) l26 c26 k26
  have bClosed := FClosed.binds (ps := ["frame"]) fun _ _ _ _ _ _ us hl => match us, hl with | [_], _ => rfl
  have mClosed := PySem.W.mg_of X G a26
  have FBlockIn := fun_mk (st := sBlockIn) l27 c27 k27
  have bBlockIn := FBlockIn.binds (ps := ["frames"]) fun _ _ _ _ _ _ us hl => match us, hl with | [_], _ => rfl
  have mBlockIn := PySem.W.mg_of X G a27
  have FTakeLine := fun_mk (st := sTakeLine) l28 c28 k28
  have bTakeLine := FTakeLine.binds (ps := ["frames", "line"]) fun _ _ _ _ _ _ us hl => match us, hl with | [_, _], _ => rfl
  have mTakeLine := PySem.W.mg_of X G a28
  have FReadProgram := fun_mk (st := sReadProgram) l29 c29 k29
  have bReadProgram := FReadProgram.binds (ps := ["text"]) fun _ _ _ _ _ _ us hl => match us, hl with | [_], _ => rfl
  have mReadProgram := PySem.W.mg_of X G a29
  have FLBag := fun_mk (st := sLBag) l30 c30 k30
  have bLBag := FLBag.binds (ps := ["_law_script"]) fun _ _ _ _ _ _ us hl => match us, hl with | [_], _ => rfl
  have mLBag := PySem.W.mg_of X G a30
  have FLPull := fun_mk (st := sLPull) l31 c31 k31
  have bLPull := FLPull.binds (ps := ["_law_bag_here", "_law_many"]) fun _ _ _ _ _ _ us hl => match us, hl with | [_, _], _ => rfl
  have mLPull := PySem.W.mg_of X G a31
  have FLOf := fun_mk (st := sLOf) l32 c32 k32
  have bLOf := FLOf.binds (ps := ["_law_bag_here", "_law_some"]) fun _ _ _ _ _ _ us hl => match us, hl with | [_, _], _ => rfl
  have mLOf := PySem.W.mg_of X G a32
  have FLSame := fun_mk (st := sLSame) l33 c33 k33
  have bLSame := FLSame.binds (ps := ["_law_found", "_law_due"]) fun _ _ _ _ _ _ us hl => match us, hl with | [_, _], _ => rfl
  have mLSame := PySem.W.mg_of X G a33
  have FLNames := fun_mk (st := sLNames) l34 c34 k34
  have bLNames := FLNames.binds (ps := ["_law_bag_here", "_law_many"]) fun _ _ _ _ _ _ us hl => match us, hl with | [_, _], _ => rfl
  have mLNames := PySem.W.mg_of X G a34
  have FLLeaf := fun_mk (st := sLLeaf) l35 c35 k35
  have bLLeaf := FLLeaf.binds (ps := ["_law_bag_here", "_law_names_z"]) fun _ _ _ _ _ _ us hl => match us, hl with | [_, _], _ => rfl
  have mLLeaf := PySem.W.mg_of X G a35
  have FLExpression := fun_mk (st := sLExpression) l36 c36 k36
  have bLExpression := FLExpression.binds (ps := ["_law_bag_here", "_law_names_z", "_law_known", "_law_deep"]) fun _ _ _ _ _ _ us hl => match us, hl with | [_, _, _, _], _ => rfl
  have mLExpression := PySem.W.mg_of X G a36
  have FLStatement := fun_mk (st := sLStatement) l37 c37 k37
  have bLStatement := FLStatement.binds (ps := ["_law_bag_here", "_law_names_z", "_law_known", "_law_deep", "_law_left"]) fun _ _ _ _ _ _ us hl => match us, hl with | [_, _, _, _, _], _ => rfl
  have mLStatement := PySem.W.mg_of X G a37
  have FLBlock := fun_mk (st := sLBlock) l38 c38 k38
  have bLBlock := FLBlock.binds (ps := ["_law_bag_here", "_law_names_z", "_law_known", "_law_deep", "_law_left"]) fun _ _ _ _ _ _ us hl => match us, hl with | [_, _, _, _, _], _ => rfl
  have mLBlock := PySem.W.mg_of X G a38
  have FLProgram := fun_mk (st := sLProgram) l39 c39 k39
  have bLProgram := FLProgram.binds (ps := ["_law_bag_here", "_law_names_z", "_law_known", "_law_many"]) fun _ _ _ _ _ _ us hl => match us, hl with | [_, _, _, _], _ => rfl
  have mLProgram := PySem.W.mg_of X G a39
  have FLExpressionText := fun_mk (st := sLExpressionText) l40 c40 k40
  have bLExpressionText := FLExpressionText.binds (ps := ["_law_one"]) fun _ _ _ _ _ _ us hl => match us, hl with | [_], _ => rfl
  have mLExpressionText := PySem.W.mg_of X G a40
  have FLLines := fun_mk (st := sLLines) l41 c41 k41
  have bLLines := FLLines.binds (ps := ["_law_program_z"]) fun _ _ _ _ _ _ us hl => match us, hl with | [_], _ => rfl
  have mLLines := PySem.W.mg_of X G a41
  have FLText := fun_mk (st := sLText) l42 c42 k42
  have bLText := FLText.binds (ps := ["_law_program_z"]) fun _ _ _ _ _ _ us hl => match us, hl with | [_], _ => rfl
  have mLText := PySem.W.mg_of X G a42
  have FLaw := fun_mk (st := sLaw) l43 c43 k43
  have bLaw := FLaw.binds (ps := ["_law_script"]) fun _ _ _ _ _ _ us hl => match us, hl with | [_], _ => rfl
  have mLaw := PySem.W.mg_of X G a43
  have Z : Zn w K mg pS pT pW := { z_isinstance := PySem.W.mg_none_of X G z_isinstance, z_int := PySem.W.mg_none_of X G z_int, z_bool := PySem.W.mg_none_of X G z_bool, z_str := PySem.W.mg_none_of X G z_str, z_list := PySem.W.mg_none_of X G z_list, z_tuple := PySem.W.mg_none_of X G z_tuple, z_len := PySem.W.mg_none_of X G z_len, z_abs := PySem.W.mg_none_of X G z_abs, z_all := PySem.W.mg_none_of X G z_all, z_range := PySem.W.mg_none_of X G z_range, z_zip := PySem.W.mg_none_of X G z_zip, z_enumerate := PySem.W.mg_none_of X G z_enumerate, z_max := PySem.W.mg_none_of X G z_max, g_DEEPEST_EXPRESSION := glb_int (PySem.W.mg_of X G g_DEEPEST_EXPRESSION), g_DEEPEST_STATEMENT := glb_int (PySem.W.mg_of X G g_DEEPEST_STATEMENT), g_MOST_STATEMENTS := glb_int (PySem.W.mg_of X G g_MOST_STATEMENTS), g_LETTERS := glb_str (PySem.W.mg_of X G g_LETTERS), g_RESERVED := glb_tup (PySem.W.mg_of X G g_RESERVED) (ktup_strs (l := [("x", tk0_RESERVED), ("y", tk1_RESERVED), ("let", tk2_RESERVED), ("if", tk3_RESERVED), ("else", tk4_RESERVED), ("end", tk5_RESERVED), ("repeat", tk6_RESERVED), ("stop", tk7_RESERVED)]) lk_RESERVED (sz_ok rfl)), g_SIGNS := glb_ptr (PySem.W.mg_of X G g_SIGNS), d_SIGNS := ⟨⟨es_SIGNS, nn_SIGNS, ⟨lk_SIGNS, li_SIGNS, lo_SIGNS⟩, en_SIGNS⟩⟩, g_TESTS := glb_ptr (PySem.W.mg_of X G g_TESTS), d_TESTS := ⟨⟨es_TESTS, nn_TESTS, ⟨lk_TESTS, li_TESTS, lo_TESTS⟩, en_TESTS⟩⟩, g_TOO_DEEP := glb_tup (PySem.W.mg_of X G g_TOO_DEEP) (ktup_strs (l := [("deep", tk0_TOO_DEEP)]) lk_TOO_DEEP (sz_ok rfl)), g_WORDS := glb_ptr (PySem.W.mg_of X G g_WORDS), d_WORDS := ⟨⟨es_WORDS, nn_WORDS, ⟨lk_WORDS, li_WORDS, lo_WORDS⟩, en_WORDS⟩⟩, g_COMPARISONS := glb_tup (PySem.W.mg_of X G g_COMPARISONS) (ktup_of lk_COMPARISONS (sz_ok rfl) (vs := [.ref ad_COMPARISONS0, .ref ad_COMPARISONS1, .ref ad_COMPARISONS2]) (.cons rfl (.cons rfl (.cons rfl (.nil)))) fun L H => .cons ((ktup_strs (l := [(" <= ", tk0_COMPARISONS0), ("upto", tk1_COMPARISONS0)]) lk_COMPARISONS0 (sz_ok rfl)) L H) (.cons ((ktup_strs (l := [(" < ", tk0_COMPARISONS1), ("less", tk1_COMPARISONS1)]) lk_COMPARISONS1 (sz_ok rfl)) L H) (.cons ((ktup_strs (l := [(" = ", tk0_COMPARISONS2), ("equal", tk1_COMPARISONS2)]) lk_COMPARISONS2 (sz_ok rfl)) L H) (.nil)))) }
  refine ⟨PySem.W.fnOf "law" "law" (defArgs sLaw) (defBody sLaw) (defScope sLaw) .none kV43 dc43 pm43 an43 cd43 ct43, fun s v => .of_eq rfl, fun base _ _ => ?_⟩
  have E_InvalidProgram : ExCls P w K mg base "InvalidProgram" C ["self", "at"] (spI1 C "InvalidProgram" "at") := ⟨OX_InvalidProgram, n_InvalidProgram, fI_InvalidProgram, _, iI_InvalidProgram, tI_InvalidProgram, init1_ok FI_InvalidProgram scInvalidProgram_init rfl rfl rfl (by decide) (by decide) OX_InvalidProgram f1_InvalidProgram f0_InvalidProgram, BI_InvalidProgram⟩
  have E_InvalidText : ExCls P w K mg base "InvalidText" CT ["self", "line"] (spI1 CT "InvalidText" "line") := ⟨OX_InvalidText, n_InvalidText, fI_InvalidText, _, iI_InvalidText, tI_InvalidText, init1_ok FI_InvalidText scInvalidText_init rfl rfl rfl (by decide) (by decide) OX_InvalidText f1_InvalidText f0_InvalidText, BI_InvalidText⟩
  have CIsInteger := cal_mk (ok_IsInteger (P := P) (w := w) (base := base) Z FIsInteger) mIsInteger FIsInteger.kp bIsInteger
  have CIsNumber := cal_mk (ok_IsNumber (P := P) (w := w) (base := base) Z FIsNumber CIsInteger) mIsNumber FIsNumber.kp bIsNumber
  have CIsName := cal_mk (ok_IsName (P := P) (w := w) (base := base) Z FIsName) mIsName FIsName.kp bIsName
  have CIsTupleOf := cal_mk (ok_IsTupleOf (P := P) (w := w) (base := base) Z FIsTupleOf) mIsTupleOf FIsTupleOf.kp bIsTupleOf
  have GE := expr_all (P := P) (w := w) (base := base) Z FIsExpression FBoth mIsExpression mBoth bIsExpression_2 vs5_2 rfl bBoth CIsNumber CIsName 7
  have CE1 := cald_mk (dd := [.int 6]) GE mIsExpression FIsExpression.kp vs5_1 bIsExpression_1 (fun _ _ => .cons (.int 6) .nil)
  have CIsHead := cal_mk (ok_IsHead (P := P) (w := w) (base := base) Z FIsHead CIsTupleOf CIsNumber CIsName CE1) mIsHead FIsHead.kp bIsHead
  have CBlocksOf := cal_mk (ok_BlocksOf (P := P) (w := w) (base := base) Z FBlocksOf) mBlocksOf FBlocksOf.kp bBlocksOf
  have CVisit := cal_mk (visit_all (P := P) (w := w) (base := base) Z FVisit mVisit bVisit CIsHead CBlocksOf E_InvalidProgram 5) mVisit FVisit.kp bVisit
  have GCP := ok_CheckProgram (P := P) (w := w) (base := base) Z FCheckProgram CVisit E_InvalidProgram
  have CCheckProgram := cal_mk GCP mCheckProgram FCheckProgram.kp bCheckProgram
  have CRunOf := cal_mk (ok_RunOf (P := P) (w := w) (base := base) Z FRunOf) mRunOf FRunOf.kp bRunOf
  have CIsFigureWord := cal_mk (ok_IsFigureWord (P := P) (w := w) (base := base) Z FIsFigureWord) mIsFigureWord FIsFigureWord.kp bIsFigureWord
  have CReadLeaf := cal_mk (ok_ReadLeaf (P := P) (w := w) (base := base) Z FReadLeaf CRunOf CIsFigureWord CIsName) mReadLeaf FReadLeaf.kp bReadLeaf
  have CDepthOf := cal_mk (dp_all (P := P) (w := w) (base := base) Z FDepthOf bDepthOf mDepthOf 9) mDepthOf FDepthOf.kp bDepthOf
  have CJoined := cal_mk (ok_Joined (P := P) (w := w) (base := base) Z FJoined CDepthOf) mJoined FJoined.kp bJoined
  have COpened := cal_mk (ok_Opened (P := P) (w := w) (base := base) Z FOpened CRunOf CIsName) mOpened FOpened.kp bOpened
  have CContinued := cal_mk (ok_Continued (P := P) (w := w) (base := base) Z FContinued) mContinued FContinued.kp bContinued
  have CReadExpression := cal_mk (rex_tidy (ok_ReadExpression Z FReadExpression COpened CReadLeaf CJoined CContinued)) mReadExpression FReadExpression.kp bReadExpression
  have CReadWhole := cal_mk (ok_ReadWhole (P := P) (w := w) (base := base) Z FReadWhole CReadExpression) mReadWhole FReadWhole.kp bReadWhole
  have CReadTest := cal_mk (ok_ReadTest (P := P) (w := w) (base := base) Z FReadTest CReadExpression CReadWhole) mReadTest FReadTest.kp bReadTest
  have CReadLine := cal_mk (ok_ReadLine (P := P) (w := w) (base := base) Z FReadLine CReadTest CReadWhole CRunOf CIsName CReadLeaf) mReadLine FReadLine.kp bReadLine
  have CClosed := cal_mk (closed_tidy (ok_Closed (P := P) (w := w) (base := base) Z FClosed)) mClosed FClosed.kp bClosed
  have CBlockIn := cal_mk (ok_BlockIn (P := P) (w := w) (base := base) Z FBlockIn) mBlockIn FBlockIn.kp bBlockIn
  have CTakeLine := cal_mk (ok_TakeLine (P := P) (w := w) (base := base) Z FTakeLine CReadLine CClosed CBlockIn) mTakeLine FTakeLine.kp bTakeLine
  have GRP := read_tidy (ok_ReadProgram Z FReadProgram CTakeLine CCheckProgram E_InvalidText)
  have CReadProgram := cal_mk GRP mReadProgram FReadProgram.kp bReadProgram
  have CExpressionText := cal_mk (tx_all (P := P) (w := w) (base := base) Z FExpressionText bExpressionText mExpressionText 7) mExpressionText FExpressionText.kp bExpressionText
  have CLineOf := cal_mk (ok_LineOf (P := P) (w := w) (base := base) Z FLineOf CExpressionText) mLineOf FLineOf.kp bLineOf
  have CLinesOf := cal_mk (ls_all Z FLinesOf bLinesOf mLinesOf CLineOf 6) mLinesOf FLinesOf.kp bLinesOf
  have GPT := ok_ProgramText (P := P) (w := w) (base := base) Z FProgramText CLinesOf
  have CProgramText := cal_mk GPT mProgramText FProgramText.kp bProgramText
  have CLExpressionText := cal_mk (ltx_all (P := P) (w := w) (base := base) Z FLExpressionText bLExpressionText mLExpressionText 7) mLExpressionText FLExpressionText.kp bLExpressionText
  have CLLines := cal_mk (ll_all Z FLLines bLLines mLLines CLExpressionText 6) mLLines FLLines.kp bLLines
  have CLText := cal_mk (ok_LText (P := P) (w := w) (base := base) Z FLText CLLines) mLText FLText.kp bLText
  have CLBag := cal_mk (ok_LBag (P := P) (w := w) (base := base) Z FLBag) mLBag FLBag.kp bLBag
  have CLPull := cal_mk (ok_LPull (P := P) (w := w) (base := base) Z FLPull) mLPull FLPull.kp bLPull
  have CLOf := cal_mk (ok_LOf (P := P) (w := w) (base := base) Z FLOf CLPull) mLOf FLOf.kp bLOf
  have CLSame := cal_mk (same_all (P := P) (w := w) (base := base) Z FLSame bLSame mLSame 29) mLSame FLSame.kp bLSame
  have CLNames := cal_mk (ok_LNames (P := P) (w := w) (base := base) Z FLNames CLPull CLOf) mLNames FLNames.kp bLNames
  have CLLeaf := cal_mk (ok_LLeaf (P := P) (w := w) (base := base) Z FLLeaf CLPull CLOf) mLLeaf FLLeaf.kp bLLeaf
  have CX5 := cal_mk (lexpr_all (P := P) (w := w) (base := base) Z FLExpression mLExpression bLExpression CLPull CLOf CLLeaf 5) mLExpression FLExpression.kp bLExpression
  have CX7 := cal_mk (lexpr_all (P := P) (w := w) (base := base) Z FLExpression mLExpression bLExpression CLPull CLOf CLLeaf 7) mLExpression FLExpression.kp bLExpression
  have CLBlock := cal_mk (bk_all Z FLBlock bLBlock mLBlock FLStatement bLStatement mLStatement CLPull CLOf CX5 5) mLBlock FLBlock.kp bLBlock
  have CLProgram := cal_mk (pr_tidy (ok_LProgram Z FLProgram CLBlock)) mLProgram FLProgram.kp bLProgram
  have WProgramText := calw_mk (gp := @perm1) (np := 0) (ks := ["program"]) GPT mProgramText FProgramText.kp (kwb FProgramText fun _ _ _ _ _ _ us ws hu hw => match us, ws, hu, hw with | [], [_], _, _ => rfl) perm1_ok
  have WReadProgram := calw_mk (gp := @perm1) (np := 0) (ks := ["text"]) GRP mReadProgram FReadProgram.kp (kwb FReadProgram fun _ _ _ _ _ _ us ws hu hw => match us, ws, hu, hw with | [], [_], _, _ => rfl) perm1_ok
  exact ok_Law Z FLaw CLBag CLPull CLNames CLProgram CX7 CLSame CLText CProgramText CReadProgram WProgramText WReadProgram
theorem law_ends {K : PySem.W.Frag} {H : Hp} {a : Addr} {ns : List Int} (hS : SqL K H a (ns.map V.int)) : spD K lawS [.ref a] H (fun v _ => v = .bl true) fun _ _ _ => False := by
  refine ⟨[.ro (ns.map .int)], [], fun d _ => d = .bl true, fun _ _ => False, ⟨List.nodup_nil, fun a d m => absurd m (by simp)⟩, .cons (.ro ?_ (RpAll.ints ns)) .nil, ⟨ns, rfl, rfl, fun _ => rfl⟩, fun d L' v H' hd _ _ r => ?_, fun n L' a H' h => h.elim⟩
  · rcases hS with h | h
    · exact .inl ⟨by simp [inL], h⟩
    · exact .inr h
  · subst hd
    cases r
    rfl
end T25
open PySem PySem.W PyProof.Rows
set_option maxHeartbeats 0 in
theorem PySem.Challenge.cw_nearspokes_k25_whole_texts_of_programs_holds : PySem.Challenge.rw_nearspokes_k25_whole_texts_of_programs.Holds := by
  w_on; o_law; k_head; (case hw => w_witness2)
  k_fill
  refine DL.walk_ofX (l := PySem.Challenge.rw_nearspokes_k25_whole_texts_of_programs) (n := 63) (k := 32) (x := "_law_script") (CX := fun w => L2.CX PySem.Challenge.rw_nearspokes_k25_whole_texts_of_programs.prog w) (sp := fun w => DL.spD _ T25.lawS) rfl (by decide) rfl ⟨rfl, by decide, by decide⟩ (fun w h Y => by first | exact PySem.W.kIn_of Y | exact PySem.W.km_in_of Y) ?F (fun _ _ a ns hl _ hS => T25.law_ends hS) (fun _ _ _ _ _ z => by obtain ⟨_, _, _, _, _, _, _, _, _, _, _, _, z⟩ := z; exact z)
  case F =>
    intro w mg fa h KX XL G hmg
    refine' T25.all_mk KX G hmg ?a1 ?l1 ?c1 ?k1 ?a2 ?l2 ?c2 ?k2 ?a3 ?l3 ?c3 ?k3 ?a4 ?l4 ?c4 ?k4 ?a5 ?l5 ?c5 ?k5 ?lT5 ?a6 ?l6 ?c6 ?k6 ?a7 ?l7 ?c7 ?k7 ?a8 ?l8 ?c8 ?k8 ?a9 ?l9 ?c9 ?k9 ?a10 ?l10 ?c10 ?k10 ?a11 ?l11 ?c11 ?k11 ?a12 ?l12 ?c12 ?k12 ?a13 ?l13 ?c13 ?k13 ?a14 ?l14 ?c14 ?k14 ?a15 ?l15 ?c15 ?k15 ?a16 ?l16 ?c16 ?k16 ?a17 ?l17 ?c17 ?k17 ?a18 ?l18 ?c18 ?k18 ?a19 ?l19 ?c19 ?k19 ?a20 ?l20 ?c20 ?k20 ?a21 ?l21 ?c21 ?k21 ?a22 ?l22 ?c22 ?k22 ?a23 ?l23 ?c23 ?k23 ?a24 ?l24 ?c24 ?k24 ?a25 ?l25 ?c25 ?k25 ?a26 ?l26 ?c26 ?k26 ?a27 ?l27 ?c27 ?k27 ?a28 ?l28 ?c28 ?k28 ?a29 ?l29 ?c29 ?k29 ?a30 ?l30 ?c30 ?k30 ?a31 ?l31 ?c31 ?k31 ?a32 ?l32 ?c32 ?k32 ?a33 ?l33 ?c33 ?k33 ?a34 ?l34 ?c34 ?k34 ?a35 ?l35 ?c35 ?k35 ?a36 ?l36 ?c36 ?k36 ?a37 ?l37 ?c37 ?k37 ?a38 ?l38 ?c38 ?k38 ?a39 ?l39 ?c39 ?k39 ?a40 ?l40 ?c40 ?k40 ?a41 ?l41 ?c41 ?k41 ?a42 ?l42 ?c42 ?k42 ?a43 ?l43 ?c43 ?k43 ?z_isinstance ?z_int ?z_bool ?z_str ?z_list ?z_tuple ?z_len ?z_abs ?z_all ?z_range ?z_zip ?z_enumerate ?z_max ?g_DEEPEST_EXPRESSION ?g_DEEPEST_STATEMENT ?g_MOST_STATEMENTS ?g_LETTERS ?g_RESERVED ?lk_RESERVED ?g_SIGNS ?lk_SIGNS ?li_SIGNS ?lo_SIGNS ?en_SIGNS ?g_TESTS ?lk_TESTS ?li_TESTS ?lo_TESTS ?en_TESTS ?g_TOO_DEEP ?lk_TOO_DEEP ?g_WORDS ?lk_WORDS ?li_WORDS ?lo_WORDS ?en_WORDS ?g_COMPARISONS ?lk_COMPARISONS ?lk_COMPARISONS0 ?lk_COMPARISONS1 ?lk_COMPARISONS2 ?a_InvalidProgram ?o_InvalidProgram ?r_InvalidProgram ?sa_InvalidProgram ?ex_InvalidProgram ?ty_InvalidProgram ?kc_InvalidProgram ?ga_InvalidProgram ?gg_InvalidProgram ?hd_InvalidProgram ?iI_InvalidProgram ?tI_InvalidProgram ?lI_InvalidProgram ?cI_InvalidProgram ?kI_InvalidProgram ?f0_InvalidProgram ?f1_InvalidProgram ?a_InvalidText ?o_InvalidText ?r_InvalidText ?sa_InvalidText ?ex_InvalidText ?ty_InvalidText ?kc_InvalidText ?ga_InvalidText ?gg_InvalidText ?hd_InvalidText ?iI_InvalidText ?tI_InvalidText ?lI_InvalidText ?cI_InvalidText ?kI_InvalidText ?f0_InvalidText ?f1_InvalidText
    (case a1 => k_is)
    (case l1 => k_is)
    (case c1 => k_is)
    (case k1 => k_is)
    (case a2 => k_is)
    (case l2 => k_is)
    (case c2 => k_is)
    (case k2 => k_is)
    (case a3 => k_is)
    (case l3 => k_is)
    (case c3 => k_is)
    (case k3 => k_is)
    (case a4 => k_is)
    (case l4 => k_is)
    (case c4 => k_is)
    (case k4 => k_is)
    (case a5 => k_is)
    (case l5 => k_is)
    (case c5 => k_is)
    (case k5 => k_is)
    (case lT5 => k_is)
    (case a6 => k_is)
    (case l6 => k_is)
    (case c6 => k_is)
    (case k6 => k_is)
    (case a7 => k_is)
    (case l7 => k_is)
    (case c7 => k_is)
    (case k7 => k_is)
    (case a8 => k_is)
    (case l8 => k_is)
    (case c8 => k_is)
    (case k8 => k_is)
    (case a9 => k_is)
    (case l9 => k_is)
    (case c9 => k_is)
    (case k9 => k_is)
    (case a10 => k_is)
    (case l10 => k_is)
    (case c10 => k_is)
    (case k10 => k_is)
    (case a11 => k_is)
    (case l11 => k_is)
    (case c11 => k_is)
    (case k11 => k_is)
    (case a12 => k_is)
    (case l12 => k_is)
    (case c12 => k_is)
    (case k12 => k_is)
    (case a13 => k_is)
    (case l13 => k_is)
    (case c13 => k_is)
    (case k13 => k_is)
    (case a14 => k_is)
    (case l14 => k_is)
    (case c14 => k_is)
    (case k14 => k_is)
    (case a15 => k_is)
    (case l15 => k_is)
    (case c15 => k_is)
    (case k15 => k_is)
    (case a16 => k_is)
    (case l16 => k_is)
    (case c16 => k_is)
    (case k16 => k_is)
    (case a17 => k_is)
    (case l17 => k_is)
    (case c17 => k_is)
    (case k17 => k_is)
    (case a18 => k_is)
    (case l18 => k_is)
    (case c18 => k_is)
    (case k18 => k_is)
    (case a19 => k_is)
    (case l19 => k_is)
    (case c19 => k_is)
    (case k19 => k_is)
    (case a20 => k_is)
    (case l20 => k_is)
    (case c20 => k_is)
    (case k20 => k_is)
    (case a21 => k_is)
    (case l21 => k_is)
    (case c21 => k_is)
    (case k21 => k_is)
    (case a22 => k_is)
    (case l22 => k_is)
    (case c22 => k_is)
    (case k22 => k_is)
    (case a23 => k_is)
    (case l23 => k_is)
    (case c23 => k_is)
    (case k23 => k_is)
    (case a24 => k_is)
    (case l24 => k_is)
    (case c24 => k_is)
    (case k24 => k_is)
    (case a25 => k_is)
    (case l25 => k_is)
    (case c25 => k_is)
    (case k25 => k_is)
    (case a26 => k_is)
    (case l26 => k_is)
    (case c26 => k_is)
    (case k26 => k_is)
    (case a27 => k_is)
    (case l27 => k_is)
    (case c27 => k_is)
    (case k27 => k_is)
    (case a28 => k_is)
    (case l28 => k_is)
    (case c28 => k_is)
    (case k28 => k_is)
    (case a29 => k_is)
    (case l29 => k_is)
    (case c29 => k_is)
    (case k29 => k_is)
    (case a30 => k_is)
    (case l30 => k_is)
    (case c30 => k_is)
    (case k30 => k_is)
    (case a31 => k_is)
    (case l31 => k_is)
    (case c31 => k_is)
    (case k31 => k_is)
    (case a32 => k_is)
    (case l32 => k_is)
    (case c32 => k_is)
    (case k32 => k_is)
    (case a33 => k_is)
    (case l33 => k_is)
    (case c33 => k_is)
    (case k33 => k_is)
    (case a34 => k_is)
    (case l34 => k_is)
    (case c34 => k_is)
    (case k34 => k_is)
    (case a35 => k_is)
    (case l35 => k_is)
    (case c35 => k_is)
    (case k35 => k_is)
    (case a36 => k_is)
    (case l36 => k_is)
    (case c36 => k_is)
    (case k36 => k_is)
    (case a37 => k_is)
    (case l37 => k_is)
    (case c37 => k_is)
    (case k37 => k_is)
    (case a38 => k_is)
    (case l38 => k_is)
    (case c38 => k_is)
    (case k38 => k_is)
    (case a39 => k_is)
    (case l39 => k_is)
    (case c39 => k_is)
    (case k39 => k_is)
    (case a40 => k_is)
    (case l40 => k_is)
    (case c40 => k_is)
    (case k40 => k_is)
    (case a41 => k_is)
    (case l41 => k_is)
    (case c41 => k_is)
    (case k41 => k_is)
    (case a42 => k_is)
    (case l42 => k_is)
    (case c42 => k_is)
    (case k42 => k_is)
    (case a43 => k_is)
    (case l43 => k_is)
    (case c43 => k_is)
    (case k43 => k_is)
    (case z_isinstance => k_is)
    (case z_int => k_is)
    (case z_bool => k_is)
    (case z_str => k_is)
    (case z_list => k_is)
    (case z_tuple => k_is)
    (case z_len => k_is)
    (case z_abs => k_is)
    (case z_all => k_is)
    (case z_range => k_is)
    (case z_zip => k_is)
    (case z_enumerate => k_is)
    (case z_max => k_is)
    (case g_DEEPEST_EXPRESSION => k_is)
    (case g_DEEPEST_STATEMENT => k_is)
    (case g_MOST_STATEMENTS => k_is)
    (case g_LETTERS => k_is)
    (case g_RESERVED => k_is)
    (case lk_RESERVED => k_is)
    (case g_SIGNS => k_is)
    (case lk_SIGNS => k_is)
    (case li_SIGNS => exact ⟨⟨_, _, rfl, rfl⟩, ⟨_, _, rfl, rfl⟩, ⟨_, _, rfl, rfl⟩, ⟨_, _, rfl, rfl⟩, trivial⟩)
    (case lo_SIGNS => rfl)
    (case en_SIGNS => exact DL.EntsOk.cons (v := L2.V.str _) rfl ⟨_, rfl⟩ (fun _ _ => .str _) (DL.EntsOk.cons (v := L2.V.str _) rfl ⟨_, rfl⟩ (fun _ _ => .str _) (DL.EntsOk.cons (v := L2.V.str _) rfl ⟨_, rfl⟩ (fun _ _ => .str _) (DL.EntsOk.cons (v := L2.V.str _) rfl ⟨_, rfl⟩ (fun _ _ => .str _) (DL.EntsOk.nil)))))
    (case g_TESTS => k_is)
    (case lk_TESTS => k_is)
    (case li_TESTS => exact ⟨⟨_, _, rfl, rfl⟩, ⟨_, _, rfl, rfl⟩, ⟨_, _, rfl, rfl⟩, trivial⟩)
    (case lo_TESTS => rfl)
    (case en_TESTS => exact DL.EntsOk.cons (v := L2.V.str _) rfl ⟨_, rfl⟩ (fun _ _ => .str _) (DL.EntsOk.cons (v := L2.V.str _) rfl ⟨_, rfl⟩ (fun _ _ => .str _) (DL.EntsOk.cons (v := L2.V.str _) rfl ⟨_, rfl⟩ (fun _ _ => .str _) (DL.EntsOk.nil))))
    (case g_TOO_DEEP => k_is)
    (case lk_TOO_DEEP => k_is)
    (case g_WORDS => k_is)
    (case lk_WORDS => k_is)
    (case li_WORDS => exact ⟨⟨_, _, rfl, rfl⟩, ⟨_, _, rfl, rfl⟩, ⟨_, _, rfl, rfl⟩, ⟨_, _, rfl, rfl⟩, trivial⟩)
    (case lo_WORDS => rfl)
    (case en_WORDS => exact DL.EntsOk.cons (v := L2.V.str _) rfl ⟨_, rfl⟩ (fun _ _ => .str _) (DL.EntsOk.cons (v := L2.V.str _) rfl ⟨_, rfl⟩ (fun _ _ => .str _) (DL.EntsOk.cons (v := L2.V.str _) rfl ⟨_, rfl⟩ (fun _ _ => .str _) (DL.EntsOk.cons (v := L2.V.str _) rfl ⟨_, rfl⟩ (fun _ _ => .str _) (DL.EntsOk.nil)))))
    (case g_COMPARISONS => k_is)
    (case lk_COMPARISONS => k_is)
    (case lk_COMPARISONS0 => k_is)
    (case lk_COMPARISONS1 => k_is)
    (case lk_COMPARISONS2 => k_is)
    (case a_InvalidProgram => k_is)
    (case o_InvalidProgram => k_is)
    (case r_InvalidProgram => exact rfl)
    (case sa_InvalidProgram => k_is)
    (case ex_InvalidProgram => k_is)
    (case ty_InvalidProgram => k_is)
    (case kc_InvalidProgram => k_is)
    (case ga_InvalidProgram => k_is)
    (case gg_InvalidProgram => k_is)
    (case hd_InvalidProgram => k_is)
    (case iI_InvalidProgram => k_is)
    (case tI_InvalidProgram => k_is)
    (case lI_InvalidProgram => k_is)
    (case cI_InvalidProgram => k_is)
    (case kI_InvalidProgram => k_is)
    (case f0_InvalidProgram => k_is)
    (case f1_InvalidProgram => k_is)
    (case a_InvalidText => k_is)
    (case o_InvalidText => k_is)
    (case r_InvalidText => exact rfl)
    (case sa_InvalidText => k_is)
    (case ex_InvalidText => k_is)
    (case ty_InvalidText => k_is)
    (case kc_InvalidText => k_is)
    (case ga_InvalidText => k_is)
    (case gg_InvalidText => k_is)
    (case hd_InvalidText => k_is)
    (case iI_InvalidText => k_is)
    (case tI_InvalidText => k_is)
    (case lI_InvalidText => k_is)
    (case cI_InvalidText => k_is)
    (case kI_InvalidText => k_is)
    (case f0_InvalidText => k_is)
    (case f1_InvalidText => k_is)

