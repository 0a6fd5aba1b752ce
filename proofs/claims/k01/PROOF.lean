import PyProof.Rows.All
import Wide.All
import OpenK.AllK
import Wide.FinOn
import HandS.ForMost
import HandS.Exc
import HandS.TryOnly
import HandS.ExcOwn
import HandS.WordsExc
import HandS.CallSlots
import HandS.TryMany
import HandS.EndBits
import HandS.Wide
import HandS.Gcd
import HandS.Zip
import HandS.IsInst
import HandS.Defaults
import HandS.Flow
import HandS.FStr
import HandS.TupAny
import HandS.ExcInit
import HandS.ExcIs
import HandS.ExcField
import HandS.Lambda
import HandS.Nested
import KE.KDflt
import HandS.HotCalls
import HandS.EndTab
import KE.KExcInit
import HandS.ExcValue
import PySem.Challenge.RW_nearspokes_k01_errors_by_themselves
set_option Elab.async false
set_option linter.all false
set_option maxRecDepth 100000
set_option maxHeartbeats 4000000
/-! # Data over the hand layer: Python's values as plain trees, mutable things in a ledger -/
namespace DL
open PySem L2

/-- a lambda without parameters, or with one whose default is 0: its words, its parameters, the names that it captures -/
structure LamF where
  params : Arguments
  body : Expr
  scope : Scope
  qual : Str
  ps : List Str
  fr : List Str
/-- a value as a whole: what can be seen of it; fnv: a lambda of the running def, cl its cells; clo: a lambda and what its cells hold; tab: a table of code objects; ptr: a thing of the ledger, a def, a class -/
inductive D where
  | non | bl (b : Bool) | int (i : Int) | str (x : Str)
  | lst (xs : List D) | tup (xs : List D) | ro (xs : List D)
  | dk (ks : List Key) (vs : List D) | dt (ks : List (List Key)) (vs : List D)
  | obj (C : Addr) (ns : List Str) (vs : List D)
  | exc (C : Addr) (ns : List Str) (vs : List D)
  | fnv (F : LamF) (cl : List (Str × Addr))
  | clo (F : LamF) (ds : List D)
  | tab (q : Str)
  | ptr (a : Addr) | ty (n : String)

/-- mutable things, by address -/
abbrev Led := List (Addr × D)
def inL (L : Led) (a : Addr) : Prop := a ∈ L.map (·.1)

def SqL' (L : Led) (K : PySem.W.Frag) (H : Hp) (a : Addr) (xs : List V) : Prop :=
  (¬ inL L a ∧ Rd H a (.lst xs)) ∨
    ∃ (o : Obj) (its : Array Value) (n : Nat), K.lookup a = some o ∧ o.cls = .type "list" ∧ o.dict = none ∧ o.data = .seq its n ∧ its.size ≤ sizeLine ∧ Vals xs its.toList
def SqT' (L : Led) (K : PySem.W.Frag) (H : Hp) (a : Addr) (xs : List V) : Prop :=
  (¬ inL L a ∧ Rd H a (.tup xs)) ∨
    ∃ (o : Obj) (its : Array Value) (n : Nat), K.lookup a = some o ∧ o.cls = .type "tuple" ∧ o.data = .seq its n ∧ its.size ≤ sizeLine ∧ Vals xs its.toList
theorem SqL'.sq {L K H a xs} (h : SqL' L K H a xs) : SqL K H a xs := h.elim (fun z => .inl z.2) .inr
theorem SqT'.sq {L K H a xs} (h : SqT' L K H a xs) : SqT K H a xs := h.elim (fun z => .inl z.2) .inr

/-- an error of the class at C stands at a, its own dict at d -/
def ExcAt (h : Heap) (a C d : Addr) : Prop := ∃ (oe : Obj) (vs : Array Value), h.get? a = some oe ∧ oe.cls = .ref C ∧ oe.dict = some d ∧ oe.data = .fields vs
def XDict (H : Hp) (d : Addr) (fs : List (Str × V)) : Prop := H d = some (.xd fs) ∨ H d = some (exd d fs)
/-- the object at f is the lambda F with the cells cl, the defaults dV, the code object at c -/
def LamO (f : Addr) (F : LamF) (cl : List (Str × Addr)) (dV : Value) (c : Addr) : HO := .ext fun h => ∃ (od : Option Addr) (sl : Array (Option Value)) (doc pm ctv : Value), h.get? f = some (⟨.type "function", od, .func (PySem.W.kdv_fn "<lambda>" F.qual F.params (.expr F.body) F.scope cl dV doc pm (.ref c) ctv), sl⟩ : Obj)
def DvAt (L : Led) (H : Hp) (n : Nat) (dV : Value) : Prop := (n = 0 ∧ dV = .none) ∨ (n ≠ 0 ∧ ∃ t, dV = .ref t ∧ ¬ inL L t ∧ H t = some (.tup (List.replicate n (.int 0))))
structure FnvAt (L : Led) (H : Hp) (f : Addr) (F : LamF) (cl : List (Str × Addr)) : Prop where
  nf : ¬ inL L f
  ex : ∃ (c : Addr) (dV : Value), H f = some (LamO f F cl dV c) ∧ ¬ inL L c ∧ H c = some (LamX.CodeO c F.qual) ∧ DvAt L H F.ps.length dV
/-- a cell that is known to the object -/
abbrev celO (o : Obj) : HO := .frz o (.own 0)
/-- .. and its cells are known: they hold vs -/
structure CloAt (L : Led) (H : Hp) (f : Addr) (F : LamF) (vs : List V) : Prop where
  ex : ∃ cl : List (Str × Addr), FnvAt L H f F cl ∧ vs.length = F.fr.length ∧ (∀ x y c, cl.lookup x = some c → cl.lookup y = some c → x = y) ∧ (∀ y c, cl.lookup y = some c → y ∈ F.fr) ∧
    ∀ (i : Nat) (y : Str), F.fr[i]? = some y → ∃ (cc : Addr) (oc : Obj) (u : Value) (v : V), cl.lookup y = some cc ∧ ¬ inL L cc ∧ H cc = some (celO oc) ∧ oc.data = .cell (some u) ∧ vs[i]? = some v ∧ RelV v u
mutual
inductive Rp (L : Led) (K : PySem.W.Frag) (H : Hp) : V → D → Prop
  | non : Rp L K H .non .non
  | bl (b : Bool) : Rp L K H (.bl b) (.bl b)
  | int (i : Int) : Rp L K H (.int i) (.int i)
  | str (x : Str) : Rp L K H (.str x) (.str x)
  | ty (n : String) : Rp L K H (.ty n) (.ty n)
  | ptr (a : Addr) : Rp L K H (.ref a) (.ptr a)
  | lst {a : Addr} {xs : List V} {ds : List D} : ¬ inL L a → H a = some (.lst xs) → RpAll L K H xs ds → Rp L K H (.ref a) (.lst ds)
  | ro {a : Addr} {xs : List V} {ds : List D} : SqL' L K H a xs → RpAll L K H xs ds → Rp L K H (.ref a) (.ro ds)
  | tup {a : Addr} {xs : List V} {ds : List D} : SqT' L K H a xs → RpAll L K H xs ds → Rp L K H (.ref a) (.tup ds)
  | dk {a : Addr} {ks : List Key} {xs : List V} {ds : List D} : ¬ inL L a → Rd H a (.dK (ks.zip xs)) → ks.length = xs.length → RpAll L K H xs ds → Rp L K H (.ref a) (.dk ks ds)
  | dt {a : Addr} {ks : List (List Key)} {xs : List V} {ds : List D} : ¬ inL L a → H a = some (.dT (ks.zip xs)) → ks.length = xs.length → RpAll L K H xs ds → Rp L K H (.ref a) (.dt ks ds)
  | obj {a C dx : Addr} {ns : List Str} {xs : List V} {ds : List D} : ¬ inL L a → H a = some (.ins C dx (ns.zip xs)) → ns.length = xs.length → RpAll L K H xs ds → Rp L K H (.ref a) (.obj C ns ds)
  | exc {a C d : Addr} {φ : Heap → Prop} {ns : List Str} {xs : List V} {ds : List D} : ¬ inL L a → ¬ inL L d → H a = some (.ext φ) → (∀ h, φ h → ExcAt h a C d) → XDict H d (ns.zip xs) → ns.length = xs.length → RpAll L K H xs ds → Rp L K H (.ref a) (.exc C ns ds)
  | fnv {f : Addr} {F : LamF} {cl : List (Str × Addr)} : FnvAt L H f F cl → Rp L K H (.ref f) (.fnv F cl)
  | clo {f : Addr} {F : LamF} {xs : List V} {ds : List D} : CloAt L H f F xs → RpAll L K H xs ds → Rp L K H (.ref f) (.clo F ds)
inductive RpAll (L : Led) (K : PySem.W.Frag) (H : Hp) : List V → List D → Prop
  | nil : RpAll L K H [] []
  | cons {v : V} {vs : List V} {d : D} {ds : List D} : Rp L K H v d → RpAll L K H vs ds → RpAll L K H (v :: vs) (d :: ds)
end

/-- from (L, H) to (L', H'): what is not of the ledger stands -/
def Go (L L' : Led) (H H' : Hp) : Prop := ∀ a o, ¬ inL L a → H a = some o → ¬ inL L' a ∧ H' a = some o
theorem Go.refl (L : Led) (H : Hp) : Go L L H H := fun _ _ n h => ⟨n, h⟩
theorem Go.trans {L L1 L2 : Led} {H H1 H2 : Hp} (a : Go L L1 H H1) (b : Go L1 L2 H1 H2) : Go L L2 H H2 := fun x o n h => let ⟨n1, h1⟩ := a x o n h; b x o n1 h1
theorem Go.same {L : Led} {H H' : Hp} (s : Same H H') : Go L L H H' := fun a o n h => ⟨n, s a o h⟩
theorem Go.rd {L L' : Led} {H H' : Hp} {a : Addr} {u : HO} (g : Go L L' H H') (n : ¬ inL L a) (h : Rd H a u) : ¬ inL L' a ∧ Rd H' a u := by
  rcases h with h | ⟨o, h⟩
  · exact ⟨(g a _ n h).1, .inl (g a _ n h).2⟩
  · exact ⟨(g a _ n h).1, .inr ⟨o, (g a _ n h).2⟩⟩
theorem Go.sqL {L L' K H H' a xs} (g : Go L L' H H') (h : SqL' L K H a xs) : SqL' L' K H' a xs := h.elim (fun z => .inl (g.rd z.1 z.2)) .inr
theorem Go.sqT {L L' K H H' a xs} (g : Go L L' H H') (h : SqT' L K H a xs) : SqT' L' K H' a xs := h.elim (fun z => .inl (g.rd z.1 z.2)) .inr
theorem Go.xdict {L L' : Led} {H H' : Hp} {d : Addr} {fs : List (Str × V)} (g : Go L L' H H') (n : ¬ inL L d) (h : XDict H d fs) : ¬ inL L' d ∧ XDict H' d fs := by
  rcases h with h | h
  · exact ⟨(g d _ n h).1, .inl (g d _ n h).2⟩
  · exact ⟨(g d _ n h).1, .inr (g d _ n h).2⟩
theorem Go.fnv {L L' : Led} {H H' : Hp} {f : Addr} {F : LamF} {cl : List (Str × Addr)} (g : Go L L' H H') (h : FnvAt L H f F cl) : FnvAt L' H' f F cl := by
  obtain ⟨nf, c, dV, h1, n2, h2, h3⟩ := h
  refine ⟨(g _ _ nf h1).1, c, dV, (g _ _ nf h1).2, (g _ _ n2 h2).1, (g _ _ n2 h2).2, ?_⟩
  rcases h3 with h3 | ⟨z, t, e, n, h3⟩
  · exact .inl h3
  · exact .inr ⟨z, t, e, (g _ _ n h3).1, (g _ _ n h3).2⟩
theorem Go.clo {L L' : Led} {H H' : Hp} {f : Addr} {F : LamF} {vs : List V} (g : Go L L' H H') (h : CloAt L H f F vs) : CloAt L' H' f F vs := by
  obtain ⟨cl, h1, h2, h3, h4, h5⟩ := h
  refine ⟨cl, g.fnv h1, h2, h3, h4, fun i y e => ?_⟩
  obtain ⟨cc, oc, u, v, q1, n, q2, q3⟩ := h5 i y e
  exact ⟨cc, oc, u, v, q1, (g _ _ n q2).1, (g _ _ n q2).2, q3⟩
mutual
theorem Rp.go {L L' : Led} {K : PySem.W.Frag} {H H' : Hp} (g : Go L L' H H') : ∀ {v : V} {d : D}, Rp L K H v d → Rp L' K H' v d
  | _, _, .non => .non
  | _, _, .bl b => .bl b
  | _, _, .int i => .int i
  | _, _, .str x => .str x
  | _, _, .ty n => .ty n
  | _, _, .ptr a => .ptr a
  | _, _, .lst n h r => .lst (g _ _ n h).1 (g _ _ n h).2 (RpAll.go g r)
  | _, _, .ro s r => .ro (g.sqL s) (RpAll.go g r)
  | _, _, .tup s r => .tup (g.sqT s) (RpAll.go g r)
  | _, _, .dk n h e r => .dk (g.rd n h).1 (g.rd n h).2 e (RpAll.go g r)
  | _, _, .dt n h e r => .dt (g _ _ n h).1 (g _ _ n h).2 e (RpAll.go g r)
  | _, _, .obj n h e r => .obj (g _ _ n h).1 (g _ _ n h).2 e (RpAll.go g r)
  | _, _, .exc n m h p x e r => .exc (g _ _ n h).1 (g.xdict m x).1 (g _ _ n h).2 p (g.xdict m x).2 e (RpAll.go g r)
  | _, _, .fnv h => .fnv (g.fnv h)
  | _, _, .clo h r => .clo (g.clo h) (RpAll.go g r)
theorem RpAll.go {L L' : Led} {K : PySem.W.Frag} {H H' : Hp} (g : Go L L' H H') : ∀ {vs : List V} {ds : List D}, RpAll L K H vs ds → RpAll L' K H' vs ds
  | _, _, .nil => .nil
  | _, _, .cons h r => .cons (Rp.go g h) (RpAll.go g r)
end
section
variable {L : Led} {K : PySem.W.Frag} {H : Hp}
theorem RpAll.length : ∀ {vs : List V} {ds : List D}, RpAll L K H vs ds → vs.length = ds.length
  | _, _, .nil => rfl
  | _, _, .cons _ r => by rw [List.length_cons, List.length_cons, RpAll.length r]
theorem RpAll.get : ∀ {vs : List V} {ds : List D} {i : Nat} {d : D}, RpAll L K H vs ds → ds[i]? = some d → ∃ v, vs[i]? = some v ∧ Rp L K H v d
  | _, _, _, _, .nil, e => by simp at e
  | _, _, 0, _, .cons h _, e => by simp at e; subst e; exact ⟨_, rfl, h⟩
  | _, _, i + 1, d, .cons _ r, e => by
    obtain ⟨v, e1, h⟩ := RpAll.get (i := i) (d := d) r (by simpa using e)
    exact ⟨v, by simpa using e1, h⟩
theorem RpAll.getV : ∀ {vs : List V} {ds : List D} {i : Nat} {v : V}, RpAll L K H vs ds → vs[i]? = some v → ∃ d, ds[i]? = some d ∧ Rp L K H v d
  | _, _, _, _, .nil, e => by simp at e
  | _, _, 0, _, .cons h _, e => by simp at e; subst e; exact ⟨_, rfl, h⟩
  | _, _, i + 1, v, .cons _ r, e => by
    obtain ⟨d, e1, h⟩ := RpAll.getV (i := i) (v := v) r (by simpa using e)
    exact ⟨d, by simpa using e1, h⟩
theorem RpAll.append : ∀ {vs ws : List V} {ds es : List D}, RpAll L K H vs ds → RpAll L K H ws es → RpAll L K H (vs ++ ws) (ds ++ es)
  | _, _, _, _, .nil, s => s
  | _, _, _, _, .cons h r, s => .cons h (RpAll.append r s)
theorem RpAll.take : ∀ {vs : List V} {ds : List D} (n : Nat), RpAll L K H vs ds → RpAll L K H (vs.take n) (ds.take n)
  | _, _, 0, _ => .nil
  | _, _, _ + 1, .nil => .nil
  | _, _, n + 1, .cons h r => .cons h (RpAll.take n r)
theorem RpAll.drop : ∀ {vs : List V} {ds : List D} (n : Nat), RpAll L K H vs ds → RpAll L K H (vs.drop n) (ds.drop n)
  | _, _, 0, h => h
  | _, _, _ + 1, .nil => .nil
  | _, _, n + 1, .cons _ r => RpAll.drop n r
theorem RpAll.set {v : V} {d : D} (h : Rp L K H v d) : ∀ {vs : List V} {ds : List D} (i : Nat), RpAll L K H vs ds → RpAll L K H (vs.set i v) (ds.set i d)
  | _, _, _, .nil => .nil
  | _, _, 0, .cons _ r => .cons h r
  | _, _, i + 1, .cons a r => .cons a (RpAll.set h i r)
theorem RpAll.ints : ∀ (ns : List Int), RpAll L K H (ns.map V.int) (ns.map D.int)
  | [] => .nil
  | n :: r => .cons (.int n) (RpAll.ints r)
theorem RpAll.ofInts : ∀ {vs : List V} (ns : List Int), RpAll L K H vs (ns.map D.int) → vs = ns.map V.int
  | _, [], .nil => rfl
  | _, _ :: r, .cons h t => by cases h; rw [RpAll.ofInts r t]; rfl
theorem RpAll.ofBls : ∀ {vs : List V} (ns : List Bool), RpAll L K H vs (ns.map D.bl) → vs = ns.map V.bl
  | _, [], .nil => rfl
  | _, _ :: r, .cons h t => by cases h; rw [RpAll.ofBls r t]; rfl
theorem RpAll.ofStrs : ∀ {vs : List V} (ns : List Str), RpAll L K H vs (ns.map D.str) → vs = ns.map V.str
  | _, [], .nil => rfl
  | _, _ :: r, .cons h t => by cases h; rw [RpAll.ofStrs r t]; rfl
theorem RpAll.strs : ∀ (ns : List Str), RpAll L K H (ns.map V.str) (ns.map D.str)
  | [] => .nil
  | n :: r => .cons (.str n) (RpAll.strs r)
end

/-! ### the ledger -/
/-- what stands at a, of the ledger -/
def Own (L : Led) (K : PySem.W.Frag) (H : Hp) (a : Addr) : D → Prop
  | .lst ds => ∃ vs, H a = some (.lst vs) ∧ RpAll L K H vs ds
  | .dk ks ds => ∃ vs, H a = some (.dK (ks.zip vs)) ∧ ks.length = vs.length ∧ RpAll L K H vs ds
  | .dt ks ds => ∃ vs, H a = some (.dT (ks.zip vs)) ∧ ks.length = vs.length ∧ RpAll L K H vs ds
  | .obj C ns ds => ∃ dx vs, H a = some (.ins C dx (ns.zip vs)) ∧ ns.length = vs.length ∧ RpAll L K H vs ds
  | .tab q => ∃ ps : Array Value, H a = some (.tbl ps) ∧ TriplesOk ps.toList ∧ ∀ (pos : Pos) (cv : Value), codeAmong pos ps.toList = some cv → ∃ c, cv = .ref c ∧ ¬ inL L c ∧ H c = some (LamX.CodeO c q)
  | _ => False
structure JL (K : PySem.W.Frag) (L : Led) (H : Hp) : Prop where
  nd : (L.map (·.1)).Nodup
  own : ∀ a d, (a, d) ∈ L → Own L K H a d
section
variable {L L' : Led} {K : PySem.W.Frag} {H H' : Hp} {a p : Addr} {d : D}
theorem Own.there (h : Own L K H a d) : ∃ o, H a = some o := by
  cases d with
  | lst ds => exact ⟨_, h.choose_spec.1⟩
  | dk ks ds => exact ⟨_, h.choose_spec.1⟩
  | dt ks ds => exact ⟨_, h.choose_spec.1⟩
  | obj C ns ds => obtain ⟨dx, vs, e, _⟩ := h; exact ⟨_, e⟩
  | tab q => obtain ⟨ps, e, _⟩ := h; exact ⟨_, e⟩
  | _ => exact h.elim
theorem Own.move (h : Own L K H a d) (g : Go L L' H H') (e : ∀ o, H a = some o → H' a = some o) : Own L' K H' a d := by
  cases d with
  | lst ds => obtain ⟨vs, h1, h2⟩ := h; exact ⟨vs, e _ h1, h2.go g⟩
  | dk ks ds => obtain ⟨vs, h1, h3, h2⟩ := h; exact ⟨vs, e _ h1, h3, h2.go g⟩
  | dt ks ds => obtain ⟨vs, h1, h3, h2⟩ := h; exact ⟨vs, e _ h1, h3, h2.go g⟩
  | obj C ns ds => obtain ⟨dx, vs, h1, h3, h2⟩ := h; exact ⟨dx, vs, e _ h1, h3, h2.go g⟩
  | tab q =>
    obtain ⟨ps, h1, h2, h3⟩ := h
    refine ⟨ps, e _ h1, h2, fun pos cv hc => ?_⟩
    obtain ⟨c, q1, n, q2⟩ := h3 pos cv hc
    exact ⟨c, q1, (g _ _ n q2).1, (g _ _ n q2).2⟩
  | _ => exact h.elim
theorem JL.same (j : JL K L H) (s : Same H H') : JL K L H' := ⟨j.nd, fun a d m => Own.move (j.own a d m) (Go.same s) fun o e => s a o e⟩
theorem JL.notIn (j : JL K L H) (h : H p = none) : ¬ inL L p := fun m => by
  obtain ⟨q, hq, e⟩ := List.mem_map.mp m
  obtain ⟨o, ho⟩ := Own.there (j.own q.1 q.2 hq)
  rw [e, h] at ho
  cases ho
theorem mem_of_lookup : ∀ {L : Led} {a : Addr} {d : D}, L.lookup a = some d → (a, d) ∈ L
  | [], _, _, h => by simp at h
  | (b, e) :: r, a, d, h => by
    by_cases hb : a = b
    · subst hb
      rw [List.lookup_cons_self] at h
      cases h
      exact List.mem_cons_self
    · have q : (a == b) = false := by simpa using hb
      rw [List.lookup_cons, q] at h
      exact List.mem_cons_of_mem _ (mem_of_lookup h)
theorem JL.look (j : JL K L H) (h : L.lookup a = some d) : Own L K H a d := j.own a d (mem_of_lookup h)
/-- what a datum holds, through the ledger -/
def con (L : Led) : D → D
  | .ptr a => (L.lookup a).getD (.ptr a)
  | d => d
theorem con_lst {v : V} {ds : List D} (j : JL K L H) (r : Rp L K H v d) (e : con L d = .lst ds) : ∃ a vs, v = .ref a ∧ H a = some (.lst vs) ∧ RpAll L K H vs ds := by
  cases d with
  | ptr a =>
    cases r
    have e : (L.lookup a).getD (.ptr a) = _ := e
    cases h : L.lookup a with
    | none => rw [h] at e; cases e
    | some c =>
      rw [h] at e
      have e2 : c = .lst ds := e
      subst e2
      obtain ⟨vs, h1, h2⟩ := j.look h
      exact ⟨a, vs, rfl, h1, h2⟩
  | lst xs =>
    have e2 : xs = ds := by unfold con at e; injection e
    subst e2
    cases r with
    | lst n h r => exact ⟨_, _, rfl, h, r⟩
  | _ => cases e
theorem con_tup {v : V} {ds : List D} (j : JL K L H) (r : Rp L K H v d) (e : con L d = .tup ds) : ∃ a vs, v = .ref a ∧ SqT K H a vs ∧ RpAll L K H vs ds := by
  cases d with
  | ptr a =>
    cases r
    have e : (L.lookup a).getD (.ptr a) = _ := e
    cases h : L.lookup a with
    | none => rw [h] at e; cases e
    | some c =>
      rw [h] at e
      have e2 : c = .tup ds := e
      subst e2
      exact (j.look h).elim
  | tup xs =>
    have e2 : xs = ds := by unfold con at e; injection e
    subst e2
    cases r with
    | tup s r => exact ⟨_, _, rfl, s.sq, r⟩
  | _ => cases e
/-- the items of a list or tuple that may be read -/
def seqs : D → Option (List D)
  | .lst ds => some ds
  | .ro ds => some ds
  | .tup ds => some ds
  | _ => none
theorem con_ro {v : V} {ds : List D} (j : JL K L H) (r : Rp L K H v d) (e : con L d = .ro ds) : ∃ a vs, v = .ref a ∧ SqL K H a vs ∧ RpAll L K H vs ds := by
  cases d with
  | ptr a =>
    cases r
    have e : (L.lookup a).getD (.ptr a) = _ := e
    cases h : L.lookup a with
    | none => rw [h] at e; cases e
    | some c =>
      rw [h] at e
      have e2 : c = .ro ds := e
      subst e2
      exact (j.look h).elim
  | ro xs =>
    have e2 : xs = ds := by unfold con at e; injection e
    subst e2
    cases r with
    | ro s r => exact ⟨_, _, rfl, s.sq, r⟩
  | _ => cases e
theorem con_seq {v : V} {ds : List D} (j : JL K L H) (r : Rp L K H v d) (e : seqs (con L d) = some ds) : ∃ a vs, v = .ref a ∧ (SqL K H a vs ∨ SqT K H a vs) ∧ RpAll L K H vs ds := by
  cases h : con L d with
  | lst xs =>
    rw [h] at e; cases e
    obtain ⟨a, vs, h1, h2, h3⟩ := con_lst j r h
    exact ⟨a, vs, h1, .inl (SqL.of h2), h3⟩
  | ro xs =>
    rw [h] at e; cases e
    obtain ⟨a, vs, h1, h2, h3⟩ := con_ro j r h
    exact ⟨a, vs, h1, .inl h2, h3⟩
  | tup xs =>
    rw [h] at e; cases e
    obtain ⟨a, vs, h1, h2, h3⟩ := con_tup j r h
    exact ⟨a, vs, h1, .inr h2, h3⟩
  | _ => rw [h] at e; cases e
theorem same_new (h : H p = none) (o : HO) : Same H (upd H p o) := fun b u q => by rw [upd_ne (ne_of_none q h)]; exact q
/-- a new thing onto the ledger -/
theorem JL.push (j : JL K L H) (hp : H p = none) {o : HO} (ow : Own ((p, d) :: L) K (upd H p o) p d) : JL K ((p, d) :: L) (upd H p o) ∧ Go L ((p, d) :: L) H (upd H p o) := by
  have np := j.notIn hp
  have g : Go L ((p, d) :: L) H (upd H p o) := fun a u n h => by
    have ne : a ≠ p := ne_of_none h hp
    exact ⟨fun m => by
      rcases List.mem_cons.mp m with e | e
      · exact ne e
      · exact n e, by rw [upd_ne ne]; exact h⟩
  refine ⟨⟨List.nodup_cons.mpr ⟨np, j.nd⟩, fun a e m => ?_⟩, g⟩
  rcases List.mem_cons.mp m with q | q
  · cases q
    exact ow
  · exact Own.move (j.own a e q) g fun u h => by rw [upd_ne (ne_of_none h hp)]; exact h
end

/-! ### slots -/
abbrev DEnv := List (Option D)
inductive Sto (L : Led) (K : PySem.W.Frag) (H : Hp) : St → DEnv → Prop
  | nil : Sto L K H [] []
  | sm {v d σ e} : Rp L K H v d → Sto L K H σ e → Sto L K H (some v :: σ) (some d :: e)
  | no {o σ e} : Sto L K H σ e → Sto L K H (o :: σ) (none :: e)
section
variable {L L' : Led} {K : PySem.W.Frag} {H H' : Hp}
theorem Sto.go (g : Go L L' H H') : ∀ {σ : St} {e : DEnv}, Sto L K H σ e → Sto L' K H' σ e
  | _, _, .nil => .nil
  | _, _, .sm h r => .sm (h.go g) (Sto.go g r)
  | _, _, .no r => .no (Sto.go g r)
theorem Sto.get : ∀ {σ : St} {e : DEnv} {i : Nat} {d : D}, Sto L K H σ e → e[i]? = some (some d) → ∃ v, σ[i]? = some (some v) ∧ Rp L K H v d
  | _, _, _, _, .nil, h => by simp at h
  | _, _, 0, _, .sm h _, q => by simp at q; subst q; exact ⟨_, rfl, h⟩
  | _, _, 0, _, .no _, q => by simp at q
  | _, _, i + 1, d, .sm _ r, q => by
    obtain ⟨v, e1, h⟩ := Sto.get (i := i) (d := d) r (by simpa using q)
    exact ⟨v, by simpa using e1, h⟩
  | _, _, i + 1, d, .no r, q => by
    obtain ⟨v, e1, h⟩ := Sto.get (i := i) (d := d) r (by simpa using q)
    exact ⟨v, by simpa using e1, h⟩
theorem Sto.set {v : V} {d : D} (h : Rp L K H v d) : ∀ {σ : St} {e : DEnv} (i : Nat), Sto L K H σ e → Sto L K H (σ.set i (some v)) (e.set i (some d))
  | _, _, _, .nil => .nil
  | _, _, 0, .sm _ r => .sm h r
  | _, _, 0, .no r => .sm h r
  | _, _, i + 1, .sm q r => .sm q (Sto.set h i r)
  | _, _, i + 1, .no r => .no (Sto.set h i r)
theorem Sto.wipe1 {o : Option V} : ∀ {σ : St} {e : DEnv} (i : Nat), Sto L K H σ e → Sto L K H (σ.set i o) (e.set i none)
  | _, _, _, .nil => .nil
  | _, _, 0, .sm _ r => .no r
  | _, _, 0, .no r => .no r
  | _, _, i + 1, .sm q r => .sm q (Sto.wipe1 i r)
  | _, _, i + 1, .no r => .no (Sto.wipe1 i r)
theorem Sto.start : ∀ {vs : List V} {ds : List D} {n : Nat}, RpAll L K H vs ds → Sto L K H (vs.map some ++ List.replicate n none) (ds.map some ++ List.replicate n none)
  | _, _, 0, .nil => .nil
  | _, _, n + 1, .nil => .no (Sto.start (n := n) .nil)
  | _, _, n, .cons h r => .sm h (Sto.start r)
end
end DL

namespace DL
open PySem L2

/-- an error: its class, what its own dict holds -/
structure Exn where
  cls : Value
  ns : List Str
  vs : List D
def ExR (L : Led) (K : PySem.W.Frag) (H : Hp) (a : Addr) (n : Exn) : Prop :=
  ¬ inL L a ∧ ∃ vs, H a = some (.xd (n.ns.zip vs)) ∧ n.ns.length = vs.length ∧ RpAll L K H vs n.vs
abbrev DK := D → Led → Prop
abbrev DX := Exn → DEnv → Led → Prop
abbrev DE := DEnv → Led → DK → DX → Prop
abbrev DT := DEnv → Led → (Bool → Led → Prop) → DX → Prop
abbrev DA := DEnv → Led → (List D → Led → Prop) → DX → Prop
structure DEnds where
  nx : DEnv → Led → Prop
  rt : DK
  ex : DX
  bk : DEnv → Led → Prop
  ct : DEnv → Led → Prop
abbrev DS := DEnds → DEnv → Led → Prop

def StL (K : PySem.W.Frag) (σ : St) (H : Hp) (env : DEnv) (L : Led) : Prop := Sto L K H σ env ∧ JL K L H
theorem StL.go {K : PySem.W.Frag} {σ : St} {H H' : Hp} {env : DEnv} {L L' : Led} (s : StL K σ H env L) (g : Go L L' H H') (j : JL K L' H') : StL K σ H' env L' := ⟨s.1.go g, j⟩
def KOk (K : PySem.W.Frag) (L : Led) (H : Hp) (k : DK) (Q : VK) : Prop := ∀ d L' v H', k d L' → Go L L' H H' → JL K L' H' → Rp L' K H' v d → Q v H'
def XOk (K : PySem.W.Frag) (Wx : WX) (L : Led) (H : Hp) (x : DX) : Prop := ∀ n env' L' a H' σ', x n env' L' → Go L L' H H' → StL K σ' H' env' L' → ExR L' K H' a n → Wx n.cls (some a) σ' H'
structure EOk (K : PySem.W.Frag) (Wx : WX) (L : Led) (H : Hp) (D' : DEnds) (D : Ends) : Prop where
  nx : ∀ env' L' σ' H', D'.nx env' L' → Go L L' H H' → StL K σ' H' env' L' → D.nx σ' H'
  rt : KOk K L H D'.rt D.rt
  ex : XOk K Wx L H D'.ex
  bk : ∀ env' L' σ' H', D'.bk env' L' → Go L L' H H' → StL K σ' H' env' L' → D.bk σ' H'
  ct : ∀ env' L' σ' H', D'.ct env' L' → Go L L' H H' → StL K σ' H' env' L' → D.ct σ' H'
section
variable {K : PySem.W.Frag} {Wx : WX} {L L1 : Led} {H H1 : Hp} {k : DK} {Q : VK} {x : DX} {D' : DEnds} {D : Ends}
theorem KOk.go (h : KOk K L H k Q) (g : Go L L1 H H1) : KOk K L1 H1 k Q := fun d L' v H' q g' j r => h d L' v H' q (g.trans g') j r
theorem XOk.go (h : XOk K Wx L H x) (g : Go L L1 H H1) : XOk K Wx L1 H1 x := fun n e L' a H' σ' q g' s r => h n e L' a H' σ' q (g.trans g') s r
theorem EOk.go (h : EOk K Wx L H D' D) (g : Go L L1 H H1) : EOk K Wx L1 H1 D' D :=
  ⟨fun e L' σ' H' q g' s => h.nx e L' σ' H' q (g.trans g') s, h.rt.go g, h.ex.go g, fun e L' σ' H' q g' s => h.bk e L' σ' H' q (g.trans g') s, fun e L' σ' H' q g' s => h.ct e L' σ' H' q (g.trans g') s⟩
end

def SimE (K : PySem.W.Frag) (Wx : WX) (te : TE) (de : DE) : Prop := ∀ σ H env L k x Q, StL K σ H env L → de env L k x → KOk K L H k Q → XOk K Wx L H x → te σ H Q
def SimT (K : PySem.W.Frag) (Wx : WX) (te : TT) (de : DT) : Prop := ∀ σ H env L k x Q, StL K σ H env L → de env L k x → (∀ b L' H', k b L' → Go L L' H H' → JL K L' H' → Q b H') → XOk K Wx L H x → te σ H Q
def SimA (K : PySem.W.Frag) (Wx : WX) (ta : TA) (da : DA) : Prop := ∀ σ H env L k x Q, StL K σ H env L → da env L k x → (∀ ds L' vs H', k ds L' → Go L L' H H' → JL K L' H' → RpAll L' K H' vs ds → Q vs H') → XOk K Wx L H x → ta σ H Q
def SimS (K : PySem.W.Frag) (Wx : WX) (ts : TS) (ds : DS) : Prop := ∀ σ H env L D' D, StL K σ H env L → ds D' env L → EOk K Wx L H D' D → ts D σ H
structure QE (X : Cx) (Wx : WX) (e : Expr) (de : DE) : Prop where
  ex : ∃ te, PE X e te ∧ SimE X.K Wx te de
structure QT (X : Cx) (Wx : WX) (e : Expr) (dt : DT) : Prop where
  ex : ∃ te, PT X e te ∧ SimT X.K Wx te dt
structure QW (X : Cx) (Wx : WX) (e : Expr) (dt : DT) : Prop where
  ex : ∃ te, PW X e te ∧ SimT X.K Wx te dt
structure QA (X : Cx) (Wx : WX) (es : List Expr) (da : DA) : Prop where
  ex : ∃ ta, PA X es ta ∧ SimA X.K Wx ta da
structure QS (X : Cx) (Wx : WX) (st : Stmt) (ds : DS) : Prop where
  ex : ∃ ts, PS X st ts ∧ SimS X.K Wx ts ds
structure QSs (X : Cx) (Wx : WX) (st : List Stmt) (ds : DS) : Prop where
  ex : ∃ ts, PSs X st ts ∧ SimS X.K Wx ts ds

section
variable {X : Cx} {Wx : WX} {a b c e : Expr} {es : List Expr} {da db dc de : DE} {pos : Pos}

/-! ### names, constants -/
def dVar (i : Nat) : DE := fun env L k _ => match env[i]? with
  | some (some d) => k d L
  | _ => False
theorem qv (i : Nat) {x : Str} {pos : Pos} (hN : X.N[i]? = some x := by rfl) (hv : Vis X.env.scope x := by first | exact Or.inl rfl | exact Or.inr (Or.inl rfl) | exact Or.inr (Or.inr rfl)) (hd : (x == ("__debug__" : Str)) = false := by decide)
    (hcd : (x == ("__classdict__" : Str)) = false := by decide) : QE X Wx (.Name x pos) (dVar i) := by
  refine ⟨tVar i, pv i hN hv hd hcd, fun σ H env L k x Q st h hk _ => ?_⟩
  unfold dVar at h
  split at h
  · rename_i d hd
    obtain ⟨v, e1, r⟩ := st.1.get hd
    exact ⟨v, e1, hk d L v H h (Go.refl L H) st.2 r⟩
  · exact h.elim
def dC (d : D) : DE := fun _ L k _ => k d L
theorem sim_c {K : PySem.W.Frag} {v : V} {d : D} (r : ∀ L H, Rp L K H v d) : SimE K Wx (tC v) (dC d) := fun _ H _ L _ _ _ st h hk _ => hk d L v H h (Go.refl L H) st.2 (r L H)
theorem q_int {i j pos} : QE X Wx (.Constant (.int i) j pos) (dC (.int i)) := ⟨_, pe_int, sim_c fun _ _ => .int i⟩
theorem q_bl {b j pos} : QE X Wx (.Constant (.bool b) j pos) (dC (.bl b)) := ⟨_, pe_bl, sim_c fun _ _ => .bl b⟩
theorem q_non {j pos} : QE X Wx (.Constant .none j pos) (dC .non) := ⟨_, pe_non, sim_c fun _ _ => .non⟩
theorem q_str {x j pos} : QE X Wx (.Constant (.str x) j pos) (dC (.str x)) := ⟨_, pe_str, sim_c fun _ _ => .str x⟩
theorem q_glob {x : Str} {v : V} {d : D} {u : Value} {pos : Pos} (hg : Gl X x) (hm : X.mg x = some u) (r : RelV v u) (rd : ∀ L H, Rp L X.K H v d) (hd : (x == ("__debug__" : Str)) = false := by decide) : QE X Wx (.Name x pos) (dC d) :=
  ⟨_, pe_glob hg hm r hd, sim_c rd⟩
theorem q_bltn {x : Str} {v : V} {d : D} {u : Value} {pos : Pos} (hg : Gl X x) (hm : X.mg x = none) (hv : bootBuiltins x = some u) (r : RelV v u) (rd : ∀ L H, Rp L X.K H v d) (hn : x ≠ "__name__" := by decide) (hd : (x == ("__debug__" : Str)) = false := by decide) : QE X Wx (.Name x pos) (dC d) :=
  ⟨_, pe_bltn hg hm hv r hn hd, sim_c rd⟩

/-! ### operators on values -/
/-- g: two data, the ledger, what is wanted of the answer -/
abbrev G2 := D → D → Led → (D → Prop) → Prop
def ROk (K : PySem.W.Frag) (L : Led) (H : Hp) (k : D → Prop) (Q : VK) : Prop := ∀ d v H', k d → Same H H' → Rp L K H' v d → Q v H'
def Sim2 (K : PySem.W.Frag) (r : R2) (g : G2) : Prop := ∀ H L va vb a b k Q, JL K L H → Rp L K H va a → Rp L K H vb b → g a b L k → ROk K L H k Q → r va vb H Q
def OQ (X : Cx) (f : Value → Value → Sem Value) (g : G2) : Prop := ∃ r, OpR X f r ∧ Sim2 X.K r g
def dOp (g : G2) (da db : DE) : DE := fun env L k x => da env L (fun a L1 => db env L1 (fun b L2 => g a b L2 fun d => k d L2) x) x
theorem sim_op {K : PySem.W.Frag} {ta tb : TE} {r : R2} {g : G2} (sa : SimE K Wx ta da) (sb : SimE K Wx tb db) (sr : Sim2 K r g) : SimE K Wx (tOp r ta tb) (dOp g da db) := by
  intro σ H env L k x Q st h hk hx
  refine sa σ H env L _ x _ st h (fun a L1 va H1 h1 g1 j1 r1 => ?_) hx
  refine sb σ H1 env L1 _ x _ (st.go g1 j1) h1 (fun b L2 vb H2 h2 g2 j2 r2 => ?_) (hx.go g1)
  exact sr H2 L2 va vb a b _ Q j2 (r1.go g2) r2 h2 fun d v H' q s rp => hk d L2 v H' q ((g1.trans g2).trans (Go.same s)) (j2.same s) rp
theorem q_op {op : Operator} {g : G2} (ho : OQ X (binaryOp op) g) (ha : QE X Wx a da) (hb : QE X Wx b db) : QE X Wx (.BinOp a op b pos) (dOp g da db) := by
  obtain ⟨ta, pa, sa⟩ := ha.ex
  obtain ⟨tb, pb, sb⟩ := hb.ex
  obtain ⟨r, hr, sr⟩ := ho
  exact ⟨_, pe_op hr pa pb, sim_op sa sb sr⟩
theorem q_cmp {op : CmpOp} {g : G2} (ho : OQ X (compareOp op) g) (ha : QE X Wx a da) (hb : QE X Wx b db) (hm : behindInMarks op b = false := by rfl) : QE X Wx (.Compare a [op] [b] pos) (dOp g da db) := by
  obtain ⟨ta, pa, sa⟩ := ha.ex
  obtain ⟨tb, pb, sb⟩ := hb.ex
  obtain ⟨r, hr, sr⟩ := ho
  exact ⟨_, pe_cmpR hr pa pb hm, sim_op sa sb sr⟩
/-- two rules for one operator -/
theorem opr_or {f : Value → Value → Sem Value} {r1 r2 : R2} (h1 : OpR X f r1) (h2 : OpR X f r2) : OpR X f (fun x y H Q => r1 x y H Q ∨ r2 x y H Q) := fun pins s σ H x y u v Q I rx ry h =>
  h.elim (fun q => h1 pins s σ H x y u v Q I rx ry q) (fun q => h2 pins s σ H x y u v Q I rx ry q)
theorem OQ.or {f : Value → Value → Sem Value} {g1 g2 g : G2} (h1 : OQ X f g1) (h2 : OQ X f g2) (hg : ∀ a b L k, g a b L k → g1 a b L k ∨ g2 a b L k) : OQ X f g := by
  obtain ⟨r1, o1, s1⟩ := h1
  obtain ⟨r2, o2, s2⟩ := h2
  exact ⟨_, opr_or o1 o2, fun H L va vb a b k Q j ra rb h hk => (hg a b L k h).elim (fun q => .inl (s1 H L va vb a b k Q j ra rb q hk)) (fun q => .inr (s2 H L va vb a b k Q j ra rb q hk))⟩
/-- two ints -/
def gI (C : Int → Int → Prop) (f : Int → Int → D) : G2 := fun a b _ k => match a, b with
  | .int i, .int j => C i j ∧ k (f i j)
  | _, _ => False
def gI0 (f : Int → Int → D) : G2 := fun a b _ k => match a, b with
  | .int i, .int j => k (f i j)
  | _, _ => False
theorem sim2_I {K : PySem.W.Frag} {C : Int → Int → Prop} {f : Int → Int → V} {f' : Int → Int → D} (hf : ∀ i j L H, Rp L K H (f i j) (f' i j)) : Sim2 K (rI C f) (gI C f') := by
  intro H L va vb a b k Q j ra rb h hk
  cases ra <;> cases rb <;> first | exact h.elim | skip
  exact ⟨_, _, rfl, rfl, h.1, hk _ _ H h.2 (Same.refl H) (hf _ _ L H)⟩
theorem sim2_I0 {K : PySem.W.Frag} {f : Int → Int → V} {f' : Int → Int → D} (hf : ∀ i j L H, Rp L K H (f i j) (f' i j)) : Sim2 K (rI0 f) (gI0 f') := by
  intro H L va vb a b k Q j ra rb h hk
  cases ra <;> cases rb <;> first | exact h.elim | skip
  exact ⟨_, _, rfl, rfl, hk _ _ H h (Same.refl H) (hf _ _ L H)⟩
abbrev gAddI : G2 := gI0 fun i j => .int (i + j)
abbrev gSubI : G2 := gI0 fun i j => .int (i - j)
abbrev gMul : G2 := gI CMulW fun i j => .int (i * j)
def CDivA (_ j : Int) : Prop := j ≠ 0 ∧ j.natAbs.log2 < 9000
abbrev gFdiv : G2 := gI CDivA fun i j => .int (i.fdiv j)
abbrev gMod : G2 := gI (fun _ j => j ≠ 0) fun i j => .int (i.fmod j)
abbrev gPow : G2 := gI CPow fun i j => .int (i ^ j.toNat)
theorem oq_addI : OQ X (binaryOp .Add) gAddI := ⟨_, op_add, sim2_I0 fun _ _ _ _ => .int _⟩
theorem oq_sub : OQ X (binaryOp .Sub) gSubI := ⟨_, op_sub, sim2_I0 fun _ _ _ _ => .int _⟩
theorem oq_mul : OQ X (binaryOp .Mult) gMul := ⟨_, op_mulW, sim2_I fun _ _ _ _ => .int _⟩
theorem op_fdivA : OpR X (binaryOp .FloorDiv) (rI CDivA fun i j => .int (i.fdiv j)) := opI fun i j _ _ _ _ _ hc q =>
  PyProof.Rows.floordiv_int hc.1 q (.inl (PyProof.noPylong_of_log2 hc.2))
theorem oq_fdiv : OQ X (binaryOp .FloorDiv) gFdiv := ⟨_, op_fdivA, sim2_I fun _ _ _ _ => .int _⟩
theorem oq_mod : OQ X (binaryOp .Mod) gMod := ⟨_, op_modN, sim2_I fun _ _ _ _ => .int _⟩
theorem oq_pow : OQ X (binaryOp .Pow) gPow := ⟨_, op_pow, sim2_I fun _ _ _ _ => .int _⟩
abbrev gLt : G2 := gI0 fun i j => .bl (decide (i < j))
abbrev gLe : G2 := gI0 fun i j => .bl (decide (i ≤ j))
abbrev gGt : G2 := gI0 fun i j => .bl (decide (j < i))
abbrev gGe : G2 := gI0 fun i j => .bl (decide (j ≤ i))
theorem oq_lt : OQ X (compareOp .Lt) gLt := ⟨_, op_lt, sim2_I0 fun _ _ _ _ => .bl _⟩
theorem oq_le : OQ X (compareOp .LtE) gLe := ⟨_, op_le, sim2_I0 fun _ _ _ _ => .bl _⟩
theorem oq_gt : OQ X (compareOp .Gt) gGt := ⟨_, op_gt, sim2_I0 fun _ _ _ _ => .bl _⟩
theorem oq_ge : OQ X (compareOp .GtE) gGe := ⟨_, op_ge, sim2_I0 fun _ _ _ _ => .bl _⟩
end
end DL

namespace DL
open PySem L2
/-! ### equality -/
mutual
def toPy : D → PyData
  | .non => .none
  | .bl b => .bool b
  | .int i => .int i
  | .str x => .str x
  | .lst xs => .list (toPys xs)
  | .tup xs => .tuple (toPys xs)
  | .ro _ => .dict [] | .dk _ _ => .dict [] | .dt _ _ => .dict [] | .obj _ _ _ => .dict [] | .exc _ _ _ => .dict [] | .fnv _ _ => .dict [] | .clo _ _ => .dict [] | .tab _ => .dict [] | .ptr _ => .dict [] | .ty _ => .dict []
def toPys : List D → List PyData
  | [] => []
  | d :: r => toPy d :: toPys r
end
/-- whether a datum is of None, bools, ints, texts, lists, tuples -/
def shp (d : D) : Bool := SeqAt.shaped (toPy d)
def eqD (a b : D) : Bool := PyData.eqv (toPy a) (toPy b)
mutual
theorem Rp.dp {L : Led} {K : PySem.W.Frag} {H : Hp} : ∀ {v : V} {d : D}, Rp L K H v d → PyData.canLay0 (toPy d) = true → Dp K H v (toPy d)
  | _, _, .non, _ => .non
  | _, _, .bl b, _ => .bl b
  | _, _, .int i, _ => .int i
  | _, _, .str x, _ => .str x
  | _, _, .lst n h r, c => .lst (SqL.of h) (RpAll.dp r (by simpa only [toPy, PyData.canLay0] using c))
  | _, _, .tup s r, c => .tup s.sq (RpAll.dp r (by simpa only [toPy, PyData.canLay0] using c))
  | _, _, .ro _ _, c => by simp [toPy, PyData.canLay0] at c
  | _, _, .ty _, c => by simp [toPy, PyData.canLay0] at c
  | _, _, .ptr _, c => by simp [toPy, PyData.canLay0] at c
  | _, _, .dk _ _ _ _, c => by simp [toPy, PyData.canLay0] at c
  | _, _, .dt _ _ _ _, c => by simp [toPy, PyData.canLay0] at c
  | _, _, .obj _ _ _ _, c => by simp [toPy, PyData.canLay0] at c
  | _, _, .exc _ _ _ _ _ _ _, c => by simp [toPy, PyData.canLay0] at c
  | _, _, .fnv _, c => by simp [toPy, PyData.canLay0] at c
  | _, _, .clo _ _, c => by simp [toPy, PyData.canLay0] at c
theorem RpAll.dp {L : Led} {K : PySem.W.Frag} {H : Hp} : ∀ {vs : List V} {ds : List D}, RpAll L K H vs ds → PyData.canLayAll0 (toPys ds) = true → DpAll K H vs (toPys ds)
  | _, _, .nil, _ => .nil
  | _, _, .cons (d := d) (ds := ds) h r, c => by
    have c' : PyData.canLay0 (toPy d) = true ∧ PyData.canLayAll0 (toPys ds) = true := by simpa only [toPys, PyData.canLayAll0, Bool.and_eq_true] using c
    exact .cons (Rp.dp h c'.1) (RpAll.dp r c'.2)
end
def gEq : G2 := fun a b _ k => shp a = true ∧ shp b = true ∧ k (.bl (eqD a b))
def gNe : G2 := fun a b _ k => shp a = true ∧ shp b = true ∧ k (.bl (!eqD a b))
section
variable {X : Cx} {Wx : WX} {a b c e : Expr} {es : List Expr} {da db dc de : DE} {pos : Pos}
theorem oq_eq (hu : X.A.units + 64 < cLine) : OQ X (compareOp .Eq) gEq := ⟨_, op_eqD hu, fun H L va vb a b k Q j ra rb h hk => by
  obtain ⟨h1, h2, h3⟩ := h
  exact ⟨_, _, ra.dp (SeqAt.canLay_of_shaped h1), rb.dp (SeqAt.canLay_of_shaped h2), h1, h2, hk _ _ H h3 (Same.refl H) (.bl _)⟩⟩
theorem oq_ne (hu : X.A.units + 64 < cLine) : OQ X (compareOp .NotEq) gNe := ⟨_, op_neD hu, fun H L va vb a b k Q j ra rb h hk => by
  obtain ⟨h1, h2, h3⟩ := h
  exact ⟨_, _, ra.dp (SeqAt.canLay_of_shaped h1), rb.dp (SeqAt.canLay_of_shaped h2), h1, h2, hk _ _ H h3 (Same.refl H) (.bl _)⟩⟩
/-- flat things: None, bools, ints, texts -/
def scD : D → D → Bool
  | .non, .non => true
  | .bl _, .bl _ => true
  | .int _, .int _ => true
  | .str _, .str _ => true
  | _, _ => false
def flEq : D → D → Bool
  | .non, .non => true
  | .bl a, .bl b => decide (a = b)
  | .int a, .int b => decide (a = b)
  | .str a, .str b => decide (a = b)
  | _, _ => false
def gEqF : G2 := fun a b _ k => scD a b = true ∧ k (.bl (flEq a b))
def gNeF : G2 := fun a b _ k => scD a b = true ∧ k (.bl (!flEq a b))
theorem flEq_of {L : Led} {K : PySem.W.Frag} {H : Hp} {va vb : V} {a b : D} (ra : Rp L K H va a) (rb : Rp L K H vb b) (h : scD a b = true) : scal va vb = true ∧ decide (va = vb) = flEq a b := by
  cases ra <;> cases rb <;> first | exact absurd h Bool.false_ne_true | skip
  · exact ⟨rfl, by simp [flEq]⟩
  · exact ⟨rfl, by simp [flEq]⟩
  · exact ⟨rfl, by simp [flEq]⟩
  · exact ⟨rfl, by simp [flEq]⟩
theorem oq_eqF : OQ X (compareOp .Eq) gEqF := ⟨_, op_eq, fun H L va vb a b k Q j ra rb h hk => by
  obtain ⟨h1, h2⟩ := flEq_of ra rb h.1
  exact ⟨h1, by rw [h2]; exact hk _ _ H h.2 (Same.refl H) (.bl _)⟩⟩
theorem oq_neF : OQ X (compareOp .NotEq) gNeF := ⟨_, op_ne, fun H L va vb a b k Q j ra rb h hk => by
  obtain ⟨h1, h2⟩ := flEq_of ra rb h.1
  exact ⟨h1, by rw [h2]; exact hk _ _ H h.2 (Same.refl H) (.bl _)⟩⟩
def isNon : D → Bool
  | .non => true
  | _ => false
def gIsN : G2 := fun a b _ k => match b with
  | .non => k (.bl (isNon a))
  | _ => False
def gNotN : G2 := fun a b _ k => match b with
  | .non => k (.bl (!isNon a))
  | _ => False
theorem isNon_of {L : Led} {K : PySem.W.Frag} {H : Hp} {va : V} {a : D} (ra : Rp L K H va a) : decide (va = .non) = isNon a := by
  cases ra <;> first | rfl | (exact decide_eq_false (fun h => nomatch h))
theorem oq_isN : OQ X (compareOp .Is) gIsN := ⟨_, op_isN, fun H L va vb a b k Q j ra rb h hk => by
  cases rb <;> first | exact h.elim | skip
  exact ⟨rfl, by rw [isNon_of ra]; exact hk _ _ H h (Same.refl H) (.bl _)⟩⟩
theorem oq_notN : OQ X (compareOp .IsNot) gNotN := ⟨_, op_notN, fun H L va vb a b k Q j ra rb h hk => by
  cases rb <;> first | exact h.elim | skip
  exact ⟨rfl, by rw [isNon_of ra]; exact hk _ _ H h (Same.refl H) (.bl _)⟩⟩

/-! ### subscripts, slices -/
def atD (ds : List D) (i : Int) : Option D := atI ds i
theorem atI_of {L : Led} {K : PySem.W.Frag} {H : Hp} {vs : List V} {ds : List D} {i : Int} {d : D} (r : RpAll L K H vs ds) (h : atI ds i = some d) : ∃ v, atI vs i = some v ∧ Rp L K H v d := by
  unfold atI at h ⊢
  rw [r.length]
  cases e : ixN ds.length i with
  | none => rw [e] at h; cases h
  | some j =>
    rw [e] at h
    exact r.get h
/-- a list, a tuple at a place -/
def gIx : G2 := fun a b L k => match b with
  | .int i => match seqs (con L a) with
    | some ds => match atI ds i with
      | some d => k d
      | none => False
    | none => False
  | _ => False
def rIxQ (K : PySem.W.Frag) : R2 := fun x y H Q => rIxL K x y H Q ∨ rIxT K x y H Q
theorem ix_or {r1 r2 : R2} (h1 : IxR X r1) (h2 : IxR X r2) : IxR X (fun x y H Q => r1 x y H Q ∨ r2 x y H Q) := fun value slice pins s σ H x y v u Q I rx ry h hs =>
  h.elim (fun q => h1 value slice pins s σ H x y v u Q I rx ry q hs) (fun q => h2 value slice pins s σ H x y v u Q I rx ry q hs)
theorem sim_ix {K : PySem.W.Frag} : Sim2 K (rIxQ K) gIx := by
  intro H L va vb a b k Q j ra rb h hk
  cases rb <;> first | exact h.elim | skip
  unfold gIx at h
  simp only at h
  split at h
  · rename_i ds hd
    split at h
    · rename_i d hi
      obtain ⟨p, vs, rfl, hs, r⟩ := con_seq j ra hd
      obtain ⟨v, hv, rv⟩ := atI_of r hi
      rcases hs with hs | hs
      · exact .inl ⟨p, vs, _, v, rfl, rfl, hs, hv, hk _ _ H h (Same.refl H) rv⟩
      · exact .inr ⟨p, vs, _, v, rfl, rfl, hs, hv, hk _ _ H h (Same.refl H) rv⟩
    · exact h.elim
  · exact h.elim
theorem q_ix (ha : QE X Wx a da) (hb : QE X Wx b db) (hs : PlainIx b := by intro _ _; rfl) : QE X Wx (.Subscript a b pos) (dOp gIx da db) := by
  obtain ⟨ta, pa, sa⟩ := ha.ex
  obtain ⟨tb, pb, sb⟩ := hb.ex
  exact ⟨_, pe_ix (ix_or ix_list ix_tup) pa pb hs, sim_op sa sb sim_ix⟩
/-- a text's sign at a place -/
def gIxS : G2 := fun a b _ k => match a, b with
  | .str z, .int i => z.length ≤ sizeLine ∧ match atI z.cps.toList i with
    | some c => k (.str ⟨#[c]⟩)
    | none => False
  | _, _ => False
theorem sim_ixS {K : PySem.W.Frag} : Sim2 K rIxS gIxS := by
  intro H L va vb a b k Q j ra rb h hk
  cases ra <;> cases rb <;> first | exact h.elim | skip
  obtain ⟨hz, h⟩ := h
  split at h
  · rename_i c hc
    exact ⟨_, _, c, rfl, rfl, hz, hc, hk _ _ H h (Same.refl H) (.str _)⟩
  · exact h.elim
theorem q_ixS (ha : QE X Wx a da) (hb : QE X Wx b db) (hs : PlainIx b := by intro _ _; rfl) : QE X Wx (.Subscript a b pos) (dOp gIxS da db) := by
  obtain ⟨ta, pa, sa⟩ := ha.ex
  obtain ⟨tb, pb, sb⟩ := hb.ex
  exact ⟨_, pe_ix ix_str pa pb hs, sim_op sa sb sim_ixS⟩
end
end DL

namespace DL
open PySem L2
section
variable {X : Cx} {Wx : WX} {a b c e : Expr} {es rest : List Expr} {da db dc de : DE} {dt du : DT} {dl : DA} {pos : Pos}
/-! ### one operand -/
abbrev G1 := D → Led → (D → Prop) → Prop
def dUn (g : G1) (da : DE) : DE := fun env L k x => da env L (fun a L1 => g a L1 fun d => k d L1) x
def Sim1 (K : PySem.W.Frag) (r : V → Hp → VK → Prop) (g : G1) : Prop := ∀ H L va a k Q, JL K L H → Rp L K H va a → g a L k → ROk K L H k Q → r va H Q
theorem sim_un {K : PySem.W.Frag} {ta : TE} {r : V → Hp → VK → Prop} {g : G1} (sa : SimE K Wx ta da) (sr : Sim1 K r g) : SimE K Wx (tUn r ta) (dUn g da) := by
  intro σ H env L k x Q st h hk hx
  refine sa σ H env L _ x _ st h (fun a L1 va H1 h1 g1 j1 r1 => ?_) hx
  exact sr H1 L1 va a _ Q j1 r1 h1 fun d v H' q s rp => hk d L1 v H' q (g1.trans (Go.same s)) (j1.same s) rp
def gNeg : G1 := fun a _ k => match a with
  | .int i => k (.int (-i))
  | _ => False
theorem q_neg (ha : QE X Wx a da) : QE X Wx (.UnaryOp .USub a pos) (dUn gNeg da) := by
  obtain ⟨ta, pa, sa⟩ := ha.ex
  refine ⟨_, pe_un un_neg pa, sim_un sa fun H L va a k Q j ra h hk => ?_⟩
  cases ra <;> first | exact h.elim | skip
  exact ⟨_, rfl, hk _ _ H h (Same.refl H) (.int _)⟩
/-! ### and, or, not (bools) -/
def dAndV (da db : DE) : DE := fun env L k x => da env L (fun a L1 => match a with
  | .bl true => db env L1 k x
  | .bl false => k (.bl false) L1
  | _ => False) x
def dOrV (da db : DE) : DE := fun env L k x => da env L (fun a L1 => match a with
  | .bl true => k (.bl true) L1
  | .bl false => db env L1 k x
  | _ => False) x
def dNotV (da : DE) : DE := fun env L k x => da env L (fun a L1 => match a with
  | .bl b => k (.bl (!b)) L1
  | _ => False) x
theorem q_one {op} (h : QE X Wx a da) : QE X Wx (.BoolOp op [a] pos) da := by
  obtain ⟨ta, pa, sa⟩ := h.ex
  exact ⟨_, pe_one pa, sa⟩
theorem q_and (ha : QE X Wx a da) (hb : QE X Wx (.BoolOp .And (b :: rest) pos) db) : QE X Wx (.BoolOp .And (a :: b :: rest) pos) (dAndV da db) := by
  obtain ⟨ta, pa, sa⟩ := ha.ex
  obtain ⟨tb, pb, sb⟩ := hb.ex
  refine ⟨_, pe_and pa pb, fun σ H env L k x Q st h hk hx => ?_⟩
  refine sa σ H env L _ x _ st h (fun a L1 va H1 h1 g1 j1 r1 => ?_) hx
  cases r1 <;> first | exact h1.elim | skip
  rename_i b
  refine ⟨b, rfl, ?_⟩
  cases b with
  | true => exact iteT (sb σ H1 env L1 k x Q (st.go g1 j1) h1 (hk.go g1) (hx.go g1))
  | false => exact iteF (hk _ L1 _ H1 h1 g1 j1 (.bl false))
theorem q_or (ha : QE X Wx a da) (hb : QE X Wx (.BoolOp .Or (b :: rest) pos) db) : QE X Wx (.BoolOp .Or (a :: b :: rest) pos) (dOrV da db) := by
  obtain ⟨ta, pa, sa⟩ := ha.ex
  obtain ⟨tb, pb, sb⟩ := hb.ex
  refine ⟨_, pe_or pa pb, fun σ H env L k x Q st h hk hx => ?_⟩
  refine sa σ H env L _ x _ st h (fun a L1 va H1 h1 g1 j1 r1 => ?_) hx
  cases r1 <;> first | exact h1.elim | skip
  rename_i b
  refine ⟨b, rfl, ?_⟩
  cases b with
  | true => exact iteT (hk _ L1 _ H1 h1 g1 j1 (.bl true))
  | false => exact iteF (sb σ H1 env L1 k x Q (st.go g1 j1) h1 (hk.go g1) (hx.go g1))
theorem q_not (ha : QE X Wx a da) : QE X Wx (.UnaryOp .Not a pos) (dNotV da) := by
  obtain ⟨ta, pa, sa⟩ := ha.ex
  refine ⟨_, pe_not pa, fun σ H env L k x Q st h hk hx => ?_⟩
  refine sa σ H env L _ x _ st h (fun a L1 va H1 h1 g1 j1 r1 => ?_) hx
  cases r1 <;> first | exact h1.elim | skip
  exact ⟨_, rfl, hk _ L1 _ H1 h1 g1 j1 (.bl _)⟩
/-! ### tests -/
def dB (da : DE) : DT := fun env L k x => da env L (fun a L1 => match a with
  | .bl b => k b L1
  | _ => False) x
theorem sim_B {K : PySem.W.Frag} {ta : TE} (sa : SimE K Wx ta da) : SimT K Wx (tB ta) (dB da) := by
  intro σ H env L k x Q st h hk hx
  refine sa σ H env L _ x _ st h (fun a L1 va H1 h1 g1 j1 r1 => ?_) hx
  cases r1 <;> first | exact h1.elim | skip
  exact ⟨_, rfl, hk _ L1 H1 h1 g1 j1⟩
theorem t_val (h : QE X Wx e da) (he : ∀ whole, isTrue e X.env whole = (do let v ← whole; standAt e.pos; holding [v] (truthy v)) := by intro _; rfl) : QT X Wx e (dB da) := by
  obtain ⟨ta, pa, sa⟩ := h.ex
  exact ⟨_, pt_val pa he, sim_B sa⟩
theorem t_cmp {op : CmpOp} {g : G2} (ho : OQ X (compareOp op) g) (ha : QE X Wx a da) (hb : QE X Wx b db) (hm : behindInMarks op b = false := by rfl) : QT X Wx (.Compare a [op] [b] pos) (dB (dOp g da db)) := by
  obtain ⟨ta, pa, sa⟩ := ha.ex
  obtain ⟨tb, pb, sb⟩ := hb.ex
  obtain ⟨r, hr, sr⟩ := ho
  refine ⟨_, pt_cmpR hr pa pb hm, fun σ H env L k x Q st h hk hx => ?_⟩
  exact sim_B (sim_op sa sb sr) σ H env L k x Q st h hk hx
def dTAnd (dt du : DT) : DT := fun env L k x => dt env L (fun b L1 => match b with
  | true => du env L1 k x
  | false => k false L1) x
def dTOr (dt du : DT) : DT := fun env L k x => dt env L (fun b L1 => match b with
  | true => k true L1
  | false => du env L1 k x) x
def dTNot (dt : DT) : DT := fun env L k x => dt env L (fun b L1 => k (!b) L1) x
theorem w_and1 (h : QT X Wx a dt) : QW X Wx (.BoolOp .And [a] pos) dt := by
  obtain ⟨ta, pa, sa⟩ := h.ex
  exact ⟨_, pw_and1 pa, sa⟩
theorem w_or1 (h : QT X Wx a dt) : QW X Wx (.BoolOp .Or [a] pos) dt := by
  obtain ⟨ta, pa, sa⟩ := h.ex
  exact ⟨_, pw_or1 pa, sa⟩
theorem w_and (ha : QT X Wx a dt) (hb : QW X Wx (.BoolOp .And (b :: rest) pos) du) : QW X Wx (.BoolOp .And (a :: b :: rest) pos) (dTAnd dt du) := by
  obtain ⟨ta, pa, sa⟩ := ha.ex
  obtain ⟨tb, pb, sb⟩ := hb.ex
  refine ⟨_, pw_and pa pb, fun σ H env L k x Q st h hk hx => ?_⟩
  refine sa σ H env L _ x _ st h (fun b L1 H1 h1 g1 j1 => ?_) hx
  cases b with
  | true => exact iteT (sb σ H1 env L1 k x Q (st.go g1 j1) h1 (fun b L2 H2 q g j => hk b L2 H2 q (g1.trans g) j) (hx.go g1))
  | false => exact iteF (hk _ L1 H1 h1 g1 j1)
theorem w_or (ha : QT X Wx a dt) (hb : QW X Wx (.BoolOp .Or (b :: rest) pos) du) : QW X Wx (.BoolOp .Or (a :: b :: rest) pos) (dTOr dt du) := by
  obtain ⟨ta, pa, sa⟩ := ha.ex
  obtain ⟨tb, pb, sb⟩ := hb.ex
  refine ⟨_, pw_or pa pb, fun σ H env L k x Q st h hk hx => ?_⟩
  refine sa σ H env L _ x _ st h (fun b L1 H1 h1 g1 j1 => ?_) hx
  cases b with
  | true => exact iteT (hk _ L1 H1 h1 g1 j1)
  | false => exact iteF (sb σ H1 env L1 k x Q (st.go g1 j1) h1 (fun b L2 H2 q g j => hk b L2 H2 q (g1.trans g) j) (hx.go g1))
theorem QW.t (h : QW X Wx e dt) : QT X Wx e dt := by
  obtain ⟨ta, pa, sa⟩ := h.ex
  exact ⟨_, pa.pt, sa⟩
theorem t_not (h : QT X Wx a dt) : QT X Wx (.UnaryOp .Not a pos) (dTNot dt) := by
  obtain ⟨ta, pa, sa⟩ := h.ex
  refine ⟨_, pt_not pa, fun σ H env L k x Q st h hk hx => ?_⟩
  exact sa σ H env L _ x _ st h (fun b L1 H1 h1 g1 j1 => hk _ L1 H1 h1 g1 j1) hx
/-- the truth of a value -/
def truD (L : Led) (d : D) : Option Bool := match con L d with
  | .non => some false
  | .bl b => some b
  | .int i => some (i != 0)
  | .lst ds => some (!ds.isEmpty)
  | .tup ds => some (!ds.isEmpty)
  | .ro ds => some (!ds.isEmpty)
  | _ => none
def dTru (da : DE) : DT := fun env L k x => da env L (fun a L1 => match truD L1 a with
  | some b => k b L1
  | none => False) x
theorem emp_of {L : Led} {K : PySem.W.Frag} {H : Hp} {vs : List V} {ds : List D} (r : RpAll L K H vs ds) : (!ds.isEmpty) = !vs.isEmpty := by cases r <;> rfl
theorem tru_of {L : Led} {K : PySem.W.Frag} {H : Hp} {v : V} {d : D} {b : Bool} (j : JL K L H) (r : Rp L K H v d) (h : truD L d = some b) : TruV K v H b := by
  unfold truD at h
  split at h
  · rename_i e
    cases d <;> first | (cases e; done) | skip
    · cases r; cases h; rfl
    · rename_i a
      have e : (L.lookup a).getD (.ptr a) = _ := e
      cases q : L.lookup a with
      | none => rw [q] at e; cases e
      | some c =>
        rw [q] at e
        have e2 : c = .non := e
        subst e2
        exact (j.look q).elim
  · rename_i b' e
    cases d <;> first | (cases e; done) | skip
    · cases e; cases r; cases h; rfl
    · rename_i a
      have e : (L.lookup a).getD (.ptr a) = _ := e
      cases q : L.lookup a with
      | none => rw [q] at e; cases e
      | some c =>
        rw [q] at e
        have e2 : c = .bl b' := e
        subst e2
        exact (j.look q).elim
  · rename_i i e
    cases d <;> first | (cases e; done) | skip
    · cases e; cases r; cases h; rfl
    · rename_i a
      have e : (L.lookup a).getD (.ptr a) = _ := e
      cases q : L.lookup a with
      | none => rw [q] at e; cases e
      | some c =>
        rw [q] at e
        have e2 : c = .int i := e
        subst e2
        exact (j.look q).elim
  · rename_i ds e
    cases h
    obtain ⟨a, vs, rfl, h1, h2⟩ := con_lst j r e
    exact .inl ⟨vs, SqL.of h1, emp_of h2⟩
  · rename_i ds e
    cases h
    obtain ⟨a, vs, rfl, h1, h2⟩ := con_tup j r e
    exact .inr (.inl ⟨vs, h1, emp_of h2⟩)
  · rename_i ds e
    cases h
    obtain ⟨a, vs, rfl, h1, h2⟩ := con_ro j r e
    exact .inl ⟨vs, h1, emp_of h2⟩
  · cases h
theorem t_tru (h : QE X Wx a da) (he : ∀ whole, isTrue a X.env whole = (do let v ← whole; standAt a.pos; holding [v] (truthy v)) := by intro _; rfl) : QT X Wx a (dTru da) := by
  obtain ⟨ta, pa, sa⟩ := h.ex
  refine ⟨_, pt_truth pa he, fun σ H env L k x Q st h hk hx => ?_⟩
  refine sa σ H env L _ x _ st h (fun a L1 va H1 h1 g1 j1 r1 => ?_) hx
  split at h1
  · rename_i b hb
    exact ⟨b, tru_of j1 r1 hb, hk b L1 H1 h1 g1 j1⟩
  · exact h1.elim
/-- a if t else b -/
def dIf (dt : DT) (da db : DE) : DE := fun env L k x => dt env L (fun b L1 => match b with
  | true => da env L1 k x
  | false => db env L1 k x) x
theorem q_if (hc : QT X Wx c dt) (ha : QE X Wx a da) (hb : QE X Wx b db) : QE X Wx (.IfExp c a b pos) (dIf dt da db) := by
  obtain ⟨tc, pc, sc⟩ := hc.ex
  obtain ⟨ta, pa, sa⟩ := ha.ex
  obtain ⟨tb, pb, sb⟩ := hb.ex
  refine ⟨_, pe_ifExp pc pa pb, fun σ H env L k x Q st h hk hx => ?_⟩
  refine sc σ H env L _ x _ st h (fun b L1 H1 h1 g1 j1 => ?_) hx
  cases b with
  | true => exact iteT (sa σ H1 env L1 k x Q (st.go g1 j1) h1 (hk.go g1) (hx.go g1))
  | false => exact iteF (sb σ H1 env L1 k x Q (st.go g1 j1) h1 (hk.go g1) (hx.go g1))
/-- a < b < c -/
def dChain (g g' : G2) (da db dc : DE) : DE := fun env L k x => da env L (fun a L1 => db env L1 (fun b L2 => g a b L2 fun z => match z with
  | .bl true => dc env L2 (fun c L3 => g' b c L3 fun d => k d L3) x
  | .bl false => k (.bl false) L2
  | _ => False) x) x
theorem sim_chain {K : PySem.W.Frag} {ta tb tc : TE} {r r' : R2} {g g' : G2} (sa : SimE K Wx ta da) (sb : SimE K Wx tb db) (sc : SimE K Wx tc dc) (sr : Sim2 K r g) (sr' : Sim2 K r' g') : SimE K Wx (tChain r r' ta tb tc) (dChain g g' da db dc) := by
  intro σ H env L k x Q st h hk hx
  refine sa σ H env L _ x _ st h (fun a L1 va H1 h1 g1 j1 r1 => ?_) hx
  refine sb σ H1 env L1 _ x _ (st.go g1 j1) h1 (fun b L2 vb H2 h2 g2 j2 r2 => ?_) (hx.go g1)
  refine sr H2 L2 va vb a b _ _ j2 (r1.go g2) r2 h2 fun z v H' q s rp => ?_
  have g3 : Go L L2 H H' := (g1.trans g2).trans (Go.same s)
  cases rp <;> first | exact q.elim | skip
  rename_i bb
  refine ⟨bb, rfl, ?_⟩
  cases bb with
  | true =>
    refine iteT (sc σ H' env L2 _ x _ (st.go g3 (j2.same s)) q (fun c L3 vc H3 h3 g4 j3 r3 => ?_) (hx.go g3))
    exact sr' H3 L3 vb vc b c _ Q j3 ((r2.go (Go.same s)).go g4) r3 h3 fun d v' H4 q4 s4 rp4 => hk d L3 v' H4 q4 ((g3.trans g4).trans (Go.same s4)) (j3.same s4) rp4
  | false => exact iteF (hk _ L2 _ H' q g3 (j2.same s) (.bl false))
theorem q_chain {op op' : CmpOp} {g g' : G2} (ho : OQ X (compareOp op) g) (ho' : OQ X (compareOp op') g') (ha : QE X Wx a da) (hb : QE X Wx b db) (hc : QE X Wx c dc) (hm : lastMarks [op, op'] [b, c] = false := by rfl) :
    QE X Wx (.Compare a [op, op'] [b, c] pos) (dChain g g' da db dc) := by
  obtain ⟨ta, pa, sa⟩ := ha.ex
  obtain ⟨tb, pb, sb⟩ := hb.ex
  obtain ⟨tc, pc, sc⟩ := hc.ex
  obtain ⟨r, hr, sr⟩ := ho
  obtain ⟨r', hr', sr'⟩ := ho'
  exact ⟨_, pe_chain hr hr' pa pb pc hm, sim_chain sa sb sc sr sr'⟩
theorem t_chain {op op' : CmpOp} {g g' : G2} (ho : OQ X (compareOp op) g) (ho' : OQ X (compareOp op') g') (ha : QE X Wx a da) (hb : QE X Wx b db) (hc : QE X Wx c dc) (hm : lastMarks [op, op'] [b, c] = false := by rfl) :
    QT X Wx (.Compare a [op, op'] [b, c] pos) (dB (dChain g g' da db dc)) := by
  obtain ⟨ta, pa, sa⟩ := ha.ex
  obtain ⟨tb, pb, sb⟩ := hb.ex
  obtain ⟨tc, pc, sc⟩ := hc.ex
  obtain ⟨r, hr, sr⟩ := ho
  obtain ⟨r', hr', sr'⟩ := ho'
  refine ⟨_, pt_chain hr hr' pa pb pc hm, fun σ H env L k x Q st h hk hx => ?_⟩
  exact sim_B (sim_chain sa sb sc sr sr') σ H env L k x Q st h hk hx
/-! ### arguments, displays -/
def dNil : DA := fun _ L k _ => k [] L
def dCons (de : DE) (dl : DA) : DA := fun env L k x => de env L (fun d L1 => dl env L1 (fun ds L2 => k (d :: ds) L2) x) x
theorem a_nil : QA X Wx [] dNil := ⟨_, pa_nil, fun σ H env L k x Q st h hk hx => hk [] L [] H h (Go.refl L H) st.2 .nil⟩
theorem a_cons (ha : QE X Wx e de) (hr : QA X Wx es dl) (hs : starEach (e :: es) X.env = (false, eval e X.env) :: starEach es X.env := by rfl) : QA X Wx (e :: es) (dCons de dl) := by
  obtain ⟨te, pe, se⟩ := ha.ex
  obtain ⟨ta, pa, sa⟩ := hr.ex
  refine ⟨_, pa_cons pe pa hs, fun σ H env L k x Q st h hk hx => ?_⟩
  refine se σ H env L _ x _ st h (fun d L1 v H1 h1 g1 j1 r1 => ?_) hx
  refine sa σ H1 env L1 _ x _ (st.go g1 j1) h1 (fun ds L2 vs H2 h2 g2 j2 r2 => ?_) (hx.go g1)
  exact hk _ L2 _ H2 h2 (g1.trans g2) j2 (.cons (r1.go g2) r2)
def dTup (dl : DA) : DE := fun env L k x => dl env L (fun ds L1 => ds.length ≤ sizeLine ∧ k (.tup ds) L1) x
def dLst (dl : DA) : DE := fun env L k x => dl env L (fun ds L1 => ds.length ≤ sizeLine ∧ k (.lst ds) L1) x
/-- a list that will change: onto the ledger -/
def dLstM (dl : DA) : DE := fun env L k x => dl env L (fun ds L1 => ds.length ≤ sizeLine ∧ ∀ p, ¬ inL L1 p → k (.ptr p) ((p, .lst ds) :: L1)) x
theorem q_tup {x1} (h : QA X Wx es dl) : QE X Wx (.Tuple es x1 pos) (dTup dl) := by
  obtain ⟨ta, pa, sa⟩ := h.ex
  refine ⟨_, pe_tup pa, fun σ H env L k x Q st h hk hx => ?_⟩
  refine sa σ H env L _ x _ st h (fun ds L1 vs H1 h1 g1 j1 r1 => ?_) hx
  refine ⟨by rw [r1.length]; exact h1.1, fun p hp => ?_⟩
  have s := same_new hp (.tup vs)
  exact hk _ L1 _ _ h1.2 (g1.trans (Go.same s)) (j1.same s) (.tup (.inl ⟨j1.notIn hp, .inl upd_same⟩) (r1.go (Go.same s)))
theorem q_lst (h : QA X Wx es dl) : QE X Wx (.List es pos) (dLst dl) := by
  obtain ⟨ta, pa, sa⟩ := h.ex
  refine ⟨_, pe_lst pa, fun σ H env L k x Q st h hk hx => ?_⟩
  refine sa σ H env L _ x _ st h (fun ds L1 vs H1 h1 g1 j1 r1 => ?_) hx
  refine ⟨by rw [r1.length]; exact h1.1, fun p hp => ?_⟩
  have s := same_new hp (.lst vs)
  exact hk _ L1 _ _ h1.2 (g1.trans (Go.same s)) (j1.same s) (.lst (j1.notIn hp) upd_same (r1.go (Go.same s)))
theorem q_lstM (h : QA X Wx es dl) : QE X Wx (.List es pos) (dLstM dl) := by
  obtain ⟨ta, pa, sa⟩ := h.ex
  refine ⟨_, pe_lst pa, fun σ H env L k x Q st h hk hx => ?_⟩
  refine sa σ H env L _ x _ st h (fun ds L1 vs H1 h1 g1 j1 r1 => ?_) hx
  refine ⟨by rw [r1.length]; exact h1.1, fun p hp => ?_⟩
  have gg : Go L1 ((p, .lst ds) :: L1) H1 (upd H1 p (.lst vs)) := fun a u n hh => by
    have ne : a ≠ p := ne_of_none hh hp
    exact ⟨fun m => (List.mem_cons.mp m).elim ne n, by rw [upd_ne ne]; exact hh⟩
  obtain ⟨j2, g2⟩ := j1.push (d := .lst ds) hp (o := .lst vs) ⟨vs, upd_same, r1.go gg⟩
  exact hk _ _ _ _ (h1.2 p (j1.notIn hp)) (g1.trans g2) j2 (.ptr p)
end
end DL

namespace DL
open PySem L2
section
variable {X : Cx} {Wx : WX} {a b c e o : Expr} {es rest : List Expr} {da db dc de do' di : DE} {dt du : DT} {dl dk : DA} {pos : Pos}
/-! ### calls: a def by its contract over data -/
abbrev DSp := List D → Led → DK → (Exn → Led → Prop) → Prop
def spD (K : PySem.W.Frag) (f : DSp) : Sp := fun vs H Q E => ∃ ds L k x, JL K L H ∧ RpAll L K H vs ds ∧ f ds L k x ∧ KOk K L H k Q ∧ ∀ n L' a H', x n L' → Go L L' H H' → JL K L' H' → ExR L' K H' a n → E n.cls (some a) H'
def dCall (g : DSp) (dd : List D) (dl : DA) : DE := fun env L k x => dl env L (fun ds L1 => g (ds ++ dd) L1 k fun n L' => x n env L') x
theorem q_call {x : Str} {p : Pos} {k : Nat} {f : Addr} {fd : FuncData} {ps : List Str} {g : DSp} {us : List Value} {dvs : List V} {dd : List D} (F : FnOk X.prog X.w X.K X.mg X.base (L2.CX X.prog X.w) k f fd ps (spD X.K g)) (hr : Room k X.A) (hg : Gl X x) (hm : X.mg x = some (.ref f))
    (hk : PySem.W.keepIn X.K (.ref f) = true) (hb : Binds X.K fd ps us) (hd : Vals dvs us) (hdd : ∀ L H, RpAll L X.K H dvs dd) (tk : Takes X Wx) (ha : QA X Wx (e :: es) dl) (hdb : (x == ("__debug__" : Str)) = false := by decide)
    (he : starEach (e :: es) X.env = (false, eval e X.env) :: starEach es X.env := by rfl) (hpl : (backTo pos (starEach es X.env)).any (·.1) = false := by rfl) : QE X Wx (.Call (.Name x p) (e :: es) [] pos) (dCall g dd dl) := by
  obtain ⟨ta, pa, sa⟩ := ha.ex
  refine ⟨_, pe_callSD F hr hg hm hk hb hd (fun σ => passAt tk σ) pa hdb he hpl, fun σ H env L k x Q st h hk hx => ?_⟩
  refine sa σ H env L _ x _ st h (fun ds L1 vs H1 h1 g1 j1 r1 => ?_) hx
  exact ⟨ds ++ dd, L1, k, fun n L' => x n env L', j1, r1.append (hdd L1 H1), h1, hk.go g1, fun n L' a H' q g' j' r => hx n env L' a H' σ q (g1.trans g') (st.go (g1.trans g') j') r⟩
/-- by keywords, a def that raises nothing -/
def dCallK (g : DSp) (gD : List D → List D → List D) (dl dk : DA) : DE := fun env L k x => dl env L (fun ds L1 => dk env L1 (fun es L2 => g (gD ds es) L2 k fun _ _ => False) x) x
/-- f() -/
def dCall0 (g : DSp) (dd : List D) : DE := fun env L k x => g dd L k fun n L' => x n env L'
theorem q_call0 {x : Str} {p : Pos} {k : Nat} {f : Addr} {fd : FuncData} {ps : List Str} {g : DSp} {us : List Value} {dvs : List V} {dd : List D} (F : FnOk X.prog X.w X.K X.mg X.base (L2.CX X.prog X.w) k f fd ps (spD X.K g)) (hr : Room k X.A) (hg : Gl X x) (hm : X.mg x = some (.ref f))
    (hk : PySem.W.keepIn X.K (.ref f) = true) (hb : Binds X.K fd ps us) (hd : Vals dvs us) (hdd : ∀ L H, RpAll L X.K H dvs dd) (tk : Takes X (fun cls d _ H => Wx cls d [] H)) (hW : ∀ cls d σ σ' H, Wx cls d σ H → Wx cls d σ' H) (hdb : (x == ("__debug__" : Str)) = false := by decide) : QE X Wx (.Call (.Name x p) [] [] pos) (dCall0 g dd) := by
  refine ⟨_, pe_call0 (E := fun cls d H => Wx cls d [] H) F hr hg hm hk hb hd (passes_call tk fun _ _ _ _ h => h) hdb, fun σ H env L k x Q st h hk hx => ?_⟩
  exact ⟨dd, L, k, fun n L' => x n env L', st.2, by simpa using hdd L H, h, hk, fun n L' a H' q g' j' r => hW _ _ σ _ _ (hx n env L' a H' σ q g' (st.go g' j') r)⟩
/-! ### built-in calls -/
abbrev GC := List D → Led → (D → Prop) → Prop
def CQ (X : Cx) (f : Value) (g : GC) : Prop := ∃ r, CallR X f r ∧ ∀ H L vs ds k Q, JL X.K L H → RpAll L X.K H vs ds → g ds L k → ROk X.K L H k Q → r vs H Q
def dCB (g : GC) (dl : DA) : DE := fun env L k x => dl env L (fun ds L1 => g ds L1 fun d => k d L1) x
theorem sim_cb {K : PySem.W.Frag} {ta : TA} {r : List V → Hp → VK → Prop} {g : GC} (sa : SimA K Wx ta dl) (sr : ∀ H L vs ds k Q, JL K L H → RpAll L K H vs ds → g ds L k → ROk K L H k Q → r vs H Q) : SimE K Wx (tCB r ta) (dCB g dl) := by
  intro σ H env L k x Q st h hk hx
  refine sa σ H env L _ x _ st h (fun ds L1 vs H1 h1 g1 j1 r1 => ?_) hx
  exact sr H1 L1 vs ds _ Q j1 r1 h1 fun d v H' q s rp => hk d L1 v H' q (g1.trans (Go.same s)) (j1.same s) rp
theorem q_callB {x : Str} {p : Pos} {id : String} {g : GC} (hc : CQ X (.builtin id) g) (hg : Gl X x) (hm : X.mg x = none) (hv : bootBuiltins x = some (.builtin id)) (ha : QA X Wx (e :: es) dl) (hn : x ≠ "__name__" := by decide) (hdb : (x == ("__debug__" : Str)) = false := by decide)
    (he : starEach (e :: es) X.env = (false, eval e X.env) :: starEach es X.env := by rfl) (hpl : (backTo pos (starEach es X.env)).any (·.1) = false := by rfl) : QE X Wx (.Call (.Name x p) (e :: es) [] pos) (dCB g dl) := by
  obtain ⟨ta, pa, sa⟩ := ha.ex
  obtain ⟨r, hr, sr⟩ := hc
  exact ⟨_, pe_callB hr hg hm hv pa hn hdb he hpl, sim_cb sa sr⟩
theorem q_callTy {x : Str} {p : Pos} {T : String} {g : GC} (hc : CQ X (.type T) g) (hg : Gl X x) (hm : X.mg x = none) (hv : bootBuiltins x = some (.type T)) (ha : QA X Wx (e :: es) dl) (hn : x ≠ "__name__" := by decide) (hdb : (x == ("__debug__" : Str)) = false := by decide)
    (he : starEach (e :: es) X.env = (false, eval e X.env) :: starEach es X.env := by rfl) (hpl : (backTo pos (starEach es X.env)).any (·.1) = false := by rfl) : QE X Wx (.Call (.Name x p) (e :: es) [] pos) (dCB g dl) := by
  obtain ⟨ta, pa, sa⟩ := ha.ex
  obtain ⟨r, hr, sr⟩ := hc
  exact ⟨_, pe_callTy hr hg hm hv pa hn hdb he hpl, sim_cb sa sr⟩
/-- a module's name for a built-in (gcd) -/
theorem q_callF {x : Str} {p : Pos} {id : String} {g : GC} (hc : CQ X (.builtin id) g) (hg : Gl X x) (hm : X.mg x = some (.builtin id)) (ha : QA X Wx (e :: es) dl) (hdb : (x == ("__debug__" : Str)) = false := by decide)
    (he : starEach (e :: es) X.env = (false, eval e X.env) :: starEach es X.env := by rfl) (hpl : (backTo pos (starEach es X.env)).any (·.1) = false := by rfl) : QE X Wx (.Call (.Name x p) (e :: es) [] pos) (dCB g dl) := by
  obtain ⟨ta, pa, sa⟩ := ha.ex
  obtain ⟨r, hr, sr⟩ := hc
  exact ⟨_, pe_callBfun hr hg hm pa hdb he hpl, sim_cb sa sr⟩
end

/-! ### targets -/
abbrev DG := D → DEnv → Led → (DEnv → Prop) → Prop
abbrev DGs := List D → DEnv → Led → (DEnv → Prop) → Prop
section
variable {X : Cx} {Wx : WX} {a b c e o : Expr} {es rest : List Expr} {da db dc de : DE} {dt du : DT} {dl : DA} {pos : Pos}
/-- slots that a target stores -/
def Only' (sl : List Nat) (σ σ' : St) : Prop := ∀ vs : List Nat, (∀ i ∈ sl, i ∈ vs) → wipe σ' vs = wipe σ vs
def SimG (K : PySem.W.Frag) (sl : List Nat) (g : TG) (dg : DG) : Prop := ∀ v d σ H env L k Q, StL K σ H env L → Rp L K H v d → dg d env L k → (∀ σ' env', k env' → StL K σ' H env' L → Only' sl σ σ' → Q σ' H) → g v σ H Q
structure QG (X : Cx) (tg : Expr) (sl : List Nat) (dg : DG) : Prop where
  ex : ∃ g, PG X tg g ∧ SimG X.K sl g dg
structure QGs (X : Cx) (ts : List Expr) (sl : List Nat) (dg : DGs) : Prop where
  ex : ∃ g, PGs X ts g ∧ ∀ vs ds σ H env L k Q, StL X.K σ H env L → RpAll L X.K H vs ds → dg ds env L k → (∀ σ' env', k env' → StL X.K σ' H env' L → Only' sl σ σ' → Q σ' H) → g vs σ H Q
theorem wipe_set {σ : St} {o : Option V} {i : Nat} : ∀ {vs : List Nat}, i ∈ vs → wipe (σ.set i o) vs = wipe σ vs
  | [], h => by cases h
  | v :: vs, h => by
    by_cases e : i ∈ vs
    · unfold wipe
      rw [wipe_set e]
    · have e2 : i = v := by
        rcases List.mem_cons.mp h with q | q
        · exact q
        · exact absurd q e
      subst e2
      unfold wipe
      have key : ∀ (ws : List Nat), i ∉ ws → wipe (σ.set i o) ws = (wipe σ ws).set i o := by
        intro ws
        induction ws with
        | nil => intro _; rfl
        | cons w ws ih =>
          intro hn
          have h1 : i ≠ w := fun z => hn (by rw [z]; exact List.mem_cons_self)
          have h2 : i ∉ ws := fun z => hn (List.mem_cons_of_mem _ z)
          unfold wipe
          rw [ih h2, List.set_comm _ _ h1]
      rw [key vs e, List.set_set]
theorem only_set {σ : St} {o : Option V} {i : Nat} : Only' [i] σ (σ.set i o) := fun vs h => wipe_set (h i (by simp))
def dgName (i : Nat) : DG := fun d env _ k => k (env.set i (some d))
theorem g_name (i : Nat) {x : Str} (hN : X.N.Nodup) (hi : X.N[i]? = some x := by rfl) (hx : Loc X.env.scope x := by first | exact Or.inl rfl | exact Or.inr rfl) (hf : X.fn x = true ∨ X.env.scope.names.lookup x = some .local := by first | exact .inl rfl | exact .inr rfl | assumption) : QG X (.Name x pos) [i] (dgName i) :=
  ⟨_, pg_name hN hi hx hf, fun v d σ H env L k Q st r h hk => hk _ _ h ⟨st.1.set r i, st.2⟩ only_set⟩
def dgNil : DGs := fun ds env _ k => match ds with
  | [] => k env
  | _ => False
def dgCons (dg : DG) (dgs : DGs) : DGs := fun ds env L k => match ds with
  | d :: r => dg d env L fun env' => dgs r env' L k
  | [] => False
theorem gs_nil : QGs X [] [] dgNil := ⟨_, pgs_nil, fun vs ds σ H env L k Q st r h hk => by
  cases r with
  | nil => exact ⟨rfl, hk _ _ h st fun _ _ => rfl⟩
  | cons _ _ => exact h.elim⟩
theorem gs_cons {dg : DG} {dgs : DGs} {sl sl' : List Nat} (h1 : QG X e sl dg) (h2 : QGs X es sl' dgs) (hs : (assignEach (e :: es) X.env).map (·.2) = assign e X.env :: (assignEach es X.env).map (·.2) := by rfl) : QGs X (e :: es) (sl ++ sl') (dgCons dg dgs) := by
  obtain ⟨g, pg, sg⟩ := h1.ex
  obtain ⟨gs, pgs, sgs⟩ := h2.ex
  refine ⟨_, pgs_cons pg pgs hs, fun vs ds σ H env L k Q st r h hk => ?_⟩
  cases r with
  | nil => exact h.elim
  | cons r1 r2 =>
    refine ⟨_, _, rfl, sg _ _ σ H env L _ _ st r1 h fun σ' env' h' st' o1 => ?_⟩
    exact sgs _ _ σ' H env' L _ _ st' r2 h' fun σ2 env2 h2 st2 o2 => hk σ2 env2 h2 st2 fun vs hv => (o2 vs fun i hi => hv i (List.mem_append_right _ hi)).trans (o1 vs fun i hi => hv i (List.mem_append_left _ hi))
def dgTup (n : Nat) (dgs : DGs) : DG := fun d env L k => match d with
  | .tup ds => ds.length = n ∧ dgs ds env L k
  | _ => False
theorem g_tup {kk : Nat} {dgs : DGs} {n : Nat} {sl : List Nat} (hc : X.calm = true) (h : QGs X es sl dgs) (hn : (assignEach es X.env).length = n := by rfl) (hst : (assignEach es X.env).findIdx? (·.1) = none := by rfl) : QG X (.Tuple es kk pos) sl (dgTup n dgs) := by
  obtain ⟨gs, pgs, sgs⟩ := h.ex
  refine ⟨_, pg_tup hc pgs hn hst, fun v d σ H env L k Q st r h hk => ?_⟩
  cases r <;> first | exact h.elim | skip
  rename_i s r
  exact ⟨_, _, rfl, s.sq, by rw [r.length]; exact h.1, sgs _ _ σ H env L k Q st r h.2 hk⟩

/-! ### statements -/
def dNext : DS := fun D env L => D.nx env L
def dSeq (t u : DS) : DS := fun D env L => t { D with nx := u D } env L
theorem ss_nil : QSs X Wx [] dNext := ⟨_, pss_nil, fun σ H env L D' D st h ok => ok.nx env L σ H h (Go.refl L H) st⟩
theorem sim_seq {K : PySem.W.Frag} {t u : TS} {dt du : DS} (s1 : SimS K Wx t dt) (s2 : SimS K Wx u du) : SimS K Wx (tSeq t u) (dSeq dt du) := by
  intro σ H env L D' D st h ok
  refine s1 σ H env L _ _ st h ⟨fun env' L' σ' H' h' g' st' => ?_, ok.rt, ok.ex, ok.bk, ok.ct⟩
  exact s2 σ' H' env' L' D' D st' h' (ok.go g')
theorem ss_cons {st : Stmt} {rest : List Stmt} {dt du : DS} (h1 : QS X Wx st dt) (h2 : QSs X Wx rest du) : QSs X Wx (st :: rest) (dSeq dt du) := by
  obtain ⟨t, pt, st1⟩ := h1.ex
  obtain ⟨u, pu, su⟩ := h2.ex
  exact ⟨_, pss_cons pt pu, sim_seq st1 su⟩
theorem ss_one {st : Stmt} {dt : DS} (h1 : QS X Wx st dt) : QSs X Wx [st] dt := by
  obtain ⟨t, pt, st1⟩ := h1.ex
  exact ⟨_, pss_one pt, st1⟩
/-- a word between a statement and what follows -/
def dCut (t u : DS) : DS := fun D env L => ∃ M : DEnv → Led → Prop, t { D with nx := M } env L ∧ ∀ env' L', M env' L' → u D env' L'
theorem ss_cut {st : Stmt} {rest : List Stmt} {dt du : DS} (h1 : QS X Wx st dt) (h2 : QSs X Wx rest du) : QSs X Wx (st :: rest) (dCut dt du) := by
  obtain ⟨t, pt, st1⟩ := h1.ex
  obtain ⟨u, pu, su⟩ := h2.ex
  refine ⟨_, pss_cons pt pu, fun σ H env L D' D st h ok => ?_⟩
  obtain ⟨M, hm, hu⟩ := h
  refine st1 σ H env L _ _ st hm ⟨fun env' L' σ' H' h' g' st' => ?_, ok.rt, ok.ex, ok.bk, ok.ct⟩
  exact su σ' H' env' L' D' D st' (hu env' L' h') (ok.go g')
def dAsg (de : DE) (dg : DG) : DS := fun D env L => de env L (fun d L1 => dg d env L1 fun env' => D.nx env' L1) D.ex
theorem sim_asg {te : TE} {g : TG} {dg : DG} {sl : List Nat} (se : SimE X.K Wx te de) (sg : SimG X.K sl g dg) : SimS X.K Wx (tAsg te g) (dAsg de dg) := by
  intro σ H env L D' D st h ok
  refine se σ H env L _ _ _ st h (fun d L1 v H1 h1 g1 j1 r1 => ?_) ok.ex
  exact sg v d σ H1 env L1 _ _ (st.go g1 j1) r1 h1 fun σ' env' h' st' _ => ok.nx env' L1 σ' H1 h' g1 st'
theorem s_set (i : Nat) {x : Str} {pos' : Pos} (hN : X.N.Nodup) (he : QE X Wx e de) (hi : X.N[i]? = some x := by rfl) (hx : Loc X.env.scope x := by first | exact Or.inl rfl | exact Or.inr rfl) (hs : swapsWith e (some (.Name x pos')) pos.line X.env = pure false := by rfl) (hf : X.fn x = true ∨ X.env.scope.names.lookup x = some .local := by first | exact .inl rfl | exact .inr rfl | assumption) :
    QS X Wx (.Assign [.Name x pos'] e pos) (dAsg de (dgName i)) := by
  obtain ⟨te, pe, se⟩ := he.ex
  exact ⟨_, ps_set hN hi hx pe hs hf, sim_asg (sl := [i]) se fun v d σ H env L k Q st r h hk => hk _ _ h ⟨st.1.set r i, st.2⟩ only_set⟩
theorem s_asg {tg : Expr} {dg : DG} {sl : List Nat} (he : QE X Wx e de) (hg : QG X tg sl dg) (hs : swapsWithSole [tg] e pos.line X.env = pure false := by rfl) (hw : swappedStores [tg] e X.env = pure none := by rfl) (h1 : (assignEach [tg] X.env).map (·.2) = [assign tg X.env] := by rfl) : QS X Wx (.Assign [tg] e pos) (dAsg de dg) := by
  obtain ⟨te, pe, se⟩ := he.ex
  obtain ⟨g, pg, sg⟩ := hg.ex
  exact ⟨_, ps_asg pe pg hs hw h1, sim_asg se sg⟩
/-- a, b = x, y -/
def dPar (i j : Nat) (dl : DA) : DS := fun D env L => dl env L (fun ds L1 => match ds with
  | [d, e] => D.nx ((env.set i (some d)).set j (some e)) L1
  | _ => False) D.ex
theorem s_par (i j : Nat) {x y : Str} {px py pt : Pos} {kt k2 pt2} (hc : X.calm = true) (hN : X.N.Nodup) (ha : QA X Wx [a, b] dl) (hi : X.N[i]? = some x := by rfl) (hj : X.N[j]? = some y := by rfl) (hij : i ≠ j := by decide)
    (hx : X.env.scope.names.lookup x = some .local := by rfl) (hy : X.env.scope.names.lookup y = some .local := by rfl)
    (hw : swappedStores [.Tuple [.Name x px, .Name y py] kt pt] (.Tuple [a, b] k2 pt2) X.env = pure (some [x, y]) := by rfl)
    (hs : swapsWithSole [.Tuple [.Name x px, .Name y py] kt pt] (.Tuple [a, b] k2 pt2) pos.line X.env = pure false := by rfl) :
    QS X Wx (.Assign [.Tuple [.Name x px, .Name y py] kt pt] (.Tuple [a, b] k2 pt2) pos) (dPar i j dl) := by
  obtain ⟨ta, pa, sa⟩ := ha.ex
  refine ⟨_, ps_par hc hN hi hj hij hx hy pa hw hs, fun σ H env L D' D st h ok => ?_⟩
  refine sa σ H env L _ _ _ st h (fun ds L1 vs H1 h1 g1 j1 r1 => ?_) ok.ex
  split at h1
  · rename_i d e
    cases r1 with
    | cons r1 r2 => cases r2 with
      | cons r2 r3 => cases r3 with
        | nil => exact ⟨_, _, rfl, ok.nx _ L1 _ H1 h1 g1 ⟨((st.1.go g1).set r1 i).set r2 j, j1⟩⟩
  · exact h1.elim
def dDrop (de : DE) : DS := fun D env L => de env L (fun _ L1 => D.nx env L1) D.ex
theorem s_expr (he : QE X Wx e de) (hs : swapsWith e none pos.line X.env = pure false := by rfl) : QS X Wx (.Expr e pos) (dDrop de) := by
  obtain ⟨te, pe, se⟩ := he.ex
  refine ⟨_, ps_expr pe hs, fun σ H env L D' D st h ok => ?_⟩
  exact se σ H env L _ _ _ st h (fun d L1 v H1 h1 g1 j1 r1 => ok.nx env L1 σ H1 h1 g1 (st.go g1 j1)) ok.ex
def dRet (de : DE) : DS := fun D env L => de env L D.rt D.ex
theorem s_ret (he : QE X Wx e de) : QS X Wx (.Return (some e) pos) (dRet de) := by
  obtain ⟨te, pe, se⟩ := he.ex
  exact ⟨_, ps_ret pe, fun σ H env L D' D st h ok => se σ H env L _ _ _ st h ok.rt ok.ex⟩
def dRetN : DS := fun D _ L => D.rt .non L
theorem s_retN : QS X Wx (.Return none pos) dRetN := ⟨_, ps_retN, fun σ H env L D' D st h ok => ok.rt .non L .non H h (Go.refl L H) st.2 .non⟩
def dIfS (dt : DT) (t u : DS) : DS := fun D env L => dt env L (fun b L1 => match b with
  | true => t D env L1
  | false => u D env L1) D.ex
theorem s_if {as bs : List Stmt} {t u : DS} (hc : QT X Wx c dt) (ha : QSs X Wx as t) (hb : QSs X Wx bs u) : QS X Wx (.If c as bs pos) (dIfS dt t u) := by
  obtain ⟨tc, pc, sc⟩ := hc.ex
  obtain ⟨ta, pa, sa⟩ := ha.ex
  obtain ⟨tb, pb, sb⟩ := hb.ex
  refine ⟨_, ps_if pc pa pb, fun σ H env L D' D st h ok => ?_⟩
  refine sc σ H env L _ _ _ st h (fun b L1 H1 h1 g1 j1 => ?_) ok.ex
  cases b with
  | true => exact iteT (sa σ H1 env L1 D' D (st.go g1 j1) h1 (ok.go g1))
  | false => exact iteF (sb σ H1 env L1 D' D (st.go g1 j1) h1 (ok.go g1))
theorem s_pass : QS X Wx (.Pass pos) dNext := ⟨_, ps_pass, fun σ H env L D' D st h ok => ok.nx env L σ H h (Go.refl L H) st⟩
def dBrk : DS := fun D env L => D.bk env L
theorem s_brk : QS X Wx (.Break pos) dBrk := ⟨_, ps_break, fun σ H env L D' D st h ok => ok.bk env L σ H h (Go.refl L H) st⟩
def dCnt : DS := fun D env L => D.ct env L
theorem s_cnt : QS X Wx (.Continue pos) dCnt := ⟨_, ps_continue, fun σ H env L D' D st h ok => ok.ct env L σ H h (Go.refl L H) st⟩
/-! ### for -/
abbrev DI := DEnv → Led → (List D → Led → Prop) → DX → Prop
def ItD (K : PySem.W.Frag) (L : Led) (H : Hp) (J : It) (ds : List D) : Prop := ∀ L' H', Go L L' H H' → JL K L' H' → ∀ i, (∀ d, ds[i]? = some d → J.go i H' ∧ ∀ x H'', J.yld i H' x H'' → Same H' H'' ∧ Rp L' K H'' x d) ∧ (ds.length ≤ i → J.stop i H')
structure QI (X : Cx) (Wx : WX) (tg iter : Expr) (di : DI) : Prop where
  ex : ∃ wi, PI X tg iter wi ∧ ∀ σ H env L k x R, StL X.K σ H env L → di env L k x → (∀ ds L' J H', k ds L' → Go L L' H H' → JL X.K L' H' → ItD X.K L' H' J ds → R J H') → XOk X.K Wx L H x → wi σ H R
@[irreducible] def forD (dg : DG) (db : DS) (En : DEnds) : List D → DEnv → Led → Prop
  | [], env, L => En.nx env L
  | d :: ds, env, L => dg d env L fun env1 => db { En with nx := forD dg db En ds, ct := forD dg db En ds, bk := En.nx } env1 L
theorem forD_nil {dg : DG} {db : DS} {En : DEnds} {env : DEnv} {L : Led} : forD dg db En [] env L = En.nx env L := by with_unfolding_all rfl
theorem forD_cons {dg : DG} {db : DS} {En : DEnds} {d : D} {ds : List D} {env : DEnv} {L : Led} : forD dg db En (d :: ds) env L = dg d env L fun env1 => db { En with nx := forD dg db En ds, ct := forD dg db En ds, bk := En.nx } env1 L := by with_unfolding_all rfl
def dFor (di : DI) (dg : DG) (db : DS) : DS := fun D env L => di env L (fun ds L1 => forD dg db D ds env L1) D.ex
theorem s_for {tg iter : Expr} {body : List Stmt} {di : DI} {dg : DG} {db : DS} {sl : List Nat} (hp : PassesOwn (model X.prog X.w) X.A X.env X.xe) (hc : X.calm = true) (hi : QI X Wx tg iter di) (hg : QG X tg sl dg) (hb : QSs X Wx body db)
    (hs : ∀ x, foldedSetIterable iter X.env x = pure x := by intro _; rfl) : QS X Wx (.For tg iter body [] pos) (dFor di dg db) := by
  obtain ⟨wi, pi, si⟩ := hi.ex
  obtain ⟨g, pg, sg⟩ := hg.ex
  obtain ⟨tb, pb, sb⟩ := hb.ex
  refine ⟨_, ps_for hp hc pi pg pb hs, fun σ H env L D' D st h ok => ?_⟩
  refine si σ H env L _ _ _ st h (fun ds L1 J H1 h1 g1 j1 it => ?_) ok.ex
  refine ⟨fun i m σ' H' => m = ds.length - i ∧ i ≤ ds.length ∧ ∃ env' L', StL X.K σ' H' env' L' ∧ Go L1 L' H1 H' ∧ forD dg db D' (ds.drop i) env' L', ⟨ds.length, by omega, by omega, env, L1, st.go g1 j1, Go.refl L1 H1, h1⟩, ?_⟩
  rintro i m σ2 H2 ⟨rfl, hi, env2, L2, st2, g2, h2⟩
  obtain ⟨i1, i2⟩ := it L2 H2 g2 st2.2 i
  by_cases hlt : i < ds.length
  · have e : ds[i]? = some ds[i] := List.getElem?_eq_getElem hlt
    obtain ⟨go, yl⟩ := i1 _ e
    rw [List.drop_eq_getElem_cons hlt, forD_cons] at h2
    refine .inr ⟨go, fun σ' H' => ∃ env' L', StL X.K σ' H' env' L' ∧ Go L1 L' H1 H' ∧ forD dg db D' (ds.drop (i + 1)) env' L', fun σ' H' n => ⟨ds.length - (i + 1), by omega, rfl, hlt, n⟩, fun x H' y => ?_⟩
    obtain ⟨s, rx⟩ := yl x H' y
    have g3 : Go L2 L2 H2 H' := Go.same s
    refine sg x _ σ2 H' env2 L2 _ _ (st2.go g3 (st2.2.same s)) rx h2 fun σ3 env3 h3 st3 _ => ?_
    have g4 : Go L1 L2 H1 H' := g2.trans g3
    refine sb σ3 H' env3 L2 _ _ st3 h3 ⟨fun env' L' σ' H'' q g' st' => ⟨env', L', st', g4.trans g', q⟩, (ok.go (g1.trans g4)).rt, (ok.go (g1.trans g4)).ex, (ok.go (g1.trans g4)).nx, fun env' L' σ' H'' q g' st' => ⟨env', L', st', g4.trans g', q⟩⟩
  · have e : i = ds.length := by omega
    subst e
    rw [List.drop_length, forD_nil] at h2
    exact .inl ⟨i2 (Nat.le_refl _), ok.nx env2 L2 σ2 H2 h2 (g1.trans g2) st2⟩
/-- for x in range(n), range(a, b) -/
def rngD (lo : Int) : Nat → List D
  | 0 => []
  | n + 1 => .int lo :: rngD (lo + 1) n
theorem rngD_len : ∀ (n : Nat) (lo : Int), (rngD lo n).length = n
  | 0, _ => rfl
  | n + 1, lo => by show (rngD (lo + 1) n).length + 1 = n + 1; rw [rngD_len n]
theorem rngD_get : ∀ (n : Nat) (lo : Int) (i : Nat) (d : D), (rngD lo n)[i]? = some d → i < n ∧ d = .int (lo + i)
  | 0, _, _, _, h => by simp [rngD] at h
  | n + 1, lo, 0, d, h => by
    simp [rngD] at h
    exact ⟨by omega, by rw [← h]; simp⟩
  | n + 1, lo, i + 1, d, h => by
    obtain ⟨h1, h2⟩ := rngD_get n (lo + 1) i d (by simpa [rngD] using h)
    refine ⟨by omega, ?_⟩
    rw [h2]
    congr 1
    omega
theorem it_rng {K : PySem.W.Frag} {L : Led} {H : Hp} {lo : Int} {n : Nat} : ItD K L H (Itr lo n) (rngD lo n) := fun L' H' g j i => by
  refine ⟨fun d hd => ?_, fun h => ?_⟩
  · obtain ⟨h1, h2⟩ := rngD_get n lo i d hd
    subst h2
    exact ⟨h1, fun x H'' y => by
      obtain ⟨e1, e2⟩ := y
      subst e1 e2
      exact ⟨Same.refl _, .int _⟩⟩
  · rw [rngD_len] at h
    exact h
def diRange (dl : DA) : DI := fun env L k x => dl env L (fun ds L1 => match ds with
  | [.int n] => (-(2 ^ 62) ≤ n ∧ n < 2 ^ 62) ∧ k (rngD 0 n.toNat) L1
  | _ => False) x
theorem i_range1 {tg : Expr} {p : Pos} (hg : Gl X "range") (hm : X.mg "range" = none) (ha : QA X Wx [e] dl) (hs : starEach [e] X.env = [(false, eval e X.env)] := by rfl) : QI X Wx tg (.Call (.Name "range" p) [e] [] pos) (diRange dl) := by
  obtain ⟨ta, pa, sa⟩ := ha.ex
  refine ⟨_, pi_range1 hg hm pa hs, fun σ H env L k x R st h hk hx => ?_⟩
  refine sa σ H env L _ _ _ st h (fun ds L1 vs H1 h1 g1 j1 r1 => ?_) hx
  split at h1
  · rename_i n
    obtain ⟨⟨q1, q2⟩, h1⟩ := h1
    cases r1 with
    | cons r1 r2 =>
      cases r2
      cases r1
      exact ⟨n, rfl, q1, q2, hk _ L1 _ H1 h1 g1 j1 it_rng⟩
  · exact h1.elim
def diRange2 (dl : DA) : DI := fun env L k x => dl env L (fun ds L1 => match ds with
  | [.int a, .int b] => (-(2 ^ 62) ≤ a ∧ a < 2 ^ 62 ∧ -(2 ^ 62) ≤ b ∧ b < 2 ^ 62) ∧ k (rngD a (b - a).toNat) L1
  | _ => False) x
theorem i_range2 {tg e2 : Expr} {p : Pos} (hg : Gl X "range") (hm : X.mg "range" = none) (ha : QA X Wx [e, e2] dl) (hs : starEach [e, e2] X.env = [(false, eval e X.env), (false, eval e2 X.env)] := by rfl) (hs2 : starEach [e2] X.env = [(false, eval e2 X.env)] := by rfl) : QI X Wx tg (.Call (.Name "range" p) [e, e2] [] pos) (diRange2 dl) := by
  obtain ⟨ta, pa, sa⟩ := ha.ex
  refine ⟨_, pi_range2 hg hm pa hs hs2, fun σ H env L k x R st h hk hx => ?_⟩
  refine sa σ H env L _ _ _ st h (fun ds L1 vs H1 h1 g1 j1 r1 => ?_) hx
  split at h1
  · rename_i a b
    obtain ⟨q1, h1⟩ := h1
    cases r1 with
    | cons r1 r2 =>
      cases r2 with
      | cons r2 r3 =>
      cases r3
      cases r1
      cases r2
      exact ⟨a, b, rfl, q1, hk _ L1 _ H1 h1 g1 j1 it_rng⟩
  · exact h1.elim
/-- over a list or a tuple that stands -/
def diSeq (da : DE) : DI := fun env L k x => da env L (fun d L1 => match d with
  | .lst ds => k ds L1
  | .tup ds => k ds L1
  | .ro ds => k ds L1
  | _ => False) x
theorem it_list {K : PySem.W.Frag} {L : Led} {H : Hp} {a : Addr} {vs : List V} {ds : List D} (h : SqL' L K H a vs) (r : RpAll L K H vs ds) : ItD K L H (Itl K a) ds := fun L' H' g j i => by
  have h' := (g.sqL h).sq
  have r' := r.go g
  refine ⟨fun d hd => ?_, fun hi => ⟨vs, h', by rw [r.length]; exact hi⟩⟩
  obtain ⟨v, hv, rv⟩ := r'.get hd
  exact ⟨⟨vs, v, h', hv⟩, fun x H'' y => by
    obtain ⟨e1, e2⟩ := y
    subst e1
    have e3 := e2 vs h'
    rw [hv] at e3
    cases e3
    exact ⟨Same.refl _, rv⟩⟩
theorem it_tup {K : PySem.W.Frag} {L : Led} {H : Hp} {a : Addr} {vs : List V} {ds : List D} (h : SqT' L K H a vs) (r : RpAll L K H vs ds) : ItD K L H (Itt K a) ds := fun L' H' g j i => by
  have h' := (g.sqT h).sq
  have r' := r.go g
  refine ⟨fun d hd => ?_, fun hi => ⟨vs, h', by rw [r.length]; exact hi⟩⟩
  obtain ⟨v, hv, rv⟩ := r'.get hd
  exact ⟨⟨vs, v, h', hv⟩, fun x H'' y => by
    obtain ⟨e1, e2⟩ := y
    subst e1
    have e3 := e2 vs h'
    rw [hv] at e3
    cases e3
    exact ⟨Same.refl _, rv⟩⟩
def diL (da : DE) : DI := fun env L k x => da env L (fun d L1 => match d with
  | .lst ds => k ds L1
  | .ro ds => k ds L1
  | _ => False) x
def diT (da : DE) : DI := fun env L k x => da env L (fun d L1 => match d with
  | .tup ds => k ds L1
  | _ => False) x
theorem i_list {tg : Expr} (ha : QE X Wx e da) : QI X Wx tg e (diL da) := by
  obtain ⟨ta, pa, sa⟩ := ha.ex
  refine ⟨_, pi_list pa, fun σ H env L k x R st h hk hx => ?_⟩
  refine sa σ H env L _ _ _ st h (fun d L1 v H1 h1 g1 j1 r1 => ?_) hx
  cases r1 <;> first | exact h1.elim | skip
  · rename_i n s r
    exact ⟨_, rfl, ⟨_, SqL.of s⟩, hk _ L1 _ H1 h1 g1 j1 (it_list (.inl ⟨n, .inl s⟩) r)⟩
  · rename_i s r
    exact ⟨_, rfl, ⟨_, s.sq⟩, hk _ L1 _ H1 h1 g1 j1 (it_list s r)⟩
theorem i_tup {tg : Expr} (ha : QE X Wx e da) : QI X Wx tg e (diT da) := by
  obtain ⟨ta, pa, sa⟩ := ha.ex
  refine ⟨_, pi_tup pa, fun σ H env L k x R st h hk hx => ?_⟩
  refine sa σ H env L _ _ _ st h (fun d L1 v H1 h1 g1 j1 r1 => ?_) hx
  cases r1 <;> first | exact h1.elim | skip
  rename_i s r
  exact ⟨_, rfl, ⟨_, s.sq⟩, hk _ L1 _ H1 h1 g1 j1 (it_tup s r)⟩
/-! ### while -/
@[irreducible] def whD (dt : DT) (db : DS) (En : DEnds) : Nat → DEnv → Led → Prop
  | 0, _, _ => False
  | n + 1, env, L => dt env L (fun b L1 => match b with
    | true => db { En with nx := whD dt db En n, ct := whD dt db En n, bk := En.nx } env L1
    | false => En.nx env L1) En.ex
theorem whD_zero {dt : DT} {db : DS} {En : DEnds} {env : DEnv} {L : Led} : whD dt db En 0 env L = False := by with_unfolding_all rfl
theorem whD_succ {dt : DT} {db : DS} {En : DEnds} {n : Nat} {env : DEnv} {L : Led} : whD dt db En (n + 1) env L = dt env L (fun b L1 => match b with
    | true => db { En with nx := whD dt db En n, ct := whD dt db En n, bk := En.nx } env L1
    | false => En.nx env L1) En.ex := by with_unfolding_all rfl
def dWhile (dt : DT) (db : DS) : DS := fun En env L => ∃ n, whD dt db En n env L
theorem s_while {body : List Stmt} {db : DS} (hp : PassesOwn (model X.prog X.w) X.A X.env X.xe) (hc : QT X Wx c dt) (hb : QSs X Wx body db) : QS X Wx (.While c body [] pos) (dWhile dt db) := by
  obtain ⟨tc, pc, sc⟩ := hc.ex
  obtain ⟨tb, pb, sb⟩ := hb.ex
  refine ⟨_, ps_while hp pc pb, fun σ H env L D' D st h ok => ?_⟩
  obtain ⟨n, h⟩ := h
  refine ⟨fun m σ' H' => ∃ env' L', StL X.K σ' H' env' L' ∧ Go L L' H H' ∧ whD dt db D' m env' L', ⟨n, env, L, st, Go.refl L H, h⟩, ?_⟩
  rintro m σ2 H2 ⟨env2, L2, st2, g2, h2⟩
  cases m with
  | zero => rw [whD_zero] at h2; exact h2.elim
  | succ m =>
    rw [whD_succ] at h2
    refine sc σ2 H2 env2 L2 _ _ _ st2 h2 (fun b L3 H3 h3 g3 j3 => ?_) (ok.ex.go g2)
    have g4 := g2.trans g3
    cases b with
    | true =>
      refine iteT ⟨fun σ' H' => ∃ env' L', StL X.K σ' H' env' L' ∧ Go L L' H H' ∧ whD dt db D' m env' L', fun σ' H' q => ⟨m, Nat.lt_succ_self m, q⟩, ?_⟩
      exact sb σ2 H3 env2 L3 _ _ (st2.go g3 j3) h3 ⟨fun env' L' σ' H' q g' st' => ⟨env', L', st', g4.trans g', q⟩, (ok.go g4).rt, (ok.go g4).ex, (ok.go g4).nx, fun env' L' σ' H' q g' st' => ⟨env', L', st', g4.trans g', q⟩⟩
    | false => exact iteF (ok.nx env2 L3 σ2 H3 h3 g4 (st2.go g3 j3))
end
/-! ### a def by its body -/
section
open PySem.Spec PyProof.Rows
variable {P : Program} {w : World} {K : PySem.W.Frag} {mg : Str → Option Value} {base : Heap}
def endsD (k : DK) (x : Exn → Led → Prop) : DEnds := { nx := fun _ L => k .non L, rt := k, ex := fun n _ L => x n L, bk := fun _ _ => False, ct := fun _ _ => False }
def startD (N : List Str) (ds : List D) : DEnv := ds.map some ++ List.replicate (N.length - ds.length) none
abbrev wxOf (E : XK) : WX := fun cls d _ H => E cls d H
theorem fn_ok {x qual : Str} {st : Stmt} {f : Addr} {fd : FuncData} {N ps : List Str} {k : Nat} {g : DSp} (F : Fun K x qual st f fd) (S : FnScope N ps (defScope st)) (len : ∀ ds L k x, g ds L k x → ds.length = ps.length)
    (body : ∀ (cdv : Value) (A : Around) (outer : List Env) (s : Shared) (H : Hp) (E : XK), Room k (A.deeper (envOfC qual (defScope st) s.heap.objs.size f cdv)) →
      ∃ t, QSs (cxOf (L2.CX P w) P w K mg base N qual (defScope st) f cdv A outer s H E) (wxOf E) (defBody st) t ∧ ∀ ds L k x, g ds L k x → t (endsD k x) (startD N ds) L) : FnOk P w K mg base (L2.CX P w) (k + 1) f fd ps (spD K g) := by
  refine F.okX S (fun vs H Q E h => ?_) (fun cdv A outer s H vs Q E hr h => ?_)
  · obtain ⟨ds, L, k, x, j, r, h, _⟩ := h
    rw [r.length]
    exact len ds L k x h
  · obtain ⟨ds, L, k, x, j, r, h, hk, hx⟩ := h
    obtain ⟨t, q, ht⟩ := body cdv A outer s H E hr
    obtain ⟨ts, pts, sts⟩ := q.ex
    refine ⟨ts, pts, sts _ H (startD N ds) L (endsD k x) _ ⟨?_, j⟩ (ht ds L k x h) ?_⟩
    · unfold L2.start startD
      rw [r.length]
      exact Sto.start r
    · exact ⟨fun env' L' σ' H' q g' st' => hk .non L' .non H' q g' st'.2 .non, hk, fun n env' L' a H' σ' q g' st' r' => hx n L' a H' q g' st'.2 r', fun _ _ _ _ q => q.elim, fun _ _ _ _ q => q.elim⟩
end
end DL

namespace DL
open PySem L2
/-! ### the ledger changed -/
def setL (L : Led) (p : Addr) (d : D) : Led := L.map fun q => if q.1 = p then (p, d) else q
def remL (L : Led) (p : Addr) : Led := L.filter fun q => decide (q.1 ≠ p)
theorem setL_keys (L : Led) (p : Addr) (d : D) : (setL L p d).map (·.1) = L.map (·.1) := by
  unfold setL
  rw [List.map_map]
  refine List.map_congr_left fun q _ => ?_
  show (if q.1 = p then (p, d) else q).1 = q.1
  split
  · rename_i h; exact h.symm
  · rfl
theorem inL_setL {L : Led} {p a : Addr} {d : D} : inL (setL L p d) a ↔ inL L a := by unfold inL; rw [setL_keys]
theorem setL_out {L : Led} {p : Addr} {d : D} (h : ¬ inL L p) : setL L p d = L := by
  unfold setL
  have : ∀ q ∈ L, (if q.1 = p then (p, d) else q) = id q := fun q hq => by
    rw [if_neg fun e => h (List.mem_map.mpr ⟨q, hq, e⟩)]; rfl
  rw [List.map_congr_left this, List.map_id]
theorem setL_top {L : Led} {p : Addr} {c d : D} (h : ¬ inL L p) : setL ((p, c) :: L) p d = (p, d) :: L := by
  show (if p = p then (p, d) else (p, c)) :: setL L p d = _
  rw [if_pos rfl, setL_out h]
theorem setL_ne {L : Led} {p q : Addr} {c d : D} (h : q ≠ p) : setL ((q, c) :: L) p d = (q, c) :: setL L p d := by
  show (if q = p then (p, d) else (q, c)) :: setL L p d = _
  rw [if_neg h]
theorem remL_out {L : Led} {p : Addr} (h : ¬ inL L p) : remL L p = L := by
  unfold remL
  refine List.filter_eq_self.mpr fun q hq => decide_eq_true fun e => h (List.mem_map.mpr ⟨q, hq, e⟩)
theorem remL_top {L : Led} {p : Addr} {c : D} (h : ¬ inL L p) : remL ((p, c) :: L) p = L := by
  unfold remL
  rw [List.filter_cons, if_neg (by simp)]
  exact remL_out h
theorem inL_remL {L : Led} {p a : Addr} : inL (remL L p) a ↔ inL L a ∧ a ≠ p := by
  unfold inL remL
  constructor
  · intro h
    obtain ⟨q, hq, e⟩ := List.mem_map.mp h
    obtain ⟨h1, h2⟩ := List.mem_filter.mp hq
    subst e
    exact ⟨List.mem_map.mpr ⟨q, h1, rfl⟩, of_decide_eq_true h2⟩
  · rintro ⟨h, hn⟩
    obtain ⟨q, hq, e⟩ := List.mem_map.mp h
    subst e
    exact List.mem_map.mpr ⟨q, List.mem_filter.mpr ⟨hq, decide_eq_true hn⟩, rfl⟩
theorem lookup_top {L : Led} {p : Addr} {c : D} : List.lookup p ((p, c) :: L) = some c := List.lookup_cons_self
theorem lookup_ne {L : Led} {p q : Addr} {c : D} (h : p ≠ q) : List.lookup p ((q, c) :: L) = List.lookup p L := by
  have e : (p == q) = false := by simpa using h
  rw [List.lookup_cons, e]
theorem inL_of_lookup {L : Led} {p : Addr} {c : D} (h : L.lookup p = some c) : inL L p := List.mem_map.mpr ⟨_, mem_of_lookup h, rfl⟩
theorem inL_cons {L : Led} {p a : Addr} {c : D} : inL ((p, c) :: L) a ↔ a = p ∨ inL L a := by unfold inL; simp
section
variable {L L' : Led} {K : PySem.W.Frag} {H H' : Hp} {a p : Addr} {d : D} {o : HO}
theorem go_set (h : inL L p) : Go L (setL L p d) H (upd H p o) := fun a u n e => by
  have ne : a ≠ p := fun z => n (z ▸ h)
  exact ⟨fun m => n (inL_setL.mp m), by rw [upd_ne ne]; exact e⟩
theorem JL.put (j : JL K L H) (h : inL L p) (ow : Own (setL L p d) K (upd H p o) p d) : JL K (setL L p d) (upd H p o) := by
  refine ⟨by rw [setL_keys]; exact j.nd, fun a e m => ?_⟩
  obtain ⟨q, hq, eq⟩ := List.mem_map.mp m
  by_cases hp : q.1 = p
  · rw [if_pos hp] at eq
    cases eq
    exact ow
  · rw [if_neg hp] at eq
    subst eq
    exact Own.move (j.own _ _ hq) (go_set h) fun u e => by rw [upd_ne hp]; exact e
theorem go_rem : Go L (remL L p) H H := fun a u n e => ⟨fun m => n (inL_remL.mp m).1, e⟩
theorem JL.rem (j : JL K L H) : JL K (remL L p) H := by
  refine ⟨?_, fun a e m => ?_⟩
  · have : ((remL L p).map (·.1)).Sublist (L.map (·.1)) := (List.filter_sublist).map _
    exact j.nd.sublist this
  · exact Own.move (j.own _ _ (List.mem_filter.mp m).1) go_rem fun u e => e
end
section
variable {X : Cx} {Wx : WX} {a b c e o : Expr} {es rest : List Expr} {da db dc de do' di : DE} {dt du : DT} {dl dk : DA} {pos : Pos}
/-! ### weaker readings -/
theorem QE.w (h : QE X Wx e de) {de' : DE} (hw : ∀ env L k x, de' env L k x → de env L k x) : QE X Wx e de' := by
  obtain ⟨te, pe, se⟩ := h.ex
  exact ⟨te, pe, fun σ H env L k x Q st h hk hx => se σ H env L k x Q st (hw env L k x h) hk hx⟩
/-- the reading by data, as a reading of the layer -/
def teOf (K : PySem.W.Frag) (Wx : WX) (de : DE) : TE := fun σ H Q => ∃ env L k x, StL K σ H env L ∧ de env L k x ∧ KOk K L H k Q ∧ XOk K Wx L H x
theorem QE.pe (h : QE X Wx e de) : PE X e (teOf X.K Wx de) := by
  obtain ⟨te, pe, se⟩ := h.ex
  refine ⟨fun pins s σ H Q I hw => ?_⟩
  obtain ⟨env, L, k, x, st, h, hk, hx⟩ := hw
  exact pe.run pins s σ H Q I (se σ H env L k x Q st h hk hx)
def ttOf (K : PySem.W.Frag) (Wx : WX) (dt : DT) : TT := fun σ H Q => ∃ env L k x, StL K σ H env L ∧ dt env L k x ∧ (∀ b L' H', k b L' → Go L L' H H' → JL K L' H' → Q b H') ∧ XOk K Wx L H x
theorem QT.pt (h : QT X Wx e dt) : PT X e (ttOf X.K Wx dt) := by
  obtain ⟨te, pe, se⟩ := h.ex
  refine ⟨fun pins s σ H Q I hw => ?_⟩
  obtain ⟨env, L, k, x, st, h, hk, hx⟩ := hw
  exact pe.run pins s σ H Q I (se σ H env L k x Q st h hk hx)
def tgOf (K : PySem.W.Frag) (sl : List Nat) (dg : DG) : TG := fun v σ H Q => ∃ d env L k, StL K σ H env L ∧ Rp L K H v d ∧ dg d env L k ∧ ∀ σ' env', k env' → StL K σ' H env' L → Only' sl σ σ' → Q σ' H
theorem QG.pg {tg : Expr} {sl : List Nat} {dg : DG} (h : QG X tg sl dg) : PG X tg (tgOf X.K sl dg) := by
  obtain ⟨g, pg, sg⟩ := h.ex
  refine ⟨fun pins s σ H v u Q I r hw => ?_⟩
  obtain ⟨d, env, L, k, st, rd, h, hk⟩ := hw
  exact pg.run pins s σ H v u Q I r (sg v d σ H env L k Q st rd h hk)
/-! ### o[i] = v of a list of the ledger -/
def dStore (de do' di : DE) : DS := fun D env L => de env L (fun v L1 => do' env L1 (fun o L2 => di env L2 (fun i L3 => match o, i with
  | .ptr p, .int z => match L3.lookup p with
    | some (.lst ds) => match ixN ds.length z with
      | some j => D.nx env (setL L3 p (.lst (ds.set j v)))
      | none => False
    | _ => False
  | _, _ => False) D.ex) D.ex) D.ex
theorem s_store {i : Expr} {ip : Pos} (he : QE X Wx e de) (ho : QE X Wx o do') (hi : QE X Wx i di) (hix : ∀ h0 : PE X o (teOf X.K Wx do'), ∀ h1 : PE X i (teOf X.K Wx di), PG X (.Subscript o i ip) (L2.gSub (teOf X.K Wx do') (teOf X.K Wx di) rSetL) := by exact fun h0 h1 => pg_sub h0 h1 set_list)
    (hs : swapsWithSole [.Subscript o i ip] e pos.line X.env = pure false := by rfl) (hw : swappedStores [.Subscript o i ip] e X.env = pure none := by rfl) (h1 : (assignEach [.Subscript o i ip] X.env).map (·.2) = [assign (.Subscript o i ip) X.env] := by rfl) : QS X Wx (.Assign [.Subscript o i ip] e pos) (dStore de do' di) := by
  obtain ⟨te, pe, se⟩ := he.ex
  refine ⟨_, ps_asg pe (hix ho.pe hi.pe) hs hw h1, fun σ H env L D' D st h ok => ?_⟩
  refine se σ H env L _ _ _ st h (fun v L1 vv H1 h1 g1 j1 r1 => ?_) ok.ex
  refine ⟨env, L1, _, D'.ex, st.go g1 j1, h1, fun o L2 vo H2 h2 g2 j2 r2 => ?_, ok.ex.go g1⟩
  refine ⟨env, L2, _, D'.ex, (st.go g1 j1).go g2 j2, h2, fun i L3 vi H3 h3 g3 j3 r3 => ?_, (ok.ex.go g1).go g2⟩
  have r2 := r2.go g3
  have r1 := (r1.go g2).go g3
  dsimp only at h3 ⊢
  split at h3
  · cases r2 with
    | ptr p =>
    cases r3 with
    | int z =>
    split at h3
    · rename_i ds hl
      split at h3
      · rename_i j hj
        obtain ⟨vs, e1, rv⟩ := j3.look hl
        have hp := inL_of_lookup hl
        refine ⟨_, vs, _, j, rfl, rfl, e1, by rw [rv.length]; exact hj, ?_⟩
        have g4 : Go L3 (setL L3 _ (.lst (ds.set j v))) H3 (upd H3 _ (.lst (vs.set j vv))) := go_set hp
        have j4 : JL X.K (setL L3 _ (.lst (ds.set j v))) (upd H3 _ (.lst (vs.set j vv))) := j3.put hp ⟨_, upd_same, (rv.go g4).set (r1.go g4) j⟩
        exact ok.nx env _ σ _ h3 (((g1.trans g2).trans g3).trans g4) (st.go (((g1.trans g2).trans g3).trans g4) j4)
      · exact h3.elim
    · exact h3.elim
  · exact h3.elim
end
end DL

namespace DL
open PySem L2
section
variable {X : Cx} {Wx : WX} {a b c e o : Expr} {es rest : List Expr} {da db dc de do' di : DE} {dt du : DT} {dl dk : DA} {pos : Pos}
/-! ### len, abs, int, str, list, all, any, gcd, max, min -/
def lenD (L : Led) (d : D) : Option Nat := match seqs (con L d) with
  | some ds => some ds.length
  | none => none
def gLen : GC := fun ds L k => match ds with
  | [.str z] => z.length ≤ sizeLine ∧ k (.int z.length)
  | [d] => match lenD L d with
    | some n => k (.int n)
    | none => False
  | _ => False
theorem cq_len : CQ X (.builtin "len") gLen := ⟨_, call_len, fun H L vs ds k Q j r h hk => by
  unfold gLen at h
  split at h
  · cases r with
    | cons r1 r2 =>
      cases r2
      cases r1
      exact ⟨_, _, rfl, ⟨h.1, rfl⟩, hk _ _ H h.2 (Same.refl H) (.int _)⟩
  · rename_i d _
    cases r with
    | cons r1 r2 =>
      cases r2
      split at h
      · rename_i n hn
        unfold lenD at hn
        split at hn
        · rename_i ds' hd
          cases hn
          obtain ⟨a, vs, rfl, hs, rv⟩ := con_seq j r1 hd
          refine ⟨_, ds'.length, rfl, ?_, hk _ _ H h (Same.refl H) (.int _)⟩
          rcases hs with hs | hs
          · exact .inl ⟨vs, hs, rv.length.symm⟩
          · exact .inr ⟨vs, hs, rv.length.symm⟩
        · cases hn
      · exact h.elim
  · exact h.elim⟩
def gAbs : GC := fun ds _ k => match ds with
  | [.int i] => k (.int (if i < 0 then -i else i))
  | _ => False
theorem cq_abs : CQ X (.builtin "abs") gAbs := ⟨_, call_abs, fun H L vs ds k Q j r h hk => by
  unfold gAbs at h
  split at h
  · cases r with
    | cons r1 r2 =>
      cases r2
      cases r1
      exact ⟨_, rfl, hk _ _ H h (Same.refl H) (.int _)⟩
  · exact h.elim⟩
def gInt : GC := fun ds _ k => match ds with
  | [.int i] => k (.int i)
  | [.bl b] => k (.int (if b then 1 else 0))
  | _ => False
theorem cq_int : CQ X (.type "int") gInt := ⟨_, call_int1, fun H L vs ds k Q j r h hk => by
  unfold gInt at h
  split at h
  · cases r with
    | cons r1 r2 =>
      cases r2
      cases r1
      exact .inl ⟨_, rfl, hk _ _ H h (Same.refl H) (.int _)⟩
  · cases r with
    | cons r1 r2 =>
      cases r2
      cases r1
      exact .inr ⟨_, rfl, hk _ _ H h (Same.refl H) (.int _)⟩
  · exact h.elim⟩
def gStr : GC := fun ds _ k => match ds with
  | [.int i] => i.natAbs.log2 < 1920 ∧ k (.str (toString i))
  | _ => False
theorem cq_str : CQ X (.type "str") gStr := ⟨_, call_str_int, fun H L vs ds k Q j r h hk => by
  unfold gStr at h
  split at h
  · cases r with
    | cons r1 r2 =>
      cases r2
      cases r1
      exact ⟨_, rfl, h.1, hk _ _ H h.2 (Same.refl H) (.str _)⟩
  · exact h.elim⟩
def gList : GC := fun ds L k => match ds with
  | [d] => match seqs (con L d) with
    | some xs => k (.lst xs)
    | none => False
  | _ => False
theorem cq_list : CQ X (.type "list") gList := ⟨_, call_list_of, fun H L vs ds k Q j r h hk => by
  unfold gList at h
  split at h
  · cases r with
    | cons r1 r2 =>
      cases r2
      split at h
      · rename_i xs hd
        obtain ⟨a, vs, rfl, hs, rv⟩ := con_seq j r1 hd
        refine ⟨a, vs, rfl, hs, fun l hl => ?_⟩
        have s := same_new hl (.lst vs)
        exact hk _ _ _ h s (.lst (j.notIn hl) upd_same (rv.go (Go.same s)))
      · exact h.elim
  · exact h.elim⟩
def gGcd : GC := fun ds _ k => match ds with
  | [.int a, .int b] => k (.int ((Nat.gcd a.natAbs b.natAbs : Nat) : Int))
  | _ => False
theorem cq_gcd : CQ X (.builtin "math.gcd") gGcd := ⟨_, cr_gcd, fun H L vs ds k Q j r h hk => by
  unfold gGcd at h
  split at h
  · cases r with
    | cons r1 r2 => cases r2 with
      | cons r2 r3 =>
      cases r3
      cases r1
      cases r2
      exact ⟨_, _, rfl, hk _ _ H h (Same.refl H) (.int _)⟩
  · exact h.elim⟩
def gMax2 : GC := fun ds _ k => match ds with
  | [.int i, .int j] => k (.int (if j > i then j else i))
  | _ => False
theorem cq_max2 (hc : X.calm = true) : CQ X (.builtin "max") gMax2 := ⟨_, call_max2 hc, fun H L vs ds k Q j r h hk => by
  unfold gMax2 at h
  split at h
  · cases r with
    | cons r1 r2 => cases r2 with
      | cons r2 r3 =>
      cases r3
      cases r1
      cases r2
      exact ⟨_, _, rfl, hk _ _ H h (Same.refl H) (.int _)⟩
  · exact h.elim⟩
def blsOf : List D → Option (List Bool)
  | [] => some []
  | .bl b :: r => match blsOf r with
    | some bs => some (b :: bs)
    | none => none
  | _ => none
theorem blsOf_eq : ∀ {ds : List D} {bs : List Bool}, blsOf ds = some bs → ds = bs.map D.bl
  | [], bs, h => by cases h; rfl
  | d :: r, bs, h => by
    cases d <;> first | (cases h; done) | skip
    unfold blsOf at h
    split at h
    · rename_i bs' hb
      cases h
      rw [blsOf_eq hb]; rfl
    · cases h
theorem blsOf_map : ∀ (bs : List Bool), blsOf (bs.map D.bl) = some bs
  | [] => rfl
  | b :: r => by show (match blsOf (r.map D.bl) with | some bs => some (b :: bs) | none => none) = _; rw [blsOf_map r]
def gAll : GC := fun ds L k => match ds with
  | [d] => match con L d with
    | .lst xs => match blsOf xs with
      | some bs => k (.bl (bs.all id))
      | none => False
    | _ => False
  | _ => False
theorem cq_all (hc : X.calm = true) : CQ X (.builtin "all") gAll := ⟨_, cr_all hc, fun H L vs ds k Q j r h hk => by
  unfold gAll at h
  split at h
  · cases r with
    | cons r1 r2 =>
      cases r2
      split at h
      · rename_i xs hd
        split at h
        · rename_i bs hb
          obtain ⟨a, vs, rfl, hs, rv⟩ := con_lst j r1 hd
          rw [blsOf_eq hb] at rv
          have e := rv.ofBls
          subst e
          exact ⟨a, bs, rfl, SqL.of hs, hk _ _ H h (Same.refl H) (.bl _)⟩
        · exact h.elim
      · exact h.elim
  · exact h.elim⟩
/-! ### isinstance -/
inductive Ty where
  | non | bl | int | str | lst | tup | dct
  deriving DecidableEq
def Ty.nm : Ty → String
  | .non => "NoneType" | .bl => "bool" | .int => "int" | .str => "str" | .lst => "list" | .tup => "tuple" | .dct => "dict"
def tyD : D → Option Ty
  | .non => some .non
  | .bl _ => some .bl
  | .int _ => some .int
  | .str _ => some .str
  | .lst _ => some .lst
  | .ro _ => some .lst
  | .tup _ => some .tup
  | .dk _ _ => some .dct
  | .dt _ _ => some .dct
  | _ => none
def isTy : Ty → Ty → Bool
  | .bl, .int => true
  | .bl, .bl => true
  | .int, .int => true
  | .str, .str => true
  | .lst, .lst => true
  | .tup, .tup => true
  | .dct, .dct => true
  | .non, .non => true
  | _, _ => false
theorem kit_isTy (t c : Ty) (h : c ≠ .non) : kitB t.nm c.nm = some (isTy t c) := by
  cases t <;> cases c <;> first | exact absurd rfl h | decide +kernel
theorem ty_of {L : Led} {K : PySem.W.Frag} {H : Hp} {v : V} {d : D} {t : Ty} (r : Rp L K H v d) (h : tyD d = some t) : TyX K H v (.type t.nm) := by
  cases r <;> first | (cases h; done) | skip
  all_goals cases h
  · exact .base .non
  · exact .base (.bl _)
  · exact .base (.int _)
  · exact .base (.str _)
  · rename_i n e r
    exact .base (.lst e)
  · rename_i s r
    rcases s with ⟨_, s | ⟨o, s⟩⟩ | ⟨o, its, n, h1, h2, _⟩
    · exact .base (.lst s)
    · exact .base (.frz s)
    · exact .kList h1 h2
  · rename_i s r
    rcases s with ⟨_, s | ⟨o, s⟩⟩ | ⟨o, its, n, h1, h2, _⟩
    · exact .base (.tup s)
    · exact .fTuple s
    · exact .kTuple h1 h2
  · rename_i n s _ _
    rcases s with s | ⟨o, s⟩
    · exact .base (.dK s)
    · exact .fDict s
  · rename_i n s _ _
    exact .base (.dT s)
end
end DL

namespace DL
open PySem L2
section
variable {X : Cx} {Wx : WX} {a b c e o : Expr} {es rest : List Expr} {da db dc de do' di : DE} {dt du : DT} {dl dk : DA} {pos : Pos}
/-- isinstance(x, T) -/
def gIsi (c : Ty) : G1 := fun a L k => match tyD (con L a) with
  | some t => k (.bl (isTy t c))
  | none => False
def gIsi2 (c c' : Ty) : G1 := fun a L k => match tyD (con L a) with
  | some t => k (.bl (isTy t c || isTy t c'))
  | none => False
theorem tyX_con {L : Led} {K : PySem.W.Frag} {H : Hp} {v : V} {d : D} {t : Ty} (j : JL K L H) (r : Rp L K H v d) (h : tyD (con L d) = some t) : TyX K H v (.type t.nm) := by
  cases d with
  | ptr a =>
    cases r
    have h : tyD ((L.lookup a).getD (.ptr a)) = some t := h
    cases q : L.lookup a with
    | none => rw [q] at h; cases h
    | some c =>
      rw [q] at h
      have h : tyD c = some t := h
      have ow := j.look q
      cases c with
      | lst ds => cases h; obtain ⟨vs, e, _⟩ := ow; exact .base (.lst e)
      | dk ks ds => cases h; obtain ⟨vs, e, _⟩ := ow; exact .base (.dK e)
      | dt ks ds => cases h; obtain ⟨vs, e, _⟩ := ow; exact .base (.dT e)
      | _ => first | exact ow.elim | cases h
  | _ => exact ty_of r h
def gcIsi (c : Ty) : GC := fun ds L k => match ds with
  | [d, .ty n] => n = c.nm ∧ gIsi c d L k
  | _ => False
theorem cq_isi {c : Ty} (hc : c ≠ .non) : CQ X (.builtin "isinstance") (gcIsi c) := ⟨_, call_isi, fun H L vs ds k Q j r h hk => by
  unfold gcIsi at h
  split at h
  · rename_i d n
    obtain ⟨rfl, h⟩ := h
    unfold gIsi at h
    split at h
    · rename_i t ht
      cases r with
      | cons r1 r2 => cases r2 with
        | cons r2 r3 =>
        cases r3
        cases r2
        exact ⟨_, _, _, _, _, rfl, .ty _, tyX_con j r1 ht, kit_ty (kit_isTy t c hc), hk _ _ H h (Same.refl H) (.bl _)⟩
    · exact h.elim
  · exact h.elim⟩
theorem q_isi {p p2 : Pos} {T : Str} (c : Ty) (ha : QE X Wx e da) (hg : Gl X "isinstance") (hm : X.mg "isinstance" = none) (hgT : Gl X T) (hmT : X.mg T = none) (hv : bootBuiltins T = some (.type c.nm)) (hc : c ≠ .non := by decide)
    (hn : T ≠ "__name__" := by decide) (hd : (T == ("__debug__" : Str)) = false := by decide) (hs : starEach (e :: [.Name T p2]) X.env = (false, eval e X.env) :: starEach [.Name T p2] X.env := by rfl) (hv0 : bootBuiltins "isinstance" = some (.builtin "isinstance") := by decide +kernel) :
    QE X Wx (.Call (.Name "isinstance" p) [e, .Name T p2] [] pos) (dUn (gIsi c) da) := by
  refine (q_callB (g := gcIsi c) (cq_isi hc) hg hm hv0 (a_cons ha (a_cons (q_bltn (v := .ty c.nm) (d := .ty c.nm) hgT hmT hv rfl (fun _ _ => .ty _) hn hd) a_nil (by rfl)) hs) (by decide) (by decide) hs (by rfl)).w ?_
  intro env L k x h
  exact (show dCB (gcIsi c) (dCons da (dCons (dC (.ty c.nm)) dNil)) env L k x from by
    unfold dCB dCons dC dNil
    unfold dUn at h
    refine cast ?_ h
    congr 1
    funext a L1
    show _ = (c.nm = c.nm ∧ _)
    simp)
/-- isinstance(x, (T, T')): the tuple is made on the spot -/
theorem q_isi2 {p p2 p3 p4 : Pos} {kk : Nat} {T T' : Str} (c c' : Ty) (ha : QE X Wx e da) (hg : Gl X "isinstance") (hm : X.mg "isinstance" = none) (hgT : Gl X T) (hmT : X.mg T = none) (hv : bootBuiltins T = some (.type c.nm)) (hgT' : Gl X T') (hmT' : X.mg T' = none) (hv' : bootBuiltins T' = some (.type c'.nm)) (hc : c ≠ .non := by decide) (hc' : c' ≠ .non := by decide)
    (hn : T ≠ "__name__" := by decide) (hd : (T == ("__debug__" : Str)) = false := by decide) (hn' : T' ≠ "__name__" := by decide) (hd' : (T' == ("__debug__" : Str)) = false := by decide) (hs : starEach (e :: [.Tuple [.Name T p2, .Name T' p3] kk p4]) X.env = (false, eval e X.env) :: starEach [.Tuple [.Name T p2, .Name T' p3] kk p4] X.env := by rfl) (hv0 : bootBuiltins "isinstance" = some (.builtin "isinstance") := by decide +kernel) :
    QE X Wx (.Call (.Name "isinstance" p) [e, .Tuple [.Name T p2, .Name T' p3] kk p4] [] pos) (dUn (gIsi2 c c') da) := by
  obtain ⟨ta, pa, sa⟩ := ha.ex
  refine ⟨_, pe_callB call_isiT hg hm hv0 (pa_cons pa (pa_cons (pe_tup (pa_cons (pe_bltn (v := .ty c.nm) hgT hmT hv rfl hn hd) (pa_cons (pe_bltn (v := .ty c'.nm) hgT' hmT' hv' rfl hn' hd') pa_nil (by rfl)) (by rfl))) pa_nil (by rfl)) hs) (by decide) (by decide) hs (by rfl), fun σ H env L k x Q st h hk hx => ?_⟩
  refine sa σ H env L _ x _ st h (fun d L1 v H1 h1 g1 j1 r1 => ?_) hx
  refine ⟨show 2 ≤ sizeLine by decide, fun t ht => ?_⟩
  have s := same_new ht (.tup [.ty c.nm, .ty c'.nm])
  unfold gIsi2 at h1
  split at h1
  · rename_i ty hty
    refine ⟨v, t, _, _, [.type c.nm, .type c'.nm], (isTy ty c || isTy ty c'), rfl, upd_same, .cons (.ty _) (.cons (.ty _) .nil), tyX_con (j1.same s) (r1.go (Go.same s)) hty, ?_, hk _ L1 _ _ h1 (g1.trans (Go.same s)) (j1.same s) (.bl _)⟩
    refine kitAny_cons (kit_ty (kit_isTy ty c hc)) (fun h0 => ?_) (fun h0 => by rw [h0, Bool.true_or])
    rw [h0, Bool.false_or]
    exact kitAny_cons (r := isTy ty c') (kit_ty (kit_isTy ty c' hc')) (fun h1 => by rw [h1]; exact kitAny_nil) (fun h1 => h1)
  · exact h1.elim
/-! ### + -/
def gAdd : G2 := fun a b L k => match con L a, con L b with
  | .int i, .int j => k (.int (i + j))
  | .str x, .str y => x.length + y.length ≤ sizeLine ∧ k (.str (x ++ y))
  | .lst xs, .lst ys => xs.length + ys.length ≤ sizeLine ∧ k (.lst (xs ++ ys))
  | .tup xs, .tup ys => xs.length + ys.length ≤ sizeLine ∧ k (.tup (xs ++ ys))
  | _, _ => False
theorem con_flat {L : Led} {K : PySem.W.Frag} {H : Hp} {v : V} {d c : D} (j : JL K L H) (r : Rp L K H v d) (e : con L d = c) (hc : match c with | .int _ => True | .str _ => True | .bl _ => True | .non => True | _ => False) : d = c := by
  cases d with
  | ptr a =>
    have e : (L.lookup a).getD (.ptr a) = c := e
    cases q : L.lookup a with
    | none => rw [q] at e; subst e; exact hc.elim
    | some c' =>
      rw [q] at e
      have e : c' = c := e
      subst e
      have ow := j.look q
      cases c' <;> first | exact ow.elim | exact hc.elim
  | _ => exact e
theorem oq_addL : OQ X (binaryOp .Add) (fun a b L k => match con L a, con L b with
    | .lst xs, .lst ys => xs.length + ys.length ≤ sizeLine ∧ k (.lst (xs ++ ys))
    | _, _ => False) := ⟨_, op_cat, fun H L va vb a b k Q j ra rb h hk => by
  dsimp only at h
  split at h
  · rename_i xs ys ea eb
    obtain ⟨p, vs, rfl, hp, rv⟩ := con_lst j ra ea
    obtain ⟨q, ws, rfl, hq, rw'⟩ := con_lst j rb eb
    refine ⟨p, q, vs, ws, rfl, rfl, hp, hq, by rw [rv.length, rw'.length]; exact h.1, fun l hl => ?_⟩
    have s := same_new hl (.lst (vs ++ ws))
    exact hk _ _ _ h.2 s (.lst (j.notIn hl) upd_same ((rv.append rw').go (Go.same s)))
  · exact h.elim⟩
theorem oq_addT : OQ X (binaryOp .Add) (fun a b L k => match con L a, con L b with
    | .tup xs, .tup ys => xs.length + ys.length ≤ sizeLine ∧ k (.tup (xs ++ ys))
    | _, _ => False) := ⟨_, op_catA, fun H L va vb a b k Q j ra rb h hk => by
  dsimp only at h
  split at h
  · rename_i xs ys ea eb
    obtain ⟨p, vs, ep, hp, rv⟩ := con_tup j ra ea
    obtain ⟨q, ws, eq, hq, rw'⟩ := con_tup j rb eb
    have ea' : a = .tup xs := by
      cases a with
      | ptr z =>
        have e : (L.lookup z).getD (.ptr z) = _ := ea
        cases q : L.lookup z with
        | none => rw [q] at e; cases e
        | some c' => rw [q] at e; have e : c' = .tup xs := e; subst e; exact (j.look q).elim
      | _ => exact ea
    have eb' : b = .tup ys := by
      cases b with
      | ptr z =>
        have e : (L.lookup z).getD (.ptr z) = _ := eb
        cases q : L.lookup z with
        | none => rw [q] at e; cases e
        | some c' => rw [q] at e; have e : c' = .tup ys := e; subst e; exact (j.look q).elim
      | _ => exact eb
    subst ea' eb' ep eq
    refine ⟨p, q, vs, ws, rfl, rfl, hp, hq, by rw [rv.length, rw'.length]; exact h.1, fun e0 => ?_, fun _ e0 => ?_, fun _ _ l hl => ?_⟩
    · subst e0
      cases rv
      exact hk _ _ H h.2 (Same.refl H) rb
    · subst e0
      cases rw'
      have h2 := h.2
      rw [List.append_nil] at h2
      exact hk _ _ H h2 (Same.refl H) ra
    · have s := same_new hl (.tup (vs ++ ws))
      exact hk _ _ _ h.2 s (.tup (.inl ⟨j.notIn hl, .inl upd_same⟩) ((rv.append rw').go (Go.same s)))
  · exact h.elim⟩
theorem oq_addS : OQ X (binaryOp .Add) (fun a b L k => match a, b with
    | .str x, .str y => x.length + y.length ≤ sizeLine ∧ k (.str (x ++ y))
    | _, _ => False) := ⟨_, op_add_str, fun H L va vb a b k Q j ra rb h hk => by
  dsimp only at h
  split at h
  · cases ra
    cases rb
    exact ⟨_, _, rfl, rfl, h.1, hk _ _ H h.2 (Same.refl H) (.str _)⟩
  · exact h.elim⟩
theorem sim_addOr {K : PySem.W.Frag} {r : R2} {g g' : G2} (h : Sim2 K r g) (hg : ∀ H L va vb a b k, JL K L H → Rp L K H va a → Rp L K H vb b → g' a b L k → g a b L k) : Sim2 K r g' := fun H L va vb a b k Q j ra rb q hk => h H L va vb a b k Q j ra rb (hg H L va vb a b k j ra rb q) hk
theorem oq_add : OQ X (binaryOp .Add) gAdd := by
  obtain ⟨r1, o1, s1⟩ := oq_addI (X := X)
  obtain ⟨r2, o2, s2⟩ := oq_addS (X := X)
  obtain ⟨r3, o3, s3⟩ := oq_addL (X := X)
  obtain ⟨r4, o4, s4⟩ := oq_addT (X := X)
  refine ⟨_, opr_or o1 (opr_or o2 (opr_or o3 o4)), fun H L va vb a b k Q j ra rb h hk => ?_⟩
  unfold gAdd at h
  split at h
  · rename_i i i' ea eb
    have e1 := con_flat j ra ea trivial
    have e2 := con_flat j rb eb trivial
    subst e1 e2
    exact .inl (s1 H L va vb _ _ k Q j ra rb h hk)
  · rename_i i i' ea eb
    have e1 := con_flat j ra ea trivial
    have e2 := con_flat j rb eb trivial
    subst e1 e2
    exact .inr (.inl (s2 H L va vb _ _ k Q j ra rb h hk))
  · rename_i xs ys ea eb
    exact .inr (.inr (.inl (s3 H L va vb _ _ k Q j ra rb (by dsimp only; rw [ea, eb]; exact h) hk)))
  · rename_i xs ys ea eb
    exact .inr (.inr (.inr (s4 H L va vb _ _ k Q j ra rb (by dsimp only; rw [ea, eb]; exact h) hk)))
  · exact h.elim
/-- a list times a number -/
def gRep : G2 := fun a b L k => match con L a, b with
  | .lst xs, .int n => -(2 ^ 63) ≤ n ∧ n < 2 ^ 63 ∧ xs.length * n.toNat ≤ sizeLine ∧ k (.lst (List.replicate n.toNat xs).flatten)
  | _, _ => False
theorem rep_all {L : Led} {K : PySem.W.Frag} {H : Hp} {vs : List V} {ds : List D} (r : RpAll L K H vs ds) : ∀ n : Nat, RpAll L K H (List.replicate n vs).flatten (List.replicate n ds).flatten
  | 0 => .nil
  | n + 1 => by
    rw [List.replicate_succ, List.replicate_succ, List.flatten_cons, List.flatten_cons]
    exact r.append (rep_all r n)
theorem oq_rep : OQ X (binaryOp .Mult) gRep := ⟨_, op_rep, fun H L va vb a b k Q j ra rb h hk => by
  unfold gRep at h
  split at h
  · rename_i xs n ea
    obtain ⟨p, vs, rfl, hp, rv⟩ := con_lst j ra ea
    cases rb
    obtain ⟨h1, h2, h3, h4⟩ := h
    refine ⟨p, n, vs, rfl, rfl, hp, h1, h2, by rw [rv.length]; exact h3, fun l hl => ?_⟩
    have s := same_new hl (.lst (List.replicate n.toNat vs).flatten)
    exact hk _ _ _ h4 s (.lst (j.notIn hl) upd_same ((rep_all rv _).go (Go.same s)))
  · exact h.elim⟩
/-! ### slices -/
abbrev DO := DEnv → Led → (Option Int → Led → Prop) → DX → Prop
structure QO (X : Cx) (Wx : WX) (e : Option Expr) (do' : DO) : Prop where
  ex : ∃ to, PO X e to ∧ ∀ σ H env L k x Q, StL X.K σ H env L → do' env L k x → (∀ i L' H', k i L' → Go L L' H H' → JL X.K L' H' → Q i H') → XOk X.K Wx L H x → to σ H Q
def dNo : DO := fun _ L k _ => k none L
def dPart (da : DE) : DO := fun env L k x => da env L (fun d L1 => match d with
  | .int i => k (some i) L1
  | _ => False) x
theorem o_none : QO X Wx none dNo := ⟨_, po_none, fun σ H env L k x Q st h hk hx => hk none L H h (Go.refl L H) st.2⟩
theorem o_some (h : QE X Wx e da) : QO X Wx (some e) (dPart da) := by
  obtain ⟨ta, pa, sa⟩ := h.ex
  refine ⟨_, po_some pa, fun σ H env L k x Q st h hk hx => ?_⟩
  refine sa σ H env L _ x _ st h (fun d L1 v H1 h1 g1 j1 r1 => ?_) hx
  cases r1 <;> first | exact h1.elim | skip
  exact ⟨_, rfl, hk _ L1 H1 h1 g1 j1⟩
def cutD (xs : List D) (lo hi : Option Int) : List D := (xs.drop (HT.sIx xs.length 0 lo)).take (HT.sIx xs.length xs.length hi - HT.sIx xs.length 0 lo)
def gSl (a : D) (lo hi : Option Int) (L : Led) (k : D → Prop) : Prop := match con L a with
  | .lst xs => k (.lst (cutD xs lo hi))
  | .ro xs => k (.lst (cutD xs lo hi))
  | .tup xs => k (.tup (cutD xs lo hi))
  | .str z => z.length ≤ sizeLine ∧ k (.str (cutS z lo hi))
  | _ => False
def dSl (da : DE) (dl dh : DO) : DE := fun env L k x => da env L (fun a L1 => dl env L1 (fun lo L2 => dh env L2 (fun hi L3 => gSl a lo hi L3 fun d => k d L3) x) x) x
theorem cut_all {L : Led} {K : PySem.W.Frag} {H : Hp} {vs : List V} {ds : List D} (r : RpAll L K H vs ds) (lo hi : Option Int) : RpAll L K H (cutV vs lo hi) (cutD ds lo hi) := by
  unfold cutV cutD
  rw [r.length]
  exact (r.drop _).take _
theorem q_slice {lo hi : Option Expr} {p2 : Pos} {dl dh : DO} (he : QE X Wx e da) (hl : QO X Wx lo dl) (hh : QO X Wx hi dh) : QE X Wx (.Subscript e (.Slice lo hi none p2) pos) (dSl da dl dh) := by
  obtain ⟨ta, pa, sa⟩ := he.ex
  obtain ⟨tl, pl, sl⟩ := hl.ex
  obtain ⟨th, ph, sh⟩ := hh.ex
  refine ⟨_, pe_slice (SlR.or sl_list (SlR.or sl_tupA sl_str)) pa pl ph, fun σ H env L k x Q st h hk hx => ?_⟩
  refine sa σ H env L _ x _ st h (fun a L1 va H1 h1 g1 j1 r1 => ?_) hx
  refine sl σ H1 env L1 _ x _ (st.go g1 j1) h1 (fun lo L2 H2 h2 g2 j2 => ?_) (hx.go g1)
  refine sh σ H2 env L2 _ x _ ((st.go g1 j1).go g2 j2) h2 (fun hi L3 H3 h3 g3 j3 => ?_) ((hx.go g1).go g2)
  have gg := (g1.trans g2).trans g3
  have r1 := (r1.go g2).go g3
  unfold gSl at h3
  split at h3
  · rename_i xs ea
    obtain ⟨p, vs, rfl, hp, rv⟩ := con_lst j3 r1 ea
    refine .inl ⟨p, vs, rfl, SqL.of hp, fun l hl => ?_⟩
    have s := same_new hl (.lst (cutV vs lo hi))
    exact hk _ _ _ _ h3 (gg.trans (Go.same s)) (j3.same s) (.lst (j3.notIn hl) upd_same ((cut_all rv lo hi).go (Go.same s)))
  · rename_i xs ea
    obtain ⟨p, vs, rfl, hp, rv⟩ := con_ro j3 r1 ea
    refine .inl ⟨p, vs, rfl, hp, fun l hl => ?_⟩
    have s := same_new hl (.lst (cutV vs lo hi))
    exact hk _ _ _ _ h3 (gg.trans (Go.same s)) (j3.same s) (.lst (j3.notIn hl) upd_same ((cut_all rv lo hi).go (Go.same s)))
  · rename_i xs ea
    have ea' : a = .tup xs := by
      cases a with
      | ptr z =>
        have e : (L3.lookup z).getD (.ptr z) = _ := ea
        cases q : L3.lookup z with
        | none => rw [q] at e; cases e
        | some c' => rw [q] at e; have e : c' = .tup xs := e; subst e; exact (j3.look q).elim
      | _ => exact ea
    obtain ⟨p, vs, ep, hp, rv⟩ := con_tup j3 r1 ea
    subst ea' ep
    refine .inr (.inl ⟨p, vs, rfl, hp, fun hw => ?_, fun _ l hl => ?_⟩)
    · have e : cutD xs lo hi = xs := by
        unfold cutD
        rw [← rv.length, hw.1, hw.2, List.drop_zero, Nat.sub_zero, rv.length]
        exact List.take_length
      rw [e] at h3
      exact hk _ _ _ H3 h3 gg j3 r1
    · have s := same_new hl (.tup (cutV vs lo hi))
      exact hk _ _ _ _ h3 (gg.trans (Go.same s)) (j3.same s) (.tup (.inl ⟨j3.notIn hl, .inl upd_same⟩) ((cut_all rv lo hi).go (Go.same s)))
  · rename_i z ea
    have e1 := con_flat j3 r1 ea trivial
    subst e1
    cases r1
    exact .inr (.inr ⟨_, rfl, h3.1, hk _ _ _ H3 h3.2 gg j3 (.str _)⟩)
  · exact h3.elim
end
end DL

namespace DL
open PySem L2 RZ
section
variable {X : Cx} {Wx : WX} {a b c e o : Expr} {es rest : List Expr} {da db dc de do' : DE} {dt du : DT} {dl dk : DA} {pos : Pos}
/-! ### comprehensions -/
def wipeD (env : DEnv) : List Nat → DEnv
  | [] => env
  | v :: vs => (wipeD env vs).set v none
theorem Sto.wipes {L : Led} {K : PySem.W.Frag} {H : Hp} {σ : St} {env : DEnv} (h : Sto L K H σ env) : ∀ vs : List Nat, Sto L K H (wipe σ vs) (wipeD env vs)
  | [] => h
  | v :: vs => (Sto.wipes h vs).wipe1 v
structure QTs (X : Cx) (Wx : WX) (ifs : List Expr) (dt : DT) : Prop where
  pt : PTs X ifs (ttOf X.K Wx dt)
def dYes : DT := fun _ L k _ => k true L
theorem ts_nil : QTs X Wx [] dYes := ⟨⟨fun pins s σ H Q I hw => by
  obtain ⟨env, L, k, x, st, h, hk, hx⟩ := hw
  exact pts_nil.run pins s σ H Q I (hk true L H h (Go.refl L H) st.2)⟩⟩
theorem ts_one (h : QT X Wx c dt) : QTs X Wx [c] dt := ⟨pts_one h.pt⟩
abbrev Wx0 : WX := fun _ _ _ _ => False
@[irreducible] def lcD (dg : DG) (dt : DT) (de : DE) (env0 : DEnv) (p : Addr) (k : DK) : List D → List D → Led → Prop
  | [], acc, L => k (.lst acc) (remL L p)
  | d :: ds, acc, L => dg d env0 L fun env1 => dt env1 L (fun b L2 => match b with
    | true => de env1 L2 (fun y L3 => L3.lookup p = some (.lst acc) ∧ acc.length < sizeLine ∧ lcD dg dt de env0 p k ds (acc ++ [y]) (setL L3 p (.lst (acc ++ [y])))) (fun _ _ _ => False)
    | false => L2.lookup p = some (.lst acc) ∧ lcD dg dt de env0 p k ds acc L2) (fun _ _ _ => False)
theorem lcD_nil {dg : DG} {dt : DT} {de : DE} {env0 : DEnv} {p : Addr} {k : DK} {acc : List D} {L : Led} : lcD dg dt de env0 p k [] acc L = k (.lst acc) (remL L p) := by with_unfolding_all rfl
theorem lcD_cons {dg : DG} {dt : DT} {de : DE} {env0 : DEnv} {p : Addr} {k : DK} {d : D} {ds acc : List D} {L : Led} : lcD dg dt de env0 p k (d :: ds) acc L = dg d env0 L fun env1 => dt env1 L (fun b L2 => match b with
    | true => de env1 L2 (fun y L3 => L3.lookup p = some (.lst acc) ∧ acc.length < sizeLine ∧ lcD dg dt de env0 p k ds (acc ++ [y]) (setL L3 p (.lst (acc ++ [y])))) (fun _ _ _ => False)
    | false => L2.lookup p = some (.lst acc) ∧ lcD dg dt de env0 p k ds acc L2) (fun _ _ _ => False) := by with_unfolding_all rfl
def dLc (di : DI) (dg : DG) (dt : DT) (de : DE) (vs : List Nat) : DE := fun env L k x => di env L (fun ds L1 => ∀ p, ¬ inL L1 p → lcD dg dt de (wipeD env vs) p k ds [] ((p, .lst []) :: L1)) x
theorem sim_lc {K : PySem.W.Frag} {wi : TI} {di : DI} {dg : DG} {sl vs : List Nat} (hsl : ∀ i ∈ sl, i ∈ vs)
    (si : ∀ σ H env L k x R, StL K σ H env L → di env L k x → (∀ ds L' J H', k ds L' → Go L L' H H' → JL K L' H' → ItD K L' H' J ds → R J H') → XOk K Wx L H x → wi σ H R) :
    SimE K Wx (tLc wi (tgOf K sl dg) (ttOf K Wx0 dt) (teOf K Wx0 de) vs) (dLc di dg dt de vs) := by
  intro σ H env L k x Q st h hk hx
  refine si σ H env L _ x _ st h (fun ds L1 J H1 h1 g1 j1 it => ?_) hx
  intro p hp
  have s0 := same_new hp (.lst [])
  obtain ⟨j2, g2⟩ := j1.push (d := .lst []) hp (o := .lst []) ⟨[], upd_same, .nil⟩
  refine ⟨fun i m H2 => m = ds.length - i ∧ i ≤ ds.length ∧ ∃ acc L2, StL K (wipe σ vs) H2 (wipeD env vs) L2 ∧ Go L1 L2 H1 H2 ∧ L2.lookup p = some (.lst acc) ∧ lcD dg dt de (wipeD env vs) p k (ds.drop i) acc L2, ⟨ds.length, by omega, by omega, [], _, ⟨((st.go g1 j1).go g2 j2).1.wipes vs, j2⟩, g2, lookup_top, h1 p (j1.notIn hp)⟩, ?_⟩
  rintro i m H2 ⟨rfl, hi, acc, L2, st2, g3, hl, h2⟩
  obtain ⟨i1, i2⟩ := it L2 H2 g3 st2.2 i
  by_cases hlt : i < ds.length
  · have e : ds[i]? = some ds[i] := List.getElem?_eq_getElem hlt
    obtain ⟨go, yl⟩ := i1 _ e
    rw [List.drop_eq_getElem_cons hlt, lcD_cons] at h2
    refine .inr ⟨go, fun H' => ∃ acc L2, StL K (wipe σ vs) H' (wipeD env vs) L2 ∧ Go L1 L2 H1 H' ∧ L2.lookup p = some (.lst acc) ∧ lcD dg dt de (wipeD env vs) p k (ds.drop (i + 1)) acc L2, fun H' n => ⟨ds.length - (i + 1), by omega, rfl, hlt, n⟩, fun x H' y => ?_⟩
    obtain ⟨s, rx⟩ := yl x H' y
    have g4 : Go L2 L2 H2 H' := Go.same s
    have st3 := st2.go g4 (st2.2.same s)
    refine ⟨_, _, L2, _, st3, rx, h2, fun σ3 env3 h3 st4 on => ⟨?_, ?_⟩⟩
    · have := on vs hsl
      rw [this]
      clear this
      have w2 : ∀ (ws us : List Nat), (∀ i ∈ us, i ∈ ws) → ∀ σ : St, wipe (wipe σ us) ws = wipe σ ws := by
        intro ws us
        induction us with
        | nil => intro _ σ; rfl
        | cons u us ih =>
          intro hu σ
          show wipe ((wipe σ us).set u none) ws = _
          rw [wipe_set (hu u List.mem_cons_self), ih (fun i hi => hu i (List.mem_cons_of_mem _ hi))]
      exact w2 vs vs (fun _ h => h) σ
    · refine ⟨env3, L2, _, _, st4, h3, fun b L5 H5 h5 g5 j5 => ?_, fun _ _ _ _ _ _ q => q.elim⟩
      have gA : Go L1 L5 H1 H5 := (g3.trans g4).trans g5
      cases b with
      | false => exact iteF ⟨acc, L5, ⟨(st3.1.go g5), j5⟩, gA, h5.1, h5.2⟩
      | true =>
        refine iteT ⟨env3, L5, _, _, st4.go g5 j5, h5, fun y L6 vy H6 h6 g6 j6 r6 => ?_, fun _ _ _ _ _ _ q => q.elim⟩
        obtain ⟨q1, q2, q3⟩ := h6
        obtain ⟨ws, e1, rv⟩ := j6.look q1
        have hp6 := inL_of_lookup q1
        refine ⟨ws, e1, by rw [rv.length]; exact q2, acc ++ [y], _, ?_, ?_, ?_, q3⟩
        · have g7 : Go L6 (setL L6 p (.lst (acc ++ [y]))) H6 (upd H6 p (.lst (ws ++ [vy]))) := go_set hp6
          have j7 : JL K (setL L6 p (.lst (acc ++ [y]))) (upd H6 p (.lst (ws ++ [vy]))) := j6.put hp6 ⟨_, upd_same, (rv.append (.cons r6 .nil)).go g7⟩
          exact ⟨((st3.1.go g5).go g6).go g7, j7⟩
        · exact (gA.trans g6).trans (go_set hp6)
        · have hm := mem_of_lookup q1
          clear q3 h5 h3 h2
          have key : ∀ (M : Led), inL M p → List.lookup p (setL M p (.lst (acc ++ [y]))) = some (.lst (acc ++ [y])) := by
            intro M
            induction M with
            | nil => intro h; simp [inL] at h
            | cons q M ih =>
              intro h
              by_cases hq : q.1 = p
              · obtain ⟨z1, z2⟩ := q
                have hq : z1 = p := hq
                show List.lookup p ((if z1 = p then (p, D.lst (acc ++ [y])) else (z1, z2)) :: setL M p _) = _
                rw [if_pos hq]
                exact lookup_top
              · obtain ⟨z1, z2⟩ := q
                have hq : z1 ≠ p := hq
                rw [setL_ne hq, lookup_ne (Ne.symm hq)]
                exact ih ((inL_cons.mp h).resolve_left (Ne.symm hq))
          exact key L6 hp6
  · have e : i = ds.length := by omega
    subst e
    rw [List.drop_length, lcD_nil] at h2
    obtain ⟨ws, e1, rv⟩ := st2.2.look hl
    refine .inl ⟨i2 (Nat.le_refl _), hk _ _ _ H2 h2 ((g1.trans g3).trans go_rem) st2.2.rem (.lst (fun m => (inL_remL.mp m).2 rfl) e1 (rv.go go_rem))⟩
theorem q_lc {elt tg iter : Expr} {ifs : List Expr} {scope : Scope} {own : List (Str × Nat)} {di : DI} {dg : DG} {sl : List Nat} (hc : X.calm = true) (hN : X.N.Nodup) (hi : QI X Wx tg iter di) (ok : BlkOk X.N X.env.scope scope own)
    (hg : ∀ (s : Shared) (H : Hp) (C : Addr) (cl : List (Str × Addr)) (fp : List Addr), QG (X.blk s H scope (compEnvC scope cl C X.env) fp) tg sl dg) (ht : ∀ (s : Shared) (H : Hp) (C : Addr) (cl : List (Str × Addr)) (fp : List Addr), QTs (X.blk s H scope (compEnvC scope cl C X.env) fp) Wx0 ifs dt)
    (he : ∀ (s : Shared) (H : Hp) (C : Addr) (cl : List (Str × Addr)) (fp : List Addr), QE (X.blk s H scope (compEnvC scope cl C X.env) fp) Wx0 elt de) (hsl : ∀ i ∈ sl, i ∈ own.map (·.2) := by decide) (hs : ∀ x, foldedSetIterable iter X.env x = pure x := by intro _; rfl) :
    QE X Wx (.ListComp elt [⟨tg, iter, ifs, 0⟩] scope pos) (dLc di dg dt de (own.map (·.2))) := by
  obtain ⟨wi, pi, si⟩ := hi.ex
  exact ⟨_, pe_lc hc hN pi ok (fun s H C cl fp => (hg s H C cl fp).pg) (fun s H C cl fp => (ht s H C cl fp).pt) (fun s H C cl fp => (he s H C cl fp).pe) hs, sim_lc hsl si⟩
theorem s_setLc (i : Nat) {y : Str} {py spos : Pos} {elt tg iter : Expr} {ifs : List Expr} {scope : Scope} {own : List (Str × Nat)} {di : DI} {dg : DG} {sl : List Nat} (hc : X.calm = true) (hN : X.N.Nodup) (hi : QI X Wx tg iter di) (ok : BlkOk X.N X.env.scope scope own)
    (hg : ∀ (s : Shared) (H : Hp) (C : Addr) (cl : List (Str × Addr)) (fp : List Addr), QG (X.blk s H scope (compEnvC scope cl C X.env) fp) tg sl dg) (ht : ∀ (s : Shared) (H : Hp) (C : Addr) (cl : List (Str × Addr)) (fp : List Addr), QTs (X.blk s H scope (compEnvC scope cl C X.env) fp) Wx0 ifs dt)
    (he : ∀ (s : Shared) (H : Hp) (C : Addr) (cl : List (Str × Addr)) (fp : List Addr), QE (X.blk s H scope (compEnvC scope cl C X.env) fp) Wx0 elt de)
    (hsw : swapsWith (.ListComp elt [⟨tg, iter, ifs, 0⟩] scope pos) (some (.Name y py)) spos.line X.env = pure true) (hy : X.N[i]? = some y := by rfl) (hyl : X.env.scope.names.lookup y = some .local := by rfl) (hsl : ∀ i ∈ sl, i ∈ own.map (·.2) := by decide) (hs : ∀ x, foldedSetIterable iter X.env x = pure x := by intro _; rfl) :
    QS X Wx (.Assign [.Name y py] (.ListComp elt [⟨tg, iter, ifs, 0⟩] scope pos) spos) (dAsg (dLc di dg dt de (own.map (·.2))) (dgName i)) := by
  obtain ⟨wi, pi, si⟩ := hi.ex
  exact ⟨_, ps_setLc hc hN hy hyl hsw pi ok (fun s H C cl fp => (hg s H C cl fp).pg) (fun s H C cl fp => (ht s H C cl fp).pt) (fun s H C cl fp => (he s H C cl fp).pe) hs, sim_asg (sl := [i]) (sim_lc hsl si) fun v d σ H env L k Q st r h hk => hk _ _ h ⟨st.1.set r i, st.2⟩ only_set⟩
/-! ### zip -/
def zipD : List D → List D → List D
  | a :: as, b :: bs => .tup [a, b] :: zipD as bs
  | _, _ => []
theorem zipD_get : ∀ (as bs : List D) (i : Nat) (d : D), (zipD as bs)[i]? = some d → ∃ x y, as[i]? = some x ∧ bs[i]? = some y ∧ d = .tup [x, y]
  | [], _, _, _, h => by simp [zipD] at h
  | _ :: _, [], _, _, h => by simp [zipD] at h
  | a :: as, b :: bs, 0, d, h => by
    simp [zipD] at h
    exact ⟨a, b, rfl, rfl, h.symm⟩
  | a :: as, b :: bs, i + 1, d, h => by
    obtain ⟨x, y, h1, h2, h3⟩ := zipD_get as bs i d (by simpa [zipD] using h)
    exact ⟨x, y, by simpa using h1, by simpa using h2, h3⟩
theorem zipD_len : ∀ (as bs : List D), (zipD as bs).length = min as.length bs.length
  | [], _ => by simp [zipD]
  | _ :: _, [] => by simp [zipD]
  | a :: as, b :: bs => by simp [zipD, zipD_len as bs]
def diZip (dl : DA) : DI := fun env L k x => dl env L (fun ds L1 => match ds with
  | [.lst as, .lst bs] => k (zipD as bs) L1
  | [.tup as, .tup bs] => k (zipD as bs) L1
  | _ => False) x
theorem it_zip {K : PySem.W.Frag} {L : Led} {H : Hp} {a b : Addr} {vs ws : List V} {as bs : List D} (h : SqL' L K H a vs) (r : RpAll L K H vs as) (h' : SqL' L K H b ws) (r' : RpAll L K H ws bs) : ItD K L H (Itz K a b) (zipD as bs) := fun L' H' g j i => by
  have e1 := (g.sqL h).sq
  have e2 := (g.sqL h').sq
  refine ⟨fun d hd => ?_, fun hi => ⟨vs, ws, e1, e2, by rw [zipD_len] at hi; rw [r.length, r'.length]; omega⟩⟩
  obtain ⟨x, y, q1, q2, rfl⟩ := zipD_get as bs i d hd
  obtain ⟨vx, hx, rx⟩ := (r.go g).get q1
  obtain ⟨vy, hy, ry⟩ := (r'.go g).get q2
  refine ⟨⟨vs, ws, vx, vy, e1, e2, hx, hy⟩, fun z H'' yl => ?_⟩
  obtain ⟨T, x', y', rfl, nT, rfl, f1, f2⟩ := yl
  have k1 := f1 vs e1
  rw [hx] at k1
  cases k1
  have k2 := f2 ws e2
  rw [hy] at k2
  cases k2
  have s := same_new nT (.tup [vx, vy])
  exact ⟨s, .tup (.inl ⟨j.notIn nT, .inl upd_same⟩) (.cons (rx.go (Go.same s)) (.cons (ry.go (Go.same s)) .nil))⟩
theorem it_zipT {K : PySem.W.Frag} {L : Led} {H : Hp} {a b : Addr} {vs ws : List V} {as bs : List D} (h : SqT' L K H a vs) (r : RpAll L K H vs as) (h' : SqT' L K H b ws) (r' : RpAll L K H ws bs) : ItD K L H (ItzT K a b) (zipD as bs) := fun L' H' g j i => by
  have e1 := (g.sqT h).sq
  have e2 := (g.sqT h').sq
  refine ⟨fun d hd => ?_, fun hi => ⟨vs, ws, e1, e2, by rw [zipD_len] at hi; rw [r.length, r'.length]; omega⟩⟩
  obtain ⟨x, y, q1, q2, rfl⟩ := zipD_get as bs i d hd
  obtain ⟨vx, hx, rx⟩ := (r.go g).get q1
  obtain ⟨vy, hy, ry⟩ := (r'.go g).get q2
  refine ⟨⟨vs, ws, vx, vy, e1, e2, hx, hy⟩, fun z H'' yl => ?_⟩
  obtain ⟨T, x', y', rfl, nT, rfl, f1, f2⟩ := yl
  have k1 := f1 vs e1
  rw [hx] at k1
  cases k1
  have k2 := f2 ws e2
  rw [hy] at k2
  cases k2
  have s := same_new nT (.tup [vx, vy])
  exact ⟨s, .tup (.inl ⟨j.notIn nT, .inl upd_same⟩) (.cons (rx.go (Go.same s)) (.cons (ry.go (Go.same s)) .nil))⟩
theorem i_zip {e2 : Expr} {p tpos : Pos} {elts : List Expr} {kk : Nat} (hg : Gl X "zip") (hm : X.mg "zip" = none) (ha : QA X Wx [e, e2] dl)
    (hs : starEach [e, e2] X.env = (false, eval e X.env) :: starEach [e2] X.env := by rfl) (hpl : (backTo pos (starEach [e2] X.env)).any (·.1) = false := by rfl) : QI X Wx (.Tuple elts kk tpos) (.Call (.Name "zip" p) [e, e2] [] pos) (diZip dl) := by
  obtain ⟨ta, pa, sa⟩ := ha.ex
  refine ⟨_, pi_zipA hg hm pa hs hpl, fun σ H env L k x R st h hk hx => ?_⟩
  refine sa σ H env L _ x _ st h (fun ds L1 vs H1 h1 g1 j1 r1 => ?_) hx
  split at h1
  · cases r1 with
    | cons r1 r2 => cases r2 with
      | cons r2 r3 =>
      cases r3
      cases r1 with
      | lst n1 s1 q1 => cases r2 with
        | lst n2 s2 q2 => exact ⟨_, _, _, _, rfl, .inl ⟨SqL.of s1, SqL.of s2, hk _ L1 _ H1 h1 g1 j1 (it_zip (.inl ⟨n1, .inl s1⟩) q1 (.inl ⟨n2, .inl s2⟩) q2)⟩⟩
  · cases r1 with
    | cons r1 r2 => cases r2 with
      | cons r2 r3 =>
      cases r3
      cases r1 with
      | tup s1 q1 => cases r2 with
        | tup s2 q2 => exact ⟨_, _, _, _, rfl, .inr ⟨s1.sq, s2.sq, hk _ L1 _ H1 h1 g1 j1 (it_zipT s1 q1 s2 q2)⟩⟩
  · exact h1.elim
end
end DL

namespace DL
open PySem L2
section
variable {X : Cx} {Wx : WX} {a b c e o : Expr} {es rest : List Expr} {da db dc de do' : DE} {dt du : DT} {dl dk : DA} {pos : Pos}
/-! ### keywords -/
structure QK (X : Cx) (Wx : WX) (kws : List Keyword) (da : DA) : Prop where
  ex : ∃ ta, PK X kws ta ∧ SimA X.K Wx ta da
theorem k_nil : QK X Wx [] dNil := ⟨_, pk_nil, fun σ H env L k x Q st h hk hx => hk [] L [] H h (Go.refl L H) st.2 .nil⟩
theorem k_cons {nm : Option Str} {kpos : Pos} {kws : List Keyword} (ha : QE X Wx e de) (hr : QK X Wx kws dl) : QK X Wx (⟨nm, e, kpos⟩ :: kws) (dCons de dl) := by
  obtain ⟨te, pe, se⟩ := ha.ex
  obtain ⟨ta, pa, sa⟩ := hr.ex
  refine ⟨_, pk_cons pe pa, fun σ H env L k x Q st h hk hx => ?_⟩
  refine se σ H env L _ x _ st h (fun d L1 v H1 h1 g1 j1 r1 => ?_) hx
  refine sa σ H1 env L1 _ x _ (st.go g1 j1) h1 (fun ds L2 vs H2 h2 g2 j2 r2 => ?_) (hx.go g1)
  exact hk _ L2 _ H2 h2 (g1.trans g2) j2 (.cons (r1.go g2) r2)
/-- how positional values and keywords' values come to the parameters: a choice of places, the same for values and data; ds: defaults -/
abbrev Perm3 := {α : Type} → List α → List α → List α → List α
structure PermOk (g : Perm3) : Prop where
  map : ∀ {α β : Type} {R : α → β → Prop} {vs zs ws : List α} {us ys xs : List β}, Paired R vs us → Paired R zs ys → Paired R ws xs → Paired R (g vs zs ws) (g us ys xs)
structure KwB (K : PySem.W.Frag) (fd : FuncData) (ps : List Str) (n : Nat) (ks : List Str) (dus : List Value) (g : Perm3) : Prop where
  to : ∀ (s : Shared) (us ws : List Value), K.In s.heap → us.length = n → ws.length = ks.length → BindsTo s fd ⟨us, ks.zip ws⟩ (ps.zip (g us ws dus))
theorem rp_paired {L : Led} {K : PySem.W.Frag} {H : Hp} : ∀ {vs : List V} {ds : List D}, RpAll L K H vs ds → Paired (Rp L K H) vs ds
  | _, _, .nil => .nil
  | _, _, .cons h r => .cons h (rp_paired r)
theorem paired_rp {L : Led} {K : PySem.W.Frag} {H : Hp} : ∀ {vs : List V} {ds : List D}, Paired (Rp L K H) vs ds → RpAll L K H vs ds
  | _, _, .nil => .nil
  | _, _, .cons h r => .cons h (paired_rp r)
def tCallW (n m : Nat) (sp : Sp) (gV : List V → List V → List V) (E : St → XK) (t tk : TA) : TE := fun σ H Q => t σ H fun vs H1 => tk σ H1 fun zs H2 => vs.length = n ∧ zs.length = m ∧ sp (gV vs zs) H2 Q (E σ)
theorem run_fnW {CX : CXT} {k n : Nat} {f : Addr} {fd : FuncData} {ps ks : List Str} {sp : Sp} {E : XK} {dus : List Value} {dvs : List V} {g : Perm3} {pins : List (Addr × Obj)} {σ : St} {H : Hp} {s : Shared} {Q : VK} {us ws : List Value} {vs zs : List V} (F : FnOk X.prog X.w X.K X.mg X.base CX k f fd ps sp) (hr : Room k X.A) (hb : KwB X.K fd ps n ks dus g) (hp : PermOk @g) (hd : Vals dvs dus) (hx : PassesAt CX X σ E)
    (I : Inv X pins σ H s) (r : Vals vs us) (rz : Vals zs ws) (l1 : vs.length = n) (l2 : zs.length = ks.length) (h : sp (g vs zs dvs) H Q E) : wpAny (model X.prog X.w) X.A (call (.ref f) us (ks.zip ws)) (EP X pins σ Q) X.xe s := by
  have r2 : Vals (g vs zs dvs) (g us ws dus) := hp.map r rz hd
  refine wpAny_call (codeAny_mono (F.run X.A X.stack s H ⟨us, ks.zip ws⟩ (g us ws dus) (g vs zs dvs) Q E hr I.env0 (hb.to s us ws I.kIn (r.length.symm.trans l1) (rz.length.symm.trans l2)) r2 h) fun r s' hq => ?_)
  cases r with
  | error e => exact hx pins H s e s' I hq
  | ok fl =>
    cases fl with
    | ret u => exact I.after hq
    | next => exact False.elim hq
    | brk => exact False.elim hq
    | cont => exact False.elim hq
theorem pe_callW0 {CX : CXT} {k : Nat} {f : Addr} {fd : FuncData} {ps ks : List Str} {sp : Sp} {E : St → XK} {dus : List Value} {dvs : List V} {g : Perm3} {x : Str} {p : Pos} {kws : List Keyword} {tk : TA} (F : FnOk X.prog X.w X.K X.mg X.base CX k f fd ps sp) (hr : Room k X.A) (hg : Gl X x) (hm : X.mg x = some (.ref f)) (hk : PySem.W.keepIn X.K (.ref f) = true)
    (hb : KwB X.K fd ps 0 ks dus g) (hp : PermOk @g) (hd : Vals dvs dus) (hx : ∀ σ, PassesAt CX X σ (E σ)) (hkw : PK X kws tk) (hall : (backToKw pos (keywordEach kws X.env)).all (·.1.isSome) = true := by rfl) (hks : (backToKw pos (keywordEach kws X.env)).filterMap (·.1) = ks := by rfl)
    (hdb : (x == ("__debug__" : Str)) = false := by decide) (hpl : ((backTo pos (starEach [] X.env)).any (·.1) || (backToKw pos (keywordEach kws X.env)).any (·.1.isNone)) = false := by rfl) :
    PE X (.Call (.Name x p) [] kws pos) (tCallW 0 ks.length sp (fun vs zs => g vs zs dvs) E tNil tk) := by
  refine ⟨fun pins s σ H Q I h => ?_⟩
  refine wpAny_Call_Name_kw (ld_glob I hg hm ?_ hdb)
  refine PySem.W.callWith_KW0 (h₀ := X.base) I.ok.mod.kin hk hall (thn (hkw.run pos pins s σ H _ I h) fun ws s2 ⟨zs, H2, I2, rz, l1, l2, q2⟩ => ⟨I2.kIn, ?_⟩) hpl
  rw [hks]
  exact run_fnW F hr hb hp hd (hx σ) I2 .nil rz l1 l2 q2
theorem pe_callW {CX : CXT} {k n : Nat} {f : Addr} {fd : FuncData} {ps ks : List Str} {sp : Sp} {E : St → XK} {dus : List Value} {dvs : List V} {g : Perm3} {x : Str} {p : Pos} {kws : List Keyword} {t tk : TA} (F : FnOk X.prog X.w X.K X.mg X.base CX k f fd ps sp) (hr : Room k X.A) (hg : Gl X x) (hm : X.mg x = some (.ref f)) (hk : PySem.W.keepIn X.K (.ref f) = true)
    (hb : KwB X.K fd ps n ks dus g) (hp : PermOk @g) (hd : Vals dvs dus) (hx : ∀ σ, PassesAt CX X σ (E σ)) (ha : PA X (e :: es) t) (hkw : PK X kws tk) (hall : (backToKw pos (keywordEach kws X.env)).all (·.1.isSome) = true := by rfl) (hks : (backToKw pos (keywordEach kws X.env)).filterMap (·.1) = ks := by rfl)
    (hdb : (x == ("__debug__" : Str)) = false := by decide) (he : starEach (e :: es) X.env = (false, eval e X.env) :: starEach es X.env := by rfl)
    (hpl : ((backTo pos (starEach (e :: es) X.env)).any (·.1) || (backToKw pos (keywordEach kws X.env)).any (·.1.isNone)) = false := by rfl) :
    PE X (.Call (.Name x p) (e :: es) kws pos) (tCallW n ks.length sp (fun vs zs => g vs zs dvs) E t tk) := by
  refine ⟨fun pins s σ H Q I h => ?_⟩
  refine wpAny_Call_Name_kw (ld_glob I hg hm ?_ hdb)
  refine PySem.W.callWith_KW (h₀ := X.base) I.ok.mod.kin hk hall (thn (ha.run pos pins s σ H _ I h) fun us s1 ⟨vs, H1, I1, r, q⟩ => ?_) hpl he
  refine thn (hkw.run pos pins s1 σ H1 _ I1 q) fun ws s2 ⟨zs, H2, I2, rz, l1, l2, q2⟩ => ⟨I2.kIn, ?_⟩
  rw [hks]
  exact run_fnW F hr hb hp hd (hx σ) I2 r rz l1 l2 q2
def dCallW (n m : Nat) (f : DSp) (g : Perm3) (dd : List D) (dl dk : DA) : DE := fun env L k x => dl env L (fun ds L1 => dk env L1 (fun es L2 => ds.length = n ∧ es.length = m ∧ f (g ds es dd) L2 k fun n L' => x n env L') x) x
theorem sim_callW {K : PySem.W.Frag} {n m : Nat} {f : DSp} {g : Perm3} {dvs : List V} {dd : List D} {t tk : TA} (hp : PermOk @g) (hdd : ∀ L H, RpAll L K H dvs dd) (sa : SimA K Wx t dl) (sk : SimA K Wx tk dk) : SimE K Wx (tCallW n m (spD K f) (fun vs zs => g vs zs dvs) (WE Wx) t tk) (dCallW n m f g dd dl dk) := by
  intro σ H env L k x Q st h hk hx
  refine sa σ H env L _ x _ st h (fun ds L1 vs H1 h1 g1 j1 r1 => ?_) hx
  refine sk σ H1 env L1 _ x _ (st.go g1 j1) h1 (fun es L2 zs H2 h2 g2 j2 r2 => ?_) (hx.go g1)
  obtain ⟨l1, l2, h2⟩ := h2
  have gg := g1.trans g2
  refine ⟨by rw [r1.length]; exact l1, by rw [r2.length]; exact l2, g ds es dd, L2, k, fun n L' => x n env L', j2, paired_rp (hp.map (rp_paired (r1.go g2)) (rp_paired r2) (rp_paired (hdd L2 H2))), h2, hk.go gg, fun n L' a H' q g' j' r => hx n env L' a H' σ q (gg.trans g') (st.go (gg.trans g') j') r⟩
theorem q_callW0 {k : Nat} {f : Addr} {fd : FuncData} {ps ks : List Str} {fD : DSp} {dus : List Value} {dvs : List V} {dd : List D} {x : Str} {p : Pos} {kws : List Keyword} (g : Perm3) (F : FnOk X.prog X.w X.K X.mg X.base (L2.CX X.prog X.w) k f fd ps (spD X.K fD)) (hr : Room k X.A) (hg : Gl X x) (hm : X.mg x = some (.ref f)) (hk : PySem.W.keepIn X.K (.ref f) = true)
    (hb : KwB X.K fd ps 0 ks dus g) (hp : PermOk @g) (hd : Vals dvs dus) (hdd : ∀ L H, RpAll L X.K H dvs dd) (tk : Takes X Wx) (hkw : QK X Wx kws dk) (hall : (backToKw pos (keywordEach kws X.env)).all (·.1.isSome) = true := by rfl) (hks : (backToKw pos (keywordEach kws X.env)).filterMap (·.1) = ks := by rfl)
    (hdb : (x == ("__debug__" : Str)) = false := by decide) (hpl : ((backTo pos (starEach [] X.env)).any (·.1) || (backToKw pos (keywordEach kws X.env)).any (·.1.isNone)) = false := by rfl) :
    QE X Wx (.Call (.Name x p) [] kws pos) (dCallW 0 ks.length fD g dd dNil dk) := by
  obtain ⟨ta, pa, sa⟩ := hkw.ex
  exact ⟨_, pe_callW0 F hr hg hm hk hb hp hd (fun σ => passAt tk σ) pa hall hks hdb hpl, sim_callW hp hdd (fun σ H env L k x Q st h hk hx => hk [] L [] H h (Go.refl L H) st.2 .nil) sa⟩
theorem q_callW {k n : Nat} {f : Addr} {fd : FuncData} {ps ks : List Str} {fD : DSp} {dus : List Value} {dvs : List V} {dd : List D} {x : Str} {p : Pos} {kws : List Keyword} (g : Perm3) (F : FnOk X.prog X.w X.K X.mg X.base (L2.CX X.prog X.w) k f fd ps (spD X.K fD)) (hr : Room k X.A) (hg : Gl X x) (hm : X.mg x = some (.ref f)) (hk : PySem.W.keepIn X.K (.ref f) = true)
    (hb : KwB X.K fd ps n ks dus g) (hp : PermOk @g) (hd : Vals dvs dus) (hdd : ∀ L H, RpAll L X.K H dvs dd) (tk : Takes X Wx) (ha : QA X Wx (e :: es) dl) (hkw : QK X Wx kws dk) (hall : (backToKw pos (keywordEach kws X.env)).all (·.1.isSome) = true := by rfl) (hks : (backToKw pos (keywordEach kws X.env)).filterMap (·.1) = ks := by rfl)
    (hdb : (x == ("__debug__" : Str)) = false := by decide) (he : starEach (e :: es) X.env = (false, eval e X.env) :: starEach es X.env := by rfl)
    (hpl : ((backTo pos (starEach (e :: es) X.env)).any (·.1) || (backToKw pos (keywordEach kws X.env)).any (·.1.isNone)) = false := by rfl) :
    QE X Wx (.Call (.Name x p) (e :: es) kws pos) (dCallW n ks.length fD g dd dl dk) := by
  obtain ⟨ta, pa, sa⟩ := ha.ex
  obtain ⟨tk', pk, sk⟩ := hkw.ex
  exact ⟨_, pe_callW F hr hg hm hk hb hp hd (fun σ => passAt tk σ) pa pk hall hks hdb he hpl, sim_callW hp hdd sa sk⟩
end
end DL

namespace DL
open PySem L2
section
variable {X : Cx} {Wx : WX} {a b c e o : Expr} {es rest : List Expr} {da db dc de do' : DE} {dt du : DT} {dl dk : DA} {pos : Pos}
/-! ### == of anything -/
def gEqU : G2 := fun a b _ k => match scD a b with
  | true => k (.bl (flEq a b))
  | false => shp a = true ∧ shp b = true ∧ k (.bl (eqD a b))
def gNeU : G2 := fun a b _ k => match scD a b with
  | true => k (.bl (!flEq a b))
  | false => shp a = true ∧ shp b = true ∧ k (.bl (!eqD a b))
theorem oq_eqU (hu : X.A.units + 64 < cLine) : OQ X (compareOp .Eq) gEqU := OQ.or oq_eqF (oq_eq hu) fun a b L k h => by
  unfold gEqU at h
  split at h
  · rename_i hs; exact .inl ⟨hs, h⟩
  · exact .inr h
theorem oq_neU (hu : X.A.units + 64 < cLine) : OQ X (compareOp .NotEq) gNeU := OQ.or oq_neF (oq_ne hu) fun a b L k h => by
  unfold gNeU at h
  split at h
  · rename_i hs; exact .inl ⟨hs, h⟩
  · exact .inr h
/-! ### * -/
def MulOk (i j : Int) : Prop := (i.natAbs < 2 ^ 63 ∨ j.natAbs < 2 ^ 63) ∨ CMulW i j
theorem MulOk.ok {i j : Int} (h : MulOk i j) : IntMulOk i j := by
  have key : ∀ z : Int, z.natAbs < 2 ^ 63 → Builtin.Int.intBits z ≤ 64 := fun z hz => intBits_le_64 (by omega) (by omega)
  rcases h with (h | h) | h
  · exact .of_left (key i h)
  · exact .of_right (key j h)
  · exact h.ok
theorem op_mulU : OpR X (binaryOp .Mult) (rI MulOk fun i j => .int (i * j)) := opI fun _ _ _ _ _ _ _ hc q => PyProof.Rows.mul_int q (MulOk.ok hc)
abbrev gMulU : G2 := gI MulOk fun i j => .int (i * j)
theorem oq_mulU : OQ X (binaryOp .Mult) gMulU := ⟨_, op_mulU, sim2_I fun _ _ _ _ => .int _⟩
/-! ### a def that may be called: by its name -/
structure Cal (P : Program) (w : World) (K : PySem.W.Frag) (mg : Str → Option Value) (base : Heap) (n : Nat) (x : Str) (ps : List Str) (dd : List D) (g : DSp) : Prop where
  ex : ∃ (f : Addr) (fd : FuncData) (us : List Value) (dvs : List V), FnOk P w K mg base (L2.CX P w) n f fd ps (spD K g) ∧ mg x = some (.ref f) ∧ PySem.W.keepIn K (.ref f) = true ∧ Binds K fd ps us ∧ Vals dvs us ∧ ∀ L H, RpAll L K H dvs dd
theorem q_cal {x : Str} {p : Pos} {n k : Nat} {ps : List Str} {g : DSp} {dd : List D} (F : Cal X.prog X.w X.K X.mg X.base n x ps dd g) (hn : n ≤ k) (hr : Room k X.A) (tk : Takes X Wx) (hg : Gl X x) (ha : QA X Wx (e :: es) dl) (hdb : (x == ("__debug__" : Str)) = false := by decide)
    (he : starEach (e :: es) X.env = (false, eval e X.env) :: starEach es X.env := by rfl) (hpl : (backTo pos (starEach es X.env)).any (·.1) = false := by rfl) : QE X Wx (.Call (.Name x p) (e :: es) [] pos) (dCall g dd dl) := by
  obtain ⟨f, fd, us, dvs, F, hm, hk, hb, hd, hdd⟩ := F.ex
  exact q_call F (hr.mono hn) hg hm hk hb hd hdd tk ha hdb he hpl
/-- .. by keywords -/
structure CalW (P : Program) (w : World) (K : PySem.W.Frag) (mg : Str → Option Value) (base : Heap) (n : Nat) (x : Str) (np : Nat) (ks : List Str) (dd : List D) (gp : Perm3) (g : DSp) : Prop where
  ex : ∃ (f : Addr) (fd : FuncData) (ps : List Str) (us : List Value) (dvs : List V), FnOk P w K mg base (L2.CX P w) n f fd ps (spD K g) ∧ mg x = some (.ref f) ∧ PySem.W.keepIn K (.ref f) = true ∧ KwB K fd ps np ks us gp ∧ PermOk @gp ∧ Vals dvs us ∧ ∀ L H, RpAll L K H dvs dd
theorem q_calW0 {x : Str} {p : Pos} {n k : Nat} {ks : List Str} {gp : Perm3} {g : DSp} {dd : List D} {kws : List Keyword} (F : CalW X.prog X.w X.K X.mg X.base n x 0 ks dd gp g) (hn : n ≤ k) (hr : Room k X.A) (tk : Takes X Wx) (hg : Gl X x) (hkw : QK X Wx kws dk) (hall : (backToKw pos (keywordEach kws X.env)).all (·.1.isSome) = true := by rfl) (hks : (backToKw pos (keywordEach kws X.env)).filterMap (·.1) = ks := by rfl)
    (hdb : (x == ("__debug__" : Str)) = false := by decide) (hpl : ((backTo pos (starEach [] X.env)).any (·.1) || (backToKw pos (keywordEach kws X.env)).any (·.1.isNone)) = false := by rfl) : QE X Wx (.Call (.Name x p) [] kws pos) (dCallW 0 ks.length g gp dd dNil dk) := by
  obtain ⟨f, fd, ps, us, dvs, F, hm, hk, hb, hp, hd, hdd⟩ := F.ex
  exact q_callW0 gp F (hr.mono hn) hg hm hk hb hp hd hdd tk hkw hall hks hdb hpl
theorem q_calW {x : Str} {p : Pos} {n k np : Nat} {ks : List Str} {gp : Perm3} {g : DSp} {dd : List D} {kws : List Keyword} (F : CalW X.prog X.w X.K X.mg X.base n x np ks dd gp g) (hn : n ≤ k) (hr : Room k X.A) (tk : Takes X Wx) (hg : Gl X x) (ha : QA X Wx (e :: es) dl) (hkw : QK X Wx kws dk) (hall : (backToKw pos (keywordEach kws X.env)).all (·.1.isSome) = true := by rfl) (hks : (backToKw pos (keywordEach kws X.env)).filterMap (·.1) = ks := by rfl)
    (hdb : (x == ("__debug__" : Str)) = false := by decide) (he : starEach (e :: es) X.env = (false, eval e X.env) :: starEach es X.env := by rfl) (hpl : ((backTo pos (starEach (e :: es) X.env)).any (·.1) || (backToKw pos (keywordEach kws X.env)).any (·.1.isNone)) = false := by rfl) : QE X Wx (.Call (.Name x p) (e :: es) kws pos) (dCallW np ks.length g gp dd dl dk) := by
  obtain ⟨f, fd, ps, us, dvs, F, hm, hk, hb, hp, hd, hdd⟩ := F.ex
  exact q_callW gp F (hr.mono hn) hg hm hk hb hp hd hdd tk ha hkw hall hks hdb he hpl
/-- pure defs: the answer is f of the arguments -/
def pur (C : List D → Prop) (f : List D → D) : DSp := fun ds L k _ => C ds ∧ k (f ds) L
end
theorem bb_len : bootBuiltins "len" = some (.builtin "len") := by decide +kernel
theorem bb_abs : bootBuiltins "abs" = some (.builtin "abs") := by decide +kernel
theorem bb_max : bootBuiltins "max" = some (.builtin "max") := by decide +kernel
theorem bb_min : bootBuiltins "min" = some (.builtin "min") := by decide +kernel
theorem bb_all : bootBuiltins "all" = some (.builtin "all") := by decide +kernel
theorem bb_any : bootBuiltins "any" = some (.builtin "any") := by decide +kernel
theorem bb_isinstance : bootBuiltins "isinstance" = some (.builtin "isinstance") := by decide +kernel
theorem bb_sorted : bootBuiltins "sorted" = some (.builtin "sorted") := by decide +kernel
theorem bb_sum : bootBuiltins "sum" = some (.builtin "sum") := by decide +kernel
theorem bb_int : bootBuiltins "int" = some (.type "int") := by decide +kernel
theorem bb_str : bootBuiltins "str" = some (.type "str") := by decide +kernel
theorem bb_list : bootBuiltins "list" = some (.type "list") := by decide +kernel
theorem bb_tuple : bootBuiltins "tuple" = some (.type "tuple") := by decide +kernel
theorem bb_dict : bootBuiltins "dict" = some (.type "dict") := by decide +kernel
theorem bb_bool : bootBuiltins "bool" = some (.type "bool") := by decide +kernel
theorem bb_range : bootBuiltins "range" = some (.type "range") := by decide +kernel
theorem bb_zip : bootBuiltins "zip" = some (.type "zip") := by decide +kernel
theorem bb_enumerate : bootBuiltins "enumerate" = some (.type "enumerate") := by decide +kernel
theorem bb_reversed : bootBuiltins "reversed" = some (.type "reversed") := by decide +kernel
end DL

namespace DL
open PySem L2

/-! ### helpers of the law: the mathematics -/
def isInt : D → Bool
  | .int _ => true
  | _ => false
def okT (d : D) : Bool := (tyD d).isSome
structure Bag where
  cells : List Int
  at_ : Int
  rest : Int
  mix : Int
  cnt : Int
def bagC (b : Bag) : D := .lst [.lst (b.cells.map .int), .int b.at_, .int b.rest, .int b.mix, .int b.cnt]
structure BagOk (b : Bag) : Prop where
  a0 : 0 ≤ b.at_
  a1 : b.at_ ≤ b.cells.length
  r0 : 0 ≤ b.rest
  m0 : 0 ≤ b.mix
  m1 : b.mix < 2147483497
def bagS : DSp := fun ds L k _ => ∃ ns : List Int, ds = [.ro (ns.map .int)] ∧ ∀ p b, ¬ inL L p → BagOk b → k (.ptr p) ((p, bagC b) :: L)
def pullS : DSp := fun ds L k _ => ∃ (p : Addr) (b : Bag) (m : Int), ds = [.ptr p, .int m] ∧ L.lookup p = some (bagC b) ∧ BagOk b ∧ 0 < m ∧ m.natAbs.log2 < 9000 ∧ ∀ r b', 0 ≤ r → r < m → BagOk b' → k (.int r) (setL L p (bagC b'))
def ofS : DSp := fun ds L k _ => ∃ (p : Addr) (b : Bag) (xs : List D), ds = [.ptr p, .lst xs] ∧ L.lookup p = some (bagC b) ∧ BagOk b ∧ 0 < xs.length ∧ xs.length < 1000 ∧ ∀ d b', d ∈ xs → BagOk b' → k d (setL L p (bagC b'))
theorem con_ptr {L : Led} {p : Addr} {c : D} (h : L.lookup p = some c) : con L (.ptr p) = c := by
  show (L.lookup p).getD (.ptr p) = c
  rw [h]; rfl
theorem setL_setL (L : Led) (p : Addr) (c d : D) : setL (setL L p c) p d = setL L p d := by
  unfold setL
  rw [List.map_map]
  refine List.map_congr_left fun q _ => ?_
  show (if (if q.1 = p then (p, c) else q).1 = p then (p, d) else (if q.1 = p then (p, c) else q)) = _
  by_cases h : q.1 = p
  · simp [h]
  · simp [h]
theorem lookup_setL : ∀ {L : Led} {p : Addr} {c d : D}, L.lookup p = some c → (setL L p d).lookup p = some d
  | [], _, _, _, h => by simp at h
  | (q, e) :: L, p, c, d, h => by
    by_cases hq : q = p
    · subst hq
      show List.lookup q ((if q = q then (q, d) else (q, e)) :: setL L q d) = _
      rw [if_pos rfl]
      exact lookup_top
    · rw [setL_ne hq, lookup_ne (Ne.symm hq)]
      rw [lookup_ne (Ne.symm hq)] at h
      exact lookup_setL h
/-! data that can be compared item by item -/
mutual
def okP : D → Bool
  | .non => true | .bl _ => true | .int _ => true | .str _ => true
  | .lst xs => decide (xs.length < 100000) && okPs xs
  | .tup xs => decide (xs.length < 100000) && okPs xs
  | .ro _ => false | .dk _ _ => false | .dt _ _ => false | .obj _ _ _ => false | .exc _ _ _ => false | .fnv _ _ => false | .clo _ _ => false | .tab _ => false | .ptr _ => false | .ty _ => false
def okPs : List D → Bool
  | [] => true
  | d :: r => okP d && okPs r
end
mutual
def dep : D → Nat
  | .lst xs => deps xs + 1
  | .tup xs => deps xs + 1
  | .non => 0 | .bl _ => 0 | .int _ => 0 | .str _ => 0 | .ro _ => 0 | .dk _ _ => 0 | .dt _ _ => 0 | .obj _ _ _ => 0 | .exc _ _ _ => 0 | .fnv _ _ => 0 | .clo _ _ => 0 | .tab _ => 0 | .ptr _ => 0 | .ty _ => 0
def deps : List D → Nat
  | [] => 0
  | d :: r => max (dep d) (deps r)
end
mutual
def sameD : D → D → Bool
  | .lst xs, .lst ys => sameL xs ys
  | .tup xs, .tup ys => sameL xs ys
  | .non, .non => true
  | .bl a, .bl b => decide (a = b)
  | .int a, .int b => decide (a = b)
  | .str a, .str b => decide (a = b)
  | _, _ => false
def sameL : List D → List D → Bool
  | [], [] => true
  | x :: xs, y :: ys => sameD x y && sameL xs ys
  | _, _ => false
end
mutual
theorem sameD_refl : ∀ d : D, okP d = true → sameD d d = true
  | .non, _ => by unfold sameD; rfl
  | .bl _, _ => by unfold sameD; simp
  | .int _, _ => by unfold sameD; simp
  | .str _, _ => by unfold sameD; simp
  | .lst xs, h => by unfold sameD; exact sameL_refl xs (by unfold okP at h; rw [Bool.and_eq_true] at h; exact h.2)
  | .tup xs, h => by unfold sameD; exact sameL_refl xs (by unfold okP at h; rw [Bool.and_eq_true] at h; exact h.2)
  | .ro _, h => by simp [okP] at h
  | .dk _ _, h => by simp [okP] at h
  | .dt _ _, h => by simp [okP] at h
  | .obj _ _ _, h => by simp [okP] at h
  | .exc _ _ _, h => by simp [okP] at h
  | .fnv _ _, h => by simp [okP] at h
  | .clo _ _, h => by simp [okP] at h
  | .tab _, h => by simp [okP] at h
  | .ptr _, h => by simp [okP] at h
  | .ty _, h => by simp [okP] at h
theorem sameL_refl : ∀ ds : List D, okPs ds = true → sameL ds ds = true
  | [], _ => by unfold sameL; rfl
  | d :: r, h => by
    unfold okPs at h
    rw [Bool.and_eq_true] at h
    unfold sameL
    rw [sameD_refl d h.1, sameL_refl r h.2]; rfl
end
theorem sameL_len : ∀ {xs ys : List D}, xs.length ≠ ys.length → sameL xs ys = false
  | [], [], h => absurd rfl h
  | [], _ :: _, _ => by simp [sameL]
  | _ :: _, [], _ => by simp [sameL]
  | x :: xs, y :: ys, h => by
    unfold sameL
    rw [sameL_len (xs := xs) (ys := ys) (fun e => h (by simp [e])), Bool.and_false]
def sameS (n : Nat) : DSp := fun ds L k _ => ∃ a b, ds = [a, b] ∧ okP a = true ∧ okP b = true ∧ dep b < n ∧ k (.bl (sameD a b)) L
/-! ### gcd -/
def gcdI (a b : Int) : Int := ((Nat.gcd a.natAbs b.natAbs : Nat) : Int)
def gcdS : DSp := fun ds L k _ => ∃ a b : Int, ds = [.int a, .int b] ∧ a.natAbs < 2 ^ 1990 ∧ b.natAbs < 2 ^ 1990 ∧ k (.int (gcdI a b)) L
theorem gcdI_step {x y : Int} (hx : 0 ≤ x) (hy : 0 < y) : gcdI y (x.fmod y) = gcdI x y := by
  unfold gcdI
  rw [Int.fmod_eq_emod_of_nonneg x (Int.le_of_lt hy)]
  have h1 : (x % y).natAbs = x.natAbs % y.natAbs := by
    obtain ⟨a, rfl⟩ := Int.eq_ofNat_of_zero_le hx
    obtain ⟨b, rfl⟩ := Int.eq_ofNat_of_zero_le (Int.le_of_lt hy)
    rfl
  rw [h1, Nat.gcd_comm x.natAbs y.natAbs, Nat.gcd_rec y.natAbs x.natAbs, Nat.gcd_comm]
theorem gcdI_zero {x : Int} (hx : 0 ≤ x) : gcdI x 0 = x := by
  unfold gcdI
  rw [show (0 : Int).natAbs = 0 from rfl, Nat.gcd_zero_right]
  omega
theorem gcdI_abs (a b : Int) : gcdI (if a < 0 then -a else a) (if b < 0 then -b else b) = gcdI a b := by
  unfold gcdI
  have h : ∀ z : Int, (if z < 0 then -z else z).natAbs = z.natAbs := fun z => by split <;> omega
  rw [h, h]
theorem fmod_bounds {x y : Int} (hx : 0 ≤ x) (hy : 0 < y) : 0 ≤ x.fmod y ∧ x.fmod y < y ∧ x.fmod y ≤ x := by
  rw [Int.fmod_eq_emod_of_nonneg x (Int.le_of_lt hy)]
  have e : x = y * (x / y) + x % y := (Int.mul_ediv_add_emod x y).symm
  have q : 0 ≤ y * (x / y) := Int.mul_nonneg (Int.le_of_lt hy) (Int.ediv_nonneg hx (Int.le_of_lt hy))
  exact ⟨Int.emod_nonneg _ (by omega), Int.emod_lt_of_pos _ hy, by omega⟩

/-- Euclid's steps: the product falls by half -/
theorem half_step {x y : Int} (hy : 0 < y) (h : y ≤ x) : 2 * (y * x.fmod y) ≤ x * y := by
  obtain ⟨h0, h1, _⟩ := fmod_bounds (x := x) (y := y) (by omega) hy
  have e : x = y * (x / y) + x % y := (Int.mul_ediv_add_emod x y).symm
  have e2 : x.fmod y = x % y := Int.fmod_eq_emod_of_nonneg x (Int.le_of_lt hy)
  have q1 : 1 ≤ x / y := by
    have := Int.ediv_le_ediv hy h
    rw [Int.ediv_self (by omega)] at this
    exact this
  have q2 : y * 1 ≤ y * (x / y) := Int.mul_le_mul_of_nonneg_left q1 (Int.le_of_lt hy)
  have q3 : 2 * x.fmod y ≤ x := by rw [e2]; rw [e2] at h1; omega
  have q4 : y * (2 * x.fmod y) ≤ y * x := Int.mul_le_mul_of_nonneg_left q3 (Int.le_of_lt hy)
  rw [Int.mul_comm x y, ← Int.mul_assoc, Int.mul_comm 2 y, Int.mul_assoc]
  exact q4
/-! ### lowest terms -/
def lowI (t u : Int) : Int × Int := let g := if u < 0 then 0 - gcdI t u else gcdI t u; (t.fdiv g, u.fdiv g)
def lowS : DSp := fun ds L k _ => ∃ t u : Int, ds = [.int t, .int u] ∧ u ≠ 0 ∧ t.natAbs < 2 ^ 1990 ∧ u.natAbs < 2 ^ 1990 ∧ k (.tup [.int (lowI t u).1, .int (lowI t u).2]) L
theorem gcdI_nonneg (a b : Int) : 0 ≤ gcdI a b := Int.natCast_nonneg _
theorem gcdI_pos {a b : Int} (h : b ≠ 0) : 0 < gcdI a b := by
  unfold gcdI
  have : 0 < Nat.gcd a.natAbs b.natAbs := Nat.gcd_pos_of_pos_right _ (by omega)
  omega
theorem gcdI_dvd_left (a b : Int) : gcdI a b ∣ a := Int.natAbs_dvd_natAbs.mp (by unfold gcdI; rw [Int.natAbs_natCast]; exact Nat.gcd_dvd_left _ _)
theorem gcdI_dvd_right (a b : Int) : gcdI a b ∣ b := Int.natAbs_dvd_natAbs.mp (by unfold gcdI; rw [Int.natAbs_natCast]; exact Nat.gcd_dvd_right _ _)
theorem gcdI_le {a b : Int} (h : b ≠ 0) : gcdI a b ≤ b.natAbs := by
  unfold gcdI
  have : Nat.gcd a.natAbs b.natAbs ≤ b.natAbs := Nat.gcd_le_right _ (by omega)
  omega
theorem fdiv_exact {a g : Int} (hg : g ≠ 0) (h : g ∣ a) : a.fdiv g * g = a := by
  obtain ⟨c, rfl⟩ := h
  rw [Int.mul_comm g c, Int.mul_fdiv_cancel _ hg]
/-- what lowest terms are: t / u = p / q, q above 0, no common divisor -/
theorem lowI_spec {t u : Int} (hu : u ≠ 0) : 0 < (lowI t u).2 ∧ gcdI (lowI t u).1 (lowI t u).2 = 1 ∧ (lowI t u).1 * u = t * (lowI t u).2 := by
  have hg := gcdI_pos (a := t) hu
  have hs : ∃ s : Int, s ≠ 0 ∧ (s = gcdI t u ∨ s = - gcdI t u) ∧ lowI t u = (t.fdiv s, u.fdiv s) ∧ (0 < u → 0 < s) ∧ (u < 0 → s < 0) := by
    unfold lowI
    by_cases h : u < 0
    · exact ⟨0 - gcdI t u, by omega, by omega, by simp only [if_pos h], by omega, by omega⟩
    · exact ⟨gcdI t u, by omega, by omega, by simp only [if_neg h], by omega, by omega⟩
  obtain ⟨s, s0, s1, e, sp, sn⟩ := hs
  have d1 : s ∣ t := by
    rcases s1 with h | h
    · rw [h]; exact gcdI_dvd_left t u
    · rw [h]; exact Int.neg_dvd.mpr (gcdI_dvd_left t u)
  have d2 : s ∣ u := by
    rcases s1 with h | h
    · rw [h]; exact gcdI_dvd_right t u
    · rw [h]; exact Int.neg_dvd.mpr (gcdI_dvd_right t u)
  have e1 := fdiv_exact s0 d1
  have e2 := fdiv_exact s0 d2
  rw [e]
  dsimp only
  generalize t.fdiv s = p at *
  generalize u.fdiv s = q at *
  have hq : 0 < q := by
    rcases Int.lt_or_lt_of_ne hu with h | h
    · have := sn h
      rcases Int.lt_trichotomy q 0 with z | z | z
      · have := Int.mul_pos_of_neg_of_neg z this; omega
      · rw [z] at e2; omega
      · exact z
    · have := sp h
      rcases Int.lt_trichotomy q 0 with z | z | z
      · have := Int.mul_neg_of_neg_of_pos z this; omega
      · rw [z] at e2; omega
      · exact z
  refine ⟨hq, ?_, ?_⟩
  · have sa : s.natAbs = Nat.gcd t.natAbs u.natAbs := by
      have : (gcdI t u).natAbs = Nat.gcd t.natAbs u.natAbs := by unfold gcdI; rw [Int.natAbs_natCast]
      rcases s1 with h | h
      · rw [h, this]
      · rw [h, Int.natAbs_neg, this]
    have ta : t.natAbs = p.natAbs * s.natAbs := by rw [← e1, Int.natAbs_mul]
    have ua : u.natAbs = q.natAbs * s.natAbs := by rw [← e2, Int.natAbs_mul]
    have hs0 : 0 < s.natAbs := by omega
    have k : Nat.gcd p.natAbs q.natAbs * s.natAbs = 1 * s.natAbs := by
      rw [← Nat.gcd_mul_right, ← ta, ← ua, ← sa, Nat.one_mul]
    unfold gcdI
    rw [Nat.eq_of_mul_eq_mul_right hs0 k]
    rfl
  · have e1' : t = p * s := e1.symm
    have e2' : u = q * s := e2.symm
    rw [e1', e2', Int.mul_assoc, Int.mul_comm s q]
theorem lowI_small {t u : Int} (hu : u ≠ 0) : (lowI t u).1.natAbs ≤ t.natAbs ∧ (lowI t u).2.natAbs ≤ u.natAbs := by
  have key : ∀ a s : Int, s ≠ 0 → s ∣ a → (a.fdiv s).natAbs ≤ a.natAbs := fun a s h0 h => by
    have e := congrArg Int.natAbs (fdiv_exact h0 h)
    rw [Int.natAbs_mul] at e
    have : 1 ≤ s.natAbs := by omega
    calc (a.fdiv s).natAbs = (a.fdiv s).natAbs * 1 := (Nat.mul_one _).symm
      _ ≤ (a.fdiv s).natAbs * s.natAbs := Nat.mul_le_mul_left _ this
      _ = a.natAbs := e
  have hg := gcdI_pos (a := t) hu
  unfold lowI
  by_cases h : u < 0
  · simp only [if_pos h]
    have z : (0 : Int) - gcdI t u = - gcdI t u := by omega
    rw [z]
    exact ⟨key t _ (by omega) (Int.neg_dvd.mpr (gcdI_dvd_left t u)), key u _ (by omega) (Int.neg_dvd.mpr (gcdI_dvd_right t u))⟩
  · simp only [if_neg h]
    exact ⟨key t _ (by omega) (gcdI_dvd_left t u), key u _ (by omega) (gcdI_dvd_right t u)⟩
/-- a ratio: lowest terms -/
structure Low (p q : Int) : Prop where
  pos : 0 < q
  one : gcdI p q = 1
def ratS : DSp := fun ds L k _ => ∃ (b : Addr) (g : Bag) (h u : Int), ds = [.ptr b, .int h, .int u] ∧ L.lookup b = some (bagC g) ∧ BagOk g ∧ 0 ≤ h ∧ h < 2 ^ 1900 ∧ 0 < u ∧ u < 2 ^ 1900 ∧
  ∀ p q g', Low p q → -h ≤ p → p ≤ h → q ≤ u → BagOk g' → k (.tup [.int p, .int q]) (setL L b (bagC g'))
/-! ### loops by a word -/
theorem forD_inv {dg : DG} {db : DS} {En : DEnds} (I : DEnv → Led → Prop) (hn : ∀ env L, I env L → En.nx env L) : ∀ (ds : List D), (∀ (E' : DEnds) (d : D) (env : DEnv) (L : Led), d ∈ ds → E'.rt = En.rt → E'.ex = En.ex → I env L → (∀ env' L', I env' L' → E'.nx env' L') → dg d env L fun env1 => db E' env1 L) →
    ∀ (env : DEnv) (L : Led), I env L → forD dg db En ds env L
  | [], _, env, L, hi => by rw [forD_nil]; exact hn env L hi
  | d :: ds, hb, env, L, hi => by
    rw [forD_cons]
    exact hb _ d env L List.mem_cons_self rfl rfl hi fun env' L' hi' => forD_inv I hn ds (fun E' d env L hd => hb E' d env L (List.mem_cons_of_mem _ hd)) env' L' hi'
theorem setL_one {p : Addr} {c d : D} : setL [(p, c)] p d = [(p, d)] := setL_top (by simp [inL])
theorem lt1990 {n : Nat} (h : n < 10 ^ 70) : n < 2 ^ 1990 := Nat.lt_trans h (by decide +kernel)
theorem log_le {n : Nat} (h : n < 2 ^ 1000) : n.log2 < 9000 := by
  by_cases h0 : n = 0
  · subst h0; decide +kernel
  · have : n.log2 < 1000 := (Nat.log2_lt h0).mpr h
    omega
theorem sz_ok {n : Nat} (h : Nat.ble n 1000 = true) : n ≤ sizeLine := Nat.le_trans (Nat.le_of_ble_eq_true h) (by decide)
end DL

namespace DL
open PySem PySem.Spec PyProof.Rows L2
/-- as walk_of, the loose names' values told -/
theorem walk_ofX {l : PySem.W.OpenLaw} {n k : Nat} {q : Program} {loose : List Str} {XP : (Str → Option Value) → Heap → Prop} {YP : World → Heap → Prop} {d : DefRec} {K : Params → PySem.W.Frag} {CX : World → CXT} {sp : World → Sp} {x : Str}
    (hn : l.most = some n) (hn2 : n ≤ sizeLine) (hdf : d.params.defaults = []) (hr : Room k callerA)
    (hY : ∀ (w : World) (h : Heap), YP w h → (K w.params).In h)
    (F : ∀ (w : World) (mg : Str → Option Value) (fa : Addr) (h : Heap), (K w.params).In h → XP mg h → h.Ns mainGlobals mg → mg d.name = some (.ref fa) →
      ∃ fd : FuncData, (∀ (s : Shared) (u : Value), BindsTo s fd ⟨[u], []⟩ [(x, u)]) ∧
        ∀ base : Heap, (K w.params).In base → base.Ns mainGlobals mg → FnOk l.prog w (K w.params) mg base (CX w) k fa fd [x] (sp w))
    (hsp : ∀ (w : World) (H : Hp) (a : Addr) (ns : List Int), ns.length ≤ n → Only H → SqL (K w.params) H a (ns.map V.int) → sp w [.ref a] H (fun v _ => v = .bl true) fun _ _ _ => False)
    (hCX : ∀ (w : World) (H : Hp) (s : Shared) (e : Value) (s' : Shared), CX w [] H s (fun _ _ _ => False) e s' → False) :
    PySem.W.WalkO q loose XP YP l.row.toRowW d [] (fun f vs => PySem.call f vs) := by
  refine Att.attach_call hn hdf fun w s₀ s₁ mg mb fa o pm cd doc a vs ns G Y ho hd hcd hmg hobj hints hlen hg => ?_
  have KX := hY w _ Y
  obtain ⟨fd, hb, hF⟩ := F w mg fa _ KX G.X G.T.g hmg
  exact law_call KX G.T.g G.T.b G.T.builtins G.T.nolimit hg hobj hints (Nat.le_trans hlen hn2) hr hF hb (fun H hO hS => hsp w H a ns hlen hO hS) fun H e s' => hCX w H s₁ e s'
theorem loose_int {p : Program} {lv : List (Str × PySem.W.WData)} {mg : Str → Option Value} {h : Heap} (X : PySem.W.XL p lv mg h) {x : Str} {n : Int} (hx : (x, PySem.W.WData.int n) ∈ lv) : ∃ t, mg x = some (.int n t) := by
  obtain ⟨v, h1, h2⟩ := X.2.val _ hx
  cases h2 with
  | int i t => exact ⟨t, h1⟩
end DL

namespace DL
open PySem PySem.Spec PyProof.Rows L2
section
variable {X : Cx} {Wx : WX} {a b c e o : Expr} {es rest : List Expr} {da db dc de do' : DE} {dt du : DT} {dl dk : DA} {pos : Pos}
/-! ### a field of an error -/
theorem lookup_rp {L : Led} {K : PySem.W.Frag} {H : Hp} {f : Str} : ∀ {ns : List Str} {xs : List V} {ds : List D} {d : D}, RpAll L K H xs ds → (ns.zip ds).lookup f = some d → ∃ v, (ns.zip xs).lookup f = some v ∧ Rp L K H v d
  | [], _, _, _, _, h => by simp at h
  | _ :: _, _, _, _, .nil, h => by simp at h
  | n :: ns, _, _, d, .cons (v := v) (vs := vs) (d := e) (ds := ds) r t, h => by
    by_cases hf : f = n
    · subst hf
      have h' : List.lookup f ((f, e) :: ns.zip ds) = some d := h
      rw [List.lookup_cons_self] at h'
      cases h'
      exact ⟨v, List.lookup_cons_self, r⟩
    · have q : (f == n) = false := by simpa using hf
      have h' : List.lookup f ((n, e) :: ns.zip ds) = some d := h
      rw [List.lookup_cons, q] at h'
      obtain ⟨w, h1, h2⟩ := lookup_rp t h'
      refine ⟨w, ?_, h2⟩
      show List.lookup f ((n, v) :: ns.zip vs) = some w
      rw [List.lookup_cons, q]
      exact h1
def tAtE (K : PySem.W.Frag) (f : Str) (te : TE) : TE := fun σ H Q => te σ H fun x H1 => ∃ (a C d : Addr) (φ : Heap → Prop) (fs : List (Str × V)) (v : V), x = .ref a ∧ H1 a = some (.ext φ) ∧ (∀ h, φ h → ExcAt h a C d) ∧ XDict H1 d fs ∧ XfC K C ∧ PySem.W.findIn K (.ref C) f = some none ∧ fs.lookup f = some v ∧ Q v H1
theorem pe_atE {te : TE} {f : Str} (he : PE X e te) (hb : attributeBase e f X.env (eval e X.env) = eval e X.env := by rfl) : PE X (.Attribute e f pos) (tAtE X.K f te) := by
  refine ⟨fun pins s σ H Q I h => ?_⟩
  refine attr_of hb (thn (he.run pins s σ H _ I h) fun u s1 hh => ?_)
  obtain ⟨x, H1, I1, rx, a, C, d, φ, fs, v, ex, ea, hφ, xd, T, hno, l, q⟩ := hh
  subst ex
  obtain rfl : u = Value.ref a := rx
  have ob : φ s1.heap := by
    have z : ObjOk X.prog X.w H1 s1.heap a (.ext φ) := I1.hok a _ ea
    exact z.1
  obtain ⟨oe, vs, ha, hc, hdd, hdat⟩ := hφ _ ob
  have ns : ∃ mA, s1.heap.Ns1 d mA ∧ ∀ f, RelO (fs.lookup f) (mA f) := by
    rcases xd with xd | xd
    · exact (show ObjOk X.prog X.w H1 s1.heap d (.xd fs) from I1.hok d _ xd)
    · exact exd_at I1.hok xd
  obtain ⟨mA, hns, hr⟩ := ns
  obtain ⟨od, ho, hl⟩ := lookIn_ns hns
  obtain ⟨u, hu, ru⟩ := RelO.some_of (v := v) (o := mA f) (by rw [← l]; exact hr f)
  have J : PySem.W.InstAt s1.heap a oe C (some od) := ⟨ha, hc, by unfold PySem.W.notCls; rw [hdat] <;> rfl, by rw [hdd]; exact ho⟩
  exact HandSPX.exc_get I1.kIn J T.ga T.gg T.exC (PySem.W.findObj_own T.hdC hno rfl (by rw [hl, hu])) (handed_of ru) ⟨v, H1, I1.tok _, ru, q⟩
/-- what the written part must say of a class whose errors' field f is read -/
def FldOk (K : PySem.W.Frag) (C : Addr) (f : Str) : Prop := XfC K C ∧ PySem.W.findIn K (.ref C) f = some none
def dAtE (K : PySem.W.Frag) (f : Str) (da : DE) : DE := fun env L k x => da env L (fun a L1 => match a with
  | .exc C ns vs => FldOk K C f ∧ match (ns.zip vs).lookup f with
    | some d => k d L1
    | none => False
  | _ => False) x
theorem q_atE {f : Str} (he : QE X Wx e da) (hb : attributeBase e f X.env (eval e X.env) = eval e X.env := by rfl) : QE X Wx (.Attribute e f pos) (dAtE X.K f da) := by
  obtain ⟨ta, pa, sa⟩ := he.ex
  refine ⟨_, pe_atE pa hb, fun σ H env L k x Q st h hk hx => ?_⟩
  refine sa σ H env L _ x _ st h (fun a L1 va H1 h1 g1 j1 r1 => ?_) hx
  cases r1 <;> first | exact h1.elim | skip
  rename_i n m ea hφ xd el rv
  obtain ⟨fo, h1⟩ := h1
  split at h1
  · rename_i d hl
    obtain ⟨v, hv, rd⟩ := lookup_rp rv hl
    exact ⟨_, _, _, _, _, v, rfl, ea, hφ, xd, fo.1, fo.2, hv, hk _ L1 _ H1 h1 g1 j1 rd⟩
  · exact h1.elim
/-! ### raise C(..), C an own class over ValueError whose __init__ stores code and one field, or code alone -/
def spI1 (C : Addr) (code f : Str) : Sp := fun vs H Q _ => ∃ (a : Addr) (v : V), vs = [.ref a, v] ∧ H a = some (exo a C none) ∧ ∀ d, H d = none → d ≠ a → Q .non (upd (upd (upd H d (exd d [("code", .str code)])) a (exo a C (some d))) d (exd d [(f, v), ("code", .str code)]))
def spI0 (C : Addr) (code : Str) : Sp := fun vs H Q _ => ∃ (a : Addr), vs = [.ref a] ∧ H a = some (exo a C none) ∧ ∀ d, H d = none → d ≠ a → Q .non (upd (upd H d (exd d [("code", .str code)])) a (exo a C (some d)))
/-- one field alone: Halt(end) -/
def spIf (C : Addr) (f : Str) : Sp := fun vs H Q _ => ∃ (a : Addr) (v : V), vs = [.ref a, v] ∧ H a = some (exo a C none) ∧ ∀ d, H d = none → d ≠ a → Q .non (upd (upd H d (exd d [(f, v)])) a (exo a C (some d)))
/-- an own error class by name: what is needed to make one -/
structure ExCls (P : Program) (w : World) (K : PySem.W.Frag) (mg : Str → Option Value) (base : Heap) (x : Str) (C : Addr) (ps : List Str) (sp : Sp) : Prop where
  oex : OexC K C
  gC : mg x = some (.ref C)
  make_ : ∃ (fI : Addr) (fd : FuncData), PySem.W.findIn K (.ref C) "__init__" = some (some (.ref fI)) ∧ PySem.W.typeIn K (.ref fI) = some (.type "function") ∧ FnOk P w K mg base (L2.CX P w) 1 fI fd ps sp ∧ Binds K fd ps []
def dRaise1 (C : Addr) (code f : Str) (dl : DA) : DS := fun D env L => dl env L (fun ds L1 => match ds with
  | [v] => D.ex ⟨.ref C, [f, "code"], [v, .str code]⟩ env L1
  | _ => False) D.ex
theorem ex_free {H : Hp} {a d : Addr} {o o2 : HO} (ha : H a = none) (hd : (upd H a o) d = none) (hne : d ≠ a) : H d = none := by rw [upd_ne hne] at hd; exact hd
theorem s_raise1 {x : Str} {C : Addr} {ps : List Str} {code f : Str} {p pos2 : Pos} {k : Nat} (T : ExCls X.prog X.w X.K X.mg X.base x C ps (spI1 C code f)) (hcalm : X.calm = true) (hr : Room k X.A) (h2 : 2 ≤ k) (tk : Takes X Wx) (hg : Gl X x) (ha : QA X Wx [e] dl)
    (hdb : (x == ("__debug__" : Str)) = false := by decide) (he : starEach [e] X.env = (false, eval e X.env) :: starEach [] X.env := by rfl) (hpl : (backTo pos (starEach [] X.env)).any (·.1) = false := by rfl) :
    QS X Wx (.Raise (some (.Call (.Name x p) [e] [] pos)) none pos2) (dRaise1 C code f dl) := by
  obtain ⟨fI, fd, iC, tI, F1, hb⟩ := T.make_
  obtain ⟨ta, pa, sa⟩ := ha.ex
  refine ⟨_, ps_raise (W := Wx) hcalm tk (pmk_oex T.oex iC tI F1 (hr.mono h2) hb .nil (fun _ _ _ _ _ _ _ h => by obtain ⟨_, _, _, _, _, _, _, _, _, _, _, _, z⟩ := h; exact z.elim) hg T.gC pa hdb he hpl), fun σ H env L D' D st h ok => ?_⟩
  refine sa σ H env L _ _ _ st h (fun ds L1 vs H1 h1 g1 j1 r1 => ?_) ok.ex
  split at h1
  · rename_i v
    cases r1 with
    | cons rv r2 =>
      cases r2
      rename_i vv
      refine ⟨by simp, fun q hq => ⟨q, vv, rfl, upd_same, fun d hd hne => ?_⟩⟩
      have hd1 : H1 d = none := by rw [upd_ne hne] at hd; exact hd
      refine ⟨rfl, d, _, ?_, upd_same, hd1, ?_⟩
      · rw [upd_ne (Ne.symm hne), upd_same]
      · have s : Same H1 (upd (del (upd (upd (upd (upd H1 q (exo q C none)) d (exd d [("code", .str code)])) q (exo q C (some d))) d (exd d [(f, vv), ("code", .str code)])) q) d (.xd [(f, vv), ("code", .str code)])) := fun b u hb => by
          have n1 : b ≠ q := ne_of_none hb hq
          have n2 : b ≠ d := ne_of_none hb hd1
          rw [upd_ne n2, del_ne n1, upd_ne n2, upd_ne n1, upd_ne n2, upd_ne n1]
          exact hb
        have g2 := g1.trans (Go.same (L := L1) s)
        have j2 := j1.same s
        exact ok.ex ⟨.ref C, [f, "code"], [v, .str code]⟩ env L1 d _ σ h1 g2 (st.go g2 j2) ⟨j1.notIn hd1, [vv, .str code], upd_same, rfl, .cons (rv.go (Go.same s)) (.cons (.str code) .nil)⟩
  · exact h1.elim
end
end DL

namespace DL
open PySem PySem.Spec PyProof.Rows L2
/-! ### cells that are known for a while -/
abbrev Cel := Addr → Option Obj
def addC (cel : Cel) (H : Hp) : Hp := fun b => match cel b with
  | some o => some (celO o)
  | none => H b
def delC (cel : Cel) (H : Hp) : Hp := fun b => match cel b with
  | some _ => none
  | none => H b
section
variable {cel : Cel} {H H' : Hp} {b : Addr} {o : Obj}
theorem addC_in (h : cel b = some o) : addC cel H b = some (celO o) := by unfold addC; rw [h]
theorem addC_out (h : cel b = none) : addC cel H b = H b := by unfold addC; rw [h]
theorem delC_in (h : cel b = some o) : delC cel H b = none := by unfold delC; rw [h]
theorem delC_out (h : cel b = none) : delC cel H b = H b := by unfold delC; rw [h]
end
/-- what the cells' objects are ahead of a call -/
structure CelOk (cel : Cel) (H : Hp) (h : Heap) (fs : List Addr) : Prop where
  at_ : ∀ b o, cel b = some o → h.get? b = some o
  free : ∀ b o, cel b = some o → H b = none
  nofr : ∀ b o, cel b = some o → b ∉ fs
section
variable {P : Program} {w : World} {K : PySem.W.Frag} {mg : Str → Option Value} {base : Heap} {cel : Cel} {H H' : Hp} {h h' B : Heap} {fs : List Addr} {outer : List Env} {s s' : Shared} {A : Around} {Q : VK} {E : XK}
theorem cel_none (c : CelOk cel H h fs) {b : Addr} {u : HO} (e : H b = some u) : cel b = none := by
  cases q : cel b with
  | none => rfl
  | some o => rw [c.free b o q] at e; cases e
theorem hok_add (c : CelOk cel H h fs) (x : HOk P w H h) : HOk P w (addC cel H) h := fun a u e => by
  cases q : cel a with
  | some o =>
    rw [addC_in q] at e
    cases e
    exact ⟨c.at_ a o q, o, c.at_ a o q⟩
  | none =>
    rw [addC_out q] at e
    exact (x a u e).stay (fun _ _ _ z => z) (fun d z => by rw [addC_out (cel_none c z)]; exact z) fun d xs z => by rw [addC_out (cel_none c z)]; exact z
/-- known ones go out of sight -/
theorem hok_del {H1 : Hp} (hc : ∀ b o, cel b = some o → H1 b = some (celO o)) (x : HOk P w H1 h) : HOk P w (delC cel H1) h := fun a u e => by
  cases q : cel a with
  | some o => rw [delC_in q] at e; cases e
  | none =>
    rw [delC_out q] at e
    have out : ∀ d z, H1 d = some z → (∀ o, z ≠ celO o) → cel d = none := fun d z e n => by
      cases q : cel d with
      | none => rfl
      | some o => rw [hc d o q] at e; exact absurd (Option.some.inj e).symm (n o)
    exact (x a u e).stay (fun _ _ _ z => z) (fun d z => by rw [delC_out (out d _ z fun o e => by cases e)]; exact z) fun d xs z => by rw [delC_out (out d _ z fun o e => by cases e)]; exact z
theorem env0_add (c : CelOk cel H s.heap (frs outer)) (hb : ∀ b o, cel b = some o → base.get? b = none) (e : Env0 P w K mg base A outer s H) : Env0 P w K mg base A outer s (addC cel H) := by
  refine ⟨e.frames, e.mod, fun b o q => ⟨(e.bs b o q).1, ?_⟩, e.bsz, e.funs, fun b hb => ?_, hok_add c e.hok, e.bare⟩
  · have z : cel b = none := by
      cases q2 : cel b with
      | none => rfl
      | some o2 => rw [hb b o2 q2] at q; cases q
    rw [addC_out z]
    exact (e.bs b o q).2
  · have z : cel b = none := by
      cases q2 : cel b with
      | none => rfl
      | some o2 => exact absurd hb (c.nofr b o2 q2)
    rw [addC_out z]
    exact e.frf b hb
theorem env0_del (hc : ∀ b o, cel b = some o → H b = some (celO o)) (e : Env0 P w K mg base A outer s H) : Env0 P w K mg base A outer s (delC cel H) := by
  have nn : ∀ b, H b = none → delC cel H b = none := fun b z => by
    cases q : cel b with
    | none => rw [delC_out q]; exact z
    | some o => exact delC_in q
  exact ⟨e.frames, e.mod, fun b o q => ⟨(e.bs b o q).1, nn b (e.bs b o q).2⟩, e.bsz, e.funs, fun b hb => nn b (e.frf b hb), hok_del hc e.hok, e.bare⟩
/-- behind a call that was made with the cells known -/
theorem un_del (c : CelOk cel H h fs) (hok : HOk P w H' h') (u : Un fs [] (addC cel H) H' h h') : Un fs [] H (delC cel H') h h' := by
  have kn : ∀ b o, cel b = some o → H' b = some (celO o) := fun b o q => u.frzs b o _ (addC_in q)
  refine ⟨fun b o e n hb hx => ?_, fun b o e n hb hx => ?_, fun b o e n hx => ?_, fun b o e hx => u.there b o e hx, fun b xs q => ?_, fun b o v q => ?_, fun b ps q => ?_⟩
  · cases q : cel b with
    | some o' =>
      have e1 : h'.get? b = some o' := (hok b _ (kn b o' q)).1
      have e2 := c.at_ b o' q
      rw [e] at e2
      cases e2
      exact e1
    | none => exact u.keep b o e (by rw [addC_out q]; exact n) hb hx
  · cases q : cel b with
    | some o' => exact absurd hb (c.nofr b o' q)
    | none => exact u.slot b o e (by rw [addC_out q]; exact n) hb hx
  · cases q : cel b with
    | some o' => exact delC_in q
    | none => rw [delC_out q]; exact u.free b o e (by rw [addC_out q]; exact n) hx
  · have z := cel_none c q
    rw [delC_out z]
    exact u.tups b xs (by rw [addC_out z]; exact q)
  · have z := cel_none c q
    rw [delC_out z]
    exact u.frzs b o v (by rw [addC_out z]; exact q)
  · have z := cel_none c q
    rw [delC_out z]
    exact u.tbls b ps (by rw [addC_out z]; exact q)
theorem ub_del (c : CelOk cel H h fs) (hok : HOk P w H' B) (u : UB fs (addC cel H) H' h B h') : UB fs H (delC cel H') h B h' := by
  have kn : ∀ b o, cel b = some o → H' b = some (celO o) := fun b o q => u.frzs b o _ (addC_in q)
  refine ⟨fun b o e n hb => ?_, u.slot, fun b o e n => ?_, u.there, fun b xs q => ?_, fun b o v q => ?_, fun b ps q => ?_⟩
  · cases q : cel b with
    | some o' =>
      have e1 : B.get? b = some o' := (hok b _ (kn b o' q)).1
      have e2 := c.at_ b o' q
      rw [e] at e2
      cases e2
      exact e1
    | none => exact u.keep b o e (by rw [addC_out q]; exact n) hb
  · cases q : cel b with
    | some o' => exact delC_in q
    | none => rw [delC_out q]; exact u.free b o e (by rw [addC_out q]; exact n)
  · have z := cel_none c q
    rw [delC_out z]
    exact u.tups b xs (by rw [addC_out z]; exact q)
  · have z := cel_none c q
    rw [delC_out z]
    exact u.frzs b o v (by rw [addC_out z]; exact q)
  · have z := cel_none c q
    rw [delC_out z]
    exact u.tbls b ps (by rw [addC_out z]; exact q)
theorem cr_del (c : CelOk cel H s.heap (frs outer)) {r : Result} (h : CR (L2.CX P w) outer P w (addC cel H) s (fun v H' => Q v (delC cel H')) (fun cls d H' => E cls d (delC cel H')) r s') : CR (L2.CX P w) outer P w H s Q E r s' := by
  cases r with
  | ok fl =>
    cases fl with
    | ret u =>
      obtain ⟨v, H', os, bare, un, hok, rv, q⟩ := h
      exact ⟨v, delC cel H', os, bare, un_del c hok un, hok_del (fun b o e => un.frzs b o _ (addC_in e)) hok, rv, q⟩
    | next => exact h
    | brk => exact h
    | cont => exact h
  | error e =>
    obtain ⟨a, B, H', cls, d, eq, fly, hok, ub, na, os, bare, q⟩ := h
    refine ⟨a, B, delC cel H', cls, d, eq, fly, hok_del (fun b o e => ub.frzs b o _ (addC_in e)) hok, ub_del c hok ub, ?_, os, bare, q⟩
    cases q : cel a with
    | some o => exact delC_in q
    | none => rw [delC_out q]; exact na
/-- behind a call that was made with known cells out of sight -/
theorem un_add (hc : ∀ b o, cel b = some o → H b = some (celO o)) (u : Un fs [] (delC cel H) H' h h') : Un fs [] H (addC cel H') h h' := by
  have out : ∀ b, H b = none → cel b = none := fun b z => by
    cases q : cel b with
    | none => rfl
    | some o => rw [hc b o q] at z; cases z
  have out2 : ∀ d z, H d = some z → (∀ o, z ≠ celO o) → cel d = none := fun d z e n => by
    cases q : cel d with
    | none => rfl
    | some o => rw [hc d o q] at e; exact absurd (Option.some.inj e).symm (n o)
  refine ⟨fun b o e n hb hx => u.keep b o e (by rw [delC_out (out b n)]; exact n) hb hx, fun b o e n hb hx => u.slot b o e (by rw [delC_out (out b n)]; exact n) hb hx, fun b o e n hx => ?_, u.there, fun b xs q => ?_, fun b o v q => ?_, fun b ps q => ?_⟩
  · rw [addC_out (out b n)]
    exact u.free b o e (by rw [delC_out (out b n)]; exact n) hx
  · have z := out2 b _ q (fun o e => by cases e)
    rw [addC_out z]
    exact u.tups b xs (by rw [delC_out z]; exact q)
  · cases z : cel b with
    | some o' =>
      rw [hc b o' z] at q
      rw [addC_in z]
      exact q
    | none =>
      rw [addC_out z]
      exact u.frzs b o v (by rw [delC_out z]; exact q)
  · have z := out2 b _ q (fun o e => by cases e)
    rw [addC_out z]
    exact u.tbls b ps (by rw [delC_out z]; exact q)
theorem ub_add (hc : ∀ b o, cel b = some o → H b = some (celO o)) (u : UB fs (delC cel H) H' h B h') : UB fs H (addC cel H') h B h' := by
  have out : ∀ b, H b = none → cel b = none := fun b z => by
    cases q : cel b with
    | none => rfl
    | some o => rw [hc b o q] at z; cases z
  have out2 : ∀ d z, H d = some z → (∀ o, z ≠ celO o) → cel d = none := fun d z e n => by
    cases q : cel d with
    | none => rfl
    | some o => rw [hc d o q] at e; exact absurd (Option.some.inj e).symm (n o)
  refine ⟨fun b o e n hb => u.keep b o e (by rw [delC_out (out b n)]; exact n) hb, u.slot, fun b o e n => ?_, u.there, fun b xs q => ?_, fun b o v q => ?_, fun b ps q => ?_⟩
  · rw [addC_out (out b n)]
    exact u.free b o e (by rw [delC_out (out b n)]; exact n)
  · have z := out2 b _ q (fun o e => by cases e)
    rw [addC_out z]
    exact u.tups b xs (by rw [delC_out z]; exact q)
  · cases z : cel b with
    | some o' =>
      rw [hc b o' z] at q
      rw [addC_in z]
      exact q
    | none =>
      rw [addC_out z]
      exact u.frzs b o v (by rw [delC_out z]; exact q)
  · have z := out2 b _ q (fun o e => by cases e)
    rw [addC_out z]
    exact u.tbls b ps (by rw [delC_out z]; exact q)
theorem hok_back (ca : ∀ b o, cel b = some o → h'.get? b = some o) (cn : ∀ b o, cel b = some o → H' b = none) (x : HOk P w H' h') : HOk P w (addC cel H') h' := hok_add (fs := []) ⟨ca, cn, fun _ _ _ z => by cases z⟩ x
theorem cr_add (hc : ∀ b o, cel b = some o → H b = some (celO o)) (hh : HOk P w H s.heap) (hf : ∀ b ∈ frs outer, H b = none) {r : Result} (h : CR (L2.CX P w) outer P w (delC cel H) s (fun v H' => (∀ b o, cel b = some o → H' b = none) → Q v (addC cel H')) (fun cls d H' => (∀ b o, cel b = some o → H' b = none) → E cls d (addC cel H')) r s') : CR (L2.CX P w) outer P w H s Q E r s' := by
  have at_ : ∀ b o, cel b = some o → s.heap.get? b = some o := fun b o q => (hh b _ (hc b o q)).1
  have nf : ∀ b o, cel b = some o → b ∉ frs outer := fun b o q z => by have := hf b z; rw [hc b o q] at this; cases this
  cases r with
  | ok fl =>
    cases fl with
    | ret u =>
      obtain ⟨v, H', os, bare, un, hok, rv, q⟩ := h
      have cn : ∀ b o, cel b = some o → H' b = none := fun b o e => un.free b o (at_ b o e) (delC_in e) (by simp)
      exact ⟨v, addC cel H', os, bare, un_add hc un, hok_back (fun b o e => un.keep b o (at_ b o e) (delC_in e) (nf b o e) (by simp)) cn hok, rv, q cn⟩
    | next => exact h
    | brk => exact h
    | cont => exact h
  | error e =>
    obtain ⟨a, B, H', cls, d, eq, fly, hok, ub, na, os, bare, q⟩ := h
    have cn : ∀ b o, cel b = some o → H' b = none := fun b o e => ub.free b o (at_ b o e) (delC_in e)
    have ca : ∀ b o, cel b = some o → B.get? b = some o := fun b o e => ub.keep b o (at_ b o e) (delC_in e) (nf b o e)
    refine ⟨a, B, addC cel H', cls, d, eq, fly, hok_back ca cn hok, ub_add hc ub, ?_, os, bare, q cn⟩
    cases z : cel a with
    | some o =>
      have e1 := ca a o z
      obtain ⟨_, na2, _⟩ := id fly
      rw [na2] at e1
      cases e1
    | none => rw [addC_out z]; exact na
end
end DL

namespace DL
open PySem PySem.Spec PyProof.Rows L2
mutual
/-- no lambda with known cells within -/
def pln : D → Bool
  | .clo _ _ => false
  | .lst xs => plns xs
  | .tup xs => plns xs
  | .ro xs => plns xs
  | .dk _ xs => plns xs
  | .dt _ xs => plns xs
  | .obj _ _ xs => plns xs
  | .exc _ _ xs => plns xs
  | .non => true | .bl _ => true | .int _ => true | .str _ => true | .fnv _ _ => true | .tab _ => true | .ptr _ => true | .ty _ => true
def plns : List D → Bool
  | [] => true
  | d :: r => pln d && plns r
end
def plnL (L : Led) : Bool := plns (L.map (·.2))
theorem plns_map {α : Type} {f : α → D} (h : ∀ a, pln (f a) = true) : ∀ l : List α, plns (l.map f) = true
  | [] => by unfold plns; rfl
  | a :: r => by
    show plns (f a :: r.map f) = true
    unfold plns
    rw [h a, plns_map h r]; rfl
theorem plns_mem : ∀ {l : List D} {d : D}, plns l = true → d ∈ l → pln d = true
  | [], _, _, h => by cases h
  | a :: r, d, p, h => by
    unfold plns at p
    have p := Bool.and_eq_true_iff.mp p
    rcases List.mem_cons.mp h with e | e
    · rw [e]; exact p.1
    · exact plns_mem p.2 e
theorem plns_append : ∀ {a b : List D}, plns a = true → plns b = true → plns (a ++ b) = true
  | [], _, _, h => h
  | x :: a, b, p, h => by
    unfold plns at p
    have p := Bool.and_eq_true_iff.mp p
    show plns (x :: (a ++ b)) = true
    unfold plns
    rw [p.1, plns_append p.2 h]; rfl
section
variable {L : Led} {K : PySem.W.Frag} {H : Hp} {cel : Cel}
section
variable (hc : ∀ b o, cel b = some o → H b = some (celO o))
theorem del_keep {b : Addr} {u : HO} (hc : ∀ b o, cel b = some o → H b = some (celO o)) (e : H b = some u) (n : ∀ o, u ≠ celO o) : delC cel H b = some u := by
  have z : cel b = none := by
    cases q : cel b with
    | none => rfl
    | some o => rw [hc b o q] at e; exact absurd (Option.some.inj e).symm (n o)
  rw [delC_out z]
  exact e
include hc
theorem rd_del {a : Addr} {u : HO} (h : Rd H a u) (n : ∀ o, u ≠ celO o) (n2 : ∀ x, u ≠ .own x) : Rd (delC cel H) a u := by
  rcases h with h | ⟨o, h⟩
  · exact .inl (del_keep hc h n)
  · refine .inr ⟨o, del_keep hc h fun o' e => ?_⟩
    have e2 : u = .own 0 := by cases e; rfl
    exact n2 0 e2
theorem fnv_del {f : Addr} {F : LamF} {cl : List (Str × Addr)} (h : FnvAt L H f F cl) : FnvAt L (delC cel H) f F cl := by
  obtain ⟨nf, c, dV, h1, n2, h2, h3⟩ := h
  refine ⟨nf, c, dV, del_keep hc h1 fun o e => ?_, n2, del_keep hc h2 fun o e => ?_, ?_⟩
  · unfold LamO at e; cases e
  · unfold LamX.CodeO at e; cases e
  · rcases h3 with h3 | ⟨z, t, e, n, h3⟩
    · exact .inl h3
    · exact .inr ⟨z, t, e, n, del_keep hc h3 fun o e => by cases e⟩
end
mutual
theorem Rp.del (hc : ∀ b o, cel b = some o → H b = some (celO o)) : ∀ {v : V} {d : D}, pln d = true → Rp L K H v d → Rp L K (delC cel H) v d
  | _, _, _, .non => .non
  | _, _, _, .bl b => .bl b
  | _, _, _, .int i => .int i
  | _, _, _, .str x => .str x
  | _, _, _, .ty n => .ty n
  | _, _, _, .ptr a => .ptr a
  | _, _, p, .lst n h r => .lst n (del_keep hc h fun o e => by cases e) (RpAll.del hc (by simpa only [pln] using p) r)
  | _, _, p, .ro s r => .ro (s.elim (fun z => .inl ⟨z.1, rd_del hc z.2 (fun o e => by cases e) (fun o e => by cases e)⟩) .inr) (RpAll.del hc (by simpa only [pln] using p) r)
  | _, _, p, .tup s r => .tup (s.elim (fun z => .inl ⟨z.1, rd_del hc z.2 (fun o e => by cases e) (fun o e => by cases e)⟩) .inr) (RpAll.del hc (by simpa only [pln] using p) r)
  | _, _, p, .dk n h e r => .dk n (rd_del hc h (fun o e => by cases e) (fun o e => by cases e)) e (RpAll.del hc (by simpa only [pln] using p) r)
  | _, _, p, .dt n h e r => .dt n (del_keep hc h fun o e => by cases e) e (RpAll.del hc (by simpa only [pln] using p) r)
  | _, _, p, .obj n h e r => .obj n (del_keep hc h fun o e => by cases e) e (RpAll.del hc (by simpa only [pln] using p) r)
  | _, _, p, .exc n m h q x e r => .exc n m (del_keep hc h fun o e => by cases e) q (x.elim (fun z => .inl (del_keep hc z fun o e => by cases e)) (fun z => .inr (del_keep hc z fun o e => by unfold exd at e; cases e))) e (RpAll.del hc (by simpa only [pln] using p) r)
  | _, _, _, .fnv h => .fnv (fnv_del hc h)
  | _, _, p, .clo _ _ => by simp [pln] at p
theorem RpAll.del (hc : ∀ b o, cel b = some o → H b = some (celO o)) : ∀ {vs : List V} {ds : List D}, plns ds = true → RpAll L K H vs ds → RpAll L K (delC cel H) vs ds
  | _, _, _, .nil => .nil
  | _, _, p, .cons h r => by
    have p := Bool.and_eq_true_iff.mp (show (pln _ && plns _) = true by simpa only [plns] using p)
    exact .cons (Rp.del hc p.1 h) (RpAll.del hc p.2 r)
end
theorem Own.del (hc : ∀ b o, cel b = some o → H b = some (celO o)) {a : Addr} {d : D} (p : pln d = true) (h : Own L K H a d) : Own L K (delC cel H) a d := by
  cases d with
  | lst ds => obtain ⟨vs, h1, h2⟩ := h; exact ⟨vs, del_keep hc h1 (fun o e => by cases e), h2.del hc (by simpa only [pln] using p)⟩
  | dk ks ds => obtain ⟨vs, h1, h3, h2⟩ := h; exact ⟨vs, del_keep hc h1 (fun o e => by cases e), h3, h2.del hc (by simpa only [pln] using p)⟩
  | dt ks ds => obtain ⟨vs, h1, h3, h2⟩ := h; exact ⟨vs, del_keep hc h1 (fun o e => by cases e), h3, h2.del hc (by simpa only [pln] using p)⟩
  | obj C ns ds => obtain ⟨dx, vs, h1, h3, h2⟩ := h; exact ⟨dx, vs, del_keep hc h1 (fun o e => by cases e), h3, h2.del hc (by simpa only [pln] using p)⟩
  | tab q =>
    obtain ⟨ps, h1, h2, h3⟩ := h
    refine ⟨ps, del_keep hc h1 (fun o e => by cases e), h2, fun pos cv hh => ?_⟩
    obtain ⟨c, q1, n, q2⟩ := h3 pos cv hh
    exact ⟨c, q1, n, del_keep hc q2 fun o e => by unfold LamX.CodeO at e; cases e⟩
  | _ => exact h.elim
theorem JL.del (hc : ∀ b o, cel b = some o → H b = some (celO o)) (p : plnL L = true) (j : JL K L H) : JL K L (delC cel H) :=
  ⟨j.nd, fun a d m => Own.del hc (plns_mem p (List.mem_map.mpr ⟨_, m, rfl⟩)) (j.own a d m)⟩
/-- .. and back -/
theorem same_add (cn : ∀ b o, cel b = some o → H b = none) : Same H (addC cel H) := fun b o e => by
  have z : cel b = none := by
    cases q : cel b with
    | none => rfl
    | some o => rw [cn b o q] at e; cases e
  rw [addC_out z]
  exact e
/-- from the state without them to the state with them -/
theorem go_back {L' : Led} {H' : Hp} (hc : ∀ b o, cel b = some o → H b = some (celO o)) (cn : ∀ b o, cel b = some o → H' b = none) (j : JL K L' H') (g : Go L L' (delC cel H) H') : Go L L' H (addC cel H') := fun a o n e => by
  cases q : cel a with
  | some o' =>
    rw [hc a o' q] at e
    cases e
    exact ⟨j.notIn (cn a o' q), addC_in q⟩
  | none =>
    rw [addC_out q]
    exact g a o n (by rw [delC_out q]; exact e)
/-- from the state without them to the end of a call with them, and out of sight again -/
theorem go_out {L' : Led} {H' : Hp} (cn : ∀ b o, cel b = some o → H b = none) (g : Go L L' (addC cel H) H') : Go L L' H (delC cel H') := fun a o n e => by
  have z : cel a = none := by
    cases q : cel a with
    | none => rfl
    | some o => rw [cn a o q] at e; cases e
  rw [delC_out z]
  exact g a o n (by rw [addC_out z]; exact e)
end
/-! ### lambdas called -/
structure CloOk (P : Program) (w : World) (K : PySem.W.Frag) (mg : Str → Option Value) (base : Heap) (n : Nat) (G : LamF → DSp) : Prop where
  run : ∀ (A : Around) (outer : List Env) (s : Shared) (H : Hp) (f : Addr) (F : LamF) (vs : List V) (ds : List D) (L : Led) (k : DK) (x : Exn → Led → Prop) (Q : VK) (E : XK), Room n A → Env0 P w K mg base A outer s H → CloAt L H f F vs → JL K L H → RpAll L K H vs ds → G F ds L k x →
    KOk K L H k Q → (∀ n L' a H', x n L' → Go L L' H H' → JL K L' H' → ExR L' K H' a n → E n.cls (some a) H') → codeAny (model P w) A (.call (.ref f) ⟨[], []⟩) (CR (L2.CX P w) outer P w H s Q E) s
theorem CloOk.mono {P : Program} {w : World} {K : PySem.W.Frag} {mg : Str → Option Value} {base : Heap} {n m : Nat} {G : LamF → DSp} (c : CloOk P w K mg base n G) (h : n ≤ m) : CloOk P w K mg base m G :=
  ⟨fun A outer s H f F vs ds L k x Q E hr => c.run A outer s H f F vs ds L k x Q E (hr.mono h)⟩
theorem CloOk.or {P : Program} {w : World} {K : PySem.W.Frag} {mg : Str → Option Value} {base : Heap} {n : Nat} {G G' : LamF → DSp} (c : CloOk P w K mg base n G) (c' : CloOk P w K mg base n G') : CloOk P w K mg base n (fun F ds L k x => G F ds L k x ∨ G' F ds L k x) :=
  ⟨fun A outer s H f F vs ds L k x Q E hr e0 ca j r g hk hx => g.elim (fun g => c.run A outer s H f F vs ds L k x Q E hr e0 ca j r g hk hx) (fun g => c'.run A outer s H f F vs ds L k x Q E hr e0 ca j r g hk hx)⟩
theorem lamO_at {P : Program} {w : World} {H : Hp} {h : Heap} {f c : Addr} {F : LamF} {cl : List (Str × Addr)} {dV : Value} (hok : HOk P w H h) (e : H f = some (LamO f F cl dV c)) : ∃ (od : Option Addr) (sl : Array (Option Value)) (doc pm ctv : Value), h.get? f = some (⟨.type "function", od, .func (PySem.W.kdv_fn "<lambda>" F.qual F.params (.expr F.body) F.scope cl dV doc pm (.ref c) ctv), sl⟩ : Obj) := by
  obtain ⟨z, _, _⟩ := hok f _ e
  exact z
/-- how its (left out) argument is bound -/
def BindF (F : LamF) : Prop := match F.ps with
  | [] => ∀ (cl : List (Str × Addr)) (doc pm cv ctv : Value), bindArgs (PySem.W.kdv_fn "<lambda>" F.qual F.params (.expr F.body) F.scope cl .none doc pm cv ctv) ⟨[], []⟩ = pure []
  | [x] => ∀ (cl : List (Str × Addr)) (t : Addr) (doc pm cv ctv : Value), ∃ k : Option (Array Value) → Sem (List (Str × Value)), bindArgs (PySem.W.kdv_fn "<lambda>" F.qual F.params (.expr F.body) F.scope cl (.ref t) doc pm cv ctv) ⟨[], []⟩ = seqItems? (.ref t) >>= k ∧ ∀ u, k (some #[u]) = pure [(x, u)]
  | _ => False
theorem binds_lam {P : Program} {w : World} {L : Led} {H : Hp} {s : Shared} {F : LamF} {cl : List (Str × Addr)} {dV doc pm cv ctv : Value} (b : BindF F) (hok : HOk P w H s.heap) (d : DvAt L H F.ps.length dV) :
    ∃ us : List Value, Vals (List.replicate F.ps.length (.int 0)) us ∧ BindsTo s (PySem.W.kdv_fn "<lambda>" F.qual F.params (.expr F.body) F.scope cl dV doc pm cv ctv) ⟨[], []⟩ (F.ps.zip us) := by
  unfold BindF at b
  split at b
  · rename_i e
    rw [e] at d ⊢
    rcases d with ⟨_, e2⟩ | ⟨z, t, e2, _, ht⟩
    · subst e2
      exact ⟨[], .nil, .of_eq (b cl doc pm cv ctv)⟩
    · exact absurd rfl z
  · rename_i x e
    rw [e] at d ⊢
    rcases d with ⟨z, _⟩ | ⟨_, t, e2, _, ht⟩
    · cases z
    · subst e2
      obtain ⟨_, its, rv, o, h1, h2, n, h3⟩ := hok t _ ht
      obtain ⟨k, b1, b2⟩ := b cl t doc pm cv ctv
      cases rv with
      | cons r0 r1 =>
        cases r1
        rename_i u
        exact ⟨[u], .cons r0 .nil, BindsTo.of_defaults rfl h1 h3 b1 (b2 u)⟩
  · exact b.elim
def nfOf (F : LamF) (cl : List (Str × Addr)) (c : Addr) : NdefX.NF := ⟨"<lambda>", F.qual, F.params, [], F.scope, cl, c⟩
/-- the slots at a lambda's entry -/
def lamEnvD (N : List Str) (F : LamF) (ds : List D) : DEnv := List.replicate F.ps.length (some (.int 0)) ++ (ds.map some ++ List.replicate (N.length - F.ps.length - ds.length) none)
theorem sto_rep {L : Led} {K : PySem.W.Frag} {H : Hp} {σ : L2.St} {e : DEnv} (h : Sto L K H σ e) : ∀ m : Nat, Sto L K H (List.replicate m (some (.int 0)) ++ σ) (List.replicate m (some (.int 0)) ++ e)
  | 0 => h
  | m + 1 => by
    rw [List.replicate_succ, List.replicate_succ, List.cons_append, List.cons_append]
    exact .sm (.int 0) (sto_rep h m)
theorem sto_lam {L : Led} {K : PySem.W.Frag} {H : Hp} {N : List Str} {F : LamF} {vs : List V} {ds : List D} (r : RpAll L K H vs ds) : Sto L K H (NdefX.startF N (List.replicate F.ps.length (.int 0)) (vs.map some)) (lamEnvD N F ds) := by
  unfold NdefX.startF lamEnvD
  rw [List.map_replicate, List.length_replicate, List.length_map, r.length]
  have h1 : Sto L K H (vs.map some ++ List.replicate (N.length - F.ps.length - ds.length) none) (ds.map some ++ List.replicate (N.length - F.ps.length - ds.length) none) := Sto.start r
  exact sto_rep h1 _
section
variable {P : Program} {w : World} {K : PySem.W.Frag} {mg : Str → Option Value} {base : Heap}
theorem clo_of {F : LamF} {N : List Str} {k : Nat} {g : DSp} (S : NdefX.NScope N F.ps F.fr F.scope) (hb : BindF F)
    (body : ∀ (cl : List (Str × Addr)) (c f : Addr) (A : Around) (outer : List Env) (s : Shared) (H : Hp) (E : XK), Room k (A.deeper (NdefX.envF (nfOf F cl c) f s.heap.objs.size)) →
      ∃ t, QE (NdefX.ncx (L2.CX P w) P w K mg base N (nfOf F cl c) f A outer s H E) (wxOf E) F.body t ∧ ∀ ds L k x, g ds L k x → t (lamEnvD N F ds) L k fun n _ L' => x n L') :
    CloOk P w K mg base (k + 1) (fun F' ds L k x => F' = F ∧ plnL L = true ∧ plns ds = true ∧ g ds L k x) := by
  refine ⟨fun A outer s H f F' vs ds L kk x Q E hr e0 ca j r hg hk hx => ?_⟩
  obtain ⟨rfl, pL, pd, hg⟩ := hg
  obtain ⟨cl, ⟨nf, c, dV, hf, nc, hco, hdv⟩, hlen, hinj, hin, hcells⟩ := ca
  obtain ⟨od, sl, doc, pm, ctv, ho⟩ := lamO_at e0.hok hf
  have lim : s.heap.NoLimit := e0.mod.nolimit.keeps fun b o e => (e0.bs b o e).1
  -- the cells
  open Classical in
  let cel : Cel := fun b => if (∃ y, cl.lookup y = some b) then (match H b with | some (.frz o (.own 0)) => some o | _ => none) else none
  have hc : ∀ b o, cel b = some o → H b = some (celO o) := fun b o e => by
    have e : (if (∃ y, cl.lookup y = some b) then (match H b with | some (.frz o (.own 0)) => some o | _ => none) else none) = some o := e
    split at e
    · split at e
      · rename_i q; cases e; exact q
      · cases e
    · cases e
  have hcc : ∀ (y : Str) (b : Addr) (o : Obj), cl.lookup y = some b → H b = some (celO o) → cel b = some o := fun y b o e1 e2 => by
    show (if (∃ y, cl.lookup y = some b) then (match H b with | some (.frz o (.own 0)) => some o | _ => none) else none) = some o
    rw [if_pos ⟨y, e1⟩, e2]
    rfl
  have e1 := env0_del hc e0
  have C : NdefX.CellsAt cl F'.fr (vs.map some) s.heap (delC cel H) := by
    refine ⟨by rw [List.length_map]; exact hlen, fun y b e => ?_, hinj, fun i y e => ?_⟩
    · obtain ⟨i, hi⟩ := List.mem_iff_getElem?.mp (hin y b e)
      obtain ⟨cc, oc, u, v, q1, _, q2, q3, _⟩ := hcells i y hi
      rw [e] at q1
      cases q1
      exact ⟨delC_in (hcc y b oc e q2), some u, oc, (e0.hok b _ q2).1, q3⟩
    · obtain ⟨cc, oc, u, v, q1, _, q2, q3, q4, q5⟩ := hcells i y e
      refine ⟨cc, q1, fun v' hv => ?_⟩
      rw [List.getElem?_map, q4] at hv
      cases hv
      exact ⟨u, q5, oc, (e0.hok cc _ q2).1, q3⟩
  obtain ⟨us, hus, hbind⟩ := binds_lam (P := P) (w := w) (cl := cl) (doc := doc) (pm := pm) (cv := .ref c) (ctv := ctv) hb e0.hok hdv
  refine codeAny_mono (R := CR (L2.CX P w) outer P w (delC cel H) s (fun v H' => (∀ b o, cel b = some o → H' b = none) → Q v (addC cel H')) (fun cls d H' => (∀ b o, cel b = some o → H' b = none) → E cls d (addC cel H'))) ?_ fun r' s' q => cr_add hc e0.hok e0.frf q
  refine PySem.W.kla_callFunE hr.depth ho rfl S.co S.gen rfl (NdefX.codeO_at e0.hok hco) (hbind _ _ _ _ ?_)
  refine wpAny_newFunctionEnv S.nocell (fun ⟨n, _⟩ hy => S.par n (List.of_mem_zip hy).1) (fun h₁ hns hsb => ⟨lim.fresh _ hsb, ?_⟩) S.kind
  show codeAny _ _ (.expr F'.body (NdefX.envF (nfOf F' cl c) f s.heap.objs.size)) _ _
  have kp : ∀ b o, s.heap.get? b = some o → h₁.get? b = some o := fun b o e => hsb.extBut b o (Nat.ne_of_lt (Heap.lt_size e)) (Heap.get?_push_of_some _ e)
  obtain ⟨t, qe, ht⟩ := body cl c f A outer s (delC cel H) (fun cls d H' => (∀ b o, cel b = some o → H' b = none) → E cls d (addC cel H')) (hr.deeper _)
  obtain ⟨te, pe, se⟩ := qe.ex
  have I := NdefX.inv_startN (CX := L2.CX P w) (F := nfOf F' cl c) (f := f) (E := fun cls d H' => (∀ b o, cel b = some o → H' b = none) → E cls d (addC cel H')) (tk := s.toks + (F'.ps.zip us).length) S hr.hd e1 (List.length_replicate) hus C hns kp
  refine PySem.W.kla_codeExpr (wpAny_mono (pe.run [] _ _ (delC cel H) (fun v H' => (∀ b o, cel b = some o → H' b = none) → Q v (addC cel H')) I ?_) (fun v s' hq => ?_) fun e s' hq => hq)
  · refine se _ (delC cel H) (lamEnvD N F' ds) L kk (fun n _ L' => x n L') _ ⟨sto_lam (r.del hc pd), j.del hc pL⟩ (ht ds L kk x hg) (fun d L' v H' q g' j' r' cn => ?_) (fun n env' L' a H' σ' q g' st' r' cn => ?_)
    · have s1 := same_add (H := H') cn
      exact hk d L' v (addC cel H') q (go_back hc cn j' g') (j'.same s1) (r'.go (Go.same s1))
    · have s1 := same_add (H := H') cn
      obtain ⟨na, vs', e1, e2, e3⟩ := r'
      exact hx n L' a (addC cel H') q (go_back hc cn st'.2 g') (st'.2.same s1) ⟨na, vs', s1 a _ e1, e2, e3.go (Go.same s1)⟩
  · obtain ⟨v', H', J', rv, q⟩ := hq
    exact ⟨v', H', J'.os, J'.bare, J'.base, J'.hok, rv, q⟩
end
end DL

namespace DL
open PySem PySem.Spec PyProof.Rows L2
section
variable {X : Cx} {Wx : WX} {a b c e o : Expr} {es rest : List Expr} {da db dc de do' : DE} {dt du : DT} {dl dk : DA} {pos : Pos}
/-! ### x(), x a lambda -/
def dCallClo (G : LamF → DSp) (i : Nat) : DE := fun env L k x => match env[i]? with
  | some (some (.clo F ds)) => G F ds L k fun n L' => x n env L'
  | _ => False
def tCallClo (K : PySem.W.Frag) (G : LamF → DSp) (i : Nat) (Wx : WX) : TE := fun σ H Q => ∃ f F vs ds L k x, σ[i]? = some (some (.ref f)) ∧ CloAt L H f F vs ∧ JL K L H ∧ RpAll L K H vs ds ∧ G F ds L k x ∧ KOk K L H k Q ∧ ∀ n L' a H', x n L' → Go L L' H H' → JL K L' H' → ExR L' K H' a n → Wx n.cls (some a) σ H'
theorem pe_callClo {x : Str} {p1 p2 : Pos} {k n i : Nat} {G : LamF → DSp} (C : CloOk X.prog X.w X.K X.mg X.base n G) (hn : n ≤ k) (hr : Room k X.A) (tk : Takes X Wx) (hN : X.N[i]? = some x) (hv : Vis X.env.scope x) (hd : (x == ("__debug__" : Str)) = false := by decide) (hcd : (x == ("__classdict__" : Str)) = false := by decide) :
    PE X (.Call (.Name x p1) [] [] p2) (tCallClo X.K G i Wx) := by
  refine ⟨fun pins s σ H Q I h => ?_⟩
  obtain ⟨f, F, vs, ds, L, kk, xx, hs, ca, j, r, g, hk, hx⟩ := h
  refine wpAny_Call_Name_kw (thn ((pe_var (pos := p1) (i := i) hN hv hd hcd).run pins s σ H (fun v H1 => v = .ref f ∧ H1 = H) I ⟨.ref f, hs, rfl, rfl⟩) fun u s1 ⟨v, H1, I1, r1, q1⟩ => ?_)
  obtain ⟨ev, eH⟩ := q1
  subst ev
  rw [eH] at I1
  obtain rfl : u = Value.ref f := r1
  obtain ⟨cl, ⟨nf, c, dV, hf, _⟩, _⟩ := id ca
  obtain ⟨od, sl, doc, pm, ctv, ho⟩ := lamO_at I1.hok hf
  refine PySem.W.callWith_F0 ⟨_, _, _, _, ho⟩ ?_
  have rc := C.run X.A X.stack s1 H f F vs ds L kk xx Q (WE Wx σ) (hr.mono hn) I1.env0 ca j r g hk hx
  refine wpAny_call (codeAny_mono rc fun r' s' hq => ?_)
  cases r' with
  | error e => exact passAt tk σ pins H s1 e s' I1 hq
  | ok fl =>
    cases fl with
    | ret u => exact I1.after hq
    | next => exact False.elim hq
    | brk => exact False.elim hq
    | cont => exact False.elim hq
theorem q_callClo {x : Str} {p1 p2 : Pos} {k n : Nat} (i : Nat) {G : LamF → DSp} (C : CloOk X.prog X.w X.K X.mg X.base n G) (hn : n ≤ k) (hr : Room k X.A) (tk : Takes X Wx) (hN : X.N[i]? = some x := by rfl) (hv : Vis X.env.scope x := by first | exact Or.inl rfl | exact Or.inr (Or.inl rfl) | exact Or.inr (Or.inr rfl)) (hd : (x == ("__debug__" : Str)) = false := by decide) (hcd : (x == ("__classdict__" : Str)) = false := by decide) :
    QE X Wx (.Call (.Name x p1) [] [] p2) (dCallClo G i) := by
  refine ⟨_, pe_callClo (p1 := p1) (p2 := p2) (i := i) C hn hr tk hN hv hd hcd, fun σ H env L kk xx Q st h hk hx => ?_⟩
  unfold dCallClo at h
  split at h
  · rename_i F ds he
    obtain ⟨v, hs, rv⟩ := st.1.get he
    cases rv with
    | clo ca r => exact ⟨_, F, _, ds, L, kk, fun n L' => xx n env L', hs, ca, st.2, r, h, hk, fun n L' a H' q g' j' r' => hx n env L' a H' σ q g' (st.go g' j') r'⟩
  · exact h.elim
/-! ### lambdas handed to a def -/
/-- how the running frame's names lie to what a lambda captures: js the slots -/
def capB (sc : Scope) (N : List Str) (F : LamF) (js : List Nat) : Bool :=
  (F.scope.names.all fun y => !decide (y.2 = .free) || decide (sc.names.lookup y.1 = some .cell) || decide (sc.names.lookup y.1 = some .free)) && (F.fr.all fun y => decide ((y, NameKind.free) ∈ F.scope.names)) && (F.scope.names.all fun y => !decide (y.2 = .free) || decide (y.1 ∈ F.fr)) && decide (js.map (fun j => N[j]?) = F.fr.map some)
mutual
inductive Close (sc : Scope) (N : List Str) (cells : List (Str × Addr)) (env : DEnv) : D → D → Prop
  | refl (d : D) : Close sc N cells env d d
  | fnv {F : LamF} {js : List Nat} {ds : List D} : capB sc N F js = true → js.map (fun j => env[j]?) = ds.map (fun d => some (some d)) → Close sc N cells env (.fnv F (cloFrom cells F.scope.names [])) (.clo F ds)
  | lst {xs ys : List D} : CloseL sc N cells env xs ys → Close sc N cells env (.lst xs) (.lst ys)
inductive CloseL (sc : Scope) (N : List Str) (cells : List (Str × Addr)) (env : DEnv) : List D → List D → Prop
  | nil : CloseL sc N cells env [] []
  | cons {x y : D} {xs ys : List D} : Close sc N cells env x y → CloseL sc N cells env xs ys → CloseL sc N cells env (x :: xs) (y :: ys)
end
/-- what is known of the cells while a def is called -/
structure CelX (X : Cx) (cel : Cel) (σ : L2.St) (H : Hp) : Prop where
  free : ∀ b o, cel b = some o → H b = none
  has : ∀ (j : Nat) (y : Str) (v : V) (cc : Addr), X.N[j]? = some y → σ[j]? = some (some v) → X.env.cells.lookup y = some cc → (X.env.scope.names.lookup y = some .cell ∨ X.env.scope.names.lookup y = some .free) → ∃ oc u, cel cc = some oc ∧ oc.data = .cell (some u) ∧ RelV v u
theorem capB_of (ok : X.Ok) {F : LamF} {js : List Nat} (h : capB X.env.scope X.N F js = true) : NdefX.Caps X (cloFrom X.env.cells F.scope.names []) F.fr js ∧ ∀ y c, (cloFrom X.env.cells F.scope.names []).lookup y = some c → y ∈ F.fr := by
  unfold capB at h
  simp only [Bool.and_eq_true, List.all_eq_true, Bool.or_eq_true, Bool.not_eq_true', decide_eq_true_eq, decide_eq_false_iff_not] at h
  obtain ⟨⟨⟨h1, h2⟩, h3⟩, h4⟩ := h
  have hfree : ∀ y ∈ F.scope.names, y.2 = .free → X.env.scope.names.lookup y.1 = some .cell ∨ X.env.scope.names.lookup y.1 = some .free := fun y hy e => by
    rcases h1 y hy with (z | z) | z
    · exact absurd e z
    · exact .inl z
    · exact .inr z
  refine ⟨NdefX.Caps.made ok hfree h2 h4, fun y c e => ?_⟩
  rcases cloFrom_mem (PySem.mem_of_lookup e) with hm | ⟨q1, q2⟩
  · cases hm
  · rcases h3 _ q1 with z | z
    · exact absurd rfl z
    · exact z
section
variable {L : Led} {H : Hp} {cel : Cel} {σ : L2.St} {env : DEnv}
theorem slot_get {js : List Nat} : ∀ {ds : List D} {js : List Nat}, Sto L X.K H σ env → js.map (fun j => env[j]?) = ds.map (fun d => some (some d)) → ∃ vs : List V, js.map (fun j => σ[j]?) = vs.map (fun v => some (some v)) ∧ RpAll L X.K H vs ds
  | [], [], st, _ => ⟨[], rfl, .nil⟩
  | [], _ :: _, _, h => by simp at h
  | _ :: _, [], _, h => by simp at h
  | d :: ds, j :: js, st, h => by
    rw [List.map_cons, List.map_cons] at h
    obtain ⟨h1, h2⟩ := List.cons.inj h
    obtain ⟨v, e, r⟩ := st.get h1
    obtain ⟨vs, e2, r2⟩ := slot_get (js := js) st h2
    exact ⟨v :: vs, by rw [List.map_cons, List.map_cons, e, e2], .cons r r2⟩
theorem fnv_add (cx : CelX X cel σ H) {f : Addr} {F : LamF} {cl : List (Str × Addr)} (h : FnvAt L H f F cl) : FnvAt L (addC cel H) f F cl := (Go.same (same_add cx.free)).fnv h
mutual
theorem Close.rp (ok : X.Ok) (cx : CelX X cel σ H) (nl : ∀ b o, cel b = some o → ¬ inL L b) (st : Sto L X.K H σ env) : ∀ {v : V} {d d' : D}, Close X.env.scope X.N X.env.cells env d d' → Rp L X.K H v d → Rp L X.K (addC cel H) v d'
  | _, _, _, .refl d, r => r.go (Go.same (same_add cx.free))
  | _, _, _, .fnv (F := F) (js := js) (ds := ds) hb hj, r => by
    cases r with
    | fnv fa =>
      obtain ⟨cp, hin⟩ := capB_of ok hb
      obtain ⟨vs, e1, rv⟩ := slot_get (js := js) st hj
      refine .clo ⟨_, fnv_add cx fa, ?_, fun x y c e e' => ok.inj x y c (cp.sub x c e) (cp.sub y c e'), hin, fun i y hy => ?_⟩ (rv.go (Go.same (same_add cx.free)))
      · have l1 := congrArg List.length e1
        have l2 := congrArg List.length cp.at_
        rw [List.length_map, List.length_map] at l1 l2
        omega
      · have hjs : (js.map (fun j => X.N[j]?))[i]? = some (some y) := by rw [cp.at_, List.getElem?_map, hy]; rfl
        rw [List.getElem?_map] at hjs
        cases hji : js[i]? with
        | none => rw [hji] at hjs; cases hjs
        | some j =>
          rw [hji] at hjs
          have hNj : X.N[j]? = some y := Option.some.inj hjs
          have hv : (js.map (fun j => σ[j]?))[i]? = some σ[j]? := by rw [List.getElem?_map, hji]; rfl
          rw [e1, List.getElem?_map] at hv
          cases hvi : vs[i]? with
          | none => rw [hvi] at hv; cases hv
          | some v =>
            rw [hvi] at hv
            have hσ : σ[j]? = some (some v) := (Option.some.inj hv).symm
            have hm : y ∈ F.fr := List.mem_of_getElem? hy
            obtain ⟨cc, hcc⟩ := ok.has y (cp.kin y hm)
            obtain ⟨oc, u, h1, h2, h3⟩ := cx.has j y v cc hNj hσ hcc (cp.kin y hm)
            exact ⟨cc, oc, u, v, cp.sup y hm cc hcc, nl cc oc h1, addC_in h1, h2, rfl, h3⟩
  | _, _, _, .lst hl, r => by
    cases r with
    | lst n h r => exact .lst n (same_add cx.free _ _ h) (CloseL.rp ok cx nl st hl r)
theorem CloseL.rp (ok : X.Ok) (cx : CelX X cel σ H) (nl : ∀ b o, cel b = some o → ¬ inL L b) (st : Sto L X.K H σ env) : ∀ {vs : List V} {ds ds' : List D}, CloseL X.env.scope X.N X.env.cells env ds ds' → RpAll L X.K H vs ds → RpAll L X.K (addC cel H) vs ds'
  | _, _, _, .nil, .nil => .nil
  | _, _, _, .cons h t, .cons r q => .cons (Close.rp ok cx nl st h r) (CloseL.rp ok cx nl st t q)
end
end
/-- f(..) with lambdas among the arguments -/
def dCallC (sc : Scope) (N : List Str) (cells : List (Str × Addr)) (g : DSp) (dd : List D) (dl : DA) : DE := fun env L k x => dl env L (fun ds L1 => ∃ ds', CloseL sc N cells env ds ds' ∧ g (ds' ++ dd) L1 (fun d L' => pln d = true ∧ plnL L' = true ∧ k d L') fun n L' => plns n.vs = true ∧ plnL L' = true ∧ x n env L') x
def tCallC (X : Cx) (sp : Sp) (dvs : List V) (Wx : WX) (t : TA) : TE := fun σ H Q => t σ H fun vs H1 => ∀ cel : Cel, X.Ok → CelX X cel σ H1 → sp (vs ++ dvs) (addC cel H1) (fun v H' => Q v (delC cel H')) (fun cls d H' => Wx cls d σ (delC cel H'))
theorem pe_callC {x : Str} {p : Pos} {k : Nat} {f : Addr} {fd : FuncData} {ps : List Str} {sp : Sp} {ds : List Value} {dvs : List V} {t : TA} (F : FnOk X.prog X.w X.K X.mg X.base (L2.CX X.prog X.w) k f fd ps sp) (hr : Room k X.A) (hg : Gl X x) (hm : X.mg x = some (.ref f)) (hk : PySem.W.keepIn X.K (.ref f) = true) (hb : Binds X.K fd ps ds) (hd : Vals dvs ds) (tk : Takes X Wx) (hfn : ∀ y, X.fn y = true)
    (ha : PA X (e :: es) t) (hdb : (x == ("__debug__" : Str)) = false := by decide) (he : starEach (e :: es) X.env = (false, eval e X.env) :: starEach es X.env := by rfl) (hpl : (backTo pos (starEach es X.env)).any (·.1) = false := by rfl) :
    PE X (.Call (.Name x p) (e :: es) [] pos) (tCallC X sp dvs Wx t) := by
  refine ⟨fun pins s σ H Q I h => ?_⟩
  refine wpAny_Call_Name_kw (ld_glob I hg hm ?_ hdb)
  refine PySem.W.callWith_K (h₀ := X.base) I.ok.mod.kin hk (thn (ha.run pos pins s σ H _ I h) fun us s1 ⟨vs, H1, I1, r, q⟩ => ⟨I1.kIn, ?_⟩) he hpl
  open Classical in
  let cel : Cel := fun b => if (∃ y, X.env.cells.lookup y = some b) then s1.heap.get? b else none
  have hin : ∀ b o, cel b = some o → (∃ y, X.env.cells.lookup y = some b) ∧ s1.heap.get? b = some o := fun b o e => by
    have e : (if (∃ y, X.env.cells.lookup y = some b) then s1.heap.get? b else none) = some o := e
    split at e
    · rename_i q; exact ⟨q, e⟩
    · cases e
  have above : ∀ b o, cel b = some o → X.s_0.heap.objs.size ≤ b := fun b o e => by
    obtain ⟨⟨y, hy⟩, _⟩ := hin b o e
    exact I1.ok.cab y b (hfn y) hy
  have C : CelOk cel H1 s1.heap (frs X.stack) := by
    refine ⟨fun b o e => (hin b o e).2, fun b o e => ?_, fun b o e hb => ?_⟩
    · obtain ⟨⟨y, hy⟩, _⟩ := hin b o e
      exact I1.freeC y b hy
    · rcases List.mem_cons.mp (I1.stkSub _ hb) with z | z
      · obtain ⟨⟨y, hy⟩, _⟩ := hin b o e
        exact I1.cne y b hy z
      · obtain ⟨_, o2, ho2, _⟩ := I1.ok.funs.mem z
        exact absurd (Heap.lt_size ho2) (Nat.not_lt.mpr (above b o e))
  have CX0 : CelX X cel σ H1 := by
    refine ⟨C.free, fun j y v cc hN hσ hc hkind => ?_⟩
    obtain ⟨m, hn, hl⟩ := I1.loc
    obtain ⟨u, ru, q⟩ := hl j y v hN hσ (.inr hkind)
    rcases q with ⟨k', _⟩ | ⟨_, c3, e', z⟩
    · have k' : X.env.scope.names.lookup y = some .local := k'
      rcases hkind with k2 | k2 <;> rw [k2] at k' <;> cases k'
    · rw [hc] at e'
      cases e'
      obtain ⟨oc, ho, hd⟩ := z
      refine ⟨oc, u, ?_, hd, ru⟩
      show (if (∃ y, X.env.cells.lookup y = some cc) then s1.heap.get? cc else none) = some oc
      rw [if_pos ⟨y, hc⟩]
      exact ho
  have hq := q cel I1.ok CX0
  have hl : (us ++ ds).length = ps.length := by
    have z := F.len _ _ _ _ hq
    rw [← (r.append hd).length]
    exact z
  have rc := F.run X.A X.stack s1 (addC cel H1) ⟨us, []⟩ (us ++ ds) (vs ++ dvs) _ _ hr (env0_add C (fun b o e => Heap.get?_none_of_le (Nat.le_trans I1.ok.bsz (above b o e))) I1.env0) (hb s1 us I1.kIn hl) (r.append hd) hq
  refine wpAny_call (codeAny_mono rc fun r' s' hq => ?_)
  have hq := cr_del (Q := Q) (E := WE Wx σ) C hq
  cases r' with
  | error e => exact passAt tk σ pins H1 s1 e s' I1 hq
  | ok fl =>
    cases fl with
    | ret u => exact I1.after hq
    | next => exact False.elim hq
    | brk => exact False.elim hq
    | cont => exact False.elim hq
theorem q_calC {x : Str} {p : Pos} {n k : Nat} {ps : List Str} {g : DSp} {dd : List D} (F : Cal X.prog X.w X.K X.mg X.base n x ps dd g) (hn : n ≤ k) (hr : Room k X.A) (tk : Takes X Wx) (hfn : ∀ y, X.fn y = true) (hg : Gl X x) (ha : QA X Wx (e :: es) dl) (hdb : (x == ("__debug__" : Str)) = false := by decide)
    (he : starEach (e :: es) X.env = (false, eval e X.env) :: starEach es X.env := by rfl) (hpl : (backTo pos (starEach es X.env)).any (·.1) = false := by rfl) : QE X Wx (.Call (.Name x p) (e :: es) [] pos) (dCallC X.env.scope X.N X.env.cells g dd dl) := by
  obtain ⟨f, fd, us, dvs, F, hm, hk, hb, hd, hdd⟩ := F.ex
  obtain ⟨ta, pa, sa⟩ := ha.ex
  refine ⟨_, pe_callC F (hr.mono hn) hg hm hk hb hd tk hfn pa hdb he hpl, fun σ H env L kk xx Q st h hk hx => ?_⟩
  refine sa σ H env L _ xx _ st h (fun ds L1 vs H1 h1 g1 j1 r1 cel ok cx => ?_) hx
  obtain ⟨ds', hcl, hg⟩ := h1
  have s1 := same_add (H := H1) cx.free
  have st1 := st.go g1 j1
  have nl : ∀ b o, cel b = some o → ¬ inL L1 b := fun b o e => j1.notIn (cx.free b o e)
  refine ⟨ds' ++ dd, L1, _, _, j1.same s1, (CloseL.rp ok cx nl st1.1 hcl r1).append (hdd L1 _), hg, fun d L' v H' q g' j' r' => ?_, fun n L' a H' q g' j' r' => ?_⟩
  · have hc : ∀ b o, cel b = some o → H' b = some (celO o) := fun b o e => (g' b _ (nl b o e) (addC_in e)).2
    exact hk d L' v (delC cel H') q.2.2 (g1.trans (go_out cx.free g')) (j'.del hc q.2.1) (r'.del hc q.1)
  · have hc : ∀ b o, cel b = some o → H' b = some (celO o) := fun b o e => (g' b _ (nl b o e) (addC_in e)).2
    have gg := g1.trans (go_out cx.free g')
    have jj := j'.del hc q.2.1
    obtain ⟨na, vs', e1, e2, e3⟩ := r'
    exact hx n env L' a (delC cel H') σ q.2.2 gg (st.go gg jj) ⟨na, vs', del_keep hc e1 (fun o e => by cases e), e2, e3.del hc q.1⟩
end
end DL

namespace DL
open PySem PySem.Spec PyProof.Rows L2
section
variable {X : Cx} {pins : List (Addr × Obj)} {σ : L2.St} {H : Hp} {s : Shared}
/-! ### a lambda is made -/
theorem inv_lam {F : LamF} {cl : List (Str × Addr)} {dV : Value} {c : Addr} {o : Obj} {t' : Nat} {doc pm ctv : Value} (I : Inv X pins σ H s) (ho : o = { cls := .type "function", data := .func (PySem.W.kdv_fn "<lambda>" F.qual F.params (.expr F.body) F.scope cl dV doc pm (.ref c) ctv) }) :
    Inv X pins σ (upd H s.heap.objs.size (LamO s.heap.objs.size F cl dV c)) { s with heap := s.heap.push o, toks := t' } := by
  subst ho
  refine I.laid (a := s.heap.objs.size) (fun b u e => Heap.get?_push_of_some _ e) (Nat.le_refl _) ?_
  have e : (s.heap.push ({ cls := .type "function", data := .func (PySem.W.kdv_fn "<lambda>" F.qual F.params (.expr F.body) F.scope cl dV doc pm (.ref c) ctv) } : Obj)).get? s.heap.objs.size = some ({ cls := .type "function", data := .func (PySem.W.kdv_fn "<lambda>" F.qual F.params (.expr F.body) F.scope cl dV doc pm (.ref c) ctv) } : Obj) := Heap.get?_push_size _ rfl
  exact ⟨⟨_, _, doc, pm, ctv, e⟩, ⟨_, e⟩, fun h1 h2 ⟨od, sl, d, p, t, z⟩ st => ⟨od, sl, d, p, t, st _ z⟩⟩
/-- what is told of the heap behind: the table P has grown or not -/
structure LamPost (H H1 : Hp) (P : Addr) (ps : Array Value) (q : Str) (pos : Pos) (f c' : Addr) (F : LamF) (cl : List (Str × Addr)) (dV : Value) : Prop where
  keep : ∀ b o, H b = some o → b ≠ P → H1 b = some o
  tab : ∃ ps' : Array Value, H1 P = some (.tbl ps') ∧ TriplesOk ps'.toList ∧ ∀ (p : Pos) (cv : Value), codeAmong p ps'.toList = some cv → codeAmong p ps.toList = some cv ∨ ∃ c0, cv = .ref c0 ∧ H c0 = none ∧ H1 c0 = some (LamX.CodeO c0 q)
  f0 : H f = none
  f1 : H1 f = some (LamO f F cl dV c')
  c1 : H1 c' = some (LamX.CodeO c' q)
  c0 : H c' = none ∨ codeAmong pos ps.toList = some (.ref c')
theorem lam_tail {F : LamF} {c P : Addr} {ps : Array Value} {pos : Pos} {dV : Value} {E : Value → Shared → Prop} {Q : Value → Shared → Prop} (I : Inv X pins σ H s) (TB : LamX.TabB X.base X.mg c P) (hcode : X.env.code = .ref c)
    (hP : H P = some (.tbl ps)) (ht : TriplesOk ps.toList) (ha : ∀ (p : Pos) (cv : Value), codeAmong p ps.toList = some cv → ∃ c, cv = .ref c ∧ H c = some (LamX.CodeO c F.qual)) (hfree : ∀ y ∈ F.scope.names, y.2 = .free → ∃ c, X.env.cells.lookup y.1 = some c)
    (h : ∀ (f c' : Addr) (H1 : Hp) (s' : Shared), Inv X pins σ H1 s' → LamPost H H1 P ps F.qual pos f c' F (cloFrom X.env.cells F.scope.names []) dV → Q (.ref f) s') :
    wpAny (model X.prog X.w) X.A (makeTail "<lambda>" F.qual F.params (.expr F.body) F.scope X.env dV .none none pos pos.line) Q E s := by
  have bP : s.heap.BuiltinsAt X.mg P := TB.bm.keeps I.bk
  have hP' : s.heap.get? P = some { cls := .none, data := .fields ps } := I.hok P _ hP
  cases hc : codeAmong pos ps.toList with
  | none =>
    refine PySem.W.kdv_makeTail (mg := X.mg) (c := c) (P := P) (ps := ps) (closure_ok hfree) I.ok.glob (I.mod.glob.keeps I.bk) hcode (TB.code.keeps I.bk) hP' ht hc TB.gP bP fun c' ctv doc h' tk hx hge hlt hrec htb => ?_
    obtain ⟨c2, oc, vs, t, e2, hoc, hd, hv⟩ := hrec
    cases e2
    have nC : H c' = none := I.hok.fresh hge
    have I1 := LamX.inv_table (t' := tk) (more := #[rawInt pos.line, rawInt pos.col, .ref c']) (h' := h') I hP (fun b o hb e => hx b o hb e) htb hge ⟨oc, vs, t, hoc, hd, hv⟩
    have hE : ∀ b o, H b = some o → b ≠ P → upd (upd H P (.tbl (ps ++ #[rawInt pos.line, rawInt pos.col, .ref c']))) c' (LamX.CodeO c' F.qual) b = some o := fun b o e n => by
      rw [upd_ne (ne_of_none e nC), upd_ne n]
      exact e
    have eL : (ps ++ #[rawInt pos.line, rawInt pos.col, .ref c']).toList = ps.toList ++ [rawInt pos.line, rawInt pos.col, .ref c'] := by simp
    have nF := I1.hok.fresh (Nat.le_refl _)
    have I2 := inv_lam (F := F) (cl := cloFrom X.env.cells F.scope.names []) (dV := dV) (c := c') (t' := tk) (doc := doc) (pm := (X.mg "__name__").getD .none) (ctv := ctv) I1 rfl
    refine h h'.objs.size c' _ _ I2 ⟨fun b o e n => ?_, ⟨ps ++ #[rawInt pos.line, rawInt pos.col, .ref c'], ?_, ?_, fun p cv hcv => ?_⟩, I.hok.fresh (Nat.le_trans hge (Nat.le_of_lt hlt)), upd_same, ?_, .inl nC⟩
    · have e1 := hE b o e n
      exact (upd_ne (ne_of_none e1 nF)).trans e1
    · have e1 : upd (upd H P (.tbl (ps ++ #[rawInt pos.line, rawInt pos.col, .ref c']))) c' (LamX.CodeO c' F.qual) P = some (.tbl (ps ++ #[rawInt pos.line, rawInt pos.col, .ref c'])) := by rw [upd_ne (ne_of_none hP nC), upd_same]
      exact (upd_ne (ne_of_none e1 nF)).trans e1
    · rw [eL]
      exact PySem.TriplesOk_snoc _ _ _ _ ht
    · rw [eL] at hcv
      rcases NdefX.among_app2 _ ht hcv with z | ⟨z, _, _⟩
      · exact .inl z
      · exact .inr ⟨c', z, nC, (upd_ne (Nat.ne_of_lt hlt)).trans upd_same⟩
    · exact (upd_ne (Nat.ne_of_lt hlt)).trans upd_same
  | some cv =>
    obtain ⟨c', e, hco⟩ := ha pos cv hc
    subst e
    refine PySem.W.kdv_makeTailHit (mg := X.mg) (c := c) (P := P) (ps := ps) (closure_ok hfree) I.ok.glob (I.mod.glob.keeps I.bk) hcode (TB.code.keeps I.bk) hP' ht hc bP fun ctv doc h' tk hx hsz => ?_
    have I1 : Inv X pins σ H { s with heap := h', toks := tk } := I.kept hx
    have nF : H h'.objs.size = none := I1.hok.fresh (Nat.le_refl _)
    have I2 := inv_lam (F := F) (cl := cloFrom X.env.cells F.scope.names []) (dV := dV) (c := c') (t' := tk) (doc := doc) (pm := (X.mg "__name__").getD .none) (ctv := ctv) I1 rfl
    refine h h'.objs.size c' _ _ I2 ⟨fun b o e n => ?_, ⟨ps, ?_, ht, fun p cv hcv => .inl hcv⟩, nF, upd_same, ?_, .inr hc⟩
    · exact (upd_ne (ne_of_none e nF)).trans e
    · exact (upd_ne (ne_of_none hP nF)).trans hP
    · exact (upd_ne (ne_of_none hco nF)).trans hco
end
section
variable {X : Cx} {Wx : WX}
/-- its default: none, or 0 -/
def DfOk (F : LamF) : Prop := F.params.kw_defaults = [] ∧ ((F.ps = [] ∧ F.params.defaults = []) ∨ ∃ x j p, F.ps = [x] ∧ F.params.defaults = [.Constant (.int 0) j p])
def tLamD (P : Addr) (pos : Pos) (F : LamF) (cl : List (Str × Addr)) : TE := fun _ H Q => ∃ ps : Array Value, H P = some (.tbl ps) ∧ TriplesOk ps.toList ∧ (∀ (p : Pos) (cv : Value), codeAmong p ps.toList = some cv → ∃ c, cv = .ref c ∧ H c = some (LamX.CodeO c F.qual)) ∧
  ∀ (f c' : Addr) (dV : Value) (H0 H1 : Hp), (F.ps = [] ∧ dV = .none ∧ H0 = H ∨ ∃ t, dV = .ref t ∧ F.ps.length = 1 ∧ H t = none ∧ H0 = upd H t (.tup [.int 0])) → LamPost H0 H1 P ps F.qual pos f c' F cl dV → Q (.ref f) H1
theorem pe_lamD {F : LamF} {c P : Addr} {pos : Pos} (TB : LamX.TabB X.base X.mg c P) (hcode : X.env.code = .ref c) (hq : X.env.qual ++ "<lambda>" = F.qual) (hfree : ∀ y ∈ F.scope.names, y.2 = .free → X.env.scope.names.lookup y.1 = some .cell ∨ X.env.scope.names.lookup y.1 = some .free) (hd : DfOk F) :
    PE X (.Lambda F.params F.body F.scope pos) (tLamD P pos F (cloFrom X.env.cells F.scope.names [])) := by
  refine ⟨fun pins s σ H Q I h => ?_⟩
  obtain ⟨ps, hP, ht, ha, h⟩ := h
  have hfr : ∀ y ∈ F.scope.names, y.2 = .free → ∃ c, X.env.cells.lookup y.1 = some c := fun y hy e => (hfree y hy e).elim (fun z => I.ok.has _ (.inl z)) fun z => I.ok.has _ (.inr z)
  obtain ⟨hk0, hd | ⟨x, j, p, hx, hd⟩⟩ := hd
  · refine PySem.W.kla_eval (by rw [defaultsOf_eq, hd.2, hk0]; rfl) ?_
    rw [hq, makeFunction_eq]
    simp only [List.zip_nil_right, List.filterMap_nil, List.isEmpty_nil, if_true, pure_bind]
    exact lam_tail I TB hcode hP ht ha hfr fun f c' H1 s' I1 po => ⟨.ref f, H1, I1, rfl, h f c' .none H H1 (.inl ⟨hd.1, rfl, rfl⟩) po⟩
  · refine PySem.W.kdv_lam (by rw [hd]; rfl) hk0 ?_
    rw [hd]
    refine PySem.W.kdv_all1 (thn ((pe_int (X := X) (i := 0) (j := j) (pos := p)).run pins s σ H (fun v H1 => v = .int 0 ∧ H1 = H) I ⟨rfl, rfl⟩) fun u s1 ⟨v, H1, I1, r1, q1⟩ => ?_)
    obtain ⟨ev, eH⟩ := q1
    subst ev
    rw [eH] at I1
    refine PySem.W.kdv_all0 ?_
    rw [hq, makeFunction_eq]
    simp only [List.zip_nil_right, List.filterMap_nil, List.isEmpty_nil, List.isEmpty_cons, if_true, if_false, Bool.false_eq_true, pure_bind]
    refine wpAny_bind (wpAny_newTextTuple ?_)
    have nT : H s1.heap.objs.size = none := I1.hok.fresh (Nat.le_refl _)
    have I2 : Inv X pins σ (upd H s1.heap.objs.size (.tup [.int 0])) { s1 with heap := s1.heap.push { cls := .type "tuple", data := .seq [u].toArray } } :=
      I1.laid (a := s1.heap.objs.size) (t' := s1.toks) (fun b u e => Heap.get?_push_of_some _ e) (Nat.le_refl _) ⟨by decide, [u], .cons r1 .nil, _, Heap.get?_push_size _ rfl, rfl, 0, rfl⟩
    have hP2 : upd H s1.heap.objs.size (.tup [.int 0]) P = some (.tbl ps) := by rw [upd_ne (ne_of_none hP nT)]; exact hP
    exact lam_tail I2 TB hcode hP2 ht (fun p cv hc => by
      obtain ⟨c, e1, e2⟩ := ha p cv hc
      exact ⟨c, e1, by rw [upd_ne (ne_of_none e2 nT)]; exact e2⟩) hfr fun f c' H1 s' I1 po => ⟨.ref f, H1, I1, rfl, h f c' _ _ H1 (.inr ⟨_, rfl, by rw [hx]; rfl, nT, rfl⟩) po⟩
def dLam (P : Addr) (F : LamF) (cl : List (Str × Addr)) : DE := fun _ L k _ => L.lookup P = some (.tab F.qual) ∧ k (.fnv F cl) L
def freeB (sc : Scope) (F : LamF) : Bool := F.scope.names.all fun y => !decide (y.2 = .free) || decide (sc.names.lookup y.1 = some .cell) || decide (sc.names.lookup y.1 = some .free)
theorem q_lam {F : LamF} {c P : Addr} {pos : Pos} (TB : LamX.TabB X.base X.mg c P) (hcode : X.env.code = .ref c) (hd : DfOk F) (hq : X.env.qual ++ "<lambda>" = F.qual := by rfl) (hfree : freeB X.env.scope F = true := by decide +kernel) :
    QE X Wx (.Lambda F.params F.body F.scope pos) (dLam P F (cloFrom X.env.cells F.scope.names [])) := by
  refine ⟨_, pe_lamD (pos := pos) TB hcode hq (fun y hy e => ?_) hd, fun σ H env L k x Q st h hk hx => ?_⟩
  · have z := List.all_eq_true.mp hfree y hy
    simp only [Bool.or_eq_true, Bool.not_eq_true', decide_eq_true_eq, decide_eq_false_iff_not] at z
    rcases z with (z | z) | z
    · exact absurd e z
    · exact .inl z
    · exact .inr z
  · obtain ⟨hl, h⟩ := h
    have pin := inL_of_lookup hl
    obtain ⟨ps, hP, ht, ha⟩ := (show ∃ ps : Array Value, H P = some (.tbl ps) ∧ TriplesOk ps.toList ∧ ∀ (pos : Pos) (cv : Value), codeAmong pos ps.toList = some cv → ∃ c, cv = .ref c ∧ ¬ inL L c ∧ H c = some (LamX.CodeO c F.qual) from st.2.look hl)
    refine ⟨ps, hP, ht, fun p cv hc => ?_, fun f c' dV H0 H1 hdv po => ?_⟩
    · obtain ⟨c, e1, _, e2⟩ := ha p cv hc
      exact ⟨c, e1, e2⟩
    · -- from H to H0
      have s0 : Same H H0 := by
        rcases hdv with ⟨_, _, e⟩ | ⟨t, _, _, nt, e⟩
        · rw [e]; exact Same.refl H
        · rw [e]; exact same_new nt _
      have j0 := st.2.same s0
      have n0 : ∀ b, H0 b = none → H b = none := fun b e => by
        cases q : H b with
        | none => rfl
        | some u => rw [s0 b u q] at e; cases e
      have g01 : Go L L H0 H1 := fun b u n e => ⟨n, po.keep b u e fun z => n (z ▸ pin)⟩
      have g : Go L L H H1 := (Go.same s0).trans g01
      have pP : ∀ u, H0 P = some u → False → H1 P = some u := fun _ _ z => z.elim
      have nc : ¬ inL L c' := by
        rcases po.c0 with z | z
        · exact st.2.notIn (n0 c' z)
        · obtain ⟨c, e1, n, _⟩ := ha pos _ z
          cases e1
          exact n
      have j1 : JL X.K L H1 := by
        refine ⟨st.2.nd, fun a d m => ?_⟩
        by_cases hap : a = P
        · subst hap
          have e1 : d = .tab F.qual := by
            have m2 := mem_of_lookup hl
            have key : ∀ {l : Led}, (l.map (·.1)).Nodup → ∀ {x y : D}, (a, x) ∈ l → (a, y) ∈ l → x = y := by
              intro l
              induction l with
              | nil => intro _ x y h; cases h
              | cons p r ih =>
                intro nd x y h1 h2
                rw [List.map_cons, List.nodup_cons] at nd
                rcases List.mem_cons.mp h1 with e1 | e1 <;> rcases List.mem_cons.mp h2 with e2 | e2
                · rw [← e1] at e2; cases e2; rfl
                · subst e1; exact absurd (List.mem_map.mpr ⟨_, e2, rfl⟩) nd.1
                · subst e2; exact absurd (List.mem_map.mpr ⟨_, e1, rfl⟩) nd.1
                · exact ih nd.2 e1 e2
            exact key st.2.nd m m2
          subst e1
          obtain ⟨ps', q1, q2, q3⟩ := po.tab
          refine ⟨ps', q1, q2, fun p cv hc => ?_⟩
          rcases q3 p cv hc with z | ⟨c0, e1, e2, e3⟩
          · obtain ⟨c, e1, n, e2⟩ := ha p cv z
            exact ⟨c, e1, n, (g c _ n e2).2⟩
          · exact ⟨c0, e1, st.2.notIn (n0 c0 e2), e3⟩
        · exact Own.move (st.2.own a d m) g fun u e => po.keep a u (s0 a u e) hap
      refine hk _ L _ H1 h g j1 (.fnv ⟨st.2.notIn (n0 f po.f0), c', dV, po.f1, nc, po.c1, ?_⟩)
      rcases hdv with ⟨e1, e2, _⟩ | ⟨t, e1, e2, nt, e⟩
      · exact .inl ⟨by rw [e1]; rfl, e2⟩
      · refine .inr ⟨by omega, t, e1, st.2.notIn nt, ?_⟩
        have h0 : H0 t = some (.tup [.int 0]) := by rw [e]; exact upd_same
        rw [e2]
        exact po.keep t _ h0 fun z => by
          obtain ⟨o, ho⟩ := Own.there (st.2.look hl)
          rw [← z, nt] at ho
          cases ho
end
end DL

namespace DL
open PySem PySem.Spec PyProof.Rows L2
/-! ### try: .. except tst as n: .. -/
/-- a clause's test: which classes it takes -/
def Tst (X : Cx) (tst : Expr) (m : Value → Option Bool) : Prop := ∀ (a : Addr) (pn pins : List (Addr × Obj)) (σ : L2.St) (H : Hp) (s : Shared) (cls : Value) (b : Bool) (Q : Bool → Shared → Prop) (E E' : Value → Shared → Prop), Inv (X.suite a pn) pins σ H s →
  PySem.W.Looks (model X.prog X.w) s.heap (typeOf (.ref a)) cls → m cls = some b → (∀ h' tk, (∀ q o, s.heap.get? q = some o → h'.get? q = some o) → Q b { s with heap := h', toks := tk }) →
  wpAny (model X.prog X.w) (X.A.mark (some (.ref a))) (eval tst X.env) (fun c s1 => wpAny (model X.prog X.w) (X.A.mark (some (.ref a))) (excMatches (.ref a) c) Q E s1) E' s
section
variable {X : Cx}
theorem nm_at {x : Str} {c : Value} {p : Pos} {a : Addr} {pn pins : List (Addr × Obj)} {σ : L2.St} {H : Hp} {s : Shared} {Q : Value → Shared → Prop} {E : Value → Shared → Prop} (hc : Names X x c) (S3 : Inv (X.suite a pn) pins σ H s) (q : Q c s) : wpAny (model X.prog X.w) (X.A.mark (some (.ref a))) (eval (.Name x p) X.env) Q E s := by
  obtain ⟨hg, hdbg, hm | ⟨hm, hv, hnn⟩⟩ := hc
  · exact ld_glob (X := X.suite a pn) S3 hg hm q hdbg
  · exact ld_blt (X := X.suite a pn) S3 hg hm hv q hnn hdbg
theorem tst_one {x : Str} {c : Value} {p : Pos} (hc : Names X x c) : Tst X (.Name x p) (fun cls => PySem.W.exmOne X.K cls c) := fun a pn pins σ H s cls b Q E E' I LT hm q => by
  refine nm_at hc I ?_
  exact (PySem.W.exm_one (M := model X.prog X.w) I.kIn LT hm).here (q s.heap s.toks fun _ _ e => e)
theorem tst_3 {x1 x2 x3 : Str} {c1 c2 c3 : Value} {p1 p2 p3 tp : Pos} {kk : Nat} (n1 : Names X x1 c1) (n2 : Names X x2 c2) (n3 : Names X x3 c3) : Tst X (.Tuple [.Name x1 p1, .Name x2 p2, .Name x3 p3] kk tp) (fun cls => PySem.W.exmAny X.K cls [c1, c2, c3]) := fun a pn pins σ H s cls b Q E E' I LT hm q => by
  refine wpAny_Tuple ?_
  show wpAny _ _ (spliced ((false, eval (.Name x1 p1) X.env) :: (false, eval (.Name x2 p2) X.env) :: (false, eval (.Name x3 p3) X.env) :: [])) _ _ s
  refine Calls.spliced_cons (nm_at n1 I ?_)
  refine Calls.spliced_cons (nm_at n2 I ?_)
  refine Calls.spliced_cons (nm_at n3 I ?_)
  refine Calls.spliced_nil ⟨by size_fits, ?_⟩
  have kp : ∀ q o, s.heap.get? q = some o → (s.heap.push { cls := .type "tuple", data := .seq [c1, c2, c3].toArray }).get? q = some o := fun _ _ z => Heap.get?_push_of_some _ z
  exact (PySem.W.exm_tup3 (I.kIn.keeps kp) (LT.keeps kp) (Heap.get?_push_size s.heap rfl) hm).here (q _ s.toks kp)
end
/-- the error as a thing that is known -/
abbrev excX (a : Addr) (oe : Obj) : HO := .ext fun h => h.get? a = some oe
section
variable {X : Cx} {pins : List (Addr × Obj)} {σ : L2.St} {H : Hp} {s : Shared}
theorem inv_suiteD (I : Inv X pins σ H s) {a : Addr} {oe : Obj} {vs : Array Value} (ha : s.heap.get? a = some oe) (hd : oe.data = .fields vs) (na : H a = none) (nL : a ≠ X.env.locals) (n0 : ∀ o, X.s_0.heap.get? a = some o → a ∈ X.ex) (np : ∀ p ∈ X.pn ++ pins, p.1 ≠ a) :
    Inv (X.suite a (X.pn ++ pins)) [] σ (upd H a (excX a oe)) s := by
  have ne : ∀ b u, H b = some u → b ≠ a := fun b u e => ne_of_none e na
  refine ⟨I.ok.suite _ _, I.os, I.bare, ⟨I.base.keep, I.base.slot, fun b o e n hx => ?_, I.base.there, fun b xs e => ?_, fun b o u e => ?_, fun b ps e => ?_⟩, I.loc, I.cell, ?_, fun y c e => ?_, fun p hp => ?_, fun b u e => ?_, I.len⟩
  · have hb : b ≠ a := fun z => hx (by rw [z]; exact n0 o (z ▸ e))
    rw [upd_ne hb]
    exact I.base.free b o e n hx
  · have e1 := I.base.tups b xs e
    rw [upd_ne (ne b _ e1)]
    exact e1
  · have e1 := I.base.frzs b o u e
    rw [upd_ne (ne b _ e1)]
    exact e1
  · obtain ⟨m, e1⟩ := I.base.tbls b ps e
    exact ⟨m, by rw [upd_ne (ne b _ e1)]; exact e1⟩
  · show upd H a (excX a oe) X.env.locals = none
    rw [upd_ne (Ne.symm nL)]
    exact I.free
  · have hc : c ≠ a := fun z => by
      obtain ⟨v, o, ho, hd2⟩ := I.cell y c e
      rw [z, ha] at ho
      cases ho
      rw [hd] at hd2
      cases hd2
    rw [upd_ne hc]
    exact I.freeC y c e
  · have hp' : p ∈ X.pn ++ pins := by rw [List.append_nil] at hp; exact hp
    obtain ⟨e1, e2, e3⟩ := I.pin p hp'
    exact ⟨e1, by rw [upd_ne (np p hp')]; exact e2, e3⟩
  · by_cases hb : b = a
    · subst hb
      rw [upd_same] at e
      cases e
      exact ⟨ha, ⟨oe, ha⟩, fun h1 h2 z st => st _ z⟩
    · rw [upd_ne hb] at e
      exact (I.hok b u e).stay (fun _ _ _ z => z) (fun d z => by rw [upd_ne (ne d _ z)]; exact z) fun d xs z => by rw [upd_ne (ne d _ z)]; exact z
theorem inv_unsuiteD {a : Addr} {pn' : List (Addr × Obj)} (I : Inv (X.suite a (X.pn ++ pins)) pn' σ H s) (ok : X.Ok) : Inv X pins σ H s :=
  ⟨ok, I.os, I.bare, I.base, I.loc, I.cell, I.free, I.freeC, fun p hp => I.pin p (List.mem_append_left _ hp), I.hok, I.len⟩
end
theorem fly_keeps {B h h' : Heap} {l : List Env} {a : Addr} {Z : Obj → Prop} (k : ∀ b o, h.get? b = some o → h'.get? b = some o) (x : HandSPX.FlyingZ B l a Z h) : HandSPX.FlyingZ B l a Z h' := by
  obtain ⟨k1, k2, k3, oe, vs, T, oT, ts, he, hz, hd, h1, hB, hne, hT, hdT, r⟩ := x
  exact ⟨fun b o e => k b o (k1 b o e), k2, k3.of_keeps fun b o e _ => ⟨o, k b o e, rfl⟩, oe, vs, T, oT, ts, k _ _ he, hz, hd, h1, hB, hne, k _ _ hT, hdT, r⟩
def wAsD (m : Value → Option Bool) (i : Nat) (ts : TS) (Wout : WX) (D : Ends) : WX := fun cls d σ H =>
  ∃ b, m cls = some b ∧ (b = true → ∀ a oe vs, H a = none → Zc cls d oe → oe.data = .fields vs → ts { nx := fun σ' H' => D.nx (σ'.set i none) H', rt := D.rt, bk := fun σ' H' => D.bk (σ'.set i none) H', ct := fun σ' H' => D.ct (σ'.set i none) H' } (σ.set i (some (.ref a))) (upd H a (excX a oe))) ∧
    (b = false → Wout cls d σ H)
section
variable {X : Cx} {n : Str} {i : Nat} {tst : Expr} {m : Value → Option Bool} {body suite : List Stmt} {b₀ : Stmt} {pos pos' : Pos} {tb : WX → TS} {ts : TS} {Wout : WX}
theorem ps_try_asD (hs : X.stack = X.env :: X.outer) (hf : X.env.frame = some X.env.locals) (hN : X.N.Nodup) (hi : X.N[i]? = some n) (hln : X.env.kindOf n = some .local) (hc : Tst X tst m) (tk : Takes X Wout)
    (hb : ∀ (W : WX) (pn : List (Addr × Obj)) (xe : Value → Shared → Prop), Takes (X.tr pn xe) W → PassesOwn (model X.prog X.w) X.A X.env xe → PSs (X.tr pn xe) body (tb W))
    (hsu : ∀ (a : Addr) (pn : List (Addr × Obj)), PSs (X.suite a pn) (b₀ :: suite) ts) :
    PS X (.Try body [.ExceptHandler (some tst) (some n) (b₀ :: suite) pos'] [] [] pos) (fun D σ H => tb (wAsD m i ts Wout D) D σ H) := by
  refine ⟨fun pins s σ H D I h => ?_⟩
  have ok := I.ok
  have hfr : X.A.frames = some (X.env :: X.outer) := by rw [ok.frames, hs]
  have hloc : Loc X.env.scope n := .inl hln
  refine wpAny_Try_except ?_
  refine wpAny_mono ((hb (wAsD m i ts Wout D) (X.pn ++ pins) (fun e s₁ => wpAny (model X.prog X.w) X.A (noteFrame e X.env) (fun _ s₂ => wpAny (model X.prog X.w) X.A (setFlight e none) (fun _ s₃ =>
    wpAny (model X.prog X.w) X.A (handleBy e X.env [.ExceptHandler (some tst) (some n) (b₀ :: suite) pos']) (SP X pins D) X.xe s₃) X.xe s₂) X.xe s₁) (fun u s' xx => ?_) PassesOwn.looking).run [] s σ H D (I.toTry _) h) (fun f s1 hsp => ?_) (fun e s1 he => he)
  · -- the catch
    obtain ⟨a, B, sI, pins', σ', H', cls, d, rfl, J', nb, up, sky, na, os, ag, b, hb1, hyes, hno⟩ := xx
    have J : Inv X pins σ' H' sI := J'.ofTry ok
    have sky' : Sky B (X.env :: X.outer) a (Zc cls d) X.env.locals s'.heap := by rw [← hs]; exact sky
    show wpAny (model X.prog X.w) X.A (noteFrame (.ref a) X.env) _ _ _
    refine Sky.land Zc.steady hfr hf sky' fun h3 fl3 up3 => ?_
    have J3 : Inv X pins σ' H' { s' with heap := h3 } := J.landed nb fl3.1 (up.trans up3) os ag
    obtain ⟨oe3, vs3, he3, hz3, hd3⟩ := fl3.there
    have notFr : ∀ {h : Heap} {o : Obj} {vs : Array Value}, h.FunFrames B (X.env :: X.outer) → h.get? a = some o → o.data = .fields vs → a ∉ frs (X.env :: X.outer) := fun {h o vs} ff e dd hm => by
      obtain ⟨_, o', e', hnf⟩ := ff.mem hm
      rw [e] at e'; cases e'
      exact hnf _ dd
    have nfr := notFr fl3.2.2.1 he3 hd3
    have nL : a ≠ X.env.locals := fun z => nfr (List.mem_filterMap.mpr ⟨X.env, List.mem_cons_self, by rw [hf, z]⟩)
    have nF : a ∉ X.fs := fun hm => by
      obtain ⟨e, he, q⟩ := List.mem_filterMap.mp hm
      exact nfr (List.mem_filterMap.mpr ⟨e, List.mem_cons_of_mem _ he, q⟩)
    have nI : ∀ o, sI.heap.get? a ≠ some o := fun o e => by
      have z := nb a o e (by rw [hs]; exact nfr)
      rw [fl3.2.1] at z
      cases z
    have n0 : ∀ o, X.s_0.heap.get? a = some o → a ∈ X.ex := fun o e => by
      by_cases hx : a ∈ X.ex
      · exact hx
      · obtain ⟨o', e'⟩ := J.base.there a o e hx
        exact absurd e' (nI o')
    have np : ∀ p ∈ X.pn ++ pins, p.1 ≠ a := fun p hp z => nI p.2 (z ▸ (J.pin p hp).1)
    have S3 := inv_suiteD J3 he3 hd3 na nL n0 np
    refine wpAny_handleBy_cons (codeAny_handlers_test ?_) (by intro q; cases q)
    have LT : PySem.W.Looks (model X.prog X.w) h3 (typeOf (.ref a)) cls := fun A Q E s k q => wpAny_typeOf_ref (k _ _ he3) (by rw [hz3.1]; exact q)
    refine hc a (X.pn ++ pins) [] σ' _ { s' with heap := h3 } cls b _ _ _ S3 LT hb1 fun h3' tk3 kp3 => ?_
    have fl3' := fly_keeps kp3 fl3
    have up3' := up3.trans (Heap.UpToSlots.of_keeps kp3)
    cases b with
    | true =>
      refine codeAny_handlers_suite_as ?_
      refine HandSPX.lands_againZ fl3' fun h4 fl4 up4 => ?_
      have J4 : Inv X pins σ' H' { s' with heap := h4, toks := tk3 } := J.landed nb fl4.1 ((up.trans up3').trans up4) os ag
      obtain ⟨oe4, vs4, he4, hz4, hd4⟩ := fl4.there
      have S4 := inv_suiteD J4 he4 hd4 na nL n0 np
      refine store_ok (X := X.suite a (X.pn ++ pins)) (v := .ref a) S4 hN hi hloc rfl (fun s5 S5 => ?_) (.inr hln)
      refine wpAny_mono ((hsu a (X.pn ++ pins)).run [] s5 _ _ _ S5 (hyes rfl a oe4 vs4 na hz4 hd4)) (fun f s6 hsp => ?_) (fun _ _ z => False.elim z)
      have end_ : ∀ {σ6 : L2.St} {H6 : Hp} {Q : Shared → Prop}, Inv (X.suite a (X.pn ++ pins)) [] σ6 H6 s6 → (∀ s7, Inv X pins (σ6.set i none) H6 s7 → Q s7) →
          wpAny (model X.prog X.w) X.A (do bindName X.env n .none; unbindBehindTheSuite X.env n pos') (fun _ s7 => Q s7) X.xe s6 := fun {σ6 H6 Q} S6 hq => gone_ok (inv_unsuiteD S6 ok) hN hi hln hq
      cases f with
      | next =>
        obtain ⟨σ6, H6, S6, q6⟩ := hsp
        exact end_ S6 fun s7 J7 => ⟨_, _, J7, q6⟩
      | brk =>
        obtain ⟨σ6, H6, S6, q6⟩ := hsp
        exact end_ S6 fun s7 J7 => ⟨_, _, J7, q6⟩
      | cont =>
        obtain ⟨σ6, H6, S6, q6⟩ := hsp
        exact end_ S6 fun s7 J7 => ⟨_, _, J7, q6⟩
      | ret u =>
        obtain ⟨v6, σ6, H6, S6, r6, q6⟩ := hsp
        exact end_ S6 fun s7 J7 => ⟨_, _, _, J7, r6, q6⟩
    | false =>
      show wpAny _ X.A (handleBy (.ref a) X.env []) _ _ _
      refine wpAny_handleBy_nil ?_
      obtain ⟨k1, k2, k3, oe, vs, T, oT, ts', he, hz, hd, h1, hr⟩ := id fl3'
      unfold PySem.passOn
      refine wpAny_bind (wpAny_field he hd h1 ?_)
      rw [if_neg (show ¬ ((Value.ref T == Value.none) = true) from by simp)]
      have fin : wpAny (model X.prog X.w) X.A (setFlight (.ref a) X.env.frame) (fun _ s4 => wpAny (model X.prog X.w) X.A (throw (.ref a) : Sem Flow) (SP X pins D) X.xe s4) X.xe { s' with heap := h3', toks := tk3 } := by
        rw [hf]
        refine HandSPX.setFlight_upZ fl3' fun h4 hh4 up4 => wpAny_throw (tk _ _ ?_)
        exact ⟨a, B, sI, pins, σ', H', cls, d, rfl, J, nb, (up.trans up3').trans up4, .inr (.inr (by rw [hs]; exact hh4)), na, os, ag, hno rfl⟩
      first
        | exact wpAny_bind (wpAny_pure (wpAny_bind fin))
        | exact wpAny_bind fin
  · cases f with
    | next =>
      obtain ⟨σ', H', J', q⟩ := hsp
      exact wpAny_execs_nil ⟨σ', H', J'.ofTry ok, q⟩
    | brk =>
      obtain ⟨σ', H', J', q⟩ := hsp
      exact ⟨σ', H', J'.ofTry ok, q⟩
    | cont =>
      obtain ⟨σ', H', J', q⟩ := hsp
      exact ⟨σ', H', J'.ofTry ok, q⟩
    | ret u =>
      obtain ⟨v, σ', H', J', r, q⟩ := hsp
      exact ⟨v, σ', H', J'.ofTry ok, r, q⟩
end
end DL

namespace DL
open PySem PySem.Spec PyProof.Rows L2
section
variable {X : Cx} {Wx : WX} {a b c e o : Expr} {es rest : List Expr} {da db dc de do' : DE} {dt du : DT} {dl dk : DA} {pos : Pos}
/-! ### statements as readings of the layer -/
def tsOf (K : PySem.W.Frag) (Wx : WX) (ds : DS) : TS := fun D σ H => ∃ env L D', StL K σ H env L ∧ ds D' env L ∧ EOk K Wx L H D' D
theorem QSs.pss {sts : List Stmt} {ds : DS} (h : QSs X Wx sts ds) : PSs X sts (tsOf X.K Wx ds) := by
  obtain ⟨ts, p, s⟩ := h.ex
  refine ⟨fun pins s' σ H D I hw => ?_⟩
  obtain ⟨env, L, D', st, h, ok⟩ := hw
  exact p.run pins s' σ H D I (s σ H env L D' D st h ok)
abbrev noW : WX := fun _ _ _ _ => False
def dTry (m : Value → Option Bool) (i : Nat) (db ds : DS) : DS := fun D env L => db { D with ex := fun n env' L' => ∃ b, m n.cls = some b ∧ match b with
  | true => ∃ C, n.cls = .ref C ∧ ds { nx := fun e L => D.nx (e.set i none) L, rt := D.rt, ex := fun _ _ _ => False, bk := fun e L => D.bk (e.set i none) L, ct := fun e L => D.ct (e.set i none) L } (env'.set i (some (.exc C n.ns n.vs))) L'
  | false => D.ex n env' L' } env L
theorem s_try (i : Nat) {n : Str} {tst : Expr} {m : Value → Option Bool} {body suite : List Stmt} {b₀ : Stmt} {pos pos' : Pos} {db ds : DS} (hs : X.stack = X.env :: X.outer) (hf : X.env.frame = some X.env.locals) (hN : X.N.Nodup) (hc : Tst X tst m) (tk : Takes X Wx)
    (hb : ∀ (W : WX) (pn : List (Addr × Obj)) (xe : Value → Shared → Prop), Takes (X.tr pn xe) W → PassesOwn (model X.prog X.w) X.A X.env xe → QSs (X.tr pn xe) W body db)
    (hsu : ∀ (a : Addr) (pn : List (Addr × Obj)), QSs (X.suite a pn) noW (b₀ :: suite) ds) (hi : X.N[i]? = some n := by rfl) (hln : X.env.kindOf n = some .local := by rfl) :
    QS X Wx (.Try body [.ExceptHandler (some tst) (some n) (b₀ :: suite) pos'] [] [] pos) (dTry m i db ds) := by
  refine ⟨_, ps_try_asD (tb := fun W => tsOf X.K W db) (ts := tsOf X.K noW ds) hs hf hN hi hln hc tk (fun W pn xe tk' po => (hb W pn xe tk' po).pss) (fun a pn => (hsu a pn).pss), fun σ H env L D' D st h ok => ?_⟩
  refine ⟨env, L, _, st, h, ⟨ok.nx, ok.rt, fun nn env' L' d H' σ' hx g' st' er => ?_, ok.bk, ok.ct⟩⟩
  obtain ⟨b, hm, hx⟩ := hx
  refine ⟨b, hm, fun hb => ?_, fun hb => ?_⟩
  · subst hb
    obtain ⟨C, hC, hx⟩ := hx
    intro a oe vs na hz hd
    obtain ⟨nd, xs, h1, h2, h3⟩ := er
    have s1 := same_new na (excX a oe)
    have g1 : Go L' L' H' (upd H' a (excX a oe)) := Go.same s1
    have j1 := st'.2.same s1
    refine ⟨_, L', _, ⟨((st'.1.go g1).set (.exc (st'.2.notIn na) nd upd_same (fun h z => ⟨oe, vs, z, ?_, hz.2, hd⟩) (.inl (s1 d _ h1)) h2 (h3.go g1)) i), j1⟩, hx, ?_⟩
    · rw [← hC]; exact hz.1
    · have ok' := (ok.go g').go g1
      exact ⟨fun e L2 σ2 H2 q g st2 => ok'.nx _ L2 _ H2 q g ⟨st2.1.wipe1 i, st2.2⟩, ok'.rt, fun _ _ _ _ _ _ z => z.elim, fun e L2 σ2 H2 q g st2 => ok'.bk _ L2 _ H2 q g ⟨st2.1.wipe1 i, st2.2⟩, fun e L2 σ2 H2 q g st2 => ok'.ct _ L2 _ H2 q g ⟨st2.1.wipe1 i, st2.2⟩⟩
  · subst hb
    exact ok.ex nn env' L' d H' σ' hx g' st' er
/-! ### what is never reached -/
def dNever : DS := fun _ _ _ => False
theorem s_never {st : Stmt} : QS X Wx st dNever := ⟨_, ps_never, fun _ _ _ _ _ _ _ h _ => h.elim⟩
/-! ### raise C() -/
theorem pmk_oex0 {CX : CXT} {x : Str} {C fI : Addr} {k : Nat} {fd : FuncData} {ps : List Str} {sp : Sp} {p : Pos} (T : OexC X.K C) (iC : PySem.W.findIn X.K (.ref C) "__init__" = some (some (.ref fI))) (tI : PySem.W.typeIn X.K (.ref fI) = some (.type "function"))
    (F1 : FnOk X.prog X.w X.K X.mg X.base CX k fI fd ps sp) (hr : Room (k + 1) X.A) (hb : Binds X.K fd ps []) (hx : Passes CX X (fun _ _ _ => False)) (hg : Gl X x) (hm : X.mg x = some (.ref C))
    (hdb : (x == ("__debug__" : Str)) = false := by decide) :
    PMk X (.Call (.Name x p) [] [] pos) (tMkO C sp [] tNil) := by
  intro pins s σ H Q I h
  obtain ⟨nm, q, N, bs, bm, sn, sub, ab, col, dd, k0, k1, k2, k3, k5, hC, hbm⟩ := T.cls
  refine wpAny_Call_Name_kw (ld_glob I hg hm ?_ hdb)
  refine PySem.W.callWith_K0 I.kIn T.kC ?_
  show wpAny _ _ (call (.ref C) []) _ _ _
  obtain ⟨_, q1⟩ := h
  obtain ⟨hp, g, dr, tk, os⟩ := s
  have I1 := I
  have hsz : hp.objs.size ≤ hp.objs.size + 1 := Nat.le_succ _
  have hn : H (hp.objs.size + 1) = none := I1.hok.fresh hsz
  have hq := q1 (hp.objs.size + 1) hn
  have kk : ∀ b o, hp.get? b = some o → ((hp.push (PySem.W.kdv_tup [])).push (PySem.HandSPX.excO C hp.objs.size)).get? b = some o := fun b o e => Heap.get?_push_of_some _ (Heap.get?_push_of_some _ e)
  have hget : ((hp.push (PySem.W.kdv_tup [])).push (PySem.HandSPX.excO C hp.objs.size)).get? (hp.objs.size + 1) = some (PySem.HandSPX.excO C hp.objs.size) := by heap_get
  have I2 : Inv X pins σ (upd H (hp.objs.size + 1) (exo (hp.objs.size + 1) C none)) ⟨(hp.push (PySem.W.kdv_tup [])).push (PySem.HandSPX.excO C hp.objs.size), g, dr, tk, os⟩ :=
    I1.laid (t' := tk) (a := hp.objs.size + 1) (o := exo (hp.objs.size + 1) C none) (h' := (hp.push (PySem.W.kdv_tup [])).push (PySem.HandSPX.excO C hp.objs.size)) kk hsz (exo_ok hget)
  have r2 : Vals [V.ref (hp.objs.size + 1)] [Value.ref (hp.objs.size + 1)] := .cons rfl .nil
  have hl : ([Value.ref (hp.objs.size + 1)] ++ []).length = ps.length := by
    have e : [V.ref (hp.objs.size + 1)].length = ps.length := F1.len _ _ _ _ hq
    exact e
  refine wpAny_call (PySem.HandSPX.call_own F.excBase_ValueError (fun Y => PySem.HandSPX.refsVE_contains Y bm hbm) (I1.kIn _ _ hC) (PySem.W.looks_findIn I1.kIn iC) (fun self => PySem.W.bind_fn I1.kIn self tI) (Nat.zero_le _)
    (codeAny_mono (F1.run _ X.stack _ _ ⟨[Value.ref (hp.objs.size + 1)], []⟩ [Value.ref (hp.objs.size + 1)] _ _ (fun _ _ _ => False) (hr.make C [] []) (I2.env0.make C [] []) (hb _ [Value.ref (hp.objs.size + 1)] I2.kIn hl) r2 hq) fun r s' hq' => ?_))
  cases r with
  | error er => exact hx pins σ _ _ er s' I2 hq'
  | ok fl =>
    cases fl with
    | ret u =>
      obtain ⟨v, H2, os2, bare2, un2, hok2, rv, ev, d, fs, ea, ed, hd1, q2⟩ := hq'
      subst ev
      obtain ⟨h2, g2, d2, t2, os'⟩ := s'
      exact ⟨rv, mk_end (raises_own T.exC T.tyC) I1 hsz kk un2 hok2 os2 bare2 ea ed hd1 q2⟩
    | next => exact False.elim hq'
    | brk => exact False.elim hq'
    | cont => exact False.elim hq'
def dRaise0 (C : Addr) (code : Str) : DS := fun D env L => D.ex ⟨.ref C, ["code"], [.str code]⟩ env L
theorem s_raise0 {x : Str} {C : Addr} {ps : List Str} {code : Str} {p pos2 : Pos} {k : Nat} (T : ExCls X.prog X.w X.K X.mg X.base x C ps (spI0 C code)) (hcalm : X.calm = true) (hr : Room k X.A) (h2 : 2 ≤ k) (tk : Takes X Wx) (hg : Gl X x) (hdb : (x == ("__debug__" : Str)) = false := by decide) :
    QS X Wx (.Raise (some (.Call (.Name x p) [] [] pos)) none pos2) (dRaise0 C code) := by
  obtain ⟨fI, fd, iC, tI, F1, hb⟩ := T.make_
  refine ⟨_, ps_raise (W := Wx) hcalm tk (pmk_oex0 T.oex iC tI F1 (hr.mono h2) hb (fun _ _ _ _ _ _ _ h => by obtain ⟨_, _, _, _, _, _, _, _, _, _, _, _, z⟩ := h; exact z.elim) hg T.gC hdb), fun σ H env L D' D st h ok => ?_⟩
  refine ⟨by simp, fun q hq => ⟨q, rfl, upd_same, fun d hd hne => ?_⟩⟩
  have hd1 : H d = none := by rw [upd_ne hne] at hd; exact hd
  refine ⟨rfl, d, [("code", .str code)], upd_same, ?_, hd1, ?_⟩
  · rw [upd_ne hne, upd_same]
  · have s : Same H (upd (del (upd (upd (upd H q (exo q C none)) d (exd d [("code", .str code)])) q (exo q C (some d))) q) d (.xd [("code", .str code)])) := fun b u hb => by
      have n1 : b ≠ q := ne_of_none hb hq
      have n2 : b ≠ d := ne_of_none hb hd1
      rw [upd_ne n2, del_ne n1, upd_ne n1, upd_ne n2, upd_ne n1]
      exact hb
    have g2 : Go L L H _ := Go.same (L := L) s
    have j2 := st.2.same s
    exact ok.ex ⟨.ref C, ["code"], [.str code]⟩ env L d _ σ h g2 (st.go g2 j2) ⟨st.2.notIn hd1, [.str code], upd_same, rfl, .cons (.str code) .nil⟩
/-! ### x in (.., ..) of flat things -/
def flD : D → Option V
  | .non => some .non
  | .bl b => some (.bl b)
  | .int i => some (.int i)
  | .str x => some (.str x)
  | _ => none
def flDs : List D → Option (List V)
  | [] => some []
  | d :: r => match flD d, flDs r with
    | some v, some vs => some (v :: vs)
    | _, _ => none
theorem flD_of {L : Led} {K : PySem.W.Frag} {H : Hp} {v v' : V} {d : D} (r : Rp L K H v d) (h : flD d = some v') : v = v' ∧ flatV v = true := by
  cases r <;> first | (cases h; done) | skip
  all_goals (cases h; exact ⟨rfl, rfl⟩)
theorem flDs_of {L : Led} {K : PySem.W.Frag} {H : Hp} : ∀ {vs vs' : List V} {ds : List D}, RpAll L K H vs ds → flDs ds = some vs' → vs = vs' ∧ vs.all flatV = true
  | _, _, _, .nil, h => by cases h; exact ⟨rfl, rfl⟩
  | _, _, _, .cons (d := d) (ds := ds) r t, h => by
    unfold flDs at h
    split at h
    · rename_i v vs h1 h2
      cases h
      obtain ⟨e1, f1⟩ := flD_of r h1
      obtain ⟨e2, f2⟩ := flDs_of t h2
      subst e1 e2
      exact ⟨rfl, by rw [List.all_cons, f1, f2]; rfl⟩
    · cases h
def gIn (neg : Bool) : G2 := fun a b L k => match flD a, seqs (con L b) with
  | some v, some ds => match flDs ds with
    | some vs => k (.bl (if neg then !inV v vs else inV v vs))
    | none => False
  | _, _ => False
theorem sim_in {K : PySem.W.Frag} {neg : Bool} : Sim2 K (rIn K neg) (gIn neg) := by
  intro H L va vb a b k Q j ra rb h hk
  unfold gIn at h
  split at h
  · rename_i v ds h1 h2
    split at h
    · rename_i vs h3
      obtain ⟨e1, f1⟩ := flD_of ra h1
      subst e1
      obtain ⟨p, ws, rfl, hs, rv⟩ := con_seq j rb h2
      obtain ⟨e2, f2⟩ := flDs_of rv h3
      subst e2
      exact ⟨p, ws, rfl, hs, f1, f2, hk _ _ H h (Same.refl H) (.bl _)⟩
    · exact h.elim
  · exact h.elim
theorem oq_inQ : OQ X (compareOp .In) (gIn false) := ⟨_, op_in_seq, sim_in⟩
theorem oq_notInQ : OQ X (compareOp .NotIn) (gIn true) := ⟨_, op_notIn_seq, sim_in⟩
/-! ### defs that are called in an except suite: they raise nothing and do not loop -/
structure FnQ (P : Program) (w : World) (K : PySem.W.Frag) (mg : Str → Option Value) (base : Heap) (k : Nat) (f : Addr) (fd : FuncData) (ps : List Str) (sp : Sp) : Prop where
  len : ∀ vs H Q E, sp vs H Q E → vs.length = ps.length
  run : ∀ (A : Around) (outer : List Env) (s : Shared) (H : Hp) (args : Args) (us : List Value) (vs : List V) (Q : VK), L2H.RoomH k A → Env0 P w K mg base A outer s H → BindsTo s fd args (ps.zip us) → Vals vs us → sp vs H Q (fun _ _ _ => False) →
    codeAny (model P w) A (.call (.ref f) args) (CR (L2.CX P w) outer P w H s Q fun _ _ _ => False) s
end
def cxQ (P : Program) (w : World) (K : PySem.W.Frag) (mg : Str → Option Value) (base : Heap) (N : List Str) (qual : Str) (scope : Scope) (f : Addr) (cd : Value) (A : Around) (outer : List Env) (s : Shared) (H : Hp) : Cx :=
  { cxOf (L2.CX P w) P w K mg base N qual scope f cd A outer s H (fun _ _ _ => False) with calm := false, xe := fun _ _ => False }
section
variable {P : Program} {w : World} {K : PySem.W.Frag} {mg : Str → Option Value} {base : Heap}
theorem fn_okQ {x qual : Str} {st : Stmt} {f : Addr} {fd : FuncData} {N ps : List Str} {k : Nat} {g : DSp} (F : Fun K x qual st f fd) (S : FnScope N ps (defScope st)) (len : ∀ ds L k x, g ds L k x → ds.length = ps.length)
    (body : ∀ (cdv : Value) (A : Around) (outer : List Env) (s : Shared) (H : Hp), L2H.RoomH k (A.deeper (envOfC qual (defScope st) s.heap.objs.size f cdv)) →
      ∃ t, QSs (cxQ P w K mg base N qual (defScope st) f cdv A outer s H) noW (defBody st) t ∧ ∀ ds L k x, g ds L k x → t (endsD k fun _ _ => False) (startD N ds) L) : FnQ P w K mg base (k + 1) f fd ps (spD K g) := by
  obtain ⟨oc, od, kV, doc, pm, an, cdv, ct, osl, rfl, lk, hcd⟩ := F.ex
  have len' : ∀ vs H Q E, spD K g vs H Q E → vs.length = ps.length := fun vs H Q E h => by
    obtain ⟨ds, L, k, x, j, r, h, _⟩ := h
    rw [r.length]
    exact len ds L k x h
  refine ⟨len', fun A outer s H args us vs Q hr e0 hb r hsp => ?_⟩
  have hl := len' _ _ _ _ hsp
  have KX : K.In s.heap := e0.mod.kin.keeps fun b o e => (e0.bs b o e).1
  have lim : s.heap.NoLimit := e0.mod.nolimit.keeps fun b o e => (e0.bs b o e).1
  have hkind : ∀ y ∈ ps.zip us, (defScope st).names.lookup y.1 = some .local ∨ ((defScope st).names.lookup y.1 = some .cell ∧ ((cellsFrom (s.heap.objs.size + 1) (defScope st).names []).lookup y.1).isSome = true) := fun ⟨n, v⟩ hy => by
    rcases S.par n (List.of_mem_zip hy).1 with q | q
    · exact .inl q
    · exact .inr ⟨q, PySem.W.cellsFrom_some _ _ _ (.inl q)⟩
  refine codeAny_call_function hr.depth (KX _ _ lk) rfl S.co S.gen rfl (PySem.W.codeRec_of KX hcd) (hb _ _ _ _ ?_)
  refine wpAny_newFunctionEnv_cells S.kind hkind fun env he s1 x => ?_
  subst he
  refine ⟨lim.keeps x.toInCall.keep, codeAny_func ?_⟩
  obtain ⟨t, q, ht⟩ := body cdv A outer s H (hr.deeper _)
  obtain ⟨ts, pts, sts⟩ := q.ex
  have e1 : Env0 P w K mg base { A with handled := none } outer s H := ⟨e0.frames, e0.mod, e0.bs, e0.bsz, e0.funs, e0.frf, e0.hok, e0.bare⟩
  have I0 := inv_start (CX := L2.CX P w) (qual := qual) (f := f) (cd := cdv) (E := fun _ _ _ => False) S (A := { A with handled := none }) rfl e1 hl r x
  have I : Inv (cxQ P w K mg base N qual (defScope st) f cdv A outer s H) [] (L2.start N vs) H s1 :=
    ⟨⟨I0.ok.mod, I0.ok.kind, I0.ok.glob, I0.ok.blt, I0.ok.above, I0.ok.inj, I0.ok.has, I0.ok.cab, (fun z => Bool.noConfusion (show false = true from z)), Around.frames_deeper e0.frames, I0.ok.stk, I0.ok.exf, I0.ok.bs, I0.ok.bsz, I0.ok.noex, I0.ok.exfs, I0.ok.funs, I0.ok.frf⟩,
      I0.os, I0.bare, I0.base, I0.loc, I0.cell, I0.free, I0.freeC, I0.pin, I0.hok, I0.len⟩
  obtain ⟨ds, L, kk, xx, j, rr, hg, hk, hx⟩ := hsp
  refine wpAny_mono (pts.run [] s1 (L2.start N vs) H { nx := fun _ H' => Q .non H', rt := Q } I (sts _ H (startD N ds) L (endsD kk fun _ _ => False) _ ⟨?_, j⟩ (ht ds L kk xx hg) ?_)) (fun fl s' hs => ?_) fun e s' hs => hs.elim
  · unfold L2.start startD
    rw [rr.length]
    exact Sto.start rr
  · exact ⟨fun env' L' σ' H' q g' st' => hk .non L' .non H' q g' st'.2 .non, hk, fun n env' L' a H' σ' q g' st' r' => q.elim, fun _ _ _ _ q => q.elim, fun _ _ _ _ q => q.elim⟩
  · have fin : ∀ {σ' : L2.St} {H' : Hp} {v : V} {u : Value}, Inv (cxQ P w K mg base N qual (defScope st) f cdv A outer s H) [] σ' H' s' → RelV v u → Q v H' → CE outer P w H s Q u s' :=
      fun {σ' H' v u} J rv q => ⟨v, H', J.os, J.bare, J.base, J.hok, rv, q⟩
    cases fl with
    | ret u =>
      obtain ⟨v, σ', H', J, rv, q⟩ := hs
      exact fin J rv q
    | next =>
      obtain ⟨σ', H', J, q⟩ := hs
      exact fin (v := V.non) (u := Value.none) J rfl q
    | brk =>
      obtain ⟨_, _, _, q⟩ := hs
      exact False.elim q
    | cont =>
      obtain ⟨_, _, _, q⟩ := hs
      exact False.elim q
end
structure CalQ (P : Program) (w : World) (K : PySem.W.Frag) (mg : Str → Option Value) (base : Heap) (n : Nat) (x : Str) (ps : List Str) (g : DSp) : Prop where
  ex : ∃ (f : Addr) (fd : FuncData), FnQ P w K mg base n f fd ps (spD K g) ∧ mg x = some (.ref f) ∧ PySem.W.keepIn K (.ref f) = true ∧ Binds K fd ps []
section
variable {X : Cx} {Wx : WX} {e : Expr} {es : List Expr} {dl : DA} {pos : Pos}
theorem q_calQ {x : Str} {p : Pos} {n k : Nat} {ps : List Str} {g : DSp} (F : CalQ X.prog X.w X.K X.mg X.base n x ps g) (hn : n ≤ k) (hr : L2H.RoomH k X.A) (hg : Gl X x) (ha : QA X Wx (e :: es) dl) (hdb : (x == ("__debug__" : Str)) = false := by decide)
    (he : starEach (e :: es) X.env = (false, eval e X.env) :: starEach es X.env := by rfl) (hpl : (backTo pos (starEach es X.env)).any (·.1) = false := by rfl) : QE X Wx (.Call (.Name x p) (e :: es) [] pos) (fun env L k x => dl env L (fun ds L1 => g ds L1 k fun _ _ => False) x) := by
  obtain ⟨f, fd, F, hm, hk, hb⟩ := F.ex
  obtain ⟨ta, pa, sa⟩ := ha.ex
  refine ⟨fun σ H Q => ta σ H fun vs H1 => spD X.K g vs H1 Q fun _ _ _ => False, ⟨fun pins s σ H Q I h => ?_⟩, fun σ H env L kk xx Q st h hk hx => ?_⟩
  · refine wpAny_Call_Name_kw (ld_glob I hg hm ?_ hdb)
    refine PySem.W.callWith_K (h₀ := X.base) I.ok.mod.kin hk (thn (pa.run pos pins s σ H _ I h) fun us s1 ⟨vs, H1, I1, r, q⟩ => ⟨I1.kIn, ?_⟩) he hpl
    have hl : us.length = ps.length := by rw [← r.length]; exact F.len _ _ _ _ q
    have rc := F.run X.A X.stack s1 H1 ⟨us, []⟩ (us ++ []) vs Q (hr.mono hn) I1.env0 (hb s1 us I1.kIn (by rw [List.append_nil]; exact hl)) (by rw [List.append_nil]; exact r) q
    refine wpAny_call (codeAny_mono rc fun r' s' hq => ?_)
    cases r' with
    | error e => obtain ⟨_, _, _, _, _, _, _, _, _, _, _, _, z⟩ := hq; exact z.elim
    | ok fl =>
      cases fl with
      | ret u => exact I1.after hq
      | next => exact False.elim hq
      | brk => exact False.elim hq
      | cont => exact False.elim hq
  · refine sa σ H env L _ xx _ st h (fun ds L1 vs H1 h1 g1 j1 r1 => ?_) hx
    exact ⟨ds, L1, kk, _, j1, r1, h1, hk.go g1, fun n L' a H' q _ _ _ => q.elim⟩
end
end DL

namespace DL
open PySem PySem.Spec PyProof.Rows L2
section
variable {P : Program} {w : World} {K : PySem.W.Frag} {mg : Str → Option Value} {base : Heap}
/-- a def that makes lambdas: its code object is known -/
theorem fn_okC {x qual : Str} {st : Stmt} {f : Addr} {oc kV doc pm cdv ct : Value} {od an : Option Addr} {osl : Array (Option Value)} {N ps : List Str} {k : Nat} {g : DSp} (lk : K.lookup f = some ⟨oc, od, .func (PySem.W.fnOf x qual (defArgs st) (defBody st) (defScope st) .none kV doc pm an cdv ct), osl⟩) (hcd : PySem.W.codeIn K cdv qual = true)
    (S : FnScope N ps (defScope st)) (len : ∀ ds L k x, g ds L k x → ds.length = ps.length)
    (body : ∀ (A : Around) (outer : List Env) (s : Shared) (H : Hp) (E : XK), Room k (A.deeper (envOfC qual (defScope st) s.heap.objs.size f cdv)) →
      ∃ t, QSs (cxOf (L2.CX P w) P w K mg base N qual (defScope st) f cdv A outer s H E) (wxOf E) (defBody st) t ∧ ∀ ds L k x, g ds L k x → t (endsD k x) (startD N ds) L) : FnOk P w K mg base (L2.CX P w) (k + 1) f (PySem.W.fnOf x qual (defArgs st) (defBody st) (defScope st) .none kV doc pm an cdv ct) ps (spD K g) := by
  refine fn_of lk hcd S (fun vs H Q E h => ?_) (fun A outer s H vs Q E hr h => ?_)
  · obtain ⟨ds, L, k, x, j, r, h, _⟩ := h
    rw [r.length]
    exact len ds L k x h
  · obtain ⟨ds, L, k, x, j, r, h, hk, hx⟩ := h
    obtain ⟨t, q, ht⟩ := body A outer s H E hr
    obtain ⟨ts, pts, sts⟩ := q.ex
    refine ⟨ts, pts, sts _ H (startD N ds) L (endsD k x) _ ⟨?_, j⟩ (ht ds L k x h) ?_⟩
    · unfold L2.start startD
      rw [r.length]
      exact Sto.start r
    · exact ⟨fun env' L' σ' H' q g' st' => hk .non L' .non H' q g' st'.2 .non, hk, fun n env' L' a H' σ' q g' st' r' => hx n L' a H' q g' st'.2 r', fun _ _ _ _ q => q.elim, fun _ _ _ _ q => q.elim⟩
/-- a def with defaults -/
abbrev FunV (K : PySem.W.Frag) (x qual : Str) (st : Stmt) (dvs : List V) (f : Addr) (fd : FuncData) : Prop := FunD K x qual (defArgs st) (defBody st) (defScope st) dvs [] f fd
theorem fn_okD {x qual : Str} {st : Stmt} {f : Addr} {fd : FuncData} {dvs : List V} {N ps : List Str} {k : Nat} {g : DSp} (F : FunV K x qual st dvs f fd) (S : FnScope N ps (defScope st)) (len : ∀ ds L k x, g ds L k x → ds.length = ps.length)
    (body : ∀ (cdv : Value) (A : Around) (outer : List Env) (s : Shared) (H : Hp) (E : XK), Room k (A.deeper (envOfC qual (defScope st) s.heap.objs.size f cdv)) →
      ∃ t, QSs (cxOf (L2.CX P w) P w K mg base N qual (defScope st) f cdv A outer s H E) (wxOf E) (defBody st) t ∧ ∀ ds L k x, g ds L k x → t (endsD k x) (startD N ds) L) : FnOk P w K mg base (L2.CX P w) (k + 1) f fd ps (spD K g) := by
  refine F.ok S (fun vs H Q E h => ?_) (fun cdv A outer s H vs Q E hr h => ?_)
  · obtain ⟨ds, L, k, x, j, r, h, _⟩ := h
    rw [r.length]
    exact len ds L k x h
  · obtain ⟨ds, L, k, x, j, r, h, hk, hx⟩ := h
    obtain ⟨t, q, ht⟩ := body cdv A outer s H E hr
    obtain ⟨ts, pts, sts⟩ := q.ex
    refine ⟨ts, pts, sts _ H (startD N ds) L (endsD k x) _ ⟨?_, j⟩ (ht ds L k x h) ?_⟩
    · unfold L2.start startD
      rw [r.length]
      exact Sto.start r
    · exact ⟨fun env' L' σ' H' q g' st' => hk .non L' .non H' q g' st'.2 .non, hk, fun n env' L' a H' σ' q g' st' r' => hx n L' a H' q g' st'.2 r', fun _ _ _ _ q => q.elim, fun _ _ _ _ q => q.elim⟩
theorem funv_mk {x qual : Str} {st : Stmt} {dvs : List V} {its : List Value} {f T : Addr} {oc kV doc pm cdv ct : Value} {od an : Option Addr} {osl : Array (Option Value)} {tc : Value} {td : Option Addr} {tn : Nat} {tsl : Array (Option Value)} (hv : Vals dvs its) (hd : dvs ≠ [])
    (lk : K.lookup f = some ⟨oc, od, .func (PySem.W.fnOf x qual (defArgs st) (defBody st) (defScope st) (.ref T) kV doc pm an cdv ct), osl⟩) (lT : K.lookup T = some ⟨tc, td, .seq its.toArray tn, tsl⟩) (hcd : PySem.W.codeIn K cdv qual = true) (kp : PySem.W.keepIn K (.ref f) = true) :
    FunV K x qual st dvs f (PySem.W.fnOf x qual (defArgs st) (defBody st) (defScope st) (.ref T) kV doc pm an cdv ct) :=
  ⟨⟨oc, od, .ref T, kV, doc, pm, an, cdv, ct, osl, rfl, lk, hcd, .inr ⟨hd, T, _, its, tn, rfl, lT, rfl, hv⟩, .inl rfl⟩, kp⟩
/-- every parameter by keywords, some with defaults -/
theorem kwbV {x qual : Str} {st : Stmt} {f : Addr} {fd : FuncData} {dvs : List V} {ps ks : List Str} {n : Nat} {gp : Perm3} (F : FunV K x qual st dvs f fd) (hd : dvs ≠ [])
    (h : ∀ (T : Addr) (kV doc pm : Value) (an : Option Addr) (cdv ct : Value) (us ws its : List Value), us.length = n → ws.length = ks.length → its.length = dvs.length → ∃ k, bindArgs (PySem.W.fnOf x qual (defArgs st) (defBody st) (defScope st) (.ref T) kV doc pm an cdv ct) ⟨us, ks.zip ws⟩ = seqItems? (.ref T) >>= k ∧ k (some its.toArray) = pure (ps.zip (gp us ws []))) : KwB K fd ps n ks [] gp := by
  obtain ⟨oc, od, dV, kV, doc, pm, an, cdv, ct, osl, rfl, lk, hcd, hD, hK⟩ := F.ex
  rcases hD with ⟨e, _⟩ | ⟨_, T, o, its, m, rfl, lT, oT, rT⟩
  · exact absurd e hd
  · refine ⟨fun s us ws X l1 l2 => ?_⟩
    obtain ⟨k, e1, e2⟩ := h T kV doc pm an cdv ct us ws its l1 l2 rT.length.symm
    refine BindsTo.of_looks fun M => ?_
    rw [e1]
    exact looks_items X lT oT (.of_pure e2)
/-! ### the errors' __init__ -/
theorem init1_ok {qual code f : Str} {st : Stmt} {fI C : Addr} {fd : FuncData} {p1 p2 p3 p4 p5 p6 p7 p8 : Pos} {j : Nat} (F : Fun K "__init__" qual st fI fd) (S : FnScope ["self", f] ["self", f] (defScope st))
    (hbd : defBody st = [.Assign [.Attribute (.Name "self" p1) "code" p2] (.Constant (.str code) j p3) p4, .Assign [.Attribute (.Name "self" p5) f p6] (.Name f p7) p8]) (hs : (defScope st).names.lookup ("self" : Str) = some .local) (hf : (defScope st).names.lookup f = some .local)
    (hd : (f == ("__debug__" : Str)) = false) (hcd : (f == ("__classdict__" : Str)) = false) (T : OexC K C) (h1 : PySem.W.findIn K (.ref C) "code" = some none) (h2 : PySem.W.findIn K (.ref C) f = some none) : FnOk P w K mg base (L2.CX P w) 1 fI fd ["self", f] (spI1 C code f) := by
  refine F.okX S (fun vs H Q E h => ?_) (fun cdv A outer s H vs Q E hr h => ?_)
  · obtain ⟨a, v, rfl, _⟩ := h
    rfl
  · obtain ⟨a, v, rfl, ha, q⟩ := h
    rw [hbd]
    refine ⟨_, pss_cons (ps_ost (pv 0 rfl (.inl hs)) pe_str (by rfl)) (pss_one (ps_ost (pv 0 rfl (.inl hs)) (pv 1 rfl (.inl hf) hd hcd) (by rfl))), ?_⟩
    refine ⟨.ref a, rfl, a, C, rfl, T, h1, .inl ⟨ha, fun d hd hne => ?_⟩⟩
    refine ⟨v, rfl, .ref a, rfl, a, C, rfl, T, h2, .inr ⟨d, [("code", .str code)], upd_same, ?_, by show 1 ≤ 900; omega, ?_⟩⟩
    · rw [upd_ne hne, upd_same]
    · exact q d hd hne
theorem init0_ok {qual code : Str} {st : Stmt} {fI C : Addr} {fd : FuncData} {p1 p2 p3 p4 : Pos} {j : Nat} (F : Fun K "__init__" qual st fI fd) (S : FnScope ["self"] ["self"] (defScope st))
    (hbd : defBody st = [.Assign [.Attribute (.Name "self" p1) "code" p2] (.Constant (.str code) j p3) p4]) (hs : (defScope st).names.lookup ("self" : Str) = some .local)
    (T : OexC K C) (h1 : PySem.W.findIn K (.ref C) "code" = some none) : FnOk P w K mg base (L2.CX P w) 1 fI fd ["self"] (spI0 C code) := by
  refine F.okX S (fun vs H Q E h => ?_) (fun cdv A outer s H vs Q E hr h => ?_)
  · obtain ⟨a, rfl, _⟩ := h
    rfl
  · obtain ⟨a, rfl, ha, q⟩ := h
    rw [hbd]
    refine ⟨_, pss_one (ps_ost (pv 0 rfl (.inl hs)) pe_str (by rfl)), ?_⟩
    exact ⟨.ref a, rfl, a, C, rfl, T, h1, .inl ⟨ha, fun d hd hne => q d hd hne⟩⟩
end
/-! ### the end, with tables -/
theorem tab_code {K : PySem.W.Frag} {x : Str} {f c P : Addr} {oc : Value} {od : Option Addr} {fd : FuncData} {osl : Array (Option Value)} (a : PySem.W.nsIn K mainGlobals x = some (some (.ref f))) (lk : K.lookup f = some ⟨oc, od, .func fd, osl⟩) (t : PySem.W.tabIn K x = some (c, P)) : fd.code = .ref c := by
  unfold PySem.W.tabIn at t
  rw [a] at t
  dsimp only at t
  rw [lk] at t
  dsimp only at t
  split at t
  · rename_i c' hc
    split at t
    · split at t
      · cases t; exact hc
      · cases t
    · cases t
  · cases t
theorem walk_ofXT {l : PySem.W.OpenLaw} {n k : Nat} {q : Program} {loose : List Str} {XP : (Str → Option Value) → Heap → Prop} {YP : World → Heap → Prop} {d : DefRec} {K : Params → PySem.W.Frag} {CX : World → CXT} {x : Str}
    (hn : l.most = some n) (hn2 : n ≤ sizeLine) (hdf : d.params.defaults = []) (hr : Room k callerA) (hY : ∀ (w : World) (h : Heap), YP w h → (K w.params).In h)
    (F : ∀ (w : World) (mg : Str → Option Value) (fa : Addr) (h : Heap), (K w.params).In h → XP mg h → h.Ns mainGlobals mg → mg d.name = some (.ref fa) →
      (∀ (y : Str) (dr : DefRec) (c P : Addr), (recsOf q).find? (fun e => e.name == y) = some dr → PySem.W.tabIn (K w.params) y = some (c, P) → PySem.W.CodeHd h c P ∧ h.get? P = some { cls := .none, data := .fields #[] }) → LamX.LawAtS l w (K w.params) (CX w) k n x mg fa h)
    (hCX : ∀ (w : World) (H : Hp) (s : Shared) (e : Value) (s' : Shared), CX w [] H s (fun _ _ _ => False) e s' → False) :
    PySem.W.WalkO q loose XP YP l.row.toRowW d [] (fun f vs => PySem.call f vs) := by
  refine Att.attach_callB hn hdf fun w s₀ s₁ mg mb fa o pm cd doc a vs ns G Y ho hd hcd hmg hobj hints hlen hbits hg => ?_
  have KX := hY w _ Y
  obtain ⟨fd, cs, sp, hT, nT, C, hb, hsp, hF⟩ := F w mg fa _ KX G.X G.T.g hmg fun y dr c P h1 h2 => PySem.W.tab_of G.T KX h1 h2
  exact LamX.law_callTs KX G.T.g G.T.b G.T.builtins G.T.nolimit hg hT nT C G.T.bmain hobj hints (Nat.le_trans hlen hn2) hr hF hb (fun H hH hS => hsp H a ns hlen hbits hH hS) fun H e s' => hCX w H s₁ e s'
end DL
namespace DL
open PySem L2
/-! ### places in a text -/
def sAt (i : Nat) (l : List Stmt) : Stmt := l.getD i (.Pass ⟨0, 0, 0, 0⟩)
def sBody : Stmt → List Stmt
  | .For _ _ b _ _ => b
  | .If _ b _ _ => b
  | .While _ b _ _ => b
  | .ClassDef _ _ _ b _ _ _ _ _ _ _ => b
  | _ => []
def sElse : Stmt → List Stmt
  | .If _ _ b _ => b
  | _ => []
def eNo : Expr := .Constant .none 0 ⟨0, 0, 0, 0⟩
def sVal : Stmt → Expr
  | .Assign _ e _ => e
  | .If e _ _ _ => e
  | .Expr e _ => e
  | .Return (some e) _ => e
  | _ => eNo
def eKid (i : Nat) : Expr → Expr
  | .Call _ as _ _ => as.getD i eNo
  | .List as _ => as.getD i eNo
  | .Tuple as _ _ => as.getD i eNo
  | .BoolOp _ as _ => as.getD i eNo
  | .UnaryOp _ a _ => a
  | .Compare a _ as _ => (a :: as).getD i eNo
  | .BinOp a _ b _ => [a, b].getD i eNo
  | .IfExp a b c _ => [a, b, c].getD i eNo
  | .Subscript a _ _ => a
  | _ => eNo
def lArgs : Expr → Arguments
  | .Lambda a _ _ _ => a
  | _ => defArgs (.Pass ⟨0, 0, 0, 0⟩)
def lBody : Expr → Expr
  | .Lambda _ b _ _ => b
  | _ => eNo
def lScope : Expr → Scope
  | .Lambda _ _ s _ => s
  | _ => defScope (.Pass ⟨0, 0, 0, 0⟩)
theorem q_atEK {X : Cx} {Wx : WX} {e : Expr} {da : DE} {pos : Pos} {K : PySem.W.Frag} {f : Str} (hK : X.K = K) (he : QE X Wx e da) (hb : attributeBase e f X.env (eval e X.env) = eval e X.env := by rfl) : QE X Wx (.Attribute e f pos) (dAtE K f da) := by
  subst hK
  exact q_atE he hb
def lamAt (e : Expr) (qual : Str) (ps fr : List Str) : LamF := ⟨lArgs e, lBody e, lScope e, qual, ps, fr⟩
theorem roomS {k : Nat} {A : Around} {v : Option Value} (h : Room k A) : L2H.RoomH k (A.mark v) := ⟨h.dp, h.un⟩
end DL
namespace L2H
theorem RoomH.units {k : Nat} {A : PySem.Around} (r : RoomH k A) : A.units + 64 < PySem.cLine := by have := r.un; omega
end L2H

namespace DL
open PySem L2
/-! ### the laws' helpers about errors -/
/-- codes and the fields beside them -/
inductive FldTab : Str → Str → Prop
  | c1 : FldTab "InvalidNumber" "given" | c2 : FldTab "InvalidRatio" "given" | c3 : FldTab "InvalidPoint" "given" | c4 : FldTab "InvalidLetter" "given" | c5 : FldTab "NoPlace" "given" | c6 : FldTab "OutOfBox" "given" | c7 : FldTab "InvalidLimit" "given"
  | c8 : FldTab "InvalidTerm" "at" | c9 : FldTab "InvalidProgram" "at" | c10 : FldTab "InvalidCommand" "at"
  | c11 : FldTab "InvalidName" "name" | c12 : FldTab "DuplicateName" "name" | c13 : FldTab "UnknownName" "name"
  | c14 : FldTab "InvalidText" "line" | c15 : FldTab "InvalidPage" "line"
  | c16 : FldTab "NoRoot" "index" | c17 : FldTab "Full" "limit" | c18 : FldTab "InUse" "user"
inductive NoFld : Str → Prop
  | c1 : NoFld "ZeroDivisor" | c2 : NoFld "ZeroPolynomial" | c3 : NoFld "NotDivisible" | c4 : NoFld "NoValue" | c5 : NoFld "NothingLeft"
/-- an error of the package: its fields, its code, what its field holds -/
inductive ErrD (K : PySem.W.Frag) (C : Addr) : List Str → List D → Str → D → Prop
  | one {code f : Str} {v : D} : FldTab code f → FldOk K C "code" → FldOk K C f → ErrD K C [f, "code"] [v, .str code] code v
  | no {code : Str} : NoFld code → FldOk K C "code" → ErrD K C ["code"] [.str code] code .non
def fieldS (K : PySem.W.Frag) : DSp := fun ds L k _ => ∃ C ns vs code r, ds = [.exc C ns vs] ∧ ErrD K C ns vs code r ∧ k r L
/-- what is caught -/
def Caught (K : PySem.W.Frag) (cs : List Value) (n : Exn) (kk : D → Prop) : Prop := ∃ C code r, n.cls = .ref C ∧ PySem.W.exmAny K (.ref C) cs = some true ∧ ErrD K C n.ns n.vs code r ∧ kk (.tup [.str code, r])
/-- a contract for weaker ends -/
def upG (G : LamF → DSp) : LamF → DSp := fun F ds L k x => ∃ k0 x0, G F ds L k0 x0 ∧ (∀ d L', k0 d L' → k d L') ∧ ∀ n L', x0 n L' → x n L'
theorem CloOk.up {P : Program} {w : World} {K : PySem.W.Frag} {mg : Str → Option Value} {base : Heap} {n : Nat} {G : LamF → DSp} (c : CloOk P w K mg base n G) : CloOk P w K mg base n (upG G) :=
  ⟨fun A outer s H f F vs ds L k x Q E hr e0 ca j r g hk hx => by
    obtain ⟨k0, x0, g, h1, h2⟩ := g
    exact c.run A outer s H f F vs ds L k0 x0 Q E hr e0 ca j r g (fun d L' v H' q => hk d L' v H' (h1 d L' q)) fun n L' a H' q => hx n L' a H' (h2 n L' q)⟩
def tryS (K : PySem.W.Frag) (cs : List Value) (G : LamF → DSp) : DSp := fun ds L k _ => ∃ F es, ds = [.clo F es] ∧ G F es L (fun d L' => k (.tup [.str "", d]) L') fun n L' => Caught K cs n fun d => k d L'
/-- each asked in turn; each answers r and leaves the ledger -/
def triesS (K : PySem.W.Frag) (cs : List Value) (G : LamF → DSp) : DSp := fun ds L k _ => ∃ (qs : List (LamF × List D)) (rs : List D), qs.length ≤ 1000 ∧ ds = [.lst (qs.map fun q => .clo q.1 q.2)] ∧ rs.length = qs.length ∧ plnL L = true ∧ plns rs = true ∧
  (∀ (i : Nat) (q : LamF × List D) (r : D), qs[i]? = some q → rs[i]? = some r → ∀ (L' : Led) (k' : DK), plnL L' = true → k' r L' → tryS K cs G [.clo q.1 q.2] L' k' fun _ _ => False) ∧ k (.lst rs) L
theorem lcD_yes {dg : DG} {de : DE} {env0 : DEnv} {p : Addr} {k : DK} {L : Led} (hp : ¬ inL L p) : ∀ (ds rs acc : List D), rs.length = ds.length → acc.length + ds.length ≤ 1000 → plns rs = true → plns acc = true →
    (∀ (i : Nat) (d r : D), ds[i]? = some d → rs[i]? = some r → ∀ (acc' : List D) (K' : DK), plns acc' = true → K' r ((p, .lst acc') :: L) → dg d env0 ((p, .lst acc') :: L) fun env1 => de env1 ((p, .lst acc') :: L) K' (fun _ _ _ => False)) →
    k (.lst (acc ++ rs)) L → lcD dg dYes de env0 p k ds acc ((p, .lst acc) :: L)
  | [], rs, acc, hl, _, _, _, _, h => by
    cases rs with
    | cons _ _ => cases hl
    | nil =>
      rw [lcD_nil, remL_top hp]
      rw [List.append_nil] at h
      exact h
  | d :: ds, rs, acc, hl, hz, pr, pa, hs, h => by
    cases rs with
    | nil => cases hl
    | cons r rs =>
      rw [lcD_cons]
      have pr' := Bool.and_eq_true_iff.mp (show (pln r && plns rs) = true by simpa only [plns] using pr)
      refine hs 0 d r rfl rfl acc _ pa ⟨lookup_top, Nat.lt_of_lt_of_le (show acc.length < 1000 by rw [List.length_cons] at hz; omega) (by decide), ?_⟩
      rw [setL_top hp]
      refine lcD_yes hp ds rs (acc ++ [r]) (by simpa using hl) (by rw [List.length_append, List.length_singleton]; rw [List.length_cons] at hz; omega) pr'.2 (plns_append pa (by unfold plns; rw [pr'.1]; rfl)) (fun i d' r' h1 h2 => hs (i + 1) d' r' (by simpa using h1) (by simpa using h2)) ?_
      rw [List.append_assoc]
      exact h
end DL
namespace DL
open PySem PySem.Spec PyProof.Rows L2
theorem calq_mk {P : Program} {w : World} {K : PySem.W.Frag} {mg : Str → Option Value} {base : Heap} {n : Nat} {x : Str} {ps : List Str} {g : DSp} {f : Addr} {fd : FuncData} (G : FnQ P w K mg base n f fd ps (spD K g)) (m : mg x = some (.ref f)) (k : PySem.W.keepIn K (.ref f) = true) (b : L2.Binds K fd ps []) : CalQ P w K mg base n x ps g := ⟨⟨f, fd, G, m, k, b⟩⟩
theorem kwb {K : PySem.W.Frag} {x qual : Str} {st : Stmt} {f : Addr} {fd : FuncData} {ps ks : List Str} {n : Nat} {gp : Perm3} (F : Fun K x qual st f fd)
    (h : ∀ (kV doc pm : Value) (an : Option Addr) (cdv ct : Value) (us ws : List Value), us.length = n → ws.length = ks.length → bindArgs (PySem.W.fnOf x qual (defArgs st) (defBody st) (defScope st) .none kV doc pm an cdv ct) ⟨us, ks.zip ws⟩ = pure (ps.zip (gp us ws []))) : KwB K fd ps n ks [] gp := by
  obtain ⟨oc, od, kV, doc, pm, an, cdv, ct, osl, rfl, lk, hcd⟩ := F.ex
  exact ⟨fun s us ws _ hu hw => .of_eq (h kV doc pm an cdv ct us ws hu hw)⟩
/-- an error class of the package as the top has left it -/
structure ErrC (K : PySem.W.Frag) (cs : List Value) (C : Addr) (fs : List Str) : Prop where
  oex : OexC K C
  xf : XfC K C
  no : ∀ f ∈ fs, PySem.W.findIn K (.ref C) f = some none
  ex : PySem.W.exmAny K (.ref C) cs = some true
theorem ErrC.fld {K : PySem.W.Frag} {cs : List Value} {C : Addr} {fs : List Str} (e : ErrC K cs C fs) {f : Str} (h : f ∈ fs) : FldOk K C f := ⟨e.xf, e.no f h⟩
theorem exm_ref {K : PySem.W.Frag} {cls : Value} {C : Addr} {d : ClassData} {b : Bool} (hb : PySem.W.subIn K (.ref C) (.type "BaseException") = some true) (hc : PySem.W.clsIn K C = some d) (ht : PySem.W.typeIn K (.ref C) = some (.type "type")) (hs : PySem.W.subIn K cls (.ref C) = some b) : PySem.W.exmOne K cls (.ref C) = some b := by
  unfold PySem.W.exmOne PySem.W.kitCls
  dsimp only
  rw [hb, hc, ht]
  exact hs
theorem exm_3 {K : PySem.W.Frag} {cls c1 c2 c3 : Value} {b1 b2 b3 : Bool} (h1 : PySem.W.exmOne K cls c1 = some b1) (h2 : PySem.W.exmOne K cls c2 = some b2) (h3 : PySem.W.exmOne K cls c3 = some b3) : PySem.W.exmAny K cls [c1, c2, c3] = some (b1 || (b2 || (b3 || false))) := by
  unfold PySem.W.exmAny
  rw [h1]
  unfold PySem.W.exmAny
  rw [h2]
  unfold PySem.W.exmAny
  rw [h3]
  unfold PySem.W.exmAny
  rfl
theorem tab_in {K : PySem.W.Frag} {x : Str} {f c P : Addr} {oc ec : Value} {od ed : Option Addr} {fd : FuncData} {osl esl : Array (Option Value)} {vs : Array Value} (a : PySem.W.nsIn K mainGlobals x = some (some (.ref f))) (lk : K.lookup f = some ⟨oc, od, .func fd, osl⟩) (hc : fd.code = .ref c) (lc : K.lookup c = some ⟨ec, ed, .fields vs, esl⟩) (hv : vs[11]? = some (.ref P)) : PySem.W.tabIn K x = some (c, P) := by
  unfold PySem.W.tabIn
  rw [a]
  dsimp only
  rw [lk]
  dsimp only
  rw [hc]
  dsimp only
  rw [lc]
  dsimp only
  rw [hv]
theorem law_at {l : PySem.W.OpenLaw} {w : World} {K : PySem.W.Frag} {CX : CXT} {k n : Nat} {x : Str} {mg : Str → Option Value} {fa c Pt : Addr} {h : Heap} {pr : Program} {lawS : Addr → DSp} {dr : DefRec} {q : Str}
    (tabs : ∀ (y : Str) (dr : DefRec) (c P : Addr), (recsOf pr).find? (fun e => e.name == y) = some dr → PySem.W.tabIn K y = some (c, P) → PySem.W.CodeHd h c P ∧ h.get? P = some { cls := .none, data := .fields #[] })
    (hr : (recsOf pr).find? (fun e => e.name == ("law" : Str)) = some dr) (hn : K.lookup Pt = none)
    (A : PySem.W.tabIn K "law" = some (c, Pt) ∧ ∃ fd : FuncData, (∀ (s : Shared) (v : Value), BindsTo s fd ⟨[v], []⟩ [(x, v)]) ∧ ∀ base : Heap, K.In base → base.Ns mainGlobals mg → LamX.TabB base mg c Pt → FnOk l.prog w K mg base CX k fa fd [x] (spD K (lawS Pt)))
    (hL : ∀ (ns : List Int), ns.length ≤ n → lawS Pt [.ro (ns.map .int)] [(Pt, .tab q)] (fun d _ => d = .bl true) fun _ _ => False) : LamX.LawAtS l w K CX k n x mg fa h := by
  obtain ⟨ht, fd, hb, hF⟩ := A
  obtain ⟨h1, h2⟩ := tabs "law" dr c Pt hr ht
  refine ⟨fd, [(c, Pt)], spD K (lawS Pt), fun p hp => ?_, fun p hp => ?_, fun p hp => ?_, hb, fun H a ns hlen _ hT hS => ?_, fun base b1 b2 b3 => hF base b1 b2 (b3 (c, Pt) (by simp))⟩
  · have e : p = (c, Pt) := by simpa using hp
    subst e; exact h2
  · have e : p = (c, Pt) := by simpa using hp
    subst e; exact hn
  · have e : p = (c, Pt) := by simpa using hp
    subst e; exact h1
  · have hP : H Pt = some (.tbl #[]) := hT (c, Pt) (by simp)
    have nP : ∀ b : Addr, inL [(Pt, D.tab q)] b → b = Pt := fun b hb => by simpa [inL] using hb
    refine ⟨[.ro (ns.map .int)], [(Pt, .tab q)], fun d _ => d = .bl true, fun _ _ => False, ⟨by simp, fun a d m => ?_⟩, .cons (.ro ?_ (RpAll.ints ns)) .nil, hL ns hlen, fun d L' v H' hd _ _ r => ?_, fun n L' a H' h => h.elim⟩
    · have e : (a, d) = (Pt, .tab q) := by simpa using m
      cases e
      exact ⟨#[], hP, True.intro, fun pos cv hc => by
        have z : codeAmong pos [] = some cv := hc
        simp [codeAmong] at z⟩
    · rcases hS with hs | hs
      · refine .inl ⟨fun hi => ?_, hs⟩
        have e := nP a hi
        subst e
        rcases hs with hs | ⟨o, hs⟩
        · rw [hP] at hs; cases hs
        · rw [hP] at hs; cases hs
      · exact .inr hs
    · subst hd
      cases r
      rfl
end DL

namespace PySem
namespace GEX
open Builtin Builtin.ObjectAttr PySem.Spec PyProof.Rows PySem.HandSPX
section
variable {prog : Program} {w : World} {A : Around} {E : Value → Shared → Prop} {R : Result → Shared → Prop} {hp : Heap} {g : Array GenState} {d : Drawn} {t : Nat} {os : OsState}
/-- a field set on an error whose class's order of classes is mro -/
structure MroG (l : List Value) : Prop where
  ne : l.isEmpty = false
  ob : l.contains (.type "object") = true
  go : ∀ self : Value, refuseLoop self "__setattr__" l = pure ()
theorem osa_new {K : W.Frag} {name : Str} {tk : Tok} {v : Value} {x C : Addr} {fv : Array Value} {cd : ClassData}
    (X : K.In hp) (hx : hp.get? x = some { cls := .ref C, data := .fields fv }) (hcd : W.clsIn K C = some cd) (hm : MroG cd.mro) (hh : cd.hasDict = true) (ha : W.findIn K (.ref C) name = some none)
    (hq : ∀ h' tk' dx, (∀ b o, b ≠ x → hp.get? b = some o → h'.get? b = some o) → hp.objs.size ≤ dx → dx ≠ x → h'.get? x = some { cls := .ref C, dict := some dx, data := .fields fv } →
      h'.Ns1 dx (fun y => if y = name then some v else none) → R (.ok (.ret .none)) ⟨h', g, d, tk', os⟩) :
    codeAny (model prog w) A (.call (.builtin "object.__setattr__") ⟨[.ref x, .str name tk, v], []⟩) R ⟨hp, g, d, t, os⟩ := by
  have I : W.InstAt hp x { cls := .ref C, data := .fields fv } C none := ⟨hx, rfl, rfl, trivial⟩
  have SF := F.store_object
  have hxs : x ≠ hp.objs.size := Nat.ne_of_lt (Heap.lt_size hx)
  have sub : W.Looks (model prog w) hp (isInstance (.ref x) (.type "object")) true := I.type.andThen (W.looks_mroIn X (by unfold W.mroIn; rw [hcd, Option.bind_some, if_neg (by rw [hm.ne]; decide), hm.ob]))
  refine codeAny_call_builtin SF.slot.plain SF.entry (@W.check_slot (model prog w) _ _ ⟨hp, g, d, t, os⟩ "object.__setattr__" "object" "__setattr__" (.ref x) [.str name tk, v] [] _ SF.kind SF.split sub (SF.args (.ref x) (.str name tk) v) ?_)
  have hmr : W.Looks (model prog w) hp (mroOf (.ref C)) cd.mro := (W.looks_clsIn X hcd).andThen .now
  have L3 : W.Looks (model prog w) hp (storeTaker? none) none := .now
  have hcls : W.Looks (model prog w) hp (classData C) cd := W.looks_clsIn X hcd
  rw [W.osa_eq, refuse_eq]
  refine wpAny_bind (wpAny_bind (I.type.at (wpAny_bind (hmr.at ?_))))
  rw [hm.go]
  refine wpAny_pure (wpAny_bind (I.type.at (wpAny_bind ((W.looks_findIn X ha).at (wpAny_bind (L3.at ?_))))))
  show wpAny _ _ (storeInOwnDict (.ref x) (.ref C) (.str name tk) name v false) _ _ _
  obtain ⟨nm, bs, mro, ns, qn, hd, sn, sb, ab, col, del⟩ := cd
  dsimp only at hh
  subst hh
  unfold storeInOwnDict ownDictForStores
  repeat (first | with_reducible refine store_in_new ?_ ?_ | with_reducible refine wpAny_loadPart_at hx ?_ | with_reducible refine hcls.at ?_ | wp_step)
  · exact ⟨_, #[], _, (Heap.get?_update_ne _ _ _ _ hxs.symm).trans (Heap.get?_push_at rfl rfl), rfl, fun e he => absurd he (by simp), fun _ => rfl⟩
  · intro h' tk' hn' hs
    have hx₁ : (hp.push { cls := .type "dict", data := .dict #[] }).get? x = some { cls := .ref C, data := .fields fv } := Heap.get?_push_of_some _ hx
    refine hq h' tk' hp.objs.size (fun b o hb ho => ?_) (Nat.le_refl _) hxs.symm ?_ hn'
    · exact (hs.2 b (Nat.ne_of_lt (Heap.lt_size ho))).trans ((Heap.get?_update_ne _ _ _ _ hb).trans (Heap.get?_push_of_some _ ho))
    · exact (hs.2 x hxs).trans (Heap.get?_update_self _ hx₁ rfl)
theorem osa_more {K : W.Frag} {name : Str} {tk : Tok} {v : Value} {x C dx : Addr} {fv : Array Value} {cd : ClassData} {m0 : Str → Option Value} {nl : List Str}
    (X : K.In hp) (hx : hp.get? x = some { cls := .ref C, dict := some dx, data := .fields fv }) (hns : hp.Ns1 dx m0) (hw : Within m0 nl) (hz : nl.length ≤ 1000) (hcd : W.clsIn K C = some cd) (hm : MroG cd.mro) (hh : cd.hasDict = true)
    (ha : W.findIn K (.ref C) name = some none)
    (hq : ∀ h' tk', (∀ b o, b ≠ dx → hp.get? b = some o → h'.get? b = some o) → h'.Ns1 dx (fun y => if y = name then some v else m0 y) → R (.ok (.ret .none)) ⟨h', g, d, tk', os⟩) :
    codeAny (model prog w) A (.call (.builtin "object.__setattr__") ⟨[.ref x, .str name tk, v], []⟩) R ⟨hp, g, d, t, os⟩ := by
  obtain ⟨oD, esD, epD, hoD, hdD, _⟩ := hns.count hw
  have I : W.InstAt hp x { cls := .ref C, dict := some dx, data := .fields fv } C (some oD) := ⟨hx, rfl, rfl, hoD⟩
  have SF := F.store_object
  have sub : W.Looks (model prog w) hp (isInstance (.ref x) (.type "object")) true := I.type.andThen (W.looks_mroIn X (by unfold W.mroIn; rw [hcd, Option.bind_some, if_neg (by rw [hm.ne]; decide), hm.ob]))
  refine codeAny_call_builtin SF.slot.plain SF.entry (@W.check_slot (model prog w) _ _ ⟨hp, g, d, t, os⟩ "object.__setattr__" "object" "__setattr__" (.ref x) [.str name tk, v] [] _ SF.kind SF.split sub (SF.args (.ref x) (.str name tk) v) ?_)
  have hmr : W.Looks (model prog w) hp (mroOf (.ref C)) cd.mro := (W.looks_clsIn X hcd).andThen .now
  have L3 : W.Looks (model prog w) hp (storeTaker? none) none := .now
  have hcls : W.Looks (model prog w) hp (classData C) cd := W.looks_clsIn X hcd
  rw [W.osa_eq, refuse_eq]
  refine wpAny_bind (wpAny_bind (I.type.at (wpAny_bind (hmr.at ?_))))
  rw [hm.go]
  refine wpAny_pure (wpAny_bind (I.type.at (wpAny_bind ((W.looks_findIn X ha).at (wpAny_bind (L3.at ?_))))))
  show wpAny _ _ (storeInOwnDict (.ref x) (.ref C) (.str name tk) name v false) _ _ _
  obtain ⟨nm, bs, mro, ns, qn, hd, sn, sb, ab, col, del⟩ := cd
  dsimp only at hh
  subst hh
  unfold storeInOwnDict ownDictForStores
  repeat (first | with_reducible refine PySem.OEX.store_in_old hns hw hz ?_ | with_reducible refine wpAny_loadPart_at hx ?_ | with_reducible refine hcls.at ?_ | wp_step)
  intro h' tk' hn' hs
  exact hq h' tk' (fun b o hb ho => (hs.2 b hb).trans ho) hn'
end
end GEX
end PySem
namespace DL
open PySem PySem.Spec PyProof.Rows L2
/-- a built-in error class: its order of classes, its __new__ -/
structure BaseF (t : List Value) (newId : String) : Prop where
  ex : ∃ B initId, ExcBaseFacts B newId initId t
  ob : t.contains (.type "object") = true
  go : ∀ self : Value, refuseLoop self "__setattr__" t = pure ()
theorem base_VE : BaseF [.type "ValueError", .type "Exception", .type "BaseException", .type "object"] "ValueError.__new__" := ⟨⟨_, _, F.excBase_ValueError⟩, by decide +kernel, F.store_ValueError.passes⟩
theorem base_LE : BaseF [.type "LookupError", .type "Exception", .type "BaseException", .type "object"] "LookupError.__new__" := ⟨⟨_, _, F.excBase_LookupError⟩, by decide +kernel, F.store_LookupError.passes⟩
theorem base_IE : BaseF [.type "IndexError", .type "LookupError", .type "Exception", .type "BaseException", .type "object"] "IndexError.__new__" := ⟨⟨_, _, F.excBase_IndexError⟩, by decide +kernel, F.store_IndexError.passes⟩
theorem refs_go {t : List Value} (h : ∀ self : Value, refuseLoop self "__setattr__" t = pure ()) (self : Value) : ∀ rs : List Addr, refuseLoop self "__setattr__" (rs.map Value.ref ++ t) = pure ()
  | [] => h self
  | r :: rs => by
    rw [List.map_cons, List.cons_append, refuseLoop_ref]
    exact refs_go h self rs
theorem refs_has {t : List Value} (Y : String) : ∀ rs : List Addr, (rs.map Value.ref ++ t).contains (.type Y) = t.contains (.type Y)
  | [] => rfl
  | r :: rs => by
    rw [List.map_cons, List.cons_append, List.contains_cons, refs_has Y rs]
    rfl
/-- an own error class over a built-in one -/
structure GexC (K : PySem.W.Frag) (C : Addr) : Prop where
  cls : ∃ nm q N bs, ∃ (rs : List Addr) (t : List Value), ∃ sn sub ab col dd k0 k1 k2 k3 k5 newId, K.lookup C = some (excClassObj nm q C N bs (rs.map Value.ref ++ t) true sn sub ab col dd k0 k1 k2 k3 k5 newId) ∧ BaseF t newId
  sa : PySem.W.findIn K (.ref C) "__setattr__" = some (some (.builtin "object.__setattr__"))
  exC : PySem.W.subIn K (.ref C) (.type "BaseException") = some true
  tyC : PySem.W.typeIn K (.ref C) = some (.type "type")
  kC : PySem.W.keepIn K (.ref C) = true
theorem mro_g {C : Addr} {rs : List Addr} {t : List Value} {newId : String} (b : BaseF t newId) : GEX.MroG (Value.ref C :: (rs.map Value.ref ++ t)) :=
  ⟨rfl, by
    have e := refs_has (t := t) "object" (C :: rs)
    rw [List.map_cons, List.cons_append] at e
    rw [e]
    exact b.ob, fun self => refs_go b.go self (C :: rs)⟩
section
variable {X : Cx} {pins : List (Addr × Obj)} {σ : L2.St} {H : Hp} {s : Shared} {a C dx : Addr} {f : Str} {y : V} {u : Value} {fs : List (Str × V)} {Q : Unit → Shared → Prop} {E : Value → Shared → Prop} {A : Around}
theorem gst_new (T : GexC X.K C) (I : Inv X pins σ H s) (e : H a = some (exo a C none)) (hno : PySem.W.findIn X.K (.ref C) f = some none) (ry : RelV y u)
    (h : ∀ dx s', H dx = none → dx ≠ a → Inv X pins σ (upd (upd H dx (exd dx [(f, y)])) a (exo a C (some dx))) s' → Q () s') : wpAny (model X.prog X.w) A (setAttr (.ref a) f u) Q E s := by
  obtain ⟨nm, q, N, bs, rs, tl, sn, sub, ab, col, dd, k0, k1, k2, k3, k5, ni, hC, hbm⟩ := T.cls
  have hcl : PySem.W.clsIn X.K C = some { name := nm, bases := bs, mro := .ref C :: (rs.map Value.ref ++ tl), ns := N, qualname := q, hasDict := true, slotNames := sn, subclasses := sub, abstract := ab, collection := col, hasDel := false } := by unfold PySem.W.clsIn; rw [hC] <;> rfl
  obtain ⟨t1, ho⟩ := exo_at I.hok e
  obtain ⟨hp, g, d, t, os⟩ := s
  refine PySem.W.set_plain I.kIn (ox := { cls := .ref C, dict := none, data := .fields #[.ref t1, .none, .none, .none, .bool false, .none] }) (od := none) ⟨ho, rfl, rfl, trivial⟩ T.sa ?_
  refine GEX.osa_new I.kIn ho hcl (mro_g hbm) rfl hno (fun h' tk' dx k dn dne hx hn => ?_)
  have hnd : H dx = none := I.hok.fresh dn
  have nd : ∀ {b : Addr} {o : Obj}, hp.get? b = some o → b ≠ dx := fun {b o} q => Nat.ne_of_lt (Nat.lt_of_lt_of_le (Heap.lt_size q) dn)
  have na : ∀ {b : Addr}, H b = none → b ≠ a := fun {b} n z => by
    rw [z, e] at n
    cases n
  have Un1 : Un X.fs [] H (upd (upd H dx (exd dx [(f, y)])) a (exo a C (some dx))) hp h' := {
    keep := fun b o q n _ _ => k b o (na n) q
    slot := fun b o q n _ _ => ⟨o.slots, k b o (na n) q⟩
    free := fun b o q n _ => by rw [upd_ne (na n), upd_ne (nd q)]; exact n
    there := fun b o q _ => by
      by_cases hb : b = a
      · exact ⟨_, by rw [hb]; exact hx⟩
      · exact ⟨o, k b o hb q⟩
    tups := fun b xs q => by rw [upd_ne (at_ne e q exo_tup), upd_ne (ne_of_none q hnd)]; exact q
    frzs := fun b o v q => by rw [upd_ne (at_ne e q exo_frz), upd_ne (ne_of_none q hnd)]; exact q
    tbls := fun b ps q => ⟨#[], by rw [upd_ne (at_ne e q exo_tbl), upd_ne (ne_of_none q hnd), q]; simp⟩ }
  refine h dx _ hnd dne (I.un (t' := tk') Un1 fun b o q => ?_)
  by_cases hb : b = a
  · subst hb
    rw [upd_same] at q
    cases q
    exact exo_ok hx
  · rw [upd_ne hb] at q
    by_cases hd : b = dx
    · subst hd
      rw [upd_same] at q
      cases q
      exact exd_ok hn (relO_put (fs := []) ry fun g => True.intro)
    · rw [upd_ne hd] at q
      exact (I.hok b o q).stay (fun c v hc z => k c v (by
          rcases hc with hc | hc
          · rw [hc]
            exact hb
          · exact at_ne e hc exo_own) z)
        (fun c hc => by rw [upd_ne (at_ne e hc exo_own), upd_ne (ne_of_none hc hnd)]; exact hc) (fun c xs hc => by rw [upd_ne (at_ne e hc exo_tup), upd_ne (ne_of_none hc hnd)]; exact hc)
theorem gst_old (T : GexC X.K C) (I : Inv X pins σ H s) (e : H a = some (exo a C (some dx))) (ed : H dx = some (exd dx fs)) (hl : fs.length ≤ 900) (hno : PySem.W.findIn X.K (.ref C) f = some none) (ry : RelV y u)
    (h : ∀ s', Inv X pins σ (upd H dx (exd dx ((f, y) :: fs))) s' → Q () s') : wpAny (model X.prog X.w) A (setAttr (.ref a) f u) Q E s := by
  obtain ⟨nm, q, N, bs, rs, tl, sn, sub, ab, col, dd, k0, k1, k2, k3, k5, ni, hC, hbm⟩ := T.cls
  have hcl : PySem.W.clsIn X.K C = some { name := nm, bases := bs, mro := .ref C :: (rs.map Value.ref ++ tl), ns := N, qualname := q, hasDict := true, slotNames := sn, subclasses := sub, abstract := ab, collection := col, hasDel := false } := by unfold PySem.W.clsIn; rw [hC] <;> rfl
  obtain ⟨t1, ho⟩ := exo_at I.hok e
  obtain ⟨mA, hns, rel⟩ := exd_at I.hok ed
  have hw := within_of rel
  obtain ⟨hp, g, d, t, os⟩ := s
  obtain ⟨oD, _, _, hoD, _, _⟩ := hns.count hw
  refine PySem.W.set_plain I.kIn (ox := { cls := .ref C, dict := some dx, data := .fields #[.ref t1, .none, .none, .none, .bool false, .none] }) (od := some oD) ⟨ho, rfl, rfl, hoD⟩ T.sa ?_
  refine GEX.osa_more I.kIn ho hns hw (by rw [List.length_map]; omega) hcl (mro_g hbm) rfl hno (fun h' tk' k hn => ?_)
  have hd : ∃ o, h'.get? dx = some o := by
    obtain ⟨o, _, _, e', _⟩ := hn
    exact ⟨o, e'⟩
  exact h _ (I.write (t' := tk') (x := dx) (e := dx) (o := exd dx ((f, y) :: fs)) (by rw [ed]; exact True.intro) (.inl rfl) k hd (exd_ok hn (relO_put ry rel)))
end
def tGst (K : PySem.W.Frag) (f : Str) (to te : TE) : TS := fun D σ H => te σ H fun y H1 => to σ H1 fun x H2 => ∃ a C : Addr, x = .ref a ∧ GexC K C ∧ PySem.W.findIn K (.ref C) f = some none ∧
  ((H2 a = some (exo a C none) ∧ ∀ dx, H2 dx = none → dx ≠ a → D.nx σ (upd (upd H2 dx (exd dx [(f, y)])) a (exo a C (some dx)))) ∨
    ∃ (dx : Addr) (fs : List (Str × V)), H2 a = some (exo a C (some dx)) ∧ H2 dx = some (exd dx fs) ∧ fs.length ≤ 900 ∧ D.nx σ (upd H2 dx (exd dx ((f, y) :: fs))))
theorem ps_gst {X : Cx} {o e : Expr} {to te : TE} {f : Str} {p' pos : Pos} (ho : PE X o to) (he : PE X e te) (hs : swapsWith e (some (.Attribute o f p')) pos.line X.env = pure false := by rfl) : PS X (.Assign [.Attribute o f p'] e pos) (tGst X.K f to te) := by
  refine ⟨fun pins s σ H D I h => ?_⟩
  refine plainObj_wpAny_Assign_Attribute (thn (he.run pins s σ H _ I h) fun v s1 ⟨y, H1, I1, r1, q1⟩ => thn (ho.run pins s1 σ H1 _ I1 q1) fun u s2 ⟨x, H2, I2, r2, a, C, ex, T, hno, q⟩ => ?_) hs
  subst ex
  obtain rfl : u = Value.ref a := r2
  rcases q with ⟨ea, q⟩ | ⟨dx, fs, ea, ed, hl, q⟩
  · exact gst_new T I2 ea hno r1 fun dx s' n ne J => ⟨σ, _, J, q dx n ne⟩
  · exact gst_old T I2 ea ed hl hno r1 fun s' J => ⟨σ, _, J, q⟩
end DL

namespace PySem
namespace GEX
open Builtin Builtin.ObjectAttr PySem.Spec PyProof.Rows PySem.HandSPX
section
variable {M : Model} {A : Around} {E : Value → Shared → Prop} {h : Heap} {g : Array GenState} {d : Drawn} {t : Nat} {os : OsState}
variable {nm q : Str} {C N : Addr} {bs bm bmB : List Value} {hdct : Bool} {sn : List Str} {sub : List Value} {ab : Bool} {col : Option Bool} {dd : Option Addr} {k0 k1 k2 k3 k5 : Option Value} {B newId initId : String}
theorem check_new_kw (F : ExcBaseFacts B newId initId bmB) (hT : ∀ X : String, bm.contains (.type X) = bmB.contains (.type X)) {kn : Str} {kv : Value} {Q : Unit → Shared → Prop}
    (hC : h.get? C = some (excClassObj nm q C N bs bm hdct sn sub ab col dd k0 k1 k2 k3 k5 newId)) (hq : Q () ⟨h, g, d, t, os⟩) : wpAny M A (checkBuiltinCall newId ⟨[.ref C], [(kn, kv)]⟩) Q E ⟨h, g, d, t, os⟩ := by
  have hcont : (Value.ref C :: bm).contains (.type B) = true := by rw [List.contains_cons, hT, F.hasB, Bool.or_true]
  have hstar := F.noStar
  simp only [checkBuiltinCall, F.newKind, F.newSplit, F.newRow]
  repeat (first | refine wpAny_loadPart_at hC ?_ | (refine wpAny_isSubtype_exc hC ?_; rw [hcont]) | refine wpAny_staticBase_exc hC ?_ | refine wpAny_madeBy_exc hC ?_ | simp only [bne_self_eq_false, Bool.false_eq_true, if_false] | wp_step)
  exact hq
end
section
variable {prog : Program} {w : World} {A : Around} {E : Value → Shared → Prop} {R : Result → Shared → Prop} {h : Heap} {g : Array GenState} {d : Drawn} {t : Nat} {os : OsState}
variable {nm q : Str} {C N : Addr} {bs bm bmB : List Value} {hdct : Bool} {sn : List Str} {sub : List Value} {ab : Bool} {col : Option Bool} {dd : Option Addr} {k0 k1 k2 k3 k5 : Option Value} {B newId initId : String} {kn : Str} {kv : Value}
theorem new_kw (F : ExcBaseFacts B newId initId bmB) (hT : ∀ X : String, bm.contains (.type X) = bmB.contains (.type X))
    (hC : h.get? C = some (excClassObj nm q C N bs bm hdct sn sub ab col dd k0 k1 k2 k3 k5 newId))
    (hq : R (.ok (.ret (.ref (h.objs.size + 1)))) ⟨(h.push (W.kdv_tup [])).push (excO C h.objs.size), g, d, t, os⟩) :
    codeAny (model prog w) A (.builtin newId ⟨[.ref C], [(kn, kv)]⟩) R ⟨h, g, d, t, os⟩ := by
  have hends := F.ends
  have hcB : (Value.ref C :: bm).contains (.type B) = true := by rw [List.contains_cons, hT, F.hasB, Bool.or_true]
  have hcA : (Value.ref C :: bm).contains (.type "AttributeError") = false := by rw [List.contains_cons, hT, F.noAttr]; rfl
  have hcN : (Value.ref C :: bm).contains (.type "NameError") = false := by rw [List.contains_cons, hT, F.noName]; rfl
  have hrest : ([] : List Value).length ≤ sizeLine := Nat.zero_le _
  refine codeAny_builtinAt F.entry ?_
  unfold Builtin.«BaseException.__new__»
  refine wpAt_bind ?_
  show wpAt _ _ _ (stack >>= _) _ _ _
  refine wpAt_bind (wpAt_stack fun p below => wpAt_of_wpAny ?_)
  wp_walk
  refine wpAt_of_wpAny ?_
  rw [F.owner]
  repeat (first | with_reducible refine wpAny_madeHere_exc F.canon hC ?_ | with_reducible refine wpAny_loadPart_at hC ?_ | (with_reducible refine wpAny_isSubtype_exc hC ?_; first | rw [hcB] | rw [hcA] | rw [hcN]) | wp_step)
  show R _ _
  rw [Heap.size_push]
  exact hq
theorem type_call_kw (F : ExcBaseFacts B newId initId bmB) (hT : ∀ X : String, bm.contains (.type X) = bmB.contains (.type X)) {fI : Addr} {Q : Fin → Shared → Prop}
    (hC : h.get? C = some (excClassObj nm q C N bs bm hdct sn sub ab col dd k0 k1 k2 k3 k5 newId))
    (hi : W.Looks (model prog w) h (typeLookup (.ref C) "__init__") (some (.ref fI))) (hb : ∀ self, W.Looks (model prog w) h (bindSpecial (.ref fI) self) (.ref fI, [self]))
    (hq : codeAny (model prog w) A (.call (.ref fI) ⟨[.ref (h.objs.size + 1)], [(kn, kv)]⟩)
      (fun r s' => match r with | .ok (.ret v) => v = .none ∧ Q (.done (.ret (.ref (h.objs.size + 1)))) s' | .ok _ => False | .error e => E e s')
      ⟨(h.push (W.kdv_tup [])).push (excO C h.objs.size), g, d, t, os⟩) :
    wpAny (model prog w) A (Builtin.«type.__call__» ⟨[.ref C], [(kn, kv)]⟩) Q E ⟨h, g, d, t, os⟩ := by
  repeat (first | with_reducible refine wpAny_loadPart_at hC ?_ | with_reducible refine wpAny_madeBy_exc hC ?_ | wp_step)
  refine codeAny_call_builtin_code (Code.quiet_builtin _ F.quiet) (check_new_kw F hT hC ?_)
  refine new_kw F hT hC ?_
  show wpAny _ _ _ _ _ _
  have k : ∀ b o, h.get? b = some o → ((h.push (W.kdv_tup [])).push (excO C h.objs.size)).get? b = some o := fun b o e => Heap.get?_push_of_some _ (Heap.get?_push_of_some _ e)
  have hC₁ := k _ _ hC
  have hget : ((h.push (W.kdv_tup [])).push (excO C h.objs.size)).get? (h.objs.size + 1) = some (excO C h.objs.size) := by heap_get
  have hcC : (Value.ref C :: bm).contains (.ref C) = true := by simp
  have i1 := hi.keeps k
  have b1 := (hb (.ref (h.objs.size + 1))).keeps k
  unfold isInstance
  repeat (first | with_reducible refine wpAny_loadPart_at hget ?_ | (with_reducible refine wpAny_isSubtype_exc hC₁ ?_; rw [hcC]) | wp_step)
  show wpAny _ _ (typeLookup (.ref C) _) _ _ _
  refine i1.at ?_
  refine wpAny_holding (wpAny_bind (b1.at ?_))
  refine wpAny_bind (wpAny_call (codeAny_mono hq fun r s' z => ?_))
  rcases r with e | (v | _ | _ | _) <;> first | exact z | exact z.elim | skip
  obtain ⟨rfl, z⟩ := z
  first
    | exact wpAny_pure (wpAny_pure z)
    | (wp_walk; exact z)
theorem call_kw (F : ExcBaseFacts B newId initId bmB) (hT : ∀ X : String, bm.contains (.type X) = bmB.contains (.type X)) {fI : Addr}
    (hC : h.get? C = some (excClassObj nm q C N bs bm hdct sn sub ab col dd k0 k1 k2 k3 k5 newId))
    (hi : W.Looks (model prog w) h (typeLookup (.ref C) "__init__") (some (.ref fI))) (hb : ∀ self, W.Looks (model prog w) h (bindSpecial (.ref fI) self) (.ref fI, [self]))
    (hq : codeAny (model prog w) (A.under (.builtin "type.__call__" ⟨[.ref C], [(kn, kv)]⟩)) (.call (.ref fI) ⟨[.ref (h.objs.size + 1)], [(kn, kv)]⟩) (W.InitBack (h.objs.size + 1) R)
      ⟨(h.push (W.kdv_tup [])).push (excO C h.objs.size), g, d, t, os⟩) :
    codeAny (model prog w) A (.call (.ref C) ⟨[], [(kn, kv)]⟩) R ⟨h, g, d, t, os⟩ := by
  have f1 := tc_lookup
  have f2 := tc_bind (.ref C)
  have hTy : (⟨h, g, d, t, os⟩ : Shared).TypeIs (.ref C) "type" := ⟨_, hC, rfl⟩
  refine codeAny_of_tree ?_
  show wpAny _ _ (callAny (.ref C) _) _ _ _
  repeat (any_goals (first | assumption | with_reducible refine wpAny_loadPart_at hC ?_ | wp_step))
  refine ⟨rfl, ?_⟩
  refine codeAny_call_builtin_at (Code.quiet_builtin _ (by decide +kernel)) entry_typeCall (wpAny_check_type_call_sub hC (type_call_kw F hT hC hi hb ?_))
  refine codeAny_mono hq fun r s' z => ?_
  rcases r with e | (v | _ | _ | _) <;> exact z
end
end GEX
end PySem

namespace PySem.GEX
open PySem PySem.Spec PySem.Calls PyProof.Rows PySem.W
section
variable {prog : Program} {w : World} {A : Around} {E : Value → Shared → Prop} {s : Shared} {K : Frag} {x D : Addr} {ox : Obj} {od : Option Obj}
theorem find_data {C : Addr} {name : Str} {a g : Value} (hc : (clsIn K C).isSome = true) (ha : findIn K (.ref C) name = some (some a)) (hg : specialIn K a "__get__" = some (some g)) (ht : takesIn K a = some true) : findObj K C od name = some (.bind g a) := by
  obtain ⟨cd, hc⟩ := Option.isSome_iff_exists.mp hc
  unfold findObj
  rw [hc, Option.bind_some, ha, Option.bind_some]
  simp [hg, ht]
theorem class_of {Q : Option Value → Shared → Prop} (T : L2.ExcC K D) (X : K.In s.heap) (I : InstAt s.heap x ox D od) (h : Q (some (.ref D)) { s with toks := s.toks + 1 }) : wpAny (model prog w) A (getAttr? (.ref x) "__class__") Q E s := by
  have hf : findObj K D od "__class__" = some (.bind (.builtin "getset_descriptor.__get__") (.builtin "object.__class__")) := find_data (by obtain ⟨cd, hc, _⟩ := any_some T.hd; rw [hc]; rfl) T.ha T.hn T.ht
  obtain ⟨hp, g, d, t, os⟩ := s
  have L0 := I.type (M := model prog w)
  have L1 := looks_findIn (M := model prog w) X T.hg
  have L2 := looks_findIn (M := model prog w) X T.hk
  have L3 := looks_find (M := model prog w) X I hf
  have sub : Looks (model prog w) hp (isInstance (.ref x) (.type "BaseException")) true := L0.andThen (looks_subIn X T.hs)
  have hx0 : (false && onTheHeap (Value.builtin "BaseException.__getattribute__")) = false := rfl
  have hx2 : (Value.builtin "BaseException.__getattribute__" == Value.builtin "object.__getattribute__") = false := by decide +kernel
  have hx1 : (onTheHeap (Value.ref D) && Value.builtin "BaseException.__getattribute__" == Value.builtin "object.__getattribute__") = false := by rw [hx2]; rfl
  unfold getAttr? getAttrBy? getAttrBy
  refine wpAny_bind (wpAny_mkText (wpAny_bind (wpAny_attempt (wpAny_holding (wpAny_bind (L0.at (wpAny_bind (L1.at ?_))))))))
  show wpAny _ _ (if (onTheHeap (Value.ref D) && Value.builtin "BaseException.__getattribute__" == Value.builtin "object.__getattribute__") = true then _ else _) _ _ _
  rw [hx1, if_neg Bool.false_ne_true]
  unfold getAttrByItsOwn hookBefore
  refine wpAny_bind ?_
  rw [if_pos (show onTheHeap (Value.ref D) = true from rfl)]
  refine L2.at ?_
  refine wpAny_bind (wpAny_attempt (wpAny_holding ?_))
  unfold callGetattribute
  rw [hx0, if_neg Bool.false_ne_true]
  unfold boundAndCalled
  rw [PySem.F.excAttr_ValueError.ga.bind (.ref x)]
  refine wpAny_bind (wpAny_pure ?_)
  show wpAny _ _ (call (.builtin "BaseException.__getattribute__") [.ref x, .str "__class__" t]) _ _ _
  refine wpAny_call (codeAny_call_builtin PySem.F.excAttr_ValueError.ga.plain PySem.F.entry_bexc_ga ?_)
  refine @check_slot (model prog w) _ _ ⟨hp, g, d, t + 1, os⟩ "BaseException.__getattribute__" "BaseException" "__getattribute__" (.ref x) [.str "__class__" t] [] _ (by decide +kernel) (by decide +kernel) sub (PySem.F.args_bexc_ga (.ref x) (.str "__class__" t)) ?_
  unfold Builtin.«object.__getattribute__»
  refine wpAny_bind (wpAny_of_eq (a := ((Value.ref x : Value), [Value.str "__class__" t])) (by first | rfl | (simp only [slotArgs]; rfl)) ?_)
  refine wpAny_bind (wpAny_pure (wpAny_bind (L0.at (wpAny_bind (L3.at ?_)))))
  show wpAny _ _ (holding [Value.builtin "object.__class__"] (call (.builtin "getset_descriptor.__get__") [.builtin "object.__class__", .ref x, .ref D]) >>= ret) _ _ _
  refine wpAny_bind (wpAny_holding (wpAny_call (class_get (s := ⟨hp, g, d, t + 1, os⟩) (ox := ox) (od := od) X I T.hm ?_)))
  refine wpAny_pure ?_
  show wpAny _ _ (handedOut (.ref D)) _ _ _
  rw [handedOut_of (v := .ref D) rfl]
  first
    | exact wpAny_pure (wpAny_pure h)
    | exact wpAny_pure h
    | exact wpAny_pure (wpAny_bind (wpAny_pure (wpAny_pure h)))
theorem kitx_exc (T : L2.ExcC K D) : KitX K (.ref x) (.ref D) (fun h => InstAt h x ox D od) where
  ty := fun _ _ _ I => I.type
  it := fun _ _ X _ => by
    obtain ⟨cdD, hcD, _⟩ := any_some T.hd
    unfold clsIn at hcD
    split at hcD
    · rename_i c' d' cd' sl' ho
      intro A' Q' E' s' k q
      unfold isType loadHead
      exact wpAny_bind (wpAny_loadPart (k _ _ (X _ _ ho)) (wpAny_pure q))
    · cases hcD
  ne := fun h tp dd its n sl X htp => by
    obtain ⟨cdD, hcD, _⟩ := any_some T.hd
    refine Bool.eq_false_iff.mpr fun q => ?_
    have e : D = tp := Value.ref.inj (beq_iff_eq.mp q)
    subst e
    unfold clsIn at hcD
    split at hcD
    · rename_i c' d' cd' sl' ho
      have z := (X _ _ ho).symm.trans htp
      cases z
    · cases hcD
  ca := fun X I k => class_of T X I k
end
end PySem.GEX
namespace DL
open PySem PySem.Spec PyProof.Rows L2
/-! ### isinstance(e, C), e an error -/
def rIsX (K : PySem.W.Frag) (cv : Value) : List V → Hp → VK → Prop := fun xs H Q => ∃ (a D d : Addr) (φ : Heap → Prop) (fs : List (Str × V)) (c : V) (b : Bool), xs = [.ref a, c] ∧ H a = some (.ext φ) ∧ (∀ h, φ h → ExcAt h a D d) ∧ XDict H d fs ∧ ExcC K D ∧ (∀ u, RelV c u → u = cv) ∧ PySem.W.kitOne K (.ref D) cv = some b ∧ Q (.bl b) H
theorem call_isX {X : Cx} {cv : Value} (hnt : ∀ tp, cv ≠ .ref tp ∨ True) : CallR X (.builtin "isinstance") (rIsX X.K cv) := by
  intro pins s σ H xs us Q I r h
  obtain ⟨a, D, d, φ, fs, c, b, rfl, ea, hφ, xd, T, hcv, e, q⟩ := h
  cases r with
  | cons rx rr =>
    cases rr with
    | cons rt rr =>
      cases rr
      cases rx
      have ec := hcv _ rt
      subst ec
      have ob : φ s.heap := by
        have z : ObjOk X.prog X.w H s.heap a (.ext φ) := I.hok a _ ea
        exact z.1
      obtain ⟨oe, vs, ha, hc, hdd, hdat⟩ := hφ _ ob
      have ns : ∃ mA, s.heap.Ns1 d mA ∧ ∀ f, RelO (fs.lookup f) (mA f) := by
        rcases xd with xd | xd
        · exact (show ObjOk X.prog X.w H s.heap d (.xd fs) from I.hok d _ xd)
        · exact exd_at I.hok xd
      obtain ⟨mA, hns, hr⟩ := ns
      obtain ⟨od, ho, hl⟩ := lookIn_ns hns
      have J : PySem.W.InstAt s.heap a oe D (some od) := ⟨ha, hc, by unfold PySem.W.notCls; rw [hdat] <;> rfl, by rw [hdd]; exact ho⟩
      exact PySem.W.kia_one (GEX.kitx_exc T) I.kIn J e (fun z => nomatch z) fun tk => ⟨.bl b, H, I.kept (t' := tk) fun _ _ z => z, rfl, q⟩
def dIsX (K : PySem.W.Frag) (cv : Value) (da : DE) : DE := fun env L k x => da env L (fun a L1 => match a with
  | .exc D _ _ => ∃ b, ExcC K D ∧ PySem.W.kitOne K (.ref D) cv = some b ∧ k (.bl b) L1
  | _ => False) x
section
variable {X : Cx} {Wx : WX} {a b c e o : Expr} {es rest : List Expr} {da db dc de do' : DE} {dt du : DT} {dl dk : DA} {pos : Pos}
theorem q_isX {K : PySem.W.Frag} {T : Expr} {p : Pos} {v : V} {cv : Value} (hK : X.K = K) (ha : QE X Wx e da) (hT : PE X T (tC v)) (hcv : ∀ u, RelV v u → u = cv) (hg : Gl X "isinstance") (hm : X.mg "isinstance" = none) (hs : starEach (e :: [T]) X.env = (false, eval e X.env) :: starEach [T] X.env := by rfl) (hs2 : starEach [T] X.env = (false, eval T X.env) :: starEach [] X.env := by rfl)
    (hpl : (backTo pos (starEach [T] X.env)).any (·.1) = false := by rfl) (hv0 : bootBuiltins "isinstance" = some (.builtin "isinstance") := by decide +kernel) : QE X Wx (.Call (.Name "isinstance" p) [e, T] [] pos) (dIsX K cv da) := by
  subst hK
  obtain ⟨ta, pa, sa⟩ := ha.ex
  refine ⟨_, pe_callB (call_isX (cv := cv) fun _ => .inr trivial) hg hm hv0 (pa_cons pa (pa_cons hT pa_nil hs2) hs) (by decide) (by decide) hs hpl, fun σ H env L k x Q st h hk hx => ?_⟩
  refine sa σ H env L _ x _ st h (fun d L1 va H1 h1 g1 j1 r1 => ?_) hx
  cases r1 <;> first | exact h1.elim | skip
  rename_i n m ea hφ xd el rv
  obtain ⟨b, T', hk', h1⟩ := h1
  exact ⟨_, _, _, _, _, _, b, rfl, ea, hφ, xd, T', hcv, hk', hk _ L1 _ H1 h1 g1 j1 (.bl b)⟩
end
end DL

namespace DL
open PySem PySem.Spec PyProof.Rows L2
/-! ### C(..) as a value -/
def spG (C a : Addr) (sp : Sp) (vs : List V) (H1 : Hp) (Q : VK) : Prop := sp (.ref a :: vs) (upd H1 a (exo a C none)) (fun v H2 => v = .non ∧ Q (.ref a) H2) (fun _ _ _ => False)
def tGexV (C : Addr) (sp : Sp) (ta : TA) : TE := fun σ H Q => ta σ H fun vs H1 => vs.length ≤ 1000 ∧ ∀ a, H1 a = none → spG C a sp vs H1 Q
section
variable {X : Cx} {e : Expr} {es : List Expr} {ta : TA} {p pos : Pos}
/-- the state with the new error, ahead of its __init__ -/
theorem gex_laid {pins : List (Addr × Obj)} {σ : L2.St} {H : Hp} {hp : Heap} {g : Array GenState} {d : Drawn} {t : Nat} {os : OsState} {C : Addr} {us : List Value} (I : Inv X pins σ H ⟨hp, g, d, t, os⟩) :
    Inv X pins σ (upd H (hp.objs.size + 1) (exo (hp.objs.size + 1) C none)) ⟨(hp.push (PySem.W.kdv_tup us)).push (PySem.HandSPX.excO C hp.objs.size), g, d, t, os⟩ := by
  have hget : ((hp.push (PySem.W.kdv_tup us)).push (PySem.HandSPX.excO C hp.objs.size)).get? (hp.objs.size + 1) = some (PySem.HandSPX.excO C hp.objs.size) := by heap_get
  exact I.laid (t' := t) (a := hp.objs.size + 1) (o := exo (hp.objs.size + 1) C none) (h' := (hp.push (PySem.W.kdv_tup us)).push (PySem.HandSPX.excO C hp.objs.size)) (fun b o e => Heap.get?_push_of_some _ (Heap.get?_push_of_some _ e)) (Nat.le_succ _) (exo_ok hget)
theorem pe_gex {CX : CXT} {x : Str} {C fI : Addr} {k : Nat} {fd : FuncData} {ps : List Str} {sp : Sp} (T : GexC X.K C) (iC : PySem.W.findIn X.K (.ref C) "__init__" = some (some (.ref fI))) (tI : PySem.W.typeIn X.K (.ref fI) = some (.type "function"))
    (F1 : FnOk X.prog X.w X.K X.mg X.base CX k fI fd ps sp) (hr : Room (k + 1) X.A) (hb : Binds X.K fd ps []) (hx : Passes CX X (fun _ _ _ => False)) (hg : Gl X x) (hm : X.mg x = some (.ref C)) (ha : PA X (e :: es) ta)
    (hdb : (x == ("__debug__" : Str)) = false := by decide) (he : starEach (e :: es) X.env = (false, eval e X.env) :: starEach es X.env := by rfl) (hpl : (backTo pos (starEach es X.env)).any (·.1) = false := by rfl) :
    PE X (.Call (.Name x p) (e :: es) [] pos) (tGexV C sp ta) := by
  refine ⟨fun pins s σ H Q I h => ?_⟩
  obtain ⟨nm, q, N, bs, rs, tl, sn, sub, ab, col, dd, k0, k1, k2, k3, k5, ni, hC, bf⟩ := T.cls
  obtain ⟨B, ini, F⟩ := bf.ex
  refine wpAny_Call_Name_kw (ld_glob I hg hm ?_ hdb)
  refine PySem.W.callWith_K (h₀ := X.base) I.ok.mod.kin T.kC (thn (ha.run pos pins s σ H _ I h) fun us s1 ⟨vs, H1, I1, r1, hz, q1⟩ => ⟨I1.kIn, ?_⟩) he hpl
  show wpAny _ _ (call (.ref C) us) _ _ _
  obtain ⟨hp, g, dr, tk, os⟩ := s1
  have hn : H1 (hp.objs.size + 1) = none := I1.hok.fresh (Nat.le_succ _)
  have hq : sp _ _ _ _ := q1 (hp.objs.size + 1) hn
  have I2 := gex_laid (C := C) (us := us) I1
  have r2 : Vals (V.ref (hp.objs.size + 1) :: vs) (Value.ref (hp.objs.size + 1) :: us) := .cons rfl r1
  have hl : ((Value.ref (hp.objs.size + 1) :: us) ++ []).length = ps.length := by
    have e := r2.length
    rw [F1.len _ _ _ _ hq] at e
    rw [List.append_nil]
    exact e.symm
  have hus : us.length ≤ sizeLine := by
    rw [← Paired.length r1, sizeLine_eq]
    omega
  refine wpAny_call (PySem.HandSPX.call_own F (fun Y => refs_has Y rs) (I1.kIn _ _ hC) (PySem.W.looks_findIn I1.kIn iC) (fun self => PySem.W.bind_fn I1.kIn self tI) hus
    (codeAny_mono (F1.run _ X.stack _ _ ⟨Value.ref (hp.objs.size + 1) :: us, []⟩ (Value.ref (hp.objs.size + 1) :: us) _ _ (fun _ _ _ => False) (hr.make C us []) (I2.env0.make C us []) (by have z := hb _ (Value.ref (hp.objs.size + 1) :: us) I2.kIn hl; rw [List.append_nil] at z; exact z) r2 hq) fun r s' hq' => ?_))
  cases r with
  | error er => exact hx pins σ _ _ er s' I2 hq'
  | ok fl =>
    cases fl with
    | ret u =>
      obtain ⟨v, H2, os2, bare2, un2, hok2, rv, ev, q2⟩ := hq'
      subst ev
      exact ⟨rv, .ref (hp.objs.size + 1), H2, I2.call' (ch := []) os2 un2 hok2 bare2 (fun b z => absurd z (by simp)), rfl, q2⟩
    | next => exact False.elim hq'
    | brk => exact False.elim hq'
    | cont => exact False.elim hq'
theorem pe_gex0 {CX : CXT} {x : Str} {C fI : Addr} {k : Nat} {fd : FuncData} {ps : List Str} {sp : Sp} (T : GexC X.K C) (iC : PySem.W.findIn X.K (.ref C) "__init__" = some (some (.ref fI))) (tI : PySem.W.typeIn X.K (.ref fI) = some (.type "function"))
    (F1 : FnOk X.prog X.w X.K X.mg X.base CX k fI fd ps sp) (hr : Room (k + 1) X.A) (hb : Binds X.K fd ps []) (hx : Passes CX X (fun _ _ _ => False)) (hg : Gl X x) (hm : X.mg x = some (.ref C))
    (hdb : (x == ("__debug__" : Str)) = false := by decide) : PE X (.Call (.Name x p) [] [] pos) (tGexV C sp tNil) := by
  refine ⟨fun pins s σ H Q I h => ?_⟩
  obtain ⟨nm, q, N, bs, rs, tl, sn, sub, ab, col, dd, k0, k1, k2, k3, k5, ni, hC, bf⟩ := T.cls
  obtain ⟨B, ini, F⟩ := bf.ex
  refine wpAny_Call_Name_kw (ld_glob I hg hm ?_ hdb)
  refine PySem.W.callWith_K0 I.kIn T.kC ?_
  show wpAny _ _ (call (.ref C) []) _ _ _
  obtain ⟨_, q1⟩ := h
  obtain ⟨hp, g, dr, tk, os⟩ := s
  have hn : H (hp.objs.size + 1) = none := I.hok.fresh (Nat.le_succ _)
  have hq : sp _ _ _ _ := q1 (hp.objs.size + 1) hn
  have I2 := gex_laid (C := C) (us := []) I
  have r2 : Vals [V.ref (hp.objs.size + 1)] [Value.ref (hp.objs.size + 1)] := .cons rfl .nil
  have hl : ([Value.ref (hp.objs.size + 1)] ++ []).length = ps.length := by
    have e : [V.ref (hp.objs.size + 1)].length = ps.length := F1.len _ _ _ _ hq
    exact e
  refine wpAny_call (PySem.HandSPX.call_own F (fun Y => refs_has Y rs) (I.kIn _ _ hC) (PySem.W.looks_findIn I.kIn iC) (fun self => PySem.W.bind_fn I.kIn self tI) (Nat.zero_le _)
    (codeAny_mono (F1.run _ X.stack _ _ ⟨[Value.ref (hp.objs.size + 1)], []⟩ [Value.ref (hp.objs.size + 1)] _ _ (fun _ _ _ => False) (hr.make C [] []) (I2.env0.make C [] []) (hb _ [Value.ref (hp.objs.size + 1)] I2.kIn hl) r2 hq) fun r s' hq' => ?_))
  cases r with
  | error er => exact hx pins σ _ _ er s' I2 hq'
  | ok fl =>
    cases fl with
    | ret u =>
      obtain ⟨v, H2, os2, bare2, un2, hok2, rv, ev, q2⟩ := hq'
      subst ev
      exact ⟨rv, .ref (hp.objs.size + 1), H2, I2.call' (ch := []) os2 un2 hok2 bare2 (fun b z => absurd z (by simp)), rfl, q2⟩
    | next => exact False.elim hq'
    | brk => exact False.elim hq'
    | cont => exact False.elim hq'
def tGexK (C : Addr) (sp : Sp) (ta : TA) : TE := fun σ H Q => ta σ H fun vs H1 => ∃ z, vs = [z] ∧ ∀ a, H1 a = none → spG C a sp vs H1 Q
theorem pe_gexK {CX : CXT} {x fn : Str} {C fI : Addr} {k : Nat} {fd : FuncData} {ps : List Str} {sp : Sp} {kp : Pos} (T : GexC X.K C) (iC : PySem.W.findIn X.K (.ref C) "__init__" = some (some (.ref fI))) (tI : PySem.W.typeIn X.K (.ref fI) = some (.type "function"))
    (F1 : FnOk X.prog X.w X.K X.mg X.base CX k fI fd ps sp) (hr : Room (k + 1) X.A) (hb : ∀ (s : Shared) (u v : Value), BindsTo s fd ⟨[u], [(fn, v)]⟩ (ps.zip [u, v])) (hx : Passes CX X (fun _ _ _ => False)) (hg : Gl X x) (hm : X.mg x = some (.ref C)) (hkw : PK X [⟨some fn, e, kp⟩] ta)
    (hall : (backToKw pos (keywordEach [⟨some fn, e, kp⟩] X.env)).all (·.1.isSome) = true := by rfl) (hks : (backToKw pos (keywordEach [⟨some fn, e, kp⟩] X.env)).filterMap (·.1) = [fn] := by rfl)
    (hdb : (x == ("__debug__" : Str)) = false := by decide) (hpl : ((backTo pos (starEach [] X.env)).any (·.1) || (backToKw pos (keywordEach [⟨some fn, e, kp⟩] X.env)).any (·.1.isNone)) = false := by rfl) :
    PE X (.Call (.Name x p) [] [⟨some fn, e, kp⟩] pos) (tGexK C sp ta) := by
  refine ⟨fun pins s σ H Q I h => ?_⟩
  obtain ⟨nm, q, N, bs, rs, tl, sn, sub, ab, col, dd, k0, k1, k2, k3, k5, ni, hC, bf⟩ := T.cls
  obtain ⟨B, ini, F⟩ := bf.ex
  refine wpAny_Call_Name_kw (ld_glob I hg hm ?_ hdb)
  refine PySem.W.callWith_KW0 (h₀ := X.base) I.ok.mod.kin T.kC hall (thn (hkw.run pos pins s σ H _ I h) fun ws s1 ⟨zs, H1, I1, rz, z, ez, q1⟩ => ⟨I1.kIn, ?_⟩) hpl
  rw [hks]
  subst ez
  cases rz with
  | @cons _ u0 _ ur rz0 rr =>
    cases rr
    show wpAny _ _ (call (.ref C) [] [(fn, u0)]) _ _ _
    obtain ⟨hp, g, dr, tk, os⟩ := s1
    have hn : H1 (hp.objs.size + 1) = none := I1.hok.fresh (Nat.le_succ _)
    have hq : sp _ _ _ _ := q1 (hp.objs.size + 1) hn
    have I2 := gex_laid (C := C) (us := []) I1
    have r2 : Vals [V.ref (hp.objs.size + 1), z] [Value.ref (hp.objs.size + 1), u0] := .cons rfl (.cons rz0 .nil)
    refine wpAny_call (GEX.call_kw F (fun Y => refs_has Y rs) (I1.kIn _ _ hC) (PySem.W.looks_findIn I1.kIn iC) (fun self => PySem.W.bind_fn I1.kIn self tI)
      (codeAny_mono (F1.run _ X.stack _ _ ⟨[Value.ref (hp.objs.size + 1)], [(fn, u0)]⟩ [Value.ref (hp.objs.size + 1), u0] _ _ (fun _ _ _ => False) (hr.make C [] [(fn, u0)]) (I2.env0.make C [] [(fn, u0)]) (hb _ _ _) r2 hq) fun r s' hq' => ?_))
    cases r with
    | error er => exact hx pins σ _ _ er s' I2 hq'
    | ok fl =>
      cases fl with
      | ret u =>
        obtain ⟨v, H2, os2, bare2, un2, hok2, rv, ev, q2⟩ := hq'
        subst ev
        exact ⟨rv, .ref (hp.objs.size + 1), H2, I2.call' (ch := []) os2 un2 hok2 bare2 (fun b z => absurd z (by simp)), rfl, q2⟩
      | next => exact False.elim hq'
      | brk => exact False.elim hq'
      | cont => exact False.elim hq'
end
end DL

namespace DL
open PySem PySem.Spec PyProof.Rows L2
/-- an own error class by name, over any base -/
structure GCls (P : Program) (w : World) (K : PySem.W.Frag) (mg : Str → Option Value) (base : Heap) (x : Str) (C : Addr) (ps : List Str) (sp : Sp) : Prop where
  gex : GexC K C
  gC : mg x = some (.ref C)
  make_ : ∃ (fI : Addr) (fd : FuncData), PySem.W.findIn K (.ref C) "__init__" = some (some (.ref fI)) ∧ PySem.W.typeIn K (.ref fI) = some (.type "function") ∧ FnOk P w K mg base (L2.CX P w) 1 fI fd ps sp ∧ Binds K fd ps [] ∧ ∀ (f : Str), ps = (["self", f] : List Str) → ∀ (s : Shared) (u v : Value), BindsTo s fd ⟨[u], [(f, v)]⟩ (ps.zip [u, v])
section
variable {P : Program} {w : World} {K : PySem.W.Frag} {mg : Str → Option Value} {base : Heap}
theorem init1G {qual code f : Str} {st : Stmt} {fI C : Addr} {fd : FuncData} {p1 p2 p3 p4 p5 p6 p7 p8 : Pos} {j : Nat} (F : Fun K "__init__" qual st fI fd) (S : FnScope ["self", f] ["self", f] (defScope st))
    (hbd : defBody st = [.Assign [.Attribute (.Name "self" p1) "code" p2] (.Constant (.str code) j p3) p4, .Assign [.Attribute (.Name "self" p5) f p6] (.Name f p7) p8]) (hs : (defScope st).names.lookup ("self" : Str) = some .local) (hf : (defScope st).names.lookup f = some .local)
    (hd : (f == ("__debug__" : Str)) = false) (hcd : (f == ("__classdict__" : Str)) = false) (T : GexC K C) (h1 : PySem.W.findIn K (.ref C) "code" = some none) (h2 : PySem.W.findIn K (.ref C) f = some none) : FnOk P w K mg base (L2.CX P w) 1 fI fd ["self", f] (spI1 C code f) := by
  refine F.okX S (fun vs H Q E h => ?_) (fun cdv A outer s H vs Q E hr h => ?_)
  · obtain ⟨a, v, rfl, _⟩ := h
    rfl
  · obtain ⟨a, v, rfl, ha, q⟩ := h
    rw [hbd]
    refine ⟨_, pss_cons (ps_gst (pv 0 rfl (.inl hs)) pe_str (by rfl)) (pss_one (ps_gst (pv 0 rfl (.inl hs)) (pv 1 rfl (.inl hf) hd hcd) (by rfl))), ?_⟩
    refine ⟨.ref a, rfl, a, C, rfl, T, h1, .inl ⟨ha, fun d hd hne => ?_⟩⟩
    refine ⟨v, rfl, .ref a, rfl, a, C, rfl, T, h2, .inr ⟨d, [("code", .str code)], upd_same, ?_, by show 1 ≤ 900; omega, ?_⟩⟩
    · rw [upd_ne hne, upd_same]
    · exact q d hd hne
theorem init0G {qual code : Str} {st : Stmt} {fI C : Addr} {fd : FuncData} {p1 p2 p3 p4 : Pos} {j : Nat} (F : Fun K "__init__" qual st fI fd) (S : FnScope ["self"] ["self"] (defScope st))
    (hbd : defBody st = [.Assign [.Attribute (.Name "self" p1) "code" p2] (.Constant (.str code) j p3) p4]) (hs : (defScope st).names.lookup ("self" : Str) = some .local)
    (T : GexC K C) (h1 : PySem.W.findIn K (.ref C) "code" = some none) : FnOk P w K mg base (L2.CX P w) 1 fI fd ["self"] (spI0 C code) := by
  refine F.okX S (fun vs H Q E h => ?_) (fun cdv A outer s H vs Q E hr h => ?_)
  · obtain ⟨a, rfl, _⟩ := h
    rfl
  · obtain ⟨a, rfl, ha, q⟩ := h
    rw [hbd]
    refine ⟨_, pss_one (ps_gst (pv 0 rfl (.inl hs)) pe_str (by rfl)), ?_⟩
    exact ⟨.ref a, rfl, a, C, rfl, T, h1, .inl ⟨ha, fun d hd hne => q d hd hne⟩⟩
end
section
variable {X : Cx} {Wx : WX} {e : Expr} {es : List Expr} {dl dk : DA} {pos : Pos}
def dErr1 (C : Addr) (code f : Str) (dl : DA) : DE := fun env L k x => dl env L (fun ds L1 => match ds with
  | [v] => k (.exc C [f, "code"] [v, .str code]) L1
  | _ => False) x
theorem rp_exc1 {L : Led} {K : PySem.W.Frag} {H : Hp} {q d C : Addr} {code f : Str} {vv : V} {v : D} (j : JL K L H) (hq : H q = none) (hd : H d = none) (hne : d ≠ q) (rv : Rp L K H vv v) :
    Rp L K (upd (upd (upd (upd H q (exo q C none)) d (exd d [("code", .str code)])) q (exo q C (some d))) d (exd d [(f, vv), ("code", .str code)])) (.ref q) (.exc C [f, "code"] [v, .str code]) ∧
    Same H (upd (upd (upd (upd H q (exo q C none)) d (exd d [("code", .str code)])) q (exo q C (some d))) d (exd d [(f, vv), ("code", .str code)])) := by
  have s : Same H (upd (upd (upd (upd H q (exo q C none)) d (exd d [("code", .str code)])) q (exo q C (some d))) d (exd d [(f, vv), ("code", .str code)])) := fun b u hb => by
    have n1 : b ≠ q := ne_of_none hb hq
    have n2 : b ≠ d := ne_of_none hb hd
    rw [upd_ne n2, upd_ne n1, upd_ne n2, upd_ne n1]
    exact hb
  refine ⟨.exc (xs := [vv, .str code]) (j.notIn hq) (j.notIn hd) (by rw [upd_ne (Ne.symm hne)]; exact upd_same) (fun h z => ?_) (.inr upd_same) rfl (.cons (rv.go (Go.same s)) (.cons (.str code) .nil)), s⟩
  obtain ⟨t1, e⟩ := z
  exact ⟨_, _, e, rfl, rfl, rfl⟩
theorem q_err1 {x : Str} {C : Addr} {code f : Str} {p : Pos} {k : Nat} (T : GCls X.prog X.w X.K X.mg X.base x C ["self", f] (spI1 C code f)) (hr : Room k X.A) (h2 : 2 ≤ k) (hg : Gl X x) (ha : QA X Wx [e] dl)
    (hdb : (x == ("__debug__" : Str)) = false := by decide) (he : starEach [e] X.env = (false, eval e X.env) :: starEach [] X.env := by rfl) (hpl : (backTo pos (starEach [] X.env)).any (·.1) = false := by rfl) :
    QE X Wx (.Call (.Name x p) [e] [] pos) (dErr1 C code f dl) := by
  obtain ⟨fI, fd, iC, tI, F1, hb, _⟩ := T.make_
  obtain ⟨ta, pa, sa⟩ := ha.ex
  refine ⟨_, pe_gex T.gex iC tI F1 (hr.mono h2) hb (fun _ _ _ _ _ _ _ h => by obtain ⟨_, _, _, _, _, _, _, _, _, _, _, _, z⟩ := h; exact z.elim) hg T.gC pa hdb he hpl, fun σ H env L kk xx Q st h hk hx => ?_⟩
  refine sa σ H env L _ xx _ st h (fun ds L1 vs H1 h1 g1 j1 r1 => ?_) hx
  split at h1
  · rename_i v
    cases r1 with
    | cons rv r2 =>
      cases r2
      rename_i vv
      refine ⟨by simp, fun q hq => ⟨q, vv, rfl, upd_same, fun d hd hne => ⟨rfl, ?_⟩⟩⟩
      have hd1 : H1 d = none := by rw [upd_ne hne] at hd; exact hd
      obtain ⟨rp, s⟩ := rp_exc1 (C := C) (code := code) (f := f) j1 hq hd1 hne rv
      exact hk _ L1 _ _ h1 (g1.trans (Go.same s)) (j1.same s) rp
  · exact h1.elim
theorem q_errK {x : Str} {C : Addr} {code f : Str} {p kp : Pos} {k : Nat} (T : GCls X.prog X.w X.K X.mg X.base x C ["self", f] (spI1 C code f)) (hr : Room k X.A) (h2 : 2 ≤ k) (hg : Gl X x) (hkw : QK X Wx [⟨some f, e, kp⟩] dl)
    (hall : (backToKw pos (keywordEach [⟨some f, e, kp⟩] X.env)).all (·.1.isSome) = true := by rfl) (hks : (backToKw pos (keywordEach [⟨some f, e, kp⟩] X.env)).filterMap (·.1) = [f] := by rfl)
    (hdb : (x == ("__debug__" : Str)) = false := by decide) (hpl : ((backTo pos (starEach [] X.env)).any (·.1) || (backToKw pos (keywordEach [⟨some f, e, kp⟩] X.env)).any (·.1.isNone)) = false := by rfl) :
    QE X Wx (.Call (.Name x p) [] [⟨some f, e, kp⟩] pos) (dErr1 C code f dl) := by
  obtain ⟨fI, fd, iC, tI, F1, _, hb⟩ := T.make_
  obtain ⟨ta, pa, sa⟩ := hkw.ex
  refine ⟨_, pe_gexK T.gex iC tI F1 (hr.mono h2) (hb f rfl) (fun _ _ _ _ _ _ _ h => by obtain ⟨_, _, _, _, _, _, _, _, _, _, _, _, z⟩ := h; exact z.elim) hg T.gC pa hall hks hdb hpl, fun σ H env L kk xx Q st h hk hx => ?_⟩
  refine sa σ H env L _ xx _ st h (fun ds L1 vs H1 h1 g1 j1 r1 => ?_) hx
  split at h1
  · rename_i v
    cases r1 with
    | cons rv r2 =>
      cases r2
      rename_i vv
      refine ⟨vv, rfl, fun q hq => ⟨q, vv, rfl, upd_same, fun d hd hne => ⟨rfl, ?_⟩⟩⟩
      have hd1 : H1 d = none := by rw [upd_ne hne] at hd; exact hd
      obtain ⟨rp, s⟩ := rp_exc1 (C := C) (code := code) (f := f) j1 hq hd1 hne rv
      exact hk _ L1 _ _ h1 (g1.trans (Go.same s)) (j1.same s) rp
  · exact h1.elim
def dErr0 (C : Addr) (code : Str) : DE := fun _ L k _ => k (.exc C ["code"] [.str code]) L
theorem q_err0 {x : Str} {C : Addr} {code : Str} {p : Pos} {k : Nat} (T : GCls X.prog X.w X.K X.mg X.base x C ["self"] (spI0 C code)) (hr : Room k X.A) (h2 : 2 ≤ k) (hg : Gl X x) (hdb : (x == ("__debug__" : Str)) = false := by decide) :
    QE X Wx (.Call (.Name x p) [] [] pos) (dErr0 C code) := by
  obtain ⟨fI, fd, iC, tI, F1, hb, _⟩ := T.make_
  refine ⟨_, pe_gex0 T.gex iC tI F1 (hr.mono h2) hb (fun _ _ _ _ _ _ _ h => by obtain ⟨_, _, _, _, _, _, _, _, _, _, _, _, z⟩ := h; exact z.elim) hg T.gC hdb, fun σ H env L kk xx Q st h hk hx => ?_⟩
  refine ⟨by simp, fun q hq => ⟨q, rfl, upd_same, fun d hd hne => ⟨rfl, ?_⟩⟩⟩
  have hd1 : H d = none := by rw [upd_ne hne] at hd; exact hd
  have s : Same H (upd (upd (upd H q (exo q C none)) d (exd d [("code", .str code)])) q (exo q C (some d))) := fun b u hb => by
    have n1 : b ≠ q := ne_of_none hb hq
    have n2 : b ≠ d := ne_of_none hb hd1
    rw [upd_ne n1, upd_ne n2, upd_ne n1]
    exact hb
  exact hk _ L _ _ h (Go.same s) (st.2.same s) (.exc (xs := [.str code]) (st.2.notIn hq) (st.2.notIn hd1) upd_same (fun h z => by obtain ⟨t1, e⟩ := z; exact ⟨_, _, e, rfl, rfl, rfl⟩) (.inr (by rw [upd_ne hne]; exact upd_same)) rfl (.cons (.str code) .nil))
end
end DL

namespace DL
open PySem PySem.Spec PyProof.Rows L2
section
variable {X : Cx} {Wx : WX} {pos : Pos}
theorem q_cal0 {x : Str} {p : Pos} {n k : Nat} {ps : List Str} {g : DSp} {dd : List D} (F : Cal X.prog X.w X.K X.mg X.base n x ps dd g) (hn : n ≤ k) (hr : Room k X.A) (tk : Takes X (fun cls d _ H => Wx cls d [] H)) (hW : ∀ cls d σ σ' H, Wx cls d σ H → Wx cls d σ' H) (hg : Gl X x) (hdb : (x == ("__debug__" : Str)) = false := by decide) : QE X Wx (.Call (.Name x p) [] [] pos) (dCall0 g dd) := by
  obtain ⟨f, fd, us, dvs, F, hm, hk, hb, hd, hdd⟩ := F.ex
  exact q_call0 F (hr.mono hn) hg hm hk hb hd hdd tk hW hdb
end
/-! ### an own error class as the top has left it -/
structure EC (K : PySem.W.Frag) (C : Addr) (rs : List Addr) (t : List Value) (fs : List Str) : Prop where
  cls : ∃ nm q N bs sn sub ab col dd k0 k1 k2 k3 k5 newId, K.lookup C = some (excClassObj nm q C N bs (rs.map Value.ref ++ t) true sn sub ab col dd k0 k1 k2 k3 k5 newId) ∧ BaseF t newId
  sa : PySem.W.findIn K (.ref C) "__setattr__" = some (some (.builtin "object.__setattr__"))
  exC : PySem.W.subIn K (.ref C) (.type "BaseException") = some true
  tyC : PySem.W.typeIn K (.ref C) = some (.type "type")
  kC : PySem.W.keepIn K (.ref C) = true
  ga : PySem.W.findIn K (.ref C) "__getattribute__" = some (some (.builtin "BaseException.__getattribute__"))
  gg : PySem.W.findIn K (.ref C) "__getattr__" = some none
  hd : PySem.W.hasDictIn K C = true
  ca : PySem.W.findIn K (.ref C) "__class__" = some (some (.builtin "object.__class__"))
  no : ∀ f ∈ fs, PySem.W.findIn K (.ref C) f = some none
section
variable {K : PySem.W.Frag} {C : Addr} {rs : List Addr} {t : List Value} {fs : List Str}
theorem EC.gex (e : EC K C rs t fs) : GexC K C := by
  obtain ⟨nm, q, N, bs, sn, sub, ab, col, dd, k0, k1, k2, k3, k5, ni, h, b⟩ := e.cls
  exact ⟨⟨nm, q, N, bs, rs, t, sn, sub, ab, col, dd, k0, k1, k2, k3, k5, ni, h, b⟩, e.sa, e.exC, e.tyC, e.kC⟩
theorem EC.xf (e : EC K C rs t fs) : XfC K C := ⟨e.ga, e.gg, e.exC, e.hd⟩
theorem EC.fld (e : EC K C rs t fs) {f : Str} (h : f ∈ fs) : FldOk K C f := ⟨e.xf, e.no f h⟩
theorem EC.clsIn (e : EC K C rs t fs) : ∃ cd, PySem.W.clsIn K C = some cd ∧ cd.mro = .ref C :: (rs.map Value.ref ++ t) := by
  obtain ⟨nm, q, N, bs, sn, sub, ab, col, dd, k0, k1, k2, k3, k5, ni, h, b⟩ := e.cls
  refine ⟨{ name := nm, bases := bs, mro := .ref C :: (rs.map Value.ref ++ t), ns := N, qualname := q, hasDict := true, slotNames := sn, subclasses := sub, abstract := ab, collection := col, hasDel := false }, ?_, rfl⟩
  unfold PySem.W.clsIn
  rw [h] <;> rfl
theorem EC.sub (e : EC K C rs t fs) (b : Value) : PySem.W.subIn K (.ref C) b = some ((Value.ref C :: (rs.map Value.ref ++ t)).contains b) := by
  obtain ⟨cd, h, m⟩ := e.clsIn
  show PySem.W.mroIn K C b = _
  unfold PySem.W.mroIn
  rw [h, Option.bind_some, m]
  rfl
theorem EC.excC (e : EC K C rs t fs) (hn : PySem.W.specialIn K (.builtin "object.__class__") "__get__" = some (some (.builtin "getset_descriptor.__get__"))) (ht : PySem.W.takesIn K (.builtin "object.__class__") = some true) : ExcC K C := by
  refine ⟨e.ga, e.gg, e.exC, e.hd, e.ca, hn, ht, ?_⟩
  have q := e.sub (.type "object")
  obtain ⟨_, _, _, _, _, _, _, _, _, _, _, _, _, _, _, _, b⟩ := e.cls
  have z := refs_has (t := t) "object" (C :: rs)
  rw [List.map_cons, List.cons_append] at z
  rw [z, b.ob] at q
  exact q
/-- a class that is asked for by name -/
structure CK (K : PySem.W.Frag) (C : Addr) : Prop where
  cls : ∃ cd, PySem.W.clsIn K C = some cd
  ty : PySem.W.typeIn K (.ref C) = some (.type "type")
theorem EC.ck (e : EC K C rs t fs) : CK K C := ⟨(let ⟨cd, h, _⟩ := e.clsIn; ⟨cd, h⟩), e.tyC⟩
theorem EC.kit (e : EC K C rs t fs) {B : Addr} (c : CK K B) : PySem.W.kitOne K (.ref C) (.ref B) = some ((Value.ref C :: (rs.map Value.ref ++ t)).contains (.ref B)) := by
  unfold PySem.W.kitOne
  by_cases h : (Value.ref C == Value.ref B) = true
  · rw [if_pos h]
    have e2 : Value.ref C = Value.ref B := beq_iff_eq.mp h
    rw [e2, List.contains_cons, beq_self_eq_true]
    rfl
  · rw [if_neg h]
    unfold PySem.W.kitCls
    obtain ⟨cd, hc⟩ := c.cls
    dsimp only
    rw [hc, c.ty, e.sub]
    rfl
theorem EC.kitT (e : EC K C rs t fs) {T : String} (c : PySem.W.kitMeta T = true) : PySem.W.kitOne K (.ref C) (.type T) = some ((Value.ref C :: (rs.map Value.ref ++ t)).contains (.type T)) := by
  unfold PySem.W.kitOne
  rw [if_neg (show ¬ (Value.ref C == Value.type T) = true from fun h => nomatch (beq_iff_eq.mp h))]
  unfold PySem.W.kitCls
  dsimp only
  rw [if_pos c, e.sub]
theorem kitM_VE : PySem.W.kitMeta "ValueError" = true := by decide +kernel
theorem kitM_LE : PySem.W.kitMeta "LookupError" = true := by decide +kernel
theorem kitM_IE : PySem.W.kitMeta "IndexError" = true := by decide +kernel
theorem bb_ValueError : bootBuiltins "ValueError" = some (.type "ValueError") := by decide +kernel
theorem bb_LookupError : bootBuiltins "LookupError" = some (.type "LookupError") := by decide +kernel
theorem bb_IndexError : bootBuiltins "IndexError" = some (.type "IndexError") := by decide +kernel
abbrev tVE : List Value := [.type "ValueError", .type "Exception", .type "BaseException", .type "object"]
abbrev tLE : List Value := [.type "LookupError", .type "Exception", .type "BaseException", .type "object"]
abbrev tIE : List Value := [.type "IndexError", .type "LookupError", .type "Exception", .type "BaseException", .type "object"]
end
section
variable {P : Program} {w : World} {K : PySem.W.Frag} {mg : Str → Option Value} {base : Heap} {x : Str} {C fI : Addr} {rs : List Addr} {t : List Value}
theorem gcls1 {qual code f : Str} {st : Stmt} {fd : FuncData} {p1 p2 p3 p4 p5 p6 p7 p8 : Pos} {j : Nat} (e : EC K C rs t ["code", f]) (gC : mg x = some (.ref C)) (iI : PySem.W.findIn K (.ref C) "__init__" = some (some (.ref fI))) (tI : PySem.W.typeIn K (.ref fI) = some (.type "function"))
    (F : Fun K "__init__" qual st fI fd) (S : FnScope ["self", f] ["self", f] (defScope st))
    (hbd : defBody st = [.Assign [.Attribute (.Name "self" p1) "code" p2] (.Constant (.str code) j p3) p4, .Assign [.Attribute (.Name "self" p5) f p6] (.Name f p7) p8]) (hs : (defScope st).names.lookup ("self" : Str) = some .local) (hf : (defScope st).names.lookup f = some .local)
    (hd : (f == ("__debug__" : Str)) = false) (hcd : (f == ("__classdict__" : Str)) = false) (hB : Binds K fd ["self", f] [])
    (hK : ∀ (s : Shared) (u v : Value), BindsTo s fd ⟨[u], [(f, v)]⟩ [("self", u), (f, v)]) : GCls P w K mg base x C ["self", f] (spI1 C code f) :=
  ⟨e.gex, gC, fI, fd, iI, tI, init1G F S hbd hs hf hd hcd e.gex (e.no "code" (by simp)) (e.no f (by simp)), hB, fun f' h s u v => by
    have : f' = f := by injection h with _ h; injection h with h; exact h.symm
    subst this
    exact hK s u v⟩
theorem gcls0 {qual code : Str} {st : Stmt} {fd : FuncData} {p1 p2 p3 p4 : Pos} {j : Nat} {fs : List Str} (e : EC K C rs t ("code" :: fs)) (gC : mg x = some (.ref C)) (iI : PySem.W.findIn K (.ref C) "__init__" = some (some (.ref fI))) (tI : PySem.W.typeIn K (.ref fI) = some (.type "function"))
    (F : Fun K "__init__" qual st fI fd) (S : FnScope ["self"] ["self"] (defScope st))
    (hbd : defBody st = [.Assign [.Attribute (.Name "self" p1) "code" p2] (.Constant (.str code) j p3) p4]) (hs : (defScope st).names.lookup ("self" : Str) = some .local) (hB : Binds K fd ["self"] []) : GCls P w K mg base x C ["self"] (spI0 C code) :=
  ⟨e.gex, gC, fI, fd, iI, tI, init0G F S hbd hs e.gex (e.no "code" (by simp)), hB, fun f' h => by injection h with _ h; cases h⟩
end
end DL

namespace T01
open PySem L2 DL
def top (i : Nat) : Stmt := PySem.Challenge.pw_nearspokes_k01_errors_by_themselves.main.body.getD i (.Pass ⟨0, 0, 0, 0⟩)
abbrev sLBag : Stmt := top 27
abbrev sLPull : Stmt := top 28
abbrev sLOf : Stmt := top 29
abbrev sLSame : Stmt := top 30
abbrev sLField : Stmt := top 31
abbrev sLKindsOf : Stmt := top 32
abbrev sLCodes : Stmt := top 33
abbrev sLMade : Stmt := top 34
abbrev sLNamed : Stmt := top 35
abbrev sLaw : Stmt := top 36
structure Zn (mg : Str → Option Value) : Prop where
  z_isinstance : mg "isinstance" = none
  z_int : mg "int" = none
  z_bool : mg "bool" = none
  z_str : mg "str" = none
  z_list : mg "list" = none
  z_tuple : mg "tuple" = none
  z_len : mg "len" = none
  z_abs : mg "abs" = none
  z_all : mg "all" = none
  z_range : mg "range" = none
  z_zip : mg "zip" = none
  z_ValueError : mg "ValueError" = none
  z_LookupError : mg "LookupError" = none
  z_IndexError : mg "IndexError" = none
section
variable {P : Program} {w : World} {K : PySem.W.Frag} {mg : Str → Option Value} {base : Heap}
local macro_rules | `(tactic| walk_at "w") => `(tactic| conv => whnf)
local macro_rules | `(tactic| walk_at "v") => `(tactic| ((conv => whnf); try dsimp only))

def E1 (C : Addr) (f code : Str) (v : D) : D := .exc C [f, "code"] [v, .str code]
def E0 (C : Addr) (code : Str) : D := .exc C ["code"] [.str code]
def errs (c : Nat → Addr) (v : D) : List D := [E1 (c 0) "given" "InvalidNumber" v, E1 (c 1) "given" "InvalidRatio" v, E1 (c 2) "given" "InvalidPoint" v, E1 (c 3) "at" "InvalidTerm" v, E1 (c 4) "given" "InvalidLetter" v, E0 (c 5) "ZeroDivisor", E0 (c 6) "ZeroPolynomial", E0 (c 7) "NotDivisible", E1 (c 8) "index" "NoRoot" v, E1 (c 9) "given" "NoPlace" v, E1 (c 10) "given" "OutOfBox" v, E0 (c 11) "NoValue", E1 (c 12) "name" "InvalidName" v, E1 (c 13) "at" "InvalidProgram" v, E1 (c 14) "line" "InvalidText" v, E1 (c 15) "name" "DuplicateName" v, E1 (c 16) "limit" "Full" v, E1 (c 17) "user" "InUse" v, E1 (c 18) "at" "InvalidCommand" v, E1 (c 19) "given" "InvalidLimit" v, E1 (c 20) "line" "InvalidPage" v, E1 (c 21) "name" "UnknownName" v, E0 (c 22) "NothingLeft"]
def codes : List D := [.str "InvalidNumber", .str "InvalidRatio", .str "InvalidPoint", .str "InvalidTerm", .str "InvalidLetter", .str "ZeroDivisor", .str "ZeroPolynomial", .str "NotDivisible", .str "NoRoot", .str "NoPlace", .str "OutOfBox", .str "NoValue", .str "InvalidName", .str "InvalidProgram", .str "InvalidText", .str "DuplicateName", .str "Full", .str "InUse", .str "InvalidCommand", .str "InvalidLimit", .str "InvalidPage", .str "UnknownName", .str "NothingLeft"]
def madeS (c : Nat → Addr) : DSp := fun ds L k _ => ∃ v, ds = [v] ∧ k (.lst (errs c v)) L
def codesS : DSp := fun ds L k _ => ds = [] ∧ k (.lst codes) L
def kindsS (K : PySem.W.Frag) (c : Nat → Addr) : DSp := fun ds L k _ => ∃ C ns vs, ∃ b : Nat → Bool, ds = [.exc C ns vs] ∧ ExcC K C ∧ (∀ j, j < 23 → PySem.W.kitOne K (.ref C) (.ref (c j)) = some (b j)) ∧ k (.lst [.bl (b 0), .bl (b 1), .bl (b 2), .bl (b 3), .bl (b 4), .bl (b 5), .bl (b 6), .bl (b 7), .bl (b 8), .bl (b 9), .bl (b 10), .bl (b 11), .bl (b 12), .bl (b 13), .bl (b 14), .bl (b 15), .bl (b 16), .bl (b 17), .bl (b 18), .bl (b 19), .bl (b 20), .bl (b 21), .bl (b 22)]) L
theorem scLField : FnScope ["_law_e"] ["_law_e"] (defScope sLField) := ⟨rfl, rfl, rfl, by decide +kernel, rfl, by decide +kernel, by decide +kernel⟩
theorem ok_LField {f : Addr} {fd : FuncData} (Z : Zn mg) (F : Fun K "_law_field" "_law_field" sLField f fd) : FnOk P w K mg base (L2.CX P w) 1 f fd ["_law_e"] (spD K (fieldS K)) := by
  refine fn_ok F scLField ?len (fun cdv A outer s H E hr => ?_)
  rotate_left
  · have tk := takes_of (X := cxOf (L2.CX P w) P w K mg base ["_law_e"] "_law_field" (defScope sLField) f cdv A outer s H E) (E := E) rfl rfl rfl rfl
    have hp := passes_of (X := cxOf (L2.CX P w) P w K mg base ["_law_e"] "_law_field" (defScope sLField) f cdv A outer s H E) rfl
    refine ⟨_, (ss_cons (s_if (t_cmp oq_inQ (q_atEK (K := K) rfl (qv 0)) (q_tup (a_cons q_str (a_cons q_str (a_cons q_str (a_cons q_str (a_cons q_str (a_cons q_str (a_cons q_str a_nil))))))))) (ss_one (s_ret (q_atEK (K := K) rfl (qv 0)))) ss_nil)
  (ss_cons (s_if (t_cmp oq_inQ (q_atEK (K := K) rfl (qv 0)) (q_tup (a_cons q_str (a_cons q_str (a_cons q_str a_nil))))) (ss_one (s_ret (q_atEK (K := K) rfl (qv 0)))) ss_nil)
  (ss_cons (s_if (t_cmp oq_inQ (q_atEK (K := K) rfl (qv 0)) (q_tup (a_cons q_str (a_cons q_str (a_cons q_str a_nil))))) (ss_one (s_ret (q_atEK (K := K) rfl (qv 0)))) ss_nil)
  (ss_cons (s_if (t_cmp oq_inQ (q_atEK (K := K) rfl (qv 0)) (q_tup (a_cons q_str (a_cons q_str a_nil)))) (ss_one (s_ret (q_atEK (K := K) rfl (qv 0)))) ss_nil)
  (ss_cons (s_if (t_cmp (oq_eqU hr.units) (q_atEK (K := K) rfl (qv 0)) q_str) (ss_one (s_ret (q_atEK (K := K) rfl (qv 0)))) ss_nil)
  (ss_cons (s_if (t_cmp (oq_eqU hr.units) (q_atEK (K := K) rfl (qv 0)) q_str) (ss_one (s_ret (q_atEK (K := K) rfl (qv 0)))) ss_nil)
  (ss_one (s_ret (q_if (t_cmp (oq_eqU hr.units) (q_atEK (K := K) rfl (qv 0)) q_str) (q_atEK (K := K) rfl (qv 0)) q_non))))))))), ?_⟩
    clear tk hp
    rintro ds L k x ⟨C, ns, vs, code, r, rfl, herr, h⟩
    cases herr with
    | one ht h1 h2 =>
      cases ht <;> (repeat (first | exact h | (walk_at "v"; refine ⟨h1, ?_⟩) | (walk_at "v"; refine ⟨h2, ?_⟩) | (walk_at "v"; refine ⟨sz_ok rfl, ?_⟩) | walk_at "v"))
    | no ht h1 =>
      cases ht <;> (repeat (first | exact h | (walk_at "v"; refine ⟨h1, ?_⟩) | (walk_at "v"; refine ⟨sz_ok rfl, ?_⟩) | walk_at "v"))
  · rintro ds L k x ⟨C, ns, vs, code, r, rfl, _⟩; rfl
theorem scLKindsOf : FnScope ["_law_e", "_law_found"] ["_law_e"] (defScope sLKindsOf) := ⟨rfl, rfl, rfl, by decide +kernel, rfl, by decide +kernel, by decide +kernel⟩
theorem ok_LKindsOf {f : Addr} {fd : FuncData} (Z : Zn mg) (F : Fun K "_law_kinds_of" "_law_kinds_of" sLKindsOf f fd) {c : Nat → Addr} (n_InvalidNumber : mg "InvalidNumber" = some (.ref (c 0))) (n_InvalidRatio : mg "InvalidRatio" = some (.ref (c 1))) (n_InvalidPoint : mg "InvalidPoint" = some (.ref (c 2))) (n_InvalidTerm : mg "InvalidTerm" = some (.ref (c 3))) (n_InvalidLetter : mg "InvalidLetter" = some (.ref (c 4))) (n_ZeroDivisor : mg "ZeroDivisor" = some (.ref (c 5))) (n_ZeroPolynomial : mg "ZeroPolynomial" = some (.ref (c 6))) (n_NotDivisible : mg "NotDivisible" = some (.ref (c 7))) (n_NoRoot : mg "NoRoot" = some (.ref (c 8))) (n_NoPlace : mg "NoPlace" = some (.ref (c 9))) (n_OutOfBox : mg "OutOfBox" = some (.ref (c 10))) (n_NoValue : mg "NoValue" = some (.ref (c 11))) (n_InvalidName : mg "InvalidName" = some (.ref (c 12))) (n_InvalidProgram : mg "InvalidProgram" = some (.ref (c 13))) (n_InvalidText : mg "InvalidText" = some (.ref (c 14))) (n_DuplicateName : mg "DuplicateName" = some (.ref (c 15))) (n_Full : mg "Full" = some (.ref (c 16))) (n_InUse : mg "InUse" = some (.ref (c 17))) (n_InvalidCommand : mg "InvalidCommand" = some (.ref (c 18))) (n_InvalidLimit : mg "InvalidLimit" = some (.ref (c 19))) (n_InvalidPage : mg "InvalidPage" = some (.ref (c 20))) (n_UnknownName : mg "UnknownName" = some (.ref (c 21))) (n_NothingLeft : mg "NothingLeft" = some (.ref (c 22))) : FnOk P w K mg base (L2.CX P w) 1 f fd ["_law_e"] (spD K (kindsS K c)) := by
  refine fn_ok F scLKindsOf ?len (fun cdv A outer s H E hr => ?_)
  rotate_left
  · have tk := takes_of (X := cxOf (L2.CX P w) P w K mg base ["_law_e", "_law_found"] "_law_kinds_of" (defScope sLKindsOf) f cdv A outer s H E) (E := E) rfl rfl rfl rfl
    have hp := passes_of (X := cxOf (L2.CX P w) P w K mg base ["_law_e", "_law_found"] "_law_kinds_of" (defScope sLKindsOf) f cdv A outer s H E) rfl
    refine ⟨_, (ss_cons (s_set 1 scLKindsOf.nd (q_lst (a_cons (q_isX (K := K) rfl (qv 0) (pe_glob (v := .ref _) (by rfl) n_InvalidNumber rfl) (fun _ r => r) (by rfl) Z.z_isinstance) (a_cons (q_isX (K := K) rfl (qv 0) (pe_glob (v := .ref _) (by rfl) n_InvalidRatio rfl) (fun _ r => r) (by rfl) Z.z_isinstance) (a_cons (q_isX (K := K) rfl (qv 0) (pe_glob (v := .ref _) (by rfl) n_InvalidPoint rfl) (fun _ r => r) (by rfl) Z.z_isinstance) (a_cons (q_isX (K := K) rfl (qv 0) (pe_glob (v := .ref _) (by rfl) n_InvalidTerm rfl) (fun _ r => r) (by rfl) Z.z_isinstance) (a_cons (q_isX (K := K) rfl (qv 0) (pe_glob (v := .ref _) (by rfl) n_InvalidLetter rfl) (fun _ r => r) (by rfl) Z.z_isinstance) (a_cons (q_isX (K := K) rfl (qv 0) (pe_glob (v := .ref _) (by rfl) n_ZeroDivisor rfl) (fun _ r => r) (by rfl) Z.z_isinstance) (a_cons (q_isX (K := K) rfl (qv 0) (pe_glob (v := .ref _) (by rfl) n_ZeroPolynomial rfl) (fun _ r => r) (by rfl) Z.z_isinstance) (a_cons (q_isX (K := K) rfl (qv 0) (pe_glob (v := .ref _) (by rfl) n_NotDivisible rfl) (fun _ r => r) (by rfl) Z.z_isinstance) a_nil))))))))))
  (ss_cons (s_set 1 scLKindsOf.nd (q_op oq_add (qv 1) (q_lst (a_cons (q_isX (K := K) rfl (qv 0) (pe_glob (v := .ref _) (by rfl) n_NoRoot rfl) (fun _ r => r) (by rfl) Z.z_isinstance) (a_cons (q_isX (K := K) rfl (qv 0) (pe_glob (v := .ref _) (by rfl) n_NoPlace rfl) (fun _ r => r) (by rfl) Z.z_isinstance) (a_cons (q_isX (K := K) rfl (qv 0) (pe_glob (v := .ref _) (by rfl) n_OutOfBox rfl) (fun _ r => r) (by rfl) Z.z_isinstance) (a_cons (q_isX (K := K) rfl (qv 0) (pe_glob (v := .ref _) (by rfl) n_NoValue rfl) (fun _ r => r) (by rfl) Z.z_isinstance) (a_cons (q_isX (K := K) rfl (qv 0) (pe_glob (v := .ref _) (by rfl) n_InvalidName rfl) (fun _ r => r) (by rfl) Z.z_isinstance) (a_cons (q_isX (K := K) rfl (qv 0) (pe_glob (v := .ref _) (by rfl) n_InvalidProgram rfl) (fun _ r => r) (by rfl) Z.z_isinstance) (a_cons (q_isX (K := K) rfl (qv 0) (pe_glob (v := .ref _) (by rfl) n_InvalidText rfl) (fun _ r => r) (by rfl) Z.z_isinstance) a_nil))))))))))
  (ss_cons (s_set 1 scLKindsOf.nd (q_op oq_add (qv 1) (q_lst (a_cons (q_isX (K := K) rfl (qv 0) (pe_glob (v := .ref _) (by rfl) n_DuplicateName rfl) (fun _ r => r) (by rfl) Z.z_isinstance) (a_cons (q_isX (K := K) rfl (qv 0) (pe_glob (v := .ref _) (by rfl) n_Full rfl) (fun _ r => r) (by rfl) Z.z_isinstance) (a_cons (q_isX (K := K) rfl (qv 0) (pe_glob (v := .ref _) (by rfl) n_InUse rfl) (fun _ r => r) (by rfl) Z.z_isinstance) (a_cons (q_isX (K := K) rfl (qv 0) (pe_glob (v := .ref _) (by rfl) n_InvalidCommand rfl) (fun _ r => r) (by rfl) Z.z_isinstance) (a_cons (q_isX (K := K) rfl (qv 0) (pe_glob (v := .ref _) (by rfl) n_InvalidLimit rfl) (fun _ r => r) (by rfl) Z.z_isinstance) (a_cons (q_isX (K := K) rfl (qv 0) (pe_glob (v := .ref _) (by rfl) n_InvalidPage rfl) (fun _ r => r) (by rfl) Z.z_isinstance) a_nil)))))))))
  (ss_one (s_ret (q_op oq_add (qv 1) (q_lst (a_cons (q_isX (K := K) rfl (qv 0) (pe_glob (v := .ref _) (by rfl) n_UnknownName rfl) (fun _ r => r) (by rfl) Z.z_isinstance) (a_cons (q_isX (K := K) rfl (qv 0) (pe_glob (v := .ref _) (by rfl) n_NothingLeft rfl) (fun _ r => r) (by rfl) Z.z_isinstance) a_nil))))))))), ?_⟩
    clear tk hp
    rintro ds L k x ⟨C, ns, vs, b, rfl, hx, hk, h⟩
    walk_at "w"
    repeat (first | (refine ⟨sz_ok rfl, ?_⟩; walk_at "w") | (refine ⟨_, hx, hk _ (by decide), ?_⟩; walk_at "w"))
    exact h
  · rintro ds L k x ⟨C, ns, vs, b, rfl, _⟩; rfl
theorem scLCodes : FnScope ["_law_found"] [] (defScope sLCodes) := ⟨rfl, rfl, rfl, by decide +kernel, rfl, by decide +kernel, by decide +kernel⟩
theorem ok_LCodes {f : Addr} {fd : FuncData} (Z : Zn mg) (F : Fun K "_law_codes" "_law_codes" sLCodes f fd) : FnOk P w K mg base (L2.CX P w) 1 f fd [] (spD K codesS) := by
  refine fn_ok F scLCodes ?len (fun cdv A outer s H E hr => ?_)
  rotate_left
  · have tk := takes_of (X := cxOf (L2.CX P w) P w K mg base ["_law_found"] "_law_codes" (defScope sLCodes) f cdv A outer s H E) (E := E) rfl rfl rfl rfl
    have hp := passes_of (X := cxOf (L2.CX P w) P w K mg base ["_law_found"] "_law_codes" (defScope sLCodes) f cdv A outer s H E) rfl
    refine ⟨_, (ss_cons (s_set 0 scLCodes.nd (q_lst (a_cons q_str (a_cons q_str (a_cons q_str (a_cons q_str (a_cons q_str (a_cons q_str a_nil))))))))
  (ss_cons (s_set 0 scLCodes.nd (q_op oq_add (qv 0) (q_lst (a_cons q_str (a_cons q_str (a_cons q_str (a_cons q_str (a_cons q_str (a_cons q_str (a_cons q_str a_nil))))))))))
  (ss_cons (s_set 0 scLCodes.nd (q_op oq_add (qv 0) (q_lst (a_cons q_str (a_cons q_str (a_cons q_str (a_cons q_str (a_cons q_str (a_cons q_str a_nil)))))))))
  (ss_one (s_ret (q_op oq_add (qv 0) (q_lst (a_cons q_str (a_cons q_str (a_cons q_str (a_cons q_str a_nil))))))))))), ?_⟩
    clear tk hp
    rintro ds L k x ⟨rfl, h⟩
    walk_at "w"
    repeat (refine ⟨sz_ok rfl, ?_⟩; walk_at "w")
    exact h
  · rintro ds L k x ⟨rfl, _⟩; rfl
theorem scLMade : FnScope ["_law_one", "_law_found"] ["_law_one"] (defScope sLMade) := ⟨rfl, rfl, rfl, by decide +kernel, rfl, by decide +kernel, by decide +kernel⟩
theorem ok_LMade {f : Addr} {fd : FuncData} (Z : Zn mg) (F : Fun K "_law_made" "_law_made" sLMade f fd) {c : Nat → Addr} (G_InvalidNumber : GCls P w K mg base "InvalidNumber" (c 0) ["self", "given"] (spI1 (c 0) "InvalidNumber" "given")) (G_InvalidRatio : GCls P w K mg base "InvalidRatio" (c 1) ["self", "given"] (spI1 (c 1) "InvalidRatio" "given")) (G_InvalidPoint : GCls P w K mg base "InvalidPoint" (c 2) ["self", "given"] (spI1 (c 2) "InvalidPoint" "given")) (G_InvalidTerm : GCls P w K mg base "InvalidTerm" (c 3) ["self", "at"] (spI1 (c 3) "InvalidTerm" "at")) (G_InvalidLetter : GCls P w K mg base "InvalidLetter" (c 4) ["self", "given"] (spI1 (c 4) "InvalidLetter" "given")) (G_ZeroDivisor : GCls P w K mg base "ZeroDivisor" (c 5) ["self"] (spI0 (c 5) "ZeroDivisor")) (G_ZeroPolynomial : GCls P w K mg base "ZeroPolynomial" (c 6) ["self"] (spI0 (c 6) "ZeroPolynomial")) (G_NotDivisible : GCls P w K mg base "NotDivisible" (c 7) ["self"] (spI0 (c 7) "NotDivisible")) (G_NoRoot : GCls P w K mg base "NoRoot" (c 8) ["self", "index"] (spI1 (c 8) "NoRoot" "index")) (G_NoPlace : GCls P w K mg base "NoPlace" (c 9) ["self", "given"] (spI1 (c 9) "NoPlace" "given")) (G_OutOfBox : GCls P w K mg base "OutOfBox" (c 10) ["self", "given"] (spI1 (c 10) "OutOfBox" "given")) (G_NoValue : GCls P w K mg base "NoValue" (c 11) ["self"] (spI0 (c 11) "NoValue")) (G_InvalidName : GCls P w K mg base "InvalidName" (c 12) ["self", "name"] (spI1 (c 12) "InvalidName" "name")) (G_InvalidProgram : GCls P w K mg base "InvalidProgram" (c 13) ["self", "at"] (spI1 (c 13) "InvalidProgram" "at")) (G_InvalidText : GCls P w K mg base "InvalidText" (c 14) ["self", "line"] (spI1 (c 14) "InvalidText" "line")) (G_DuplicateName : GCls P w K mg base "DuplicateName" (c 15) ["self", "name"] (spI1 (c 15) "DuplicateName" "name")) (G_Full : GCls P w K mg base "Full" (c 16) ["self", "limit"] (spI1 (c 16) "Full" "limit")) (G_InUse : GCls P w K mg base "InUse" (c 17) ["self", "user"] (spI1 (c 17) "InUse" "user")) (G_InvalidCommand : GCls P w K mg base "InvalidCommand" (c 18) ["self", "at"] (spI1 (c 18) "InvalidCommand" "at")) (G_InvalidLimit : GCls P w K mg base "InvalidLimit" (c 19) ["self", "given"] (spI1 (c 19) "InvalidLimit" "given")) (G_InvalidPage : GCls P w K mg base "InvalidPage" (c 20) ["self", "line"] (spI1 (c 20) "InvalidPage" "line")) (G_UnknownName : GCls P w K mg base "UnknownName" (c 21) ["self", "name"] (spI1 (c 21) "UnknownName" "name")) (G_NothingLeft : GCls P w K mg base "NothingLeft" (c 22) ["self"] (spI0 (c 22) "NothingLeft")) : FnOk P w K mg base (L2.CX P w) 3 f fd ["_law_one"] (spD K (madeS c)) := by
  refine fn_ok F scLMade ?len (fun cdv A outer s H E hr => ?_)
  rotate_left
  · have tk := takes_of (X := cxOf (L2.CX P w) P w K mg base ["_law_one", "_law_found"] "_law_made" (defScope sLMade) f cdv A outer s H E) (E := E) rfl rfl rfl rfl
    have hp := passes_of (X := cxOf (L2.CX P w) P w K mg base ["_law_one", "_law_found"] "_law_made" (defScope sLMade) f cdv A outer s H E) rfl
    refine ⟨_, (ss_cons (s_set 1 scLMade.nd (q_lst (a_cons (q_err1 G_InvalidNumber hr (by decide) (by rfl) (a_cons (qv 0) a_nil)) (a_cons (q_err1 G_InvalidRatio hr (by decide) (by rfl) (a_cons (qv 0) a_nil)) (a_cons (q_err1 G_InvalidPoint hr (by decide) (by rfl) (a_cons (qv 0) a_nil)) (a_cons (q_err1 G_InvalidTerm hr (by decide) (by rfl) (a_cons (qv 0) a_nil)) (a_cons (q_err1 G_InvalidLetter hr (by decide) (by rfl) (a_cons (qv 0) a_nil)) a_nil)))))))
  (ss_cons (s_set 1 scLMade.nd (q_op oq_add (qv 1) (q_lst (a_cons (q_err0 G_ZeroDivisor hr (by decide) (by rfl)) (a_cons (q_err0 G_ZeroPolynomial hr (by decide) (by rfl)) (a_cons (q_err0 G_NotDivisible hr (by decide) (by rfl)) (a_cons (q_err1 G_NoRoot hr (by decide) (by rfl) (a_cons (qv 0) a_nil)) (a_cons (q_err1 G_NoPlace hr (by decide) (by rfl) (a_cons (qv 0) a_nil)) (a_cons (q_err1 G_OutOfBox hr (by decide) (by rfl) (a_cons (qv 0) a_nil)) a_nil)))))))))
  (ss_cons (s_set 1 scLMade.nd (q_op oq_add (qv 1) (q_lst (a_cons (q_err0 G_NoValue hr (by decide) (by rfl)) (a_cons (q_err1 G_InvalidName hr (by decide) (by rfl) (a_cons (qv 0) a_nil)) (a_cons (q_err1 G_InvalidProgram hr (by decide) (by rfl) (a_cons (qv 0) a_nil)) (a_cons (q_err1 G_InvalidText hr (by decide) (by rfl) (a_cons (qv 0) a_nil)) (a_cons (q_err1 G_DuplicateName hr (by decide) (by rfl) (a_cons (qv 0) a_nil)) a_nil))))))))
  (ss_cons (s_set 1 scLMade.nd (q_op oq_add (qv 1) (q_lst (a_cons (q_err1 G_Full hr (by decide) (by rfl) (a_cons (qv 0) a_nil)) (a_cons (q_err1 G_InUse hr (by decide) (by rfl) (a_cons (qv 0) a_nil)) (a_cons (q_err1 G_InvalidCommand hr (by decide) (by rfl) (a_cons (qv 0) a_nil)) (a_cons (q_err1 G_InvalidLimit hr (by decide) (by rfl) (a_cons (qv 0) a_nil)) (a_cons (q_err1 G_InvalidPage hr (by decide) (by rfl) (a_cons (qv 0) a_nil)) a_nil))))))))
  (ss_one (s_ret (q_op oq_add (qv 1) (q_lst (a_cons (q_err1 G_UnknownName hr (by decide) (by rfl) (a_cons (qv 0) a_nil)) (a_cons (q_err0 G_NothingLeft hr (by decide) (by rfl)) a_nil)))))))))), ?_⟩
    clear tk hp
    rintro ds L k x ⟨v, rfl, h⟩
    walk_at "w"
    repeat (refine ⟨sz_ok rfl, ?_⟩; walk_at "w")
    exact h
  · rintro ds L k x ⟨v, rfl, _⟩; rfl
theorem scLNamed : FnScope ["_law_one", "_law_found"] ["_law_one"] (defScope sLNamed) := ⟨rfl, rfl, rfl, by decide +kernel, rfl, by decide +kernel, by decide +kernel⟩
theorem ok_LNamed {f : Addr} {fd : FuncData} (Z : Zn mg) (F : Fun K "_law_named" "_law_named" sLNamed f fd) {c : Nat → Addr} (G_InvalidNumber : GCls P w K mg base "InvalidNumber" (c 0) ["self", "given"] (spI1 (c 0) "InvalidNumber" "given")) (G_InvalidRatio : GCls P w K mg base "InvalidRatio" (c 1) ["self", "given"] (spI1 (c 1) "InvalidRatio" "given")) (G_InvalidPoint : GCls P w K mg base "InvalidPoint" (c 2) ["self", "given"] (spI1 (c 2) "InvalidPoint" "given")) (G_InvalidTerm : GCls P w K mg base "InvalidTerm" (c 3) ["self", "at"] (spI1 (c 3) "InvalidTerm" "at")) (G_InvalidLetter : GCls P w K mg base "InvalidLetter" (c 4) ["self", "given"] (spI1 (c 4) "InvalidLetter" "given")) (G_ZeroDivisor : GCls P w K mg base "ZeroDivisor" (c 5) ["self"] (spI0 (c 5) "ZeroDivisor")) (G_ZeroPolynomial : GCls P w K mg base "ZeroPolynomial" (c 6) ["self"] (spI0 (c 6) "ZeroPolynomial")) (G_NotDivisible : GCls P w K mg base "NotDivisible" (c 7) ["self"] (spI0 (c 7) "NotDivisible")) (G_NoRoot : GCls P w K mg base "NoRoot" (c 8) ["self", "index"] (spI1 (c 8) "NoRoot" "index")) (G_NoPlace : GCls P w K mg base "NoPlace" (c 9) ["self", "given"] (spI1 (c 9) "NoPlace" "given")) (G_OutOfBox : GCls P w K mg base "OutOfBox" (c 10) ["self", "given"] (spI1 (c 10) "OutOfBox" "given")) (G_NoValue : GCls P w K mg base "NoValue" (c 11) ["self"] (spI0 (c 11) "NoValue")) (G_InvalidName : GCls P w K mg base "InvalidName" (c 12) ["self", "name"] (spI1 (c 12) "InvalidName" "name")) (G_InvalidProgram : GCls P w K mg base "InvalidProgram" (c 13) ["self", "at"] (spI1 (c 13) "InvalidProgram" "at")) (G_InvalidText : GCls P w K mg base "InvalidText" (c 14) ["self", "line"] (spI1 (c 14) "InvalidText" "line")) (G_DuplicateName : GCls P w K mg base "DuplicateName" (c 15) ["self", "name"] (spI1 (c 15) "DuplicateName" "name")) (G_Full : GCls P w K mg base "Full" (c 16) ["self", "limit"] (spI1 (c 16) "Full" "limit")) (G_InUse : GCls P w K mg base "InUse" (c 17) ["self", "user"] (spI1 (c 17) "InUse" "user")) (G_InvalidCommand : GCls P w K mg base "InvalidCommand" (c 18) ["self", "at"] (spI1 (c 18) "InvalidCommand" "at")) (G_InvalidLimit : GCls P w K mg base "InvalidLimit" (c 19) ["self", "given"] (spI1 (c 19) "InvalidLimit" "given")) (G_InvalidPage : GCls P w K mg base "InvalidPage" (c 20) ["self", "line"] (spI1 (c 20) "InvalidPage" "line")) (G_UnknownName : GCls P w K mg base "UnknownName" (c 21) ["self", "name"] (spI1 (c 21) "UnknownName" "name")) (G_NothingLeft : GCls P w K mg base "NothingLeft" (c 22) ["self"] (spI0 (c 22) "NothingLeft")) : FnOk P w K mg base (L2.CX P w) 3 f fd ["_law_one"] (spD K (madeS c)) := by
  refine fn_ok F scLNamed ?len (fun cdv A outer s H E hr => ?_)
  rotate_left
  · have tk := takes_of (X := cxOf (L2.CX P w) P w K mg base ["_law_one", "_law_found"] "_law_named" (defScope sLNamed) f cdv A outer s H E) (E := E) rfl rfl rfl rfl
    have hp := passes_of (X := cxOf (L2.CX P w) P w K mg base ["_law_one", "_law_found"] "_law_named" (defScope sLNamed) f cdv A outer s H E) rfl
    refine ⟨_, (ss_cons (s_set 1 scLNamed.nd (q_lst (a_cons (q_errK G_InvalidNumber hr (by decide) (by rfl) (k_cons (qv 0) k_nil)) (a_cons (q_errK G_InvalidRatio hr (by decide) (by rfl) (k_cons (qv 0) k_nil)) (a_cons (q_errK G_InvalidPoint hr (by decide) (by rfl) (k_cons (qv 0) k_nil)) (a_cons (q_errK G_InvalidTerm hr (by decide) (by rfl) (k_cons (qv 0) k_nil)) a_nil))))))
  (ss_cons (s_set 1 scLNamed.nd (q_op oq_add (qv 1) (q_lst (a_cons (q_errK G_InvalidLetter hr (by decide) (by rfl) (k_cons (qv 0) k_nil)) (a_cons (q_err0 G_ZeroDivisor hr (by decide) (by rfl)) (a_cons (q_err0 G_ZeroPolynomial hr (by decide) (by rfl)) (a_cons (q_err0 G_NotDivisible hr (by decide) (by rfl)) (a_cons (q_errK G_NoRoot hr (by decide) (by rfl) (k_cons (qv 0) k_nil)) a_nil))))))))
  (ss_cons (s_set 1 scLNamed.nd (q_op oq_add (qv 1) (q_lst (a_cons (q_errK G_NoPlace hr (by decide) (by rfl) (k_cons (qv 0) k_nil)) (a_cons (q_errK G_OutOfBox hr (by decide) (by rfl) (k_cons (qv 0) k_nil)) (a_cons (q_err0 G_NoValue hr (by decide) (by rfl)) (a_cons (q_errK G_InvalidName hr (by decide) (by rfl) (k_cons (qv 0) k_nil)) a_nil)))))))
  (ss_cons (s_set 1 scLNamed.nd (q_op oq_add (qv 1) (q_lst (a_cons (q_errK G_InvalidProgram hr (by decide) (by rfl) (k_cons (qv 0) k_nil)) (a_cons (q_errK G_InvalidText hr (by decide) (by rfl) (k_cons (qv 0) k_nil)) (a_cons (q_errK G_DuplicateName hr (by decide) (by rfl) (k_cons (qv 0) k_nil)) (a_cons (q_errK G_Full hr (by decide) (by rfl) (k_cons (qv 0) k_nil)) a_nil)))))))
  (ss_cons (s_set 1 scLNamed.nd (q_op oq_add (qv 1) (q_lst (a_cons (q_errK G_InUse hr (by decide) (by rfl) (k_cons (qv 0) k_nil)) (a_cons (q_errK G_InvalidCommand hr (by decide) (by rfl) (k_cons (qv 0) k_nil)) (a_cons (q_errK G_InvalidLimit hr (by decide) (by rfl) (k_cons (qv 0) k_nil)) (a_cons (q_errK G_InvalidPage hr (by decide) (by rfl) (k_cons (qv 0) k_nil)) a_nil)))))))
  (ss_one (s_ret (q_op oq_add (qv 1) (q_lst (a_cons (q_errK G_UnknownName hr (by decide) (by rfl) (k_cons (qv 0) k_nil)) (a_cons (q_err0 G_NothingLeft hr (by decide) (by rfl)) a_nil))))))))))), ?_⟩
    clear tk hp
    rintro ds L k x ⟨v, rfl, h⟩
    walk_at "w"
    repeat (refine ⟨sz_ok rfl, ?_⟩; walk_at "w")
    exact h
  · rintro ds L k x ⟨v, rfl, _⟩; rfl
theorem scLBag : FnScope ["_law_script", "_law_mixed", "_law_cell"] ["_law_script"] (defScope sLBag) := ⟨rfl, rfl, rfl, by decide +kernel, rfl, by decide +kernel, by decide +kernel⟩
theorem ok_LBag {f : Addr} {fd : FuncData} (Z : Zn mg) (F : Fun K "_law_bag" "_law_bag" sLBag f fd) : FnOk P w K mg base (L2.CX P w) 1 f fd ["_law_script"] (spD K bagS) := by
  refine fn_ok F scLBag ?len (fun cdv A outer s H E hr => ?_)
  rotate_left
  · have tk := takes_of (X := cxOf (L2.CX P w) P w K mg base ["_law_script", "_law_mixed", "_law_cell"] "_law_bag" (defScope sLBag) f cdv A outer s H E) (E := E) rfl rfl rfl rfl
    have hp := passes_of (X := cxOf (L2.CX P w) P w K mg base ["_law_script", "_law_mixed", "_law_cell"] "_law_bag" (defScope sLBag) f cdv A outer s H E) rfl
    refine ⟨_, (ss_cons (s_set 1 scLBag.nd q_int)
  (ss_cons (s_for hp rfl (i_list (q_slice (qv 0) o_none (o_some q_int))) (g_name 2 scLBag.nd) (ss_one (s_set 1 scLBag.nd (q_op oq_mod (q_callTy cq_int (by rfl) Z.z_int bb_int (a_cons (q_op oq_add (q_op oq_add (q_op oq_mulU (qv 1) q_int) (q_op oq_mod (q_callTy cq_int (by rfl) Z.z_int bb_int (a_cons (qv 2) a_nil)) q_int)) q_int) a_nil)) q_int))))
  (ss_one (s_ret (q_lstM (a_cons (q_callTy cq_list (by rfl) Z.z_list bb_list (a_cons (q_slice (qv 0) o_none (o_some q_int)) a_nil)) (a_cons q_int (a_cons q_int (a_cons (qv 1) (a_cons q_int a_nil)))))))))), ?_⟩
    clear tk hp
    rintro ds L k x ⟨ns, rfl, h⟩
    obtain ⟨ms, e⟩ : ∃ ms : List Int, cutD (ns.map .int) none (some 63) = ms.map .int := ⟨(ns.drop (HT.sIx (ns.map D.int).length 0 none)).take (HT.sIx (ns.map D.int).length (ns.map D.int).length (some 63) - HT.sIx (ns.map D.int).length 0 none), by unfold cutD; rw [List.map_take, List.map_drop]⟩
    have key : ∀ (En : DEnds) (db : DS), (∀ (m : Int) (o : Option D), 0 ≤ m → m < 2147483497 → En.nx [some (.ro (ns.map .int)), some (.int m), o] L) →
        (∀ (E' : DEnds) (m v : Int), (∀ m' : Int, 0 ≤ m' → m' < 2147483497 → E'.nx [some (.ro (ns.map .int)), some (.int m'), some (.int v)] L) → db E' [some (.ro (ns.map .int)), some (.int m), some (.int v)] L) →
        ∀ (ms : List Int) (m : Int) (o : Option D), 0 ≤ m → m < 2147483497 → forD (dgName 2) db En (ms.map .int) [some (.ro (ns.map .int)), some (.int m), o] L := by
      intro En db hn hb ms
      induction ms with
      | nil => intro m o h0 h1; rw [List.map_nil, forD_nil]; exact hn m o h0 h1
      | cons v r ih => intro m o h0 h1; rw [List.map_cons, forD_cons]; exact hb _ m v fun m' q0 q1 => ih m' (some (.int v)) q0 q1
    walk_at "w"
    rw [e]
    refine key _ _ (fun m o h0 h1 => ?_) (fun E' m v hn => ?_) ms 12019 none (by decide) (by decide)
    · walk_at "w"
      rw [e]
      refine ⟨(by show 5 ≤ sizeLine; decide), fun p hp => ?_⟩
      exact h p ⟨ms, 0, 0, m, 0⟩ hp ⟨Int.le_refl 0, Int.natCast_nonneg _, Int.le_refl 0, h0, h1⟩
    · walk_at "w"
      refine ⟨.inl (.inr (by decide)), ?_⟩
      walk_at "w"
      refine ⟨(by show (2147483423 : Int) ≠ 0; decide), ?_⟩
      walk_at "w"
      refine ⟨(by show (2147483497 : Int) ≠ 0; decide), ?_⟩
      refine hn _ ?_ ?_
      · rw [Int.fmod_eq_emod_of_nonneg _ (by decide)]; exact Int.emod_nonneg _ (by decide)
      · rw [Int.fmod_eq_emod_of_nonneg _ (by decide)]; exact Int.emod_lt_of_pos _ (by decide)
  · rintro ds L k x ⟨ns, rfl, _⟩; rfl
theorem scLPull : FnScope ["_law_bag_here", "_law_many", "_law_cell", "_law_digit", "_law_seed"] ["_law_bag_here", "_law_many"] (defScope sLPull) := ⟨rfl, rfl, rfl, by decide +kernel, rfl, by decide +kernel, by decide +kernel⟩
theorem ok_LPull {f : Addr} {fd : FuncData} (Z : Zn mg) (F : Fun K "_law_pull" "_law_pull" sLPull f fd) : FnOk P w K mg base (L2.CX P w) 1 f fd ["_law_bag_here", "_law_many"] (spD K pullS) := by
  refine fn_ok F scLPull ?len (fun cdv A outer s H E hr => ?_)
  rotate_left
  · have tk := takes_of (X := cxOf (L2.CX P w) P w K mg base ["_law_bag_here", "_law_many", "_law_cell", "_law_digit", "_law_seed"] "_law_pull" (defScope sLPull) f cdv A outer s H E) (E := E) rfl rfl rfl rfl
    have hp := passes_of (X := cxOf (L2.CX P w) P w K mg base ["_law_bag_here", "_law_many", "_law_cell", "_law_digit", "_law_seed"] "_law_pull" (defScope sLPull) f cdv A outer s H E) rfl
    refine ⟨_, (ss_cons (s_store (q_op oq_add (q_ix (qv 0) q_int) q_int) (qv 0) q_int)
  (ss_cut (s_if (w_and (t_cmp (oq_eqU hr.units) (q_ix (qv 0) q_int) q_int) (w_and1 (t_cmp oq_lt (q_ix (qv 0) q_int) (q_callB cq_len (by rfl) Z.z_len bb_len (a_cons (q_ix (qv 0) q_int) a_nil))))).t (ss_cons (s_set 2 scLPull.nd (q_ix (q_ix (qv 0) q_int) (q_ix (qv 0) q_int)))
  (ss_cons (s_store (q_op oq_add (q_ix (qv 0) q_int) q_int) (qv 0) q_int)
  (ss_one (s_if (t_cmp oq_ge (qv 2) (q_op oq_pow q_int q_int)) (ss_one (s_store (qv 2) (qv 0) q_int)) (ss_one (s_store (q_op oq_mod (q_callTy cq_int (by rfl) Z.z_int bb_int (a_cons (q_op oq_add (q_op oq_add (q_op oq_mulU (q_ix (qv 0) q_int) q_int) (q_op oq_mulU (q_op oq_mod (q_callTy cq_int (by rfl) Z.z_int bb_int (a_cons (qv 2) a_nil)) q_int) q_int)) q_int) a_nil)) q_int) (qv 0) q_int)))))) ss_nil)
  (ss_cons (s_if (t_cmp oq_gt (q_ix (qv 0) q_int) q_int) (ss_cons (s_set 3 scLPull.nd (q_op oq_mod (q_callTy cq_int (by rfl) Z.z_int bb_int (a_cons (q_ix (qv 0) q_int) a_nil)) (qv 1)))
  (ss_cons (s_store (q_op oq_fdiv (q_ix (qv 0) q_int) (qv 1)) (qv 0) q_int)
  (ss_one (s_ret (qv 3))))) ss_nil)
  (ss_cons (s_set 4 scLPull.nd (q_callTy cq_int (by rfl) Z.z_int bb_int (a_cons (q_ix (qv 0) q_int) a_nil)))
  (ss_cons (s_store (q_op oq_mod (q_callTy cq_int (by rfl) Z.z_int bb_int (a_cons (q_op oq_add (q_op oq_add (q_op oq_add (q_op oq_pow (qv 4) q_int) (q_op oq_mulU (qv 4) q_int)) (q_op oq_mulU (q_ix (qv 0) q_int) q_int)) q_int) a_nil)) q_int) (qv 0) q_int)
  (ss_one (s_ret (q_op oq_mod (q_callTy cq_int (by rfl) Z.z_int bb_int (a_cons (q_op oq_add (q_op oq_fdiv (q_ix (qv 0) q_int) q_int) (q_op oq_mulU (q_op oq_mod (q_callTy cq_int (by rfl) Z.z_int bb_int (a_cons (q_ix (qv 0) q_int) a_nil)) q_int) q_int)) a_nil)) (qv 1))))))))), ?_⟩
    clear tk hp
    rintro ds L k x ⟨p, b, m, rfl, hl, ok, m0, m1, h⟩
    obtain ⟨cs, at_, rest, mix, cnt⟩ := b
    have k1 : ∀ d, (setL L p d).lookup p = some d := fun d => lookup_setL hl
    walk_at "w"
    rw [con_ptr hl]
    walk_at "w"
    rw [hl]
    walk_at "w"
    refine ⟨fun env' L' => ∃ (b' : Bag) (o : Option D), BagOk b' ∧ env' = [some (.ptr p), some (.int m), o, none, none] ∧ L' = setL L p (bagC b'), ?_, ?_⟩
    · have st : ∀ (L' : Led) (b' : Bag) (o : Option D), BagOk b' → L' = setL L p (bagC b') → ∃ (b'' : Bag) (o' : Option D), BagOk b'' ∧ [some (D.ptr p), some (D.int m), o, none, none] = [some (.ptr p), some (.int m), o', none, none] ∧ L' = setL L p (bagC b'') := fun L' b' o z e => ⟨b', o, z, rfl, e⟩
      walk_at "w"
      rw [con_ptr (k1 _)]
      walk_at "w"
      try dsimp only
      cases h2 : flEq (D.int rest) (D.int 0) with
      | false => exact st _ ⟨cs, at_, rest, mix, cnt + 1⟩ none ⟨ok.a0, ok.a1, ok.r0, ok.m0, ok.m1⟩ rfl
      | true =>
        walk_at "w"
        rw [con_ptr (k1 _)]
        walk_at "w"
        rw [con_ptr (k1 _)]
        walk_at "w"
        try dsimp only
        cases h3 : decide (at_ < ((cs.map D.int).length : Int)) with
        | false => exact st _ ⟨cs, at_, rest, mix, cnt + 1⟩ none ⟨ok.a0, ok.a1, ok.r0, ok.m0, ok.m1⟩ rfl
        | true =>
          have h3 := of_decide_eq_true h3
          rw [List.length_map] at h3
          have a0 : 0 ≤ at_ := ok.a0
          obtain ⟨n, rfl⟩ := Int.eq_ofNat_of_zero_le a0
          have hn : n < cs.length := by omega
          have hat : atI (cs.map D.int) (n : Int) = some (.int cs[n]) := atI_nat (by rw [List.getElem?_map, List.getElem?_eq_getElem hn]; rfl)
          walk_at "w"
          rw [con_ptr (k1 _)]
          walk_at "w"
          rw [con_ptr (k1 _)]
          walk_at "w"
          rw [show atI (List.map D.int (Bag.mk cs (n : Int) rest mix cnt).cells) (Bag.mk cs (n : Int) rest mix cnt).at_ = some (D.int cs[n]) from hat]
          walk_at "w"
          rw [con_ptr (k1 _)]
          walk_at "w"
          rw [k1]
          walk_at "w"
          rw [setL_setL]
          walk_at "w"
          refine ⟨⟨by decide, by decide, by decide⟩, ?_⟩
          walk_at "w"
          cases h4 : decide ((10 : Int) ^ (Int.toNat 18) ≤ cs[n]) with
          | true =>
            have h4 := of_decide_eq_true h4
            walk_at "w"
            rw [k1]
            walk_at "w"
            rw [setL_setL]
            refine st _ ⟨cs, n + 1, cs[n], mix, cnt + 1⟩ _ ⟨?_, ?_, ?_, ok.m0, ok.m1⟩ rfl
            · show (0 : Int) ≤ n + 1; omega
            · show (n : Int) + 1 ≤ cs.length; omega
            · show 0 ≤ cs[n]
              have : (0 : Int) ≤ 10 ^ (Int.toNat 18) := by decide +kernel
              omega
          | false =>
            walk_at "w"
            rw [con_ptr (k1 _)]
            walk_at "w"
            refine ⟨.inl (.inr (by decide)), ?_⟩
            walk_at "w"
            refine ⟨(by show (2147483423 : Int) ≠ 0; decide), ?_⟩
            walk_at "w"
            refine ⟨.inl (.inr (by decide)), ?_⟩
            walk_at "w"
            refine ⟨(by show (2147483489 : Int) ≠ 0; decide), ?_⟩
            walk_at "w"
            rw [k1]
            walk_at "w"
            rw [setL_setL]
            refine st _ ⟨cs, n + 1, rest, (mix * 39317 + cs[n].fmod 2147483423 * 691 + 43).fmod 2147483489, cnt + 1⟩ _ ⟨?_, ?_, ok.r0, ?_, ?_⟩ rfl
            · show (0 : Int) ≤ n + 1; omega
            · show (n : Int) + 1 ≤ cs.length; omega
            · show (0 : Int) ≤ Int.fmod _ _
              rw [Int.fmod_eq_emod_of_nonneg _ (by decide)]; exact Int.emod_nonneg _ (by decide)
            · show Int.fmod _ _ < (2147483497 : Int)
              rw [Int.fmod_eq_emod_of_nonneg _ (by decide)]
              have := Int.emod_lt_of_pos (mix * 39317 + cs[n].fmod 2147483423 * 691 + 43) (show (0 : Int) < 2147483489 by decide)
              omega
    · rintro env' L' ⟨⟨cs, at_, rest, mix, cnt⟩, o, ok', rfl, rfl⟩
      have r0 : 0 ≤ rest := ok'.r0
      have fm : ∀ z : Int, 0 ≤ z.fmod m ∧ z.fmod m < m := fun z => by
        rw [Int.fmod_eq_emod_of_nonneg _ (Int.le_of_lt m0)]
        exact ⟨Int.emod_nonneg _ (by omega), Int.emod_lt_of_pos _ m0⟩
      walk_at "w"
      rw [con_ptr (k1 _)]
      walk_at "w"
      try dsimp only
      cases h2 : decide (0 < rest) with
      | true =>
        walk_at "w"
        rw [con_ptr (k1 _)]
        walk_at "w"
        refine ⟨(by show m ≠ 0; omega), ?_⟩
        walk_at "w"
        rw [con_ptr (k1 _)]
        walk_at "w"
        refine ⟨⟨(by omega), m1⟩, ?_⟩
        walk_at "w"
        rw [k1]
        walk_at "w"
        rw [setL_setL]
        refine h _ ⟨cs, at_, rest.fdiv m, mix, cnt⟩ (fm rest).1 (fm rest).2 ⟨ok'.a0, ok'.a1, ?_, ok'.m0, ok'.m1⟩
        exact Int.fdiv_nonneg r0 (Int.le_of_lt m0)
      | false =>
        walk_at "w"
        rw [con_ptr (k1 _)]
        walk_at "w"
        have hm0 : 0 ≤ mix := ok'.m0
        have hm1 : mix < 2147483497 := ok'.m1
        refine ⟨⟨by decide, by decide, (by show mix.natAbs < 2 ^ 64; omega)⟩, ?_⟩
        walk_at "w"
        refine ⟨.inl (.inr (by decide)), ?_⟩
        walk_at "w"
        rw [con_ptr (k1 _)]
        walk_at "w"
        refine ⟨.inl (.inr (by decide)), ?_⟩
        walk_at "w"
        refine ⟨(by show (2147483489 : Int) ≠ 0; decide), ?_⟩
        walk_at "w"
        rw [k1]
        walk_at "w"
        rw [setL_setL]
        rw [con_ptr (k1 _)]
        walk_at "w"
        refine ⟨⟨by decide, by decide +kernel⟩, ?_⟩
        walk_at "w"
        rw [con_ptr (k1 _)]
        walk_at "w"
        refine ⟨(by show (7919 : Int) ≠ 0; decide), ?_⟩
        walk_at "w"
        refine ⟨.inl (.inr (by decide)), ?_⟩
        walk_at "w"
        refine ⟨(by show m ≠ 0; omega), ?_⟩
        refine h _ ⟨cs, at_, rest, (mix ^ Int.toNat 3 + mix * 27073 + cnt * 1299827 + 70001).fmod 2147483489, cnt⟩ (fm _).1 (fm _).2 ⟨ok'.a0, ok'.a1, ok'.r0, ?_, ?_⟩
        · show (0 : Int) ≤ Int.fmod _ _
          rw [Int.fmod_eq_emod_of_nonneg _ (by decide)]; exact Int.emod_nonneg _ (by decide)
        · show Int.fmod _ _ < (2147483497 : Int)
          rw [Int.fmod_eq_emod_of_nonneg _ (by decide)]
          have := Int.emod_lt_of_pos (mix ^ Int.toNat 3 + mix * 27073 + cnt * 1299827 + 70001) (show (0 : Int) < 2147483489 by decide)
          omega
  · rintro ds L k x ⟨p, b, m, rfl, _⟩; rfl
theorem scLOf : FnScope ["_law_bag_here", "_law_some"] ["_law_bag_here", "_law_some"] (defScope sLOf) := ⟨rfl, rfl, rfl, by decide +kernel, rfl, by decide +kernel, by decide +kernel⟩
theorem ok_LOf {f : Addr} {fd : FuncData} (Z : Zn mg) (F : Fun K "_law_of" "_law_of" sLOf f fd) (CLPull : Cal P w K mg base 1 "_law_pull" ["_law_bag_here", "_law_many"] [] pullS) : FnOk P w K mg base (L2.CX P w) 2 f fd ["_law_bag_here", "_law_some"] (spD K ofS) := by
  refine fn_ok F scLOf ?len (fun cdv A outer s H E hr => ?_)
  rotate_left
  · have tk := takes_of (X := cxOf (L2.CX P w) P w K mg base ["_law_bag_here", "_law_some"] "_law_of" (defScope sLOf) f cdv A outer s H E) (E := E) rfl rfl rfl rfl
    have hp := passes_of (X := cxOf (L2.CX P w) P w K mg base ["_law_bag_here", "_law_some"] "_law_of" (defScope sLOf) f cdv A outer s H E) rfl
    refine ⟨_, (ss_one (s_ret (q_ix (qv 1) (q_cal CLPull (by first | decide | exact Nat.le_refl _) hr tk (by rfl) (a_cons (qv 0) (a_cons (q_callB cq_len (by rfl) Z.z_len bb_len (a_cons (qv 1) a_nil)) a_nil)))))), ?_⟩
    clear tk hp
    rintro ds L k x ⟨p, b, xs, rfl, hl, ok, x0, x1, h⟩
    walk_at "w"
    refine ⟨p, b, xs.length, rfl, hl, ok, by omega, ?_, fun r b' r0 r1 ok' => ?_⟩
    · have e : ((xs.length : Int)).natAbs = xs.length := Int.natAbs_natCast _
      rw [e]
      have : xs.length.log2 < 10 := by
        rw [Nat.log2_lt (by omega)]
        omega
      omega
    · obtain ⟨n, rfl⟩ := Int.eq_ofNat_of_zero_le r0
      have hn : n < xs.length := by omega
      have hat : atI xs (n : Int) = some xs[n] := atI_nat (List.getElem?_eq_getElem hn)
      walk_at "w"
      rw [show atI xs (n : Int) = some xs[n] from hat]
      exact h _ b' (List.getElem_mem hn) ok'
  · rintro ds L k x ⟨p, b, xs, rfl, _⟩; rfl
theorem scLSame : FnScope ["_law_found", "_law_due", "_law_one", "_law_two"] ["_law_found", "_law_due"] (defScope sLSame) := ⟨rfl, rfl, rfl, by decide +kernel, rfl, by decide +kernel, by decide +kernel⟩
theorem ok_LSame {f : Addr} {fd : FuncData} {n : Nat} (Z : Zn mg) (F : Fun K "_law_same" "_law_same" sLSame f fd) (CLSame : Cal P w K mg base n "_law_same" ["_law_found", "_law_due"] [] (sameS n)) : FnOk P w K mg base (L2.CX P w) (n + 1) f fd ["_law_found", "_law_due"] (spD K (sameS (n + 1))) := by
  refine fn_ok F scLSame ?len (fun cdv A outer s H E hr => ?_)
  rotate_left
  · have tk := takes_of (X := cxOf (L2.CX P w) P w K mg base ["_law_found", "_law_due", "_law_one", "_law_two"] "_law_same" (defScope sLSame) f cdv A outer s H E) (E := E) rfl rfl rfl rfl
    have hp := passes_of (X := cxOf (L2.CX P w) P w K mg base ["_law_found", "_law_due", "_law_one", "_law_two"] "_law_same" (defScope sLSame) f cdv A outer s H E) rfl
    refine ⟨_, (ss_cons (s_if (t_val (q_isi2 .lst .tup (qv 1) (by rfl) Z.z_isinstance (by rfl) Z.z_list bb_list (by rfl) Z.z_tuple bb_tuple)) (ss_cons (s_if (w_or (t_cmp (oq_neU hr.units) (q_isi .lst (qv 0) (by rfl) Z.z_isinstance (by rfl) Z.z_list bb_list) (q_isi .lst (qv 1) (by rfl) Z.z_isinstance (by rfl) Z.z_list bb_list)) (w_or1 (t_cmp (oq_neU hr.units) (q_isi .tup (qv 0) (by rfl) Z.z_isinstance (by rfl) Z.z_tuple bb_tuple) (q_isi .tup (qv 1) (by rfl) Z.z_isinstance (by rfl) Z.z_tuple bb_tuple)))).t (ss_one (s_ret q_bl)) ss_nil)
  (ss_one (s_ret (q_and (q_cmp (oq_eqU hr.units) (q_callB cq_len (by rfl) Z.z_len bb_len (a_cons (qv 0) a_nil)) (q_callB cq_len (by rfl) Z.z_len bb_len (a_cons (qv 1) a_nil))) (q_one (q_callB (cq_all rfl) (by rfl) Z.z_all bb_all (a_cons (q_lc rfl scLSame.nd (i_zip (by rfl) Z.z_zip (a_cons (qv 0) (a_cons (qv 1) a_nil))) (blkOk_by (own := [("_law_one", 2), ("_law_two", 3)]) (N := ["_law_found", "_law_due", "_law_one", "_law_two"]) (sc := (defScope sLSame)) (by decide +kernel)) (fun _ _ _ _ _ => (g_tup (n := 2) rfl (gs_cons (g_name 2 scLSame.nd) (gs_cons (g_name 3 scLSame.nd) gs_nil)))) (fun _ _ _ _ _ => ts_nil) (fun _ _ _ _ _ => (q_cal CLSame (by first | decide | exact Nat.le_refl _) hr takes0 (by rfl) (a_cons (qv 2) (a_cons (qv 3) a_nil))))) a_nil))))))) ss_nil)
  (ss_cons (s_if (w_or (t_cmp oq_isN (qv 1) q_non) (w_or1 (t_cmp oq_isN (qv 0) q_non))).t (ss_one (s_ret (q_and (q_cmp oq_isN (qv 1) q_non) (q_one (q_cmp oq_isN (qv 0) q_non))))) ss_nil)
  (ss_cons (s_if (w_or (t_cmp (oq_neU hr.units) (q_isi .bl (qv 0) (by rfl) Z.z_isinstance (by rfl) Z.z_bool bb_bool) (q_isi .bl (qv 1) (by rfl) Z.z_isinstance (by rfl) Z.z_bool bb_bool)) (w_or1 (t_cmp (oq_neU hr.units) (q_isi .int (qv 0) (by rfl) Z.z_isinstance (by rfl) Z.z_int bb_int) (q_isi .int (qv 1) (by rfl) Z.z_isinstance (by rfl) Z.z_int bb_int)))).t (ss_one (s_ret q_bl)) ss_nil)
  (ss_one (s_ret (q_and (q_cmp (oq_eqU hr.units) (q_isi .str (qv 0) (by rfl) Z.z_isinstance (by rfl) Z.z_str bb_str) (q_isi .str (qv 1) (by rfl) Z.z_isinstance (by rfl) Z.z_str bb_str)) (q_one (q_cmp (oq_eqU hr.units) (qv 0) (qv 1))))))))), ?_⟩
    clear tk hp
    rintro ds L k x ⟨a, b, rfl, oa, ob, hd, h⟩
    have seq : ∀ (kk : DK) (p : Addr) (e0 : DEnv) (e1 : D → D → DEnv), ¬ inL L p → ∀ (dg : DG) (de : DE), (∀ (x y : D) (L' : Led) (g : DEnv → Prop), g (e1 x y) → dg (.tup [x, y]) e0 L' g) → (∀ (x y : D) (L' : Led) (g : DK) (gx : DX), okP x = true → okP y = true → dep y < n → g (.bl (sameD x y)) L' → de (e1 x y) L' g gx) →
        ∀ (xs ys acc : List D), xs.length = ys.length → okPs xs = true → okPs ys = true → deps ys < n → acc.length + xs.length < 200000 → (∀ bs : List Bool, bs.all id = sameL xs ys → kk (.lst (acc ++ bs.map .bl)) L) → lcD dg dYes de e0 p kk (zipD xs ys) acc ((p, .lst acc) :: L) := by
      intro kk p e0 e1 hp dg de hg he xs
      induction xs with
      | nil =>
        intro ys acc hl _ _ _ _ hk
        cases ys with
        | cons _ _ => simp at hl
        | nil =>
          show lcD _ _ _ _ _ _ [] _ _
          rw [lcD_nil, remL_top hp]
          have := hk [] (by unfold sameL; rfl)
          rw [List.map_nil, List.append_nil] at this
          exact this
      | cons x r ih =>
        intro ys acc hl o1 o2 d2 ha hk
        cases ys with
        | nil => simp at hl
        | cons y s =>
          show lcD _ _ _ _ _ _ (.tup [x, y] :: zipD r s) _ _
          rw [lcD_cons]
          unfold okPs at o1 o2
          rw [Bool.and_eq_true] at o1 o2
          unfold deps at d2
          refine hg x y _ _ ?_
          show de (e1 x y) _ _ _
          refine he x y _ _ _ o1.1 o2.1 (by omega) ⟨lookup_top, ?_, ?_⟩
          · have z : (200000 : Nat) ≤ sizeLine := by decide
            omega
          · rw [setL_top hp]
            refine ih s (acc ++ [.bl (sameD x y)]) (by simpa using hl) o1.2 o2.2 (by omega) (by simp at ha ⊢; omega) fun bs hb => ?_
            have := hk (sameD x y :: bs) (by unfold sameL; rw [List.all_cons, hb]; rfl)
            rw [List.map_cons] at this
            rw [List.append_assoc]
            exact this
    have both : ∀ (xs ys : List D) (kk : DK) (p : Addr) (e0 : DEnv), xs.length = ys.length → okPs xs = true → okPs ys = true → deps ys < n → xs.length < 100000 → (∀ bs : List Bool, bs.all id = sameL xs ys → kk (.lst (bs.map .bl)) L) → ¬ inL L p → ∀ u v, e0 = [u, v, none, none] → lcD (dgTup 2 (dgCons (dgName 2) (dgCons (dgName 3) dgNil))) dYes (dCall (sameS n) [] (dCons (dVar 2) (dCons (dVar 3) dNil))) e0 p kk (zipD xs ys) [] ((p, .lst []) :: L) := by
      intro xs ys kk p e0 hl o1 o2 d2 hz hk hp u v he0
      subst he0
      refine seq kk p _ (fun x y => [u, v, some x, some y]) hp _ _ (fun x y L' g hg => ⟨rfl, hg⟩) (fun x y L' g gx o1 o2 d hg => ?_) xs ys [] hl o1 o2 d2 (by simpa using (by omega : xs.length < 200000)) fun bs hb => hk bs hb
      exact ⟨x, y, rfl, o1, o2, d, hg⟩
    have fin : ∀ (xs ys : List D), okP (.lst xs) = true → okP (.lst ys) = true → deps ys + 1 < n + 1 → sameD a b = sameL xs ys → (decide ((xs.length : Int) = (ys.length : Int)) = false → k (.bl false) L) ∧ (decide ((xs.length : Int) = (ys.length : Int)) = true → xs.length = ys.length ∧ okPs xs = true ∧ okPs ys = true ∧ deps ys < n ∧ xs.length < 100000) := by
      intro xs ys o1 o2 d2 e
      refine ⟨fun z => ?_, fun z => ?_⟩
      · have := of_decide_eq_false z
        rw [e, sameL_len (by omega)] at h
        exact h
      · have := of_decide_eq_true z
        unfold okP at o1 o2
        rw [Bool.and_eq_true] at o1 o2
        exact ⟨by omega, o1.2, o2.2, by omega, of_decide_eq_true o1.1⟩
    have all_ : ∀ (bs : List Bool) (r : Bool), bs.all id = r → k (.bl r) L → gAll [.lst (bs.map .bl)] L fun d => k d L := by
      intro bs r e hk
      show (match blsOf (bs.map .bl) with | some bs => k (.bl (bs.all id)) L | none => False)
      rw [blsOf_map]
      show k (.bl (bs.all id)) L
      rw [e]; exact hk
    cases b with
    | lst ys =>
      cases a with
      | lst xs =>
        have e : sameD (.lst xs) (.lst ys) = sameL xs ys := by unfold sameD; rfl
        rw [e] at h
        unfold dep at hd
        obtain ⟨f1, f2⟩ := fin xs ys oa ob hd e
        walk_at "w"
        cases hh : flEq (D.int (xs.length : Int)) (D.int (ys.length : Int)) with
        | false => exact f1 hh
        | true =>
          obtain ⟨q1, q2, q3, q4, q5⟩ := f2 hh
          walk_at "w"
          intro p hp
          exact both xs ys _ p _ q1 q2 q3 q4 q5 (fun bs hb => all_ bs _ hb h) hp _ _ rfl
      | _ => first | (simp [okP] at oa; done) | (unfold sameD at h; exact h)
    | tup ys =>
      cases a with
      | tup xs =>
        have e : sameD (.tup xs) (.tup ys) = sameL xs ys := by unfold sameD; rfl
        rw [e] at h
        unfold dep at hd
        obtain ⟨f1, f2⟩ := fin xs ys oa ob hd e
        walk_at "w"
        cases hh : flEq (D.int (xs.length : Int)) (D.int (ys.length : Int)) with
        | false => exact f1 hh
        | true =>
          obtain ⟨q1, q2, q3, q4, q5⟩ := f2 hh
          walk_at "w"
          intro p hp
          exact both xs ys _ p _ q1 q2 q3 q4 q5 (fun bs hb => all_ bs _ hb h) hp _ _ rfl
      | _ => first | (simp [okP] at oa; done) | (unfold sameD at h; exact h)
    | non => cases a <;> first | (simp [okP] at oa; done) | (unfold sameD at h; exact h)
    | bl v => cases a <;> first | (simp [okP] at oa; done) | (unfold sameD at h; exact h)
    | int v => cases a <;> first | (simp [okP] at oa; done) | (unfold sameD at h; exact h)
    | str v => cases a <;> first | (simp [okP] at oa; done) | (unfold sameD at h; exact h)
    | _ => simp [okP] at ob
  · rintro ds L k x ⟨a, b, rfl, _⟩; rfl
end
end T01

namespace T01
open PySem L2 DL
def lawS : DSp := fun ds L k _ => ∃ ns : List Int, ds = [.ro (ns.map .int)] ∧ L = [] ∧ ∀ L', k (.bl true) L'
def flds : List (Option Str) := [some "given", some "given", some "given", some "at", some "given", none, none, none, some "index", some "given", some "given", none, some "name", some "at", some "line", some "name", some "limit", some "user", some "at", some "given", some "line", some "name", none]
structure ErrAll (K : PySem.W.Frag) (c : Nat → Addr) (cPE cMI : Addr) : Prop where
  hx : ∀ i, i < 23 → ExcC K (c i)
  hk : ∀ i, i < 23 → ∀ j, j < 23 → PySem.W.kitOne K (.ref (c i)) (.ref (c j)) = some (decide (j = i))
  h1 : ∀ i, i < 23 → PySem.W.kitOne K (.ref (c i)) (.ref cPE) = some (decide (i < 21))
  h2 : ∀ i, i < 23 → PySem.W.kitOne K (.ref (c i)) (.type "ValueError") = some (decide (i < 21))
  h3 : ∀ i, i < 23 → PySem.W.kitOne K (.ref (c i)) (.ref cMI) = some (decide (i = 21))
  h4 : ∀ i, i < 23 → PySem.W.kitOne K (.ref (c i)) (.type "LookupError") = some (decide (20 < i))
  h5 : ∀ i, i < 23 → PySem.W.kitOne K (.ref (c i)) (.type "IndexError") = some (decide (i = 22))
  fc : ∀ i, i < 23 → FldOk K (c i) "code"
  ff : ∀ i f, i < 23 → flds[i]? = some (some f) → FldOk K (c i) f
theorem all23 {P : Nat → Prop} (h : P 0 ∧ P 1 ∧ P 2 ∧ P 3 ∧ P 4 ∧ P 5 ∧ P 6 ∧ P 7 ∧ P 8 ∧ P 9 ∧ P 10 ∧ P 11 ∧ P 12 ∧ P 13 ∧ P 14 ∧ P 15 ∧ P 16 ∧ P 17 ∧ P 18 ∧ P 19 ∧ P 20 ∧ P 21 ∧ P 22) : ∀ i, i < 23 → P i
  | 0, _ => h.1
  | 1, _ => h.2.1
  | 2, _ => h.2.2.1
  | 3, _ => h.2.2.2.1
  | 4, _ => h.2.2.2.2.1
  | 5, _ => h.2.2.2.2.2.1
  | 6, _ => h.2.2.2.2.2.2.1
  | 7, _ => h.2.2.2.2.2.2.2.1
  | 8, _ => h.2.2.2.2.2.2.2.2.1
  | 9, _ => h.2.2.2.2.2.2.2.2.2.1
  | 10, _ => h.2.2.2.2.2.2.2.2.2.2.1
  | 11, _ => h.2.2.2.2.2.2.2.2.2.2.2.1
  | 12, _ => h.2.2.2.2.2.2.2.2.2.2.2.2.1
  | 13, _ => h.2.2.2.2.2.2.2.2.2.2.2.2.2.1
  | 14, _ => h.2.2.2.2.2.2.2.2.2.2.2.2.2.2.1
  | 15, _ => h.2.2.2.2.2.2.2.2.2.2.2.2.2.2.2.1
  | 16, _ => h.2.2.2.2.2.2.2.2.2.2.2.2.2.2.2.2.1
  | 17, _ => h.2.2.2.2.2.2.2.2.2.2.2.2.2.2.2.2.2.1
  | 18, _ => h.2.2.2.2.2.2.2.2.2.2.2.2.2.2.2.2.2.2.1
  | 19, _ => h.2.2.2.2.2.2.2.2.2.2.2.2.2.2.2.2.2.2.2.1
  | 20, _ => h.2.2.2.2.2.2.2.2.2.2.2.2.2.2.2.2.2.2.2.2.1
  | 21, _ => h.2.2.2.2.2.2.2.2.2.2.2.2.2.2.2.2.2.2.2.2.2.1
  | 22, _ => h.2.2.2.2.2.2.2.2.2.2.2.2.2.2.2.2.2.2.2.2.2.2
  | i + 23, hi => by omega
section
variable {P : Program} {w : World} {K : PySem.W.Frag} {mg : Str → Option Value} {base : Heap}
local macro_rules | `(tactic| walk_at "w") => `(tactic| conv => whnf)
local macro_rules | `(tactic| walk_at "v") => `(tactic| ((conv => whnf); try dsimp only))
theorem scLaw : FnScope ["_law_script", "_law_bag_here", "_law_one", "_law_codes_here", "_law_made_here", "_law_k", "_law_e", "_law_due", "_law_j"] ["_law_script"] (defScope sLaw) := ⟨rfl, rfl, rfl, by decide +kernel, rfl, by decide +kernel, by decide +kernel⟩
theorem ok_Law {f : Addr} {fd : FuncData} (Z : Zn mg) (F : Fun K "law" "law" sLaw f fd) {c : Nat → Addr} {cPE cMI : Addr} (CLBag : Cal P w K mg base 1 "_law_bag" ["_law_script"] [] bagS) (CLPull : Cal P w K mg base 1 "_law_pull" ["_law_bag_here", "_law_many"] [] pullS) (CLOf : Cal P w K mg base 2 "_law_of" ["_law_bag_here", "_law_some"] [] ofS) (CLSame : Cal P w K mg base 9 "_law_same" ["_law_found", "_law_due"] [] (sameS 9)) (CLField : Cal P w K mg base 1 "_law_field" ["_law_e"] [] (fieldS K)) (CLKindsOf : Cal P w K mg base 1 "_law_kinds_of" ["_law_e"] [] (kindsS K c)) (CLCodes : Cal P w K mg base 1 "_law_codes" [] [] codesS) (CLMade : Cal P w K mg base 3 "_law_made" ["_law_one"] [] (madeS c)) (CLNamed : Cal P w K mg base 3 "_law_named" ["_law_one"] [] (madeS c)) (n_PlaneError : mg "PlaneError" = some (.ref cPE)) (n_Missing : mg "Missing" = some (.ref cMI)) (X : ErrAll K c cPE cMI) : FnOk P w K mg base (L2.CX P w) 12 f fd ["_law_script"] (spD K lawS) := by
  refine fn_ok F scLaw ?len (fun cdv A outer s H E hr => ?_)
  rotate_left
  · have tk := takes_of (X := cxOf (L2.CX P w) P w K mg base ["_law_script", "_law_bag_here", "_law_one", "_law_codes_here", "_law_made_here", "_law_k", "_law_e", "_law_due", "_law_j"] "law" (defScope sLaw) f cdv A outer s H E) (E := E) rfl rfl rfl rfl
    have hp := passes_of (X := cxOf (L2.CX P w) P w K mg base ["_law_script", "_law_bag_here", "_law_one", "_law_codes_here", "_law_made_here", "_law_k", "_law_e", "_law_due", "_law_j"] "law" (defScope sLaw) f cdv A outer s H E) rfl
    refine ⟨_, (ss_cons (s_set 1 scLaw.nd (q_cal CLBag (by first | decide | exact Nat.le_refl _) hr tk (by rfl) (a_cons (qv 0) a_nil)))
  (ss_cons (s_set 2 scLaw.nd (q_cal CLOf (by first | decide | exact Nat.le_refl _) hr tk (by rfl) (a_cons (qv 1) (a_cons (q_lst (a_cons q_non (a_cons q_bl (a_cons q_int (a_cons (q_neg q_int) (a_cons (q_op oq_pow q_int q_int) (a_cons q_str (a_cons q_str (a_cons (q_tup a_nil) (a_cons (q_lst (a_cons q_str a_nil)) (a_cons (q_tup (a_cons q_str (a_cons q_int a_nil))) (a_cons (q_cal CLPull (by first | decide | exact Nat.le_refl _) hr tk (by rfl) (a_cons (qv 1) (a_cons q_int a_nil))) a_nil)))))))))))) a_nil))))
  (ss_cons (s_set 3 scLaw.nd (q_cal0 CLCodes (by first | decide | exact Nat.le_refl _) hr tk (fun _ _ _ _ _ h => h) (by rfl)))
  (ss_cons (s_for hp rfl (i_list (q_lst (a_cons (q_cal CLMade (by first | decide | exact Nat.le_refl _) hr tk (by rfl) (a_cons (qv 2) a_nil)) (a_cons (q_cal CLNamed (by first | decide | exact Nat.le_refl _) hr tk (by rfl) (a_cons (qv 2) a_nil)) a_nil)))) (g_name 4 scLaw.nd) (ss_cons (s_if (t_not (t_val (q_cal CLSame (by first | decide | exact Nat.le_refl _) hr tk (by rfl) (a_cons (q_lc rfl scLaw.nd (i_list (qv 4)) (blkOk_by (own := [("_law_e", 6)]) (N := ["_law_script", "_law_bag_here", "_law_one", "_law_codes_here", "_law_made_here", "_law_k", "_law_e", "_law_due", "_law_j"]) (sc := (defScope sLaw)) (by decide +kernel)) (fun _ _ _ _ _ => (g_name 6 scLaw.nd)) (fun _ _ _ _ _ => ts_nil) (fun _ _ _ _ _ => (q_atEK (K := K) rfl (qv 6)))) (a_cons (qv 3) a_nil))))) (ss_one (s_ret q_bl)) ss_nil)
  (ss_one (s_for hp rfl (i_range1 (by rfl) Z.z_range (a_cons (q_callB cq_len (by rfl) Z.z_len bb_len (a_cons (qv 4) a_nil)) a_nil)) (g_name 5 scLaw.nd) (ss_cons (s_set 6 scLaw.nd (q_ix (qv 4) (qv 5)))
  (ss_cons (s_set 7 scLaw.nd (qv 2))
  (ss_cons (s_if (t_cmp oq_inQ (q_ix (qv 3) (qv 5)) (q_tup (a_cons q_str (a_cons q_str (a_cons q_str (a_cons q_str (a_cons q_str a_nil))))))) (ss_one (s_set 7 scLaw.nd q_non)) ss_nil)
  (ss_cons (s_if (w_or (t_not (t_val (q_cal CLSame (by first | decide | exact Nat.le_refl _) hr tk (by rfl) (a_cons (q_cal CLField (by first | decide | exact Nat.le_refl _) hr tk (by rfl) (a_cons (qv 6) a_nil)) (a_cons (qv 7) a_nil))))) (w_or1 (t_cmp (oq_neU hr.units) (q_cal CLKindsOf (by first | decide | exact Nat.le_refl _) hr tk (by rfl) (a_cons (qv 6) a_nil)) (q_lc rfl scLaw.nd (i_range1 (by rfl) Z.z_range (a_cons (q_callB cq_len (by rfl) Z.z_len bb_len (a_cons (qv 4) a_nil)) a_nil)) (blkOk_by (own := [("_law_j", 8)]) (N := ["_law_script", "_law_bag_here", "_law_one", "_law_codes_here", "_law_made_here", "_law_k", "_law_e", "_law_due", "_law_j"]) (sc := (defScope sLaw)) (by decide +kernel)) (fun _ _ _ _ _ => (g_name 8 scLaw.nd)) (fun _ _ _ _ _ => ts_nil) (fun _ _ _ _ _ => (q_cmp (oq_eqU hr.units) (qv 8) (qv 5))))))).t (ss_one (s_ret q_bl)) ss_nil)
  (ss_cons (s_if (t_cmp (oq_neU hr.units) (q_lst (a_cons (q_isX (K := K) rfl (qv 6) (pe_glob (v := .ref _) (by rfl) n_PlaneError rfl) (fun _ r => r) (by rfl) Z.z_isinstance) (a_cons (q_isX (K := K) rfl (qv 6) (pe_bltn (v := .ty "ValueError") (by rfl) Z.z_ValueError bb_ValueError rfl) (fun _ r => r) (by rfl) Z.z_isinstance) a_nil))) (q_lst (a_cons (q_cmp oq_lt (qv 5) q_int) (a_cons (q_cmp oq_lt (qv 5) q_int) a_nil)))) (ss_one (s_ret q_bl)) ss_nil)
  (ss_one (s_if (t_cmp (oq_neU hr.units) (q_lst (a_cons (q_isX (K := K) rfl (qv 6) (pe_glob (v := .ref _) (by rfl) n_Missing rfl) (fun _ r => r) (by rfl) Z.z_isinstance) (a_cons (q_isX (K := K) rfl (qv 6) (pe_bltn (v := .ty "LookupError") (by rfl) Z.z_LookupError bb_LookupError rfl) (fun _ r => r) (by rfl) Z.z_isinstance) (a_cons (q_isX (K := K) rfl (qv 6) (pe_bltn (v := .ty "IndexError") (by rfl) Z.z_IndexError bb_IndexError rfl) (fun _ r => r) (by rfl) Z.z_isinstance) a_nil)))) (q_lst (a_cons (q_cmp (oq_eqU hr.units) (qv 5) q_int) (a_cons (q_cmp oq_gt (qv 5) q_int) (a_cons (q_cmp (oq_eqU hr.units) (qv 5) q_int) a_nil))))) (ss_one (s_ret q_bl)) ss_nil)))))))))))
  (ss_one (s_ret q_bl)))))), ?_⟩
    clear tk hp
    rintro ds L k x ⟨ns, rfl, rfl, h⟩
    walk_at "w"
    refine ⟨ns, rfl, fun p b hp ok => ?_⟩
    walk_at "w"
    refine ⟨⟨by decide, by decide, by decide⟩, ?_⟩
    walk_at "w"
    refine ⟨sz_ok rfl, ?_⟩
    walk_at "w"
    refine ⟨sz_ok rfl, ?_⟩
    walk_at "w"
    refine ⟨sz_ok rfl, ?_⟩
    walk_at "w"
    refine ⟨p, b, 999, rfl, lookup_top, ok, by decide, by decide +kernel, fun r b1 r0 r1 ok1 => ?_⟩
    rw [setL_one]
    walk_at "w"
    refine ⟨sz_ok rfl, ?_⟩
    walk_at "w"
    refine ⟨p, b1, _, rfl, lookup_top, ok1, Nat.lt_of_sub_eq_succ rfl, Nat.lt_of_sub_eq_succ rfl, fun v b2 hv ok2 => ?_⟩
    rw [setL_one]
    have okv : okP v = true ∧ dep v < 8 := by
      simp only [List.mem_cons, List.not_mem_nil, or_false] at hv
      rcases hv with e | e | e | e | e | e | e | e | e | e | e <;> subst e <;> exact ⟨rfl, Nat.lt_of_sub_eq_succ rfl⟩
    clear hv
    walk_at "w"
    refine ⟨rfl, ?_⟩
    walk_at "w"
    refine ⟨v, rfl, ?_⟩
    walk_at "w"
    refine ⟨v, rfl, ?_⟩
    walk_at "w"
    refine ⟨sz_ok rfl, ?_⟩
    walk_at "w"
    refine forD_inv (fun env L => ∃ o4 o5 o6 o7 o8, env = [some (.ro (ns.map .int)), some (.ptr p), some v, some (.lst codes), o4, o5, o6, o7, o8] ∧ L = [(p, bagC b2)]) ?nx _ ?turn _ _ ⟨_, _, _, _, _, rfl, rfl⟩
    case nx =>
      rintro env L ⟨o4, o5, o6, o7, o8, rfl, rfl⟩
      exact h _
    case turn =>
      rintro E' d env L hd hrt hex ⟨o4, o5, o6, o7, o8, rfl, rfl⟩ hn
      have hd : d = .lst (errs c v) := by
        simp only [List.mem_cons, List.not_mem_nil, or_false] at hd
        rcases hd with e | e <;> exact e
      subst hd
      walk_at "w"
      intro q hq
      refine lcD_yes hq _ codes [] rfl (Nat.le_of_ble_eq_true rfl) rfl rfl (fun i d r h1 h2 acc' K' pa hK => ?_) ?_
      · have hi : i < 23 := by
          rcases Nat.lt_or_ge i 23 with z | z
          · exact z
          · rw [List.getElem?_eq_none (by show codes.length ≤ i; exact z)] at h2; cases h2
        revert h1 h2 hK
        revert d r
        refine all23 (P := fun i => ∀ (d r : D), (errs c v)[i]? = some d → codes[i]? = some r → K' r ((q, D.lst acc') :: [(p, bagC b2)]) → dgName 6 d (wipeD [some (.ro (ns.map .int)), some (.ptr p), some v, some (.lst codes), some (.lst (errs c v)), o5, o6, o7, o8] [6]) ((q, D.lst acc') :: [(p, bagC b2)]) fun env1 => dAtE K "code" (dVar 6) env1 ((q, D.lst acc') :: [(p, bagC b2)]) K' fun _ _ _ => False) ?_ i hi
        refine ⟨?_, ?_, ?_, ?_, ?_, ?_, ?_, ?_, ?_, ?_, ?_, ?_, ?_, ?_, ?_, ?_, ?_, ?_, ?_, ?_, ?_, ?_, ?_⟩ <;> (intro d r h1 h2 hK; cases h1; cases h2; exact ⟨X.fc _ (by decide), hK⟩)
      walk_at "w"
      refine ⟨.lst codes, .lst codes, rfl, rfl, rfl, Nat.lt_of_sub_eq_succ rfl, ?_⟩
      rw [sameD_refl (.lst codes) rfl]
      walk_at "w"
      refine ⟨by show -2 ^ 62 ≤ (23 : Int) ∧ (23 : Int) < 2 ^ 62; decide, ?_⟩
      walk_at "w"
      show forD _ _ E' (rngD 0 23) _ _
      refine forD_inv (fun env L => ∃ o5 o6 o7 o8, env = [some (.ro (ns.map .int)), some (.ptr p), some v, some (.lst codes), some (.lst (errs c v)), o5, o6, o7, o8] ∧ L = [(p, bagC b2)]) ?nx2 _ ?turn2 _ _ ⟨_, _, _, _, rfl, rfl⟩
      case nx2 =>
        rintro env L ⟨o5, o6, o7, o8, rfl, rfl⟩
        exact hn _ _ ⟨_, _, _, _, _, rfl, rfl⟩
      case turn2 =>
        rintro E2 d env L hd hrt2 hex2 ⟨o5, o6, o7, o8, rfl, rfl⟩ hn2
        obtain ⟨j, hj⟩ := List.getElem?_of_mem hd
        obtain ⟨hi, rfl⟩ := rngD_get 23 0 j d hj
        rw [Int.zero_add]
        have hn3 : ∀ o5 o6 o7 o8, E2.nx [some (.ro (ns.map .int)), some (.ptr p), some v, some (.lst codes), some (.lst (errs c v)), o5, o6, o7, o8] [(p, bagC b2)] := fun o5 o6 o7 o8 => hn2 _ _ ⟨_, _, _, _, rfl, rfl⟩
        clear hn2 hj hd
        have kin : ∀ i : Nat, i < 23 → ∀ (k : D → Led → Prop), k (.lst ((List.range 23).map fun (j : Nat) => .bl (decide ((j : Int) = (i : Int))))) [(p, bagC b2)] → ∀ q, ¬ inL [(p, bagC b2)] q → ∀ (env0 : DEnv), env0.length = 9 → env0[5]? = some (some (.int (i : Int))) → lcD (dgName 8) dYes (dOp gEqU (dVar 8) (dVar 5)) env0 q k (rngD 0 23) [] [(q, .lst []), (p, bagC b2)] := by
          intro i hi k hk q hq env0 hl he
          refine lcD_yes hq _ ((List.range 23).map fun (j : Nat) => .bl (decide ((j : Int) = (i : Int)))) [] rfl (Nat.le_of_ble_eq_true rfl) rfl rfl (fun jj d r h1 h2 acc' K' pa hK => ?_) hk
          obtain ⟨h3, rfl⟩ := rngD_get 23 0 jj d h1
          rw [List.getElem?_map, List.getElem?_range h3] at h2
          cases h2
          match env0, hl, he with
          | [e0, e1, e2, e3, e4, e5, e6, e7, e8], _, he =>
            have he : e5 = some (.int (i : Int)) := by injection he
            subst he
            rw [Int.zero_add]
            exact hK
        revert hi
        revert j
        refine all23 ?_
        refine ⟨?_, ?_, ?_, ?_, ?_, ?_, ?_, ?_, ?_, ?_, ?_, ?_, ?_, ?_, ?_, ?_, ?_, ?_, ?_, ?_, ?_, ?_, ?_⟩
        all_goals
          walk_at "w"
          refine ⟨sz_ok rfl, ?_⟩
          walk_at "w"
          first | refine ⟨_, _, _, _, _, rfl, ErrD.one (by constructor) (X.fc _ (by decide)) (X.ff _ _ (by decide) rfl), ?_⟩ | refine ⟨_, _, _, _, _, rfl, ErrD.no (by constructor) (X.fc _ (by decide)), ?_⟩
          walk_at "w"
          first
            | (refine ⟨v, v, rfl, okv.1, okv.1, Nat.lt_succ_of_lt okv.2, ?_⟩
               rw [sameD_refl v okv.1])
            | (refine ⟨.non, .non, rfl, rfl, rfl, Nat.lt_of_sub_eq_succ rfl, ?_⟩
               rw [sameD_refl .non rfl])
          walk_at "w"
          refine ⟨_, _, _, fun jj => decide (jj = _), rfl, X.hx _ (by decide), fun jj hj => X.hk _ (by decide) jj hj, ?_⟩
          walk_at "w"
          refine ⟨by show -2 ^ 62 ≤ (23 : Int) ∧ (23 : Int) < 2 ^ 62; decide, fun q hq => ?_⟩
          refine kin _ (by decide) _ ?_ q hq _ rfl rfl
          walk_at "w"
          refine ⟨rfl, rfl, ?_⟩
          walk_at "w"
          refine ⟨_, X.hx _ (by decide), X.h1 _ (by decide), ?_⟩
          walk_at "w"
          refine ⟨_, X.hx _ (by decide), X.h2 _ (by decide), ?_⟩
          walk_at "w"
          refine ⟨sz_ok rfl, ?_⟩
          walk_at "w"
          refine ⟨sz_ok rfl, ?_⟩
          walk_at "w"
          refine ⟨rfl, rfl, ?_⟩
          walk_at "w"
          refine ⟨_, X.hx _ (by decide), X.h3 _ (by decide), ?_⟩
          walk_at "w"
          refine ⟨_, X.hx _ (by decide), X.h4 _ (by decide), ?_⟩
          walk_at "w"
          refine ⟨_, X.hx _ (by decide), X.h5 _ (by decide), ?_⟩
          walk_at "w"
          refine ⟨sz_ok rfl, ?_⟩
          walk_at "w"
          refine ⟨sz_ok rfl, ?_⟩
          walk_at "w"
          refine ⟨rfl, rfl, ?_⟩
          exact hn3 _ _ _ _
  · rintro ds L k x ⟨ns, rfl, _⟩; rfl

end
end T01

namespace T01
open PySem L2 DL
abbrev sInvalidNumber_init : Stmt := sAt 0 (sBody (top 2))
theorem scInvalidNumber_init : FnScope ["self", "given"] ["self", "given"] (defScope sInvalidNumber_init) := ⟨rfl, rfl, rfl, by decide +kernel, rfl, by decide +kernel, by decide +kernel⟩
abbrev sInvalidRatio_init : Stmt := sAt 0 (sBody (top 3))
theorem scInvalidRatio_init : FnScope ["self", "given"] ["self", "given"] (defScope sInvalidRatio_init) := ⟨rfl, rfl, rfl, by decide +kernel, rfl, by decide +kernel, by decide +kernel⟩
abbrev sInvalidPoint_init : Stmt := sAt 0 (sBody (top 4))
theorem scInvalidPoint_init : FnScope ["self", "given"] ["self", "given"] (defScope sInvalidPoint_init) := ⟨rfl, rfl, rfl, by decide +kernel, rfl, by decide +kernel, by decide +kernel⟩
abbrev sInvalidTerm_init : Stmt := sAt 0 (sBody (top 5))
theorem scInvalidTerm_init : FnScope ["self", "at"] ["self", "at"] (defScope sInvalidTerm_init) := ⟨rfl, rfl, rfl, by decide +kernel, rfl, by decide +kernel, by decide +kernel⟩
abbrev sInvalidLetter_init : Stmt := sAt 0 (sBody (top 6))
theorem scInvalidLetter_init : FnScope ["self", "given"] ["self", "given"] (defScope sInvalidLetter_init) := ⟨rfl, rfl, rfl, by decide +kernel, rfl, by decide +kernel, by decide +kernel⟩
abbrev sZeroDivisor_init : Stmt := sAt 0 (sBody (top 7))
theorem scZeroDivisor_init : FnScope ["self"] ["self"] (defScope sZeroDivisor_init) := ⟨rfl, rfl, rfl, by decide +kernel, rfl, by decide +kernel, by decide +kernel⟩
abbrev sZeroPolynomial_init : Stmt := sAt 0 (sBody (top 8))
theorem scZeroPolynomial_init : FnScope ["self"] ["self"] (defScope sZeroPolynomial_init) := ⟨rfl, rfl, rfl, by decide +kernel, rfl, by decide +kernel, by decide +kernel⟩
abbrev sNotDivisible_init : Stmt := sAt 0 (sBody (top 9))
theorem scNotDivisible_init : FnScope ["self"] ["self"] (defScope sNotDivisible_init) := ⟨rfl, rfl, rfl, by decide +kernel, rfl, by decide +kernel, by decide +kernel⟩
abbrev sNoRoot_init : Stmt := sAt 0 (sBody (top 10))
theorem scNoRoot_init : FnScope ["self", "index"] ["self", "index"] (defScope sNoRoot_init) := ⟨rfl, rfl, rfl, by decide +kernel, rfl, by decide +kernel, by decide +kernel⟩
abbrev sNoPlace_init : Stmt := sAt 0 (sBody (top 11))
theorem scNoPlace_init : FnScope ["self", "given"] ["self", "given"] (defScope sNoPlace_init) := ⟨rfl, rfl, rfl, by decide +kernel, rfl, by decide +kernel, by decide +kernel⟩
abbrev sOutOfBox_init : Stmt := sAt 0 (sBody (top 12))
theorem scOutOfBox_init : FnScope ["self", "given"] ["self", "given"] (defScope sOutOfBox_init) := ⟨rfl, rfl, rfl, by decide +kernel, rfl, by decide +kernel, by decide +kernel⟩
abbrev sNoValue_init : Stmt := sAt 0 (sBody (top 13))
theorem scNoValue_init : FnScope ["self"] ["self"] (defScope sNoValue_init) := ⟨rfl, rfl, rfl, by decide +kernel, rfl, by decide +kernel, by decide +kernel⟩
abbrev sInvalidName_init : Stmt := sAt 0 (sBody (top 14))
theorem scInvalidName_init : FnScope ["self", "name"] ["self", "name"] (defScope sInvalidName_init) := ⟨rfl, rfl, rfl, by decide +kernel, rfl, by decide +kernel, by decide +kernel⟩
abbrev sInvalidProgram_init : Stmt := sAt 0 (sBody (top 15))
theorem scInvalidProgram_init : FnScope ["self", "at"] ["self", "at"] (defScope sInvalidProgram_init) := ⟨rfl, rfl, rfl, by decide +kernel, rfl, by decide +kernel, by decide +kernel⟩
abbrev sInvalidText_init : Stmt := sAt 0 (sBody (top 16))
theorem scInvalidText_init : FnScope ["self", "line"] ["self", "line"] (defScope sInvalidText_init) := ⟨rfl, rfl, rfl, by decide +kernel, rfl, by decide +kernel, by decide +kernel⟩
abbrev sDuplicateName_init : Stmt := sAt 0 (sBody (top 17))
theorem scDuplicateName_init : FnScope ["self", "name"] ["self", "name"] (defScope sDuplicateName_init) := ⟨rfl, rfl, rfl, by decide +kernel, rfl, by decide +kernel, by decide +kernel⟩
abbrev sFull_init : Stmt := sAt 0 (sBody (top 18))
theorem scFull_init : FnScope ["self", "limit"] ["self", "limit"] (defScope sFull_init) := ⟨rfl, rfl, rfl, by decide +kernel, rfl, by decide +kernel, by decide +kernel⟩
abbrev sInUse_init : Stmt := sAt 0 (sBody (top 19))
theorem scInUse_init : FnScope ["self", "user"] ["self", "user"] (defScope sInUse_init) := ⟨rfl, rfl, rfl, by decide +kernel, rfl, by decide +kernel, by decide +kernel⟩
abbrev sInvalidCommand_init : Stmt := sAt 0 (sBody (top 20))
theorem scInvalidCommand_init : FnScope ["self", "at"] ["self", "at"] (defScope sInvalidCommand_init) := ⟨rfl, rfl, rfl, by decide +kernel, rfl, by decide +kernel, by decide +kernel⟩
abbrev sInvalidLimit_init : Stmt := sAt 0 (sBody (top 21))
theorem scInvalidLimit_init : FnScope ["self", "given"] ["self", "given"] (defScope sInvalidLimit_init) := ⟨rfl, rfl, rfl, by decide +kernel, rfl, by decide +kernel, by decide +kernel⟩
abbrev sInvalidPage_init : Stmt := sAt 0 (sBody (top 22))
theorem scInvalidPage_init : FnScope ["self", "line"] ["self", "line"] (defScope sInvalidPage_init) := ⟨rfl, rfl, rfl, by decide +kernel, rfl, by decide +kernel, by decide +kernel⟩
abbrev sUnknownName_init : Stmt := sAt 0 (sBody (top 24))
theorem scUnknownName_init : FnScope ["self", "name"] ["self", "name"] (defScope sUnknownName_init) := ⟨rfl, rfl, rfl, by decide +kernel, rfl, by decide +kernel, by decide +kernel⟩
abbrev sNothingLeft_init : Stmt := sAt 0 (sBody (top 25))
theorem scNothingLeft_init : FnScope ["self"] ["self"] (defScope sNothingLeft_init) := ⟨rfl, rfl, rfl, by decide +kernel, rfl, by decide +kernel, by decide +kernel⟩
theorem nd_inj {l : List Addr} (nd : l.Nodup) {i j : Nat} (hi : i < l.length) (hj : j < l.length) (h : l.getD i 0 = l.getD j 0) : i = j := by
  rw [List.getD_eq_getElem?_getD, List.getD_eq_getElem?_getD, List.getElem?_eq_getElem hi, List.getElem?_eq_getElem hj] at h
  exact (List.getElem_inj nd).mp h
theorem has_types {t : List Value} (B : Addr) (h : t.all (fun v => match v with | .type _ => true | _ => false) = true) : t.contains (.ref B) = false := by
  induction t with
  | nil => rfl
  | cons v r ih =>
    rw [List.all_cons, Bool.and_eq_true] at h
    rw [List.contains_cons, ih h.2, Bool.or_false]
    cases v <;> first | rfl | cases h.1
theorem beq_ref (B C : Addr) : (Value.ref B == Value.ref C) = decide (B = C) := by
  by_cases h : B = C
  · subst h; simp
  · rw [decide_eq_false h]
    exact beq_false_of_ne fun z => h (by injection z)
theorem has_1 (C R : Addr) (t : List Value) (B : Addr) (h : t.all (fun v => match v with | .type _ => true | _ => false) = true) : (Value.ref C :: ([R].map Value.ref ++ t)).contains (.ref B) = (decide (B = C) || decide (B = R)) := by
  rw [List.contains_cons, List.map_cons, List.map_nil, List.cons_append, List.nil_append, List.contains_cons, has_types B h, beq_ref, beq_ref, Bool.or_false]
theorem has_0 (C : Addr) (t : List Value) (B : Addr) (h : t.all (fun v => match v with | .type _ => true | _ => false) = true) : (Value.ref C :: (([] : List Addr).map Value.ref ++ t)).contains (.ref B) = decide (B = C) := by
  rw [List.contains_cons, List.map_nil, List.nil_append, has_types B h, beq_ref, Bool.or_false]
theorem cal_mk {P : Program} {w : World} {K : PySem.W.Frag} {mg : Str → Option Value} {base : Heap} {n : Nat} {x : Str} {ps : List Str} {g : DSp} {f : Addr} {fd : FuncData} (G : FnOk P w K mg base (L2.CX P w) n f fd ps (spD K g)) (m : mg x = some (.ref f)) (k : PySem.W.keepIn K (.ref f) = true) (b : Binds K fd ps []) : Cal P w K mg base n x ps [] g := ⟨⟨f, fd, [], [], G, m, k, b, .nil, fun _ _ => .nil⟩⟩
theorem calw_mk {P : Program} {w : World} {K : PySem.W.Frag} {mg : Str → Option Value} {base : Heap} {n np : Nat} {x : Str} {ps ks : List Str} {g : DSp} {gp : Perm3} {f : Addr} {fd : FuncData} (G : FnOk P w K mg base (L2.CX P w) n f fd ps (spD K g)) (m : mg x = some (.ref f)) (k : PySem.W.keepIn K (.ref f) = true) (b : KwB K fd ps np ks [] gp) (hp : PermOk @gp) : CalW P w K mg base n x np ks [] gp g := ⟨⟨f, fd, ps, [], [], G, m, k, b, hp, .nil, fun _ _ => .nil⟩⟩
theorem same_all {P : Program} {w : World} {K : PySem.W.Frag} {mg : Str → Option Value} {base : Heap} {f : Addr} {fd : FuncData} (Z : Zn mg) (F : Fun K "_law_same" "_law_same" sLSame f fd) (b : Binds K fd ["_law_found", "_law_due"] []) (m : mg "_law_same" = some (.ref f)) : ∀ n : Nat, FnOk P w K mg base (L2.CX P w) n f fd ["_law_found", "_law_due"] (spD K (sameS n))
  | 0 => by
    have no : ∀ vs H Q E, ¬ spD K (sameS 0) vs H Q E := fun vs H Q E h => by
      obtain ⟨ds, L, k, x, _, _, ⟨_, _, _, _, _, h, _⟩, _⟩ := h
      exact absurd h (Nat.not_lt_zero _)
    exact ⟨fun vs H Q E h => absurd h (no vs H Q E), fun A outer s H args us vs Q E _ _ _ _ h => absurd h (no vs H Q E)⟩
  | n + 1 => ok_LSame Z F ⟨⟨f, fd, [], [], same_all Z F b m n, m, F.kp, b, .nil, fun _ _ => .nil⟩⟩
theorem all_mk {P : Program} {w : World} {K : PySem.W.Frag} {h : Heap} {mg : Str → Option Value} {fa : Addr}
    {f1 : Addr} {od1 an1 : Option Addr} {sl1 : Array (Option Value)} {oc1 kV1 dc1 pm1 cd1 ct1 : Value}
    {f2 : Addr} {od2 an2 : Option Addr} {sl2 : Array (Option Value)} {oc2 kV2 dc2 pm2 cd2 ct2 : Value}
    {f3 : Addr} {od3 an3 : Option Addr} {sl3 : Array (Option Value)} {oc3 kV3 dc3 pm3 cd3 ct3 : Value}
    {f4 : Addr} {od4 an4 : Option Addr} {sl4 : Array (Option Value)} {oc4 kV4 dc4 pm4 cd4 ct4 : Value}
    {f5 : Addr} {od5 an5 : Option Addr} {sl5 : Array (Option Value)} {oc5 kV5 dc5 pm5 cd5 ct5 : Value}
    {f6 : Addr} {od6 an6 : Option Addr} {sl6 : Array (Option Value)} {oc6 kV6 dc6 pm6 cd6 ct6 : Value}
    {f7 : Addr} {od7 an7 : Option Addr} {sl7 : Array (Option Value)} {oc7 kV7 dc7 pm7 cd7 ct7 : Value}
    {f8 : Addr} {od8 an8 : Option Addr} {sl8 : Array (Option Value)} {oc8 kV8 dc8 pm8 cd8 ct8 : Value}
    {f9 : Addr} {od9 an9 : Option Addr} {sl9 : Array (Option Value)} {oc9 kV9 dc9 pm9 cd9 ct9 : Value}
    {f10 : Addr} {od10 an10 : Option Addr} {sl10 : Array (Option Value)} {oc10 kV10 dc10 pm10 cd10 ct10 : Value}
    {cPE cMI : Addr} {cl_PlaneError cl_Missing : ClassData}
    {e0 : Addr} {nm_InvalidNumber q_InvalidNumber : Str} {N_InvalidNumber fI_InvalidNumber : Addr} {bs_InvalidNumber su_InvalidNumber : List Value} {sn_InvalidNumber : List Str} {ab_InvalidNumber : Bool} {co_InvalidNumber : Option Bool} {dd_InvalidNumber odI_InvalidNumber anI_InvalidNumber : Option Addr} {k0_InvalidNumber k1_InvalidNumber k2_InvalidNumber k3_InvalidNumber k5_InvalidNumber : Option Value} {ocI_InvalidNumber kVI_InvalidNumber dcI_InvalidNumber pmI_InvalidNumber cdI_InvalidNumber ctI_InvalidNumber : Value} {slI_InvalidNumber : Array (Option Value)}
    {e1 : Addr} {nm_InvalidRatio q_InvalidRatio : Str} {N_InvalidRatio fI_InvalidRatio : Addr} {bs_InvalidRatio su_InvalidRatio : List Value} {sn_InvalidRatio : List Str} {ab_InvalidRatio : Bool} {co_InvalidRatio : Option Bool} {dd_InvalidRatio odI_InvalidRatio anI_InvalidRatio : Option Addr} {k0_InvalidRatio k1_InvalidRatio k2_InvalidRatio k3_InvalidRatio k5_InvalidRatio : Option Value} {ocI_InvalidRatio kVI_InvalidRatio dcI_InvalidRatio pmI_InvalidRatio cdI_InvalidRatio ctI_InvalidRatio : Value} {slI_InvalidRatio : Array (Option Value)}
    {e2 : Addr} {nm_InvalidPoint q_InvalidPoint : Str} {N_InvalidPoint fI_InvalidPoint : Addr} {bs_InvalidPoint su_InvalidPoint : List Value} {sn_InvalidPoint : List Str} {ab_InvalidPoint : Bool} {co_InvalidPoint : Option Bool} {dd_InvalidPoint odI_InvalidPoint anI_InvalidPoint : Option Addr} {k0_InvalidPoint k1_InvalidPoint k2_InvalidPoint k3_InvalidPoint k5_InvalidPoint : Option Value} {ocI_InvalidPoint kVI_InvalidPoint dcI_InvalidPoint pmI_InvalidPoint cdI_InvalidPoint ctI_InvalidPoint : Value} {slI_InvalidPoint : Array (Option Value)}
    {e3 : Addr} {nm_InvalidTerm q_InvalidTerm : Str} {N_InvalidTerm fI_InvalidTerm : Addr} {bs_InvalidTerm su_InvalidTerm : List Value} {sn_InvalidTerm : List Str} {ab_InvalidTerm : Bool} {co_InvalidTerm : Option Bool} {dd_InvalidTerm odI_InvalidTerm anI_InvalidTerm : Option Addr} {k0_InvalidTerm k1_InvalidTerm k2_InvalidTerm k3_InvalidTerm k5_InvalidTerm : Option Value} {ocI_InvalidTerm kVI_InvalidTerm dcI_InvalidTerm pmI_InvalidTerm cdI_InvalidTerm ctI_InvalidTerm : Value} {slI_InvalidTerm : Array (Option Value)}
    {e4 : Addr} {nm_InvalidLetter q_InvalidLetter : Str} {N_InvalidLetter fI_InvalidLetter : Addr} {bs_InvalidLetter su_InvalidLetter : List Value} {sn_InvalidLetter : List Str} {ab_InvalidLetter : Bool} {co_InvalidLetter : Option Bool} {dd_InvalidLetter odI_InvalidLetter anI_InvalidLetter : Option Addr} {k0_InvalidLetter k1_InvalidLetter k2_InvalidLetter k3_InvalidLetter k5_InvalidLetter : Option Value} {ocI_InvalidLetter kVI_InvalidLetter dcI_InvalidLetter pmI_InvalidLetter cdI_InvalidLetter ctI_InvalidLetter : Value} {slI_InvalidLetter : Array (Option Value)}
    {e5 : Addr} {nm_ZeroDivisor q_ZeroDivisor : Str} {N_ZeroDivisor fI_ZeroDivisor : Addr} {bs_ZeroDivisor su_ZeroDivisor : List Value} {sn_ZeroDivisor : List Str} {ab_ZeroDivisor : Bool} {co_ZeroDivisor : Option Bool} {dd_ZeroDivisor odI_ZeroDivisor anI_ZeroDivisor : Option Addr} {k0_ZeroDivisor k1_ZeroDivisor k2_ZeroDivisor k3_ZeroDivisor k5_ZeroDivisor : Option Value} {ocI_ZeroDivisor kVI_ZeroDivisor dcI_ZeroDivisor pmI_ZeroDivisor cdI_ZeroDivisor ctI_ZeroDivisor : Value} {slI_ZeroDivisor : Array (Option Value)}
    {e6 : Addr} {nm_ZeroPolynomial q_ZeroPolynomial : Str} {N_ZeroPolynomial fI_ZeroPolynomial : Addr} {bs_ZeroPolynomial su_ZeroPolynomial : List Value} {sn_ZeroPolynomial : List Str} {ab_ZeroPolynomial : Bool} {co_ZeroPolynomial : Option Bool} {dd_ZeroPolynomial odI_ZeroPolynomial anI_ZeroPolynomial : Option Addr} {k0_ZeroPolynomial k1_ZeroPolynomial k2_ZeroPolynomial k3_ZeroPolynomial k5_ZeroPolynomial : Option Value} {ocI_ZeroPolynomial kVI_ZeroPolynomial dcI_ZeroPolynomial pmI_ZeroPolynomial cdI_ZeroPolynomial ctI_ZeroPolynomial : Value} {slI_ZeroPolynomial : Array (Option Value)}
    {e7 : Addr} {nm_NotDivisible q_NotDivisible : Str} {N_NotDivisible fI_NotDivisible : Addr} {bs_NotDivisible su_NotDivisible : List Value} {sn_NotDivisible : List Str} {ab_NotDivisible : Bool} {co_NotDivisible : Option Bool} {dd_NotDivisible odI_NotDivisible anI_NotDivisible : Option Addr} {k0_NotDivisible k1_NotDivisible k2_NotDivisible k3_NotDivisible k5_NotDivisible : Option Value} {ocI_NotDivisible kVI_NotDivisible dcI_NotDivisible pmI_NotDivisible cdI_NotDivisible ctI_NotDivisible : Value} {slI_NotDivisible : Array (Option Value)}
    {e8 : Addr} {nm_NoRoot q_NoRoot : Str} {N_NoRoot fI_NoRoot : Addr} {bs_NoRoot su_NoRoot : List Value} {sn_NoRoot : List Str} {ab_NoRoot : Bool} {co_NoRoot : Option Bool} {dd_NoRoot odI_NoRoot anI_NoRoot : Option Addr} {k0_NoRoot k1_NoRoot k2_NoRoot k3_NoRoot k5_NoRoot : Option Value} {ocI_NoRoot kVI_NoRoot dcI_NoRoot pmI_NoRoot cdI_NoRoot ctI_NoRoot : Value} {slI_NoRoot : Array (Option Value)}
    {e9 : Addr} {nm_NoPlace q_NoPlace : Str} {N_NoPlace fI_NoPlace : Addr} {bs_NoPlace su_NoPlace : List Value} {sn_NoPlace : List Str} {ab_NoPlace : Bool} {co_NoPlace : Option Bool} {dd_NoPlace odI_NoPlace anI_NoPlace : Option Addr} {k0_NoPlace k1_NoPlace k2_NoPlace k3_NoPlace k5_NoPlace : Option Value} {ocI_NoPlace kVI_NoPlace dcI_NoPlace pmI_NoPlace cdI_NoPlace ctI_NoPlace : Value} {slI_NoPlace : Array (Option Value)}
    {e10 : Addr} {nm_OutOfBox q_OutOfBox : Str} {N_OutOfBox fI_OutOfBox : Addr} {bs_OutOfBox su_OutOfBox : List Value} {sn_OutOfBox : List Str} {ab_OutOfBox : Bool} {co_OutOfBox : Option Bool} {dd_OutOfBox odI_OutOfBox anI_OutOfBox : Option Addr} {k0_OutOfBox k1_OutOfBox k2_OutOfBox k3_OutOfBox k5_OutOfBox : Option Value} {ocI_OutOfBox kVI_OutOfBox dcI_OutOfBox pmI_OutOfBox cdI_OutOfBox ctI_OutOfBox : Value} {slI_OutOfBox : Array (Option Value)}
    {e11 : Addr} {nm_NoValue q_NoValue : Str} {N_NoValue fI_NoValue : Addr} {bs_NoValue su_NoValue : List Value} {sn_NoValue : List Str} {ab_NoValue : Bool} {co_NoValue : Option Bool} {dd_NoValue odI_NoValue anI_NoValue : Option Addr} {k0_NoValue k1_NoValue k2_NoValue k3_NoValue k5_NoValue : Option Value} {ocI_NoValue kVI_NoValue dcI_NoValue pmI_NoValue cdI_NoValue ctI_NoValue : Value} {slI_NoValue : Array (Option Value)}
    {e12 : Addr} {nm_InvalidName q_InvalidName : Str} {N_InvalidName fI_InvalidName : Addr} {bs_InvalidName su_InvalidName : List Value} {sn_InvalidName : List Str} {ab_InvalidName : Bool} {co_InvalidName : Option Bool} {dd_InvalidName odI_InvalidName anI_InvalidName : Option Addr} {k0_InvalidName k1_InvalidName k2_InvalidName k3_InvalidName k5_InvalidName : Option Value} {ocI_InvalidName kVI_InvalidName dcI_InvalidName pmI_InvalidName cdI_InvalidName ctI_InvalidName : Value} {slI_InvalidName : Array (Option Value)}
    {e13 : Addr} {nm_InvalidProgram q_InvalidProgram : Str} {N_InvalidProgram fI_InvalidProgram : Addr} {bs_InvalidProgram su_InvalidProgram : List Value} {sn_InvalidProgram : List Str} {ab_InvalidProgram : Bool} {co_InvalidProgram : Option Bool} {dd_InvalidProgram odI_InvalidProgram anI_InvalidProgram : Option Addr} {k0_InvalidProgram k1_InvalidProgram k2_InvalidProgram k3_InvalidProgram k5_InvalidProgram : Option Value} {ocI_InvalidProgram kVI_InvalidProgram dcI_InvalidProgram pmI_InvalidProgram cdI_InvalidProgram ctI_InvalidProgram : Value} {slI_InvalidProgram : Array (Option Value)}
    {e14 : Addr} {nm_InvalidText q_InvalidText : Str} {N_InvalidText fI_InvalidText : Addr} {bs_InvalidText su_InvalidText : List Value} {sn_InvalidText : List Str} {ab_InvalidText : Bool} {co_InvalidText : Option Bool} {dd_InvalidText odI_InvalidText anI_InvalidText : Option Addr} {k0_InvalidText k1_InvalidText k2_InvalidText k3_InvalidText k5_InvalidText : Option Value} {ocI_InvalidText kVI_InvalidText dcI_InvalidText pmI_InvalidText cdI_InvalidText ctI_InvalidText : Value} {slI_InvalidText : Array (Option Value)}
    {e15 : Addr} {nm_DuplicateName q_DuplicateName : Str} {N_DuplicateName fI_DuplicateName : Addr} {bs_DuplicateName su_DuplicateName : List Value} {sn_DuplicateName : List Str} {ab_DuplicateName : Bool} {co_DuplicateName : Option Bool} {dd_DuplicateName odI_DuplicateName anI_DuplicateName : Option Addr} {k0_DuplicateName k1_DuplicateName k2_DuplicateName k3_DuplicateName k5_DuplicateName : Option Value} {ocI_DuplicateName kVI_DuplicateName dcI_DuplicateName pmI_DuplicateName cdI_DuplicateName ctI_DuplicateName : Value} {slI_DuplicateName : Array (Option Value)}
    {e16 : Addr} {nm_Full q_Full : Str} {N_Full fI_Full : Addr} {bs_Full su_Full : List Value} {sn_Full : List Str} {ab_Full : Bool} {co_Full : Option Bool} {dd_Full odI_Full anI_Full : Option Addr} {k0_Full k1_Full k2_Full k3_Full k5_Full : Option Value} {ocI_Full kVI_Full dcI_Full pmI_Full cdI_Full ctI_Full : Value} {slI_Full : Array (Option Value)}
    {e17 : Addr} {nm_InUse q_InUse : Str} {N_InUse fI_InUse : Addr} {bs_InUse su_InUse : List Value} {sn_InUse : List Str} {ab_InUse : Bool} {co_InUse : Option Bool} {dd_InUse odI_InUse anI_InUse : Option Addr} {k0_InUse k1_InUse k2_InUse k3_InUse k5_InUse : Option Value} {ocI_InUse kVI_InUse dcI_InUse pmI_InUse cdI_InUse ctI_InUse : Value} {slI_InUse : Array (Option Value)}
    {e18 : Addr} {nm_InvalidCommand q_InvalidCommand : Str} {N_InvalidCommand fI_InvalidCommand : Addr} {bs_InvalidCommand su_InvalidCommand : List Value} {sn_InvalidCommand : List Str} {ab_InvalidCommand : Bool} {co_InvalidCommand : Option Bool} {dd_InvalidCommand odI_InvalidCommand anI_InvalidCommand : Option Addr} {k0_InvalidCommand k1_InvalidCommand k2_InvalidCommand k3_InvalidCommand k5_InvalidCommand : Option Value} {ocI_InvalidCommand kVI_InvalidCommand dcI_InvalidCommand pmI_InvalidCommand cdI_InvalidCommand ctI_InvalidCommand : Value} {slI_InvalidCommand : Array (Option Value)}
    {e19 : Addr} {nm_InvalidLimit q_InvalidLimit : Str} {N_InvalidLimit fI_InvalidLimit : Addr} {bs_InvalidLimit su_InvalidLimit : List Value} {sn_InvalidLimit : List Str} {ab_InvalidLimit : Bool} {co_InvalidLimit : Option Bool} {dd_InvalidLimit odI_InvalidLimit anI_InvalidLimit : Option Addr} {k0_InvalidLimit k1_InvalidLimit k2_InvalidLimit k3_InvalidLimit k5_InvalidLimit : Option Value} {ocI_InvalidLimit kVI_InvalidLimit dcI_InvalidLimit pmI_InvalidLimit cdI_InvalidLimit ctI_InvalidLimit : Value} {slI_InvalidLimit : Array (Option Value)}
    {e20 : Addr} {nm_InvalidPage q_InvalidPage : Str} {N_InvalidPage fI_InvalidPage : Addr} {bs_InvalidPage su_InvalidPage : List Value} {sn_InvalidPage : List Str} {ab_InvalidPage : Bool} {co_InvalidPage : Option Bool} {dd_InvalidPage odI_InvalidPage anI_InvalidPage : Option Addr} {k0_InvalidPage k1_InvalidPage k2_InvalidPage k3_InvalidPage k5_InvalidPage : Option Value} {ocI_InvalidPage kVI_InvalidPage dcI_InvalidPage pmI_InvalidPage cdI_InvalidPage ctI_InvalidPage : Value} {slI_InvalidPage : Array (Option Value)}
    {e21 : Addr} {nm_UnknownName q_UnknownName : Str} {N_UnknownName fI_UnknownName : Addr} {bs_UnknownName su_UnknownName : List Value} {sn_UnknownName : List Str} {ab_UnknownName : Bool} {co_UnknownName : Option Bool} {dd_UnknownName odI_UnknownName anI_UnknownName : Option Addr} {k0_UnknownName k1_UnknownName k2_UnknownName k3_UnknownName k5_UnknownName : Option Value} {ocI_UnknownName kVI_UnknownName dcI_UnknownName pmI_UnknownName cdI_UnknownName ctI_UnknownName : Value} {slI_UnknownName : Array (Option Value)}
    {e22 : Addr} {nm_NothingLeft q_NothingLeft : Str} {N_NothingLeft fI_NothingLeft : Addr} {bs_NothingLeft su_NothingLeft : List Value} {sn_NothingLeft : List Str} {ab_NothingLeft : Bool} {co_NothingLeft : Option Bool} {dd_NothingLeft odI_NothingLeft anI_NothingLeft : Option Addr} {k0_NothingLeft k1_NothingLeft k2_NothingLeft k3_NothingLeft k5_NothingLeft : Option Value} {ocI_NothingLeft kVI_NothingLeft dcI_NothingLeft pmI_NothingLeft cdI_NothingLeft ctI_NothingLeft : Value} {slI_NothingLeft : Array (Option Value)}
    (X : K.In h) (G : h.Ns mainGlobals mg) (hfa : mg "law" = some (.ref fa))
    (a1 : PySem.W.nsIn K mainGlobals "_law_bag" = some (some (.ref f1))) (l1 : K.lookup f1 = some ⟨oc1, od1, .func (PySem.W.fnOf "_law_bag" "_law_bag" (defArgs sLBag) (defBody sLBag) (defScope sLBag) .none kV1 dc1 pm1 an1 cd1 ct1), sl1⟩) (c1 : PySem.W.codeIn K cd1 "_law_bag" = true) (k1 : PySem.W.keepIn K (.ref f1) = true)
    (a2 : PySem.W.nsIn K mainGlobals "_law_pull" = some (some (.ref f2))) (l2 : K.lookup f2 = some ⟨oc2, od2, .func (PySem.W.fnOf "_law_pull" "_law_pull" (defArgs sLPull) (defBody sLPull) (defScope sLPull) .none kV2 dc2 pm2 an2 cd2 ct2), sl2⟩) (c2 : PySem.W.codeIn K cd2 "_law_pull" = true) (k2 : PySem.W.keepIn K (.ref f2) = true)
    (a3 : PySem.W.nsIn K mainGlobals "_law_of" = some (some (.ref f3))) (l3 : K.lookup f3 = some ⟨oc3, od3, .func (PySem.W.fnOf "_law_of" "_law_of" (defArgs sLOf) (defBody sLOf) (defScope sLOf) .none kV3 dc3 pm3 an3 cd3 ct3), sl3⟩) (c3 : PySem.W.codeIn K cd3 "_law_of" = true) (k3 : PySem.W.keepIn K (.ref f3) = true)
    (a4 : PySem.W.nsIn K mainGlobals "_law_same" = some (some (.ref f4))) (l4 : K.lookup f4 = some ⟨oc4, od4, .func (PySem.W.fnOf "_law_same" "_law_same" (defArgs sLSame) (defBody sLSame) (defScope sLSame) .none kV4 dc4 pm4 an4 cd4 ct4), sl4⟩) (c4 : PySem.W.codeIn K cd4 "_law_same" = true) (k4 : PySem.W.keepIn K (.ref f4) = true)
    (a5 : PySem.W.nsIn K mainGlobals "_law_field" = some (some (.ref f5))) (l5 : K.lookup f5 = some ⟨oc5, od5, .func (PySem.W.fnOf "_law_field" "_law_field" (defArgs sLField) (defBody sLField) (defScope sLField) .none kV5 dc5 pm5 an5 cd5 ct5), sl5⟩) (c5 : PySem.W.codeIn K cd5 "_law_field" = true) (k5 : PySem.W.keepIn K (.ref f5) = true)
    (a6 : PySem.W.nsIn K mainGlobals "_law_kinds_of" = some (some (.ref f6))) (l6 : K.lookup f6 = some ⟨oc6, od6, .func (PySem.W.fnOf "_law_kinds_of" "_law_kinds_of" (defArgs sLKindsOf) (defBody sLKindsOf) (defScope sLKindsOf) .none kV6 dc6 pm6 an6 cd6 ct6), sl6⟩) (c6 : PySem.W.codeIn K cd6 "_law_kinds_of" = true) (k6 : PySem.W.keepIn K (.ref f6) = true)
    (a7 : PySem.W.nsIn K mainGlobals "_law_codes" = some (some (.ref f7))) (l7 : K.lookup f7 = some ⟨oc7, od7, .func (PySem.W.fnOf "_law_codes" "_law_codes" (defArgs sLCodes) (defBody sLCodes) (defScope sLCodes) .none kV7 dc7 pm7 an7 cd7 ct7), sl7⟩) (c7 : PySem.W.codeIn K cd7 "_law_codes" = true) (k7 : PySem.W.keepIn K (.ref f7) = true)
    (a8 : PySem.W.nsIn K mainGlobals "_law_made" = some (some (.ref f8))) (l8 : K.lookup f8 = some ⟨oc8, od8, .func (PySem.W.fnOf "_law_made" "_law_made" (defArgs sLMade) (defBody sLMade) (defScope sLMade) .none kV8 dc8 pm8 an8 cd8 ct8), sl8⟩) (c8 : PySem.W.codeIn K cd8 "_law_made" = true) (k8 : PySem.W.keepIn K (.ref f8) = true)
    (a9 : PySem.W.nsIn K mainGlobals "_law_named" = some (some (.ref f9))) (l9 : K.lookup f9 = some ⟨oc9, od9, .func (PySem.W.fnOf "_law_named" "_law_named" (defArgs sLNamed) (defBody sLNamed) (defScope sLNamed) .none kV9 dc9 pm9 an9 cd9 ct9), sl9⟩) (c9 : PySem.W.codeIn K cd9 "_law_named" = true) (k9 : PySem.W.keepIn K (.ref f9) = true)
    (a10 : PySem.W.nsIn K mainGlobals "law" = some (some (.ref f10))) (l10 : K.lookup f10 = some ⟨oc10, od10, .func (PySem.W.fnOf "law" "law" (defArgs sLaw) (defBody sLaw) (defScope sLaw) .none kV10 dc10 pm10 an10 cd10 ct10), sl10⟩) (c10 : PySem.W.codeIn K cd10 "law" = true) (k10 : PySem.W.keepIn K (.ref f10) = true)
    (z_isinstance : PySem.W.nsIn K mainGlobals "isinstance" = some none)
    (z_int : PySem.W.nsIn K mainGlobals "int" = some none)
    (z_bool : PySem.W.nsIn K mainGlobals "bool" = some none)
    (z_str : PySem.W.nsIn K mainGlobals "str" = some none)
    (z_list : PySem.W.nsIn K mainGlobals "list" = some none)
    (z_tuple : PySem.W.nsIn K mainGlobals "tuple" = some none)
    (z_len : PySem.W.nsIn K mainGlobals "len" = some none)
    (z_abs : PySem.W.nsIn K mainGlobals "abs" = some none)
    (z_all : PySem.W.nsIn K mainGlobals "all" = some none)
    (z_range : PySem.W.nsIn K mainGlobals "range" = some none)
    (z_zip : PySem.W.nsIn K mainGlobals "zip" = some none)
    (z_ValueError : PySem.W.nsIn K mainGlobals "ValueError" = some none)
    (z_LookupError : PySem.W.nsIn K mainGlobals "LookupError" = some none)
    (z_IndexError : PySem.W.nsIn K mainGlobals "IndexError" = some none)
    (a_PlaneError : PySem.W.nsIn K mainGlobals "PlaneError" = some (some (.ref cPE)))
    (ci_PlaneError : PySem.W.clsIn K cPE = some cl_PlaneError)
    (yt_PlaneError : PySem.W.typeIn K (.ref cPE) = some (.type "type"))
    (a_Missing : PySem.W.nsIn K mainGlobals "Missing" = some (some (.ref cMI)))
    (ci_Missing : PySem.W.clsIn K cMI = some cl_Missing)
    (yt_Missing : PySem.W.typeIn K (.ref cMI) = some (.type "type"))
    (sp_ : PySem.W.specialIn K (.builtin "object.__class__") "__get__" = some (some (.builtin "getset_descriptor.__get__")))
    (tk_ : PySem.W.takesIn K (.builtin "object.__class__") = some true)
    (a_InvalidNumber : PySem.W.nsIn K mainGlobals "InvalidNumber" = some (some (.ref e0)))
    (o_InvalidNumber : K.lookup e0 = some (excClassObj nm_InvalidNumber q_InvalidNumber e0 N_InvalidNumber bs_InvalidNumber ([cPE].map Value.ref ++ tVE) true sn_InvalidNumber su_InvalidNumber ab_InvalidNumber co_InvalidNumber dd_InvalidNumber k0_InvalidNumber k1_InvalidNumber k2_InvalidNumber k3_InvalidNumber k5_InvalidNumber "ValueError.__new__"))
    (sa_InvalidNumber : PySem.W.findIn K (.ref e0) "__setattr__" = some (some (.builtin "object.__setattr__")))
    (ex_InvalidNumber : PySem.W.subIn K (.ref e0) (.type "BaseException") = some true)
    (ty_InvalidNumber : PySem.W.typeIn K (.ref e0) = some (.type "type"))
    (kc_InvalidNumber : PySem.W.keepIn K (.ref e0) = true)
    (ga_InvalidNumber : PySem.W.findIn K (.ref e0) "__getattribute__" = some (some (.builtin "BaseException.__getattribute__")))
    (gg_InvalidNumber : PySem.W.findIn K (.ref e0) "__getattr__" = some none)
    (hd_InvalidNumber : PySem.W.hasDictIn K e0 = true)
    (ca_InvalidNumber : PySem.W.findIn K (.ref e0) "__class__" = some (some (.builtin "object.__class__")))
    (iI_InvalidNumber : PySem.W.findIn K (.ref e0) "__init__" = some (some (.ref fI_InvalidNumber)))
    (tI_InvalidNumber : PySem.W.typeIn K (.ref fI_InvalidNumber) = some (.type "function"))
    (lI_InvalidNumber : K.lookup fI_InvalidNumber = some ⟨ocI_InvalidNumber, odI_InvalidNumber, .func (PySem.W.fnOf "__init__" "InvalidNumber.__init__" (defArgs sInvalidNumber_init) (defBody sInvalidNumber_init) (defScope sInvalidNumber_init) .none kVI_InvalidNumber dcI_InvalidNumber pmI_InvalidNumber anI_InvalidNumber cdI_InvalidNumber ctI_InvalidNumber), slI_InvalidNumber⟩)
    (cI_InvalidNumber : PySem.W.codeIn K cdI_InvalidNumber "InvalidNumber.__init__" = true)
    (kI_InvalidNumber : PySem.W.keepIn K (.ref fI_InvalidNumber) = true)
    (f0_InvalidNumber : PySem.W.findIn K (.ref e0) "code" = some none)
    (f1_InvalidNumber : PySem.W.findIn K (.ref e0) "given" = some none)
    (a_InvalidRatio : PySem.W.nsIn K mainGlobals "InvalidRatio" = some (some (.ref e1)))
    (o_InvalidRatio : K.lookup e1 = some (excClassObj nm_InvalidRatio q_InvalidRatio e1 N_InvalidRatio bs_InvalidRatio ([cPE].map Value.ref ++ tVE) true sn_InvalidRatio su_InvalidRatio ab_InvalidRatio co_InvalidRatio dd_InvalidRatio k0_InvalidRatio k1_InvalidRatio k2_InvalidRatio k3_InvalidRatio k5_InvalidRatio "ValueError.__new__"))
    (sa_InvalidRatio : PySem.W.findIn K (.ref e1) "__setattr__" = some (some (.builtin "object.__setattr__")))
    (ex_InvalidRatio : PySem.W.subIn K (.ref e1) (.type "BaseException") = some true)
    (ty_InvalidRatio : PySem.W.typeIn K (.ref e1) = some (.type "type"))
    (kc_InvalidRatio : PySem.W.keepIn K (.ref e1) = true)
    (ga_InvalidRatio : PySem.W.findIn K (.ref e1) "__getattribute__" = some (some (.builtin "BaseException.__getattribute__")))
    (gg_InvalidRatio : PySem.W.findIn K (.ref e1) "__getattr__" = some none)
    (hd_InvalidRatio : PySem.W.hasDictIn K e1 = true)
    (ca_InvalidRatio : PySem.W.findIn K (.ref e1) "__class__" = some (some (.builtin "object.__class__")))
    (iI_InvalidRatio : PySem.W.findIn K (.ref e1) "__init__" = some (some (.ref fI_InvalidRatio)))
    (tI_InvalidRatio : PySem.W.typeIn K (.ref fI_InvalidRatio) = some (.type "function"))
    (lI_InvalidRatio : K.lookup fI_InvalidRatio = some ⟨ocI_InvalidRatio, odI_InvalidRatio, .func (PySem.W.fnOf "__init__" "InvalidRatio.__init__" (defArgs sInvalidRatio_init) (defBody sInvalidRatio_init) (defScope sInvalidRatio_init) .none kVI_InvalidRatio dcI_InvalidRatio pmI_InvalidRatio anI_InvalidRatio cdI_InvalidRatio ctI_InvalidRatio), slI_InvalidRatio⟩)
    (cI_InvalidRatio : PySem.W.codeIn K cdI_InvalidRatio "InvalidRatio.__init__" = true)
    (kI_InvalidRatio : PySem.W.keepIn K (.ref fI_InvalidRatio) = true)
    (f0_InvalidRatio : PySem.W.findIn K (.ref e1) "code" = some none)
    (f1_InvalidRatio : PySem.W.findIn K (.ref e1) "given" = some none)
    (a_InvalidPoint : PySem.W.nsIn K mainGlobals "InvalidPoint" = some (some (.ref e2)))
    (o_InvalidPoint : K.lookup e2 = some (excClassObj nm_InvalidPoint q_InvalidPoint e2 N_InvalidPoint bs_InvalidPoint ([cPE].map Value.ref ++ tVE) true sn_InvalidPoint su_InvalidPoint ab_InvalidPoint co_InvalidPoint dd_InvalidPoint k0_InvalidPoint k1_InvalidPoint k2_InvalidPoint k3_InvalidPoint k5_InvalidPoint "ValueError.__new__"))
    (sa_InvalidPoint : PySem.W.findIn K (.ref e2) "__setattr__" = some (some (.builtin "object.__setattr__")))
    (ex_InvalidPoint : PySem.W.subIn K (.ref e2) (.type "BaseException") = some true)
    (ty_InvalidPoint : PySem.W.typeIn K (.ref e2) = some (.type "type"))
    (kc_InvalidPoint : PySem.W.keepIn K (.ref e2) = true)
    (ga_InvalidPoint : PySem.W.findIn K (.ref e2) "__getattribute__" = some (some (.builtin "BaseException.__getattribute__")))
    (gg_InvalidPoint : PySem.W.findIn K (.ref e2) "__getattr__" = some none)
    (hd_InvalidPoint : PySem.W.hasDictIn K e2 = true)
    (ca_InvalidPoint : PySem.W.findIn K (.ref e2) "__class__" = some (some (.builtin "object.__class__")))
    (iI_InvalidPoint : PySem.W.findIn K (.ref e2) "__init__" = some (some (.ref fI_InvalidPoint)))
    (tI_InvalidPoint : PySem.W.typeIn K (.ref fI_InvalidPoint) = some (.type "function"))
    (lI_InvalidPoint : K.lookup fI_InvalidPoint = some ⟨ocI_InvalidPoint, odI_InvalidPoint, .func (PySem.W.fnOf "__init__" "InvalidPoint.__init__" (defArgs sInvalidPoint_init) (defBody sInvalidPoint_init) (defScope sInvalidPoint_init) .none kVI_InvalidPoint dcI_InvalidPoint pmI_InvalidPoint anI_InvalidPoint cdI_InvalidPoint ctI_InvalidPoint), slI_InvalidPoint⟩)
    (cI_InvalidPoint : PySem.W.codeIn K cdI_InvalidPoint "InvalidPoint.__init__" = true)
    (kI_InvalidPoint : PySem.W.keepIn K (.ref fI_InvalidPoint) = true)
    (f0_InvalidPoint : PySem.W.findIn K (.ref e2) "code" = some none)
    (f1_InvalidPoint : PySem.W.findIn K (.ref e2) "given" = some none)
    (a_InvalidTerm : PySem.W.nsIn K mainGlobals "InvalidTerm" = some (some (.ref e3)))
    (o_InvalidTerm : K.lookup e3 = some (excClassObj nm_InvalidTerm q_InvalidTerm e3 N_InvalidTerm bs_InvalidTerm ([cPE].map Value.ref ++ tVE) true sn_InvalidTerm su_InvalidTerm ab_InvalidTerm co_InvalidTerm dd_InvalidTerm k0_InvalidTerm k1_InvalidTerm k2_InvalidTerm k3_InvalidTerm k5_InvalidTerm "ValueError.__new__"))
    (sa_InvalidTerm : PySem.W.findIn K (.ref e3) "__setattr__" = some (some (.builtin "object.__setattr__")))
    (ex_InvalidTerm : PySem.W.subIn K (.ref e3) (.type "BaseException") = some true)
    (ty_InvalidTerm : PySem.W.typeIn K (.ref e3) = some (.type "type"))
    (kc_InvalidTerm : PySem.W.keepIn K (.ref e3) = true)
    (ga_InvalidTerm : PySem.W.findIn K (.ref e3) "__getattribute__" = some (some (.builtin "BaseException.__getattribute__")))
    (gg_InvalidTerm : PySem.W.findIn K (.ref e3) "__getattr__" = some none)
    (hd_InvalidTerm : PySem.W.hasDictIn K e3 = true)
    (ca_InvalidTerm : PySem.W.findIn K (.ref e3) "__class__" = some (some (.builtin "object.__class__")))
    (iI_InvalidTerm : PySem.W.findIn K (.ref e3) "__init__" = some (some (.ref fI_InvalidTerm)))
    (tI_InvalidTerm : PySem.W.typeIn K (.ref fI_InvalidTerm) = some (.type "function"))
    (lI_InvalidTerm : K.lookup fI_InvalidTerm = some ⟨ocI_InvalidTerm, odI_InvalidTerm, .func (PySem.W.fnOf "__init__" "InvalidTerm.__init__" (defArgs sInvalidTerm_init) (defBody sInvalidTerm_init) (defScope sInvalidTerm_init) .none kVI_InvalidTerm dcI_InvalidTerm pmI_InvalidTerm anI_InvalidTerm cdI_InvalidTerm ctI_InvalidTerm), slI_InvalidTerm⟩)
    (cI_InvalidTerm : PySem.W.codeIn K cdI_InvalidTerm "InvalidTerm.__init__" = true)
    (kI_InvalidTerm : PySem.W.keepIn K (.ref fI_InvalidTerm) = true)
    (f0_InvalidTerm : PySem.W.findIn K (.ref e3) "code" = some none)
    (f1_InvalidTerm : PySem.W.findIn K (.ref e3) "at" = some none)
    (a_InvalidLetter : PySem.W.nsIn K mainGlobals "InvalidLetter" = some (some (.ref e4)))
    (o_InvalidLetter : K.lookup e4 = some (excClassObj nm_InvalidLetter q_InvalidLetter e4 N_InvalidLetter bs_InvalidLetter ([cPE].map Value.ref ++ tVE) true sn_InvalidLetter su_InvalidLetter ab_InvalidLetter co_InvalidLetter dd_InvalidLetter k0_InvalidLetter k1_InvalidLetter k2_InvalidLetter k3_InvalidLetter k5_InvalidLetter "ValueError.__new__"))
    (sa_InvalidLetter : PySem.W.findIn K (.ref e4) "__setattr__" = some (some (.builtin "object.__setattr__")))
    (ex_InvalidLetter : PySem.W.subIn K (.ref e4) (.type "BaseException") = some true)
    (ty_InvalidLetter : PySem.W.typeIn K (.ref e4) = some (.type "type"))
    (kc_InvalidLetter : PySem.W.keepIn K (.ref e4) = true)
    (ga_InvalidLetter : PySem.W.findIn K (.ref e4) "__getattribute__" = some (some (.builtin "BaseException.__getattribute__")))
    (gg_InvalidLetter : PySem.W.findIn K (.ref e4) "__getattr__" = some none)
    (hd_InvalidLetter : PySem.W.hasDictIn K e4 = true)
    (ca_InvalidLetter : PySem.W.findIn K (.ref e4) "__class__" = some (some (.builtin "object.__class__")))
    (iI_InvalidLetter : PySem.W.findIn K (.ref e4) "__init__" = some (some (.ref fI_InvalidLetter)))
    (tI_InvalidLetter : PySem.W.typeIn K (.ref fI_InvalidLetter) = some (.type "function"))
    (lI_InvalidLetter : K.lookup fI_InvalidLetter = some ⟨ocI_InvalidLetter, odI_InvalidLetter, .func (PySem.W.fnOf "__init__" "InvalidLetter.__init__" (defArgs sInvalidLetter_init) (defBody sInvalidLetter_init) (defScope sInvalidLetter_init) .none kVI_InvalidLetter dcI_InvalidLetter pmI_InvalidLetter anI_InvalidLetter cdI_InvalidLetter ctI_InvalidLetter), slI_InvalidLetter⟩)
    (cI_InvalidLetter : PySem.W.codeIn K cdI_InvalidLetter "InvalidLetter.__init__" = true)
    (kI_InvalidLetter : PySem.W.keepIn K (.ref fI_InvalidLetter) = true)
    (f0_InvalidLetter : PySem.W.findIn K (.ref e4) "code" = some none)
    (f1_InvalidLetter : PySem.W.findIn K (.ref e4) "given" = some none)
    (a_ZeroDivisor : PySem.W.nsIn K mainGlobals "ZeroDivisor" = some (some (.ref e5)))
    (o_ZeroDivisor : K.lookup e5 = some (excClassObj nm_ZeroDivisor q_ZeroDivisor e5 N_ZeroDivisor bs_ZeroDivisor ([cPE].map Value.ref ++ tVE) true sn_ZeroDivisor su_ZeroDivisor ab_ZeroDivisor co_ZeroDivisor dd_ZeroDivisor k0_ZeroDivisor k1_ZeroDivisor k2_ZeroDivisor k3_ZeroDivisor k5_ZeroDivisor "ValueError.__new__"))
    (sa_ZeroDivisor : PySem.W.findIn K (.ref e5) "__setattr__" = some (some (.builtin "object.__setattr__")))
    (ex_ZeroDivisor : PySem.W.subIn K (.ref e5) (.type "BaseException") = some true)
    (ty_ZeroDivisor : PySem.W.typeIn K (.ref e5) = some (.type "type"))
    (kc_ZeroDivisor : PySem.W.keepIn K (.ref e5) = true)
    (ga_ZeroDivisor : PySem.W.findIn K (.ref e5) "__getattribute__" = some (some (.builtin "BaseException.__getattribute__")))
    (gg_ZeroDivisor : PySem.W.findIn K (.ref e5) "__getattr__" = some none)
    (hd_ZeroDivisor : PySem.W.hasDictIn K e5 = true)
    (ca_ZeroDivisor : PySem.W.findIn K (.ref e5) "__class__" = some (some (.builtin "object.__class__")))
    (iI_ZeroDivisor : PySem.W.findIn K (.ref e5) "__init__" = some (some (.ref fI_ZeroDivisor)))
    (tI_ZeroDivisor : PySem.W.typeIn K (.ref fI_ZeroDivisor) = some (.type "function"))
    (lI_ZeroDivisor : K.lookup fI_ZeroDivisor = some ⟨ocI_ZeroDivisor, odI_ZeroDivisor, .func (PySem.W.fnOf "__init__" "ZeroDivisor.__init__" (defArgs sZeroDivisor_init) (defBody sZeroDivisor_init) (defScope sZeroDivisor_init) .none kVI_ZeroDivisor dcI_ZeroDivisor pmI_ZeroDivisor anI_ZeroDivisor cdI_ZeroDivisor ctI_ZeroDivisor), slI_ZeroDivisor⟩)
    (cI_ZeroDivisor : PySem.W.codeIn K cdI_ZeroDivisor "ZeroDivisor.__init__" = true)
    (kI_ZeroDivisor : PySem.W.keepIn K (.ref fI_ZeroDivisor) = true)
    (f0_ZeroDivisor : PySem.W.findIn K (.ref e5) "code" = some none)
    (a_ZeroPolynomial : PySem.W.nsIn K mainGlobals "ZeroPolynomial" = some (some (.ref e6)))
    (o_ZeroPolynomial : K.lookup e6 = some (excClassObj nm_ZeroPolynomial q_ZeroPolynomial e6 N_ZeroPolynomial bs_ZeroPolynomial ([cPE].map Value.ref ++ tVE) true sn_ZeroPolynomial su_ZeroPolynomial ab_ZeroPolynomial co_ZeroPolynomial dd_ZeroPolynomial k0_ZeroPolynomial k1_ZeroPolynomial k2_ZeroPolynomial k3_ZeroPolynomial k5_ZeroPolynomial "ValueError.__new__"))
    (sa_ZeroPolynomial : PySem.W.findIn K (.ref e6) "__setattr__" = some (some (.builtin "object.__setattr__")))
    (ex_ZeroPolynomial : PySem.W.subIn K (.ref e6) (.type "BaseException") = some true)
    (ty_ZeroPolynomial : PySem.W.typeIn K (.ref e6) = some (.type "type"))
    (kc_ZeroPolynomial : PySem.W.keepIn K (.ref e6) = true)
    (ga_ZeroPolynomial : PySem.W.findIn K (.ref e6) "__getattribute__" = some (some (.builtin "BaseException.__getattribute__")))
    (gg_ZeroPolynomial : PySem.W.findIn K (.ref e6) "__getattr__" = some none)
    (hd_ZeroPolynomial : PySem.W.hasDictIn K e6 = true)
    (ca_ZeroPolynomial : PySem.W.findIn K (.ref e6) "__class__" = some (some (.builtin "object.__class__")))
    (iI_ZeroPolynomial : PySem.W.findIn K (.ref e6) "__init__" = some (some (.ref fI_ZeroPolynomial)))
    (tI_ZeroPolynomial : PySem.W.typeIn K (.ref fI_ZeroPolynomial) = some (.type "function"))
    (lI_ZeroPolynomial : K.lookup fI_ZeroPolynomial = some ⟨ocI_ZeroPolynomial, odI_ZeroPolynomial, .func (PySem.W.fnOf "__init__" "ZeroPolynomial.__init__" (defArgs sZeroPolynomial_init) (defBody sZeroPolynomial_init) (defScope sZeroPolynomial_init) .none kVI_ZeroPolynomial dcI_ZeroPolynomial pmI_ZeroPolynomial anI_ZeroPolynomial cdI_ZeroPolynomial ctI_ZeroPolynomial), slI_ZeroPolynomial⟩)
    (cI_ZeroPolynomial : PySem.W.codeIn K cdI_ZeroPolynomial "ZeroPolynomial.__init__" = true)
    (kI_ZeroPolynomial : PySem.W.keepIn K (.ref fI_ZeroPolynomial) = true)
    (f0_ZeroPolynomial : PySem.W.findIn K (.ref e6) "code" = some none)
    (a_NotDivisible : PySem.W.nsIn K mainGlobals "NotDivisible" = some (some (.ref e7)))
    (o_NotDivisible : K.lookup e7 = some (excClassObj nm_NotDivisible q_NotDivisible e7 N_NotDivisible bs_NotDivisible ([cPE].map Value.ref ++ tVE) true sn_NotDivisible su_NotDivisible ab_NotDivisible co_NotDivisible dd_NotDivisible k0_NotDivisible k1_NotDivisible k2_NotDivisible k3_NotDivisible k5_NotDivisible "ValueError.__new__"))
    (sa_NotDivisible : PySem.W.findIn K (.ref e7) "__setattr__" = some (some (.builtin "object.__setattr__")))
    (ex_NotDivisible : PySem.W.subIn K (.ref e7) (.type "BaseException") = some true)
    (ty_NotDivisible : PySem.W.typeIn K (.ref e7) = some (.type "type"))
    (kc_NotDivisible : PySem.W.keepIn K (.ref e7) = true)
    (ga_NotDivisible : PySem.W.findIn K (.ref e7) "__getattribute__" = some (some (.builtin "BaseException.__getattribute__")))
    (gg_NotDivisible : PySem.W.findIn K (.ref e7) "__getattr__" = some none)
    (hd_NotDivisible : PySem.W.hasDictIn K e7 = true)
    (ca_NotDivisible : PySem.W.findIn K (.ref e7) "__class__" = some (some (.builtin "object.__class__")))
    (iI_NotDivisible : PySem.W.findIn K (.ref e7) "__init__" = some (some (.ref fI_NotDivisible)))
    (tI_NotDivisible : PySem.W.typeIn K (.ref fI_NotDivisible) = some (.type "function"))
    (lI_NotDivisible : K.lookup fI_NotDivisible = some ⟨ocI_NotDivisible, odI_NotDivisible, .func (PySem.W.fnOf "__init__" "NotDivisible.__init__" (defArgs sNotDivisible_init) (defBody sNotDivisible_init) (defScope sNotDivisible_init) .none kVI_NotDivisible dcI_NotDivisible pmI_NotDivisible anI_NotDivisible cdI_NotDivisible ctI_NotDivisible), slI_NotDivisible⟩)
    (cI_NotDivisible : PySem.W.codeIn K cdI_NotDivisible "NotDivisible.__init__" = true)
    (kI_NotDivisible : PySem.W.keepIn K (.ref fI_NotDivisible) = true)
    (f0_NotDivisible : PySem.W.findIn K (.ref e7) "code" = some none)
    (a_NoRoot : PySem.W.nsIn K mainGlobals "NoRoot" = some (some (.ref e8)))
    (o_NoRoot : K.lookup e8 = some (excClassObj nm_NoRoot q_NoRoot e8 N_NoRoot bs_NoRoot ([cPE].map Value.ref ++ tVE) true sn_NoRoot su_NoRoot ab_NoRoot co_NoRoot dd_NoRoot k0_NoRoot k1_NoRoot k2_NoRoot k3_NoRoot k5_NoRoot "ValueError.__new__"))
    (sa_NoRoot : PySem.W.findIn K (.ref e8) "__setattr__" = some (some (.builtin "object.__setattr__")))
    (ex_NoRoot : PySem.W.subIn K (.ref e8) (.type "BaseException") = some true)
    (ty_NoRoot : PySem.W.typeIn K (.ref e8) = some (.type "type"))
    (kc_NoRoot : PySem.W.keepIn K (.ref e8) = true)
    (ga_NoRoot : PySem.W.findIn K (.ref e8) "__getattribute__" = some (some (.builtin "BaseException.__getattribute__")))
    (gg_NoRoot : PySem.W.findIn K (.ref e8) "__getattr__" = some none)
    (hd_NoRoot : PySem.W.hasDictIn K e8 = true)
    (ca_NoRoot : PySem.W.findIn K (.ref e8) "__class__" = some (some (.builtin "object.__class__")))
    (iI_NoRoot : PySem.W.findIn K (.ref e8) "__init__" = some (some (.ref fI_NoRoot)))
    (tI_NoRoot : PySem.W.typeIn K (.ref fI_NoRoot) = some (.type "function"))
    (lI_NoRoot : K.lookup fI_NoRoot = some ⟨ocI_NoRoot, odI_NoRoot, .func (PySem.W.fnOf "__init__" "NoRoot.__init__" (defArgs sNoRoot_init) (defBody sNoRoot_init) (defScope sNoRoot_init) .none kVI_NoRoot dcI_NoRoot pmI_NoRoot anI_NoRoot cdI_NoRoot ctI_NoRoot), slI_NoRoot⟩)
    (cI_NoRoot : PySem.W.codeIn K cdI_NoRoot "NoRoot.__init__" = true)
    (kI_NoRoot : PySem.W.keepIn K (.ref fI_NoRoot) = true)
    (f0_NoRoot : PySem.W.findIn K (.ref e8) "code" = some none)
    (f1_NoRoot : PySem.W.findIn K (.ref e8) "index" = some none)
    (a_NoPlace : PySem.W.nsIn K mainGlobals "NoPlace" = some (some (.ref e9)))
    (o_NoPlace : K.lookup e9 = some (excClassObj nm_NoPlace q_NoPlace e9 N_NoPlace bs_NoPlace ([cPE].map Value.ref ++ tVE) true sn_NoPlace su_NoPlace ab_NoPlace co_NoPlace dd_NoPlace k0_NoPlace k1_NoPlace k2_NoPlace k3_NoPlace k5_NoPlace "ValueError.__new__"))
    (sa_NoPlace : PySem.W.findIn K (.ref e9) "__setattr__" = some (some (.builtin "object.__setattr__")))
    (ex_NoPlace : PySem.W.subIn K (.ref e9) (.type "BaseException") = some true)
    (ty_NoPlace : PySem.W.typeIn K (.ref e9) = some (.type "type"))
    (kc_NoPlace : PySem.W.keepIn K (.ref e9) = true)
    (ga_NoPlace : PySem.W.findIn K (.ref e9) "__getattribute__" = some (some (.builtin "BaseException.__getattribute__")))
    (gg_NoPlace : PySem.W.findIn K (.ref e9) "__getattr__" = some none)
    (hd_NoPlace : PySem.W.hasDictIn K e9 = true)
    (ca_NoPlace : PySem.W.findIn K (.ref e9) "__class__" = some (some (.builtin "object.__class__")))
    (iI_NoPlace : PySem.W.findIn K (.ref e9) "__init__" = some (some (.ref fI_NoPlace)))
    (tI_NoPlace : PySem.W.typeIn K (.ref fI_NoPlace) = some (.type "function"))
    (lI_NoPlace : K.lookup fI_NoPlace = some ⟨ocI_NoPlace, odI_NoPlace, .func (PySem.W.fnOf "__init__" "NoPlace.__init__" (defArgs sNoPlace_init) (defBody sNoPlace_init) (defScope sNoPlace_init) .none kVI_NoPlace dcI_NoPlace pmI_NoPlace anI_NoPlace cdI_NoPlace ctI_NoPlace), slI_NoPlace⟩)
    (cI_NoPlace : PySem.W.codeIn K cdI_NoPlace "NoPlace.__init__" = true)
    (kI_NoPlace : PySem.W.keepIn K (.ref fI_NoPlace) = true)
    (f0_NoPlace : PySem.W.findIn K (.ref e9) "code" = some none)
    (f1_NoPlace : PySem.W.findIn K (.ref e9) "given" = some none)
    (a_OutOfBox : PySem.W.nsIn K mainGlobals "OutOfBox" = some (some (.ref e10)))
    (o_OutOfBox : K.lookup e10 = some (excClassObj nm_OutOfBox q_OutOfBox e10 N_OutOfBox bs_OutOfBox ([cPE].map Value.ref ++ tVE) true sn_OutOfBox su_OutOfBox ab_OutOfBox co_OutOfBox dd_OutOfBox k0_OutOfBox k1_OutOfBox k2_OutOfBox k3_OutOfBox k5_OutOfBox "ValueError.__new__"))
    (sa_OutOfBox : PySem.W.findIn K (.ref e10) "__setattr__" = some (some (.builtin "object.__setattr__")))
    (ex_OutOfBox : PySem.W.subIn K (.ref e10) (.type "BaseException") = some true)
    (ty_OutOfBox : PySem.W.typeIn K (.ref e10) = some (.type "type"))
    (kc_OutOfBox : PySem.W.keepIn K (.ref e10) = true)
    (ga_OutOfBox : PySem.W.findIn K (.ref e10) "__getattribute__" = some (some (.builtin "BaseException.__getattribute__")))
    (gg_OutOfBox : PySem.W.findIn K (.ref e10) "__getattr__" = some none)
    (hd_OutOfBox : PySem.W.hasDictIn K e10 = true)
    (ca_OutOfBox : PySem.W.findIn K (.ref e10) "__class__" = some (some (.builtin "object.__class__")))
    (iI_OutOfBox : PySem.W.findIn K (.ref e10) "__init__" = some (some (.ref fI_OutOfBox)))
    (tI_OutOfBox : PySem.W.typeIn K (.ref fI_OutOfBox) = some (.type "function"))
    (lI_OutOfBox : K.lookup fI_OutOfBox = some ⟨ocI_OutOfBox, odI_OutOfBox, .func (PySem.W.fnOf "__init__" "OutOfBox.__init__" (defArgs sOutOfBox_init) (defBody sOutOfBox_init) (defScope sOutOfBox_init) .none kVI_OutOfBox dcI_OutOfBox pmI_OutOfBox anI_OutOfBox cdI_OutOfBox ctI_OutOfBox), slI_OutOfBox⟩)
    (cI_OutOfBox : PySem.W.codeIn K cdI_OutOfBox "OutOfBox.__init__" = true)
    (kI_OutOfBox : PySem.W.keepIn K (.ref fI_OutOfBox) = true)
    (f0_OutOfBox : PySem.W.findIn K (.ref e10) "code" = some none)
    (f1_OutOfBox : PySem.W.findIn K (.ref e10) "given" = some none)
    (a_NoValue : PySem.W.nsIn K mainGlobals "NoValue" = some (some (.ref e11)))
    (o_NoValue : K.lookup e11 = some (excClassObj nm_NoValue q_NoValue e11 N_NoValue bs_NoValue ([cPE].map Value.ref ++ tVE) true sn_NoValue su_NoValue ab_NoValue co_NoValue dd_NoValue k0_NoValue k1_NoValue k2_NoValue k3_NoValue k5_NoValue "ValueError.__new__"))
    (sa_NoValue : PySem.W.findIn K (.ref e11) "__setattr__" = some (some (.builtin "object.__setattr__")))
    (ex_NoValue : PySem.W.subIn K (.ref e11) (.type "BaseException") = some true)
    (ty_NoValue : PySem.W.typeIn K (.ref e11) = some (.type "type"))
    (kc_NoValue : PySem.W.keepIn K (.ref e11) = true)
    (ga_NoValue : PySem.W.findIn K (.ref e11) "__getattribute__" = some (some (.builtin "BaseException.__getattribute__")))
    (gg_NoValue : PySem.W.findIn K (.ref e11) "__getattr__" = some none)
    (hd_NoValue : PySem.W.hasDictIn K e11 = true)
    (ca_NoValue : PySem.W.findIn K (.ref e11) "__class__" = some (some (.builtin "object.__class__")))
    (iI_NoValue : PySem.W.findIn K (.ref e11) "__init__" = some (some (.ref fI_NoValue)))
    (tI_NoValue : PySem.W.typeIn K (.ref fI_NoValue) = some (.type "function"))
    (lI_NoValue : K.lookup fI_NoValue = some ⟨ocI_NoValue, odI_NoValue, .func (PySem.W.fnOf "__init__" "NoValue.__init__" (defArgs sNoValue_init) (defBody sNoValue_init) (defScope sNoValue_init) .none kVI_NoValue dcI_NoValue pmI_NoValue anI_NoValue cdI_NoValue ctI_NoValue), slI_NoValue⟩)
    (cI_NoValue : PySem.W.codeIn K cdI_NoValue "NoValue.__init__" = true)
    (kI_NoValue : PySem.W.keepIn K (.ref fI_NoValue) = true)
    (f0_NoValue : PySem.W.findIn K (.ref e11) "code" = some none)
    (a_InvalidName : PySem.W.nsIn K mainGlobals "InvalidName" = some (some (.ref e12)))
    (o_InvalidName : K.lookup e12 = some (excClassObj nm_InvalidName q_InvalidName e12 N_InvalidName bs_InvalidName ([cPE].map Value.ref ++ tVE) true sn_InvalidName su_InvalidName ab_InvalidName co_InvalidName dd_InvalidName k0_InvalidName k1_InvalidName k2_InvalidName k3_InvalidName k5_InvalidName "ValueError.__new__"))
    (sa_InvalidName : PySem.W.findIn K (.ref e12) "__setattr__" = some (some (.builtin "object.__setattr__")))
    (ex_InvalidName : PySem.W.subIn K (.ref e12) (.type "BaseException") = some true)
    (ty_InvalidName : PySem.W.typeIn K (.ref e12) = some (.type "type"))
    (kc_InvalidName : PySem.W.keepIn K (.ref e12) = true)
    (ga_InvalidName : PySem.W.findIn K (.ref e12) "__getattribute__" = some (some (.builtin "BaseException.__getattribute__")))
    (gg_InvalidName : PySem.W.findIn K (.ref e12) "__getattr__" = some none)
    (hd_InvalidName : PySem.W.hasDictIn K e12 = true)
    (ca_InvalidName : PySem.W.findIn K (.ref e12) "__class__" = some (some (.builtin "object.__class__")))
    (iI_InvalidName : PySem.W.findIn K (.ref e12) "__init__" = some (some (.ref fI_InvalidName)))
    (tI_InvalidName : PySem.W.typeIn K (.ref fI_InvalidName) = some (.type "function"))
    (lI_InvalidName : K.lookup fI_InvalidName = some ⟨ocI_InvalidName, odI_InvalidName, .func (PySem.W.fnOf "__init__" "InvalidName.__init__" (defArgs sInvalidName_init) (defBody sInvalidName_init) (defScope sInvalidName_init) .none kVI_InvalidName dcI_InvalidName pmI_InvalidName anI_InvalidName cdI_InvalidName ctI_InvalidName), slI_InvalidName⟩)
    (cI_InvalidName : PySem.W.codeIn K cdI_InvalidName "InvalidName.__init__" = true)
    (kI_InvalidName : PySem.W.keepIn K (.ref fI_InvalidName) = true)
    (f0_InvalidName : PySem.W.findIn K (.ref e12) "code" = some none)
    (f1_InvalidName : PySem.W.findIn K (.ref e12) "name" = some none)
    (a_InvalidProgram : PySem.W.nsIn K mainGlobals "InvalidProgram" = some (some (.ref e13)))
    (o_InvalidProgram : K.lookup e13 = some (excClassObj nm_InvalidProgram q_InvalidProgram e13 N_InvalidProgram bs_InvalidProgram ([cPE].map Value.ref ++ tVE) true sn_InvalidProgram su_InvalidProgram ab_InvalidProgram co_InvalidProgram dd_InvalidProgram k0_InvalidProgram k1_InvalidProgram k2_InvalidProgram k3_InvalidProgram k5_InvalidProgram "ValueError.__new__"))
    (sa_InvalidProgram : PySem.W.findIn K (.ref e13) "__setattr__" = some (some (.builtin "object.__setattr__")))
    (ex_InvalidProgram : PySem.W.subIn K (.ref e13) (.type "BaseException") = some true)
    (ty_InvalidProgram : PySem.W.typeIn K (.ref e13) = some (.type "type"))
    (kc_InvalidProgram : PySem.W.keepIn K (.ref e13) = true)
    (ga_InvalidProgram : PySem.W.findIn K (.ref e13) "__getattribute__" = some (some (.builtin "BaseException.__getattribute__")))
    (gg_InvalidProgram : PySem.W.findIn K (.ref e13) "__getattr__" = some none)
    (hd_InvalidProgram : PySem.W.hasDictIn K e13 = true)
    (ca_InvalidProgram : PySem.W.findIn K (.ref e13) "__class__" = some (some (.builtin "object.__class__")))
    (iI_InvalidProgram : PySem.W.findIn K (.ref e13) "__init__" = some (some (.ref fI_InvalidProgram)))
    (tI_InvalidProgram : PySem.W.typeIn K (.ref fI_InvalidProgram) = some (.type "function"))
    (lI_InvalidProgram : K.lookup fI_InvalidProgram = some ⟨ocI_InvalidProgram, odI_InvalidProgram, .func (PySem.W.fnOf "__init__" "InvalidProgram.__init__" (defArgs sInvalidProgram_init) (defBody sInvalidProgram_init) (defScope sInvalidProgram_init) .none kVI_InvalidProgram dcI_InvalidProgram pmI_InvalidProgram anI_InvalidProgram cdI_InvalidProgram ctI_InvalidProgram), slI_InvalidProgram⟩)
    (cI_InvalidProgram : PySem.W.codeIn K cdI_InvalidProgram "InvalidProgram.__init__" = true)
    (kI_InvalidProgram : PySem.W.keepIn K (.ref fI_InvalidProgram) = true)
    (f0_InvalidProgram : PySem.W.findIn K (.ref e13) "code" = some none)
    (f1_InvalidProgram : PySem.W.findIn K (.ref e13) "at" = some none)
    (a_InvalidText : PySem.W.nsIn K mainGlobals "InvalidText" = some (some (.ref e14)))
    (o_InvalidText : K.lookup e14 = some (excClassObj nm_InvalidText q_InvalidText e14 N_InvalidText bs_InvalidText ([cPE].map Value.ref ++ tVE) true sn_InvalidText su_InvalidText ab_InvalidText co_InvalidText dd_InvalidText k0_InvalidText k1_InvalidText k2_InvalidText k3_InvalidText k5_InvalidText "ValueError.__new__"))
    (sa_InvalidText : PySem.W.findIn K (.ref e14) "__setattr__" = some (some (.builtin "object.__setattr__")))
    (ex_InvalidText : PySem.W.subIn K (.ref e14) (.type "BaseException") = some true)
    (ty_InvalidText : PySem.W.typeIn K (.ref e14) = some (.type "type"))
    (kc_InvalidText : PySem.W.keepIn K (.ref e14) = true)
    (ga_InvalidText : PySem.W.findIn K (.ref e14) "__getattribute__" = some (some (.builtin "BaseException.__getattribute__")))
    (gg_InvalidText : PySem.W.findIn K (.ref e14) "__getattr__" = some none)
    (hd_InvalidText : PySem.W.hasDictIn K e14 = true)
    (ca_InvalidText : PySem.W.findIn K (.ref e14) "__class__" = some (some (.builtin "object.__class__")))
    (iI_InvalidText : PySem.W.findIn K (.ref e14) "__init__" = some (some (.ref fI_InvalidText)))
    (tI_InvalidText : PySem.W.typeIn K (.ref fI_InvalidText) = some (.type "function"))
    (lI_InvalidText : K.lookup fI_InvalidText = some ⟨ocI_InvalidText, odI_InvalidText, .func (PySem.W.fnOf "__init__" "InvalidText.__init__" (defArgs sInvalidText_init) (defBody sInvalidText_init) (defScope sInvalidText_init) .none kVI_InvalidText dcI_InvalidText pmI_InvalidText anI_InvalidText cdI_InvalidText ctI_InvalidText), slI_InvalidText⟩)
    (cI_InvalidText : PySem.W.codeIn K cdI_InvalidText "InvalidText.__init__" = true)
    (kI_InvalidText : PySem.W.keepIn K (.ref fI_InvalidText) = true)
    (f0_InvalidText : PySem.W.findIn K (.ref e14) "code" = some none)
    (f1_InvalidText : PySem.W.findIn K (.ref e14) "line" = some none)
    (a_DuplicateName : PySem.W.nsIn K mainGlobals "DuplicateName" = some (some (.ref e15)))
    (o_DuplicateName : K.lookup e15 = some (excClassObj nm_DuplicateName q_DuplicateName e15 N_DuplicateName bs_DuplicateName ([cPE].map Value.ref ++ tVE) true sn_DuplicateName su_DuplicateName ab_DuplicateName co_DuplicateName dd_DuplicateName k0_DuplicateName k1_DuplicateName k2_DuplicateName k3_DuplicateName k5_DuplicateName "ValueError.__new__"))
    (sa_DuplicateName : PySem.W.findIn K (.ref e15) "__setattr__" = some (some (.builtin "object.__setattr__")))
    (ex_DuplicateName : PySem.W.subIn K (.ref e15) (.type "BaseException") = some true)
    (ty_DuplicateName : PySem.W.typeIn K (.ref e15) = some (.type "type"))
    (kc_DuplicateName : PySem.W.keepIn K (.ref e15) = true)
    (ga_DuplicateName : PySem.W.findIn K (.ref e15) "__getattribute__" = some (some (.builtin "BaseException.__getattribute__")))
    (gg_DuplicateName : PySem.W.findIn K (.ref e15) "__getattr__" = some none)
    (hd_DuplicateName : PySem.W.hasDictIn K e15 = true)
    (ca_DuplicateName : PySem.W.findIn K (.ref e15) "__class__" = some (some (.builtin "object.__class__")))
    (iI_DuplicateName : PySem.W.findIn K (.ref e15) "__init__" = some (some (.ref fI_DuplicateName)))
    (tI_DuplicateName : PySem.W.typeIn K (.ref fI_DuplicateName) = some (.type "function"))
    (lI_DuplicateName : K.lookup fI_DuplicateName = some ⟨ocI_DuplicateName, odI_DuplicateName, .func (PySem.W.fnOf "__init__" "DuplicateName.__init__" (defArgs sDuplicateName_init) (defBody sDuplicateName_init) (defScope sDuplicateName_init) .none kVI_DuplicateName dcI_DuplicateName pmI_DuplicateName anI_DuplicateName cdI_DuplicateName ctI_DuplicateName), slI_DuplicateName⟩)
    (cI_DuplicateName : PySem.W.codeIn K cdI_DuplicateName "DuplicateName.__init__" = true)
    (kI_DuplicateName : PySem.W.keepIn K (.ref fI_DuplicateName) = true)
    (f0_DuplicateName : PySem.W.findIn K (.ref e15) "code" = some none)
    (f1_DuplicateName : PySem.W.findIn K (.ref e15) "name" = some none)
    (a_Full : PySem.W.nsIn K mainGlobals "Full" = some (some (.ref e16)))
    (o_Full : K.lookup e16 = some (excClassObj nm_Full q_Full e16 N_Full bs_Full ([cPE].map Value.ref ++ tVE) true sn_Full su_Full ab_Full co_Full dd_Full k0_Full k1_Full k2_Full k3_Full k5_Full "ValueError.__new__"))
    (sa_Full : PySem.W.findIn K (.ref e16) "__setattr__" = some (some (.builtin "object.__setattr__")))
    (ex_Full : PySem.W.subIn K (.ref e16) (.type "BaseException") = some true)
    (ty_Full : PySem.W.typeIn K (.ref e16) = some (.type "type"))
    (kc_Full : PySem.W.keepIn K (.ref e16) = true)
    (ga_Full : PySem.W.findIn K (.ref e16) "__getattribute__" = some (some (.builtin "BaseException.__getattribute__")))
    (gg_Full : PySem.W.findIn K (.ref e16) "__getattr__" = some none)
    (hd_Full : PySem.W.hasDictIn K e16 = true)
    (ca_Full : PySem.W.findIn K (.ref e16) "__class__" = some (some (.builtin "object.__class__")))
    (iI_Full : PySem.W.findIn K (.ref e16) "__init__" = some (some (.ref fI_Full)))
    (tI_Full : PySem.W.typeIn K (.ref fI_Full) = some (.type "function"))
    (lI_Full : K.lookup fI_Full = some ⟨ocI_Full, odI_Full, .func (PySem.W.fnOf "__init__" "Full.__init__" (defArgs sFull_init) (defBody sFull_init) (defScope sFull_init) .none kVI_Full dcI_Full pmI_Full anI_Full cdI_Full ctI_Full), slI_Full⟩)
    (cI_Full : PySem.W.codeIn K cdI_Full "Full.__init__" = true)
    (kI_Full : PySem.W.keepIn K (.ref fI_Full) = true)
    (f0_Full : PySem.W.findIn K (.ref e16) "code" = some none)
    (f1_Full : PySem.W.findIn K (.ref e16) "limit" = some none)
    (a_InUse : PySem.W.nsIn K mainGlobals "InUse" = some (some (.ref e17)))
    (o_InUse : K.lookup e17 = some (excClassObj nm_InUse q_InUse e17 N_InUse bs_InUse ([cPE].map Value.ref ++ tVE) true sn_InUse su_InUse ab_InUse co_InUse dd_InUse k0_InUse k1_InUse k2_InUse k3_InUse k5_InUse "ValueError.__new__"))
    (sa_InUse : PySem.W.findIn K (.ref e17) "__setattr__" = some (some (.builtin "object.__setattr__")))
    (ex_InUse : PySem.W.subIn K (.ref e17) (.type "BaseException") = some true)
    (ty_InUse : PySem.W.typeIn K (.ref e17) = some (.type "type"))
    (kc_InUse : PySem.W.keepIn K (.ref e17) = true)
    (ga_InUse : PySem.W.findIn K (.ref e17) "__getattribute__" = some (some (.builtin "BaseException.__getattribute__")))
    (gg_InUse : PySem.W.findIn K (.ref e17) "__getattr__" = some none)
    (hd_InUse : PySem.W.hasDictIn K e17 = true)
    (ca_InUse : PySem.W.findIn K (.ref e17) "__class__" = some (some (.builtin "object.__class__")))
    (iI_InUse : PySem.W.findIn K (.ref e17) "__init__" = some (some (.ref fI_InUse)))
    (tI_InUse : PySem.W.typeIn K (.ref fI_InUse) = some (.type "function"))
    (lI_InUse : K.lookup fI_InUse = some ⟨ocI_InUse, odI_InUse, .func (PySem.W.fnOf "__init__" "InUse.__init__" (defArgs sInUse_init) (defBody sInUse_init) (defScope sInUse_init) .none kVI_InUse dcI_InUse pmI_InUse anI_InUse cdI_InUse ctI_InUse), slI_InUse⟩)
    (cI_InUse : PySem.W.codeIn K cdI_InUse "InUse.__init__" = true)
    (kI_InUse : PySem.W.keepIn K (.ref fI_InUse) = true)
    (f0_InUse : PySem.W.findIn K (.ref e17) "code" = some none)
    (f1_InUse : PySem.W.findIn K (.ref e17) "user" = some none)
    (a_InvalidCommand : PySem.W.nsIn K mainGlobals "InvalidCommand" = some (some (.ref e18)))
    (o_InvalidCommand : K.lookup e18 = some (excClassObj nm_InvalidCommand q_InvalidCommand e18 N_InvalidCommand bs_InvalidCommand ([cPE].map Value.ref ++ tVE) true sn_InvalidCommand su_InvalidCommand ab_InvalidCommand co_InvalidCommand dd_InvalidCommand k0_InvalidCommand k1_InvalidCommand k2_InvalidCommand k3_InvalidCommand k5_InvalidCommand "ValueError.__new__"))
    (sa_InvalidCommand : PySem.W.findIn K (.ref e18) "__setattr__" = some (some (.builtin "object.__setattr__")))
    (ex_InvalidCommand : PySem.W.subIn K (.ref e18) (.type "BaseException") = some true)
    (ty_InvalidCommand : PySem.W.typeIn K (.ref e18) = some (.type "type"))
    (kc_InvalidCommand : PySem.W.keepIn K (.ref e18) = true)
    (ga_InvalidCommand : PySem.W.findIn K (.ref e18) "__getattribute__" = some (some (.builtin "BaseException.__getattribute__")))
    (gg_InvalidCommand : PySem.W.findIn K (.ref e18) "__getattr__" = some none)
    (hd_InvalidCommand : PySem.W.hasDictIn K e18 = true)
    (ca_InvalidCommand : PySem.W.findIn K (.ref e18) "__class__" = some (some (.builtin "object.__class__")))
    (iI_InvalidCommand : PySem.W.findIn K (.ref e18) "__init__" = some (some (.ref fI_InvalidCommand)))
    (tI_InvalidCommand : PySem.W.typeIn K (.ref fI_InvalidCommand) = some (.type "function"))
    (lI_InvalidCommand : K.lookup fI_InvalidCommand = some ⟨ocI_InvalidCommand, odI_InvalidCommand, .func (PySem.W.fnOf "__init__" "InvalidCommand.__init__" (defArgs sInvalidCommand_init) (defBody sInvalidCommand_init) (defScope sInvalidCommand_init) .none kVI_InvalidCommand dcI_InvalidCommand pmI_InvalidCommand anI_InvalidCommand cdI_InvalidCommand ctI_InvalidCommand), slI_InvalidCommand⟩)
    (cI_InvalidCommand : PySem.W.codeIn K cdI_InvalidCommand "InvalidCommand.__init__" = true)
    (kI_InvalidCommand : PySem.W.keepIn K (.ref fI_InvalidCommand) = true)
    (f0_InvalidCommand : PySem.W.findIn K (.ref e18) "code" = some none)
    (f1_InvalidCommand : PySem.W.findIn K (.ref e18) "at" = some none)
    (a_InvalidLimit : PySem.W.nsIn K mainGlobals "InvalidLimit" = some (some (.ref e19)))
    (o_InvalidLimit : K.lookup e19 = some (excClassObj nm_InvalidLimit q_InvalidLimit e19 N_InvalidLimit bs_InvalidLimit ([cPE].map Value.ref ++ tVE) true sn_InvalidLimit su_InvalidLimit ab_InvalidLimit co_InvalidLimit dd_InvalidLimit k0_InvalidLimit k1_InvalidLimit k2_InvalidLimit k3_InvalidLimit k5_InvalidLimit "ValueError.__new__"))
    (sa_InvalidLimit : PySem.W.findIn K (.ref e19) "__setattr__" = some (some (.builtin "object.__setattr__")))
    (ex_InvalidLimit : PySem.W.subIn K (.ref e19) (.type "BaseException") = some true)
    (ty_InvalidLimit : PySem.W.typeIn K (.ref e19) = some (.type "type"))
    (kc_InvalidLimit : PySem.W.keepIn K (.ref e19) = true)
    (ga_InvalidLimit : PySem.W.findIn K (.ref e19) "__getattribute__" = some (some (.builtin "BaseException.__getattribute__")))
    (gg_InvalidLimit : PySem.W.findIn K (.ref e19) "__getattr__" = some none)
    (hd_InvalidLimit : PySem.W.hasDictIn K e19 = true)
    (ca_InvalidLimit : PySem.W.findIn K (.ref e19) "__class__" = some (some (.builtin "object.__class__")))
    (iI_InvalidLimit : PySem.W.findIn K (.ref e19) "__init__" = some (some (.ref fI_InvalidLimit)))
    (tI_InvalidLimit : PySem.W.typeIn K (.ref fI_InvalidLimit) = some (.type "function"))
    (lI_InvalidLimit : K.lookup fI_InvalidLimit = some ⟨ocI_InvalidLimit, odI_InvalidLimit, .func (PySem.W.fnOf "__init__" "InvalidLimit.__init__" (defArgs sInvalidLimit_init) (defBody sInvalidLimit_init) (defScope sInvalidLimit_init) .none kVI_InvalidLimit dcI_InvalidLimit pmI_InvalidLimit anI_InvalidLimit cdI_InvalidLimit ctI_InvalidLimit), slI_InvalidLimit⟩)
    (cI_InvalidLimit : PySem.W.codeIn K cdI_InvalidLimit "InvalidLimit.__init__" = true)
    (kI_InvalidLimit : PySem.W.keepIn K (.ref fI_InvalidLimit) = true)
    (f0_InvalidLimit : PySem.W.findIn K (.ref e19) "code" = some none)
    (f1_InvalidLimit : PySem.W.findIn K (.ref e19) "given" = some none)
    (a_InvalidPage : PySem.W.nsIn K mainGlobals "InvalidPage" = some (some (.ref e20)))
    (o_InvalidPage : K.lookup e20 = some (excClassObj nm_InvalidPage q_InvalidPage e20 N_InvalidPage bs_InvalidPage ([cPE].map Value.ref ++ tVE) true sn_InvalidPage su_InvalidPage ab_InvalidPage co_InvalidPage dd_InvalidPage k0_InvalidPage k1_InvalidPage k2_InvalidPage k3_InvalidPage k5_InvalidPage "ValueError.__new__"))
    (sa_InvalidPage : PySem.W.findIn K (.ref e20) "__setattr__" = some (some (.builtin "object.__setattr__")))
    (ex_InvalidPage : PySem.W.subIn K (.ref e20) (.type "BaseException") = some true)
    (ty_InvalidPage : PySem.W.typeIn K (.ref e20) = some (.type "type"))
    (kc_InvalidPage : PySem.W.keepIn K (.ref e20) = true)
    (ga_InvalidPage : PySem.W.findIn K (.ref e20) "__getattribute__" = some (some (.builtin "BaseException.__getattribute__")))
    (gg_InvalidPage : PySem.W.findIn K (.ref e20) "__getattr__" = some none)
    (hd_InvalidPage : PySem.W.hasDictIn K e20 = true)
    (ca_InvalidPage : PySem.W.findIn K (.ref e20) "__class__" = some (some (.builtin "object.__class__")))
    (iI_InvalidPage : PySem.W.findIn K (.ref e20) "__init__" = some (some (.ref fI_InvalidPage)))
    (tI_InvalidPage : PySem.W.typeIn K (.ref fI_InvalidPage) = some (.type "function"))
    (lI_InvalidPage : K.lookup fI_InvalidPage = some ⟨ocI_InvalidPage, odI_InvalidPage, .func (PySem.W.fnOf "__init__" "InvalidPage.__init__" (defArgs sInvalidPage_init) (defBody sInvalidPage_init) (defScope sInvalidPage_init) .none kVI_InvalidPage dcI_InvalidPage pmI_InvalidPage anI_InvalidPage cdI_InvalidPage ctI_InvalidPage), slI_InvalidPage⟩)
    (cI_InvalidPage : PySem.W.codeIn K cdI_InvalidPage "InvalidPage.__init__" = true)
    (kI_InvalidPage : PySem.W.keepIn K (.ref fI_InvalidPage) = true)
    (f0_InvalidPage : PySem.W.findIn K (.ref e20) "code" = some none)
    (f1_InvalidPage : PySem.W.findIn K (.ref e20) "line" = some none)
    (a_UnknownName : PySem.W.nsIn K mainGlobals "UnknownName" = some (some (.ref e21)))
    (o_UnknownName : K.lookup e21 = some (excClassObj nm_UnknownName q_UnknownName e21 N_UnknownName bs_UnknownName ([cMI].map Value.ref ++ tLE) true sn_UnknownName su_UnknownName ab_UnknownName co_UnknownName dd_UnknownName k0_UnknownName k1_UnknownName k2_UnknownName k3_UnknownName k5_UnknownName "LookupError.__new__"))
    (sa_UnknownName : PySem.W.findIn K (.ref e21) "__setattr__" = some (some (.builtin "object.__setattr__")))
    (ex_UnknownName : PySem.W.subIn K (.ref e21) (.type "BaseException") = some true)
    (ty_UnknownName : PySem.W.typeIn K (.ref e21) = some (.type "type"))
    (kc_UnknownName : PySem.W.keepIn K (.ref e21) = true)
    (ga_UnknownName : PySem.W.findIn K (.ref e21) "__getattribute__" = some (some (.builtin "BaseException.__getattribute__")))
    (gg_UnknownName : PySem.W.findIn K (.ref e21) "__getattr__" = some none)
    (hd_UnknownName : PySem.W.hasDictIn K e21 = true)
    (ca_UnknownName : PySem.W.findIn K (.ref e21) "__class__" = some (some (.builtin "object.__class__")))
    (iI_UnknownName : PySem.W.findIn K (.ref e21) "__init__" = some (some (.ref fI_UnknownName)))
    (tI_UnknownName : PySem.W.typeIn K (.ref fI_UnknownName) = some (.type "function"))
    (lI_UnknownName : K.lookup fI_UnknownName = some ⟨ocI_UnknownName, odI_UnknownName, .func (PySem.W.fnOf "__init__" "UnknownName.__init__" (defArgs sUnknownName_init) (defBody sUnknownName_init) (defScope sUnknownName_init) .none kVI_UnknownName dcI_UnknownName pmI_UnknownName anI_UnknownName cdI_UnknownName ctI_UnknownName), slI_UnknownName⟩)
    (cI_UnknownName : PySem.W.codeIn K cdI_UnknownName "UnknownName.__init__" = true)
    (kI_UnknownName : PySem.W.keepIn K (.ref fI_UnknownName) = true)
    (f0_UnknownName : PySem.W.findIn K (.ref e21) "code" = some none)
    (f1_UnknownName : PySem.W.findIn K (.ref e21) "name" = some none)
    (a_NothingLeft : PySem.W.nsIn K mainGlobals "NothingLeft" = some (some (.ref e22)))
    (o_NothingLeft : K.lookup e22 = some (excClassObj nm_NothingLeft q_NothingLeft e22 N_NothingLeft bs_NothingLeft (([] : List Addr).map Value.ref ++ tIE) true sn_NothingLeft su_NothingLeft ab_NothingLeft co_NothingLeft dd_NothingLeft k0_NothingLeft k1_NothingLeft k2_NothingLeft k3_NothingLeft k5_NothingLeft "IndexError.__new__"))
    (sa_NothingLeft : PySem.W.findIn K (.ref e22) "__setattr__" = some (some (.builtin "object.__setattr__")))
    (ex_NothingLeft : PySem.W.subIn K (.ref e22) (.type "BaseException") = some true)
    (ty_NothingLeft : PySem.W.typeIn K (.ref e22) = some (.type "type"))
    (kc_NothingLeft : PySem.W.keepIn K (.ref e22) = true)
    (ga_NothingLeft : PySem.W.findIn K (.ref e22) "__getattribute__" = some (some (.builtin "BaseException.__getattribute__")))
    (gg_NothingLeft : PySem.W.findIn K (.ref e22) "__getattr__" = some none)
    (hd_NothingLeft : PySem.W.hasDictIn K e22 = true)
    (ca_NothingLeft : PySem.W.findIn K (.ref e22) "__class__" = some (some (.builtin "object.__class__")))
    (iI_NothingLeft : PySem.W.findIn K (.ref e22) "__init__" = some (some (.ref fI_NothingLeft)))
    (tI_NothingLeft : PySem.W.typeIn K (.ref fI_NothingLeft) = some (.type "function"))
    (lI_NothingLeft : K.lookup fI_NothingLeft = some ⟨ocI_NothingLeft, odI_NothingLeft, .func (PySem.W.fnOf "__init__" "NothingLeft.__init__" (defArgs sNothingLeft_init) (defBody sNothingLeft_init) (defScope sNothingLeft_init) .none kVI_NothingLeft dcI_NothingLeft pmI_NothingLeft anI_NothingLeft cdI_NothingLeft ctI_NothingLeft), slI_NothingLeft⟩)
    (cI_NothingLeft : PySem.W.codeIn K cdI_NothingLeft "NothingLeft.__init__" = true)
    (kI_NothingLeft : PySem.W.keepIn K (.ref fI_NothingLeft) = true)
    (f0_NothingLeft : PySem.W.findIn K (.ref e22) "code" = some none)
    (nd_ : ([e0, e1, e2, e3, e4, e5, e6, e7, e8, e9, e10, e11, e12, e13, e14, e15, e16, e17, e18, e19, e20, e21, e22, cPE, cMI] : List Addr).Nodup) :
    ∃ fd : FuncData, (∀ (s : Shared) (v : Value), BindsTo s fd ⟨[v], []⟩ [("_law_script", v)]) ∧ ∀ base : Heap, K.In base → base.Ns mainGlobals mg → FnOk P w K mg base (L2.CX P w) 12 fa fd ["_law_script"] (spD K lawS) := by
  have e := hfa.symm.trans (PySem.W.mg_of X G a10)
  cases e
  have n_PlaneError := PySem.W.mg_of X G a_PlaneError
  have CK_PlaneError : CK K cPE := ⟨⟨_, ci_PlaneError⟩, yt_PlaneError⟩
  have n_Missing := PySem.W.mg_of X G a_Missing
  have CK_Missing : CK K cMI := ⟨⟨_, ci_Missing⟩, yt_Missing⟩
  have n_InvalidNumber := PySem.W.mg_of X G a_InvalidNumber
  have EC0 : EC K e0 [cPE] tVE ["code", "given"] := ⟨⟨_, _, _, _, _, _, _, _, _, _, _, _, _, _, _, o_InvalidNumber, base_VE⟩, sa_InvalidNumber, ex_InvalidNumber, ty_InvalidNumber, kc_InvalidNumber, ga_InvalidNumber, gg_InvalidNumber, hd_InvalidNumber, ca_InvalidNumber, fun f hf => by simp only [List.mem_cons, List.not_mem_nil, or_false] at hf; rcases hf with e | e <;> subst e <;> first | exact f0_InvalidNumber | exact f1_InvalidNumber⟩
  have FI_InvalidNumber := fun_mk (st := sInvalidNumber_init) lI_InvalidNumber cI_InvalidNumber kI_InvalidNumber
  have BI_InvalidNumber := FI_InvalidNumber.binds (ps := ["self", "given"]) fun _ _ _ _ _ _ us hl => match us, hl with | [_, _], _ => rfl
  have n_InvalidRatio := PySem.W.mg_of X G a_InvalidRatio
  have EC1 : EC K e1 [cPE] tVE ["code", "given"] := ⟨⟨_, _, _, _, _, _, _, _, _, _, _, _, _, _, _, o_InvalidRatio, base_VE⟩, sa_InvalidRatio, ex_InvalidRatio, ty_InvalidRatio, kc_InvalidRatio, ga_InvalidRatio, gg_InvalidRatio, hd_InvalidRatio, ca_InvalidRatio, fun f hf => by simp only [List.mem_cons, List.not_mem_nil, or_false] at hf; rcases hf with e | e <;> subst e <;> first | exact f0_InvalidRatio | exact f1_InvalidRatio⟩
  have FI_InvalidRatio := fun_mk (st := sInvalidRatio_init) lI_InvalidRatio cI_InvalidRatio kI_InvalidRatio
  have BI_InvalidRatio := FI_InvalidRatio.binds (ps := ["self", "given"]) fun _ _ _ _ _ _ us hl => match us, hl with | [_, _], _ => rfl
  have n_InvalidPoint := PySem.W.mg_of X G a_InvalidPoint
  have EC2 : EC K e2 [cPE] tVE ["code", "given"] := ⟨⟨_, _, _, _, _, _, _, _, _, _, _, _, _, _, _, o_InvalidPoint, base_VE⟩, sa_InvalidPoint, ex_InvalidPoint, ty_InvalidPoint, kc_InvalidPoint, ga_InvalidPoint, gg_InvalidPoint, hd_InvalidPoint, ca_InvalidPoint, fun f hf => by simp only [List.mem_cons, List.not_mem_nil, or_false] at hf; rcases hf with e | e <;> subst e <;> first | exact f0_InvalidPoint | exact f1_InvalidPoint⟩
  have FI_InvalidPoint := fun_mk (st := sInvalidPoint_init) lI_InvalidPoint cI_InvalidPoint kI_InvalidPoint
  have BI_InvalidPoint := FI_InvalidPoint.binds (ps := ["self", "given"]) fun _ _ _ _ _ _ us hl => match us, hl with | [_, _], _ => rfl
  have n_InvalidTerm := PySem.W.mg_of X G a_InvalidTerm
  have EC3 : EC K e3 [cPE] tVE ["code", "at"] := ⟨⟨_, _, _, _, _, _, _, _, _, _, _, _, _, _, _, o_InvalidTerm, base_VE⟩, sa_InvalidTerm, ex_InvalidTerm, ty_InvalidTerm, kc_InvalidTerm, ga_InvalidTerm, gg_InvalidTerm, hd_InvalidTerm, ca_InvalidTerm, fun f hf => by simp only [List.mem_cons, List.not_mem_nil, or_false] at hf; rcases hf with e | e <;> subst e <;> first | exact f0_InvalidTerm | exact f1_InvalidTerm⟩
  have FI_InvalidTerm := fun_mk (st := sInvalidTerm_init) lI_InvalidTerm cI_InvalidTerm kI_InvalidTerm
  have BI_InvalidTerm := FI_InvalidTerm.binds (ps := ["self", "at"]) fun _ _ _ _ _ _ us hl => match us, hl with | [_, _], _ => rfl
  have n_InvalidLetter := PySem.W.mg_of X G a_InvalidLetter
  have EC4 : EC K e4 [cPE] tVE ["code", "given"] := ⟨⟨_, _, _, _, _, _, _, _, _, _, _, _, _, _, _, o_InvalidLetter, base_VE⟩, sa_InvalidLetter, ex_InvalidLetter, ty_InvalidLetter, kc_InvalidLetter, ga_InvalidLetter, gg_InvalidLetter, hd_InvalidLetter, ca_InvalidLetter, fun f hf => by simp only [List.mem_cons, List.not_mem_nil, or_false] at hf; rcases hf with e | e <;> subst e <;> first | exact f0_InvalidLetter | exact f1_InvalidLetter⟩
  have FI_InvalidLetter := fun_mk (st := sInvalidLetter_init) lI_InvalidLetter cI_InvalidLetter kI_InvalidLetter
  have BI_InvalidLetter := FI_InvalidLetter.binds (ps := ["self", "given"]) fun _ _ _ _ _ _ us hl => match us, hl with | [_, _], _ => rfl
  have n_ZeroDivisor := PySem.W.mg_of X G a_ZeroDivisor
  have EC5 : EC K e5 [cPE] tVE ["code"] := ⟨⟨_, _, _, _, _, _, _, _, _, _, _, _, _, _, _, o_ZeroDivisor, base_VE⟩, sa_ZeroDivisor, ex_ZeroDivisor, ty_ZeroDivisor, kc_ZeroDivisor, ga_ZeroDivisor, gg_ZeroDivisor, hd_ZeroDivisor, ca_ZeroDivisor, fun f hf => by simp only [List.mem_cons, List.not_mem_nil, or_false] at hf; subst hf; exact f0_ZeroDivisor⟩
  have FI_ZeroDivisor := fun_mk (st := sZeroDivisor_init) lI_ZeroDivisor cI_ZeroDivisor kI_ZeroDivisor
  have BI_ZeroDivisor := FI_ZeroDivisor.binds (ps := ["self"]) fun _ _ _ _ _ _ us hl => match us, hl with | [_], _ => rfl
  have n_ZeroPolynomial := PySem.W.mg_of X G a_ZeroPolynomial
  have EC6 : EC K e6 [cPE] tVE ["code"] := ⟨⟨_, _, _, _, _, _, _, _, _, _, _, _, _, _, _, o_ZeroPolynomial, base_VE⟩, sa_ZeroPolynomial, ex_ZeroPolynomial, ty_ZeroPolynomial, kc_ZeroPolynomial, ga_ZeroPolynomial, gg_ZeroPolynomial, hd_ZeroPolynomial, ca_ZeroPolynomial, fun f hf => by simp only [List.mem_cons, List.not_mem_nil, or_false] at hf; subst hf; exact f0_ZeroPolynomial⟩
  have FI_ZeroPolynomial := fun_mk (st := sZeroPolynomial_init) lI_ZeroPolynomial cI_ZeroPolynomial kI_ZeroPolynomial
  have BI_ZeroPolynomial := FI_ZeroPolynomial.binds (ps := ["self"]) fun _ _ _ _ _ _ us hl => match us, hl with | [_], _ => rfl
  have n_NotDivisible := PySem.W.mg_of X G a_NotDivisible
  have EC7 : EC K e7 [cPE] tVE ["code"] := ⟨⟨_, _, _, _, _, _, _, _, _, _, _, _, _, _, _, o_NotDivisible, base_VE⟩, sa_NotDivisible, ex_NotDivisible, ty_NotDivisible, kc_NotDivisible, ga_NotDivisible, gg_NotDivisible, hd_NotDivisible, ca_NotDivisible, fun f hf => by simp only [List.mem_cons, List.not_mem_nil, or_false] at hf; subst hf; exact f0_NotDivisible⟩
  have FI_NotDivisible := fun_mk (st := sNotDivisible_init) lI_NotDivisible cI_NotDivisible kI_NotDivisible
  have BI_NotDivisible := FI_NotDivisible.binds (ps := ["self"]) fun _ _ _ _ _ _ us hl => match us, hl with | [_], _ => rfl
  have n_NoRoot := PySem.W.mg_of X G a_NoRoot
  have EC8 : EC K e8 [cPE] tVE ["code", "index"] := ⟨⟨_, _, _, _, _, _, _, _, _, _, _, _, _, _, _, o_NoRoot, base_VE⟩, sa_NoRoot, ex_NoRoot, ty_NoRoot, kc_NoRoot, ga_NoRoot, gg_NoRoot, hd_NoRoot, ca_NoRoot, fun f hf => by simp only [List.mem_cons, List.not_mem_nil, or_false] at hf; rcases hf with e | e <;> subst e <;> first | exact f0_NoRoot | exact f1_NoRoot⟩
  have FI_NoRoot := fun_mk (st := sNoRoot_init) lI_NoRoot cI_NoRoot kI_NoRoot
  have BI_NoRoot := FI_NoRoot.binds (ps := ["self", "index"]) fun _ _ _ _ _ _ us hl => match us, hl with | [_, _], _ => rfl
  have n_NoPlace := PySem.W.mg_of X G a_NoPlace
  have EC9 : EC K e9 [cPE] tVE ["code", "given"] := ⟨⟨_, _, _, _, _, _, _, _, _, _, _, _, _, _, _, o_NoPlace, base_VE⟩, sa_NoPlace, ex_NoPlace, ty_NoPlace, kc_NoPlace, ga_NoPlace, gg_NoPlace, hd_NoPlace, ca_NoPlace, fun f hf => by simp only [List.mem_cons, List.not_mem_nil, or_false] at hf; rcases hf with e | e <;> subst e <;> first | exact f0_NoPlace | exact f1_NoPlace⟩
  have FI_NoPlace := fun_mk (st := sNoPlace_init) lI_NoPlace cI_NoPlace kI_NoPlace
  have BI_NoPlace := FI_NoPlace.binds (ps := ["self", "given"]) fun _ _ _ _ _ _ us hl => match us, hl with | [_, _], _ => rfl
  have n_OutOfBox := PySem.W.mg_of X G a_OutOfBox
  have EC10 : EC K e10 [cPE] tVE ["code", "given"] := ⟨⟨_, _, _, _, _, _, _, _, _, _, _, _, _, _, _, o_OutOfBox, base_VE⟩, sa_OutOfBox, ex_OutOfBox, ty_OutOfBox, kc_OutOfBox, ga_OutOfBox, gg_OutOfBox, hd_OutOfBox, ca_OutOfBox, fun f hf => by simp only [List.mem_cons, List.not_mem_nil, or_false] at hf; rcases hf with e | e <;> subst e <;> first | exact f0_OutOfBox | exact f1_OutOfBox⟩
  have FI_OutOfBox := fun_mk (st := sOutOfBox_init) lI_OutOfBox cI_OutOfBox kI_OutOfBox
  have BI_OutOfBox := FI_OutOfBox.binds (ps := ["self", "given"]) fun _ _ _ _ _ _ us hl => match us, hl with | [_, _], _ => rfl
  have n_NoValue := PySem.W.mg_of X G a_NoValue
  have EC11 : EC K e11 [cPE] tVE ["code"] := ⟨⟨_, _, _, _, _, _, _, _, _, _, _, _, _, _, _, o_NoValue, base_VE⟩, sa_NoValue, ex_NoValue, ty_NoValue, kc_NoValue, ga_NoValue, gg_NoValue, hd_NoValue, ca_NoValue, fun f hf => by simp only [List.mem_cons, List.not_mem_nil, or_false] at hf; subst hf; exact f0_NoValue⟩
  have FI_NoValue := fun_mk (st := sNoValue_init) lI_NoValue cI_NoValue kI_NoValue
  have BI_NoValue := FI_NoValue.binds (ps := ["self"]) fun _ _ _ _ _ _ us hl => match us, hl with | [_], _ => rfl
  have n_InvalidName := PySem.W.mg_of X G a_InvalidName
  have EC12 : EC K e12 [cPE] tVE ["code", "name"] := ⟨⟨_, _, _, _, _, _, _, _, _, _, _, _, _, _, _, o_InvalidName, base_VE⟩, sa_InvalidName, ex_InvalidName, ty_InvalidName, kc_InvalidName, ga_InvalidName, gg_InvalidName, hd_InvalidName, ca_InvalidName, fun f hf => by simp only [List.mem_cons, List.not_mem_nil, or_false] at hf; rcases hf with e | e <;> subst e <;> first | exact f0_InvalidName | exact f1_InvalidName⟩
  have FI_InvalidName := fun_mk (st := sInvalidName_init) lI_InvalidName cI_InvalidName kI_InvalidName
  have BI_InvalidName := FI_InvalidName.binds (ps := ["self", "name"]) fun _ _ _ _ _ _ us hl => match us, hl with | [_, _], _ => rfl
  have n_InvalidProgram := PySem.W.mg_of X G a_InvalidProgram
  have EC13 : EC K e13 [cPE] tVE ["code", "at"] := ⟨⟨_, _, _, _, _, _, _, _, _, _, _, _, _, _, _, o_InvalidProgram, base_VE⟩, sa_InvalidProgram, ex_InvalidProgram, ty_InvalidProgram, kc_InvalidProgram, ga_InvalidProgram, gg_InvalidProgram, hd_InvalidProgram, ca_InvalidProgram, fun f hf => by simp only [List.mem_cons, List.not_mem_nil, or_false] at hf; rcases hf with e | e <;> subst e <;> first | exact f0_InvalidProgram | exact f1_InvalidProgram⟩
  have FI_InvalidProgram := fun_mk (st := sInvalidProgram_init) lI_InvalidProgram cI_InvalidProgram kI_InvalidProgram
  have BI_InvalidProgram := FI_InvalidProgram.binds (ps := ["self", "at"]) fun _ _ _ _ _ _ us hl => match us, hl with | [_, _], _ => rfl
  have n_InvalidText := PySem.W.mg_of X G a_InvalidText
  have EC14 : EC K e14 [cPE] tVE ["code", "line"] := ⟨⟨_, _, _, _, _, _, _, _, _, _, _, _, _, _, _, o_InvalidText, base_VE⟩, sa_InvalidText, ex_InvalidText, ty_InvalidText, kc_InvalidText, ga_InvalidText, gg_InvalidText, hd_InvalidText, ca_InvalidText, fun f hf => by simp only [List.mem_cons, List.not_mem_nil, or_false] at hf; rcases hf with e | e <;> subst e <;> first | exact f0_InvalidText | exact f1_InvalidText⟩
  have FI_InvalidText := fun_mk (st := sInvalidText_init) lI_InvalidText cI_InvalidText kI_InvalidText
  have BI_InvalidText := FI_InvalidText.binds (ps := ["self", "line"]) fun _ _ _ _ _ _ us hl => match us, hl with | [_, _], _ => rfl
  have n_DuplicateName := PySem.W.mg_of X G a_DuplicateName
  have EC15 : EC K e15 [cPE] tVE ["code", "name"] := ⟨⟨_, _, _, _, _, _, _, _, _, _, _, _, _, _, _, o_DuplicateName, base_VE⟩, sa_DuplicateName, ex_DuplicateName, ty_DuplicateName, kc_DuplicateName, ga_DuplicateName, gg_DuplicateName, hd_DuplicateName, ca_DuplicateName, fun f hf => by simp only [List.mem_cons, List.not_mem_nil, or_false] at hf; rcases hf with e | e <;> subst e <;> first | exact f0_DuplicateName | exact f1_DuplicateName⟩
  have FI_DuplicateName := fun_mk (st := sDuplicateName_init) lI_DuplicateName cI_DuplicateName kI_DuplicateName
  have BI_DuplicateName := FI_DuplicateName.binds (ps := ["self", "name"]) fun _ _ _ _ _ _ us hl => match us, hl with | [_, _], _ => rfl
  have n_Full := PySem.W.mg_of X G a_Full
  have EC16 : EC K e16 [cPE] tVE ["code", "limit"] := ⟨⟨_, _, _, _, _, _, _, _, _, _, _, _, _, _, _, o_Full, base_VE⟩, sa_Full, ex_Full, ty_Full, kc_Full, ga_Full, gg_Full, hd_Full, ca_Full, fun f hf => by simp only [List.mem_cons, List.not_mem_nil, or_false] at hf; rcases hf with e | e <;> subst e <;> first | exact f0_Full | exact f1_Full⟩
  have FI_Full := fun_mk (st := sFull_init) lI_Full cI_Full kI_Full
  have BI_Full := FI_Full.binds (ps := ["self", "limit"]) fun _ _ _ _ _ _ us hl => match us, hl with | [_, _], _ => rfl
  have n_InUse := PySem.W.mg_of X G a_InUse
  have EC17 : EC K e17 [cPE] tVE ["code", "user"] := ⟨⟨_, _, _, _, _, _, _, _, _, _, _, _, _, _, _, o_InUse, base_VE⟩, sa_InUse, ex_InUse, ty_InUse, kc_InUse, ga_InUse, gg_InUse, hd_InUse, ca_InUse, fun f hf => by simp only [List.mem_cons, List.not_mem_nil, or_false] at hf; rcases hf with e | e <;> subst e <;> first | exact f0_InUse | exact f1_InUse⟩
  have FI_InUse := fun_mk (st := sInUse_init) lI_InUse cI_InUse kI_InUse
  have BI_InUse := FI_InUse.binds (ps := ["self", "user"]) fun _ _ _ _ _ _ us hl => match us, hl with | [_, _], _ => rfl
  have n_InvalidCommand := PySem.W.mg_of X G a_InvalidCommand
  have EC18 : EC K e18 [cPE] tVE ["code", "at"] := ⟨⟨_, _, _, _, _, _, _, _, _, _, _, _, _, _, _, o_InvalidCommand, base_VE⟩, sa_InvalidCommand, ex_InvalidCommand, ty_InvalidCommand, kc_InvalidCommand, ga_InvalidCommand, gg_InvalidCommand, hd_InvalidCommand, ca_InvalidCommand, fun f hf => by simp only [List.mem_cons, List.not_mem_nil, or_false] at hf; rcases hf with e | e <;> subst e <;> first | exact f0_InvalidCommand | exact f1_InvalidCommand⟩
  have FI_InvalidCommand := fun_mk (st := sInvalidCommand_init) lI_InvalidCommand cI_InvalidCommand kI_InvalidCommand
  have BI_InvalidCommand := FI_InvalidCommand.binds (ps := ["self", "at"]) fun _ _ _ _ _ _ us hl => match us, hl with | [_, _], _ => rfl
  have n_InvalidLimit := PySem.W.mg_of X G a_InvalidLimit
  have EC19 : EC K e19 [cPE] tVE ["code", "given"] := ⟨⟨_, _, _, _, _, _, _, _, _, _, _, _, _, _, _, o_InvalidLimit, base_VE⟩, sa_InvalidLimit, ex_InvalidLimit, ty_InvalidLimit, kc_InvalidLimit, ga_InvalidLimit, gg_InvalidLimit, hd_InvalidLimit, ca_InvalidLimit, fun f hf => by simp only [List.mem_cons, List.not_mem_nil, or_false] at hf; rcases hf with e | e <;> subst e <;> first | exact f0_InvalidLimit | exact f1_InvalidLimit⟩
  have FI_InvalidLimit := fun_mk (st := sInvalidLimit_init) lI_InvalidLimit cI_InvalidLimit kI_InvalidLimit
  have BI_InvalidLimit := FI_InvalidLimit.binds (ps := ["self", "given"]) fun _ _ _ _ _ _ us hl => match us, hl with | [_, _], _ => rfl
  have n_InvalidPage := PySem.W.mg_of X G a_InvalidPage
  have EC20 : EC K e20 [cPE] tVE ["code", "line"] := ⟨⟨_, _, _, _, _, _, _, _, _, _, _, _, _, _, _, o_InvalidPage, base_VE⟩, sa_InvalidPage, ex_InvalidPage, ty_InvalidPage, kc_InvalidPage, ga_InvalidPage, gg_InvalidPage, hd_InvalidPage, ca_InvalidPage, fun f hf => by simp only [List.mem_cons, List.not_mem_nil, or_false] at hf; rcases hf with e | e <;> subst e <;> first | exact f0_InvalidPage | exact f1_InvalidPage⟩
  have FI_InvalidPage := fun_mk (st := sInvalidPage_init) lI_InvalidPage cI_InvalidPage kI_InvalidPage
  have BI_InvalidPage := FI_InvalidPage.binds (ps := ["self", "line"]) fun _ _ _ _ _ _ us hl => match us, hl with | [_, _], _ => rfl
  have n_UnknownName := PySem.W.mg_of X G a_UnknownName
  have EC21 : EC K e21 [cMI] tLE ["code", "name"] := ⟨⟨_, _, _, _, _, _, _, _, _, _, _, _, _, _, _, o_UnknownName, base_LE⟩, sa_UnknownName, ex_UnknownName, ty_UnknownName, kc_UnknownName, ga_UnknownName, gg_UnknownName, hd_UnknownName, ca_UnknownName, fun f hf => by simp only [List.mem_cons, List.not_mem_nil, or_false] at hf; rcases hf with e | e <;> subst e <;> first | exact f0_UnknownName | exact f1_UnknownName⟩
  have FI_UnknownName := fun_mk (st := sUnknownName_init) lI_UnknownName cI_UnknownName kI_UnknownName
  have BI_UnknownName := FI_UnknownName.binds (ps := ["self", "name"]) fun _ _ _ _ _ _ us hl => match us, hl with | [_, _], _ => rfl
  have n_NothingLeft := PySem.W.mg_of X G a_NothingLeft
  have EC22 : EC K e22 ([] : List Addr) tIE ["code"] := ⟨⟨_, _, _, _, _, _, _, _, _, _, _, _, _, _, _, o_NothingLeft, base_IE⟩, sa_NothingLeft, ex_NothingLeft, ty_NothingLeft, kc_NothingLeft, ga_NothingLeft, gg_NothingLeft, hd_NothingLeft, ca_NothingLeft, fun f hf => by simp only [List.mem_cons, List.not_mem_nil, or_false] at hf; subst hf; exact f0_NothingLeft⟩
  have FI_NothingLeft := fun_mk (st := sNothingLeft_init) lI_NothingLeft cI_NothingLeft kI_NothingLeft
  have BI_NothingLeft := FI_NothingLeft.binds (ps := ["self"]) fun _ _ _ _ _ _ us hl => match us, hl with | [_], _ => rfl
  have FLBag := fun_mk (st := sLBag) l1 c1 k1
  have bLBag := FLBag.binds (ps := ["_law_script"]) fun _ _ _ _ _ _ us hl => match us, hl with | [_], _ => rfl
  have mLBag := PySem.W.mg_of X G a1
  have FLPull := fun_mk (st := sLPull) l2 c2 k2
  have bLPull := FLPull.binds (ps := ["_law_bag_here", "_law_many"]) fun _ _ _ _ _ _ us hl => match us, hl with | [_, _], _ => rfl
  have mLPull := PySem.W.mg_of X G a2
  have FLOf := fun_mk (st := sLOf) l3 c3 k3
  have bLOf := FLOf.binds (ps := ["_law_bag_here", "_law_some"]) fun _ _ _ _ _ _ us hl => match us, hl with | [_, _], _ => rfl
  have mLOf := PySem.W.mg_of X G a3
  have FLSame := fun_mk (st := sLSame) l4 c4 k4
  have bLSame := FLSame.binds (ps := ["_law_found", "_law_due"]) fun _ _ _ _ _ _ us hl => match us, hl with | [_, _], _ => rfl
  have mLSame := PySem.W.mg_of X G a4
  have FLField := fun_mk (st := sLField) l5 c5 k5
  have bLField := FLField.binds (ps := ["_law_e"]) fun _ _ _ _ _ _ us hl => match us, hl with | [_], _ => rfl
  have mLField := PySem.W.mg_of X G a5
  have FLKindsOf := fun_mk (st := sLKindsOf) l6 c6 k6
  have bLKindsOf := FLKindsOf.binds (ps := ["_law_e"]) fun _ _ _ _ _ _ us hl => match us, hl with | [_], _ => rfl
  have mLKindsOf := PySem.W.mg_of X G a6
  have FLCodes := fun_mk (st := sLCodes) l7 c7 k7
  have bLCodes := FLCodes.binds (ps := []) fun _ _ _ _ _ _ us hl => match us, hl with | [], _ => rfl
  have mLCodes := PySem.W.mg_of X G a7
  have FLMade := fun_mk (st := sLMade) l8 c8 k8
  have bLMade := FLMade.binds (ps := ["_law_one"]) fun _ _ _ _ _ _ us hl => match us, hl with | [_], _ => rfl
  have mLMade := PySem.W.mg_of X G a8
  have FLNamed := fun_mk (st := sLNamed) l9 c9 k9
  have bLNamed := FLNamed.binds (ps := ["_law_one"]) fun _ _ _ _ _ _ us hl => match us, hl with | [_], _ => rfl
  have mLNamed := PySem.W.mg_of X G a9
  have FLaw := fun_mk (st := sLaw) l10 c10 k10
  have bLaw := FLaw.binds (ps := ["_law_script"]) fun _ _ _ _ _ _ us hl => match us, hl with | [_], _ => rfl
  have mLaw := PySem.W.mg_of X G a10
  have Z : Zn mg := { z_isinstance := PySem.W.mg_none_of X G z_isinstance, z_int := PySem.W.mg_none_of X G z_int, z_bool := PySem.W.mg_none_of X G z_bool, z_str := PySem.W.mg_none_of X G z_str, z_list := PySem.W.mg_none_of X G z_list, z_tuple := PySem.W.mg_none_of X G z_tuple, z_len := PySem.W.mg_none_of X G z_len, z_abs := PySem.W.mg_none_of X G z_abs, z_all := PySem.W.mg_none_of X G z_all, z_range := PySem.W.mg_none_of X G z_range, z_zip := PySem.W.mg_none_of X G z_zip, z_ValueError := PySem.W.mg_none_of X G z_ValueError, z_LookupError := PySem.W.mg_none_of X G z_LookupError, z_IndexError := PySem.W.mg_none_of X G z_IndexError }
  refine ⟨PySem.W.fnOf "law" "law" (defArgs sLaw) (defBody sLaw) (defScope sLaw) .none kV10 dc10 pm10 an10 cd10 ct10, fun s v => .of_eq rfl, fun base _ _ => ?_⟩
  obtain ⟨c, hc⟩ : ∃ c : Nat → Addr, c = fun i => ([e0, e1, e2, e3, e4, e5, e6, e7, e8, e9, e10, e11, e12, e13, e14, e15, e16, e17, e18, e19, e20, e21, e22, cPE, cMI] : List Addr).getD i 0 := ⟨_, rfl⟩
  have d0 : c 0 = e0 := by rw [hc]; rfl
  have d1 : c 1 = e1 := by rw [hc]; rfl
  have d2 : c 2 = e2 := by rw [hc]; rfl
  have d3 : c 3 = e3 := by rw [hc]; rfl
  have d4 : c 4 = e4 := by rw [hc]; rfl
  have d5 : c 5 = e5 := by rw [hc]; rfl
  have d6 : c 6 = e6 := by rw [hc]; rfl
  have d7 : c 7 = e7 := by rw [hc]; rfl
  have d8 : c 8 = e8 := by rw [hc]; rfl
  have d9 : c 9 = e9 := by rw [hc]; rfl
  have d10 : c 10 = e10 := by rw [hc]; rfl
  have d11 : c 11 = e11 := by rw [hc]; rfl
  have d12 : c 12 = e12 := by rw [hc]; rfl
  have d13 : c 13 = e13 := by rw [hc]; rfl
  have d14 : c 14 = e14 := by rw [hc]; rfl
  have d15 : c 15 = e15 := by rw [hc]; rfl
  have d16 : c 16 = e16 := by rw [hc]; rfl
  have d17 : c 17 = e17 := by rw [hc]; rfl
  have d18 : c 18 = e18 := by rw [hc]; rfl
  have d19 : c 19 = e19 := by rw [hc]; rfl
  have d20 : c 20 = e20 := by rw [hc]; rfl
  have d21 : c 21 = e21 := by rw [hc]; rfl
  have d22 : c 22 = e22 := by rw [hc]; rfl
  have inj : ∀ i j, i < 25 → j < 25 → c i = c j → i = j := fun i j hi hj h => by rw [hc] at h; exact nd_inj nd_ (by exact hi) (by exact hj) h
  have d23 : c 23 = cPE := by rw [hc]; rfl
  have d24 : c 24 = cMI := by rw [hc]; rfl
  have G_InvalidNumber : GCls P w K mg base "InvalidNumber" (c 0) ["self", "given"] (spI1 (c 0) "InvalidNumber" "given") := by rw [d0]; exact gcls1 EC0 n_InvalidNumber iI_InvalidNumber tI_InvalidNumber FI_InvalidNumber scInvalidNumber_init rfl rfl rfl (by decide) (by decide) BI_InvalidNumber (fun _ _ _ => .of_eq rfl)
  have G_InvalidRatio : GCls P w K mg base "InvalidRatio" (c 1) ["self", "given"] (spI1 (c 1) "InvalidRatio" "given") := by rw [d1]; exact gcls1 EC1 n_InvalidRatio iI_InvalidRatio tI_InvalidRatio FI_InvalidRatio scInvalidRatio_init rfl rfl rfl (by decide) (by decide) BI_InvalidRatio (fun _ _ _ => .of_eq rfl)
  have G_InvalidPoint : GCls P w K mg base "InvalidPoint" (c 2) ["self", "given"] (spI1 (c 2) "InvalidPoint" "given") := by rw [d2]; exact gcls1 EC2 n_InvalidPoint iI_InvalidPoint tI_InvalidPoint FI_InvalidPoint scInvalidPoint_init rfl rfl rfl (by decide) (by decide) BI_InvalidPoint (fun _ _ _ => .of_eq rfl)
  have G_InvalidTerm : GCls P w K mg base "InvalidTerm" (c 3) ["self", "at"] (spI1 (c 3) "InvalidTerm" "at") := by rw [d3]; exact gcls1 EC3 n_InvalidTerm iI_InvalidTerm tI_InvalidTerm FI_InvalidTerm scInvalidTerm_init rfl rfl rfl (by decide) (by decide) BI_InvalidTerm (fun _ _ _ => .of_eq rfl)
  have G_InvalidLetter : GCls P w K mg base "InvalidLetter" (c 4) ["self", "given"] (spI1 (c 4) "InvalidLetter" "given") := by rw [d4]; exact gcls1 EC4 n_InvalidLetter iI_InvalidLetter tI_InvalidLetter FI_InvalidLetter scInvalidLetter_init rfl rfl rfl (by decide) (by decide) BI_InvalidLetter (fun _ _ _ => .of_eq rfl)
  have G_ZeroDivisor : GCls P w K mg base "ZeroDivisor" (c 5) ["self"] (spI0 (c 5) "ZeroDivisor") := by rw [d5]; exact gcls0 EC5 n_ZeroDivisor iI_ZeroDivisor tI_ZeroDivisor FI_ZeroDivisor scZeroDivisor_init rfl rfl BI_ZeroDivisor
  have G_ZeroPolynomial : GCls P w K mg base "ZeroPolynomial" (c 6) ["self"] (spI0 (c 6) "ZeroPolynomial") := by rw [d6]; exact gcls0 EC6 n_ZeroPolynomial iI_ZeroPolynomial tI_ZeroPolynomial FI_ZeroPolynomial scZeroPolynomial_init rfl rfl BI_ZeroPolynomial
  have G_NotDivisible : GCls P w K mg base "NotDivisible" (c 7) ["self"] (spI0 (c 7) "NotDivisible") := by rw [d7]; exact gcls0 EC7 n_NotDivisible iI_NotDivisible tI_NotDivisible FI_NotDivisible scNotDivisible_init rfl rfl BI_NotDivisible
  have G_NoRoot : GCls P w K mg base "NoRoot" (c 8) ["self", "index"] (spI1 (c 8) "NoRoot" "index") := by rw [d8]; exact gcls1 EC8 n_NoRoot iI_NoRoot tI_NoRoot FI_NoRoot scNoRoot_init rfl rfl rfl (by decide) (by decide) BI_NoRoot (fun _ _ _ => .of_eq rfl)
  have G_NoPlace : GCls P w K mg base "NoPlace" (c 9) ["self", "given"] (spI1 (c 9) "NoPlace" "given") := by rw [d9]; exact gcls1 EC9 n_NoPlace iI_NoPlace tI_NoPlace FI_NoPlace scNoPlace_init rfl rfl rfl (by decide) (by decide) BI_NoPlace (fun _ _ _ => .of_eq rfl)
  have G_OutOfBox : GCls P w K mg base "OutOfBox" (c 10) ["self", "given"] (spI1 (c 10) "OutOfBox" "given") := by rw [d10]; exact gcls1 EC10 n_OutOfBox iI_OutOfBox tI_OutOfBox FI_OutOfBox scOutOfBox_init rfl rfl rfl (by decide) (by decide) BI_OutOfBox (fun _ _ _ => .of_eq rfl)
  have G_NoValue : GCls P w K mg base "NoValue" (c 11) ["self"] (spI0 (c 11) "NoValue") := by rw [d11]; exact gcls0 EC11 n_NoValue iI_NoValue tI_NoValue FI_NoValue scNoValue_init rfl rfl BI_NoValue
  have G_InvalidName : GCls P w K mg base "InvalidName" (c 12) ["self", "name"] (spI1 (c 12) "InvalidName" "name") := by rw [d12]; exact gcls1 EC12 n_InvalidName iI_InvalidName tI_InvalidName FI_InvalidName scInvalidName_init rfl rfl rfl (by decide) (by decide) BI_InvalidName (fun _ _ _ => .of_eq rfl)
  have G_InvalidProgram : GCls P w K mg base "InvalidProgram" (c 13) ["self", "at"] (spI1 (c 13) "InvalidProgram" "at") := by rw [d13]; exact gcls1 EC13 n_InvalidProgram iI_InvalidProgram tI_InvalidProgram FI_InvalidProgram scInvalidProgram_init rfl rfl rfl (by decide) (by decide) BI_InvalidProgram (fun _ _ _ => .of_eq rfl)
  have G_InvalidText : GCls P w K mg base "InvalidText" (c 14) ["self", "line"] (spI1 (c 14) "InvalidText" "line") := by rw [d14]; exact gcls1 EC14 n_InvalidText iI_InvalidText tI_InvalidText FI_InvalidText scInvalidText_init rfl rfl rfl (by decide) (by decide) BI_InvalidText (fun _ _ _ => .of_eq rfl)
  have G_DuplicateName : GCls P w K mg base "DuplicateName" (c 15) ["self", "name"] (spI1 (c 15) "DuplicateName" "name") := by rw [d15]; exact gcls1 EC15 n_DuplicateName iI_DuplicateName tI_DuplicateName FI_DuplicateName scDuplicateName_init rfl rfl rfl (by decide) (by decide) BI_DuplicateName (fun _ _ _ => .of_eq rfl)
  have G_Full : GCls P w K mg base "Full" (c 16) ["self", "limit"] (spI1 (c 16) "Full" "limit") := by rw [d16]; exact gcls1 EC16 n_Full iI_Full tI_Full FI_Full scFull_init rfl rfl rfl (by decide) (by decide) BI_Full (fun _ _ _ => .of_eq rfl)
  have G_InUse : GCls P w K mg base "InUse" (c 17) ["self", "user"] (spI1 (c 17) "InUse" "user") := by rw [d17]; exact gcls1 EC17 n_InUse iI_InUse tI_InUse FI_InUse scInUse_init rfl rfl rfl (by decide) (by decide) BI_InUse (fun _ _ _ => .of_eq rfl)
  have G_InvalidCommand : GCls P w K mg base "InvalidCommand" (c 18) ["self", "at"] (spI1 (c 18) "InvalidCommand" "at") := by rw [d18]; exact gcls1 EC18 n_InvalidCommand iI_InvalidCommand tI_InvalidCommand FI_InvalidCommand scInvalidCommand_init rfl rfl rfl (by decide) (by decide) BI_InvalidCommand (fun _ _ _ => .of_eq rfl)
  have G_InvalidLimit : GCls P w K mg base "InvalidLimit" (c 19) ["self", "given"] (spI1 (c 19) "InvalidLimit" "given") := by rw [d19]; exact gcls1 EC19 n_InvalidLimit iI_InvalidLimit tI_InvalidLimit FI_InvalidLimit scInvalidLimit_init rfl rfl rfl (by decide) (by decide) BI_InvalidLimit (fun _ _ _ => .of_eq rfl)
  have G_InvalidPage : GCls P w K mg base "InvalidPage" (c 20) ["self", "line"] (spI1 (c 20) "InvalidPage" "line") := by rw [d20]; exact gcls1 EC20 n_InvalidPage iI_InvalidPage tI_InvalidPage FI_InvalidPage scInvalidPage_init rfl rfl rfl (by decide) (by decide) BI_InvalidPage (fun _ _ _ => .of_eq rfl)
  have G_UnknownName : GCls P w K mg base "UnknownName" (c 21) ["self", "name"] (spI1 (c 21) "UnknownName" "name") := by rw [d21]; exact gcls1 EC21 n_UnknownName iI_UnknownName tI_UnknownName FI_UnknownName scUnknownName_init rfl rfl rfl (by decide) (by decide) BI_UnknownName (fun _ _ _ => .of_eq rfl)
  have G_NothingLeft : GCls P w K mg base "NothingLeft" (c 22) ["self"] (spI0 (c 22) "NothingLeft") := by rw [d22]; exact gcls0 EC22 n_NothingLeft iI_NothingLeft tI_NothingLeft FI_NothingLeft scNothingLeft_init rfl rfl BI_NothingLeft
  have XX : ErrAll K c cPE cMI := by
    have ck : ∀ i, i < 23 → CK K (c i) := all23 ⟨(by rw [d0]; exact EC0.ck), (by rw [d1]; exact EC1.ck), (by rw [d2]; exact EC2.ck), (by rw [d3]; exact EC3.ck), (by rw [d4]; exact EC4.ck), (by rw [d5]; exact EC5.ck), (by rw [d6]; exact EC6.ck), (by rw [d7]; exact EC7.ck), (by rw [d8]; exact EC8.ck), (by rw [d9]; exact EC9.ck), (by rw [d10]; exact EC10.ck), (by rw [d11]; exact EC11.ck), (by rw [d12]; exact EC12.ck), (by rw [d13]; exact EC13.ck), (by rw [d14]; exact EC14.ck), (by rw [d15]; exact EC15.ck), (by rw [d16]; exact EC16.ck), (by rw [d17]; exact EC17.ck), (by rw [d18]; exact EC18.ck), (by rw [d19]; exact EC19.ck), (by rw [d20]; exact EC20.ck), (by rw [d21]; exact EC21.ck), (by rw [d22]; exact EC22.ck)⟩
    have ne : ∀ i j, i < 25 → j < 25 → i ≠ j → c i ≠ c j := fun i j hi hj h e => h (inj i j hi hj e)
    have kk : ∀ i, i < 23 → ∀ B, CK K B → PySem.W.kitOne K (.ref (c i)) (.ref B) = some (decide (B = c i) || (decide (i < 21) && decide (B = c 23)) || (decide (i = 21) && decide (B = c 24))) := all23 ⟨(fun B h => by rw [d0, d23, d24]; exact (EC0.kit h).trans (congrArg some (has_1 e0 cPE tVE B (by decide) |>.trans (by simp)))), (fun B h => by rw [d1, d23, d24]; exact (EC1.kit h).trans (congrArg some (has_1 e1 cPE tVE B (by decide) |>.trans (by simp)))), (fun B h => by rw [d2, d23, d24]; exact (EC2.kit h).trans (congrArg some (has_1 e2 cPE tVE B (by decide) |>.trans (by simp)))), (fun B h => by rw [d3, d23, d24]; exact (EC3.kit h).trans (congrArg some (has_1 e3 cPE tVE B (by decide) |>.trans (by simp)))), (fun B h => by rw [d4, d23, d24]; exact (EC4.kit h).trans (congrArg some (has_1 e4 cPE tVE B (by decide) |>.trans (by simp)))), (fun B h => by rw [d5, d23, d24]; exact (EC5.kit h).trans (congrArg some (has_1 e5 cPE tVE B (by decide) |>.trans (by simp)))), (fun B h => by rw [d6, d23, d24]; exact (EC6.kit h).trans (congrArg some (has_1 e6 cPE tVE B (by decide) |>.trans (by simp)))), (fun B h => by rw [d7, d23, d24]; exact (EC7.kit h).trans (congrArg some (has_1 e7 cPE tVE B (by decide) |>.trans (by simp)))), (fun B h => by rw [d8, d23, d24]; exact (EC8.kit h).trans (congrArg some (has_1 e8 cPE tVE B (by decide) |>.trans (by simp)))), (fun B h => by rw [d9, d23, d24]; exact (EC9.kit h).trans (congrArg some (has_1 e9 cPE tVE B (by decide) |>.trans (by simp)))), (fun B h => by rw [d10, d23, d24]; exact (EC10.kit h).trans (congrArg some (has_1 e10 cPE tVE B (by decide) |>.trans (by simp)))), (fun B h => by rw [d11, d23, d24]; exact (EC11.kit h).trans (congrArg some (has_1 e11 cPE tVE B (by decide) |>.trans (by simp)))), (fun B h => by rw [d12, d23, d24]; exact (EC12.kit h).trans (congrArg some (has_1 e12 cPE tVE B (by decide) |>.trans (by simp)))), (fun B h => by rw [d13, d23, d24]; exact (EC13.kit h).trans (congrArg some (has_1 e13 cPE tVE B (by decide) |>.trans (by simp)))), (fun B h => by rw [d14, d23, d24]; exact (EC14.kit h).trans (congrArg some (has_1 e14 cPE tVE B (by decide) |>.trans (by simp)))), (fun B h => by rw [d15, d23, d24]; exact (EC15.kit h).trans (congrArg some (has_1 e15 cPE tVE B (by decide) |>.trans (by simp)))), (fun B h => by rw [d16, d23, d24]; exact (EC16.kit h).trans (congrArg some (has_1 e16 cPE tVE B (by decide) |>.trans (by simp)))), (fun B h => by rw [d17, d23, d24]; exact (EC17.kit h).trans (congrArg some (has_1 e17 cPE tVE B (by decide) |>.trans (by simp)))), (fun B h => by rw [d18, d23, d24]; exact (EC18.kit h).trans (congrArg some (has_1 e18 cPE tVE B (by decide) |>.trans (by simp)))), (fun B h => by rw [d19, d23, d24]; exact (EC19.kit h).trans (congrArg some (has_1 e19 cPE tVE B (by decide) |>.trans (by simp)))), (fun B h => by rw [d20, d23, d24]; exact (EC20.kit h).trans (congrArg some (has_1 e20 cPE tVE B (by decide) |>.trans (by simp)))), (fun B h => by rw [d21, d23, d24]; exact (EC21.kit h).trans (congrArg some (has_1 e21 cMI tLE B (by decide) |>.trans (by simp)))), (fun B h => by rw [d22, d23, d24]; exact (EC22.kit h).trans (congrArg some (has_0 e22 tIE B (by decide) |>.trans (by simp))))⟩
    refine ⟨all23 ⟨(by rw [d0]; exact EC0.excC sp_ tk_), (by rw [d1]; exact EC1.excC sp_ tk_), (by rw [d2]; exact EC2.excC sp_ tk_), (by rw [d3]; exact EC3.excC sp_ tk_), (by rw [d4]; exact EC4.excC sp_ tk_), (by rw [d5]; exact EC5.excC sp_ tk_), (by rw [d6]; exact EC6.excC sp_ tk_), (by rw [d7]; exact EC7.excC sp_ tk_), (by rw [d8]; exact EC8.excC sp_ tk_), (by rw [d9]; exact EC9.excC sp_ tk_), (by rw [d10]; exact EC10.excC sp_ tk_), (by rw [d11]; exact EC11.excC sp_ tk_), (by rw [d12]; exact EC12.excC sp_ tk_), (by rw [d13]; exact EC13.excC sp_ tk_), (by rw [d14]; exact EC14.excC sp_ tk_), (by rw [d15]; exact EC15.excC sp_ tk_), (by rw [d16]; exact EC16.excC sp_ tk_), (by rw [d17]; exact EC17.excC sp_ tk_), (by rw [d18]; exact EC18.excC sp_ tk_), (by rw [d19]; exact EC19.excC sp_ tk_), (by rw [d20]; exact EC20.excC sp_ tk_), (by rw [d21]; exact EC21.excC sp_ tk_), (by rw [d22]; exact EC22.excC sp_ tk_)⟩, ?_, ?_, all23 ⟨(by rw [d0]; exact (EC0.kitT kitM_VE).trans (congrArg some (by rfl))), (by rw [d1]; exact (EC1.kitT kitM_VE).trans (congrArg some (by rfl))), (by rw [d2]; exact (EC2.kitT kitM_VE).trans (congrArg some (by rfl))), (by rw [d3]; exact (EC3.kitT kitM_VE).trans (congrArg some (by rfl))), (by rw [d4]; exact (EC4.kitT kitM_VE).trans (congrArg some (by rfl))), (by rw [d5]; exact (EC5.kitT kitM_VE).trans (congrArg some (by rfl))), (by rw [d6]; exact (EC6.kitT kitM_VE).trans (congrArg some (by rfl))), (by rw [d7]; exact (EC7.kitT kitM_VE).trans (congrArg some (by rfl))), (by rw [d8]; exact (EC8.kitT kitM_VE).trans (congrArg some (by rfl))), (by rw [d9]; exact (EC9.kitT kitM_VE).trans (congrArg some (by rfl))), (by rw [d10]; exact (EC10.kitT kitM_VE).trans (congrArg some (by rfl))), (by rw [d11]; exact (EC11.kitT kitM_VE).trans (congrArg some (by rfl))), (by rw [d12]; exact (EC12.kitT kitM_VE).trans (congrArg some (by rfl))), (by rw [d13]; exact (EC13.kitT kitM_VE).trans (congrArg some (by rfl))), (by rw [d14]; exact (EC14.kitT kitM_VE).trans (congrArg some (by rfl))), (by rw [d15]; exact (EC15.kitT kitM_VE).trans (congrArg some (by rfl))), (by rw [d16]; exact (EC16.kitT kitM_VE).trans (congrArg some (by rfl))), (by rw [d17]; exact (EC17.kitT kitM_VE).trans (congrArg some (by rfl))), (by rw [d18]; exact (EC18.kitT kitM_VE).trans (congrArg some (by rfl))), (by rw [d19]; exact (EC19.kitT kitM_VE).trans (congrArg some (by rfl))), (by rw [d20]; exact (EC20.kitT kitM_VE).trans (congrArg some (by rfl))), (by rw [d21]; exact (EC21.kitT kitM_VE).trans (congrArg some (by rfl))), (by rw [d22]; exact (EC22.kitT kitM_VE).trans (congrArg some (by rfl)))⟩, ?_, all23 ⟨(by rw [d0]; exact (EC0.kitT kitM_LE).trans (congrArg some (by rfl))), (by rw [d1]; exact (EC1.kitT kitM_LE).trans (congrArg some (by rfl))), (by rw [d2]; exact (EC2.kitT kitM_LE).trans (congrArg some (by rfl))), (by rw [d3]; exact (EC3.kitT kitM_LE).trans (congrArg some (by rfl))), (by rw [d4]; exact (EC4.kitT kitM_LE).trans (congrArg some (by rfl))), (by rw [d5]; exact (EC5.kitT kitM_LE).trans (congrArg some (by rfl))), (by rw [d6]; exact (EC6.kitT kitM_LE).trans (congrArg some (by rfl))), (by rw [d7]; exact (EC7.kitT kitM_LE).trans (congrArg some (by rfl))), (by rw [d8]; exact (EC8.kitT kitM_LE).trans (congrArg some (by rfl))), (by rw [d9]; exact (EC9.kitT kitM_LE).trans (congrArg some (by rfl))), (by rw [d10]; exact (EC10.kitT kitM_LE).trans (congrArg some (by rfl))), (by rw [d11]; exact (EC11.kitT kitM_LE).trans (congrArg some (by rfl))), (by rw [d12]; exact (EC12.kitT kitM_LE).trans (congrArg some (by rfl))), (by rw [d13]; exact (EC13.kitT kitM_LE).trans (congrArg some (by rfl))), (by rw [d14]; exact (EC14.kitT kitM_LE).trans (congrArg some (by rfl))), (by rw [d15]; exact (EC15.kitT kitM_LE).trans (congrArg some (by rfl))), (by rw [d16]; exact (EC16.kitT kitM_LE).trans (congrArg some (by rfl))), (by rw [d17]; exact (EC17.kitT kitM_LE).trans (congrArg some (by rfl))), (by rw [d18]; exact (EC18.kitT kitM_LE).trans (congrArg some (by rfl))), (by rw [d19]; exact (EC19.kitT kitM_LE).trans (congrArg some (by rfl))), (by rw [d20]; exact (EC20.kitT kitM_LE).trans (congrArg some (by rfl))), (by rw [d21]; exact (EC21.kitT kitM_LE).trans (congrArg some (by rfl))), (by rw [d22]; exact (EC22.kitT kitM_LE).trans (congrArg some (by rfl)))⟩, all23 ⟨(by rw [d0]; exact (EC0.kitT kitM_IE).trans (congrArg some (by rfl))), (by rw [d1]; exact (EC1.kitT kitM_IE).trans (congrArg some (by rfl))), (by rw [d2]; exact (EC2.kitT kitM_IE).trans (congrArg some (by rfl))), (by rw [d3]; exact (EC3.kitT kitM_IE).trans (congrArg some (by rfl))), (by rw [d4]; exact (EC4.kitT kitM_IE).trans (congrArg some (by rfl))), (by rw [d5]; exact (EC5.kitT kitM_IE).trans (congrArg some (by rfl))), (by rw [d6]; exact (EC6.kitT kitM_IE).trans (congrArg some (by rfl))), (by rw [d7]; exact (EC7.kitT kitM_IE).trans (congrArg some (by rfl))), (by rw [d8]; exact (EC8.kitT kitM_IE).trans (congrArg some (by rfl))), (by rw [d9]; exact (EC9.kitT kitM_IE).trans (congrArg some (by rfl))), (by rw [d10]; exact (EC10.kitT kitM_IE).trans (congrArg some (by rfl))), (by rw [d11]; exact (EC11.kitT kitM_IE).trans (congrArg some (by rfl))), (by rw [d12]; exact (EC12.kitT kitM_IE).trans (congrArg some (by rfl))), (by rw [d13]; exact (EC13.kitT kitM_IE).trans (congrArg some (by rfl))), (by rw [d14]; exact (EC14.kitT kitM_IE).trans (congrArg some (by rfl))), (by rw [d15]; exact (EC15.kitT kitM_IE).trans (congrArg some (by rfl))), (by rw [d16]; exact (EC16.kitT kitM_IE).trans (congrArg some (by rfl))), (by rw [d17]; exact (EC17.kitT kitM_IE).trans (congrArg some (by rfl))), (by rw [d18]; exact (EC18.kitT kitM_IE).trans (congrArg some (by rfl))), (by rw [d19]; exact (EC19.kitT kitM_IE).trans (congrArg some (by rfl))), (by rw [d20]; exact (EC20.kitT kitM_IE).trans (congrArg some (by rfl))), (by rw [d21]; exact (EC21.kitT kitM_IE).trans (congrArg some (by rfl))), (by rw [d22]; exact (EC22.kitT kitM_IE).trans (congrArg some (by rfl)))⟩, all23 ⟨(by rw [d0]; exact EC0.fld (by simp)), (by rw [d1]; exact EC1.fld (by simp)), (by rw [d2]; exact EC2.fld (by simp)), (by rw [d3]; exact EC3.fld (by simp)), (by rw [d4]; exact EC4.fld (by simp)), (by rw [d5]; exact EC5.fld (by simp)), (by rw [d6]; exact EC6.fld (by simp)), (by rw [d7]; exact EC7.fld (by simp)), (by rw [d8]; exact EC8.fld (by simp)), (by rw [d9]; exact EC9.fld (by simp)), (by rw [d10]; exact EC10.fld (by simp)), (by rw [d11]; exact EC11.fld (by simp)), (by rw [d12]; exact EC12.fld (by simp)), (by rw [d13]; exact EC13.fld (by simp)), (by rw [d14]; exact EC14.fld (by simp)), (by rw [d15]; exact EC15.fld (by simp)), (by rw [d16]; exact EC16.fld (by simp)), (by rw [d17]; exact EC17.fld (by simp)), (by rw [d18]; exact EC18.fld (by simp)), (by rw [d19]; exact EC19.fld (by simp)), (by rw [d20]; exact EC20.fld (by simp)), (by rw [d21]; exact EC21.fld (by simp)), (by rw [d22]; exact EC22.fld (by simp))⟩, ?_⟩
    · intro i hi j hj
      rw [kk i hi _ (ck j hj), decide_eq_false (ne j 23 (by omega) (by omega) (by omega)), decide_eq_false (ne j 24 (by omega) (by omega) (by omega)), Bool.and_false, Bool.and_false, Bool.or_false, Bool.or_false]
      refine congrArg some (decide_eq_decide.mpr ⟨fun h => inj j i (by omega) (by omega) h, fun h => by rw [h]⟩)
    · intro i hi
      have h := kk i hi _ CK_PlaneError
      rw [← d23, decide_eq_false (ne 23 i (by omega) (by omega) (by omega)), decide_eq_false (ne 23 24 (by omega) (by omega) (by omega)), decide_eq_true (rfl : c 23 = c 23), Bool.and_false, Bool.or_false, Bool.false_or, Bool.and_true, d23] at h
      exact h
    · intro i hi
      have h := kk i hi _ CK_Missing
      rw [← d24, decide_eq_false (ne 24 i (by omega) (by omega) (by omega)), decide_eq_false (ne 24 23 (by omega) (by omega) (by omega)), decide_eq_true (rfl : c 24 = c 24), Bool.and_false, Bool.false_or, Bool.false_or, Bool.and_true, d24] at h
      exact h
    · intro i f hi
      revert f
      revert i
      exact all23 ⟨(fun f h => by cases h; rw [d0]; exact EC0.fld (by simp)), (fun f h => by cases h; rw [d1]; exact EC1.fld (by simp)), (fun f h => by cases h; rw [d2]; exact EC2.fld (by simp)), (fun f h => by cases h; rw [d3]; exact EC3.fld (by simp)), (fun f h => by cases h; rw [d4]; exact EC4.fld (by simp)), (fun f h => by cases h), (fun f h => by cases h), (fun f h => by cases h), (fun f h => by cases h; rw [d8]; exact EC8.fld (by simp)), (fun f h => by cases h; rw [d9]; exact EC9.fld (by simp)), (fun f h => by cases h; rw [d10]; exact EC10.fld (by simp)), (fun f h => by cases h), (fun f h => by cases h; rw [d12]; exact EC12.fld (by simp)), (fun f h => by cases h; rw [d13]; exact EC13.fld (by simp)), (fun f h => by cases h; rw [d14]; exact EC14.fld (by simp)), (fun f h => by cases h; rw [d15]; exact EC15.fld (by simp)), (fun f h => by cases h; rw [d16]; exact EC16.fld (by simp)), (fun f h => by cases h; rw [d17]; exact EC17.fld (by simp)), (fun f h => by cases h; rw [d18]; exact EC18.fld (by simp)), (fun f h => by cases h; rw [d19]; exact EC19.fld (by simp)), (fun f h => by cases h; rw [d20]; exact EC20.fld (by simp)), (fun f h => by cases h; rw [d21]; exact EC21.fld (by simp)), (fun f h => by cases h)⟩
  have CLField := cal_mk (ok_LField (P := P) (w := w) (base := base) Z FLField) mLField FLField.kp bLField
  have CLKindsOf := cal_mk (ok_LKindsOf (P := P) (w := w) (base := base) Z FLKindsOf (c := c) (by rw [d0]; exact n_InvalidNumber) (by rw [d1]; exact n_InvalidRatio) (by rw [d2]; exact n_InvalidPoint) (by rw [d3]; exact n_InvalidTerm) (by rw [d4]; exact n_InvalidLetter) (by rw [d5]; exact n_ZeroDivisor) (by rw [d6]; exact n_ZeroPolynomial) (by rw [d7]; exact n_NotDivisible) (by rw [d8]; exact n_NoRoot) (by rw [d9]; exact n_NoPlace) (by rw [d10]; exact n_OutOfBox) (by rw [d11]; exact n_NoValue) (by rw [d12]; exact n_InvalidName) (by rw [d13]; exact n_InvalidProgram) (by rw [d14]; exact n_InvalidText) (by rw [d15]; exact n_DuplicateName) (by rw [d16]; exact n_Full) (by rw [d17]; exact n_InUse) (by rw [d18]; exact n_InvalidCommand) (by rw [d19]; exact n_InvalidLimit) (by rw [d20]; exact n_InvalidPage) (by rw [d21]; exact n_UnknownName) (by rw [d22]; exact n_NothingLeft)) mLKindsOf FLKindsOf.kp bLKindsOf
  have CLCodes := cal_mk (ok_LCodes (P := P) (w := w) (base := base) Z FLCodes) mLCodes FLCodes.kp bLCodes
  have CLMade := cal_mk (ok_LMade (P := P) (w := w) (base := base) Z FLMade (c := c) G_InvalidNumber G_InvalidRatio G_InvalidPoint G_InvalidTerm G_InvalidLetter G_ZeroDivisor G_ZeroPolynomial G_NotDivisible G_NoRoot G_NoPlace G_OutOfBox G_NoValue G_InvalidName G_InvalidProgram G_InvalidText G_DuplicateName G_Full G_InUse G_InvalidCommand G_InvalidLimit G_InvalidPage G_UnknownName G_NothingLeft) mLMade FLMade.kp bLMade
  have CLNamed := cal_mk (ok_LNamed (P := P) (w := w) (base := base) Z FLNamed (c := c) G_InvalidNumber G_InvalidRatio G_InvalidPoint G_InvalidTerm G_InvalidLetter G_ZeroDivisor G_ZeroPolynomial G_NotDivisible G_NoRoot G_NoPlace G_OutOfBox G_NoValue G_InvalidName G_InvalidProgram G_InvalidText G_DuplicateName G_Full G_InUse G_InvalidCommand G_InvalidLimit G_InvalidPage G_UnknownName G_NothingLeft) mLNamed FLNamed.kp bLNamed
  have CLBag := cal_mk (ok_LBag (P := P) (w := w) (base := base) Z FLBag) mLBag FLBag.kp bLBag
  have CLPull := cal_mk (ok_LPull (P := P) (w := w) (base := base) Z FLPull) mLPull FLPull.kp bLPull
  have CLOf := cal_mk (ok_LOf (P := P) (w := w) (base := base) Z FLOf CLPull) mLOf FLOf.kp bLOf
  have CLSame := cal_mk (same_all (P := P) (w := w) (base := base) Z FLSame bLSame mLSame 9) mLSame FLSame.kp bLSame
  exact ok_Law Z FLaw CLBag CLPull CLOf CLSame CLField CLKindsOf CLCodes CLMade CLNamed n_PlaneError n_Missing XX
theorem law_ends {K : PySem.W.Frag} {H : Hp} {a : Addr} {ns : List Int} (hS : SqL K H a (ns.map V.int)) : spD K lawS [.ref a] H (fun v _ => v = .bl true) fun _ _ _ => False := by
  refine ⟨[.ro (ns.map .int)], [], fun d _ => d = .bl true, fun _ _ => False, ⟨List.nodup_nil, fun a d m => absurd m (by simp)⟩, .cons (.ro ?_ (RpAll.ints ns)) .nil, ⟨ns, rfl, rfl, fun _ => rfl⟩, fun d L' v H' hd _ _ r => ?_, fun n L' a H' h => h.elim⟩
  · rcases hS with h | h
    · exact .inl ⟨by simp [inL], h⟩
    · exact .inr h
  · subst hd
    cases r
    rfl
end T01
open PySem PySem.W PyProof.Rows
set_option maxHeartbeats 0 in
theorem PySem.Challenge.cw_nearspokes_k01_errors_by_themselves_holds : PySem.Challenge.rw_nearspokes_k01_errors_by_themselves.Holds := by
  w_on; o_law; k_head; (case hw => w_witness2)
  k_fill
  refine DL.walk_ofX (l := PySem.Challenge.rw_nearspokes_k01_errors_by_themselves) (n := 63) (k := 12) (x := "_law_script") (CX := fun w => L2.CX PySem.Challenge.rw_nearspokes_k01_errors_by_themselves.prog w) (sp := fun w => DL.spD _ T01.lawS) rfl (by decide) rfl ⟨rfl, by decide, by decide⟩ (fun w h Y => PySem.W.kIn_of Y) ?F (fun _ _ a ns hl _ hS => T01.law_ends hS) (fun _ _ _ _ _ z => by obtain ⟨_, _, _, _, _, _, _, _, _, _, _, _, z⟩ := z; exact z)
  case F =>
    intro w mg fa h KX XL G hmg
    refine' T01.all_mk KX G hmg ?a1 ?l1 ?c1 ?k1 ?a2 ?l2 ?c2 ?k2 ?a3 ?l3 ?c3 ?k3 ?a4 ?l4 ?c4 ?k4 ?a5 ?l5 ?c5 ?k5 ?a6 ?l6 ?c6 ?k6 ?a7 ?l7 ?c7 ?k7 ?a8 ?l8 ?c8 ?k8 ?a9 ?l9 ?c9 ?k9 ?a10 ?l10 ?c10 ?k10 ?z_isinstance ?z_int ?z_bool ?z_str ?z_list ?z_tuple ?z_len ?z_abs ?z_all ?z_range ?z_zip ?z_ValueError ?z_LookupError ?z_IndexError ?a_PlaneError ?ci_PlaneError ?yt_PlaneError ?a_Missing ?ci_Missing ?yt_Missing ?sp_ ?tk_ ?a_InvalidNumber ?o_InvalidNumber ?sa_InvalidNumber ?ex_InvalidNumber ?ty_InvalidNumber ?kc_InvalidNumber ?ga_InvalidNumber ?gg_InvalidNumber ?hd_InvalidNumber ?ca_InvalidNumber ?iI_InvalidNumber ?tI_InvalidNumber ?lI_InvalidNumber ?cI_InvalidNumber ?kI_InvalidNumber ?f0_InvalidNumber ?f1_InvalidNumber ?a_InvalidRatio ?o_InvalidRatio ?sa_InvalidRatio ?ex_InvalidRatio ?ty_InvalidRatio ?kc_InvalidRatio ?ga_InvalidRatio ?gg_InvalidRatio ?hd_InvalidRatio ?ca_InvalidRatio ?iI_InvalidRatio ?tI_InvalidRatio ?lI_InvalidRatio ?cI_InvalidRatio ?kI_InvalidRatio ?f0_InvalidRatio ?f1_InvalidRatio ?a_InvalidPoint ?o_InvalidPoint ?sa_InvalidPoint ?ex_InvalidPoint ?ty_InvalidPoint ?kc_InvalidPoint ?ga_InvalidPoint ?gg_InvalidPoint ?hd_InvalidPoint ?ca_InvalidPoint ?iI_InvalidPoint ?tI_InvalidPoint ?lI_InvalidPoint ?cI_InvalidPoint ?kI_InvalidPoint ?f0_InvalidPoint ?f1_InvalidPoint ?a_InvalidTerm ?o_InvalidTerm ?sa_InvalidTerm ?ex_InvalidTerm ?ty_InvalidTerm ?kc_InvalidTerm ?ga_InvalidTerm ?gg_InvalidTerm ?hd_InvalidTerm ?ca_InvalidTerm ?iI_InvalidTerm ?tI_InvalidTerm ?lI_InvalidTerm ?cI_InvalidTerm ?kI_InvalidTerm ?f0_InvalidTerm ?f1_InvalidTerm ?a_InvalidLetter ?o_InvalidLetter ?sa_InvalidLetter ?ex_InvalidLetter ?ty_InvalidLetter ?kc_InvalidLetter ?ga_InvalidLetter ?gg_InvalidLetter ?hd_InvalidLetter ?ca_InvalidLetter ?iI_InvalidLetter ?tI_InvalidLetter ?lI_InvalidLetter ?cI_InvalidLetter ?kI_InvalidLetter ?f0_InvalidLetter ?f1_InvalidLetter ?a_ZeroDivisor ?o_ZeroDivisor ?sa_ZeroDivisor ?ex_ZeroDivisor ?ty_ZeroDivisor ?kc_ZeroDivisor ?ga_ZeroDivisor ?gg_ZeroDivisor ?hd_ZeroDivisor ?ca_ZeroDivisor ?iI_ZeroDivisor ?tI_ZeroDivisor ?lI_ZeroDivisor ?cI_ZeroDivisor ?kI_ZeroDivisor ?f0_ZeroDivisor ?a_ZeroPolynomial ?o_ZeroPolynomial ?sa_ZeroPolynomial ?ex_ZeroPolynomial ?ty_ZeroPolynomial ?kc_ZeroPolynomial ?ga_ZeroPolynomial ?gg_ZeroPolynomial ?hd_ZeroPolynomial ?ca_ZeroPolynomial ?iI_ZeroPolynomial ?tI_ZeroPolynomial ?lI_ZeroPolynomial ?cI_ZeroPolynomial ?kI_ZeroPolynomial ?f0_ZeroPolynomial ?a_NotDivisible ?o_NotDivisible ?sa_NotDivisible ?ex_NotDivisible ?ty_NotDivisible ?kc_NotDivisible ?ga_NotDivisible ?gg_NotDivisible ?hd_NotDivisible ?ca_NotDivisible ?iI_NotDivisible ?tI_NotDivisible ?lI_NotDivisible ?cI_NotDivisible ?kI_NotDivisible ?f0_NotDivisible ?a_NoRoot ?o_NoRoot ?sa_NoRoot ?ex_NoRoot ?ty_NoRoot ?kc_NoRoot ?ga_NoRoot ?gg_NoRoot ?hd_NoRoot ?ca_NoRoot ?iI_NoRoot ?tI_NoRoot ?lI_NoRoot ?cI_NoRoot ?kI_NoRoot ?f0_NoRoot ?f1_NoRoot ?a_NoPlace ?o_NoPlace ?sa_NoPlace ?ex_NoPlace ?ty_NoPlace ?kc_NoPlace ?ga_NoPlace ?gg_NoPlace ?hd_NoPlace ?ca_NoPlace ?iI_NoPlace ?tI_NoPlace ?lI_NoPlace ?cI_NoPlace ?kI_NoPlace ?f0_NoPlace ?f1_NoPlace ?a_OutOfBox ?o_OutOfBox ?sa_OutOfBox ?ex_OutOfBox ?ty_OutOfBox ?kc_OutOfBox ?ga_OutOfBox ?gg_OutOfBox ?hd_OutOfBox ?ca_OutOfBox ?iI_OutOfBox ?tI_OutOfBox ?lI_OutOfBox ?cI_OutOfBox ?kI_OutOfBox ?f0_OutOfBox ?f1_OutOfBox ?a_NoValue ?o_NoValue ?sa_NoValue ?ex_NoValue ?ty_NoValue ?kc_NoValue ?ga_NoValue ?gg_NoValue ?hd_NoValue ?ca_NoValue ?iI_NoValue ?tI_NoValue ?lI_NoValue ?cI_NoValue ?kI_NoValue ?f0_NoValue ?a_InvalidName ?o_InvalidName ?sa_InvalidName ?ex_InvalidName ?ty_InvalidName ?kc_InvalidName ?ga_InvalidName ?gg_InvalidName ?hd_InvalidName ?ca_InvalidName ?iI_InvalidName ?tI_InvalidName ?lI_InvalidName ?cI_InvalidName ?kI_InvalidName ?f0_InvalidName ?f1_InvalidName ?a_InvalidProgram ?o_InvalidProgram ?sa_InvalidProgram ?ex_InvalidProgram ?ty_InvalidProgram ?kc_InvalidProgram ?ga_InvalidProgram ?gg_InvalidProgram ?hd_InvalidProgram ?ca_InvalidProgram ?iI_InvalidProgram ?tI_InvalidProgram ?lI_InvalidProgram ?cI_InvalidProgram ?kI_InvalidProgram ?f0_InvalidProgram ?f1_InvalidProgram ?a_InvalidText ?o_InvalidText ?sa_InvalidText ?ex_InvalidText ?ty_InvalidText ?kc_InvalidText ?ga_InvalidText ?gg_InvalidText ?hd_InvalidText ?ca_InvalidText ?iI_InvalidText ?tI_InvalidText ?lI_InvalidText ?cI_InvalidText ?kI_InvalidText ?f0_InvalidText ?f1_InvalidText ?a_DuplicateName ?o_DuplicateName ?sa_DuplicateName ?ex_DuplicateName ?ty_DuplicateName ?kc_DuplicateName ?ga_DuplicateName ?gg_DuplicateName ?hd_DuplicateName ?ca_DuplicateName ?iI_DuplicateName ?tI_DuplicateName ?lI_DuplicateName ?cI_DuplicateName ?kI_DuplicateName ?f0_DuplicateName ?f1_DuplicateName ?a_Full ?o_Full ?sa_Full ?ex_Full ?ty_Full ?kc_Full ?ga_Full ?gg_Full ?hd_Full ?ca_Full ?iI_Full ?tI_Full ?lI_Full ?cI_Full ?kI_Full ?f0_Full ?f1_Full ?a_InUse ?o_InUse ?sa_InUse ?ex_InUse ?ty_InUse ?kc_InUse ?ga_InUse ?gg_InUse ?hd_InUse ?ca_InUse ?iI_InUse ?tI_InUse ?lI_InUse ?cI_InUse ?kI_InUse ?f0_InUse ?f1_InUse ?a_InvalidCommand ?o_InvalidCommand ?sa_InvalidCommand ?ex_InvalidCommand ?ty_InvalidCommand ?kc_InvalidCommand ?ga_InvalidCommand ?gg_InvalidCommand ?hd_InvalidCommand ?ca_InvalidCommand ?iI_InvalidCommand ?tI_InvalidCommand ?lI_InvalidCommand ?cI_InvalidCommand ?kI_InvalidCommand ?f0_InvalidCommand ?f1_InvalidCommand ?a_InvalidLimit ?o_InvalidLimit ?sa_InvalidLimit ?ex_InvalidLimit ?ty_InvalidLimit ?kc_InvalidLimit ?ga_InvalidLimit ?gg_InvalidLimit ?hd_InvalidLimit ?ca_InvalidLimit ?iI_InvalidLimit ?tI_InvalidLimit ?lI_InvalidLimit ?cI_InvalidLimit ?kI_InvalidLimit ?f0_InvalidLimit ?f1_InvalidLimit ?a_InvalidPage ?o_InvalidPage ?sa_InvalidPage ?ex_InvalidPage ?ty_InvalidPage ?kc_InvalidPage ?ga_InvalidPage ?gg_InvalidPage ?hd_InvalidPage ?ca_InvalidPage ?iI_InvalidPage ?tI_InvalidPage ?lI_InvalidPage ?cI_InvalidPage ?kI_InvalidPage ?f0_InvalidPage ?f1_InvalidPage ?a_UnknownName ?o_UnknownName ?sa_UnknownName ?ex_UnknownName ?ty_UnknownName ?kc_UnknownName ?ga_UnknownName ?gg_UnknownName ?hd_UnknownName ?ca_UnknownName ?iI_UnknownName ?tI_UnknownName ?lI_UnknownName ?cI_UnknownName ?kI_UnknownName ?f0_UnknownName ?f1_UnknownName ?a_NothingLeft ?o_NothingLeft ?sa_NothingLeft ?ex_NothingLeft ?ty_NothingLeft ?kc_NothingLeft ?ga_NothingLeft ?gg_NothingLeft ?hd_NothingLeft ?ca_NothingLeft ?iI_NothingLeft ?tI_NothingLeft ?lI_NothingLeft ?cI_NothingLeft ?kI_NothingLeft ?f0_NothingLeft ?nd_
    (case a1 => k_is)
    (case l1 => k_is)
    (case c1 => k_is)
    (case k1 => k_is)
    (case a2 => k_is)
    (case l2 => k_is)
    (case c2 => k_is)
    (case k2 => k_is)
    (case a3 => k_is)
    (case l3 => k_is)
    (case c3 => k_is)
    (case k3 => k_is)
    (case a4 => k_is)
    (case l4 => k_is)
    (case c4 => k_is)
    (case k4 => k_is)
    (case a5 => k_is)
    (case l5 => k_is)
    (case c5 => k_is)
    (case k5 => k_is)
    (case a6 => k_is)
    (case l6 => k_is)
    (case c6 => k_is)
    (case k6 => k_is)
    (case a7 => k_is)
    (case l7 => k_is)
    (case c7 => k_is)
    (case k7 => k_is)
    (case a8 => k_is)
    (case l8 => k_is)
    (case c8 => k_is)
    (case k8 => k_is)
    (case a9 => k_is)
    (case l9 => k_is)
    (case c9 => k_is)
    (case k9 => k_is)
    (case a10 => k_is)
    (case l10 => k_is)
    (case c10 => k_is)
    (case k10 => k_is)
    (case z_isinstance => k_is)
    (case z_int => k_is)
    (case z_bool => k_is)
    (case z_str => k_is)
    (case z_list => k_is)
    (case z_tuple => k_is)
    (case z_len => k_is)
    (case z_abs => k_is)
    (case z_all => k_is)
    (case z_range => k_is)
    (case z_zip => k_is)
    (case z_ValueError => k_is)
    (case z_LookupError => k_is)
    (case z_IndexError => k_is)
    (case a_PlaneError => k_is)
    (case ci_PlaneError => k_is)
    (case yt_PlaneError => k_is)
    (case a_Missing => k_is)
    (case ci_Missing => k_is)
    (case yt_Missing => k_is)
    (case sp_ => k_is)
    (case tk_ => k_is)
    (case a_InvalidNumber => k_is)
    (case o_InvalidNumber => k_is)
    (case sa_InvalidNumber => k_is)
    (case ex_InvalidNumber => k_is)
    (case ty_InvalidNumber => k_is)
    (case kc_InvalidNumber => k_is)
    (case ga_InvalidNumber => k_is)
    (case gg_InvalidNumber => k_is)
    (case hd_InvalidNumber => k_is)
    (case ca_InvalidNumber => k_is)
    (case iI_InvalidNumber => k_is)
    (case tI_InvalidNumber => k_is)
    (case lI_InvalidNumber => k_is)
    (case cI_InvalidNumber => k_is)
    (case kI_InvalidNumber => k_is)
    (case f0_InvalidNumber => k_is)
    (case f1_InvalidNumber => k_is)
    (case a_InvalidRatio => k_is)
    (case o_InvalidRatio => k_is)
    (case sa_InvalidRatio => k_is)
    (case ex_InvalidRatio => k_is)
    (case ty_InvalidRatio => k_is)
    (case kc_InvalidRatio => k_is)
    (case ga_InvalidRatio => k_is)
    (case gg_InvalidRatio => k_is)
    (case hd_InvalidRatio => k_is)
    (case ca_InvalidRatio => k_is)
    (case iI_InvalidRatio => k_is)
    (case tI_InvalidRatio => k_is)
    (case lI_InvalidRatio => k_is)
    (case cI_InvalidRatio => k_is)
    (case kI_InvalidRatio => k_is)
    (case f0_InvalidRatio => k_is)
    (case f1_InvalidRatio => k_is)
    (case a_InvalidPoint => k_is)
    (case o_InvalidPoint => k_is)
    (case sa_InvalidPoint => k_is)
    (case ex_InvalidPoint => k_is)
    (case ty_InvalidPoint => k_is)
    (case kc_InvalidPoint => k_is)
    (case ga_InvalidPoint => k_is)
    (case gg_InvalidPoint => k_is)
    (case hd_InvalidPoint => k_is)
    (case ca_InvalidPoint => k_is)
    (case iI_InvalidPoint => k_is)
    (case tI_InvalidPoint => k_is)
    (case lI_InvalidPoint => k_is)
    (case cI_InvalidPoint => k_is)
    (case kI_InvalidPoint => k_is)
    (case f0_InvalidPoint => k_is)
    (case f1_InvalidPoint => k_is)
    (case a_InvalidTerm => k_is)
    (case o_InvalidTerm => k_is)
    (case sa_InvalidTerm => k_is)
    (case ex_InvalidTerm => k_is)
    (case ty_InvalidTerm => k_is)
    (case kc_InvalidTerm => k_is)
    (case ga_InvalidTerm => k_is)
    (case gg_InvalidTerm => k_is)
    (case hd_InvalidTerm => k_is)
    (case ca_InvalidTerm => k_is)
    (case iI_InvalidTerm => k_is)
    (case tI_InvalidTerm => k_is)
    (case lI_InvalidTerm => k_is)
    (case cI_InvalidTerm => k_is)
    (case kI_InvalidTerm => k_is)
    (case f0_InvalidTerm => k_is)
    (case f1_InvalidTerm => k_is)
    (case a_InvalidLetter => k_is)
    (case o_InvalidLetter => k_is)
    (case sa_InvalidLetter => k_is)
    (case ex_InvalidLetter => k_is)
    (case ty_InvalidLetter => k_is)
    (case kc_InvalidLetter => k_is)
    (case ga_InvalidLetter => k_is)
    (case gg_InvalidLetter => k_is)
    (case hd_InvalidLetter => k_is)
    (case ca_InvalidLetter => k_is)
    (case iI_InvalidLetter => k_is)
    (case tI_InvalidLetter => k_is)
    (case lI_InvalidLetter => k_is)
    (case cI_InvalidLetter => k_is)
    (case kI_InvalidLetter => k_is)
    (case f0_InvalidLetter => k_is)
    (case f1_InvalidLetter => k_is)
    (case a_ZeroDivisor => k_is)
    (case o_ZeroDivisor => k_is)
    (case sa_ZeroDivisor => k_is)
    (case ex_ZeroDivisor => k_is)
    (case ty_ZeroDivisor => k_is)
    (case kc_ZeroDivisor => k_is)
    (case ga_ZeroDivisor => k_is)
    (case gg_ZeroDivisor => k_is)
    (case hd_ZeroDivisor => k_is)
    (case ca_ZeroDivisor => k_is)
    (case iI_ZeroDivisor => k_is)
    (case tI_ZeroDivisor => k_is)
    (case lI_ZeroDivisor => k_is)
    (case cI_ZeroDivisor => k_is)
    (case kI_ZeroDivisor => k_is)
    (case f0_ZeroDivisor => k_is)
    (case a_ZeroPolynomial => k_is)
    (case o_ZeroPolynomial => k_is)
    (case sa_ZeroPolynomial => k_is)
    (case ex_ZeroPolynomial => k_is)
    (case ty_ZeroPolynomial => k_is)
    (case kc_ZeroPolynomial => k_is)
    (case ga_ZeroPolynomial => k_is)
    (case gg_ZeroPolynomial => k_is)
    (case hd_ZeroPolynomial => k_is)
    (case ca_ZeroPolynomial => k_is)
    (case iI_ZeroPolynomial => k_is)
    (case tI_ZeroPolynomial => k_is)
    (case lI_ZeroPolynomial => k_is)
    (case cI_ZeroPolynomial => k_is)
    (case kI_ZeroPolynomial => k_is)
    (case f0_ZeroPolynomial => k_is)
    (case a_NotDivisible => k_is)
    (case o_NotDivisible => k_is)
    (case sa_NotDivisible => k_is)
    (case ex_NotDivisible => k_is)
    (case ty_NotDivisible => k_is)
    (case kc_NotDivisible => k_is)
    (case ga_NotDivisible => k_is)
    (case gg_NotDivisible => k_is)
    (case hd_NotDivisible => k_is)
    (case ca_NotDivisible => k_is)
    (case iI_NotDivisible => k_is)
    (case tI_NotDivisible => k_is)
    (case lI_NotDivisible => k_is)
    (case cI_NotDivisible => k_is)
    (case kI_NotDivisible => k_is)
    (case f0_NotDivisible => k_is)
    (case a_NoRoot => k_is)
    (case o_NoRoot => k_is)
    (case sa_NoRoot => k_is)
    (case ex_NoRoot => k_is)
    (case ty_NoRoot => k_is)
    (case kc_NoRoot => k_is)
    (case ga_NoRoot => k_is)
    (case gg_NoRoot => k_is)
    (case hd_NoRoot => k_is)
    (case ca_NoRoot => k_is)
    (case iI_NoRoot => k_is)
    (case tI_NoRoot => k_is)
    (case lI_NoRoot => k_is)
    (case cI_NoRoot => k_is)
    (case kI_NoRoot => k_is)
    (case f0_NoRoot => k_is)
    (case f1_NoRoot => k_is)
    (case a_NoPlace => k_is)
    (case o_NoPlace => k_is)
    (case sa_NoPlace => k_is)
    (case ex_NoPlace => k_is)
    (case ty_NoPlace => k_is)
    (case kc_NoPlace => k_is)
    (case ga_NoPlace => k_is)
    (case gg_NoPlace => k_is)
    (case hd_NoPlace => k_is)
    (case ca_NoPlace => k_is)
    (case iI_NoPlace => k_is)
    (case tI_NoPlace => k_is)
    (case lI_NoPlace => k_is)
    (case cI_NoPlace => k_is)
    (case kI_NoPlace => k_is)
    (case f0_NoPlace => k_is)
    (case f1_NoPlace => k_is)
    (case a_OutOfBox => k_is)
    (case o_OutOfBox => k_is)
    (case sa_OutOfBox => k_is)
    (case ex_OutOfBox => k_is)
    (case ty_OutOfBox => k_is)
    (case kc_OutOfBox => k_is)
    (case ga_OutOfBox => k_is)
    (case gg_OutOfBox => k_is)
    (case hd_OutOfBox => k_is)
    (case ca_OutOfBox => k_is)
    (case iI_OutOfBox => k_is)
    (case tI_OutOfBox => k_is)
    (case lI_OutOfBox => k_is)
    (case cI_OutOfBox => k_is)
    (case kI_OutOfBox => k_is)
    (case f0_OutOfBox => k_is)
    (case f1_OutOfBox => k_is)
    (case a_NoValue => k_is)
    (case o_NoValue => k_is)
    (case sa_NoValue => k_is)
    (case ex_NoValue => k_is)
    (case ty_NoValue => k_is)
    (case kc_NoValue => k_is)
    (case ga_NoValue => k_is)
    (case gg_NoValue => k_is)
    (case hd_NoValue => k_is)
    (case ca_NoValue => k_is)
    (case iI_NoValue => k_is)
    (case tI_NoValue => k_is)
    (case lI_NoValue => k_is)
    (case cI_NoValue => k_is)
    (case kI_NoValue => k_is)
    (case f0_NoValue => k_is)
    (case a_InvalidName => k_is)
    (case o_InvalidName => k_is)
    (case sa_InvalidName => k_is)
    (case ex_InvalidName => k_is)
    (case ty_InvalidName => k_is)
    (case kc_InvalidName => k_is)
    (case ga_InvalidName => k_is)
    (case gg_InvalidName => k_is)
    (case hd_InvalidName => k_is)
    (case ca_InvalidName => k_is)
    (case iI_InvalidName => k_is)
    (case tI_InvalidName => k_is)
    (case lI_InvalidName => k_is)
    (case cI_InvalidName => k_is)
    (case kI_InvalidName => k_is)
    (case f0_InvalidName => k_is)
    (case f1_InvalidName => k_is)
    (case a_InvalidProgram => k_is)
    (case o_InvalidProgram => k_is)
    (case sa_InvalidProgram => k_is)
    (case ex_InvalidProgram => k_is)
    (case ty_InvalidProgram => k_is)
    (case kc_InvalidProgram => k_is)
    (case ga_InvalidProgram => k_is)
    (case gg_InvalidProgram => k_is)
    (case hd_InvalidProgram => k_is)
    (case ca_InvalidProgram => k_is)
    (case iI_InvalidProgram => k_is)
    (case tI_InvalidProgram => k_is)
    (case lI_InvalidProgram => k_is)
    (case cI_InvalidProgram => k_is)
    (case kI_InvalidProgram => k_is)
    (case f0_InvalidProgram => k_is)
    (case f1_InvalidProgram => k_is)
    (case a_InvalidText => k_is)
    (case o_InvalidText => k_is)
    (case sa_InvalidText => k_is)
    (case ex_InvalidText => k_is)
    (case ty_InvalidText => k_is)
    (case kc_InvalidText => k_is)
    (case ga_InvalidText => k_is)
    (case gg_InvalidText => k_is)
    (case hd_InvalidText => k_is)
    (case ca_InvalidText => k_is)
    (case iI_InvalidText => k_is)
    (case tI_InvalidText => k_is)
    (case lI_InvalidText => k_is)
    (case cI_InvalidText => k_is)
    (case kI_InvalidText => k_is)
    (case f0_InvalidText => k_is)
    (case f1_InvalidText => k_is)
    (case a_DuplicateName => k_is)
    (case o_DuplicateName => k_is)
    (case sa_DuplicateName => k_is)
    (case ex_DuplicateName => k_is)
    (case ty_DuplicateName => k_is)
    (case kc_DuplicateName => k_is)
    (case ga_DuplicateName => k_is)
    (case gg_DuplicateName => k_is)
    (case hd_DuplicateName => k_is)
    (case ca_DuplicateName => k_is)
    (case iI_DuplicateName => k_is)
    (case tI_DuplicateName => k_is)
    (case lI_DuplicateName => k_is)
    (case cI_DuplicateName => k_is)
    (case kI_DuplicateName => k_is)
    (case f0_DuplicateName => k_is)
    (case f1_DuplicateName => k_is)
    (case a_Full => k_is)
    (case o_Full => k_is)
    (case sa_Full => k_is)
    (case ex_Full => k_is)
    (case ty_Full => k_is)
    (case kc_Full => k_is)
    (case ga_Full => k_is)
    (case gg_Full => k_is)
    (case hd_Full => k_is)
    (case ca_Full => k_is)
    (case iI_Full => k_is)
    (case tI_Full => k_is)
    (case lI_Full => k_is)
    (case cI_Full => k_is)
    (case kI_Full => k_is)
    (case f0_Full => k_is)
    (case f1_Full => k_is)
    (case a_InUse => k_is)
    (case o_InUse => k_is)
    (case sa_InUse => k_is)
    (case ex_InUse => k_is)
    (case ty_InUse => k_is)
    (case kc_InUse => k_is)
    (case ga_InUse => k_is)
    (case gg_InUse => k_is)
    (case hd_InUse => k_is)
    (case ca_InUse => k_is)
    (case iI_InUse => k_is)
    (case tI_InUse => k_is)
    (case lI_InUse => k_is)
    (case cI_InUse => k_is)
    (case kI_InUse => k_is)
    (case f0_InUse => k_is)
    (case f1_InUse => k_is)
    (case a_InvalidCommand => k_is)
    (case o_InvalidCommand => k_is)
    (case sa_InvalidCommand => k_is)
    (case ex_InvalidCommand => k_is)
    (case ty_InvalidCommand => k_is)
    (case kc_InvalidCommand => k_is)
    (case ga_InvalidCommand => k_is)
    (case gg_InvalidCommand => k_is)
    (case hd_InvalidCommand => k_is)
    (case ca_InvalidCommand => k_is)
    (case iI_InvalidCommand => k_is)
    (case tI_InvalidCommand => k_is)
    (case lI_InvalidCommand => k_is)
    (case cI_InvalidCommand => k_is)
    (case kI_InvalidCommand => k_is)
    (case f0_InvalidCommand => k_is)
    (case f1_InvalidCommand => k_is)
    (case a_InvalidLimit => k_is)
    (case o_InvalidLimit => k_is)
    (case sa_InvalidLimit => k_is)
    (case ex_InvalidLimit => k_is)
    (case ty_InvalidLimit => k_is)
    (case kc_InvalidLimit => k_is)
    (case ga_InvalidLimit => k_is)
    (case gg_InvalidLimit => k_is)
    (case hd_InvalidLimit => k_is)
    (case ca_InvalidLimit => k_is)
    (case iI_InvalidLimit => k_is)
    (case tI_InvalidLimit => k_is)
    (case lI_InvalidLimit => k_is)
    (case cI_InvalidLimit => k_is)
    (case kI_InvalidLimit => k_is)
    (case f0_InvalidLimit => k_is)
    (case f1_InvalidLimit => k_is)
    (case a_InvalidPage => k_is)
    (case o_InvalidPage => k_is)
    (case sa_InvalidPage => k_is)
    (case ex_InvalidPage => k_is)
    (case ty_InvalidPage => k_is)
    (case kc_InvalidPage => k_is)
    (case ga_InvalidPage => k_is)
    (case gg_InvalidPage => k_is)
    (case hd_InvalidPage => k_is)
    (case ca_InvalidPage => k_is)
    (case iI_InvalidPage => k_is)
    (case tI_InvalidPage => k_is)
    (case lI_InvalidPage => k_is)
    (case cI_InvalidPage => k_is)
    (case kI_InvalidPage => k_is)
    (case f0_InvalidPage => k_is)
    (case f1_InvalidPage => k_is)
    (case a_UnknownName => k_is)
    (case o_UnknownName => k_is)
    (case sa_UnknownName => k_is)
    (case ex_UnknownName => k_is)
    (case ty_UnknownName => k_is)
    (case kc_UnknownName => k_is)
    (case ga_UnknownName => k_is)
    (case gg_UnknownName => k_is)
    (case hd_UnknownName => k_is)
    (case ca_UnknownName => k_is)
    (case iI_UnknownName => k_is)
    (case tI_UnknownName => k_is)
    (case lI_UnknownName => k_is)
    (case cI_UnknownName => k_is)
    (case kI_UnknownName => k_is)
    (case f0_UnknownName => k_is)
    (case f1_UnknownName => k_is)
    (case a_NothingLeft => k_is)
    (case o_NothingLeft => k_is)
    (case sa_NothingLeft => k_is)
    (case ex_NothingLeft => k_is)
    (case ty_NothingLeft => k_is)
    (case kc_NothingLeft => k_is)
    (case ga_NothingLeft => k_is)
    (case gg_NothingLeft => k_is)
    (case hd_NothingLeft => k_is)
    (case ca_NothingLeft => k_is)
    (case iI_NothingLeft => k_is)
    (case tI_NothingLeft => k_is)
    (case lI_NothingLeft => k_is)
    (case cI_NothingLeft => k_is)
    (case kI_NothingLeft => k_is)
    (case f0_NothingLeft => k_is)
    (case nd_ => decide +kernel)

