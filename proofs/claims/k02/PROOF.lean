import PyProof.Rows.All
import Wide.All
import OpenK.AllK
import Wide.FinOn
import HandS.ForMost
import HandS.Exc
import HandS.TryOnly
import HandS.ExcOwn
import HandS.WordsExc
import HandS.CallSlots
import HandS.TryMany
import HandS.EndBits
import HandS.Wide
import HandS.Gcd
import HandS.Zip
import HandS.IsInst
import HandS.Defaults
import HandS.Flow
import HandS.FStr
import HandS.TupAny
import PySem.Challenge.RW_nearspokes_k02_ratios_judged
set_option Elab.async false
set_option linter.all false
set_option maxRecDepth 100000
set_option maxHeartbeats 4000000
/-! # Data over the hand layer: Python's values as plain trees, mutable things in a ledger -/
namespace DL
open PySem L2

/-- a value as a whole: what can be seen of it; ptr: a thing of the ledger, a def, a class -/
inductive D where
  | non | bl (b : Bool) | int (i : Int) | str (x : Str)
  | lst (xs : List D) | tup (xs : List D) | ro (xs : List D)
  | dk (ks : List Key) (vs : List D) | dt (ks : List (List Key)) (vs : List D)
  | obj (C : Addr) (ns : List Str) (vs : List D)
  | ptr (a : Addr) | ty (n : String)

/-- mutable things, by address -/
abbrev Led := List (Addr × D)
def inL (L : Led) (a : Addr) : Prop := a ∈ L.map (·.1)

def SqL' (L : Led) (K : PySem.W.Frag) (H : Hp) (a : Addr) (xs : List V) : Prop :=
  (¬ inL L a ∧ Rd H a (.lst xs)) ∨
    ∃ (o : Obj) (its : Array Value) (n : Nat), K.lookup a = some o ∧ o.cls = .type "list" ∧ o.dict = none ∧ o.data = .seq its n ∧ its.size ≤ sizeLine ∧ Vals xs its.toList
def SqT' (L : Led) (K : PySem.W.Frag) (H : Hp) (a : Addr) (xs : List V) : Prop :=
  (¬ inL L a ∧ Rd H a (.tup xs)) ∨
    ∃ (o : Obj) (its : Array Value) (n : Nat), K.lookup a = some o ∧ o.cls = .type "tuple" ∧ o.data = .seq its n ∧ its.size ≤ sizeLine ∧ Vals xs its.toList
theorem SqL'.sq {L K H a xs} (h : SqL' L K H a xs) : SqL K H a xs := h.elim (fun z => .inl z.2) .inr
theorem SqT'.sq {L K H a xs} (h : SqT' L K H a xs) : SqT K H a xs := h.elim (fun z => .inl z.2) .inr

mutual
inductive Rp (L : Led) (K : PySem.W.Frag) (H : Hp) : V → D → Prop
  | non : Rp L K H .non .non
  | bl (b : Bool) : Rp L K H (.bl b) (.bl b)
  | int (i : Int) : Rp L K H (.int i) (.int i)
  | str (x : Str) : Rp L K H (.str x) (.str x)
  | ty (n : String) : Rp L K H (.ty n) (.ty n)
  | ptr (a : Addr) : Rp L K H (.ref a) (.ptr a)
  | lst {a : Addr} {xs : List V} {ds : List D} : ¬ inL L a → H a = some (.lst xs) → RpAll L K H xs ds → Rp L K H (.ref a) (.lst ds)
  | ro {a : Addr} {xs : List V} {ds : List D} : SqL' L K H a xs → RpAll L K H xs ds → Rp L K H (.ref a) (.ro ds)
  | tup {a : Addr} {xs : List V} {ds : List D} : SqT' L K H a xs → RpAll L K H xs ds → Rp L K H (.ref a) (.tup ds)
  | dk {a : Addr} {ks : List Key} {xs : List V} {ds : List D} : ¬ inL L a → Rd H a (.dK (ks.zip xs)) → ks.length = xs.length → RpAll L K H xs ds → Rp L K H (.ref a) (.dk ks ds)
  | dt {a : Addr} {ks : List (List Key)} {xs : List V} {ds : List D} : ¬ inL L a → H a = some (.dT (ks.zip xs)) → ks.length = xs.length → RpAll L K H xs ds → Rp L K H (.ref a) (.dt ks ds)
  | obj {a C dx : Addr} {ns : List Str} {xs : List V} {ds : List D} : ¬ inL L a → H a = some (.ins C dx (ns.zip xs)) → ns.length = xs.length → RpAll L K H xs ds → Rp L K H (.ref a) (.obj C ns ds)
inductive RpAll (L : Led) (K : PySem.W.Frag) (H : Hp) : List V → List D → Prop
  | nil : RpAll L K H [] []
  | cons {v : V} {vs : List V} {d : D} {ds : List D} : Rp L K H v d → RpAll L K H vs ds → RpAll L K H (v :: vs) (d :: ds)
end

/-- from (L, H) to (L', H'): what is not of the ledger stands -/
def Go (L L' : Led) (H H' : Hp) : Prop := ∀ a o, ¬ inL L a → H a = some o → ¬ inL L' a ∧ H' a = some o
theorem Go.refl (L : Led) (H : Hp) : Go L L H H := fun _ _ n h => ⟨n, h⟩
theorem Go.trans {L L1 L2 : Led} {H H1 H2 : Hp} (a : Go L L1 H H1) (b : Go L1 L2 H1 H2) : Go L L2 H H2 := fun x o n h => let ⟨n1, h1⟩ := a x o n h; b x o n1 h1
theorem Go.same {L : Led} {H H' : Hp} (s : Same H H') : Go L L H H' := fun a o n h => ⟨n, s a o h⟩
theorem Go.rd {L L' : Led} {H H' : Hp} {a : Addr} {u : HO} (g : Go L L' H H') (n : ¬ inL L a) (h : Rd H a u) : ¬ inL L' a ∧ Rd H' a u := by
  rcases h with h | ⟨o, h⟩
  · exact ⟨(g a _ n h).1, .inl (g a _ n h).2⟩
  · exact ⟨(g a _ n h).1, .inr ⟨o, (g a _ n h).2⟩⟩
theorem Go.sqL {L L' K H H' a xs} (g : Go L L' H H') (h : SqL' L K H a xs) : SqL' L' K H' a xs := h.elim (fun z => .inl (g.rd z.1 z.2)) .inr
theorem Go.sqT {L L' K H H' a xs} (g : Go L L' H H') (h : SqT' L K H a xs) : SqT' L' K H' a xs := h.elim (fun z => .inl (g.rd z.1 z.2)) .inr
mutual
theorem Rp.go {L L' : Led} {K : PySem.W.Frag} {H H' : Hp} (g : Go L L' H H') : ∀ {v : V} {d : D}, Rp L K H v d → Rp L' K H' v d
  | _, _, .non => .non
  | _, _, .bl b => .bl b
  | _, _, .int i => .int i
  | _, _, .str x => .str x
  | _, _, .ty n => .ty n
  | _, _, .ptr a => .ptr a
  | _, _, .lst n h r => .lst (g _ _ n h).1 (g _ _ n h).2 (RpAll.go g r)
  | _, _, .ro s r => .ro (g.sqL s) (RpAll.go g r)
  | _, _, .tup s r => .tup (g.sqT s) (RpAll.go g r)
  | _, _, .dk n h e r => .dk (g.rd n h).1 (g.rd n h).2 e (RpAll.go g r)
  | _, _, .dt n h e r => .dt (g _ _ n h).1 (g _ _ n h).2 e (RpAll.go g r)
  | _, _, .obj n h e r => .obj (g _ _ n h).1 (g _ _ n h).2 e (RpAll.go g r)
theorem RpAll.go {L L' : Led} {K : PySem.W.Frag} {H H' : Hp} (g : Go L L' H H') : ∀ {vs : List V} {ds : List D}, RpAll L K H vs ds → RpAll L' K H' vs ds
  | _, _, .nil => .nil
  | _, _, .cons h r => .cons (Rp.go g h) (RpAll.go g r)
end
section
variable {L : Led} {K : PySem.W.Frag} {H : Hp}
theorem RpAll.length : ∀ {vs : List V} {ds : List D}, RpAll L K H vs ds → vs.length = ds.length
  | _, _, .nil => rfl
  | _, _, .cons _ r => by rw [List.length_cons, List.length_cons, RpAll.length r]
theorem RpAll.get : ∀ {vs : List V} {ds : List D} {i : Nat} {d : D}, RpAll L K H vs ds → ds[i]? = some d → ∃ v, vs[i]? = some v ∧ Rp L K H v d
  | _, _, _, _, .nil, e => by simp at e
  | _, _, 0, _, .cons h _, e => by simp at e; subst e; exact ⟨_, rfl, h⟩
  | _, _, i + 1, d, .cons _ r, e => by
    obtain ⟨v, e1, h⟩ := RpAll.get (i := i) (d := d) r (by simpa using e)
    exact ⟨v, by simpa using e1, h⟩
theorem RpAll.getV : ∀ {vs : List V} {ds : List D} {i : Nat} {v : V}, RpAll L K H vs ds → vs[i]? = some v → ∃ d, ds[i]? = some d ∧ Rp L K H v d
  | _, _, _, _, .nil, e => by simp at e
  | _, _, 0, _, .cons h _, e => by simp at e; subst e; exact ⟨_, rfl, h⟩
  | _, _, i + 1, v, .cons _ r, e => by
    obtain ⟨d, e1, h⟩ := RpAll.getV (i := i) (v := v) r (by simpa using e)
    exact ⟨d, by simpa using e1, h⟩
theorem RpAll.append : ∀ {vs ws : List V} {ds es : List D}, RpAll L K H vs ds → RpAll L K H ws es → RpAll L K H (vs ++ ws) (ds ++ es)
  | _, _, _, _, .nil, s => s
  | _, _, _, _, .cons h r, s => .cons h (RpAll.append r s)
theorem RpAll.take : ∀ {vs : List V} {ds : List D} (n : Nat), RpAll L K H vs ds → RpAll L K H (vs.take n) (ds.take n)
  | _, _, 0, _ => .nil
  | _, _, _ + 1, .nil => .nil
  | _, _, n + 1, .cons h r => .cons h (RpAll.take n r)
theorem RpAll.drop : ∀ {vs : List V} {ds : List D} (n : Nat), RpAll L K H vs ds → RpAll L K H (vs.drop n) (ds.drop n)
  | _, _, 0, h => h
  | _, _, _ + 1, .nil => .nil
  | _, _, n + 1, .cons _ r => RpAll.drop n r
theorem RpAll.set {v : V} {d : D} (h : Rp L K H v d) : ∀ {vs : List V} {ds : List D} (i : Nat), RpAll L K H vs ds → RpAll L K H (vs.set i v) (ds.set i d)
  | _, _, _, .nil => .nil
  | _, _, 0, .cons _ r => .cons h r
  | _, _, i + 1, .cons a r => .cons a (RpAll.set h i r)
theorem RpAll.ints : ∀ (ns : List Int), RpAll L K H (ns.map V.int) (ns.map D.int)
  | [] => .nil
  | n :: r => .cons (.int n) (RpAll.ints r)
theorem RpAll.ofInts : ∀ {vs : List V} (ns : List Int), RpAll L K H vs (ns.map D.int) → vs = ns.map V.int
  | _, [], .nil => rfl
  | _, _ :: r, .cons h t => by cases h; rw [RpAll.ofInts r t]; rfl
theorem RpAll.ofBls : ∀ {vs : List V} (ns : List Bool), RpAll L K H vs (ns.map D.bl) → vs = ns.map V.bl
  | _, [], .nil => rfl
  | _, _ :: r, .cons h t => by cases h; rw [RpAll.ofBls r t]; rfl
theorem RpAll.ofStrs : ∀ {vs : List V} (ns : List Str), RpAll L K H vs (ns.map D.str) → vs = ns.map V.str
  | _, [], .nil => rfl
  | _, _ :: r, .cons h t => by cases h; rw [RpAll.ofStrs r t]; rfl
theorem RpAll.strs : ∀ (ns : List Str), RpAll L K H (ns.map V.str) (ns.map D.str)
  | [] => .nil
  | n :: r => .cons (.str n) (RpAll.strs r)
end

/-! ### the ledger -/
/-- what stands at a, of the ledger -/
def Own (L : Led) (K : PySem.W.Frag) (H : Hp) (a : Addr) : D → Prop
  | .lst ds => ∃ vs, H a = some (.lst vs) ∧ RpAll L K H vs ds
  | .dk ks ds => ∃ vs, H a = some (.dK (ks.zip vs)) ∧ ks.length = vs.length ∧ RpAll L K H vs ds
  | .dt ks ds => ∃ vs, H a = some (.dT (ks.zip vs)) ∧ ks.length = vs.length ∧ RpAll L K H vs ds
  | .obj C ns ds => ∃ dx vs, H a = some (.ins C dx (ns.zip vs)) ∧ ns.length = vs.length ∧ RpAll L K H vs ds
  | _ => False
structure JL (K : PySem.W.Frag) (L : Led) (H : Hp) : Prop where
  nd : (L.map (·.1)).Nodup
  own : ∀ a d, (a, d) ∈ L → Own L K H a d
section
variable {L L' : Led} {K : PySem.W.Frag} {H H' : Hp} {a p : Addr} {d : D}
theorem Own.there (h : Own L K H a d) : ∃ o, H a = some o := by
  cases d with
  | lst ds => exact ⟨_, h.choose_spec.1⟩
  | dk ks ds => exact ⟨_, h.choose_spec.1⟩
  | dt ks ds => exact ⟨_, h.choose_spec.1⟩
  | obj C ns ds => obtain ⟨dx, vs, e, _⟩ := h; exact ⟨_, e⟩
  | _ => exact h.elim
theorem Own.move (h : Own L K H a d) (g : Go L L' H H') (e : ∀ o, H a = some o → H' a = some o) : Own L' K H' a d := by
  cases d with
  | lst ds => obtain ⟨vs, h1, h2⟩ := h; exact ⟨vs, e _ h1, h2.go g⟩
  | dk ks ds => obtain ⟨vs, h1, h3, h2⟩ := h; exact ⟨vs, e _ h1, h3, h2.go g⟩
  | dt ks ds => obtain ⟨vs, h1, h3, h2⟩ := h; exact ⟨vs, e _ h1, h3, h2.go g⟩
  | obj C ns ds => obtain ⟨dx, vs, h1, h3, h2⟩ := h; exact ⟨dx, vs, e _ h1, h3, h2.go g⟩
  | _ => exact h.elim
theorem JL.same (j : JL K L H) (s : Same H H') : JL K L H' := ⟨j.nd, fun a d m => Own.move (j.own a d m) (Go.same s) fun o e => s a o e⟩
theorem JL.notIn (j : JL K L H) (h : H p = none) : ¬ inL L p := fun m => by
  obtain ⟨q, hq, e⟩ := List.mem_map.mp m
  obtain ⟨o, ho⟩ := Own.there (j.own q.1 q.2 hq)
  rw [e, h] at ho
  cases ho
theorem mem_of_lookup : ∀ {L : Led} {a : Addr} {d : D}, L.lookup a = some d → (a, d) ∈ L
  | [], _, _, h => by simp at h
  | (b, e) :: r, a, d, h => by
    by_cases hb : a = b
    · subst hb
      rw [List.lookup_cons_self] at h
      cases h
      exact List.mem_cons_self
    · have q : (a == b) = false := by simpa using hb
      rw [List.lookup_cons, q] at h
      exact List.mem_cons_of_mem _ (mem_of_lookup h)
theorem JL.look (j : JL K L H) (h : L.lookup a = some d) : Own L K H a d := j.own a d (mem_of_lookup h)
/-- what a datum holds, through the ledger -/
def con (L : Led) : D → D
  | .ptr a => (L.lookup a).getD (.ptr a)
  | d => d
theorem con_lst {v : V} {ds : List D} (j : JL K L H) (r : Rp L K H v d) (e : con L d = .lst ds) : ∃ a vs, v = .ref a ∧ H a = some (.lst vs) ∧ RpAll L K H vs ds := by
  cases d with
  | ptr a =>
    cases r
    have e : (L.lookup a).getD (.ptr a) = _ := e
    cases h : L.lookup a with
    | none => rw [h] at e; cases e
    | some c =>
      rw [h] at e
      have e2 : c = .lst ds := e
      subst e2
      obtain ⟨vs, h1, h2⟩ := j.look h
      exact ⟨a, vs, rfl, h1, h2⟩
  | lst xs =>
    have e2 : xs = ds := by unfold con at e; injection e
    subst e2
    cases r with
    | lst n h r => exact ⟨_, _, rfl, h, r⟩
  | _ => cases e
theorem con_tup {v : V} {ds : List D} (j : JL K L H) (r : Rp L K H v d) (e : con L d = .tup ds) : ∃ a vs, v = .ref a ∧ SqT K H a vs ∧ RpAll L K H vs ds := by
  cases d with
  | ptr a =>
    cases r
    have e : (L.lookup a).getD (.ptr a) = _ := e
    cases h : L.lookup a with
    | none => rw [h] at e; cases e
    | some c =>
      rw [h] at e
      have e2 : c = .tup ds := e
      subst e2
      exact (j.look h).elim
  | tup xs =>
    have e2 : xs = ds := by unfold con at e; injection e
    subst e2
    cases r with
    | tup s r => exact ⟨_, _, rfl, s.sq, r⟩
  | _ => cases e
/-- the items of a list or tuple that may be read -/
def seqs : D → Option (List D)
  | .lst ds => some ds
  | .ro ds => some ds
  | .tup ds => some ds
  | _ => none
theorem con_ro {v : V} {ds : List D} (j : JL K L H) (r : Rp L K H v d) (e : con L d = .ro ds) : ∃ a vs, v = .ref a ∧ SqL K H a vs ∧ RpAll L K H vs ds := by
  cases d with
  | ptr a =>
    cases r
    have e : (L.lookup a).getD (.ptr a) = _ := e
    cases h : L.lookup a with
    | none => rw [h] at e; cases e
    | some c =>
      rw [h] at e
      have e2 : c = .ro ds := e
      subst e2
      exact (j.look h).elim
  | ro xs =>
    have e2 : xs = ds := by unfold con at e; injection e
    subst e2
    cases r with
    | ro s r => exact ⟨_, _, rfl, s.sq, r⟩
  | _ => cases e
theorem con_seq {v : V} {ds : List D} (j : JL K L H) (r : Rp L K H v d) (e : seqs (con L d) = some ds) : ∃ a vs, v = .ref a ∧ (SqL K H a vs ∨ SqT K H a vs) ∧ RpAll L K H vs ds := by
  cases h : con L d with
  | lst xs =>
    rw [h] at e; cases e
    obtain ⟨a, vs, h1, h2, h3⟩ := con_lst j r h
    exact ⟨a, vs, h1, .inl (SqL.of h2), h3⟩
  | ro xs =>
    rw [h] at e; cases e
    obtain ⟨a, vs, h1, h2, h3⟩ := con_ro j r h
    exact ⟨a, vs, h1, .inl h2, h3⟩
  | tup xs =>
    rw [h] at e; cases e
    obtain ⟨a, vs, h1, h2, h3⟩ := con_tup j r h
    exact ⟨a, vs, h1, .inr h2, h3⟩
  | _ => rw [h] at e; cases e
theorem same_new (h : H p = none) (o : HO) : Same H (upd H p o) := fun b u q => by rw [upd_ne (ne_of_none q h)]; exact q
/-- a new thing onto the ledger -/
theorem JL.push (j : JL K L H) (hp : H p = none) {o : HO} (ow : Own ((p, d) :: L) K (upd H p o) p d) : JL K ((p, d) :: L) (upd H p o) ∧ Go L ((p, d) :: L) H (upd H p o) := by
  have np := j.notIn hp
  have g : Go L ((p, d) :: L) H (upd H p o) := fun a u n h => by
    have ne : a ≠ p := ne_of_none h hp
    exact ⟨fun m => by
      rcases List.mem_cons.mp m with e | e
      · exact ne e
      · exact n e, by rw [upd_ne ne]; exact h⟩
  refine ⟨⟨List.nodup_cons.mpr ⟨np, j.nd⟩, fun a e m => ?_⟩, g⟩
  rcases List.mem_cons.mp m with q | q
  · cases q
    exact ow
  · exact Own.move (j.own a e q) g fun u h => by rw [upd_ne (ne_of_none h hp)]; exact h
end

/-! ### slots -/
abbrev DEnv := List (Option D)
inductive Sto (L : Led) (K : PySem.W.Frag) (H : Hp) : St → DEnv → Prop
  | nil : Sto L K H [] []
  | sm {v d σ e} : Rp L K H v d → Sto L K H σ e → Sto L K H (some v :: σ) (some d :: e)
  | no {o σ e} : Sto L K H σ e → Sto L K H (o :: σ) (none :: e)
section
variable {L L' : Led} {K : PySem.W.Frag} {H H' : Hp}
theorem Sto.go (g : Go L L' H H') : ∀ {σ : St} {e : DEnv}, Sto L K H σ e → Sto L' K H' σ e
  | _, _, .nil => .nil
  | _, _, .sm h r => .sm (h.go g) (Sto.go g r)
  | _, _, .no r => .no (Sto.go g r)
theorem Sto.get : ∀ {σ : St} {e : DEnv} {i : Nat} {d : D}, Sto L K H σ e → e[i]? = some (some d) → ∃ v, σ[i]? = some (some v) ∧ Rp L K H v d
  | _, _, _, _, .nil, h => by simp at h
  | _, _, 0, _, .sm h _, q => by simp at q; subst q; exact ⟨_, rfl, h⟩
  | _, _, 0, _, .no _, q => by simp at q
  | _, _, i + 1, d, .sm _ r, q => by
    obtain ⟨v, e1, h⟩ := Sto.get (i := i) (d := d) r (by simpa using q)
    exact ⟨v, by simpa using e1, h⟩
  | _, _, i + 1, d, .no r, q => by
    obtain ⟨v, e1, h⟩ := Sto.get (i := i) (d := d) r (by simpa using q)
    exact ⟨v, by simpa using e1, h⟩
theorem Sto.set {v : V} {d : D} (h : Rp L K H v d) : ∀ {σ : St} {e : DEnv} (i : Nat), Sto L K H σ e → Sto L K H (σ.set i (some v)) (e.set i (some d))
  | _, _, _, .nil => .nil
  | _, _, 0, .sm _ r => .sm h r
  | _, _, 0, .no r => .sm h r
  | _, _, i + 1, .sm q r => .sm q (Sto.set h i r)
  | _, _, i + 1, .no r => .no (Sto.set h i r)
theorem Sto.wipe1 {o : Option V} : ∀ {σ : St} {e : DEnv} (i : Nat), Sto L K H σ e → Sto L K H (σ.set i o) (e.set i none)
  | _, _, _, .nil => .nil
  | _, _, 0, .sm _ r => .no r
  | _, _, 0, .no r => .no r
  | _, _, i + 1, .sm q r => .sm q (Sto.wipe1 i r)
  | _, _, i + 1, .no r => .no (Sto.wipe1 i r)
theorem Sto.start : ∀ {vs : List V} {ds : List D} {n : Nat}, RpAll L K H vs ds → Sto L K H (vs.map some ++ List.replicate n none) (ds.map some ++ List.replicate n none)
  | _, _, 0, .nil => .nil
  | _, _, n + 1, .nil => .no (Sto.start (n := n) .nil)
  | _, _, n, .cons h r => .sm h (Sto.start r)
end
end DL

namespace DL
open PySem L2

/-- an error: its class, what its own dict holds -/
structure Exn where
  cls : Value
  ns : List Str
  vs : List D
def ExR (L : Led) (K : PySem.W.Frag) (H : Hp) (a : Addr) (n : Exn) : Prop :=
  ¬ inL L a ∧ ∃ vs, H a = some (.xd (n.ns.zip vs)) ∧ n.ns.length = vs.length ∧ RpAll L K H vs n.vs
abbrev DK := D → Led → Prop
abbrev DX := Exn → DEnv → Led → Prop
abbrev DE := DEnv → Led → DK → DX → Prop
abbrev DT := DEnv → Led → (Bool → Led → Prop) → DX → Prop
abbrev DA := DEnv → Led → (List D → Led → Prop) → DX → Prop
structure DEnds where
  nx : DEnv → Led → Prop
  rt : DK
  ex : DX
  bk : DEnv → Led → Prop
  ct : DEnv → Led → Prop
abbrev DS := DEnds → DEnv → Led → Prop

def StL (K : PySem.W.Frag) (σ : St) (H : Hp) (env : DEnv) (L : Led) : Prop := Sto L K H σ env ∧ JL K L H
theorem StL.go {K : PySem.W.Frag} {σ : St} {H H' : Hp} {env : DEnv} {L L' : Led} (s : StL K σ H env L) (g : Go L L' H H') (j : JL K L' H') : StL K σ H' env L' := ⟨s.1.go g, j⟩
def KOk (K : PySem.W.Frag) (L : Led) (H : Hp) (k : DK) (Q : VK) : Prop := ∀ d L' v H', k d L' → Go L L' H H' → JL K L' H' → Rp L' K H' v d → Q v H'
def XOk (K : PySem.W.Frag) (Wx : WX) (L : Led) (H : Hp) (x : DX) : Prop := ∀ n env' L' a H' σ', x n env' L' → Go L L' H H' → StL K σ' H' env' L' → ExR L' K H' a n → Wx n.cls (some a) σ' H'
structure EOk (K : PySem.W.Frag) (Wx : WX) (L : Led) (H : Hp) (D' : DEnds) (D : Ends) : Prop where
  nx : ∀ env' L' σ' H', D'.nx env' L' → Go L L' H H' → StL K σ' H' env' L' → D.nx σ' H'
  rt : KOk K L H D'.rt D.rt
  ex : XOk K Wx L H D'.ex
  bk : ∀ env' L' σ' H', D'.bk env' L' → Go L L' H H' → StL K σ' H' env' L' → D.bk σ' H'
  ct : ∀ env' L' σ' H', D'.ct env' L' → Go L L' H H' → StL K σ' H' env' L' → D.ct σ' H'
section
variable {K : PySem.W.Frag} {Wx : WX} {L L1 : Led} {H H1 : Hp} {k : DK} {Q : VK} {x : DX} {D' : DEnds} {D : Ends}
theorem KOk.go (h : KOk K L H k Q) (g : Go L L1 H H1) : KOk K L1 H1 k Q := fun d L' v H' q g' j r => h d L' v H' q (g.trans g') j r
theorem XOk.go (h : XOk K Wx L H x) (g : Go L L1 H H1) : XOk K Wx L1 H1 x := fun n e L' a H' σ' q g' s r => h n e L' a H' σ' q (g.trans g') s r
theorem EOk.go (h : EOk K Wx L H D' D) (g : Go L L1 H H1) : EOk K Wx L1 H1 D' D :=
  ⟨fun e L' σ' H' q g' s => h.nx e L' σ' H' q (g.trans g') s, h.rt.go g, h.ex.go g, fun e L' σ' H' q g' s => h.bk e L' σ' H' q (g.trans g') s, fun e L' σ' H' q g' s => h.ct e L' σ' H' q (g.trans g') s⟩
end

def SimE (K : PySem.W.Frag) (Wx : WX) (te : TE) (de : DE) : Prop := ∀ σ H env L k x Q, StL K σ H env L → de env L k x → KOk K L H k Q → XOk K Wx L H x → te σ H Q
def SimT (K : PySem.W.Frag) (Wx : WX) (te : TT) (de : DT) : Prop := ∀ σ H env L k x Q, StL K σ H env L → de env L k x → (∀ b L' H', k b L' → Go L L' H H' → JL K L' H' → Q b H') → XOk K Wx L H x → te σ H Q
def SimA (K : PySem.W.Frag) (Wx : WX) (ta : TA) (da : DA) : Prop := ∀ σ H env L k x Q, StL K σ H env L → da env L k x → (∀ ds L' vs H', k ds L' → Go L L' H H' → JL K L' H' → RpAll L' K H' vs ds → Q vs H') → XOk K Wx L H x → ta σ H Q
def SimS (K : PySem.W.Frag) (Wx : WX) (ts : TS) (ds : DS) : Prop := ∀ σ H env L D' D, StL K σ H env L → ds D' env L → EOk K Wx L H D' D → ts D σ H
structure QE (X : Cx) (Wx : WX) (e : Expr) (de : DE) : Prop where
  ex : ∃ te, PE X e te ∧ SimE X.K Wx te de
structure QT (X : Cx) (Wx : WX) (e : Expr) (dt : DT) : Prop where
  ex : ∃ te, PT X e te ∧ SimT X.K Wx te dt
structure QW (X : Cx) (Wx : WX) (e : Expr) (dt : DT) : Prop where
  ex : ∃ te, PW X e te ∧ SimT X.K Wx te dt
structure QA (X : Cx) (Wx : WX) (es : List Expr) (da : DA) : Prop where
  ex : ∃ ta, PA X es ta ∧ SimA X.K Wx ta da
structure QS (X : Cx) (Wx : WX) (st : Stmt) (ds : DS) : Prop where
  ex : ∃ ts, PS X st ts ∧ SimS X.K Wx ts ds
structure QSs (X : Cx) (Wx : WX) (st : List Stmt) (ds : DS) : Prop where
  ex : ∃ ts, PSs X st ts ∧ SimS X.K Wx ts ds

section
variable {X : Cx} {Wx : WX} {a b c e : Expr} {es : List Expr} {da db dc de : DE} {pos : Pos}

/-! ### names, constants -/
def dVar (i : Nat) : DE := fun env L k _ => match env[i]? with
  | some (some d) => k d L
  | _ => False
theorem qv (i : Nat) {x : Str} {pos : Pos} (hN : X.N[i]? = some x := by rfl) (hv : Vis X.env.scope x := by first | exact Or.inl rfl | exact Or.inr (Or.inl rfl) | exact Or.inr (Or.inr rfl)) (hd : (x == ("__debug__" : Str)) = false := by decide)
    (hcd : (x == ("__classdict__" : Str)) = false := by decide) : QE X Wx (.Name x pos) (dVar i) := by
  refine ⟨tVar i, pv i hN hv hd hcd, fun σ H env L k x Q st h hk _ => ?_⟩
  unfold dVar at h
  split at h
  · rename_i d hd
    obtain ⟨v, e1, r⟩ := st.1.get hd
    exact ⟨v, e1, hk d L v H h (Go.refl L H) st.2 r⟩
  · exact h.elim
def dC (d : D) : DE := fun _ L k _ => k d L
theorem sim_c {K : PySem.W.Frag} {v : V} {d : D} (r : ∀ L H, Rp L K H v d) : SimE K Wx (tC v) (dC d) := fun _ H _ L _ _ _ st h hk _ => hk d L v H h (Go.refl L H) st.2 (r L H)
theorem q_int {i j pos} : QE X Wx (.Constant (.int i) j pos) (dC (.int i)) := ⟨_, pe_int, sim_c fun _ _ => .int i⟩
theorem q_bl {b j pos} : QE X Wx (.Constant (.bool b) j pos) (dC (.bl b)) := ⟨_, pe_bl, sim_c fun _ _ => .bl b⟩
theorem q_non {j pos} : QE X Wx (.Constant .none j pos) (dC .non) := ⟨_, pe_non, sim_c fun _ _ => .non⟩
theorem q_str {x j pos} : QE X Wx (.Constant (.str x) j pos) (dC (.str x)) := ⟨_, pe_str, sim_c fun _ _ => .str x⟩
theorem q_glob {x : Str} {v : V} {d : D} {u : Value} {pos : Pos} (hg : Gl X x) (hm : X.mg x = some u) (r : RelV v u) (rd : ∀ L H, Rp L X.K H v d) (hd : (x == ("__debug__" : Str)) = false := by decide) : QE X Wx (.Name x pos) (dC d) :=
  ⟨_, pe_glob hg hm r hd, sim_c rd⟩
theorem q_bltn {x : Str} {v : V} {d : D} {u : Value} {pos : Pos} (hg : Gl X x) (hm : X.mg x = none) (hv : bootBuiltins x = some u) (r : RelV v u) (rd : ∀ L H, Rp L X.K H v d) (hn : x ≠ "__name__" := by decide) (hd : (x == ("__debug__" : Str)) = false := by decide) : QE X Wx (.Name x pos) (dC d) :=
  ⟨_, pe_bltn hg hm hv r hn hd, sim_c rd⟩

/-! ### operators on values -/
/-- g: two data, the ledger, what is wanted of the answer -/
abbrev G2 := D → D → Led → (D → Prop) → Prop
def ROk (K : PySem.W.Frag) (L : Led) (H : Hp) (k : D → Prop) (Q : VK) : Prop := ∀ d v H', k d → Same H H' → Rp L K H' v d → Q v H'
def Sim2 (K : PySem.W.Frag) (r : R2) (g : G2) : Prop := ∀ H L va vb a b k Q, JL K L H → Rp L K H va a → Rp L K H vb b → g a b L k → ROk K L H k Q → r va vb H Q
def OQ (X : Cx) (f : Value → Value → Sem Value) (g : G2) : Prop := ∃ r, OpR X f r ∧ Sim2 X.K r g
def dOp (g : G2) (da db : DE) : DE := fun env L k x => da env L (fun a L1 => db env L1 (fun b L2 => g a b L2 fun d => k d L2) x) x
theorem sim_op {K : PySem.W.Frag} {ta tb : TE} {r : R2} {g : G2} (sa : SimE K Wx ta da) (sb : SimE K Wx tb db) (sr : Sim2 K r g) : SimE K Wx (tOp r ta tb) (dOp g da db) := by
  intro σ H env L k x Q st h hk hx
  refine sa σ H env L _ x _ st h (fun a L1 va H1 h1 g1 j1 r1 => ?_) hx
  refine sb σ H1 env L1 _ x _ (st.go g1 j1) h1 (fun b L2 vb H2 h2 g2 j2 r2 => ?_) (hx.go g1)
  exact sr H2 L2 va vb a b _ Q j2 (r1.go g2) r2 h2 fun d v H' q s rp => hk d L2 v H' q ((g1.trans g2).trans (Go.same s)) (j2.same s) rp
theorem q_op {op : Operator} {g : G2} (ho : OQ X (binaryOp op) g) (ha : QE X Wx a da) (hb : QE X Wx b db) : QE X Wx (.BinOp a op b pos) (dOp g da db) := by
  obtain ⟨ta, pa, sa⟩ := ha.ex
  obtain ⟨tb, pb, sb⟩ := hb.ex
  obtain ⟨r, hr, sr⟩ := ho
  exact ⟨_, pe_op hr pa pb, sim_op sa sb sr⟩
theorem q_cmp {op : CmpOp} {g : G2} (ho : OQ X (compareOp op) g) (ha : QE X Wx a da) (hb : QE X Wx b db) (hm : behindInMarks op b = false := by rfl) : QE X Wx (.Compare a [op] [b] pos) (dOp g da db) := by
  obtain ⟨ta, pa, sa⟩ := ha.ex
  obtain ⟨tb, pb, sb⟩ := hb.ex
  obtain ⟨r, hr, sr⟩ := ho
  exact ⟨_, pe_cmpR hr pa pb hm, sim_op sa sb sr⟩
/-- two rules for one operator -/
theorem opr_or {f : Value → Value → Sem Value} {r1 r2 : R2} (h1 : OpR X f r1) (h2 : OpR X f r2) : OpR X f (fun x y H Q => r1 x y H Q ∨ r2 x y H Q) := fun pins s σ H x y u v Q I rx ry h =>
  h.elim (fun q => h1 pins s σ H x y u v Q I rx ry q) (fun q => h2 pins s σ H x y u v Q I rx ry q)
theorem OQ.or {f : Value → Value → Sem Value} {g1 g2 g : G2} (h1 : OQ X f g1) (h2 : OQ X f g2) (hg : ∀ a b L k, g a b L k → g1 a b L k ∨ g2 a b L k) : OQ X f g := by
  obtain ⟨r1, o1, s1⟩ := h1
  obtain ⟨r2, o2, s2⟩ := h2
  exact ⟨_, opr_or o1 o2, fun H L va vb a b k Q j ra rb h hk => (hg a b L k h).elim (fun q => .inl (s1 H L va vb a b k Q j ra rb q hk)) (fun q => .inr (s2 H L va vb a b k Q j ra rb q hk))⟩
/-- two ints -/
def gI (C : Int → Int → Prop) (f : Int → Int → D) : G2 := fun a b _ k => match a, b with
  | .int i, .int j => C i j ∧ k (f i j)
  | _, _ => False
def gI0 (f : Int → Int → D) : G2 := fun a b _ k => match a, b with
  | .int i, .int j => k (f i j)
  | _, _ => False
theorem sim2_I {K : PySem.W.Frag} {C : Int → Int → Prop} {f : Int → Int → V} {f' : Int → Int → D} (hf : ∀ i j L H, Rp L K H (f i j) (f' i j)) : Sim2 K (rI C f) (gI C f') := by
  intro H L va vb a b k Q j ra rb h hk
  cases ra <;> cases rb <;> first | exact h.elim | skip
  exact ⟨_, _, rfl, rfl, h.1, hk _ _ H h.2 (Same.refl H) (hf _ _ L H)⟩
theorem sim2_I0 {K : PySem.W.Frag} {f : Int → Int → V} {f' : Int → Int → D} (hf : ∀ i j L H, Rp L K H (f i j) (f' i j)) : Sim2 K (rI0 f) (gI0 f') := by
  intro H L va vb a b k Q j ra rb h hk
  cases ra <;> cases rb <;> first | exact h.elim | skip
  exact ⟨_, _, rfl, rfl, hk _ _ H h (Same.refl H) (hf _ _ L H)⟩
abbrev gAddI : G2 := gI0 fun i j => .int (i + j)
abbrev gSubI : G2 := gI0 fun i j => .int (i - j)
abbrev gMul : G2 := gI CMulW fun i j => .int (i * j)
def CDivA (_ j : Int) : Prop := j ≠ 0 ∧ j.natAbs.log2 < 9000
abbrev gFdiv : G2 := gI CDivA fun i j => .int (i.fdiv j)
abbrev gMod : G2 := gI (fun _ j => j ≠ 0) fun i j => .int (i.fmod j)
abbrev gPow : G2 := gI CPow fun i j => .int (i ^ j.toNat)
theorem oq_addI : OQ X (binaryOp .Add) gAddI := ⟨_, op_add, sim2_I0 fun _ _ _ _ => .int _⟩
theorem oq_sub : OQ X (binaryOp .Sub) gSubI := ⟨_, op_sub, sim2_I0 fun _ _ _ _ => .int _⟩
theorem oq_mul : OQ X (binaryOp .Mult) gMul := ⟨_, op_mulW, sim2_I fun _ _ _ _ => .int _⟩
theorem op_fdivA : OpR X (binaryOp .FloorDiv) (rI CDivA fun i j => .int (i.fdiv j)) := opI fun i j _ _ _ _ _ hc q =>
  PyProof.Rows.floordiv_int hc.1 q (.inl (PyProof.noPylong_of_log2 hc.2))
theorem oq_fdiv : OQ X (binaryOp .FloorDiv) gFdiv := ⟨_, op_fdivA, sim2_I fun _ _ _ _ => .int _⟩
theorem oq_mod : OQ X (binaryOp .Mod) gMod := ⟨_, op_modN, sim2_I fun _ _ _ _ => .int _⟩
theorem oq_pow : OQ X (binaryOp .Pow) gPow := ⟨_, op_pow, sim2_I fun _ _ _ _ => .int _⟩
abbrev gLt : G2 := gI0 fun i j => .bl (decide (i < j))
abbrev gLe : G2 := gI0 fun i j => .bl (decide (i ≤ j))
abbrev gGt : G2 := gI0 fun i j => .bl (decide (j < i))
abbrev gGe : G2 := gI0 fun i j => .bl (decide (j ≤ i))
theorem oq_lt : OQ X (compareOp .Lt) gLt := ⟨_, op_lt, sim2_I0 fun _ _ _ _ => .bl _⟩
theorem oq_le : OQ X (compareOp .LtE) gLe := ⟨_, op_le, sim2_I0 fun _ _ _ _ => .bl _⟩
theorem oq_gt : OQ X (compareOp .Gt) gGt := ⟨_, op_gt, sim2_I0 fun _ _ _ _ => .bl _⟩
theorem oq_ge : OQ X (compareOp .GtE) gGe := ⟨_, op_ge, sim2_I0 fun _ _ _ _ => .bl _⟩
end
end DL

namespace DL
open PySem L2
/-! ### equality -/
mutual
def toPy : D → PyData
  | .non => .none
  | .bl b => .bool b
  | .int i => .int i
  | .str x => .str x
  | .lst xs => .list (toPys xs)
  | .tup xs => .tuple (toPys xs)
  | .ro _ => .dict [] | .dk _ _ => .dict [] | .dt _ _ => .dict [] | .obj _ _ _ => .dict [] | .ptr _ => .dict [] | .ty _ => .dict []
def toPys : List D → List PyData
  | [] => []
  | d :: r => toPy d :: toPys r
end
/-- whether a datum is of None, bools, ints, texts, lists, tuples -/
def shp (d : D) : Bool := SeqAt.shaped (toPy d)
def eqD (a b : D) : Bool := PyData.eqv (toPy a) (toPy b)
mutual
theorem Rp.dp {L : Led} {K : PySem.W.Frag} {H : Hp} : ∀ {v : V} {d : D}, Rp L K H v d → PyData.canLay0 (toPy d) = true → Dp K H v (toPy d)
  | _, _, .non, _ => .non
  | _, _, .bl b, _ => .bl b
  | _, _, .int i, _ => .int i
  | _, _, .str x, _ => .str x
  | _, _, .lst n h r, c => .lst (SqL.of h) (RpAll.dp r (by simpa only [toPy, PyData.canLay0] using c))
  | _, _, .tup s r, c => .tup s.sq (RpAll.dp r (by simpa only [toPy, PyData.canLay0] using c))
  | _, _, .ro _ _, c => by simp [toPy, PyData.canLay0] at c
  | _, _, .ty _, c => by simp [toPy, PyData.canLay0] at c
  | _, _, .ptr _, c => by simp [toPy, PyData.canLay0] at c
  | _, _, .dk _ _ _ _, c => by simp [toPy, PyData.canLay0] at c
  | _, _, .dt _ _ _ _, c => by simp [toPy, PyData.canLay0] at c
  | _, _, .obj _ _ _ _, c => by simp [toPy, PyData.canLay0] at c
theorem RpAll.dp {L : Led} {K : PySem.W.Frag} {H : Hp} : ∀ {vs : List V} {ds : List D}, RpAll L K H vs ds → PyData.canLayAll0 (toPys ds) = true → DpAll K H vs (toPys ds)
  | _, _, .nil, _ => .nil
  | _, _, .cons (d := d) (ds := ds) h r, c => by
    have c' : PyData.canLay0 (toPy d) = true ∧ PyData.canLayAll0 (toPys ds) = true := by simpa only [toPys, PyData.canLayAll0, Bool.and_eq_true] using c
    exact .cons (Rp.dp h c'.1) (RpAll.dp r c'.2)
end
def gEq : G2 := fun a b _ k => shp a = true ∧ shp b = true ∧ k (.bl (eqD a b))
def gNe : G2 := fun a b _ k => shp a = true ∧ shp b = true ∧ k (.bl (!eqD a b))
section
variable {X : Cx} {Wx : WX} {a b c e : Expr} {es : List Expr} {da db dc de : DE} {pos : Pos}
theorem oq_eq (hu : X.A.units + 64 < cLine) : OQ X (compareOp .Eq) gEq := ⟨_, op_eqD hu, fun H L va vb a b k Q j ra rb h hk => by
  obtain ⟨h1, h2, h3⟩ := h
  exact ⟨_, _, ra.dp (SeqAt.canLay_of_shaped h1), rb.dp (SeqAt.canLay_of_shaped h2), h1, h2, hk _ _ H h3 (Same.refl H) (.bl _)⟩⟩
theorem oq_ne (hu : X.A.units + 64 < cLine) : OQ X (compareOp .NotEq) gNe := ⟨_, op_neD hu, fun H L va vb a b k Q j ra rb h hk => by
  obtain ⟨h1, h2, h3⟩ := h
  exact ⟨_, _, ra.dp (SeqAt.canLay_of_shaped h1), rb.dp (SeqAt.canLay_of_shaped h2), h1, h2, hk _ _ H h3 (Same.refl H) (.bl _)⟩⟩
/-- flat things: None, bools, ints, texts -/
def scD : D → D → Bool
  | .non, .non => true
  | .bl _, .bl _ => true
  | .int _, .int _ => true
  | .str _, .str _ => true
  | _, _ => false
def flEq : D → D → Bool
  | .non, .non => true
  | .bl a, .bl b => decide (a = b)
  | .int a, .int b => decide (a = b)
  | .str a, .str b => decide (a = b)
  | _, _ => false
def gEqF : G2 := fun a b _ k => scD a b = true ∧ k (.bl (flEq a b))
def gNeF : G2 := fun a b _ k => scD a b = true ∧ k (.bl (!flEq a b))
theorem flEq_of {L : Led} {K : PySem.W.Frag} {H : Hp} {va vb : V} {a b : D} (ra : Rp L K H va a) (rb : Rp L K H vb b) (h : scD a b = true) : scal va vb = true ∧ decide (va = vb) = flEq a b := by
  cases ra <;> cases rb <;> first | exact absurd h Bool.false_ne_true | skip
  · exact ⟨rfl, by simp [flEq]⟩
  · exact ⟨rfl, by simp [flEq]⟩
  · exact ⟨rfl, by simp [flEq]⟩
  · exact ⟨rfl, by simp [flEq]⟩
theorem oq_eqF : OQ X (compareOp .Eq) gEqF := ⟨_, op_eq, fun H L va vb a b k Q j ra rb h hk => by
  obtain ⟨h1, h2⟩ := flEq_of ra rb h.1
  exact ⟨h1, by rw [h2]; exact hk _ _ H h.2 (Same.refl H) (.bl _)⟩⟩
theorem oq_neF : OQ X (compareOp .NotEq) gNeF := ⟨_, op_ne, fun H L va vb a b k Q j ra rb h hk => by
  obtain ⟨h1, h2⟩ := flEq_of ra rb h.1
  exact ⟨h1, by rw [h2]; exact hk _ _ H h.2 (Same.refl H) (.bl _)⟩⟩
def isNon : D → Bool
  | .non => true
  | _ => false
def gIsN : G2 := fun a b _ k => match b with
  | .non => k (.bl (isNon a))
  | _ => False
def gNotN : G2 := fun a b _ k => match b with
  | .non => k (.bl (!isNon a))
  | _ => False
theorem isNon_of {L : Led} {K : PySem.W.Frag} {H : Hp} {va : V} {a : D} (ra : Rp L K H va a) : decide (va = .non) = isNon a := by
  cases ra <;> first | rfl | (exact decide_eq_false (fun h => nomatch h))
theorem oq_isN : OQ X (compareOp .Is) gIsN := ⟨_, op_isN, fun H L va vb a b k Q j ra rb h hk => by
  cases rb <;> first | exact h.elim | skip
  exact ⟨rfl, by rw [isNon_of ra]; exact hk _ _ H h (Same.refl H) (.bl _)⟩⟩
theorem oq_notN : OQ X (compareOp .IsNot) gNotN := ⟨_, op_notN, fun H L va vb a b k Q j ra rb h hk => by
  cases rb <;> first | exact h.elim | skip
  exact ⟨rfl, by rw [isNon_of ra]; exact hk _ _ H h (Same.refl H) (.bl _)⟩⟩

/-! ### subscripts, slices -/
def atD (ds : List D) (i : Int) : Option D := atI ds i
theorem atI_of {L : Led} {K : PySem.W.Frag} {H : Hp} {vs : List V} {ds : List D} {i : Int} {d : D} (r : RpAll L K H vs ds) (h : atI ds i = some d) : ∃ v, atI vs i = some v ∧ Rp L K H v d := by
  unfold atI at h ⊢
  rw [r.length]
  cases e : ixN ds.length i with
  | none => rw [e] at h; cases h
  | some j =>
    rw [e] at h
    exact r.get h
/-- a list, a tuple at a place -/
def gIx : G2 := fun a b L k => match b with
  | .int i => match seqs (con L a) with
    | some ds => match atI ds i with
      | some d => k d
      | none => False
    | none => False
  | _ => False
def rIxQ (K : PySem.W.Frag) : R2 := fun x y H Q => rIxL K x y H Q ∨ rIxT K x y H Q
theorem ix_or {r1 r2 : R2} (h1 : IxR X r1) (h2 : IxR X r2) : IxR X (fun x y H Q => r1 x y H Q ∨ r2 x y H Q) := fun value slice pins s σ H x y v u Q I rx ry h hs =>
  h.elim (fun q => h1 value slice pins s σ H x y v u Q I rx ry q hs) (fun q => h2 value slice pins s σ H x y v u Q I rx ry q hs)
theorem sim_ix {K : PySem.W.Frag} : Sim2 K (rIxQ K) gIx := by
  intro H L va vb a b k Q j ra rb h hk
  cases rb <;> first | exact h.elim | skip
  unfold gIx at h
  simp only at h
  split at h
  · rename_i ds hd
    split at h
    · rename_i d hi
      obtain ⟨p, vs, rfl, hs, r⟩ := con_seq j ra hd
      obtain ⟨v, hv, rv⟩ := atI_of r hi
      rcases hs with hs | hs
      · exact .inl ⟨p, vs, _, v, rfl, rfl, hs, hv, hk _ _ H h (Same.refl H) rv⟩
      · exact .inr ⟨p, vs, _, v, rfl, rfl, hs, hv, hk _ _ H h (Same.refl H) rv⟩
    · exact h.elim
  · exact h.elim
theorem q_ix (ha : QE X Wx a da) (hb : QE X Wx b db) (hs : PlainIx b := by intro _ _; rfl) : QE X Wx (.Subscript a b pos) (dOp gIx da db) := by
  obtain ⟨ta, pa, sa⟩ := ha.ex
  obtain ⟨tb, pb, sb⟩ := hb.ex
  exact ⟨_, pe_ix (ix_or ix_list ix_tup) pa pb hs, sim_op sa sb sim_ix⟩
/-- a text's sign at a place -/
def gIxS : G2 := fun a b _ k => match a, b with
  | .str z, .int i => z.length ≤ sizeLine ∧ match atI z.cps.toList i with
    | some c => k (.str ⟨#[c]⟩)
    | none => False
  | _, _ => False
theorem sim_ixS {K : PySem.W.Frag} : Sim2 K rIxS gIxS := by
  intro H L va vb a b k Q j ra rb h hk
  cases ra <;> cases rb <;> first | exact h.elim | skip
  obtain ⟨hz, h⟩ := h
  split at h
  · rename_i c hc
    exact ⟨_, _, c, rfl, rfl, hz, hc, hk _ _ H h (Same.refl H) (.str _)⟩
  · exact h.elim
theorem q_ixS (ha : QE X Wx a da) (hb : QE X Wx b db) (hs : PlainIx b := by intro _ _; rfl) : QE X Wx (.Subscript a b pos) (dOp gIxS da db) := by
  obtain ⟨ta, pa, sa⟩ := ha.ex
  obtain ⟨tb, pb, sb⟩ := hb.ex
  exact ⟨_, pe_ix ix_str pa pb hs, sim_op sa sb sim_ixS⟩
end
end DL

namespace DL
open PySem L2
section
variable {X : Cx} {Wx : WX} {a b c e : Expr} {es rest : List Expr} {da db dc de : DE} {dt du : DT} {dl : DA} {pos : Pos}
/-! ### one operand -/
abbrev G1 := D → Led → (D → Prop) → Prop
def dUn (g : G1) (da : DE) : DE := fun env L k x => da env L (fun a L1 => g a L1 fun d => k d L1) x
def Sim1 (K : PySem.W.Frag) (r : V → Hp → VK → Prop) (g : G1) : Prop := ∀ H L va a k Q, JL K L H → Rp L K H va a → g a L k → ROk K L H k Q → r va H Q
theorem sim_un {K : PySem.W.Frag} {ta : TE} {r : V → Hp → VK → Prop} {g : G1} (sa : SimE K Wx ta da) (sr : Sim1 K r g) : SimE K Wx (tUn r ta) (dUn g da) := by
  intro σ H env L k x Q st h hk hx
  refine sa σ H env L _ x _ st h (fun a L1 va H1 h1 g1 j1 r1 => ?_) hx
  exact sr H1 L1 va a _ Q j1 r1 h1 fun d v H' q s rp => hk d L1 v H' q (g1.trans (Go.same s)) (j1.same s) rp
def gNeg : G1 := fun a _ k => match a with
  | .int i => k (.int (-i))
  | _ => False
theorem q_neg (ha : QE X Wx a da) : QE X Wx (.UnaryOp .USub a pos) (dUn gNeg da) := by
  obtain ⟨ta, pa, sa⟩ := ha.ex
  refine ⟨_, pe_un un_neg pa, sim_un sa fun H L va a k Q j ra h hk => ?_⟩
  cases ra <;> first | exact h.elim | skip
  exact ⟨_, rfl, hk _ _ H h (Same.refl H) (.int _)⟩
/-! ### and, or, not (bools) -/
def dAndV (da db : DE) : DE := fun env L k x => da env L (fun a L1 => match a with
  | .bl true => db env L1 k x
  | .bl false => k (.bl false) L1
  | _ => False) x
def dOrV (da db : DE) : DE := fun env L k x => da env L (fun a L1 => match a with
  | .bl true => k (.bl true) L1
  | .bl false => db env L1 k x
  | _ => False) x
def dNotV (da : DE) : DE := fun env L k x => da env L (fun a L1 => match a with
  | .bl b => k (.bl (!b)) L1
  | _ => False) x
theorem q_one {op} (h : QE X Wx a da) : QE X Wx (.BoolOp op [a] pos) da := by
  obtain ⟨ta, pa, sa⟩ := h.ex
  exact ⟨_, pe_one pa, sa⟩
theorem q_and (ha : QE X Wx a da) (hb : QE X Wx (.BoolOp .And (b :: rest) pos) db) : QE X Wx (.BoolOp .And (a :: b :: rest) pos) (dAndV da db) := by
  obtain ⟨ta, pa, sa⟩ := ha.ex
  obtain ⟨tb, pb, sb⟩ := hb.ex
  refine ⟨_, pe_and pa pb, fun σ H env L k x Q st h hk hx => ?_⟩
  refine sa σ H env L _ x _ st h (fun a L1 va H1 h1 g1 j1 r1 => ?_) hx
  cases r1 <;> first | exact h1.elim | skip
  rename_i b
  refine ⟨b, rfl, ?_⟩
  cases b with
  | true => exact iteT (sb σ H1 env L1 k x Q (st.go g1 j1) h1 (hk.go g1) (hx.go g1))
  | false => exact iteF (hk _ L1 _ H1 h1 g1 j1 (.bl false))
theorem q_or (ha : QE X Wx a da) (hb : QE X Wx (.BoolOp .Or (b :: rest) pos) db) : QE X Wx (.BoolOp .Or (a :: b :: rest) pos) (dOrV da db) := by
  obtain ⟨ta, pa, sa⟩ := ha.ex
  obtain ⟨tb, pb, sb⟩ := hb.ex
  refine ⟨_, pe_or pa pb, fun σ H env L k x Q st h hk hx => ?_⟩
  refine sa σ H env L _ x _ st h (fun a L1 va H1 h1 g1 j1 r1 => ?_) hx
  cases r1 <;> first | exact h1.elim | skip
  rename_i b
  refine ⟨b, rfl, ?_⟩
  cases b with
  | true => exact iteT (hk _ L1 _ H1 h1 g1 j1 (.bl true))
  | false => exact iteF (sb σ H1 env L1 k x Q (st.go g1 j1) h1 (hk.go g1) (hx.go g1))
theorem q_not (ha : QE X Wx a da) : QE X Wx (.UnaryOp .Not a pos) (dNotV da) := by
  obtain ⟨ta, pa, sa⟩ := ha.ex
  refine ⟨_, pe_not pa, fun σ H env L k x Q st h hk hx => ?_⟩
  refine sa σ H env L _ x _ st h (fun a L1 va H1 h1 g1 j1 r1 => ?_) hx
  cases r1 <;> first | exact h1.elim | skip
  exact ⟨_, rfl, hk _ L1 _ H1 h1 g1 j1 (.bl _)⟩
/-! ### tests -/
def dB (da : DE) : DT := fun env L k x => da env L (fun a L1 => match a with
  | .bl b => k b L1
  | _ => False) x
theorem sim_B {K : PySem.W.Frag} {ta : TE} (sa : SimE K Wx ta da) : SimT K Wx (tB ta) (dB da) := by
  intro σ H env L k x Q st h hk hx
  refine sa σ H env L _ x _ st h (fun a L1 va H1 h1 g1 j1 r1 => ?_) hx
  cases r1 <;> first | exact h1.elim | skip
  exact ⟨_, rfl, hk _ L1 H1 h1 g1 j1⟩
theorem t_val (h : QE X Wx e da) (he : ∀ whole, isTrue e X.env whole = (do let v ← whole; standAt e.pos; holding [v] (truthy v)) := by intro _; rfl) : QT X Wx e (dB da) := by
  obtain ⟨ta, pa, sa⟩ := h.ex
  exact ⟨_, pt_val pa he, sim_B sa⟩
theorem t_cmp {op : CmpOp} {g : G2} (ho : OQ X (compareOp op) g) (ha : QE X Wx a da) (hb : QE X Wx b db) (hm : behindInMarks op b = false := by rfl) : QT X Wx (.Compare a [op] [b] pos) (dB (dOp g da db)) := by
  obtain ⟨ta, pa, sa⟩ := ha.ex
  obtain ⟨tb, pb, sb⟩ := hb.ex
  obtain ⟨r, hr, sr⟩ := ho
  refine ⟨_, pt_cmpR hr pa pb hm, fun σ H env L k x Q st h hk hx => ?_⟩
  exact sim_B (sim_op sa sb sr) σ H env L k x Q st h hk hx
def dTAnd (dt du : DT) : DT := fun env L k x => dt env L (fun b L1 => match b with
  | true => du env L1 k x
  | false => k false L1) x
def dTOr (dt du : DT) : DT := fun env L k x => dt env L (fun b L1 => match b with
  | true => k true L1
  | false => du env L1 k x) x
def dTNot (dt : DT) : DT := fun env L k x => dt env L (fun b L1 => k (!b) L1) x
theorem w_and1 (h : QT X Wx a dt) : QW X Wx (.BoolOp .And [a] pos) dt := by
  obtain ⟨ta, pa, sa⟩ := h.ex
  exact ⟨_, pw_and1 pa, sa⟩
theorem w_or1 (h : QT X Wx a dt) : QW X Wx (.BoolOp .Or [a] pos) dt := by
  obtain ⟨ta, pa, sa⟩ := h.ex
  exact ⟨_, pw_or1 pa, sa⟩
theorem w_and (ha : QT X Wx a dt) (hb : QW X Wx (.BoolOp .And (b :: rest) pos) du) : QW X Wx (.BoolOp .And (a :: b :: rest) pos) (dTAnd dt du) := by
  obtain ⟨ta, pa, sa⟩ := ha.ex
  obtain ⟨tb, pb, sb⟩ := hb.ex
  refine ⟨_, pw_and pa pb, fun σ H env L k x Q st h hk hx => ?_⟩
  refine sa σ H env L _ x _ st h (fun b L1 H1 h1 g1 j1 => ?_) hx
  cases b with
  | true => exact iteT (sb σ H1 env L1 k x Q (st.go g1 j1) h1 (fun b L2 H2 q g j => hk b L2 H2 q (g1.trans g) j) (hx.go g1))
  | false => exact iteF (hk _ L1 H1 h1 g1 j1)
theorem w_or (ha : QT X Wx a dt) (hb : QW X Wx (.BoolOp .Or (b :: rest) pos) du) : QW X Wx (.BoolOp .Or (a :: b :: rest) pos) (dTOr dt du) := by
  obtain ⟨ta, pa, sa⟩ := ha.ex
  obtain ⟨tb, pb, sb⟩ := hb.ex
  refine ⟨_, pw_or pa pb, fun σ H env L k x Q st h hk hx => ?_⟩
  refine sa σ H env L _ x _ st h (fun b L1 H1 h1 g1 j1 => ?_) hx
  cases b with
  | true => exact iteT (hk _ L1 H1 h1 g1 j1)
  | false => exact iteF (sb σ H1 env L1 k x Q (st.go g1 j1) h1 (fun b L2 H2 q g j => hk b L2 H2 q (g1.trans g) j) (hx.go g1))
theorem QW.t (h : QW X Wx e dt) : QT X Wx e dt := by
  obtain ⟨ta, pa, sa⟩ := h.ex
  exact ⟨_, pa.pt, sa⟩
theorem t_not (h : QT X Wx a dt) : QT X Wx (.UnaryOp .Not a pos) (dTNot dt) := by
  obtain ⟨ta, pa, sa⟩ := h.ex
  refine ⟨_, pt_not pa, fun σ H env L k x Q st h hk hx => ?_⟩
  exact sa σ H env L _ x _ st h (fun b L1 H1 h1 g1 j1 => hk _ L1 H1 h1 g1 j1) hx
/-- the truth of a value -/
def truD (L : Led) (d : D) : Option Bool := match con L d with
  | .non => some false
  | .bl b => some b
  | .int i => some (i != 0)
  | .lst ds => some (!ds.isEmpty)
  | .tup ds => some (!ds.isEmpty)
  | .ro ds => some (!ds.isEmpty)
  | _ => none
def dTru (da : DE) : DT := fun env L k x => da env L (fun a L1 => match truD L1 a with
  | some b => k b L1
  | none => False) x
theorem emp_of {L : Led} {K : PySem.W.Frag} {H : Hp} {vs : List V} {ds : List D} (r : RpAll L K H vs ds) : (!ds.isEmpty) = !vs.isEmpty := by cases r <;> rfl
theorem tru_of {L : Led} {K : PySem.W.Frag} {H : Hp} {v : V} {d : D} {b : Bool} (j : JL K L H) (r : Rp L K H v d) (h : truD L d = some b) : TruV K v H b := by
  unfold truD at h
  split at h
  · rename_i e
    cases d <;> first | (cases e; done) | skip
    · cases r; cases h; rfl
    · rename_i a
      have e : (L.lookup a).getD (.ptr a) = _ := e
      cases q : L.lookup a with
      | none => rw [q] at e; cases e
      | some c =>
        rw [q] at e
        have e2 : c = .non := e
        subst e2
        exact (j.look q).elim
  · rename_i b' e
    cases d <;> first | (cases e; done) | skip
    · cases e; cases r; cases h; rfl
    · rename_i a
      have e : (L.lookup a).getD (.ptr a) = _ := e
      cases q : L.lookup a with
      | none => rw [q] at e; cases e
      | some c =>
        rw [q] at e
        have e2 : c = .bl b' := e
        subst e2
        exact (j.look q).elim
  · rename_i i e
    cases d <;> first | (cases e; done) | skip
    · cases e; cases r; cases h; rfl
    · rename_i a
      have e : (L.lookup a).getD (.ptr a) = _ := e
      cases q : L.lookup a with
      | none => rw [q] at e; cases e
      | some c =>
        rw [q] at e
        have e2 : c = .int i := e
        subst e2
        exact (j.look q).elim
  · rename_i ds e
    cases h
    obtain ⟨a, vs, rfl, h1, h2⟩ := con_lst j r e
    exact .inl ⟨vs, SqL.of h1, emp_of h2⟩
  · rename_i ds e
    cases h
    obtain ⟨a, vs, rfl, h1, h2⟩ := con_tup j r e
    exact .inr (.inl ⟨vs, h1, emp_of h2⟩)
  · rename_i ds e
    cases h
    obtain ⟨a, vs, rfl, h1, h2⟩ := con_ro j r e
    exact .inl ⟨vs, h1, emp_of h2⟩
  · cases h
theorem t_tru (h : QE X Wx a da) (he : ∀ whole, isTrue a X.env whole = (do let v ← whole; standAt a.pos; holding [v] (truthy v)) := by intro _; rfl) : QT X Wx a (dTru da) := by
  obtain ⟨ta, pa, sa⟩ := h.ex
  refine ⟨_, pt_truth pa he, fun σ H env L k x Q st h hk hx => ?_⟩
  refine sa σ H env L _ x _ st h (fun a L1 va H1 h1 g1 j1 r1 => ?_) hx
  split at h1
  · rename_i b hb
    exact ⟨b, tru_of j1 r1 hb, hk b L1 H1 h1 g1 j1⟩
  · exact h1.elim
/-- a if t else b -/
def dIf (dt : DT) (da db : DE) : DE := fun env L k x => dt env L (fun b L1 => match b with
  | true => da env L1 k x
  | false => db env L1 k x) x
theorem q_if (hc : QT X Wx c dt) (ha : QE X Wx a da) (hb : QE X Wx b db) : QE X Wx (.IfExp c a b pos) (dIf dt da db) := by
  obtain ⟨tc, pc, sc⟩ := hc.ex
  obtain ⟨ta, pa, sa⟩ := ha.ex
  obtain ⟨tb, pb, sb⟩ := hb.ex
  refine ⟨_, pe_ifExp pc pa pb, fun σ H env L k x Q st h hk hx => ?_⟩
  refine sc σ H env L _ x _ st h (fun b L1 H1 h1 g1 j1 => ?_) hx
  cases b with
  | true => exact iteT (sa σ H1 env L1 k x Q (st.go g1 j1) h1 (hk.go g1) (hx.go g1))
  | false => exact iteF (sb σ H1 env L1 k x Q (st.go g1 j1) h1 (hk.go g1) (hx.go g1))
/-- a < b < c -/
def dChain (g g' : G2) (da db dc : DE) : DE := fun env L k x => da env L (fun a L1 => db env L1 (fun b L2 => g a b L2 fun z => match z with
  | .bl true => dc env L2 (fun c L3 => g' b c L3 fun d => k d L3) x
  | .bl false => k (.bl false) L2
  | _ => False) x) x
theorem sim_chain {K : PySem.W.Frag} {ta tb tc : TE} {r r' : R2} {g g' : G2} (sa : SimE K Wx ta da) (sb : SimE K Wx tb db) (sc : SimE K Wx tc dc) (sr : Sim2 K r g) (sr' : Sim2 K r' g') : SimE K Wx (tChain r r' ta tb tc) (dChain g g' da db dc) := by
  intro σ H env L k x Q st h hk hx
  refine sa σ H env L _ x _ st h (fun a L1 va H1 h1 g1 j1 r1 => ?_) hx
  refine sb σ H1 env L1 _ x _ (st.go g1 j1) h1 (fun b L2 vb H2 h2 g2 j2 r2 => ?_) (hx.go g1)
  refine sr H2 L2 va vb a b _ _ j2 (r1.go g2) r2 h2 fun z v H' q s rp => ?_
  have g3 : Go L L2 H H' := (g1.trans g2).trans (Go.same s)
  cases rp <;> first | exact q.elim | skip
  rename_i bb
  refine ⟨bb, rfl, ?_⟩
  cases bb with
  | true =>
    refine iteT (sc σ H' env L2 _ x _ (st.go g3 (j2.same s)) q (fun c L3 vc H3 h3 g4 j3 r3 => ?_) (hx.go g3))
    exact sr' H3 L3 vb vc b c _ Q j3 ((r2.go (Go.same s)).go g4) r3 h3 fun d v' H4 q4 s4 rp4 => hk d L3 v' H4 q4 ((g3.trans g4).trans (Go.same s4)) (j3.same s4) rp4
  | false => exact iteF (hk _ L2 _ H' q g3 (j2.same s) (.bl false))
theorem q_chain {op op' : CmpOp} {g g' : G2} (ho : OQ X (compareOp op) g) (ho' : OQ X (compareOp op') g') (ha : QE X Wx a da) (hb : QE X Wx b db) (hc : QE X Wx c dc) (hm : lastMarks [op, op'] [b, c] = false := by rfl) :
    QE X Wx (.Compare a [op, op'] [b, c] pos) (dChain g g' da db dc) := by
  obtain ⟨ta, pa, sa⟩ := ha.ex
  obtain ⟨tb, pb, sb⟩ := hb.ex
  obtain ⟨tc, pc, sc⟩ := hc.ex
  obtain ⟨r, hr, sr⟩ := ho
  obtain ⟨r', hr', sr'⟩ := ho'
  exact ⟨_, pe_chain hr hr' pa pb pc hm, sim_chain sa sb sc sr sr'⟩
theorem t_chain {op op' : CmpOp} {g g' : G2} (ho : OQ X (compareOp op) g) (ho' : OQ X (compareOp op') g') (ha : QE X Wx a da) (hb : QE X Wx b db) (hc : QE X Wx c dc) (hm : lastMarks [op, op'] [b, c] = false := by rfl) :
    QT X Wx (.Compare a [op, op'] [b, c] pos) (dB (dChain g g' da db dc)) := by
  obtain ⟨ta, pa, sa⟩ := ha.ex
  obtain ⟨tb, pb, sb⟩ := hb.ex
  obtain ⟨tc, pc, sc⟩ := hc.ex
  obtain ⟨r, hr, sr⟩ := ho
  obtain ⟨r', hr', sr'⟩ := ho'
  refine ⟨_, pt_chain hr hr' pa pb pc hm, fun σ H env L k x Q st h hk hx => ?_⟩
  exact sim_B (sim_chain sa sb sc sr sr') σ H env L k x Q st h hk hx
/-! ### arguments, displays -/
def dNil : DA := fun _ L k _ => k [] L
def dCons (de : DE) (dl : DA) : DA := fun env L k x => de env L (fun d L1 => dl env L1 (fun ds L2 => k (d :: ds) L2) x) x
theorem a_nil : QA X Wx [] dNil := ⟨_, pa_nil, fun σ H env L k x Q st h hk hx => hk [] L [] H h (Go.refl L H) st.2 .nil⟩
theorem a_cons (ha : QE X Wx e de) (hr : QA X Wx es dl) (hs : starEach (e :: es) X.env = (false, eval e X.env) :: starEach es X.env := by rfl) : QA X Wx (e :: es) (dCons de dl) := by
  obtain ⟨te, pe, se⟩ := ha.ex
  obtain ⟨ta, pa, sa⟩ := hr.ex
  refine ⟨_, pa_cons pe pa hs, fun σ H env L k x Q st h hk hx => ?_⟩
  refine se σ H env L _ x _ st h (fun d L1 v H1 h1 g1 j1 r1 => ?_) hx
  refine sa σ H1 env L1 _ x _ (st.go g1 j1) h1 (fun ds L2 vs H2 h2 g2 j2 r2 => ?_) (hx.go g1)
  exact hk _ L2 _ H2 h2 (g1.trans g2) j2 (.cons (r1.go g2) r2)
def dTup (dl : DA) : DE := fun env L k x => dl env L (fun ds L1 => ds.length ≤ sizeLine ∧ k (.tup ds) L1) x
def dLst (dl : DA) : DE := fun env L k x => dl env L (fun ds L1 => ds.length ≤ sizeLine ∧ k (.lst ds) L1) x
/-- a list that will change: onto the ledger -/
def dLstM (dl : DA) : DE := fun env L k x => dl env L (fun ds L1 => ds.length ≤ sizeLine ∧ ∀ p, ¬ inL L1 p → k (.ptr p) ((p, .lst ds) :: L1)) x
theorem q_tup {x1} (h : QA X Wx es dl) : QE X Wx (.Tuple es x1 pos) (dTup dl) := by
  obtain ⟨ta, pa, sa⟩ := h.ex
  refine ⟨_, pe_tup pa, fun σ H env L k x Q st h hk hx => ?_⟩
  refine sa σ H env L _ x _ st h (fun ds L1 vs H1 h1 g1 j1 r1 => ?_) hx
  refine ⟨by rw [r1.length]; exact h1.1, fun p hp => ?_⟩
  have s := same_new hp (.tup vs)
  exact hk _ L1 _ _ h1.2 (g1.trans (Go.same s)) (j1.same s) (.tup (.inl ⟨j1.notIn hp, .inl upd_same⟩) (r1.go (Go.same s)))
theorem q_lst (h : QA X Wx es dl) : QE X Wx (.List es pos) (dLst dl) := by
  obtain ⟨ta, pa, sa⟩ := h.ex
  refine ⟨_, pe_lst pa, fun σ H env L k x Q st h hk hx => ?_⟩
  refine sa σ H env L _ x _ st h (fun ds L1 vs H1 h1 g1 j1 r1 => ?_) hx
  refine ⟨by rw [r1.length]; exact h1.1, fun p hp => ?_⟩
  have s := same_new hp (.lst vs)
  exact hk _ L1 _ _ h1.2 (g1.trans (Go.same s)) (j1.same s) (.lst (j1.notIn hp) upd_same (r1.go (Go.same s)))
theorem q_lstM (h : QA X Wx es dl) : QE X Wx (.List es pos) (dLstM dl) := by
  obtain ⟨ta, pa, sa⟩ := h.ex
  refine ⟨_, pe_lst pa, fun σ H env L k x Q st h hk hx => ?_⟩
  refine sa σ H env L _ x _ st h (fun ds L1 vs H1 h1 g1 j1 r1 => ?_) hx
  refine ⟨by rw [r1.length]; exact h1.1, fun p hp => ?_⟩
  have gg : Go L1 ((p, .lst ds) :: L1) H1 (upd H1 p (.lst vs)) := fun a u n hh => by
    have ne : a ≠ p := ne_of_none hh hp
    exact ⟨fun m => (List.mem_cons.mp m).elim ne n, by rw [upd_ne ne]; exact hh⟩
  obtain ⟨j2, g2⟩ := j1.push (d := .lst ds) hp (o := .lst vs) ⟨vs, upd_same, r1.go gg⟩
  exact hk _ _ _ _ (h1.2 p (j1.notIn hp)) (g1.trans g2) j2 (.ptr p)
end
end DL

namespace DL
open PySem L2
section
variable {X : Cx} {Wx : WX} {a b c e o : Expr} {es rest : List Expr} {da db dc de do' di : DE} {dt du : DT} {dl dk : DA} {pos : Pos}
/-! ### calls: a def by its contract over data -/
abbrev DSp := List D → Led → DK → (Exn → Led → Prop) → Prop
def spD (K : PySem.W.Frag) (f : DSp) : Sp := fun vs H Q E => ∃ ds L k x, JL K L H ∧ RpAll L K H vs ds ∧ f ds L k x ∧ KOk K L H k Q ∧ ∀ n L' a H', x n L' → Go L L' H H' → JL K L' H' → ExR L' K H' a n → E n.cls (some a) H'
def dCall (g : DSp) (dd : List D) (dl : DA) : DE := fun env L k x => dl env L (fun ds L1 => g (ds ++ dd) L1 k fun n L' => x n env L') x
theorem q_call {x : Str} {p : Pos} {k : Nat} {f : Addr} {fd : FuncData} {ps : List Str} {g : DSp} {us : List Value} {dvs : List V} {dd : List D} (F : FnOk X.prog X.w X.K X.mg X.base (L2.CX X.prog X.w) k f fd ps (spD X.K g)) (hr : Room k X.A) (hg : Gl X x) (hm : X.mg x = some (.ref f))
    (hk : PySem.W.keepIn X.K (.ref f) = true) (hb : Binds X.K fd ps us) (hd : Vals dvs us) (hdd : ∀ L H, RpAll L X.K H dvs dd) (tk : Takes X Wx) (ha : QA X Wx (e :: es) dl) (hdb : (x == ("__debug__" : Str)) = false := by decide)
    (he : starEach (e :: es) X.env = (false, eval e X.env) :: starEach es X.env := by rfl) (hpl : (backTo pos (starEach es X.env)).any (·.1) = false := by rfl) : QE X Wx (.Call (.Name x p) (e :: es) [] pos) (dCall g dd dl) := by
  obtain ⟨ta, pa, sa⟩ := ha.ex
  refine ⟨_, pe_callSD F hr hg hm hk hb hd (fun σ => passAt tk σ) pa hdb he hpl, fun σ H env L k x Q st h hk hx => ?_⟩
  refine sa σ H env L _ x _ st h (fun ds L1 vs H1 h1 g1 j1 r1 => ?_) hx
  exact ⟨ds ++ dd, L1, k, fun n L' => x n env L', j1, r1.append (hdd L1 H1), h1, hk.go g1, fun n L' a H' q g' j' r => hx n env L' a H' σ q (g1.trans g') (st.go (g1.trans g') j') r⟩
/-- by keywords, a def that raises nothing -/
def dCallK (g : DSp) (gD : List D → List D → List D) (dl dk : DA) : DE := fun env L k x => dl env L (fun ds L1 => dk env L1 (fun es L2 => g (gD ds es) L2 k fun _ _ => False) x) x
/-- f() -/
def dCall0 (g : DSp) (dd : List D) : DE := fun env L k x => g dd L k fun n L' => x n env L'
theorem q_call0 {x : Str} {p : Pos} {k : Nat} {f : Addr} {fd : FuncData} {ps : List Str} {g : DSp} {us : List Value} {dvs : List V} {dd : List D} (F : FnOk X.prog X.w X.K X.mg X.base (L2.CX X.prog X.w) k f fd ps (spD X.K g)) (hr : Room k X.A) (hg : Gl X x) (hm : X.mg x = some (.ref f))
    (hk : PySem.W.keepIn X.K (.ref f) = true) (hb : Binds X.K fd ps us) (hd : Vals dvs us) (hdd : ∀ L H, RpAll L X.K H dvs dd) (tk : Takes X (fun cls d _ H => Wx cls d [] H)) (hW : ∀ cls d σ σ' H, Wx cls d σ H → Wx cls d σ' H) (hdb : (x == ("__debug__" : Str)) = false := by decide) : QE X Wx (.Call (.Name x p) [] [] pos) (dCall0 g dd) := by
  refine ⟨_, pe_call0 (E := fun cls d H => Wx cls d [] H) F hr hg hm hk hb hd (passes_call tk fun _ _ _ _ h => h) hdb, fun σ H env L k x Q st h hk hx => ?_⟩
  exact ⟨dd, L, k, fun n L' => x n env L', st.2, by simpa using hdd L H, h, hk, fun n L' a H' q g' j' r => hW _ _ σ _ _ (hx n env L' a H' σ q g' (st.go g' j') r)⟩
/-! ### built-in calls -/
abbrev GC := List D → Led → (D → Prop) → Prop
def CQ (X : Cx) (f : Value) (g : GC) : Prop := ∃ r, CallR X f r ∧ ∀ H L vs ds k Q, JL X.K L H → RpAll L X.K H vs ds → g ds L k → ROk X.K L H k Q → r vs H Q
def dCB (g : GC) (dl : DA) : DE := fun env L k x => dl env L (fun ds L1 => g ds L1 fun d => k d L1) x
theorem sim_cb {K : PySem.W.Frag} {ta : TA} {r : List V → Hp → VK → Prop} {g : GC} (sa : SimA K Wx ta dl) (sr : ∀ H L vs ds k Q, JL K L H → RpAll L K H vs ds → g ds L k → ROk K L H k Q → r vs H Q) : SimE K Wx (tCB r ta) (dCB g dl) := by
  intro σ H env L k x Q st h hk hx
  refine sa σ H env L _ x _ st h (fun ds L1 vs H1 h1 g1 j1 r1 => ?_) hx
  exact sr H1 L1 vs ds _ Q j1 r1 h1 fun d v H' q s rp => hk d L1 v H' q (g1.trans (Go.same s)) (j1.same s) rp
theorem q_callB {x : Str} {p : Pos} {id : String} {g : GC} (hc : CQ X (.builtin id) g) (hg : Gl X x) (hm : X.mg x = none) (hv : bootBuiltins x = some (.builtin id)) (ha : QA X Wx (e :: es) dl) (hn : x ≠ "__name__" := by decide) (hdb : (x == ("__debug__" : Str)) = false := by decide)
    (he : starEach (e :: es) X.env = (false, eval e X.env) :: starEach es X.env := by rfl) (hpl : (backTo pos (starEach es X.env)).any (·.1) = false := by rfl) : QE X Wx (.Call (.Name x p) (e :: es) [] pos) (dCB g dl) := by
  obtain ⟨ta, pa, sa⟩ := ha.ex
  obtain ⟨r, hr, sr⟩ := hc
  exact ⟨_, pe_callB hr hg hm hv pa hn hdb he hpl, sim_cb sa sr⟩
theorem q_callTy {x : Str} {p : Pos} {T : String} {g : GC} (hc : CQ X (.type T) g) (hg : Gl X x) (hm : X.mg x = none) (hv : bootBuiltins x = some (.type T)) (ha : QA X Wx (e :: es) dl) (hn : x ≠ "__name__" := by decide) (hdb : (x == ("__debug__" : Str)) = false := by decide)
    (he : starEach (e :: es) X.env = (false, eval e X.env) :: starEach es X.env := by rfl) (hpl : (backTo pos (starEach es X.env)).any (·.1) = false := by rfl) : QE X Wx (.Call (.Name x p) (e :: es) [] pos) (dCB g dl) := by
  obtain ⟨ta, pa, sa⟩ := ha.ex
  obtain ⟨r, hr, sr⟩ := hc
  exact ⟨_, pe_callTy hr hg hm hv pa hn hdb he hpl, sim_cb sa sr⟩
/-- a module's name for a built-in (gcd) -/
theorem q_callF {x : Str} {p : Pos} {id : String} {g : GC} (hc : CQ X (.builtin id) g) (hg : Gl X x) (hm : X.mg x = some (.builtin id)) (ha : QA X Wx (e :: es) dl) (hdb : (x == ("__debug__" : Str)) = false := by decide)
    (he : starEach (e :: es) X.env = (false, eval e X.env) :: starEach es X.env := by rfl) (hpl : (backTo pos (starEach es X.env)).any (·.1) = false := by rfl) : QE X Wx (.Call (.Name x p) (e :: es) [] pos) (dCB g dl) := by
  obtain ⟨ta, pa, sa⟩ := ha.ex
  obtain ⟨r, hr, sr⟩ := hc
  exact ⟨_, pe_callBfun hr hg hm pa hdb he hpl, sim_cb sa sr⟩
end

/-! ### targets -/
abbrev DG := D → DEnv → Led → (DEnv → Prop) → Prop
abbrev DGs := List D → DEnv → Led → (DEnv → Prop) → Prop
section
variable {X : Cx} {Wx : WX} {a b c e o : Expr} {es rest : List Expr} {da db dc de : DE} {dt du : DT} {dl : DA} {pos : Pos}
/-- slots that a target stores -/
def Only' (sl : List Nat) (σ σ' : St) : Prop := ∀ vs : List Nat, (∀ i ∈ sl, i ∈ vs) → wipe σ' vs = wipe σ vs
def SimG (K : PySem.W.Frag) (sl : List Nat) (g : TG) (dg : DG) : Prop := ∀ v d σ H env L k Q, StL K σ H env L → Rp L K H v d → dg d env L k → (∀ σ' env', k env' → StL K σ' H env' L → Only' sl σ σ' → Q σ' H) → g v σ H Q
structure QG (X : Cx) (tg : Expr) (sl : List Nat) (dg : DG) : Prop where
  ex : ∃ g, PG X tg g ∧ SimG X.K sl g dg
structure QGs (X : Cx) (ts : List Expr) (sl : List Nat) (dg : DGs) : Prop where
  ex : ∃ g, PGs X ts g ∧ ∀ vs ds σ H env L k Q, StL X.K σ H env L → RpAll L X.K H vs ds → dg ds env L k → (∀ σ' env', k env' → StL X.K σ' H env' L → Only' sl σ σ' → Q σ' H) → g vs σ H Q
theorem wipe_set {σ : St} {o : Option V} {i : Nat} : ∀ {vs : List Nat}, i ∈ vs → wipe (σ.set i o) vs = wipe σ vs
  | [], h => by cases h
  | v :: vs, h => by
    by_cases e : i ∈ vs
    · unfold wipe
      rw [wipe_set e]
    · have e2 : i = v := by
        rcases List.mem_cons.mp h with q | q
        · exact q
        · exact absurd q e
      subst e2
      unfold wipe
      have key : ∀ (ws : List Nat), i ∉ ws → wipe (σ.set i o) ws = (wipe σ ws).set i o := by
        intro ws
        induction ws with
        | nil => intro _; rfl
        | cons w ws ih =>
          intro hn
          have h1 : i ≠ w := fun z => hn (by rw [z]; exact List.mem_cons_self)
          have h2 : i ∉ ws := fun z => hn (List.mem_cons_of_mem _ z)
          unfold wipe
          rw [ih h2, List.set_comm _ _ h1]
      rw [key vs e, List.set_set]
theorem only_set {σ : St} {o : Option V} {i : Nat} : Only' [i] σ (σ.set i o) := fun vs h => wipe_set (h i (by simp))
def dgName (i : Nat) : DG := fun d env _ k => k (env.set i (some d))
theorem g_name (i : Nat) {x : Str} (hN : X.N.Nodup) (hi : X.N[i]? = some x := by rfl) (hx : Loc X.env.scope x := by first | exact Or.inl rfl | exact Or.inr rfl) (hf : X.fn x = true ∨ X.env.scope.names.lookup x = some .local := by first | exact .inl rfl | exact .inr rfl | assumption) : QG X (.Name x pos) [i] (dgName i) :=
  ⟨_, pg_name hN hi hx hf, fun v d σ H env L k Q st r h hk => hk _ _ h ⟨st.1.set r i, st.2⟩ only_set⟩
def dgNil : DGs := fun ds env _ k => match ds with
  | [] => k env
  | _ => False
def dgCons (dg : DG) (dgs : DGs) : DGs := fun ds env L k => match ds with
  | d :: r => dg d env L fun env' => dgs r env' L k
  | [] => False
theorem gs_nil : QGs X [] [] dgNil := ⟨_, pgs_nil, fun vs ds σ H env L k Q st r h hk => by
  cases r with
  | nil => exact ⟨rfl, hk _ _ h st fun _ _ => rfl⟩
  | cons _ _ => exact h.elim⟩
theorem gs_cons {dg : DG} {dgs : DGs} {sl sl' : List Nat} (h1 : QG X e sl dg) (h2 : QGs X es sl' dgs) (hs : (assignEach (e :: es) X.env).map (·.2) = assign e X.env :: (assignEach es X.env).map (·.2) := by rfl) : QGs X (e :: es) (sl ++ sl') (dgCons dg dgs) := by
  obtain ⟨g, pg, sg⟩ := h1.ex
  obtain ⟨gs, pgs, sgs⟩ := h2.ex
  refine ⟨_, pgs_cons pg pgs hs, fun vs ds σ H env L k Q st r h hk => ?_⟩
  cases r with
  | nil => exact h.elim
  | cons r1 r2 =>
    refine ⟨_, _, rfl, sg _ _ σ H env L _ _ st r1 h fun σ' env' h' st' o1 => ?_⟩
    exact sgs _ _ σ' H env' L _ _ st' r2 h' fun σ2 env2 h2 st2 o2 => hk σ2 env2 h2 st2 fun vs hv => (o2 vs fun i hi => hv i (List.mem_append_right _ hi)).trans (o1 vs fun i hi => hv i (List.mem_append_left _ hi))
def dgTup (n : Nat) (dgs : DGs) : DG := fun d env L k => match d with
  | .tup ds => ds.length = n ∧ dgs ds env L k
  | _ => False
theorem g_tup {kk : Nat} {dgs : DGs} {n : Nat} {sl : List Nat} (hc : X.calm = true) (h : QGs X es sl dgs) (hn : (assignEach es X.env).length = n := by rfl) (hst : (assignEach es X.env).findIdx? (·.1) = none := by rfl) : QG X (.Tuple es kk pos) sl (dgTup n dgs) := by
  obtain ⟨gs, pgs, sgs⟩ := h.ex
  refine ⟨_, pg_tup hc pgs hn hst, fun v d σ H env L k Q st r h hk => ?_⟩
  cases r <;> first | exact h.elim | skip
  rename_i s r
  exact ⟨_, _, rfl, s.sq, by rw [r.length]; exact h.1, sgs _ _ σ H env L k Q st r h.2 hk⟩

/-! ### statements -/
def dNext : DS := fun D env L => D.nx env L
def dSeq (t u : DS) : DS := fun D env L => t { D with nx := u D } env L
theorem ss_nil : QSs X Wx [] dNext := ⟨_, pss_nil, fun σ H env L D' D st h ok => ok.nx env L σ H h (Go.refl L H) st⟩
theorem sim_seq {K : PySem.W.Frag} {t u : TS} {dt du : DS} (s1 : SimS K Wx t dt) (s2 : SimS K Wx u du) : SimS K Wx (tSeq t u) (dSeq dt du) := by
  intro σ H env L D' D st h ok
  refine s1 σ H env L _ _ st h ⟨fun env' L' σ' H' h' g' st' => ?_, ok.rt, ok.ex, ok.bk, ok.ct⟩
  exact s2 σ' H' env' L' D' D st' h' (ok.go g')
theorem ss_cons {st : Stmt} {rest : List Stmt} {dt du : DS} (h1 : QS X Wx st dt) (h2 : QSs X Wx rest du) : QSs X Wx (st :: rest) (dSeq dt du) := by
  obtain ⟨t, pt, st1⟩ := h1.ex
  obtain ⟨u, pu, su⟩ := h2.ex
  exact ⟨_, pss_cons pt pu, sim_seq st1 su⟩
theorem ss_one {st : Stmt} {dt : DS} (h1 : QS X Wx st dt) : QSs X Wx [st] dt := by
  obtain ⟨t, pt, st1⟩ := h1.ex
  exact ⟨_, pss_one pt, st1⟩
/-- a word between a statement and what follows -/
def dCut (t u : DS) : DS := fun D env L => ∃ M : DEnv → Led → Prop, t { D with nx := M } env L ∧ ∀ env' L', M env' L' → u D env' L'
theorem ss_cut {st : Stmt} {rest : List Stmt} {dt du : DS} (h1 : QS X Wx st dt) (h2 : QSs X Wx rest du) : QSs X Wx (st :: rest) (dCut dt du) := by
  obtain ⟨t, pt, st1⟩ := h1.ex
  obtain ⟨u, pu, su⟩ := h2.ex
  refine ⟨_, pss_cons pt pu, fun σ H env L D' D st h ok => ?_⟩
  obtain ⟨M, hm, hu⟩ := h
  refine st1 σ H env L _ _ st hm ⟨fun env' L' σ' H' h' g' st' => ?_, ok.rt, ok.ex, ok.bk, ok.ct⟩
  exact su σ' H' env' L' D' D st' (hu env' L' h') (ok.go g')
def dAsg (de : DE) (dg : DG) : DS := fun D env L => de env L (fun d L1 => dg d env L1 fun env' => D.nx env' L1) D.ex
theorem sim_asg {te : TE} {g : TG} {dg : DG} {sl : List Nat} (se : SimE X.K Wx te de) (sg : SimG X.K sl g dg) : SimS X.K Wx (tAsg te g) (dAsg de dg) := by
  intro σ H env L D' D st h ok
  refine se σ H env L _ _ _ st h (fun d L1 v H1 h1 g1 j1 r1 => ?_) ok.ex
  exact sg v d σ H1 env L1 _ _ (st.go g1 j1) r1 h1 fun σ' env' h' st' _ => ok.nx env' L1 σ' H1 h' g1 st'
theorem s_set (i : Nat) {x : Str} {pos' : Pos} (hN : X.N.Nodup) (he : QE X Wx e de) (hi : X.N[i]? = some x := by rfl) (hx : Loc X.env.scope x := by first | exact Or.inl rfl | exact Or.inr rfl) (hs : swapsWith e (some (.Name x pos')) pos.line X.env = pure false := by rfl) (hf : X.fn x = true ∨ X.env.scope.names.lookup x = some .local := by first | exact .inl rfl | exact .inr rfl | assumption) :
    QS X Wx (.Assign [.Name x pos'] e pos) (dAsg de (dgName i)) := by
  obtain ⟨te, pe, se⟩ := he.ex
  exact ⟨_, ps_set hN hi hx pe hs hf, sim_asg (sl := [i]) se fun v d σ H env L k Q st r h hk => hk _ _ h ⟨st.1.set r i, st.2⟩ only_set⟩
theorem s_asg {tg : Expr} {dg : DG} {sl : List Nat} (he : QE X Wx e de) (hg : QG X tg sl dg) (hs : swapsWithSole [tg] e pos.line X.env = pure false := by rfl) (hw : swappedStores [tg] e X.env = pure none := by rfl) (h1 : (assignEach [tg] X.env).map (·.2) = [assign tg X.env] := by rfl) : QS X Wx (.Assign [tg] e pos) (dAsg de dg) := by
  obtain ⟨te, pe, se⟩ := he.ex
  obtain ⟨g, pg, sg⟩ := hg.ex
  exact ⟨_, ps_asg pe pg hs hw h1, sim_asg se sg⟩
/-- a, b = x, y -/
def dPar (i j : Nat) (dl : DA) : DS := fun D env L => dl env L (fun ds L1 => match ds with
  | [d, e] => D.nx ((env.set i (some d)).set j (some e)) L1
  | _ => False) D.ex
theorem s_par (i j : Nat) {x y : Str} {px py pt : Pos} {kt k2 pt2} (hc : X.calm = true) (hN : X.N.Nodup) (ha : QA X Wx [a, b] dl) (hi : X.N[i]? = some x := by rfl) (hj : X.N[j]? = some y := by rfl) (hij : i ≠ j := by decide)
    (hx : X.env.scope.names.lookup x = some .local := by rfl) (hy : X.env.scope.names.lookup y = some .local := by rfl)
    (hw : swappedStores [.Tuple [.Name x px, .Name y py] kt pt] (.Tuple [a, b] k2 pt2) X.env = pure (some [x, y]) := by rfl)
    (hs : swapsWithSole [.Tuple [.Name x px, .Name y py] kt pt] (.Tuple [a, b] k2 pt2) pos.line X.env = pure false := by rfl) :
    QS X Wx (.Assign [.Tuple [.Name x px, .Name y py] kt pt] (.Tuple [a, b] k2 pt2) pos) (dPar i j dl) := by
  obtain ⟨ta, pa, sa⟩ := ha.ex
  refine ⟨_, ps_par hc hN hi hj hij hx hy pa hw hs, fun σ H env L D' D st h ok => ?_⟩
  refine sa σ H env L _ _ _ st h (fun ds L1 vs H1 h1 g1 j1 r1 => ?_) ok.ex
  split at h1
  · rename_i d e
    cases r1 with
    | cons r1 r2 => cases r2 with
      | cons r2 r3 => cases r3 with
        | nil => exact ⟨_, _, rfl, ok.nx _ L1 _ H1 h1 g1 ⟨((st.1.go g1).set r1 i).set r2 j, j1⟩⟩
  · exact h1.elim
def dDrop (de : DE) : DS := fun D env L => de env L (fun _ L1 => D.nx env L1) D.ex
theorem s_expr (he : QE X Wx e de) (hs : swapsWith e none pos.line X.env = pure false := by rfl) : QS X Wx (.Expr e pos) (dDrop de) := by
  obtain ⟨te, pe, se⟩ := he.ex
  refine ⟨_, ps_expr pe hs, fun σ H env L D' D st h ok => ?_⟩
  exact se σ H env L _ _ _ st h (fun d L1 v H1 h1 g1 j1 r1 => ok.nx env L1 σ H1 h1 g1 (st.go g1 j1)) ok.ex
def dRet (de : DE) : DS := fun D env L => de env L D.rt D.ex
theorem s_ret (he : QE X Wx e de) : QS X Wx (.Return (some e) pos) (dRet de) := by
  obtain ⟨te, pe, se⟩ := he.ex
  exact ⟨_, ps_ret pe, fun σ H env L D' D st h ok => se σ H env L _ _ _ st h ok.rt ok.ex⟩
def dRetN : DS := fun D _ L => D.rt .non L
theorem s_retN : QS X Wx (.Return none pos) dRetN := ⟨_, ps_retN, fun σ H env L D' D st h ok => ok.rt .non L .non H h (Go.refl L H) st.2 .non⟩
def dIfS (dt : DT) (t u : DS) : DS := fun D env L => dt env L (fun b L1 => match b with
  | true => t D env L1
  | false => u D env L1) D.ex
theorem s_if {as bs : List Stmt} {t u : DS} (hc : QT X Wx c dt) (ha : QSs X Wx as t) (hb : QSs X Wx bs u) : QS X Wx (.If c as bs pos) (dIfS dt t u) := by
  obtain ⟨tc, pc, sc⟩ := hc.ex
  obtain ⟨ta, pa, sa⟩ := ha.ex
  obtain ⟨tb, pb, sb⟩ := hb.ex
  refine ⟨_, ps_if pc pa pb, fun σ H env L D' D st h ok => ?_⟩
  refine sc σ H env L _ _ _ st h (fun b L1 H1 h1 g1 j1 => ?_) ok.ex
  cases b with
  | true => exact iteT (sa σ H1 env L1 D' D (st.go g1 j1) h1 (ok.go g1))
  | false => exact iteF (sb σ H1 env L1 D' D (st.go g1 j1) h1 (ok.go g1))
theorem s_pass : QS X Wx (.Pass pos) dNext := ⟨_, ps_pass, fun σ H env L D' D st h ok => ok.nx env L σ H h (Go.refl L H) st⟩
def dBrk : DS := fun D env L => D.bk env L
theorem s_brk : QS X Wx (.Break pos) dBrk := ⟨_, ps_break, fun σ H env L D' D st h ok => ok.bk env L σ H h (Go.refl L H) st⟩
def dCnt : DS := fun D env L => D.ct env L
theorem s_cnt : QS X Wx (.Continue pos) dCnt := ⟨_, ps_continue, fun σ H env L D' D st h ok => ok.ct env L σ H h (Go.refl L H) st⟩
/-! ### for -/
abbrev DI := DEnv → Led → (List D → Led → Prop) → DX → Prop
def ItD (K : PySem.W.Frag) (L : Led) (H : Hp) (J : It) (ds : List D) : Prop := ∀ L' H', Go L L' H H' → JL K L' H' → ∀ i, (∀ d, ds[i]? = some d → J.go i H' ∧ ∀ x H'', J.yld i H' x H'' → Same H' H'' ∧ Rp L' K H'' x d) ∧ (ds.length ≤ i → J.stop i H')
structure QI (X : Cx) (Wx : WX) (tg iter : Expr) (di : DI) : Prop where
  ex : ∃ wi, PI X tg iter wi ∧ ∀ σ H env L k x R, StL X.K σ H env L → di env L k x → (∀ ds L' J H', k ds L' → Go L L' H H' → JL X.K L' H' → ItD X.K L' H' J ds → R J H') → XOk X.K Wx L H x → wi σ H R
@[irreducible] def forD (dg : DG) (db : DS) (En : DEnds) : List D → DEnv → Led → Prop
  | [], env, L => En.nx env L
  | d :: ds, env, L => dg d env L fun env1 => db { En with nx := forD dg db En ds, ct := forD dg db En ds, bk := En.nx } env1 L
theorem forD_nil {dg : DG} {db : DS} {En : DEnds} {env : DEnv} {L : Led} : forD dg db En [] env L = En.nx env L := by with_unfolding_all rfl
theorem forD_cons {dg : DG} {db : DS} {En : DEnds} {d : D} {ds : List D} {env : DEnv} {L : Led} : forD dg db En (d :: ds) env L = dg d env L fun env1 => db { En with nx := forD dg db En ds, ct := forD dg db En ds, bk := En.nx } env1 L := by with_unfolding_all rfl
def dFor (di : DI) (dg : DG) (db : DS) : DS := fun D env L => di env L (fun ds L1 => forD dg db D ds env L1) D.ex
theorem s_for {tg iter : Expr} {body : List Stmt} {di : DI} {dg : DG} {db : DS} {sl : List Nat} (hp : PassesOwn (model X.prog X.w) X.A X.env X.xe) (hc : X.calm = true) (hi : QI X Wx tg iter di) (hg : QG X tg sl dg) (hb : QSs X Wx body db)
    (hs : ∀ x, foldedSetIterable iter X.env x = pure x := by intro _; rfl) : QS X Wx (.For tg iter body [] pos) (dFor di dg db) := by
  obtain ⟨wi, pi, si⟩ := hi.ex
  obtain ⟨g, pg, sg⟩ := hg.ex
  obtain ⟨tb, pb, sb⟩ := hb.ex
  refine ⟨_, ps_for hp hc pi pg pb hs, fun σ H env L D' D st h ok => ?_⟩
  refine si σ H env L _ _ _ st h (fun ds L1 J H1 h1 g1 j1 it => ?_) ok.ex
  refine ⟨fun i m σ' H' => m = ds.length - i ∧ i ≤ ds.length ∧ ∃ env' L', StL X.K σ' H' env' L' ∧ Go L1 L' H1 H' ∧ forD dg db D' (ds.drop i) env' L', ⟨ds.length, by omega, by omega, env, L1, st.go g1 j1, Go.refl L1 H1, h1⟩, ?_⟩
  rintro i m σ2 H2 ⟨rfl, hi, env2, L2, st2, g2, h2⟩
  obtain ⟨i1, i2⟩ := it L2 H2 g2 st2.2 i
  by_cases hlt : i < ds.length
  · have e : ds[i]? = some ds[i] := List.getElem?_eq_getElem hlt
    obtain ⟨go, yl⟩ := i1 _ e
    rw [List.drop_eq_getElem_cons hlt, forD_cons] at h2
    refine .inr ⟨go, fun σ' H' => ∃ env' L', StL X.K σ' H' env' L' ∧ Go L1 L' H1 H' ∧ forD dg db D' (ds.drop (i + 1)) env' L', fun σ' H' n => ⟨ds.length - (i + 1), by omega, rfl, hlt, n⟩, fun x H' y => ?_⟩
    obtain ⟨s, rx⟩ := yl x H' y
    have g3 : Go L2 L2 H2 H' := Go.same s
    refine sg x _ σ2 H' env2 L2 _ _ (st2.go g3 (st2.2.same s)) rx h2 fun σ3 env3 h3 st3 _ => ?_
    have g4 : Go L1 L2 H1 H' := g2.trans g3
    refine sb σ3 H' env3 L2 _ _ st3 h3 ⟨fun env' L' σ' H'' q g' st' => ⟨env', L', st', g4.trans g', q⟩, (ok.go (g1.trans g4)).rt, (ok.go (g1.trans g4)).ex, (ok.go (g1.trans g4)).nx, fun env' L' σ' H'' q g' st' => ⟨env', L', st', g4.trans g', q⟩⟩
  · have e : i = ds.length := by omega
    subst e
    rw [List.drop_length, forD_nil] at h2
    exact .inl ⟨i2 (Nat.le_refl _), ok.nx env2 L2 σ2 H2 h2 (g1.trans g2) st2⟩
/-- for x in range(n), range(a, b) -/
def rngD (lo : Int) : Nat → List D
  | 0 => []
  | n + 1 => .int lo :: rngD (lo + 1) n
theorem rngD_len : ∀ (n : Nat) (lo : Int), (rngD lo n).length = n
  | 0, _ => rfl
  | n + 1, lo => by show (rngD (lo + 1) n).length + 1 = n + 1; rw [rngD_len n]
theorem rngD_get : ∀ (n : Nat) (lo : Int) (i : Nat) (d : D), (rngD lo n)[i]? = some d → i < n ∧ d = .int (lo + i)
  | 0, _, _, _, h => by simp [rngD] at h
  | n + 1, lo, 0, d, h => by
    simp [rngD] at h
    exact ⟨by omega, by rw [← h]; simp⟩
  | n + 1, lo, i + 1, d, h => by
    obtain ⟨h1, h2⟩ := rngD_get n (lo + 1) i d (by simpa [rngD] using h)
    refine ⟨by omega, ?_⟩
    rw [h2]
    congr 1
    omega
theorem it_rng {K : PySem.W.Frag} {L : Led} {H : Hp} {lo : Int} {n : Nat} : ItD K L H (Itr lo n) (rngD lo n) := fun L' H' g j i => by
  refine ⟨fun d hd => ?_, fun h => ?_⟩
  · obtain ⟨h1, h2⟩ := rngD_get n lo i d hd
    subst h2
    exact ⟨h1, fun x H'' y => by
      obtain ⟨e1, e2⟩ := y
      subst e1 e2
      exact ⟨Same.refl _, .int _⟩⟩
  · rw [rngD_len] at h
    exact h
def diRange (dl : DA) : DI := fun env L k x => dl env L (fun ds L1 => match ds with
  | [.int n] => (-(2 ^ 62) ≤ n ∧ n < 2 ^ 62) ∧ k (rngD 0 n.toNat) L1
  | _ => False) x
theorem i_range1 {tg : Expr} {p : Pos} (hg : Gl X "range") (hm : X.mg "range" = none) (ha : QA X Wx [e] dl) (hs : starEach [e] X.env = [(false, eval e X.env)] := by rfl) : QI X Wx tg (.Call (.Name "range" p) [e] [] pos) (diRange dl) := by
  obtain ⟨ta, pa, sa⟩ := ha.ex
  refine ⟨_, pi_range1 hg hm pa hs, fun σ H env L k x R st h hk hx => ?_⟩
  refine sa σ H env L _ _ _ st h (fun ds L1 vs H1 h1 g1 j1 r1 => ?_) hx
  split at h1
  · rename_i n
    obtain ⟨⟨q1, q2⟩, h1⟩ := h1
    cases r1 with
    | cons r1 r2 =>
      cases r2
      cases r1
      exact ⟨n, rfl, q1, q2, hk _ L1 _ H1 h1 g1 j1 it_rng⟩
  · exact h1.elim
def diRange2 (dl : DA) : DI := fun env L k x => dl env L (fun ds L1 => match ds with
  | [.int a, .int b] => (-(2 ^ 62) ≤ a ∧ a < 2 ^ 62 ∧ -(2 ^ 62) ≤ b ∧ b < 2 ^ 62) ∧ k (rngD a (b - a).toNat) L1
  | _ => False) x
theorem i_range2 {tg e2 : Expr} {p : Pos} (hg : Gl X "range") (hm : X.mg "range" = none) (ha : QA X Wx [e, e2] dl) (hs : starEach [e, e2] X.env = [(false, eval e X.env), (false, eval e2 X.env)] := by rfl) (hs2 : starEach [e2] X.env = [(false, eval e2 X.env)] := by rfl) : QI X Wx tg (.Call (.Name "range" p) [e, e2] [] pos) (diRange2 dl) := by
  obtain ⟨ta, pa, sa⟩ := ha.ex
  refine ⟨_, pi_range2 hg hm pa hs hs2, fun σ H env L k x R st h hk hx => ?_⟩
  refine sa σ H env L _ _ _ st h (fun ds L1 vs H1 h1 g1 j1 r1 => ?_) hx
  split at h1
  · rename_i a b
    obtain ⟨q1, h1⟩ := h1
    cases r1 with
    | cons r1 r2 =>
      cases r2 with
      | cons r2 r3 =>
      cases r3
      cases r1
      cases r2
      exact ⟨a, b, rfl, q1, hk _ L1 _ H1 h1 g1 j1 it_rng⟩
  · exact h1.elim
/-- over a list or a tuple that stands -/
def diSeq (da : DE) : DI := fun env L k x => da env L (fun d L1 => match d with
  | .lst ds => k ds L1
  | .tup ds => k ds L1
  | .ro ds => k ds L1
  | _ => False) x
theorem it_list {K : PySem.W.Frag} {L : Led} {H : Hp} {a : Addr} {vs : List V} {ds : List D} (h : SqL' L K H a vs) (r : RpAll L K H vs ds) : ItD K L H (Itl K a) ds := fun L' H' g j i => by
  have h' := (g.sqL h).sq
  have r' := r.go g
  refine ⟨fun d hd => ?_, fun hi => ⟨vs, h', by rw [r.length]; exact hi⟩⟩
  obtain ⟨v, hv, rv⟩ := r'.get hd
  exact ⟨⟨vs, v, h', hv⟩, fun x H'' y => by
    obtain ⟨e1, e2⟩ := y
    subst e1
    have e3 := e2 vs h'
    rw [hv] at e3
    cases e3
    exact ⟨Same.refl _, rv⟩⟩
theorem it_tup {K : PySem.W.Frag} {L : Led} {H : Hp} {a : Addr} {vs : List V} {ds : List D} (h : SqT' L K H a vs) (r : RpAll L K H vs ds) : ItD K L H (Itt K a) ds := fun L' H' g j i => by
  have h' := (g.sqT h).sq
  have r' := r.go g
  refine ⟨fun d hd => ?_, fun hi => ⟨vs, h', by rw [r.length]; exact hi⟩⟩
  obtain ⟨v, hv, rv⟩ := r'.get hd
  exact ⟨⟨vs, v, h', hv⟩, fun x H'' y => by
    obtain ⟨e1, e2⟩ := y
    subst e1
    have e3 := e2 vs h'
    rw [hv] at e3
    cases e3
    exact ⟨Same.refl _, rv⟩⟩
def diL (da : DE) : DI := fun env L k x => da env L (fun d L1 => match d with
  | .lst ds => k ds L1
  | .ro ds => k ds L1
  | _ => False) x
def diT (da : DE) : DI := fun env L k x => da env L (fun d L1 => match d with
  | .tup ds => k ds L1
  | _ => False) x
theorem i_list {tg : Expr} (ha : QE X Wx e da) : QI X Wx tg e (diL da) := by
  obtain ⟨ta, pa, sa⟩ := ha.ex
  refine ⟨_, pi_list pa, fun σ H env L k x R st h hk hx => ?_⟩
  refine sa σ H env L _ _ _ st h (fun d L1 v H1 h1 g1 j1 r1 => ?_) hx
  cases r1 <;> first | exact h1.elim | skip
  · rename_i n s r
    exact ⟨_, rfl, ⟨_, SqL.of s⟩, hk _ L1 _ H1 h1 g1 j1 (it_list (.inl ⟨n, .inl s⟩) r)⟩
  · rename_i s r
    exact ⟨_, rfl, ⟨_, s.sq⟩, hk _ L1 _ H1 h1 g1 j1 (it_list s r)⟩
theorem i_tup {tg : Expr} (ha : QE X Wx e da) : QI X Wx tg e (diT da) := by
  obtain ⟨ta, pa, sa⟩ := ha.ex
  refine ⟨_, pi_tup pa, fun σ H env L k x R st h hk hx => ?_⟩
  refine sa σ H env L _ _ _ st h (fun d L1 v H1 h1 g1 j1 r1 => ?_) hx
  cases r1 <;> first | exact h1.elim | skip
  rename_i s r
  exact ⟨_, rfl, ⟨_, s.sq⟩, hk _ L1 _ H1 h1 g1 j1 (it_tup s r)⟩
/-! ### while -/
@[irreducible] def whD (dt : DT) (db : DS) (En : DEnds) : Nat → DEnv → Led → Prop
  | 0, _, _ => False
  | n + 1, env, L => dt env L (fun b L1 => match b with
    | true => db { En with nx := whD dt db En n, ct := whD dt db En n, bk := En.nx } env L1
    | false => En.nx env L1) En.ex
theorem whD_zero {dt : DT} {db : DS} {En : DEnds} {env : DEnv} {L : Led} : whD dt db En 0 env L = False := by with_unfolding_all rfl
theorem whD_succ {dt : DT} {db : DS} {En : DEnds} {n : Nat} {env : DEnv} {L : Led} : whD dt db En (n + 1) env L = dt env L (fun b L1 => match b with
    | true => db { En with nx := whD dt db En n, ct := whD dt db En n, bk := En.nx } env L1
    | false => En.nx env L1) En.ex := by with_unfolding_all rfl
def dWhile (dt : DT) (db : DS) : DS := fun En env L => ∃ n, whD dt db En n env L
theorem s_while {body : List Stmt} {db : DS} (hp : PassesOwn (model X.prog X.w) X.A X.env X.xe) (hc : QT X Wx c dt) (hb : QSs X Wx body db) : QS X Wx (.While c body [] pos) (dWhile dt db) := by
  obtain ⟨tc, pc, sc⟩ := hc.ex
  obtain ⟨tb, pb, sb⟩ := hb.ex
  refine ⟨_, ps_while hp pc pb, fun σ H env L D' D st h ok => ?_⟩
  obtain ⟨n, h⟩ := h
  refine ⟨fun m σ' H' => ∃ env' L', StL X.K σ' H' env' L' ∧ Go L L' H H' ∧ whD dt db D' m env' L', ⟨n, env, L, st, Go.refl L H, h⟩, ?_⟩
  rintro m σ2 H2 ⟨env2, L2, st2, g2, h2⟩
  cases m with
  | zero => rw [whD_zero] at h2; exact h2.elim
  | succ m =>
    rw [whD_succ] at h2
    refine sc σ2 H2 env2 L2 _ _ _ st2 h2 (fun b L3 H3 h3 g3 j3 => ?_) (ok.ex.go g2)
    have g4 := g2.trans g3
    cases b with
    | true =>
      refine iteT ⟨fun σ' H' => ∃ env' L', StL X.K σ' H' env' L' ∧ Go L L' H H' ∧ whD dt db D' m env' L', fun σ' H' q => ⟨m, Nat.lt_succ_self m, q⟩, ?_⟩
      exact sb σ2 H3 env2 L3 _ _ (st2.go g3 j3) h3 ⟨fun env' L' σ' H' q g' st' => ⟨env', L', st', g4.trans g', q⟩, (ok.go g4).rt, (ok.go g4).ex, (ok.go g4).nx, fun env' L' σ' H' q g' st' => ⟨env', L', st', g4.trans g', q⟩⟩
    | false => exact iteF (ok.nx env2 L3 σ2 H3 h3 g4 (st2.go g3 j3))
end
/-! ### a def by its body -/
section
open PySem.Spec PyProof.Rows
variable {P : Program} {w : World} {K : PySem.W.Frag} {mg : Str → Option Value} {base : Heap}
def endsD (k : DK) (x : Exn → Led → Prop) : DEnds := { nx := fun _ L => k .non L, rt := k, ex := fun n _ L => x n L, bk := fun _ _ => False, ct := fun _ _ => False }
def startD (N : List Str) (ds : List D) : DEnv := ds.map some ++ List.replicate (N.length - ds.length) none
abbrev wxOf (E : XK) : WX := fun cls d _ H => E cls d H
theorem fn_ok {x qual : Str} {st : Stmt} {f : Addr} {fd : FuncData} {N ps : List Str} {k : Nat} {g : DSp} (F : Fun K x qual st f fd) (S : FnScope N ps (defScope st)) (len : ∀ ds L k x, g ds L k x → ds.length = ps.length)
    (body : ∀ (cdv : Value) (A : Around) (outer : List Env) (s : Shared) (H : Hp) (E : XK), Room k (A.deeper (envOfC qual (defScope st) s.heap.objs.size f cdv)) →
      ∃ t, QSs (cxOf (L2.CX P w) P w K mg base N qual (defScope st) f cdv A outer s H E) (wxOf E) (defBody st) t ∧ ∀ ds L k x, g ds L k x → t (endsD k x) (startD N ds) L) : FnOk P w K mg base (L2.CX P w) (k + 1) f fd ps (spD K g) := by
  refine F.okX S (fun vs H Q E h => ?_) (fun cdv A outer s H vs Q E hr h => ?_)
  · obtain ⟨ds, L, k, x, j, r, h, _⟩ := h
    rw [r.length]
    exact len ds L k x h
  · obtain ⟨ds, L, k, x, j, r, h, hk, hx⟩ := h
    obtain ⟨t, q, ht⟩ := body cdv A outer s H E hr
    obtain ⟨ts, pts, sts⟩ := q.ex
    refine ⟨ts, pts, sts _ H (startD N ds) L (endsD k x) _ ⟨?_, j⟩ (ht ds L k x h) ?_⟩
    · unfold L2.start startD
      rw [r.length]
      exact Sto.start r
    · exact ⟨fun env' L' σ' H' q g' st' => hk .non L' .non H' q g' st'.2 .non, hk, fun n env' L' a H' σ' q g' st' r' => hx n L' a H' q g' st'.2 r', fun _ _ _ _ q => q.elim, fun _ _ _ _ q => q.elim⟩
end
end DL

namespace DL
open PySem L2
/-! ### the ledger changed -/
def setL (L : Led) (p : Addr) (d : D) : Led := L.map fun q => if q.1 = p then (p, d) else q
def remL (L : Led) (p : Addr) : Led := L.filter fun q => decide (q.1 ≠ p)
theorem setL_keys (L : Led) (p : Addr) (d : D) : (setL L p d).map (·.1) = L.map (·.1) := by
  unfold setL
  rw [List.map_map]
  refine List.map_congr_left fun q _ => ?_
  show (if q.1 = p then (p, d) else q).1 = q.1
  split
  · rename_i h; exact h.symm
  · rfl
theorem inL_setL {L : Led} {p a : Addr} {d : D} : inL (setL L p d) a ↔ inL L a := by unfold inL; rw [setL_keys]
theorem setL_out {L : Led} {p : Addr} {d : D} (h : ¬ inL L p) : setL L p d = L := by
  unfold setL
  have : ∀ q ∈ L, (if q.1 = p then (p, d) else q) = id q := fun q hq => by
    rw [if_neg fun e => h (List.mem_map.mpr ⟨q, hq, e⟩)]; rfl
  rw [List.map_congr_left this, List.map_id]
theorem setL_top {L : Led} {p : Addr} {c d : D} (h : ¬ inL L p) : setL ((p, c) :: L) p d = (p, d) :: L := by
  show (if p = p then (p, d) else (p, c)) :: setL L p d = _
  rw [if_pos rfl, setL_out h]
theorem setL_ne {L : Led} {p q : Addr} {c d : D} (h : q ≠ p) : setL ((q, c) :: L) p d = (q, c) :: setL L p d := by
  show (if q = p then (p, d) else (q, c)) :: setL L p d = _
  rw [if_neg h]
theorem remL_out {L : Led} {p : Addr} (h : ¬ inL L p) : remL L p = L := by
  unfold remL
  refine List.filter_eq_self.mpr fun q hq => decide_eq_true fun e => h (List.mem_map.mpr ⟨q, hq, e⟩)
theorem remL_top {L : Led} {p : Addr} {c : D} (h : ¬ inL L p) : remL ((p, c) :: L) p = L := by
  unfold remL
  rw [List.filter_cons, if_neg (by simp)]
  exact remL_out h
theorem inL_remL {L : Led} {p a : Addr} : inL (remL L p) a ↔ inL L a ∧ a ≠ p := by
  unfold inL remL
  constructor
  · intro h
    obtain ⟨q, hq, e⟩ := List.mem_map.mp h
    obtain ⟨h1, h2⟩ := List.mem_filter.mp hq
    subst e
    exact ⟨List.mem_map.mpr ⟨q, h1, rfl⟩, of_decide_eq_true h2⟩
  · rintro ⟨h, hn⟩
    obtain ⟨q, hq, e⟩ := List.mem_map.mp h
    subst e
    exact List.mem_map.mpr ⟨q, List.mem_filter.mpr ⟨hq, decide_eq_true hn⟩, rfl⟩
theorem lookup_top {L : Led} {p : Addr} {c : D} : List.lookup p ((p, c) :: L) = some c := List.lookup_cons_self
theorem lookup_ne {L : Led} {p q : Addr} {c : D} (h : p ≠ q) : List.lookup p ((q, c) :: L) = List.lookup p L := by
  have e : (p == q) = false := by simpa using h
  rw [List.lookup_cons, e]
theorem inL_of_lookup {L : Led} {p : Addr} {c : D} (h : L.lookup p = some c) : inL L p := List.mem_map.mpr ⟨_, mem_of_lookup h, rfl⟩
theorem inL_cons {L : Led} {p a : Addr} {c : D} : inL ((p, c) :: L) a ↔ a = p ∨ inL L a := by unfold inL; simp
section
variable {L L' : Led} {K : PySem.W.Frag} {H H' : Hp} {a p : Addr} {d : D} {o : HO}
theorem go_set (h : inL L p) : Go L (setL L p d) H (upd H p o) := fun a u n e => by
  have ne : a ≠ p := fun z => n (z ▸ h)
  exact ⟨fun m => n (inL_setL.mp m), by rw [upd_ne ne]; exact e⟩
theorem JL.put (j : JL K L H) (h : inL L p) (ow : Own (setL L p d) K (upd H p o) p d) : JL K (setL L p d) (upd H p o) := by
  refine ⟨by rw [setL_keys]; exact j.nd, fun a e m => ?_⟩
  obtain ⟨q, hq, eq⟩ := List.mem_map.mp m
  by_cases hp : q.1 = p
  · rw [if_pos hp] at eq
    cases eq
    exact ow
  · rw [if_neg hp] at eq
    subst eq
    exact Own.move (j.own _ _ hq) (go_set h) fun u e => by rw [upd_ne hp]; exact e
theorem go_rem : Go L (remL L p) H H := fun a u n e => ⟨fun m => n (inL_remL.mp m).1, e⟩
theorem JL.rem (j : JL K L H) : JL K (remL L p) H := by
  refine ⟨?_, fun a e m => ?_⟩
  · have : ((remL L p).map (·.1)).Sublist (L.map (·.1)) := (List.filter_sublist).map _
    exact j.nd.sublist this
  · exact Own.move (j.own _ _ (List.mem_filter.mp m).1) go_rem fun u e => e
end
section
variable {X : Cx} {Wx : WX} {a b c e o : Expr} {es rest : List Expr} {da db dc de do' di : DE} {dt du : DT} {dl dk : DA} {pos : Pos}
/-! ### weaker readings -/
theorem QE.w (h : QE X Wx e de) {de' : DE} (hw : ∀ env L k x, de' env L k x → de env L k x) : QE X Wx e de' := by
  obtain ⟨te, pe, se⟩ := h.ex
  exact ⟨te, pe, fun σ H env L k x Q st h hk hx => se σ H env L k x Q st (hw env L k x h) hk hx⟩
/-- the reading by data, as a reading of the layer -/
def teOf (K : PySem.W.Frag) (Wx : WX) (de : DE) : TE := fun σ H Q => ∃ env L k x, StL K σ H env L ∧ de env L k x ∧ KOk K L H k Q ∧ XOk K Wx L H x
theorem QE.pe (h : QE X Wx e de) : PE X e (teOf X.K Wx de) := by
  obtain ⟨te, pe, se⟩ := h.ex
  refine ⟨fun pins s σ H Q I hw => ?_⟩
  obtain ⟨env, L, k, x, st, h, hk, hx⟩ := hw
  exact pe.run pins s σ H Q I (se σ H env L k x Q st h hk hx)
def ttOf (K : PySem.W.Frag) (Wx : WX) (dt : DT) : TT := fun σ H Q => ∃ env L k x, StL K σ H env L ∧ dt env L k x ∧ (∀ b L' H', k b L' → Go L L' H H' → JL K L' H' → Q b H') ∧ XOk K Wx L H x
theorem QT.pt (h : QT X Wx e dt) : PT X e (ttOf X.K Wx dt) := by
  obtain ⟨te, pe, se⟩ := h.ex
  refine ⟨fun pins s σ H Q I hw => ?_⟩
  obtain ⟨env, L, k, x, st, h, hk, hx⟩ := hw
  exact pe.run pins s σ H Q I (se σ H env L k x Q st h hk hx)
def tgOf (K : PySem.W.Frag) (sl : List Nat) (dg : DG) : TG := fun v σ H Q => ∃ d env L k, StL K σ H env L ∧ Rp L K H v d ∧ dg d env L k ∧ ∀ σ' env', k env' → StL K σ' H env' L → Only' sl σ σ' → Q σ' H
theorem QG.pg {tg : Expr} {sl : List Nat} {dg : DG} (h : QG X tg sl dg) : PG X tg (tgOf X.K sl dg) := by
  obtain ⟨g, pg, sg⟩ := h.ex
  refine ⟨fun pins s σ H v u Q I r hw => ?_⟩
  obtain ⟨d, env, L, k, st, rd, h, hk⟩ := hw
  exact pg.run pins s σ H v u Q I r (sg v d σ H env L k Q st rd h hk)
/-! ### o[i] = v of a list of the ledger -/
def dStore (de do' di : DE) : DS := fun D env L => de env L (fun v L1 => do' env L1 (fun o L2 => di env L2 (fun i L3 => match o, i with
  | .ptr p, .int z => match L3.lookup p with
    | some (.lst ds) => match ixN ds.length z with
      | some j => D.nx env (setL L3 p (.lst (ds.set j v)))
      | none => False
    | _ => False
  | _, _ => False) D.ex) D.ex) D.ex
theorem s_store {i : Expr} {ip : Pos} (he : QE X Wx e de) (ho : QE X Wx o do') (hi : QE X Wx i di) (hix : ∀ h0 : PE X o (teOf X.K Wx do'), ∀ h1 : PE X i (teOf X.K Wx di), PG X (.Subscript o i ip) (L2.gSub (teOf X.K Wx do') (teOf X.K Wx di) rSetL) := by exact fun h0 h1 => pg_sub h0 h1 set_list)
    (hs : swapsWithSole [.Subscript o i ip] e pos.line X.env = pure false := by rfl) (hw : swappedStores [.Subscript o i ip] e X.env = pure none := by rfl) (h1 : (assignEach [.Subscript o i ip] X.env).map (·.2) = [assign (.Subscript o i ip) X.env] := by rfl) : QS X Wx (.Assign [.Subscript o i ip] e pos) (dStore de do' di) := by
  obtain ⟨te, pe, se⟩ := he.ex
  refine ⟨_, ps_asg pe (hix ho.pe hi.pe) hs hw h1, fun σ H env L D' D st h ok => ?_⟩
  refine se σ H env L _ _ _ st h (fun v L1 vv H1 h1 g1 j1 r1 => ?_) ok.ex
  refine ⟨env, L1, _, D'.ex, st.go g1 j1, h1, fun o L2 vo H2 h2 g2 j2 r2 => ?_, ok.ex.go g1⟩
  refine ⟨env, L2, _, D'.ex, (st.go g1 j1).go g2 j2, h2, fun i L3 vi H3 h3 g3 j3 r3 => ?_, (ok.ex.go g1).go g2⟩
  have r2 := r2.go g3
  have r1 := (r1.go g2).go g3
  dsimp only at h3 ⊢
  split at h3
  · cases r2 with
    | ptr p =>
    cases r3 with
    | int z =>
    split at h3
    · rename_i ds hl
      split at h3
      · rename_i j hj
        obtain ⟨vs, e1, rv⟩ := j3.look hl
        have hp := inL_of_lookup hl
        refine ⟨_, vs, _, j, rfl, rfl, e1, by rw [rv.length]; exact hj, ?_⟩
        have g4 : Go L3 (setL L3 _ (.lst (ds.set j v))) H3 (upd H3 _ (.lst (vs.set j vv))) := go_set hp
        have j4 : JL X.K (setL L3 _ (.lst (ds.set j v))) (upd H3 _ (.lst (vs.set j vv))) := j3.put hp ⟨_, upd_same, (rv.go g4).set (r1.go g4) j⟩
        exact ok.nx env _ σ _ h3 (((g1.trans g2).trans g3).trans g4) (st.go (((g1.trans g2).trans g3).trans g4) j4)
      · exact h3.elim
    · exact h3.elim
  · exact h3.elim
end
end DL

namespace DL
open PySem L2
section
variable {X : Cx} {Wx : WX} {a b c e o : Expr} {es rest : List Expr} {da db dc de do' di : DE} {dt du : DT} {dl dk : DA} {pos : Pos}
/-! ### len, abs, int, str, list, all, any, gcd, max, min -/
def lenD (L : Led) (d : D) : Option Nat := match seqs (con L d) with
  | some ds => some ds.length
  | none => none
def gLen : GC := fun ds L k => match ds with
  | [.str z] => z.length ≤ sizeLine ∧ k (.int z.length)
  | [d] => match lenD L d with
    | some n => k (.int n)
    | none => False
  | _ => False
theorem cq_len : CQ X (.builtin "len") gLen := ⟨_, call_len, fun H L vs ds k Q j r h hk => by
  unfold gLen at h
  split at h
  · cases r with
    | cons r1 r2 =>
      cases r2
      cases r1
      exact ⟨_, _, rfl, ⟨h.1, rfl⟩, hk _ _ H h.2 (Same.refl H) (.int _)⟩
  · rename_i d _
    cases r with
    | cons r1 r2 =>
      cases r2
      split at h
      · rename_i n hn
        unfold lenD at hn
        split at hn
        · rename_i ds' hd
          cases hn
          obtain ⟨a, vs, rfl, hs, rv⟩ := con_seq j r1 hd
          refine ⟨_, ds'.length, rfl, ?_, hk _ _ H h (Same.refl H) (.int _)⟩
          rcases hs with hs | hs
          · exact .inl ⟨vs, hs, rv.length.symm⟩
          · exact .inr ⟨vs, hs, rv.length.symm⟩
        · cases hn
      · exact h.elim
  · exact h.elim⟩
def gAbs : GC := fun ds _ k => match ds with
  | [.int i] => k (.int (if i < 0 then -i else i))
  | _ => False
theorem cq_abs : CQ X (.builtin "abs") gAbs := ⟨_, call_abs, fun H L vs ds k Q j r h hk => by
  unfold gAbs at h
  split at h
  · cases r with
    | cons r1 r2 =>
      cases r2
      cases r1
      exact ⟨_, rfl, hk _ _ H h (Same.refl H) (.int _)⟩
  · exact h.elim⟩
def gInt : GC := fun ds _ k => match ds with
  | [.int i] => k (.int i)
  | [.bl b] => k (.int (if b then 1 else 0))
  | _ => False
theorem cq_int : CQ X (.type "int") gInt := ⟨_, call_int1, fun H L vs ds k Q j r h hk => by
  unfold gInt at h
  split at h
  · cases r with
    | cons r1 r2 =>
      cases r2
      cases r1
      exact .inl ⟨_, rfl, hk _ _ H h (Same.refl H) (.int _)⟩
  · cases r with
    | cons r1 r2 =>
      cases r2
      cases r1
      exact .inr ⟨_, rfl, hk _ _ H h (Same.refl H) (.int _)⟩
  · exact h.elim⟩
def gStr : GC := fun ds _ k => match ds with
  | [.int i] => i.natAbs.log2 < 1920 ∧ k (.str (toString i))
  | _ => False
theorem cq_str : CQ X (.type "str") gStr := ⟨_, call_str_int, fun H L vs ds k Q j r h hk => by
  unfold gStr at h
  split at h
  · cases r with
    | cons r1 r2 =>
      cases r2
      cases r1
      exact ⟨_, rfl, h.1, hk _ _ H h.2 (Same.refl H) (.str _)⟩
  · exact h.elim⟩
def gList : GC := fun ds L k => match ds with
  | [d] => match seqs (con L d) with
    | some xs => k (.lst xs)
    | none => False
  | _ => False
theorem cq_list : CQ X (.type "list") gList := ⟨_, call_list_of, fun H L vs ds k Q j r h hk => by
  unfold gList at h
  split at h
  · cases r with
    | cons r1 r2 =>
      cases r2
      split at h
      · rename_i xs hd
        obtain ⟨a, vs, rfl, hs, rv⟩ := con_seq j r1 hd
        refine ⟨a, vs, rfl, hs, fun l hl => ?_⟩
        have s := same_new hl (.lst vs)
        exact hk _ _ _ h s (.lst (j.notIn hl) upd_same (rv.go (Go.same s)))
      · exact h.elim
  · exact h.elim⟩
def gGcd : GC := fun ds _ k => match ds with
  | [.int a, .int b] => k (.int ((Nat.gcd a.natAbs b.natAbs : Nat) : Int))
  | _ => False
theorem cq_gcd : CQ X (.builtin "math.gcd") gGcd := ⟨_, cr_gcd, fun H L vs ds k Q j r h hk => by
  unfold gGcd at h
  split at h
  · cases r with
    | cons r1 r2 => cases r2 with
      | cons r2 r3 =>
      cases r3
      cases r1
      cases r2
      exact ⟨_, _, rfl, hk _ _ H h (Same.refl H) (.int _)⟩
  · exact h.elim⟩
def gMax2 : GC := fun ds _ k => match ds with
  | [.int i, .int j] => k (.int (if j > i then j else i))
  | _ => False
theorem cq_max2 (hc : X.calm = true) : CQ X (.builtin "max") gMax2 := ⟨_, call_max2 hc, fun H L vs ds k Q j r h hk => by
  unfold gMax2 at h
  split at h
  · cases r with
    | cons r1 r2 => cases r2 with
      | cons r2 r3 =>
      cases r3
      cases r1
      cases r2
      exact ⟨_, _, rfl, hk _ _ H h (Same.refl H) (.int _)⟩
  · exact h.elim⟩
def blsOf : List D → Option (List Bool)
  | [] => some []
  | .bl b :: r => match blsOf r with
    | some bs => some (b :: bs)
    | none => none
  | _ => none
theorem blsOf_eq : ∀ {ds : List D} {bs : List Bool}, blsOf ds = some bs → ds = bs.map D.bl
  | [], bs, h => by cases h; rfl
  | d :: r, bs, h => by
    cases d <;> first | (cases h; done) | skip
    unfold blsOf at h
    split at h
    · rename_i bs' hb
      cases h
      rw [blsOf_eq hb]; rfl
    · cases h
theorem blsOf_map : ∀ (bs : List Bool), blsOf (bs.map D.bl) = some bs
  | [] => rfl
  | b :: r => by show (match blsOf (r.map D.bl) with | some bs => some (b :: bs) | none => none) = _; rw [blsOf_map r]
def gAll : GC := fun ds L k => match ds with
  | [d] => match con L d with
    | .lst xs => match blsOf xs with
      | some bs => k (.bl (bs.all id))
      | none => False
    | _ => False
  | _ => False
theorem cq_all (hc : X.calm = true) : CQ X (.builtin "all") gAll := ⟨_, cr_all hc, fun H L vs ds k Q j r h hk => by
  unfold gAll at h
  split at h
  · cases r with
    | cons r1 r2 =>
      cases r2
      split at h
      · rename_i xs hd
        split at h
        · rename_i bs hb
          obtain ⟨a, vs, rfl, hs, rv⟩ := con_lst j r1 hd
          rw [blsOf_eq hb] at rv
          have e := rv.ofBls
          subst e
          exact ⟨a, bs, rfl, SqL.of hs, hk _ _ H h (Same.refl H) (.bl _)⟩
        · exact h.elim
      · exact h.elim
  · exact h.elim⟩
/-! ### isinstance -/
inductive Ty where
  | non | bl | int | str | lst | tup | dct
  deriving DecidableEq
def Ty.nm : Ty → String
  | .non => "NoneType" | .bl => "bool" | .int => "int" | .str => "str" | .lst => "list" | .tup => "tuple" | .dct => "dict"
def tyD : D → Option Ty
  | .non => some .non
  | .bl _ => some .bl
  | .int _ => some .int
  | .str _ => some .str
  | .lst _ => some .lst
  | .ro _ => some .lst
  | .tup _ => some .tup
  | .dk _ _ => some .dct
  | .dt _ _ => some .dct
  | _ => none
def isTy : Ty → Ty → Bool
  | .bl, .int => true
  | .bl, .bl => true
  | .int, .int => true
  | .str, .str => true
  | .lst, .lst => true
  | .tup, .tup => true
  | .dct, .dct => true
  | .non, .non => true
  | _, _ => false
theorem kit_isTy (t c : Ty) (h : c ≠ .non) : kitB t.nm c.nm = some (isTy t c) := by
  cases t <;> cases c <;> first | exact absurd rfl h | decide +kernel
theorem ty_of {L : Led} {K : PySem.W.Frag} {H : Hp} {v : V} {d : D} {t : Ty} (r : Rp L K H v d) (h : tyD d = some t) : TyX K H v (.type t.nm) := by
  cases r <;> first | (cases h; done) | skip
  all_goals cases h
  · exact .base .non
  · exact .base (.bl _)
  · exact .base (.int _)
  · exact .base (.str _)
  · rename_i n e r
    exact .base (.lst e)
  · rename_i s r
    rcases s with ⟨_, s | ⟨o, s⟩⟩ | ⟨o, its, n, h1, h2, _⟩
    · exact .base (.lst s)
    · exact .base (.frz s)
    · exact .kList h1 h2
  · rename_i s r
    rcases s with ⟨_, s | ⟨o, s⟩⟩ | ⟨o, its, n, h1, h2, _⟩
    · exact .base (.tup s)
    · exact .fTuple s
    · exact .kTuple h1 h2
  · rename_i n s _ _
    rcases s with s | ⟨o, s⟩
    · exact .base (.dK s)
    · exact .fDict s
  · rename_i n s _ _
    exact .base (.dT s)
end
end DL

namespace DL
open PySem L2
section
variable {X : Cx} {Wx : WX} {a b c e o : Expr} {es rest : List Expr} {da db dc de do' di : DE} {dt du : DT} {dl dk : DA} {pos : Pos}
/-- isinstance(x, T) -/
def gIsi (c : Ty) : G1 := fun a L k => match tyD (con L a) with
  | some t => k (.bl (isTy t c))
  | none => False
def gIsi2 (c c' : Ty) : G1 := fun a L k => match tyD (con L a) with
  | some t => k (.bl (isTy t c || isTy t c'))
  | none => False
theorem tyX_con {L : Led} {K : PySem.W.Frag} {H : Hp} {v : V} {d : D} {t : Ty} (j : JL K L H) (r : Rp L K H v d) (h : tyD (con L d) = some t) : TyX K H v (.type t.nm) := by
  cases d with
  | ptr a =>
    cases r
    have h : tyD ((L.lookup a).getD (.ptr a)) = some t := h
    cases q : L.lookup a with
    | none => rw [q] at h; cases h
    | some c =>
      rw [q] at h
      have h : tyD c = some t := h
      have ow := j.look q
      cases c with
      | lst ds => cases h; obtain ⟨vs, e, _⟩ := ow; exact .base (.lst e)
      | dk ks ds => cases h; obtain ⟨vs, e, _⟩ := ow; exact .base (.dK e)
      | dt ks ds => cases h; obtain ⟨vs, e, _⟩ := ow; exact .base (.dT e)
      | _ => first | exact ow.elim | cases h
  | _ => exact ty_of r h
def gcIsi (c : Ty) : GC := fun ds L k => match ds with
  | [d, .ty n] => n = c.nm ∧ gIsi c d L k
  | _ => False
theorem cq_isi {c : Ty} (hc : c ≠ .non) : CQ X (.builtin "isinstance") (gcIsi c) := ⟨_, call_isi, fun H L vs ds k Q j r h hk => by
  unfold gcIsi at h
  split at h
  · rename_i d n
    obtain ⟨rfl, h⟩ := h
    unfold gIsi at h
    split at h
    · rename_i t ht
      cases r with
      | cons r1 r2 => cases r2 with
        | cons r2 r3 =>
        cases r3
        cases r2
        exact ⟨_, _, _, _, _, rfl, .ty _, tyX_con j r1 ht, kit_ty (kit_isTy t c hc), hk _ _ H h (Same.refl H) (.bl _)⟩
    · exact h.elim
  · exact h.elim⟩
theorem q_isi {p p2 : Pos} {T : Str} (c : Ty) (ha : QE X Wx e da) (hg : Gl X "isinstance") (hm : X.mg "isinstance" = none) (hgT : Gl X T) (hmT : X.mg T = none) (hv : bootBuiltins T = some (.type c.nm)) (hc : c ≠ .non := by decide)
    (hn : T ≠ "__name__" := by decide) (hd : (T == ("__debug__" : Str)) = false := by decide) (hs : starEach (e :: [.Name T p2]) X.env = (false, eval e X.env) :: starEach [.Name T p2] X.env := by rfl) (hv0 : bootBuiltins "isinstance" = some (.builtin "isinstance") := by decide +kernel) :
    QE X Wx (.Call (.Name "isinstance" p) [e, .Name T p2] [] pos) (dUn (gIsi c) da) := by
  refine (q_callB (g := gcIsi c) (cq_isi hc) hg hm hv0 (a_cons ha (a_cons (q_bltn (v := .ty c.nm) (d := .ty c.nm) hgT hmT hv rfl (fun _ _ => .ty _) hn hd) a_nil (by rfl)) hs) (by decide) (by decide) hs (by rfl)).w ?_
  intro env L k x h
  exact (show dCB (gcIsi c) (dCons da (dCons (dC (.ty c.nm)) dNil)) env L k x from by
    unfold dCB dCons dC dNil
    unfold dUn at h
    refine cast ?_ h
    congr 1
    funext a L1
    show _ = (c.nm = c.nm ∧ _)
    simp)
/-- isinstance(x, (T, T')): the tuple is made on the spot -/
theorem q_isi2 {p p2 p3 p4 : Pos} {kk : Nat} {T T' : Str} (c c' : Ty) (ha : QE X Wx e da) (hg : Gl X "isinstance") (hm : X.mg "isinstance" = none) (hgT : Gl X T) (hmT : X.mg T = none) (hv : bootBuiltins T = some (.type c.nm)) (hgT' : Gl X T') (hmT' : X.mg T' = none) (hv' : bootBuiltins T' = some (.type c'.nm)) (hc : c ≠ .non := by decide) (hc' : c' ≠ .non := by decide)
    (hn : T ≠ "__name__" := by decide) (hd : (T == ("__debug__" : Str)) = false := by decide) (hn' : T' ≠ "__name__" := by decide) (hd' : (T' == ("__debug__" : Str)) = false := by decide) (hs : starEach (e :: [.Tuple [.Name T p2, .Name T' p3] kk p4]) X.env = (false, eval e X.env) :: starEach [.Tuple [.Name T p2, .Name T' p3] kk p4] X.env := by rfl) (hv0 : bootBuiltins "isinstance" = some (.builtin "isinstance") := by decide +kernel) :
    QE X Wx (.Call (.Name "isinstance" p) [e, .Tuple [.Name T p2, .Name T' p3] kk p4] [] pos) (dUn (gIsi2 c c') da) := by
  obtain ⟨ta, pa, sa⟩ := ha.ex
  refine ⟨_, pe_callB call_isiT hg hm hv0 (pa_cons pa (pa_cons (pe_tup (pa_cons (pe_bltn (v := .ty c.nm) hgT hmT hv rfl hn hd) (pa_cons (pe_bltn (v := .ty c'.nm) hgT' hmT' hv' rfl hn' hd') pa_nil (by rfl)) (by rfl))) pa_nil (by rfl)) hs) (by decide) (by decide) hs (by rfl), fun σ H env L k x Q st h hk hx => ?_⟩
  refine sa σ H env L _ x _ st h (fun d L1 v H1 h1 g1 j1 r1 => ?_) hx
  refine ⟨show 2 ≤ sizeLine by decide, fun t ht => ?_⟩
  have s := same_new ht (.tup [.ty c.nm, .ty c'.nm])
  unfold gIsi2 at h1
  split at h1
  · rename_i ty hty
    refine ⟨v, t, _, _, [.type c.nm, .type c'.nm], (isTy ty c || isTy ty c'), rfl, upd_same, .cons (.ty _) (.cons (.ty _) .nil), tyX_con (j1.same s) (r1.go (Go.same s)) hty, ?_, hk _ L1 _ _ h1 (g1.trans (Go.same s)) (j1.same s) (.bl _)⟩
    refine kitAny_cons (kit_ty (kit_isTy ty c hc)) (fun h0 => ?_) (fun h0 => by rw [h0, Bool.true_or])
    rw [h0, Bool.false_or]
    exact kitAny_cons (r := isTy ty c') (kit_ty (kit_isTy ty c' hc')) (fun h1 => by rw [h1]; exact kitAny_nil) (fun h1 => h1)
  · exact h1.elim
/-! ### + -/
def gAdd : G2 := fun a b L k => match con L a, con L b with
  | .int i, .int j => k (.int (i + j))
  | .str x, .str y => x.length + y.length ≤ sizeLine ∧ k (.str (x ++ y))
  | .lst xs, .lst ys => xs.length + ys.length ≤ sizeLine ∧ k (.lst (xs ++ ys))
  | .tup xs, .tup ys => xs.length + ys.length ≤ sizeLine ∧ k (.tup (xs ++ ys))
  | _, _ => False
theorem con_flat {L : Led} {K : PySem.W.Frag} {H : Hp} {v : V} {d c : D} (j : JL K L H) (r : Rp L K H v d) (e : con L d = c) (hc : match c with | .int _ => True | .str _ => True | .bl _ => True | .non => True | _ => False) : d = c := by
  cases d with
  | ptr a =>
    have e : (L.lookup a).getD (.ptr a) = c := e
    cases q : L.lookup a with
    | none => rw [q] at e; subst e; exact hc.elim
    | some c' =>
      rw [q] at e
      have e : c' = c := e
      subst e
      have ow := j.look q
      cases c' <;> first | exact ow.elim | exact hc.elim
  | _ => exact e
theorem oq_addL : OQ X (binaryOp .Add) (fun a b L k => match con L a, con L b with
    | .lst xs, .lst ys => xs.length + ys.length ≤ sizeLine ∧ k (.lst (xs ++ ys))
    | _, _ => False) := ⟨_, op_cat, fun H L va vb a b k Q j ra rb h hk => by
  dsimp only at h
  split at h
  · rename_i xs ys ea eb
    obtain ⟨p, vs, rfl, hp, rv⟩ := con_lst j ra ea
    obtain ⟨q, ws, rfl, hq, rw'⟩ := con_lst j rb eb
    refine ⟨p, q, vs, ws, rfl, rfl, hp, hq, by rw [rv.length, rw'.length]; exact h.1, fun l hl => ?_⟩
    have s := same_new hl (.lst (vs ++ ws))
    exact hk _ _ _ h.2 s (.lst (j.notIn hl) upd_same ((rv.append rw').go (Go.same s)))
  · exact h.elim⟩
theorem oq_addT : OQ X (binaryOp .Add) (fun a b L k => match con L a, con L b with
    | .tup xs, .tup ys => xs.length + ys.length ≤ sizeLine ∧ k (.tup (xs ++ ys))
    | _, _ => False) := ⟨_, op_catA, fun H L va vb a b k Q j ra rb h hk => by
  dsimp only at h
  split at h
  · rename_i xs ys ea eb
    obtain ⟨p, vs, ep, hp, rv⟩ := con_tup j ra ea
    obtain ⟨q, ws, eq, hq, rw'⟩ := con_tup j rb eb
    have ea' : a = .tup xs := by
      cases a with
      | ptr z =>
        have e : (L.lookup z).getD (.ptr z) = _ := ea
        cases q : L.lookup z with
        | none => rw [q] at e; cases e
        | some c' => rw [q] at e; have e : c' = .tup xs := e; subst e; exact (j.look q).elim
      | _ => exact ea
    have eb' : b = .tup ys := by
      cases b with
      | ptr z =>
        have e : (L.lookup z).getD (.ptr z) = _ := eb
        cases q : L.lookup z with
        | none => rw [q] at e; cases e
        | some c' => rw [q] at e; have e : c' = .tup ys := e; subst e; exact (j.look q).elim
      | _ => exact eb
    subst ea' eb' ep eq
    refine ⟨p, q, vs, ws, rfl, rfl, hp, hq, by rw [rv.length, rw'.length]; exact h.1, fun e0 => ?_, fun _ e0 => ?_, fun _ _ l hl => ?_⟩
    · subst e0
      cases rv
      exact hk _ _ H h.2 (Same.refl H) rb
    · subst e0
      cases rw'
      have h2 := h.2
      rw [List.append_nil] at h2
      exact hk _ _ H h2 (Same.refl H) ra
    · have s := same_new hl (.tup (vs ++ ws))
      exact hk _ _ _ h.2 s (.tup (.inl ⟨j.notIn hl, .inl upd_same⟩) ((rv.append rw').go (Go.same s)))
  · exact h.elim⟩
theorem oq_addS : OQ X (binaryOp .Add) (fun a b L k => match a, b with
    | .str x, .str y => x.length + y.length ≤ sizeLine ∧ k (.str (x ++ y))
    | _, _ => False) := ⟨_, op_add_str, fun H L va vb a b k Q j ra rb h hk => by
  dsimp only at h
  split at h
  · cases ra
    cases rb
    exact ⟨_, _, rfl, rfl, h.1, hk _ _ H h.2 (Same.refl H) (.str _)⟩
  · exact h.elim⟩
theorem sim_addOr {K : PySem.W.Frag} {r : R2} {g g' : G2} (h : Sim2 K r g) (hg : ∀ H L va vb a b k, JL K L H → Rp L K H va a → Rp L K H vb b → g' a b L k → g a b L k) : Sim2 K r g' := fun H L va vb a b k Q j ra rb q hk => h H L va vb a b k Q j ra rb (hg H L va vb a b k j ra rb q) hk
theorem oq_add : OQ X (binaryOp .Add) gAdd := by
  obtain ⟨r1, o1, s1⟩ := oq_addI (X := X)
  obtain ⟨r2, o2, s2⟩ := oq_addS (X := X)
  obtain ⟨r3, o3, s3⟩ := oq_addL (X := X)
  obtain ⟨r4, o4, s4⟩ := oq_addT (X := X)
  refine ⟨_, opr_or o1 (opr_or o2 (opr_or o3 o4)), fun H L va vb a b k Q j ra rb h hk => ?_⟩
  unfold gAdd at h
  split at h
  · rename_i i i' ea eb
    have e1 := con_flat j ra ea trivial
    have e2 := con_flat j rb eb trivial
    subst e1 e2
    exact .inl (s1 H L va vb _ _ k Q j ra rb h hk)
  · rename_i i i' ea eb
    have e1 := con_flat j ra ea trivial
    have e2 := con_flat j rb eb trivial
    subst e1 e2
    exact .inr (.inl (s2 H L va vb _ _ k Q j ra rb h hk))
  · rename_i xs ys ea eb
    exact .inr (.inr (.inl (s3 H L va vb _ _ k Q j ra rb (by dsimp only; rw [ea, eb]; exact h) hk)))
  · rename_i xs ys ea eb
    exact .inr (.inr (.inr (s4 H L va vb _ _ k Q j ra rb (by dsimp only; rw [ea, eb]; exact h) hk)))
  · exact h.elim
/-- a list times a number -/
def gRep : G2 := fun a b L k => match con L a, b with
  | .lst xs, .int n => -(2 ^ 63) ≤ n ∧ n < 2 ^ 63 ∧ xs.length * n.toNat ≤ sizeLine ∧ k (.lst (List.replicate n.toNat xs).flatten)
  | _, _ => False
theorem rep_all {L : Led} {K : PySem.W.Frag} {H : Hp} {vs : List V} {ds : List D} (r : RpAll L K H vs ds) : ∀ n : Nat, RpAll L K H (List.replicate n vs).flatten (List.replicate n ds).flatten
  | 0 => .nil
  | n + 1 => by
    rw [List.replicate_succ, List.replicate_succ, List.flatten_cons, List.flatten_cons]
    exact r.append (rep_all r n)
theorem oq_rep : OQ X (binaryOp .Mult) gRep := ⟨_, op_rep, fun H L va vb a b k Q j ra rb h hk => by
  unfold gRep at h
  split at h
  · rename_i xs n ea
    obtain ⟨p, vs, rfl, hp, rv⟩ := con_lst j ra ea
    cases rb
    obtain ⟨h1, h2, h3, h4⟩ := h
    refine ⟨p, n, vs, rfl, rfl, hp, h1, h2, by rw [rv.length]; exact h3, fun l hl => ?_⟩
    have s := same_new hl (.lst (List.replicate n.toNat vs).flatten)
    exact hk _ _ _ h4 s (.lst (j.notIn hl) upd_same ((rep_all rv _).go (Go.same s)))
  · exact h.elim⟩
/-! ### slices -/
abbrev DO := DEnv → Led → (Option Int → Led → Prop) → DX → Prop
structure QO (X : Cx) (Wx : WX) (e : Option Expr) (do' : DO) : Prop where
  ex : ∃ to, PO X e to ∧ ∀ σ H env L k x Q, StL X.K σ H env L → do' env L k x → (∀ i L' H', k i L' → Go L L' H H' → JL X.K L' H' → Q i H') → XOk X.K Wx L H x → to σ H Q
def dNo : DO := fun _ L k _ => k none L
def dPart (da : DE) : DO := fun env L k x => da env L (fun d L1 => match d with
  | .int i => k (some i) L1
  | _ => False) x
theorem o_none : QO X Wx none dNo := ⟨_, po_none, fun σ H env L k x Q st h hk hx => hk none L H h (Go.refl L H) st.2⟩
theorem o_some (h : QE X Wx e da) : QO X Wx (some e) (dPart da) := by
  obtain ⟨ta, pa, sa⟩ := h.ex
  refine ⟨_, po_some pa, fun σ H env L k x Q st h hk hx => ?_⟩
  refine sa σ H env L _ x _ st h (fun d L1 v H1 h1 g1 j1 r1 => ?_) hx
  cases r1 <;> first | exact h1.elim | skip
  exact ⟨_, rfl, hk _ L1 H1 h1 g1 j1⟩
def cutD (xs : List D) (lo hi : Option Int) : List D := (xs.drop (HT.sIx xs.length 0 lo)).take (HT.sIx xs.length xs.length hi - HT.sIx xs.length 0 lo)
def gSl (a : D) (lo hi : Option Int) (L : Led) (k : D → Prop) : Prop := match con L a with
  | .lst xs => k (.lst (cutD xs lo hi))
  | .ro xs => k (.lst (cutD xs lo hi))
  | .tup xs => k (.tup (cutD xs lo hi))
  | .str z => z.length ≤ sizeLine ∧ k (.str (cutS z lo hi))
  | _ => False
def dSl (da : DE) (dl dh : DO) : DE := fun env L k x => da env L (fun a L1 => dl env L1 (fun lo L2 => dh env L2 (fun hi L3 => gSl a lo hi L3 fun d => k d L3) x) x) x
theorem cut_all {L : Led} {K : PySem.W.Frag} {H : Hp} {vs : List V} {ds : List D} (r : RpAll L K H vs ds) (lo hi : Option Int) : RpAll L K H (cutV vs lo hi) (cutD ds lo hi) := by
  unfold cutV cutD
  rw [r.length]
  exact (r.drop _).take _
theorem q_slice {lo hi : Option Expr} {p2 : Pos} {dl dh : DO} (he : QE X Wx e da) (hl : QO X Wx lo dl) (hh : QO X Wx hi dh) : QE X Wx (.Subscript e (.Slice lo hi none p2) pos) (dSl da dl dh) := by
  obtain ⟨ta, pa, sa⟩ := he.ex
  obtain ⟨tl, pl, sl⟩ := hl.ex
  obtain ⟨th, ph, sh⟩ := hh.ex
  refine ⟨_, pe_slice (SlR.or sl_list (SlR.or sl_tupA sl_str)) pa pl ph, fun σ H env L k x Q st h hk hx => ?_⟩
  refine sa σ H env L _ x _ st h (fun a L1 va H1 h1 g1 j1 r1 => ?_) hx
  refine sl σ H1 env L1 _ x _ (st.go g1 j1) h1 (fun lo L2 H2 h2 g2 j2 => ?_) (hx.go g1)
  refine sh σ H2 env L2 _ x _ ((st.go g1 j1).go g2 j2) h2 (fun hi L3 H3 h3 g3 j3 => ?_) ((hx.go g1).go g2)
  have gg := (g1.trans g2).trans g3
  have r1 := (r1.go g2).go g3
  unfold gSl at h3
  split at h3
  · rename_i xs ea
    obtain ⟨p, vs, rfl, hp, rv⟩ := con_lst j3 r1 ea
    refine .inl ⟨p, vs, rfl, SqL.of hp, fun l hl => ?_⟩
    have s := same_new hl (.lst (cutV vs lo hi))
    exact hk _ _ _ _ h3 (gg.trans (Go.same s)) (j3.same s) (.lst (j3.notIn hl) upd_same ((cut_all rv lo hi).go (Go.same s)))
  · rename_i xs ea
    obtain ⟨p, vs, rfl, hp, rv⟩ := con_ro j3 r1 ea
    refine .inl ⟨p, vs, rfl, hp, fun l hl => ?_⟩
    have s := same_new hl (.lst (cutV vs lo hi))
    exact hk _ _ _ _ h3 (gg.trans (Go.same s)) (j3.same s) (.lst (j3.notIn hl) upd_same ((cut_all rv lo hi).go (Go.same s)))
  · rename_i xs ea
    have ea' : a = .tup xs := by
      cases a with
      | ptr z =>
        have e : (L3.lookup z).getD (.ptr z) = _ := ea
        cases q : L3.lookup z with
        | none => rw [q] at e; cases e
        | some c' => rw [q] at e; have e : c' = .tup xs := e; subst e; exact (j3.look q).elim
      | _ => exact ea
    obtain ⟨p, vs, ep, hp, rv⟩ := con_tup j3 r1 ea
    subst ea' ep
    refine .inr (.inl ⟨p, vs, rfl, hp, fun hw => ?_, fun _ l hl => ?_⟩)
    · have e : cutD xs lo hi = xs := by
        unfold cutD
        rw [← rv.length, hw.1, hw.2, List.drop_zero, Nat.sub_zero, rv.length]
        exact List.take_length
      rw [e] at h3
      exact hk _ _ _ H3 h3 gg j3 r1
    · have s := same_new hl (.tup (cutV vs lo hi))
      exact hk _ _ _ _ h3 (gg.trans (Go.same s)) (j3.same s) (.tup (.inl ⟨j3.notIn hl, .inl upd_same⟩) ((cut_all rv lo hi).go (Go.same s)))
  · rename_i z ea
    have e1 := con_flat j3 r1 ea trivial
    subst e1
    cases r1
    exact .inr (.inr ⟨_, rfl, h3.1, hk _ _ _ H3 h3.2 gg j3 (.str _)⟩)
  · exact h3.elim
end
end DL

namespace DL
open PySem L2 RZ
section
variable {X : Cx} {Wx : WX} {a b c e o : Expr} {es rest : List Expr} {da db dc de do' : DE} {dt du : DT} {dl dk : DA} {pos : Pos}
/-! ### comprehensions -/
def wipeD (env : DEnv) : List Nat → DEnv
  | [] => env
  | v :: vs => (wipeD env vs).set v none
theorem Sto.wipes {L : Led} {K : PySem.W.Frag} {H : Hp} {σ : St} {env : DEnv} (h : Sto L K H σ env) : ∀ vs : List Nat, Sto L K H (wipe σ vs) (wipeD env vs)
  | [] => h
  | v :: vs => (Sto.wipes h vs).wipe1 v
structure QTs (X : Cx) (Wx : WX) (ifs : List Expr) (dt : DT) : Prop where
  pt : PTs X ifs (ttOf X.K Wx dt)
def dYes : DT := fun _ L k _ => k true L
theorem ts_nil : QTs X Wx [] dYes := ⟨⟨fun pins s σ H Q I hw => by
  obtain ⟨env, L, k, x, st, h, hk, hx⟩ := hw
  exact pts_nil.run pins s σ H Q I (hk true L H h (Go.refl L H) st.2)⟩⟩
theorem ts_one (h : QT X Wx c dt) : QTs X Wx [c] dt := ⟨pts_one h.pt⟩
abbrev Wx0 : WX := fun _ _ _ _ => False
@[irreducible] def lcD (dg : DG) (dt : DT) (de : DE) (env0 : DEnv) (p : Addr) (k : DK) : List D → List D → Led → Prop
  | [], acc, L => k (.lst acc) (remL L p)
  | d :: ds, acc, L => dg d env0 L fun env1 => dt env1 L (fun b L2 => match b with
    | true => de env1 L2 (fun y L3 => L3.lookup p = some (.lst acc) ∧ acc.length < sizeLine ∧ lcD dg dt de env0 p k ds (acc ++ [y]) (setL L3 p (.lst (acc ++ [y])))) (fun _ _ _ => False)
    | false => L2.lookup p = some (.lst acc) ∧ lcD dg dt de env0 p k ds acc L2) (fun _ _ _ => False)
theorem lcD_nil {dg : DG} {dt : DT} {de : DE} {env0 : DEnv} {p : Addr} {k : DK} {acc : List D} {L : Led} : lcD dg dt de env0 p k [] acc L = k (.lst acc) (remL L p) := by with_unfolding_all rfl
theorem lcD_cons {dg : DG} {dt : DT} {de : DE} {env0 : DEnv} {p : Addr} {k : DK} {d : D} {ds acc : List D} {L : Led} : lcD dg dt de env0 p k (d :: ds) acc L = dg d env0 L fun env1 => dt env1 L (fun b L2 => match b with
    | true => de env1 L2 (fun y L3 => L3.lookup p = some (.lst acc) ∧ acc.length < sizeLine ∧ lcD dg dt de env0 p k ds (acc ++ [y]) (setL L3 p (.lst (acc ++ [y])))) (fun _ _ _ => False)
    | false => L2.lookup p = some (.lst acc) ∧ lcD dg dt de env0 p k ds acc L2) (fun _ _ _ => False) := by with_unfolding_all rfl
def dLc (di : DI) (dg : DG) (dt : DT) (de : DE) (vs : List Nat) : DE := fun env L k x => di env L (fun ds L1 => ∀ p, ¬ inL L1 p → lcD dg dt de (wipeD env vs) p k ds [] ((p, .lst []) :: L1)) x
theorem sim_lc {K : PySem.W.Frag} {wi : TI} {di : DI} {dg : DG} {sl vs : List Nat} (hsl : ∀ i ∈ sl, i ∈ vs)
    (si : ∀ σ H env L k x R, StL K σ H env L → di env L k x → (∀ ds L' J H', k ds L' → Go L L' H H' → JL K L' H' → ItD K L' H' J ds → R J H') → XOk K Wx L H x → wi σ H R) :
    SimE K Wx (tLc wi (tgOf K sl dg) (ttOf K Wx0 dt) (teOf K Wx0 de) vs) (dLc di dg dt de vs) := by
  intro σ H env L k x Q st h hk hx
  refine si σ H env L _ x _ st h (fun ds L1 J H1 h1 g1 j1 it => ?_) hx
  intro p hp
  have s0 := same_new hp (.lst [])
  obtain ⟨j2, g2⟩ := j1.push (d := .lst []) hp (o := .lst []) ⟨[], upd_same, .nil⟩
  refine ⟨fun i m H2 => m = ds.length - i ∧ i ≤ ds.length ∧ ∃ acc L2, StL K (wipe σ vs) H2 (wipeD env vs) L2 ∧ Go L1 L2 H1 H2 ∧ L2.lookup p = some (.lst acc) ∧ lcD dg dt de (wipeD env vs) p k (ds.drop i) acc L2, ⟨ds.length, by omega, by omega, [], _, ⟨((st.go g1 j1).go g2 j2).1.wipes vs, j2⟩, g2, lookup_top, h1 p (j1.notIn hp)⟩, ?_⟩
  rintro i m H2 ⟨rfl, hi, acc, L2, st2, g3, hl, h2⟩
  obtain ⟨i1, i2⟩ := it L2 H2 g3 st2.2 i
  by_cases hlt : i < ds.length
  · have e : ds[i]? = some ds[i] := List.getElem?_eq_getElem hlt
    obtain ⟨go, yl⟩ := i1 _ e
    rw [List.drop_eq_getElem_cons hlt, lcD_cons] at h2
    refine .inr ⟨go, fun H' => ∃ acc L2, StL K (wipe σ vs) H' (wipeD env vs) L2 ∧ Go L1 L2 H1 H' ∧ L2.lookup p = some (.lst acc) ∧ lcD dg dt de (wipeD env vs) p k (ds.drop (i + 1)) acc L2, fun H' n => ⟨ds.length - (i + 1), by omega, rfl, hlt, n⟩, fun x H' y => ?_⟩
    obtain ⟨s, rx⟩ := yl x H' y
    have g4 : Go L2 L2 H2 H' := Go.same s
    have st3 := st2.go g4 (st2.2.same s)
    refine ⟨_, _, L2, _, st3, rx, h2, fun σ3 env3 h3 st4 on => ⟨?_, ?_⟩⟩
    · have := on vs hsl
      rw [this]
      clear this
      have w2 : ∀ (ws us : List Nat), (∀ i ∈ us, i ∈ ws) → ∀ σ : St, wipe (wipe σ us) ws = wipe σ ws := by
        intro ws us
        induction us with
        | nil => intro _ σ; rfl
        | cons u us ih =>
          intro hu σ
          show wipe ((wipe σ us).set u none) ws = _
          rw [wipe_set (hu u List.mem_cons_self), ih (fun i hi => hu i (List.mem_cons_of_mem _ hi))]
      exact w2 vs vs (fun _ h => h) σ
    · refine ⟨env3, L2, _, _, st4, h3, fun b L5 H5 h5 g5 j5 => ?_, fun _ _ _ _ _ _ q => q.elim⟩
      have gA : Go L1 L5 H1 H5 := (g3.trans g4).trans g5
      cases b with
      | false => exact iteF ⟨acc, L5, ⟨(st3.1.go g5), j5⟩, gA, h5.1, h5.2⟩
      | true =>
        refine iteT ⟨env3, L5, _, _, st4.go g5 j5, h5, fun y L6 vy H6 h6 g6 j6 r6 => ?_, fun _ _ _ _ _ _ q => q.elim⟩
        obtain ⟨q1, q2, q3⟩ := h6
        obtain ⟨ws, e1, rv⟩ := j6.look q1
        have hp6 := inL_of_lookup q1
        refine ⟨ws, e1, by rw [rv.length]; exact q2, acc ++ [y], _, ?_, ?_, ?_, q3⟩
        · have g7 : Go L6 (setL L6 p (.lst (acc ++ [y]))) H6 (upd H6 p (.lst (ws ++ [vy]))) := go_set hp6
          have j7 : JL K (setL L6 p (.lst (acc ++ [y]))) (upd H6 p (.lst (ws ++ [vy]))) := j6.put hp6 ⟨_, upd_same, (rv.append (.cons r6 .nil)).go g7⟩
          exact ⟨((st3.1.go g5).go g6).go g7, j7⟩
        · exact (gA.trans g6).trans (go_set hp6)
        · have hm := mem_of_lookup q1
          clear q3 h5 h3 h2
          have key : ∀ (M : Led), inL M p → List.lookup p (setL M p (.lst (acc ++ [y]))) = some (.lst (acc ++ [y])) := by
            intro M
            induction M with
            | nil => intro h; simp [inL] at h
            | cons q M ih =>
              intro h
              by_cases hq : q.1 = p
              · obtain ⟨z1, z2⟩ := q
                have hq : z1 = p := hq
                show List.lookup p ((if z1 = p then (p, D.lst (acc ++ [y])) else (z1, z2)) :: setL M p _) = _
                rw [if_pos hq]
                exact lookup_top
              · obtain ⟨z1, z2⟩ := q
                have hq : z1 ≠ p := hq
                rw [setL_ne hq, lookup_ne (Ne.symm hq)]
                exact ih ((inL_cons.mp h).resolve_left (Ne.symm hq))
          exact key L6 hp6
  · have e : i = ds.length := by omega
    subst e
    rw [List.drop_length, lcD_nil] at h2
    obtain ⟨ws, e1, rv⟩ := st2.2.look hl
    refine .inl ⟨i2 (Nat.le_refl _), hk _ _ _ H2 h2 ((g1.trans g3).trans go_rem) st2.2.rem (.lst (fun m => (inL_remL.mp m).2 rfl) e1 (rv.go go_rem))⟩
theorem q_lc {elt tg iter : Expr} {ifs : List Expr} {scope : Scope} {own : List (Str × Nat)} {di : DI} {dg : DG} {sl : List Nat} (hc : X.calm = true) (hN : X.N.Nodup) (hi : QI X Wx tg iter di) (ok : BlkOk X.N X.env.scope scope own)
    (hg : ∀ (s : Shared) (H : Hp) (C : Addr) (cl : List (Str × Addr)) (fp : List Addr), QG (X.blk s H scope (compEnvC scope cl C X.env) fp) tg sl dg) (ht : ∀ (s : Shared) (H : Hp) (C : Addr) (cl : List (Str × Addr)) (fp : List Addr), QTs (X.blk s H scope (compEnvC scope cl C X.env) fp) Wx0 ifs dt)
    (he : ∀ (s : Shared) (H : Hp) (C : Addr) (cl : List (Str × Addr)) (fp : List Addr), QE (X.blk s H scope (compEnvC scope cl C X.env) fp) Wx0 elt de) (hsl : ∀ i ∈ sl, i ∈ own.map (·.2) := by decide) (hs : ∀ x, foldedSetIterable iter X.env x = pure x := by intro _; rfl) :
    QE X Wx (.ListComp elt [⟨tg, iter, ifs, 0⟩] scope pos) (dLc di dg dt de (own.map (·.2))) := by
  obtain ⟨wi, pi, si⟩ := hi.ex
  exact ⟨_, pe_lc hc hN pi ok (fun s H C cl fp => (hg s H C cl fp).pg) (fun s H C cl fp => (ht s H C cl fp).pt) (fun s H C cl fp => (he s H C cl fp).pe) hs, sim_lc hsl si⟩
theorem s_setLc (i : Nat) {y : Str} {py spos : Pos} {elt tg iter : Expr} {ifs : List Expr} {scope : Scope} {own : List (Str × Nat)} {di : DI} {dg : DG} {sl : List Nat} (hc : X.calm = true) (hN : X.N.Nodup) (hi : QI X Wx tg iter di) (ok : BlkOk X.N X.env.scope scope own)
    (hg : ∀ (s : Shared) (H : Hp) (C : Addr) (cl : List (Str × Addr)) (fp : List Addr), QG (X.blk s H scope (compEnvC scope cl C X.env) fp) tg sl dg) (ht : ∀ (s : Shared) (H : Hp) (C : Addr) (cl : List (Str × Addr)) (fp : List Addr), QTs (X.blk s H scope (compEnvC scope cl C X.env) fp) Wx0 ifs dt)
    (he : ∀ (s : Shared) (H : Hp) (C : Addr) (cl : List (Str × Addr)) (fp : List Addr), QE (X.blk s H scope (compEnvC scope cl C X.env) fp) Wx0 elt de)
    (hsw : swapsWith (.ListComp elt [⟨tg, iter, ifs, 0⟩] scope pos) (some (.Name y py)) spos.line X.env = pure true) (hy : X.N[i]? = some y := by rfl) (hyl : X.env.scope.names.lookup y = some .local := by rfl) (hsl : ∀ i ∈ sl, i ∈ own.map (·.2) := by decide) (hs : ∀ x, foldedSetIterable iter X.env x = pure x := by intro _; rfl) :
    QS X Wx (.Assign [.Name y py] (.ListComp elt [⟨tg, iter, ifs, 0⟩] scope pos) spos) (dAsg (dLc di dg dt de (own.map (·.2))) (dgName i)) := by
  obtain ⟨wi, pi, si⟩ := hi.ex
  exact ⟨_, ps_setLc hc hN hy hyl hsw pi ok (fun s H C cl fp => (hg s H C cl fp).pg) (fun s H C cl fp => (ht s H C cl fp).pt) (fun s H C cl fp => (he s H C cl fp).pe) hs, sim_asg (sl := [i]) (sim_lc hsl si) fun v d σ H env L k Q st r h hk => hk _ _ h ⟨st.1.set r i, st.2⟩ only_set⟩
/-! ### zip -/
def zipD : List D → List D → List D
  | a :: as, b :: bs => .tup [a, b] :: zipD as bs
  | _, _ => []
theorem zipD_get : ∀ (as bs : List D) (i : Nat) (d : D), (zipD as bs)[i]? = some d → ∃ x y, as[i]? = some x ∧ bs[i]? = some y ∧ d = .tup [x, y]
  | [], _, _, _, h => by simp [zipD] at h
  | _ :: _, [], _, _, h => by simp [zipD] at h
  | a :: as, b :: bs, 0, d, h => by
    simp [zipD] at h
    exact ⟨a, b, rfl, rfl, h.symm⟩
  | a :: as, b :: bs, i + 1, d, h => by
    obtain ⟨x, y, h1, h2, h3⟩ := zipD_get as bs i d (by simpa [zipD] using h)
    exact ⟨x, y, by simpa using h1, by simpa using h2, h3⟩
theorem zipD_len : ∀ (as bs : List D), (zipD as bs).length = min as.length bs.length
  | [], _ => by simp [zipD]
  | _ :: _, [] => by simp [zipD]
  | a :: as, b :: bs => by simp [zipD, zipD_len as bs]
def diZip (dl : DA) : DI := fun env L k x => dl env L (fun ds L1 => match ds with
  | [.lst as, .lst bs] => k (zipD as bs) L1
  | [.tup as, .tup bs] => k (zipD as bs) L1
  | _ => False) x
theorem it_zip {K : PySem.W.Frag} {L : Led} {H : Hp} {a b : Addr} {vs ws : List V} {as bs : List D} (h : SqL' L K H a vs) (r : RpAll L K H vs as) (h' : SqL' L K H b ws) (r' : RpAll L K H ws bs) : ItD K L H (Itz K a b) (zipD as bs) := fun L' H' g j i => by
  have e1 := (g.sqL h).sq
  have e2 := (g.sqL h').sq
  refine ⟨fun d hd => ?_, fun hi => ⟨vs, ws, e1, e2, by rw [zipD_len] at hi; rw [r.length, r'.length]; omega⟩⟩
  obtain ⟨x, y, q1, q2, rfl⟩ := zipD_get as bs i d hd
  obtain ⟨vx, hx, rx⟩ := (r.go g).get q1
  obtain ⟨vy, hy, ry⟩ := (r'.go g).get q2
  refine ⟨⟨vs, ws, vx, vy, e1, e2, hx, hy⟩, fun z H'' yl => ?_⟩
  obtain ⟨T, x', y', rfl, nT, rfl, f1, f2⟩ := yl
  have k1 := f1 vs e1
  rw [hx] at k1
  cases k1
  have k2 := f2 ws e2
  rw [hy] at k2
  cases k2
  have s := same_new nT (.tup [vx, vy])
  exact ⟨s, .tup (.inl ⟨j.notIn nT, .inl upd_same⟩) (.cons (rx.go (Go.same s)) (.cons (ry.go (Go.same s)) .nil))⟩
theorem it_zipT {K : PySem.W.Frag} {L : Led} {H : Hp} {a b : Addr} {vs ws : List V} {as bs : List D} (h : SqT' L K H a vs) (r : RpAll L K H vs as) (h' : SqT' L K H b ws) (r' : RpAll L K H ws bs) : ItD K L H (ItzT K a b) (zipD as bs) := fun L' H' g j i => by
  have e1 := (g.sqT h).sq
  have e2 := (g.sqT h').sq
  refine ⟨fun d hd => ?_, fun hi => ⟨vs, ws, e1, e2, by rw [zipD_len] at hi; rw [r.length, r'.length]; omega⟩⟩
  obtain ⟨x, y, q1, q2, rfl⟩ := zipD_get as bs i d hd
  obtain ⟨vx, hx, rx⟩ := (r.go g).get q1
  obtain ⟨vy, hy, ry⟩ := (r'.go g).get q2
  refine ⟨⟨vs, ws, vx, vy, e1, e2, hx, hy⟩, fun z H'' yl => ?_⟩
  obtain ⟨T, x', y', rfl, nT, rfl, f1, f2⟩ := yl
  have k1 := f1 vs e1
  rw [hx] at k1
  cases k1
  have k2 := f2 ws e2
  rw [hy] at k2
  cases k2
  have s := same_new nT (.tup [vx, vy])
  exact ⟨s, .tup (.inl ⟨j.notIn nT, .inl upd_same⟩) (.cons (rx.go (Go.same s)) (.cons (ry.go (Go.same s)) .nil))⟩
theorem i_zip {e2 : Expr} {p tpos : Pos} {elts : List Expr} {kk : Nat} (hg : Gl X "zip") (hm : X.mg "zip" = none) (ha : QA X Wx [e, e2] dl)
    (hs : starEach [e, e2] X.env = (false, eval e X.env) :: starEach [e2] X.env := by rfl) (hpl : (backTo pos (starEach [e2] X.env)).any (·.1) = false := by rfl) : QI X Wx (.Tuple elts kk tpos) (.Call (.Name "zip" p) [e, e2] [] pos) (diZip dl) := by
  obtain ⟨ta, pa, sa⟩ := ha.ex
  refine ⟨_, pi_zipA hg hm pa hs hpl, fun σ H env L k x R st h hk hx => ?_⟩
  refine sa σ H env L _ x _ st h (fun ds L1 vs H1 h1 g1 j1 r1 => ?_) hx
  split at h1
  · cases r1 with
    | cons r1 r2 => cases r2 with
      | cons r2 r3 =>
      cases r3
      cases r1 with
      | lst n1 s1 q1 => cases r2 with
        | lst n2 s2 q2 => exact ⟨_, _, _, _, rfl, .inl ⟨SqL.of s1, SqL.of s2, hk _ L1 _ H1 h1 g1 j1 (it_zip (.inl ⟨n1, .inl s1⟩) q1 (.inl ⟨n2, .inl s2⟩) q2)⟩⟩
  · cases r1 with
    | cons r1 r2 => cases r2 with
      | cons r2 r3 =>
      cases r3
      cases r1 with
      | tup s1 q1 => cases r2 with
        | tup s2 q2 => exact ⟨_, _, _, _, rfl, .inr ⟨s1.sq, s2.sq, hk _ L1 _ H1 h1 g1 j1 (it_zipT s1 q1 s2 q2)⟩⟩
  · exact h1.elim
end
end DL

namespace DL
open PySem L2
section
variable {X : Cx} {Wx : WX} {a b c e o : Expr} {es rest : List Expr} {da db dc de do' : DE} {dt du : DT} {dl dk : DA} {pos : Pos}
/-! ### keywords -/
structure QK (X : Cx) (Wx : WX) (kws : List Keyword) (da : DA) : Prop where
  ex : ∃ ta, PK X kws ta ∧ SimA X.K Wx ta da
theorem k_nil : QK X Wx [] dNil := ⟨_, pk_nil, fun σ H env L k x Q st h hk hx => hk [] L [] H h (Go.refl L H) st.2 .nil⟩
theorem k_cons {nm : Option Str} {kpos : Pos} {kws : List Keyword} (ha : QE X Wx e de) (hr : QK X Wx kws dl) : QK X Wx (⟨nm, e, kpos⟩ :: kws) (dCons de dl) := by
  obtain ⟨te, pe, se⟩ := ha.ex
  obtain ⟨ta, pa, sa⟩ := hr.ex
  refine ⟨_, pk_cons pe pa, fun σ H env L k x Q st h hk hx => ?_⟩
  refine se σ H env L _ x _ st h (fun d L1 v H1 h1 g1 j1 r1 => ?_) hx
  refine sa σ H1 env L1 _ x _ (st.go g1 j1) h1 (fun ds L2 vs H2 h2 g2 j2 r2 => ?_) (hx.go g1)
  exact hk _ L2 _ H2 h2 (g1.trans g2) j2 (.cons (r1.go g2) r2)
/-- how positional values and keywords' values come to the parameters: a choice of places, the same for values and data; ds: defaults -/
abbrev Perm3 := {α : Type} → List α → List α → List α → List α
structure PermOk (g : Perm3) : Prop where
  map : ∀ {α β : Type} {R : α → β → Prop} {vs zs ws : List α} {us ys xs : List β}, Paired R vs us → Paired R zs ys → Paired R ws xs → Paired R (g vs zs ws) (g us ys xs)
structure KwB (K : PySem.W.Frag) (fd : FuncData) (ps : List Str) (n : Nat) (ks : List Str) (dus : List Value) (g : Perm3) : Prop where
  to : ∀ (s : Shared) (us ws : List Value), K.In s.heap → us.length = n → ws.length = ks.length → BindsTo s fd ⟨us, ks.zip ws⟩ (ps.zip (g us ws dus))
theorem rp_paired {L : Led} {K : PySem.W.Frag} {H : Hp} : ∀ {vs : List V} {ds : List D}, RpAll L K H vs ds → Paired (Rp L K H) vs ds
  | _, _, .nil => .nil
  | _, _, .cons h r => .cons h (rp_paired r)
theorem paired_rp {L : Led} {K : PySem.W.Frag} {H : Hp} : ∀ {vs : List V} {ds : List D}, Paired (Rp L K H) vs ds → RpAll L K H vs ds
  | _, _, .nil => .nil
  | _, _, .cons h r => .cons h (paired_rp r)
def tCallW (n m : Nat) (sp : Sp) (gV : List V → List V → List V) (E : St → XK) (t tk : TA) : TE := fun σ H Q => t σ H fun vs H1 => tk σ H1 fun zs H2 => vs.length = n ∧ zs.length = m ∧ sp (gV vs zs) H2 Q (E σ)
theorem run_fnW {CX : CXT} {k n : Nat} {f : Addr} {fd : FuncData} {ps ks : List Str} {sp : Sp} {E : XK} {dus : List Value} {dvs : List V} {g : Perm3} {pins : List (Addr × Obj)} {σ : St} {H : Hp} {s : Shared} {Q : VK} {us ws : List Value} {vs zs : List V} (F : FnOk X.prog X.w X.K X.mg X.base CX k f fd ps sp) (hr : Room k X.A) (hb : KwB X.K fd ps n ks dus g) (hp : PermOk @g) (hd : Vals dvs dus) (hx : PassesAt CX X σ E)
    (I : Inv X pins σ H s) (r : Vals vs us) (rz : Vals zs ws) (l1 : vs.length = n) (l2 : zs.length = ks.length) (h : sp (g vs zs dvs) H Q E) : wpAny (model X.prog X.w) X.A (call (.ref f) us (ks.zip ws)) (EP X pins σ Q) X.xe s := by
  have r2 : Vals (g vs zs dvs) (g us ws dus) := hp.map r rz hd
  refine wpAny_call (codeAny_mono (F.run X.A X.stack s H ⟨us, ks.zip ws⟩ (g us ws dus) (g vs zs dvs) Q E hr I.env0 (hb.to s us ws I.kIn (r.length.symm.trans l1) (rz.length.symm.trans l2)) r2 h) fun r s' hq => ?_)
  cases r with
  | error e => exact hx pins H s e s' I hq
  | ok fl =>
    cases fl with
    | ret u => exact I.after hq
    | next => exact False.elim hq
    | brk => exact False.elim hq
    | cont => exact False.elim hq
theorem pe_callW0 {CX : CXT} {k : Nat} {f : Addr} {fd : FuncData} {ps ks : List Str} {sp : Sp} {E : St → XK} {dus : List Value} {dvs : List V} {g : Perm3} {x : Str} {p : Pos} {kws : List Keyword} {tk : TA} (F : FnOk X.prog X.w X.K X.mg X.base CX k f fd ps sp) (hr : Room k X.A) (hg : Gl X x) (hm : X.mg x = some (.ref f)) (hk : PySem.W.keepIn X.K (.ref f) = true)
    (hb : KwB X.K fd ps 0 ks dus g) (hp : PermOk @g) (hd : Vals dvs dus) (hx : ∀ σ, PassesAt CX X σ (E σ)) (hkw : PK X kws tk) (hall : (backToKw pos (keywordEach kws X.env)).all (·.1.isSome) = true := by rfl) (hks : (backToKw pos (keywordEach kws X.env)).filterMap (·.1) = ks := by rfl)
    (hdb : (x == ("__debug__" : Str)) = false := by decide) (hpl : ((backTo pos (starEach [] X.env)).any (·.1) || (backToKw pos (keywordEach kws X.env)).any (·.1.isNone)) = false := by rfl) :
    PE X (.Call (.Name x p) [] kws pos) (tCallW 0 ks.length sp (fun vs zs => g vs zs dvs) E tNil tk) := by
  refine ⟨fun pins s σ H Q I h => ?_⟩
  refine wpAny_Call_Name_kw (ld_glob I hg hm ?_ hdb)
  refine PySem.W.callWith_KW0 (h₀ := X.base) I.ok.mod.kin hk hall (thn (hkw.run pos pins s σ H _ I h) fun ws s2 ⟨zs, H2, I2, rz, l1, l2, q2⟩ => ⟨I2.kIn, ?_⟩) hpl
  rw [hks]
  exact run_fnW F hr hb hp hd (hx σ) I2 .nil rz l1 l2 q2
theorem pe_callW {CX : CXT} {k n : Nat} {f : Addr} {fd : FuncData} {ps ks : List Str} {sp : Sp} {E : St → XK} {dus : List Value} {dvs : List V} {g : Perm3} {x : Str} {p : Pos} {kws : List Keyword} {t tk : TA} (F : FnOk X.prog X.w X.K X.mg X.base CX k f fd ps sp) (hr : Room k X.A) (hg : Gl X x) (hm : X.mg x = some (.ref f)) (hk : PySem.W.keepIn X.K (.ref f) = true)
    (hb : KwB X.K fd ps n ks dus g) (hp : PermOk @g) (hd : Vals dvs dus) (hx : ∀ σ, PassesAt CX X σ (E σ)) (ha : PA X (e :: es) t) (hkw : PK X kws tk) (hall : (backToKw pos (keywordEach kws X.env)).all (·.1.isSome) = true := by rfl) (hks : (backToKw pos (keywordEach kws X.env)).filterMap (·.1) = ks := by rfl)
    (hdb : (x == ("__debug__" : Str)) = false := by decide) (he : starEach (e :: es) X.env = (false, eval e X.env) :: starEach es X.env := by rfl)
    (hpl : ((backTo pos (starEach (e :: es) X.env)).any (·.1) || (backToKw pos (keywordEach kws X.env)).any (·.1.isNone)) = false := by rfl) :
    PE X (.Call (.Name x p) (e :: es) kws pos) (tCallW n ks.length sp (fun vs zs => g vs zs dvs) E t tk) := by
  refine ⟨fun pins s σ H Q I h => ?_⟩
  refine wpAny_Call_Name_kw (ld_glob I hg hm ?_ hdb)
  refine PySem.W.callWith_KW (h₀ := X.base) I.ok.mod.kin hk hall (thn (ha.run pos pins s σ H _ I h) fun us s1 ⟨vs, H1, I1, r, q⟩ => ?_) hpl he
  refine thn (hkw.run pos pins s1 σ H1 _ I1 q) fun ws s2 ⟨zs, H2, I2, rz, l1, l2, q2⟩ => ⟨I2.kIn, ?_⟩
  rw [hks]
  exact run_fnW F hr hb hp hd (hx σ) I2 r rz l1 l2 q2
def dCallW (n m : Nat) (f : DSp) (g : Perm3) (dd : List D) (dl dk : DA) : DE := fun env L k x => dl env L (fun ds L1 => dk env L1 (fun es L2 => ds.length = n ∧ es.length = m ∧ f (g ds es dd) L2 k fun n L' => x n env L') x) x
theorem sim_callW {K : PySem.W.Frag} {n m : Nat} {f : DSp} {g : Perm3} {dvs : List V} {dd : List D} {t tk : TA} (hp : PermOk @g) (hdd : ∀ L H, RpAll L K H dvs dd) (sa : SimA K Wx t dl) (sk : SimA K Wx tk dk) : SimE K Wx (tCallW n m (spD K f) (fun vs zs => g vs zs dvs) (WE Wx) t tk) (dCallW n m f g dd dl dk) := by
  intro σ H env L k x Q st h hk hx
  refine sa σ H env L _ x _ st h (fun ds L1 vs H1 h1 g1 j1 r1 => ?_) hx
  refine sk σ H1 env L1 _ x _ (st.go g1 j1) h1 (fun es L2 zs H2 h2 g2 j2 r2 => ?_) (hx.go g1)
  obtain ⟨l1, l2, h2⟩ := h2
  have gg := g1.trans g2
  refine ⟨by rw [r1.length]; exact l1, by rw [r2.length]; exact l2, g ds es dd, L2, k, fun n L' => x n env L', j2, paired_rp (hp.map (rp_paired (r1.go g2)) (rp_paired r2) (rp_paired (hdd L2 H2))), h2, hk.go gg, fun n L' a H' q g' j' r => hx n env L' a H' σ q (gg.trans g') (st.go (gg.trans g') j') r⟩
theorem q_callW0 {k : Nat} {f : Addr} {fd : FuncData} {ps ks : List Str} {fD : DSp} {dus : List Value} {dvs : List V} {dd : List D} {x : Str} {p : Pos} {kws : List Keyword} (g : Perm3) (F : FnOk X.prog X.w X.K X.mg X.base (L2.CX X.prog X.w) k f fd ps (spD X.K fD)) (hr : Room k X.A) (hg : Gl X x) (hm : X.mg x = some (.ref f)) (hk : PySem.W.keepIn X.K (.ref f) = true)
    (hb : KwB X.K fd ps 0 ks dus g) (hp : PermOk @g) (hd : Vals dvs dus) (hdd : ∀ L H, RpAll L X.K H dvs dd) (tk : Takes X Wx) (hkw : QK X Wx kws dk) (hall : (backToKw pos (keywordEach kws X.env)).all (·.1.isSome) = true := by rfl) (hks : (backToKw pos (keywordEach kws X.env)).filterMap (·.1) = ks := by rfl)
    (hdb : (x == ("__debug__" : Str)) = false := by decide) (hpl : ((backTo pos (starEach [] X.env)).any (·.1) || (backToKw pos (keywordEach kws X.env)).any (·.1.isNone)) = false := by rfl) :
    QE X Wx (.Call (.Name x p) [] kws pos) (dCallW 0 ks.length fD g dd dNil dk) := by
  obtain ⟨ta, pa, sa⟩ := hkw.ex
  exact ⟨_, pe_callW0 F hr hg hm hk hb hp hd (fun σ => passAt tk σ) pa hall hks hdb hpl, sim_callW hp hdd (fun σ H env L k x Q st h hk hx => hk [] L [] H h (Go.refl L H) st.2 .nil) sa⟩
theorem q_callW {k n : Nat} {f : Addr} {fd : FuncData} {ps ks : List Str} {fD : DSp} {dus : List Value} {dvs : List V} {dd : List D} {x : Str} {p : Pos} {kws : List Keyword} (g : Perm3) (F : FnOk X.prog X.w X.K X.mg X.base (L2.CX X.prog X.w) k f fd ps (spD X.K fD)) (hr : Room k X.A) (hg : Gl X x) (hm : X.mg x = some (.ref f)) (hk : PySem.W.keepIn X.K (.ref f) = true)
    (hb : KwB X.K fd ps n ks dus g) (hp : PermOk @g) (hd : Vals dvs dus) (hdd : ∀ L H, RpAll L X.K H dvs dd) (tk : Takes X Wx) (ha : QA X Wx (e :: es) dl) (hkw : QK X Wx kws dk) (hall : (backToKw pos (keywordEach kws X.env)).all (·.1.isSome) = true := by rfl) (hks : (backToKw pos (keywordEach kws X.env)).filterMap (·.1) = ks := by rfl)
    (hdb : (x == ("__debug__" : Str)) = false := by decide) (he : starEach (e :: es) X.env = (false, eval e X.env) :: starEach es X.env := by rfl)
    (hpl : ((backTo pos (starEach (e :: es) X.env)).any (·.1) || (backToKw pos (keywordEach kws X.env)).any (·.1.isNone)) = false := by rfl) :
    QE X Wx (.Call (.Name x p) (e :: es) kws pos) (dCallW n ks.length fD g dd dl dk) := by
  obtain ⟨ta, pa, sa⟩ := ha.ex
  obtain ⟨tk', pk, sk⟩ := hkw.ex
  exact ⟨_, pe_callW F hr hg hm hk hb hp hd (fun σ => passAt tk σ) pa pk hall hks hdb he hpl, sim_callW hp hdd sa sk⟩
end
end DL

namespace DL
open PySem L2
section
variable {X : Cx} {Wx : WX} {a b c e o : Expr} {es rest : List Expr} {da db dc de do' : DE} {dt du : DT} {dl dk : DA} {pos : Pos}
/-! ### == of anything -/
def gEqU : G2 := fun a b _ k => match scD a b with
  | true => k (.bl (flEq a b))
  | false => shp a = true ∧ shp b = true ∧ k (.bl (eqD a b))
def gNeU : G2 := fun a b _ k => match scD a b with
  | true => k (.bl (!flEq a b))
  | false => shp a = true ∧ shp b = true ∧ k (.bl (!eqD a b))
theorem oq_eqU (hu : X.A.units + 64 < cLine) : OQ X (compareOp .Eq) gEqU := OQ.or oq_eqF (oq_eq hu) fun a b L k h => by
  unfold gEqU at h
  split at h
  · rename_i hs; exact .inl ⟨hs, h⟩
  · exact .inr h
theorem oq_neU (hu : X.A.units + 64 < cLine) : OQ X (compareOp .NotEq) gNeU := OQ.or oq_neF (oq_ne hu) fun a b L k h => by
  unfold gNeU at h
  split at h
  · rename_i hs; exact .inl ⟨hs, h⟩
  · exact .inr h
/-! ### * -/
def MulOk (i j : Int) : Prop := (i.natAbs < 2 ^ 63 ∨ j.natAbs < 2 ^ 63) ∨ CMulW i j
theorem MulOk.ok {i j : Int} (h : MulOk i j) : IntMulOk i j := by
  have key : ∀ z : Int, z.natAbs < 2 ^ 63 → Builtin.Int.intBits z ≤ 64 := fun z hz => intBits_le_64 (by omega) (by omega)
  rcases h with (h | h) | h
  · exact .of_left (key i h)
  · exact .of_right (key j h)
  · exact h.ok
theorem op_mulU : OpR X (binaryOp .Mult) (rI MulOk fun i j => .int (i * j)) := opI fun _ _ _ _ _ _ _ hc q => PyProof.Rows.mul_int q (MulOk.ok hc)
abbrev gMulU : G2 := gI MulOk fun i j => .int (i * j)
theorem oq_mulU : OQ X (binaryOp .Mult) gMulU := ⟨_, op_mulU, sim2_I fun _ _ _ _ => .int _⟩
/-! ### a def that may be called: by its name -/
structure Cal (P : Program) (w : World) (K : PySem.W.Frag) (mg : Str → Option Value) (base : Heap) (n : Nat) (x : Str) (ps : List Str) (dd : List D) (g : DSp) : Prop where
  ex : ∃ (f : Addr) (fd : FuncData) (us : List Value) (dvs : List V), FnOk P w K mg base (L2.CX P w) n f fd ps (spD K g) ∧ mg x = some (.ref f) ∧ PySem.W.keepIn K (.ref f) = true ∧ Binds K fd ps us ∧ Vals dvs us ∧ ∀ L H, RpAll L K H dvs dd
theorem q_cal {x : Str} {p : Pos} {n k : Nat} {ps : List Str} {g : DSp} {dd : List D} (F : Cal X.prog X.w X.K X.mg X.base n x ps dd g) (hn : n ≤ k) (hr : Room k X.A) (tk : Takes X Wx) (hg : Gl X x) (ha : QA X Wx (e :: es) dl) (hdb : (x == ("__debug__" : Str)) = false := by decide)
    (he : starEach (e :: es) X.env = (false, eval e X.env) :: starEach es X.env := by rfl) (hpl : (backTo pos (starEach es X.env)).any (·.1) = false := by rfl) : QE X Wx (.Call (.Name x p) (e :: es) [] pos) (dCall g dd dl) := by
  obtain ⟨f, fd, us, dvs, F, hm, hk, hb, hd, hdd⟩ := F.ex
  exact q_call F (hr.mono hn) hg hm hk hb hd hdd tk ha hdb he hpl
/-- .. by keywords -/
structure CalW (P : Program) (w : World) (K : PySem.W.Frag) (mg : Str → Option Value) (base : Heap) (n : Nat) (x : Str) (np : Nat) (ks : List Str) (dd : List D) (gp : Perm3) (g : DSp) : Prop where
  ex : ∃ (f : Addr) (fd : FuncData) (ps : List Str) (us : List Value) (dvs : List V), FnOk P w K mg base (L2.CX P w) n f fd ps (spD K g) ∧ mg x = some (.ref f) ∧ PySem.W.keepIn K (.ref f) = true ∧ KwB K fd ps np ks us gp ∧ PermOk @gp ∧ Vals dvs us ∧ ∀ L H, RpAll L K H dvs dd
theorem q_calW0 {x : Str} {p : Pos} {n k : Nat} {ks : List Str} {gp : Perm3} {g : DSp} {dd : List D} {kws : List Keyword} (F : CalW X.prog X.w X.K X.mg X.base n x 0 ks dd gp g) (hn : n ≤ k) (hr : Room k X.A) (tk : Takes X Wx) (hg : Gl X x) (hkw : QK X Wx kws dk) (hall : (backToKw pos (keywordEach kws X.env)).all (·.1.isSome) = true := by rfl) (hks : (backToKw pos (keywordEach kws X.env)).filterMap (·.1) = ks := by rfl)
    (hdb : (x == ("__debug__" : Str)) = false := by decide) (hpl : ((backTo pos (starEach [] X.env)).any (·.1) || (backToKw pos (keywordEach kws X.env)).any (·.1.isNone)) = false := by rfl) : QE X Wx (.Call (.Name x p) [] kws pos) (dCallW 0 ks.length g gp dd dNil dk) := by
  obtain ⟨f, fd, ps, us, dvs, F, hm, hk, hb, hp, hd, hdd⟩ := F.ex
  exact q_callW0 gp F (hr.mono hn) hg hm hk hb hp hd hdd tk hkw hall hks hdb hpl
theorem q_calW {x : Str} {p : Pos} {n k np : Nat} {ks : List Str} {gp : Perm3} {g : DSp} {dd : List D} {kws : List Keyword} (F : CalW X.prog X.w X.K X.mg X.base n x np ks dd gp g) (hn : n ≤ k) (hr : Room k X.A) (tk : Takes X Wx) (hg : Gl X x) (ha : QA X Wx (e :: es) dl) (hkw : QK X Wx kws dk) (hall : (backToKw pos (keywordEach kws X.env)).all (·.1.isSome) = true := by rfl) (hks : (backToKw pos (keywordEach kws X.env)).filterMap (·.1) = ks := by rfl)
    (hdb : (x == ("__debug__" : Str)) = false := by decide) (he : starEach (e :: es) X.env = (false, eval e X.env) :: starEach es X.env := by rfl) (hpl : ((backTo pos (starEach (e :: es) X.env)).any (·.1) || (backToKw pos (keywordEach kws X.env)).any (·.1.isNone)) = false := by rfl) : QE X Wx (.Call (.Name x p) (e :: es) kws pos) (dCallW np ks.length g gp dd dl dk) := by
  obtain ⟨f, fd, ps, us, dvs, F, hm, hk, hb, hp, hd, hdd⟩ := F.ex
  exact q_callW gp F (hr.mono hn) hg hm hk hb hp hd hdd tk ha hkw hall hks hdb he hpl
/-- pure defs: the answer is f of the arguments -/
def pur (C : List D → Prop) (f : List D → D) : DSp := fun ds L k _ => C ds ∧ k (f ds) L
end
theorem bb_len : bootBuiltins "len" = some (.builtin "len") := by decide +kernel
theorem bb_abs : bootBuiltins "abs" = some (.builtin "abs") := by decide +kernel
theorem bb_max : bootBuiltins "max" = some (.builtin "max") := by decide +kernel
theorem bb_min : bootBuiltins "min" = some (.builtin "min") := by decide +kernel
theorem bb_all : bootBuiltins "all" = some (.builtin "all") := by decide +kernel
theorem bb_any : bootBuiltins "any" = some (.builtin "any") := by decide +kernel
theorem bb_isinstance : bootBuiltins "isinstance" = some (.builtin "isinstance") := by decide +kernel
theorem bb_sorted : bootBuiltins "sorted" = some (.builtin "sorted") := by decide +kernel
theorem bb_sum : bootBuiltins "sum" = some (.builtin "sum") := by decide +kernel
theorem bb_int : bootBuiltins "int" = some (.type "int") := by decide +kernel
theorem bb_str : bootBuiltins "str" = some (.type "str") := by decide +kernel
theorem bb_list : bootBuiltins "list" = some (.type "list") := by decide +kernel
theorem bb_tuple : bootBuiltins "tuple" = some (.type "tuple") := by decide +kernel
theorem bb_dict : bootBuiltins "dict" = some (.type "dict") := by decide +kernel
theorem bb_bool : bootBuiltins "bool" = some (.type "bool") := by decide +kernel
theorem bb_range : bootBuiltins "range" = some (.type "range") := by decide +kernel
theorem bb_zip : bootBuiltins "zip" = some (.type "zip") := by decide +kernel
theorem bb_enumerate : bootBuiltins "enumerate" = some (.type "enumerate") := by decide +kernel
theorem bb_reversed : bootBuiltins "reversed" = some (.type "reversed") := by decide +kernel
end DL

namespace DL
open PySem L2

/-! ### helpers of the law: the mathematics -/
def isInt : D → Bool
  | .int _ => true
  | _ => false
def okT (d : D) : Bool := (tyD d).isSome
structure Bag where
  cells : List Int
  at_ : Int
  rest : Int
  mix : Int
  cnt : Int
def bagC (b : Bag) : D := .lst [.lst (b.cells.map .int), .int b.at_, .int b.rest, .int b.mix, .int b.cnt]
structure BagOk (b : Bag) : Prop where
  a0 : 0 ≤ b.at_
  a1 : b.at_ ≤ b.cells.length
  r0 : 0 ≤ b.rest
  m0 : 0 ≤ b.mix
  m1 : b.mix < 2147483497
def bagS : DSp := fun ds L k _ => ∃ ns : List Int, ds = [.ro (ns.map .int)] ∧ ∀ p b, ¬ inL L p → BagOk b → k (.ptr p) ((p, bagC b) :: L)
def pullS : DSp := fun ds L k _ => ∃ (p : Addr) (b : Bag) (m : Int), ds = [.ptr p, .int m] ∧ L.lookup p = some (bagC b) ∧ BagOk b ∧ 0 < m ∧ m.natAbs.log2 < 9000 ∧ ∀ r b', 0 ≤ r → r < m → BagOk b' → k (.int r) (setL L p (bagC b'))
def ofS : DSp := fun ds L k _ => ∃ (p : Addr) (b : Bag) (xs : List D), ds = [.ptr p, .lst xs] ∧ L.lookup p = some (bagC b) ∧ BagOk b ∧ 0 < xs.length ∧ xs.length < 1000 ∧ ∀ d b', d ∈ xs → BagOk b' → k d (setL L p (bagC b'))
theorem con_ptr {L : Led} {p : Addr} {c : D} (h : L.lookup p = some c) : con L (.ptr p) = c := by
  show (L.lookup p).getD (.ptr p) = c
  rw [h]; rfl
theorem setL_setL (L : Led) (p : Addr) (c d : D) : setL (setL L p c) p d = setL L p d := by
  unfold setL
  rw [List.map_map]
  refine List.map_congr_left fun q _ => ?_
  show (if (if q.1 = p then (p, c) else q).1 = p then (p, d) else (if q.1 = p then (p, c) else q)) = _
  by_cases h : q.1 = p
  · simp [h]
  · simp [h]
theorem lookup_setL : ∀ {L : Led} {p : Addr} {c d : D}, L.lookup p = some c → (setL L p d).lookup p = some d
  | [], _, _, _, h => by simp at h
  | (q, e) :: L, p, c, d, h => by
    by_cases hq : q = p
    · subst hq
      show List.lookup q ((if q = q then (q, d) else (q, e)) :: setL L q d) = _
      rw [if_pos rfl]
      exact lookup_top
    · rw [setL_ne hq, lookup_ne (Ne.symm hq)]
      rw [lookup_ne (Ne.symm hq)] at h
      exact lookup_setL h
/-! data that can be compared item by item -/
mutual
def okP : D → Bool
  | .non => true | .bl _ => true | .int _ => true | .str _ => true
  | .lst xs => decide (xs.length < 100000) && okPs xs
  | .tup xs => decide (xs.length < 100000) && okPs xs
  | .ro _ => false | .dk _ _ => false | .dt _ _ => false | .obj _ _ _ => false | .ptr _ => false | .ty _ => false
def okPs : List D → Bool
  | [] => true
  | d :: r => okP d && okPs r
end
mutual
def dep : D → Nat
  | .lst xs => deps xs + 1
  | .tup xs => deps xs + 1
  | .non => 0 | .bl _ => 0 | .int _ => 0 | .str _ => 0 | .ro _ => 0 | .dk _ _ => 0 | .dt _ _ => 0 | .obj _ _ _ => 0 | .ptr _ => 0 | .ty _ => 0
def deps : List D → Nat
  | [] => 0
  | d :: r => max (dep d) (deps r)
end
mutual
def sameD : D → D → Bool
  | .lst xs, .lst ys => sameL xs ys
  | .tup xs, .tup ys => sameL xs ys
  | .non, .non => true
  | .bl a, .bl b => decide (a = b)
  | .int a, .int b => decide (a = b)
  | .str a, .str b => decide (a = b)
  | _, _ => false
def sameL : List D → List D → Bool
  | [], [] => true
  | x :: xs, y :: ys => sameD x y && sameL xs ys
  | _, _ => false
end
mutual
theorem sameD_refl : ∀ d : D, okP d = true → sameD d d = true
  | .non, _ => by unfold sameD; rfl
  | .bl _, _ => by unfold sameD; simp
  | .int _, _ => by unfold sameD; simp
  | .str _, _ => by unfold sameD; simp
  | .lst xs, h => by unfold sameD; exact sameL_refl xs (by unfold okP at h; rw [Bool.and_eq_true] at h; exact h.2)
  | .tup xs, h => by unfold sameD; exact sameL_refl xs (by unfold okP at h; rw [Bool.and_eq_true] at h; exact h.2)
  | .ro _, h => by simp [okP] at h
  | .dk _ _, h => by simp [okP] at h
  | .dt _ _, h => by simp [okP] at h
  | .obj _ _ _, h => by simp [okP] at h
  | .ptr _, h => by simp [okP] at h
  | .ty _, h => by simp [okP] at h
theorem sameL_refl : ∀ ds : List D, okPs ds = true → sameL ds ds = true
  | [], _ => by unfold sameL; rfl
  | d :: r, h => by
    unfold okPs at h
    rw [Bool.and_eq_true] at h
    unfold sameL
    rw [sameD_refl d h.1, sameL_refl r h.2]; rfl
end
theorem sameL_len : ∀ {xs ys : List D}, xs.length ≠ ys.length → sameL xs ys = false
  | [], [], h => absurd rfl h
  | [], _ :: _, _ => by simp [sameL]
  | _ :: _, [], _ => by simp [sameL]
  | x :: xs, y :: ys, h => by
    unfold sameL
    rw [sameL_len (xs := xs) (ys := ys) (fun e => h (by simp [e])), Bool.and_false]
def sameS (n : Nat) : DSp := fun ds L k _ => ∃ a b, ds = [a, b] ∧ okP a = true ∧ okP b = true ∧ dep b < n ∧ k (.bl (sameD a b)) L
/-! ### gcd -/
def gcdI (a b : Int) : Int := ((Nat.gcd a.natAbs b.natAbs : Nat) : Int)
def gcdS : DSp := fun ds L k _ => ∃ a b : Int, ds = [.int a, .int b] ∧ a.natAbs < 2 ^ 1990 ∧ b.natAbs < 2 ^ 1990 ∧ k (.int (gcdI a b)) L
theorem gcdI_step {x y : Int} (hx : 0 ≤ x) (hy : 0 < y) : gcdI y (x.fmod y) = gcdI x y := by
  unfold gcdI
  rw [Int.fmod_eq_emod_of_nonneg x (Int.le_of_lt hy)]
  have h1 : (x % y).natAbs = x.natAbs % y.natAbs := by
    obtain ⟨a, rfl⟩ := Int.eq_ofNat_of_zero_le hx
    obtain ⟨b, rfl⟩ := Int.eq_ofNat_of_zero_le (Int.le_of_lt hy)
    rfl
  rw [h1, Nat.gcd_comm x.natAbs y.natAbs, Nat.gcd_rec y.natAbs x.natAbs, Nat.gcd_comm]
theorem gcdI_zero {x : Int} (hx : 0 ≤ x) : gcdI x 0 = x := by
  unfold gcdI
  rw [show (0 : Int).natAbs = 0 from rfl, Nat.gcd_zero_right]
  omega
theorem gcdI_abs (a b : Int) : gcdI (if a < 0 then -a else a) (if b < 0 then -b else b) = gcdI a b := by
  unfold gcdI
  have h : ∀ z : Int, (if z < 0 then -z else z).natAbs = z.natAbs := fun z => by split <;> omega
  rw [h, h]
theorem fmod_bounds {x y : Int} (hx : 0 ≤ x) (hy : 0 < y) : 0 ≤ x.fmod y ∧ x.fmod y < y ∧ x.fmod y ≤ x := by
  rw [Int.fmod_eq_emod_of_nonneg x (Int.le_of_lt hy)]
  have e : x = y * (x / y) + x % y := (Int.mul_ediv_add_emod x y).symm
  have q : 0 ≤ y * (x / y) := Int.mul_nonneg (Int.le_of_lt hy) (Int.ediv_nonneg hx (Int.le_of_lt hy))
  exact ⟨Int.emod_nonneg _ (by omega), Int.emod_lt_of_pos _ hy, by omega⟩

/-- Euclid's steps: the product falls by half -/
theorem half_step {x y : Int} (hy : 0 < y) (h : y ≤ x) : 2 * (y * x.fmod y) ≤ x * y := by
  obtain ⟨h0, h1, _⟩ := fmod_bounds (x := x) (y := y) (by omega) hy
  have e : x = y * (x / y) + x % y := (Int.mul_ediv_add_emod x y).symm
  have e2 : x.fmod y = x % y := Int.fmod_eq_emod_of_nonneg x (Int.le_of_lt hy)
  have q1 : 1 ≤ x / y := by
    have := Int.ediv_le_ediv hy h
    rw [Int.ediv_self (by omega)] at this
    exact this
  have q2 : y * 1 ≤ y * (x / y) := Int.mul_le_mul_of_nonneg_left q1 (Int.le_of_lt hy)
  have q3 : 2 * x.fmod y ≤ x := by rw [e2]; rw [e2] at h1; omega
  have q4 : y * (2 * x.fmod y) ≤ y * x := Int.mul_le_mul_of_nonneg_left q3 (Int.le_of_lt hy)
  rw [Int.mul_comm x y, ← Int.mul_assoc, Int.mul_comm 2 y, Int.mul_assoc]
  exact q4
/-! ### lowest terms -/
def lowI (t u : Int) : Int × Int := let g := if u < 0 then 0 - gcdI t u else gcdI t u; (t.fdiv g, u.fdiv g)
def lowS : DSp := fun ds L k _ => ∃ t u : Int, ds = [.int t, .int u] ∧ u ≠ 0 ∧ t.natAbs < 2 ^ 1990 ∧ u.natAbs < 2 ^ 1990 ∧ k (.tup [.int (lowI t u).1, .int (lowI t u).2]) L
theorem gcdI_nonneg (a b : Int) : 0 ≤ gcdI a b := Int.natCast_nonneg _
theorem gcdI_pos {a b : Int} (h : b ≠ 0) : 0 < gcdI a b := by
  unfold gcdI
  have : 0 < Nat.gcd a.natAbs b.natAbs := Nat.gcd_pos_of_pos_right _ (by omega)
  omega
theorem gcdI_dvd_left (a b : Int) : gcdI a b ∣ a := Int.natAbs_dvd_natAbs.mp (by unfold gcdI; rw [Int.natAbs_natCast]; exact Nat.gcd_dvd_left _ _)
theorem gcdI_dvd_right (a b : Int) : gcdI a b ∣ b := Int.natAbs_dvd_natAbs.mp (by unfold gcdI; rw [Int.natAbs_natCast]; exact Nat.gcd_dvd_right _ _)
theorem gcdI_le {a b : Int} (h : b ≠ 0) : gcdI a b ≤ b.natAbs := by
  unfold gcdI
  have : Nat.gcd a.natAbs b.natAbs ≤ b.natAbs := Nat.gcd_le_right _ (by omega)
  omega
theorem fdiv_exact {a g : Int} (hg : g ≠ 0) (h : g ∣ a) : a.fdiv g * g = a := by
  obtain ⟨c, rfl⟩ := h
  rw [Int.mul_comm g c, Int.mul_fdiv_cancel _ hg]
/-- what lowest terms are: t / u = p / q, q above 0, no common divisor -/
theorem lowI_spec {t u : Int} (hu : u ≠ 0) : 0 < (lowI t u).2 ∧ gcdI (lowI t u).1 (lowI t u).2 = 1 ∧ (lowI t u).1 * u = t * (lowI t u).2 := by
  have hg := gcdI_pos (a := t) hu
  have hs : ∃ s : Int, s ≠ 0 ∧ (s = gcdI t u ∨ s = - gcdI t u) ∧ lowI t u = (t.fdiv s, u.fdiv s) ∧ (0 < u → 0 < s) ∧ (u < 0 → s < 0) := by
    unfold lowI
    by_cases h : u < 0
    · exact ⟨0 - gcdI t u, by omega, by omega, by simp only [if_pos h], by omega, by omega⟩
    · exact ⟨gcdI t u, by omega, by omega, by simp only [if_neg h], by omega, by omega⟩
  obtain ⟨s, s0, s1, e, sp, sn⟩ := hs
  have d1 : s ∣ t := by
    rcases s1 with h | h
    · rw [h]; exact gcdI_dvd_left t u
    · rw [h]; exact Int.neg_dvd.mpr (gcdI_dvd_left t u)
  have d2 : s ∣ u := by
    rcases s1 with h | h
    · rw [h]; exact gcdI_dvd_right t u
    · rw [h]; exact Int.neg_dvd.mpr (gcdI_dvd_right t u)
  have e1 := fdiv_exact s0 d1
  have e2 := fdiv_exact s0 d2
  rw [e]
  dsimp only
  generalize t.fdiv s = p at *
  generalize u.fdiv s = q at *
  have hq : 0 < q := by
    rcases Int.lt_or_lt_of_ne hu with h | h
    · have := sn h
      rcases Int.lt_trichotomy q 0 with z | z | z
      · have := Int.mul_pos_of_neg_of_neg z this; omega
      · rw [z] at e2; omega
      · exact z
    · have := sp h
      rcases Int.lt_trichotomy q 0 with z | z | z
      · have := Int.mul_neg_of_neg_of_pos z this; omega
      · rw [z] at e2; omega
      · exact z
  refine ⟨hq, ?_, ?_⟩
  · have sa : s.natAbs = Nat.gcd t.natAbs u.natAbs := by
      have : (gcdI t u).natAbs = Nat.gcd t.natAbs u.natAbs := by unfold gcdI; rw [Int.natAbs_natCast]
      rcases s1 with h | h
      · rw [h, this]
      · rw [h, Int.natAbs_neg, this]
    have ta : t.natAbs = p.natAbs * s.natAbs := by rw [← e1, Int.natAbs_mul]
    have ua : u.natAbs = q.natAbs * s.natAbs := by rw [← e2, Int.natAbs_mul]
    have hs0 : 0 < s.natAbs := by omega
    have k : Nat.gcd p.natAbs q.natAbs * s.natAbs = 1 * s.natAbs := by
      rw [← Nat.gcd_mul_right, ← ta, ← ua, ← sa, Nat.one_mul]
    unfold gcdI
    rw [Nat.eq_of_mul_eq_mul_right hs0 k]
    rfl
  · have e1' : t = p * s := e1.symm
    have e2' : u = q * s := e2.symm
    rw [e1', e2', Int.mul_assoc, Int.mul_comm s q]
theorem lowI_small {t u : Int} (hu : u ≠ 0) : (lowI t u).1.natAbs ≤ t.natAbs ∧ (lowI t u).2.natAbs ≤ u.natAbs := by
  have key : ∀ a s : Int, s ≠ 0 → s ∣ a → (a.fdiv s).natAbs ≤ a.natAbs := fun a s h0 h => by
    have e := congrArg Int.natAbs (fdiv_exact h0 h)
    rw [Int.natAbs_mul] at e
    have : 1 ≤ s.natAbs := by omega
    calc (a.fdiv s).natAbs = (a.fdiv s).natAbs * 1 := (Nat.mul_one _).symm
      _ ≤ (a.fdiv s).natAbs * s.natAbs := Nat.mul_le_mul_left _ this
      _ = a.natAbs := e
  have hg := gcdI_pos (a := t) hu
  unfold lowI
  by_cases h : u < 0
  · simp only [if_pos h]
    have z : (0 : Int) - gcdI t u = - gcdI t u := by omega
    rw [z]
    exact ⟨key t _ (by omega) (Int.neg_dvd.mpr (gcdI_dvd_left t u)), key u _ (by omega) (Int.neg_dvd.mpr (gcdI_dvd_right t u))⟩
  · simp only [if_neg h]
    exact ⟨key t _ (by omega) (gcdI_dvd_left t u), key u _ (by omega) (gcdI_dvd_right t u)⟩
/-- a ratio: lowest terms -/
structure Low (p q : Int) : Prop where
  pos : 0 < q
  one : gcdI p q = 1
def ratS : DSp := fun ds L k _ => ∃ (b : Addr) (g : Bag) (h u : Int), ds = [.ptr b, .int h, .int u] ∧ L.lookup b = some (bagC g) ∧ BagOk g ∧ 0 ≤ h ∧ h < 2 ^ 1900 ∧ 0 < u ∧ u < 2 ^ 1900 ∧
  ∀ p q g', Low p q → -h ≤ p → p ≤ h → q ≤ u → BagOk g' → k (.tup [.int p, .int q]) (setL L b (bagC g'))
/-! ### loops by a word -/
theorem forD_inv {dg : DG} {db : DS} {En : DEnds} (I : DEnv → Led → Prop) (hn : ∀ env L, I env L → En.nx env L) : ∀ (ds : List D), (∀ (E' : DEnds) (d : D) (env : DEnv) (L : Led), d ∈ ds → E'.rt = En.rt → E'.ex = En.ex → I env L → (∀ env' L', I env' L' → E'.nx env' L') → dg d env L fun env1 => db E' env1 L) →
    ∀ (env : DEnv) (L : Led), I env L → forD dg db En ds env L
  | [], _, env, L, hi => by rw [forD_nil]; exact hn env L hi
  | d :: ds, hb, env, L, hi => by
    rw [forD_cons]
    exact hb _ d env L List.mem_cons_self rfl rfl hi fun env' L' hi' => forD_inv I hn ds (fun E' d env L hd => hb E' d env L (List.mem_cons_of_mem _ hd)) env' L' hi'
theorem setL_one {p : Addr} {c d : D} : setL [(p, c)] p d = [(p, d)] := setL_top (by simp [inL])
theorem lt1990 {n : Nat} (h : n < 10 ^ 70) : n < 2 ^ 1990 := Nat.lt_trans h (by decide +kernel)
theorem log_le {n : Nat} (h : n < 2 ^ 1000) : n.log2 < 9000 := by
  by_cases h0 : n = 0
  · subst h0; decide +kernel
  · have : n.log2 < 1000 := (Nat.log2_lt h0).mpr h
    omega
theorem sz_ok {n : Nat} (h : Nat.ble n 1000 = true) : n ≤ sizeLine := Nat.le_trans (Nat.le_of_ble_eq_true h) (by decide)
end DL

namespace DL
open PySem PySem.Spec PyProof.Rows L2
/-- as walk_of, the loose names' values told -/
theorem walk_ofX {l : PySem.W.OpenLaw} {n k : Nat} {q : Program} {loose : List Str} {XP : (Str → Option Value) → Heap → Prop} {YP : World → Heap → Prop} {d : DefRec} {K : Params → PySem.W.Frag} {CX : World → CXT} {sp : World → Sp} {x : Str}
    (hn : l.most = some n) (hn2 : n ≤ sizeLine) (hdf : d.params.defaults = []) (hr : Room k callerA)
    (hY : ∀ (w : World) (h : Heap), YP w h → (K w.params).In h)
    (F : ∀ (w : World) (mg : Str → Option Value) (fa : Addr) (h : Heap), (K w.params).In h → XP mg h → h.Ns mainGlobals mg → mg d.name = some (.ref fa) →
      ∃ fd : FuncData, (∀ (s : Shared) (u : Value), BindsTo s fd ⟨[u], []⟩ [(x, u)]) ∧
        ∀ base : Heap, (K w.params).In base → base.Ns mainGlobals mg → FnOk l.prog w (K w.params) mg base (CX w) k fa fd [x] (sp w))
    (hsp : ∀ (w : World) (H : Hp) (a : Addr) (ns : List Int), ns.length ≤ n → Only H → SqL (K w.params) H a (ns.map V.int) → sp w [.ref a] H (fun v _ => v = .bl true) fun _ _ _ => False)
    (hCX : ∀ (w : World) (H : Hp) (s : Shared) (e : Value) (s' : Shared), CX w [] H s (fun _ _ _ => False) e s' → False) :
    PySem.W.WalkO q loose XP YP l.row.toRowW d [] (fun f vs => PySem.call f vs) := by
  refine Att.attach_call hn hdf fun w s₀ s₁ mg mb fa o pm cd doc a vs ns G Y ho hd hcd hmg hobj hints hlen hg => ?_
  have KX := hY w _ Y
  obtain ⟨fd, hb, hF⟩ := F w mg fa _ KX G.X G.T.g hmg
  exact law_call KX G.T.g G.T.b G.T.builtins G.T.nolimit hg hobj hints (Nat.le_trans hlen hn2) hr hF hb (fun H hO hS => hsp w H a ns hlen hO hS) fun H e s' => hCX w H s₁ e s'
theorem loose_int {p : Program} {lv : List (Str × PySem.W.WData)} {mg : Str → Option Value} {h : Heap} (X : PySem.W.XL p lv mg h) {x : Str} {n : Int} (hx : (x, PySem.W.WData.int n) ∈ lv) : ∃ t, mg x = some (.int n t) := by
  obtain ⟨v, h1, h2⟩ := X.2.val _ hx
  cases h2 with
  | int i t => exact ⟨t, h1⟩
end DL

namespace T02
open PySem L2 DL
def top (i : Nat) : Stmt := PySem.Challenge.pw_nearspokes_k02_ratios_judged.main.body.getD i (.Pass ⟨0, 0, 0, 0⟩)
abbrev sIsInteger : Stmt := top 3
abbrev sIsNumber : Stmt := top 4
abbrev sIsLowest : Stmt := top 5
abbrev sIsRatio : Stmt := top 6
abbrev sIsPoint : Stmt := top 7
abbrev sLBag : Stmt := top 9
abbrev sLPull : Stmt := top 10
abbrev sLOf : Stmt := top 11
abbrev sLSame : Stmt := top 12
abbrev sLGcd : Stmt := top 13
abbrev sLLow : Stmt := top 14
abbrev sLRatio : Stmt := top 15
abbrev sLaw : Stmt := top 16
structure Zn (mg : Str → Option Value) : Prop where
  z_isinstance : mg "isinstance" = none
  z_int : mg "int" = none
  z_bool : mg "bool" = none
  z_str : mg "str" = none
  z_list : mg "list" = none
  z_tuple : mg "tuple" = none
  z_len : mg "len" = none
  z_abs : mg "abs" = none
  z_all : mg "all" = none
  z_range : mg "range" = none
  z_zip : mg "zip" = none
  g_gcd : mg "gcd" = some (.builtin "math.gcd")
  g_LARGEST : ∃ t, mg "LARGEST" = some (.int 999999999999999999999999999999 t)
section
variable {P : Program} {w : World} {K : PySem.W.Frag} {mg : Str → Option Value} {base : Heap}
local macro_rules | `(tactic| walk_at "w") => `(tactic| conv => whnf)
local macro_rules | `(tactic| walk_at "v") => `(tactic| ((conv => whnf); try dsimp only))

def isIntS : DSp := fun ds L k _ => ∃ d, ds = [d] ∧ okT d = true ∧ k (.bl (isInt d)) L
def isNumD (a b : Int) : D → Bool
  | .int i => decide (a ≤ i) && decide (i ≤ b)
  | _ => false
def isNumS : DSp := fun ds L k _ => ∃ d a b, ds = [d, .int a, .int b] ∧ okT d = true ∧ k (.bl (isNumD a b d)) L
def okT2 (d : D) : Prop := okT d = true ∧ ∀ a b, d = .tup [a, b] → okT a = true ∧ okT b = true
def lowD : D → Bool
  | .tup [.int t, .int b] => decide (0 < b) && decide (gcdI t b = 1)
  | _ => false
def isLowS : DSp := fun ds L k _ => ∃ d, ds = [d] ∧ okT2 d ∧ k (.bl (lowD d)) L
def ratD : D → Bool
  | .tup [.int t, .int b] => decide (0 < b) && decide (gcdI t b = 1) && (decide ((if t < 0 then -t else t) ≤ 999999999999999999999999999999) && decide (b ≤ 999999999999999999999999999999))
  | _ => false
def isRatS : DSp := fun ds L k _ => ∃ d, ds = [d] ∧ okT2 d ∧ k (.bl (ratD d)) L
def ptD : D → Bool
  | .tup [a, b] => ratD a && ratD b
  | _ => false
def okT3 (d : D) : Prop := okT d = true ∧ ∀ a b, d = .tup [a, b] → okT2 a ∧ okT2 b
def isPtS : DSp := fun ds L k _ => ∃ d, ds = [d] ∧ okT3 d ∧ k (.bl (ptD d)) L
theorem scIsInteger : FnScope ["value"] ["value"] (defScope sIsInteger) := ⟨rfl, rfl, rfl, by decide +kernel, rfl, by decide +kernel, by decide +kernel⟩
theorem ok_IsInteger {f : Addr} {fd : FuncData} (Z : Zn mg) (F : Fun K "is_integer" "is_integer" sIsInteger f fd) : FnOk P w K mg base (L2.CX P w) 1 f fd ["value"] (spD K isIntS) := by
  refine fn_ok F scIsInteger ?len (fun cdv A outer s H E hr => ?_)
  rotate_left
  · have tk := takes_of (X := cxOf (L2.CX P w) P w K mg base ["value"] "is_integer" (defScope sIsInteger) f cdv A outer s H E) (E := E) rfl rfl rfl rfl
    have hp := passes_of (X := cxOf (L2.CX P w) P w K mg base ["value"] "is_integer" (defScope sIsInteger) f cdv A outer s H E) rfl
    refine ⟨_, (ss_one (s_ret (q_and (q_isi .int (qv 0) (by rfl) Z.z_isinstance (by rfl) Z.z_int bb_int) (q_one (q_not (q_isi .bl (qv 0) (by rfl) Z.z_isinstance (by rfl) Z.z_bool bb_bool)))))), ?_⟩
    clear tk hp
    rintro ds L k x ⟨d, rfl, h1, h⟩
    cases d <;> first | exact h | cases h1
  · rintro ds L k x ⟨d, rfl, _⟩; rfl
theorem scIsNumber : FnScope ["value", "least", "most"] ["value", "least", "most"] (defScope sIsNumber) := ⟨rfl, rfl, rfl, by decide +kernel, rfl, by decide +kernel, by decide +kernel⟩
theorem ok_IsNumber {f : Addr} {fd : FuncData} (Z : Zn mg) (F : Fun K "is_number" "is_number" sIsNumber f fd) (CIsInteger : Cal P w K mg base 1 "is_integer" ["value"] [] isIntS) : FnOk P w K mg base (L2.CX P w) 2 f fd ["value", "least", "most"] (spD K isNumS) := by
  refine fn_ok F scIsNumber ?len (fun cdv A outer s H E hr => ?_)
  rotate_left
  · have tk := takes_of (X := cxOf (L2.CX P w) P w K mg base ["value", "least", "most"] "is_number" (defScope sIsNumber) f cdv A outer s H E) (E := E) rfl rfl rfl rfl
    have hp := passes_of (X := cxOf (L2.CX P w) P w K mg base ["value", "least", "most"] "is_number" (defScope sIsNumber) f cdv A outer s H E) rfl
    refine ⟨_, (ss_one (s_ret (q_and (q_cal CIsInteger (by first | decide | exact Nat.le_refl _) hr tk (by rfl) (a_cons (qv 0) a_nil)) (q_one (q_chain oq_le oq_le (qv 1) (qv 0) (qv 2)))))), ?_⟩
    clear tk hp
    rintro ds L k x ⟨d, a, b, rfl, h1, h⟩
    walk_at "v"
    refine ⟨d, rfl, h1, ?_⟩
    cases d with
    | int i =>
      walk_at "v"
      have h : k (.bl (decide (a ≤ i) && decide (i ≤ b))) L := h
      cases h2 : decide (a ≤ i) with
      | true => rw [h2, Bool.true_and] at h; exact h
      | false => rw [h2, Bool.false_and] at h; exact h
    | _ => first | exact h | cases h1
  · rintro ds L k x ⟨d, a, b, rfl, _⟩; rfl
theorem scIsLowest : FnScope ["value", "top", "bottom"] ["value"] (defScope sIsLowest) := ⟨rfl, rfl, rfl, by decide +kernel, rfl, by decide +kernel, by decide +kernel⟩
theorem ok_IsLowest {f : Addr} {fd : FuncData} (Z : Zn mg) (F : Fun K "is_lowest" "is_lowest" sIsLowest f fd) (CIsInteger : Cal P w K mg base 1 "is_integer" ["value"] [] isIntS) : FnOk P w K mg base (L2.CX P w) 2 f fd ["value"] (spD K isLowS) := by
  refine fn_ok F scIsLowest ?len (fun cdv A outer s H E hr => ?_)
  rotate_left
  · have tk := takes_of (X := cxOf (L2.CX P w) P w K mg base ["value", "top", "bottom"] "is_lowest" (defScope sIsLowest) f cdv A outer s H E) (E := E) rfl rfl rfl rfl
    have hp := passes_of (X := cxOf (L2.CX P w) P w K mg base ["value", "top", "bottom"] "is_lowest" (defScope sIsLowest) f cdv A outer s H E) rfl
    refine ⟨_, (ss_cons (s_if (w_or (t_not (t_val (q_isi .tup (qv 0) (by rfl) Z.z_isinstance (by rfl) Z.z_tuple bb_tuple))) (w_or1 (t_cmp (oq_neU hr.units) (q_callB cq_len (by rfl) Z.z_len bb_len (a_cons (qv 0) a_nil)) q_int))).t (ss_one (s_ret q_bl)) ss_nil)
  (ss_cons (s_asg (qv 0) (g_tup (n := 2) rfl (gs_cons (g_name 1 scIsLowest.nd) (gs_cons (g_name 2 scIsLowest.nd) gs_nil))))
  (ss_one (s_ret (q_and (q_cal CIsInteger (by first | decide | exact Nat.le_refl _) hr tk (by rfl) (a_cons (qv 1) a_nil)) (q_and (q_cal CIsInteger (by first | decide | exact Nat.le_refl _) hr tk (by rfl) (a_cons (qv 2) a_nil)) (q_and (q_cmp oq_gt (qv 2) q_int) (q_one (q_cmp (oq_eqU hr.units) (q_callF cq_gcd (by rfl) Z.g_gcd (a_cons (qv 1) (a_cons (qv 2) a_nil))) q_int))))))))), ?_⟩
    clear tk hp
    rintro ds L k x ⟨d, rfl, ⟨h1, h2⟩, h⟩
    cases d with
    | tup xs =>
      match xs, h2, h with
      | [], _, h => exact h
      | [a], _, h =>
        have e : lowD (.tup [a]) = false := by cases a <;> rfl
        rw [e] at h
        exact h
      | a :: b :: c :: r, _, h =>
        have e : lowD (.tup (a :: b :: c :: r)) = false := by cases a <;> cases b <;> rfl
        rw [e] at h
        exact h
      | [a, b], h2, h =>
        obtain ⟨ha, hb⟩ := h2 a b rfl
        walk_at "v"
        refine ⟨rfl, a, rfl, ha, ?_⟩
        cases a with
        | int t =>
          walk_at "v"
          refine ⟨b, rfl, hb, ?_⟩
          cases b with
          | int u =>
            have h : k (.bl (decide (0 < u) && decide (gcdI t u = 1))) L := h
            walk_at "v"
            cases h3 : decide (0 < u) with
            | true => rw [h3, Bool.true_and] at h; exact h
            | false => rw [h3, Bool.false_and] at h; exact h
          | _ => exact h
        | _ => exact h
    | _ => first | exact h | cases h1
  · rintro ds L k x ⟨d, rfl, _⟩; rfl
theorem scIsRatio : FnScope ["value"] ["value"] (defScope sIsRatio) := ⟨rfl, rfl, rfl, by decide +kernel, rfl, by decide +kernel, by decide +kernel⟩
theorem ok_IsRatio {f : Addr} {fd : FuncData} (Z : Zn mg) (F : Fun K "is_ratio" "is_ratio" sIsRatio f fd) (CIsLowest : Cal P w K mg base 2 "is_lowest" ["value"] [] isLowS) : FnOk P w K mg base (L2.CX P w) 3 f fd ["value"] (spD K isRatS) := by
  refine fn_ok F scIsRatio ?len (fun cdv A outer s H E hr => ?_)
  rotate_left
  · have tk := takes_of (X := cxOf (L2.CX P w) P w K mg base ["value"] "is_ratio" (defScope sIsRatio) f cdv A outer s H E) (E := E) rfl rfl rfl rfl
    have hp := passes_of (X := cxOf (L2.CX P w) P w K mg base ["value"] "is_ratio" (defScope sIsRatio) f cdv A outer s H E) rfl
    refine ⟨_, (ss_one (s_ret (q_and (q_cal CIsLowest (by first | decide | exact Nat.le_refl _) hr tk (by rfl) (a_cons (qv 0) a_nil)) (q_and (q_cmp oq_le (q_callB cq_abs (by rfl) Z.z_abs bb_abs (a_cons (q_ix (qv 0) q_int) a_nil)) (q_glob (v := .int 999999999999999999999999999999) (d := .int 999999999999999999999999999999) (by rfl) Z.g_LARGEST.choose_spec ⟨_, rfl⟩ (fun _ _ => .int _))) (q_one (q_cmp oq_le (q_ix (qv 0) q_int) (q_glob (v := .int 999999999999999999999999999999) (d := .int 999999999999999999999999999999) (by rfl) Z.g_LARGEST.choose_spec ⟨_, rfl⟩ (fun _ _ => .int _)))))))), ?_⟩
    clear tk hp
    rintro ds L k x ⟨d, rfl, h1, h⟩
    walk_at "v"
    refine ⟨d, rfl, h1, ?_⟩
    by_cases hd : ∃ t b, d = .tup [.int t, .int b]
    · obtain ⟨t, b, rfl⟩ := hd
      have h : k (.bl (lowD (.tup [.int t, .int b]) && (decide ((if t < 0 then -t else t) ≤ 999999999999999999999999999999) && decide (b ≤ 999999999999999999999999999999)))) L := h
      walk_at "v"
      cases h2 : lowD (.tup [.int t, .int b]) with
      | false => rw [h2, Bool.false_and] at h; exact h
      | true =>
        rw [h2, Bool.true_and] at h
        walk_at "v"
        cases h3 : decide ((if t < 0 then -t else t) ≤ 999999999999999999999999999999) with
        | true => rw [h3, Bool.true_and] at h; exact h
        | false => rw [h3, Bool.false_and] at h; exact h
    · have e1 : lowD d = false := by
        unfold lowD
        split
        · rename_i t b; exact absurd ⟨t, b, rfl⟩ hd
        · rfl
      have e2 : ratD d = false := by
        unfold ratD
        split
        · rename_i t b; exact absurd ⟨t, b, rfl⟩ hd
        · rfl
      rw [e1]
      rw [e2] at h
      exact h
  · rintro ds L k x ⟨d, rfl, _⟩; rfl
theorem scIsPoint : FnScope ["value"] ["value"] (defScope sIsPoint) := ⟨rfl, rfl, rfl, by decide +kernel, rfl, by decide +kernel, by decide +kernel⟩
theorem ok_IsPoint {f : Addr} {fd : FuncData} (Z : Zn mg) (F : Fun K "is_point" "is_point" sIsPoint f fd) (CIsRatio : Cal P w K mg base 3 "is_ratio" ["value"] [] isRatS) : FnOk P w K mg base (L2.CX P w) 4 f fd ["value"] (spD K isPtS) := by
  refine fn_ok F scIsPoint ?len (fun cdv A outer s H E hr => ?_)
  rotate_left
  · have tk := takes_of (X := cxOf (L2.CX P w) P w K mg base ["value"] "is_point" (defScope sIsPoint) f cdv A outer s H E) (E := E) rfl rfl rfl rfl
    have hp := passes_of (X := cxOf (L2.CX P w) P w K mg base ["value"] "is_point" (defScope sIsPoint) f cdv A outer s H E) rfl
    refine ⟨_, (ss_one (s_ret (q_and (q_isi .tup (qv 0) (by rfl) Z.z_isinstance (by rfl) Z.z_tuple bb_tuple) (q_and (q_cmp (oq_eqU hr.units) (q_callB cq_len (by rfl) Z.z_len bb_len (a_cons (qv 0) a_nil)) q_int) (q_and (q_cal CIsRatio (by first | decide | exact Nat.le_refl _) hr tk (by rfl) (a_cons (q_ix (qv 0) q_int) a_nil)) (q_one (q_cal CIsRatio (by first | decide | exact Nat.le_refl _) hr tk (by rfl) (a_cons (q_ix (qv 0) q_int) a_nil)))))))), ?_⟩
    clear tk hp
    rintro ds L k x ⟨d, rfl, ⟨h1, h2⟩, h⟩
    cases d with
    | tup xs =>
      match xs, h2, h with
      | [], _, h => exact h
      | [_], _, h => exact h
      | a :: b :: c :: r, _, h =>
        exact h
      | [a, b], h2, h =>
        obtain ⟨ha, hb⟩ := h2 a b rfl
        have h : k (.bl (ratD a && ratD b)) L := h
        walk_at "v"
        refine ⟨a, rfl, ha, ?_⟩
        walk_at "v"
        cases h3 : ratD a with
        | false => rw [h3, Bool.false_and] at h; exact h
        | true =>
          rw [h3, Bool.true_and] at h
          walk_at "v"
          exact ⟨b, rfl, hb, h⟩
    | _ => first | exact h | cases h1
  · rintro ds L k x ⟨d, rfl, _⟩; rfl
theorem scLBag : FnScope ["_law_script", "_law_mixed", "_law_cell"] ["_law_script"] (defScope sLBag) := ⟨rfl, rfl, rfl, by decide +kernel, rfl, by decide +kernel, by decide +kernel⟩
theorem ok_LBag {f : Addr} {fd : FuncData} (Z : Zn mg) (F : Fun K "_law_bag" "_law_bag" sLBag f fd) : FnOk P w K mg base (L2.CX P w) 1 f fd ["_law_script"] (spD K bagS) := by
  refine fn_ok F scLBag ?len (fun cdv A outer s H E hr => ?_)
  rotate_left
  · have tk := takes_of (X := cxOf (L2.CX P w) P w K mg base ["_law_script", "_law_mixed", "_law_cell"] "_law_bag" (defScope sLBag) f cdv A outer s H E) (E := E) rfl rfl rfl rfl
    have hp := passes_of (X := cxOf (L2.CX P w) P w K mg base ["_law_script", "_law_mixed", "_law_cell"] "_law_bag" (defScope sLBag) f cdv A outer s H E) rfl
    refine ⟨_, (ss_cons (s_set 1 scLBag.nd q_int)
  (ss_cons (s_for hp rfl (i_list (q_slice (qv 0) o_none (o_some q_int))) (g_name 2 scLBag.nd) (ss_one (s_set 1 scLBag.nd (q_op oq_mod (q_callTy cq_int (by rfl) Z.z_int bb_int (a_cons (q_op oq_add (q_op oq_add (q_op oq_mulU (qv 1) q_int) (q_op oq_mod (q_callTy cq_int (by rfl) Z.z_int bb_int (a_cons (qv 2) a_nil)) q_int)) q_int) a_nil)) q_int))))
  (ss_one (s_ret (q_lstM (a_cons (q_callTy cq_list (by rfl) Z.z_list bb_list (a_cons (q_slice (qv 0) o_none (o_some q_int)) a_nil)) (a_cons q_int (a_cons q_int (a_cons (qv 1) (a_cons q_int a_nil)))))))))), ?_⟩
    clear tk hp
    rintro ds L k x ⟨ns, rfl, h⟩
    obtain ⟨ms, e⟩ : ∃ ms : List Int, cutD (ns.map .int) none (some 63) = ms.map .int := ⟨(ns.drop (HT.sIx (ns.map D.int).length 0 none)).take (HT.sIx (ns.map D.int).length (ns.map D.int).length (some 63) - HT.sIx (ns.map D.int).length 0 none), by unfold cutD; rw [List.map_take, List.map_drop]⟩
    have key : ∀ (En : DEnds) (db : DS), (∀ (m : Int) (o : Option D), 0 ≤ m → m < 2147483497 → En.nx [some (.ro (ns.map .int)), some (.int m), o] L) →
        (∀ (E' : DEnds) (m v : Int), (∀ m' : Int, 0 ≤ m' → m' < 2147483497 → E'.nx [some (.ro (ns.map .int)), some (.int m'), some (.int v)] L) → db E' [some (.ro (ns.map .int)), some (.int m), some (.int v)] L) →
        ∀ (ms : List Int) (m : Int) (o : Option D), 0 ≤ m → m < 2147483497 → forD (dgName 2) db En (ms.map .int) [some (.ro (ns.map .int)), some (.int m), o] L := by
      intro En db hn hb ms
      induction ms with
      | nil => intro m o h0 h1; rw [List.map_nil, forD_nil]; exact hn m o h0 h1
      | cons v r ih => intro m o h0 h1; rw [List.map_cons, forD_cons]; exact hb _ m v fun m' q0 q1 => ih m' (some (.int v)) q0 q1
    walk_at "w"
    rw [e]
    refine key _ _ (fun m o h0 h1 => ?_) (fun E' m v hn => ?_) ms 12019 none (by decide) (by decide)
    · walk_at "w"
      rw [e]
      refine ⟨(by show 5 ≤ sizeLine; decide), fun p hp => ?_⟩
      exact h p ⟨ms, 0, 0, m, 0⟩ hp ⟨Int.le_refl 0, Int.natCast_nonneg _, Int.le_refl 0, h0, h1⟩
    · walk_at "w"
      refine ⟨.inl (.inr (by decide)), ?_⟩
      walk_at "w"
      refine ⟨(by show (2147483423 : Int) ≠ 0; decide), ?_⟩
      walk_at "w"
      refine ⟨(by show (2147483497 : Int) ≠ 0; decide), ?_⟩
      refine hn _ ?_ ?_
      · rw [Int.fmod_eq_emod_of_nonneg _ (by decide)]; exact Int.emod_nonneg _ (by decide)
      · rw [Int.fmod_eq_emod_of_nonneg _ (by decide)]; exact Int.emod_lt_of_pos _ (by decide)
  · rintro ds L k x ⟨ns, rfl, _⟩; rfl
theorem scLPull : FnScope ["_law_bag_here", "_law_many", "_law_cell", "_law_digit", "_law_seed"] ["_law_bag_here", "_law_many"] (defScope sLPull) := ⟨rfl, rfl, rfl, by decide +kernel, rfl, by decide +kernel, by decide +kernel⟩
theorem ok_LPull {f : Addr} {fd : FuncData} (Z : Zn mg) (F : Fun K "_law_pull" "_law_pull" sLPull f fd) : FnOk P w K mg base (L2.CX P w) 1 f fd ["_law_bag_here", "_law_many"] (spD K pullS) := by
  refine fn_ok F scLPull ?len (fun cdv A outer s H E hr => ?_)
  rotate_left
  · have tk := takes_of (X := cxOf (L2.CX P w) P w K mg base ["_law_bag_here", "_law_many", "_law_cell", "_law_digit", "_law_seed"] "_law_pull" (defScope sLPull) f cdv A outer s H E) (E := E) rfl rfl rfl rfl
    have hp := passes_of (X := cxOf (L2.CX P w) P w K mg base ["_law_bag_here", "_law_many", "_law_cell", "_law_digit", "_law_seed"] "_law_pull" (defScope sLPull) f cdv A outer s H E) rfl
    refine ⟨_, (ss_cons (s_store (q_op oq_add (q_ix (qv 0) q_int) q_int) (qv 0) q_int)
  (ss_cut (s_if (w_and (t_cmp (oq_eqU hr.units) (q_ix (qv 0) q_int) q_int) (w_and1 (t_cmp oq_lt (q_ix (qv 0) q_int) (q_callB cq_len (by rfl) Z.z_len bb_len (a_cons (q_ix (qv 0) q_int) a_nil))))).t (ss_cons (s_set 2 scLPull.nd (q_ix (q_ix (qv 0) q_int) (q_ix (qv 0) q_int)))
  (ss_cons (s_store (q_op oq_add (q_ix (qv 0) q_int) q_int) (qv 0) q_int)
  (ss_one (s_if (t_cmp oq_ge (qv 2) (q_op oq_pow q_int q_int)) (ss_one (s_store (qv 2) (qv 0) q_int)) (ss_one (s_store (q_op oq_mod (q_callTy cq_int (by rfl) Z.z_int bb_int (a_cons (q_op oq_add (q_op oq_add (q_op oq_mulU (q_ix (qv 0) q_int) q_int) (q_op oq_mulU (q_op oq_mod (q_callTy cq_int (by rfl) Z.z_int bb_int (a_cons (qv 2) a_nil)) q_int) q_int)) q_int) a_nil)) q_int) (qv 0) q_int)))))) ss_nil)
  (ss_cons (s_if (t_cmp oq_gt (q_ix (qv 0) q_int) q_int) (ss_cons (s_set 3 scLPull.nd (q_op oq_mod (q_callTy cq_int (by rfl) Z.z_int bb_int (a_cons (q_ix (qv 0) q_int) a_nil)) (qv 1)))
  (ss_cons (s_store (q_op oq_fdiv (q_ix (qv 0) q_int) (qv 1)) (qv 0) q_int)
  (ss_one (s_ret (qv 3))))) ss_nil)
  (ss_cons (s_set 4 scLPull.nd (q_callTy cq_int (by rfl) Z.z_int bb_int (a_cons (q_ix (qv 0) q_int) a_nil)))
  (ss_cons (s_store (q_op oq_mod (q_callTy cq_int (by rfl) Z.z_int bb_int (a_cons (q_op oq_add (q_op oq_add (q_op oq_add (q_op oq_pow (qv 4) q_int) (q_op oq_mulU (qv 4) q_int)) (q_op oq_mulU (q_ix (qv 0) q_int) q_int)) q_int) a_nil)) q_int) (qv 0) q_int)
  (ss_one (s_ret (q_op oq_mod (q_callTy cq_int (by rfl) Z.z_int bb_int (a_cons (q_op oq_add (q_op oq_fdiv (q_ix (qv 0) q_int) q_int) (q_op oq_mulU (q_op oq_mod (q_callTy cq_int (by rfl) Z.z_int bb_int (a_cons (q_ix (qv 0) q_int) a_nil)) q_int) q_int)) a_nil)) (qv 1))))))))), ?_⟩
    clear tk hp
    rintro ds L k x ⟨p, b, m, rfl, hl, ok, m0, m1, h⟩
    obtain ⟨cs, at_, rest, mix, cnt⟩ := b
    have k1 : ∀ d, (setL L p d).lookup p = some d := fun d => lookup_setL hl
    walk_at "w"
    rw [con_ptr hl]
    walk_at "w"
    rw [hl]
    walk_at "w"
    refine ⟨fun env' L' => ∃ (b' : Bag) (o : Option D), BagOk b' ∧ env' = [some (.ptr p), some (.int m), o, none, none] ∧ L' = setL L p (bagC b'), ?_, ?_⟩
    · have st : ∀ (L' : Led) (b' : Bag) (o : Option D), BagOk b' → L' = setL L p (bagC b') → ∃ (b'' : Bag) (o' : Option D), BagOk b'' ∧ [some (D.ptr p), some (D.int m), o, none, none] = [some (.ptr p), some (.int m), o', none, none] ∧ L' = setL L p (bagC b'') := fun L' b' o z e => ⟨b', o, z, rfl, e⟩
      walk_at "w"
      rw [con_ptr (k1 _)]
      walk_at "w"
      try dsimp only
      cases h2 : flEq (D.int rest) (D.int 0) with
      | false => exact st _ ⟨cs, at_, rest, mix, cnt + 1⟩ none ⟨ok.a0, ok.a1, ok.r0, ok.m0, ok.m1⟩ rfl
      | true =>
        walk_at "w"
        rw [con_ptr (k1 _)]
        walk_at "w"
        rw [con_ptr (k1 _)]
        walk_at "w"
        try dsimp only
        cases h3 : decide (at_ < ((cs.map D.int).length : Int)) with
        | false => exact st _ ⟨cs, at_, rest, mix, cnt + 1⟩ none ⟨ok.a0, ok.a1, ok.r0, ok.m0, ok.m1⟩ rfl
        | true =>
          have h3 := of_decide_eq_true h3
          rw [List.length_map] at h3
          have a0 : 0 ≤ at_ := ok.a0
          obtain ⟨n, rfl⟩ := Int.eq_ofNat_of_zero_le a0
          have hn : n < cs.length := by omega
          have hat : atI (cs.map D.int) (n : Int) = some (.int cs[n]) := atI_nat (by rw [List.getElem?_map, List.getElem?_eq_getElem hn]; rfl)
          walk_at "w"
          rw [con_ptr (k1 _)]
          walk_at "w"
          rw [con_ptr (k1 _)]
          walk_at "w"
          rw [show atI (List.map D.int (Bag.mk cs (n : Int) rest mix cnt).cells) (Bag.mk cs (n : Int) rest mix cnt).at_ = some (D.int cs[n]) from hat]
          walk_at "w"
          rw [con_ptr (k1 _)]
          walk_at "w"
          rw [k1]
          walk_at "w"
          rw [setL_setL]
          walk_at "w"
          refine ⟨⟨by decide, by decide, by decide⟩, ?_⟩
          walk_at "w"
          cases h4 : decide ((10 : Int) ^ (Int.toNat 18) ≤ cs[n]) with
          | true =>
            have h4 := of_decide_eq_true h4
            walk_at "w"
            rw [k1]
            walk_at "w"
            rw [setL_setL]
            refine st _ ⟨cs, n + 1, cs[n], mix, cnt + 1⟩ _ ⟨?_, ?_, ?_, ok.m0, ok.m1⟩ rfl
            · show (0 : Int) ≤ n + 1; omega
            · show (n : Int) + 1 ≤ cs.length; omega
            · show 0 ≤ cs[n]
              have : (0 : Int) ≤ 10 ^ (Int.toNat 18) := by decide +kernel
              omega
          | false =>
            walk_at "w"
            rw [con_ptr (k1 _)]
            walk_at "w"
            refine ⟨.inl (.inr (by decide)), ?_⟩
            walk_at "w"
            refine ⟨(by show (2147483423 : Int) ≠ 0; decide), ?_⟩
            walk_at "w"
            refine ⟨.inl (.inr (by decide)), ?_⟩
            walk_at "w"
            refine ⟨(by show (2147483489 : Int) ≠ 0; decide), ?_⟩
            walk_at "w"
            rw [k1]
            walk_at "w"
            rw [setL_setL]
            refine st _ ⟨cs, n + 1, rest, (mix * 39317 + cs[n].fmod 2147483423 * 691 + 43).fmod 2147483489, cnt + 1⟩ _ ⟨?_, ?_, ok.r0, ?_, ?_⟩ rfl
            · show (0 : Int) ≤ n + 1; omega
            · show (n : Int) + 1 ≤ cs.length; omega
            · show (0 : Int) ≤ Int.fmod _ _
              rw [Int.fmod_eq_emod_of_nonneg _ (by decide)]; exact Int.emod_nonneg _ (by decide)
            · show Int.fmod _ _ < (2147483497 : Int)
              rw [Int.fmod_eq_emod_of_nonneg _ (by decide)]
              have := Int.emod_lt_of_pos (mix * 39317 + cs[n].fmod 2147483423 * 691 + 43) (show (0 : Int) < 2147483489 by decide)
              omega
    · rintro env' L' ⟨⟨cs, at_, rest, mix, cnt⟩, o, ok', rfl, rfl⟩
      have r0 : 0 ≤ rest := ok'.r0
      have fm : ∀ z : Int, 0 ≤ z.fmod m ∧ z.fmod m < m := fun z => by
        rw [Int.fmod_eq_emod_of_nonneg _ (Int.le_of_lt m0)]
        exact ⟨Int.emod_nonneg _ (by omega), Int.emod_lt_of_pos _ m0⟩
      walk_at "w"
      rw [con_ptr (k1 _)]
      walk_at "w"
      try dsimp only
      cases h2 : decide (0 < rest) with
      | true =>
        walk_at "w"
        rw [con_ptr (k1 _)]
        walk_at "w"
        refine ⟨(by show m ≠ 0; omega), ?_⟩
        walk_at "w"
        rw [con_ptr (k1 _)]
        walk_at "w"
        refine ⟨⟨(by omega), m1⟩, ?_⟩
        walk_at "w"
        rw [k1]
        walk_at "w"
        rw [setL_setL]
        refine h _ ⟨cs, at_, rest.fdiv m, mix, cnt⟩ (fm rest).1 (fm rest).2 ⟨ok'.a0, ok'.a1, ?_, ok'.m0, ok'.m1⟩
        exact Int.fdiv_nonneg r0 (Int.le_of_lt m0)
      | false =>
        walk_at "w"
        rw [con_ptr (k1 _)]
        walk_at "w"
        have hm0 : 0 ≤ mix := ok'.m0
        have hm1 : mix < 2147483497 := ok'.m1
        refine ⟨⟨by decide, by decide, (by show mix.natAbs < 2 ^ 64; omega)⟩, ?_⟩
        walk_at "w"
        refine ⟨.inl (.inr (by decide)), ?_⟩
        walk_at "w"
        rw [con_ptr (k1 _)]
        walk_at "w"
        refine ⟨.inl (.inr (by decide)), ?_⟩
        walk_at "w"
        refine ⟨(by show (2147483489 : Int) ≠ 0; decide), ?_⟩
        walk_at "w"
        rw [k1]
        walk_at "w"
        rw [setL_setL]
        rw [con_ptr (k1 _)]
        walk_at "w"
        refine ⟨⟨by decide, by decide +kernel⟩, ?_⟩
        walk_at "w"
        rw [con_ptr (k1 _)]
        walk_at "w"
        refine ⟨(by show (7919 : Int) ≠ 0; decide), ?_⟩
        walk_at "w"
        refine ⟨.inl (.inr (by decide)), ?_⟩
        walk_at "w"
        refine ⟨(by show m ≠ 0; omega), ?_⟩
        refine h _ ⟨cs, at_, rest, (mix ^ Int.toNat 3 + mix * 27073 + cnt * 1299827 + 70001).fmod 2147483489, cnt⟩ (fm _).1 (fm _).2 ⟨ok'.a0, ok'.a1, ok'.r0, ?_, ?_⟩
        · show (0 : Int) ≤ Int.fmod _ _
          rw [Int.fmod_eq_emod_of_nonneg _ (by decide)]; exact Int.emod_nonneg _ (by decide)
        · show Int.fmod _ _ < (2147483497 : Int)
          rw [Int.fmod_eq_emod_of_nonneg _ (by decide)]
          have := Int.emod_lt_of_pos (mix ^ Int.toNat 3 + mix * 27073 + cnt * 1299827 + 70001) (show (0 : Int) < 2147483489 by decide)
          omega
  · rintro ds L k x ⟨p, b, m, rfl, _⟩; rfl
theorem scLOf : FnScope ["_law_bag_here", "_law_some"] ["_law_bag_here", "_law_some"] (defScope sLOf) := ⟨rfl, rfl, rfl, by decide +kernel, rfl, by decide +kernel, by decide +kernel⟩
theorem ok_LOf {f : Addr} {fd : FuncData} (Z : Zn mg) (F : Fun K "_law_of" "_law_of" sLOf f fd) (CLPull : Cal P w K mg base 1 "_law_pull" ["_law_bag_here", "_law_many"] [] pullS) : FnOk P w K mg base (L2.CX P w) 2 f fd ["_law_bag_here", "_law_some"] (spD K ofS) := by
  refine fn_ok F scLOf ?len (fun cdv A outer s H E hr => ?_)
  rotate_left
  · have tk := takes_of (X := cxOf (L2.CX P w) P w K mg base ["_law_bag_here", "_law_some"] "_law_of" (defScope sLOf) f cdv A outer s H E) (E := E) rfl rfl rfl rfl
    have hp := passes_of (X := cxOf (L2.CX P w) P w K mg base ["_law_bag_here", "_law_some"] "_law_of" (defScope sLOf) f cdv A outer s H E) rfl
    refine ⟨_, (ss_one (s_ret (q_ix (qv 1) (q_cal CLPull (by first | decide | exact Nat.le_refl _) hr tk (by rfl) (a_cons (qv 0) (a_cons (q_callB cq_len (by rfl) Z.z_len bb_len (a_cons (qv 1) a_nil)) a_nil)))))), ?_⟩
    clear tk hp
    rintro ds L k x ⟨p, b, xs, rfl, hl, ok, x0, x1, h⟩
    walk_at "w"
    refine ⟨p, b, xs.length, rfl, hl, ok, by omega, ?_, fun r b' r0 r1 ok' => ?_⟩
    · have e : ((xs.length : Int)).natAbs = xs.length := Int.natAbs_natCast _
      rw [e]
      have : xs.length.log2 < 10 := by
        rw [Nat.log2_lt (by omega)]
        omega
      omega
    · obtain ⟨n, rfl⟩ := Int.eq_ofNat_of_zero_le r0
      have hn : n < xs.length := by omega
      have hat : atI xs (n : Int) = some xs[n] := atI_nat (List.getElem?_eq_getElem hn)
      walk_at "w"
      rw [show atI xs (n : Int) = some xs[n] from hat]
      exact h _ b' (List.getElem_mem hn) ok'
  · rintro ds L k x ⟨p, b, xs, rfl, _⟩; rfl
theorem scLGcd : FnScope ["_law_one", "_law_two", "_law_k"] ["_law_one", "_law_two"] (defScope sLGcd) := ⟨rfl, rfl, rfl, by decide +kernel, rfl, by decide +kernel, by decide +kernel⟩
theorem ok_LGcd {f : Addr} {fd : FuncData} (Z : Zn mg) (F : Fun K "_law_gcd" "_law_gcd" sLGcd f fd) : FnOk P w K mg base (L2.CX P w) 1 f fd ["_law_one", "_law_two"] (spD K gcdS) := by
  refine fn_ok F scLGcd ?len (fun cdv A outer s H E hr => ?_)
  rotate_left
  · have tk := takes_of (X := cxOf (L2.CX P w) P w K mg base ["_law_one", "_law_two", "_law_k"] "_law_gcd" (defScope sLGcd) f cdv A outer s H E) (E := E) rfl rfl rfl rfl
    have hp := passes_of (X := cxOf (L2.CX P w) P w K mg base ["_law_one", "_law_two", "_law_k"] "_law_gcd" (defScope sLGcd) f cdv A outer s H E) rfl
    refine ⟨_, (ss_cons (s_par 0 1 rfl scLGcd.nd (a_cons (q_callB cq_abs (by rfl) Z.z_abs bb_abs (a_cons (qv 0) a_nil)) (a_cons (q_callB cq_abs (by rfl) Z.z_abs bb_abs (a_cons (qv 1) a_nil)) a_nil)))
  (ss_cons (s_for hp rfl (i_range1 (by rfl) Z.z_range (a_cons q_int a_nil)) (g_name 2 scLGcd.nd) (ss_cons (s_if (t_cmp (oq_eqU hr.units) (qv 1) q_int) (ss_one (s_ret (qv 0))) ss_nil)
  (ss_one (s_par 0 1 rfl scLGcd.nd (a_cons (qv 1) (a_cons (q_op oq_mod (q_callTy cq_int (by rfl) Z.z_int bb_int (a_cons (qv 0) a_nil)) (qv 1)) a_nil))))))
  (ss_one (s_ret (qv 0))))), ?_⟩
    clear tk hp
    rintro ds L k x ⟨a, b, rfl, ha, hb, h⟩
    have key : ∀ (En : DEnds) (db : DS), (∀ (E' : DEnds) (x y j : Int), E'.rt = En.rt → 0 ≤ x → 0 ≤ y → (y = 0 → E'.rt (.int x) L) → (y ≠ 0 → E'.nx [some (.int y), some (.int (x.fmod y)), some (.int j)] L) → db E' [some (.int x), some (.int y), some (.int j)] L) →
        ∀ (n : Nat) (lo x y : Int) (o : Option D), 0 ≤ x → 0 ≤ y → y ≤ x → x * y < 2 ^ n → En.rt (.int (gcdI x y)) L → forD (dgName 2) db En (rngD lo (n + 1)) [some (.int x), some (.int y), o] L := by
      intro En db hb n
      induction n with
      | zero =>
        intro lo x y o hx hy hyx hp hr
        have y0 : y = 0 := by
          rcases Int.lt_or_eq_of_le hy with z | z
          · have : 1 * 1 ≤ x * y := Int.mul_le_mul (by omega) (by omega) (by decide) hx
            omega
          · exact z.symm
        show forD _ _ _ (.int lo :: rngD (lo + 1) 0) _ _
        rw [forD_cons]
        refine hb _ x y lo rfl hx hy (fun _ => ?_) (fun z => absurd y0 z)
        rw [y0, gcdI_zero hx] at hr
        exact hr
      | succ n ih =>
        intro lo x y o hx hy hyx hp hr
        show forD _ _ _ (.int lo :: rngD (lo + 1) (n + 1)) _ _
        rw [forD_cons]
        refine hb _ x y lo rfl hx hy (fun z => ?_) (fun z => ?_)
        · rw [z, gcdI_zero hx] at hr
          exact hr
        · have yp : 0 < y := by omega
          obtain ⟨f0, f1, _⟩ := fmod_bounds hx yp
          refine ih (lo + 1) y (x.fmod y) _ hy f0 (by omega) ?_ ?_
          · have := half_step yp hyx
            rw [Int.pow_succ] at hp
            omega
          · rw [gcdI_step hx yp]
            exact hr
    have abs0 : ∀ z : Int, 0 ≤ (if z < 0 then -z else z) := fun z => by split <;> omega
    have absb : ∀ z : Int, z.natAbs < 2 ^ 1990 → (if z < 0 then -z else z) < 2 ^ 1990 := fun z hz => by
      have e : (if z < 0 then -z else z) = (z.natAbs : Int) := by split <;> omega
      rw [e]
      exact_mod_cast hz
    have hprod : ∀ x y : Int, 0 ≤ x → 0 ≤ y → x < 2 ^ 1990 → y < 2 ^ 1990 → x * y < 2 ^ 3998 := fun x y hx hy h1 h2 => by
      have q1 : x * y ≤ 2 ^ 1990 * 2 ^ 1990 := Int.mul_le_mul (Int.le_of_lt h1) (Int.le_of_lt h2) hy (by exact Int.le_of_lt (Int.pow_pos (by decide)))
      have q2 : (2 : Int) ^ 1990 * 2 ^ 1990 < 2 ^ 3998 := by decide +kernel
      exact Int.lt_of_le_of_lt q1 q2
    have h : (endsD k x).rt (.int (gcdI (if a < 0 then -a else a) (if b < 0 then -b else b))) L := by rw [gcdI_abs]; exact h
    walk_at "w"
    refine ⟨by decide, ?_⟩
    have a0 := abs0 a
    have b0 := abs0 b
    have a1 := absb a ha
    have b1 := absb b hb
    generalize (if a < 0 then -a else a) = x' at *
    generalize (if b < 0 then -b else b) = y' at *
    clear abs0 absb
    have turn : ∀ (E' : DEnds) (x y j : Int), 0 ≤ x → 0 ≤ y → (y = 0 → E'.rt (.int x) L) → (y ≠ 0 → E'.nx [some (.int y), some (.int (x.fmod y)), some (.int j)] L) → (dSeq (dIfS (dB (dOp gEqU (dVar 1) (dC (D.int 0)))) (dRet (dVar 0)) dNext) (dPar 0 1 (dCons (dVar 1) (dCons (dOp gMod (dCB gInt (dCons (dVar 0) dNil)) (dVar 1)) dNil)))) E' [some (.int x), some (.int y), some (.int j)] L := by
      intro E' x y j hx hy h0 h1
      walk_at "w"
      cases h2 : flEq (D.int y) (D.int 0) with
      | true => exact h0 (of_decide_eq_true h2)
      | false =>
        have y0 : y ≠ 0 := of_decide_eq_false h2
        exact ⟨y0, h1 y0⟩
    show forD _ _ _ (rngD 0 4000) _ _
    by_cases hyx : y' ≤ x'
    · exact key _ _ (fun E' x y j _ => turn E' x y j) 3999 0 x' y' none a0 b0 hyx (Int.lt_of_lt_of_le (hprod x' y' a0 b0 a1 b1) (by decide +kernel)) h
    · show forD _ _ _ (.int 0 :: rngD (0 + 1) 3999) _ _
      rw [forD_cons]
      refine turn _ x' y' 0 a0 b0 (fun z => by omega) (fun z => ?_)
      have yp : 0 < y' := by omega
      obtain ⟨f0, f1, f2⟩ := fmod_bounds a0 yp
      refine key _ _ (fun E' x y j _ => turn E' x y j) 3998 (0 + 1) y' (x'.fmod y') _ b0 f0 (by omega) ?_ ?_
      · have q := Int.mul_le_mul_of_nonneg_left f2 b0
        have := hprod y' x' b0 a0 b1 a1
        exact Int.lt_of_le_of_lt q this
      · rw [gcdI_step a0 yp]
        exact h
  · rintro ds L k x ⟨a, b, rfl, _⟩; rfl
theorem scLLow : FnScope ["_law_top", "_law_under", "_law_shared"] ["_law_top", "_law_under"] (defScope sLLow) := ⟨rfl, rfl, rfl, by decide +kernel, rfl, by decide +kernel, by decide +kernel⟩
theorem ok_LLow {f : Addr} {fd : FuncData} (Z : Zn mg) (F : Fun K "_law_low" "_law_low" sLLow f fd) (CLGcd : Cal P w K mg base 1 "_law_gcd" ["_law_one", "_law_two"] [] gcdS) : FnOk P w K mg base (L2.CX P w) 2 f fd ["_law_top", "_law_under"] (spD K lowS) := by
  refine fn_ok F scLLow ?len (fun cdv A outer s H E hr => ?_)
  rotate_left
  · have tk := takes_of (X := cxOf (L2.CX P w) P w K mg base ["_law_top", "_law_under", "_law_shared"] "_law_low" (defScope sLLow) f cdv A outer s H E) (E := E) rfl rfl rfl rfl
    have hp := passes_of (X := cxOf (L2.CX P w) P w K mg base ["_law_top", "_law_under", "_law_shared"] "_law_low" (defScope sLLow) f cdv A outer s H E) rfl
    refine ⟨_, (ss_cons (s_set 2 scLLow.nd (q_cal CLGcd (by first | decide | exact Nat.le_refl _) hr tk (by rfl) (a_cons (qv 0) (a_cons (qv 1) a_nil))))
  (ss_cons (s_if (t_cmp oq_lt (qv 1) q_int) (ss_one (s_set 2 scLLow.nd (q_op oq_sub q_int (qv 2)))) ss_nil)
  (ss_one (s_ret (q_tup (a_cons (q_op oq_fdiv (qv 0) (qv 2)) (a_cons (q_op oq_fdiv (qv 1) (qv 2)) a_nil))))))), ?_⟩
    clear tk hp
    rintro ds L k x ⟨t, u, rfl, hu, ht, hu', h⟩
    have hg := gcdI_pos (a := t) hu
    have hl : (gcdI t u).natAbs.log2 < 9000 := by
      have e : (gcdI t u).natAbs ≤ u.natAbs := by have := gcdI_le (a := t) hu; omega
      have : (gcdI t u).natAbs.log2 < 1990 := by
        rw [Nat.log2_lt (by omega)]
        omega
      omega
    unfold lowI at h
    walk_at "w"
    refine ⟨t, u, rfl, ht, hu', ?_⟩
    walk_at "w"
    by_cases hn : u < 0
    · simp only [if_pos hn] at h
      rw [show decide (u < 0) = true from decide_eq_true hn]
      have e0 : (0 - gcdI t u).natAbs = (gcdI t u).natAbs := by omega
      have c : CDivA t (0 - gcdI t u) := ⟨by omega, by rw [e0]; exact hl⟩
      walk_at "w"
      refine ⟨c, ?_⟩
      walk_at "w"
      refine ⟨c, ?_⟩
      walk_at "w"
      exact ⟨(by show 2 ≤ sizeLine; decide), h⟩
    · simp only [if_neg hn] at h
      rw [show decide (u < 0) = false from decide_eq_false hn]
      have c : CDivA t (gcdI t u) := ⟨by omega, hl⟩
      walk_at "w"
      refine ⟨c, ?_⟩
      walk_at "w"
      refine ⟨c, ?_⟩
      walk_at "w"
      exact ⟨(by show 2 ≤ sizeLine; decide), h⟩
  · rintro ds L k x ⟨t, u, rfl, _⟩; rfl
theorem scLRatio : FnScope ["_law_bag_here", "_law_high", "_law_under"] ["_law_bag_here", "_law_high", "_law_under"] (defScope sLRatio) := ⟨rfl, rfl, rfl, by decide +kernel, rfl, by decide +kernel, by decide +kernel⟩
theorem ok_LRatio {f : Addr} {fd : FuncData} (Z : Zn mg) (F : Fun K "_law_ratio" "_law_ratio" sLRatio f fd) (CLPull : Cal P w K mg base 1 "_law_pull" ["_law_bag_here", "_law_many"] [] pullS) (CLLow : Cal P w K mg base 2 "_law_low" ["_law_top", "_law_under"] [] lowS) : FnOk P w K mg base (L2.CX P w) 3 f fd ["_law_bag_here", "_law_high", "_law_under"] (spD K ratS) := by
  refine fn_ok F scLRatio ?len (fun cdv A outer s H E hr => ?_)
  rotate_left
  · have tk := takes_of (X := cxOf (L2.CX P w) P w K mg base ["_law_bag_here", "_law_high", "_law_under"] "_law_ratio" (defScope sLRatio) f cdv A outer s H E) (E := E) rfl rfl rfl rfl
    have hp := passes_of (X := cxOf (L2.CX P w) P w K mg base ["_law_bag_here", "_law_high", "_law_under"] "_law_ratio" (defScope sLRatio) f cdv A outer s H E) rfl
    refine ⟨_, (ss_one (s_ret (q_cal CLLow (by first | decide | exact Nat.le_refl _) hr tk (by rfl) (a_cons (q_op oq_sub (q_cal CLPull (by first | decide | exact Nat.le_refl _) hr tk (by rfl) (a_cons (qv 0) (a_cons (q_op oq_add (q_op oq_mulU q_int (qv 1)) q_int) a_nil))) (qv 1)) (a_cons (q_op oq_add q_int (q_cal CLPull (by first | decide | exact Nat.le_refl _) hr tk (by rfl) (a_cons (qv 0) (a_cons (qv 2) a_nil)))) a_nil))))), ?_⟩
    clear tk hp
    rintro ds L k x ⟨p, g, hi, u, rfl, hl, ok, h0, h1, u0, u1, h⟩
    have lg : ∀ z : Int, 0 < z → z < 2 ^ 1990 → z.natAbs.log2 < 9000 := fun z z0 z1 => by
      have : z.natAbs.log2 < 1990 := by
        rw [Nat.log2_lt (by omega)]
        omega
      omega
    have two : (2 : Int) ^ 1900 * 2 < 2 ^ 1990 - 1 := by decide +kernel
    walk_at "w"
    refine ⟨.inl (.inl (by decide)), ?_⟩
    walk_at "w"
    refine ⟨p, g, 2 * hi + 1, rfl, hl, ok, by omega, lg _ (by omega) (by omega), fun r g1 r0 r1 ok1 => ?_⟩
    walk_at "w"
    refine ⟨p, g1, u, rfl, lookup_setL hl, ok1, u0, lg u u0 (by omega), fun q g2 q0 q1 ok2 => ?_⟩
    walk_at "w"
    refine ⟨r - hi, 1 + q, rfl, by omega, by omega, by omega, ?_⟩
    rw [setL_setL]
    obtain ⟨s1, s2, s3⟩ := lowI_spec (t := r - hi) (u := 1 + q) (by omega)
    obtain ⟨t1, t2⟩ := lowI_small (t := r - hi) (u := 1 + q) (by omega)
    exact h _ _ g2 ⟨s1, s2⟩ (by omega) (by omega) (by omega) ok2
  · rintro ds L k x ⟨p, g, hi, u, rfl, _⟩; rfl
theorem scLSame : FnScope ["_law_found", "_law_due", "_law_one", "_law_two"] ["_law_found", "_law_due"] (defScope sLSame) := ⟨rfl, rfl, rfl, by decide +kernel, rfl, by decide +kernel, by decide +kernel⟩
theorem ok_LSame {f : Addr} {fd : FuncData} {n : Nat} (Z : Zn mg) (F : Fun K "_law_same" "_law_same" sLSame f fd) (CLSame : Cal P w K mg base n "_law_same" ["_law_found", "_law_due"] [] (sameS n)) : FnOk P w K mg base (L2.CX P w) (n + 1) f fd ["_law_found", "_law_due"] (spD K (sameS (n + 1))) := by
  refine fn_ok F scLSame ?len (fun cdv A outer s H E hr => ?_)
  rotate_left
  · have tk := takes_of (X := cxOf (L2.CX P w) P w K mg base ["_law_found", "_law_due", "_law_one", "_law_two"] "_law_same" (defScope sLSame) f cdv A outer s H E) (E := E) rfl rfl rfl rfl
    have hp := passes_of (X := cxOf (L2.CX P w) P w K mg base ["_law_found", "_law_due", "_law_one", "_law_two"] "_law_same" (defScope sLSame) f cdv A outer s H E) rfl
    refine ⟨_, (ss_cons (s_if (t_val (q_isi2 .lst .tup (qv 1) (by rfl) Z.z_isinstance (by rfl) Z.z_list bb_list (by rfl) Z.z_tuple bb_tuple)) (ss_cons (s_if (w_or (t_cmp (oq_neU hr.units) (q_isi .lst (qv 0) (by rfl) Z.z_isinstance (by rfl) Z.z_list bb_list) (q_isi .lst (qv 1) (by rfl) Z.z_isinstance (by rfl) Z.z_list bb_list)) (w_or1 (t_cmp (oq_neU hr.units) (q_isi .tup (qv 0) (by rfl) Z.z_isinstance (by rfl) Z.z_tuple bb_tuple) (q_isi .tup (qv 1) (by rfl) Z.z_isinstance (by rfl) Z.z_tuple bb_tuple)))).t (ss_one (s_ret q_bl)) ss_nil)
  (ss_one (s_ret (q_and (q_cmp (oq_eqU hr.units) (q_callB cq_len (by rfl) Z.z_len bb_len (a_cons (qv 0) a_nil)) (q_callB cq_len (by rfl) Z.z_len bb_len (a_cons (qv 1) a_nil))) (q_one (q_callB (cq_all rfl) (by rfl) Z.z_all bb_all (a_cons (q_lc rfl scLSame.nd (i_zip (by rfl) Z.z_zip (a_cons (qv 0) (a_cons (qv 1) a_nil))) (blkOk_by (own := [("_law_one", 2), ("_law_two", 3)]) (N := ["_law_found", "_law_due", "_law_one", "_law_two"]) (sc := (defScope sLSame)) (by decide +kernel)) (fun _ _ _ _ _ => (g_tup (n := 2) rfl (gs_cons (g_name 2 scLSame.nd) (gs_cons (g_name 3 scLSame.nd) gs_nil)))) (fun _ _ _ _ _ => ts_nil) (fun _ _ _ _ _ => (q_cal CLSame (by first | decide | exact Nat.le_refl _) hr takes0 (by rfl) (a_cons (qv 2) (a_cons (qv 3) a_nil))))) a_nil))))))) ss_nil)
  (ss_cons (s_if (w_or (t_cmp oq_isN (qv 1) q_non) (w_or1 (t_cmp oq_isN (qv 0) q_non))).t (ss_one (s_ret (q_and (q_cmp oq_isN (qv 1) q_non) (q_one (q_cmp oq_isN (qv 0) q_non))))) ss_nil)
  (ss_cons (s_if (w_or (t_cmp (oq_neU hr.units) (q_isi .bl (qv 0) (by rfl) Z.z_isinstance (by rfl) Z.z_bool bb_bool) (q_isi .bl (qv 1) (by rfl) Z.z_isinstance (by rfl) Z.z_bool bb_bool)) (w_or1 (t_cmp (oq_neU hr.units) (q_isi .int (qv 0) (by rfl) Z.z_isinstance (by rfl) Z.z_int bb_int) (q_isi .int (qv 1) (by rfl) Z.z_isinstance (by rfl) Z.z_int bb_int)))).t (ss_one (s_ret q_bl)) ss_nil)
  (ss_one (s_ret (q_and (q_cmp (oq_eqU hr.units) (q_isi .str (qv 0) (by rfl) Z.z_isinstance (by rfl) Z.z_str bb_str) (q_isi .str (qv 1) (by rfl) Z.z_isinstance (by rfl) Z.z_str bb_str)) (q_one (q_cmp (oq_eqU hr.units) (qv 0) (qv 1))))))))), ?_⟩
    clear tk hp
    rintro ds L k x ⟨a, b, rfl, oa, ob, hd, h⟩
    have seq : ∀ (kk : DK) (p : Addr) (e0 : DEnv) (e1 : D → D → DEnv), ¬ inL L p → ∀ (dg : DG) (de : DE), (∀ (x y : D) (L' : Led) (g : DEnv → Prop), g (e1 x y) → dg (.tup [x, y]) e0 L' g) → (∀ (x y : D) (L' : Led) (g : DK) (gx : DX), okP x = true → okP y = true → dep y < n → g (.bl (sameD x y)) L' → de (e1 x y) L' g gx) →
        ∀ (xs ys acc : List D), xs.length = ys.length → okPs xs = true → okPs ys = true → deps ys < n → acc.length + xs.length < 200000 → (∀ bs : List Bool, bs.all id = sameL xs ys → kk (.lst (acc ++ bs.map .bl)) L) → lcD dg dYes de e0 p kk (zipD xs ys) acc ((p, .lst acc) :: L) := by
      intro kk p e0 e1 hp dg de hg he xs
      induction xs with
      | nil =>
        intro ys acc hl _ _ _ _ hk
        cases ys with
        | cons _ _ => simp at hl
        | nil =>
          show lcD _ _ _ _ _ _ [] _ _
          rw [lcD_nil, remL_top hp]
          have := hk [] (by unfold sameL; rfl)
          rw [List.map_nil, List.append_nil] at this
          exact this
      | cons x r ih =>
        intro ys acc hl o1 o2 d2 ha hk
        cases ys with
        | nil => simp at hl
        | cons y s =>
          show lcD _ _ _ _ _ _ (.tup [x, y] :: zipD r s) _ _
          rw [lcD_cons]
          unfold okPs at o1 o2
          rw [Bool.and_eq_true] at o1 o2
          unfold deps at d2
          refine hg x y _ _ ?_
          show de (e1 x y) _ _ _
          refine he x y _ _ _ o1.1 o2.1 (by omega) ⟨lookup_top, ?_, ?_⟩
          · have z : (200000 : Nat) ≤ sizeLine := by decide
            omega
          · rw [setL_top hp]
            refine ih s (acc ++ [.bl (sameD x y)]) (by simpa using hl) o1.2 o2.2 (by omega) (by simp at ha ⊢; omega) fun bs hb => ?_
            have := hk (sameD x y :: bs) (by unfold sameL; rw [List.all_cons, hb]; rfl)
            rw [List.map_cons] at this
            rw [List.append_assoc]
            exact this
    have both : ∀ (xs ys : List D) (kk : DK) (p : Addr) (e0 : DEnv), xs.length = ys.length → okPs xs = true → okPs ys = true → deps ys < n → xs.length < 100000 → (∀ bs : List Bool, bs.all id = sameL xs ys → kk (.lst (bs.map .bl)) L) → ¬ inL L p → ∀ u v, e0 = [u, v, none, none] → lcD (dgTup 2 (dgCons (dgName 2) (dgCons (dgName 3) dgNil))) dYes (dCall (sameS n) [] (dCons (dVar 2) (dCons (dVar 3) dNil))) e0 p kk (zipD xs ys) [] ((p, .lst []) :: L) := by
      intro xs ys kk p e0 hl o1 o2 d2 hz hk hp u v he0
      subst he0
      refine seq kk p _ (fun x y => [u, v, some x, some y]) hp _ _ (fun x y L' g hg => ⟨rfl, hg⟩) (fun x y L' g gx o1 o2 d hg => ?_) xs ys [] hl o1 o2 d2 (by simpa using (by omega : xs.length < 200000)) fun bs hb => hk bs hb
      exact ⟨x, y, rfl, o1, o2, d, hg⟩
    have fin : ∀ (xs ys : List D), okP (.lst xs) = true → okP (.lst ys) = true → deps ys + 1 < n + 1 → sameD a b = sameL xs ys → (decide ((xs.length : Int) = (ys.length : Int)) = false → k (.bl false) L) ∧ (decide ((xs.length : Int) = (ys.length : Int)) = true → xs.length = ys.length ∧ okPs xs = true ∧ okPs ys = true ∧ deps ys < n ∧ xs.length < 100000) := by
      intro xs ys o1 o2 d2 e
      refine ⟨fun z => ?_, fun z => ?_⟩
      · have := of_decide_eq_false z
        rw [e, sameL_len (by omega)] at h
        exact h
      · have := of_decide_eq_true z
        unfold okP at o1 o2
        rw [Bool.and_eq_true] at o1 o2
        exact ⟨by omega, o1.2, o2.2, by omega, of_decide_eq_true o1.1⟩
    have all_ : ∀ (bs : List Bool) (r : Bool), bs.all id = r → k (.bl r) L → gAll [.lst (bs.map .bl)] L fun d => k d L := by
      intro bs r e hk
      show (match blsOf (bs.map .bl) with | some bs => k (.bl (bs.all id)) L | none => False)
      rw [blsOf_map]
      show k (.bl (bs.all id)) L
      rw [e]; exact hk
    cases b with
    | lst ys =>
      cases a with
      | lst xs =>
        have e : sameD (.lst xs) (.lst ys) = sameL xs ys := by unfold sameD; rfl
        rw [e] at h
        unfold dep at hd
        obtain ⟨f1, f2⟩ := fin xs ys oa ob hd e
        walk_at "w"
        cases hh : flEq (D.int (xs.length : Int)) (D.int (ys.length : Int)) with
        | false => exact f1 hh
        | true =>
          obtain ⟨q1, q2, q3, q4, q5⟩ := f2 hh
          walk_at "w"
          intro p hp
          exact both xs ys _ p _ q1 q2 q3 q4 q5 (fun bs hb => all_ bs _ hb h) hp _ _ rfl
      | _ => first | (simp [okP] at oa; done) | (unfold sameD at h; exact h)
    | tup ys =>
      cases a with
      | tup xs =>
        have e : sameD (.tup xs) (.tup ys) = sameL xs ys := by unfold sameD; rfl
        rw [e] at h
        unfold dep at hd
        obtain ⟨f1, f2⟩ := fin xs ys oa ob hd e
        walk_at "w"
        cases hh : flEq (D.int (xs.length : Int)) (D.int (ys.length : Int)) with
        | false => exact f1 hh
        | true =>
          obtain ⟨q1, q2, q3, q4, q5⟩ := f2 hh
          walk_at "w"
          intro p hp
          exact both xs ys _ p _ q1 q2 q3 q4 q5 (fun bs hb => all_ bs _ hb h) hp _ _ rfl
      | _ => first | (simp [okP] at oa; done) | (unfold sameD at h; exact h)
    | non => cases a <;> first | (simp [okP] at oa; done) | (unfold sameD at h; exact h)
    | bl v => cases a <;> first | (simp [okP] at oa; done) | (unfold sameD at h; exact h)
    | int v => cases a <;> first | (simp [okP] at oa; done) | (unfold sameD at h; exact h)
    | str v => cases a <;> first | (simp [okP] at oa; done) | (unfold sameD at h; exact h)
    | _ => simp [okP] at ob
  · rintro ds L k x ⟨a, b, rfl, _⟩; rfl
end
end T02

namespace T02
open PySem L2 DL
def lawS : DSp := fun ds L k _ => ∃ ns : List Int, ds = [.ro (ns.map .int)] ∧ L = [] ∧ ∀ L', k (.bl true) L'
def perm1 : Perm3 := fun _ ws _ => ws
theorem perm1_ok : PermOk @perm1 := ⟨fun _ h _ => h⟩
def perm321 : Perm3 := fun _ ws _ => ws.reverse
theorem rev_paired {α β : Type} {R : α → β → Prop} : ∀ {l : List α} {m : List β}, Paired R l m → ∀ {l' : List α} {m' : List β}, Paired R l' m' → Paired R (l.reverseAux l') (m.reverseAux m')
  | _, _, .nil, _, _, h => h
  | _, _, .cons r t, _, _, h => rev_paired t (.cons r h)
theorem perm321_ok : PermOk @perm321 := ⟨fun _ h _ => rev_paired h .nil⟩
/-- a value that is no ratio -/
structure Bent (d : D) : Prop where
  ok : okT2 d
  no : ratD d = false
theorem okT2_flat {d : D} (h : okT d = true) (hn : ∀ xs, d ≠ .tup xs) : okT2 d := ⟨h, fun a b e => absurd e (hn _)⟩
theorem okT2_pair {a b : D} (ha : okT a = true) (hb : okT b = true) : okT2 (.tup [a, b]) := ⟨rfl, fun x y e => by
  have e2 : [a, b] = [x, y] := by injection e
  injection e2 with e3 e4
  injection e4 with e5 _
  subst e3 e5
  exact ⟨ha, hb⟩⟩
theorem okT3_pair {a b : D} (ha : okT2 a) (hb : okT2 b) : okT3 (.tup [a, b]) := ⟨rfl, fun x y e => by
  have e2 : [a, b] = [x, y] := by injection e
  injection e2 with e3 e4
  injection e4 with e5 _
  subst e3 e5
  exact ⟨ha, hb⟩⟩
theorem okT3_flat {d : D} (h : okT d = true) (hn : ∀ xs, d ≠ .tup xs) : okT3 d := ⟨h, fun a b e => absurd e (hn _)⟩
theorem okT2_len {xs : List D} (h : xs.length ≠ 2) : okT2 (.tup xs) := ⟨rfl, fun a b e => absurd (by injection e with e; rw [e]; rfl) h⟩
theorem okT2_int (i : Int) : okT2 (.int i) := okT2_flat rfl (fun _ e => nomatch e)
theorem gcdI_double (a b : Int) : gcdI (a * 2) (b * 2) = gcdI a b * 2 := by
  unfold gcdI
  rw [Int.natAbs_mul, Int.natAbs_mul]
  show ((Nat.gcd (a.natAbs * 2) (b.natAbs * 2) : Nat) : Int) = _
  rw [Nat.gcd_mul_right]
  omega
theorem ratD_low {p q : Int} (h : Low p q) (hp : -50 ≤ p) (hp' : p ≤ 50) (hq : q ≤ 9) : ratD (.tup [.int p, .int q]) = true := by
  have h1 := h.pos
  show (decide (0 < q) && decide (gcdI p q = 1) && (decide ((if p < 0 then -p else p) ≤ 999999999999999999999999999999) && decide (q ≤ 999999999999999999999999999999))) = true
  rw [decide_eq_true h1, decide_eq_true h.one, decide_eq_true (show (if p < 0 then -p else p) ≤ 999999999999999999999999999999 by split <;> omega), decide_eq_true (show q ≤ 999999999999999999999999999999 by omega)]
  rfl
/-- the law's thirteen bent values -/
theorem bents {p q : Int} {st : Str} (h : Low p q) : ∀ d ∈ [D.tup [.int (p * 2), .int (q * 2)], .tup [.int p, .int 0], .tup [.int (0 - p), .int (0 - q)], .lst [.int p, .int q], .tup ([.int p, .int q] ++ [.int 1]), .tup (cutD [.int p, .int q] none (some 1)), .tup [.bl true, .int 1], .tup [.int 1, .bl true], .tup [.str st, .int q], .non, .int p, .str "1/2", .tup [.int p, .int (1 - q - 1)]], Bent d := by
  intro d hd
  have h1 := h.pos
  simp only [List.mem_cons, List.not_mem_nil, or_false] at hd
  rcases hd with e | e | e | e | e | e | e | e | e | e | e | e | e <;> subst e
  · refine ⟨okT2_pair rfl rfl, ?_⟩
    show (decide (0 < q * 2) && decide (gcdI (p * 2) (q * 2) = 1) && _) = false
    rw [gcdI_double, h.one, decide_eq_false (show ¬ ((1 : Int) * 2 = 1) by decide), Bool.and_false, Bool.false_and]
  · exact ⟨okT2_pair rfl rfl, rfl⟩
  · refine ⟨okT2_pair rfl rfl, ?_⟩
    show (decide (0 < 0 - q) && _ && _) = false
    rw [decide_eq_false (show ¬ (0 < 0 - q) by omega), Bool.false_and, Bool.false_and]
  · exact ⟨okT2_flat rfl (fun _ e => nomatch e), rfl⟩
  · exact ⟨okT2_len (by show 3 ≠ 2; decide), rfl⟩
  · exact ⟨okT2_len (by show 1 ≠ 2; decide), rfl⟩
  · exact ⟨okT2_pair rfl rfl, rfl⟩
  · exact ⟨okT2_pair rfl rfl, rfl⟩
  · exact ⟨okT2_pair rfl rfl, rfl⟩
  · exact ⟨okT2_flat rfl (fun _ e => nomatch e), rfl⟩
  · exact ⟨okT2_int p, rfl⟩
  · exact ⟨okT2_flat rfl (fun _ e => nomatch e), rfl⟩
  · refine ⟨okT2_pair rfl rfl, ?_⟩
    show (decide (0 < 1 - q - 1) && _ && _) = false
    rw [decide_eq_false (show ¬ (0 < 1 - q - 1) by omega), Bool.false_and, Bool.false_and]
section
variable {P : Program} {w : World} {K : PySem.W.Frag} {mg : Str → Option Value} {base : Heap}
local macro_rules | `(tactic| walk_at "w") => `(tactic| conv => whnf)
local macro_rules | `(tactic| walk_at "v") => `(tactic| ((conv => whnf); try dsimp only))
theorem scLaw : FnScope ["_law_script", "_law_bag_here", "_law_turn", "_law_top", "_law_under", "_law_good", "_law_low_here", "_law_wide", "_law_number_z", "_law_found", "_law_one", "_law_bent", "_law_odd"] ["_law_script"] (defScope sLaw) := ⟨rfl, rfl, rfl, by decide +kernel, rfl, by decide +kernel, by decide +kernel⟩
theorem ok_Law {f : Addr} {fd : FuncData} (Z : Zn mg) (F : Fun K "law" "law" sLaw f fd) (CLBag : Cal P w K mg base 1 "_law_bag" ["_law_script"] [] bagS) (CLPull : Cal P w K mg base 1 "_law_pull" ["_law_bag_here", "_law_many"] [] pullS) (CLOf : Cal P w K mg base 2 "_law_of" ["_law_bag_here", "_law_some"] [] ofS) (CLGcd : Cal P w K mg base 1 "_law_gcd" ["_law_one", "_law_two"] [] gcdS) (CLRatio : Cal P w K mg base 3 "_law_ratio" ["_law_bag_here", "_law_high", "_law_under"] [] ratS) (CLSame : Cal P w K mg base 9 "_law_same" ["_law_found", "_law_due"] [] (sameS 9)) (CIsRatio : Cal P w K mg base 3 "is_ratio" ["value"] [] isRatS) (CIsNumber : Cal P w K mg base 2 "is_number" ["value", "least", "most"] [] isNumS) (CIsPoint : Cal P w K mg base 4 "is_point" ["value"] [] isPtS) (W_IsRatio_0_value : CalW P w K mg base 3 "is_ratio" 0 ["value"] [] perm1 isRatS) (W_IsNumber_0_most_least_value : CalW P w K mg base 2 "is_number" 0 ["most", "least", "value"] [] perm321 isNumS) : FnOk P w K mg base (L2.CX P w) 10 f fd ["_law_script"] (spD K lawS) := by
  refine fn_ok F scLaw ?len (fun cdv A outer s H E hr => ?_)
  rotate_left
  · have tk := takes_of (X := cxOf (L2.CX P w) P w K mg base ["_law_script", "_law_bag_here", "_law_turn", "_law_top", "_law_under", "_law_good", "_law_low_here", "_law_wide", "_law_number_z", "_law_found", "_law_one", "_law_bent", "_law_odd"] "law" (defScope sLaw) f cdv A outer s H E) (E := E) rfl rfl rfl rfl
    have hp := passes_of (X := cxOf (L2.CX P w) P w K mg base ["_law_script", "_law_bag_here", "_law_turn", "_law_top", "_law_under", "_law_good", "_law_low_here", "_law_wide", "_law_number_z", "_law_found", "_law_one", "_law_bent", "_law_odd"] "law" (defScope sLaw) f cdv A outer s H E) rfl
    refine ⟨_, (ss_cons (s_set 1 scLaw.nd (q_cal CLBag (by first | decide | exact Nat.le_refl _) hr tk (by rfl) (a_cons (qv 0) a_nil)))
  (ss_cons (s_for hp rfl (i_range1 (by rfl) Z.z_range (a_cons q_int a_nil)) (g_name 2 scLaw.nd) (ss_cut (s_par 3 4 rfl scLaw.nd (a_cons (q_op oq_sub (q_cal CLPull (by first | decide | exact Nat.le_refl _) hr tk (by rfl) (a_cons (qv 1) (a_cons (q_op oq_pow q_int q_int) a_nil))) (q_op oq_mulU q_int (q_op oq_pow q_int q_int))) (a_cons (q_op oq_add q_int (q_cal CLPull (by first | decide | exact Nat.le_refl _) hr tk (by rfl) (a_cons (qv 1) (a_cons (q_cal CLOf (by first | decide | exact Nat.le_refl _) hr tk (by rfl) (a_cons (qv 1) (a_cons (q_lst (a_cons q_int (a_cons q_int (a_cons (q_op oq_pow q_int q_int) a_nil)))) a_nil))) a_nil)))) a_nil)))
  (ss_cut (s_set 5 scLaw.nd (q_and (q_cmp oq_lt (q_callB cq_abs (by rfl) Z.z_abs bb_abs (a_cons (qv 3) a_nil)) (q_op oq_pow q_int q_int)) (q_and (q_cmp oq_lt (qv 4) (q_op oq_pow q_int q_int)) (q_one (q_cmp (oq_eqU hr.units) (q_cal CLGcd (by first | decide | exact Nat.le_refl _) hr tk (by rfl) (a_cons (qv 3) (a_cons (qv 4) a_nil))) q_int)))))
  (ss_cut (s_par 6 7 rfl scLaw.nd (a_cons (q_op oq_sub (q_cal CLPull (by first | decide | exact Nat.le_refl _) hr tk (by rfl) (a_cons (qv 1) (a_cons q_int a_nil))) q_int) (a_cons (q_cal CLPull (by first | decide | exact Nat.le_refl _) hr tk (by rfl) (a_cons (qv 1) (a_cons q_int a_nil))) a_nil)))
  (ss_cut (s_set 8 scLaw.nd (q_op oq_sub (q_cal CLPull (by first | decide | exact Nat.le_refl _) hr tk (by rfl) (a_cons (qv 1) (a_cons q_int a_nil))) q_int))
  (ss_cons (s_set 9 scLaw.nd (q_lst (a_cons (q_cal CIsRatio (by first | decide | exact Nat.le_refl _) hr tk (by rfl) (a_cons (q_tup (a_cons (qv 3) (a_cons (qv 4) a_nil))) a_nil)) (a_cons (q_cal CIsNumber (by first | decide | exact Nat.le_refl _) hr tk (by rfl) (a_cons (qv 8) (a_cons (qv 6) (a_cons (q_op oq_add (qv 6) (qv 7)) a_nil)))) (a_cons (q_cal CIsNumber (by first | decide | exact Nat.le_refl _) hr tk (by rfl) (a_cons (q_op oq_sub (qv 6) q_int) (a_cons (qv 6) (a_cons (q_op oq_add (qv 6) (qv 7)) a_nil)))) a_nil)))))
  (ss_cut (s_if (t_not (t_val (q_cal CLSame (by first | decide | exact Nat.le_refl _) hr tk (by rfl) (a_cons (qv 9) (a_cons (q_lst (a_cons (qv 5) (a_cons (q_chain oq_le oq_le (qv 6) (qv 8) (q_op oq_add (qv 6) (qv 7))) (a_cons q_bl a_nil)))) a_nil))))) (ss_one (s_ret q_bl)) ss_nil)
  (ss_cut (s_set 10 scLaw.nd (q_cal CLRatio (by first | decide | exact Nat.le_refl _) hr tk (by rfl) (a_cons (qv 1) (a_cons q_int (a_cons q_int a_nil)))))
  (ss_cut (s_set 11 scLaw.nd (q_cal CLOf (by first | decide | exact Nat.le_refl _) hr tk (by rfl) (a_cons (qv 1) (a_cons (q_lst (a_cons (q_tup (a_cons (q_op oq_mulU (q_ix (qv 10) q_int) q_int) (a_cons (q_op oq_mulU (q_ix (qv 10) q_int) q_int) a_nil))) (a_cons (q_tup (a_cons (q_ix (qv 10) q_int) (a_cons q_int a_nil))) (a_cons (q_tup (a_cons (q_op oq_sub q_int (q_ix (qv 10) q_int)) (a_cons (q_op oq_sub q_int (q_ix (qv 10) q_int)) a_nil))) (a_cons (q_callTy cq_list (by rfl) Z.z_list bb_list (a_cons (qv 10) a_nil)) (a_cons (q_op oq_add (qv 10) (q_tup (a_cons q_int a_nil))) (a_cons (q_slice (qv 10) o_none (o_some q_int)) (a_cons (q_tup (a_cons q_bl (a_cons q_int a_nil))) (a_cons (q_tup (a_cons q_int (a_cons q_bl a_nil))) (a_cons (q_tup (a_cons (q_callTy cq_str (by rfl) Z.z_str bb_str (a_cons (q_ix (qv 10) q_int) a_nil)) (a_cons (q_ix (qv 10) q_int) a_nil))) (a_cons q_non (a_cons (q_ix (qv 10) q_int) (a_cons q_str (a_cons (q_tup (a_cons (q_ix (qv 10) q_int) (a_cons (q_op oq_sub (q_op oq_sub q_int (q_ix (qv 10) q_int)) q_int) a_nil))) a_nil)))))))))))))) a_nil))))
  (ss_cut (s_if (t_not (t_val (q_cal CLSame (by first | decide | exact Nat.le_refl _) hr tk (by rfl) (a_cons (q_lst (a_cons (q_cal CIsRatio (by first | decide | exact Nat.le_refl _) hr tk (by rfl) (a_cons (qv 10) a_nil)) (a_cons (q_calW0 W_IsRatio_0_value (by decide) hr tk (by rfl) (k_cons (qv 11) k_nil)) (a_cons (q_cal CIsPoint (by first | decide | exact Nat.le_refl _) hr tk (by rfl) (a_cons (q_tup (a_cons (qv 10) (a_cons (qv 10) a_nil))) a_nil)) (a_cons (q_cal CIsPoint (by first | decide | exact Nat.le_refl _) hr tk (by rfl) (a_cons (q_tup (a_cons (qv 10) (a_cons (qv 11) a_nil))) a_nil)) a_nil))))) (a_cons (q_lst (a_cons q_bl (a_cons q_bl (a_cons q_bl (a_cons q_bl a_nil))))) a_nil))))) (ss_one (s_ret q_bl)) ss_nil)
  (ss_cut (s_set 12 scLaw.nd (q_cal CLOf (by first | decide | exact Nat.le_refl _) hr tk (by rfl) (a_cons (qv 1) (a_cons (q_lst (a_cons q_non (a_cons q_bl (a_cons q_str (a_cons (q_tup (a_cons q_int (a_cons q_int a_nil))) (a_cons (q_lst (a_cons q_int a_nil)) a_nil)))))) a_nil))))
  (ss_one (s_if (t_not (t_val (q_cal CLSame (by first | decide | exact Nat.le_refl _) hr tk (by rfl) (a_cons (q_lst (a_cons (q_cal CIsNumber (by first | decide | exact Nat.le_refl _) hr tk (by rfl) (a_cons (qv 12) (a_cons (q_neg q_int) (a_cons q_int a_nil)))) (a_cons (q_cal CIsPoint (by first | decide | exact Nat.le_refl _) hr tk (by rfl) (a_cons (q_tup (a_cons (qv 11) (a_cons (qv 10) a_nil))) a_nil)) (a_cons (q_cal CIsPoint (by first | decide | exact Nat.le_refl _) hr tk (by rfl) (a_cons (q_lst (a_cons (qv 10) (a_cons (qv 10) a_nil))) a_nil)) (a_cons (q_cal CIsPoint (by first | decide | exact Nat.le_refl _) hr tk (by rfl) (a_cons (qv 10) a_nil)) a_nil))))) (a_cons (q_op oq_rep (q_lst (a_cons q_bl a_nil)) q_int) a_nil))))) (ss_one (s_ret q_bl)) ss_nil)))))))))))))
  (ss_one (s_ret (q_and (q_cal CIsRatio (by first | decide | exact Nat.le_refl _) hr tk (by rfl) (a_cons (q_tup (a_cons q_int (a_cons q_int a_nil))) a_nil)) (q_and (q_not (q_cal CIsRatio (by first | decide | exact Nat.le_refl _) hr tk (by rfl) (a_cons (q_tup (a_cons q_int (a_cons q_int a_nil))) a_nil))) (q_one (q_calW0 W_IsNumber_0_most_least_value (by decide) hr tk (by rfl) (k_cons q_int (k_cons q_int (k_cons q_int k_nil))))))))))), ?_⟩
    clear tk hp
    rintro ds L k x ⟨ns, rfl, rfl, h⟩
    have e31 : (10 : Int) ^ Int.toNat 31 = 10000000000000000000000000000000 := by decide +kernel
    have e30 : (10 : Int) ^ Int.toNat 30 = 1000000000000000000000000000000 := by decide +kernel
    walk_at "w"
    refine ⟨ns, rfl, fun p b hp ok => ?_⟩
    walk_at "w"
    refine ⟨⟨by decide, by decide⟩, ?_⟩
    walk_at "w"
    refine forD_inv (fun env L => ∃ b o2 o3 o4 o5 o6 o7 o8 o9 o10 o11 o12, BagOk b ∧ env = [some (.ro (ns.map .int)), some (.ptr p), o2, o3, o4, o5, o6, o7, o8, o9, o10, o11, o12] ∧ L = [(p, bagC b)]) ?nx _ ?turn _ _ ⟨b, none, none, none, none, none, none, none, none, none, none, none, ok, rfl, rfl⟩
    case nx =>
      rintro env L ⟨b, o2, o3, o4, o5, o6, o7, o8, o9, o10, o11, o12, ok, rfl, rfl⟩
      walk_at "w"
      refine ⟨by decide, ?_⟩
      walk_at "w"
      refine ⟨_, rfl, okT2_pair rfl rfl, ?_⟩
      rw [show ratD (.tup [.int 0, .int 1]) = true by decide +kernel]
      walk_at "w"
      refine ⟨by decide, ?_⟩
      walk_at "w"
      refine ⟨_, rfl, okT2_pair rfl rfl, ?_⟩
      rw [show ratD (.tup [.int 0, .int 2]) = false by decide +kernel]
      walk_at "w"
      refine ⟨rfl, rfl, .int 3, 3, 3, rfl, rfl, ?_⟩
      exact h _
    case turn =>
      rintro E' d env L _ hrt hex ⟨b, o2, o3, o4, o5, o6, o7, o8, o9, o10, o11, o12, ok, rfl, rfl⟩ hn
      walk_at "w"
      -- top, under
      refine ⟨fun env' L' => ∃ t u b, -5000000000000000000000000000000 ≤ t ∧ t < 5000000000000000000000000000000 ∧ 0 < u ∧ u ≤ 10000000000000000000000000000000 ∧ BagOk b ∧ env' = [some (.ro (ns.map .int)), some (.ptr p), some d, some (.int t), some (.int u), o5, o6, o7, o8, o9, o10, o11, o12] ∧ L' = [(p, bagC b)], ?_, ?_⟩
      · walk_at "w"
        refine ⟨⟨by decide, by decide, by decide⟩, ?_⟩
        walk_at "w"
        refine ⟨p, b, _, rfl, lookup_top, ok, by decide +kernel, by decide +kernel, fun r b1 r0 r1 ok1 => ?_⟩
        rw [e31] at r1
        rw [setL_one]
        walk_at "w"
        refine ⟨⟨by decide, by decide, by decide⟩, ?_⟩
        walk_at "w"
        refine ⟨.inl (.inl (by decide)), ?_⟩
        walk_at "w"
        refine ⟨⟨by decide, by decide, by decide⟩, ?_⟩
        walk_at "w"
        refine ⟨by decide, ?_⟩
        walk_at "w"
        refine ⟨p, b1, _, rfl, lookup_top, ok1, by decide, by decide, fun m b2 hm ok2 => ?_⟩
        rw [setL_one]
        have hm' : ∃ z : Int, m = .int z ∧ 0 < z ∧ z ≤ 10000000000000000000000000000000 := by
          simp only [List.mem_cons, List.not_mem_nil, or_false] at hm
          rcases hm with e | e | e <;> subst e
          · exact ⟨3, rfl, by decide, by decide⟩
          · exact ⟨12, rfl, by decide, by decide⟩
          · exact ⟨_, rfl, by decide +kernel, by decide +kernel⟩
        obtain ⟨z, rfl, z0, z1⟩ := hm'
        walk_at "w"
        refine ⟨p, b2, z, rfl, lookup_top, ok2, z0, log_le (Nat.lt_of_le_of_lt (show z.natAbs ≤ 10000000000000000000000000000000 by omega) (by decide +kernel)), fun r2 b3 q0 q1 ok3 => ?_⟩
        rw [setL_one]
        refine ⟨r - 5 * 10 ^ Int.toNat 30, 1 + r2, b3, ?_, ?_, by omega, by omega, ok3, rfl, rfl⟩
        · rw [e30]; omega
        · rw [e30]; omega
      · rintro env' L' ⟨t, u, b, t0, t1, u0, u1, ok, rfl, rfl⟩
        walk_at "w"
        -- good
        refine ⟨fun env' L' => env' = [some (.ro (ns.map .int)), some (.ptr p), some d, some (.int t), some (.int u), some (.bl (ratD (.tup [.int t, .int u]))), o6, o7, o8, o9, o10, o11, o12] ∧ L' = [(p, bagC b)], ?_, ?_⟩
        · have g30 : ∀ z : Int, decide (z < 10 ^ Int.toNat 30) = decide (z ≤ 999999999999999999999999999999) := fun z => by
            rw [e30]
            exact decide_eq_decide.mpr (by omega)
          have er : ratD (.tup [.int t, .int u]) = (decide (0 < u) && decide (gcdI t u = 1) && (decide ((if t < 0 then -t else t) ≤ 999999999999999999999999999999) && decide (u ≤ 999999999999999999999999999999))) := rfl
          rw [er, decide_eq_true u0, Bool.true_and]
          walk_at "w"
          refine ⟨⟨by decide, by decide, by decide⟩, ?_⟩
          walk_at "v"
          rw [g30]
          cases h1 : decide ((if t < 0 then -t else t) ≤ 999999999999999999999999999999) with
          | false =>
            rw [Bool.false_and, Bool.and_false]
            exact ⟨rfl, rfl⟩
          | true =>
            walk_at "w"
            refine ⟨⟨by decide, by decide, by decide⟩, ?_⟩
            walk_at "v"
            rw [g30]
            cases h2 : decide (u ≤ 999999999999999999999999999999) with
            | false =>
              rw [Bool.and_false, Bool.and_false]
              exact ⟨rfl, rfl⟩
            | true =>
              rw [Bool.and_true, Bool.and_true]
              walk_at "w"
              refine ⟨t, u, rfl, lt1990 (Nat.lt_of_le_of_lt (show t.natAbs ≤ 5000000000000000000000000000000 by omega) (by decide +kernel)), lt1990 (Nat.lt_of_le_of_lt (show u.natAbs ≤ 10000000000000000000000000000000 by omega) (by decide +kernel)), ?_⟩
              exact ⟨rfl, rfl⟩
        · rintro env' L' ⟨rfl, rfl⟩
          walk_at "w"
          -- low, wide
          refine ⟨fun env' L' => ∃ lo wi b, BagOk b ∧ env' = [some (.ro (ns.map .int)), some (.ptr p), some d, some (.int t), some (.int u), some (.bl (ratD (.tup [.int t, .int u]))), some (.int lo), some (.int wi), o8, o9, o10, o11, o12] ∧ L' = [(p, bagC b)], ?_, ?_⟩
          · walk_at "w"
            refine ⟨p, b, 60, rfl, lookup_top, ok, by decide, by decide +kernel, fun r b1 r0 r1 ok1 => ?_⟩
            rw [setL_one]
            walk_at "w"
            refine ⟨p, b1, 40, rfl, lookup_top, ok1, by decide, by decide +kernel, fun r' b2 r0' r1' ok2 => ?_⟩
            rw [setL_one]
            exact ⟨r - 30, r', b2, ok2, rfl, rfl⟩
          · rintro env' L' ⟨lo, wi, b, ok, rfl, rfl⟩
            walk_at "w"
            refine ⟨fun env' L' => ∃ nz b, BagOk b ∧ env' = [some (.ro (ns.map .int)), some (.ptr p), some d, some (.int t), some (.int u), some (.bl (ratD (.tup [.int t, .int u]))), some (.int lo), some (.int wi), some (.int nz), o9, o10, o11, o12] ∧ L' = [(p, bagC b)], ?_, ?_⟩
            · walk_at "w"
              refine ⟨p, b, 100, rfl, lookup_top, ok, by decide, by decide +kernel, fun r b1 r0 r1 ok1 => ?_⟩
              rw [setL_one]
              exact ⟨r - 50, b1, ok1, rfl, rfl⟩
            · rintro env' L' ⟨nz, b, ok, rfl, rfl⟩
              walk_at "w"
              refine ⟨sz_ok rfl, ?_⟩
              walk_at "w"
              refine ⟨_, rfl, okT2_pair rfl rfl, ?_⟩
              walk_at "w"
              refine ⟨.int nz, lo, lo + wi, rfl, rfl, ?_⟩
              walk_at "w"
              refine ⟨.int (lo - 1), lo, lo + wi, rfl, rfl, ?_⟩
              walk_at "w"
              refine ⟨sz_ok rfl, ?_⟩
              have en : isNumD lo (lo + wi) (.int (lo - 1)) = false := by
                show (decide (lo ≤ lo - 1) && _) = false
                rw [decide_eq_false (by omega), Bool.false_and]
              rw [en]
              have en2 : isNumD lo (lo + wi) (.int nz) = (decide (lo ≤ nz) && decide (nz ≤ lo + wi)) := rfl
              rw [en2]
              walk_at "w"
              generalize ratD (.tup [.int t, .int u]) = g0
              refine ⟨fun env' L' => ∃ o9, env' = [some (.ro (ns.map .int)), some (.ptr p), some d, some (.int t), some (.int u), some (.bl g0), some (.int lo), some (.int wi), some (.int nz), o9, o10, o11, o12] ∧ L' = [(p, bagC b)], ?_, ?_⟩
              · walk_at "v"
                cases h1 : decide (lo ≤ nz) with
                | false =>
                  rw [Bool.false_and]
                  walk_at "v"
                  refine ⟨sz_ok rfl, ?_⟩
                  walk_at "v"
                  refine ⟨_, _, rfl, rfl, rfl, Nat.le_of_ble_eq_true rfl, ?_⟩
                  rw [sameD_refl _ rfl]
                  exact ⟨_, rfl, rfl⟩
                | true =>
                  rw [Bool.true_and]
                  walk_at "v"
                  refine ⟨sz_ok rfl, ?_⟩
                  walk_at "v"
                  refine ⟨_, _, rfl, rfl, rfl, Nat.le_of_ble_eq_true rfl, ?_⟩
                  rw [sameD_refl _ rfl]
                  exact ⟨_, rfl, rfl⟩
              · rintro env' L' ⟨o9, rfl, rfl⟩
                walk_at "w"
                refine ⟨fun env' L' => ∃ a q b, Low a q ∧ -50 ≤ a ∧ a ≤ 50 ∧ q ≤ 9 ∧ BagOk b ∧ env' = [some (.ro (ns.map .int)), some (.ptr p), some d, some (.int t), some (.int u), some (.bl g0), some (.int lo), some (.int wi), some (.int nz), o9, some (.tup [.int a, .int q]), o11, o12] ∧ L' = [(p, bagC b)], ?_, ?_⟩
                · walk_at "w"
                  refine ⟨p, b, 50, 9, rfl, lookup_top, ok, by decide, by decide +kernel, by decide, by decide +kernel, fun a q b1 hl a0 a1 q1 ok1 => ?_⟩
                  rw [setL_one]
                  exact ⟨a, q, b1, hl, a0, a1, q1, ok1, rfl, rfl⟩
                · rintro env' L' ⟨a, q, b, hl, a0, a1, q1, ok, rfl, rfl⟩
                  have q0 := hl.pos
                  have hone : ratD (.tup [.int a, .int q]) = true := ratD_low hl a0 a1 q1
                  have ok1 : okT2 (.tup [.int a, .int q]) := okT2_pair rfl rfl
                  walk_at "w"
                  refine ⟨fun env' L' => ∃ v b, Bent v ∧ BagOk b ∧ env' = [some (.ro (ns.map .int)), some (.ptr p), some d, some (.int t), some (.int u), some (.bl g0), some (.int lo), some (.int wi), some (.int nz), o9, some (.tup [.int a, .int q]), some v, o12] ∧ L' = [(p, bagC b)], ?_, ?_⟩
                  · have hlog : a.natAbs.log2 < 1920 := by
                      by_cases h0 : a.natAbs = 0
                      · rw [h0]; decide +kernel
                      · exact Nat.lt_of_lt_of_le ((Nat.log2_lt h0).mpr (show a.natAbs < 2 ^ 6 by omega)) (by decide)
                    repeat (walk_at "w"; first | refine ⟨sz_ok rfl, ?_⟩ | refine ⟨.inl (.inr (by decide)), ?_⟩ | refine ⟨hlog, ?_⟩)
                    refine ⟨p, b, _, rfl, lookup_top, ok, Nat.le_of_ble_eq_true rfl, Nat.le_of_ble_eq_true rfl, fun v b1 hv ok2 => ?_⟩
                    rw [setL_one]
                    exact ⟨v, b1, bents hl v hv, ok2, rfl, rfl⟩
                  · rintro env' L' ⟨v, b, hv, ok, rfl, rfl⟩
                    walk_at "w"
                    refine ⟨fun env' L' => env' = [some (.ro (ns.map .int)), some (.ptr p), some d, some (.int t), some (.int u), some (.bl g0), some (.int lo), some (.int wi), some (.int nz), o9, some (.tup [.int a, .int q]), some v, o12] ∧ L' = [(p, bagC b)], ?_, ?_⟩
                    · walk_at "w"
                      refine ⟨_, rfl, ok1, ?_⟩
                      rw [hone]
                      walk_at "w"
                      refine ⟨rfl, rfl, v, rfl, hv.ok, ?_⟩
                      rw [hv.no]
                      walk_at "w"
                      refine ⟨sz_ok rfl, ?_⟩
                      walk_at "w"
                      refine ⟨_, rfl, okT3_pair ok1 ok1, ?_⟩
                      rw [show ptD (.tup [.tup [.int a, .int q], .tup [.int a, .int q]]) = true from (by show (ratD _ && ratD _) = true; rw [hone]; rfl)]
                      walk_at "w"
                      refine ⟨sz_ok rfl, ?_⟩
                      walk_at "w"
                      refine ⟨_, rfl, okT3_pair ok1 hv.ok, ?_⟩
                      rw [show ptD (.tup [.tup [.int a, .int q], v]) = false from (by show (ratD _ && ratD _) = false; rw [hone, hv.no]; rfl)]
                      walk_at "w"
                      refine ⟨sz_ok rfl, ?_⟩
                      walk_at "w"
                      refine ⟨sz_ok rfl, ?_⟩
                      walk_at "w"
                      refine ⟨_, _, rfl, rfl, rfl, Nat.le_of_ble_eq_true rfl, ?_⟩
                      rw [sameD_refl _ rfl]
                      exact ⟨rfl, rfl⟩
                    · rintro env' L' ⟨rfl, rfl⟩
                      walk_at "w"
                      refine ⟨fun env' L' => ∃ z b, okT z = true ∧ isNumD (-9) 9 z = false ∧ BagOk b ∧ env' = [some (.ro (ns.map .int)), some (.ptr p), some d, some (.int t), some (.int u), some (.bl g0), some (.int lo), some (.int wi), some (.int nz), o9, some (.tup [.int a, .int q]), some v, some z] ∧ L' = [(p, bagC b)], ?_, ?_⟩
                      · walk_at "w"
                        refine ⟨sz_ok rfl, ?_⟩
                        walk_at "w"
                        refine ⟨sz_ok rfl, ?_⟩
                        walk_at "w"
                        refine ⟨sz_ok rfl, ?_⟩
                        walk_at "w"
                        refine ⟨p, b, _, rfl, lookup_top, ok, by decide, by decide, fun z b1 hz ok1 => ?_⟩
                        rw [setL_one]
                        refine ⟨z, b1, ?_, ?_, ok1, rfl, rfl⟩
                        · simp only [List.mem_cons, List.not_mem_nil, or_false] at hz
                          rcases hz with e | e | e | e | e <;> subst e <;> rfl
                        · simp only [List.mem_cons, List.not_mem_nil, or_false] at hz
                          rcases hz with e | e | e | e | e <;> subst e <;> rfl
                      · rintro env' L' ⟨z, b, z1, z2, ok, rfl, rfl⟩
                        walk_at "w"
                        refine ⟨z, -9, 9, rfl, z1, ?_⟩
                        rw [z2]
                        walk_at "w"
                        refine ⟨sz_ok rfl, ?_⟩
                        walk_at "w"
                        refine ⟨_, rfl, okT3_pair hv.ok ok1, ?_⟩
                        rw [show ptD (.tup [v, .tup [.int a, .int q]]) = false from (by show (ratD _ && ratD _) = false; rw [hv.no]; rfl)]
                        walk_at "w"
                        refine ⟨sz_ok rfl, ?_⟩
                        walk_at "w"
                        refine ⟨_, rfl, okT3_flat rfl (fun _ e => nomatch e), ?_⟩
                        walk_at "w"
                        refine ⟨_, rfl, okT3_pair (okT2_int a) (okT2_int q), ?_⟩
                        walk_at "w"
                        refine ⟨sz_ok rfl, ?_⟩
                        walk_at "w"
                        refine ⟨sz_ok rfl, ?_⟩
                        walk_at "w"
                        refine ⟨by decide, by decide, by decide, ?_⟩
                        walk_at "w"
                        refine ⟨_, _, rfl, rfl, by decide, by decide, ?_⟩
                        rw [show sameD (D.lst [D.bl false, D.bl false, D.bl (ptD (D.lst [D.tup [D.int a, D.int q], D.tup [D.int a, D.int q]])), D.bl (ptD (D.tup [D.int a, D.int q]))]) (D.lst (List.replicate (Int.toNat 4) [D.bl false]).flatten) = true from sameD_refl (.lst [.bl false, .bl false, .bl false, .bl false]) rfl]
                        exact hn _ _ ⟨b, _, _, _, _, _, _, _, _, _, _, _, ok, rfl, rfl⟩
  · rintro ds L k x ⟨ns, rfl, _⟩; rfl

end
end T02

namespace T02
open PySem L2 DL
theorem cal_mk {P : Program} {w : World} {K : PySem.W.Frag} {mg : Str → Option Value} {base : Heap} {n : Nat} {x : Str} {ps : List Str} {g : DSp} {f : Addr} {fd : FuncData} (G : FnOk P w K mg base (L2.CX P w) n f fd ps (spD K g)) (m : mg x = some (.ref f)) (k : PySem.W.keepIn K (.ref f) = true) (b : Binds K fd ps []) : Cal P w K mg base n x ps [] g := ⟨⟨f, fd, [], [], G, m, k, b, .nil, fun _ _ => .nil⟩⟩
theorem calw_mk {P : Program} {w : World} {K : PySem.W.Frag} {mg : Str → Option Value} {base : Heap} {n np : Nat} {x : Str} {ps ks : List Str} {g : DSp} {gp : Perm3} {f : Addr} {fd : FuncData} (G : FnOk P w K mg base (L2.CX P w) n f fd ps (spD K g)) (m : mg x = some (.ref f)) (k : PySem.W.keepIn K (.ref f) = true) (b : KwB K fd ps np ks [] gp) (hp : PermOk @gp) : CalW P w K mg base n x np ks [] gp g := ⟨⟨f, fd, ps, [], [], G, m, k, b, hp, .nil, fun _ _ => .nil⟩⟩
theorem kwb {K : PySem.W.Frag} {x qual : Str} {st : Stmt} {f : Addr} {fd : FuncData} {ps ks : List Str} {n : Nat} {gp : Perm3} (F : Fun K x qual st f fd)
    (h : ∀ (kV doc pm : Value) (an : Option Addr) (cdv ct : Value) (us ws : List Value), us.length = n → ws.length = ks.length → bindArgs (PySem.W.fnOf x qual (defArgs st) (defBody st) (defScope st) .none kV doc pm an cdv ct) ⟨us, ks.zip ws⟩ = pure (ps.zip (gp us ws []))) : KwB K fd ps n ks [] gp := by
  obtain ⟨oc, od, kV, doc, pm, an, cdv, ct, osl, rfl, lk, hcd⟩ := F.ex
  exact ⟨fun s us ws _ hu hw => .of_eq (h kV doc pm an cdv ct us ws hu hw)⟩
theorem same_all {P : Program} {w : World} {K : PySem.W.Frag} {mg : Str → Option Value} {base : Heap} {f : Addr} {fd : FuncData} (Z : Zn mg) (F : Fun K "_law_same" "_law_same" sLSame f fd) (b : Binds K fd ["_law_found", "_law_due"] []) (m : mg "_law_same" = some (.ref f)) : ∀ n : Nat, FnOk P w K mg base (L2.CX P w) n f fd ["_law_found", "_law_due"] (spD K (sameS n))
  | 0 => by
    have no : ∀ vs H Q E, ¬ spD K (sameS 0) vs H Q E := fun vs H Q E h => by
      obtain ⟨ds, L, k, x, _, _, ⟨_, _, _, _, _, h, _⟩, _⟩ := h
      exact absurd h (Nat.not_lt_zero _)
    exact ⟨fun vs H Q E h => absurd h (no vs H Q E), fun A outer s H args us vs Q E _ _ _ _ h => absurd h (no vs H Q E)⟩
  | n + 1 => ok_LSame Z F ⟨⟨f, fd, [], [], same_all Z F b m n, m, F.kp, b, .nil, fun _ _ => .nil⟩⟩
theorem all_mk {P : Program} {w : World} {K : PySem.W.Frag} {h : Heap} {mg : Str → Option Value} {fa : Addr} (X : K.In h) (G : h.Ns mainGlobals mg) (hfa : mg "law" = some (.ref fa))
    {f1 : Addr} {od1 an1 : Option Addr} {sl1 : Array (Option Value)} {oc1 kV1 dc1 pm1 cd1 ct1 : Value}
    {f2 : Addr} {od2 an2 : Option Addr} {sl2 : Array (Option Value)} {oc2 kV2 dc2 pm2 cd2 ct2 : Value}
    {f3 : Addr} {od3 an3 : Option Addr} {sl3 : Array (Option Value)} {oc3 kV3 dc3 pm3 cd3 ct3 : Value}
    {f4 : Addr} {od4 an4 : Option Addr} {sl4 : Array (Option Value)} {oc4 kV4 dc4 pm4 cd4 ct4 : Value}
    {f5 : Addr} {od5 an5 : Option Addr} {sl5 : Array (Option Value)} {oc5 kV5 dc5 pm5 cd5 ct5 : Value}
    {f6 : Addr} {od6 an6 : Option Addr} {sl6 : Array (Option Value)} {oc6 kV6 dc6 pm6 cd6 ct6 : Value}
    {f7 : Addr} {od7 an7 : Option Addr} {sl7 : Array (Option Value)} {oc7 kV7 dc7 pm7 cd7 ct7 : Value}
    {f8 : Addr} {od8 an8 : Option Addr} {sl8 : Array (Option Value)} {oc8 kV8 dc8 pm8 cd8 ct8 : Value}
    {f9 : Addr} {od9 an9 : Option Addr} {sl9 : Array (Option Value)} {oc9 kV9 dc9 pm9 cd9 ct9 : Value}
    {f10 : Addr} {od10 an10 : Option Addr} {sl10 : Array (Option Value)} {oc10 kV10 dc10 pm10 cd10 ct10 : Value}
    {f11 : Addr} {od11 an11 : Option Addr} {sl11 : Array (Option Value)} {oc11 kV11 dc11 pm11 cd11 ct11 : Value}
    {f12 : Addr} {od12 an12 : Option Addr} {sl12 : Array (Option Value)} {oc12 kV12 dc12 pm12 cd12 ct12 : Value}
    {f13 : Addr} {od13 an13 : Option Addr} {sl13 : Array (Option Value)} {oc13 kV13 dc13 pm13 cd13 ct13 : Value}
    (a1 : PySem.W.nsIn K mainGlobals "is_integer" = some (some (.ref f1))) (l1 : K.lookup f1 = some ⟨oc1, od1, .func (PySem.W.fnOf "is_integer" "is_integer" (defArgs sIsInteger) (defBody sIsInteger) (defScope sIsInteger) .none kV1 dc1 pm1 an1 cd1 ct1), sl1⟩) (c1 : PySem.W.codeIn K cd1 "is_integer" = true) (k1 : PySem.W.keepIn K (.ref f1) = true)
    (a2 : PySem.W.nsIn K mainGlobals "is_number" = some (some (.ref f2))) (l2 : K.lookup f2 = some ⟨oc2, od2, .func (PySem.W.fnOf "is_number" "is_number" (defArgs sIsNumber) (defBody sIsNumber) (defScope sIsNumber) .none kV2 dc2 pm2 an2 cd2 ct2), sl2⟩) (c2 : PySem.W.codeIn K cd2 "is_number" = true) (k2 : PySem.W.keepIn K (.ref f2) = true)
    (a3 : PySem.W.nsIn K mainGlobals "is_lowest" = some (some (.ref f3))) (l3 : K.lookup f3 = some ⟨oc3, od3, .func (PySem.W.fnOf "is_lowest" "is_lowest" (defArgs sIsLowest) (defBody sIsLowest) (defScope sIsLowest) .none kV3 dc3 pm3 an3 cd3 ct3), sl3⟩) (c3 : PySem.W.codeIn K cd3 "is_lowest" = true) (k3 : PySem.W.keepIn K (.ref f3) = true)
    (a4 : PySem.W.nsIn K mainGlobals "is_ratio" = some (some (.ref f4))) (l4 : K.lookup f4 = some ⟨oc4, od4, .func (PySem.W.fnOf "is_ratio" "is_ratio" (defArgs sIsRatio) (defBody sIsRatio) (defScope sIsRatio) .none kV4 dc4 pm4 an4 cd4 ct4), sl4⟩) (c4 : PySem.W.codeIn K cd4 "is_ratio" = true) (k4 : PySem.W.keepIn K (.ref f4) = true)
    (a5 : PySem.W.nsIn K mainGlobals "is_point" = some (some (.ref f5))) (l5 : K.lookup f5 = some ⟨oc5, od5, .func (PySem.W.fnOf "is_point" "is_point" (defArgs sIsPoint) (defBody sIsPoint) (defScope sIsPoint) .none kV5 dc5 pm5 an5 cd5 ct5), sl5⟩) (c5 : PySem.W.codeIn K cd5 "is_point" = true) (k5 : PySem.W.keepIn K (.ref f5) = true)
    (a6 : PySem.W.nsIn K mainGlobals "_law_bag" = some (some (.ref f6))) (l6 : K.lookup f6 = some ⟨oc6, od6, .func (PySem.W.fnOf "_law_bag" "_law_bag" (defArgs sLBag) (defBody sLBag) (defScope sLBag) .none kV6 dc6 pm6 an6 cd6 ct6), sl6⟩) (c6 : PySem.W.codeIn K cd6 "_law_bag" = true) (k6 : PySem.W.keepIn K (.ref f6) = true)
    (a7 : PySem.W.nsIn K mainGlobals "_law_pull" = some (some (.ref f7))) (l7 : K.lookup f7 = some ⟨oc7, od7, .func (PySem.W.fnOf "_law_pull" "_law_pull" (defArgs sLPull) (defBody sLPull) (defScope sLPull) .none kV7 dc7 pm7 an7 cd7 ct7), sl7⟩) (c7 : PySem.W.codeIn K cd7 "_law_pull" = true) (k7 : PySem.W.keepIn K (.ref f7) = true)
    (a8 : PySem.W.nsIn K mainGlobals "_law_of" = some (some (.ref f8))) (l8 : K.lookup f8 = some ⟨oc8, od8, .func (PySem.W.fnOf "_law_of" "_law_of" (defArgs sLOf) (defBody sLOf) (defScope sLOf) .none kV8 dc8 pm8 an8 cd8 ct8), sl8⟩) (c8 : PySem.W.codeIn K cd8 "_law_of" = true) (k8 : PySem.W.keepIn K (.ref f8) = true)
    (a9 : PySem.W.nsIn K mainGlobals "_law_same" = some (some (.ref f9))) (l9 : K.lookup f9 = some ⟨oc9, od9, .func (PySem.W.fnOf "_law_same" "_law_same" (defArgs sLSame) (defBody sLSame) (defScope sLSame) .none kV9 dc9 pm9 an9 cd9 ct9), sl9⟩) (c9 : PySem.W.codeIn K cd9 "_law_same" = true) (k9 : PySem.W.keepIn K (.ref f9) = true)
    (a10 : PySem.W.nsIn K mainGlobals "_law_gcd" = some (some (.ref f10))) (l10 : K.lookup f10 = some ⟨oc10, od10, .func (PySem.W.fnOf "_law_gcd" "_law_gcd" (defArgs sLGcd) (defBody sLGcd) (defScope sLGcd) .none kV10 dc10 pm10 an10 cd10 ct10), sl10⟩) (c10 : PySem.W.codeIn K cd10 "_law_gcd" = true) (k10 : PySem.W.keepIn K (.ref f10) = true)
    (a11 : PySem.W.nsIn K mainGlobals "_law_low" = some (some (.ref f11))) (l11 : K.lookup f11 = some ⟨oc11, od11, .func (PySem.W.fnOf "_law_low" "_law_low" (defArgs sLLow) (defBody sLLow) (defScope sLLow) .none kV11 dc11 pm11 an11 cd11 ct11), sl11⟩) (c11 : PySem.W.codeIn K cd11 "_law_low" = true) (k11 : PySem.W.keepIn K (.ref f11) = true)
    (a12 : PySem.W.nsIn K mainGlobals "_law_ratio" = some (some (.ref f12))) (l12 : K.lookup f12 = some ⟨oc12, od12, .func (PySem.W.fnOf "_law_ratio" "_law_ratio" (defArgs sLRatio) (defBody sLRatio) (defScope sLRatio) .none kV12 dc12 pm12 an12 cd12 ct12), sl12⟩) (c12 : PySem.W.codeIn K cd12 "_law_ratio" = true) (k12 : PySem.W.keepIn K (.ref f12) = true)
    (a13 : PySem.W.nsIn K mainGlobals "law" = some (some (.ref f13))) (l13 : K.lookup f13 = some ⟨oc13, od13, .func (PySem.W.fnOf "law" "law" (defArgs sLaw) (defBody sLaw) (defScope sLaw) .none kV13 dc13 pm13 an13 cd13 ct13), sl13⟩) (c13 : PySem.W.codeIn K cd13 "law" = true) (k13 : PySem.W.keepIn K (.ref f13) = true)
    (z_isinstance : PySem.W.nsIn K mainGlobals "isinstance" = some none)
    (z_int : PySem.W.nsIn K mainGlobals "int" = some none)
    (z_bool : PySem.W.nsIn K mainGlobals "bool" = some none)
    (z_str : PySem.W.nsIn K mainGlobals "str" = some none)
    (z_list : PySem.W.nsIn K mainGlobals "list" = some none)
    (z_tuple : PySem.W.nsIn K mainGlobals "tuple" = some none)
    (z_len : PySem.W.nsIn K mainGlobals "len" = some none)
    (z_abs : PySem.W.nsIn K mainGlobals "abs" = some none)
    (z_all : PySem.W.nsIn K mainGlobals "all" = some none)
    (z_range : PySem.W.nsIn K mainGlobals "range" = some none)
    (z_zip : PySem.W.nsIn K mainGlobals "zip" = some none)
    (g_gcd : PySem.W.nsIn K mainGlobals "gcd" = some (some (.builtin "math.gcd")))
    (g_LARGEST : ∃ t, mg "LARGEST" = some (.int 999999999999999999999999999999 t)) :
    ∃ fd : FuncData, (∀ (s : Shared) (v : Value), BindsTo s fd ⟨[v], []⟩ [("_law_script", v)]) ∧ ∀ base : Heap, K.In base → base.Ns mainGlobals mg → FnOk P w K mg base (L2.CX P w) 10 fa fd ["_law_script"] (spD K lawS) := by
  have e := hfa.symm.trans (PySem.W.mg_of X G a13)
  cases e
  have FIsInteger := fun_mk (st := sIsInteger) l1 c1 k1
  have bIsInteger := FIsInteger.binds (ps := ["value"]) fun _ _ _ _ _ _ us hl => match us, hl with | [_], _ => rfl
  have mIsInteger := PySem.W.mg_of X G a1
  have FIsNumber := fun_mk (st := sIsNumber) l2 c2 k2
  have bIsNumber := FIsNumber.binds (ps := ["value", "least", "most"]) fun _ _ _ _ _ _ us hl => match us, hl with | [_, _, _], _ => rfl
  have mIsNumber := PySem.W.mg_of X G a2
  have FIsLowest := fun_mk (st := sIsLowest) l3 c3 k3
  have bIsLowest := FIsLowest.binds (ps := ["value"]) fun _ _ _ _ _ _ us hl => match us, hl with | [_], _ => rfl
  have mIsLowest := PySem.W.mg_of X G a3
  have FIsRatio := fun_mk (st := sIsRatio) l4 c4 k4
  have bIsRatio := FIsRatio.binds (ps := ["value"]) fun _ _ _ _ _ _ us hl => match us, hl with | [_], _ => rfl
  have mIsRatio := PySem.W.mg_of X G a4
  have FIsPoint := fun_mk (st := sIsPoint) l5 c5 k5
  have bIsPoint := FIsPoint.binds (ps := ["value"]) fun _ _ _ _ _ _ us hl => match us, hl with | [_], _ => rfl
  have mIsPoint := PySem.W.mg_of X G a5
  have FLBag := fun_mk (st := sLBag) l6 c6 k6
  have bLBag := FLBag.binds (ps := ["_law_script"]) fun _ _ _ _ _ _ us hl => match us, hl with | [_], _ => rfl
  have mLBag := PySem.W.mg_of X G a6
  have FLPull := fun_mk (st := sLPull) l7 c7 k7
  have bLPull := FLPull.binds (ps := ["_law_bag_here", "_law_many"]) fun _ _ _ _ _ _ us hl => match us, hl with | [_, _], _ => rfl
  have mLPull := PySem.W.mg_of X G a7
  have FLOf := fun_mk (st := sLOf) l8 c8 k8
  have bLOf := FLOf.binds (ps := ["_law_bag_here", "_law_some"]) fun _ _ _ _ _ _ us hl => match us, hl with | [_, _], _ => rfl
  have mLOf := PySem.W.mg_of X G a8
  have FLSame := fun_mk (st := sLSame) l9 c9 k9
  have bLSame := FLSame.binds (ps := ["_law_found", "_law_due"]) fun _ _ _ _ _ _ us hl => match us, hl with | [_, _], _ => rfl
  have mLSame := PySem.W.mg_of X G a9
  have FLGcd := fun_mk (st := sLGcd) l10 c10 k10
  have bLGcd := FLGcd.binds (ps := ["_law_one", "_law_two"]) fun _ _ _ _ _ _ us hl => match us, hl with | [_, _], _ => rfl
  have mLGcd := PySem.W.mg_of X G a10
  have FLLow := fun_mk (st := sLLow) l11 c11 k11
  have bLLow := FLLow.binds (ps := ["_law_top", "_law_under"]) fun _ _ _ _ _ _ us hl => match us, hl with | [_, _], _ => rfl
  have mLLow := PySem.W.mg_of X G a11
  have FLRatio := fun_mk (st := sLRatio) l12 c12 k12
  have bLRatio := FLRatio.binds (ps := ["_law_bag_here", "_law_high", "_law_under"]) fun _ _ _ _ _ _ us hl => match us, hl with | [_, _, _], _ => rfl
  have mLRatio := PySem.W.mg_of X G a12
  have FLaw := fun_mk (st := sLaw) l13 c13 k13
  have bLaw := FLaw.binds (ps := ["_law_script"]) fun _ _ _ _ _ _ us hl => match us, hl with | [_], _ => rfl
  have mLaw := PySem.W.mg_of X G a13
  have Z : Zn mg := { z_isinstance := PySem.W.mg_none_of X G z_isinstance, z_int := PySem.W.mg_none_of X G z_int, z_bool := PySem.W.mg_none_of X G z_bool, z_str := PySem.W.mg_none_of X G z_str, z_list := PySem.W.mg_none_of X G z_list, z_tuple := PySem.W.mg_none_of X G z_tuple, z_len := PySem.W.mg_none_of X G z_len, z_abs := PySem.W.mg_none_of X G z_abs, z_all := PySem.W.mg_none_of X G z_all, z_range := PySem.W.mg_none_of X G z_range, z_zip := PySem.W.mg_none_of X G z_zip, g_gcd := PySem.W.mg_of X G g_gcd, g_LARGEST := g_LARGEST }
  refine ⟨PySem.W.fnOf "law" "law" (defArgs sLaw) (defBody sLaw) (defScope sLaw) .none kV13 dc13 pm13 an13 cd13 ct13, fun s v => .of_eq rfl, fun base _ _ => ?_⟩
  have GII := ok_IsInteger (P := P) (w := w) (base := base) Z FIsInteger
  have CII := cal_mk GII mIsInteger FIsInteger.kp bIsInteger
  have GIN := ok_IsNumber Z FIsNumber CII
  have CIN := cal_mk GIN mIsNumber FIsNumber.kp bIsNumber
  have GIL := ok_IsLowest Z FIsLowest CII
  have CIL := cal_mk GIL mIsLowest FIsLowest.kp bIsLowest
  have GIR := ok_IsRatio Z FIsRatio CIL
  have CIR := cal_mk GIR mIsRatio FIsRatio.kp bIsRatio
  have CIP := cal_mk (ok_IsPoint Z FIsPoint CIR) mIsPoint FIsPoint.kp bIsPoint
  have CB := cal_mk (ok_LBag (P := P) (w := w) (base := base) Z FLBag) mLBag FLBag.kp bLBag
  have CP := cal_mk (ok_LPull (P := P) (w := w) (base := base) Z FLPull) mLPull FLPull.kp bLPull
  have CO := cal_mk (ok_LOf Z FLOf CP) mLOf FLOf.kp bLOf
  have CG := cal_mk (ok_LGcd (P := P) (w := w) (base := base) Z FLGcd) mLGcd FLGcd.kp bLGcd
  have CL := cal_mk (ok_LLow Z FLLow CG) mLLow FLLow.kp bLLow
  have CR := cal_mk (ok_LRatio Z FLRatio CP CL) mLRatio FLRatio.kp bLRatio
  have CS := cal_mk (same_all (P := P) (w := w) (base := base) Z FLSame bLSame mLSame 9) mLSame FLSame.kp bLSame
  have W1 := calw_mk (gp := @perm1) (np := 0) (ks := ["value"]) GIR mIsRatio FIsRatio.kp (kwb FIsRatio fun _ _ _ _ _ _ us ws hu hw => match us, ws, hu, hw with | [], [_], _, _ => rfl) perm1_ok
  have W2 := calw_mk (gp := @perm321) (np := 0) (ks := ["most", "least", "value"]) GIN mIsNumber FIsNumber.kp (kwb FIsNumber fun _ _ _ _ _ _ us ws hu hw => match us, ws, hu, hw with | [], [_, _, _], _, _ => rfl) perm321_ok
  exact ok_Law Z FLaw CB CP CO CG CR CS CIR CIN CIP W1 W2
theorem law_ends {K : PySem.W.Frag} {H : Hp} {a : Addr} {ns : List Int} (hS : SqL K H a (ns.map V.int)) : spD K lawS [.ref a] H (fun v _ => v = .bl true) fun _ _ _ => False := by
  refine ⟨[.ro (ns.map .int)], [], fun d _ => d = .bl true, fun _ _ => False, ⟨List.nodup_nil, fun a d m => absurd m (by simp)⟩, .cons (.ro ?_ (RpAll.ints ns)) .nil, ⟨ns, rfl, rfl, fun _ => rfl⟩, fun d L' v H' hd _ _ r => ?_, fun n L' a H' h => h.elim⟩
  · rcases hS with h | h
    · exact .inl ⟨by simp [inL], h⟩
    · exact .inr h
  · subst hd
    cases r
    rfl
end T02
open PySem PySem.W PyProof.Rows
set_option maxHeartbeats 0 in
theorem PySem.Challenge.cw_nearspokes_k02_ratios_judged_holds : PySem.Challenge.rw_nearspokes_k02_ratios_judged.Holds := by
  w_on; o_law; k_head; (case hw => w_witness2)
  k_fill
  refine DL.walk_ofX (l := PySem.Challenge.rw_nearspokes_k02_ratios_judged) (n := 63) (k := 10) (x := "_law_script") (CX := fun w => L2.CX PySem.Challenge.rw_nearspokes_k02_ratios_judged.prog w) (sp := fun w => DL.spD _ T02.lawS) rfl (by decide) rfl ⟨rfl, by decide, by decide⟩ (fun w h Y => PySem.W.kIn_of Y) ?F (fun _ _ a ns hl _ hS => T02.law_ends hS) (fun _ _ _ _ _ z => by obtain ⟨_, _, _, _, _, _, _, _, _, _, _, _, z⟩ := z; exact z)
  case F =>
    intro w mg fa h KX XL G hmg
    refine' T02.all_mk KX G hmg ?a1 ?l1 ?c1 ?k1 ?a2 ?l2 ?c2 ?k2 ?a3 ?l3 ?c3 ?k3 ?a4 ?l4 ?c4 ?k4 ?a5 ?l5 ?c5 ?k5 ?a6 ?l6 ?c6 ?k6 ?a7 ?l7 ?c7 ?k7 ?a8 ?l8 ?c8 ?k8 ?a9 ?l9 ?c9 ?k9 ?a10 ?l10 ?c10 ?k10 ?a11 ?l11 ?c11 ?k11 ?a12 ?l12 ?c12 ?k12 ?a13 ?l13 ?c13 ?k13 ?z_isinstance ?z_int ?z_bool ?z_str ?z_list ?z_tuple ?z_len ?z_abs ?z_all ?z_range ?z_zip ?g_gcd ?g_LARGEST
    (case a1 => k_is); (case l1 => k_is); (case c1 => k_is); (case k1 => k_is)
    (case a2 => k_is); (case l2 => k_is); (case c2 => k_is); (case k2 => k_is)
    (case a3 => k_is); (case l3 => k_is); (case c3 => k_is); (case k3 => k_is)
    (case a4 => k_is); (case l4 => k_is); (case c4 => k_is); (case k4 => k_is)
    (case a5 => k_is); (case l5 => k_is); (case c5 => k_is); (case k5 => k_is)
    (case a6 => k_is); (case l6 => k_is); (case c6 => k_is); (case k6 => k_is)
    (case a7 => k_is); (case l7 => k_is); (case c7 => k_is); (case k7 => k_is)
    (case a8 => k_is); (case l8 => k_is); (case c8 => k_is); (case k8 => k_is)
    (case a9 => k_is); (case l9 => k_is); (case c9 => k_is); (case k9 => k_is)
    (case a10 => k_is); (case l10 => k_is); (case c10 => k_is); (case k10 => k_is)
    (case a11 => k_is); (case l11 => k_is); (case c11 => k_is); (case k11 => k_is)
    (case a12 => k_is); (case l12 => k_is); (case c12 => k_is); (case k12 => k_is)
    (case a13 => k_is); (case l13 => k_is); (case c13 => k_is); (case k13 => k_is)
    (case z_isinstance => k_is)
    (case z_int => k_is)
    (case z_bool => k_is)
    (case z_str => k_is)
    (case z_list => k_is)
    (case z_tuple => k_is)
    (case z_len => k_is)
    (case z_abs => k_is)
    (case z_all => k_is)
    (case z_range => k_is)
    (case z_zip => k_is)
    (case g_gcd => first | k_is | exact DL.loose_int XL (by simp))
    (case g_LARGEST => first | k_is | exact DL.loose_int XL (by simp))

