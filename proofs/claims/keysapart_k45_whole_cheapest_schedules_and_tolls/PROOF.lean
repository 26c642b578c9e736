import PyProof.Rows.All
import Wide.All
import OpenK.AllK
import Wide.FinOn
import HandS.ForMost
import HandS.Walk
import HandS.SetKeys
import HandS.SetBool
import HandS.TupSets
import HandS.SortInts
import HandS.TupAny
import HandS.Style
import HandS.IsInst
import HandS.WordsDict
import HandS.More
import HandS.ListItems
import HandS.Zip
import HandS.Defaults
import HandS.Deep
import HandS.Wide
import PyProof.Draws
import KE.GoesMore
import KE.GoesEnum
import KE.DataMinMax
import HandS.Conv
import HandS.Codes
import HandS.Strs
import PyProof.MaxThree
import HandS.TupLe
import PySem.Challenge.RW_keysapart_k45_whole_cheapest_schedules_a
set_option Elab.async false
set_option linter.all false
set_option maxRecDepth 100000
set_option maxHeartbeats 1000000
/-! PM: values as trees; what stands for them in the heap. -/
namespace PM
open PySem L2

inductive PV where
  | non | bl (b : Bool) | int (i : Int) | str (x : Str)
  | tup (xs : List PV) | lst (xs : List PV) | dic (ks : List Key) (vs : List PV)
  | obj (C dx : Addr) (ns : List Str) (vs : List PV)
  | ref (a : Addr) | src | scr (ns : List Int) | iset (ks : List Int) | pdic (ks : List (List Int))

/-- a dict at a whose keys are tuples of whole numbers, each with True -/
def pEntry (p : Addr × List Int) : DictEntry := ⟨reduceHash (Builtin.Tuple.tupleHashOf (p.2.map hashInt)), .ref p.1, .bool true⟩
def PairD (a : Addr) (L : List (Addr × List Int)) : HO := .ext fun h => (a == sysModules) = false ∧ L.length ≤ sizeLine ∧ (L.map (·.2)).Nodup ∧ ∃ o es ep, h.get? a = some o ∧ o.ExactDict ∧ o.data = .dict es ep ∧ es.toList = L.map pEntry
/-- a set of whole numbers at a -/
def SetI (a : Addr) (S : Int → Bool) (n : Nat) : HO := .ext fun h => ∃ (P : Program) (w : World), h.SetOf (PySem.intKind P w) a S n

/-- sources of draws, in pairs of places -/
abbrev Ws := List (Addr × Addr)
def inW (W : Ws) (b : Addr) : Prop := ∃ p ∈ W, b = p.1 ∨ b = p.2
-- SOURCE FORM
/-- what stands at a source -/
def SA (H : Hp) (p : Addr × Addr) : Prop :=
  p.1 ≠ p.2 ∧ ∃ (cs : List Nat) (s : Nat), cs.length ≤ 63 ∧ s < 2147483647 ∧ H p.1 = some (.lst [.ref p.2, .int (s : Int)]) ∧ H p.2 = some (.lst (cs.map fun (c : Nat) => V.int (c : Int)))
theorem SA.at {H H' : Hp} {p : Addr × Addr} (h1 : H' p.1 = H p.1) (h2 : H' p.2 = H p.2) (h : SA H p) : SA H' p := by
  obtain ⟨n, cs, s, hl, hs, a, b⟩ := h
  exact ⟨n, cs, s, hl, hs, by rw [h1]; exact a, by rw [h2]; exact b⟩
theorem SA.some {H : Hp} {p : Addr × Addr} (h : SA H p) : (∃ o, H p.1 = some o) ∧ ∃ o, H p.2 = some o := by
  obtain ⟨n, cs, s, hl, hs, a, b⟩ := h
  exact ⟨⟨_, a⟩, _, b⟩
-- SOURCE FORM ENDS
theorem inW_some {H : Hp} {W : Ws} (h : ∀ p ∈ W, SA H p) {b : Addr} (hb : inW W b) : ∃ o, H b = some o := by
  obtain ⟨p, hp, e | e⟩ := hb
  · rw [e]; exact (h p hp).some.1
  · rw [e]; exact (h p hp).some.2

/-- a heap with what is to be avoided -/
structure Wd where
  Z : Addr → Prop
  W : Ws
  H : Hp
/-- what a made object's class must say of the fields -/
def ObjC (K : PySem.W.Frag) (C : Addr) (ns : List Str) : Prop := Cls K C ∧ ∀ f ∈ ns, NoAttr K C f
def KTup (K : PySem.W.Frag) (a : Addr) (xs : List V) : Prop := ∃ (o : Obj) (its : Array Value) (n : Nat), K.lookup a = some o ∧ o.cls = .type "tuple" ∧ o.data = .seq its n ∧ its.size ≤ sizeLine ∧ Vals xs its.toList
def KLst (K : PySem.W.Frag) (a : Addr) (xs : List V) : Prop := ∃ (o : Obj) (its : Array Value) (n : Nat), K.lookup a = some o ∧ o.cls = .type "list" ∧ o.dict = none ∧ o.data = .seq its n ∧ its.size ≤ sizeLine ∧ Vals xs its.toList
def TupAt (K : PySem.W.Frag) (S : Wd) (a : Addr) (xs : List V) : Prop := (¬ S.Z a ∧ S.H a = some (.tup xs)) ∨ KTup K a xs
def LstAt (S : Wd) (a : Addr) (xs : List V) : Prop := ¬ S.Z a ∧ S.H a = some (.lst xs)
theorem TupAt.sq {K : PySem.W.Frag} {S : Wd} {a : Addr} {xs : List V} (h : TupAt K S a xs) : SqT K S.H a xs := h.elim (fun x => .inl (.inl x.2)) .inr
theorem LstAt.sq {K : PySem.W.Frag} {S : Wd} {a : Addr} {xs : List V} (h : LstAt S a xs) : SqL K S.H a xs := .inl (.inl h.2)

mutual
def Rp (K : PySem.W.Frag) (S : Wd) : PV → V → Prop
  | .non, v => v = .non
  | .bl b, v => v = .bl b
  | .int i, v => v = .int i
  | .str x, v => v = .str x
  | .ref a, v => v = .ref a
  | .src, v => ∃ p ∈ S.W, v = .ref p.1
  | .iset ks, v => ∃ a n, v = .ref a ∧ ¬ S.Z a ∧ S.H a = some (SetI a (fun k => decide (k ∈ ks)) n)
  | .pdic ks, v => ∃ a L, v = .ref a ∧ ¬ S.Z a ∧ S.H a = some (PairD a L) ∧ L.map (·.2) = ks ∧ ∀ p ∈ L, TupAt K S p.1 (p.2.map V.int)
  | .scr ns, v => ∃ a, v = .ref a ∧ ((¬ S.Z a ∧ ∃ o, S.H a = some (.frz o (.lst (ns.map V.int)))) ∨ KLst K a (ns.map V.int))
  | .tup ps, v => ∃ a vs, v = .ref a ∧ TupAt K S a vs ∧ Rps K S ps vs
  | .lst ps, v => ∃ a vs, v = .ref a ∧ LstAt S a vs ∧ Rps K S ps vs
  | .dic ks ps, v => ∃ a vs, v = .ref a ∧ ¬ S.Z a ∧ S.H a = some (.dK (ks.zip vs)) ∧ ks.length = vs.length ∧ Rps K S ps vs
  | .obj C dx ns ps, v => ObjC K C ns ∧ ∃ a vs, v = .ref a ∧ ¬ S.Z a ∧ S.H a = some (.ins C dx (ns.zip vs)) ∧ ns.length = vs.length ∧ Rps K S ps vs
def Rps (K : PySem.W.Frag) (S : Wd) : List PV → List V → Prop
  | [], vs => vs = []
  | p :: ps, vs => ∃ v r, vs = v :: r ∧ Rp K S p v ∧ Rps K S ps r
end

structure Ext (S S' : Wd) : Prop where
  keep : ∀ b o, ¬ S.Z b → S.H b = some o → ¬ S'.Z b ∧ S'.H b = some o
  srcs : ∀ p ∈ S.W, p ∈ S'.W
theorem Ext.trans {S S' S'' : Wd} (x : Ext S S') (y : Ext S' S'') : Ext S S'' :=
  ⟨fun b o h e => let ⟨h1, e1⟩ := x.keep b o h e; y.keep b o h1 e1, fun p hp => y.srcs p (x.srcs p hp)⟩
section
variable {K : PySem.W.Frag} {S S' : Wd}
theorem TupAt.ext (x : Ext S S') {a : Addr} {xs : List V} (h : TupAt K S a xs) : TupAt K S' a xs := h.elim (fun y => .inl (x.keep a _ y.1 y.2)) .inr
theorem LstAt.ext (x : Ext S S') {a : Addr} {xs : List V} (h : LstAt S a xs) : LstAt S' a xs := x.keep a _ h.1 h.2
mutual
theorem Rp.ext (x : Ext S S') : ∀ {p : PV} {v : V}, Rp K S p v → Rp K S' p v
  | .non, _, h => h
  | .bl _, _, h => h
  | .int _, _, h => h
  | .str _, _, h => h
  | .ref _, _, h => h
  | .src, _, h => by
    unfold Rp at h ⊢
    obtain ⟨p, hp, e⟩ := h
    exact ⟨p, x.srcs p hp, e⟩
  | .scr ns, _, h => by
    unfold Rp at h ⊢
    obtain ⟨a, e, h⟩ := h
    rcases h with ⟨h1, o, h2⟩ | h
    · exact ⟨a, e, .inl ⟨(x.keep a _ h1 h2).1, o, (x.keep a _ h1 h2).2⟩⟩
    · exact ⟨a, e, .inr h⟩
  | .iset ks, _, h => by
    unfold Rp at h ⊢
    obtain ⟨a, n, e, h1, h2⟩ := h
    exact ⟨a, n, e, (x.keep a _ h1 h2).1, (x.keep a _ h1 h2).2⟩
  | .pdic ks, _, h => by
    unfold Rp at h ⊢
    obtain ⟨a, L, e, h1, h2, h3, h4⟩ := h
    exact ⟨a, L, e, (x.keep a _ h1 h2).1, (x.keep a _ h1 h2).2, h3, fun p hp => (h4 p hp).ext x⟩
  | .tup ps, _, h => by
    unfold Rp at h ⊢
    obtain ⟨a, vs, e, h1, h2⟩ := h
    exact ⟨a, vs, e, h1.ext x, Rps.ext x h2⟩
  | .lst ps, _, h => by
    unfold Rp at h ⊢
    obtain ⟨a, vs, e, h1, h2⟩ := h
    exact ⟨a, vs, e, h1.ext x, Rps.ext x h2⟩
  | .dic ks ps, _, h => by
    unfold Rp at h ⊢
    obtain ⟨a, vs, e, h0, h1, hl, h2⟩ := h
    exact ⟨a, vs, e, (x.keep a _ h0 h1).1, (x.keep a _ h0 h1).2, hl, Rps.ext x h2⟩
  | .obj C dx ns ps, _, h => by
    unfold Rp at h ⊢
    obtain ⟨hc, a, vs, e, h0, h1, hl, h2⟩ := h
    exact ⟨hc, a, vs, e, (x.keep a _ h0 h1).1, (x.keep a _ h0 h1).2, hl, Rps.ext x h2⟩
theorem Rps.ext (x : Ext S S') : ∀ {ps : List PV} {vs : List V}, Rps K S ps vs → Rps K S' ps vs
  | [], _, h => h
  | p :: ps, _, h => by
    unfold Rps at h ⊢
    obtain ⟨v, r, e, h1, h2⟩ := h
    exact ⟨v, r, e, Rp.ext x h1, Rps.ext x h2⟩
end
theorem Rps.len : ∀ {ps : List PV} {vs : List V}, Rps K S ps vs → ps.length = vs.length
  | [], _, h => by unfold Rps at h; rw [h]; rfl
  | p :: ps, _, h => by
    unfold Rps at h
    obtain ⟨v, r, e, h1, h2⟩ := h
    rw [e, List.length_cons, List.length_cons, Rps.len h2]
theorem Rps.nil : Rps K S [] [] := by unfold Rps; rfl
theorem Rps.cons {p : PV} {ps : List PV} {v : V} {vs : List V} (h : Rp K S p v) (t : Rps K S ps vs) : Rps K S (p :: ps) (v :: vs) := by unfold Rps; exact ⟨v, vs, rfl, h, t⟩
theorem Rps.cons_inv {p : PV} {ps : List PV} {v : V} {vs : List V} (h : Rps K S (p :: ps) (v :: vs)) : Rp K S p v ∧ Rps K S ps vs := by
  unfold Rps at h
  obtain ⟨_, _, e, h1, h2⟩ := h
  cases e
  exact ⟨h1, h2⟩
theorem Rps.get : ∀ {ps : List PV} {vs : List V} {i : Nat} {p : PV}, Rps K S ps vs → ps[i]? = some p → ∃ v, vs[i]? = some v ∧ Rp K S p v
  | [], _, _, _, _, e => by simp at e
  | q :: ps, _, 0, p, h, e => by
    unfold Rps at h
    obtain ⟨v, r, e1, h1, h2⟩ := h
    subst e1
    simp at e
    subst e
    exact ⟨v, by simp, h1⟩
  | q :: ps, _, i + 1, p, h, e => by
    unfold Rps at h
    obtain ⟨v, r, e1, h1, h2⟩ := h
    subst e1
    obtain ⟨w, e2, h3⟩ := Rps.get (i := i) (p := p) h2 (by simpa using e)
    exact ⟨w, by simpa using e2, h3⟩
theorem Rps.append : ∀ {ps qs : List PV} {vs ws : List V}, Rps K S ps vs → Rps K S qs ws → Rps K S (ps ++ qs) (vs ++ ws)
  | [], _, _, _, h, h' => by unfold Rps at h; subst h; exact h'
  | p :: ps, _, _, _, h, h' => by
    unfold Rps at h
    obtain ⟨v, r, e, h1, h2⟩ := h
    subst e
    exact Rps.cons h1 (Rps.append h2 h')
theorem Rps.take : ∀ {ps : List PV} {vs : List V} (n : Nat), Rps K S ps vs → Rps K S (ps.take n) (vs.take n)
  | [], _, _, h => by unfold Rps at h; subst h; simp; exact Rps.nil
  | p :: ps, _, 0, h => by simp; exact Rps.nil
  | p :: ps, _, n + 1, h => by
    unfold Rps at h
    obtain ⟨v, r, e, h1, h2⟩ := h
    subst e
    exact Rps.cons h1 (Rps.take n h2)
theorem Rps.drop : ∀ {ps : List PV} {vs : List V} (n : Nat), Rps K S ps vs → Rps K S (ps.drop n) (vs.drop n)
  | [], _, _, h => by unfold Rps at h; subst h; simp; exact Rps.nil
  | p :: ps, _, 0, h => h
  | p :: ps, _, n + 1, h => by
    unfold Rps at h
    obtain ⟨v, r, e, h1, h2⟩ := h
    subst e
    exact Rps.drop n h2
theorem Rps.set {p : PV} {v : V} (hp : Rp K S p v) : ∀ {ps : List PV} {vs : List V} (n : Nat), Rps K S ps vs → Rps K S (ps.set n p) (vs.set n v)
  | [], _, _, h => by unfold Rps at h; subst h; exact Rps.nil
  | q :: ps, _, 0, h => by
    unfold Rps at h
    obtain ⟨w, r, e, h1, h2⟩ := h
    subst e
    exact Rps.cons hp h2
  | q :: ps, _, n + 1, h => by
    unfold Rps at h
    obtain ⟨w, r, e, h1, h2⟩ := h
    subst e
    exact Rps.cons h1 (Rps.set hp n h2)
theorem Rps.reverse : ∀ {ps : List PV} {vs : List V}, Rps K S ps vs → Rps K S ps.reverse vs.reverse
  | [], _, h => by unfold Rps at h; subst h; exact Rps.nil
  | p :: ps, _, h => by
    unfold Rps at h
    obtain ⟨v, r, e, h1, h2⟩ := h
    subst e
    rw [List.reverse_cons, List.reverse_cons]
    exact Rps.append (Rps.reverse h2) (Rps.cons h1 Rps.nil)
theorem Rps.eraseIdx : ∀ {ps : List PV} {vs : List V} (n : Nat), Rps K S ps vs → Rps K S (ps.eraseIdx n) (vs.eraseIdx n)
  | [], _, _, h => by unfold Rps at h; subst h; exact Rps.nil
  | q :: ps, _, 0, h => by
    unfold Rps at h
    obtain ⟨w, r, e, h1, h2⟩ := h
    subst e
    exact h2
  | q :: ps, _, n + 1, h => by
    unfold Rps at h
    obtain ⟨w, r, e, h1, h2⟩ := h
    subst e
    exact Rps.cons h1 (Rps.eraseIdx n h2)
theorem Rps.ints : ∀ {ns : List Int} {vs : List V}, Rps K S (ns.map PV.int) vs ↔ vs = ns.map V.int
  | [], _ => by unfold Rps; rfl
  | n :: ns, vs => by
    constructor
    · intro h
      rw [List.map_cons] at h
      unfold Rps at h
      obtain ⟨v, r, e, h1, h2⟩ := h
      unfold Rp at h1
      rw [e, h1, Rps.ints.mp h2]
      rfl
    · intro h
      rw [h, List.map_cons, List.map_cons]
      exact Rps.cons (by unfold Rp; rfl) (Rps.ints.mpr rfl)
theorem Rps.strs : ∀ {ns : List Str} {vs : List V}, Rps K S (ns.map PV.str) vs ↔ vs = ns.map V.str
  | [], _ => by unfold Rps; rfl
  | n :: ns, vs => by
    constructor
    · intro h
      rw [List.map_cons] at h
      unfold Rps at h
      obtain ⟨v, r, e, h1, h2⟩ := h
      unfold Rp at h1
      rw [e, h1, Rps.strs.mp h2]
      rfl
    · intro h
      rw [h, List.map_cons, List.map_cons]
      exact Rps.cons (by unfold Rp; rfl) (Rps.strs.mpr rfl)
theorem Rps.bls : ∀ {ns : List Bool} {vs : List V}, Rps K S (ns.map PV.bl) vs ↔ vs = ns.map V.bl
  | [], _ => by unfold Rps; rfl
  | n :: ns, vs => by
    constructor
    · intro h
      rw [List.map_cons] at h
      unfold Rps at h
      obtain ⟨v, r, e, h1, h2⟩ := h
      unfold Rp at h1
      rw [e, h1, Rps.bls.mp h2]
      rfl
    · intro h
      rw [h, List.map_cons, List.map_cons]
      exact Rps.cons (by unfold Rp; rfl) (Rps.bls.mpr rfl)
end

/-- as Rp, but the list at the root may be one's own -/
def RpO (K : PySem.W.Frag) (S : Wd) : PV → V → Prop
  | .lst ps, v => ∃ a vs, v = .ref a ∧ (¬ inW S.W a ∧ S.H a = some (.lst vs)) ∧ Rps K S ps vs
  | .dic ks ps, v => ∃ a vs, v = .ref a ∧ ¬ inW S.W a ∧ S.H a = some (.dK (ks.zip vs)) ∧ ks.length = vs.length ∧ Rps K S ps vs
  | .pdic ks, v => ∃ a L, v = .ref a ∧ ¬ inW S.W a ∧ S.H a = some (PairD a L) ∧ L.map (·.2) = ks ∧ ∀ p ∈ L, TupAt K S p.1 (p.2.map V.int)
  | p, v => Rp K S p v
/-- what stands at a, its parts clean -/
def OwnAt (K : PySem.W.Frag) (S : Wd) (a : Addr) : PV → Prop
  | .lst ps => ∃ vs, S.H a = some (.lst vs) ∧ Rps K S ps vs
  | .dic ks ps => ∃ vs, S.H a = some (.dK (ks.zip vs)) ∧ ks.length = vs.length ∧ Rps K S ps vs
  | .obj C dx ns ps => ObjC K C ns ∧ ∃ vs, S.H a = some (.ins C dx (ns.zip vs)) ∧ (¬ S.Z dx ∧ S.H dx = some (.own a)) ∧ ns.length = vs.length ∧ Rps K S ps vs
  | .pdic ks => ∃ L, S.H a = some (PairD a L) ∧ L.map (·.2) = ks ∧ ∀ p ∈ L, TupAt K S p.1 (p.2.map V.int)
  | _ => False

/-! ### what an expression's value is: clean, its root perhaps one's own, newly made -/
inductive Md where | cl | ow | fr deriving DecidableEq
/-- all that was tracked stays, but the sources; these keep their form -/
structure Grow (W : Ws) (H H' : Hp) : Prop where
  keep : ∀ b o, ¬ inW W b → H b = some o → H' b = some o
  src : ∀ p ∈ W, SA H' p
theorem Grow.trans {W : Ws} {H H1 H2 : Hp} (a : Grow W H H1) (b : Grow W H1 H2) : Grow W H H2 := ⟨fun c o n e => b.keep c o n (a.keep c o n e), b.src⟩
theorem Grow.refl {W : Ws} {H : Hp} (h : ∀ p ∈ W, SA H p) : Grow W H H := ⟨fun _ _ _ e => e, h⟩
theorem Grow.free {W : Ws} {H H1 : Hp} (g : Grow W H H1) {a : Addr} (h : H1 a = none) : H a = none := by
  cases e : H a with
  | none => rfl
  | some o =>
    by_cases w : inW W a
    · obtain ⟨u, e1⟩ := inW_some g.src w
      rw [h] at e1; cases e1
    · rw [g.keep a o w e] at h; cases h
theorem Grow.ext {Z : Addr → Prop} {W : Ws} {H H' : Hp} (g : Grow W H H') (hz : ∀ b, inW W b → Z b) : Ext ⟨Z, W, H⟩ ⟨Z, W, H'⟩ := ⟨fun b o h e => ⟨h, g.keep b o (fun w => h (hz b w)) e⟩, fun _ h => h⟩
/-- a new object -/
theorem Grow.new {W : Ws} {H : Hp} (h : ∀ p ∈ W, SA H p) {a : Addr} {o : HO} (n : H a = none) : Grow W H (upd H a o) := by
  have k : ∀ b u, H b = some u → upd H a o b = some u := fun b u e => by rw [upd_ne (ne_of_none e n)]; exact e
  refine ⟨fun b u _ e => k b u e, fun p hp => ?_⟩
  obtain ⟨⟨_, e1⟩, _, e2⟩ := (h p hp).some
  exact SA.at (by rw [k _ _ e1, e1]) (by rw [k _ _ e2, e2]) (h p hp)
def VK1 (K : PySem.W.Frag) (md : Md) (Z : Addr → Prop) (W : Ws) (H H' : Hp) (p : PV) (v : V) : Prop :=
  match md with
  | .cl => Rp K ⟨Z, W, H'⟩ p v
  | .ow => RpO K ⟨Z, W, H'⟩ p v
  | .fr => ∃ a, v = .ref a ∧ H a = none ∧ OwnAt K ⟨fun b => Z b ∨ b = a, W, H'⟩ a p
section
variable {K : PySem.W.Frag} {Z Z' : Addr → Prop} {W : Ws} {H H1 H' : Hp} {p : PV} {v : V}
theorem Rp.ow (hz : ∀ b, inW W b → Z b) (h : Rp K ⟨Z, W, H⟩ p v) : RpO K ⟨Z, W, H⟩ p v := by
  cases p with
  | lst ps =>
    unfold Rp at h
    obtain ⟨a, vs, e, h1, h2⟩ := h
    exact ⟨a, vs, e, ⟨fun w => h1.1 (hz a w), h1.2⟩, h2⟩
  | dic ks ps =>
    unfold Rp at h
    obtain ⟨a, vs, e, h0, h1⟩ := h
    exact ⟨a, vs, e, fun w => h0 (hz a w), h1⟩
  | pdic ks =>
    unfold Rp at h
    obtain ⟨a, L, e, h0, h1⟩ := h
    exact ⟨a, L, e, fun w => h0 (hz a w), h1⟩
  | _ => exact h
theorem ext_less (h : ∀ b, Z' b → Z b) : Ext ⟨Z, W, H⟩ ⟨Z', W, H⟩ := ⟨fun b o n e => ⟨fun z => n (h b z), e⟩, fun _ h => h⟩
/-- newly made is clean -/
theorem OwnAt.cl {a : Addr} (hz : ¬ Z a) (h : OwnAt K ⟨fun b => Z b ∨ b = a, W, H⟩ a p) : Rp K ⟨Z, W, H⟩ p (.ref a) := by
  have x : Ext ⟨fun b => Z b ∨ b = a, W, H⟩ ⟨Z, W, H⟩ := ext_less fun b => .inl
  cases p with
  | lst ps =>
    obtain ⟨vs, e, r⟩ := h
    unfold Rp
    exact ⟨a, vs, rfl, ⟨hz, e⟩, Rps.ext x r⟩
  | dic ks ps =>
    obtain ⟨vs, e, l, r⟩ := h
    unfold Rp
    exact ⟨a, vs, rfl, hz, e, l, Rps.ext x r⟩
  | obj C dx ns ps =>
    obtain ⟨hc, vs, e, _, l, r⟩ := h
    unfold Rp
    exact ⟨hc, a, vs, rfl, hz, e, l, Rps.ext x r⟩
  | pdic ks =>
    obtain ⟨L, e, l, r⟩ := h
    unfold Rp
    exact ⟨a, L, rfl, hz, e, l, fun p hp => (r p hp).ext x⟩
  | _ => exact h.elim
theorem VK1.cl (hd : ∀ b, Z b → ∃ o, H b = some o) (h : VK1 K .fr Z W H H' p v) : VK1 K .cl Z W H H' p v := by
  obtain ⟨a, rfl, n, o⟩ := h
  exact o.cl fun z => by
    obtain ⟨u, e⟩ := hd a z
    rw [n] at e; cases e
theorem RpO.grow (hz : ∀ b, inW W b → Z b) (g : Grow W H H') (h : RpO K ⟨Z, W, H⟩ p v) : RpO K ⟨Z, W, H'⟩ p v := by
  cases p with
  | lst ps =>
    obtain ⟨a, vs, e, h1, h2⟩ := h
    exact ⟨a, vs, e, ⟨h1.1, g.keep a _ h1.1 h1.2⟩, Rps.ext (g.ext hz) h2⟩
  | dic ks ps =>
    obtain ⟨a, vs, e, h0, h1, l, h2⟩ := h
    exact ⟨a, vs, e, h0, g.keep a _ h0 h1, l, Rps.ext (g.ext hz) h2⟩
  | pdic ks =>
    obtain ⟨a, L, e, h0, h1, l, h2⟩ := h
    exact ⟨a, L, e, h0, g.keep a _ h0 h1, l, fun p hp => (h2 p hp).ext (g.ext hz)⟩
  | non => exact Rp.ext (g.ext hz) h
  | bl _ => exact Rp.ext (g.ext hz) h
  | int _ => exact Rp.ext (g.ext hz) h
  | str _ => exact Rp.ext (g.ext hz) h
  | ref _ => exact Rp.ext (g.ext hz) h
  | src => exact Rp.ext (g.ext hz) h
  | scr _ => exact Rp.ext (g.ext hz) h
  | iset _ => exact Rp.ext (g.ext hz) h
  | tup _ => exact Rp.ext (g.ext hz) h
  | obj _ _ _ _ => exact Rp.ext (g.ext hz) h
end

/-! ### a def's state -/
/-- how a name holds its list: shared, its own, its own and locked -/
inductive Ow where | sh | ow | lk deriving DecidableEq
abbrev Env := List (Option PV)
/-- what is fixed while a def runs -/
structure Gh where
  gw : Bool
  zb : Addr → Prop
  W0 : Ws
  H0 : Hp
  fz : Hp
  Wm : Ws
  pins : List (Nat × Addr × HO)
def cO (c : List Ow) (i : Nat) : Ow := c.getD i .sh
def Zt (G : Gh) (A : Nat → Option Addr) (W : Ws) : Addr → Prop := fun b => G.zb b ∨ inW W b ∨ ∃ i, A i = some b
structure SR (K : PySem.W.Frag) (G : Gh) (c : List Ow) (A : Nat → Option Addr) (W : Ws) (env : Env) (σ : St) (H : Hp) : Prop where
  len : env.length = σ.length
  W0in : ∀ p ∈ G.W0, p ∈ W
  Wmin : ∀ p ∈ G.Wm, p ∈ W
  Wnew : ∀ p ∈ W, p ∈ G.W0 ∨ (G.H0 p.1 = none ∧ G.H0 p.2 = none)
  Wfix : G.gw = false → W = G.W0
  src : ∀ p ∈ W, SA H p
  keep : ∀ b o, ¬ inW G.W0 b → G.H0 b = some o → H b = some o
  zbt : ∀ b, G.zb b → ∃ o, H b = some o
  Asep : ∀ i a, A i = some a → G.H0 a = none ∧ ¬ inW W a ∧ ¬ G.zb a ∧ cO c i ≠ .sh ∧ ∃ o, H a = some o
  Ainj : ∀ i j a, A i = some a → A j = some a → i = j
  Aset : ∀ i p, cO c i ≠ .sh → env[i]? = some (some p) → ∃ a, A i = some a
  slots : ∀ i p, env[i]? = some (some p) → ∃ v, σ[i]? = some (some v) ∧
    match A i with
    | none => Rp K ⟨Zt G A W, W, H⟩ p v
    | some a => v = .ref a ∧ OwnAt K ⟨Zt G A W, W, H⟩ a p
  pins : ∀ q ∈ G.pins, H q.2.1 = some q.2.2 ∧ ¬ inW W q.2.1 ∧ A q.1 = some q.2.1 ∧ cO c q.1 = .lk
  fz : ∀ b o, G.fz b = some o → H b = some o ∧ ¬ Zt G A W b
section
variable {K : PySem.W.Frag} {G : Gh} {c : List Ow} {A : Nat → Option Addr} {W : Ws} {env : Env} {σ : St} {H H' : Hp}
theorem Zt.w {b : Addr} (h : inW W b) : Zt G A W b := .inr (.inl h)
theorem SR.zt (R : SR K G c A W env σ H) {b : Addr} (h : Zt G A W b) : ∃ o, H b = some o := by
  rcases h with h | h | ⟨i, h⟩
  · exact R.zbt b h
  · exact inW_some R.src h
  · exact (R.Asep i b h).2.2.2.2
theorem OwnAt.ext {S S' : Wd} (x : Ext S S') {a : Addr} (e : S'.H a = S.H a) {p : PV} (h : OwnAt K S a p) : OwnAt K S' a p := by
  cases p with
  | lst ps => obtain ⟨vs, h1, h2⟩ := h; exact ⟨vs, by rw [e]; exact h1, Rps.ext x h2⟩
  | dic ks ps => obtain ⟨vs, h1, l, h2⟩ := h; exact ⟨vs, by rw [e]; exact h1, l, Rps.ext x h2⟩
  | obj C dx ns ps => obtain ⟨hc, vs, h1, h3, l, h2⟩ := h; exact ⟨hc, vs, by rw [e]; exact h1, x.keep _ _ h3.1 h3.2, l, Rps.ext x h2⟩
  | pdic ks => obtain ⟨L, h1, l, h2⟩ := h; exact ⟨L, by rw [e]; exact h1, l, fun p hp => (h2 p hp).ext x⟩
  | _ => exact h.elim
theorem SR.grow (R : SR K G c A W env σ H) (g : Grow W H H') : SR K G c A W env σ H' := by
  have x : Ext ⟨Zt G A W, W, H⟩ ⟨Zt G A W, W, H'⟩ := g.ext fun b => Zt.w
  have kA : ∀ i a, A i = some a → H' a = H a := fun i a e => by
    obtain ⟨_, n, _, _, o, ho⟩ := R.Asep i a e
    rw [ho, g.keep a o n ho]
  refine ⟨R.len, R.W0in, R.Wmin, R.Wnew, R.Wfix, g.src, fun b o n e => ?_, fun b hb => ?_, fun i a e => ?_, R.Ainj, R.Aset, fun i p e => ?_, fun q hq => ?_, fun b o e => ?_⟩
  · refine g.keep b o (fun w => ?_) (R.keep b o n e)
    obtain ⟨p, hp, hb⟩ := w
    rcases R.Wnew p hp with z | ⟨z1, z2⟩
    · exact n ⟨p, z, hb⟩
    · rcases hb with hb | hb
      · rw [hb, z1] at e; cases e
      · rw [hb, z2] at e; cases e
  · obtain ⟨o, e⟩ := R.zbt b hb
    by_cases w : inW W b
    · exact inW_some g.src w
    · exact ⟨o, g.keep b o w e⟩
  · obtain ⟨h1, h2, h3, h4, o, h5⟩ := R.Asep i a e
    exact ⟨h1, h2, h3, h4, o, g.keep a o h2 h5⟩
  · obtain ⟨v, h1, h2⟩ := R.slots i p e
    refine ⟨v, h1, ?_⟩
    cases hA : A i with
    | none => rw [hA] at h2; exact Rp.ext x h2
    | some a => rw [hA] at h2; exact ⟨h2.1, h2.2.ext x (kA i a hA)⟩
  · obtain ⟨h1, h2, h3⟩ := R.pins q hq
    exact ⟨g.keep _ _ h2 h1, h2, h3⟩
  · obtain ⟨h1, h2⟩ := R.fz b o e
    exact ⟨g.keep b o (fun w => h2 (Zt.w w)) h1, h2⟩
end
end PM

set_option maxHeartbeats 1000000
/-! PM: expressions. -/
namespace PM
open PySem L2

abbrev TEm := Env → (PV → Prop) → Prop
abbrev TAm := Env → (List PV → Prop) → Prop
abbrev TTm := Env → (Bool → Prop) → Prop
def tmE (K : PySem.W.Frag) (c : List Ow) (md : Md) (t : TEm) : TE := fun σ H Q => ∃ G A W env P, SR K G c A W env σ H ∧ t env P ∧ ∀ p v H', Grow W H H' → VK1 K md (Zt G A W) W H H' p v → P p → Q v H'
def tmT (K : PySem.W.Frag) (c : List Ow) (t : TTm) : TT := fun σ H Q => ∃ G A W env P, SR K G c A W env σ H ∧ t env P ∧ ∀ b H', Grow W H H' → P b → Q b H'
def VKs (K : PySem.W.Frag) (md : Md) (Z : Addr → Prop) (W : Ws) (H : Hp) : List PV → List V → Prop := Paired (match md with
  | .ow => RpO K ⟨Z, W, H⟩
  | _ => Rp K ⟨Z, W, H⟩)
def tmA (K : PySem.W.Frag) (c : List Ow) (md : Md) (t : TAm) : TA := fun σ H Q => ∃ G A W env P, SR K G c A W env σ H ∧ t env P ∧ ∀ ps vs H', Grow W H H' → VKs K md (Zt G A W) W H' ps vs → P ps → Q vs H'
structure PEm (X : Cx) (c : List Ow) (md : Md) (e : Expr) (t : TEm) : Prop where
  run : PE X e (tmE X.K c md t)
structure PTm (X : Cx) (c : List Ow) (e : Expr) (t : TTm) : Prop where
  run : PT X e (tmT X.K c t)
structure PWm (X : Cx) (c : List Ow) (e : Expr) (t : TTm) : Prop where
  run : PW X e (tmT X.K c t)
structure PAm (X : Cx) (c : List Ow) (md : Md) (es : List Expr) (t : TAm) : Prop where
  run : PA X es (tmA X.K c md t)
theorem _root_.L2.PE.weak {X : Cx} {e : Expr} {t t' : TE} (h : PE X e t) (k : ∀ σ H Q, t' σ H Q → t σ H Q) : PE X e t' := ⟨fun pins s σ H Q I x => h.run pins s σ H Q I (k σ H Q x)⟩
theorem _root_.L2.PT.weak {X : Cx} {e : Expr} {t t' : TT} (h : PT X e t) (k : ∀ σ H Q, t' σ H Q → t σ H Q) : PT X e t' := ⟨fun pins s σ H Q I x => h.run pins s σ H Q I (k σ H Q x)⟩
theorem _root_.L2.PW.weak {X : Cx} {e : Expr} {t t' : TT} (h : PW X e t) (k : ∀ σ H Q, t' σ H Q → t σ H Q) : PW X e t' := ⟨fun wh pins s σ H Q I x => h.run wh pins s σ H Q I (k σ H Q x)⟩
theorem _root_.L2.PA.weak {X : Cx} {e : List Expr} {t t' : TA} (h : PA X e t) (k : ∀ σ H Q, t' σ H Q → t σ H Q) : PA X e t' := ⟨fun pos pins s σ H Q I x => h.run pos pins s σ H Q I (k σ H Q x)⟩

section
variable {K : PySem.W.Frag} {Z Z' : Addr → Prop} {W : Ws} {H H1 H' : Hp} {p : PV} {v : V} {md : Md}
/-- any value may be taken as one whose root is perhaps one's own -/
theorem VK1.ow (hz : ∀ b, inW W b → Z b) (hd : ∀ b, Z b → ∃ o, H b = some o) (h : VK1 K md Z W H H' p v) : RpO K ⟨Z, W, H'⟩ p v := by
  cases md with
  | cl => exact Rp.ow hz h
  | ow => exact h
  | fr => exact Rp.ow hz (VK1.cl hd h)
theorem VK1.back {H0 : Hp} (g : Grow W H0 H) (h : VK1 K md Z W H H' p v) : VK1 K md Z W H0 H' p v := by
  cases md with
  | cl => exact h
  | ow => exact h
  | fr =>
    obtain ⟨a, e, n, o⟩ := h
    exact ⟨a, e, g.free n, o⟩
/-- what has no list is clean -/
theorem RpO.cl (hp : ∀ ps, p ≠ .lst ps) (hq : ∀ ks ps, p ≠ .dic ks ps) (hr : ∀ ks, p ≠ .pdic ks) (h : RpO K ⟨Z, W, H⟩ p v) : Rp K ⟨Z, W, H⟩ p v := by
  cases p with
  | lst ps => exact absurd rfl (hp ps)
  | dic ks ps => exact absurd rfl (hq ks ps)
  | pdic ks => exact absurd rfl (hr ks)
  | _ => exact h
theorem RpO.int {i : Int} (h : RpO K ⟨Z, W, H⟩ (.int i) v) : v = .int i := by unfold RpO Rp at h; exact h
theorem RpO.bl {i : Bool} (h : RpO K ⟨Z, W, H⟩ (.bl i) v) : v = .bl i := by unfold RpO Rp at h; exact h
theorem RpO.str {i : Str} (h : RpO K ⟨Z, W, H⟩ (.str i) v) : v = .str i := by unfold RpO Rp at h; exact h
theorem RpO.non (h : RpO K ⟨Z, W, H⟩ .non v) : v = .non := by unfold RpO Rp at h; exact h
theorem RpO.tup {ps : List PV} (h : RpO K ⟨Z, W, H⟩ (.tup ps) v) : ∃ a vs, v = .ref a ∧ TupAt K ⟨Z, W, H⟩ a vs ∧ Rps K ⟨Z, W, H⟩ ps vs := by unfold RpO Rp at h; exact h
theorem RpO.lst {ps : List PV} (h : RpO K ⟨Z, W, H⟩ (.lst ps) v) : ∃ a vs, v = .ref a ∧ (¬ inW W a ∧ H a = some (.lst vs)) ∧ Rps K ⟨Z, W, H⟩ ps vs := by unfold RpO at h; exact h
theorem Rp.int' {i : Int} : Rp K ⟨Z, W, H⟩ (.int i) (.int i) := by unfold Rp; rfl
theorem Rp.bl' {i : Bool} : Rp K ⟨Z, W, H⟩ (.bl i) (.bl i) := by unfold Rp; rfl
theorem Rp.str' {i : Str} : Rp K ⟨Z, W, H⟩ (.str i) (.str i) := by unfold Rp; rfl
theorem Rp.non' : Rp K ⟨Z, W, H⟩ .non .non := by unfold Rp; rfl
/-- a new tuple -/
theorem Rp.newTup {ps : List PV} {vs : List V} {a : Addr} (hz : ¬ Z a) (n : H a = none) (hs : ∀ p ∈ W, SA H p) (hw : ∀ b, inW W b → Z b) (h : Rps K ⟨Z, W, H⟩ ps vs) : Rp K ⟨Z, W, upd H a (.tup vs)⟩ (.tup ps) (.ref a) := by
  unfold Rp
  exact ⟨a, vs, rfl, .inl ⟨hz, upd_same⟩, Rps.ext ((Grow.new hs n).ext hw) h⟩
/-- a new list -/
theorem OwnAt.newLst {ps : List PV} {vs : List V} {a : Addr} (n : H a = none) (h : Rps K ⟨Z, W, H⟩ ps vs) : OwnAt K ⟨fun b => Z b ∨ b = a, W, upd H a (.lst vs)⟩ a (.lst ps) :=
by
  have x : Ext ⟨Z, W, H⟩ ⟨fun b => Z b ∨ b = a, W, upd H a (.lst vs)⟩ := by
    refine ⟨fun b o z e => ⟨fun y => ?_, ?_⟩, fun _ h => h⟩
    · have e' : H b = some o := e
      rcases y with y | y
      · exact z y
      · rw [y, n] at e'; cases e'
    · have e' : H b = some o := e
      show upd H a (.lst vs) b = some o
      rw [upd_ne (ne_of_none e' n)]; exact e'
  exact ⟨vs, upd_same, Rps.ext x h⟩
theorem VK1.ofRp (h : Rp K ⟨Z, W, H'⟩ p v) : VK1 K .cl Z W H H' p v := h
theorem VK1.o (h : VK1 K .ow Z W H H' p v) : RpO K ⟨Z, W, H'⟩ p v := h
theorem VK1.c (h : VK1 K .cl Z W H H' p v) : Rp K ⟨Z, W, H'⟩ p v := h
theorem VK1.bl {b : Bool} (h : VK1 K md Z W H H' (.bl b) v) : v = .bl b := by
  cases md with
  | cl => unfold VK1 Rp at h; exact h
  | ow => unfold VK1 RpO Rp at h; exact h
  | fr => obtain ⟨a, _, _, h⟩ := h; exact h.elim
end
theorem SR.dz {K : PySem.W.Frag} {G : Gh} {c : List Ow} {A : Nat → Option Addr} {W : Ws} {env : Env} {σ : St} {H : Hp} (R : SR K G c A W env σ H) : ∀ b, Zt G A W b → ∃ o, H b = some o := fun _ h => R.zt h
theorem SR.nz {K : PySem.W.Frag} {G : Gh} {c : List Ow} {A : Nat → Option Addr} {W : Ws} {env : Env} {σ : St} {H : Hp} (R : SR K G c A W env σ H) {a : Addr} (n : H a = none) : ¬ Zt G A W a := fun z => by
  obtain ⟨o, e⟩ := R.zt z
  rw [n] at e; cases e
theorem SR.sz {K : PySem.W.Frag} {G : Gh} {c : List Ow} {A : Nat → Option Addr} {W : Ws} {env : Env} {σ : St} {H : Hp} (_ : SR K G c A W env σ H) : ∀ b, inW W b → Zt G A W b := fun _ => Zt.w

/-! ### coercions -/
section
variable {X : Cx} {c : List Ow} {e : Expr} {t : TEm} {md : Md}
theorem PEm.ow (h : PEm X c md e t) : PEm X c .ow e t := ⟨h.run.weak fun σ H Q ⟨G, A, W, env, P, R, ht, k⟩ => ⟨G, A, W, env, P, R, ht, fun p v H' g r hp => k p v H' g (r.ow R.sz R.dz) hp⟩⟩
theorem PEm.cl (h : PEm X c .fr e t) : PEm X c .cl e t := ⟨h.run.weak fun σ H Q ⟨G, A, W, env, P, R, ht, k⟩ => ⟨G, A, W, env, P, R, ht, fun p v H' g r hp => k p v H' g (VK1.cl R.dz r) hp⟩⟩
end

/-! ### names, constants -/
section
variable {X : Cx} {c : List Ow} {pos : Pos}
def mVar (i : Nat) : TEm := fun env P => ∃ v, env[i]? = some (some v) ∧ P v
def mC (p : PV) : TEm := fun _ P => P p
/-- a shared name -/
theorem em_var (i : Nat) {x : Str} (hN : X.N[i]? = some x := by rfl) (hc : cO c i = .sh := by rfl) (hv : Vis X.env.scope x := by first | exact Or.inl rfl | exact Or.inr (Or.inl rfl) | exact Or.inr (Or.inr rfl)) (hd : (x == ("__debug__" : Str)) = false := by decide)
    (hcd : (x == ("__classdict__" : Str)) = false := by decide) : PEm X c .cl (.Name x pos) (mVar i) := ⟨(pe_var hN hv hd hcd).weak fun σ H Q h => by
  obtain ⟨G, A, W, env, P, R, ⟨p, e, hp⟩, k⟩ := h
  obtain ⟨v, e1, h1⟩ := R.slots i p e
  cases hA : A i with
  | none =>
    rw [hA] at h1
    exact ⟨v, e1, k p v H (Grow.refl R.src) h1 hp⟩
  | some a => exact absurd hc (R.Asep i a hA).2.2.2.1⟩
def mVarO (i : Nat) : TEm := fun env P => ∃ v, env[i]? = some (some v) ∧ (∀ C dx ns ps, v ≠ .obj C dx ns ps) ∧ P v
/-- any name -/
theorem em_varO (i : Nat) {x : Str} (hN : X.N[i]? = some x := by rfl) (hv : Vis X.env.scope x := by first | exact Or.inl rfl | exact Or.inr (Or.inl rfl) | exact Or.inr (Or.inr rfl)) (hd : (x == ("__debug__" : Str)) = false := by decide)
    (hcd : (x == ("__classdict__" : Str)) = false := by decide) : PEm X c .ow (.Name x pos) (mVarO i) := ⟨(pe_var hN hv hd hcd).weak fun σ H Q h => by
  obtain ⟨G, A, W, env, P, R, ⟨p, e, no, hp⟩, k⟩ := h
  obtain ⟨v, e1, h1⟩ := R.slots i p e
  refine ⟨v, e1, k p v H (Grow.refl R.src) ?_ hp⟩
  cases hA : A i with
  | none =>
    rw [hA] at h1
    exact Rp.ow R.sz h1
  | some a =>
    rw [hA] at h1
    obtain ⟨rfl, h1⟩ := h1
    have nw := (R.Asep i a hA).2.1
    cases p with
    | lst ps => obtain ⟨vs, e2, r⟩ := h1; exact ⟨a, vs, rfl, ⟨nw, e2⟩, r⟩
    | dic ks ps => obtain ⟨vs, e2, l, r⟩ := h1; exact ⟨a, vs, rfl, nw, e2, l, r⟩
    | pdic ks => obtain ⟨L, e2, l, r⟩ := h1; exact ⟨a, L, rfl, nw, e2, l, r⟩
    | obj C dx ns ps => exact absurd rfl (no C dx ns ps)
    | _ => exact h1.elim⟩
theorem em_const {md : Md} {e : Expr} {p : PV} {v : V} (h : PE X e (tC v)) (r : ∀ Z W H, Rp X.K ⟨Z, W, H⟩ p v) : PEm X c .cl e (mC p) := ⟨h.weak fun σ H Q h => by
  obtain ⟨G, A, W, env, P, R, hp, k⟩ := h
  exact k p v H (Grow.refl R.src) (r _ _ _) hp⟩
theorem em_int {i : Int} {j : Nat} : PEm X c .cl (.Constant (.int i) j pos) (mC (.int i)) := em_const (md := .cl) pe_int fun _ _ _ => Rp.int'
theorem em_bl {b : Bool} {j : Nat} : PEm X c .cl (.Constant (.bool b) j pos) (mC (.bl b)) := em_const (md := .cl) pe_bl fun _ _ _ => Rp.bl'
theorem em_non {j : Nat} : PEm X c .cl (.Constant .none j pos) (mC .non) := em_const (md := .cl) pe_non fun _ _ _ => Rp.non'
theorem em_str {x : Str} {j : Nat} : PEm X c .cl (.Constant (.str x) j pos) (mC (.str x)) := em_const (md := .cl) pe_str fun _ _ _ => Rp.str'
end

/-! ### operations by values -/
abbrev PO2 := PV → PV → (PV → Prop) → Prop
abbrev PO1 := PV → (PV → Prop) → Prop
abbrev POn := List PV → (PV → Prop) → Prop
/-- what stands around an operation -/
structure Sit (Z : Addr → Prop) (W : Ws) (H : Hp) : Prop where
  wz : ∀ b, inW W b → Z b
  src : ∀ p ∈ W, SA H p
  zd : ∀ b, Z b → ∃ o, H b = some o
theorem SR.sit {K : PySem.W.Frag} {G : Gh} {c : List Ow} {A : Nat → Option Addr} {W : Ws} {env : Env} {σ : St} {H : Hp} (R : SR K G c A W env σ H) : Sit (Zt G A W) W H := ⟨R.sz, R.src, R.dz⟩
theorem Sit.nz {Z : Addr → Prop} {W : Ws} {H : Hp} (s : Sit Z W H) {a : Addr} (n : H a = none) : ¬ Z a := fun z => by
  obtain ⟨o, e⟩ := s.zd a z
  rw [n] at e; cases e
def Lift1 (K : PySem.W.Frag) (r : V → Hp → VK → Prop) (o : PO1) (md : Md) : Prop :=
  ∀ Z W H px vx P Q, Sit Z W H → RpO K ⟨Z, W, H⟩ px vx → o px P → (∀ p v H', Grow W H H' → VK1 K md Z W H H' p v → P p → Q v H') → r vx H Q
def Lift2 (K : PySem.W.Frag) (r : R2) (o : PO2) (md : Md) : Prop :=
  ∀ Z W H px py vx vy P Q, Sit Z W H → RpO K ⟨Z, W, H⟩ px vx → RpO K ⟨Z, W, H⟩ py vy → o px py P → (∀ p v H', Grow W H H' → VK1 K md Z W H H' p v → P p → Q v H') → r vx vy H Q
def LiftN (K : PySem.W.Frag) (r : List V → Hp → VK → Prop) (o : POn) (md : Md) : Prop :=
  ∀ Z W H ps vs P Q, Sit Z W H → VKs K .ow Z W H ps vs → o ps P → (∀ p v H', Grow W H H' → VK1 K md Z W H H' p v → P p → Q v H') → r vs H Q
def mOp1 (o : PO1) (ta : TEm) : TEm := fun env P => ta env fun x => o x P
def mOp (o : PO2) (ta tb : TEm) : TEm := fun env P => ta env fun x => tb env fun y => o x y P
def mB (o : POn) (t : TAm) : TEm := fun env P => t env fun xs => o xs P
section
variable {X : Cx} {c : List Ow} {a b : Expr} {ta tb : TEm} {md : Md} {pos : Pos} {r : R2} {o : PO2}
theorem tm1 {K : PySem.W.Frag} {r : V → Hp → VK → Prop} {o : PO1} (L : Lift1 K r o md) (σ : St) (H : Hp) (Q : VK) (h : tmE K c md (mOp1 o ta) σ H Q) : tmE K c .ow ta σ H fun x H1 => r x H1 Q := by
  obtain ⟨G, A, W, env, P, R, h, k⟩ := h
  exact ⟨G, A, W, env, _, R, h, fun px vx H1 g1 rx h1 => L _ W H1 px vx P Q (R.grow g1).sit rx h1 fun p v H' g r hp => k p v H' (g1.trans g) (r.back g1) hp⟩
theorem tm2 {K : PySem.W.Frag} (L : Lift2 K r o md) (σ : St) (H : Hp) (Q : VK) (h : tmE K c md (mOp o ta tb) σ H Q) : tOp r (tmE K c .ow ta) (tmE K c .ow tb) σ H Q := by
  obtain ⟨G, A, W, env, P, R, h, k⟩ := h
  refine ⟨G, A, W, env, _, R, h, fun px vx H1 g1 rx h1 => ⟨G, A, W, env, _, R.grow g1, h1, fun py vy H2 g2 ry h2 => ?_⟩⟩
  exact L _ W H2 px py vx vy P Q ((R.grow g1).grow g2).sit (RpO.grow R.sz g2 rx) ry h2 fun p v H' g r hp => k p v H' ((g1.trans g2).trans g) (r.back (g1.trans g2)) hp
theorem em_op {op : Operator} (ho : OpR X (binaryOp op) r) (L : Lift2 X.K r o md) (ha : PEm X c .ow a ta) (hb : PEm X c .ow b tb) : PEm X c md (.BinOp a op b pos) (mOp o ta tb) := ⟨(pe_op ho ha.run hb.run).weak (tm2 L)⟩
theorem em_cmp {op : CmpOp} (ho : OpR X (compareOp op) r) (L : Lift2 X.K r o md) (ha : PEm X c .ow a ta) (hb : PEm X c .ow b tb) (hm : behindInMarks op b = false) : PEm X c md (.Compare a [op] [b] pos) (mOp o ta tb) := ⟨(pe_cmpR ho ha.run hb.run hm).weak (tm2 L)⟩
theorem em_un {op : UnaryOp} {r : V → Hp → VK → Prop} {o : PO1} (ho : UnR X (unaryOp op) r) (L : Lift1 X.K r o md) (ha : PEm X c .ow a ta) : PEm X c md (.UnaryOp op a pos) (mOp1 o ta) := ⟨(pe_un ho ha.run).weak (tm1 L)⟩
/-- arguments -/
def mNil : TAm := fun _ P => P []
def mCons (t : TEm) (ts : TAm) : TAm := fun env P => t env fun x => ts env fun xs => P (x :: xs)
variable {e : Expr} {es : List Expr} {te : TEm} {t : TAm}
theorem am_nil : PAm X c md [] mNil := ⟨pa_nil.weak fun σ H Q h => by
  obtain ⟨G, A, W, env, P, R, h, k⟩ := h
  exact k [] [] H (Grow.refl R.src) .nil h⟩
theorem VKs.grow {K : PySem.W.Frag} {Z : Addr → Prop} {W : Ws} {H H' : Hp} (hz : ∀ b, inW W b → Z b) (g : Grow W H H') : ∀ {ps : List PV} {vs : List V}, VKs K md Z W H ps vs → VKs K md Z W H' ps vs
  | _, _, .nil => .nil
  | _, _, .cons h t => .cons (by cases md with
    | cl => exact Rp.ext (g.ext hz) h
    | fr => exact Rp.ext (g.ext hz) h
    | ow => exact RpO.grow hz g h) (VKs.grow hz g t)
theorem am_cons (ha : PEm X c .ow e te) (hr : PAm X c .ow es t) (hs : starEach (e :: es) X.env = (false, eval e X.env) :: starEach es X.env := by rfl) : PAm X c .ow (e :: es) (mCons te t) := ⟨(pa_cons ha.run hr.run hs).weak fun σ H Q h => by
  obtain ⟨G, A, W, env, P, R, h, k⟩ := h
  refine ⟨G, A, W, env, _, R, h, fun px vx H1 g1 rx h1 => ⟨G, A, W, env, _, R.grow g1, h1, fun ps vs H2 g2 rs h2 => ?_⟩⟩
  exact k (px :: ps) (vx :: vs) H2 (g1.trans g2) (.cons (RpO.grow R.sz g2 rx) rs) h2⟩
theorem am_consC (ha : PEm X c .cl e te) (hr : PAm X c .cl es t) (hs : starEach (e :: es) X.env = (false, eval e X.env) :: starEach es X.env := by rfl) : PAm X c .cl (e :: es) (mCons te t) := ⟨(pa_cons ha.run hr.run hs).weak fun σ H Q h => by
  obtain ⟨G, A, W, env, P, R, h, k⟩ := h
  refine ⟨G, A, W, env, _, R, h, fun px vx H1 g1 rx h1 => ⟨G, A, W, env, _, R.grow g1, h1, fun ps vs H2 g2 rs h2 => ?_⟩⟩
  exact k (px :: ps) (vx :: vs) H2 (g1.trans g2) (.cons (Rp.ext (g2.ext R.sz) rx) rs) h2⟩
theorem VKs.rps {K : PySem.W.Frag} {Z : Addr → Prop} {W : Ws} {H : Hp} : ∀ {ps : List PV} {vs : List V}, VKs K .cl Z W H ps vs → Rps K ⟨Z, W, H⟩ ps vs
  | _, _, .nil => Rps.nil
  | _, _, .cons h t => Rps.cons h (VKs.rps t)
theorem tmN {K : PySem.W.Frag} {r : List V → Hp → VK → Prop} {o : POn} (L : LiftN K r o md) (σ : St) (H : Hp) (Q : VK) (h : tmE K c md (mB o t) σ H Q) : tCB r (tmA K c .ow t) σ H Q := by
  obtain ⟨G, A, W, env, P, R, h, k⟩ := h
  exact ⟨G, A, W, env, _, R, h, fun ps vs H1 g1 rs h1 => L _ W H1 ps vs P Q (R.grow g1).sit rs h1 fun p v H' g r hp => k p v H' (g1.trans g) (r.back g1) hp⟩
/-- a built-in function, a built-in class, called -/
theorem em_callB {id : String} {x : Str} {p : Pos} {r : List V → Hp → VK → Prop} {o : POn} (hc : CallR X (.builtin id) r) (L : LiftN X.K r o md) (hg : Gl X x) (hm : X.mg x = none) (hv : bootBuiltins x = some (.builtin id)) (ha : PAm X c .ow (e :: es) t) (hn : x ≠ "__name__" := by decide) (hdb : (x == ("__debug__" : Str)) = false := by decide)
    (he : starEach (e :: es) X.env = (false, eval e X.env) :: starEach es X.env := by rfl) (hpl : (backTo pos (starEach es X.env)).any (·.1) = false := by rfl) : PEm X c md (.Call (.Name x p) (e :: es) [] pos) (mB o t) :=
  ⟨(pe_callB hc hg hm hv ha.run hn hdb he hpl).weak (tmN L)⟩
theorem em_callTy {T : String} {x : Str} {p : Pos} {r : List V → Hp → VK → Prop} {o : POn} (hc : CallR X (.type T) r) (L : LiftN X.K r o md) (hg : Gl X x) (hm : X.mg x = none) (hv : bootBuiltins x = some (.type T)) (ha : PAm X c .ow (e :: es) t) (hn : x ≠ "__name__" := by decide) (hdb : (x == ("__debug__" : Str)) = false := by decide)
    (he : starEach (e :: es) X.env = (false, eval e X.env) :: starEach es X.env := by rfl) (hpl : (backTo pos (starEach es X.env)).any (·.1) = false := by rfl) : PEm X c md (.Call (.Name x p) (e :: es) [] pos) (mB o t) :=
  ⟨(pe_callTy hc hg hm hv ha.run hn hdb he hpl).weak (tmN L)⟩
/-- displays -/
def mTup (t : TAm) : TEm := fun env P => t env fun xs => xs.length ≤ sizeLine ∧ P (.tup xs)
def mLst (t : TAm) : TEm := fun env P => t env fun xs => xs.length ≤ sizeLine ∧ P (.lst xs)
theorem Paired.len {α β : Type} {R : α → β → Prop} : ∀ {xs : List α} {ys : List β}, Paired R xs ys → xs.length = ys.length
  | _, _, .nil => rfl
  | _, _, .cons _ t => by rw [List.length_cons, List.length_cons, Paired.len t]
theorem em_tup {x1 : Nat} (h : PAm X c .cl es t) : PEm X c .cl (.Tuple es x1 pos) (mTup t) := ⟨(pe_tup h.run).weak fun σ H Q h => by
  obtain ⟨G, A, W, env, P, R, h, k⟩ := h
  refine ⟨G, A, W, env, _, R, h, fun ps vs H1 g1 rs ⟨hl, h1⟩ => ⟨by rw [← Paired.len rs]; exact hl, fun a n => ?_⟩⟩
  have R1 := R.grow g1
  exact k (.tup ps) (.ref a) _ (g1.trans (Grow.new R1.src n)) (Rp.newTup (R1.nz n) n R1.src R.sz rs.rps) h1⟩
theorem em_lst (h : PAm X c .cl es t) : PEm X c .fr (.List es pos) (mLst t) := ⟨(pe_lst h.run).weak fun σ H Q h => by
  obtain ⟨G, A, W, env, P, R, h, k⟩ := h
  refine ⟨G, A, W, env, _, R, h, fun ps vs H1 g1 rs ⟨hl, h1⟩ => ⟨by rw [← Paired.len rs]; exact hl, fun a n => ?_⟩⟩
  have R1 := R.grow g1
  exact k (.lst ps) (.ref a) _ (g1.trans (Grow.new R1.src n)) ⟨a, rfl, g1.free n, OwnAt.newLst n rs.rps⟩ h1⟩
end

/-! ### tests -/
section
variable {X : Cx} {c : List Ow} {a b : Expr} {ta tb : TEm} {tA tB : TTm} {pos : Pos} {rest : List Expr} {md : Md}
/-- a value that is True or False, as a test -/
def mTB (t : TEm) : TTm := fun env P => t env fun x => ∃ k, x = .bl k ∧ P k
theorem tm_val (h : PEm X c .ow a ta) (he : ∀ whole, isTrue a X.env whole = (do let v ← whole; standAt a.pos; holding [v] (truthy v)) := by intro _; rfl) : PTm X c a (mTB ta) := ⟨(pt_val h.run he).weak fun σ H Q h => by
  obtain ⟨G, A, W, env, P, R, h, k⟩ := h
  exact ⟨G, A, W, env, _, R, h, fun p v H1 g1 r ⟨j, e, h1⟩ => ⟨j, by subst e; exact VK1.bl r, k j H1 g1 h1⟩⟩⟩
theorem tm_cmp {op : CmpOp} {r : R2} {o : PO2} (ho : OpR X (compareOp op) r) (L : Lift2 X.K r o .cl) (ha : PEm X c .ow a ta) (hb : PEm X c .ow b tb) (hm : behindInMarks op b = false) : PTm X c (.Compare a [op] [b] pos) (mTB (mOp o ta tb)) := ⟨(pt_cmpR ho ha.run hb.run hm).weak fun σ H Q h => by
  obtain ⟨G, A, W, env, P, R, h, k⟩ := h
  refine tm2 L σ H _ ⟨G, A, W, env, _, R, h, fun p v H1 g1 r ⟨j, e, h1⟩ => ⟨j, ?_, k j H1 g1 h1⟩⟩
  subst e
  exact VK1.bl r⟩
def mAnd (t u : TTm) : TTm := fun env P => t env fun b => if b = true then u env P else P false
def mOr (t u : TTm) : TTm := fun env P => t env fun b => if b = true then P true else u env P
def mNot (t : TTm) : TTm := fun env P => t env fun b => P (!b)
theorem tm_not (h : PTm X c a tA) : PTm X c (.UnaryOp .Not a pos) (mNot tA) := ⟨(pt_not h.run).weak fun σ H Q h => by
  obtain ⟨G, A, W, env, P, R, h, k⟩ := h
  exact ⟨G, A, W, env, _, R, h, fun b H1 g1 h1 => k _ H1 g1 h1⟩⟩
theorem wm_and1 (h : PTm X c a tA) : PWm X c (.BoolOp .And [a] pos) tA := ⟨pw_and1 h.run⟩
theorem wm_or1 (h : PTm X c a tA) : PWm X c (.BoolOp .Or [a] pos) tA := ⟨pw_or1 h.run⟩
theorem wm_and (ha : PTm X c a tA) (hb : PWm X c (.BoolOp .And (b :: rest) pos) tB) : PWm X c (.BoolOp .And (a :: b :: rest) pos) (mAnd tA tB) := ⟨(pw_and ha.run hb.run).weak fun σ H Q h => by
  obtain ⟨G, A, W, env, P, R, h, k⟩ := h
  refine ⟨G, A, W, env, _, R, h, fun b H1 g1 h1 => ?_⟩
  cases b with
  | true => rw [if_pos rfl] at h1 ⊢; exact ⟨G, A, W, env, _, R.grow g1, h1, fun b H2 g2 h2 => k b H2 (g1.trans g2) h2⟩
  | false => rw [if_neg Bool.false_ne_true] at h1 ⊢; exact k _ H1 g1 h1⟩
theorem wm_or (ha : PTm X c a tA) (hb : PWm X c (.BoolOp .Or (b :: rest) pos) tB) : PWm X c (.BoolOp .Or (a :: b :: rest) pos) (mOr tA tB) := ⟨(pw_or ha.run hb.run).weak fun σ H Q h => by
  obtain ⟨G, A, W, env, P, R, h, k⟩ := h
  refine ⟨G, A, W, env, _, R, h, fun b H1 g1 h1 => ?_⟩
  cases b with
  | false => rw [if_neg Bool.false_ne_true] at h1 ⊢; exact ⟨G, A, W, env, _, R.grow g1, h1, fun b H2 g2 h2 => k b H2 (g1.trans g2) h2⟩
  | true => rw [if_pos rfl] at h1 ⊢; exact k _ H1 g1 h1⟩
theorem PWm.pt (h : PWm X c a tA) : PTm X c a tA := ⟨h.run.pt⟩
/-- and, or, not as values that are True or False -/
def mAndV (t u : TEm) : TEm := fun env P => t env fun x => ∃ k, x = .bl k ∧ if k = true then u env P else P (.bl false)
def mOrV (t u : TEm) : TEm := fun env P => t env fun x => ∃ k, x = .bl k ∧ if k = true then P (.bl true) else u env P
def oNot : PO1 := fun x P => ∃ k, x = .bl k ∧ P (.bl (!k))
theorem em_one {op : BoolOp} (h : PEm X c md a ta) : PEm X c md (.BoolOp op [a] pos) ta := ⟨pe_one h.run⟩
theorem em_and (ha : PEm X c .ow a ta) (hb : PEm X c .cl (.BoolOp .And (b :: rest) pos) tb) : PEm X c .cl (.BoolOp .And (a :: b :: rest) pos) (mAndV ta tb) := ⟨(pe_and ha.run hb.run).weak fun σ H Q h => by
  obtain ⟨G, A, W, env, P, R, h, k⟩ := h
  refine ⟨G, A, W, env, _, R, h, fun p v H1 g1 r ⟨j, e, h1⟩ => ⟨j, by subst e; exact VK1.bl r, ?_⟩⟩
  cases j with
  | true => rw [if_pos rfl] at h1 ⊢; exact ⟨G, A, W, env, _, R.grow g1, h1, fun p v H2 g2 r2 h2 => k p v H2 (g1.trans g2) r2 h2⟩
  | false => rw [if_neg Bool.false_ne_true] at h1 ⊢; exact k _ _ H1 g1 (VK1.ofRp Rp.bl') h1⟩
theorem em_or (ha : PEm X c .ow a ta) (hb : PEm X c .cl (.BoolOp .Or (b :: rest) pos) tb) : PEm X c .cl (.BoolOp .Or (a :: b :: rest) pos) (mOrV ta tb) := ⟨(pe_or ha.run hb.run).weak fun σ H Q h => by
  obtain ⟨G, A, W, env, P, R, h, k⟩ := h
  refine ⟨G, A, W, env, _, R, h, fun p v H1 g1 r ⟨j, e, h1⟩ => ⟨j, by subst e; exact VK1.bl r, ?_⟩⟩
  cases j with
  | false => rw [if_neg Bool.false_ne_true] at h1 ⊢; exact ⟨G, A, W, env, _, R.grow g1, h1, fun p v H2 g2 r2 h2 => k p v H2 (g1.trans g2) r2 h2⟩
  | true => rw [if_pos rfl] at h1 ⊢; exact k _ _ H1 g1 (VK1.ofRp Rp.bl') h1⟩
theorem em_not (ha : PEm X c .ow a ta) : PEm X c .cl (.UnaryOp .Not a pos) (mOp1 oNot ta) := ⟨(pe_not ha.run).weak fun σ H Q h => by
  obtain ⟨G, A, W, env, P, R, h, k⟩ := h
  exact ⟨G, A, W, env, _, R, h, fun p v H1 g1 r ⟨j, e, h1⟩ => ⟨j, by subst e; exact VK1.bl r, k _ _ H1 g1 (VK1.ofRp Rp.bl') h1⟩⟩⟩
def mIf (t : TTm) (ta tb : TEm) : TEm := fun env P => t env fun b => if b = true then ta env P else tb env P
theorem em_if {cnd : Expr} (hc : PTm X c cnd tA) (ha : PEm X c md a ta) (hb : PEm X c md b tb) : PEm X c md (.IfExp cnd a b pos) (mIf tA ta tb) := ⟨(pe_ifExp hc.run ha.run hb.run).weak fun σ H Q h => by
  obtain ⟨G, A, W, env, P, R, h, k⟩ := h
  refine ⟨G, A, W, env, _, R, h, fun b H1 g1 h1 => ?_⟩
  cases b with
  | true => rw [if_pos rfl] at h1 ⊢; exact ⟨G, A, W, env, _, R.grow g1, h1, fun p v H2 g2 r2 h2 => k p v H2 (g1.trans g2) (r2.back g1) h2⟩
  | false => rw [if_neg Bool.false_ne_true] at h1 ⊢; exact ⟨G, A, W, env, _, R.grow g1, h1, fun p v H2 g2 r2 h2 => k p v H2 (g1.trans g2) (r2.back g1) h2⟩⟩
end
end PM

set_option maxHeartbeats 1000000
/-! PM: operations by values. -/
namespace PM
open PySem L2

theorem OpR.or {X : Cx} {f : Value → Value → Sem Value} {r r' : R2} (h : OpR X f r) (h' : OpR X f r') : OpR X f (fun x y H Q => r x y H Q ∨ r' x y H Q) := by
  intro pins s σ H x y v u Q I rx ry q
  rcases q with q | q
  · exact h pins s σ H x y v u Q I rx ry q
  · exact h' pins s σ H x y v u Q I rx ry q
theorem CallR.or {X : Cx} {f : Value} {r r' : List V → Hp → VK → Prop} (h : CallR X f r) (h' : CallR X f r') : CallR X f (fun x H Q => r x H Q ∨ r' x H Q) := by
  intro pins s σ H x us Q I rx q
  rcases q with q | q
  · exact h pins s σ H x us Q I rx q
  · exact h' pins s σ H x us Q I rx q
section
variable {K : PySem.W.Frag}
theorem Sit.fin {Z : Addr → Prop} {W : Ws} {H : Hp} {P : PV → Prop} {Q : VK} {p : PV} {v : V} (S : Sit Z W H) (k : ∀ p v H', Grow W H H' → VK1 K .cl Z W H H' p v → P p → Q v H') (r : Rp K ⟨Z, W, H⟩ p v) (hp : P p) : Q v H := k p v H (Grow.refl S.src) (VK1.ofRp r) hp
/-! ### whole numbers -/
/-- two ints under a condition -/
def oI (C : Int → Int → Prop) (g : Int → Int → PV) : PO2 := fun x y P => ∃ i j, x = .int i ∧ y = .int j ∧ C i j ∧ P (g i j)
theorem lift_I {C C' : Int → Int → Prop} {g : Int → Int → PV} {g' : Int → Int → V} (hc : ∀ i j, C i j → C' i j) (hg : ∀ i j, C i j → ∀ Z W H, Rp K ⟨Z, W, H⟩ (g i j) (g' i j)) : Lift2 K (rI C' g') (oI C g) .cl := by
  rintro Z W H px py vx vy P Q S rx ry ⟨i, j, rfl, rfl, c, hp⟩ k
  exact ⟨i, j, rx.int, ry.int, hc i j c, S.fin k (hg i j c _ _ _) hp⟩
theorem lift_I0 {g : Int → Int → PV} {g' : Int → Int → V} (hg : ∀ i j Z W H, Rp K ⟨Z, W, H⟩ (g i j) (g' i j)) : Lift2 K (rI0 g') (oI (fun _ _ => True) g) .cl := by
  rintro Z W H px py vx vy P Q S rx ry ⟨i, j, rfl, rfl, c, hp⟩ k
  exact ⟨i, j, rx.int, ry.int, S.fin k (hg i j _ _ _) hp⟩
def oSub : PO2 := fun x y P => ∃ i j, x = .int i ∧ y = .int j ∧ P (.int (i - j))
theorem lift_sub : Lift2 K (rI0 fun i j => .int (i - j)) oSub .cl := by
  rintro Z W H px py vx vy P Q S rx ry ⟨i, j, rfl, rfl, hp⟩ k
  exact ⟨i, j, rx.int, ry.int, S.fin k Rp.int' hp⟩
def oFdiv : PO2 := fun x y P => ∃ i j, x = .int i ∧ y = .int j ∧ (0 < j ∧ j < 1073741824) ∧ P (.int (i / j))
theorem lift_fdiv : Lift2 K (rI CDiv fun i j => .int (i / j)) oFdiv .cl := by
  rintro Z W H px py vx vy P Q S rx ry ⟨i, j, rfl, rfl, c, hp⟩ k
  exact ⟨i, j, rx.int, ry.int, c, S.fin k Rp.int' hp⟩
def oMod : PO2 := fun x y P => ∃ i j, x = .int i ∧ y = .int j ∧ 0 < j ∧ P (.int (i % j))
theorem lift_mod : Lift2 K (rI (fun _ j => 0 < j) fun i j => .int (i % j)) oMod .cl := by
  rintro Z W H px py vx vy P Q S rx ry ⟨i, j, rfl, rfl, c, hp⟩ k
  exact ⟨i, j, rx.int, ry.int, c, S.fin k Rp.int' hp⟩
def oPow : PO2 := fun x y P => ∃ i j, x = .int i ∧ y = .int j ∧ (0 ≤ j ∧ j ≤ 1000000 ∧ i.natAbs < 2 ^ 64) ∧ P (.int (i ^ j.toNat))
theorem lift_pow : Lift2 K (rI CPow fun i j => .int (i ^ j.toNat)) oPow .cl := by
  rintro Z W H px py vx vy P Q S rx ry ⟨i, j, rfl, rfl, c, hp⟩ k
  exact ⟨i, j, rx.int, ry.int, c, S.fin k Rp.int' hp⟩
def oNeg : PO1 := fun x P => ∃ i, x = .int i ∧ P (.int (-i))
theorem lift_neg : Lift1 K (rU fun i => .int (-i)) oNeg .cl := by
  rintro Z W H px vx P Q S rx ⟨i, rfl, hp⟩ k
  exact ⟨i, rx.int, S.fin k Rp.int' hp⟩
def oLt : PO2 := fun x y P => ∃ i j, x = .int i ∧ y = .int j ∧ P (.bl (decide (i < j)))
def oLe : PO2 := fun x y P => ∃ i j, x = .int i ∧ y = .int j ∧ P (.bl (decide (i ≤ j)))
def oGt : PO2 := fun x y P => ∃ i j, x = .int i ∧ y = .int j ∧ P (.bl (decide (j < i)))
def oGe : PO2 := fun x y P => ∃ i j, x = .int i ∧ y = .int j ∧ P (.bl (decide (j ≤ i)))
theorem lift_lt : Lift2 K (rI0 fun i j => .bl (decide (i < j))) oLt .cl := by
  rintro Z W H px py vx vy P Q S rx ry ⟨i, j, rfl, rfl, hp⟩ k
  exact ⟨i, j, rx.int, ry.int, S.fin k Rp.bl' hp⟩
theorem lift_le : Lift2 K (rI0 fun i j => .bl (decide (i ≤ j))) oLe .cl := by
  rintro Z W H px py vx vy P Q S rx ry ⟨i, j, rfl, rfl, hp⟩ k
  exact ⟨i, j, rx.int, ry.int, S.fin k Rp.bl' hp⟩
theorem lift_gt : Lift2 K (rI0 fun i j => .bl (decide (j < i))) oGt .cl := by
  rintro Z W H px py vx vy P Q S rx ry ⟨i, j, rfl, rfl, hp⟩ k
  exact ⟨i, j, rx.int, ry.int, S.fin k Rp.bl' hp⟩
theorem lift_ge : Lift2 K (rI0 fun i j => .bl (decide (j ≤ i))) oGe .cl := by
  rintro Z W H px py vx vy P Q S rx ry ⟨i, j, rfl, rfl, hp⟩ k
  exact ⟨i, j, rx.int, ry.int, S.fin k Rp.bl' hp⟩

/-! ### +, * -/
def oAdd : PO2 := fun x y P => match x, y with
  | .int i, .int j => P (.int (i + j))
  | .tup a, .tup b => a.length + b.length ≤ sizeLine ∧ P (.tup (a ++ b))
  | .str a, .str b => a.length + b.length ≤ sizeLine ∧ P (.str (a ++ b))
  | .lst a, .lst b => a.length + b.length ≤ sizeLine ∧ P (.lst (a ++ b))
  | _, _ => False
def rStr : R2 := fun x y H Q => ∃ i j, x = .str i ∧ y = .str j ∧ i.length + j.length ≤ sizeLine ∧ Q (.str (i ++ j)) H
abbrev rPlus (K : PySem.W.Frag) : R2 := fun x y H Q => (rI0 (fun i j => .int (i + j)) x y H Q ∨ rCatA K x y H Q) ∨ (rStr x y H Q ∨ rCat x y H Q)
theorem op_plus {X : Cx} : OpR X (binaryOp .Add) (rPlus X.K) := OpR.or (OpR.or op_add op_catA) (OpR.or op_add_str op_cat)
theorem Rps.isNil {S : Wd} {ps : List PV} {vs : List V} (h : Rps K S ps vs) : ps = [] ↔ vs = [] := by
  have l := h.len
  constructor
  · intro e; rw [e] at l; exact List.eq_nil_of_length_eq_zero l.symm
  · intro e; rw [e] at l; exact List.eq_nil_of_length_eq_zero l
theorem lift_cat {P : PV → Prop} {Q : VK} {Z : Addr → Prop} {W : Ws} {H : Hp} {a b : List PV} {vx vy : V} (S : Sit Z W H) (rx : RpO K ⟨Z, W, H⟩ (.lst a) vx) (ry : RpO K ⟨Z, W, H⟩ (.lst b) vy) (hl : a.length + b.length ≤ sizeLine) (hp : P (.lst (a ++ b)))
    (k : ∀ p v H', Grow W H H' → VK1 K .fr Z W H H' p v → P p → Q v H') : rCat vx vy H Q := by
  obtain ⟨l1, vs, rfl, ⟨_, e1⟩, r1⟩ := rx.lst
  obtain ⟨l2, ws, rfl, ⟨_, e2⟩, r2⟩ := ry.lst
  refine ⟨l1, l2, vs, ws, rfl, rfl, e1, e2, by rw [← r1.len, ← r2.len]; exact hl, fun p n => ?_⟩
  exact k _ _ _ (Grow.new S.src n) ⟨p, rfl, n, OwnAt.newLst n (r1.append r2)⟩ hp
theorem lift_plus : Lift2 K (rPlus K) oAdd .cl := by
  intro Z W H px py vx vy P Q S rx ry h k
  cases px with
  | int i =>
    cases py with
    | int j => exact .inl (.inl ⟨i, j, rx.int, ry.int, S.fin k Rp.int' h⟩)
    | _ => exact h.elim
  | str i =>
    cases py with
    | str j => exact .inr (.inl ⟨i, j, rx.str, ry.str, h.1, S.fin k Rp.str' h.2⟩)
    | _ => exact h.elim
  | tup a =>
    cases py with
    | tup b =>
      obtain ⟨hl, hp⟩ := h
      have rx' : Rp K ⟨Z, W, H⟩ (.tup a) vx := rx
      have ry' : Rp K ⟨Z, W, H⟩ (.tup b) vy := ry
      obtain ⟨l1, vs, rfl, e1, r1⟩ := rx.tup
      obtain ⟨l2, ws, rfl, e2, r2⟩ := ry.tup
      refine .inl (.inr ⟨l1, l2, vs, ws, rfl, rfl, e1.sq, e2.sq, by rw [← r1.len, ← r2.len]; exact hl, fun z => ?_, fun _ z => ?_, fun _ _ p n => ?_⟩)
      · rw [r1.isNil.mpr z, List.nil_append] at hp
        exact S.fin k ry' hp
      · rw [r2.isNil.mpr z, List.append_nil] at hp
        exact S.fin k rx' hp
      · exact k _ _ _ (Grow.new S.src n) (VK1.ofRp (Rp.newTup (S.nz n) n S.src S.wz (r1.append r2))) hp
    | _ => exact h.elim
  | lst a =>
    cases py with
    | lst b => exact .inr (.inr (lift_cat S rx ry h.1 h.2 fun p v H' g r hp => k p v H' g (VK1.cl S.zd r) hp))
    | _ => exact h.elim
  | _ => exact h.elim
/-- lists, the sum a new one -/
def oCat : PO2 := fun x y P => ∃ a b, x = .lst a ∧ y = .lst b ∧ a.length + b.length ≤ sizeLine ∧ P (.lst (a ++ b))
theorem lift_catF : Lift2 K rCat oCat .fr := by
  rintro Z W H px py vx vy P Q S rx ry ⟨a, b, rfl, rfl, hl, hp⟩ k
  exact lift_cat S rx ry hl hp k
def oMul : PO2 := fun x y P => ∃ i j, x = .int i ∧ y = .int j ∧ CMul i j ∧ P (.int (i * j))
theorem lift_mul : Lift2 K (rI CMul fun i j => .int (i * j)) oMul .cl := by
  rintro Z W H px py vx vy P Q S rx ry ⟨i, j, rfl, rfl, c, hp⟩ k
  exact ⟨i, j, rx.int, ry.int, c, S.fin k Rp.int' hp⟩
theorem Rps.rep {S : Wd} {ps : List PV} {vs : List V} (h : Rps K S ps vs) : ∀ n : Nat, Rps K S (List.replicate n ps).flatten (List.replicate n vs).flatten
  | 0 => Rps.nil
  | n + 1 => by
    rw [List.replicate_succ, List.replicate_succ, List.flatten_cons, List.flatten_cons]
    exact h.append (Rps.rep h n)
def oRep : PO2 := fun x y P => ∃ a k, x = .lst a ∧ y = .int k ∧ (-(2 ^ 63) ≤ k ∧ k < 2 ^ 63) ∧ a.length * k.toNat ≤ sizeLine ∧ P (.lst (List.replicate k.toNat a).flatten)
theorem lift_rep : Lift2 K rRep oRep .fr := by
  rintro Z W H px py vx vy P Q S rx ry ⟨a, i, rfl, rfl, ⟨h1, h2⟩, hl, hp⟩ k
  obtain ⟨l1, vs, rfl, ⟨_, e1⟩, r1⟩ := rx.lst
  refine ⟨l1, i, vs, rfl, ry.int, e1, h1, h2, by rw [← r1.len]; exact hl, fun p n => ?_⟩
  exact k _ _ _ (Grow.new S.src n) ⟨p, rfl, n, OwnAt.newLst n (r1.rep _)⟩ hp

/-! ### == of data -/
mutual
def toD : PV → Option PyData
  | .non => some .none
  | .bl b => some (.bool b)
  | .int i => some (.int i)
  | .str x => some (.str x)
  | .tup ps => (toDs ps).map .tuple
  | .lst ps => (toDs ps).map .list
  | _ => none
def toDs : List PV → Option (List PyData)
  | [] => some []
  | p :: ps => (toD p).bind fun d => (toDs ps).map fun ds => d :: ds
end
mutual
theorem toD_dp {S : Wd} : ∀ {p : PV} {v : V} {d : PyData}, Rp K S p v → toD p = some d → Dp K S.H v d
  | .non, _, _, h, e => by unfold Rp at h; subst h; unfold toD at e; cases e; exact .non
  | .bl b, _, _, h, e => by unfold Rp at h; subst h; unfold toD at e; cases e; exact .bl b
  | .int b, _, _, h, e => by unfold Rp at h; subst h; unfold toD at e; cases e; exact .int b
  | .str b, _, _, h, e => by unfold Rp at h; subst h; unfold toD at e; cases e; exact .str b
  | .tup ps, _, _, h, e => by
    unfold Rp at h
    obtain ⟨a, vs, rfl, h1, h2⟩ := h
    unfold toD at e
    cases q : toDs ps with
    | none => rw [q] at e; cases e
    | some ds => rw [q] at e; cases e; exact .tup h1.sq (toDs_dp h2 q)
  | .lst ps, _, _, h, e => by
    unfold Rp at h
    obtain ⟨a, vs, rfl, h1, h2⟩ := h
    unfold toD at e
    cases q : toDs ps with
    | none => rw [q] at e; cases e
    | some ds => rw [q] at e; cases e; exact .lst h1.sq (toDs_dp h2 q)
  | .dic _ _, _, _, _, e => by unfold toD at e; cases e
  | .obj _ _ _ _, _, _, _, e => by unfold toD at e; cases e
  | .ref _, _, _, _, e => by unfold toD at e; cases e
  | .src, _, _, _, e => by unfold toD at e; cases e
  | .scr _, _, _, _, e => by unfold toD at e; cases e
theorem toDs_dp {S : Wd} : ∀ {ps : List PV} {vs : List V} {ds : List PyData}, Rps K S ps vs → toDs ps = some ds → DpAll K S.H vs ds
  | [], _, _, h, e => by unfold Rps at h; subst h; unfold toDs at e; cases e; exact .nil
  | p :: ps, _, _, h, e => by
    unfold Rps at h
    obtain ⟨v, r, rfl, h1, h2⟩ := h
    unfold toDs at e
    cases q : toD p with
    | none => rw [q] at e; cases e
    | some d =>
      rw [q] at e
      cases q2 : toDs ps with
      | none => rw [q2] at e; cases e
      | some ds => rw [q2] at e; cases e; exact .cons (toD_dp h1 q) (toDs_dp h2 q2)
end
theorem toD_dpO {Z : Addr → Prop} {W : Ws} {H : Hp} {p : PV} {v : V} {d : PyData} (h : RpO K ⟨Z, W, H⟩ p v) (e : toD p = some d) : Dp K H v d := by
  cases p with
  | lst ps =>
    obtain ⟨a, vs, rfl, h1, h2⟩ := h.lst
    unfold toD at e
    cases q : toDs ps with
    | none => rw [q] at e; cases e
    | some ds => rw [q] at e; cases e; exact .lst (.inl (.inl h1.2)) (toDs_dp h2 q)
  | dic _ _ => unfold toD at e; cases e
  | non => exact toD_dp (S := ⟨Z, W, H⟩) h e
  | bl _ => exact toD_dp (S := ⟨Z, W, H⟩) h e
  | int _ => exact toD_dp (S := ⟨Z, W, H⟩) h e
  | str _ => exact toD_dp (S := ⟨Z, W, H⟩) h e
  | tup _ => exact toD_dp (S := ⟨Z, W, H⟩) h e
  | obj _ _ _ _ => unfold toD at e; cases e
  | ref _ => unfold toD at e; cases e
  | src => unfold toD at e; cases e
  | scr _ => unfold toD at e; cases e
  | iset _ => unfold toD at e; cases e
  | pdic _ => unfold toD at e; cases e
def oEq : PO2 := fun x y P => ∃ d e, toD x = some d ∧ toD y = some e ∧ SeqAt.shaped d = true ∧ SeqAt.shaped e = true ∧ P (.bl (PyData.eqv d e))
def oNe : PO2 := fun x y P => ∃ d e, toD x = some d ∧ toD y = some e ∧ SeqAt.shaped d = true ∧ SeqAt.shaped e = true ∧ P (.bl (!PyData.eqv d e))
theorem lift_eq : Lift2 K (rEqD K) oEq .cl := by
  rintro Z W H px py vx vy P Q S rx ry ⟨d, e, h1, h2, s1, s2, hp⟩ k
  exact ⟨d, e, toD_dpO rx h1, toD_dpO ry h2, s1, s2, S.fin k Rp.bl' hp⟩
theorem lift_ne : Lift2 K (rNeD K) oNe .cl := by
  rintro Z W H px py vx vy P Q S rx ry ⟨d, e, h1, h2, s1, s2, hp⟩ k
  exact ⟨d, e, toD_dpO rx h1, toD_dpO ry h2, s1, s2, S.fin k Rp.bl' hp⟩
/-- == of scalars, short -/
def oEqS : PO2 := fun x y P => match x, y with
  | .int i, .int j => P (.bl (decide (i = j)))
  | .str i, .str j => P (.bl (decide (i = j)))
  | .bl i, .bl j => P (.bl (decide (i = j)))
  | _, _ => False
def oNeS : PO2 := fun x y P => match x, y with
  | .int i, .int j => P (.bl (!decide (i = j)))
  | .str i, .str j => P (.bl (!decide (i = j)))
  | .bl i, .bl j => P (.bl (!decide (i = j)))
  | _, _ => False

/-! ### is -/
def isNon : PV → Bool
  | .non => true
  | _ => false
theorem RpO.isNon {Z : Addr → Prop} {W : Ws} {H : Hp} {p : PV} {v : V} (h : RpO K ⟨Z, W, H⟩ p v) : decide (v = .non) = isNon p := by
  cases p with
  | non => rw [h.non]; rfl
  | bl b => rw [h.bl]; rfl
  | int b => rw [h.int]; rfl
  | str b => rw [h.str]; rfl
  | tup b => obtain ⟨a, vs, rfl, _⟩ := h.tup; rfl
  | lst b => obtain ⟨a, vs, rfl, _⟩ := h.lst; rfl
  | dic _ _ => obtain ⟨a, vs, rfl, _⟩ := h; rfl
  | obj _ _ _ _ => unfold RpO Rp at h; obtain ⟨_, a, vs, rfl, _⟩ := h; rfl
  | ref _ => unfold RpO Rp at h; subst h; rfl
  | src => unfold RpO Rp at h; obtain ⟨p, _, rfl⟩ := h; rfl
  | scr _ => unfold RpO Rp at h; obtain ⟨p, rfl, _⟩ := h; rfl
  | iset _ => unfold RpO Rp at h; obtain ⟨p, n, rfl, _⟩ := h; rfl
  | pdic _ => obtain ⟨a, L, rfl, _⟩ := h; rfl
def oIsN : PO2 := fun x y P => y = .non ∧ P (.bl (isNon x))
def oNotN : PO2 := fun x y P => y = .non ∧ P (.bl (!isNon x))
theorem lift_isN : Lift2 K (fun x y H Q => y = .non ∧ Q (.bl (decide (x = .non))) H) oIsN .cl := by
  rintro Z W H px py vx vy P Q S rx ry ⟨rfl, hp⟩ k
  refine ⟨ry.non, ?_⟩
  rw [rx.isNon]
  exact S.fin k Rp.bl' hp
theorem lift_notN : Lift2 K (fun x y H Q => y = .non ∧ Q (.bl (!decide (x = .non))) H) oNotN .cl := by
  rintro Z W H px py vx vy P Q S rx ry ⟨rfl, hp⟩ k
  refine ⟨ry.non, ?_⟩
  rw [rx.isNon]
  exact S.fin k Rp.bl' hp
def oIsB : PO2 := fun x y P => ∃ a b, x = .bl a ∧ y = .bl b ∧ P (.bl (decide (a = b)))
def oNotB : PO2 := fun x y P => ∃ a b, x = .bl a ∧ y = .bl b ∧ P (.bl (!decide (a = b)))
theorem lift_isB : Lift2 K rIsB oIsB .cl := by
  rintro Z W H px py vx vy P Q S rx ry ⟨a, b, rfl, rfl, hp⟩ k
  exact ⟨a, b, rx.bl, ry.bl, S.fin k Rp.bl' hp⟩
theorem lift_notB : Lift2 K rNotB oNotB .cl := by
  rintro Z W H px py vx vy P Q S rx ry ⟨a, b, rfl, rfl, hp⟩ k
  exact ⟨a, b, rx.bl, ry.bl, S.fin k Rp.bl' hp⟩

/-! ### in, of flat things -/
def flatP : PV → Bool
  | .non => true
  | .bl _ => true
  | .int _ => true
  | .str _ => true
  | _ => false
def eqP : PV → PV → Bool
  | .non, .non => true
  | .bl a, .bl b => a == b
  | .bl a, .int b => (if a then 1 else 0) == b
  | .int a, .bl b => a == (if b then 1 else 0)
  | .int a, .int b => a == b
  | .str a, .str b => a == b
  | _, _ => false
def flV : PV → V
  | .bl b => .bl b
  | .int i => .int i
  | .str x => .str x
  | _ => .non
theorem RpO.flat {Z : Addr → Prop} {W : Ws} {H : Hp} {p : PV} {v : V} (h : RpO K ⟨Z, W, H⟩ p v) (f : flatP p = true) : v = flV p := by
  cases p with
  | non => exact h.non
  | bl b => exact h.bl
  | int b => exact h.int
  | str b => exact h.str
  | _ => exact absurd f (by simp [flatP])
theorem flV_flat {p : PV} (f : flatP p = true) : flatV (flV p) = true := by cases p <;> first | rfl | exact absurd f (by simp [flatP])
theorem flV_eq {p q : PV} (f : flatP p = true) (g : flatP q = true) : eqV (flV p) (flV q) = eqP p q := by
  cases p <;> cases q <;> first | rfl | (simp [flatP] at f; done) | (simp [flatP] at g; done)
theorem Rps.flat {S : Wd} : ∀ {ps : List PV} {vs : List V}, Rps K S ps vs → ps.all flatP = true → vs = ps.map flV
  | [], _, h, _ => by unfold Rps at h; exact h
  | p :: ps, _, h, f => by
    unfold Rps at h
    obtain ⟨v, r, rfl, h1, h2⟩ := h
    rw [List.all_cons, Bool.and_eq_true] at f
    rw [List.map_cons, Rps.flat h2 f.2]
    obtain ⟨Z, W, H⟩ := S
    have e : v = flV p := by
      cases p with
      | non => unfold Rp at h1; exact h1
      | bl b => unfold Rp at h1; exact h1
      | int b => unfold Rp at h1; exact h1
      | str b => unfold Rp at h1; exact h1
      | _ => exact absurd f.1 (by simp [flatP])
    rw [e]
def inP (x : PV) (ps : List PV) : Bool := ps.any fun y => eqP y x
theorem inV_flat {x : PV} (f : flatP x = true) : ∀ {ps : List PV}, ps.all flatP = true → inV (flV x) (ps.map flV) = inP x ps
  | [], _ => rfl
  | p :: ps, h => by
    rw [List.all_cons, Bool.and_eq_true] at h
    have e := inV_flat f h.2
    unfold inV inP at e ⊢
    rw [List.map_cons, List.any_cons, List.any_cons, flV_eq h.1 f, e]
def oIn (neg : Bool) : PO2 := fun x y P => ∃ ps, (y = .lst ps ∨ y = .tup ps) ∧ flatP x = true ∧ ps.all flatP = true ∧ P (.bl (if neg then !inP x ps else inP x ps))
theorem lift_in {neg : Bool} : Lift2 K (rIn K neg) (oIn neg) .cl := by
  rintro Z W H px py vx vy P Q S rx ry ⟨ps, hy, fx, fs, hp⟩ k
  have ex := rx.flat fx
  subst ex
  rcases hy with rfl | rfl
  · obtain ⟨a, vs, rfl, e, r⟩ := ry.lst
    have ev := r.flat fs
    subst ev
    refine ⟨a, _, rfl, .inl (.inl (.inl e.2)), flV_flat fx, ?_, ?_⟩
    · rw [List.all_eq_true] at fs ⊢
      intro v hv
      obtain ⟨p, hp, rfl⟩ := List.mem_map.mp hv
      exact flV_flat (fs p hp)
    · rw [inV_flat fx fs]
      exact S.fin k Rp.bl' hp
  · obtain ⟨a, vs, rfl, e, r⟩ := ry.tup
    have ev := r.flat fs
    subst ev
    refine ⟨a, _, rfl, .inr e.sq, flV_flat fx, ?_, ?_⟩
    · rw [List.all_eq_true] at fs ⊢
      intro v hv
      obtain ⟨p, hp, rfl⟩ := List.mem_map.mp hv
      exact flV_flat (fs p hp)
    · rw [inV_flat fx fs]
      exact S.fin k Rp.bl' hp

/-! ### subscripts -/
def oIx : PO2 := fun x y P => match x, y with
  | .lst ps, .int i => ∃ p, atI ps i = some p ∧ P p
  | .tup ps, .int i => ∃ p, atI ps i = some p ∧ P p
  | .str z, .int i => z.length ≤ sizeLine ∧ ∃ c, atI z.cps.toList i = some c ∧ P (.str ⟨#[c]⟩)
  | _, _ => False
theorem Rps.atI {S : Wd} {ps : List PV} {vs : List V} {i : Int} {p : PV} (h : Rps K S ps vs) (e : L2.atI ps i = some p) : ∃ v, L2.atI vs i = some v ∧ Rp K S p v := by
  unfold L2.atI at e ⊢
  rw [← h.len]
  cases q : ixN ps.length i with
  | none => rw [q] at e; cases e
  | some j =>
    rw [q] at e
    exact h.get (i := j) e
theorem lift_ix : Lift2 K (rIx K) oIx .cl := by
  intro Z W H px py vx vy P Q S rx ry h k
  cases px with
  | lst ps =>
    cases py with
    | int i =>
      obtain ⟨p, e, hp⟩ := h
      obtain ⟨a, vs, rfl, e1, r⟩ := rx.lst
      obtain ⟨v, e2, r2⟩ := r.atI e
      exact .inl ⟨a, vs, i, v, rfl, ry.int, .inl (.inl e1.2), e2, S.fin k r2 hp⟩
    | _ => exact h.elim
  | tup ps =>
    cases py with
    | int i =>
      obtain ⟨p, e, hp⟩ := h
      obtain ⟨a, vs, rfl, e1, r⟩ := rx.tup
      obtain ⟨v, e2, r2⟩ := r.atI e
      exact .inr (.inl ⟨a, vs, i, v, rfl, ry.int, e1.sq, e2, S.fin k r2 hp⟩)
    | _ => exact h.elim
  | str z =>
    cases py with
    | int i =>
      obtain ⟨hl, c, e, hp⟩ := h
      exact .inr (.inr ⟨z, i, c, rx.str, ry.int, hl, e, S.fin k Rp.str' hp⟩)
    | _ => exact h.elim
  | _ => exact h.elim
theorem em_ix {X : Cx} {c : List Ow} {a b : Expr} {ta tb : TEm} {pos : Pos} (ha : PEm X c .ow a ta) (hb : PEm X c .ow b tb) (hs : PlainIx b) : PEm X c .cl (.Subscript a b pos) (mOp oIx ta tb) := ⟨(pe_ix ix_seq ha.run hb.run hs).weak (tm2 lift_ix)⟩
end
end PM

set_option maxHeartbeats 1000000
/-! PM: slices, built-ins. -/
namespace PM
open PySem L2
/-! ### sorting -/
def ins (x : Int) : List Int → List Int
  | [] => [x]
  | y :: ys => if x ≤ y then x :: y :: ys else y :: ins x ys
def isort : List Int → List Int
  | [] => []
  | x :: xs => ins x (isort xs)
theorem ins_perm (x : Int) : ∀ ys, (ins x ys).Perm (x :: ys)
  | [] => List.Perm.refl _
  | y :: ys => by
    unfold ins
    split
    · exact List.Perm.refl _
    · exact ((ins_perm x ys).cons y).trans (List.Perm.swap x y ys)
theorem isort_perm : ∀ xs, (isort xs).Perm xs
  | [] => List.Perm.refl _
  | x :: xs => (ins_perm x (isort xs)).trans ((isort_perm xs).cons x)
theorem ins_sorted (x : Int) : ∀ ys : List Int, ys.Pairwise (· ≤ ·) → (ins x ys).Pairwise (· ≤ ·)
  | [], _ => by unfold ins; exact List.pairwise_singleton _ _
  | y :: ys, h => by
    unfold ins
    rw [List.pairwise_cons] at h
    split
    · rename_i hxy
      refine List.pairwise_cons.mpr ⟨fun z hz => ?_, List.pairwise_cons.mpr h⟩
      rcases List.mem_cons.mp hz with rfl | hz
      · exact hxy
      · exact Int.le_trans hxy (h.1 z hz)
    · rename_i hxy
      refine List.pairwise_cons.mpr ⟨fun z hz => ?_, ins_sorted x ys h.2⟩
      rcases List.mem_cons.mp ((ins_perm x ys).mem_iff.mp hz) with rfl | hz
      · omega
      · exact h.1 z hz
theorem isort_sorted : ∀ xs, (isort xs).Pairwise (· ≤ ·)
  | [] => List.Pairwise.nil
  | x :: xs => ins_sorted x _ (isort_sorted xs)
theorem sorted_unique {xs ys : List Int} (p : xs.Perm ys) (hx : xs.Pairwise (· ≤ ·)) (hy : ys.Pairwise (· ≤ ·)) : xs = ys :=
  p.eq_of_pairwise (fun a b _ _ h1 h2 => Int.le_antisymm h1 h2) hx hy
theorem isort_eq {xs ys : List Int} (p : ys.Perm xs) (h : ys.Pairwise (· ≤ ·)) : ys = isort xs := sorted_unique (p.trans (isort_perm xs).symm) h (isort_sorted xs)

section
variable {K : PySem.W.Frag}
theorem VKs.nil_inv {Z : Addr → Prop} {W : Ws} {H : Hp} {vs : List V} (h : VKs K .ow Z W H [] vs) : vs = [] := by cases h; rfl
theorem VKs.one {Z : Addr → Prop} {W : Ws} {H : Hp} {p : PV} {vs : List V} (h : VKs K .ow Z W H [p] vs) : ∃ v, vs = [v] ∧ RpO K ⟨Z, W, H⟩ p v := by
  cases h with
  | cons h t => cases t; exact ⟨_, rfl, h⟩
theorem VKs.two {Z : Addr → Prop} {W : Ws} {H : Hp} {p q : PV} {vs : List V} (h : VKs K .ow Z W H [p, q] vs) : ∃ v w, vs = [v, w] ∧ RpO K ⟨Z, W, H⟩ p v ∧ RpO K ⟨Z, W, H⟩ q w := by
  cases h with
  | cons h t => cases t with
    | cons h' t' => cases t'; exact ⟨_, _, rfl, h, h'⟩
/-! ### numbers -/
def oAbs : POn := fun xs P => ∃ i, xs = [.int i] ∧ P (.int (if i < 0 then -i else i))
theorem lift_abs : LiftN K (fun xs H Q => ∃ i, xs = [.int i] ∧ Q (.int (if i < 0 then -i else i)) H) oAbs .cl := by
  rintro Z W H ps vs P Q S r ⟨i, rfl, hp⟩ k
  obtain ⟨v, rfl, rv⟩ := r.one
  exact ⟨i, by rw [rv.int], S.fin k Rp.int' hp⟩
def oMax2 : POn := fun xs P => ∃ i j, xs = [.int i, .int j] ∧ P (.int (if j > i then j else i))
def oMin2 : POn := fun xs P => ∃ i j, xs = [.int i, .int j] ∧ P (.int (if j < i then j else i))
theorem lift_max2 : LiftN K (fun xs H Q => ∃ i j, xs = [.int i, .int j] ∧ Q (.int (if j > i then j else i)) H) oMax2 .cl := by
  rintro Z W H ps vs P Q S r ⟨i, j, rfl, hp⟩ k
  obtain ⟨v, w, rfl, rv, rw'⟩ := r.two
  exact ⟨i, j, by rw [rv.int, rw'.int], S.fin k Rp.int' hp⟩
theorem lift_min2 : LiftN K (fun xs H Q => ∃ i j, xs = [.int i, .int j] ∧ Q (.int (if j < i then j else i)) H) oMin2 .cl := by
  rintro Z W H ps vs P Q S r ⟨i, j, rfl, hp⟩ k
  obtain ⟨v, w, rfl, rv, rw'⟩ := r.two
  exact ⟨i, j, by rw [rv.int, rw'.int], S.fin k Rp.int' hp⟩
def oInt : POn := fun xs P => match xs with
  | [.int i] => P (.int i)
  | [.bl b] => P (.int (if b then 1 else 0))
  | _ => False
theorem lift_int : LiftN K (fun xs H Q => (∃ i, xs = [.int i] ∧ Q (.int i) H) ∨ ∃ k, xs = [.bl k] ∧ Q (.int (if k then 1 else 0)) H) oInt .cl := by
  intro Z W H ps vs P Q S r h k
  match ps, h with
  | [.int i], h =>
    obtain ⟨v, rfl, rv⟩ := r.one
    exact .inl ⟨i, by rw [rv.int], S.fin k Rp.int' h⟩
  | [.bl i], h =>
    obtain ⟨v, rfl, rv⟩ := r.one
    exact .inr ⟨i, by rw [rv.bl], S.fin k Rp.int' h⟩
/-! ### len, list, tuple, sorted, sum .. -/
def plen : PV → Option Nat
  | .lst ps => some ps.length
  | .tup ps => some ps.length
  | .dic ks _ => some ks.length
  | .str x => if x.length ≤ sizeLine then some x.length else none
  | .scr ns => some ns.length
  | _ => none
def oLen : POn := fun xs P => ∃ x n, xs = [x] ∧ plen x = some n ∧ P (.int (n : Int))
abbrev rLen (K : PySem.W.Frag) : List V → Hp → VK → Prop := fun xs H Q => (∃ x n, xs = [x] ∧ LenV K x H n ∧ Q (.int n) H) ∨ (∃ a kvs, xs = [V.ref a] ∧ H a = some (.dK kvs) ∧ Q (.int kvs.length) H)
theorem call_lenA {X : Cx} : CallR X (.builtin "len") (rLen X.K) := CallR.or call_len call_lenD
theorem lift_len : LiftN K (rLen K) oLen .cl := by
  rintro Z W H ps vs P Q S r ⟨x, n, rfl, hn, hp⟩ k
  obtain ⟨v, rfl, rv⟩ := r.one
  cases x with
  | lst ps =>
    obtain ⟨a, ws, rfl, e, r1⟩ := rv.lst
    obtain rfl : ps.length = n := Option.some.inj hn
    exact .inl ⟨_, ps.length, rfl, .inl ⟨ws, .inl (.inl e.2), r1.len⟩, S.fin k Rp.int' hp⟩
  | tup ps =>
    obtain ⟨a, ws, rfl, e, r1⟩ := rv.tup
    obtain rfl : ps.length = n := Option.some.inj hn
    exact .inl ⟨_, ps.length, rfl, .inr ⟨ws, e.sq, r1.len⟩, S.fin k Rp.int' hp⟩
  | dic ks ps =>
    obtain ⟨a, ws, rfl, _, e, l, r1⟩ := rv
    obtain rfl : ks.length = n := Option.some.inj hn
    have el : (ks.zip ws).length = ks.length := by rw [List.length_zip, ← l, Nat.min_self]
    refine .inr ⟨a, _, rfl, e, ?_⟩
    rw [el]
    exact S.fin k Rp.int' hp
  | str x =>
    rw [rv.str]
    have hn' : (if x.length ≤ sizeLine then some x.length else none) = some n := hn
    by_cases hl : x.length ≤ sizeLine
    · rw [if_pos hl] at hn'
      obtain rfl : x.length = n := Option.some.inj hn'
      exact .inl ⟨_, x.length, rfl, ⟨hl, rfl⟩, S.fin k Rp.int' hp⟩
    · rw [if_neg hl] at hn'; cases hn'
  | scr ns =>
    unfold RpO Rp at rv
    obtain ⟨a, rfl, e⟩ := rv
    obtain rfl : ns.length = n := Option.some.inj hn
    have e' : SqL K H a (ns.map V.int) := e.elim (fun z => let ⟨o, w⟩ := z.2; .inl (.inr ⟨o, w⟩)) .inr
    exact .inl ⟨_, ns.length, rfl, .inl ⟨ns.map V.int, e', by rw [List.length_map]⟩, S.fin k Rp.int' hp⟩
  | _ => cases hn
/-- the items of a list or tuple -/
def seqP : PV → Option (List PV)
  | .lst ps => some ps
  | .tup ps => some ps
  | _ => none
theorem RpO.seq {Z : Addr → Prop} {W : Ws} {H : Hp} {p : PV} {ps : List PV} {v : V} (h : RpO K ⟨Z, W, H⟩ p v) (e : seqP p = some ps) : ∃ a vs, v = .ref a ∧ (SqL K H a vs ∨ SqT K H a vs) ∧ Rps K ⟨Z, W, H⟩ ps vs := by
  cases p with
  | lst qs =>
    obtain rfl : qs = ps := Option.some.inj e
    obtain ⟨a, ws, rfl, e, r1⟩ := h.lst
    exact ⟨a, ws, rfl, .inl (.inl (.inl e.2)), r1⟩
  | tup qs =>
    obtain rfl : qs = ps := Option.some.inj e
    obtain ⟨a, ws, rfl, e, r1⟩ := h.tup
    exact ⟨a, ws, rfl, .inr e.sq, r1⟩
  | _ => cases e
def oList : POn := fun xs P => ∃ x ps, xs = [x] ∧ seqP x = some ps ∧ P (.lst ps)
theorem lift_list : LiftN K (fun xs H Q => ∃ p ys, xs = [.ref p] ∧ (SqL K H p ys ∨ SqT K H p ys) ∧ ∀ l, H l = none → Q (.ref l) (upd H l (.lst ys))) oList .fr := by
  rintro Z W H ps vs P Q S r ⟨x, qs, rfl, hn, hp⟩ k
  obtain ⟨v, rfl, rv⟩ := r.one
  obtain ⟨a, ws, rfl, e, r1⟩ := rv.seq hn
  exact ⟨a, ws, rfl, e, fun l n => k _ _ _ (Grow.new S.src n) ⟨l, rfl, n, OwnAt.newLst n r1⟩ hp⟩
def oTuple : POn := fun xs P => ∃ x ps, xs = [x] ∧ seqP x = some ps ∧ P (.tup ps)
theorem lift_tuple : LiftN K (fun xs H Q => ∃ p ys, xs = [.ref p] ∧ ((SqL K H p ys ∧ ∀ l, H l = none → Q (.ref l) (upd H l (.tup ys))) ∨ (SqT K H p ys ∧ Q (.ref p) H))) oTuple .cl := by
  rintro Z W H ps vs P Q S r ⟨x, qs, rfl, hn, hp⟩ k
  obtain ⟨v, rfl, rv⟩ := r.one
  cases x with
  | lst ps =>
    obtain rfl : ps = qs := Option.some.inj hn
    obtain ⟨a, ws, rfl, e, r1⟩ := rv.lst
    exact ⟨a, ws, rfl, .inl ⟨.inl (.inl e.2), fun l n => k _ _ _ (Grow.new S.src n) (VK1.ofRp (Rp.newTup (S.nz n) n S.src S.wz r1)) hp⟩⟩
  | tup ps =>
    obtain rfl : ps = qs := Option.some.inj hn
    have rv' : Rp K ⟨Z, W, H⟩ (.tup ps) v := rv
    obtain ⟨a, ws, rfl, e, r1⟩ := rv.tup
    exact ⟨a, ws, rfl, .inr ⟨e.sq, S.fin k rv' hp⟩⟩
  | _ => cases hn
def intKey (i : Int) : Key := Sum.inl i
def oSorted : POn := fun xs P => ∃ ns : List Int, (xs = [.lst (ns.map .int)] ∨ ((∃ vs, xs = [.dic (ns.map intKey) vs]) ∧ ns.length < 64)) ∧ P (.lst ((isort ns).map .int))
abbrev rSortedA (K : PySem.W.Frag) : List V → Hp → VK → Prop := fun xs H Q => rSortedI K xs H Q ∨ (∃ (a : Addr) (kvs : List (Key × V)) (ks : List Int), xs = [.ref a] ∧ Rd H a (.dK kvs) ∧ kvs.map (·.1) = ks.map Sum.inl ∧ ks.length < 64 ∧
    ∀ (ys : List Int) (p : Addr), ys.Perm ks → ys.Pairwise (· ≤ ·) → H p = none → Q (.ref p) (upd H p (.lst (ys.map V.int))))
theorem call_sortedA {X : Cx} (hc : X.calm = true) : CallR X (.builtin "sorted") (rSortedA X.K) := CallR.or cr_sortedI (call_sortedDI hc)
theorem lift_sorted : LiftN K (rSortedA K) oSorted .fr := by
  rintro Z W H ps vs P Q S r ⟨ns, h, hp⟩ k
  have fin : ∀ (ys : List Int) (p : Addr), ys.Perm ns → ys.Pairwise (· ≤ ·) → H p = none → Q (.ref p) (upd H p (.lst (ys.map V.int))) := fun ys p hy hs n => by
    rw [isort_eq hy hs]
    exact k _ _ _ (Grow.new S.src n) ⟨p, rfl, n, OwnAt.newLst n (Rps.ints.mpr rfl)⟩ hp
  rcases h with rfl | ⟨⟨vals, rfl⟩, h64⟩
  · obtain ⟨v, rfl, rv⟩ := r.one
    obtain ⟨a, ws, rfl, e, r1⟩ := rv.lst
    have ew := Rps.ints.mp r1
    subst ew
    exact .inl ⟨a, ns, rfl, .inl (.inl e.2), fin⟩
  · obtain ⟨v, rfl, rv⟩ := r.one
    obtain ⟨a, ws, rfl, _, e, l, r1⟩ := rv
    refine .inr ⟨a, _, ns, rfl, .inl e, ?_, h64, fin⟩
    exact List.map_fst_zip (Nat.le_of_eq l)
def oSum : POn := fun xs P => ∃ ns : List Int, xs = [.lst (ns.map .int)] ∧ P (.int ns.sum)
theorem lift_sum : LiftN K (rSum K) oSum .cl := by
  rintro Z W H ps vs P Q S r ⟨ns, rfl, hp⟩ k
  obtain ⟨v, rfl, rv⟩ := r.one
  obtain ⟨a, ws, rfl, e, r1⟩ := rv.lst
  have ew := Rps.ints.mp r1
  subst ew
  exact ⟨a, ns, rfl, .inl (.inl e.2), S.fin k Rp.int' hp⟩
def oMaxL : POn := fun xs P => ∃ ns : List Int, xs = [.lst (ns.map .int)] ∧ 0 < ns.length ∧ ∀ m, m ∈ ns → (∀ y, y ∈ ns → y ≤ m) → P (.int m)
def oMinL : POn := fun xs P => ∃ ns : List Int, xs = [.lst (ns.map .int)] ∧ 0 < ns.length ∧ ∀ m, m ∈ ns → (∀ y, y ∈ ns → m ≤ y) → P (.int m)
theorem lift_maxL : LiftN K (rMax K) oMaxL .cl := by
  rintro Z W H ps vs P Q S r ⟨ns, rfl, h0, hp⟩ k
  obtain ⟨v, rfl, rv⟩ := r.one
  obtain ⟨a, ws, rfl, e, r1⟩ := rv.lst
  have ew := Rps.ints.mp r1
  subst ew
  exact ⟨a, ns, rfl, .inl (.inl e.2), h0, fun m h1 h2 => S.fin k Rp.int' (hp m h1 h2)⟩
theorem lift_minL : LiftN K (rMin K) oMinL .cl := by
  rintro Z W H ps vs P Q S r ⟨ns, rfl, h0, hp⟩ k
  obtain ⟨v, rfl, rv⟩ := r.one
  obtain ⟨a, ws, rfl, e, r1⟩ := rv.lst
  have ew := Rps.ints.mp r1
  subst ew
  exact ⟨a, ns, rfl, .inl (.inl e.2), h0, fun m h1 h2 => S.fin k Rp.int' (hp m h1 h2)⟩
def oAll : POn := fun xs P => ∃ bs : List Bool, xs = [.lst (bs.map .bl)] ∧ P (.bl (bs.all id))
def oAny : POn := fun xs P => ∃ bs : List Bool, xs = [.lst (bs.map .bl)] ∧ P (.bl (bs.any id))
theorem lift_all : LiftN K (rAll K) oAll .cl := by
  rintro Z W H ps vs P Q S r ⟨ns, rfl, hp⟩ k
  obtain ⟨v, rfl, rv⟩ := r.one
  obtain ⟨a, ws, rfl, e, r1⟩ := rv.lst
  have ew := Rps.bls.mp r1
  subst ew
  exact ⟨a, ns, rfl, .inl (.inl e.2), S.fin k Rp.bl' hp⟩
theorem lift_any : LiftN K (rAny K) oAny .cl := by
  rintro Z W H ps vs P Q S r ⟨ns, rfl, hp⟩ k
  obtain ⟨v, rfl, rv⟩ := r.one
  obtain ⟨a, ws, rfl, e, r1⟩ := rv.lst
  have ew := Rps.bls.mp r1
  subst ew
  exact ⟨a, ns, rfl, .inl (.inl e.2), S.fin k Rp.bl' hp⟩

/-! ### isinstance -/
def pty : PV → Option String
  | .non => some "NoneType"
  | .bl _ => some "bool"
  | .int _ => some "int"
  | .str _ => some "str"
  | .tup _ => some "tuple"
  | .lst _ => some "list"
  | .dic _ _ => some "dict"
  | _ => none
theorem RpO.tyx {Z : Addr → Prop} {W : Ws} {H : Hp} {p : PV} {v : V} {T : String} (h : RpO K ⟨Z, W, H⟩ p v) (e : pty p = some T) : TyX K H v (.type T) := by
  cases p with
  | non => cases e; rw [h.non]; exact .base .non
  | bl _ => cases e; rw [h.bl]; exact .base (.bl _)
  | int _ => cases e; rw [h.int]; exact .base (.int _)
  | str _ => cases e; rw [h.str]; exact .base (.str _)
  | tup ps =>
    cases e
    obtain ⟨a, ws, rfl, e, r1⟩ := h.tup
    rcases e with e | ⟨o, its, n, h1, h2, _⟩
    · exact .base (.tup e.2)
    · exact .kTuple h1 h2
  | lst ps => cases e; obtain ⟨a, ws, rfl, e, r1⟩ := h.lst; exact .base (.lst e.2)
  | dic ks ps => cases e; obtain ⟨a, ws, rfl, _, e, _⟩ := h; exact .base (.dK e)
  | _ => cases e
def oIsi (T : String) : PO1 := fun x P => ∃ U b, pty x = some U ∧ kitB U T = some b ∧ P (.bl b)
theorem em_isi (T : String) {X : Cx} {c : List Ow} {a : Expr} {ta : TEm} {p p2 pos : Pos} {nm : Str} (ha : PEm X c .ow a ta) (hg : Gl X "isinstance") (hm : X.mg "isinstance" = none) (hgT : Gl X nm) (hmT : X.mg nm = none) (hT : bootBuiltins nm = some (.type T))
    (hn : nm ≠ "__name__" := by decide) (hd : (nm == ("__debug__" : Str)) = false := by decide)
    (he : starEach [a, .Name nm p2] X.env = (false, eval a X.env) :: starEach [.Name nm p2] X.env := by rfl) (he2 : starEach [.Name nm p2] X.env = (false, eval (.Name nm p2) X.env) :: starEach [] X.env := by rfl) (hpl : (backTo pos (starEach [.Name nm p2] X.env)).any (·.1) = false := by rfl) :
    PEm X c .cl (.Call (.Name "isinstance" p) [a, .Name nm p2] [] pos) (mOp1 (oIsi T) ta) := ⟨(pe_callB (r := rIsi X.K) call_isi hg hm PyProof.Rows.boot_isinstance (pa_cons ha.run (pa_cons (pe_bltn (v := .ty T) hgT hmT hT rfl hn hd) pa_nil he2) he) (by decide) (by decide) he hpl).weak fun σ H Q h => by
  obtain ⟨G, A, W, env, P, R, h, k⟩ := h
  refine ⟨G, A, W, env, _, R, h, fun px vx H1 g1 rx ⟨U, b, hU, hb, h1⟩ => ?_⟩
  exact ⟨vx, .ty T, .type U, .type T, b, rfl, .ty T, rx.tyx hU, kit_ty hb, k _ _ H1 g1 (VK1.ofRp Rp.bl') h1⟩⟩

/-! ### slices -/
structure POm (X : Cx) (c : List Ow) (e : Option Expr) (t : Env → (Option Int → Prop) → Prop) : Prop where
  run : PO X e (fun σ H Q => ∃ G A W env P, SR X.K G c A W env σ H ∧ t env P ∧ ∀ o H', Grow W H H' → P o → Q o H')
def mNo : Env → (Option Int → Prop) → Prop := fun _ P => P none
def mPart (t : TEm) : Env → (Option Int → Prop) → Prop := fun env P => t env fun x => ∃ i, x = .int i ∧ P (some i)
theorem om_none {X : Cx} {c : List Ow} : POm X c none mNo := ⟨⟨fun pins s σ H Q I h => po_none.run pins s σ H Q I (by
  obtain ⟨G, A, W, env, P, R, h, k⟩ := h
  exact k none H (Grow.refl R.src) h)⟩⟩
theorem om_some {X : Cx} {c : List Ow} {e : Expr} {t : TEm} (h : PEm X c .ow e t) : POm X c (some e) (mPart t) := ⟨⟨fun pins s σ H Q I x => (po_some h.run).run pins s σ H Q I (by
  obtain ⟨G, A, W, env, P, R, x, k⟩ := x
  refine ⟨G, A, W, env, _, R, x, fun p v H1 g1 r ⟨i, e, h1⟩ => ?_⟩
  subst e
  exact ⟨i, r.o.int, k _ H1 g1 h1⟩)⟩⟩
def cutP (xs : List PV) (lo hi : Option Int) : List PV := (xs.drop (HT.sIx xs.length 0 lo)).take (HT.sIx xs.length xs.length hi - HT.sIx xs.length 0 lo)
theorem Rps.cut {S : Wd} {ps : List PV} {vs : List V} (h : Rps K S ps vs) (lo hi : Option Int) : Rps K S (cutP ps lo hi) (cutV vs lo hi) := by
  unfold cutP cutV
  rw [h.len]
  exact Rps.take _ (Rps.drop _ h)
def mSl (o : PV → Option Int → Option Int → (PV → Prop) → Prop) (t : TEm) (tl th : Env → (Option Int → Prop) → Prop) : TEm := fun env P => t env fun x => tl env fun l => th env fun u => o x l u P
def oSlL : PV → Option Int → Option Int → (PV → Prop) → Prop := fun x l u P => ∃ ps, x = .lst ps ∧ P (.lst (cutP ps l u))
def oSlT : PV → Option Int → Option Int → (PV → Prop) → Prop := fun x l u P => ∃ ps, x = .tup ps ∧ P (.tup (cutP ps l u))
theorem cut_whole {xs : List PV} {lo hi : Option Int} (h : HT.sIx xs.length 0 lo = 0 ∧ HT.sIx xs.length xs.length hi = xs.length) : cutP xs lo hi = xs := by
  unfold cutP
  rw [h.1, h.2]
  simp
section
variable {X : Cx} {c : List Ow} {e : Expr} {lo hi : Option Expr} {te : TEm} {tl th : Env → (Option Int → Prop) → Prop} {pos p2 : Pos}
theorem em_slL (he : PEm X c .ow e te) (hl : POm X c lo tl) (hu : POm X c hi th) : PEm X c .fr (.Subscript e (.Slice lo hi none p2) pos) (mSl oSlL te tl th) := ⟨(pe_slice sl_list he.run hl.run hu.run).weak fun σ H Q h => by
  obtain ⟨G, A, W, env, P, R, h, k⟩ := h
  refine ⟨G, A, W, env, _, R, h, fun px vx H1 g1 rx h1 => ⟨G, A, W, env, _, R.grow g1, h1, fun l H2 g2 h2 => ⟨G, A, W, env, _, (R.grow g1).grow g2, h2, fun u H3 g3 h3 => ?_⟩⟩⟩
  have R3 := ((R.grow g1).grow g2).grow g3
  obtain ⟨ps, rfl, hp⟩ := h3
  obtain ⟨a, vs, rfl, e, r⟩ := RpO.lst (RpO.grow R.sz (g2.trans g3) rx.o)
  exact ⟨a, vs, rfl, .inl (.inl e.2), fun p n => k _ _ _ (((g1.trans g2).trans g3).trans (Grow.new R3.src n)) ⟨p, rfl, ((g1.trans g2).trans g3).free n, OwnAt.newLst n (r.cut l u)⟩ hp⟩⟩
theorem em_slT (he : PEm X c .ow e te) (hl : POm X c lo tl) (hu : POm X c hi th) : PEm X c .cl (.Subscript e (.Slice lo hi none p2) pos) (mSl oSlT te tl th) := ⟨(pe_slice sl_tupA he.run hl.run hu.run).weak fun σ H Q h => by
  obtain ⟨G, A, W, env, P, R, h, k⟩ := h
  refine ⟨G, A, W, env, _, R, h, fun px vx H1 g1 rx h1 => ⟨G, A, W, env, _, R.grow g1, h1, fun l H2 g2 h2 => ⟨G, A, W, env, _, (R.grow g1).grow g2, h2, fun u H3 g3 h3 => ?_⟩⟩⟩
  have R3 := ((R.grow g1).grow g2).grow g3
  obtain ⟨ps, rfl, hp⟩ := h3
  have rx3 := RpO.grow R.sz (g2.trans g3) rx.o
  have rx4 : Rp X.K ⟨Zt G A W, W, H3⟩ (.tup ps) vx := rx3
  obtain ⟨a, vs, rfl, e, r⟩ := RpO.tup rx3
  refine ⟨a, vs, rfl, e.sq, fun w => ?_, fun _ p n => ?_⟩
  · rw [← r.len] at w
    rw [cut_whole w] at hp
    exact k _ _ H3 ((g1.trans g2).trans g3) (VK1.ofRp rx4) hp
  · exact k _ _ _ (((g1.trans g2).trans g3).trans (Grow.new R3.src n)) (VK1.ofRp (Rp.newTup (R3.nz n) n R3.src R.sz (r.cut l u))) hp⟩
end
end
end PM

set_option maxHeartbeats 1000000
/-! PM: statements. -/
namespace PM
open PySem L2

theorem cO_set {c : List Ow} {i j : Nat} {o : Ow} : cO (c.set i o) j = if j = i ∧ i < c.length then o else cO c j := by
  unfold cO
  rw [List.getD_eq_getElem?_getD, List.getD_eq_getElem?_getD, List.getElem?_set]
  by_cases h : i = j
  · subst h
    by_cases h2 : i < c.length
    · rw [if_pos rfl, if_pos h2, if_pos (And.intro rfl h2)]; rfl
    · rw [if_pos rfl, if_neg h2, if_neg (fun z => h2 z.2), List.getElem?_eq_none (by omega)]
  · rw [if_neg h, if_neg (fun z => h z.1.symm)]
theorem cO_sh {c : List Ow} {i : Nat} : cO (c.set i .sh) i = .sh := by
  rw [cO_set]
  by_cases h : i < c.length
  · rw [if_pos ⟨rfl, h⟩]
  · rw [if_neg (fun z => h z.2)]
    unfold cO
    rw [List.getD_eq_getElem?_getD, List.getElem?_eq_none (by omega)]; rfl
theorem cO_ne {c : List Ow} {i j : Nat} {o : Ow} (h : j ≠ i) : cO (c.set i o) j = cO c j := by rw [cO_set, if_neg (fun z => h z.1)]
theorem env_set_get {α : Type} {env : List (Option α)} {i j : Nat} {x p : α} (e : (env.set i (some x))[j]? = some (some p)) : (j = i ∧ i < env.length ∧ p = x) ∨ (j ≠ i ∧ env[j]? = some (some p)) := by
  rw [List.getElem?_set] at e
  by_cases h : i = j
  · subst h
    rw [if_pos rfl] at e
    by_cases h2 : i < env.length
    · rw [if_pos h2] at e
      exact .inl ⟨rfl, h2, (Option.some.inj (Option.some.inj e)).symm⟩
    · rw [if_neg h2] at e; cases e
  · rw [if_neg h] at e
    exact .inr ⟨fun z => h z.symm, e⟩
section
variable {K : PySem.W.Frag} {G G' : Gh} {c c' : List Ow} {A : Nat → Option Addr} {W : Ws} {env : Env} {σ : St} {H H' : Hp}
def dropA (A : Nat → Option Addr) (i : Nat) : Nat → Option Addr := fun j => if j = i then none else A j
def putA (A : Nat → Option Addr) (i : Nat) (a : Addr) : Nat → Option Addr := fun j => if j = i then some a else A j
theorem dropA_some {i j : Nat} {a : Addr} (e : dropA A i j = some a) : j ≠ i ∧ A j = some a := by
  unfold dropA at e
  by_cases h : j = i
  · rw [if_pos h] at e; cases e
  · rw [if_neg h] at e; exact ⟨h, e⟩
theorem dropA_ne {i j : Nat} (h : j ≠ i) : dropA A i j = A j := if_neg h
theorem dropA_eq {i : Nat} : dropA A i i = none := if_pos rfl
theorem putA_ne {i j : Nat} {a : Addr} (h : j ≠ i) : putA A i a j = A j := if_neg h
theorem putA_eq {i : Nat} {a : Addr} : putA A i a i = some a := if_pos rfl
theorem zt_drop {i : Nat} {b : Addr} (h : Zt G (dropA A i) W b) : Zt G A W b := by
  rcases h with h | h | ⟨j, h⟩
  · exact .inl h
  · exact .inr (.inl h)
  · exact .inr (.inr ⟨j, (dropA_some h).2⟩)
/-- a name takes a clean value -/
theorem SR.set_sh {i : Nat} {p : PV} {v : V} (R : SR K G c A W env σ H) (hl : cO c i ≠ .lk) (r : Rp K ⟨Zt G A W, W, H⟩ p v) : SR K G (c.set i .sh) (dropA A i) W (env.set i (some p)) (σ.set i (some v)) H := by
  have x : Ext ⟨Zt G A W, W, H⟩ ⟨Zt G (dropA A i) W, W, H⟩ := ext_less fun b => zt_drop
  refine ⟨by rw [List.length_set, List.length_set]; exact R.len, R.W0in, R.Wmin, R.Wnew, R.Wfix, R.src, R.keep, R.zbt, fun j a e => ?_, fun j k a e1 e2 => ?_, fun j q hc e => ?_, fun j q e => ?_, fun q hq => ?_, fun b o e => ?_⟩
  · obtain ⟨n, e⟩ := dropA_some e
    obtain ⟨h1, h2, h3, h4, h5⟩ := R.Asep j a e
    exact ⟨h1, h2, h3, by rw [cO_ne n]; exact h4, h5⟩
  · exact R.Ainj j k a (dropA_some e1).2 (dropA_some e2).2
  · rcases env_set_get e with ⟨rfl, _, _⟩ | ⟨n, e⟩
    · exact absurd cO_sh hc
    · rw [cO_ne n] at hc
      obtain ⟨a, ha⟩ := R.Aset j q hc e
      exact ⟨a, by rw [dropA_ne n]; exact ha⟩
  · rcases env_set_get e with ⟨rfl, hi, rfl⟩ | ⟨n, e⟩
    · refine ⟨v, by rw [List.getElem?_set_self (by rw [← R.len]; exact hi)], ?_⟩
      rw [dropA_eq]
      exact Rp.ext x r
    · obtain ⟨w, h1, h2⟩ := R.slots j q e
      refine ⟨w, by rw [List.getElem?_set_ne (Ne.symm n)]; exact h1, ?_⟩
      rw [dropA_ne n]
      cases hA : A j with
      | none => rw [hA] at h2; exact Rp.ext x h2
      | some a => rw [hA] at h2; exact ⟨h2.1, h2.2.ext x rfl⟩
  · obtain ⟨h1, h2, h3, h4⟩ := R.pins q hq
    have n : q.1 ≠ i := fun z => hl (z ▸ h4)
    exact ⟨h1, h2, by rw [dropA_ne n]; exact h3, by rw [cO_ne n]; exact h4⟩
  · obtain ⟨h1, h2⟩ := R.fz b o e
    exact ⟨h1, fun z => h2 (zt_drop z)⟩
theorem SR.h0 (R : SR K G c A W env σ H) {a : Addr} (n : H a = none) : G.H0 a = none := by
  cases e : G.H0 a with
  | none => rfl
  | some o =>
    by_cases w : inW G.W0 a
    · obtain ⟨p, hp, hb⟩ := w
      obtain ⟨u, e1⟩ := inW_some R.src (b := a) ⟨p, R.W0in p hp, hb⟩
      rw [n] at e1; cases e1
    · rw [R.keep a o w e] at n; cases n
/-- a name takes a new list -/
theorem SR.set_ow {i : Nat} {p : PV} {a : Addr} (R : SR K G c A W env σ H) (hi' : i < c.length) (hl : cO c i ≠ .lk) (g : Grow W H H') (n : H a = none) (r : OwnAt K ⟨fun b => Zt G A W b ∨ b = a, W, H'⟩ a p) :
    SR K G (c.set i .ow) (putA A i a) W (env.set i (some p)) (σ.set i (some (.ref a))) H' := by
  have R' := R.grow g
  have ta : ∃ o, H' a = some o := by
    cases p with
    | lst ps => obtain ⟨vs, e, _⟩ := r; exact ⟨_, e⟩
    | dic ks ps => obtain ⟨vs, e, _⟩ := r; exact ⟨_, e⟩
    | obj C dx ns ps => obtain ⟨_, vs, e, _⟩ := r; exact ⟨_, e⟩
    | pdic ks => obtain ⟨L, e, _⟩ := r; exact ⟨_, e⟩
    | _ => exact r.elim
  have nt : ∀ b o, H b = some o → b ≠ a := fun b o e z => by rw [z, n] at e; cases e
  have nw : ¬ inW W a := fun w => by obtain ⟨o, e⟩ := inW_some R.src w; rw [n] at e; cases e
  have nz : ¬ G.zb a := fun z => by obtain ⟨o, e⟩ := R.zbt a z; rw [n] at e; cases e
  have zt : ∀ b, Zt G (putA A i a) W b → Zt G A W b ∨ b = a := fun b z => by
    rcases z with z | z | ⟨j, z⟩
    · exact .inl (.inl z)
    · exact .inl (.inr (.inl z))
    · by_cases hj : j = i
      · subst hj; rw [putA_eq] at z; cases z; exact .inr rfl
      · rw [putA_ne hj] at z; exact .inl (.inr (.inr ⟨j, z⟩))
  have x : Ext ⟨Zt G A W, W, H⟩ ⟨Zt G (putA A i a) W, W, H'⟩ := ⟨fun b o hz e => ⟨fun z => (zt b z).elim hz (nt b o e), g.keep b o (fun w => hz (Zt.w w)) e⟩, fun _ h => h⟩
  have y : Ext ⟨fun b => Zt G A W b ∨ b = a, W, H'⟩ ⟨Zt G (putA A i a) W, W, H'⟩ := ext_less zt
  have own : ∀ j b, A j = some b → H' b = H b ∧ b ≠ a := fun j b e => by
    obtain ⟨_, n2, _, _, o, ho⟩ := R.Asep j b e
    exact ⟨by rw [ho, g.keep b o n2 ho], nt b o ho⟩
  refine ⟨by rw [List.length_set, List.length_set]; exact R.len, R.W0in, R.Wmin, R.Wnew, R.Wfix, R'.src, R'.keep, R'.zbt, fun j b e => ?_, fun j k b e1 e2 => ?_, fun j q hc e => ?_, fun j q e => ?_, fun q hq => ?_, fun b o e => ?_⟩
  · by_cases hj : j = i
    · subst hj
      rw [putA_eq] at e; cases e
      exact ⟨R.h0 n, nw, nz, by rw [cO_set, if_pos ⟨rfl, hi'⟩]; decide, ta⟩
    · rw [putA_ne hj] at e
      obtain ⟨h1, h2, h3, h4, h5⟩ := R'.Asep j b e
      exact ⟨h1, h2, h3, by rw [cO_ne hj]; exact h4, h5⟩
  · by_cases hj : j = i
    · by_cases hk : k = i
      · rw [hj, hk]
      · subst hj; rw [putA_eq] at e1; cases e1; rw [putA_ne hk] at e2; exact absurd rfl (own k a e2).2
    · by_cases hk : k = i
      · subst hk; rw [putA_eq] at e2; cases e2; rw [putA_ne hj] at e1; exact absurd rfl (own j a e1).2
      · rw [putA_ne hj] at e1; rw [putA_ne hk] at e2; exact R.Ainj j k b e1 e2
  · by_cases hj : j = i
    · subst hj; exact ⟨a, putA_eq⟩
    · rcases env_set_get e with ⟨z, _, _⟩ | ⟨_, e⟩
      · exact absurd z hj
      · rw [cO_ne hj] at hc
        obtain ⟨b, hb⟩ := R.Aset j q hc e
        exact ⟨b, by rw [putA_ne hj]; exact hb⟩
  · rcases env_set_get e with ⟨rfl, hi, rfl⟩ | ⟨hj, e⟩
    · refine ⟨.ref a, by rw [List.getElem?_set_self (by rw [← R.len]; exact hi)], ?_⟩
      rw [putA_eq]
      exact ⟨rfl, r.ext y rfl⟩
    · obtain ⟨w, h1, h2⟩ := R.slots j q e
      refine ⟨w, by rw [List.getElem?_set_ne (Ne.symm hj)]; exact h1, ?_⟩
      rw [putA_ne hj]
      cases hA : A j with
      | none => rw [hA] at h2; exact Rp.ext x h2
      | some b => rw [hA] at h2; exact ⟨h2.1, h2.2.ext x (own j b hA).1⟩
  · obtain ⟨h1, h2, h3, h4⟩ := R'.pins q hq
    have nj : q.1 ≠ i := fun z => hl (z ▸ h4)
    exact ⟨h1, h2, by rw [putA_ne nj]; exact h3, by rw [cO_ne nj]; exact h4⟩
  · obtain ⟨h1, h2⟩ := R.fz b o e
    obtain ⟨h3, _⟩ := R'.fz b o e
    exact ⟨h3, fun z => (zt b z).elim h2 (nt b o h1)⟩
/-- one's own list is changed -/
theorem SR.mut {j : Nat} {a : Addr} {o : HO} {p p0 : PV} (e0 : env[j]? = some (some p0)) (R : SR K G c A W env σ H) (hA : A j = some a) (hc : cO c j = .ow) (r : OwnAt K ⟨Zt G A W, W, upd H a o⟩ a p) :
    SR K G c A W (env.set j (some p)) σ (upd H a o) := by
  obtain ⟨a1, a2, a3, a4, u, a5⟩ := R.Asep j a hA
  have za : Zt G A W a := .inr (.inr ⟨j, hA⟩)
  have x : Ext ⟨Zt G A W, W, H⟩ ⟨Zt G A W, W, upd H a o⟩ := ⟨fun b w hz e => ⟨hz, by show upd H a o b = some w; rw [upd_ne (fun z => hz (by rw [z]; exact za))]; exact e⟩, fun _ h => h⟩
  have tr : ∀ b, (∃ w, H b = some w) → ∃ w, upd H a o b = some w := fun b ⟨w, e⟩ => by
    by_cases z : b = a
    · subst z; exact ⟨o, upd_same⟩
    · exact ⟨w, by rw [upd_ne z]; exact e⟩
  have ne_w : ∀ q ∈ W, q.1 ≠ a ∧ q.2 ≠ a := fun q hq => ⟨fun z => a2 ⟨q, hq, .inl z.symm⟩, fun z => a2 ⟨q, hq, .inr z.symm⟩⟩
  refine ⟨by rw [List.length_set]; exact R.len, R.W0in, R.Wmin, R.Wnew, R.Wfix, fun q hq => ?_, fun b w hw e => ?_, fun b hb => tr b (R.zbt b hb), fun k b e => ?_, R.Ainj, fun k q hk e => ?_, fun k q e => ?_, fun q hq => ?_, fun b w e => ?_⟩
  · exact SA.at (upd_ne (ne_w q hq).1) (upd_ne (ne_w q hq).2) (R.src q hq)
  · rw [upd_ne (fun z => by rw [z, a1] at e; cases e)]
    exact R.keep b w hw e
  · obtain ⟨h1, h2, h3, h4, h5⟩ := R.Asep k b e
    exact ⟨h1, h2, h3, h4, tr b h5⟩
  · rcases env_set_get e with ⟨z, _, _⟩ | ⟨_, e⟩
    · rw [z]; exact ⟨a, hA⟩
    · exact R.Aset k q hk e
  · rcases env_set_get e with ⟨z, hl, z2⟩ | ⟨n, e⟩
    · subst z z2
      obtain ⟨v, h1, h2⟩ := R.slots k p0 e0
      rw [hA] at h2
      refine ⟨v, h1, ?_⟩
      rw [hA]
      exact ⟨h2.1, r⟩
    · obtain ⟨v, h1, h2⟩ := R.slots k q e
      refine ⟨v, h1, ?_⟩
      cases hk : A k with
      | none => rw [hk] at h2; exact Rp.ext x h2
      | some b =>
        rw [hk] at h2
        refine ⟨h2.1, h2.2.ext x ?_⟩
        have : b ≠ a := fun z => n (R.Ainj k j a (z ▸ hk) hA)
        exact upd_ne this
  · obtain ⟨h1, h2, h3, h4⟩ := R.pins q hq
    have : q.2.1 ≠ a := fun z => by
      have := R.Ainj q.1 j a (z ▸ h3) hA
      rw [this, hc] at h4; cases h4
    exact ⟨by rw [upd_ne this]; exact h1, h2, h3, h4⟩
  · obtain ⟨h1, h2⟩ := R.fz b w e
    exact ⟨by rw [upd_ne (fun z => h2 (by rw [z]; exact za))]; exact h1, h2⟩
end

section
variable {K : PySem.W.Frag} {G G' : Gh} {c c' : List Ow} {A : Nat → Option Addr} {W : Ws} {env : Env} {σ : St} {H H' : Hp}
theorem OwnAt.less {Z Z' : Addr → Prop} {a : Addr} {p : PV} (r : OwnAt K ⟨Z, W, H⟩ a p) (h : ∀ b, Z' b → Z b) : OwnAt K ⟨Z', W, H⟩ a p := r.ext (ext_less h) rfl
/-- what is one's own may become shared -/
def FrzOk : List Ow → List Ow → Bool
  | [], [] => true
  | x :: xs, y :: ys => (decide (x = y) || (decide (x = .ow) && decide (y = .sh))) && FrzOk xs ys
  | _, _ => false
theorem FrzOk.at : ∀ {c c' : List Ow} (i : Nat), FrzOk c c' = true → cO c' i = cO c i ∨ (cO c i = .ow ∧ cO c' i = .sh)
  | [], [], _, _ => .inl rfl
  | x :: xs, y :: ys, 0, h => by
    unfold FrzOk at h
    rw [Bool.and_eq_true, Bool.or_eq_true, Bool.and_eq_true, decide_eq_true_eq, decide_eq_true_eq, decide_eq_true_eq] at h
    rcases h.1 with e | e
    · subst e; exact .inl rfl
    · exact .inr ⟨e.1, e.2⟩
  | x :: xs, y :: ys, i + 1, h => by
    unfold FrzOk at h
    rw [Bool.and_eq_true] at h
    exact FrzOk.at (c := xs) (c' := ys) i h.2
theorem SR.frz (R : SR K G c A W env σ H) (h : FrzOk c c' = true) : ∃ A', SR K G c' A' W env σ H := by
  have hat := fun i => FrzOk.at (c := c) (c' := c') i h
  let A' : Nat → Option Addr := fun i => if cO c' i = .sh then none else A i
  have d1 : ∀ i a, A' i = some a → A i = some a ∧ cO c' i ≠ .sh := fun i a e => by
    have e' : (if cO c' i = .sh then none else A i) = some a := e
    by_cases z : cO c' i = .sh
    · rw [if_pos z] at e'; cases e'
    · rw [if_neg z] at e'; exact ⟨e', z⟩
  have d2 : ∀ i, cO c' i ≠ .sh → A' i = A i := fun i z => if_neg z
  have d3 : ∀ i, cO c' i = .sh → A' i = none := fun i z => if_pos z
  have zt : ∀ b, Zt G A' W b → Zt G A W b := fun b z => by
    rcases z with z | z | ⟨i, z⟩
    · exact .inl z
    · exact .inr (.inl z)
    · exact .inr (.inr ⟨i, (d1 i b z).1⟩)
  have x : Ext ⟨Zt G A W, W, H⟩ ⟨Zt G A' W, W, H⟩ := ext_less zt
  refine ⟨A', R.len, R.W0in, R.Wmin, R.Wnew, R.Wfix, R.src, R.keep, R.zbt, fun i a e => ?_, fun i j a e1 e2 => R.Ainj i j a (d1 i a e1).1 (d1 j a e2).1, fun i p hc e => ?_, fun i p e => ?_, fun q hq => ?_, fun b o e => ?_⟩
  · obtain ⟨h1, h2, h3, _, h5⟩ := R.Asep i a (d1 i a e).1
    exact ⟨h1, h2, h3, (d1 i a e).2, h5⟩
  · rw [d2 i hc]
    exact R.Aset i p (fun z => by
      rcases hat i with w | w
      · exact hc (w.trans z)
      · exact hc w.2) e
  · obtain ⟨v, h1, h2⟩ := R.slots i p e
    refine ⟨v, h1, ?_⟩
    by_cases z : cO c' i = .sh
    · rw [d3 i z]
      cases hA : A i with
      | none => rw [hA] at h2; exact Rp.ext x h2
      | some a =>
        rw [hA] at h2
        obtain ⟨rfl, h2⟩ := h2
        obtain ⟨_, a2, a3, _, _⟩ := R.Asep i a hA
        refine OwnAt.cl (Z := Zt G A' W) (fun w => ?_) (h2.less (Z' := fun b => Zt G A' W b ∨ b = a) fun b w => ?_)
        · rcases w with w | w | ⟨j, w⟩
          · exact a3 w
          · exact a2 w
          · obtain ⟨w1, w2⟩ := d1 j a w
            have := R.Ainj j i a w1 hA
            exact w2 (this ▸ z)
        · rcases w with w | w
          · exact zt b w
          · rw [w]; exact .inr (.inr ⟨i, hA⟩)
    · rw [d2 i z]
      cases hA : A i with
      | none => rw [hA] at h2; exact Rp.ext x h2
      | some a => rw [hA] at h2; exact ⟨h2.1, h2.2.ext x rfl⟩
  · obtain ⟨h1, h2, h3, h4⟩ := R.pins q hq
    have e : cO c' q.1 = .lk := by
      rcases hat q.1 with w | w
      · rw [w]; exact h4
      · rw [h4] at w; cases w.1
    exact ⟨h1, h2, by rw [d2 q.1 (by rw [e]; decide)]; exact h3, e⟩
  · obtain ⟨h1, h2⟩ := R.fz b o e
    exact ⟨h1, fun z => h2 (zt b z)⟩

/-! ### statements -/
structure Em where
  nx : Env → Prop
  rt : PV → Prop
  bk : Env → Prop := fun _ => False
  ct : Env → Prop := fun _ => False
abbrev TSm := Em → Env → Prop
/-- what a def gives back -/
def RetOk (K : PySem.W.Frag) (rm : Md) (G : Gh) (p : PV) (v : V) (H : Hp) : Prop :=
  ∃ W, (∀ q ∈ G.W0, q ∈ W) ∧ (G.gw = false → W = G.W0) ∧ (∀ q ∈ W, SA H q) ∧ (∀ b o, ¬ inW G.W0 b → G.H0 b = some o → H b = some o) ∧ VK1 K rm (fun b => G.zb b ∨ inW W b) W G.H0 H p v
structure Kont (K : PySem.W.Frag) (rm : Md) (cL c' : List Ow) (G : Gh) (M : Em) (D : Ends) : Prop where
  nx : ∀ A W env σ H, SR K G c' A W env σ H → M.nx env → D.nx σ H
  rt : ∀ p v H, RetOk K rm G p v H → M.rt p → D.rt v H
  bk : ∀ A W env σ H, SR K G cL A W env σ H → M.bk env → D.bk σ H
  ct : ∀ A W env σ H, SR K G cL A W env σ H → M.ct env → D.ct σ H
structure Fx where
  rm : Md
  gw : Bool
  cL : List Ow
def tmS (K : PySem.W.Frag) (f : Fx) (c c' : List Ow) (t : TSm) : TS := fun D σ H => ∃ G A W env M, G.gw = f.gw ∧ SR K G c A W env σ H ∧ t M env ∧ Kont K f.rm f.cL c' G M D
structure PSm (X : Cx) (f : Fx) (c c' : List Ow) (st : Stmt) (t : TSm) : Prop where
  run : PS X st (tmS X.K f c c' t)
structure PSsm (X : Cx) (f : Fx) (c c' : List Ow) (st : List Stmt) (t : TSm) : Prop where
  run : PSs X st (tmS X.K f c c' t)
theorem _root_.L2.PS.weak {X : Cx} {e : Stmt} {t t' : TS} (h : PS X e t) (k : ∀ D σ H, t' D σ H → t D σ H) : PS X e t' := ⟨fun pins s σ H D I x => h.run pins s σ H D I (k D σ H x)⟩
theorem _root_.L2.PSs.weak {X : Cx} {e : List Stmt} {t t' : TS} (h : PSs X e t) (k : ∀ D σ H, t' D σ H → t D σ H) : PSs X e t' := ⟨fun pins s σ H D I x => h.run pins s σ H D I (k D σ H x)⟩
end
section
variable {X : Cx} {f : Fx} {c c1 c' : List Ow} {st : Stmt} {rest : List Stmt} {t u : TSm} {e : Expr} {te : TEm} {pos : Pos}
def sNext : TSm := fun M env => M.nx env
def sSeq (t u : TSm) : TSm := fun M env => t { M with nx := u M } env
theorem sm_nil : PSsm X f c c [] sNext := ⟨pss_nil.weak fun D σ H h => by
  obtain ⟨G, A, W, env, M, hg, R, h, k⟩ := h
  exact k.nx A W env σ H R h⟩
theorem sm_cons (h1 : PSm X f c c1 st t) (h2 : PSsm X f c1 c' rest u) : PSsm X f c c' (st :: rest) (sSeq t u) := ⟨(pss_cons h1.run h2.run).weak fun D σ H h => by
  obtain ⟨G, A, W, env, M, hg, R, h, k⟩ := h
  exact ⟨G, A, W, env, _, hg, R, h, ⟨fun A W env σ H R' h' => ⟨G, A, W, env, M, hg, R', h', k⟩, k.rt, k.bk, k.ct⟩⟩⟩
theorem sm_one (h1 : PSm X f c c' st t) : PSsm X f c c' [st] t := ⟨pss_one h1.run⟩
/-- ownership may be let go ahead of a block, behind it -/
theorem sm_pre (h : FrzOk c c1 = true) (h1 : PSsm X f c1 c' rest t) : PSsm X f c c' rest t := ⟨h1.run.weak fun D σ H h' => by
  obtain ⟨G, A, W, env, M, hg, R, h', k⟩ := h'
  obtain ⟨A', R'⟩ := R.frz h
  exact ⟨G, A', W, env, M, hg, R', h', k⟩⟩
theorem sm_post (h : FrzOk c1 c' = true) (h1 : PSsm X f c c1 rest t) : PSsm X f c c' rest t := ⟨h1.run.weak fun D σ H h' => by
  obtain ⟨G, A, W, env, M, hg, R, h', k⟩ := h'
  exact ⟨G, A, W, env, M, hg, R, h', ⟨fun A W env σ H R' h2 => by
    obtain ⟨A', R2⟩ := R'.frz h
    exact k.nx A' W env σ H R2 h2, k.rt, k.bk, k.ct⟩⟩⟩
theorem sm_pre1 (h : FrzOk c c1 = true) (h1 : PSm X f c1 c' st t) : PSm X f c c' st t := ⟨h1.run.weak fun D σ H h' => by
  obtain ⟨G, A, W, env, M, hg, R, h', k⟩ := h'
  obtain ⟨A', R'⟩ := R.frz h
  exact ⟨G, A', W, env, M, hg, R', h', k⟩⟩
theorem sm_pass : PSm X f c c (.Pass pos) sNext := ⟨ps_pass.weak fun D σ H h => by
  obtain ⟨G, A, W, env, M, hg, R, h, k⟩ := h
  exact k.nx A W env σ H R h⟩
def sBreak : TSm := fun M env => M.bk env
def sCont : TSm := fun M env => M.ct env
theorem sm_break (h : FrzOk c f.cL = true) : PSm X f c c' (.Break pos) sBreak := ⟨ps_break.weak fun D σ H h' => by
  obtain ⟨G, A, W, env, M, hg, R, h', k⟩ := h'
  obtain ⟨A', R'⟩ := R.frz h
  exact k.bk A' W env σ H R' h'⟩
theorem sm_cont (h : FrzOk c f.cL = true) : PSm X f c c' (.Continue pos) sCont := ⟨ps_continue.weak fun D σ H h' => by
  obtain ⟨G, A, W, env, M, hg, R, h', k⟩ := h'
  obtain ⟨A', R'⟩ := R.frz h
  exact k.ct A' W env σ H R' h'⟩
def sDrop (te : TEm) : TSm := fun M env => te env fun _ => M.nx env
theorem sm_expr {md : Md} (he : PEm X c md e te) (hs : swapsWith e none pos.line X.env = pure false := by rfl) : PSm X f c c (.Expr e pos) (sDrop te) := ⟨(ps_expr he.run hs).weak fun D σ H h => by
  obtain ⟨G, A, W, env, M, hg, R, h, k⟩ := h
  exact ⟨G, A, W, env, _, R, h, fun p v H1 g r h1 => k.nx A W env σ H1 (R.grow g) h1⟩⟩
def sRet (te : TEm) : TSm := fun M env => te env M.rt
theorem SR.ret {K : PySem.W.Frag} {G : Gh} {A : Nat → Option Addr} {W : Ws} {env : Env} {σ : St} {H H1 : Hp} {rm : Md} {p : PV} {v : V} (R : SR K G c A W env σ H) (g : Grow W H H1) (hm : rm ≠ .ow) (r : VK1 K rm (Zt G A W) W H H1 p v) : RetOk K rm G p v H1 := by
  have R1 := R.grow g
  refine ⟨W, R.W0in, R.Wfix, R1.src, R1.keep, ?_⟩
  have less : ∀ b, (G.zb b ∨ inW W b) → Zt G A W b := fun b z => z.elim .inl fun z => .inr (.inl z)
  cases rm with
  | cl => exact VK1.ofRp (Rp.ext (ext_less less) r.c)
  | ow => exact absurd rfl hm
  | fr =>
    obtain ⟨a, e, n, o⟩ := r
    exact ⟨a, e, R.h0 n, o.less fun b z => z.elim (fun z => .inl (less b z)) .inr⟩
theorem sm_ret (he : PEm X c f.rm e te) (hm : f.rm ≠ .ow := by decide) : PSm X f c c' (.Return (some e) pos) (sRet te) := ⟨(ps_ret he.run).weak fun D σ H h => by
  obtain ⟨G, A, W, env, M, hg, R, h, k⟩ := h
  exact ⟨G, A, W, env, _, R, h, fun p v H1 g r h1 => k.rt p v H1 (R.ret g hm r) h1⟩⟩
/-- a list of one's own given back -/
theorem sm_retO (i : Nat) {x : Str} {pos' : Pos} (hN : X.N[i]? = some x := by rfl) (hc : cO c i ≠ .sh := by decide) (hm : f.rm ≠ .ow := by decide) (hv : Vis X.env.scope x := by first | exact Or.inl rfl | exact Or.inr (Or.inl rfl) | exact Or.inr (Or.inr rfl)) (hd : (x == ("__debug__" : Str)) = false := by decide)
    (hcd : (x == ("__classdict__" : Str)) = false := by decide) : PSm X f c c' (.Return (some (.Name x pos')) pos) (sRet (mVar i)) := ⟨(ps_ret (pe_var hN hv hd hcd)).weak fun D σ H h => by
  obtain ⟨G, A, W, env, M, hg, R, ⟨p, e, hp⟩, k⟩ := h
  obtain ⟨v, h1, h2⟩ := R.slots i p e
  obtain ⟨a, hA⟩ := R.Aset i p hc e
  rw [hA] at h2
  obtain ⟨rfl, h2⟩ := h2
  obtain ⟨a1, a2, a3, _, _⟩ := R.Asep i a hA
  refine ⟨.ref a, h1, k.rt p _ H ⟨W, R.W0in, R.Wfix, R.src, R.keep, ?_⟩ hp⟩
  have o : OwnAt X.K ⟨fun b => (G.zb b ∨ inW W b) ∨ b = a, W, H⟩ a p := h2.less fun b z => by
    rcases z with z | z
    · exact z.elim .inl fun z => .inr (.inl z)
    · rw [z]; exact .inr (.inr ⟨i, hA⟩)
  cases hr : f.rm with
  | ow => exact absurd hr hm
  | cl => exact VK1.ofRp (o.cl fun z => z.elim a3 a2)
  | fr => exact ⟨a, rfl, a1, o⟩⟩
def sRetN : TSm := fun M _ => M.rt .non
theorem sm_retN (hm : f.rm = .cl := by rfl) : PSm X f c c' (.Return none pos) sRetN := ⟨ps_retN.weak fun D σ H h => by
  obtain ⟨G, A, W, env, M, hg, R, h, k⟩ := h
  refine k.rt _ _ H ⟨W, R.W0in, R.Wfix, R.src, R.keep, ?_⟩ h
  rw [hm]
  exact VK1.ofRp Rp.non'⟩
def sIf (tc : TTm) (t u : TSm) : TSm := fun M env => tc env fun b => if b = true then t M env else u M env
theorem sm_if {cnd : Expr} {a b : List Stmt} {tc : TTm} (hc : PTm X c cnd tc) (ha : PSsm X f c c' a t) (hb : PSsm X f c c' b u) : PSm X f c c' (.If cnd a b pos) (sIf tc t u) := ⟨(ps_if hc.run ha.run hb.run).weak fun D σ H h => by
  obtain ⟨G, A, W, env, M, hg, R, h, k⟩ := h
  refine ⟨G, A, W, env, _, R, h, fun b H1 g h1 => ?_⟩
  cases b with
  | true => rw [if_pos rfl] at h1 ⊢; exact ⟨G, A, W, env, M, hg, R.grow g, h1, k⟩
  | false => rw [if_neg Bool.false_ne_true] at h1 ⊢; exact ⟨G, A, W, env, M, hg, R.grow g, h1, k⟩⟩
/-- x = e -/
def sSet (i : Nat) (te : TEm) : TSm := fun M env => te env fun p => M.nx (env.set i (some p))
theorem sm_set (i : Nat) {x : Str} {pos' : Pos} (hN : X.N.Nodup) (he : PEm X c .cl e te) (hi : X.N[i]? = some x := by rfl) (hx : Loc X.env.scope x := by first | exact Or.inl rfl | exact Or.inr rfl) (hl : cO c i ≠ .lk := by decide) (hs : swapsWith e (some (.Name x pos')) pos.line X.env = pure false := by rfl) (hf : X.fn x = true ∨ X.env.scope.names.lookup x = some .local := by first | exact .inl rfl | exact .inr rfl | assumption) :
    PSm X f c (c.set i .sh) (.Assign [.Name x pos'] e pos) (sSet i te) := ⟨(ps_set hN hi hx he.run hs hf).weak fun D σ H h => by
  obtain ⟨G, A, W, env, M, hg, R, h, k⟩ := h
  exact ⟨G, A, W, env, _, R, h, fun p v H1 g r h1 => k.nx _ W _ _ H1 ((R.grow g).set_sh hl r.c) h1⟩⟩
theorem sm_setF (i : Nat) {x : Str} {pos' : Pos} (hN : X.N.Nodup) (he : PEm X c .fr e te) (hi : X.N[i]? = some x := by rfl) (hx : Loc X.env.scope x := by first | exact Or.inl rfl | exact Or.inr rfl) (hlen : i < c.length := by decide) (hl : cO c i ≠ .lk := by decide) (hs : swapsWith e (some (.Name x pos')) pos.line X.env = pure false := by rfl) (hf : X.fn x = true ∨ X.env.scope.names.lookup x = some .local := by first | exact .inl rfl | exact .inr rfl | assumption) :
    PSm X f c (c.set i .ow) (.Assign [.Name x pos'] e pos) (sSet i te) := ⟨(ps_set hN hi hx he.run hs hf).weak fun D σ H h => by
  obtain ⟨G, A, W, env, M, hg, R, h, k⟩ := h
  refine ⟨G, A, W, env, _, R, h, fun p v H1 g r h1 => ?_⟩
  obtain ⟨a, rfl, n, o⟩ := r
  exact k.nx _ W _ _ H1 (R.set_ow hlen hl g n o) h1⟩
/-- x += e, whole numbers -/
def sAug (i : Nat) (o : PO2) (te : TEm) : TSm := fun M env => ∃ x, env[i]? = some (some x) ∧ te env fun y => o x y fun z => M.nx (env.set i (some z))
theorem sm_aug (i : Nat) {x : Str} {pos' : Pos} {op : Operator} {r : R2} {o : PO2} (ho : OpR X (inplaceOp op) r) (L : Lift2 X.K r o .cl) (hN : X.N.Nodup) (he : PEm X c .ow e te) (hi : X.N[i]? = some x := by rfl) (hx : Loc X.env.scope x := by first | exact Or.inl rfl | exact Or.inr rfl) (hc : cO c i = .sh := by rfl) (hf : X.fn x = true ∨ X.env.scope.names.lookup x = some .local := by first | exact .inl rfl | exact .inr rfl | assumption) :
    PSm X f c (c.set i .sh) (.AugAssign (.Name x pos') op e pos) (sAug i o te) := ⟨(ps_aug hN hi hx he.run (ti := r) (fun pins s σ H x y v u Q I rx ry h => ho pins s σ H x y v u Q I rx ry h) hf).weak fun D σ H h => by
  obtain ⟨G, A, W, env, M, hg, R, ⟨p, ep, h⟩, k⟩ := h
  obtain ⟨v, h1, h2⟩ := R.slots i p ep
  have hA : A i = none := by
    cases hA : A i with
    | none => rfl
    | some a => exact absurd hc (R.Asep i a hA).2.2.2.1
  rw [hA] at h2
  refine ⟨v, h1, G, A, W, env, _, R, h, fun q w H1 g r h3 => ?_⟩
  refine L _ W H1 p q v w _ _ (R.grow g).sit (RpO.grow R.sz g (Rp.ow R.sz h2)) r.o h3 fun z u H2 g2 r2 h4 => ?_
  exact k.nx _ W _ _ H2 (((R.grow g).grow g2).set_sh (by rw [hc]; decide) r2.c) h4⟩
end
end PM

set_option maxHeartbeats 1000000
/-! PM: lists changed, targets, loops. -/
namespace PM
open PySem L2
section
variable {X : Cx} {f : Fx} {c c1 c' : List Ow} {st : Stmt} {rest : List Stmt} {t u : TSm} {e ei : Expr} {te ti : TEm} {pos : Pos}
/-- one's own list, as it stands -/
theorem SR.mine {K : PySem.W.Frag} {G : Gh} {A : Nat → Option Addr} {W : Ws} {env : Env} {σ : St} {H : Hp} {i : Nat} {p : PV} (R : SR K G c A W env σ H) (hc : cO c i = .ow) (e : env[i]? = some (some p)) : ∃ a, A i = some a ∧ σ[i]? = some (some (.ref a)) ∧ OwnAt K ⟨Zt G A W, W, H⟩ a p := by
  obtain ⟨v, h1, h2⟩ := R.slots i p e
  obtain ⟨a, hA⟩ := R.Aset i p (by rw [hc]; decide) e
  rw [hA] at h2
  exact ⟨a, hA, by rw [h1, h2.1], h2.2⟩
theorem OwnAt.mutL {K : PySem.W.Frag} {Z : Addr → Prop} {W : Ws} {H : Hp} {a : Addr} {ps : List PV} {vs : List V} (hz : Z a) (r : Rps K ⟨Z, W, H⟩ ps vs) : OwnAt K ⟨Z, W, upd H a (.lst vs)⟩ a (.lst ps) :=
by
  have x : Ext ⟨Z, W, H⟩ ⟨Z, W, upd H a (.lst vs)⟩ := ⟨fun b w h e => ⟨h, by show upd H a (.lst vs) b = some w; rw [upd_ne (fun z => h (by rw [z]; exact hz))]; exact e⟩, fun _ h => h⟩
  exact ⟨vs, upd_same, Rps.ext x r⟩
/-- x.append(e) -/
def sApp (i : Nat) (te : TEm) : TSm := fun M env => ∃ ps, env[i]? = some (some (.lst ps)) ∧ te env fun p => ps.length < sizeLine ∧ M.nx (env.set i (some (.lst (ps ++ [p]))))
theorem sm_app (i : Nat) {x : Str} {p1 p2 cpos : Pos} (he : PEm X c .cl e te) (hN : X.N[i]? = some x := by rfl) (hc : cO c i = .ow := by rfl) (hv : Vis X.env.scope x := by first | exact Or.inl rfl | exact Or.inr (Or.inl rfl) | exact Or.inr (Or.inr rfl)) (hd : (x == ("__debug__" : Str)) = false := by decide)
    (hcd : (x == ("__classdict__" : Str)) = false := by decide)
    (hbase : attributeBase (.Name x p1) "append" X.env (eval (.Name x p1) X.env) = eval (.Name x p1) X.env := by rfl)
    (hfew : ((backTo cpos (starEach [e] X.env)).all (fun x => !x.1) && (backToKw cpos (keywordEach [] X.env)).all (fun x => x.1.isSome)
      && decide (([e] : List Expr).length + ([] : List Keyword).length + (if ([] : List Keyword).isEmpty then 0 else 1) < 30)) = true := by rfl)
    (hline : (p2.endLine == cpos.line) = true := by rfl) (hs : starEach [e] X.env = (false, eval e X.env) :: starEach [] X.env := by rfl) (hplain : (backTo cpos (starEach [] X.env)).any (·.1) = false := by rfl)
    (hsw : swapsWith (.Call (.Attribute (.Name x p1) "append" p2) [e] [] cpos) none pos.line X.env = pure false := by rfl) :
    PSm X f c c (.Expr (.Call (.Attribute (.Name x p1) "append" p2) [e] [] cpos) pos) (sApp i te) := ⟨(ps_expr (pe_bm PySem.F.plainAttrs_list PySem.F.slot_list_append PySem.F.type_list_append mt_append (pe_var hN hv hd hcd) (pa_cons he.run pa_nil hs) hbase hfew hline hs hplain) hsw).weak fun D σ H h => by
  obtain ⟨G, A, W, env, M, hg, R, ⟨ps, e0, h⟩, k⟩ := h
  obtain ⟨a, hA, hσ, vs, hH, r⟩ := R.mine hc e0
  refine ⟨.ref a, hσ, .inl ⟨rfl, vs, .inl (.inl hH)⟩, G, A, W, env, _, R, h, fun p v H1 g rv ⟨hl, h1⟩ => ?_⟩
  have R1 := R.grow g
  obtain ⟨a', hA', _, ws, hH1, r1⟩ := R1.mine hc e0
  rw [hA] at hA'; cases hA'
  refine ⟨a, ws, v, rfl, rfl, hH1, by rw [← r1.len]; exact hl, ?_⟩
  exact k.nx A W _ σ _ (R1.mut e0 hA hc (OwnAt.mutL (.inr (.inr ⟨i, hA⟩)) (r1.append (Rps.cons rv.c Rps.nil)))) h1⟩
/-- x.extend(e), e a list -/
def sExt (i : Nat) (te : TEm) : TSm := fun M env => ∃ ps, env[i]? = some (some (.lst ps)) ∧ te env fun p => ∃ qs, p = .lst qs ∧ ps.length + qs.length ≤ sizeLine ∧ M.nx (env.set i (some (.lst (ps ++ qs))))
theorem sm_ext (i : Nat) {x : Str} {p1 p2 cpos : Pos} (he : PEm X c .cl e te) (hN : X.N[i]? = some x := by rfl) (hc : cO c i = .ow := by rfl) (hv : Vis X.env.scope x := by first | exact Or.inl rfl | exact Or.inr (Or.inl rfl) | exact Or.inr (Or.inr rfl)) (hd : (x == ("__debug__" : Str)) = false := by decide)
    (hcd : (x == ("__classdict__" : Str)) = false := by decide)
    (hbase : attributeBase (.Name x p1) "extend" X.env (eval (.Name x p1) X.env) = eval (.Name x p1) X.env := by rfl)
    (hfew : ((backTo cpos (starEach [e] X.env)).all (fun x => !x.1) && (backToKw cpos (keywordEach [] X.env)).all (fun x => x.1.isSome)
      && decide (([e] : List Expr).length + ([] : List Keyword).length + (if ([] : List Keyword).isEmpty then 0 else 1) < 30)) = true := by rfl)
    (hline : (p2.endLine == cpos.line) = true := by rfl) (hs : starEach [e] X.env = (false, eval e X.env) :: starEach [] X.env := by rfl) (hplain : (backTo cpos (starEach [] X.env)).any (·.1) = false := by rfl)
    (hsw : swapsWith (.Call (.Attribute (.Name x p1) "extend" p2) [e] [] cpos) none pos.line X.env = pure false := by rfl) :
    PSm X f c c (.Expr (.Call (.Attribute (.Name x p1) "extend" p2) [e] [] cpos) pos) (sExt i te) := ⟨(ps_expr (pe_bm PySem.F.plainAttrs_list PySem.F.slot_list_extend PySem.F.type_list_extend mt_extend (pe_var hN hv hd hcd) (pa_cons he.run pa_nil hs) hbase hfew hline hs hplain) hsw).weak fun D σ H h => by
  obtain ⟨G, A, W, env, M, hg, R, ⟨ps, e0, h⟩, k⟩ := h
  obtain ⟨a, hA, hσ, vs, hH, r⟩ := R.mine hc e0
  refine ⟨.ref a, hσ, .inl ⟨rfl, vs, .inl (.inl hH)⟩, G, A, W, env, _, R, h, fun p v H1 g rv ⟨qs, eq, hl, h1⟩ => ?_⟩
  subst eq
  have R1 := R.grow g
  obtain ⟨a', hA', _, ws, hH1, r1⟩ := R1.mine hc e0
  rw [hA] at hA'; cases hA'
  obtain ⟨b, us, rfl, e2, r2⟩ := (Rp.ow R1.sz rv.c).lst
  refine ⟨a, b, ws, us, rfl, rfl, hH1, e2.2, by rw [← r1.len, ← r2.len]; exact hl, ?_⟩
  exact k.nx A W _ σ _ (R1.mut e0 hA hc (OwnAt.mutL (.inr (.inr ⟨i, hA⟩)) (r1.append r2))) h1⟩
/-- y = x.pop(), y = x.pop(e) -/
def sPop (j i : Nat) : TSm := fun M env => ∃ ps p, env[i]? = some (some (.lst ps)) ∧ ps[ps.length - 1]? = some p ∧ M.nx ((env.set i (some (.lst ps.dropLast))).set j (some p))
theorem Rps.dropLast {K : PySem.W.Frag} {S : Wd} {ps : List PV} {vs : List V} (h : Rps K S ps vs) : Rps K S ps.dropLast vs.dropLast := by
  rw [List.dropLast_eq_take, List.dropLast_eq_take, h.len]
  exact h.take _
theorem sm_pop (j i : Nat) {x y : Str} {py p1 p2 cpos : Pos} (hNd : X.N.Nodup) (hi : X.N[j]? = some y := by rfl) (hy : Loc X.env.scope y := by first | exact Or.inl rfl | exact Or.inr rfl) (hl : cO c j ≠ .lk := by decide) (hN : X.N[i]? = some x := by rfl) (hc : cO c i = .ow := by rfl) (hv : Vis X.env.scope x := by first | exact Or.inl rfl | exact Or.inr (Or.inl rfl) | exact Or.inr (Or.inr rfl)) (hd : (x == ("__debug__" : Str)) = false := by decide)
    (hcd : (x == ("__classdict__" : Str)) = false := by decide) (hbase : attributeBase (.Name x p1) "pop" X.env (eval (.Name x p1) X.env) = eval (.Name x p1) X.env := by rfl) (hline : (p2.endLine == cpos.line) = true := by rfl)
    (hsw : swapsWith (.Call (.Attribute (.Name x p1) "pop" p2) [] [] cpos) (some (.Name y py)) pos.line X.env = pure false := by rfl) (hf : X.fn y = true ∨ X.env.scope.names.lookup y = some .local := by first | exact .inl rfl | exact .inr rfl | assumption) :
    PSm X f c (c.set j .sh) (.Assign [.Name y py] (.Call (.Attribute (.Name x p1) "pop" p2) [] [] cpos) pos) (sPop j i) := ⟨(ps_set hNd hi hy (pe_bm0 PySem.F.plainAttrs_list PySem.F.slot_list_pop PySem.F.type_list_pop mt_pop (pe_var hN hv hd hcd) hbase hline) hsw hf).weak fun D σ H h => by
  obtain ⟨G, A, W, env, M, hg, R, ⟨ps, p, e0, ep, h⟩, k⟩ := h
  obtain ⟨a, hA, hσ, vs, hH, r⟩ := R.mine hc e0
  obtain ⟨v, ev, rv⟩ := r.get ep
  refine ⟨.ref a, hσ, .inl ⟨rfl, vs, .inl (.inl hH)⟩, a, vs, v, rfl, rfl, hH, by rw [← r.len]; exact ev, ?_⟩
  have za : Zt G A W a := .inr (.inr ⟨i, hA⟩)
  have R1 := R.mut e0 hA hc (OwnAt.mutL za r.dropLast)
  have x : Ext ⟨Zt G A W, W, H⟩ ⟨Zt G A W, W, upd H a (.lst vs.dropLast)⟩ := ⟨fun b w hz e => ⟨hz, by show upd H a _ b = some w; rw [upd_ne (fun z => hz (by rw [z]; exact za))]; exact e⟩, fun _ h => h⟩
  exact k.nx _ W _ _ _ (R1.set_sh hl (Rp.ext x rv)) h⟩
def sPopAt (j i : Nat) (te : TEm) : TSm := fun M env => ∃ ps, env[i]? = some (some (.lst ps)) ∧ te env fun q => ∃ (m : Int) (n : Nat) (p : PV), q = .int m ∧ (-(2 ^ 63) ≤ m ∧ m < 2 ^ 63) ∧ ixN ps.length m = some n ∧ ps[n]? = some p ∧ M.nx ((env.set i (some (.lst (ps.eraseIdx n)))).set j (some p))
theorem sm_popAt (j i : Nat) {x y : Str} {py p1 p2 cpos : Pos} (hNd : X.N.Nodup) (he : PEm X c .ow e te) (hi : X.N[j]? = some y := by rfl) (hy : Loc X.env.scope y := by first | exact Or.inl rfl | exact Or.inr rfl) (hl : cO c j ≠ .lk := by decide) (hN : X.N[i]? = some x := by rfl) (hc : cO c i = .ow := by rfl) (hv : Vis X.env.scope x := by first | exact Or.inl rfl | exact Or.inr (Or.inl rfl) | exact Or.inr (Or.inr rfl)) (hd : (x == ("__debug__" : Str)) = false := by decide)
    (hcd : (x == ("__classdict__" : Str)) = false := by decide) (hbase : attributeBase (.Name x p1) "pop" X.env (eval (.Name x p1) X.env) = eval (.Name x p1) X.env := by rfl)
    (hfew : ((backTo cpos (starEach [e] X.env)).all (fun x => !x.1) && (backToKw cpos (keywordEach [] X.env)).all (fun x => x.1.isSome)
      && decide (([e] : List Expr).length + ([] : List Keyword).length + (if ([] : List Keyword).isEmpty then 0 else 1) < 30)) = true := by rfl) (hline : (p2.endLine == cpos.line) = true := by rfl) (hs : starEach [e] X.env = (false, eval e X.env) :: starEach [] X.env := by rfl) (hplain : (backTo cpos (starEach [] X.env)).any (·.1) = false := by rfl)
    (hsw : swapsWith (.Call (.Attribute (.Name x p1) "pop" p2) [e] [] cpos) (some (.Name y py)) pos.line X.env = pure false := by rfl) (hf : X.fn y = true ∨ X.env.scope.names.lookup y = some .local := by first | exact .inl rfl | exact .inr rfl | assumption) :
    PSm X f c (c.set j .sh) (.Assign [.Name y py] (.Call (.Attribute (.Name x p1) "pop" p2) [e] [] cpos) pos) (sPopAt j i te) := ⟨(ps_set hNd hi hy (pe_bm PySem.F.plainAttrs_list PySem.F.slot_list_pop PySem.F.type_list_pop mt_popAt (pe_var hN hv hd hcd) (pa_cons he.run pa_nil hs) hbase hfew hline hs hplain) hsw hf).weak fun D σ H h => by
  obtain ⟨G, A, W, env, M, hg, R, ⟨ps, e0, h⟩, k⟩ := h
  obtain ⟨a, hA, hσ, vs, hH, r⟩ := R.mine hc e0
  refine ⟨.ref a, hσ, .inl ⟨rfl, vs, .inl (.inl hH)⟩, G, A, W, env, _, R, h, fun q w H1 g rq ⟨m, n, p, eq, ⟨hm1, hm2⟩, hix, hp, h1⟩ => ?_⟩
  subst eq
  have R1 := R.grow g
  obtain ⟨a', hA', _, ws, hH1, r1⟩ := R1.mine hc e0
  rw [hA] at hA'; cases hA'
  obtain ⟨v, ev, rv⟩ := r1.get hp
  rw [r1.len] at hix
  refine ⟨a, ws, m, n, v, rfl, by rw [rq.o.int], hH1, hm1, hm2, (ixN_seq hix).1, ev, ?_⟩
  have za : Zt G A W a := .inr (.inr ⟨i, hA⟩)
  have R2 := R1.mut e0 hA hc (OwnAt.mutL za (r1.eraseIdx n))
  have x : Ext ⟨Zt G A W, W, H1⟩ ⟨Zt G A W, W, upd H1 a (.lst (ws.eraseIdx n))⟩ := ⟨fun b w hz e => ⟨hz, by show upd H1 a _ b = some w; rw [upd_ne (fun z => hz (by rw [z]; exact za))]; exact e⟩, fun _ h => h⟩
  exact k.nx _ W _ _ _ (R2.set_sh hl (Rp.ext x rv)) h1⟩
/-- x[k] = e, x a list of one's own -/
def sPut (i : Nat) (ti te : TEm) : TSm := fun M env => te env fun p => ∃ ps, env[i]? = some (some (.lst ps)) ∧ ti env fun q => ∃ (m : Int) (n : Nat), q = .int m ∧ ixN ps.length m = some n ∧ M.nx (env.set i (some (.lst (ps.set n p))))
theorem sm_put (i : Nat) {x : Str} {p1 p2 : Pos} (he : PEm X c .cl e te) (hk : PEm X c .ow ei ti) (hN : X.N[i]? = some x := by rfl) (hc : cO c i = .ow := by rfl) (hv : Vis X.env.scope x := by first | exact Or.inl rfl | exact Or.inr (Or.inl rfl) | exact Or.inr (Or.inr rfl)) (hd : (x == ("__debug__" : Str)) = false := by decide)
    (hcd : (x == ("__classdict__" : Str)) = false := by decide)
    (ha : ∀ v, assign (.Subscript (.Name x p1) ei p2) X.env v = (do
      let ov ← holding [v] (eval (.Name x p1) X.env)
      let iv ← holding [v, ov] (eval ei X.env)
      standAt p2
      holding [v, ov, iv] (setItem ov iv v)
      release [v, ov, iv] []) := by intro _; rfl)
    (hs : swapsWithSole [.Subscript (.Name x p1) ei p2] e pos.line X.env = pure false := by rfl) (hw : swappedStores [.Subscript (.Name x p1) ei p2] e X.env = pure none := by rfl)
    (h1 : (assignEach [.Subscript (.Name x p1) ei p2] X.env).map (·.2) = [assign (.Subscript (.Name x p1) ei p2) X.env] := by rfl) :
    PSm X f c c (.Assign [.Subscript (.Name x p1) ei p2] e pos) (sPut i ti te) := ⟨(ps_asg he.run (pg_sub (pe_var hN hv hd hcd) hk.run set_list ha) hs hw h1).weak fun D σ H h => by
  obtain ⟨G, A, W, env, M, hg, R, h, k⟩ := h
  refine ⟨G, A, W, env, _, R, h, fun p v H1 g rv ⟨ps, e0, h1⟩ => ?_⟩
  have R1 := R.grow g
  obtain ⟨a, hA, hσ, vs, hH, r⟩ := R1.mine hc e0
  refine ⟨.ref a, hσ, G, A, W, env, _, R1, h1, fun q w H2 g2 rq ⟨m, n, eq, hix, h2⟩ => ?_⟩
  subst eq
  have R2 := R1.grow g2
  obtain ⟨a', hA', _, ws, hH2, r2⟩ := R2.mine hc e0
  rw [hA] at hA'; cases hA'
  rw [r2.len] at hix
  refine ⟨a, ws, m, n, rfl, rq.o.int, hH2, hix, ?_⟩
  exact k.nx A W _ σ _ (R2.mut e0 hA hc (OwnAt.mutL (.inr (.inr ⟨i, hA⟩)) (Rps.set (Rp.ext (g2.ext R.sz) rv.c) n r2))) h2⟩

/-! ### targets -/
abbrev TGm := PV → Env → (Env → Prop) → Prop
/-- only the slots vs are touched -/
def Touch (vs : List Nat) (σ σ' : St) : Prop := σ'.length = σ.length ∧ ∀ j, j ∉ vs → σ'[j]? = σ[j]?
def tgM (K : PySem.W.Frag) (c : List Ow) (vs : List Nat) (t : TGm) : TG := fun v σ H Q => ∃ G A W env p k, SR K G c A W env σ H ∧ Rp K ⟨Zt G A W, W, H⟩ p v ∧ t p env k ∧ ∀ env' σ', SR K G c A W env' σ' H → Touch vs σ σ' → k env' → Q σ' H
structure PGm (X : Cx) (c : List Ow) (vs : List Nat) (tg : Expr) (t : TGm) : Prop where
  run : PG X tg (tgM X.K c vs t)
def gmN (i : Nat) : TGm := fun p env k => k (env.set i (some p))
theorem c_same {c : List Ow} {i : Nat} (h : cO c i = .sh) : c.set i .sh = c := by
  apply List.ext_getElem?
  intro j
  rw [List.getElem?_set]
  by_cases e : i = j
  · subst e
    rw [if_pos rfl]
    by_cases h2 : i < c.length
    · rw [if_pos h2]
      unfold cO at h
      rw [List.getD_eq_getElem?_getD, List.getElem?_eq_getElem h2] at h
      rw [List.getElem?_eq_getElem h2]
      exact congrArg some h.symm
    · rw [if_neg h2, List.getElem?_eq_none (by omega)]
  · rw [if_neg e]
theorem SR.noA {K : PySem.W.Frag} {G : Gh} {A : Nat → Option Addr} {W : Ws} {env : Env} {σ : St} {H : Hp} {i : Nat} (R : SR K G c A W env σ H) (hc : cO c i = .sh) : A i = none := by
  cases hA : A i with
  | none => rfl
  | some a => exact absurd hc (R.Asep i a hA).2.2.2.1
theorem SR.set_cl {K : PySem.W.Frag} {G : Gh} {A : Nat → Option Addr} {W : Ws} {env : Env} {σ : St} {H : Hp} {i : Nat} {p : PV} {v : V} (R : SR K G c A W env σ H) (hc : cO c i = .sh) (r : Rp K ⟨Zt G A W, W, H⟩ p v) : SR K G c A W (env.set i (some p)) (σ.set i (some v)) H := by
  have h := R.set_sh (i := i) (by rw [hc]; decide) r
  rw [c_same hc] at h
  have e : dropA A i = A := by
    funext j
    by_cases z : j = i
    · rw [z, dropA_eq, R.noA hc]
    · exact dropA_ne z
  rw [e] at h
  exact h
theorem gm_name (i : Nat) {x : Str} {pos : Pos} (hN : X.N.Nodup) (hi : X.N[i]? = some x := by rfl) (hc : cO c i = .sh := by rfl) (hx : Loc X.env.scope x := by first | exact Or.inl rfl | exact Or.inr rfl) (hf : X.fn x = true ∨ X.env.scope.names.lookup x = some .local := by first | exact .inl rfl | exact .inr rfl | assumption) : PGm X c [i] (.Name x pos) (gmN i) :=
  ⟨⟨fun pins s σ H v u Q I r h => (pg_name hN hi hx hf).run pins s σ H v u Q I r (by
    obtain ⟨G, A, W, env, p, k, R, rp, h, q⟩ := h
    exact q _ _ (R.set_cl hc rp) ⟨List.length_set .., fun j hj => List.getElem?_set_ne (fun z => hj (by rw [← z]; exact List.mem_singleton.mpr rfl))⟩ h)⟩⟩
abbrev TGsm := List PV → Env → (Env → Prop) → Prop
def tgsM (K : PySem.W.Frag) (c : List Ow) (vs : List Nat) (t : TGsm) : TGs := fun ws σ H Q => ∃ G A W env ps k, SR K G c A W env σ H ∧ Rps K ⟨Zt G A W, W, H⟩ ps ws ∧ t ps env k ∧ ∀ env' σ', SR K G c A W env' σ' H → Touch vs σ σ' → k env' → Q σ' H
structure PGsm (X : Cx) (c : List Ow) (vs : List Nat) (tg : List Expr) (t : TGsm) : Prop where
  run : PGs X tg (tgsM X.K c vs t)
theorem Touch.refl {vs : List Nat} {σ : St} : Touch vs σ σ := ⟨rfl, fun _ _ => rfl⟩
theorem Touch.trans {vs ws : List Nat} {σ σ1 σ2 : St} (a : Touch vs σ σ1) (b : Touch ws σ1 σ2) : Touch (vs ++ ws) σ σ2 :=
  ⟨b.1.trans a.1, fun j hj => (b.2 j fun z => hj (List.mem_append_right _ z)).trans (a.2 j fun z => hj (List.mem_append_left _ z))⟩
def gmNil : TGsm := fun ps env k => ps = [] ∧ k env
def gmCons (g : TGm) (r : TGsm) : TGsm := fun ps env k => ∃ p qs, ps = p :: qs ∧ g p env fun env' => r qs env' k
theorem gsm_nil : PGsm X c [] [] gmNil := ⟨⟨fun pins s σ H vs us Q I r h => pgs_nil.run pins s σ H vs us Q I r (by
  obtain ⟨G, A, W, env, ps, k, R, rp, ⟨e, h⟩, q⟩ := h
  subst e
  exact ⟨by unfold Rps at rp; exact rp, q _ _ R Touch.refl h⟩)⟩⟩
theorem gsm_cons {tg : Expr} {tgs : List Expr} {g : TGm} {r : TGsm} {vs ws : List Nat} (h1 : PGm X c vs tg g) (h2 : PGsm X c ws tgs r) (hs : (assignEach (tg :: tgs) X.env).map (·.2) = assign tg X.env :: (assignEach tgs X.env).map (·.2) := by rfl) : PGsm X c (vs ++ ws) (tg :: tgs) (gmCons g r) :=
  ⟨⟨fun pins s σ H vs us Q I r' h => (pgs_cons h1.run h2.run hs).run pins s σ H vs us Q I r' (by
    obtain ⟨G, A, W, env, ps, k, R, rp, ⟨p, qs, e, h⟩, q⟩ := h
    subst e
    unfold Rps at rp
    obtain ⟨v, ws, e2, r1, r2⟩ := rp
    exact ⟨v, ws, e2, G, A, W, env, p, _, R, r1, h, fun env' σ' R' t1 h' => ⟨G, A, W, env', qs, k, R', r2, h', fun env2 σ2 R2 t2 h2 => q env2 σ2 R2 (t1.trans t2) h2⟩⟩)⟩⟩
def gmT (n : Nat) (r : TGsm) : TGm := fun p env k => ∃ ps, p = .tup ps ∧ ps.length = n ∧ r ps env k
theorem gm_tup {es : List Expr} {kk : Nat} {r : TGsm} {n : Nat} {pos : Pos} {vs : List Nat} (hc : X.calm = true) (h : PGsm X c vs es r) (hn : (assignEach es X.env).length = n := by rfl) (hst : (assignEach es X.env).findIdx? (·.1) = none := by rfl) : PGm X c vs (.Tuple es kk pos) (gmT n r) :=
  ⟨⟨fun pins s σ H v u Q I r' h' => (pg_tup hc h.run hn hst).run pins s σ H v u Q I r' (by
    obtain ⟨G, A, W, env, p, k, R, rp, ⟨ps, e, hl, h⟩, q⟩ := h'
    subst e
    unfold Rp at rp
    obtain ⟨a, vs, rfl, h1, h2⟩ := rp
    exact ⟨a, vs, rfl, h1.sq, by rw [← h2.len]; exact hl, G, A, W, env, ps, k, R, h2, h, q⟩)⟩⟩
/-- (a, b) = e -/
def sAsg (te : TEm) (g : TGm) : TSm := fun M env => te env fun p => g p env M.nx
theorem sm_asg {tg : Expr} {g : TGm} {vs : List Nat} (he : PEm X c .cl e te) (hg : PGm X c vs tg g) (hs : swapsWithSole [tg] e pos.line X.env = pure false := by rfl) (hw : swappedStores [tg] e X.env = pure none := by rfl)
    (h1 : (assignEach [tg] X.env).map (·.2) = [assign tg X.env] := by rfl) : PSm X f c c (.Assign [tg] e pos) (sAsg te g) := ⟨(ps_asg he.run hg.run hs hw h1).weak fun D σ H h => by
  obtain ⟨G, A, W, env, M, hg, R, h, k⟩ := h
  exact ⟨G, A, W, env, _, R, h, fun p v H1 g rv h1 => ⟨G, A, W, env, p, M.nx, R.grow g, rv.c, h1, fun env' σ' R' _ h' => k.nx A W env' σ' H1 R' h'⟩⟩⟩
end
end PM

set_option maxHeartbeats 1000000
/-! PM: what is walked, for, while, comprehensions. -/
namespace PM
open PySem L2
/-- all that was tracked is as it was -/
def GrowA (H H' : Hp) : Prop := ∀ b o, H b = some o → H' b = some o
theorem GrowA.grow {W : Ws} {H H' : Hp} (g : GrowA H H') (h : ∀ p ∈ W, SA H p) : Grow W H H' := ⟨fun b o _ e => g b o e, fun p hp => by
  obtain ⟨⟨_, e1⟩, _, e2⟩ := (h p hp).some
  exact SA.at (by rw [g _ _ e1, e1]) (by rw [g _ _ e2, e2]) (h p hp)⟩
theorem GrowA.refl {H : Hp} : GrowA H H := fun _ _ e => e
theorem GrowA.new {H : Hp} {a : Addr} {o : HO} (n : H a = none) : GrowA H (upd H a o) := fun b u e => by rw [upd_ne (ne_of_none e n)]; exact e
/-- the items of a walk: pl are places that must stand as they are -/
def ItOk (K : PySem.W.Frag) (Z : Addr → Prop) (W : Ws) (H : Hp) (pl : List (Addr × HO)) (J : It) (items : List PV) : Prop :=
  ∃ (Gd : Hp → Prop) (Y : Nat → Hp → V → Hp → Prop), Walk J items.length Gd Y ∧ ∀ Z2 W2 H2, Ext ⟨Z, W, H⟩ ⟨Z2, W2, H2⟩ → (∀ b, Z2 b → ∃ o, H2 b = some o) → (∀ q ∈ pl, H2 q.1 = some q.2) →
    Gd H2 ∧ ∀ i x H3 p, items[i]? = some p → Y i H2 x H3 → GrowA H2 H3 ∧ Rp K ⟨Z2, W2, H3⟩ p x
abbrev TIm := Env → (List PV → Prop) → Prop
/-- lk: the slot whose own list is walked -/
structure PIm (X : Cx) (c : List Ow) (lk : Option Nat) (tg iter : Expr) (t : TIm) : Prop where
  run : PI X tg iter (fun σ H R => ∃ G A W env P, SR X.K G c A W env σ H ∧ t env P ∧ ∀ J items H' pl, Grow W H H' → (match lk with | none => pl = [] | some j => ∃ a o, pl = [(a, o)] ∧ A j = some a ∧ H' a = some o) → ItOk X.K (Zt G A W) W H' pl J items → P items → R J H')
section
variable {X : Cx} {c : List Ow} {tg e : Expr} {te : TEm} {pos : Pos}
def iSeq (K : PySem.W.Frag) (tl : TE) : TI := fun σ H R => tl σ H fun x H1 => ∃ a, x = .ref a ∧ (((∃ xs, SqL K H1 a xs) ∧ R (Itl K a) H1) ∨ ((∃ xs, SqT K H1 a xs) ∧ R (Itt K a) H1))
theorem pi_seq {l : Expr} {tl : TE} (hl : PE X l tl) : PI X tg l (iSeq X.K tl) := by
  refine ⟨fun pins s σ H R I h => ?_⟩
  refine thn (hl.run pins s σ H _ I h) fun v s1 ⟨x, H1, I1, r1, q1⟩ => ?_
  obtain ⟨a, e, q1⟩ := q1
  subst e
  cases r1
  rcases q1 with ⟨⟨xs, hq⟩, q⟩ | ⟨⟨xs, hq⟩, q⟩
  · obtain ⟨its, rv, p, hz⟩ := I1.list hq
    refine wpAny_pyIter_list p.isList ?_
    refine ⟨s1.heap.objs.size, [s1.heap.objs.size], _, _, H1, rfl, I1.kept (t' := s1.toks) fun b o e => Heap.get?_push_of_some _ e, turn_list a _, ⟨_, Heap.get?_push_size _ rfl, rfl, rfl⟩, fun b hb => ?_, q⟩
    have e : b = s1.heap.objs.size := by simpa using hb
    subst e
    exact I1.fpOk (Nat.le_refl _) (I1.hok.fresh (Nat.le_refl _))
  · obtain ⟨its, rv, p, hz⟩ := I1.tuple hq
    refine wpAny_pyIter_tuple (show s1.heap.IsTuple a its.toArray from p) ?_
    refine ⟨s1.heap.objs.size, [s1.heap.objs.size], _, _, H1, rfl, I1.kept (t' := s1.toks) fun b o e => Heap.get?_push_of_some _ e, turn_tuple a _, ⟨_, Heap.get?_push_size _ rfl, rfl, rfl⟩, fun b hb => ?_, q⟩
    have e : b = s1.heap.objs.size := by simpa using hb
    subst e
    exact I1.fpOk (Nat.le_refl _) (I1.hok.fresh (Nat.le_refl _))
/-- a list or tuple -/
def mItems (te : TEm) : TIm := fun env P => te env fun p => ∃ ps, seqP p = some ps ∧ P ps
theorem itok_list {K : PySem.W.Frag} {Z : Addr → Prop} {W : Ws} {H : Hp} {a : Addr} {vs : List V} {ps : List PV} (h : ¬ Z a) (e : H a = some (.lst vs)) (r : Rps K ⟨Z, W, H⟩ ps vs) : ItOk K Z W H [] (Itl K a) ps := by
  refine ⟨_, _, by rw [r.len]; exact walk_list, fun Z2 W2 H2 x hz _ => ?_⟩
  have e2 := (x.keep a _ h e).2
  refine ⟨.inl (.inl e2), fun i v H3 p hp y => ?_⟩
  obtain ⟨rfl, hv⟩ := y
  obtain ⟨w, hw, rw'⟩ := r.get hp
  rw [hv] at hw; cases hw
  exact ⟨GrowA.refl, Rp.ext x rw'⟩
theorem itok_own {K : PySem.W.Frag} {Z : Addr → Prop} {W : Ws} {H : Hp} {a : Addr} {vs : List V} {ps : List PV} (e : H a = some (.lst vs)) (r : Rps K ⟨Z, W, H⟩ ps vs) : ItOk K Z W H [(a, .lst vs)] (Itl K a) ps := by
  refine ⟨_, _, by rw [r.len]; exact walk_list, fun Z2 W2 H2 x hz hpl => ?_⟩
  have e2 : H2 a = some (.lst vs) := hpl (a, .lst vs) (by simp)
  refine ⟨.inl (.inl e2), fun i v H3 p hp y => ?_⟩
  obtain ⟨rfl, hv⟩ := y
  obtain ⟨w, hw, rw'⟩ := r.get hp
  rw [hv] at hw; cases hw
  exact ⟨GrowA.refl, Rp.ext x rw'⟩
theorem itok_tup {K : PySem.W.Frag} {Z : Addr → Prop} {W : Ws} {H : Hp} {a : Addr} {vs : List V} {ps : List PV} (e : TupAt K ⟨Z, W, H⟩ a vs) (r : Rps K ⟨Z, W, H⟩ ps vs) : ItOk K Z W H [] (Itt K a) ps := by
  refine ⟨_, _, by rw [r.len]; exact walk_tup, fun Z2 W2 H2 x hz _ => ?_⟩
  refine ⟨(e.ext x).sq, fun i v H3 p hp y => ?_⟩
  obtain ⟨rfl, hv⟩ := y
  obtain ⟨w, hw, rw'⟩ := r.get hp
  rw [hv] at hw; cases hw
  exact ⟨GrowA.refl, Rp.ext x rw'⟩
theorem im_seq (he : PEm X c .cl e te) : PIm X c none tg e (mItems te) := ⟨⟨fun pins s σ H R I h => (pi_seq he.run).run pins s σ H R I (by
  obtain ⟨G, A, W, env, P, R, h, k⟩ := h
  refine ⟨G, A, W, env, _, R, h, fun p v H1 g rv ⟨ps, hp, h1⟩ => ?_⟩
  cases p with
  | lst qs =>
    obtain rfl : qs = ps := Option.some.inj hp
    have rv' := rv.c
    unfold Rp at rv'
    obtain ⟨a, vs, rfl, e, r⟩ := rv'
    exact ⟨a, rfl, .inl ⟨⟨vs, e.sq⟩, k _ qs H1 [] g rfl (itok_list e.1 e.2 r) h1⟩⟩
  | tup qs =>
    obtain rfl : qs = ps := Option.some.inj hp
    have rv' := rv.c
    unfold Rp at rv'
    obtain ⟨a, vs, rfl, e, r⟩ := rv'
    exact ⟨a, rfl, .inr ⟨⟨vs, e.sq⟩, k _ qs H1 [] g rfl (itok_tup e r) h1⟩⟩
  | _ => cases hp)⟩⟩
/-- one's own list -/
theorem im_own (j : Nat) {x : Str} (hN : X.N[j]? = some x := by rfl) (hc : cO c j ≠ .sh := by decide) (hv : Vis X.env.scope x := by first | exact Or.inl rfl | exact Or.inr (Or.inl rfl) | exact Or.inr (Or.inr rfl)) (hd : (x == ("__debug__" : Str)) = false := by decide)
    (hcd : (x == ("__classdict__" : Str)) = false := by decide) : PIm X c (some j) tg (.Name x pos) (fun env P => ∃ ps, env[j]? = some (some (.lst ps)) ∧ P ps) := ⟨⟨fun pins s σ H R I h => (pi_seq (pe_var hN hv hd hcd)).run pins s σ H R I (by
  obtain ⟨G, A, W, env, P, R, ⟨ps, e, h⟩, k⟩ := h
  obtain ⟨v, h1, h2⟩ := R.slots j _ e
  obtain ⟨a, hA⟩ := R.Aset j _ hc e
  rw [hA] at h2
  obtain ⟨rfl, vs, hH, r⟩ := h2
  exact ⟨_, h1, a, rfl, .inl ⟨⟨vs, .inl (.inl hH)⟩, k _ ps H [(a, .lst vs)] (Grow.refl R.src) ⟨a, _, rfl, hA, hH⟩ (itok_own hH r) h⟩⟩)⟩⟩
/-- ranges -/
def rngP (lo : Int) (n : Nat) : List PV := (List.range n).map fun i => PV.int (lo + (i : Nat))
theorem itok_range {K : PySem.W.Frag} {Z : Addr → Prop} {W : Ws} {H : Hp} {lo : Int} {n : Nat} : ItOk K Z W H [] (Itr lo n) (rngP lo n) := by
  refine ⟨_, _, by unfold rngP; rw [List.length_map, List.length_range]; exact walk_range, fun Z2 W2 H2 x hz _ => ⟨trivial, fun i v H3 p hp y => ?_⟩⟩
  obtain ⟨rfl, rfl⟩ := y
  unfold rngP at hp
  obtain ⟨hi, e⟩ := List.getElem?_eq_some_iff.mp hp
  rw [List.length_map, List.length_range] at hi
  rw [List.getElem_map, List.getElem_range] at e
  subst e
  exact ⟨GrowA.refl, Rp.int'⟩
def mRng1 (t : TEm) : TIm := fun env P => t env fun x => ∃ n, x = .int n ∧ (-(2 ^ 62) ≤ n ∧ n < 2 ^ 62) ∧ P (rngP 0 n.toNat)
def mRng2 (t u : TEm) : TIm := fun env P => t env fun x => u env fun y => ∃ a b, x = .int a ∧ y = .int b ∧ (-(2 ^ 62) ≤ a ∧ a < 2 ^ 62 ∧ -(2 ^ 62) ≤ b ∧ b < 2 ^ 62) ∧ P (rngP a (b - a).toNat)
variable {a b : Expr} {ta tb : TEm}
theorem im_rng1 {p : Pos} (hm : X.mg "range" = none) (ha : PEm X c .ow a ta) (hg : Gl X "range" := by rfl) (hs0 : starEach [a] X.env = (false, eval a X.env) :: starEach [] X.env := by rfl) (hs : starEach [a] X.env = [(false, eval a X.env)] := by rfl) : PIm X c none tg (.Call (.Name "range" p) [a] [] pos) (mRng1 ta) := ⟨⟨fun pins s σ H R I h => (pi_range1 hg hm (pa_cons ha.run pa_nil hs0) hs).run pins s σ H R I (by
  obtain ⟨G, A, W, env, P, R, h, k⟩ := h
  refine ⟨G, A, W, env, _, R, h, fun q v H1 g rv ⟨n, e, ⟨h1, h2⟩, h3⟩ => ?_⟩
  subst e
  exact ⟨n, by rw [rv.o.int], h1, h2, k _ _ H1 [] g rfl itok_range h3⟩)⟩⟩
theorem im_rng2 {p : Pos} (hm : X.mg "range" = none) (ha : PEm X c .ow a ta) (hb : PEm X c .ow b tb) (hg : Gl X "range" := by rfl) (hs0 : starEach [a, b] X.env = (false, eval a X.env) :: starEach [b] X.env := by rfl) (hs1 : starEach [b] X.env = (false, eval b X.env) :: starEach [] X.env := by rfl)
    (hs : starEach [a, b] X.env = [(false, eval a X.env), (false, eval b X.env)] := by rfl) (hs2 : starEach [b] X.env = [(false, eval b X.env)] := by rfl) : PIm X c none tg (.Call (.Name "range" p) [a, b] [] pos) (mRng2 ta tb) := ⟨⟨fun pins s σ H R I h => (pi_range2 hg hm (pa_cons ha.run (pa_cons hb.run pa_nil hs1) hs0) hs hs2).run pins s σ H R I (by
  obtain ⟨G, A, W, env, P, R, h, k⟩ := h
  refine ⟨G, A, W, env, _, R, h, fun q v H1 g rv h1 => ⟨G, A, W, env, _, R.grow g, h1, fun q2 v2 H2 g2 rv2 ⟨n, m, e, e2, ⟨b1, b2, b3, b4⟩, h5⟩ => ?_⟩⟩
  subst e e2
  exact ⟨n, m, by rw [rv.o.int, rv2.o.int], ⟨b1, b2, b3, b4⟩, k _ _ H2 [] (g.trans g2) rfl itok_range h5⟩)⟩⟩
end

/-! ### for -/
def mForGo (g : TGm) (tb : TSm) (M : Em) : List PV → Env → Prop
  | [], env => M.nx env
  | x :: xs, env => g x env fun env1 => tb { M with nx := mForGo g tb M xs, ct := mForGo g tb M xs, bk := M.nx } env1
def sFor (wi : TIm) (g : TGm) (tb : TSm) : TSm := fun M env => wi env fun items => mForGo g tb M items env
section
variable {K : PySem.W.Frag} {G : Gh} {c : List Ow} {A : Nat → Option Addr} {W : Ws} {env : Env} {σ : St} {H : Hp}
/-- into a loop: what is clean now stays so -/
noncomputable def inLoop (G : Gh) (Z : Addr → Prop) (W : Ws) (H : Hp) (more : List (Nat × Addr × HO)) : Gh :=
  { G with fz := fun b => open Classical in if Z b then none else H b, Wm := W, pins := more ++ G.pins }
def lkC (c : List Ow) : Option Nat → List Ow
  | none => c
  | some j => c.set j .lk
theorem cO_lk {c : List Ow} {j i : Nat} (hj : cO c j ≠ .sh) : cO (c.set j .lk) i = if i = j then .lk else cO c i := by
  rw [cO_set]
  by_cases h : i = j
  · have hl : j < c.length := by
      cases Nat.lt_or_ge j c.length with
      | inl z => exact z
      | inr z =>
        exact absurd (by unfold cO; rw [List.getD_eq_getElem?_getD, List.getElem?_eq_none z]; rfl) hj
    rw [if_pos ⟨h, hl⟩, if_pos h]
  · rw [if_neg (fun z => h z.1), if_neg h]
theorem SR.loop (R : SR K G c A W env σ H) : SR K (inLoop G (Zt G A W) W H []) c A W env σ H := by
  refine ⟨R.len, R.W0in, fun _ h => h, R.Wnew, R.Wfix, R.src, R.keep, R.zbt, R.Asep, R.Ainj, R.Aset, R.slots, R.pins, fun b o e => ?_⟩
  have e' : (open Classical in if Zt G A W b then none else H b) = some o := e
  by_cases z : Zt G A W b
  · rw [if_pos z] at e'; cases e'
  · rw [if_neg z] at e'; exact ⟨e', z⟩
theorem SR.lock {j : Nat} {a : Addr} {o : HO} (R : SR K G c A W env σ H) (hc : cO c j = .ow) (hA : A j = some a) (e : H a = some o) : SR K (inLoop G (Zt G A W) W H [(j, a, o)]) (c.set j .lk) A W env σ H := by
  have hj : cO c j ≠ .sh := by rw [hc]; decide
  have R' := R.loop
  refine ⟨R.len, R.W0in, fun _ h => h, R.Wnew, R.Wfix, R.src, R.keep, R.zbt, fun i b e => ?_, R.Ainj, fun i p hi e => ?_, R.slots, fun q hq => ?_, R'.fz⟩
  · obtain ⟨h1, h2, h3, h4, h5⟩ := R.Asep i b e
    refine ⟨h1, h2, h3, ?_, h5⟩
    rw [cO_lk hj]
    by_cases z : i = j
    · rw [if_pos z]; decide
    · rw [if_neg z]; exact h4
  · rw [cO_lk hj] at hi
    by_cases z : i = j
    · exact ⟨a, z ▸ hA⟩
    · rw [if_neg z] at hi; exact R.Aset i p hi e
  · rcases List.mem_append.mp hq with hq | hq
    · have : q = (j, a, o) := by simpa using hq
      subst this
      exact ⟨e, (R.Asep j a hA).2.1, hA, by rw [cO_lk hj, if_pos rfl]⟩
    · obtain ⟨h1, h2, h3, h4⟩ := R.pins q hq
      refine ⟨h1, h2, h3, ?_⟩
      rw [cO_lk hj]
      by_cases z : q.1 = j
      · rw [if_pos z]
      · rw [if_neg z]; exact h4
theorem SR.unloop {Z0 : Addr → Prop} {W0 : Ws} {H0 : Hp} {more : List (Nat × Addr × HO)} (R : SR K (inLoop G Z0 W0 H0 more) c A W env σ H) (hf : ∀ b o, G.fz b = some o → H0 b = some o ∧ ¬ Z0 b) (hw : ∀ p ∈ G.Wm, p ∈ W0) : SR K G c A W env σ H := by
  refine ⟨R.len, R.W0in, fun p h => R.Wmin p (hw p h), R.Wnew, R.Wfix, R.src, R.keep, R.zbt, R.Asep, R.Ainj, R.Aset, R.slots, fun q hq => R.pins q (List.mem_append_right _ hq), fun b o e => R.fz b o ?_⟩
  obtain ⟨h1, h2⟩ := hf b o e
  show (open Classical in if Z0 b then none else H0 b) = some o
  rw [if_neg h2]; exact h1
theorem SR.unlock {j : Nat} (R : SR K G (c.set j .lk) A W env σ H) (hc : cO c j = .ow) (hp : ∀ q ∈ G.pins, cO c q.1 = .lk) : SR K G c A W env σ H := by
  have hj : cO c j ≠ .sh := by rw [hc]; decide
  have eq : ∀ i, cO (c.set j .lk) i ≠ .sh ↔ cO c i ≠ .sh := fun i => by
    rw [cO_lk hj]
    by_cases z : i = j
    · rw [if_pos z, z]; exact ⟨fun _ => hj, fun _ => by decide⟩
    · rw [if_neg z]
  refine ⟨R.len, R.W0in, R.Wmin, R.Wnew, R.Wfix, R.src, R.keep, R.zbt, fun i b e => ?_, R.Ainj, fun i p hi e => R.Aset i p ((eq i).mpr hi) e, R.slots, fun q hq => ?_, R.fz⟩
  · obtain ⟨h1, h2, h3, h4, h5⟩ := R.Asep i b e
    exact ⟨h1, h2, h3, (eq i).mp h4, h5⟩
  · obtain ⟨h1, h2, h3, _⟩ := R.pins q hq
    exact ⟨h1, h2, h3, hp q hq⟩
/-- the state in a loop sees all that was clean -/
theorem SR.ext {Z0 : Addr → Prop} {W0 : Ws} {H0 : Hp} {more : List (Nat × Addr × HO)} (R : SR K (inLoop G Z0 W0 H0 more) c A W env σ H) : Ext ⟨Z0, W0, H0⟩ ⟨Zt (inLoop G Z0 W0 H0 more) A W, W, H⟩ :=
  ⟨fun b o n e => by
    obtain ⟨h1, h2⟩ := R.fz b o (by
      show (open Classical in if Z0 b then none else H0 b) = some o
      rw [if_neg n]; exact e)
    exact ⟨h2, h1⟩, fun p hp => R.Wmin p hp⟩
end
section
variable {X : Cx} {f : Fx} {c : List Ow} {tg iter : Expr} {body : List Stmt} {wi : TIm} {g : TGm} {tb : TSm} {pos : Pos}
theorem sm_for {lk : Option Nat} {vs : List Nat} (hp : PassesOwn (model X.prog X.w) X.A X.env X.xe) (hc : X.calm = true) (hi : PIm X c lk tg iter wi) (hg : PGm X (lkC c lk) vs tg g) (hb : PSsm X { f with cL := lkC c lk } (lkC c lk) (lkC c lk) body tb) (hlk : ∀ j, lk = some j → cO c j = .ow)
    (hs : ∀ x, foldedSetIterable iter X.env x = pure x := by intro _; rfl) : PSm X f c c (.For tg iter body [] pos) (sFor wi g tb) := ⟨(ps_for hp hc hi.run hg.run hb.run hs).weak fun D σ H h => by
  obtain ⟨G, A, W, env, M, hgw, R, h, k⟩ := h
  refine ⟨G, A, W, env, _, R, h, fun J items H1 pl g1 hpl ⟨Gd, Y, wk, hit⟩ h1 => ?_⟩
  have R1 := R.grow g1
  -- into the loop
  obtain ⟨more, hmore, R2, hnx⟩ : ∃ more, (∀ q ∈ pl, ∃ j, (j, q.1, q.2) ∈ more) ∧ SR X.K (inLoop G (Zt G A W) W H1 more) (lkC c lk) A W env σ H1 ∧
      ∀ A' W' env' σ' H', SR X.K (inLoop G (Zt G A W) W H1 more) (lkC c lk) A' W' env' σ' H' → SR X.K G c A' W' env' σ' H' := by
    cases lk with
    | none =>
      have hpl' : pl = [] := hpl
      subst hpl'
      exact ⟨[], (fun q hq => by cases hq), R1.loop, fun A' W' env' σ' H' R' => R'.unloop R1.fz R1.Wmin⟩
    | some j =>
      obtain ⟨a, o, rfl, hA, ho⟩ := hpl
      have hj := hlk j rfl
      refine ⟨[(j, a, o)], (fun q hq => ⟨j, by rw [List.mem_singleton] at hq; rw [hq]; exact List.mem_singleton.mpr rfl⟩), R1.lock hj hA ho, fun A' W' env' σ' H' R' => ?_⟩
      exact (R'.unloop R1.fz R1.Wmin).unlock hj fun q hq => (R1.pins q hq).2.2.2
  have K2 : Kont X.K f.rm (lkC c lk) (lkC c lk) (inLoop G (Zt G A W) W H1 more) M ⟨fun σ H => D.nx σ H, D.rt, fun _ _ => True, fun _ _ => True⟩ :=
    ⟨fun A' W' env' σ' H' R' h' => k.nx _ _ _ _ _ (hnx _ _ _ _ _ R') h', fun p v H' r h' => k.rt p v H' r h', fun _ _ _ _ _ _ _ => trivial, fun _ _ _ _ _ _ _ => trivial⟩
  refine for_it (D := D) (g := tgM X.K (lkC c lk) vs g) (tb := tmS X.K { f with cL := lkC c lk } (lkC c lk) (lkC c lk) tb) wk (fun i σ H => ∃ A' W' env', SR X.K (inLoop G (Zt G A W) W H1 more) (lkC c lk) A' W' env' σ H ∧ mForGo g tb M (items.drop i) env') ⟨A, W, env, R2, h1⟩ (fun i σ H _ hP => ?_) (fun i x σ H H' hi hP y => ?_) (fun σ H hP => ?_)
  · obtain ⟨A', W', env', R', _⟩ := hP
    exact (hit _ W' H R'.ext R'.dz fun q hq => by
      obtain ⟨j, hj⟩ := hmore q hq
      exact (R'.pins (j, q.1, q.2) (List.mem_append_left _ hj)).1).1
  · obtain ⟨A', W', env', R', h'⟩ := hP
    have hd : items.drop i = items[i] :: items.drop (i + 1) := List.drop_eq_getElem_cons hi
    rw [hd] at h'
    obtain ⟨ga, rp⟩ := (hit _ W' H R'.ext R'.dz fun q hq => by
      obtain ⟨j, hj⟩ := hmore q hq
      exact (R'.pins (j, q.1, q.2) (List.mem_append_left _ hj)).1).2 i x H' items[i] (List.getElem?_eq_getElem hi) y
    refine ⟨_, A', W', env', items[i], _, R'.grow (ga.grow R'.src), rp, h', fun env2 σ2 R2 _ h2 => ?_⟩
    refine ⟨inLoop G (Zt G A W) W H1 more, A', W', env2, _, hgw, R2, h2, ⟨fun A3 W3 env3 σ3 H3 R3 h3 => ⟨A3, W3, env3, R3, h3⟩, fun p v H3 r3 h3 => k.rt p v H3 r3 h3, fun A3 W3 env3 σ3 H3 R3 h3 => k.nx _ _ _ _ _ (hnx _ _ _ _ _ R3) h3, fun A3 W3 env3 σ3 H3 R3 h3 => ⟨A3, W3, env3, R3, h3⟩⟩⟩
  · obtain ⟨A', W', env', R', h'⟩ := hP
    rw [List.drop_length] at h'
    exact k.nx _ _ _ _ _ (hnx _ _ _ _ _ R') h'⟩
/-- while -/
def sWhile (tc : TTm) (tb : TSm) : TSm := fun M env => ∃ Wv : Nat → Env → Prop, (∃ m, Wv m env) ∧ ∀ m env, Wv m env →
  tc env fun b => if b = true then tb { M with nx := fun env' => ∃ m', m' < m ∧ Wv m' env', ct := fun env' => ∃ m', m' < m ∧ Wv m' env', bk := M.nx } env else M.nx env
theorem sm_while {cnd : Expr} {tc : TTm} (hp : PassesOwn (model X.prog X.w) X.A X.env X.xe) (hc : PTm X c cnd tc) (hb : PSsm X { f with cL := c } c c body tb) : PSm X f c c (.While cnd body [] pos) (sWhile tc tb) := ⟨(ps_while hp hc.run hb.run).weak fun D σ H h => by
  obtain ⟨G, A, W, env, M, hgw, R, ⟨Wv, ⟨m, w0⟩, turn⟩, k⟩ := h
  refine ⟨fun m σ H => ∃ A W env, SR X.K G c A W env σ H ∧ Wv m env, ⟨m, A, W, env, R, w0⟩, ?_⟩
  rintro m σ H ⟨A, W, env, R, w⟩
  refine ⟨G, A, W, env, _, R, turn m env w, fun b H1 g h1 => ?_⟩
  cases b with
  | true =>
    rw [if_pos rfl] at h1 ⊢
    refine ⟨fun σ' H' => ∃ m' A W env, m' < m ∧ SR X.K G c A W env σ' H' ∧ Wv m' env, fun σ' H' ⟨m', A, W, env, hm, R', w'⟩ => ⟨m', hm, A, W, env, R', w'⟩, ?_⟩
    exact ⟨G, A, W, env, _, hgw, R.grow g, h1, ⟨fun A W env σ H R' ⟨m', hm, w'⟩ => ⟨m', A, W, env, hm, R', w'⟩, k.rt, fun A W env σ H R' h' => k.nx A W env σ H R' h', fun A W env σ H R' ⟨m', hm, w'⟩ => ⟨m', A, W, env, hm, R', w'⟩⟩⟩
  | false =>
    rw [if_neg Bool.false_ne_true] at h1 ⊢
    exact k.nx A W env σ H1 (R.grow g) h1⟩
end
end PM

set_option maxHeartbeats 1000000
/-! PM: comprehensions. -/
namespace PM
open PySem L2
def wipeE (env : Env) : List Nat → Env
  | [] => env
  | v :: vs => (wipeE env vs).set v none
theorem wipeE_length (env : Env) : ∀ vs : List Nat, (wipeE env vs).length = env.length
  | [] => rfl
  | v :: vs => by unfold wipeE; rw [List.length_set, wipeE_length env vs]
theorem wipeE_some {env : Env} {i : Nat} {p : PV} : ∀ {vs : List Nat}, (wipeE env vs)[i]? = some (some p) → env[i]? = some (some p) ∧ i ∉ vs
  | [], h => ⟨h, by simp⟩
  | v :: vs, h => by
    unfold wipeE at h
    rw [List.getElem?_set] at h
    by_cases e : v = i
    · rw [if_pos e] at h
      split at h <;> cases h
    · rw [if_neg e] at h
      obtain ⟨h1, h2⟩ := wipeE_some h
      refine ⟨h1, fun z => ?_⟩
      rcases List.mem_cons.mp z with z | z
      · exact e z.symm
      · exact h2 z
theorem wipe_out {σ : St} {j : Nat} : ∀ {vs : List Nat}, j ∉ vs → (wipe σ vs)[j]? = σ[j]?
  | [], _ => rfl
  | v :: vs, h => by
    unfold wipe
    rw [List.getElem?_set_ne (fun z => h (by rw [z]; exact List.mem_cons_self)), wipe_out (fun z => h (List.mem_cons_of_mem _ z))]
theorem wipe_in {σ : St} {j : Nat} : ∀ {vs : List Nat}, j ∈ vs → j < σ.length → (wipe σ vs)[j]? = some none
  | [], h, _ => by cases h
  | v :: vs, h, hl => by
    unfold wipe
    by_cases e : v = j
    · subst e
      rw [List.getElem?_set_self (by rw [wipe_length]; exact hl)]
    · rw [List.getElem?_set_ne e]
      rcases List.mem_cons.mp h with z | z
      · exact absurd z.symm e
      · exact wipe_in z hl
theorem Touch.wipe {vs ws : List Nat} {σ σ' : St} (t : Touch ws σ σ') (h : ∀ j ∈ ws, j ∈ vs) : wipe σ' vs = wipe σ vs := by
  apply List.ext_getElem?
  intro j
  by_cases hj : j ∈ vs
  · by_cases hl : j < σ.length
    · rw [wipe_in hj hl, wipe_in hj (by rw [t.1]; exact hl)]
    · rw [List.getElem?_eq_none (by rw [wipe_length, t.1]; omega), List.getElem?_eq_none (by rw [wipe_length]; omega)]
  · rw [wipe_out hj, wipe_out hj]
    exact t.2 j fun z => hj (h j z)
theorem wipe_wipe {σ : St} {vs : List Nat} : wipe (wipe σ vs) vs = wipe σ vs := by
  apply List.ext_getElem?
  intro j
  by_cases hj : j ∈ vs
  · by_cases hl : j < σ.length
    · rw [wipe_in hj (by rw [wipe_length]; exact hl), wipe_in hj hl]
    · rw [List.getElem?_eq_none (by rw [wipe_length, wipe_length]; omega), List.getElem?_eq_none (by rw [wipe_length]; omega)]
  · rw [wipe_out hj]
section
variable {K : PySem.W.Frag} {G : Gh} {c : List Ow} {A : Nat → Option Addr} {W : Ws} {env : Env} {σ : St} {H : Hp}
theorem SR.wipe (vs : List Nat) (R : SR K G c A W env σ H) : SR K G c A W (wipeE env vs) (L2.wipe σ vs) H := by
  refine ⟨by rw [wipeE_length, wipe_length]; exact R.len, R.W0in, R.Wmin, R.Wnew, R.Wfix, R.src, R.keep, R.zbt, R.Asep, R.Ainj, fun i p hc e => R.Aset i p hc (wipeE_some e).1, fun i p e => ?_, R.pins, R.fz⟩
  obtain ⟨e1, n⟩ := wipeE_some e
  obtain ⟨v, h1, h2⟩ := R.slots i p e1
  exact ⟨v, by rw [wipe_out n]; exact h1, h2⟩
/-- one more place to be avoided -/
def Gh.and (G : Gh) (D : Addr) : Gh := { G with zb := fun b => G.zb b ∨ b = D }
theorem zt_and {D : Addr} {b : Addr} : Zt (G.and D) A W b ↔ (Zt G A W b ∨ b = D) := by
  constructor
  · rintro ((h | h) | h | h)
    · exact .inl (.inl h)
    · exact .inr h
    · exact .inl (.inr (.inl h))
    · exact .inl (.inr (.inr h))
  · rintro ((h | h | h) | h)
    · exact .inl (.inl h)
    · exact .inr (.inl h)
    · exact .inr (.inr h)
    · exact .inl (.inr h)
theorem SR.and {D : Addr} {o : HO} (R : SR K G c A W env σ H) (n : H D = none) : SR K (G.and D) c A W env σ (upd H D o) := by
  have g : Grow W H (upd H D o) := Grow.new R.src n
  have R' := R.grow g
  have nt : ∀ b u, H b = some u → b ≠ D := fun b u e z => by rw [z, n] at e; cases e
  have x : Ext ⟨Zt G A W, W, H⟩ ⟨Zt (G.and D) A W, W, upd H D o⟩ := ⟨fun b u hz e => ⟨fun z => (zt_and.mp z).elim hz (nt b u e), by show upd H D o b = some u; rw [upd_ne (nt b u e)]; exact e⟩, fun _ h => h⟩
  refine ⟨R'.len, R'.W0in, R'.Wmin, R'.Wnew, R'.Wfix, R'.src, R'.keep, fun b hb => ?_, fun i a e => ?_, R'.Ainj, R'.Aset, fun i p e => ?_, R'.pins, fun b u e => ?_⟩
  · rcases hb with hb | hb
    · exact R'.zbt b hb
    · rw [hb]; exact ⟨o, upd_same⟩
  · obtain ⟨h1, h2, h3, h4, h5⟩ := R'.Asep i a e
    obtain ⟨_, _, _, _, u, hu⟩ := R.Asep i a e
    exact ⟨h1, h2, fun z => z.elim h3 (nt a u hu), h4, h5⟩
  · obtain ⟨v, h1, h2⟩ := R.slots i p e
    refine ⟨v, h1, ?_⟩
    cases hA : A i with
    | none => rw [hA] at h2; exact Rp.ext x h2
    | some a =>
      rw [hA] at h2
      obtain ⟨_, _, _, _, u, hu⟩ := R.Asep i a hA
      exact ⟨h2.1, h2.2.ext x (upd_ne (nt a u hu))⟩
  · obtain ⟨h1, h2⟩ := R.fz b u e
    exact ⟨by rw [upd_ne (nt b u h1)]; exact h1, fun z => (zt_and.mp z).elim h2 (nt b u h1)⟩
theorem SR.upZ {D : Addr} {o : HO} (R : SR K G c A W env σ H) (hz : G.zb D) (h0 : G.H0 D = none) (nw : ¬ inW W D) : SR K G c A W env σ (upd H D o) := by
  have za : Zt G A W D := .inl hz
  have x : Ext ⟨Zt G A W, W, H⟩ ⟨Zt G A W, W, upd H D o⟩ := ⟨fun b w hn e => ⟨hn, by show upd H D o b = some w; rw [upd_ne (fun z => hn (by rw [z]; exact za))]; exact e⟩, fun _ h => h⟩
  have tr : ∀ b, (∃ w, H b = some w) → ∃ w, upd H D o b = some w := fun b ⟨w, e⟩ => by
    by_cases z : b = D
    · subst z; exact ⟨o, upd_same⟩
    · exact ⟨w, by rw [upd_ne z]; exact e⟩
  have neA : ∀ i a, A i = some a → a ≠ D := fun i a e z => (R.Asep i a e).2.2.1 (by rw [z]; exact hz)
  refine ⟨R.len, R.W0in, R.Wmin, R.Wnew, R.Wfix, fun q hq => ?_, fun b w hw e => ?_, fun b hb => tr b (R.zbt b hb), fun i a e => ?_, R.Ainj, R.Aset, fun i p e => ?_, fun q hq => ?_, fun b w e => ?_⟩
  · exact SA.at (upd_ne (fun z => nw ⟨q, hq, .inl z.symm⟩)) (upd_ne (fun z => nw ⟨q, hq, .inr z.symm⟩)) (R.src q hq)
  · rw [upd_ne (fun z => by rw [z, h0] at e; cases e)]; exact R.keep b w hw e
  · obtain ⟨h1, h2, h3, h4, h5⟩ := R.Asep i a e
    exact ⟨h1, h2, h3, h4, tr a h5⟩
  · obtain ⟨v, h1, h2⟩ := R.slots i p e
    refine ⟨v, h1, ?_⟩
    cases hA : A i with
    | none => rw [hA] at h2; exact Rp.ext x h2
    | some a => rw [hA] at h2; exact ⟨h2.1, h2.2.ext x (upd_ne (neA i a hA))⟩
  · obtain ⟨h1, h2, h3, h4⟩ := R.pins q hq
    exact ⟨by rw [upd_ne (neA q.1 _ h3)]; exact h1, h2, h3, h4⟩
  · obtain ⟨h1, h2⟩ := R.fz b w e
    exact ⟨by rw [upd_ne (fun z => h2 (by rw [z]; exact za))]; exact h1, h2⟩
end
structure PTsm (X : Cx) (c : List Ow) (es : List Expr) (t : TTm) : Prop where
  run : PTs X es (tmT X.K c t)
def mYes : TTm := fun _ P => P true
theorem tsm_nil {X : Cx} {c : List Ow} : PTsm X c [] mYes := ⟨⟨fun pins s σ H Q I h => pts_nil.run pins s σ H Q I (by
  obtain ⟨G, A, W, env, P, R, h, k⟩ := h
  exact k true H (Grow.refl R.src) h)⟩⟩
theorem tsm_one {X : Cx} {c : List Ow} {e : Expr} {t : TTm} (h : PTm X c e t) : PTsm X c [e] t := ⟨pts_one h.run⟩
/-- the turns of a comprehension -/
def mCompGo (g : TGm) (tt : TTm) (te : TEm) (env : Env) (P : PV → Prop) : List PV → List PV → Prop
  | [], acc => P (.lst acc)
  | x :: xs, acc => g x env fun env1 => tt env1 fun b => if b = true then te env1 fun y => acc.length < sizeLine ∧ mCompGo g tt te env P xs (acc ++ [y]) else mCompGo g tt te env P xs acc
def mLc (wi : TIm) (vs : List Nat) (g : TGm) (tt : TTm) (te : TEm) : TEm := fun env P => wi env fun items => mCompGo g tt te (wipeE env vs) P items []
def tiM (K : PySem.W.Frag) (c : List Ow) (lk : Option Nat) (t : TIm) : TI := fun σ H R => ∃ G A W env P, SR K G c A W env σ H ∧ t env P ∧ ∀ J items H' pl, Grow W H H' → (match lk with | none => pl = [] | some j => ∃ a o, pl = [(a, o)] ∧ A j = some a ∧ H' a = some o) → ItOk K (Zt G A W) W H' pl J items → P items → R J H'
theorem tm_lc {K : PySem.W.Frag} {c : List Ow} {lk : Option Nat} {wi : TIm} {vs ws : List Nat} {g : TGm} {tt : TTm} {te : TEm} (hw : ∀ j ∈ ws, j ∈ vs) (σ : St) (H : Hp) (Q : VK) (h : tmE K c .fr (mLc wi vs g tt te) σ H Q) :
    tLc (tiM K c lk wi) (tgM K c ws g) (tmT K c tt) (tmE K c .cl te) vs σ H Q := by
  obtain ⟨G, A, W, env, P, R, h, k⟩ := h
  refine ⟨G, A, W, env, _, R, h, fun J items H1 pl g1 hpl ⟨Gd, Y, wk, hit⟩ h1 D nD => ?_⟩
  have R1 := R.grow g1
  have nW : ¬ inW W D := fun w => by obtain ⟨o, e⟩ := inW_some R1.src w; rw [nD] at e; cases e
  have plD : ∀ q ∈ pl, H1 q.1 = some q.2 ∧ ¬ inW W q.1 := fun q hq => by
    cases lk with
    | none => have e : pl = [] := hpl; rw [e] at hq; cases hq
    | some j =>
      obtain ⟨a, o, e, hA, ho⟩ := hpl
      rw [e, List.mem_singleton] at hq
      rw [hq]
      exact ⟨ho, (R1.Asep j a hA).2.1⟩
  have RD : SR K (G.and D) c A W (wipeE env vs) (wipe σ vs) (upd H1 D (.lst [])) := (R1.wipe vs).and nD
  refine lc_it (g := tgM K c ws g) (tt := tmT K c tt) (te := tmE K c .cl te) wk
    (fun i H2 => ∃ acc wacc, SR K (G.and D) c A W (wipeE env vs) (wipe σ vs) H2 ∧ Grow W H1 H2 ∧ H2 D = some (.lst wacc) ∧ Rps K ⟨Zt (G.and D) A W, W, H2⟩ acc wacc ∧ mCompGo g tt te (wipeE env vs) P (items.drop i) acc)
    ⟨[], [], RD, Grow.new R1.src nD, upd_same, Rps.nil, h1⟩ (fun i H2 _ hP => ?_) (fun i x H2 H3 hi hP y => ?_) (fun H2 hP => ?_)
  · obtain ⟨acc, wacc, R2, g2, hD, ra, hq⟩ := hP
    refine (hit _ W H2 ⟨fun b o hz e => ?_, fun _ h => h⟩ R2.dz fun q hq => g2.keep _ _ (plD q hq).2 (plD q hq).1).1
    exact ⟨fun z => (zt_and.mp z).elim hz (fun z => by have e' : H1 b = some o := e; rw [z, nD] at e'; cases e'), g2.keep b o (fun w => hz (Zt.w w)) e⟩
  · obtain ⟨acc, wacc, R2, g2, hD, ra, hq⟩ := hP
    have x12 : Ext ⟨Zt G A W, W, H1⟩ ⟨Zt (G.and D) A W, W, H2⟩ := ⟨fun b o hz e => ⟨fun z => (zt_and.mp z).elim hz (fun z => by have e' : H1 b = some o := e; rw [z, nD] at e'; cases e'), g2.keep b o (fun w => hz (Zt.w w)) e⟩, fun _ h => h⟩
    have hd : items.drop i = items[i] :: items.drop (i + 1) := List.drop_eq_getElem_cons hi
    rw [hd] at hq
    obtain ⟨ga, rp⟩ := (hit _ W H2 x12 R2.dz fun q hq => g2.keep _ _ (plD q hq).2 (plD q hq).1).2 i x H3 items[i] (List.getElem?_eq_getElem hi) y
    have g23 := ga.grow R2.src
    have R3 := R2.grow g23
    refine ⟨G.and D, A, W, wipeE env vs, items[i], _, R3, rp, hq, fun env1 σ1 R4 t4 h4 => ?_⟩
    refine ⟨(t4.wipe hw).trans wipe_wipe, G.and D, A, W, env1, _, R4, h4, fun b H4 g4 h5 => ?_⟩
    cases b with
    | true =>
      rw [if_pos rfl] at h5 ⊢
      refine ⟨G.and D, A, W, env1, _, R4.grow g4, h5, fun p v H5 g5 rv ⟨hl, h6⟩ => ?_⟩
      have g25 : Grow W H2 H5 := (g23.trans g4).trans g5
      have hD5 : H5 D = some (.lst wacc) := g25.keep D _ nW hD
      have R5 := R2.grow g25
      have ra5 : Rps K ⟨Zt (G.and D) A W, W, H5⟩ acc wacc := Rps.ext (g25.ext R2.sz) ra
      have zD : Zt (G.and D) A W D := zt_and.mpr (.inr rfl)
      have xD : ∀ o, Ext ⟨Zt (G.and D) A W, W, H5⟩ ⟨Zt (G.and D) A W, W, upd H5 D o⟩ := fun o => ⟨fun b w hn e => ⟨hn, by show upd H5 D o b = some w; rw [upd_ne (fun z => hn (by rw [z]; exact zD))]; exact e⟩, fun _ h => h⟩
      refine ⟨wacc, hD5, by rw [← ra.len]; exact hl, acc ++ [p], wacc ++ [v], R5.upZ (.inr rfl) (R1.h0 nD) nW, ?_, upd_same, Rps.ext (xD _) (ra5.append (Rps.cons rv.c Rps.nil)), h6⟩
      have g15 := g2.trans g25
      exact ⟨fun b o hw e => by rw [upd_ne (fun z => by rw [z, nD] at e; cases e)]; exact g15.keep b o hw e, (R5.upZ (o := .lst (wacc ++ [v])) (.inr rfl) (R1.h0 nD) nW).src⟩
    | false =>
      rw [if_neg Bool.false_ne_true] at h5 ⊢
      have g24 : Grow W H2 H4 := g23.trans g4
      exact ⟨acc, wacc, R2.grow g24, g2.trans g24, g24.keep D _ nW hD, Rps.ext (g24.ext R2.sz) ra, h5⟩
  · obtain ⟨acc, wacc, R2, g2, hD, ra, hq⟩ := hP
    rw [List.drop_length] at hq
    exact k (.lst acc) (.ref D) H2 (g1.trans g2) ⟨D, rfl, g1.free nD, wacc, hD, Rps.ext (ext_less fun b z => zt_and.mpr z) ra⟩ hq
section
variable {X : Cx} {f : Fx} {c : List Ow} {lk : Option Nat} {elt tg iter : Expr} {ifs : List Expr} {scope : Scope} {own : List (Str × Nat)} {pos spos : Pos} {wi : TIm} {ws : List Nat} {g : TGm} {tt : TTm} {te : TEm}
theorem em_lc (hc : X.calm = true) (hN : X.N.Nodup) (hi : PIm X c lk tg iter wi) (ok : BlkOk X.N X.env.scope scope own)
    (hg : ∀ (s : Shared) (H : Hp) (C : Addr) (cl : List (Str × Addr)) (fp : List Addr), PGm (X.blk s H scope (compEnvC scope cl C X.env) fp) c ws tg g) (ht : ∀ (s : Shared) (H : Hp) (C : Addr) (cl : List (Str × Addr)) (fp : List Addr), PTsm (X.blk s H scope (compEnvC scope cl C X.env) fp) c ifs tt)
    (he : ∀ (s : Shared) (H : Hp) (C : Addr) (cl : List (Str × Addr)) (fp : List Addr), PEm (X.blk s H scope (compEnvC scope cl C X.env) fp) c .cl elt te) (hw : ∀ j ∈ ws, j ∈ own.map (·.2) := by decide) (hs : ∀ x, foldedSetIterable iter X.env x = pure x := by intro _; rfl) :
    PEm X c .fr (.ListComp elt [⟨tg, iter, ifs, 0⟩] scope pos) (mLc wi (own.map (·.2)) g tt te) :=
  ⟨(pe_lc hc hN hi.run ok (fun s H C cl fp => (hg s H C cl fp).run) (fun s H C cl fp => (ht s H C cl fp).run) (fun s H C cl fp => (he s H C cl fp).run) hs).weak fun σ H Q h => tm_lc hw σ H Q h⟩
theorem sm_setLc (i : Nat) {y : Str} {py : Pos} (hc : X.calm = true) (hN : X.N.Nodup) (hi : PIm X c lk tg iter wi) (ok : BlkOk X.N X.env.scope scope own)
    (hg : ∀ (s : Shared) (H : Hp) (C : Addr) (cl : List (Str × Addr)) (fp : List Addr), PGm (X.blk s H scope (compEnvC scope cl C X.env) fp) c ws tg g) (ht : ∀ (s : Shared) (H : Hp) (C : Addr) (cl : List (Str × Addr)) (fp : List Addr), PTsm (X.blk s H scope (compEnvC scope cl C X.env) fp) c ifs tt)
    (he : ∀ (s : Shared) (H : Hp) (C : Addr) (cl : List (Str × Addr)) (fp : List Addr), PEm (X.blk s H scope (compEnvC scope cl C X.env) fp) c .cl elt te)
    (hsw : swapsWith (.ListComp elt [⟨tg, iter, ifs, 0⟩] scope pos) (some (.Name y py)) spos.line X.env = pure true) (hy : X.N[i]? = some y := by rfl) (hyl : X.env.scope.names.lookup y = some .local := by rfl) (hlen : i < c.length := by decide) (hl : cO c i ≠ .lk := by decide) (hw : ∀ j ∈ ws, j ∈ own.map (·.2) := by decide) (hs : ∀ x, foldedSetIterable iter X.env x = pure x := by intro _; rfl) :
    PSm X f c (c.set i .ow) (.Assign [.Name y py] (.ListComp elt [⟨tg, iter, ifs, 0⟩] scope pos) spos) (sSet i (mLc wi (own.map (·.2)) g tt te)) :=
  ⟨(ps_setLc hc hN hy hyl hsw hi.run ok (fun s H C cl fp => (hg s H C cl fp).run) (fun s H C cl fp => (ht s H C cl fp).run) (fun s H C cl fp => (he s H C cl fp).run) hs).weak fun D σ H h => by
    obtain ⟨G, A, W, env, M, hgw, R, h, k⟩ := h
    refine tm_lc hw σ H _ ⟨G, A, W, env, _, R, h, fun p v H1 g r h1 => ?_⟩
    obtain ⟨a, rfl, n, o⟩ := r
    exact k.nx _ W _ _ H1 (R.set_ow hlen hl g n o) h1⟩
end
end PM

set_option maxHeartbeats 1000000
/-! PM: defs and their calls. -/
namespace PM
open PySem L2
abbrev Spec := List PV → (PV → Prop) → Prop
/-- what a def promises -/
def spM (K : PySem.W.Frag) (rm : Md) (spec : Spec) : Sp := fun vs H Q _ => ∃ (zb : Addr → Prop) (W : Ws) (ps : List PV) (P : PV → Prop), (∀ b, zb b → ∃ o, H b = some o) ∧ (∀ q ∈ W, SA H q) ∧ Rps K ⟨fun b => zb b ∨ inW W b, W, H⟩ ps vs ∧ spec ps P ∧
  ∀ p v H', Grow W H H' → VK1 K rm (fun b => zb b ∨ inW W b) W H H' p v → P p → Q v H'
def mCall (spec : Spec) (ds : List PV) (t : TAm) : TEm := fun env P => t env fun ps => spec (ps ++ ds) P
theorem VK1.less {K : PySem.W.Frag} {Z Z' : Addr → Prop} {W : Ws} {H H' : Hp} {p : PV} {v : V} {md : Md} (hm : md ≠ .ow) (h : ∀ b, Z' b → Z b) (r : VK1 K md Z W H H' p v) : VK1 K md Z' W H H' p v := by
  cases md with
  | cl => exact VK1.ofRp (Rp.ext (ext_less h) r.c)
  | ow => exact absurd rfl hm
  | fr =>
    obtain ⟨a, e, n, o⟩ := r
    exact ⟨a, e, n, o.less fun b z => z.elim (fun z => .inl (h b z)) .inr⟩
/-- defaults: constants -/
def Cst (K : PySem.W.Frag) (ds : List PV) (vs : List V) : Prop := ∀ S, Rps K S ds vs
section
variable {X : Cx} {c : List Ow} {k : Nat} {fa : Addr} {fd : FuncData} {pns : List Str} {spec : Spec} {rm : Md} {x : Str} {p pos : Pos} {e : Expr} {es : List Expr} {t : TAm} {ds : List PV} {dvs : List V} {dus : List Value}
theorem tm_call {K : PySem.W.Frag} (hm : rm ≠ .ow) (hds : Cst K ds dvs) (σ : St) (H : Hp) (Q : VK) (h : tmE K c rm (mCall spec ds t) σ H Q) : tCall (spM K rm spec) dvs E0 (tmA K c .cl t) σ H Q := by
  obtain ⟨G, A, W, env, P, R, h, k⟩ := h
  refine ⟨G, A, W, env, _, R, h, fun ps vs H1 g1 rs h1 => ?_⟩
  have R1 := R.grow g1
  have l1 : ∀ b, (Zt G A W b ∨ inW W b) → Zt G A W b := fun b z => z.elim id Zt.w
  refine ⟨Zt G A W, W, ps ++ ds, P, R1.dz, R1.src, (Rps.ext (ext_less l1) rs.rps).append (hds _), h1, fun p v H' g r hp => k p v H' (g1.trans g) ?_ hp⟩
  exact (r.less hm fun b z => .inl z).back g1
theorem em_call (F : FnOk X.prog X.w X.K X.mg X.base CX0 k fa fd pns (spM X.K rm spec)) (hr : Room k X.A) (hm : X.mg x = some (.ref fa)) (hk : PySem.W.keepIn X.K (.ref fa) = true) (hb : Binds X.K fd pns dus) (hd : Vals dvs dus) (hds : Cst X.K ds dvs)
    (ha : PAm X c .cl (e :: es) t) (hrm : rm ≠ .ow := by decide) (hg : Gl X x := by rfl) (hdb : (x == ("__debug__" : Str)) = false := by decide) (he : starEach (e :: es) X.env = (false, eval e X.env) :: starEach es X.env := by rfl) (hpl : (backTo pos (starEach es X.env)).any (·.1) = false := by rfl) :
    PEm X c rm (.Call (.Name x p) (e :: es) [] pos) (mCall spec ds t) := ⟨(pe_call F hr hg hm hk hb hd pass0 ha.run hdb he hpl).weak fun σ H Q h => tm_call hrm hds σ H Q h⟩
/-- a def's own lists handed on for a look: what comes back is no list -/
def mCallO (spec : Spec) (ds : List PV) (t : TAm) : TEm := fun env P => t env fun ps => spec (ps ++ ds) fun r => flatP r = true ∧ P r
theorem VKs.look {K : PySem.W.Frag} {Z : Addr → Prop} {W : Ws} {H : Hp} (hz : ∀ b, inW W b → Z b) : ∀ {ps : List PV} {vs : List V}, VKs K .ow Z W H ps vs → Rps K ⟨fun b => (fun _ => False) b ∨ inW W b, W, H⟩ ps vs
  | _, _, .nil => Rps.nil
  | p :: _, v :: _, .cons h t => Rps.cons (by
    have x : Ext ⟨Z, W, H⟩ ⟨fun b => (fun _ => False) b ∨ inW W b, W, H⟩ := ext_less fun b z => z.elim False.elim (hz b)
    have h' : RpO K ⟨Z, W, H⟩ p v := h
    cases p with
    | lst ps =>
      obtain ⟨a, ws, e, h1, h2⟩ := h'
      unfold Rp
      exact ⟨a, ws, e, ⟨fun z => z.elim False.elim h1.1, h1.2⟩, Rps.ext x h2⟩
    | dic ks ps =>
      obtain ⟨a, ws, e, h0, h1, l, h2⟩ := h'
      unfold Rp
      exact ⟨a, ws, e, fun z => z.elim False.elim h0, h1, l, Rps.ext x h2⟩
    | non => exact Rp.ext x h'
    | bl _ => exact Rp.ext x h'
    | int _ => exact Rp.ext x h'
    | str _ => exact Rp.ext x h'
    | tup _ => exact Rp.ext x h'
    | obj _ _ _ _ => exact Rp.ext x h'
    | ref _ => exact Rp.ext x h'
    | src => exact Rp.ext x h'
    | iset _ => exact Rp.ext x h'
    | pdic ks =>
      obtain ⟨a, L, e, h0, h1, l, h2⟩ := h'
      unfold Rp
      exact ⟨a, L, e, fun z => z.elim False.elim h0, h1, l, fun p hp => (h2 p hp).ext x⟩
    | scr _ => exact Rp.ext x h') (VKs.look hz t)
theorem Rp.flat {K : PySem.W.Frag} {S S' : Wd} {p : PV} {v : V} (f : flatP p = true) (h : Rp K S p v) : Rp K S' p v := by
  cases p with
  | non => unfold Rp at h ⊢; exact h
  | bl _ => unfold Rp at h ⊢; exact h
  | int _ => unfold Rp at h ⊢; exact h
  | str _ => unfold Rp at h ⊢; exact h
  | _ => exact absurd f (by simp [flatP])
theorem em_callO (F : FnOk X.prog X.w X.K X.mg X.base CX0 k fa fd pns (spM X.K .cl spec)) (hr : Room k X.A) (hm : X.mg x = some (.ref fa)) (hk : PySem.W.keepIn X.K (.ref fa) = true) (hb : Binds X.K fd pns dus) (hd : Vals dvs dus) (hds : Cst X.K ds dvs)
    (ha : PAm X c .ow (e :: es) t) (hg : Gl X x := by rfl) (hdb : (x == ("__debug__" : Str)) = false := by decide) (he : starEach (e :: es) X.env = (false, eval e X.env) :: starEach es X.env := by rfl) (hpl : (backTo pos (starEach es X.env)).any (·.1) = false := by rfl) :
    PEm X c .cl (.Call (.Name x p) (e :: es) [] pos) (mCallO spec ds t) := ⟨(pe_call F hr hg hm hk hb hd pass0 ha.run hdb he hpl).weak fun σ H Q h => by
  obtain ⟨G, A, W, env, P, R, h, k⟩ := h
  refine ⟨G, A, W, env, _, R, h, fun ps vs H1 g1 rs h1 => ?_⟩
  refine ⟨fun _ => False, W, ps ++ ds, _, fun b z => z.elim, (R.grow g1).src, (VKs.look R.sz rs).append (hds _), h1, fun p v H' g r ⟨hf, hp⟩ => k p v H' (g1.trans g) (VK1.ofRp (Rp.flat hf r.c)) hp⟩⟩
end
/-- where a def begins -/
def startE (n : Nat) (args : List PV) : Env := args.map some ++ List.replicate (n - args.length) none
def shs (n : Nat) : List Ow := List.replicate n .sh
theorem cO_shs {n i : Nat} : cO (shs n) i = .sh := by
  unfold cO shs
  rw [List.getD_eq_getElem?_getD, List.getElem?_replicate]
  split <;> rfl
theorem SR.start {K : PySem.W.Frag} {N : List Str} {zb : Addr → Prop} {W : Ws} {ps : List PV} {vs : List V} {H : Hp} {gw : Bool} (hz : ∀ b, zb b → ∃ o, H b = some o) (hs : ∀ q ∈ W, SA H q) (r : Rps K ⟨fun b => zb b ∨ inW W b, W, H⟩ ps vs) :
    SR K ⟨gw, zb, W, H, fun _ => none, W, []⟩ (shs N.length) (fun _ => none) W (startE N.length ps) (L2.start N vs) H := by
  have less : ∀ b, Zt ⟨gw, zb, W, H, fun _ => none, W, []⟩ (fun _ => none) W b → (zb b ∨ inW W b) := fun b z => by
    rcases z with z | z | ⟨i, z⟩
    · exact .inl z
    · exact .inr z
    · cases z
  refine ⟨?_, fun _ h => h, fun _ h => h, fun _ h => .inl h, fun _ => rfl, hs, fun _ _ _ e => e, hz, fun i a e => (by cases e), fun i j a e => (by cases e), fun i p hc => absurd cO_shs hc, fun i p e => ?_, fun q hq => (by cases hq), fun b o e => (by cases e)⟩
  · unfold startE L2.start
    rw [List.length_append, List.length_append, List.length_map, List.length_map, List.length_replicate, List.length_replicate, r.len]
  · have hi : i < ps.length := by
      unfold startE at e
      cases Nat.lt_or_ge i ps.length with
      | inl h => exact h
      | inr h =>
        rw [List.getElem?_append_right (by rw [List.length_map]; exact h), List.getElem?_replicate] at e
        split at e <;> cases e
    have hp : ps[i]? = some p := by
      unfold startE at e
      rw [List.getElem?_append_left (by rw [List.length_map]; exact hi), List.getElem?_map] at e
      cases q : ps[i]? with
      | none => rw [q] at e; cases e
      | some u => rw [q] at e; cases e; rfl
    obtain ⟨v, hv, rv⟩ := r.get hp
    refine ⟨v, ?_, Rp.ext (ext_less less) rv⟩
    unfold L2.start
    rw [List.getElem?_append_left (by rw [List.length_map, ← r.len]; exact hi), List.getElem?_map, hv]
    rfl
section
variable {P : Program} {w : World} {K : PySem.W.Frag} {mg : Str → Option Value} {base : Heap}
/-- the context of a def's body -/
abbrev bodyX (P : Program) (w : World) (K : PySem.W.Frag) (mg : Str → Option Value) (base : Heap) (N : List Str) (qual : Str) (st : Stmt) (f : Addr) (cdv : Value) (A : Around) (outer : List PySem.Env) (s : Shared) (H : Hp) (E : XK) : Cx :=
  (cxOf CX0 P w K mg base N qual (defScope st) f cdv A outer s H E).nox
def nxOf (rm : Md) (Q : PV → Prop) : Prop := match rm with
  | .cl => Q .non
  | _ => False
/-- THE RULE for a def -/
theorem fn_m {x qual : Str} {st : Stmt} {f : Addr} {fd : FuncData} {N pns : List Str} {k : Nat} {rm : Md} {spec : Spec} {t : TSm} {dvs : List V} (F : FunD K x qual (defArgs st) (defBody st) (defScope st) dvs [] f fd) (S : FnScope N pns (defScope st))
    (hlen : ∀ ps Q, spec ps Q → ps.length = pns.length)
    (hbody : ∀ (cdv : Value) (A : Around) (outer : List PySem.Env) (s : Shared) (H : Hp) (E : XK), Room k (A.deeper (PyProof.Rows.envOfC qual (defScope st) s.heap.objs.size f cdv)) → ∃ c', PSsm (bodyX P w K mg base N qual st f cdv A outer s H E) ⟨rm, false, []⟩ (shs N.length) c' (defBody st) t)
    (hok : ∀ ps Q, spec ps Q → t { nx := fun _ => nxOf rm Q, rt := Q } (startE N.length ps)) : FnOk P w K mg base CX0 (k + 1) f fd pns (spM K rm spec) := by
  refine F.ok S (fun vs H Q E h => ?_) (fun cdv A outer s H vs Q E hr h => ?_)
  · obtain ⟨zb, W, ps, P, _, _, r, hs, _⟩ := h
    rw [← r.len]; exact hlen ps P hs
  · obtain ⟨zb, W, ps, P, hz, hsrc, r, hs, kk⟩ := h
    have hret : ∀ p v H', RetOk K rm ⟨false, zb, W, H, fun _ => none, W, []⟩ p v H' → P p → Q v H' := fun p v H' hr hp => by
      obtain ⟨W', h1, h2, h3, h4, h5⟩ := hr
      have e : W' = W := h2 rfl
      subst e
      exact kk p v H' ⟨fun b o n e => h4 b o n e, h3⟩ h5 hp
    have hsr : SR K ⟨false, zb, W, H, fun _ => none, W, []⟩ (shs N.length) (fun _ => none) W (startE N.length ps) (L2.start N vs) H := SR.start hz hsrc r
    obtain ⟨c', hb⟩ := hbody cdv A outer s H E hr
    refine ⟨_, hb.run.nox, ⟨false, zb, W, H, fun _ => none, W, []⟩, fun _ => none, W, startE N.length ps, { nx := fun _ => nxOf rm P, rt := P }, rfl, hsr, hok ps P hs, ⟨fun A' W' env' σ' H' R' hp => ?_, hret, fun _ _ _ _ _ _ z => z.elim, fun _ _ _ _ _ _ z => z.elim⟩⟩
    cases rm with
    | cl => exact hret .non .non H' (R'.ret (Grow.refl R'.src) (by decide) (VK1.ofRp Rp.non')) hp
    | ow => exact hp.elim
    | fr => exact hp.elim
end
end PM

set_option maxHeartbeats 1000000
/-! PM: more rules of the layer beneath: t[::-1], enumerate(t). -/
namespace HT
open PySem PySem.Spec PyProof.Rows
section
variable {prog : Program} {w : World} {A : Around} {E : Value → Shared → Prop} {s : Shared}
theorem sliceApplied_rev {sl : Addr} {n : Nat} {t : Tok} {Q : Int × Int × Nat → Shared → Prop} (hs : s.heap.IsSliceOf sl .none .none (.int (-1) t))
    (h : Q ((n : Int) - 1, -1, n) s) : wpAny (model prog w) A (Builtin.Slice.sliceApplied (.ref sl) (pure (n : Int))) Q E s := by
  obtain ⟨os, hos, hcs, hds⟩ := id hs
  unfold Builtin.Slice.sliceApplied Builtin.Slice.sliceFields
  refine wpAny_bind (wpAny_bind (wpAny_field hos hds (x := .none) rfl (wpAny_bind (wpAny_field hos hds (x := .none) rfl (wpAny_bind (wpAny_field hos hds (x := .int (-1) t) rfl (wpAny_pure ?_)))))))
  refine wpAny_bind (slicePart_int ?_)
  show wpAny _ _ (if ((-1 : Int) == 0) = true then _ else _) _ _ s
  rw [if_neg (by decide)]
  refine wpAny_bind (slicePart_none (wpAny_bind (slicePart_none (wpAny_bind (wpAny_pure ?_)))))
  show wpAny _ _ (match Builtin.Slice.sliceAdjust none none (-1) (n : Int) with | (lo, hi) => pure (lo, (-1 : Int), Builtin.Slice.slicePlaces lo hi (-1))) _ _ s
  have e1 : Builtin.Slice.sliceAdjust none none (-1) (n : Int) = ((n : Int) - 1, -1) := by
    unfold Builtin.Slice.sliceAdjust
    simp
  rw [e1]
  show wpAny _ _ (pure ((n : Int) - 1, (-1 : Int), Builtin.Slice.slicePlaces ((n : Int) - 1) (-1) (-1))) _ _ s
  have e2 : Builtin.Slice.slicePlaces ((n : Int) - 1) (-1) (-1) = n := by
    unfold Builtin.Slice.slicePlaces
    have h1 : ¬ ((-1 : Int) > 0) := by omega
    simp only [h1, if_false]
    have h3 : (- -1 : Int) = 1 := by decide
    rw [h3, Int.ediv_one]
    split <;> omega
  rw [e2]
  exact wpAny_pure h
theorem filterMap_same {α β : Type} {f g : α → Option β} : ∀ {l : List α}, (∀ a ∈ l, f a = g a) → l.filterMap f = l.filterMap g
  | [], _ => rfl
  | a :: l, h => by
    rw [List.filterMap_cons, List.filterMap_cons, h a List.mem_cons_self, filterMap_same fun b hb => h b (List.mem_cons_of_mem _ hb)]
theorem pick_rev (xs : Array Value) : ((List.range xs.size).filterMap fun (m : Nat) => xs[(((xs.size : Int) - 1) + (m : Int) * (-1)).toNat]?).toArray = xs.toList.reverse.toArray := by
  have e : ∀ m ∈ List.range xs.size, xs[(((xs.size : Int) - 1) + (m : Int) * (-1)).toNat]? = xs[xs.size - 1 - m]? := fun m hm => by
    have := List.mem_range.mp hm
    have : (((xs.size : Int) - 1) + (m : Int) * (-1)).toNat = xs.size - 1 - m := by omega
    rw [this]
  rw [filterMap_same e]
  have e2 := PySem.W.krv_all xs
  have e3 := PySem.W.krv_range xs.size
  rw [← e2, ← List.filterMap_reverse, ← e3, List.filterMap_map]
  rfl
theorem getItem_tuple_rev {t sl : Addr} {items : Array Value} {tk : Tok} {Q : Value → Shared → Prop} (ht : IsTup s.heap t items) (hs : s.heap.IsSliceOf sl .none .none (.int (-1) tk))
    (h : Q (.ref s.heap.objs.size) { s with heap := s.heap.push { cls := .type "tuple", data := .seq items.toList.reverse.toArray } })
    (hsz : items.size ≤ sizeLine) : wpAny (model prog w) A (getItem (.ref t) (.ref sl)) Q E s := by
  have htake : sizeOk (.seq items.toList.reverse.toArray) := by
    show items.toList.reverse.toArray.size ≤ sizeLine
    rw [List.size_toArray, List.length_reverse, Array.length_toList]
    omega
  obtain ⟨os, hos, hcs, hds⟩ := id hs
  have hTs : s.TypeIs (.ref sl) "slice" := ⟨os, hos, hcs⟩
  unfold getItem
  try with_reducible refine wpAny_holding ?_
  first | refine wpAny_bind (wpAny_pure ?_) | skip
  refine wpAny_bind (wpAny_sequenceKey ht.typeIs (by decide) ?_)
  refine wpAny_bind (wpAny_callSpecial?_slot (name := Str.ofString "__getitem__") ht.typeIs PyProof.Rows.slot_tuple_getitem
    (wpAny_call_entry PyProof.Rows.slot_tuple_getitem ht.typeIs entry_tuple_getitem ?_ (args_tuple_getitem _ _)))
  show wpAny _ _ (Builtin.Tuple.tupleItemsOf (.ref t) >>= _) _ _ s
  refine wpAny_bind (tupleItemsOf_ ht ?_)
  refine wpAny_bind (wpAny_typeOf hTs ?_)
  rw [if_pos (by decide)]
  refine wpAny_bind (sliceApplied_rev hs ?_)
  have hno : ¬ (((((items.size : Nat) : Int) - 1) == 0 && (-1 : Int) == 1 && items.size == items.size) = true) := by
    intro q
    rw [Bool.and_eq_true, Bool.and_eq_true] at q
    exact absurd q.1.2 (by decide)
  show wpAny _ _ (if ((((items.size : Nat) : Int) - 1) == 0 && (-1 : Int) == 1 && items.size == items.size) = true then _ else _) _ _ s
  rw [if_neg hno, pick_rev]
  first
    | exact wpAny_bind (m := Builtin.Tuple.tupleExact _) (wpAny_newObj_type (wpAny_pure ⟨_, rfl, wpAny_pure h⟩) htake)
    | exact wpAny_bind (m := Builtin.Tuple.tupleExact _) (wpAny_newObj_type (wpAny_bind (wpAny_pure (wpAny_pure ⟨_, rfl, wpAny_pure h⟩))) htake)
    | exact wpAny_bind (wpAny_bind (m := Builtin.Tuple.tupleExact _) (wpAny_newObj_type (wpAny_pure (wpAny_pure ⟨_, rfl, wpAny_pure h⟩)) htake))
    | exact wpAny_bind (wpAny_bind (m := Builtin.Tuple.tupleExact _) (wpAny_newObj_type (wpAny_pure ⟨_, rfl, wpAny_pure h⟩) htake))
end
end HT
namespace L2
open PySem PySem.Spec PyProof.Rows
section
variable {X : Cx}
/-- x[::-1], a list or a tuple -/
def tRevA (K : PySem.W.Frag) (te : TE) : TE := fun σ H Q => te σ H fun x H1 => ∃ a xs, x = .ref a ∧ ((SqL K H1 a xs ∧ ∀ p, H1 p = none → Q (.ref p) (upd H1 p (.lst xs.reverse))) ∨ (SqT K H1 a xs ∧ ∀ p, H1 p = none → Q (.ref p) (upd H1 p (.tup xs.reverse))))
theorem pe_revA {e : Expr} {te : TE} {k : Nat} {p1 p2 p3 pos : Pos} (he : PE X e te) : PE X (.Subscript e (.Slice none none (some (.UnaryOp .USub (.Constant (.int 1) k p1) p2)) p3) pos) (tRevA X.K te) := by
  refine ⟨fun pins s σ H Q I h => ?_⟩
  refine Subscript_ (thn (he.run pins s σ H _ I h) fun v s1 ⟨x, H1, I1, r1, q1⟩ => ?_)
  obtain ⟨a, xs, ex, q1⟩ := q1
  subst ex
  cases r1
  have hst : PO X (some (.UnaryOp .USub (.Constant (.int 1) k p1) p2)) (tPart (tUn (rU fun i => .int (-i)) (tC (.int 1)))) := po_some (pe_un un_neg pe_int)
  refine wpAny_Slice (thn (po_none.run pins s1 σ H1 (fun o H2 => o = none ∧ H2 = H1) I1 ⟨rfl, rfl⟩) fun vl s2 ⟨l, H2, I2, pl, el, e2⟩ => ?_)
  subst el e2
  refine thn (po_none.run pins s2 σ H2 (fun o H3 => o = none ∧ H3 = H2) I2 ⟨rfl, rfl⟩) fun vu s3 ⟨u, H3, I3, pu, eu, e3⟩ => ?_
  subst eu e3
  refine thn (hst.run pins s3 σ H3 (fun o H4 => o = some (-1) ∧ H4 = H3) I3 ⟨1, rfl, -1, rfl, rfl, rfl⟩) fun vs s4 ⟨o, H4, I4, ps, eo, e4⟩ => ?_
  subst eo e4
  have I5 : Inv X pins σ H4 { s4 with heap := s4.heap.push { cls := .type "slice", data := .fields #[vl, vu, vs] } } := I4.kept (t' := s4.toks) fun b ob q => Heap.get?_push_of_some _ q
  show wpAny (model X.prog X.w) X.A (subscriptTail e (.Slice none none (some (.UnaryOp .USub (.Constant (.int 1) k p1) p2)) p3) (.ref a) (.ref s4.heap.objs.size)) (EP X pins σ Q) X.xe { s4 with heap := s4.heap.push { cls := .type "slice", data := .fields #[vl, vu, vs] } }
  rcases q1 with ⟨hx, q⟩ | ⟨hx, q⟩
  · obtain ⟨its, r, ht, hz⟩ := I5.list hx
    have hlen := r.length
    refine tail_any (ops := [.ref a, .ref s4.heap.objs.size]) ht.isList.typeIs (PySem.slot_list_getitem.lookup) ?_ (by with_unfolding_all rfl)
    refine wpAny_getItem_list_slice ht.isList (Heap.IsSliceOf.new _ vl vu vs) pl pu ps (by decide) ?_ (by rw [List.size_toArray]; omega)
    rw [PySem.W.krv_pick]
    refine ⟨.ref _, _, I5.laid (t' := s4.toks) (o := .lst xs.reverse) (fun b ob q => Heap.get?_push_of_some _ q) (Nat.le_refl _) ?_, rfl, q _ (I5.hok.fresh (Nat.le_refl _))⟩
    exact ⟨by rw [List.length_reverse]; exact hz, _, 0, r.reverse, Heap.get?_push_size _ rfl⟩
  · obtain ⟨its, r, ht, hz⟩ := I5.tuple hx
    have hlen := r.length
    refine tail_any (ops := [.ref a, .ref s4.heap.objs.size]) ht.typeIs PyProof.Rows.slot_tuple_getitem.lookup ?_ (by with_unfolding_all rfl)
    have hsl : ({ s4 with heap := s4.heap.push { cls := .type "slice", data := .fields #[vl, vu, vs] } } : Shared).heap.IsSliceOf s4.heap.objs.size vl vu vs := Heap.IsSliceOf.new _ vl vu vs
    cases pl
    cases pu
    cases ps
    refine HT.getItem_tuple_rev ht hsl ?_ (by rw [List.size_toArray]; omega)
    refine ⟨.ref _, _, I5.laid (t' := s4.toks) (o := .tup xs.reverse) (fun b ob q => Heap.get?_push_of_some _ q) (Nat.le_refl _) ?_, rfl, q _ (I5.hok.fresh (Nat.le_refl _))⟩
    exact ⟨by rw [List.length_reverse]; exact hz, _, r.reverse, IsTup.new _ _⟩
end
/-! ### enumerate(t) of a tuple -/
open Sem (wp) in
theorem meets_enumerate_new1 {v : Value} {o : Obj} {H : Heap → Prop} (B : Begins v o H) :
    Meets (Builtin.«enumerate.__new__» ⟨[.type "enumerate", v], []⟩) (fun _ R s => H s.heap ∧
      R (.ok (.ret (.ref (s.heap.push o).objs.size))) { s with heap := (s.heap.push o).push { cls := .type "enumerate", data := .fields #[.none, .bool false, .ref s.heap.objs.size, rawInt 0, .none, .none] } }) :=
  .of_wp fun prog w A R s h => by
    obtain ⟨hp, g, d, tk, os⟩ := s; obtain ⟨h1, h⟩ := h
    have hsub := sub_enumerate
    have q1 : ∀ {A' : Around} {E : Value → Shared → Prop} {Q : Value → Shared → Prop}, Q (.ref hp.objs.size) ⟨hp.push o, g, d, tk, os⟩ → wpAny (model prog w) A' (pyIter v) Q E ⟨hp, g, d, tk, os⟩ :=
      fun q => B.iter prog w _ _ ⟨hp, g, d, tk, os⟩ _ h1 q
    wp_walk using q1
    refine wpAny_stack_any fun st => wpAny_pure ?_
    split
    · rename_i c _ _ _ _ _
      cases (c == Value.type "enumerate")
      · wp_walk using q1
        exact ⟨_, rfl, h⟩
      · wp_walk using q1
        exact ⟨_, rfl, h⟩
    · wp_walk using q1
      exact ⟨_, rfl, h⟩
theorem call_enumerate_tuple {prog : Program} {w : World} {A : Around} {E : Value → Shared → Prop} {s : Shared} {l : Addr} {items : Array Value} {Q : Value → Shared → Prop} (hL : s.heap.IsTuple l items)
    (h : ∀ h', IsEnum h' (s.heap.objs.size + 1) s.heap.objs.size 0 .none → h'.IsTupleIter s.heap.objs.size l 0 → h'.objs.size = s.heap.objs.size + 2 →
      (∀ b o, s.heap.get? b = some o → h'.get? b = some o) → Q (.ref (s.heap.objs.size + 1)) { s with heap := h' }) :
    wpAny (model prog w) A (call (.type "enumerate") [.ref l]) Q E s := by
  have B := begins_tuple (t := l) (items := items)
  refine callType_new F.called_enumerate (by decide) (F.typeCall_enumerate_1 _) (F.newCall_enumerate_1 _) (fun obj => F.args_object_init_2 obj _) F.entry_enumerate_new
    (meets_enumerate_new1 B) ⟨hL, ?_⟩
  have hz : (s.heap.push { cls := .type "tuple_iterator", data := .fields #[.ref l, .int 0 0] }).objs.size = s.heap.objs.size + 1 := Heap.size_push ..
  show _ ∧ _
  rw [hz]
  have he : IsEnum ((s.heap.push { cls := .type "tuple_iterator", data := .fields #[.ref l, .int 0 0] }).push
      { cls := .type "enumerate", data := .fields #[.none, .bool false, .ref s.heap.objs.size, rawInt 0, .none, .none] }) (s.heap.objs.size + 1) s.heap.objs.size 0 .none := by
    have := Heap.get?_push_size (s.heap.push { cls := .type "tuple_iterator", data := .fields #[.ref l, .int 0 0] })
      (o := { cls := .type "enumerate", data := .fields #[.none, .bool false, .ref s.heap.objs.size, rawInt 0, .none, .none] }) rfl
    rw [hz] at this; exact this
  refine ⟨⟨_, he, rfl⟩, h _ he ⟨_, Heap.get?_push_of_some _ (Heap.get?_push_size _ rfl), rfl, rfl⟩ (by rw [Heap.size_push, hz]) fun b o x => Heap.get?_push_of_some _ (Heap.get?_push_of_some _ x)⟩
end L2

set_option maxHeartbeats 1000000
/-! PM: enumerate, zip. -/
namespace L2
open PySem PySem.Spec PyProof.Rows
section
/-- the tuple at a, each item in a new pair -/
def IteT (K : PySem.W.Frag) (a : Addr) : It :=
  ⟨fun i H => ∃ (xs : List V) (x : V), SqT K H a xs ∧ xs[i]? = some x, fun i H v H' => ∃ T x, v = .ref T ∧ H T = none ∧ H' = upd H T (.tup [.int (i : Nat), x]) ∧ ∀ xs, SqT K H a xs → xs[i]? = some x, fun i H => ∃ xs : List V, SqT K H a xs ∧ xs.length ≤ i⟩
theorem turn_enumT {P : Program} {w : World} {K : PySem.W.Frag} {elts : List Expr} {kk : Nat} {tpos : Pos} (a e it : Addr) (hai : a ≠ it) (hae : a ≠ e) :
    Turn P w K (.Tuple elts kk tpos) (IteT K a) [e, it] e (fun i h => (∃ old, IsEnum h e it ((i : Nat) : Int) old) ∧ h.IsTupleIter it a i ∧ e ≠ it) where
  mem := by simp
  obj := fun i h st b hb => by
    obtain ⟨⟨old, he⟩, ⟨o, ho, hc, hd⟩, _⟩ := st
    have e' : b = e ∨ b = it := by simpa using hb
    rcases e' with z | z
    · rw [z]; exact ⟨_, he, fun v q => nomatch q⟩
    · rw [z]; exact ⟨o, ho, fun v q => by rw [hd] at q; cases q⟩
  keep := fun i h h' st k => let ⟨⟨old, he⟩, hi, hne⟩ := st; ⟨⟨old, k e (by simp) _ he⟩, hi.at fun o q => k it (by simp) o q, hne⟩
  item := by
    intro X hP hw hK hc i pins s σ H E I hf st hg
    subst hP hw hK
    obtain ⟨⟨old, he⟩, hit, hne⟩ := st
    obtain ⟨xs, x, hq, hx⟩ := hg
    obtain ⟨its, rv, p, hz⟩ := I.tuple hq
    obtain ⟨u, hu, ru⟩ := rv.get hx
    have hel : e < s.heap.objs.size := Heap.lt_size he
    have hil : it < s.heap.objs.size := by obtain ⟨_, q, _⟩ := hit; exact Heap.lt_size q
    have D := Draws.tuple (prog := X.prog) (w := X.w) (A := X.A.in1) (I.ok.hd hc) it a hai its.toArray
    have hi : i < its.toArray.size := by
      rw [List.size_toArray]
      exact (List.getElem?_eq_some_iff.mp hu).1
    refine wpAny_pyNext_enum_itemD D he ⟨hit, (show s.heap.IsTuple a its.toArray from p)⟩ hi hne (by simp [hne, Ne.symm hae]) fun x2 h' tk hP ho hst hT hsz hk => ?_
    have ex2 : x2 = u := by
      have := hP
      rw [List.getElem?_toArray, hu] at this
      exact (Option.some.inj this).symm
    subst ex2
    obtain ⟨hit', _⟩ := hst
    refine ⟨_, rfl, wpAny_letOwnedTupleGo_enum (s := { s with heap := h', toks := tk + 1 }) ho fun h'' he' sb => ?_⟩
    have hT2 : h''.get? s.heap.objs.size = some { cls := .type "tuple", data := .seq #[.int i tk, x2] } := (sb.2 _ (Nat.ne_of_gt hel)).trans hT
    have new : ObjOk X.prog X.w (upd H s.heap.objs.size (.tup [.int (i : Nat), x])) h'' s.heap.objs.size (.tup [.int (i : Nat), x]) :=
      ⟨by show 2 ≤ sizeLine; decide, [.int i tk, x2], .cons ⟨_, rfl⟩ (.cons ru .nil), ⟨_, hT2, rfl, _, rfl⟩⟩
    have I1 : Inv X pins σ (upd H s.heap.objs.size (.tup [.int (i : Nat), x])) { s with heap := h'', toks := tk + 1 } :=
      I.turnedNew (ch := [e, it]) (fun b ob hb q => (sb.2 b (fun z => hb (by simp [z]))).trans (hk b ob (fun z => hb (by simp [z])) (fun z => hb (by simp [z])) q)) hf (Nat.le_refl _) new
    refine ⟨.ref s.heap.objs.size, _, I1, rfl, ⟨_, x, rfl, I.hok.fresh (Nat.le_refl _), rfl, fun ys hy => by rw [I.tuple_inj hy hq]; exact hx⟩, ⟨⟨x2, ?_⟩, hit'.at fun o q => (sb.2 it (Ne.symm hne)).trans q, hne⟩, fun b hb => ?_⟩
    · have e1 : ((i + 1 : Nat) : Int) = (i : Int) + 1 := by omega
      rw [e1]; exact he'
    · have hb' : b < s.heap.objs.size := by
        have e' : b = e ∨ b = it := by simpa using hb
        rcases e' with z | z
        · rw [z]; exact hel
        · rw [z]; exact hil
      rw [upd_ne (Nat.ne_of_lt hb')]
      exact (hf b hb).1
  done := by
    intro X hP hw hK hc i pins s σ H E I hf st hg
    subst hP hw hK
    obtain ⟨⟨old, he⟩, hit, hne⟩ := st
    obtain ⟨xs, hq, hx⟩ := hg
    obtain ⟨its, rv, p, hz⟩ := I.tuple hq
    obtain ⟨f0, f1, f2, f3, f4, f5⟩ := hf it (by simp)
    have hl := rv.length
    have fin : ∀ h', Heap.ExtBut it s.heap h' → (none : Option Value) = none ∧ Inv X pins σ H { s with heap := h' } := fun h' eb => ⟨rfl, I.turned (t' := s.toks) (fun b o hb q => eb b o hb q) f0 f1 f3 f4 f5⟩
    -- the tuple's iterator stands at its end, or behind it
    have hTy : s.TypeIs (.ref e) "enumerate" := ⟨_, he, rfl⟩
    unfold pyNext
    refine wpAny_bind (wpAny_attempt (wpAny_callSpecial?_slot (name := Str.ofString "__next__") hTy F.slot_enumerate_next
      (wpAny_call_entry F.slot_enumerate_next hTy F.entry_enumerate_next ?_ (F.args_enumerate_next_1 _))))
    show wpAny _ _ (field (.ref e) 2 >>= _) _ _ _
    refine wpAny_bind (wpAny_field he rfl (x := .ref it) rfl ?_)
    refine wpAny_bind (wpAny_nextOf_tuple_end (I.ok.hd hc) hit (show s.heap.IsTuple a its.toArray from p) (by simp; omega) fun h' x he' hx' => ?_)
    obtain ⟨o, ho, hc'⟩ := hx'
    refine wpAny_bind (wpAny_isInstance (T := "StopIteration") (b := true) ⟨o, ho, hc'⟩ isSubtype_stop ?_)
    exact wpAny_pure (fin _ he')
  self := fun A i s Q E st h => let ⟨⟨_, he⟩, _⟩ := st; wpAny_pyIter_enum he h
def iEnumA (K : PySem.W.Frag) (ta : TA) : TI := fun σ H R => ta σ H fun vs H1 => ∃ a xs, vs = [.ref a] ∧ ((SqL K H1 a xs ∧ R (Ite K a) H1) ∨ (SqT K H1 a xs ∧ R (IteT K a) H1))
theorem pi_enumA {X : Cx} {e : Expr} {ta : TA} {p pos tpos : Pos} {elts : List Expr} {kk : Nat} (hg : Gl X "enumerate") (hm : X.mg "enumerate" = none) (ha : PA X [e] ta) (hs : starEach [e] X.env = [(false, eval e X.env)] := by rfl) :
    PI X (.Tuple elts kk tpos) (.Call (.Name "enumerate" p) [e] [] pos) (iEnumA X.K ta) := by
  refine ⟨fun pins s σ H R I h => ?_⟩
  refine Call_ (ld_blt I hg hm boot_enumerate (PyProof.Rows.callWith_type1 (thn (ha.run pos pins s σ H _ I h) fun us s1 ⟨vs, H1, I1, r1, q1⟩ => ?_) hs rfl))
  obtain ⟨a, xs, ex, q⟩ := q1
  subst ex
  have fp : ∀ b ∈ [s1.heap.objs.size + 1, s1.heap.objs.size], FpOk X pins H1 b := fun b hb => by
    have e' : b = s1.heap.objs.size + 1 ∨ b = s1.heap.objs.size := by simpa using hb
    have hle : s1.heap.objs.size ≤ b := by
      rcases e' with z | z
      · rw [z]; exact Nat.le_add_right _ _
      · rw [z]; exact Nat.le_refl _
    exact I1.fpOk hle (I1.hok.fresh hle)
  cases r1 with
  | cons r rr =>
    cases rr
    cases r
    rcases q with ⟨hq, q⟩ | ⟨hq, q⟩
    · obtain ⟨its, rv, p', hz⟩ := I1.list hq
      refine call_enumerate_list p'.isList fun h' he hit hsz hk => wpAny_pyIter_enum he ?_
      have I2 : Inv X pins σ H1 { s1 with heap := h' } := I1.kept (t' := s1.toks) hk
      exact ⟨s1.heap.objs.size + 1, [s1.heap.objs.size + 1, s1.heap.objs.size], _, _, H1, rfl, I2, turn_enum a (s1.heap.objs.size + 1) s1.heap.objs.size, ⟨⟨.none, he⟩, hit, Nat.succ_ne_self _⟩, fp, q⟩
    · obtain ⟨its, rv, p', hz⟩ := I1.tuple hq
      have hal : a < s1.heap.objs.size := p'.lt
      refine call_enumerate_tuple (show s1.heap.IsTuple a its.toArray from p') fun h' he hit hsz hk => wpAny_pyIter_enum he ?_
      have I2 : Inv X pins σ H1 { s1 with heap := h' } := I1.kept (t' := s1.toks) hk
      exact ⟨s1.heap.objs.size + 1, [s1.heap.objs.size + 1, s1.heap.objs.size], _, _, H1, rfl, I2, turn_enumT a (s1.heap.objs.size + 1) s1.heap.objs.size (Nat.ne_of_lt hal) (Nat.ne_of_lt (Nat.lt_succ_of_lt hal)), ⟨⟨.none, he⟩, hit, Nat.succ_ne_self _⟩, fp, q⟩
theorem walk_enumT {K : PySem.W.Frag} {a : Addr} {xs : List V} : Walk (IteT K a) xs.length (fun H => SqT K H a xs) (YPair (fun i => some (.int (i : Nat))) (fun i => xs[i]?)) := by
  refine ⟨fun i _ hi q => ⟨xs, xs[i], q, by simp [hi]⟩, fun _ q => ⟨xs, q, Nat.le_refl _⟩, fun i H v H' _ q y => ?_⟩
  obtain ⟨T, x, h1, h2, h3, h4⟩ := y
  exact ⟨T, .int (i : Nat), x, h1, h2, h3, rfl, h4 xs q⟩
theorem walk_zipT {K : PySem.W.Frag} {a b : Addr} {xs ys : List V} {n : Nat} (hn : n = min xs.length ys.length) : Walk (RZ.ItzT K a b) n (fun H => SqT K H a xs ∧ SqT K H b ys) (YPair (fun i => xs[i]?) (fun i => ys[i]?)) := by
  subst hn
  refine ⟨fun i _ hi q => ?_, fun _ q => ⟨xs, ys, q.1, q.2, by omega⟩, fun i H v H' _ q y => ?_⟩
  · have h1 : i < xs.length := by omega
    have h2 : i < ys.length := by omega
    exact ⟨xs, ys, xs[i], ys[i], q.1, q.2, by simp [h1], by simp [h2]⟩
  · obtain ⟨T, x, z, h1, h2, h3, h4, h5⟩ := y
    exact ⟨T, x, z, h1, h2, h3, h4 xs q.1, h5 ys q.2⟩
end
end L2
namespace PM
open PySem L2
/-- items that come in new pairs -/
theorem itok_pair {K : PySem.W.Frag} {Z : Addr → Prop} {W : Ws} {H : Hp} {J : It} {n : Nat} {Gd : Hp → Prop} {xs ys : Nat → Option V} {items : List PV} (hn : items.length = n) (wk : Walk J n Gd (YPair xs ys))
    (hst : ∀ Z2 W2 H2, Ext ⟨Z, W, H⟩ ⟨Z2, W2, H2⟩ → Gd H2 ∧ ∀ (i : Nat) (p : PV) (x y : V), items[i]? = some p → xs i = some x → ys i = some y → ∃ a b, p = .tup [a, b] ∧ Rp K ⟨Z2, W2, H2⟩ a x ∧ Rp K ⟨Z2, W2, H2⟩ b y) : ItOk K Z W H [] J items := by
  refine ⟨Gd, YPair xs ys, by rw [hn]; exact wk, fun Z2 W2 H2 x hz _ => ?_⟩
  obtain ⟨g, k⟩ := hst Z2 W2 H2 x
  refine ⟨g, fun i v H3 p hp y => ?_⟩
  obtain ⟨T, u, w, rfl, nT, rfl, h1, h2⟩ := y
  obtain ⟨a, b, rfl, ra, rb⟩ := k i p u w hp h1 h2
  have ga : GrowA H2 (upd H2 T (.tup [u, w])) := GrowA.new nT
  have nz : ¬ Z2 T := fun z => by obtain ⟨o, e⟩ := hz T z; rw [nT] at e; cases e
  have x2 : Ext ⟨Z2, W2, H2⟩ ⟨Z2, W2, upd H2 T (.tup [u, w])⟩ := ⟨fun b o hb e => ⟨hb, ga b o e⟩, fun _ h => h⟩
  refine ⟨ga, ?_⟩
  unfold Rp
  exact ⟨T, [u, w], rfl, .inl ⟨nz, upd_same⟩, Rps.cons (Rp.ext x2 ra) (Rps.cons (Rp.ext x2 rb) Rps.nil)⟩
def enumP (ps : List PV) : List PV := (List.range ps.length).map fun i => .tup [.int (i : Nat), ps.getD i .non]
def zipP (ps qs : List PV) : List PV := List.zipWith (fun a b => .tup [a, b]) ps qs
theorem enumP_get {ps : List PV} {i : Nat} {p : PV} (h : (enumP ps)[i]? = some p) : ∃ q, ps[i]? = some q ∧ p = .tup [.int (i : Nat), q] := by
  unfold enumP at h
  obtain ⟨hi, e⟩ := List.getElem?_eq_some_iff.mp h
  rw [List.length_map, List.length_range] at hi
  rw [List.getElem_map, List.getElem_range] at e
  refine ⟨ps[i], List.getElem?_eq_getElem hi, ?_⟩
  rw [← e, List.getD_eq_getElem?_getD, List.getElem?_eq_getElem hi]
  rfl
section
variable {X : Cx} {c : List Ow} {e e2 : Expr} {te te2 : TEm} {p pos tpos : Pos} {elts : List Expr} {kk : Nat}
def mEnum (te : TEm) : TIm := fun env P => te env fun p => ∃ ps, seqP p = some ps ∧ P (enumP ps)
theorem im_enum (hm : X.mg "enumerate" = none) (he : PEm X c .cl e te) (hg : Gl X "enumerate" := by rfl) (hs0 : starEach [e] X.env = (false, eval e X.env) :: starEach [] X.env := by rfl) (hs : starEach [e] X.env = [(false, eval e X.env)] := by rfl) :
    PIm X c none (.Tuple elts kk tpos) (.Call (.Name "enumerate" p) [e] [] pos) (mEnum te) := ⟨⟨fun pins s σ H R I h => (pi_enumA hg hm (pa_cons he.run pa_nil hs0) hs).run pins s σ H R I (by
  obtain ⟨G, A, W, env, P, R, h, k⟩ := h
  refine ⟨G, A, W, env, _, R, h, fun p v H1 g rv ⟨ps, hp, h1⟩ => ?_⟩
  have hl : (enumP ps).length = ps.length := by unfold enumP; rw [List.length_map, List.length_range]
  have rv' := rv.c
  cases p with
  | lst qs =>
    obtain rfl : qs = ps := Option.some.inj hp
    unfold Rp at rv'
    obtain ⟨a, vs, rfl, e, r⟩ := rv'
    refine ⟨a, vs, rfl, .inl ⟨e.sq, k _ _ H1 [] g rfl (itok_pair (hl.trans r.len) walk_enum fun Z2 W2 H2 x => ⟨(e.ext x).sq, fun i q u w hq h2 h3 => ?_⟩) h1⟩⟩
    obtain ⟨q0, hq0, rfl⟩ := enumP_get hq
    obtain ⟨w', hw', rw'⟩ := r.get hq0
    rw [h3] at hw'; cases hw'
    cases h2
    exact ⟨_, _, rfl, Rp.int', Rp.ext x rw'⟩
  | tup qs =>
    obtain rfl : qs = ps := Option.some.inj hp
    unfold Rp at rv'
    obtain ⟨a, vs, rfl, e, r⟩ := rv'
    refine ⟨a, vs, rfl, .inr ⟨e.sq, k _ _ H1 [] g rfl (itok_pair (hl.trans r.len) walk_enumT fun Z2 W2 H2 x => ⟨(e.ext x).sq, fun i q u w hq h2 h3 => ?_⟩) h1⟩⟩
    obtain ⟨q0, hq0, rfl⟩ := enumP_get hq
    obtain ⟨w', hw', rw'⟩ := r.get hq0
    rw [h3] at hw'; cases hw'
    cases h2
    exact ⟨_, _, rfl, Rp.int', Rp.ext x rw'⟩
  | _ => cases hp)⟩⟩
/-- zip of two lists, or of two tuples -/
def mZip (te te2 : TEm) : TIm := fun env P => te env fun x => te2 env fun y => match x, y with
  | .lst ps, .lst qs => P (zipP ps qs)
  | .tup ps, .tup qs => P (zipP ps qs)
  | _, _ => False
theorem zipP_get {ps qs : List PV} {i : Nat} {p : PV} (h : (zipP ps qs)[i]? = some p) : ∃ a b, ps[i]? = some a ∧ qs[i]? = some b ∧ p = .tup [a, b] := by
  unfold zipP at h
  rw [List.getElem?_zipWith] at h
  cases h1 : ps[i]? with
  | none => rw [h1] at h; cases h
  | some a =>
    cases h2 : qs[i]? with
    | none => rw [h1, h2] at h; cases h
    | some b => rw [h1, h2] at h; cases h; exact ⟨a, b, rfl, rfl, rfl⟩
theorem im_zip (hm : X.mg "zip" = none) (he : PEm X c .cl e te) (he2 : PEm X c .cl e2 te2) (hg : Gl X "zip" := by rfl) (hs0 : starEach [e, e2] X.env = (false, eval e X.env) :: starEach [e2] X.env := by rfl) (hs1 : starEach [e2] X.env = (false, eval e2 X.env) :: starEach [] X.env := by rfl)
    (hs2 : (backTo pos (starEach [e2] X.env)).any (·.1) = false := by rfl) :
    PIm X c none (.Tuple elts kk tpos) (.Call (.Name "zip" p) [e, e2] [] pos) (mZip te te2) := ⟨⟨fun pins s σ H R I h => (RZ.pi_zipA hg hm (pa_cons he.run (pa_cons he2.run pa_nil hs1) hs0) hs0 hs2).run pins s σ H R I (by
  obtain ⟨G, A, W, env, P, R, h, k⟩ := h
  refine ⟨G, A, W, env, _, R, h, fun p v H1 g rv h1 => ⟨G, A, W, env, _, R.grow g, h1, fun q w H2 g2 rw2 h2 => ?_⟩⟩
  have rv' := Rp.ext (g2.ext R.sz) rv.c
  have rw' := rw2.c
  cases p with
  | lst ps =>
    cases q with
    | lst qs =>
      unfold Rp at rv' rw'
      obtain ⟨a, vs, rfl, e, r⟩ := rv'
      obtain ⟨b, ws, rfl, e', r'⟩ := rw'
      have hl : (zipP ps qs).length = min vs.length ws.length := by unfold zipP; rw [List.length_zipWith, r.len, r'.len]
      refine ⟨a, b, vs, ws, rfl, .inl ⟨e.sq, e'.sq, k _ _ H2 [] (g.trans g2) rfl (itok_pair hl (walk_zip rfl) fun Z2 W2 H3 x => ⟨⟨(e.ext x).sq, (e'.ext x).sq⟩, fun i q u w hq h3 h4 => ?_⟩) h2⟩⟩
      obtain ⟨a0, b0, ha, hb, rfl⟩ := zipP_get hq
      obtain ⟨u', hu', ru'⟩ := r.get ha
      obtain ⟨w', hw', rw'⟩ := r'.get hb
      rw [h3] at hu'; cases hu'
      rw [h4] at hw'; cases hw'
      exact ⟨_, _, rfl, Rp.ext x ru', Rp.ext x rw'⟩
    | _ => exact h2.elim
  | tup ps =>
    cases q with
    | tup qs =>
      unfold Rp at rv' rw'
      obtain ⟨a, vs, rfl, e, r⟩ := rv'
      obtain ⟨b, ws, rfl, e', r'⟩ := rw'
      have hl : (zipP ps qs).length = min vs.length ws.length := by unfold zipP; rw [List.length_zipWith, r.len, r'.len]
      refine ⟨a, b, vs, ws, rfl, .inr ⟨e.sq, e'.sq, k _ _ H2 [] (g.trans g2) rfl (itok_pair hl (walk_zipT rfl) fun Z2 W2 H3 x => ⟨⟨(e.ext x).sq, (e'.ext x).sq⟩, fun i q u w hq h3 h4 => ?_⟩) h2⟩⟩
      obtain ⟨a0, b0, ha, hb, rfl⟩ := zipP_get hq
      obtain ⟨u', hu', ru'⟩ := r.get ha
      obtain ⟨w', hw', rw'⟩ := r'.get hb
      rw [h3] at hu'; cases hu'
      rw [h4] at hw'; cases hw'
      exact ⟨_, _, rfl, Rp.ext x ru', Rp.ext x rw'⟩
    | _ => exact h2.elim
  | _ => exact h2.elim)⟩⟩
end
end PM

set_option maxHeartbeats 1000000
/-! PM: several names at once, views of any line, dicts. -/
namespace PM
open PySem L2

/-! ### several names at once -/
def Gh.shun (G : Gh) (a : Addr) : Gh := { G with zb := fun b => G.zb b ∨ b = a }
section
variable {K : PySem.W.Frag} {G : Gh} {c : List Ow} {A : Nat → Option Addr} {W : Ws} {env : Env} {σ : St} {H H1 H' : Hp}
theorem zt_shun {a b : Addr} (h : Zt (G.shun a) A W b) : Zt G A W b ∨ b = a := by
  rcases h with (h | h) | h | h
  · exact .inl (.inl h)
  · exact .inr h
  · exact .inl (.inr (.inl h))
  · exact .inl (.inr (.inr h))
/-- a new thing that is to be left alone -/
theorem SR.shun (R : SR K G c A W env σ H) (g : Grow W H H1) {a : Addr} (n : H a = none) (t : ∃ o, H1 a = some o) : SR K (G.shun a) c A W env σ H1 := by
  have R1 := R.grow g
  have nt : ∀ b o, H b = some o → b ≠ a := fun b o e z => by rw [z, n] at e; cases e
  have x : Ext ⟨Zt G A W, W, H⟩ ⟨Zt (G.shun a) A W, W, H1⟩ := ⟨fun b o hz e => ⟨fun z => (zt_shun z).elim hz (nt b o e), g.keep b o (fun w => hz (Zt.w w)) e⟩, fun _ h => h⟩
  refine ⟨R1.len, R1.W0in, R1.Wmin, R1.Wnew, R1.Wfix, R1.src, R1.keep, fun b hb => ?_, fun i b e => ?_, R1.Ainj, R1.Aset, fun i p e => ?_, R1.pins, fun b o e => ?_⟩
  · rcases hb with hb | hb
    · exact R1.zbt b hb
    · rw [hb]; exact t
  · obtain ⟨h1, h2, h3, h4, h5⟩ := R1.Asep i b e
    obtain ⟨o, e2⟩ := (R.Asep i b e).2.2.2.2
    exact ⟨h1, h2, fun z => z.elim h3 (nt b o e2), h4, h5⟩
  · obtain ⟨v, h1, h2⟩ := R.slots i p e
    refine ⟨v, h1, ?_⟩
    cases hA : A i with
    | none => rw [hA] at h2; exact Rp.ext x h2
    | some b =>
      rw [hA] at h2
      obtain ⟨_, n2, _, _, o, ho⟩ := R.Asep i b hA
      exact ⟨h2.1, h2.2.ext x (by show H1 b = H b; rw [ho, g.keep b o n2 ho])⟩
  · obtain ⟨h1, h2⟩ := R.fz b o e
    exact ⟨(R1.fz b o e).1, fun z => (zt_shun z).elim h2 (nt b o h1)⟩
/-- values made one behind the other, the new ones each apart -/
inductive Chn (K : PySem.W.Frag) (W : Ws) : (Addr → Prop) → Hp → List Md → List PV → List V → Hp → Prop
  | nil {Z : Addr → Prop} {H : Hp} : Chn K W Z H [] [] [] H
  | cl {Z : Addr → Prop} {H H1 H' : Hp} {ms : List Md} {p : PV} {ps : List PV} {v : V} {vs : List V} : Grow W H H1 → VK1 K .cl Z W H H1 p v → Chn K W Z H1 ms ps vs H' → Chn K W Z H (.cl :: ms) (p :: ps) (v :: vs) H'
  | fr {Z : Addr → Prop} {H H1 H' : Hp} {ms : List Md} {p : PV} {ps : List PV} {a : Addr} {vs : List V} : Grow W H H1 → H a = none → OwnAt K ⟨fun b => Z b ∨ b = a, W, H1⟩ a p → Chn K W (fun b => Z b ∨ b = a) H1 ms ps vs H' → Chn K W Z H (.fr :: ms) (p :: ps) (.ref a :: vs) H'
theorem Chn.less {Z Z' : Addr → Prop} {ms : List Md} {ps : List PV} {vs : List V} (h : Chn K W Z H ms ps vs H') (k : ∀ b, Z' b → Z b) : Chn K W Z' H ms ps vs H' := by
  induction h generalizing Z' with
  | nil => exact .nil
  | cl g r _ ih => exact .cl g (VK1.ofRp (Rp.ext (ext_less k) r.c)) (ih k)
  | fr g n o _ ih =>
    exact .fr g n (o.less fun b z => z.imp (k b) id) (ih fun b z => z.imp (k b) id)
theorem Chn.grow {Z : Addr → Prop} {ms : List Md} {ps : List PV} {vs : List V} (h : Chn K W Z H ms ps vs H') (hs : ∀ p ∈ W, SA H p) : Grow W H H' := by
  induction h with
  | nil => exact Grow.refl hs
  | cl g r _ ih => exact g.trans (ih g.src)
  | fr g n o _ ih => exact g.trans (ih g.src)
def tmX (K : PySem.W.Frag) (c : List Ow) (ms : List Md) (t : TAm) : TA := fun σ H Q => ∃ G A W env P, SR K G c A W env σ H ∧ t env P ∧ ∀ ps vs H', Chn K W (Zt G A W) H ms ps vs H' → P ps → Q vs H'
structure PXm (X : Cx) (c : List Ow) (ms : List Md) (es : List Expr) (t : TAm) : Prop where
  run : PA X es (tmX X.K c ms t)
theorem OwnAt.tr {S : Wd} {a : Addr} {p : PV} (h : OwnAt K S a p) : ∃ o, S.H a = some o := by
  cases p with
  | lst ps => obtain ⟨vs, e, _⟩ := h; exact ⟨_, e⟩
  | dic ks ps => obtain ⟨vs, e, _⟩ := h; exact ⟨_, e⟩
  | obj C dx ns ps => obtain ⟨_, vs, e, _⟩ := h; exact ⟨_, e⟩
  | pdic ks => obtain ⟨L, e, _⟩ := h; exact ⟨_, e⟩
  | _ => exact h.elim
variable {X : Cx} {e : Expr} {es : List Expr} {te : TEm} {t : TAm} {ms : List Md}
theorem xm_nil : PXm X c [] [] mNil := ⟨pa_nil.weak fun σ H Q h => by
  obtain ⟨G, A, W, env, P, R, h, k⟩ := h
  exact k [] [] H .nil h⟩
theorem xm_cl (ha : PEm X c .cl e te) (hr : PXm X c ms es t) (hs : starEach (e :: es) X.env = (false, eval e X.env) :: starEach es X.env := by rfl) : PXm X c (.cl :: ms) (e :: es) (mCons te t) := ⟨(pa_cons ha.run hr.run hs).weak fun σ H Q h => by
  obtain ⟨G, A, W, env, P, R, h, k⟩ := h
  exact ⟨G, A, W, env, _, R, h, fun px vx H1 g1 rx h1 => ⟨G, A, W, env, _, R.grow g1, h1, fun ps vs H2 ch h2 => k _ _ H2 (.cl g1 rx ch) h2⟩⟩⟩
theorem xm_fr (ha : PEm X c .fr e te) (hr : PXm X c ms es t) (hs : starEach (e :: es) X.env = (false, eval e X.env) :: starEach es X.env := by rfl) : PXm X c (.fr :: ms) (e :: es) (mCons te t) := ⟨(pa_cons ha.run hr.run hs).weak fun σ H Q h => by
  obtain ⟨G, A, W, env, P, R, h, k⟩ := h
  refine ⟨G, A, W, env, _, R, h, fun px vx H1 g1 rx h1 => ?_⟩
  obtain ⟨a, rfl, n, o⟩ := rx
  exact ⟨G.shun a, A, W, env, _, R.shun g1 n o.tr, h1, fun ps vs H2 ch h2 => k _ _ H2 (.fr g1 n o (ch.less fun b z => by
    rcases z with z | z
    · rcases z with z | z | z
      · exact .inl (.inl z)
      · exact .inr (.inl z)
      · exact .inr (.inr z)
    · exact .inl (.inr z))) h2⟩⟩
def mdO : Md → Ow
  | .fr => .ow
  | _ => .sh
/-- one name takes the first of them -/
theorem SR.chn {md : Md} {i : Nat} {p : PV} {v : V} {ps : List PV} {vs : List V} (R : SR K G c A W env σ H) (h : Chn K W (Zt G A W) H (md :: ms) (p :: ps) (v :: vs) H') (hi : i < c.length) (hl : cO c i ≠ .lk) :
    ∃ A1 H1, SR K G (c.set i (mdO md)) A1 W (env.set i (some p)) (σ.set i (some v)) H1 ∧ Chn K W (Zt G A1 W) H1 ms ps vs H' := by
  cases h with
  | cl g r ch => exact ⟨_, _, (R.grow g).set_sh hl r.c, ch.less fun b z => zt_drop z⟩
  | fr g n o ch =>
    refine ⟨_, _, R.set_ow hi hl g n o, ch.less fun b z => ?_⟩
    rcases z with z | z | ⟨j, z⟩
    · exact .inl (.inl z)
    · exact .inl (.inr (.inl z))
    · by_cases hj : j = i
      · subst hj; rw [putA_eq] at z; cases z; exact .inr rfl
      · rw [putA_ne hj] at z; exact .inl (.inr (.inr ⟨j, z⟩))
variable {f : Fx}
def setN {α : Type} (env : List (Option α)) : List Nat → List α → List (Option α)
  | i :: is, p :: ps => setN (env.set i (some p)) is ps
  | _, _ => env
def putMs (c : List Ow) : List Nat → List Md → List Ow
  | i :: is, m :: ms => putMs (c.set i (mdO m)) is ms
  | _, _ => c
def okPut (c : List Ow) : List Nat → List Md → Bool
  | i :: is, m :: ms => decide (i < c.length) && !decide (cO c i = .lk) && okPut (c.set i (mdO m)) is ms
  | [], [] => true
  | _, _ => false
theorem Chn.len {Z : Addr → Prop} {ps : List PV} {vs : List V} (h : Chn K W Z H ms ps vs H') : ms.length = ps.length ∧ ms.length = vs.length := by
  induction h with
  | nil => exact ⟨rfl, rfl⟩
  | cl _ _ _ ih => exact ⟨by rw [List.length_cons, List.length_cons, ih.1], by rw [List.length_cons, List.length_cons, ih.2]⟩
  | fr _ _ _ _ ih => exact ⟨by rw [List.length_cons, List.length_cons, ih.1], by rw [List.length_cons, List.length_cons, ih.2]⟩
theorem SR.chnN : ∀ {is : List Nat} {ms : List Md} {c : List Ow} {A : Nat → Option Addr} {env : Env} {σ : St} {H : Hp} {ps : List PV} {vs : List V}, SR K G c A W env σ H → Chn K W (Zt G A W) H ms ps vs H' → okPut c is ms = true → ∃ A', SR K G (putMs c is ms) A' W (setN env is ps) (setN σ is vs) H'
  | [], [], _, _, _, _, _, _, _, R, h, _ => by cases h; exact ⟨_, R⟩
  | [], _ :: _, _, _, _, _, _, _, _, _, _, ok => by cases ok
  | _ :: _, [], _, _, _, _, _, _, _, _, _, ok => by cases ok
  | i :: is, m :: ms, c, A, env, σ, H, ps, vs, R, h, ok => by
    have ok' : (decide (i < c.length) && !decide (cO c i = .lk) && okPut (c.set i (mdO m)) is ms) = true := ok
    rw [Bool.and_eq_true, Bool.and_eq_true] at ok'
    obtain ⟨⟨h1, h2⟩, h3⟩ := ok'
    have h2' : cO c i ≠ .lk := fun z => by rw [decide_eq_true z] at h2; cases h2
    cases ps with
    | nil => cases h
    | cons p ps =>
      cases vs with
      | nil => cases h
      | cons v vs =>
        obtain ⟨A1, H1, R1, ch⟩ := R.chn h (of_decide_eq_true h1) h2'
        have q := SR.chnN R1 ch h3
        exact q
def sPar (is : List Nat) (t : TAm) : TSm := fun M env => t env fun ps => M.nx (setN env is ps)
theorem sm_par {i j : Nat} {x y : Str} {a b : Expr} {px py pt pos : Pos} {kt k2 : Nat} {pt2 : Pos} (is : List Nat) (hc : X.calm = true) (hN : X.N.Nodup) (ha : PXm X c ms [a, b] t) (he : is = [i, j] := by rfl) (hi : X.N[i]? = some x := by rfl) (hj : X.N[j]? = some y := by rfl) (hij : i ≠ j := by decide)
    (hx : X.env.scope.names.lookup x = some .local := by rfl) (hy : X.env.scope.names.lookup y = some .local := by rfl) (ok : okPut c is ms = true := by decide)
    (hw : swappedStores [.Tuple [.Name x px, .Name y py] kt pt] (.Tuple [a, b] k2 pt2) X.env = pure (some [x, y]) := by rfl)
    (hs : swapsWithSole [.Tuple [.Name x px, .Name y py] kt pt] (.Tuple [a, b] k2 pt2) pos.line X.env = pure false := by rfl) :
    PSm X f c (putMs c is ms) (.Assign [.Tuple [.Name x px, .Name y py] kt pt] (.Tuple [a, b] k2 pt2) pos) (sPar is t) := ⟨(ps_par hc hN hi hj hij hx hy ha.run hw hs).weak fun D σ H h => by
  subst he
  obtain ⟨G, A, W, env, M, hg, R, h, k⟩ := h
  refine ⟨G, A, W, env, _, R, h, fun ps vs H2 ch h2 => ?_⟩
  obtain ⟨A', R'⟩ := R.chnN ch ok
  obtain ⟨v, w, rfl⟩ : ∃ v w, vs = [v, w] := by
    cases ms with
    | nil => cases ok
    | cons m1 ms =>
      cases ms with
      | nil => unfold okPut okPut at ok; rw [Bool.and_false] at ok; cases ok
      | cons m2 ms =>
        cases ms with
        | cons m3 ms => unfold okPut okPut okPut at ok; rw [Bool.and_false, Bool.and_false] at ok; cases ok
        | nil =>
          have hl := ch.len.2
          cases vs with
          | nil => cases hl
          | cons v vs =>
            cases vs with
            | nil => cases hl
            | cons w vs =>
              cases vs with
              | nil => exact ⟨v, w, rfl⟩
              | cons _ _ => cases hl
  exact ⟨v, w, rfl, k.nx _ _ _ _ _ R' h2⟩⟩
theorem sm_par3 {i j l : Nat} {x y z : Str} {a b d : Expr} {px py pz pt pos : Pos} {kt k2 : Nat} {pt2 : Pos} (is : List Nat) (hc : X.calm = true) (hN : X.N.Nodup) (ha : PXm X c ms [a, b, d] t) (he : is = [i, j, l] := by rfl) (hi : X.N[i]? = some x := by rfl) (hj : X.N[j]? = some y := by rfl) (hl : X.N[l]? = some z := by rfl) (hij : i ≠ j := by decide) (hil : i ≠ l := by decide) (hjl : j ≠ l := by decide)
    (hx : X.env.scope.names.lookup x = some .local := by rfl) (hy : X.env.scope.names.lookup y = some .local := by rfl) (hz : X.env.scope.names.lookup z = some .local := by rfl) (ok : okPut c is ms = true := by decide)
    (hw : swappedStores [.Tuple [.Name x px, .Name y py, .Name z pz] kt pt] (.Tuple [a, b, d] k2 pt2) X.env = pure (some [x, y, z]) := by rfl)
    (hs : swapsWithSole [.Tuple [.Name x px, .Name y py, .Name z pz] kt pt] (.Tuple [a, b, d] k2 pt2) pos.line X.env = pure false := by rfl) :
    PSm X f c (putMs c is ms) (.Assign [.Tuple [.Name x px, .Name y py, .Name z pz] kt pt] (.Tuple [a, b, d] k2 pt2) pos) (sPar is t) := ⟨(ps_par3 hc hN hi hj hl hij hil hjl hx hy hz ha.run hw hs).weak fun D σ H h => by
  subst he
  obtain ⟨G, A, W, env, M, hg, R, h, k⟩ := h
  refine ⟨G, A, W, env, _, R, h, fun ps vs H2 ch h2 => ?_⟩
  obtain ⟨A', R'⟩ := R.chnN ch ok
  obtain ⟨v, w, u, rfl⟩ : ∃ v w u, vs = [v, w, u] := by
    cases ms with
    | nil => cases ok
    | cons m1 ms =>
      cases ms with
      | nil => unfold okPut okPut at ok; rw [Bool.and_false] at ok; cases ok
      | cons m2 ms =>
        cases ms with
        | nil => unfold okPut okPut okPut at ok; rw [Bool.and_false, Bool.and_false] at ok; cases ok
        | cons m3 ms =>
          cases ms with
          | cons m4 ms => unfold okPut okPut okPut okPut at ok; rw [Bool.and_false, Bool.and_false, Bool.and_false] at ok; cases ok
          | nil =>
            have hl := ch.len.2
            cases vs with
            | nil => cases hl
            | cons v vs =>
              cases vs with
              | nil => cases hl
              | cons w vs =>
                cases vs with
                | nil => cases hl
                | cons u vs =>
                  cases vs with
                  | nil => exact ⟨v, w, u, rfl⟩
                  | cons _ _ => cases hl
  exact ⟨v, w, u, rfl, k.nx _ _ _ _ _ R' h2⟩⟩
/-- the same by way of a tuple -/
def gNs (is : List Nat) : TGs := fun vs σ H Q => vs.length = is.length ∧ Q (setN σ is vs) H
theorem pgs_n0 : PGs X [] (gNs []) := ⟨fun pins s σ H vs us Q I r h => pgs_nil.run pins s σ H vs us Q I r (by
  obtain ⟨e, h⟩ := h
  cases vs with
  | nil => exact ⟨rfl, h⟩
  | cons _ _ => cases e)⟩
theorem pgs_n {i : Nat} {is : List Nat} {x : Str} {p : Pos} (hN : X.N.Nodup) (h2 : PGs X es (gNs is)) (hi : X.N[i]? = some x := by rfl) (hx : Loc X.env.scope x := by first | exact Or.inl rfl | exact Or.inr rfl) (hf : X.fn x = true ∨ X.env.scope.names.lookup x = some .local := by first | exact .inl rfl | exact .inr rfl | assumption)
    (hs : (assignEach (.Name x p :: es) X.env).map (·.2) = assign (.Name x p) X.env :: (assignEach es X.env).map (·.2) := by rfl) : PGs X (.Name x p :: es) (gNs (i :: is)) := ⟨fun pins s σ H vs us Q I r h => (pgs_cons (pg_name hN hi hx hf) h2 hs).run pins s σ H vs us Q I r (by
  obtain ⟨e, h⟩ := h
  cases vs with
  | nil => cases e
  | cons v vs => exact ⟨v, vs, rfl, Nat.succ.inj e, h⟩)⟩
theorem okPut_len : ∀ {is : List Nat} {ms : List Md} {c : List Ow}, okPut c is ms = true → is.length = ms.length
  | [], [], _, _ => rfl
  | [], _ :: _, _, h => by cases h
  | _ :: _, [], _, h => by cases h
  | i :: is, m :: ms, c, h => by
    unfold okPut at h
    rw [Bool.and_eq_true] at h
    rw [List.length_cons, List.length_cons, okPut_len h.2]
theorem sm_parG {tgs : List Expr} {pt pos : Pos} {kt k2 n : Nat} {pt2 : Pos} (is : List Nat) (hc : X.calm = true) (hg : PGs X tgs (gNs is)) (ha : PXm X c ms es t) (ok : okPut c is ms = true := by decide) (hl : is.length ≤ sizeLine := by decide)
    (hs : swapsWithSole [.Tuple tgs kt pt] (.Tuple es k2 pt2) pos.line X.env = pure false := by rfl) (hw : swappedStores [.Tuple tgs kt pt] (.Tuple es k2 pt2) X.env = pure none := by rfl)
    (h1 : (assignEach [.Tuple tgs kt pt] X.env).map (·.2) = [assign (.Tuple tgs kt pt) X.env] := by rfl) (hn : (assignEach tgs X.env).length = n := by rfl) (hnl : is.length = n := by rfl) (hst : (assignEach tgs X.env).findIdx? (·.1) = none := by rfl) :
    PSm X f c (putMs c is ms) (.Assign [.Tuple tgs kt pt] (.Tuple es k2 pt2) pos) (sPar is t) := ⟨(ps_asg (pe_tup ha.run) (pg_tup hc hg hn hst) hs hw h1).weak fun D σ H h => by
  obtain ⟨G, A, W, env, M, hgw, R, h, k⟩ := h
  refine ⟨G, A, W, env, _, R, h, fun ps vs H2 ch h2 => ?_⟩
  obtain ⟨A', R'⟩ := R.chnN ch ok
  have hl2 : vs.length = is.length := ch.len.2.symm.trans (okPut_len ok).symm
  refine ⟨by rw [hl2]; exact hl, fun T nT => ⟨T, vs, rfl, .inl (.inl upd_same), hl2.trans hnl, hl2, ?_⟩⟩
  exact k.nx _ _ _ _ _ (R'.grow (Grow.new R'.src nT)) h2⟩
end

/-! ### a part of any line, a line turned round -/
def oSl : PV → Option Int → Option Int → (PV → Prop) → Prop := fun x l u P => match x with
  | .lst ps => P (.lst (cutP ps l u))
  | .tup ps => P (.tup (cutP ps l u))
  | _ => False
def oRev : PO1 := fun x P => match x with
  | .lst ps => P (.lst ps.reverse)
  | .tup ps => P (.tup ps.reverse)
  | _ => False
section
variable {X : Cx} {c : List Ow} {e : Expr} {lo hi : Option Expr} {te : TEm} {tl th : Env → (Option Int → Prop) → Prop} {pos p2 : Pos}
theorem em_sl (he : PEm X c .ow e te) (hl : POm X c lo tl) (hu : POm X c hi th) : PEm X c .cl (.Subscript e (.Slice lo hi none p2) pos) (mSl oSl te tl th) := ⟨(pe_slice (SlR.or sl_list sl_tupA) he.run hl.run hu.run).weak fun σ H Q h => by
  obtain ⟨G, A, W, env, P, R, h, k⟩ := h
  refine ⟨G, A, W, env, _, R, h, fun px vx H1 g1 rx h1 => ⟨G, A, W, env, _, R.grow g1, h1, fun l H2 g2 h2 => ⟨G, A, W, env, _, (R.grow g1).grow g2, h2, fun u H3 g3 h3 => ?_⟩⟩⟩
  have R3 := ((R.grow g1).grow g2).grow g3
  have rx3 := RpO.grow R.sz (g2.trans g3) rx.o
  cases px with
  | lst ps =>
    have h3' : P (.lst (cutP ps l u)) := h3
    obtain ⟨a, vs, rfl, e, r⟩ := RpO.lst rx3
    refine .inl ⟨a, vs, rfl, .inl (.inl e.2), fun p n => k _ _ _ (((g1.trans g2).trans g3).trans (Grow.new R3.src n)) (VK1.ofRp (OwnAt.cl (R3.nz n) (OwnAt.newLst n (r.cut l u)))) h3'⟩
  | tup ps =>
    have h3' : P (.tup (cutP ps l u)) := h3
    have rx4 : Rp X.K ⟨Zt G A W, W, H3⟩ (.tup ps) vx := rx3
    obtain ⟨a, vs, rfl, e, r⟩ := RpO.tup rx3
    refine .inr ⟨a, vs, rfl, e.sq, fun w => ?_, fun _ p n => ?_⟩
    · rw [← r.len] at w
      rw [cut_whole w] at h3'
      exact k _ _ H3 ((g1.trans g2).trans g3) (VK1.ofRp rx4) h3'
    · exact k _ _ _ (((g1.trans g2).trans g3).trans (Grow.new R3.src n)) (VK1.ofRp (Rp.newTup (R3.nz n) n R3.src R.sz (r.cut l u))) h3'
  | _ => exact h3.elim⟩
theorem em_rev {k : Nat} {p1 p3 p4 : Pos} (he : PEm X c .ow e te) : PEm X c .cl (.Subscript e (.Slice none none (some (.UnaryOp .USub (.Constant (.int 1) k p1) p4)) p3) pos) (mOp1 oRev te) := ⟨(pe_revA he.run).weak fun σ H Q h => by
  obtain ⟨G, A, W, env, P, R, h, kk⟩ := h
  refine ⟨G, A, W, env, _, R, h, fun px vx H1 g1 rx h1 => ?_⟩
  have R1 := R.grow g1
  have rx3 := rx.o
  cases px with
  | lst ps =>
    have h3' : P (.lst ps.reverse) := h1
    obtain ⟨a, vs, rfl, e, r⟩ := RpO.lst rx3
    exact ⟨a, vs, rfl, .inl ⟨.inl (.inl e.2), fun p n => kk _ _ _ (g1.trans (Grow.new R1.src n)) (VK1.ofRp (OwnAt.cl (R1.nz n) (OwnAt.newLst n r.reverse))) h3'⟩⟩
  | tup ps =>
    have h3' : P (.tup ps.reverse) := h1
    obtain ⟨a, vs, rfl, e, r⟩ := RpO.tup rx3
    exact ⟨a, vs, rfl, .inr ⟨e.sq, fun p n => kk _ _ _ (g1.trans (Grow.new R1.src n)) (VK1.ofRp (Rp.newTup (R1.nz n) n R1.src R.sz r.reverse)) h3'⟩⟩
  | _ => exact h1.elim⟩
end

/-! ### dicts -/
def pkey : PV → Option Key
  | .int i => some (.inl i)
  | .str x => some (.inr x)
  | _ => none
theorem pkey_v {K : PySem.W.Frag} {Z : Addr → Prop} {W : Ws} {H : Hp} {p : PV} {v : V} {k : Key} (h : pkey p = some k) (r : RpO K ⟨Z, W, H⟩ p v) : v = kV k := by
  cases p with
  | int i => cases h; exact r.int
  | str x => cases h; exact r.str
  | _ => cases h
/-- the place of a key -/
def kAt (ks : List Key) (k : Key) : Option Nat := ks.findIdx? (fun j => decide (j = k))
def kPut (ks : List Key) (vs : List PV) (k : Key) (v : PV) : PV := match kAt ks k with
  | some i => .dic ks (vs.set i v)
  | none => .dic (ks ++ [k]) (vs ++ [v])
theorem valV_zip {k : Key} : ∀ {ks : List Key} {vs : List V}, ks.length = vs.length → valV (ks.zip vs) k = (kAt ks k).bind (vs[·]?)
  | [], [], _ => rfl
  | j :: ks, v :: vs, h => by
    have ih := valV_zip (k := k) (ks := ks) (vs := vs) (by simpa using h)
    unfold kAt at ih ⊢
    rw [List.zip_cons_cons, List.findIdx?_cons]
    by_cases e : j = k
    · rw [valV_pos (p := (j, v)) e, if_pos (decide_eq_true e)]; rfl
    · rw [valV_neg (p := (j, v)) e, ih, if_neg (by simpa using e)]
      cases ks.findIdx? (fun j => decide (j = k)) with
      | none => rfl
      | some i => rfl
theorem kAt_none {ks : List Key} {k : Key} (h : kAt ks k = none) : ∀ j ∈ ks, j ≠ k := fun j hj => by
  unfold kAt at h
  rw [List.findIdx?_eq_none_iff] at h
  exact of_decide_eq_false (h j hj)
theorem map_same {k : Key} {v : V} : ∀ {ks : List Key} {vs : List V}, (∀ j ∈ ks, j ≠ k) → (ks.zip vs).map (fun kv => if kv.1 = k then (kv.1, v) else kv) = ks.zip vs
  | [], _, _ => rfl
  | _ :: _, [], _ => rfl
  | j :: ks, w :: vs, h => by
    rw [List.zip_cons_cons, List.map_cons, map_same (fun i hi => h i (List.mem_cons_of_mem _ hi)), if_neg (h j (List.mem_cons_self ..))]
theorem map_put {k : Key} {v : V} : ∀ {ks : List Key} {vs : List V} {i : Nat}, ks.Nodup → kAt ks k = some i → (ks.zip vs).map (fun kv => if kv.1 = k then (kv.1, v) else kv) = ks.zip (vs.set i v)
  | [], _, _, _, h => by cases h
  | _ :: _, [], i, _, _ => by simp
  | j :: ks, w :: vs, i, hn, h => by
    rw [List.nodup_cons] at hn
    unfold kAt at h
    rw [List.findIdx?_cons] at h
    by_cases e : j = k
    · rw [if_pos (decide_eq_true e)] at h
      cases h
      subst e
      rw [List.zip_cons_cons, List.map_cons, map_same (fun i hi z => hn.1 (by rw [← z]; exact hi)), if_pos rfl, List.set_cons_zero, List.zip_cons_cons]
    · rw [if_neg (by simpa using e)] at h
      cases q : ks.findIdx? (fun j => decide (j = k)) with
      | none => rw [q] at h; cases h
      | some m =>
        rw [q] at h
        cases h
        rw [List.zip_cons_cons, List.map_cons, map_put hn.2 q, if_neg e, List.set_cons_succ, List.zip_cons_cons]
theorem putK_zip {k : Key} {v : V} {ks : List Key} {vs : List V} (hn : ks.Nodup) (hl : ks.length = vs.length) : putK (ks.zip vs) k v = match kAt ks k with
    | some i => ks.zip (vs.set i v)
    | none => (ks ++ [k]).zip (vs ++ [v]) := by
  cases q : kAt ks k with
  | none =>
    have : valV (ks.zip vs) k = none := by rw [valV_zip hl, q]; rfl
    rw [putK_new v this]
    show _ = (ks ++ [k]).zip (vs ++ [v])
    rw [List.zip_append hl]
    rfl
  | some i =>
    have hi : i < vs.length := by
      unfold kAt at q
      obtain ⟨h, _⟩ := List.findIdx?_eq_some_iff_getElem.mp q
      rw [← hl]; exact h
    have : (valV (ks.zip vs) k).isSome = true := by rw [valV_zip hl, q]; simp [hi]
    unfold putK
    rw [valV_any, if_pos this]
    exact map_put hn q
section
variable {X : Cx} {c : List Ow} {e d : Expr} {te td : TEm} {pos p2 : Pos} {md : Md} {f : Fx}
theorem em_dnew : PEm X c .fr (.Dict [] [] pos) (mC (.dic [] [])) := ⟨pe_dnewK.weak fun σ H Q h p n => by
  obtain ⟨G, A, W, env, P, R, h, k⟩ := h
  exact k (.dic [] []) (.ref p) _ (Grow.new R.src n) ⟨p, rfl, n, ⟨[], upd_same, rfl, Rps.nil⟩⟩ h⟩
/-- d[y] -/
def oDGet : PO2 := fun d y P => ∃ ks vs k i v, d = .dic ks vs ∧ pkey y = some k ∧ kAt ks k = some i ∧ vs[i]? = some v ∧ P v
theorem em_dget (hu : X.A.units + 1 < cLine) (hd : PEm X c .ow d td) (he : PEm X c .ow e te) (hs : NoSl e) : PEm X c .cl (.Subscript d e pos) (mOp oDGet td te) := ⟨(pe_dget hu hd.run he.run hs).weak fun σ H Q h => by
  obtain ⟨G, A, W, env, P, R, h, k⟩ := h
  refine ⟨G, A, W, env, _, R, h, fun px vx H1 g1 rx h1 => ⟨G, A, W, env, _, R.grow g1, h1, fun py vy H2 g2 ry h2 => ?_⟩⟩
  obtain ⟨ks, vs, key, i, v, rfl, hk, hi, hv, hp⟩ := h2
  have rx2 := RpO.grow R.sz g2 rx.o
  obtain ⟨a, ws, rfl, hw, hH, hl, r⟩ := rx2
  obtain ⟨w, h3, rw3⟩ := r.get hv
  refine ⟨a, w, rfl, ?_, k v w H2 (g1.trans g2) (VK1.ofRp rw3) hp⟩
  rw [pkey_v hk ry.o]
  have : valV (ks.zip ws) key = some w := by rw [valV_zip hl, hi]; exact h3
  rw [← this]
  exact DGet.k hH⟩
/-- d[k] = e for a dict of one's own -/
def sDPutm (i : Nat) (ti te : TEm) : TSm := fun M env => te env fun p => ∃ ks ps, env[i]? = some (some (.dic ks ps)) ∧ ti env fun q => ∃ k, pkey q = some k ∧ ks.Nodup ∧ ks.length < sizeLine ∧ M.nx (env.set i (some (kPut ks ps k p)))
theorem sm_dput (i : Nat) {x : Str} {p1 p3 : Pos} {ei : Expr} {ti : TEm} (hu : X.A.units + 1 < cLine) (he : PEm X c .cl e te) (hk : PEm X c .ow ei ti) (hN : X.N[i]? = some x := by rfl) (hc : cO c i = .ow := by rfl) (hv : Vis X.env.scope x := by first | exact Or.inl rfl | exact Or.inr (Or.inl rfl) | exact Or.inr (Or.inr rfl)) (hd : (x == ("__debug__" : Str)) = false := by decide)
    (hcd : (x == ("__classdict__" : Str)) = false := by decide) (hs : swapsWith e (some (.Subscript (.Name x p1) ei p3)) pos.line X.env = pure false := by rfl) :
    PSm X f c c (.Assign [.Subscript (.Name x p1) ei p3] e pos) (sDPutm i ti te) := ⟨(ps_dput hu (pe_var hN hv hd hcd) hk.run he.run hs).weak fun D σ H h => by
  obtain ⟨G, A, W, env, M, hg, R, h, k⟩ := h
  refine ⟨G, A, W, env, _, R, h, fun p v H1 g rv ⟨ks, ps, e0, h1⟩ => ?_⟩
  have R1 := R.grow g
  obtain ⟨a, hA⟩ := R1.Aset i _ (by rw [hc]; decide) e0
  obtain ⟨v0, hσ, hh⟩ := R1.slots i _ e0
  rw [hA] at hh
  obtain ⟨rfl, _⟩ := hh
  refine ⟨.ref a, hσ, G, A, W, env, _, R1, h1, fun q w H2 g2 rq ⟨key, hkq, hnd, hsz, h2⟩ => ?_⟩
  have R2 := R1.grow g2
  obtain ⟨v2, _, hh2⟩ := R2.slots i _ e0
  rw [hA] at hh2
  obtain ⟨_, ws, hH2, hl, r2⟩ := hh2
  have rv2 : Rp X.K ⟨Zt G A W, W, H2⟩ p v := Rp.ext (g2.ext R.sz) rv.c
  have hzl : (ks.zip ws).length < sizeLine := by rw [List.length_zip, ← hl, Nat.min_self]; exact hsz
  refine ⟨a, upd H2 a (.dK (putK (ks.zip ws) key v)), rfl, ?_, ?_⟩
  · rw [pkey_v hkq rq.o]
    exact DPut.k hH2 hzl
  · refine k.nx A W _ σ _ (R2.mut e0 hA hc ?_) h2
    have za : Zt G A W a := .inr (.inr ⟨i, hA⟩)
    have x : ∀ o, Ext ⟨Zt G A W, W, H2⟩ ⟨Zt G A W, W, upd H2 a o⟩ := fun o => ⟨fun b w hz e => ⟨hz, by show upd H2 a o b = some w; rw [upd_ne (fun z => hz (by rw [z]; exact za))]; exact e⟩, fun _ h => h⟩
    rw [putK_zip hnd hl]
    unfold kPut
    cases hq : kAt ks key with
    | none => exact ⟨ws ++ [v], upd_same, by rw [List.length_append, List.length_append, hl]; rfl, Rps.ext (x _) (r2.append (Rps.cons rv2 Rps.nil))⟩
    | some j => exact ⟨ws.set j v, upd_same, by rw [List.length_set, hl], Rps.ext (x _) (Rps.set rv2 j r2)⟩⟩
/-- y in d -/
def oDIn (neg : Bool) : PO2 := fun y d P => ∃ ks vs k, d = .dic ks vs ∧ pkey y = some k ∧ P (.bl (xor neg (kAt ks k).isSome))
def rDIn (neg : Bool) : R2 := fun y x H Q => ∃ a o, x = .ref a ∧ DGet H a y o ∧ Q (.bl (xor neg o.isSome)) H
theorem op_din (hu : X.A.units + 1 < cLine) : OpR X (compareOp .In) (rDIn false) := fun pins s σ H x y v u Q I rx ry ⟨a, o, e, g, q⟩ => by
  subst e
  obtain rfl : u = Value.ref a := ry
  refine d_in hu I g rx fun s3 I3 => ⟨_, H, I3, ?_, q⟩
  rw [Bool.false_xor]; rfl
theorem op_dnin (hu : X.A.units + 1 < cLine) : OpR X (compareOp .NotIn) (rDIn true) := fun pins s σ H x y v u Q I rx ry ⟨a, o, e, g, q⟩ => by
  subst e
  obtain rfl : u = Value.ref a := ry
  refine d_notIn hu I g rx fun s3 I3 => ⟨_, H, I3, ?_, q⟩
  rw [Bool.true_xor]; rfl
theorem lift_din {K : PySem.W.Frag} {neg : Bool} : Lift2 K (rDIn neg) (oDIn neg) .cl := by
  rintro Z W H px py vx vy P Q S rx ry ⟨ks, vs, k, rfl, hk, hp⟩ kk
  obtain ⟨a, ws, rfl, hw, hH, hl, r⟩ := ry
  refine ⟨a, valV (ks.zip ws) k, rfl, by rw [pkey_v hk rx]; exact DGet.k hH, ?_⟩
  have : (valV (ks.zip ws) k).isSome = (kAt ks k).isSome := by
    rw [valV_zip hl]
    cases q : kAt ks k with
    | none => rfl
    | some i =>
      have hi : i < ws.length := by
        unfold kAt at q
        obtain ⟨h, _⟩ := List.findIdx?_eq_some_iff_getElem.mp q
        rw [← hl]; exact h
      simp [hi]
  rw [this]
  exact kk _ _ H (Grow.refl S.src) (VK1.ofRp Rp.bl') hp
end

/-! ### a chain of two comparisons -/
def mChain (o o' : PO2) (ta tb tc : TEm) : TEm := fun env P => ta env fun x => tb env fun y => o x y fun z => ∃ k, z = .bl k ∧ if k = true then tc env fun w => o' y w P else P (.bl false)
section
variable {X : Cx} {c : List Ow} {a b d : Expr} {ta tb td : TEm} {pos : Pos} {op op' : CmpOp} {r r' : R2} {o o' : PO2}
theorem tmChain {K : PySem.W.Frag} (L : Lift2 K r o .cl) (L' : Lift2 K r' o' .cl) (σ : St) (H : Hp) (Q : VK) (h : tmE K c .cl (mChain o o' ta tb td) σ H Q) : tChain r r' (tmE K c .ow ta) (tmE K c .ow tb) (tmE K c .ow td) σ H Q := by
  obtain ⟨G, A, W, env, P, R, h, k⟩ := h
  refine ⟨G, A, W, env, _, R, h, fun px vx H1 g1 rx h1 => ⟨G, A, W, env, _, R.grow g1, h1, fun py vy H2 g2 ry h2 => ?_⟩⟩
  have R2 := (R.grow g1).grow g2
  refine L _ W H2 px py vx vy _ _ R2.sit (RpO.grow R.sz g2 rx.o) ry.o h2 fun pz vz H3 g3 rz ⟨j, e, h3⟩ => ⟨j, by subst e; exact VK1.bl rz, ?_⟩
  have R3 := R2.grow g3
  cases j with
  | false => rw [if_neg Bool.false_ne_true] at h3 ⊢; exact k _ _ H3 ((g1.trans g2).trans g3) (VK1.ofRp Rp.bl') h3
  | true =>
    rw [if_pos rfl] at h3 ⊢
    refine ⟨G, A, W, env, _, R3, h3, fun pw vw H4 g4 rw4 h4 => ?_⟩
    exact L' _ W H4 py pw vy vw P Q (R3.grow g4).sit (RpO.grow R.sz (g3.trans g4) ry.o) rw4.o h4 fun p v H5 g5 r5 hp => k p v H5 ((((g1.trans g2).trans g3).trans g4).trans g5) (r5.back (((g1.trans g2).trans g3).trans g4)) hp
theorem em_chain (ho : OpR X (compareOp op) r) (L : Lift2 X.K r o .cl) (ho' : OpR X (compareOp op') r') (L' : Lift2 X.K r' o' .cl) (ha : PEm X c .ow a ta) (hb : PEm X c .ow b tb) (hd : PEm X c .ow d td) (hm : lastMarks [op, op'] [b, d] = false := by with_unfolding_all rfl) :
    PEm X c .cl (.Compare a [op, op'] [b, d] pos) (mChain o o' ta tb td) := ⟨(pe_chain ho ho' ha.run hb.run hd.run hm).weak fun σ H Q h => tmChain L L' σ H Q h⟩
theorem tm_chain (ho : OpR X (compareOp op) r) (L : Lift2 X.K r o .cl) (ho' : OpR X (compareOp op') r') (L' : Lift2 X.K r' o' .cl) (ha : PEm X c .ow a ta) (hb : PEm X c .ow b tb) (hd : PEm X c .ow d td) (hm : lastMarks [op, op'] [b, d] = false := by with_unfolding_all rfl) :
    PTm X c (.Compare a [op, op'] [b, d] pos) (mTB (mChain o o' ta tb td)) := ⟨(pt_chain ho ho' ha.run hb.run hd.run hm).weak fun σ H Q h => by
  obtain ⟨G, A, W, env, P, R, h, k⟩ := h
  refine tmChain L L' σ H _ ⟨G, A, W, env, _, R, h, fun p v H1 g1 r ⟨j, e, h1⟩ => ⟨j, ?_, k j H1 g1 h1⟩⟩
  subst e
  exact VK1.bl r⟩
end
end PM

set_option maxHeartbeats 1000000
/-! PM: great products, the script's parts, x.append(y.pop(e)), sources, the law's def. -/
namespace PM
open PySem L2
section
variable {K : PySem.W.Frag}
def oMulW : PO2 := fun x y P => ∃ i j, x = .int i ∧ y = .int j ∧ CMulW i j ∧ P (.int (i * j))
theorem lift_mulW : Lift2 K (rI CMulW fun i j => .int (i * j)) oMulW .cl := by
  rintro Z W H px py vx vy P Q S rx ry ⟨i, j, rfl, rfl, hc, hp⟩ k
  exact ⟨i, j, rx.int, ry.int, hc, S.fin k Rp.int' hp⟩
end
section
variable {K : PySem.W.Frag}
def oAddI : PO2 := fun x y P => ∃ i j, x = .int i ∧ y = .int j ∧ P (.int (i + j))
theorem lift_addI : Lift2 K (rI0 fun i j => .int (i + j)) oAddI .cl := by
  rintro Z W H px py vx vy P Q S rx ry ⟨i, j, rfl, rfl, hp⟩ k
  exact ⟨i, j, rx.int, ry.int, S.fin k Rp.int' hp⟩
end
def oSlS : PV → Option Int → Option Int → (PV → Prop) → Prop := fun x l u P => ∃ ns : List Int, x = .scr ns ∧ P (.lst (cutP (ns.map .int) l u))
section
variable {X : Cx} {c : List Ow} {e : Expr} {lo hi : Option Expr} {te : TEm} {tl th : Env → (Option Int → Prop) → Prop} {pos p2 : Pos}
theorem em_slS (he : PEm X c .ow e te) (hl : POm X c lo tl) (hu : POm X c hi th) : PEm X c .fr (.Subscript e (.Slice lo hi none p2) pos) (mSl oSlS te tl th) := ⟨(pe_slice sl_list he.run hl.run hu.run).weak fun σ H Q h => by
  obtain ⟨G, A, W, env, P, R, h, k⟩ := h
  refine ⟨G, A, W, env, _, R, h, fun px vx H1 g1 rx h1 => ⟨G, A, W, env, _, R.grow g1, h1, fun l H2 g2 h2 => ⟨G, A, W, env, _, (R.grow g1).grow g2, h2, fun u H3 g3 h3 => ?_⟩⟩⟩
  have R3 := ((R.grow g1).grow g2).grow g3
  obtain ⟨ns, rfl, hp⟩ := h3
  have rx3 := RpO.grow R.sz (g2.trans g3) rx.o
  unfold RpO Rp at rx3
  obtain ⟨a, rfl, e⟩ := rx3
  have e' : SqL X.K H3 a (ns.map V.int) := e.elim (fun z => let ⟨o, w⟩ := z.2; .inl (.inr ⟨o, w⟩)) .inr
  have r : Rps X.K ⟨Zt G A W, W, H3⟩ (ns.map PV.int) (ns.map V.int) := Rps.ints.mpr rfl
  exact ⟨a, _, rfl, e', fun p n => k _ _ _ (((g1.trans g2).trans g3).trans (Grow.new R3.src n)) ⟨p, rfl, ((g1.trans g2).trans g3).free n, OwnAt.newLst n (r.cut l u)⟩ hp⟩⟩
end
/-! ### x.append(y.pop(e)) -/
def sAppPop (i j : Nat) (te : TEm) : TSm := fun M env => ∃ ps qs, env[i]? = some (some (.lst ps)) ∧ env[j]? = some (some (.lst qs)) ∧ te env fun q => ∃ (m : Int) (n : Nat) (p : PV), q = .int m ∧ (-(2 ^ 63) ≤ m ∧ m < 2 ^ 63) ∧ ixN qs.length m = some n ∧ qs[n]? = some p ∧ ps.length < sizeLine ∧
  M.nx ((env.set j (some (.lst (qs.eraseIdx n)))).set i (some (.lst (ps ++ [p]))))
section
variable {X : Cx} {f : Fx} {c : List Ow} {e : Expr} {te : TEm} {pos : Pos}
theorem sm_appPop (i j : Nat) {x y : Str} {p1 p2 cpos p3 p4 cpos2 : Pos} (hij : i ≠ j := by decide) (he : PEm X c .ow e te) (hN : X.N[i]? = some x := by rfl) (hM : X.N[j]? = some y := by rfl) (hc : cO c i = .ow := by rfl) (hc2 : cO c j = .ow := by rfl)
    (hv : Vis X.env.scope x := by first | exact Or.inl rfl | exact Or.inr (Or.inl rfl) | exact Or.inr (Or.inr rfl)) (hd : (x == ("__debug__" : Str)) = false := by decide) (hcd : (x == ("__classdict__" : Str)) = false := by decide)
    (hv2 : Vis X.env.scope y := by first | exact Or.inl rfl | exact Or.inr (Or.inl rfl) | exact Or.inr (Or.inr rfl)) (hd2 : (y == ("__debug__" : Str)) = false := by decide) (hcd2 : (y == ("__classdict__" : Str)) = false := by decide)
    (hbase : attributeBase (.Name x p1) "append" X.env (eval (.Name x p1) X.env) = eval (.Name x p1) X.env := by rfl)
    (hbase2 : attributeBase (.Name y p3) "pop" X.env (eval (.Name y p3) X.env) = eval (.Name y p3) X.env := by rfl)
    (hfew : ((backTo cpos (starEach [.Call (.Attribute (.Name y p3) "pop" p4) [e] [] cpos2] X.env)).all (fun x => !x.1) && (backToKw cpos (keywordEach [] X.env)).all (fun x => x.1.isSome)
      && decide (([.Call (.Attribute (.Name y p3) "pop" p4) [e] [] cpos2] : List Expr).length + ([] : List Keyword).length + (if ([] : List Keyword).isEmpty then 0 else 1) < 30)) = true := by rfl)
    (hfew2 : ((backTo cpos2 (starEach [e] X.env)).all (fun x => !x.1) && (backToKw cpos2 (keywordEach [] X.env)).all (fun x => x.1.isSome)
      && decide (([e] : List Expr).length + ([] : List Keyword).length + (if ([] : List Keyword).isEmpty then 0 else 1) < 30)) = true := by rfl)
    (hline : (p2.endLine == cpos.line) = true := by rfl) (hline2 : (p4.endLine == cpos2.line) = true := by rfl)
    (hs : starEach [.Call (.Attribute (.Name y p3) "pop" p4) [e] [] cpos2] X.env = (false, eval (.Call (.Attribute (.Name y p3) "pop" p4) [e] [] cpos2) X.env) :: starEach [] X.env := by rfl) (hplain : (backTo cpos (starEach [] X.env)).any (·.1) = false := by rfl)
    (hs2 : starEach [e] X.env = (false, eval e X.env) :: starEach [] X.env := by rfl) (hplain2 : (backTo cpos2 (starEach [] X.env)).any (·.1) = false := by rfl)
    (hsw : swapsWith (.Call (.Attribute (.Name x p1) "append" p2) [.Call (.Attribute (.Name y p3) "pop" p4) [e] [] cpos2] [] cpos) none pos.line X.env = pure false := by rfl) :
    PSm X f c c (.Expr (.Call (.Attribute (.Name x p1) "append" p2) [.Call (.Attribute (.Name y p3) "pop" p4) [e] [] cpos2] [] cpos) pos) (sAppPop i j te) :=
  ⟨(ps_expr (pe_bm PySem.F.plainAttrs_list PySem.F.slot_list_append PySem.F.type_list_append mt_append (pe_var hN hv hd hcd)
      (pa_cons (pe_bm PySem.F.plainAttrs_list PySem.F.slot_list_pop PySem.F.type_list_pop mt_popAt (pe_var hM hv2 hd2 hcd2) (pa_cons he.run pa_nil hs2) hbase2 hfew2 hline2 hs2 hplain2) pa_nil hs) hbase hfew hline hs hplain) hsw).weak fun D σ H h => by
  obtain ⟨G, A, W, env, M, hg, R, ⟨ps, qs, e0, e1, h⟩, k⟩ := h
  obtain ⟨a, hA, hσ, vs, hH, r⟩ := R.mine hc e0
  obtain ⟨b, hB, hτ, ws, hHb, rb⟩ := R.mine hc2 e1
  refine ⟨.ref a, hσ, .inl ⟨rfl, vs, .inl (.inl hH)⟩, .ref b, hτ, .inl ⟨rfl, ws, .inl (.inl hHb)⟩, G, A, W, env, _, R, h, fun q w H1 g rq ⟨m, n, p, eq, ⟨hm1, hm2⟩, hix, hp, hl, h1⟩ => ?_⟩
  subst eq
  have R1 := R.grow g
  obtain ⟨b', hB', _, ws1, hH1, r1⟩ := R1.mine hc2 e1
  rw [hB] at hB'; cases hB'
  obtain ⟨v, ev, rv⟩ := r1.get hp
  rw [r1.len] at hix
  refine ⟨b, ws1, m, n, v, rfl, by rw [rq.o.int], hH1, hm1, hm2, (ixN_seq hix).1, ev, ?_⟩
  have zb : Zt G A W b := .inr (.inr ⟨j, hB⟩)
  have R2 := R1.mut e1 hB hc2 (OwnAt.mutL zb (r1.eraseIdx n))
  have xx : Ext ⟨Zt G A W, W, H1⟩ ⟨Zt G A W, W, upd H1 b (.lst (ws1.eraseIdx n))⟩ := ⟨fun u o hz e => ⟨hz, by show upd H1 b _ u = some o; rw [upd_ne (fun z => hz (by rw [z]; exact zb))]; exact e⟩, fun _ h => h⟩
  have e0' : (env.set j (some (.lst (qs.eraseIdx n))))[i]? = some (some (.lst ps)) := by rw [List.getElem?_set_ne (Ne.symm hij)]; exact e0
  obtain ⟨a', hA', _, us, hH2, r2⟩ := R2.mine hc e0'
  rw [hA] at hA'; cases hA'
  refine ⟨a, us, v, rfl, rfl, hH2, by rw [← r2.len]; exact hl, ?_⟩
  exact k.nx A W _ σ _ (R2.mut e0' hA hc (OwnAt.mutL (.inr (.inr ⟨i, hA⟩)) (r2.append (Rps.cons (Rp.ext xx rv) Rps.nil)))) h1⟩
end

/-! ### sources of draws -/
/-- what the maker of a source promises -/
def spSrc (K : PySem.W.Frag) (ok : List PV → Prop) : Sp := fun vs H Q _ => ∃ (Z : Addr → Prop) (W : Ws) (ps : List PV), (∀ b, Z b → ∃ o, H b = some o) ∧ (∀ q ∈ W, SA H q) ∧ (∀ b, inW W b → Z b) ∧ Rps K ⟨Z, W, H⟩ ps vs ∧ ok ps ∧ ∀ H' q, GrowA H H' → H q.1 = none → H q.2 = none → SA H' q → Q (.ref q.1) H'
section
variable {K : PySem.W.Frag} {G : Gh} {c : List Ow} {A : Nat → Option Addr} {W : Ws} {env : Env} {σ : St} {H H' : Hp}
theorem SR.addW {q : Addr × Addr} (R : SR K G c A W env σ H) (hg : G.gw = true) (g : GrowA H H') (n1 : H q.1 = none) (n2 : H q.2 = none) (s : SA H' q) : SR K G c A (q :: W) env σ H' := by
  have R1 := R.grow (g.grow R.src)
  have nt : ∀ b o, H b = some o → ¬ (b = q.1 ∨ b = q.2) := fun b o e z => by
    rcases z with z | z
    · rw [z, n1] at e; cases e
    · rw [z, n2] at e; cases e
  have iw : ∀ b, inW (q :: W) b → inW W b ∨ (b = q.1 ∨ b = q.2) := fun b ⟨p, hp, e⟩ => by
    rcases List.mem_cons.mp hp with z | z
    · rw [z] at e; exact .inr e
    · exact .inl ⟨p, z, e⟩
  have zt : ∀ b, Zt G A (q :: W) b → Zt G A W b ∨ (b = q.1 ∨ b = q.2) := fun b z => by
    rcases z with z | z | z
    · exact .inl (.inl z)
    · exact (iw b z).imp (fun z => .inr (.inl z)) id
    · exact .inl (.inr (.inr z))
  have x : Ext ⟨Zt G A W, W, H⟩ ⟨Zt G A (q :: W), q :: W, H'⟩ := ⟨fun b o hz e => ⟨fun z => (zt b z).elim hz (nt b o e), g b o e⟩, fun p hp => List.mem_cons_of_mem _ hp⟩
  refine ⟨R.len, fun p hp => List.mem_cons_of_mem _ (R.W0in p hp), fun p hp => List.mem_cons_of_mem _ (R.Wmin p hp), fun p hp => ?_, (fun z => by rw [hg] at z; cases z), fun p hp => ?_, R1.keep, R1.zbt, fun i a e => ?_, R.Ainj, R.Aset, fun i p e => ?_, fun u hu => ?_, fun b o e => ?_⟩
  · rcases List.mem_cons.mp hp with z | z
    · rw [z]; exact .inr ⟨R.h0 n1, R.h0 n2⟩
    · exact R.Wnew p z
  · rcases List.mem_cons.mp hp with z | z
    · rw [z]; exact s
    · exact R1.src p z
  · obtain ⟨h1, h2, h3, h4, h5⟩ := R1.Asep i a e
    obtain ⟨o, e5⟩ := (R.Asep i a e).2.2.2.2
    exact ⟨h1, fun z => (iw a z).elim h2 (nt a o e5), h3, h4, h5⟩
  · obtain ⟨v, h1, h2⟩ := R.slots i p e
    refine ⟨v, h1, ?_⟩
    cases hA : A i with
    | none => rw [hA] at h2; exact Rp.ext x h2
    | some a =>
      rw [hA] at h2
      obtain ⟨_, _, _, _, o, e5⟩ := R.Asep i a hA
      exact ⟨h2.1, h2.2.ext x (by show H' a = H a; rw [e5, g a o e5])⟩
  · obtain ⟨h1, h2, h3, h4⟩ := R1.pins u hu
    obtain ⟨h1', _, _, _⟩ := R.pins u hu
    exact ⟨h1, fun z => (iw _ z).elim h2 (nt _ _ h1'), h3, h4⟩
  · obtain ⟨h1, h2⟩ := R.fz b o e
    exact ⟨g b o h1, fun z => (zt b z).elim h2 (nt b o h1)⟩
end
def sSrc (i : Nat) (ok : List PV → Prop) (t : TAm) : TSm := fun M env => t env fun ps => ok ps ∧ M.nx (env.set i (some .src))
section
variable {X : Cx} {f : Fx} {c : List Ow} {k : Nat} {fa : Addr} {fd : FuncData} {pns : List Str} {ok : List PV → Prop} {x y : Str} {p pos pos' cpos : Pos} {e : Expr} {es : List Expr} {t : TAm}
/-- x = maker(..) -/
theorem sm_src (i : Nat) (F : FnOk X.prog X.w X.K X.mg X.base CX0 k fa fd pns (spSrc X.K ok)) (hr : Room k X.A) (hm : X.mg x = some (.ref fa)) (hk : PySem.W.keepIn X.K (.ref fa) = true) (hb : Binds X.K fd pns []) (hgw : f.gw = true) (hN : X.N.Nodup)
    (ha : PAm X c .cl (e :: es) t) (hi : X.N[i]? = some y := by rfl) (hx : Loc X.env.scope y := by first | exact Or.inl rfl | exact Or.inr rfl) (hl : cO c i ≠ .lk := by decide) (hg : Gl X x := by rfl) (hdb : (x == ("__debug__" : Str)) = false := by decide) (he : starEach (e :: es) X.env = (false, eval e X.env) :: starEach es X.env := by rfl) (hpl : (backTo cpos (starEach es X.env)).any (·.1) = false := by rfl)
    (hs : swapsWith (.Call (.Name x p) (e :: es) [] cpos) (some (.Name y pos')) pos.line X.env = pure false := by rfl) (hf : X.fn y = true ∨ X.env.scope.names.lookup y = some .local := by first | exact .inl rfl | exact .inr rfl | assumption) :
    PSm X f c (c.set i .sh) (.Assign [.Name y pos'] (.Call (.Name x p) (e :: es) [] cpos) pos) (sSrc i ok t) := ⟨(ps_set hN hi hx (pe_call F hr hg hm hk hb .nil pass0 ha.run hdb he hpl) hs hf).weak fun D σ H h => by
  obtain ⟨G, A, W, env, M, hg, R, h, kk⟩ := h
  refine ⟨G, A, W, env, _, R, h, fun ps vs H1 g1 rs ⟨hok, h1⟩ => ?_⟩
  have R1 := R.grow g1
  refine ⟨Zt G A W, W, ps, R1.dz, R1.src, R1.sz, by rw [List.append_nil]; exact rs.rps, hok, fun H2 q g n1 n2 s => ?_⟩
  have R2 := R1.addW (hg.trans hgw) g n1 n2 s
  refine kk.nx _ _ _ _ _ (R2.set_sh hl ?_) h1
  unfold Rp
  exact ⟨q, List.mem_cons_self .., rfl⟩⟩
end

theorem rp_flV {K : PySem.W.Frag} {S : Wd} {p : PV} (f : flatP p = true) : Rp K S p (flV p) := by
  cases p with
  | non => unfold Rp; rfl
  | bl _ => unfold Rp; rfl
  | int _ => unfold Rp; rfl
  | str _ => unfold Rp; rfl
  | _ => exact absurd f (by simp [flatP])
theorem cst_ok {K : PySem.W.Frag} : ∀ (ds : List PV), ds.all flatP = true → Cst K ds (ds.map flV)
  | [], _ => fun _ => Rps.nil
  | d :: ds, h => fun S => by
    rw [List.all_cons, Bool.and_eq_true] at h
    exact Rps.cons (rp_flV h.1) (cst_ok ds h.2 S)
theorem binds0 {K : PySem.W.Frag} {x qual : Str} {params : Arguments} {body : List Stmt} {scope : Scope} {f : Addr} {fd : FuncData} {ps : List Str} (F : FunD K x qual params body scope [] [] f fd)
    (h : ∀ (kV doc pm : Value) (an : Option Addr) (cdv ct : Value) (us : List Value), us.length = ps.length → bindArgs (PySem.W.fnOf x qual params body scope .none kV doc pm an cdv ct) ⟨us, []⟩ = pure (ps.zip us)) : Binds K fd ps [] := fun s us _ hl => by
  rw [List.append_nil] at hl ⊢
  exact F.bindsA h s us hl
theorem fn_none {P : Program} {w : World} {K : PySem.W.Frag} {mg : Str → Option Value} {base : Heap} {k : Nat} {f : Addr} {fd : FuncData} {ps : List Str} {rm : Md} {spec : Spec} (h : ∀ ps Q, spec ps Q → False) : FnOk P w K mg base CX0 k f fd ps (spM K rm spec) :=
  ⟨fun vs H Q E z => by obtain ⟨_, _, _, _, _, _, _, z, _⟩ := z; exact (h _ _ z).elim, fun A outer s H args us vs Q E _ _ _ _ z => by obtain ⟨_, _, _, _, _, _, _, z, _⟩ := z; exact (h _ _ z).elim⟩
/-! ### the law's def -/
def spLawM (K : PySem.W.Frag) : Sp := fun vs H Q _ => ∃ (a : Addr) (ns : List Int), vs = [.ref a] ∧ Only H ∧ SqL K H a (ns.map V.int) ∧ ns.length ≤ 63 ∧ ∀ H', Q (.bl true) H'
theorem law_m {P : Program} {w : World} {K : PySem.W.Frag} {mg : Str → Option Value} {base : Heap} {x qual : Str} {st : Stmt} {f : Addr} {fd : FuncData} {N pns : List Str} {k : Nat} {t : TSm} {dvs : List V} (F : FunD K x qual (defArgs st) (defBody st) (defScope st) dvs [] f fd) (S : FnScope N pns (defScope st)) (h1 : pns.length = 1)
    (hbody : ∀ (cdv : Value) (A : Around) (outer : List PySem.Env) (s : Shared) (H : Hp) (E : XK), Room k (A.deeper (PyProof.Rows.envOfC qual (defScope st) s.heap.objs.size f cdv)) → ∃ c', PSsm (bodyX P w K mg base N qual st f cdv A outer s H E) ⟨.cl, true, []⟩ (shs N.length) c' (defBody st) t)
    (hok : ∀ ns : List Int, ns.length ≤ 63 → t { nx := fun _ => False, rt := fun p => p = .bl true } (startE N.length [.scr ns])) : FnOk P w K mg base CX0 (k + 1) f fd pns (spLawM K) := by
  refine F.ok S (fun vs H Q E h => ?_) (fun cdv A outer s H vs Q E hr h => ?_)
  · obtain ⟨a, ns, rfl, _⟩ := h
    exact h1.symm
  · obtain ⟨a, ns, rfl, hO, hS, hl, q⟩ := h
    have r : Rps K ⟨fun b => (fun _ => False) b ∨ inW [] b, [], H⟩ [.scr ns] [.ref a] := by
      refine Rps.cons ?_ Rps.nil
      unfold Rp
      refine ⟨a, rfl, ?_⟩
      rcases hS with hS | hS
      · refine .inl ⟨fun z => z.elim id fun ⟨p, hp, _⟩ => (by cases hp), ?_⟩
        rcases hS with hS | hS
        · rcases hO a with z | ⟨o, xs, z⟩
          · rw [hS] at z; cases z
          · rw [hS] at z; cases z
        · exact hS
      · exact .inr hS
    have hsr : SR K ⟨true, fun _ => False, [], H, fun _ => none, [], []⟩ (shs N.length) (fun _ => none) [] (startE N.length [.scr ns]) (L2.start N [.ref a]) H := SR.start (fun _ z => z.elim) (fun _ z => by cases z) r
    obtain ⟨c', hb⟩ := hbody cdv A outer s H E hr
    refine ⟨_, hb.run.nox, ⟨true, fun _ => False, [], H, fun _ => none, [], []⟩, fun _ => none, [], startE N.length [.scr ns], _, rfl, hsr, hok ns hl, ⟨fun _ _ _ _ _ _ z => z.elim, fun p v H' hr hp => ?_, fun _ _ _ _ _ _ z => z.elim, fun _ _ _ _ _ _ z => z.elim⟩⟩
    subst hp
    obtain ⟨W', _, _, _, _, h5⟩ := hr
    rw [VK1.bl h5]
    exact q H'
end PM

set_option maxHeartbeats 1000000
/-! PM: the plain side: what the transformers say, in rows for simp; loops and comprehensions by what they do. -/
namespace PM
open PySem L2
section
variable {env : Env} {P : PV → Prop} {i j : Nat} {M : Em} {t u : TSm} {te ta tb tc : TEm} {ts : TAm} {tt : TTm}
@[simp] theorem s_mVar0 {o : PV} : mVar 0 (some o :: env) P ↔ P o := ⟨fun ⟨v, e, h⟩ => by cases e; exact h, fun h => ⟨o, rfl, h⟩⟩
@[simp] theorem s_mVarS {o : Option PV} : mVar (i + 1) (o :: env) P ↔ mVar i env P := by
  unfold mVar; rw [List.getElem?_cons_succ]
def isObj : PV → Bool
  | .obj _ _ _ _ => true
  | _ => false
@[simp] theorem s_mVarO0 {o : PV} : mVarO 0 (some o :: env) P ↔ isObj o = false ∧ P o := by
  constructor
  · rintro ⟨v, e, n, h⟩
    cases e
    refine ⟨?_, h⟩
    cases o with
    | obj C dx ns ps => exact absurd rfl (n C dx ns ps)
    | _ => rfl
  · rintro ⟨n, h⟩
    exact ⟨o, rfl, (fun C dx ns ps z => by rw [z] at n; cases n), h⟩
@[simp] theorem s_mVarOS {o : Option PV} : mVarO (i + 1) (o :: env) P ↔ mVarO i env P := by
  unfold mVarO; rw [List.getElem?_cons_succ]
@[simp] theorem s_isObj_lst {ps : List PV} : isObj (.lst ps) = false := rfl
@[simp] theorem s_isObj_dic {ks : List Key} {ps : List PV} : isObj (.dic ks ps) = false := rfl
@[simp] theorem s_mC {p : PV} : mC p env P ↔ P p := .rfl
@[simp] theorem s_mOp {o : PO2} : mOp o ta tb env P ↔ ta env fun x => tb env fun y => o x y P := .rfl
@[simp] theorem s_mOp1 {o : PO1} : mOp1 o ta env P ↔ ta env fun x => o x P := .rfl
@[simp] theorem s_mB {o : POn} : mB o ts env P ↔ ts env fun xs => o xs P := .rfl
@[simp] theorem s_mNil {Q : List PV → Prop} : mNil env Q ↔ Q [] := .rfl
@[simp] theorem s_mCons {Q : List PV → Prop} : mCons te ts env Q ↔ te env fun x => ts env fun xs => Q (x :: xs) := .rfl
@[simp] theorem s_mTup : mTup ts env P ↔ ts env fun xs => xs.length ≤ sizeLine ∧ P (.tup xs) := .rfl
@[simp] theorem s_mLst : mLst ts env P ↔ ts env fun xs => xs.length ≤ sizeLine ∧ P (.lst xs) := .rfl
@[simp] theorem s_mCall {sp : Spec} {ds : List PV} : mCall sp ds ts env P ↔ ts env fun ps => sp (ps ++ ds) P := .rfl
@[simp] theorem s_mTB {Q : Bool → Prop} : mTB te env Q ↔ te env fun x => ∃ k, x = .bl k ∧ Q k := .rfl
@[simp] theorem s_mNot {Q : Bool → Prop} : mNot tt env Q ↔ tt env fun b => Q (!b) := .rfl
@[simp] theorem s_mAnd {tu : TTm} {Q : Bool → Prop} : mAnd tt tu env Q ↔ tt env fun b => if b = true then tu env Q else Q false := .rfl
@[simp] theorem s_mOr {tu : TTm} {Q : Bool → Prop} : mOr tt tu env Q ↔ tt env fun b => if b = true then Q true else tu env Q := .rfl
@[simp] theorem s_mAndV : mAndV ta tb env P ↔ ta env fun x => ∃ k, x = .bl k ∧ if k = true then tb env P else P (.bl false) := .rfl
@[simp] theorem s_mOrV : mOrV ta tb env P ↔ ta env fun x => ∃ k, x = .bl k ∧ if k = true then P (.bl true) else tb env P := .rfl
@[simp] theorem s_mIf : mIf tt ta tb env P ↔ tt env fun b => if b = true then ta env P else tb env P := .rfl
@[simp] theorem s_mYes {Q : Bool → Prop} : mYes env Q ↔ Q true := .rfl
@[simp] theorem s_mSl {o : PV → Option Int → Option Int → (PV → Prop) → Prop} {tl th : Env → (Option Int → Prop) → Prop} : mSl o te tl th env P ↔ te env fun x => tl env fun l => th env fun u => o x l u P := .rfl
@[simp] theorem s_mNo {Q : Option Int → Prop} : mNo env Q ↔ Q none := .rfl
@[simp] theorem s_mPart {Q : Option Int → Prop} : mPart te env Q ↔ te env fun x => ∃ i, x = .int i ∧ Q (some i) := .rfl
@[simp] theorem s_mLc {wi : TIm} {vs : List Nat} {g : TGm} : mLc wi vs g tt te env P ↔ wi env fun items => mCompGo g tt te (wipeE env vs) P items [] := .rfl
@[simp] theorem s_mItems {Q : List PV → Prop} : mItems te env Q ↔ te env fun p => ∃ ps, seqP p = some ps ∧ Q ps := .rfl
@[simp] theorem s_mRng1 {Q : List PV → Prop} : mRng1 te env Q ↔ te env fun x => ∃ n, x = .int n ∧ (-(2 ^ 62) ≤ n ∧ n < 2 ^ 62) ∧ Q (rngP 0 n.toNat) := .rfl
@[simp] theorem s_mRng2 {Q : List PV → Prop} : mRng2 ta tb env Q ↔ ta env fun x => tb env fun y => ∃ a b, x = .int a ∧ y = .int b ∧ (-(2 ^ 62) ≤ a ∧ a < 2 ^ 62 ∧ -(2 ^ 62) ≤ b ∧ b < 2 ^ 62) ∧ Q (rngP a (b - a).toNat) := .rfl
@[simp] theorem s_mEnum {Q : List PV → Prop} : mEnum te env Q ↔ te env fun p => ∃ ps, seqP p = some ps ∧ Q (enumP ps) := .rfl
@[simp] theorem s_mChain {o o' : PO2} : mChain o o' ta tb tc env P ↔ ta env fun x => tb env fun y => o x y fun z => ∃ k, z = .bl k ∧ if k = true then tc env fun w => o' y w P else P (.bl false) := .rfl
@[simp] theorem s_seqT {ps : List PV} : seqP (.tup ps) = some ps := rfl
@[simp] theorem s_seqL {ps : List PV} : seqP (.lst ps) = some ps := rfl
-- statements
@[simp] theorem s_sNext : sNext M env ↔ M.nx env := .rfl
@[simp] theorem s_sSeq : sSeq t u M env ↔ t { M with nx := u M } env := .rfl
@[simp] theorem s_sIf : sIf tt t u M env ↔ tt env fun b => if b = true then t M env else u M env := .rfl
@[simp] theorem s_sSet : sSet i te M env ↔ te env fun p => M.nx (env.set i (some p)) := .rfl
@[simp] theorem s_sRet : sRet te M env ↔ te env M.rt := .rfl
@[simp] theorem s_sRetN : sRetN M env ↔ M.rt .non := .rfl
@[simp] theorem s_sBreak : sBreak M env ↔ M.bk env := .rfl
@[simp] theorem s_sCont : sCont M env ↔ M.ct env := .rfl
@[simp] theorem s_sDrop : sDrop te M env ↔ te env fun _ => M.nx env := .rfl
@[simp] theorem s_sPar {is : List Nat} : sPar is ts M env ↔ ts env fun ps => M.nx (setN env is ps) := .rfl
@[simp] theorem s_setN0 {ps : List PV} : setN env [] ps = env := by cases ps <;> rfl
@[simp] theorem s_setNS {is : List Nat} {p : PV} {ps : List PV} : setN env (i :: is) (p :: ps) = setN (env.set i (some p)) is ps := rfl
@[simp] theorem s_sAsg {g : TGm} : sAsg te g M env ↔ te env fun p => g p env M.nx := .rfl
@[simp] theorem s_sApp : sApp i te M env ↔ ∃ ps, env[i]? = some (some (.lst ps)) ∧ te env fun p => ps.length < sizeLine ∧ M.nx (env.set i (some (.lst (ps ++ [p])))) := .rfl
@[simp] theorem s_sAug {o : PO2} : sAug i o te M env ↔ ∃ x, env[i]? = some (some x) ∧ te env fun y => o x y fun z => M.nx (env.set i (some z)) := .rfl
@[simp] theorem s_sFor {wi : TIm} {g : TGm} : sFor wi g t M env ↔ wi env fun items => mForGo g t M items env := .rfl
@[simp] theorem s_sSrc {ok : List PV → Prop} : sSrc i ok ts M env ↔ ts env fun ps => ok ps ∧ M.nx (env.set i (some .src)) := .rfl
-- targets
@[simp] theorem s_gmN {p : PV} {k : Env → Prop} : gmN i p env k ↔ k (env.set i (some p)) := .rfl
@[simp] theorem s_gmT {n : Nat} {r : TGsm} {ps : List PV} {k : Env → Prop} : gmT n r (.tup ps) env k ↔ ps.length = n ∧ r ps env k := ⟨fun ⟨qs, e, h⟩ => by cases e; exact h, fun h => ⟨ps, rfl, h⟩⟩
@[simp] theorem s_gmCons {g : TGm} {r : TGsm} {p : PV} {ps : List PV} {k : Env → Prop} : gmCons g r (p :: ps) env k ↔ g p env fun env' => r ps env' k := ⟨fun ⟨q, qs, e, h⟩ => by cases e; exact h, fun h => ⟨p, ps, rfl, h⟩⟩
@[simp] theorem s_gmNil {k : Env → Prop} : gmNil [] env k ↔ k env := ⟨fun h => h.2, fun h => ⟨rfl, h⟩⟩
@[simp] theorem s_wipe0 : wipeE env [] = env := rfl
@[simp] theorem s_wipeS {vs : List Nat} : wipeE env (i :: vs) = (wipeE env vs).set i none := rfl
-- operations
variable {a b : Int} {x y : PV}
@[simp] theorem s_oSub : oSub (.int a) (.int b) P ↔ P (.int (a - b)) := ⟨fun ⟨_, _, e, f, h⟩ => by cases e; cases f; exact h, fun h => ⟨a, b, rfl, rfl, h⟩⟩
@[simp] theorem s_oAddI : oAddI (.int a) (.int b) P ↔ P (.int (a + b)) := ⟨fun ⟨_, _, e, f, h⟩ => by cases e; cases f; exact h, fun h => ⟨a, b, rfl, rfl, h⟩⟩
@[simp] theorem s_oAdd : oAdd (.int a) (.int b) P ↔ P (.int (a + b)) := .rfl
@[simp] theorem s_oLt : oLt (.int a) (.int b) P ↔ P (.bl (decide (a < b))) := ⟨fun ⟨_, _, e, f, h⟩ => by cases e; cases f; exact h, fun h => ⟨a, b, rfl, rfl, h⟩⟩
@[simp] theorem s_oLe : oLe (.int a) (.int b) P ↔ P (.bl (decide (a ≤ b))) := ⟨fun ⟨_, _, e, f, h⟩ => by cases e; cases f; exact h, fun h => ⟨a, b, rfl, rfl, h⟩⟩
@[simp] theorem s_oGt : oGt (.int a) (.int b) P ↔ P (.bl (decide (b < a))) := ⟨fun ⟨_, _, e, f, h⟩ => by cases e; cases f; exact h, fun h => ⟨a, b, rfl, rfl, h⟩⟩
@[simp] theorem s_oGe : oGe (.int a) (.int b) P ↔ P (.bl (decide (b ≤ a))) := ⟨fun ⟨_, _, e, f, h⟩ => by cases e; cases f; exact h, fun h => ⟨a, b, rfl, rfl, h⟩⟩
@[simp] theorem s_oNeg : oNeg (.int a) P ↔ P (.int (-a)) := ⟨fun ⟨_, e, h⟩ => by cases e; exact h, fun h => ⟨a, rfl, h⟩⟩
@[simp] theorem s_oNot {k : Bool} : oNot (.bl k) P ↔ P (.bl (!k)) := ⟨fun ⟨_, e, h⟩ => by cases e; exact h, fun h => ⟨k, rfl, h⟩⟩
@[simp] theorem s_oMul : oMul (.int a) (.int b) P ↔ CMul a b ∧ P (.int (a * b)) := ⟨fun ⟨_, _, e, f, h⟩ => by cases e; cases f; exact h, fun h => ⟨a, b, rfl, rfl, h⟩⟩
@[simp] theorem s_oMulW : oMulW (.int a) (.int b) P ↔ CMulW a b ∧ P (.int (a * b)) := ⟨fun ⟨_, _, e, f, h⟩ => by cases e; cases f; exact h, fun h => ⟨a, b, rfl, rfl, h⟩⟩
@[simp] theorem s_oMod : oMod (.int a) (.int b) P ↔ 0 < b ∧ P (.int (a % b)) := ⟨fun ⟨_, _, e, f, h⟩ => by cases e; cases f; exact h, fun h => ⟨a, b, rfl, rfl, h⟩⟩
@[simp] theorem s_oFdiv : oFdiv (.int a) (.int b) P ↔ (0 < b ∧ b < 1073741824) ∧ P (.int (a / b)) := ⟨fun ⟨_, _, e, f, h⟩ => by cases e; cases f; exact h, fun h => ⟨a, b, rfl, rfl, h⟩⟩
@[simp] theorem s_oPow : oPow (.int a) (.int b) P ↔ (0 ≤ b ∧ b ≤ 1000000 ∧ a.natAbs < 2 ^ 64) ∧ P (.int (a ^ b.toNat)) := ⟨fun ⟨_, _, e, f, h⟩ => by cases e; cases f; exact h, fun h => ⟨a, b, rfl, rfl, h⟩⟩
@[simp] theorem s_oIsN : oIsN x .non P ↔ P (.bl (isNon x)) := ⟨fun h => h.2, fun h => ⟨rfl, h⟩⟩
@[simp] theorem s_oNotN : oNotN x .non P ↔ P (.bl (!isNon x)) := ⟨fun h => h.2, fun h => ⟨rfl, h⟩⟩
@[simp] theorem s_oIsB {k l : Bool} : oIsB (.bl k) (.bl l) P ↔ P (.bl (decide (k = l))) := ⟨fun ⟨_, _, e, f, h⟩ => by cases e; cases f; exact h, fun h => ⟨k, l, rfl, rfl, h⟩⟩
@[simp] theorem s_oNotB {k l : Bool} : oNotB (.bl k) (.bl l) P ↔ P (.bl (!decide (k = l))) := ⟨fun ⟨_, _, e, f, h⟩ => by cases e; cases f; exact h, fun h => ⟨k, l, rfl, rfl, h⟩⟩
@[simp] theorem s_isNon_int : isNon (.int a) = false := rfl
@[simp] theorem s_isNon_non : isNon .non = true := rfl
@[simp] theorem s_isNon_bl {k : Bool} : isNon (.bl k) = false := rfl
@[simp] theorem s_isNon_str {k : Str} : isNon (.str k) = false := rfl
@[simp] theorem s_isNon_tup {k : List PV} : isNon (.tup k) = false := rfl
@[simp] theorem s_isNon_lst {k : List PV} : isNon (.lst k) = false := rfl
@[simp] theorem s_isNon_dic {k : List Key} {l : List PV} : isNon (.dic k l) = false := rfl
@[simp] theorem s_oEqI : oEq (.int a) (.int b) P ↔ P (.bl (decide (a = b))) := by
  have e : PyData.eqv (.int a) (.int b) = decide (a = b) := rfl
  constructor
  · rintro ⟨_, _, f, g, _, _, h⟩
    cases f; cases g
    rw [e] at h; exact h
  · intro h
    exact ⟨_, _, rfl, rfl, rfl, rfl, by rw [e]; exact h⟩
@[simp] theorem s_oNeI : oNe (.int a) (.int b) P ↔ P (.bl (!decide (a = b))) := by
  have e : PyData.eqv (.int a) (.int b) = decide (a = b) := rfl
  constructor
  · rintro ⟨_, _, f, g, _, _, h⟩
    cases f; cases g
    rw [e] at h; exact h
  · intro h
    exact ⟨_, _, rfl, rfl, rfl, rfl, by rw [e]; exact h⟩
@[simp] theorem s_oIxT {ps : List PV} : oIx (.tup ps) (.int a) P ↔ ∃ p, atI ps a = some p ∧ P p := .rfl
@[simp] theorem s_oIxL {ps : List PV} : oIx (.lst ps) (.int a) P ↔ ∃ p, atI ps a = some p ∧ P p := .rfl
@[simp] theorem s_oSlT {ps : List PV} {l u : Option Int} : oSl (.tup ps) l u P ↔ P (.tup (cutP ps l u)) := .rfl
@[simp] theorem s_oSlL {ps : List PV} {l u : Option Int} : oSl (.lst ps) l u P ↔ P (.lst (cutP ps l u)) := .rfl
@[simp] theorem s_oRevT {ps : List PV} : oRev (.tup ps) P ↔ P (.tup ps.reverse) := .rfl
@[simp] theorem s_oRevL {ps : List PV} : oRev (.lst ps) P ↔ P (.lst ps.reverse) := .rfl
@[simp] theorem s_oInt : oInt [.int a] P ↔ P (.int a) := .rfl
@[simp] theorem s_oIntB {k : Bool} : oInt [.bl k] P ↔ P (.int (if k then 1 else 0)) := .rfl
@[simp] theorem s_oAbs : oAbs [.int a] P ↔ P (.int (if a < 0 then -a else a)) := ⟨fun ⟨_, e, h⟩ => by cases e; exact h, fun h => ⟨a, rfl, h⟩⟩
@[simp] theorem s_oMax2 : oMax2 [.int a, .int b] P ↔ P (.int (if b > a then b else a)) := ⟨fun ⟨_, _, e, h⟩ => by cases e; exact h, fun h => ⟨a, b, rfl, h⟩⟩
@[simp] theorem s_oMin2 : oMin2 [.int a, .int b] P ↔ P (.int (if b < a then b else a)) := ⟨fun ⟨_, _, e, h⟩ => by cases e; exact h, fun h => ⟨a, b, rfl, h⟩⟩
@[simp] theorem s_oLen : oLen [x] P ↔ ∃ n, plen x = some n ∧ P (.int (n : Int)) := ⟨fun ⟨_, n, e, f, h⟩ => by cases e; exact ⟨n, f, h⟩, fun ⟨n, f, h⟩ => ⟨x, n, rfl, f, h⟩⟩
@[simp] theorem s_plenT {ps : List PV} : plen (.tup ps) = some ps.length := rfl
@[simp] theorem s_plenL {ps : List PV} : plen (.lst ps) = some ps.length := rfl
@[simp] theorem s_plenD {ks : List Key} {ps : List PV} : plen (.dic ks ps) = some ks.length := rfl
@[simp] theorem s_plenS {ns : List Int} : plen (.scr ns) = some ns.length := rfl
@[simp] theorem s_oTupleL {ps : List PV} : oTuple [.lst ps] P ↔ P (.tup ps) := ⟨fun ⟨_, _, e, f, h⟩ => by cases e; cases f; exact h, fun h => ⟨_, ps, rfl, rfl, h⟩⟩
@[simp] theorem s_oTupleT {ps : List PV} : oTuple [.tup ps] P ↔ P (.tup ps) := ⟨fun ⟨_, _, e, f, h⟩ => by cases e; cases f; exact h, fun h => ⟨_, ps, rfl, rfl, h⟩⟩
@[simp] theorem s_oListL {ps : List PV} : oList [.lst ps] P ↔ P (.lst ps) := ⟨fun ⟨_, _, e, f, h⟩ => by cases e; cases f; exact h, fun h => ⟨_, ps, rfl, rfl, h⟩⟩
@[simp] theorem s_oListT {ps : List PV} : oList [.tup ps] P ↔ P (.lst ps) := ⟨fun ⟨_, _, e, f, h⟩ => by cases e; cases f; exact h, fun h => ⟨_, ps, rfl, rfl, h⟩⟩
end
theorem x_bl {b : Bool} {p : Bool → Prop} : (∃ k, PV.bl b = PV.bl k ∧ p k) ↔ p b := ⟨fun ⟨_, e, h⟩ => by cases e; exact h, fun h => ⟨b, rfl, h⟩⟩
theorem x_int {b : Int} {p : Int → Prop} : (∃ k, PV.int b = PV.int k ∧ p k) ↔ p b := ⟨fun ⟨_, e, h⟩ => by cases e; exact h, fun h => ⟨b, rfl, h⟩⟩
theorem x_some {α : Type} {b : α} {p : α → Prop} : (∃ k, some b = some k ∧ p k) ↔ p b := ⟨fun ⟨_, e, h⟩ => by cases e; exact h, fun h => ⟨b, rfl, h⟩⟩
theorem x_addT {a b : List PV} {P : PV → Prop} : oAdd (.tup a) (.tup b) P ↔ a.length + b.length ≤ sizeLine ∧ P (.tup (a ++ b)) := .rfl
theorem x_addL {a b : List PV} {P : PV → Prop} : oAdd (.lst a) (.lst b) P ↔ a.length + b.length ≤ sizeLine ∧ P (.lst (a ++ b)) := .rfl
theorem x_true {p q : Prop} : (if true = true then p else q) ↔ p := by rw [if_pos rfl]
theorem x_false {p q : Prop} : (if false = true then p else q) ↔ q := by rw [if_neg Bool.false_ne_true]
/-! ### of a type -/
def isiB (T : String) (p : PV) : Bool := match pty p with
  | some U => (kitB U T).getD false
  | none => false
theorem oIsi_of {T : String} {p : PV} {P : PV → Prop} {U : String} {b : Bool} (h : pty p = some U) (hb : kitB U T = some b) (hp : P (.bl b)) : oIsi T p P := ⟨U, b, h, hb, hp⟩
abbrev Known (T : String) : Prop := ∀ U ∈ ["NoneType", "bool", "int", "str", "tuple", "list", "dict"], (kitB U T).isSome = true
theorem pty_mem {p : PV} {U : String} (h : pty p = some U) : U ∈ ["NoneType", "bool", "int", "str", "tuple", "list", "dict"] := by
  cases p <;> cases h <;> decide
theorem oIsi_b {T : String} {p : PV} {P : PV → Prop} (k : Known T) (h : (pty p).isSome = true) (hp : P (.bl (isiB T p))) : oIsi T p P := by
  obtain ⟨U, hU⟩ := Option.isSome_iff_exists.mp h
  obtain ⟨b, hb⟩ := Option.isSome_iff_exists.mp (k U (pty_mem hU))
  refine ⟨U, b, hU, hb, ?_⟩
  unfold isiB at hp
  rw [hU] at hp
  have e : (kitB U T).getD false = b := by rw [hb]; rfl
  rw [← e]; exact hp
theorem known_int : Known "int" := by decide
theorem known_bool : Known "bool" := by decide
theorem known_str : Known "str" := by decide
theorem known_tuple : Known "tuple" := by decide
theorem known_list : Known "list" := by decide
theorem known_dict : Known "dict" := by decide
/-! ### loops and comprehensions -/
section
variable {g : TGm} {tt : TTm} {te : TEm} {tb : TSm} {env : Env} {P : PV → Prop} {M : Em}
/-- a loop by what stands ahead of each turn -/
theorem for_inv {α : Type} {emb : α → PV} {xs : List α} (I : Nat → Env → Prop) (h0 : I 0 env) (hs : ∀ (i : Nat) (x : α) (e : Env) (N : Env → Prop), xs[i]? = some x → I i e → (∀ e', I (i + 1) e' → N e') → g (emb x) e fun e1 => tb { M with nx := N, ct := N, bk := M.nx } e1)
    (hn : ∀ e, I xs.length e → M.nx e) : mForGo g tb M (xs.map emb) env := by
  have go : ∀ (ys : List α) (i : Nat) (e : Env), xs.drop i = ys → I i e → i ≤ xs.length → mForGo g tb M (ys.map emb) e := by
    intro ys
    induction ys with
    | nil =>
      intro i e hd hi hl
      have : i = xs.length := by
        have := List.drop_eq_nil_iff.mp hd
        omega
      subst this
      exact hn e hi
    | cons y ys ih =>
      intro i e hd hi hl
      have hx : xs[i]? = some y := by
        have : (xs.drop i)[0]? = some y := by rw [hd]; rfl
        rw [List.getElem?_drop] at this
        exact this
      have hlt : i < xs.length := (List.getElem?_eq_some_iff.mp hx).1
      have hd2 : xs.drop (i + 1) = ys := by
        rw [← List.drop_drop, hd]; rfl
      exact hs i y e _ hx hi fun e' he' => ih (i + 1) e' hd2 he' hlt
  exact go xs 0 env rfl h0 (Nat.zero_le _)
theorem foldl_take {α S : Type} {xs : List α} {f : S → α → S} {s : S} {i : Nat} {x : α} (h : xs[i]? = some x) : (xs.take (i + 1)).foldl f s = f ((xs.take i).foldl f s) x := by
  rw [List.take_add_one, h, List.foldl_append]
  rfl
/-- a loop as a fold -/
theorem for_fold {α S : Type} {emb : α → PV} {xs : List α} (step : S → α → S) (E : S → Env → Prop) (s0 : S) (h0 : E s0 env) (hs : ∀ (x : α) (s : S) (e : Env) (N : Env → Prop), x ∈ xs → E s e → (∀ e', E (step s x) e' → N e') → g (emb x) e fun e1 => tb { M with nx := N, ct := N, bk := M.nx } e1)
    (hn : ∀ e, E (xs.foldl step s0) e → M.nx e) : mForGo g tb M (xs.map emb) env := by
  refine for_inv (fun i e => E ((xs.take i).foldl step s0) e) h0 (fun i x e N hx hE hN => hs x _ e N (List.mem_of_getElem? hx) hE fun e' he' => hN e' ?_) (fun e he => hn e ?_)
  · rw [List.take_add_one, hx, List.foldl_append]
    exact he'
  · rw [List.take_length] at he
    exact he
/-- a comprehension that has one answer at each item -/
theorem comp_emb {α : Type} {emb : α → PV} {tst : α → Bool} {f : α → PV} : ∀ {xs : List α} {acc : List PV}, (∀ x ∈ xs, ∃ e1, (∀ k : Env → Prop, k e1 → g (emb x) env k) ∧ (∀ Q : Bool → Prop, Q (tst x) → tt e1 Q) ∧ (tst x = true → ∀ Q : PV → Prop, Q (f x) → te e1 Q)) →
    acc.length + xs.length ≤ sizeLine → P (.lst (acc ++ (xs.filter tst).map f)) → mCompGo g tt te env P (xs.map emb) acc
  | [], acc, _, _, hp => by
    rw [List.filter_nil, List.map_nil, List.append_nil] at hp
    exact hp
  | x :: xs, acc, h, hl, hp => by
    obtain ⟨e1, h1, h2, h3⟩ := h x (List.mem_cons_self ..)
    rw [List.length_cons] at hl
    rw [List.map_cons]
    unfold mCompGo
    refine h1 _ (h2 _ ?_)
    cases ht : tst x with
    | true =>
      rw [if_pos rfl]
      refine h3 ht _ ⟨by omega, comp_emb (fun y hy => h y (List.mem_cons_of_mem _ hy)) (by rw [List.length_append, List.length_singleton]; omega) ?_⟩
      rw [List.filter_cons, ht, if_pos rfl, List.map_cons] at hp
      rw [List.append_assoc]
      exact hp
    | false =>
      rw [if_neg Bool.false_ne_true]
      refine comp_emb (fun y hy => h y (List.mem_cons_of_mem _ hy)) (by omega) ?_
      rw [List.filter_cons, ht, if_neg Bool.false_ne_true] at hp
      exact hp
/-- a comprehension without test -/
theorem comp_map {α : Type} {emb : α → PV} {f : α → PV} {xs : List α} (h : ∀ x ∈ xs, ∃ e1, (∀ k : Env → Prop, k e1 → g (emb x) env k) ∧ (∀ Q : Bool → Prop, Q true → tt e1 Q) ∧ (∀ Q : PV → Prop, Q (f x) → te e1 Q))
    (hl : xs.length ≤ sizeLine) (hp : P (.lst (xs.map f))) : mCompGo g tt te env P (xs.map emb) [] := by
  refine comp_emb (tst := fun _ => true) (f := f) (fun x hx => ?_) (by rw [List.length_nil, Nat.zero_add]; exact hl) ?_
  · obtain ⟨e1, h1, h2, h3⟩ := h x hx
    exact ⟨e1, h1, h2, fun _ => h3⟩
  · rw [List.filter_eq_self.mpr (fun _ _ => rfl)]
    exact hp
/-- .. whose answers are one of several -/
theorem comp_rel {α : Type} {emb : α → PV} {R : α → PV → Prop} : ∀ {xs : List α} {acc : List PV}, (∀ x ∈ xs, ∃ e1, (∀ k : Env → Prop, k e1 → g (emb x) env k) ∧ (∀ Q : Bool → Prop, Q true → tt e1 Q) ∧ (∀ Q : PV → Prop, (∀ y, R x y → Q y) → te e1 Q)) →
    acc.length + xs.length ≤ sizeLine → (∀ ys, Paired R xs ys → P (.lst (acc ++ ys))) → mCompGo g tt te env P (xs.map emb) acc
  | [], acc, _, _, hp => by
    have := hp [] .nil
    rw [List.append_nil] at this
    exact this
  | x :: xs, acc, h, hl, hp => by
    obtain ⟨e1, h1, h2, h3⟩ := h x (List.mem_cons_self ..)
    rw [List.length_cons] at hl
    rw [List.map_cons]
    unfold mCompGo
    refine h1 _ (h2 _ ?_)
    rw [if_pos rfl]
    refine h3 _ fun y hy => ⟨by omega, comp_rel (fun z hz => h z (List.mem_cons_of_mem _ hz)) (by rw [List.length_append, List.length_singleton]; omega) fun ys hys => ?_⟩
    have := hp (y :: ys) (.cons hy hys)
    rw [List.append_assoc]
    exact this
end
/-! ### data in rows -/
theorem small_line {n : Nat} (h : n ≤ 1000000) : n < sizeLine := Nat.lt_of_le_of_lt h (by decide)
abbrev lI (ns : List Int) : PV := .lst (ns.map .int)
abbrev tI (ns : List Int) : PV := .tup (ns.map .int)
theorem inP_ints {x : Int} : ∀ {ns : List Int}, inP (.int x) (ns.map .int) = decide (x ∈ ns)
  | [] => rfl
  | n :: ns => by
    have ih := inP_ints (x := x) (ns := ns)
    unfold inP at ih ⊢
    rw [List.map_cons, List.any_cons, ih]
    show (n == x || decide (x ∈ ns)) = decide (x ∈ n :: ns)
    by_cases e : n = x
    · subst e; simp
    · have e' : ¬ x = n := fun z => e z.symm
      simp [e, e']
theorem oIn_ints {neg : Bool} {x : Int} {ns : List Int} {P : PV → Prop} (h : P (.bl (if neg then !decide (x ∈ ns) else decide (x ∈ ns)))) : oIn neg (.int x) (lI ns) P := by
  refine ⟨_, .inl rfl, rfl, ?_, ?_⟩
  · rw [List.all_eq_true]
    intro y hy
    obtain ⟨z, _, rfl⟩ := List.mem_map.mp hy
    rfl
  · rw [inP_ints]; exact h
theorem toDs_map {α : Type} {emb : α → PV} {f : α → PyData} (h : ∀ x, toD (emb x) = some (f x)) : ∀ xs : List α, toDs (xs.map emb) = some (xs.map f)
  | [] => by unfold toDs; rfl
  | x :: xs => by
    rw [List.map_cons, List.map_cons]
    unfold toDs
    rw [h x, toDs_map h xs]
    rfl
theorem lay_map {α : Type} {f : α → PyData} {n : Nat} (h : ∀ x, PyData.canLay0 (f x) = true ∧ PyData.depth (f x) ≤ n) : ∀ xs : List α, PyData.canLayAll0 (xs.map f) = true ∧ PyData.depthAll (xs.map f) ≤ n
  | [] => ⟨rfl, Nat.zero_le _⟩
  | x :: xs => by
    obtain ⟨h1, h2⟩ := lay_map h xs
    obtain ⟨g1, g2⟩ := h x
    constructor
    · show (PyData.canLay0 (f x) && PyData.canLayAll0 _) = true
      rw [h1, g1]; rfl
    · show max (PyData.depth (f x)) (PyData.depthAll _) ≤ n
      exact Nat.max_le.mpr ⟨g2, h2⟩
theorem shaped_map {α : Type} {f : α → PyData} {n : Nat} (h : ∀ x, PyData.canLay0 (f x) = true ∧ PyData.depth (f x) ≤ n) (hn : n < 64) (xs : List α) : SeqAt.shaped (.list (xs.map f)) = true := by
  obtain ⟨h1, h2⟩ := lay_map h xs
  unfold SeqAt.shaped
  rw [show PyData.canLay0 (.list (xs.map f)) = true from h1]
  have : PyData.depth (.list (xs.map f)) ≤ 64 := by
    show PyData.depthAll (xs.map f) + 1 ≤ 64
    omega
  rw [decide_eq_true this]; rfl
theorem eqv_nil (ds : List PyData) : PyData.eqv (.list ds) (.list []) = ds.isEmpty := by cases ds <;> rfl
theorem oEq_nil {α : Type} {emb : α → PV} {f : α → PyData} {n : Nat} {xs : List α} {P : PV → Prop} (h : ∀ x, toD (emb x) = some (f x)) (hs : ∀ x, PyData.canLay0 (f x) = true ∧ PyData.depth (f x) ≤ n) (hn : n < 64) (hp : P (.bl xs.isEmpty)) : oEq (.lst (xs.map emb)) (.lst []) P := by
  refine ⟨.list (xs.map f), .list [], ?_, by unfold toD toDs; rfl, shaped_map hs hn xs, rfl, ?_⟩
  · unfold toD; rw [toDs_map h]; rfl
  · rw [eqv_nil, List.isEmpty_map]; exact hp
theorem oNe_nil {α : Type} {emb : α → PV} {f : α → PyData} {n : Nat} {xs : List α} {P : PV → Prop} (h : ∀ x, toD (emb x) = some (f x)) (hs : ∀ x, PyData.canLay0 (f x) = true ∧ PyData.depth (f x) ≤ n) (hn : n < 64) (hp : P (.bl (!xs.isEmpty))) : oNe (.lst (xs.map emb)) (.lst []) P := by
  refine ⟨.list (xs.map f), .list [], ?_, by unfold toD toDs; rfl, shaped_map hs hn xs, rfl, ?_⟩
  · unfold toD; rw [toDs_map h]; rfl
  · rw [eqv_nil, List.isEmpty_map]; exact hp
theorem oEqI_nil {ns : List Int} {P : PV → Prop} (hp : P (.bl ns.isEmpty)) : oEq (lI ns) (.lst []) P := oEq_nil (f := .int) (n := 0) (fun _ => rfl) (fun _ => ⟨rfl, Nat.le_refl _⟩) (by decide) hp
theorem oNeI_nil {ns : List Int} {P : PV → Prop} (hp : P (.bl (!ns.isEmpty))) : oNe (lI ns) (.lst []) P := oNe_nil (f := .int) (n := 0) (fun _ => rfl) (fun _ => ⟨rfl, Nat.le_refl _⟩) (by decide) hp
theorem oAll_map {α : Type} {xs : List α} {b : α → Bool} {P : PV → Prop} (h : P (.bl (xs.all b))) : oAll [.lst (xs.map fun x => .bl (b x))] P := by
  refine ⟨xs.map b, by rw [List.map_map]; rfl, ?_⟩
  rw [List.all_map]
  exact h
theorem oAny_map {α : Type} {xs : List α} {b : α → Bool} {P : PV → Prop} (h : P (.bl (xs.any b))) : oAny [.lst (xs.map fun x => .bl (b x))] P := by
  refine ⟨xs.map b, by rw [List.map_map]; rfl, ?_⟩
  rw [List.any_map]
  exact h
theorem oSum_map {α : Type} {xs : List α} {b : α → Int} {P : PV → Prop} (h : P (.int (xs.map b).sum)) : oSum [.lst (xs.map fun x => .int (b x))] P := ⟨xs.map b, by rw [List.map_map]; rfl, h⟩
theorem rngP_map {a : Int} {n : Nat} : rngP a n = (List.range n).map fun (i : Nat) => PV.int (a + (i : Int)) := rfl
theorem enumP_map {α : Type} {xs : List α} {emb : α → PV} : enumP (xs.map emb) = (List.range xs.length).map fun i => .tup [.int (i : Nat), (xs.map emb).getD i .non] := by
  unfold enumP; rw [List.length_map]
theorem zipP_map {α β : Type} {xs : List α} {ys : List β} {ea : α → PV} {eb : β → PV} : zipP (xs.map ea) (ys.map eb) = (xs.zip ys).map fun p => .tup [ea p.1, eb p.2] := by
  unfold zipP
  rw [List.zipWith_map, List.zip, List.map_zipWith]
theorem atI_map {α : Type} {xs : List α} {emb : α → PV} {i : Int} : atI (xs.map emb) i = (atI xs i).map emb := by
  unfold atI
  rw [List.length_map]
  cases ixN xs.length i with
  | none => rfl
  | some j => exact List.getElem?_map ..
theorem atI_pos {α : Type} {xs : List α} {i : Nat} (h : i < xs.length) : atI xs (i : Int) = xs[i]? := by
  unfold atI ixN
  rw [if_pos (by omega), if_pos (by omega), Int.toNat_natCast]
  rfl
theorem atI_nn {α : Type} {xs : List α} {i : Int} (h0 : 0 ≤ i) (h : i < xs.length) : atI xs i = xs[i.toNat]? := by
  have e : i = (i.toNat : Int) := by omega
  have l : i.toNat < xs.length := by omega
  have := atI_pos l
  rw [← e] at this
  exact this
theorem atI_last1 {α : Type} {xs : List α} (h : 0 < xs.length) : atI xs (-1) = xs[xs.length - 1]? := by
  unfold atI ixN
  rw [if_neg (by omega), if_pos (by omega)]
  show xs[((-1 : Int) + (xs.length : Int)).toNat]? = _
  rw [show ((-1 : Int) + (xs.length : Int)).toNat = xs.length - 1 by omega]
theorem cutP_map {α : Type} {xs : List α} {emb : α → PV} {a b : Option Int} : cutP (xs.map emb) a b = ((xs.drop (HT.sIx xs.length 0 a)).take (HT.sIx xs.length xs.length b - HT.sIx xs.length 0 a)).map emb := by
  unfold cutP
  rw [List.length_map, List.map_take, List.map_drop]
end PM

set_option maxHeartbeats 1000000
/-! PM: the least and the greatest of data, ranges made into lines. -/
namespace L2
open PySem PySem.Spec PyProof.Rows
/-- the place of the first of the least, of the greatest -/
def bestLt (ds : List PyData) : Nat := argBest (fun i j => PySem.W.dataLt (ds.getD i .none) (ds.getD j .none)) (ds.length - 1)
def bestGt (ds : List PyData) : Nat := argBest (fun i j => PySem.W.dataLt (ds.getD j .none) (ds.getD i .none)) (ds.length - 1)
def rBest (K : PySem.W.Frag) (best : List PyData → Nat) : List V → Hp → VK → Prop := fun vs H Q => ∃ (a : Addr) (xs : List V) (ds : List PyData), vs = [V.ref a] ∧ (SqL K H a xs ∨ SqT K H a xs) ∧ DpAll K H xs ds ∧ PySem.W.AlikeAll ds ∧ PyData.depthAll ds ≤ 60 ∧ 0 < ds.length ∧ ∀ v, xs[best ds]? = some v → Q v H
theorem cr_minDa {X : Cx} (hc : X.calm = true) (hu : X.A.units + 64 < cLine) : CallR X (.builtin "min") (rBest X.K bestLt) := by
  intro pins s σ H vs us Q I r h
  obtain ⟨a, xs, ds, rfl, hs, hd, hal, hdp, hne, q⟩ := h
  rw [Vals.ref1 r]
  rcases hs with hs | hs
  · obtain ⟨its, rv, hl, _⟩ := I.list hs
    obtain ⟨as, hr⟩ := Dp.readsAll I ds xs its hd rv
    have hsz : its.length = ds.length := readsAll_len _ hr
    have hr' : ReadsAll s.heap its.toArray.toList ds as := hr
    refine call_min_walkH (PySem.W.iter_listW (A := X.A.in1) (I.ok.hd hc) hl.isList fun s₂ e W st hfp hw hk => ?_)
    refine ⟨_, _, _, _, _, _, _, s.heap, _, rfl, W, st, hfp, by rw [List.size_toArray]; omega, hw, hk, PySem.W.cmpIn_lt (A := X.A.in1) hr' hal (by show X.A.units + 1 + _ < _; omega), fun v s' hP m => ?_⟩
    obtain ⟨h', tk, rfl, hk'⟩ := PySem.W.moved_old e rfl m
    have hP' : its[bestLt ds]? = some v := by
      have : its.toArray[argBest (fun i j => PySem.W.dataLt (ds.getD i .none) (ds.getD j .none)) (its.toArray.size - 1)]? = some v := hP
      rw [List.size_toArray, hsz] at this
      rw [← this, List.getElem?_toArray]; rfl
    have hlen : bestLt ds < its.length := (List.getElem?_eq_some_iff.mp hP').1
    have hx : xs[bestLt ds]? = some (xs[bestLt ds]'(by rw [rv.length]; exact hlen)) := List.getElem?_eq_getElem _
    obtain ⟨u, hu2, ru⟩ := rv.get hx
    rw [hP'] at hu2; cases hu2
    exact ⟨_, H, I.kept hk', ru, q _ hx⟩
  · obtain ⟨its, rv, hl, _⟩ := I.tuple hs
    obtain ⟨as, hr⟩ := Dp.readsAll I ds xs its hd rv
    have hsz : its.length = ds.length := readsAll_len _ hr
    have hr' : ReadsAll s.heap its.toArray.toList ds as := hr
    refine call_min_walkH (PySem.W.iter_tupleW (A := X.A.in1) (I.ok.hd hc) (show s.heap.IsTuple a its.toArray from hl) fun s₂ e W st hfp hw hk => ?_)
    refine ⟨_, _, _, _, _, _, _, s.heap, _, rfl, W, st, hfp, by rw [List.size_toArray]; omega, hw, hk, PySem.W.cmpIn_lt (A := X.A.in1) hr' hal (by show X.A.units + 1 + _ < _; omega), fun v s' hP m => ?_⟩
    obtain ⟨h', tk, rfl, hk'⟩ := PySem.W.moved_old e rfl m
    have hP' : its[bestLt ds]? = some v := by
      have : its.toArray[argBest (fun i j => PySem.W.dataLt (ds.getD i .none) (ds.getD j .none)) (its.toArray.size - 1)]? = some v := hP
      rw [List.size_toArray, hsz] at this
      rw [← this, List.getElem?_toArray]; rfl
    have hlen : bestLt ds < its.length := (List.getElem?_eq_some_iff.mp hP').1
    have hx : xs[bestLt ds]? = some (xs[bestLt ds]'(by rw [rv.length]; exact hlen)) := List.getElem?_eq_getElem _
    obtain ⟨u, hu2, ru⟩ := rv.get hx
    rw [hP'] at hu2; cases hu2
    exact ⟨_, H, I.kept hk', ru, q _ hx⟩
theorem cr_maxDa {X : Cx} (hc : X.calm = true) (hu : X.A.units + 64 < cLine) : CallR X (.builtin "max") (rBest X.K bestGt) := by
  intro pins s σ H vs us Q I r h
  obtain ⟨a, xs, ds, rfl, hs, hd, hal, hdp, hne, q⟩ := h
  rw [Vals.ref1 r]
  rcases hs with hs | hs
  · obtain ⟨its, rv, hl, _⟩ := I.list hs
    obtain ⟨as, hr⟩ := Dp.readsAll I ds xs its hd rv
    have hsz : its.length = ds.length := readsAll_len _ hr
    have hr' : ReadsAll s.heap its.toArray.toList ds as := hr
    refine call_max_walkH (PySem.W.iter_listW (A := X.A.in1) (I.ok.hd hc) hl.isList fun s₂ e W st hfp hw hk => ?_)
    refine ⟨_, _, _, _, _, _, _, s.heap, _, rfl, W, st, hfp, by rw [List.size_toArray]; omega, hw, hk, PySem.W.cmpIn_gt (A := X.A.in1) hr' hal (by show X.A.units + 1 + _ < _; omega), fun v s' hP m => ?_⟩
    obtain ⟨h', tk, rfl, hk'⟩ := PySem.W.moved_old e rfl m
    have hP' : its[bestGt ds]? = some v := by
      have : its.toArray[argBest (fun i j => PySem.W.dataLt (ds.getD j .none) (ds.getD i .none)) (its.toArray.size - 1)]? = some v := hP
      rw [List.size_toArray, hsz] at this
      rw [← this, List.getElem?_toArray]; rfl
    have hlen : bestGt ds < its.length := (List.getElem?_eq_some_iff.mp hP').1
    have hx : xs[bestGt ds]? = some (xs[bestGt ds]'(by rw [rv.length]; exact hlen)) := List.getElem?_eq_getElem _
    obtain ⟨u, hu2, ru⟩ := rv.get hx
    rw [hP'] at hu2; cases hu2
    exact ⟨_, H, I.kept hk', ru, q _ hx⟩
  · obtain ⟨its, rv, hl, _⟩ := I.tuple hs
    obtain ⟨as, hr⟩ := Dp.readsAll I ds xs its hd rv
    have hsz : its.length = ds.length := readsAll_len _ hr
    have hr' : ReadsAll s.heap its.toArray.toList ds as := hr
    refine call_max_walkH (PySem.W.iter_tupleW (A := X.A.in1) (I.ok.hd hc) (show s.heap.IsTuple a its.toArray from hl) fun s₂ e W st hfp hw hk => ?_)
    refine ⟨_, _, _, _, _, _, _, s.heap, _, rfl, W, st, hfp, by rw [List.size_toArray]; omega, hw, hk, PySem.W.cmpIn_gt (A := X.A.in1) hr' hal (by show X.A.units + 1 + _ < _; omega), fun v s' hP m => ?_⟩
    obtain ⟨h', tk, rfl, hk'⟩ := PySem.W.moved_old e rfl m
    have hP' : its[bestGt ds]? = some v := by
      have : its.toArray[argBest (fun i j => PySem.W.dataLt (ds.getD j .none) (ds.getD i .none)) (its.toArray.size - 1)]? = some v := hP
      rw [List.size_toArray, hsz] at this
      rw [← this, List.getElem?_toArray]; rfl
    have hlen : bestGt ds < its.length := (List.getElem?_eq_some_iff.mp hP').1
    have hx : xs[bestGt ds]? = some (xs[bestGt ds]'(by rw [rv.length]; exact hlen)) := List.getElem?_eq_getElem _
    obtain ⟨u, hu2, ru⟩ := rv.get hx
    rw [hP'] at hu2; cases hu2
    exact ⟨_, H, I.kept hk', ru, q _ hx⟩
/-! ### tuple(range(a, b, c)) -/
section
variable {X : Cx} {a b c : Expr} {ta tb tc : TE}
def rg3V (i c : Int) (n : Nat) : List V := (List.range n).map fun k => V.int (i + (k : Nat) * c)
def tTup3 (ta tb tc : TE) : TE := fun σ H Q => ta σ H fun x H1 => tb σ H1 fun y H2 => tc σ H2 fun z H3 => ∃ (i j c : Int) (n : Nat), x = .int i ∧ y = .int j ∧ z = .int c ∧ RgC i j c n ∧ n ≤ 16777216 ∧ ∀ q, H3 q = none → Q (.ref q) (upd H3 q (.tup (rg3V i c n)))
theorem pe_tup3 {p p2 pos pos2 : Pos} (hc : X.calm = true) (hg : Gl X "tuple") (hm : X.mg "tuple" = none) (hg2 : Gl X "range") (hm2 : X.mg "range" = none) (ha : PE X a ta) (hb : PE X b tb) (hcc : PE X c tc)
    (na : starEach [a, b, c] X.env = (false, eval a X.env) :: starEach [b, c] X.env := by rfl) (nb : starEach [b, c] X.env = (false, eval b X.env) :: starEach [c] X.env := by rfl) (nc : starEach [c] X.env = (false, eval c X.env) :: starEach [] X.env := by rfl)
    (hp : (backTo pos2 (starEach [b, c] X.env)).any (·.1) = false := by rfl) (nr : starEach [.Call (.Name "range" p2) [a, b, c] [] pos2] X.env = (false, eval (.Call (.Name "range" p2) [a, b, c] [] pos2) X.env) :: starEach [] X.env := by rfl) :
    PE X (.Call (.Name "tuple" p) [.Call (.Name "range" p2) [a, b, c] [] pos2] [] pos) (tTup3 ta tb tc) := by
  refine ⟨fun pins s σ H Q I h => ?_⟩
  refine Call_ (ld_blt I hg hm boot_tuple (PyProof.Rows.callWith_type1 (args_cons ?_ nr) nr))
  refine Call_ (ld_blt I hg2 hm2 boot_range (PyProof.Rows.callWith_type1 (args_cons (thn (ha.run pins s σ H _ I h) fun v s1 ⟨x, H1, I1, r1, q1⟩ => args_cons (thn (hb.run pins s1 σ H1 _ I1 q1) fun u s2 ⟨y, H2, I2, r2, q2⟩ => one_arg hcc I2 q2 (fun w s3 z H3 I3 r3 q => ?_) nc) nb) na) na hp))
  obtain ⟨i, j, k, n, rfl, rfl, rfl, ⟨c0, c1, c2, c3⟩, hn, q⟩ := q
  obtain ⟨t, rfl⟩ := r1
  obtain ⟨t', rfl⟩ := r2
  obtain ⟨t'', rfl⟩ := r3
  refine call_range_3 c0 (args_nil ?_) (.inl (PyProof.noPylong_small c1))
  have I4 : Inv X pins σ H3 { s3 with heap := s3.heap.push { cls := .type "range", data := .fields #[.int i t, .int j t', .int k t''] } } := I3.kept (t' := s3.toks) fun b o e => Heap.get?_push_of_some _ e
  refine call_tuple_range (n := n) (I4.ok.hd hc) (IsRange.new _ _ _ _ _ _ _) c2 c3 hn fun h' tk acc hk hi => ?_
  have I5 : Inv X pins σ H3 { s3 with heap := h', toks := tk } := I4.kept hk
  have hv : Vals (rg3V i k n) acc.toList := by
    have e : acc.toList.length = n := by rw [Array.length_toList]; exact hi.1
    unfold rg3V
    rw [← e]
    refine vals_of_get acc.toList _ fun j u hj => ?_
    obtain ⟨t, rfl⟩ := hi.2 j u (by rw [← hj, Array.getElem?_toList])
    exact ⟨t, rfl⟩
  refine ⟨.ref h'.objs.size, upd H3 h'.objs.size (.tup (rg3V i k n)), I5.laid (t' := tk) (fun c o e => Heap.get?_push_of_some _ e) (Nat.le_refl _) (show ObjOk X.prog X.w _ _ _ (.tup (rg3V i k n)) from ⟨?_, acc.toList, hv, ?_⟩), rfl, q _ (I5.hok.fresh (Nat.le_refl _))⟩
  · unfold rg3V; rw [List.length_map, List.length_range, sizeLine_eq]; omega
  · rw [Array.toArray_toList]; exact IsTup.new _ _
end
end L2
namespace PM
open PySem L2
def oBest (best : List PyData → Nat) : POn := fun xs P => ∃ x ps ds, xs = [x] ∧ seqP x = some ps ∧ toDs ps = some ds ∧ PySem.W.AlikeAll ds ∧ PyData.depthAll ds ≤ 60 ∧ 0 < ps.length ∧ ∀ p, ps[best ds]? = some p → P p
theorem toDs_len : ∀ {ps : List PV} {ds : List PyData}, toDs ps = some ds → ds.length = ps.length
  | [], _, h => by unfold toDs at h; cases h; rfl
  | p :: ps, _, h => by
    unfold toDs at h
    cases q : toD p with
    | none => rw [q] at h; cases h
    | some d =>
      rw [q] at h
      cases q2 : toDs ps with
      | none => rw [q2] at h; cases h
      | some ds => rw [q2] at h; cases h; rw [List.length_cons, List.length_cons, toDs_len q2]
theorem lift_best {K : PySem.W.Frag} {best : List PyData → Nat} (hb : ∀ ds, 0 < ds.length → best ds < ds.length) : LiftN K (rBest K best) (oBest best) .cl := by
  rintro Z W H ps vs P Q S r ⟨x, qs, ds, rfl, hx, hd, hal, hdp, hne, hp⟩ k
  obtain ⟨v, rfl, rv⟩ := r.one
  obtain ⟨a, ws, rfl, hs, rs⟩ := rv.seq hx
  have hl := toDs_len hd
  refine ⟨a, ws, ds, rfl, hs, toDs_dp rs hd, hal, hdp, by omega, fun v hv => ?_⟩
  have hlt := hb ds (by omega)
  have hq : qs[best ds]? = some (qs[best ds]'(by omega)) := List.getElem?_eq_getElem _
  obtain ⟨v', hv', rv'⟩ := rs.get hq
  rw [hv] at hv'; cases hv'
  exact S.fin k rv' (hp _ hq)
theorem argBest_le (bt : Nat → Nat → Bool) : ∀ n, argBest bt n ≤ n
  | 0 => Nat.le_refl _
  | n + 1 => by
    unfold argBest
    split
    · exact Nat.le_refl _
    · exact Nat.le_succ_of_le (argBest_le bt n)
theorem bestLt_lt (ds : List PyData) (h : 0 < ds.length) : bestLt ds < ds.length := by
  have := argBest_le (fun i j => PySem.W.dataLt (ds.getD i .none) (ds.getD j .none)) (ds.length - 1)
  unfold bestLt
  omega
theorem bestGt_lt (ds : List PyData) (h : 0 < ds.length) : bestGt ds < ds.length := by
  have := argBest_le (fun i j => PySem.W.dataLt (ds.getD j .none) (ds.getD i .none)) (ds.length - 1)
  unfold bestGt
  omega
section
variable {X : Cx} {c : List Ow} {a b d e : Expr} {ta tb td : TEm} {p p2 pos pos2 : Pos}
def rg3P (i k : Int) (n : Nat) : List PV := (List.range n).map fun j => PV.int (i + (j : Nat) * k)
def mTup3 (ta tb td : TEm) : TEm := fun env P => ta env fun x => tb env fun y => td env fun z => ∃ (i j k : Int) (n : Nat), x = .int i ∧ y = .int j ∧ z = .int k ∧ RgC i j k n ∧ n ≤ 16777216 ∧ P (.tup (rg3P i k n))
theorem em_tup3 (hc : X.calm = true) (hm : X.mg "tuple" = none) (hm2 : X.mg "range" = none) (ha : PEm X c .ow a ta) (hb : PEm X c .ow b tb) (hd : PEm X c .ow d td) (hg : Gl X "tuple" := by rfl) (hg2 : Gl X "range" := by rfl)
    (na : starEach [a, b, d] X.env = (false, eval a X.env) :: starEach [b, d] X.env := by rfl) (nb : starEach [b, d] X.env = (false, eval b X.env) :: starEach [d] X.env := by rfl) (nc : starEach [d] X.env = (false, eval d X.env) :: starEach [] X.env := by rfl)
    (hp : (backTo pos2 (starEach [b, d] X.env)).any (·.1) = false := by rfl) (nr : starEach [.Call (.Name "range" p2) [a, b, d] [] pos2] X.env = (false, eval (.Call (.Name "range" p2) [a, b, d] [] pos2) X.env) :: starEach [] X.env := by rfl) :
    PEm X c .cl (.Call (.Name "tuple" p) [.Call (.Name "range" p2) [a, b, d] [] pos2] [] pos) (mTup3 ta tb td) := ⟨(pe_tup3 hc hg hm hg2 hm2 ha.run hb.run hd.run na nb nc hp nr).weak fun σ H Q h => by
  obtain ⟨G, A, W, env, P, R, h, k⟩ := h
  refine ⟨G, A, W, env, _, R, h, fun px vx H1 g1 rx h1 => ⟨G, A, W, env, _, R.grow g1, h1, fun py vy H2 g2 ry h2 => ⟨G, A, W, env, _, (R.grow g1).grow g2, h2, fun pz vz H3 g3 rz h3 => ?_⟩⟩⟩
  obtain ⟨i, j, m, n, rfl, rfl, rfl, hr, hn, hp⟩ := h3
  have R3 := ((R.grow g1).grow g2).grow g3
  refine ⟨i, j, m, n, rx.o.int, ry.o.int, rz.o.int, hr, hn, fun q nq => ?_⟩
  have rs : Rps X.K ⟨Zt G A W, W, H3⟩ (rg3P i m n) (rg3V i m n) := by
    have e1 : rg3P i m n = ((List.range n).map fun j => i + (j : Nat) * m).map PV.int := by unfold rg3P; rw [List.map_map]; rfl
    have e2 : rg3V i m n = ((List.range n).map fun j => i + (j : Nat) * m).map V.int := by unfold rg3V; rw [List.map_map]; rfl
    rw [e1, e2]
    exact Rps.ints.mpr rfl
  exact k _ _ _ (((g1.trans g2).trans g3).trans (Grow.new R3.src nq)) (VK1.ofRp (Rp.newTup (R3.nz nq) nq R3.src R.sz rs)) hp⟩
/-- list(range(..)), tuple(range(..)) -/
def mRgL1 (t : TEm) : TEm := fun env P => t env fun x => ∃ n, x = .int n ∧ RgOk 0 n ∧ P (.lst (rngP 0 n.toNat))
def mRgT1 (t : TEm) : TEm := fun env P => t env fun x => ∃ n, x = .int n ∧ RgOk 0 n ∧ P (.tup (rngP 0 n.toNat))
def mRgL2 (t u : TEm) : TEm := fun env P => t env fun x => u env fun y => ∃ i j, x = .int i ∧ y = .int j ∧ RgOk i j ∧ P (.lst (rngP i (j - i).toNat))
def mRgT2 (t u : TEm) : TEm := fun env P => t env fun x => u env fun y => ∃ i j, x = .int i ∧ y = .int j ∧ RgOk i j ∧ P (.tup (rngP i (j - i).toNat))
theorem rg_rps {K : PySem.W.Frag} {S : Wd} {i j : Int} : Rps K S (rngP i (j - i).toNat) (rgV i j) := by
  have e1 : rngP i (j - i).toNat = ((List.range (j - i).toNat).map fun (k : Nat) => i + (k : Int)).map PV.int := by unfold rngP; rw [List.map_map]; rfl
  have e2 : rgV i j = ((List.range (j - i).toNat).map fun (k : Nat) => i + (k : Int)).map V.int := by unfold rgV; rw [List.map_map]; rfl
  rw [e1, e2]
  exact Rps.ints.mpr rfl
theorem em_rgL1 (hc : X.calm = true) (hm : X.mg "list" = none) (hm2 : X.mg "range" = none) (ha : PEm X c .ow a ta) (hg : Gl X "list" := by rfl) (hg2 : Gl X "range" := by rfl) (na : starEach [a] X.env = (false, eval a X.env) :: starEach [] X.env := by rfl)
    (nr : starEach [.Call (.Name "range" p2) [a] [] pos2] X.env = (false, eval (.Call (.Name "range" p2) [a] [] pos2) X.env) :: starEach [] X.env := by rfl) : PEm X c .fr (.Call (.Name "list" p) [.Call (.Name "range" p2) [a] [] pos2] [] pos) (mRgL1 ta) := ⟨(pe_listRg hc hg hm (prg_1 hg2 hm2 ha.run na) nr).weak fun σ H Q h => by
  obtain ⟨G, A, W, env, P, R, h, k⟩ := h
  refine ⟨G, A, W, env, _, R, h, fun px vx H1 g1 rx ⟨n, e, hr, hp⟩ => ⟨n, by subst e; exact rx.o.int, hr, fun q nq => ?_⟩⟩
  have R1 := R.grow g1
  have rs : Rps X.K ⟨Zt G A W, W, H1⟩ (rngP 0 (n - 0).toNat) (rgV 0 n) := rg_rps
  rw [Int.sub_zero] at rs
  exact k _ _ _ (g1.trans (Grow.new R1.src nq)) ⟨q, rfl, g1.free nq, OwnAt.newLst nq rs⟩ hp⟩
theorem em_rgT1 (hc : X.calm = true) (hm : X.mg "tuple" = none) (hm2 : X.mg "range" = none) (ha : PEm X c .ow a ta) (hg : Gl X "tuple" := by rfl) (hg2 : Gl X "range" := by rfl) (na : starEach [a] X.env = (false, eval a X.env) :: starEach [] X.env := by rfl)
    (nr : starEach [.Call (.Name "range" p2) [a] [] pos2] X.env = (false, eval (.Call (.Name "range" p2) [a] [] pos2) X.env) :: starEach [] X.env := by rfl) : PEm X c .cl (.Call (.Name "tuple" p) [.Call (.Name "range" p2) [a] [] pos2] [] pos) (mRgT1 ta) := ⟨(pe_tupRg hc hg hm (prg_1 hg2 hm2 ha.run na) nr).weak fun σ H Q h => by
  obtain ⟨G, A, W, env, P, R, h, k⟩ := h
  refine ⟨G, A, W, env, _, R, h, fun px vx H1 g1 rx ⟨n, e, hr, hp⟩ => ⟨n, by subst e; exact rx.o.int, hr, fun q nq => ?_⟩⟩
  have R1 := R.grow g1
  have rs : Rps X.K ⟨Zt G A W, W, H1⟩ (rngP 0 (n - 0).toNat) (rgV 0 n) := rg_rps
  rw [Int.sub_zero] at rs
  exact k _ _ _ (g1.trans (Grow.new R1.src nq)) (VK1.ofRp (Rp.newTup (R1.nz nq) nq R1.src R.sz rs)) hp⟩
theorem em_rgL2 (hc : X.calm = true) (hm : X.mg "list" = none) (hm2 : X.mg "range" = none) (ha : PEm X c .ow a ta) (hb : PEm X c .ow b tb) (hg : Gl X "list" := by rfl) (hg2 : Gl X "range" := by rfl) (na : starEach [a, b] X.env = (false, eval a X.env) :: starEach [b] X.env := by rfl) (nb : starEach [b] X.env = (false, eval b X.env) :: starEach [] X.env := by rfl)
    (hp : (backTo pos2 (starEach [b] X.env)).any (·.1) = false := by rfl) (nr : starEach [.Call (.Name "range" p2) [a, b] [] pos2] X.env = (false, eval (.Call (.Name "range" p2) [a, b] [] pos2) X.env) :: starEach [] X.env := by rfl) : PEm X c .fr (.Call (.Name "list" p) [.Call (.Name "range" p2) [a, b] [] pos2] [] pos) (mRgL2 ta tb) := ⟨(pe_listRg hc hg hm (prg_2 hg2 hm2 ha.run hb.run na nb hp) nr).weak fun σ H Q h => by
  obtain ⟨G, A, W, env, P, R, h, k⟩ := h
  refine ⟨G, A, W, env, _, R, h, fun px vx H1 g1 rx h1 => ⟨G, A, W, env, _, R.grow g1, h1, fun py vy H2 g2 ry ⟨i, j, e, e2, hr, hp⟩ => ⟨i, j, by subst e; exact rx.o.int, by subst e2; exact ry.o.int, hr, fun q nq => ?_⟩⟩⟩
  have R2 := (R.grow g1).grow g2
  exact k _ _ _ ((g1.trans g2).trans (Grow.new R2.src nq)) ⟨q, rfl, (g1.trans g2).free nq, OwnAt.newLst nq rg_rps⟩ hp⟩
theorem em_rgT2 (hc : X.calm = true) (hm : X.mg "tuple" = none) (hm2 : X.mg "range" = none) (ha : PEm X c .ow a ta) (hb : PEm X c .ow b tb) (hg : Gl X "tuple" := by rfl) (hg2 : Gl X "range" := by rfl) (na : starEach [a, b] X.env = (false, eval a X.env) :: starEach [b] X.env := by rfl) (nb : starEach [b] X.env = (false, eval b X.env) :: starEach [] X.env := by rfl)
    (hp : (backTo pos2 (starEach [b] X.env)).any (·.1) = false := by rfl) (nr : starEach [.Call (.Name "range" p2) [a, b] [] pos2] X.env = (false, eval (.Call (.Name "range" p2) [a, b] [] pos2) X.env) :: starEach [] X.env := by rfl) : PEm X c .cl (.Call (.Name "tuple" p) [.Call (.Name "range" p2) [a, b] [] pos2] [] pos) (mRgT2 ta tb) := ⟨(pe_tupRg hc hg hm (prg_2 hg2 hm2 ha.run hb.run na nb hp) nr).weak fun σ H Q h => by
  obtain ⟨G, A, W, env, P, R, h, k⟩ := h
  refine ⟨G, A, W, env, _, R, h, fun px vx H1 g1 rx h1 => ⟨G, A, W, env, _, R.grow g1, h1, fun py vy H2 g2 ry ⟨i, j, e, e2, hr, hp⟩ => ⟨i, j, by subst e; exact rx.o.int, by subst e2; exact ry.o.int, hr, fun q nq => ?_⟩⟩⟩
  have R2 := (R.grow g1).grow g2
  exact k _ _ _ ((g1.trans g2).trans (Grow.new R2.src nq)) (VK1.ofRp (Rp.newTup (R2.nz nq) nq R2.src R.sz rg_rps)) hp⟩
end
theorem hu65_of {A : Around} {k : Nat} (hr : Room k A) : A.units + 65 < cLine := by have := hr.un; omega
/-! ### x in a line of data -/
def rInA (K : PySem.W.Frag) (neg : Bool) : R2 := fun x y H Q => ∃ d ds, Dp K H x d ∧ (Dp K H y (.list ds) ∨ Dp K H y (.tuple ds)) ∧ SeqAt.shaped d = true ∧ SeqAt.shaped (.list ds) = true ∧ Q (.bl (xor neg (ds.any fun z => PyData.eqv z d))) H
theorem op_inA {X : Cx} (hu : X.A.units + 65 < cLine) : OpR X (compareOp .In) (rInA X.K false) := by
  intro pins s σ H x y v u Q I rx ry h
  obtain ⟨d, ds, hd, he, sd, se, q⟩ := h
  rw [Bool.false_xor] at q
  obtain ⟨as, r1⟩ := Dp.reads I d x v hd rx
  rcases he with he | he
  · obtain ⟨bs, r2⟩ := Dp.reads I (.list ds) y u he ry
    exact SeqAt.in_list_reads r2 r1 (SeqAt.canLay_of_shaped se) (SeqAt.canLay_of_shaped sd) (PyProof.Rows.room_in_shaped sd hu) ⟨.bl _, H, I, rfl, q⟩
  · obtain ⟨bs, r2⟩ := Dp.reads I (.tuple ds) y u he ry
    exact SeqAt.in_tuple_reads r2 r1 (SeqAt.canLay_of_shaped se) (SeqAt.canLay_of_shaped sd) (PyProof.Rows.room_in_shaped sd hu) ⟨.bl _, H, I, rfl, q⟩
theorem op_ninA {X : Cx} (hu : X.A.units + 65 < cLine) : OpR X (compareOp .NotIn) (rInA X.K true) := by
  intro pins s σ H x y v u Q I rx ry h
  obtain ⟨d, ds, hd, he, sd, se, q⟩ := h
  rw [Bool.true_xor] at q
  obtain ⟨as, r1⟩ := Dp.reads I d x v hd rx
  rcases he with he | he
  · obtain ⟨bs, r2⟩ := Dp.reads I (.list ds) y u he ry
    exact SeqAt.notIn_list_reads r2 r1 (SeqAt.canLay_of_shaped se) (SeqAt.canLay_of_shaped sd) (PyProof.Rows.room_in_shaped sd hu) ⟨.bl _, H, I, rfl, q⟩
  · obtain ⟨bs, r2⟩ := Dp.reads I (.tuple ds) y u he ry
    exact SeqAt.notIn_tuple_reads r2 r1 (SeqAt.canLay_of_shaped se) (SeqAt.canLay_of_shaped sd) (PyProof.Rows.room_in_shaped sd hu) ⟨.bl _, H, I, rfl, q⟩
def oInA (neg : Bool) : PO2 := fun x y P => ∃ ps d ds, seqP y = some ps ∧ toD x = some d ∧ toDs ps = some ds ∧ SeqAt.shaped d = true ∧ SeqAt.shaped (.list ds) = true ∧ P (.bl (xor neg (ds.any fun z => PyData.eqv z d)))
theorem lift_inA {K : PySem.W.Frag} {neg : Bool} : Lift2 K (rInA K neg) (oInA neg) .cl := by
  rintro Z W H px py vx vy P Q S rx ry ⟨ps, d, ds, hy, hd, hds, sd, se, hp⟩ k
  refine ⟨d, ds, toD_dpO rx hd, ?_, sd, se, S.fin k Rp.bl' hp⟩
  cases py with
  | lst qs =>
    cases hy
    obtain ⟨a, ws, rfl, e, r⟩ := ry.lst
    exact .inl (.lst (.inl (.inl e.2)) (toDs_dp r hds))
  | tup qs =>
    cases hy
    obtain ⟨a, ws, rfl, e, r⟩ := ry.tup
    exact .inr (.tup e.sq (toDs_dp r hds))
  | _ => cases hy
/-! ### what min and max find -/
theorem argBest_min' {k : Nat → Int} {bt : Nat → Nat → Bool} : ∀ {n : Nat}, (∀ i j, i ≤ n → j ≤ n → k i < k j → bt i j = true) → (∀ i j, i ≤ n → j ≤ n → k j < k i → bt i j = false) → ∀ j, j ≤ n → k (argBest bt n) ≤ k j
  | 0, _, _, j, h => by rw [Nat.le_zero.mp h]; exact Int.le_refl _
  | n + 1, h1, h2, j, h => by
    have ih := argBest_min' (n := n) (fun i j a b => h1 i j (by omega) (by omega)) (fun i j a b => h2 i j (by omega) (by omega))
    have hb := argBest_le bt n
    unfold argBest
    cases e : bt (n + 1) (argBest bt n) with
    | true =>
      rw [if_pos rfl]
      have hle : k (n + 1) ≤ k (argBest bt n) := Int.not_lt.mp fun z => by rw [h2 _ _ (by omega) (by omega) z] at e; cases e
      rcases Nat.lt_or_ge n j with z | z
      · have : j = n + 1 := by omega
        rw [this]; exact Int.le_refl _
      · exact Int.le_trans hle (ih j z)
    | false =>
      rw [if_neg Bool.false_ne_true]
      have hle : k (argBest bt n) ≤ k (n + 1) := Int.not_lt.mp fun z => by rw [h1 _ _ (by omega) (by omega) z] at e; cases e
      rcases Nat.lt_or_ge n j with z | z
      · have : j = n + 1 := by omega
        rw [this]; exact hle
      · exact ih j z
theorem dataLt_hd {a b : Int} {r s : List PyData} (h : a ≠ b) : PySem.W.dataLt (.tuple (.int a :: r)) (.tuple (.int b :: s)) = decide (a < b) := by
  rw [PySem.W.dataLt_tuple, PySem.W.dataLt_all_no (by rfl) (by show (a == b) = false; simpa using h), PySem.W.dataLt_int]
/-- the least by the first part, a whole number -/
theorem bestLt_key {α : Type} {xs : List α} {f : α → PyData} {k : α → Int} (h1 : ∀ x y, k x < k y → PySem.W.dataLt (f x) (f y) = true) (h2 : ∀ x y, k y < k x → PySem.W.dataLt (f x) (f y) = false) (hp : 0 < xs.length) :
    ∃ x, xs[bestLt (xs.map f)]? = some x ∧ x ∈ xs ∧ ∀ y ∈ xs, k x ≤ k y := by
  have hl := bestLt_lt (xs.map f) (by rw [List.length_map]; exact hp)
  rw [List.length_map] at hl
  refine ⟨xs[bestLt (xs.map f)], List.getElem?_eq_getElem hl, List.getElem_mem hl, fun y hy => ?_⟩
  obtain ⟨j, hj, rfl⟩ := List.mem_iff_getElem.mp hy
  have d : α := xs[0]
  have gd : ∀ i (hi : i < xs.length), (xs.map f).getD i .none = f xs[i] := fun i hi => by
    rw [List.getD_eq_getElem?_getD, List.getElem?_map, List.getElem?_eq_getElem hi]; rfl
  have kk : ∀ i (hi : i < xs.length), (xs[i]?.map k).getD 0 = k xs[i] := fun i hi => by rw [List.getElem?_eq_getElem hi]; rfl
  -- beyond the end nothing is asked: the order is made total there
  have main := argBest_min' (n := xs.length - 1) (k := fun i => (xs[i]?.map k).getD 0) (bt := fun i j => PySem.W.dataLt ((xs.map f).getD i .none) ((xs.map f).getD j .none))
    (fun i j hi hj z => by rw [gd i (by omega), gd j (by omega)]; rw [kk i (by omega), kk j (by omega)] at z; exact h1 _ _ z)
    (fun i j hi hj z => by rw [gd i (by omega), gd j (by omega)]; rw [kk i (by omega), kk j (by omega)] at z; exact h2 _ _ z) j (by omega)
  have e : bestLt (xs.map f) = argBest (fun i j => PySem.W.dataLt ((xs.map f).getD i .none) ((xs.map f).getD j .none)) (xs.length - 1) := by unfold bestLt; rw [List.length_map]
  rw [kk j hj, ← e, kk _ hl] at main
  exact main
theorem ite_f {c p q : Prop} {inst : Decidable c} (h : ¬ c) (hq : q) : @ite Prop c inst p q := by rw [if_neg h]; exact hq
theorem ite_t {c p q : Prop} {inst : Decidable c} (h : c) (hp : p) : @ite Prop c inst p q := by rw [if_pos h]; exact hp
end PM

set_option maxHeartbeats 1000000
/-! zip of any two walkers: what is walked may be a list here and a tuple there. -/
namespace L2
open PySem PySem.Spec PyProof.Rows RZ
/-- a walker: its iterator at i over the thing at l -/
structure Wkr (i l : Addr) (It : Nat → Heap → Prop) (Co : Array Value → Heap → Prop) : Prop where
  keepI : ∀ {h g : Heap} {k : Nat}, It k h → (∀ o, h.get? i = some o → g.get? i = some o) → It k g
  keepC : ∀ {h g : Heap} {xs : Array Value}, Co xs h → (∀ o, h.get? l = some o → g.get? l = some o) → Co xs g
  obj : ∀ {h : Heap} {k : Nat}, It k h → ∃ o, h.get? i = some o ∧ ∀ v, o.data ≠ .cell v
  item : ∀ {prog : Program} {w : World} {A : Around} {E : Value → Shared → Prop} {s : Shared} {k : Nat} {x : Value} {xs : Array Value} {Q : Value → Shared → Prop}, It k s.heap → Co xs s.heap → xs[k]? = some x →
    (∀ g, It (k + 1) g → Heap.SameBut i s.heap g → Q x { s with heap := g }) → wpAny (model prog w) A (Builtin.SmallTypes.nextOf (.ref i)) Q E s
  fin : ∀ {prog : Program} {w : World} {A : Around} {E : Value → Shared → Prop} {s : Shared} {k : Nat} {xs : Array Value} {Q : Value → Shared → Prop}, A.handled = none → It k s.heap → Co xs s.heap → xs[k]? = none →
    (∀ g e, Heap.ExtBut i s.heap g → (∃ o, g.get? e = some o ∧ o.cls = .type "StopIteration") → E (.ref e) { s with heap := g }) → wpAny (model prog w) A (Builtin.SmallTypes.nextOf (.ref i)) Q E s
theorem wkr_list {i l : Addr} : Wkr i l (fun k h => h.IsListIter i l k) (fun xs h => h.IsList l xs) where
  keepI := fun a f => a.at f
  keepC := fun ⟨o, ho, r⟩ g => ⟨o, g _ ho, r⟩
  obj := fun ⟨o, e, _, d⟩ => ⟨o, e, fun v q => by rw [d] at q; cases q⟩
  item := fun a b hx hq => wpAny_nextOf_list_item a b hx hq
  fin := fun hh a b hx hq => wpAny_nextOf_list_end hh a b hx hq
theorem wkr_tup {i l : Addr} : Wkr i l (fun k h => h.IsTupleIter i l k) (fun xs h => h.IsTuple l xs) where
  keepI := fun a f => a.at f
  keepC := fun ⟨o, ho, r⟩ g => ⟨o, g _ ho, r⟩
  obj := fun ⟨o, e, _, d⟩ => ⟨o, e, fun v q => by rw [d] at q; cases q⟩
  item := fun a b hx hq => nextOf_tuple_item a b hx hq
  fin := fun hh a b hx hq => nextOf_tuple_end hh a b hx hq
section
variable {prog : Program} {w : World} {A : Around} {E : Value → Shared → Prop} {s : Shared} {z TI TO i j l m : Addr} {I J : Nat → Heap → Prop} {C D : Array Value → Heap → Prop} {k n : Nat} {xs ys : Array Value} {a b : Value}
theorem zipW_item {x y : Value} {Q : Value → Shared → Prop} (P : ZipApart z TI TO i j l m) (U : Wkr i l I C) (V : Wkr j m J D) (fz : IsZip s.heap z TI TO .none) (fI : IsPair s.heap TI (.ref i) (.ref j)) (fO : IsPair s.heap TO a b)
    (st1 : I k s.heap) (st2 : J n s.heap) (co1 : C xs s.heap) (co2 : D ys s.heap) (ex : xs[k]? = some x) (ey : ys[n]? = some y)
    (K : ∀ g, IsZip g z TI TO (rawInt s.heap.objs.size) → IsPair g TO x y → I (k + 1) g → J (n + 1) g → IsPair g s.heap.objs.size x y → g.objs.size = s.heap.objs.size + 1 → (∀ c o, c ≠ z → c ≠ TO → c ≠ i → c ≠ j → s.heap.get? c = some o → g.get? c = some o) → Q (.ref s.heap.objs.size) { s with heap := g }) :
    wpAny (model prog w) A (Builtin.«zip.__next__» ⟨[.ref z], []⟩) (fun r t => ∃ v, r = .done (.ret v) ∧ Q v t) E s := by
  show wpAny _ A (field (.ref z) 2 >>= _) _ E s
  refine wpAny_bind (wpAny_field fz rfl (x := .bool false) rfl ?_)
  show wpAny _ A (field (.ref z) 3 >>= _) _ E s
  refine wpAny_bind (wpAny_field fz rfl (x := .ref TI) rfl (wpAny_bind (wpAny_seqItems fI rfl ?_)))
  show wpAny _ A (Builtin.SmallTypes.ownedTupleIsFree (.ref z) >>= _) _ E s
  unfold Builtin.SmallTypes.ownedTupleIsFree
  refine wpAny_bind (wpAny_bind (wpAny_field fz rfl (x := .none) rfl (wpAny_pure ?_)))
  simp only [if_true]
  refine wpAny_bind (wpAny_rule (wpAny_bind (wpAny_field fz rfl (x := .ref TO) rfl (wpAny_bind (wpAny_setField_rec fz (by simp) fun g1 gz1 b1 => ?_)))))
  replace gz1 : IsZip g1 z TI TO .ellipsis := gz1
  refine wpAny_bind ?_
  simp only [List.zipIdx_cons, List.zipIdx_nil, List.forIn_cons, List.forIn_nil]
  refine wpAny_bind (wpAny_bind (wpAny_onRaise ?_))
  show wpAny _ A (Builtin.SmallTypes.nextOf (.ref i) >>= _) _ _ _
  have k1 : ∀ c o, c ≠ z → s.heap.get? c = some o → g1.get? c = some o := fun c o h e => b1.extBut _ _ h e
  refine wpAny_bind (U.item (U.keepI st1 fun o => k1 _ o P.i1z) (U.keepC co1 fun o => k1 _ o P.l1z) ex fun g2 st1' b2 => wpAny_pure ?_)
  have k2 : ∀ c o, c ≠ i → g1.get? c = some o → g2.get? c = some o := fun c o h e => b2.extBut _ _ h e
  have fO2 : IsPair g2 TO a b := k2 _ _ P.TOi1 (k1 _ _ P.TOz fO)
  refine wpAny_bind (wpAny_seqItems fO2 rfl (wpAny_bind (wpAny_updateSeq_pair fO2 fun g3 fO3 b3 => ?_)))
  replace fO3 : IsPair g3 TO x b := fO3
  have k3 : ∀ c o, c ≠ TO → g2.get? c = some o → g3.get? c = some o := fun c o h e => b3.extBut _ _ h e
  refine wpAny_bind (wpAny_letGo (wpAny_pure (wpAny_bind (wpAny_bind (wpAny_onRaise ?_)))))
  show wpAny _ A (Builtin.SmallTypes.nextOf (.ref j) >>= _) _ _ _
  refine wpAny_bind (V.item (V.keepI st2 fun o e => k3 _ o P.TOi2.symm (k2 _ o P.i12.symm (k1 _ o P.i2z e))) (V.keepC co2 fun o e => k3 _ o P.l2TO (k2 _ o P.l2i1 (k1 _ o P.l2z e))) ey fun g4 st2' b4 => wpAny_pure ?_)
  have k4 : ∀ c o, c ≠ j → g3.get? c = some o → g4.get? c = some o := fun c o h e => b4.extBut _ _ h e
  have fO4 : IsPair g4 TO x b := k4 _ _ P.TOi2 fO3
  refine wpAny_bind (wpAny_seqItems fO4 rfl (wpAny_bind (wpAny_updateSeq_pair fO4 fun g5 fO5 b5 => ?_)))
  replace fO5 : IsPair g5 TO x y := fO5
  have k5 : ∀ c o, c ≠ TO → g4.get? c = some o → g5.get? c = some o := fun c o h e => b5.extBut _ _ h e
  refine wpAny_bind (wpAny_letGo (wpAny_pure (wpAny_pure (wpAny_bind (wpAny_seqItems fO5 rfl (wpAny_bind (wpAny_newTuple ?_)))))))
  have sz : g5.objs.size = s.heap.objs.size := by rw [b5.1, b4.1, b3.1, b2.1, b1.1]
  have gz5 : IsZip g5 z TI TO .ellipsis := k5 _ _ P.TOz.symm (k4 _ _ P.i2z.symm (k3 _ _ P.TOz.symm (k2 _ _ P.i1z.symm gz1)))
  have zl : z < g5.objs.size := Heap.lt_size gz5
  show wpAny _ A (Builtin.SmallTypes.ownedTupleHandOut (.ref z) (.ref g5.objs.size) >>= _) _ E _
  unfold Builtin.SmallTypes.ownedTupleHandOut
  refine wpAny_bind ?_
  have gz6 : IsZip (g5.push { cls := .type "tuple", data := .seq #[x, y] }) z TI TO .ellipsis := Heap.get?_push_of_some _ gz5
  refine wpAny_bind (wpAny_setField_rec gz6 (by simp) fun g7 gz7 b7 => ?_)
  replace gz7 : IsZip g7 z TI TO (rawInt g5.objs.size) := gz7
  refine wpAny_setField_rec gz7 (by simp) fun g8 gz8 b8 => ?_
  replace gz8 : IsZip g8 z TI TO (rawInt g5.objs.size) := gz8
  have k8 : ∀ c o, c ≠ z → g5.get? c = some o → g8.get? c = some o := fun c o h e => b8.extBut _ _ h (b7.extBut _ _ h (Heap.get?_push_of_some _ e))
  have nw : IsPair g8 g5.objs.size x y := b8.extBut _ _ (Nat.ne_of_gt zl) (b7.extBut _ _ (Nat.ne_of_gt zl) (Heap.get?_push_size _ rfl))
  have sz8 : g8.objs.size = g5.objs.size + 1 := by rw [b8.1, b7.1, Heap.size_push]
  rw [sz] at gz8 nw sz8
  refine wpAny_pure ⟨_, rfl, ?_⟩
  show Q (.ref g5.objs.size) { s with heap := g8 }
  rw [sz]
  refine K g8 gz8 (k8 _ _ P.TOz fO5) (U.keepI st1' fun o e => k8 _ o P.i1z (k5 _ o P.TOi1.symm (k4 _ o P.i12 (k3 _ o P.TOi1.symm e)))) (V.keepI st2' fun o e => k8 _ o P.i2z (k5 _ o P.TOi2.symm e)) nw sz8 fun c o n1 n2 n3 n4 e => ?_
  exact k8 _ o n1 (k5 _ o n2 (k4 _ o n4 (k3 _ o n2 (k2 _ o n3 (k1 _ o n1 e)))))
theorem zipW_fin {Q : Fin → Shared → Prop} (hh : A.handled = none) (P : ZipApart z TI TO i j l m) (U : Wkr i l I C) (V : Wkr j m J D) (fz : IsZip s.heap z TI TO .none) (fI : IsPair s.heap TI (.ref i) (.ref j)) (fO : IsPair s.heap TO a b)
    (st1 : I k s.heap) (st2 : J n s.heap) (co1 : C xs s.heap) (co2 : D ys s.heap) (en : xs[k]? = none ∨ ys[n]? = none)
    (K : ∀ g e, (∀ c o, c ≠ z → c ≠ TO → c ≠ i → c ≠ j → s.heap.get? c = some o → g.get? c = some o) → (∃ o, g.get? e = some o ∧ o.cls = .type "StopIteration") → E (.ref e) { s with heap := g }) :
    wpAny (model prog w) A (Builtin.«zip.__next__» ⟨[.ref z], []⟩) Q E s := by
  show wpAny _ A (field (.ref z) 2 >>= _) _ E s
  refine wpAny_bind (wpAny_field fz rfl (x := .bool false) rfl ?_)
  show wpAny _ A (field (.ref z) 3 >>= _) _ E s
  refine wpAny_bind (wpAny_field fz rfl (x := .ref TI) rfl (wpAny_bind (wpAny_seqItems fI rfl ?_)))
  show wpAny _ A (Builtin.SmallTypes.ownedTupleIsFree (.ref z) >>= _) _ E s
  unfold Builtin.SmallTypes.ownedTupleIsFree
  refine wpAny_bind (wpAny_bind (wpAny_field fz rfl (x := .none) rfl (wpAny_pure ?_)))
  simp only [if_true]
  refine wpAny_bind (wpAny_rule (wpAny_bind (wpAny_field fz rfl (x := .ref TO) rfl (wpAny_bind (wpAny_setField_rec fz (by simp) fun g1 gz1 b1 => ?_)))))
  replace gz1 : IsZip g1 z TI TO .ellipsis := gz1
  refine wpAny_bind ?_
  simp only [List.zipIdx_cons, List.zipIdx_nil, List.forIn_cons, List.forIn_nil]
  refine wpAny_bind (wpAny_bind (wpAny_onRaise ?_))
  show wpAny _ A (Builtin.SmallTypes.nextOf (.ref i) >>= _) _ _ _
  have k1 : ∀ c o, c ≠ z → s.heap.get? c = some o → g1.get? c = some o := fun c o h e => b1.extBut _ _ h e
  cases ex : xs[k]? with
  | none =>
    refine wpAny_bind (U.fin hh (U.keepI st1 fun o => k1 _ o P.i1z) (U.keepC co1 fun o => k1 _ o P.l1z) ex fun g2 e b2 he => ?_)
    obtain ⟨oe, e1, e2⟩ := he
    have gz2 : IsZip g2 z TI TO .ellipsis := b2 _ _ P.i1z.symm gz1
    have ne : e ≠ z := fun q => by subst q; rw [gz2] at e1; cases e1; simp at e2
    exact wpAny_setField_rec gz2 (by simp) fun g3 _ b3 => K g3 e (fun c o n1 _ n3 _ h => b3.extBut _ _ n1 (b2 _ _ n3 (k1 _ o n1 h))) ⟨oe, b3.extBut _ _ ne e1, e2⟩
  | some x =>
    have ey : ys[n]? = none := en.elim (fun q => by rw [ex] at q; cases q) id
    refine wpAny_bind (U.item (U.keepI st1 fun o => k1 _ o P.i1z) (U.keepC co1 fun o => k1 _ o P.l1z) ex fun g2 st1' b2 => wpAny_pure ?_)
    have k2 : ∀ c o, c ≠ i → g1.get? c = some o → g2.get? c = some o := fun c o h e => b2.extBut _ _ h e
    have fO2 : IsPair g2 TO a b := k2 _ _ P.TOi1 (k1 _ _ P.TOz fO)
    refine wpAny_bind (wpAny_seqItems fO2 rfl (wpAny_bind (wpAny_updateSeq_pair fO2 fun g3 fO3 b3 => ?_)))
    have k3 : ∀ c o, c ≠ TO → g2.get? c = some o → g3.get? c = some o := fun c o h e => b3.extBut _ _ h e
    refine wpAny_bind (wpAny_letGo (wpAny_pure (wpAny_bind (wpAny_bind (wpAny_onRaise ?_)))))
    show wpAny _ A (Builtin.SmallTypes.nextOf (.ref j) >>= _) _ _ _
    refine wpAny_bind (V.fin hh (V.keepI st2 fun o e => k3 _ o P.TOi2.symm (k2 _ o P.i12.symm (k1 _ o P.i2z e))) (V.keepC co2 fun o e => k3 _ o P.l2TO (k2 _ o P.l2i1 (k1 _ o P.l2z e))) ey fun g4 e b4 he => ?_)
    obtain ⟨oe, e1, e2⟩ := he
    have gz4 : IsZip g4 z TI TO .ellipsis := b4 _ _ P.i2z.symm (k3 _ _ P.TOz.symm (k2 _ _ P.i1z.symm gz1))
    have ne : e ≠ z := fun q => by subst q; rw [gz4] at e1; cases e1; simp at e2
    exact wpAny_setField_rec gz4 (by simp) fun g5 _ b5 => K g5 e (fun c o n1 n2 n3 n4 h => b5.extBut _ _ n1 (b4 _ _ n4 (k3 _ o n2 (k2 _ o n3 (k1 _ o n1 h))))) ⟨oe, b5.extBut _ _ ne e1, e2⟩
end
/-! ### a tuple and a list -/
def zM1 (h : Heap) (l : Addr) : Heap := h.push { cls := .type "tuple_iterator", data := .fields #[.ref l, .int 0 0] }
def zM2 (h : Heap) (l m : Addr) : Heap := (zM1 h l).push { cls := .type "list_iterator", data := .fields #[.ref m, .int 0 0] }
def zM3 (h : Heap) (l m : Addr) : Heap := (zM2 h l m).push { cls := .type "tuple", data := .seq #[.ref h.objs.size, .ref (zM1 h l).objs.size] }
def zM4 (h : Heap) (l m : Addr) : Heap := (zM3 h l m).push { cls := .type "tuple", data := .seq #[.none, .none] }
def zM5 (h : Heap) (l m : Addr) : Heap := (zM4 h l m).push { cls := .type "zip", data := .fields #[.none, .bool false, .bool false, .ref (zM2 h l m).objs.size, .ref (zM3 h l m).objs.size] }
theorem meets_zM (l m : Addr) (xs ys : Array Value) :
    Meets (Builtin.«zip.__new__» ⟨[.type "zip", .ref l, .ref m], []⟩) (fun _ R t => t.heap.IsTuple l xs ∧ t.heap.IsList m ys ∧ R (.ok (.ret (.ref (zM4 t.heap l m).objs.size))) { t with heap := zM5 t.heap l m }) :=
  .of_wp fun prog w A R t q => by
    obtain ⟨hp, g, d, tk, os⟩ := t
    obtain ⟨q1, q2, q⟩ := q
    have hsub := sub_zip
    have f1 : Heap.IsTuple (Shared.heap ⟨hp, g, d, tk, os⟩) l xs := q1
    have f2 : Heap.IsList (Shared.heap ⟨hp.push { cls := .type "tuple_iterator", data := .fields #[.ref l, .int 0 0] }, g, d, tk, os⟩) m ys := Heap.IsList.push q2 _
    wp_walk using wpAny_pyIter_tuple f1, wpAny_pyIter_list f2
    exact ⟨_, rfl, q⟩
section
variable {prog : Program} {w : World} {A : Around} {E : Value → Shared → Prop} {s : Shared}
theorem call_zM {l m : Addr} {xs ys : Array Value} {Q : Value → Shared → Prop} (q1 : s.heap.IsTuple l xs) (q2 : s.heap.IsList m ys)
    (K : ∀ g, IsZip g (s.heap.objs.size + 4) (s.heap.objs.size + 2) (s.heap.objs.size + 3) .none → IsPair g (s.heap.objs.size + 2) (.ref s.heap.objs.size) (.ref (s.heap.objs.size + 1)) → IsPair g (s.heap.objs.size + 3) .none .none →
      g.IsTupleIter s.heap.objs.size l 0 → g.IsListIter (s.heap.objs.size + 1) m 0 → g.objs.size = s.heap.objs.size + 5 → (∀ c o, s.heap.get? c = some o → g.get? c = some o) → Q (.ref (s.heap.objs.size + 4)) { s with heap := g }) :
    wpAny (model prog w) A (call (.type "zip") [.ref l, .ref m]) Q E s := by
  refine callType_new F.called_zip (by decide) (F.typeCall_zip_2 _ _) (F.newCall_zip_2 _ _) (fun o => F.args_object_init_3 o _ _) F.entry_zip_new (meets_zM l m xs ys) ⟨q1, q2, ?_⟩
  have n1 : (zM1 s.heap l).objs.size = s.heap.objs.size + 1 := Heap.size_push ..
  have n2 : (zM2 s.heap l m).objs.size = s.heap.objs.size + 2 := by unfold zM2; rw [Heap.size_push, n1]
  have n3 : (zM3 s.heap l m).objs.size = s.heap.objs.size + 3 := by unfold zM3; rw [Heap.size_push, n2]
  have n4 : (zM4 s.heap l m).objs.size = s.heap.objs.size + 4 := by unfold zM4; rw [Heap.size_push, n3]
  have n5 : (zM5 s.heap l m).objs.size = s.heap.objs.size + 5 := by unfold zM5; rw [Heap.size_push, n4]
  have u5 : ∀ {c o}, (zM4 s.heap l m).get? c = some o → (zM5 s.heap l m).get? c = some o := fun e => Heap.get?_push_of_some _ e
  have u4 : ∀ {c o}, (zM3 s.heap l m).get? c = some o → (zM5 s.heap l m).get? c = some o := fun e => u5 (Heap.get?_push_of_some _ e)
  have u3 : ∀ {c o}, (zM2 s.heap l m).get? c = some o → (zM5 s.heap l m).get? c = some o := fun e => u4 (Heap.get?_push_of_some _ e)
  have u2 : ∀ {c o}, (zM1 s.heap l).get? c = some o → (zM5 s.heap l m).get? c = some o := fun e => u3 (Heap.get?_push_of_some _ e)
  have u1 : ∀ {c o}, s.heap.get? c = some o → (zM5 s.heap l m).get? c = some o := fun e => u2 (Heap.get?_push_of_some _ e)
  have g5 : (zM5 s.heap l m).get? (zM4 s.heap l m).objs.size = some _ := Heap.get?_push_size _ rfl
  have g4 : (zM5 s.heap l m).get? (zM3 s.heap l m).objs.size = some _ := u5 (Heap.get?_push_size _ rfl)
  have g3 : (zM5 s.heap l m).get? (zM2 s.heap l m).objs.size = some _ := u4 (Heap.get?_push_size _ rfl)
  have g2 : (zM5 s.heap l m).get? (zM1 s.heap l).objs.size = some _ := u3 (Heap.get?_push_size _ rfl)
  have g1 : (zM5 s.heap l m).get? s.heap.objs.size = some _ := u2 (Heap.get?_push_size _ rfl)
  rw [n2, n3, n4] at g5
  rw [n1, n2] at g3
  rw [n3] at g4
  rw [n1] at g2
  rw [n4]
  exact ⟨⟨_, g5, rfl⟩, K _ g5 g3 g4 ⟨_, g1, rfl, rfl⟩ ⟨_, g2, rfl, rfl⟩ n5 fun c o e => u1 e⟩
end
/-- a zip as it stands ahead of a turn -/
def zSt (z TI TO i j : Addr) (I J : Nat → Heap → Prop) (k : Nat) (h : Heap) : Prop := IsZip h z TI TO .none ∧ IsPair h TI (.ref i) (.ref j) ∧ (∃ x y, IsPair h TO x y) ∧ I k h ∧ J k h
/-- the line at a -/
abbrev LnOf (lst : Bool) (K : PySem.W.Frag) (H : Hp) (a : Addr) (xs : List V) : Prop := match lst with
  | true => SqL K H a xs
  | false => SqT K H a xs
def ItzW (p q : Bool) (K : PySem.W.Frag) (a b : Addr) : It :=
  ⟨fun k H => ∃ (xs ys : List V) (x y : V), LnOf p K H a xs ∧ LnOf q K H b ys ∧ xs[k]? = some x ∧ ys[k]? = some y,
    fun k H v H' => ∃ T x y, v = .ref T ∧ H T = none ∧ H' = upd H T (.tup [x, y]) ∧ (∀ xs, LnOf p K H a xs → xs[k]? = some x) ∧ ∀ ys, LnOf q K H b ys → ys[k]? = some y,
    fun k H => ∃ xs ys : List V, LnOf p K H a xs ∧ LnOf q K H b ys ∧ (xs.length ≤ k ∨ ys.length ≤ k)⟩
theorem turn_zipW {P : Program} {w : World} {K : PySem.W.Frag} {elts : List Expr} {kk : Nat} {tpos : Pos} {p q : Bool} {a b z TI TO i j : Addr} {I J : Nat → Heap → Prop} {C D : Array Value → Heap → Prop} (ap : ZipApart z TI TO i j a b) (U : Wkr i a I C) (V : Wkr j b J D)
    (hC : ∀ (X : Cx) (pins : List (Addr × Obj)) (σ : St) (H : Hp) (s : Shared), Inv X pins σ H s → ∀ xs, LnOf p X.K H a xs → ∃ its : List Value, Vals xs its ∧ C its.toArray s.heap)
    (hD : ∀ (X : Cx) (pins : List (Addr × Obj)) (σ : St) (H : Hp) (s : Shared), Inv X pins σ H s → ∀ xs, LnOf q X.K H b xs → ∃ its : List Value, Vals xs its ∧ D its.toArray s.heap) :
    Turn P w K (.Tuple elts kk tpos) (ItzW p q K a b) [z, TI, TO, i, j] z (zSt z TI TO i j I J) where
  mem := List.mem_cons_self ..
  obj := fun k h ⟨fz, fI, ⟨x, y, fO⟩, s1, s2⟩ c hc => by
    rw [List.mem_cons, List.mem_cons, List.mem_cons, List.mem_cons, List.mem_singleton] at hc
    rcases hc with e | e | e | e | e
    · rw [e]; exact ⟨_, fz, fun v q => nomatch q⟩
    · rw [e]; exact ⟨_, fI, fun v q => nomatch q⟩
    · rw [e]; exact ⟨_, fO, fun v q => nomatch q⟩
    · rw [e]; exact U.obj s1
    · rw [e]; exact V.obj s2
  keep := fun k h g ⟨fz, fI, ⟨x, y, fO⟩, s1, s2⟩ f => ⟨f z (by simp) _ fz, f TI (by simp) _ fI, ⟨x, y, f TO (by simp) _ fO⟩, U.keepI s1 fun o => f i (by simp) o, V.keepI s2 fun o => f j (by simp) o⟩
  item := by
    intro X e1 e2 e3 hc k pins s σ H E Iv fp ⟨fz, fI, ⟨x0, y0, fO⟩, s1, s2⟩ ⟨xs, ys, x, y, lx, ly, gx, gy⟩
    subst e1 e2 e3
    obtain ⟨its, rv, co1⟩ := hC X pins σ H s Iv xs lx
    obtain ⟨its2, rv2, co2⟩ := hD X pins σ H s Iv ys ly
    obtain ⟨u, hu, ru⟩ := rv.get gx
    obtain ⟨u2, hu2, ru2⟩ := rv2.get gy
    have zl : z < s.heap.objs.size := Heap.lt_size fz
    have ty : s.TypeIs (.ref z) "zip" := ⟨_, fz, rfl⟩
    unfold pyNext
    refine wpAny_bind (wpAny_attempt (wpAny_callSpecial?_slot (name := Str.ofString "__next__") ty F.slot_zip_next (wpAny_call_entry F.slot_zip_next ty F.entry_zip_next
      (zipW_item ap U V fz fI fO s1 s2 co1 co2 (x := u) (y := u2) (by simpa using hu) (by simpa using hu2) fun g gz gO g1 g2 gT sz gk => wpAny_pure ?_) (F.args_zip_next_1 _))))
    refine ⟨_, rfl, wpAny_letOwnedTupleGo_zip (s := { s with heap := g }) gz fun f fz' sb => ?_⟩
    have gT2 : f.get? s.heap.objs.size = some { cls := .type "tuple", data := .seq #[u, u2] } := (sb.2 _ (Nat.ne_of_gt zl)).trans gT
    have nw : ObjOk X.prog X.w (upd H s.heap.objs.size (.tup [x, y])) f s.heap.objs.size (.tup [x, y]) := ⟨(by decide : 2 ≤ sizeLine), [u, u2], .cons ru (.cons ru2 .nil), ⟨_, gT2, rfl, _, rfl⟩⟩
    have stay : ∀ c o, c ∉ [z, TI, TO, i, j] → s.heap.get? c = some o → f.get? c = some o := fun c o hb e => by
      have n1 : c ≠ z := fun r => hb (by rw [r]; simp)
      exact (sb.2 c n1).trans (gk c o n1 (fun r => hb (by rw [r]; simp)) (fun r => hb (by rw [r]; simp)) (fun r => hb (by rw [r]; simp)) e)
    have I1 : Inv X pins σ (upd H s.heap.objs.size (.tup [x, y])) { s with heap := f } := Iv.turnedNew (t' := s.toks) (ch := [z, TI, TO, i, j]) (fun c o hb e => stay c o hb e) fp (Nat.le_refl _) nw
    have fO' : IsPair f TO u u2 := (sb.2 _ ap.TOz).trans gO
    have fI' : IsPair f TI (.ref i) (.ref j) := (sb.2 _ ap.TIz).trans (gk _ _ ap.TIz ap.TITO ap.TIi1 ap.TIi2 fI)
    have lt : ∀ c ∈ [z, TI, TO, i, j], c < s.heap.objs.size := fun c hc2 => by
      rw [List.mem_cons, List.mem_cons, List.mem_cons, List.mem_cons, List.mem_singleton] at hc2
      rcases hc2 with e | e | e | e | e
      · rw [e]; exact zl
      · rw [e]; exact Heap.lt_size fI
      · rw [e]; exact Heap.lt_size fO
      · obtain ⟨o, ho, _⟩ := U.obj s1; rw [e]; exact Heap.lt_size ho
      · obtain ⟨o, ho, _⟩ := V.obj s2; rw [e]; exact Heap.lt_size ho
    refine ⟨.ref s.heap.objs.size, _, I1, rfl, ⟨_, x, y, rfl, Iv.hok.fresh (Nat.le_refl _), rfl, fun xs' h' => ?_, fun ys' h' => ?_⟩, ⟨fz', fI', ⟨_, _, fO'⟩, U.keepI g1 fun o e => (sb.2 _ ap.i1z).trans e, V.keepI g2 fun o e => (sb.2 _ ap.i2z).trans e⟩, fun c hc2 => ?_⟩
    · cases p with
      | true => rw [Iv.list_inj h' lx]; exact gx
      | false => rw [Iv.tuple_inj h' lx]; exact gx
    · cases q with
      | true => rw [Iv.list_inj h' ly]; exact gy
      | false => rw [Iv.tuple_inj h' ly]; exact gy
    · rw [upd_ne (Nat.ne_of_lt (lt c hc2))]
      exact (fp c hc2).1
  done := by
    intro X e1 e2 e3 hc k pins s σ H E Iv fp ⟨fz, fI, ⟨x0, y0, fO⟩, s1, s2⟩ ⟨xs, ys, lx, ly, en⟩
    subst e1 e2 e3
    obtain ⟨its, rv, co1⟩ := hC X pins σ H s Iv xs lx
    obtain ⟨its2, rv2, co2⟩ := hD X pins σ H s Iv ys ly
    have l1 := rv.length
    have l2 := rv2.length
    have en' : its.toArray[k]? = none ∨ its2.toArray[k]? = none := en.imp (fun q => by simp; omega) fun q => by simp; omega
    have ty : s.TypeIs (.ref z) "zip" := ⟨_, fz, rfl⟩
    unfold pyNext
    refine wpAny_bind (wpAny_attempt (wpAny_callSpecial?_slot (name := Str.ofString "__next__") ty F.slot_zip_next (wpAny_call_entry F.slot_zip_next ty F.entry_zip_next
      (zipW_fin (Iv.ok.hd hc) ap U V fz fI fO s1 s2 co1 co2 en' fun g e gk he => ?_) (F.args_zip_next_1 _))))
    obtain ⟨o, ho, hcl⟩ := he
    refine wpAny_bind (wpAny_isInstance (T := "StopIteration") (b := true) ⟨o, ho, hcl⟩ isSubtype_stop (wpAny_pure ⟨rfl, ?_⟩))
    exact Iv.turnedL (t' := s.toks) (ch := [z, TI, TO, i, j]) (fun c o hb e => gk c o (fun r => hb (by rw [r]; simp)) (fun r => hb (by rw [r]; simp)) (fun r => hb (by rw [r]; simp)) (fun r => hb (by rw [r]; simp)) e) fp
  self := fun A k s Q E st h => wpAny_pyIter_zip st.1 h
theorem co_list {X : Cx} {pins : List (Addr × Obj)} {σ : St} {H : Hp} {s : Shared} {a : Addr} (Iv : Inv X pins σ H s) (xs : List V) (h : LnOf true X.K H a xs) : ∃ its : List Value, Vals xs its ∧ s.heap.IsList a its.toArray := by
  obtain ⟨its, rv, p, _⟩ := Iv.list h
  exact ⟨its, rv, p.isList⟩
theorem co_tup {X : Cx} {pins : List (Addr × Obj)} {σ : St} {H : Hp} {s : Shared} {a : Addr} (Iv : Inv X pins σ H s) (xs : List V) (h : LnOf false X.K H a xs) : ∃ its : List Value, Vals xs its ∧ s.heap.IsTuple a its.toArray := by
  obtain ⟨its, rv, p, _⟩ := Iv.tuple h
  exact ⟨its, rv, p⟩
/-- zip(a tuple, a list) -/
def iZipM (K : PySem.W.Frag) (ta : TA) : TI := fun σ H R => ta σ H fun vs H1 => ∃ a b xs ys, vs = [.ref a, .ref b] ∧ SqT K H1 a xs ∧ SqL K H1 b ys ∧ R (ItzW false true K a b) H1
theorem pi_zipM {X : Cx} {e e2 : Expr} {ta : TA} {p pos tpos : Pos} {elts : List Expr} {kk : Nat} (hg : Gl X "zip") (hm : X.mg "zip" = none) (ha : PA X [e, e2] ta) (hs : starEach [e, e2] X.env = (false, eval e X.env) :: starEach [e2] X.env) (hpl : (backTo pos (starEach [e2] X.env)).any (·.1) = false) :
    PI X (.Tuple elts kk tpos) (.Call (.Name "zip" p) [e, e2] [] pos) (iZipM X.K ta) := ⟨fun pins s σ H R Iv h => by
  refine Call_ (ld_blt Iv hg hm PyProof.Rows.boot_zip (PyProof.Rows.callWith_type1 (thn (ha.run pos pins s σ H _ Iv h) fun us s1 ⟨vs, H1, I1, r1, q1⟩ => ?_) hs hpl))
  obtain ⟨a, b, xs, ys, ex, lx, ly, q⟩ := q1
  subst ex
  cases r1 with
  | cons r rr => cases rr with
    | cons r' rr =>
      cases rr
      cases r
      cases r'
      obtain ⟨its, rv, p1⟩ := co_tup I1 xs lx
      obtain ⟨its2, rv2, p2⟩ := co_list I1 ys ly
      have al : a < s1.heap.objs.size := by obtain ⟨o, ho, _⟩ := id p1; exact Heap.lt_size ho
      have bl : b < s1.heap.objs.size := by obtain ⟨o, ho, _⟩ := id p2; exact Heap.lt_size ho
      have fp : ∀ c, c ∈ [s1.heap.objs.size + 4, s1.heap.objs.size + 2, s1.heap.objs.size + 3, s1.heap.objs.size, s1.heap.objs.size + 1] → FpOk X pins H1 c := fun c hc => by
        have le : s1.heap.objs.size ≤ c := by
          rw [List.mem_cons, List.mem_cons, List.mem_cons, List.mem_cons, List.mem_singleton] at hc
          rcases hc with e | e | e | e | e
          · rw [e]; exact Nat.le_add_right _ _
          · rw [e]; exact Nat.le_add_right _ _
          · rw [e]; exact Nat.le_add_right _ _
          · rw [e]; exact Nat.le_refl _
          · rw [e]; exact Nat.le_add_right _ _
        exact I1.fpOk le (I1.hok.fresh le)
      refine call_zM p1 p2 fun g gz gI gO g1 g2 sz gk => wpAny_pyIter_zip gz ?_
      have I2 : Inv X pins σ H1 { s1 with heap := g } := I1.kept (t' := s1.toks) gk
      exact ⟨s1.heap.objs.size + 4, [s1.heap.objs.size + 4, s1.heap.objs.size + 2, s1.heap.objs.size + 3, s1.heap.objs.size, s1.heap.objs.size + 1], _, _, H1, rfl, I2,
        turn_zipW (PySem.W.ktu_apart s1.heap.objs.size a b al bl) wkr_tup wkr_list (fun _ _ _ _ _ Iw => co_tup Iw) (fun _ _ _ _ _ Iw => co_list Iw), ⟨gz, gI, ⟨_, _, gO⟩, g1, g2⟩, fp, q⟩⟩
theorem walk_zipW {K : PySem.W.Frag} {a b : Addr} {xs ys : List V} {n : Nat} (hn : n = min xs.length ys.length) : Walk (ItzW false true K a b) n (fun H => SqT K H a xs ∧ SqL K H b ys) (YPair (fun i => xs[i]?) (fun i => ys[i]?)) := by
  subst hn
  refine ⟨fun i _ hi q => ?_, fun _ q => ⟨xs, ys, q.1, q.2, by omega⟩, fun i H v H' _ q y => ?_⟩
  · have u1 : i < xs.length := by omega
    have u2 : i < ys.length := by omega
    exact ⟨xs, ys, xs[i], ys[i], q.1, q.2, List.getElem?_eq_getElem u1, List.getElem?_eq_getElem u2⟩
  · obtain ⟨T, x, z, f1, f2, f3, f4, f5⟩ := y
    exact ⟨T, x, z, f1, f2, f3, f4 xs q.1, f5 ys q.2⟩
end L2
namespace PM
open PySem L2
/-- zip of a tuple and a list -/
def mZipM (te te2 : TEm) : TIm := fun env P => te env fun x => te2 env fun y => ∃ ps qs, x = .tup ps ∧ y = .lst qs ∧ P (zipP ps qs)
theorem im_zipM {X : Cx} {c : List Ow} {e e2 : Expr} {te te2 : TEm} {p pos tpos : Pos} {elts : List Expr} {kk : Nat} (hm : X.mg "zip" = none) (he : PEm X c .cl e te) (he2 : PEm X c .cl e2 te2) (hg : Gl X "zip" := by rfl) (hs0 : starEach [e, e2] X.env = (false, eval e X.env) :: starEach [e2] X.env := by rfl) (hs1 : starEach [e2] X.env = (false, eval e2 X.env) :: starEach [] X.env := by rfl)
    (hs2 : (backTo pos (starEach [e2] X.env)).any (·.1) = false := by rfl) : PIm X c none (.Tuple elts kk tpos) (.Call (.Name "zip" p) [e, e2] [] pos) (mZipM te te2) := ⟨⟨fun pins s σ H R I h => (pi_zipM hg hm (pa_cons he.run (pa_cons he2.run pa_nil hs1) hs0) hs0 hs2).run pins s σ H R I (by
  obtain ⟨G, A, W, env, P, R, h, k⟩ := h
  refine ⟨G, A, W, env, _, R, h, fun p v H1 g rv h1 => ⟨G, A, W, env, _, R.grow g, h1, fun q w H2 g2 rw2 h2 => ?_⟩⟩
  obtain ⟨ps, qs, rfl, rfl, h2⟩ := h2
  have rv' := Rp.ext (g2.ext R.sz) rv.c
  have rw' := rw2.c
  unfold Rp at rv' rw'
  obtain ⟨a, vs, rfl, f, r⟩ := rv'
  obtain ⟨b, ws, rfl, f', r'⟩ := rw'
  have hl : (zipP ps qs).length = min vs.length ws.length := by unfold zipP; rw [List.length_zipWith, r.len, r'.len]
  refine ⟨a, b, vs, ws, rfl, f.sq, f'.sq, k _ _ H2 [] (g.trans g2) rfl (itok_pair hl (walk_zipW rfl) fun Z2 W2 H3 x => ⟨⟨(f.ext x).sq, (f'.ext x).sq⟩, fun i q u w hq u1 u2 => ?_⟩) h2⟩
  obtain ⟨a0, b0, ga, gb, rfl⟩ := zipP_get hq
  obtain ⟨u', hu', ru'⟩ := r.get ga
  obtain ⟨w', hw', rw'⟩ := r'.get gb
  rw [u1] at hu'; cases hu'
  rw [u2] at hw'; cases hw'
  exact ⟨_, _, rfl, Rp.ext x ru', Rp.ext x rw'⟩)⟩⟩
end PM

set_option maxHeartbeats 2000000
/-! PM: sets of whole numbers: comprehensions, membership. -/
namespace PM
open PySem PySem.Spec PyProof.Rows L2
section
variable {X : Cx} {pins : List (Addr × Obj)} {σ : L2.St} {H : Hp} {s : Shared}
theorem setI_ok {P : Program} {w : World} {h : Heap} {a : Addr} {S : Int → Bool} {n : Nat} (R : h.SetOf (PySem.intKind P w) a S n) : ObjOk P w H h a (SetI a S n) := by
  have ⟨o, _, _, _, ho, _⟩ := R
  refine ⟨⟨P, w, R⟩, ⟨o, ho⟩, ?_⟩
  rintro h1 h2 ⟨P', w', p⟩ k
  obtain ⟨o', es, ep, t, ho', r⟩ := p
  exact ⟨P', w', o', es, ep, t, k o' ho', r⟩
theorem setI_get {a : Addr} {S : Int → Bool} {n : Nat} (I : Inv X pins σ H s) (ha : H a = some (SetI a S n)) : s.heap.SetOf (PySem.intKind X.prog X.w) a S n := by
  obtain ⟨P, w, r⟩ := (I.hok a _ ha).1
  exact r
theorem int_is {k : Int} {u : Value} {P : Program} {w : World} (r : RelV (.int k) u) : (PySem.intKind P w).is k u = true ∧ u.scannable = true := by
  obtain ⟨t, rfl⟩ := r
  exact ⟨by simp [PySem.intKind, Value.isInt], rfl⟩
def rSInI (neg : Bool) : V → V → Hp → VK → Prop := fun x y H Q => ∃ (k : Int) (a : Addr) (S : Int → Bool) (n : Nat), x = .int k ∧ y = .ref a ∧ H a = some (SetI a S n) ∧ Q (.bl (if neg then !S k else S k)) H
theorem or_sinI : OpR X (compareOp .In) (rSInI false) := by
  intro pins s σ H x y v u Q I rx ry h
  obtain ⟨k, a, S, n, rfl, rfl, ha, q⟩ := h
  cases ry
  exact wpAny_inSet_of (int_is rx).1 (int_is (P := X.prog) (w := X.w) rx).2 (setI_get I ha) ⟨.bl (S k), H, I.tok _, rfl, q⟩
theorem or_sninI : OpR X (compareOp .NotIn) (rSInI true) := by
  intro pins s σ H x y v u Q I rx ry h
  obtain ⟨k, a, S, n, rfl, rfl, ha, q⟩ := h
  cases ry
  exact wpAny_notInSet_of (int_is rx).1 (int_is (P := X.prog) (w := X.w) rx).2 (setI_get I ha) ⟨.bl (!S k), H, I.tok _, rfl, q⟩
/-- one more member -/
theorem setI_more {E : Value → Shared → Prop} {D : Addr} {S : Int → Bool} {n : Nat} {y : Int} {u : Value} {Q : Value → Shared → Prop} (I : Inv X pins σ H s) (hD : H D = some (SetI D S n)) (room : n + 1 < scanBound) (ru : RelV (.int y) u)
    (h : ∀ s', Inv X pins σ (upd H D (SetI D (fun j => S j || decide (j = y)) (if S y = true then n else n + 1))) s' → Q .none s') : wpAny (model X.prog X.w) X.A (call (.builtin "set.add") [.ref D, u]) Q E s := by
  refine call_set_add (int_is ru).1 (int_is (P := X.prog) (w := X.w) ru).2 (setI_get I hD) room fun h' sb new => ?_
  obtain ⟨o, es, ep, t, ho, r⟩ := new
  exact h _ (I.write (e := D) (t' := s.toks + 1) (by rw [hD]; trivial) (.inl rfl) (fun b u hb hu => (sb.2 b hb).trans hu) ⟨o, ho⟩ (setI_ok ⟨o, es, ep, t, ho, r⟩))
/-- {elt for tg in iter if ..} of whole numbers: the set grows at D -/
def tSk (wi : TI) (g : TG) (tt : TT) (te : TE) (vs : List Nat) : TE := fun σ H Q => wi σ H fun J H1 => ∀ D, H1 D = none → ∃ W : Nat → Nat → Hp → Prop, (∃ m, W 0 m (upd H1 D (SetI D (fun _ => false) 0))) ∧ ∀ i m H, W i m H →
  (J.stop i H ∧ Q (.ref D) H) ∨ (J.go i H ∧ ∃ Nx : Hp → Prop, (∀ H', Nx H' → ∃ m', m' < m ∧ W (i + 1) m' H') ∧ ∀ x H', J.yld i H x H' → g x (wipe σ vs) H' fun σ2 H2 => wipe σ2 vs = wipe σ vs ∧ tt σ2 H2 fun b H3 =>
    if b = true then te σ2 H3 fun y H4 => ∃ (k : Int) (S : Int → Bool) (n : Nat), y = .int k ∧ H4 D = some (SetI D S n) ∧ n + 1 < scanBound ∧ Nx (upd H4 D (SetI D (fun j => S j || decide (j = k)) (if S k = true then n else n + 1))) else Nx H3)
variable {elt tg iter : Expr} {ifs : List Expr} {scope : Scope} {own : List (Str × Nat)} {pos : Pos} {wi : TI} {g : TG} {tt : TT} {te : TE}
theorem sk_core {Q : VK} {pn : List (Addr × Obj)} {z0 : Shared} {σ0 : L2.St} {B0 : Hp} {pos' : Pos} {use : Option (Value → Sem Unit)} {Qf : Value → Shared → Prop} (calm : X.calm = true) (nd : X.N.Nodup) (J : Inv X pn σ0 B0 z0) (hi : PI X tg iter wi) (blk : BlkOk X.N X.env.scope scope own)
    (hg : ∀ (z : Shared) (B : Hp) (C : Addr) (l : List (Str × Addr)) (f : List Addr), PG (X.blk z B scope (compEnvC scope l C X.env) f) tg g) (ht : ∀ (z : Shared) (B : Hp) (C : Addr) (l : List (Str × Addr)) (f : List Addr), PTs (X.blk z B scope (compEnvC scope l C X.env) f) ifs tt)
    (he : ∀ (z : Shared) (B : Hp) (C : Addr) (l : List (Str × Addr)) (f : List Addr), PE (X.blk z B scope (compEnvC scope l C X.env) f) elt te) (hs : ∀ x, foldedSetIterable iter X.env x = pure x)
    (h : tSk wi g tt te (own.map (·.2)) σ0 B0 Q)
    (close : ∀ (D C : Addr) (z' : Shared) (names : Str → Option Value) (B' : Hp), Inv X pn σ0 B' z' → Q (.ref D) B' → z'.heap.Ns C names → FpOk X pn B' C → compPost (model X.prog X.w) X.A X.xe use Qf (.ref D) C (.ok .next) z') :
    wpAny (model X.prog X.w) X.A (comprehension (.SetComp elt [⟨tg, iter, ifs, 0⟩] scope pos) scope X.env pos' (newSet (.type "set")) false (eval iter X.env) use) Qf X.xe z0 := by
  have cells : ∀ y ∈ scope.names, y.2 = .free → ∃ c, X.env.cells.lookup y.1 = some c := fun y hy e => J.ok.has _ (blk.free y hy e)
  refine wpAny_comprehension_free (use := use) rfl hs (closure_ok cells) blk.kind (fun y hy e => by rw [blk.uniq y hy, e]) (thn (hi.run pn z0 σ0 B0 _ J h) fun iv z1 hx => thn hx fun it z2 ⟨ia, fp, tn, Jt, B2, ei, J2, T, u2, f2, q⟩ => ?_)
  subst ei
  refine PpSet.newSet_ok (newEnv_comp ?_)
  obtain ⟨D, hD⟩ : ∃ D, D = z2.heap.objs.size := ⟨_, rfl⟩
  rw [← hD]
  have free : B2 D = none := J2.hok.fresh (Nat.le_of_eq hD.symm)
  obtain ⟨W, ⟨m0, w0⟩, turn⟩ := q D free
  obtain ⟨so, hso⟩ : ∃ so : Obj, so = { cls := .type "set", dict := none, data := .set #[] 0 (.fresh 0 0 (!X.w.params.followText "set-order")) } := ⟨_, rfl⟩
  rw [← hso]
  obtain ⟨z3, hz3⟩ : ∃ z3 : Shared, z3 = { z2 with heap := z2.heap.push so } := ⟨_, rfl⟩
  have e3 : z3.heap = z2.heap.push so := by rw [hz3]
  obtain ⟨B3, hB3⟩ : ∃ B3, B3 = upd B2 D (SetI D (fun _ => false) 0) := ⟨_, rfl⟩
  have J3 : Inv X pn σ0 B3 z3 := by
    rw [hz3, hB3]
    refine J2.laid (t' := z2.toks) (fun b o e => Heap.get?_push_of_some _ e) (Nat.le_of_eq hD.symm) (setI_ok ?_)
    rw [hD, hso]
    exact ⟨_, #[], 0, _, Heap.get?_push_size _ rfl, ⟨rfl, rfl, rfl⟩, rfl, (fun e he => by simp at he), (fun k => by simp), (by decide), (by rfl), rfl⟩
  have lt : ∀ b ∈ fp, b < z2.heap.objs.size := fun b hb => by
    obtain ⟨o, e, _⟩ := T.obj _ _ u2 b hb
    exact Heap.lt_size e
  have f3 : ∀ b ∈ fp, FpOk X pn B3 b ∧ b < z3.heap.objs.size := fun b hb => by
    have l := lt b hb
    have ne : b ≠ D := by rw [hD]; exact Nat.ne_of_lt l
    exact ⟨⟨by rw [hB3, upd_ne ne]; exact (f2 b hb).1, (f2 b hb).2⟩, by rw [e3, Heap.size_push]; exact Nat.lt_succ_of_lt l⟩
  have u3 : tn 0 z3.heap := T.keep _ _ _ u2 fun b _ o e => by rw [e3]; exact Heap.get?_push_of_some _ e
  have J4 := block_start J3 blk nd f3
  obtain ⟨L, hL⟩ : ∃ L, L = cellsFrom (z3.heap.objs.size + 1) scope.names (cloFrom X.env.cells scope.names []) := ⟨_, rfl⟩
  rw [← hL] at J4
  have pg := hg z3 B3 z3.heap.objs.size L fp
  have pt := ht z3 B3 z3.heap.objs.size L fp
  have pe := he z3 B3 z3.heap.objs.size L fp
  have nofp : ∀ b ∈ fp, B3 b = none := fun b hb => (f3 b hb).1.1
  rw [← hz3]
  show codeAny _ _ (.compStart (.SetComp elt [⟨tg, iter, ifs, 0⟩] scope pos) 0 (.ref ia) (.ref D) (compEnvC scope (cellsFrom (z3.heap.objs.size + 1) scope.names (cloFrom X.env.cells scope.names [])) z3.heap.objs.size X.env)) (compPost (model X.prog X.w) X.A X.xe use Qf (.ref D) z3.heap.objs.size) { z3 with heap := pushCells (z3.heap.push { cls := .type "dict", data := .dict #[] }) scope.names }
  rw [← hL]
  obtain ⟨ce, hce⟩ : ∃ ce, ce = compEnvC scope L z3.heap.objs.size X.env := ⟨_, rfl⟩
  rw [← hce] at J4 pg pt pe ⊢
  have cL : ce.locals = z3.heap.objs.size := by rw [hce]; rfl
  obtain ⟨z4, hz4⟩ : ∃ z4 : Shared, z4 = { z3 with heap := pushCells (z3.heap.push { cls := .type "dict", data := .dict #[] }) scope.names } := ⟨_, rfl⟩
  rw [← hz4] at J4 ⊢
  have u4 : tn 0 z4.heap := T.keep _ _ _ u3 fun b _ o e => by rw [hz4]; exact pushCells_keeps _ _ _ _ (Heap.get?_push_of_some _ e)
  obtain ⟨Y, hY⟩ : ∃ Y : Cx, Y = X.blk z3 B3 scope ce fp := ⟨_, rfl⟩
  rw [← hY] at J4 pg pt pe
  have steady : ∀ {σ' : L2.St} {B' : Hp} {z' : Shared}, Inv Y [] σ' B' z' → (∀ b ∈ fp, B' b = none) → ∀ b ∈ fp, FpOk Y [] B' b := fun {σ' B' z'} I' hn b hb => by
    subst hY
    exact ⟨hn b hb, (I'.ok.exf b hb).1, I'.ok.exfs b hb, .inl hb, fun x c e => (I'.ok.exf b hb).2 x c e, fun p hp => absurd (show p ∈ ([] : List (Addr × Obj)) ++ [] from hp) (by simp)⟩
  have loop : codeAny (model X.prog X.w) X.A (.compLoop (.SetComp elt [⟨tg, iter, ifs, 0⟩] scope pos) 0 (.ref ia) (.ref D) ce) (compPost (model X.prog X.w) X.A X.xe use Qf (.ref D) z3.heap.objs.size) z4 := by
    refine PpSet.compLoopS_any (fun n z' => ∃ i B', Inv Y [] (wipe σ0 (own.map (·.2))) B' z' ∧ tn i z'.heap ∧ (∀ b ∈ fp, B' b = none) ∧ W i n B') ?_ m0 ⟨0, B3, J4, u4, nofp, by rw [hB3]; exact w0⟩
    rintro n z5 ⟨i, B5, J5, u5, n5, w5⟩
    rcases turn i n B5 w5 with ⟨stop, qq⟩ | ⟨go, Nx, hNx, step⟩
    · have td := T.done Y (by rw [hY]) (by rw [hY]) (by rw [hY]) (by rw [hY]; exact calm) i [] z5 _ B5 (fun _ _ => False) J5 (steady J5 n5) u5 stop
      subst hY
      refine thnF td fun r z6 ⟨er, J6⟩ => ?_
      subst er
      have J7 : Inv X pn σ0 B5 z6 := J3.call' (ch := fp) J6.os J6.base J6.hok J6.bare fun b hb => ⟨(f3 b hb).1.2.2.2.1, (f3 b hb).1.2.1, (f3 b hb).1.2.2.2.2.1, (f3 b hb).1.2.2.2.2.2⟩
      have gone : B5 z3.heap.objs.size = none := by
        have z : B5 ce.locals = none := J6.free
        rwa [cL] at z
      obtain ⟨names, hn, _⟩ := J6.loc
      have hn : z6.heap.Ns ce.locals names := hn
      rw [cL] at hn
      exact close D _ z6 names B5 J7 qq hn (J3.fpOk (Nat.le_refl _) gone)
    · have ti := T.item Y (by rw [hY]) (by rw [hY]) (by rw [hY]) (by rw [hY]; exact calm) i [] z5 _ B5 (fun _ _ => False) J5 (steady J5 n5) u5 go
      subst hY
      refine thnF ti fun r z6 ⟨u, er, h6⟩ => ?_
      subst er
      refine thnF h6 fun _ z7 ⟨x, B7, J7, r7, y7, u7, n7⟩ => ?_
      have J7' := J7.pinned (steady J7 n7) (T.obj _ _ u7)
      refine thnF (pg.run _ z7 _ B7 x u _ J7' r7 (step x B7 y7)) fun _ z8 ⟨σ8, B8, J8, hw8, q8⟩ => ?_
      refine thnF (pt.run _ z8 σ8 B8 _ J8 q8) fun b z9 ⟨B9, J9, q9⟩ => ?_
      have onward : ∀ {z' : Shared} {B' : Hp}, Inv (X.blk z3 B3 scope ce fp) ([] ++ pinsAt fp z7.heap) σ8 B' z' → Nx B' → ∃ m, m < n ∧ ∃ i B', Inv (X.blk z3 B3 scope ce fp) [] (wipe σ0 (own.map (·.2))) B' z' ∧ tn i z'.heap ∧ (∀ b ∈ fp, B' b = none) ∧ W i m B' := fun {z' B'} J' nx => by
        obtain ⟨m', lm, w'⟩ := hNx B' nx
        have held : ∀ b ∈ fp, ∀ o, z7.heap.get? b = some o → z'.heap.get? b = some o ∧ B' b = none := fun b hb o e =>
          have z := J'.pin (b, o) (List.mem_append_right _ (List.mem_append_right _ (mem_pinsAt hb e)))
          ⟨z.1, z.2.1⟩
        have lw : (wipe σ0 (own.map (·.2))).length = σ8.length := by rw [← hw8, wipe_length]
        refine ⟨m', lm, i + 1, B', (J'.unpinned (pins := [])).weak lw (fun j v e => ?_), T.keep _ _ _ u7 fun b hb o e => (held b hb o e).1, fun b hb => ?_, w'⟩
        · rw [← hw8] at e
          exact (wipe_some e).1
        · obtain ⟨o, e, _⟩ := T.obj _ _ u7 b hb
          exact (held b hb o e).2
      cases b with
      | false => rw [if_neg Bool.false_ne_true] at q9 ⊢; exact onward J9 q9
      | true =>
        rw [if_pos rfl] at q9 ⊢
        refine thnF (pe.run _ z9 σ8 B9 _ J9 q9) fun v z10 ⟨yv, B10, J10, rv, k, S, c, ey, hD10, room, nx⟩ => ?_
        subst ey
        exact setI_more (X := X.blk z3 B3 scope ce fp) J10 hD10 room rv fun z11 J11 => onward J11 nx
  exact PpSet.codeAny_compStart_set loop (T.self X.A 0 _ _ _ u4 loop)
/-- as a value -/
theorem pe_sk (calm : X.calm = true) (nd : X.N.Nodup) (hi : PI X tg iter wi) (blk : BlkOk X.N X.env.scope scope own)
    (hg : ∀ (z : Shared) (B : Hp) (C : Addr) (l : List (Str × Addr)) (f : List Addr), PG (X.blk z B scope (compEnvC scope l C X.env) f) tg g) (ht : ∀ (z : Shared) (B : Hp) (C : Addr) (l : List (Str × Addr)) (f : List Addr), PTs (X.blk z B scope (compEnvC scope l C X.env) f) ifs tt)
    (he : ∀ (z : Shared) (B : Hp) (C : Addr) (l : List (Str × Addr)) (f : List Addr), PE (X.blk z B scope (compEnvC scope l C X.env) f) elt te) (hs : ∀ x, foldedSetIterable iter X.env x = pure x := by intro _; rfl) :
    PE X (.SetComp elt [⟨tg, iter, ifs, 0⟩] scope pos) (tSk wi g tt te (own.map (·.2))) := by
  refine ⟨fun pn z0 σ0 B0 Q J h => ?_⟩
  rw [PpSet.eval_SetComp]
  refine sk_core calm nd J hi blk hg ht he hs h fun D C z' names B' J' q hn f => ⟨names, hn, fun h'' sb => ?_⟩
  obtain ⟨a0, a1, a2, a3, a4, a5⟩ := f
  exact ⟨.ref D, B', J'.turned (t' := z'.toks) (fun b o hb e => (sb.2 b hb).trans e) a0 a1 a3 a4 a5, rfl, q⟩
/-- x = {..} on one row -/
theorem ps_setSk {i : Nat} {y : Str} {py spos : Pos} (calm : X.calm = true) (nd : X.N.Nodup) (hy : X.N[i]? = some y) (hyl : X.env.scope.names.lookup y = some .local) (hsw : swapsWith (.SetComp elt [⟨tg, iter, ifs, 0⟩] scope pos) (some (.Name y py)) spos.line X.env = pure true) (hi : PI X tg iter wi) (blk : BlkOk X.N X.env.scope scope own)
    (hg : ∀ (z : Shared) (B : Hp) (C : Addr) (l : List (Str × Addr)) (f : List Addr), PG (X.blk z B scope (compEnvC scope l C X.env) f) tg g) (ht : ∀ (z : Shared) (B : Hp) (C : Addr) (l : List (Str × Addr)) (f : List Addr), PTs (X.blk z B scope (compEnvC scope l C X.env) f) ifs tt)
    (he : ∀ (z : Shared) (B : Hp) (C : Addr) (l : List (Str × Addr)) (f : List Addr), PE (X.blk z B scope (compEnvC scope l C X.env) f) elt te) (hs : ∀ x, foldedSetIterable iter X.env x = pure x := by intro _; rfl) :
    PS X (.Assign [.Name y py] (.SetComp elt [⟨tg, iter, ifs, 0⟩] scope pos) spos) (tAsg (tSk wi g tt te (own.map (·.2))) (gName i)) := by
  refine ⟨fun pn z0 σ0 B0 D J h => ?_⟩
  rw [exec_Assign_Name_used _ _ _ _ hsw]
  refine wpAny_bind (wpAny_standAt (wpAny_bind ?_))
  have h : tSk wi g tt te (own.map (·.2)) σ0 B0 (fun x B' => gName i x σ0 B' D.nx) := h
  show wpAny _ X.A (do let _ ← comprehension (.SetComp elt [⟨tg, iter, ifs, 0⟩] scope pos) scope X.env (firstIterPos [⟨tg, iter, ifs, 0⟩] pos) (newSet (.type "set")) false (eval iter X.env) (some (assign (.Name y py) X.env))) _ _ z0
  refine wpAny_bind (thn (sk_core (Qf := fun _ z' => SP X pn D .next z') calm nd J hi blk hg ht he hs h fun L C z' names B' J' q hn f => ?_) fun _ z' hq => wpAny_pure (wpAny_pure hq))
  obtain ⟨a0, a1, a2, a3, a4, a5⟩ := f
  show wpAny _ _ (assign (.Name y py) X.env (.ref L)) _ _ _
  refine wpAny_assign_Name (store_ok2 (v := V.ref L) J' nd hy (.inl hyl) rfl (fun z2 J2 ⟨a, sb, ha⟩ => ?_) (.inr hyl))
  have other : C ≠ a := by
    rcases ha with e | e
    · rw [e]; exact a1
    · exact fun e2 => a4 y a e e2.symm
  exact ⟨names, hn.sameBut sb other, fun h3 sb3 => ⟨_, B', J2.turned (t' := z2.toks) (fun b o hb e => (sb3.2 b hb).trans e) a0 a1 a3 a4 a5, q⟩⟩
theorem sw_set {elt : Expr} {gs : List Comprehension} {scope : Scope} {pos py : Pos} {y : Str} {l : Nat} {env : PySem.Env} (hk : env.scope.kind = .function) (hy : env.scope.names.lookup y = some .local) (hl : (py.line == pos.line) = true)
    (ha : (scope.names.any fun (n, k) => n == y && (k == .local || k == .cell)) = false) : swapsWith (.SetComp elt gs scope pos) (some (.Name y py)) l env = pure true := by
  have hb : env.blockKind = .function := by unfold Env.blockKind; rw [hk]; rfl
  have ky : env.kindOf y = some .local := hy
  unfold swapsWith
  simp only [Expr.pos, hb, ky, hl, ha]
  rfl
end
end PM

set_option maxHeartbeats 2000000
/-! PM: {e for x in xs if ..} of whole numbers; membership in it. -/
namespace PM
open PySem L2
theorem sk_it {J : It} {n : Nat} {F : Hp → Prop} {Y : Nat → Hp → V → Hp → Prop} (w : Walk J n F Y) {g : TG} {tt : TT} {te : TE} {vs : List Nat} {σ : St} {H1 : Hp} {D : Addr} {Qd : Hp → Prop} (I : Nat → Hp → Prop) (h0 : I 0 (upd H1 D (SetI D (fun _ => false) 0))) (hF : ∀ i H, i ≤ n → I i H → F H)
    (hs : ∀ i x H H', i < n → I i H → Y i H x H' → g x (wipe σ vs) H' fun σ2 H2 => wipe σ2 vs = wipe σ vs ∧ tt σ2 H2 fun b H3 =>
      if b = true then te σ2 H3 fun y H4 => ∃ (k : Int) (S : Int → Bool) (c : Nat), y = .int k ∧ H4 D = some (SetI D S c) ∧ c + 1 < scanBound ∧ I (i + 1) (upd H4 D (SetI D (fun j => S j || decide (j = k)) (if S k = true then c else c + 1))) else I (i + 1) H3) (hd : ∀ H, I n H → Qd H) :
    ∃ W : Nat → Nat → Hp → Prop, (∃ m, W 0 m (upd H1 D (SetI D (fun _ => false) 0))) ∧ ∀ i m H, W i m H →
      (J.stop i H ∧ Qd H) ∨ (J.go i H ∧ ∃ Nx : Hp → Prop, (∀ H', Nx H' → ∃ m', m' < m ∧ W (i + 1) m' H') ∧ ∀ x H', J.yld i H x H' → g x (wipe σ vs) H' fun σ2 H2 => wipe σ2 vs = wipe σ vs ∧ tt σ2 H2 fun b H3 =>
        if b = true then te σ2 H3 fun y H4 => ∃ (k : Int) (S : Int → Bool) (c : Nat), y = .int k ∧ H4 D = some (SetI D S c) ∧ c + 1 < scanBound ∧ Nx (upd H4 D (SetI D (fun j => S j || decide (j = k)) (if S k = true then c else c + 1))) else Nx H3) := by
  refine ⟨fun i m H => i + m = n ∧ I i H, ⟨n, Nat.zero_add n, h0⟩, fun i m H z => ?_⟩
  obtain ⟨e, p⟩ := z
  have f := hF i H (by omega) p
  cases m with
  | zero =>
    have e2 : i = n := by omega
    subst e2
    exact .inl ⟨w.stops H f, hd H p⟩
  | succ m =>
    have l : i < n := by omega
    exact .inr ⟨w.goes i H l f, I (i + 1), fun H' p' => ⟨m, Nat.lt_succ_self m, by omega, p'⟩, fun x H' y => hs i x H H' l p (w.yields i H x H' l f y)⟩
/-- the turns -/
def mScGo (g : TGm) (tt : TTm) (te : TEm) (env : Env) (P : PV → Prop) : List PV → List Int → Prop
  | [], acc => P (.iset acc)
  | x :: xs, acc => g x env fun env1 => tt env1 fun b => if b = true then te env1 fun y => ∃ k, y = .int k ∧ acc.length < 4000 ∧ mScGo g tt te env P xs (acc ++ [k]) else mScGo g tt te env P xs acc
def mSc (wi : TIm) (vs : List Nat) (g : TGm) (tt : TTm) (te : TEm) : TEm := fun env P => wi env fun items => mScGo g tt te (wipeE env vs) P items []
theorem mem_snoc {acc : List Int} {k : Int} : (fun j => decide (j ∈ acc) || decide (j = k)) = fun j => decide (j ∈ acc ++ [k]) := by
  funext j
  by_cases h1 : j ∈ acc <;> by_cases h2 : j = k <;> simp [h1, h2]
theorem tm_sk {K : PySem.W.Frag} {c : List Ow} {lk : Option Nat} {wi : TIm} {vs ws : List Nat} {g : TGm} {tt : TTm} {te : TEm} (hw : ∀ j ∈ ws, j ∈ vs) (σ : St) (H : Hp) (Q : VK) (h : tmE K c .cl (mSc wi vs g tt te) σ H Q) :
    tSk (tiM K c lk wi) (tgM K c ws g) (tmT K c tt) (tmE K c .cl te) vs σ H Q := by
  obtain ⟨G, A, W, env, P, R, h, k⟩ := h
  refine ⟨G, A, W, env, _, R, h, fun J items H1 pl g1 hpl ⟨Gd, Y, wk, hit⟩ h1 D nD => ?_⟩
  have R1 := R.grow g1
  have nW : ¬ inW W D := fun w => by obtain ⟨o, e⟩ := inW_some R1.src w; rw [nD] at e; cases e
  have plD : ∀ q ∈ pl, H1 q.1 = some q.2 ∧ ¬ inW W q.1 := fun q hq => by
    cases lk with
    | none => have e : pl = [] := hpl; rw [e] at hq; cases hq
    | some j =>
      obtain ⟨a, o, e, hA, ho⟩ := hpl
      rw [e, List.mem_singleton] at hq
      rw [hq]
      exact ⟨ho, (R1.Asep j a hA).2.1⟩
  have far : ∀ {b : Addr} {o : HO}, H1 b = some o → b ≠ D := fun {b o} e z => by rw [z, nD] at e; cases e
  have onto : ∀ {H2 : Hp}, Grow W H1 H2 → Ext ⟨Zt G A W, W, H1⟩ ⟨Zt (G.and D) A W, W, H2⟩ := fun {H2} g2 => ⟨fun b o hz e => ⟨fun z => (zt_and.mp z).elim hz (far e), g2.keep b o (fun w => hz (Zt.w w)) e⟩, fun _ h => h⟩
  refine sk_it (g := tgM K c ws g) (tt := tmT K c tt) (te := tmE K c .cl te) wk
    (fun i H2 => ∃ acc n, SR K (G.and D) c A W (wipeE env vs) (wipe σ vs) H2 ∧ Grow W H1 H2 ∧ H2 D = some (SetI D (fun j => decide (j ∈ acc)) n) ∧ n ≤ acc.length ∧ mScGo g tt te (wipeE env vs) P (items.drop i) acc)
    ⟨[], 0, (R1.wipe vs).and nD, Grow.new R1.src nD, by rw [upd_same]; rfl, Nat.le_refl _, h1⟩ (fun i H2 _ hP => ?_) (fun i x H2 H3 hi hP y => ?_) (fun H2 hP => ?_)
  · obtain ⟨acc, n, R2, g2, hD, hn, hq⟩ := hP
    exact (hit _ W H2 (onto g2) R2.dz fun q hq => g2.keep _ _ (plD q hq).2 (plD q hq).1).1
  · obtain ⟨acc, n, R2, g2, hD, hn, hq⟩ := hP
    rw [List.drop_eq_getElem_cons hi] at hq
    obtain ⟨ga, rp⟩ := (hit _ W H2 (onto g2) R2.dz fun q hq => g2.keep _ _ (plD q hq).2 (plD q hq).1).2 i x H3 items[i] (List.getElem?_eq_getElem hi) y
    have g23 := ga.grow R2.src
    refine ⟨G.and D, A, W, wipeE env vs, items[i], _, R2.grow g23, rp, hq, fun env1 σ1 R4 t4 h4 => ?_⟩
    refine ⟨(t4.wipe hw).trans wipe_wipe, G.and D, A, W, env1, _, R4, h4, fun b H4 g4 h5 => ?_⟩
    cases b with
    | true =>
      rw [if_pos rfl] at h5 ⊢
      refine ⟨G.and D, A, W, env1, _, R4.grow g4, h5, fun p v H5 g5 rv h6 => ?_⟩
      obtain ⟨m, rfl, hl, h6⟩ := h6
      have g25 : Grow W H2 H5 := (g23.trans g4).trans g5
      have rv : Rp K ⟨Zt (G.and D) A W, W, H5⟩ (.int m) v := rv
      unfold Rp at rv
      subst rv
      have g15 := g2.trans g25
      have R6 := (R2.grow g25).upZ (o := SetI D (fun j => decide (j ∈ acc) || decide (j = m)) (if decide (m ∈ acc) = true then n else n + 1)) (.inr rfl) (R1.h0 nD) nW
      refine ⟨m, _, n, rfl, g25.keep D _ nW hD, by show n + 1 < 4096; omega, acc ++ [m], (if decide (m ∈ acc) = true then n else n + 1), R6, ⟨fun b o hw e => by rw [upd_ne (far e)]; exact g15.keep b o hw e, R6.src⟩, ?_, ?_, h6⟩
      · rw [upd_same, mem_snoc]
      · rw [List.length_append, List.length_singleton]; split <;> omega
    | false =>
      rw [if_neg Bool.false_ne_true] at h5 ⊢
      have g24 : Grow W H2 H4 := g23.trans g4
      exact ⟨acc, n, R2.grow g24, g2.trans g24, g24.keep D _ nW hD, hn, h5⟩
  · obtain ⟨acc, n, R2, g2, hD, hn, hq⟩ := hP
    rw [List.drop_length] at hq
    refine k (.iset acc) (.ref D) H2 (g1.trans g2) ?_ hq
    show Rp K _ (.iset acc) (.ref D)
    unfold Rp
    exact ⟨D, n, rfl, R1.nz nD, hD⟩
section
variable {X : Cx} {c : List Ow} {lk : Option Nat} {elt tg iter : Expr} {ifs : List Expr} {scope : Scope} {own : List (Str × Nat)} {pos : Pos} {wi : TIm} {ws : List Nat} {g : TGm} {tt : TTm} {te : TEm}
theorem em_sk (hc : X.calm = true) (hN : X.N.Nodup) (hi : PIm X c lk tg iter wi) (ok : BlkOk X.N X.env.scope scope own)
    (hg : ∀ (s : Shared) (H : Hp) (C : Addr) (cl : List (Str × Addr)) (fp : List Addr), PGm (X.blk s H scope (compEnvC scope cl C X.env) fp) c ws tg g) (ht : ∀ (s : Shared) (H : Hp) (C : Addr) (cl : List (Str × Addr)) (fp : List Addr), PTsm (X.blk s H scope (compEnvC scope cl C X.env) fp) c ifs tt)
    (he : ∀ (s : Shared) (H : Hp) (C : Addr) (cl : List (Str × Addr)) (fp : List Addr), PEm (X.blk s H scope (compEnvC scope cl C X.env) fp) c .cl elt te) (hw : ∀ j ∈ ws, j ∈ own.map (·.2) := by decide) (hs : ∀ x, foldedSetIterable iter X.env x = pure x := by intro _; rfl) :
    PEm X c .cl (.SetComp elt [⟨tg, iter, ifs, 0⟩] scope pos) (mSc wi (own.map (·.2)) g tt te) :=
  ⟨(pe_sk hc hN hi.run ok (fun s H C cl fp => (hg s H C cl fp).run) (fun s H C cl fp => (ht s H C cl fp).run) (fun s H C cl fp => (he s H C cl fp).run) hs).weak fun σ H Q h => tm_sk hw σ H Q h⟩
theorem sm_setSk (i : Nat) {f : Fx} {y : Str} {py spos : Pos} (hc : X.calm = true) (hN : X.N.Nodup) (hi : PIm X c lk tg iter wi) (ok : BlkOk X.N X.env.scope scope own)
    (hg : ∀ (s : Shared) (H : Hp) (C : Addr) (cl : List (Str × Addr)) (fp : List Addr), PGm (X.blk s H scope (compEnvC scope cl C X.env) fp) c ws tg g) (ht : ∀ (s : Shared) (H : Hp) (C : Addr) (cl : List (Str × Addr)) (fp : List Addr), PTsm (X.blk s H scope (compEnvC scope cl C X.env) fp) c ifs tt)
    (he : ∀ (s : Shared) (H : Hp) (C : Addr) (cl : List (Str × Addr)) (fp : List Addr), PEm (X.blk s H scope (compEnvC scope cl C X.env) fp) c .cl elt te)
    (hsw : swapsWith (.SetComp elt [⟨tg, iter, ifs, 0⟩] scope pos) (some (.Name y py)) spos.line X.env = pure true) (hy : X.N[i]? = some y := by rfl) (hyl : X.env.scope.names.lookup y = some .local := by rfl) (hl : cO c i ≠ .lk := by decide) (hw : ∀ j ∈ ws, j ∈ own.map (·.2) := by decide) (hs : ∀ x, foldedSetIterable iter X.env x = pure x := by intro _; rfl) :
    PSm X f c (c.set i .sh) (.Assign [.Name y py] (.SetComp elt [⟨tg, iter, ifs, 0⟩] scope pos) spos) (sSet i (mSc wi (own.map (·.2)) g tt te)) :=
  ⟨(ps_setSk hc hN hy hyl hsw hi.run ok (fun s H C cl fp => (hg s H C cl fp).run) (fun s H C cl fp => (ht s H C cl fp).run) (fun s H C cl fp => (he s H C cl fp).run) hs).weak fun D σ H h => by
    obtain ⟨G, A, W, env, M, hgw, R, h, k⟩ := h
    refine tm_sk hw σ H _ ⟨G, A, W, env, _, R, h, fun p v H1 g r h1 => ?_⟩
    exact k.nx _ W _ _ H1 ((R.grow g).set_sh hl r.c) h1⟩
end
/-! ### membership -/
section
variable {K : PySem.W.Frag}
def oInS (neg : Bool) : PO2 := fun x y P => ∃ (k : Int) (ks : List Int), x = .int k ∧ y = .iset ks ∧ P (.bl (if neg then !decide (k ∈ ks) else decide (k ∈ ks)))
theorem lift_inS {neg : Bool} : Lift2 K (rSInI neg) (oInS neg) .cl := by
  rintro Z W H px py vx vy P Q S rx ry ⟨k, ks, rfl, rfl, hp⟩ kk
  have rx : Rp K ⟨Z, W, H⟩ (.int k) vx := rx
  have ry : Rp K ⟨Z, W, H⟩ (.iset ks) vy := ry
  unfold Rp at rx ry
  obtain ⟨a, n, rfl, _, ha⟩ := ry
  subst rx
  exact ⟨k, a, _, n, rfl, rfl, ha, S.fin kk Rp.bl' hp⟩
@[simp] theorem s_mSc {wi : TIm} {vs : List Nat} {g : TGm} {tt : TTm} {te : TEm} {env : Env} {P : PV → Prop} : mSc wi vs g tt te env P ↔ wi env fun items => mScGo g tt te (wipeE env vs) P items [] := .rfl
@[simp] theorem s_oInS {neg : Bool} {k : Int} {ks : List Int} {P : PV → Prop} : oInS neg (.int k) (.iset ks) P ↔ P (.bl (if neg then !decide (k ∈ ks) else decide (k ∈ ks))) := ⟨fun ⟨_, _, e1, e2, h⟩ => by cases e1; cases e2; exact h, fun h => ⟨k, ks, rfl, rfl, h⟩⟩
/-- the members, found -/
theorem sk_emb {α : Type} {emb : α → PV} {tst : α → Bool} {f : α → Int} {g : TGm} {tt : TTm} {te : TEm} {env : Env} {P : PV → Prop} : ∀ {xs : List α} {acc : List Int}, (∀ x ∈ xs, ∃ e1, (∀ k : Env → Prop, k e1 → g (emb x) env k) ∧ (∀ Q : Bool → Prop, Q (tst x) → tt e1 Q) ∧ (tst x = true → ∀ Q : PV → Prop, Q (.int (f x)) → te e1 Q)) →
    acc.length + xs.length ≤ 4000 → P (.iset (acc ++ (xs.filter tst).map f)) → mScGo g tt te env P (xs.map emb) acc
  | [], acc, _, _, hp => by
    rw [List.filter_nil, List.map_nil, List.append_nil] at hp
    exact hp
  | x :: xs, acc, h, hl, hp => by
    obtain ⟨e1, h1, h2, h3⟩ := h x (List.mem_cons_self ..)
    rw [List.length_cons] at hl
    rw [List.map_cons]
    unfold mScGo
    refine h1 _ (h2 _ ?_)
    cases ht : tst x with
    | true =>
      rw [if_pos rfl]
      refine h3 ht _ ⟨f x, rfl, by omega, sk_emb (fun y hy => h y (List.mem_cons_of_mem _ hy)) (by rw [List.length_append, List.length_singleton]; omega) ?_⟩
      rw [List.filter_cons, ht, if_pos rfl, List.map_cons] at hp
      rw [List.append_assoc]
      exact hp
    | false =>
      rw [if_neg Bool.false_ne_true]
      refine sk_emb (fun y hy => h y (List.mem_cons_of_mem _ hy)) (by omega) ?_
      rw [List.filter_cons, ht, if_neg Bool.false_ne_true] at hp
      exact hp
end
end PM

set_option maxHeartbeats 2000000
/-! PM: x, y = e, z where z is a list of one's own that is given up for y. -/
namespace PM
open PySem L2
section
variable {K : PySem.W.Frag} {G : Gh} {c : List Ow} {A : Nat → Option Addr} {W : Ws} {env : Env} {σ : St} {H : Hp}
theorem env_set_none {α : Type} {env : List (Option α)} {i j : Nat} {p : α} (e : (env.set i none)[j]? = some (some p)) : j ≠ i ∧ env[j]? = some (some p) := by
  rw [List.getElem?_set] at e
  by_cases h : i = j
  · rw [if_pos h] at e
    split at e <;> cases e
  · rw [if_neg h] at e
    exact ⟨fun z => h z.symm, e⟩
/-- the list of z goes over to j -/
theorem SR.move {z j : Nat} {a : Addr} {q : PV} (R : SR K G c A W env σ H) (hA : A z = some a) (hq : env[z]? = some (some q)) (hzj : z ≠ j) (hj : j < c.length) (hl : cO c j ≠ .lk) (hlz : cO c z ≠ .lk) :
    SR K G ((c.set z .sh).set j .ow) (putA (dropA A z) j a) W ((env.set z none).set j (some q)) (σ.set j (some (.ref a))) H := by
  have hjz : j ≠ z := Ne.symm hzj
  have get : ∀ {k b}, putA (dropA A z) j a k = some b → (k = j ∧ b = a) ∨ (k ≠ j ∧ k ≠ z ∧ A k = some b) := fun {k b} e => by
    by_cases h : k = j
    · subst h; rw [putA_eq] at e; cases e; exact .inl ⟨rfl, rfl⟩
    · rw [putA_ne h] at e
      obtain ⟨n, e⟩ := dropA_some e
      exact .inr ⟨h, n, e⟩
  have less : ∀ b, Zt G (putA (dropA A z) j a) W b → Zt G A W b := fun b h => by
    rcases h with h | h | ⟨k, h⟩
    · exact .inl h
    · exact .inr (.inl h)
    · rcases get h with ⟨_, rfl⟩ | ⟨_, _, e⟩
      · exact .inr (.inr ⟨z, hA⟩)
      · exact .inr (.inr ⟨k, e⟩)
  have x : Ext ⟨Zt G A W, W, H⟩ ⟨Zt G (putA (dropA A z) j a) W, W, H⟩ := ext_less less
  have cj : cO ((c.set z .sh).set j .ow) j = .ow := by rw [cO_set, if_pos ⟨rfl, by rw [List.length_set]; exact hj⟩]
  have cz : cO ((c.set z .sh).set j .ow) z = .sh := by rw [cO_ne hzj, cO_sh]
  have ck : ∀ k, k ≠ j → k ≠ z → cO ((c.set z .sh).set j .ow) k = cO c k := fun k h1 h2 => by rw [cO_ne h1, cO_ne h2]
  have le : (env.set z none).length = env.length := List.length_set
  refine ⟨by rw [List.length_set, List.length_set, List.length_set]; exact R.len, R.W0in, R.Wmin, R.Wnew, R.Wfix, R.src, R.keep, R.zbt, fun k b e => ?_, fun k l b e1 e2 => ?_, fun k p hc e => ?_, fun k p e => ?_, fun q hq => ?_, fun b o e => ?_⟩
  · rcases get e with ⟨rfl, rfl⟩ | ⟨h1, h2, e⟩
    · obtain ⟨g1, g2, g3, _, g5⟩ := R.Asep z b hA
      exact ⟨g1, g2, g3, by rw [cj]; decide, g5⟩
    · obtain ⟨g1, g2, g3, g4, g5⟩ := R.Asep k b e
      exact ⟨g1, g2, g3, by rw [ck k h1 h2]; exact g4, g5⟩
  · rcases get e1 with ⟨rfl, rfl⟩ | ⟨h1, h2, e3⟩
    · rcases get e2 with ⟨rfl, _⟩ | ⟨_, h4, e2⟩
      · rfl
      · exact absurd (R.Ainj l z b e2 hA) h4
    · rcases get e2 with ⟨rfl, rfl⟩ | ⟨_, _, e2⟩
      · exact absurd (R.Ainj k z b e3 hA) h2
      · exact R.Ainj k l b e3 e2
  · rcases env_set_get e with ⟨rfl, _, _⟩ | ⟨n, e⟩
    · exact ⟨a, putA_eq⟩
    · obtain ⟨n2, e⟩ := env_set_none e
      rw [ck k n n2] at hc
      obtain ⟨b, hb⟩ := R.Aset k p hc e
      exact ⟨b, by rw [putA_ne n, dropA_ne n2]; exact hb⟩
  · rcases env_set_get e with ⟨rfl, hi, rfl⟩ | ⟨n, e⟩
    · refine ⟨.ref a, by rw [List.getElem?_set_self (by rw [← R.len, ← le]; exact hi)], ?_⟩
      rw [putA_eq]
      obtain ⟨w, _, h2⟩ := R.slots z p hq
      rw [hA] at h2
      exact ⟨rfl, h2.2.ext x rfl⟩
    · obtain ⟨n2, e⟩ := env_set_none e
      obtain ⟨w, h1, h2⟩ := R.slots k p e
      refine ⟨w, by rw [List.getElem?_set_ne (Ne.symm n)]; exact h1, ?_⟩
      rw [putA_ne n, dropA_ne n2]
      cases hA : A k with
      | none => rw [hA] at h2; exact Rp.ext x h2
      | some b => rw [hA] at h2; exact ⟨h2.1, h2.2.ext x rfl⟩
  · obtain ⟨h1, h2, h3, h4⟩ := R.pins q hq
    have n : q.1 ≠ j := fun e => hl (e ▸ h4)
    have n2 : q.1 ≠ z := fun e => hlz (e ▸ h4)
    exact ⟨h1, h2, by rw [putA_ne n, dropA_ne n2]; exact h3, by rw [ck _ n n2]; exact h4⟩
  · obtain ⟨h1, h2⟩ := R.fz b o e
    exact ⟨h1, fun h => h2 (less b h)⟩
end
section
variable {X : Cx} {f : Fx} {c : List Ow} {e : Expr} {te : TEm}
def sMov (i j z : Nat) (te : TEm) : TSm := fun M env => te env fun p => ∃ q, env[z]? = some (some q) ∧ M.nx (((env.set i (some p)).set z none).set j (some q))
theorem sm_mov (i j z : Nat) {x y v : Str} {px py pz pt pos : Pos} {kt k2 : Nat} {pt2 : Pos} (hc : X.calm = true) (hN : X.N.Nodup) (he : PEm X c .cl e te) (hi : X.N[i]? = some x := by rfl) (hj : X.N[j]? = some y := by rfl) (hz : X.N[z]? = some v := by rfl) (hij : i ≠ j := by decide) (hiz : i ≠ z := by decide) (hzj : z ≠ j := by decide)
    (hx : X.env.scope.names.lookup x = some .local := by rfl) (hy : X.env.scope.names.lookup y = some .local := by rfl) (hv : Vis X.env.scope v := by first | exact Or.inl rfl | exact Or.inr (Or.inl rfl) | exact Or.inr (Or.inr rfl)) (hd : (v == ("__debug__" : Str)) = false := by decide) (hcd : (v == ("__classdict__" : Str)) = false := by decide)
    (li : cO c i ≠ .lk := by decide) (lj : cO c j ≠ .lk := by decide) (oz : cO c z = .ow := by decide) (hlj : j < c.length := by decide)
    (hs1 : starEach [e, .Name v pz] X.env = (false, eval e X.env) :: starEach [.Name v pz] X.env := by rfl) (hs2 : starEach [.Name v pz] X.env = (false, eval (.Name v pz) X.env) :: starEach [] X.env := by rfl)
    (hw : swappedStores [.Tuple [.Name x px, .Name y py] kt pt] (.Tuple [e, .Name v pz] k2 pt2) X.env = pure (some [x, y]) := by rfl)
    (hs : swapsWithSole [.Tuple [.Name x px, .Name y py] kt pt] (.Tuple [e, .Name v pz] k2 pt2) pos.line X.env = pure false := by rfl) :
    PSm X f c (((c.set i .sh).set z .sh).set j .ow) (.Assign [.Tuple [.Name x px, .Name y py] kt pt] (.Tuple [e, .Name v pz] k2 pt2) pos) (sMov i j z te) := ⟨(ps_par hc hN hi hj hij hx hy (pa_cons he.run (pa_cons (pe_var hz hv hd hcd) pa_nil hs2) hs1) hw hs).weak fun D σ H h => by
  obtain ⟨G, A, W, env, M, hg, R, h, k⟩ := h
  refine ⟨G, A, W, env, _, R, h, fun p u H1 g1 r h1 => ?_⟩
  obtain ⟨q, hq, h2⟩ := h1
  have R1 := R.grow g1
  obtain ⟨a, hA⟩ := R1.Aset z q (by rw [oz]; decide) hq
  obtain ⟨w, e1, e2⟩ := R1.slots z q hq
  rw [hA] at e2
  obtain ⟨rfl, _⟩ := e2
  have R2 := R1.set_sh (i := i) (p := p) (v := u) li r.c
  have hzi : z ≠ i := Ne.symm hiz
  have hji : j ≠ i := Ne.symm hij
  have R3 := R2.move (z := z) (j := j) (a := a) (q := q) (by rw [dropA_ne hzi]; exact hA) (by rw [List.getElem?_set_ne hiz]; exact hq) hzj (by rw [List.length_set]; exact hlj) (by rw [cO_ne hji]; exact lj) (by rw [cO_ne hzi, oz]; decide)
  exact ⟨.ref a, e1, u, .ref a, rfl, k.nx _ _ _ _ _ R3 h2⟩⟩
theorem sm_movG {tgs : List Expr} (i j z : Nat) {v : Str} {pz pt pos : Pos} {kt k2 : Nat} {pt2 : Pos} (hc : X.calm = true) (hg : PGs X tgs (gNs [i, j])) (he : PEm X c .cl e te) (hz : X.N[z]? = some v := by rfl) (hij : i ≠ j := by decide) (hiz : i ≠ z := by decide) (hzj : z ≠ j := by decide)
    (hv : Vis X.env.scope v := by first | exact Or.inl rfl | exact Or.inr (Or.inl rfl) | exact Or.inr (Or.inr rfl)) (hd : (v == ("__debug__" : Str)) = false := by decide) (hcd : (v == ("__classdict__" : Str)) = false := by decide)
    (li : cO c i ≠ .lk := by decide) (lj : cO c j ≠ .lk := by decide) (oz : cO c z = .ow := by decide) (hlj : j < c.length := by decide)
    (hs1 : starEach [e, .Name v pz] X.env = (false, eval e X.env) :: starEach [.Name v pz] X.env := by rfl) (hs2 : starEach [.Name v pz] X.env = (false, eval (.Name v pz) X.env) :: starEach [] X.env := by rfl)
    (hs : swapsWithSole [.Tuple tgs kt pt] (.Tuple [e, .Name v pz] k2 pt2) pos.line X.env = pure false := by rfl) (hw : swappedStores [.Tuple tgs kt pt] (.Tuple [e, .Name v pz] k2 pt2) X.env = pure none := by rfl)
    (h1 : (assignEach [.Tuple tgs kt pt] X.env).map (·.2) = [assign (.Tuple tgs kt pt) X.env] := by rfl) (hn : (assignEach tgs X.env).length = 2 := by rfl) (hst : (assignEach tgs X.env).findIdx? (·.1) = none := by rfl) :
    PSm X f c (((c.set i .sh).set z .sh).set j .ow) (.Assign [.Tuple tgs kt pt] (.Tuple [e, .Name v pz] k2 pt2) pos) (sMov i j z te) := ⟨(ps_asg (pe_tup (pa_cons he.run (pa_cons (pe_var hz hv hd hcd) pa_nil hs2) hs1)) (pg_tup hc hg hn hst) hs hw h1).weak fun D σ H h => by
  obtain ⟨G, A, W, env, M, hgw, R, h, k⟩ := h
  refine ⟨G, A, W, env, _, R, h, fun p u H1 g1 r h1 => ?_⟩
  obtain ⟨q, hq, h2⟩ := h1
  have R1 := R.grow g1
  obtain ⟨a, hA⟩ := R1.Aset z q (by rw [oz]; decide) hq
  obtain ⟨w, e1, e2⟩ := R1.slots z q hq
  rw [hA] at e2
  obtain ⟨rfl, _⟩ := e2
  have R2 := R1.set_sh (i := i) (p := p) (v := u) li r.c
  have hzi : z ≠ i := Ne.symm hiz
  have hji : j ≠ i := Ne.symm hij
  have R3 := R2.move (z := z) (j := j) (a := a) (q := q) (by rw [dropA_ne hzi]; exact hA) (by rw [List.getElem?_set_ne hiz]; exact hq) hzj (by rw [List.length_set]; exact hlj) (by rw [cO_ne hji]; exact lj) (by rw [cO_ne hzi, oz]; decide)
  exact ⟨.ref a, e1, by show (2 : Nat) ≤ sizeLine; decide, fun T nT => ⟨T, [u, .ref a], rfl, .inl (.inl upd_same), rfl, rfl, k.nx _ _ _ _ _ (R3.grow (Grow.new R3.src nT)) h2⟩⟩⟩
@[simp] theorem s_sMov {i j z : Nat} {M : Em} {env : Env} : sMov i j z te M env ↔ te env fun p => ∃ q, env[z]? = some (some q) ∧ M.nx (((env.set i (some p)).set z none).set j (some q)) := .rfl
end
/-! ### a comprehension within a comprehension -/
theorem lookup_relab {env : PySem.Env} : ∀ {names : List (Str × NameKind)} {x : Str}, (names.lookup x = some .cell ∨ names.lookup x = some .free) →
    (names.map fun (n, k) => if (k == NameKind.free && env.scope.kind == .function && env.kindOf n == some .cell) then (n, NameKind.cell) else (n, k)).lookup x = some .cell ∨ (names.map fun (n, k) => if (k == NameKind.free && env.scope.kind == .function && env.kindOf n == some .cell) then (n, NameKind.cell) else (n, k)).lookup x = some .free
  | [], x, h => by rcases h with h | h <;> cases h
  | (n, k) :: r, x, h => by
    have ih := @lookup_relab env r x
    rw [List.map_cons]
    dsimp only
    by_cases hx : (x == n) = true
    · rw [List.lookup_cons, hx] at h
      by_cases hc : (k == NameKind.free && env.scope.kind == .function && env.kindOf n == some .cell) = true
      · left
        have e : (if (k == NameKind.free && env.scope.kind == .function && env.kindOf n == some .cell) = true then (n, NameKind.cell) else (n, k)) = (n, NameKind.cell) := if_pos hc
        rw [e, List.lookup_cons, hx]
      · have e : (if (k == NameKind.free && env.scope.kind == .function && env.kindOf n == some .cell) = true then (n, NameKind.cell) else (n, k)) = (n, k) := if_neg hc
        simp only [e, List.lookup_cons, hx]
        exact h
    · have hx : (x == n) = false := by cases q : x == n with
        | true => exact absurd q hx
        | false => rfl
      rw [List.lookup_cons, hx] at h
      have ih' := ih h
      by_cases hc : (k == NameKind.free && env.scope.kind == .function && env.kindOf n == some .cell) = true
      · have e : (if (k == NameKind.free && env.scope.kind == .function && env.kindOf n == some .cell) = true then (n, NameKind.cell) else (n, k)) = (n, NameKind.cell) := if_pos hc
        rw [e, List.lookup_cons, hx]
        exact ih'
      · have e : (if (k == NameKind.free && env.scope.kind == .function && env.kindOf n == some .cell) = true then (n, NameKind.cell) else (n, k)) = (n, k) := if_neg hc
        simp only [e, List.lookup_cons, hx]
        exact ih'
theorem blkOk_nest {N : List Str} {outer scope : Scope} {own : List (Str × Nat)} {env : PySem.Env} (h : blkC N outer scope own = true) : BlkOk N (relabel outer env) scope own := by
  obtain ⟨h1, h2, h3, h4, h5⟩ := blkOk_by h
  exact ⟨h1, h2, h3, fun y hy e => lookup_relab (h4 y hy e), h5⟩
/-! ### a walk over one's own list -/
def mOwn (j : Nat) : TIm := fun env P => ∃ ps, env[j]? = some (some (.lst ps)) ∧ P ps
@[simp] theorem s_mOwn {j : Nat} {env : Env} {P : List PV → Prop} : mOwn j env P ↔ ∃ ps, env[j]? = some (some (.lst ps)) ∧ P ps := .rfl
theorem im_ownW {X : Cx} {c : List Ow} {tg : Expr} {pos : Pos} (j : Nat) {x : Str} (hN : X.N[j]? = some x := by rfl) (hc : cO c j ≠ .sh := by decide) (hv : Vis X.env.scope x := by first | exact Or.inl rfl | exact Or.inr (Or.inl rfl) | exact Or.inr (Or.inr rfl)) (hd : (x == ("__debug__" : Str)) = false := by decide)
    (hcd : (x == ("__classdict__" : Str)) = false := by decide) : PIm X c (some j) tg (.Name x pos) (mOwn j) := im_own j hN hc hv hd hcd
end PM

set_option maxHeartbeats 2000000
/-! PM: objects of a class whose __init__ writes the fields: making, fields read; constants of the module; raise where it is never met. -/
namespace PM
open PySem L2
/-! ### fields read -/
section
variable {K : PySem.W.Frag} {S : Wd}
theorem rps_lookup {f : Str} {v : PV} : ∀ {ns : List Str} {vs : List PV} {ws : List V}, Rps K S vs ws → (ns.zip vs).lookup f = some v → ∃ w, (ns.zip ws).lookup f = some w ∧ Rp K S v w
  | [], _, _, _, h => by cases h
  | n :: ns, [], _, _, h => by cases h
  | n :: ns, p :: vs, ws, r, h => by
    unfold Rps at r
    obtain ⟨w, ws', rfl, r1, r2⟩ := r
    rw [List.zip_cons_cons, List.lookup_cons] at h ⊢
    cases hb : f == n with
    | true => rw [hb] at h; cases h; exact ⟨w, rfl, r1⟩
    | false => rw [hb] at h; exact rps_lookup r2 h
theorem lookup_mem {α : Type} {f : Str} {v : α} : ∀ {ns : List Str} {vs : List α}, (ns.zip vs).lookup f = some v → f ∈ ns
  | [], _, h => by cases h
  | n :: ns, [], h => by cases h
  | n :: ns, p :: vs, h => by
    rw [List.zip_cons_cons, List.lookup_cons] at h
    cases hb : f == n with
    | true => rw [eq_of_beq hb]; exact List.mem_cons_self ..
    | false => rw [hb] at h; exact List.mem_cons_of_mem _ (lookup_mem h)
end
def mFld (f : Str) (te : TEm) : TEm := fun env P => te env fun p => ∃ C dx ns vs v, p = .obj C dx ns vs ∧ (ns.zip vs).lookup f = some v ∧ P v
section
variable {X : Cx} {c : List Ow} {e : Expr} {te : TEm} {pos : Pos} {f : Str}
theorem em_fld (he : PEm X c .cl e te) (hb : attributeBase e f X.env (eval e X.env) = eval e X.env := by rfl) : PEm X c .cl (.Attribute e f pos) (mFld f te) := ⟨(pe_fld he.run hb).weak fun σ H Q h => by
  obtain ⟨G, A, W, env, P, R, h, k⟩ := h
  refine ⟨G, A, W, env, _, R, h, fun p x H1 g r ⟨C, dx, ns, vs, v, e, l, hv⟩ => ?_⟩
  subst e
  have r : Rp X.K ⟨Zt G A W, W, H1⟩ (.obj C dx ns vs) x := r
  unfold Rp at r
  obtain ⟨hc, a, ws, rfl, hz, ha, hl, rs⟩ := r
  obtain ⟨w, lw, rw'⟩ := rps_lookup rs l
  exact ⟨a, C, dx, _, w, rfl, ha, hc.1, hc.2 f (lookup_mem l), lw, k v w H1 g rw' hv⟩⟩
@[simp] theorem s_mFld {env : Env} {P : PV → Prop} : mFld f te env P ↔ te env fun p => ∃ C dx ns vs v, p = .obj C dx ns vs ∧ (ns.zip vs).lookup f = some v ∧ P v := .rfl
/-! ### constants of the module -/
theorem em_gint {x : Str} {i : Int} {u : Value} (hm : X.mg x = some u) (hr : RelV (.int i) u) (hg : Gl X x := by rfl) (hd : (x == ("__debug__" : Str)) = false := by decide) : PEm X c .cl (.Name x pos) (mC (.int i)) := ⟨(pe_glob hg hm hr hd).weak fun σ H Q h => by
  obtain ⟨G, A, W, env, P, R, h, k⟩ := h
  exact k _ _ H (Grow.refl R.src) (by show Rp _ _ _ _; unfold Rp; rfl) h⟩
/-! ### raise, never met -/
def sNo : TSm := fun _ _ => False
theorem sm_no {fx : Fx} {c' : List Ow} {st : Stmt} : PSm X fx c c' st sNo := ⟨⟨fun pins s σ H D I h => by
  obtain ⟨G, A, W, env, M, _, _, h, _⟩ := h
  exact h.elim⟩⟩
@[simp] theorem s_sNo {M : Em} {env : Env} : sNo M env ↔ False := .rfl
/-! ### a field written, in an __init__ -/
def sFldP (C : Addr) (f : Str) (i : Nat) (te : TEm) : TSm := fun M env => te env fun p => ∃ dx ns vs, env[i]? = some (some (.obj C dx ns vs)) ∧ f ∉ ns ∧ ns.length < 900 ∧ M.nx (env.set i (some (.obj C dx (ns ++ [f]) (vs ++ [p]))))
@[simp] theorem s_sFldP {C : Addr} {i : Nat} {M : Em} {env : Env} : sFldP C f i te M env ↔ te env fun p => ∃ dx ns vs, env[i]? = some (some (.obj C dx ns vs)) ∧ f ∉ ns ∧ ns.length < 900 ∧ M.nx (env.set i (some (.obj C dx (ns ++ [f]) (vs ++ [p])))) := .rfl
theorem putF_new {f : Str} {y : V} : ∀ {ns : List Str} {ws : List V}, f ∉ ns → ns.length = ws.length → putF f y (ns.zip ws) = (ns ++ [f]).zip (ws ++ [y])
  | [], [], _, _ => rfl
  | [], _ :: _, _, h => by cases h
  | _ :: _, [], _, h => by cases h
  | n :: ns, w :: ws, hn, hl => by
    have h1 : ¬ n = f := fun e => hn (e ▸ List.mem_cons_self ..)
    rw [List.zip_cons_cons]
    unfold putF
    rw [if_neg h1, putF_new (fun z => hn (List.mem_cons_of_mem _ z)) (Nat.succ.inj hl)]
    rfl
theorem sm_fldP (C : Addr) (i : Nat) {fx : Fx} {x : Str} {p1 p2 : Pos} (hcl : Cls X.K C) (hna : NoAttr X.K C f) (he : PEm X c .cl e te) (hN : X.N[i]? = some x := by rfl) (hc : cO c i = .ow := by rfl) (hv : Vis X.env.scope x := by first | exact Or.inl rfl | exact Or.inr (Or.inl rfl) | exact Or.inr (Or.inr rfl)) (hd : (x == ("__debug__" : Str)) = false := by decide)
    (hcd : (x == ("__classdict__" : Str)) = false := by decide) (hs : swapsWith e (some (.Attribute (.Name x p1) f p2)) pos.line X.env = pure false := by rfl) :
    PSm X fx c c (.Assign [.Attribute (.Name x p1) f p2] e pos) (sFldP C f i te) := ⟨(ps_fld (pe_var hN hv hd hcd) he.run hs).weak fun D σ H h => by
  obtain ⟨G, A, W, env, M, hg, R, h, k⟩ := h
  refine ⟨G, A, W, env, _, R, h, fun p y H1 g ry h1 => ?_⟩
  obtain ⟨dx, ns, vs, e0, hf, hl, h2⟩ := h1
  have R1 := R.grow g
  obtain ⟨a, hA, hσ, hO⟩ := R1.mine hc e0
  obtain ⟨hoc, ws, hH, ⟨hzd, hdx⟩, hlen, rs⟩ := hO
  have za : Zt G A W a := .inr (.inr ⟨i, hA⟩)
  have nda : dx ≠ a := fun z => hzd (by rw [z]; exact za)
  refine ⟨.ref a, hσ, a, C, dx, _, rfl, hH, hcl, hna, by rw [List.length_zip]; omega, ?_⟩
  rw [putF_new hf hlen]
  have ry : Rp X.K ⟨Zt G A W, W, H1⟩ p y := ry
  have x2 : Ext ⟨Zt G A W, W, H1⟩ ⟨Zt G A W, W, upd H1 a (.ins C dx ((ns ++ [f]).zip (ws ++ [y])))⟩ := ⟨fun b w hn e => ⟨hn, by show upd H1 a _ b = some w; rw [upd_ne (fun z => hn (by rw [z]; exact za))]; exact e⟩, fun _ h => h⟩
  refine k.nx _ _ _ _ _ (R1.mut e0 hA hc (p := .obj C dx (ns ++ [f]) (vs ++ [p])) ?_) h2
  refine ⟨⟨hoc.1, fun q hq => ?_⟩, ws ++ [y], upd_same, ⟨hzd, ?_⟩, by rw [List.length_append, List.length_append, hlen]; rfl, Rps.ext x2 (rs.append (Rps.cons ry Rps.nil))⟩
  · rcases List.mem_append.mp hq with z | z
    · exact hoc.2 q z
    · rw [List.mem_singleton.mp z]; exact hna
  · show upd H1 a _ dx = _
    rw [upd_ne nda]; exact hdx⟩
end
end PM

set_option maxHeartbeats 2000000
/-! PM: C(..), with C's own __init__. -/
namespace PM
open PySem L2
section
variable {P : Program} {w : World} {K : PySem.W.Frag} {mg : Str → Option Value} {base : Heap}
/-- what an __init__ promises: of the object at x, new and empty, it makes p -/
def spMkM (K : PySem.W.Frag) (C : Addr) (spec : Spec) : Sp := fun vs H Q _ => ∃ (zb : Addr → Prop) (W : Ws) (ps : List PV) (R : PV → Prop) (H0 : Hp) (x dx : Addr) (ws : List V), vs = .ref x :: ws ∧ H = upd (upd H0 dx (.own x)) x (.ins C dx []) ∧ H0 x = none ∧ H0 dx = none ∧ dx ≠ x ∧
  (∀ b, zb b → ∃ o, H0 b = some o) ∧ (∀ q ∈ W, SA H0 q) ∧ Rps K ⟨fun b => zb b ∨ inW W b, W, H0⟩ ps ws ∧ spec ps R ∧ ∀ p H', Grow W H0 H' → OwnAt K ⟨fun b => (zb b ∨ inW W b) ∨ b = x, W, H'⟩ x p → R p → Q .non H'
theorem fn_init {n qual : Str} {st : Stmt} {f C : Addr} {fd : FuncData} {N pns : List Str} {k : Nat} {spec : Spec} {t : TSm} {dvs : List V} (F : FunD K n qual (defArgs st) (defBody st) (defScope st) dvs [] f fd) (S : FnScope N pns (defScope st)) (hcl : Cls K C)
    (hlen : ∀ ps Q, spec ps Q → ps.length + 1 = pns.length) (hN : 0 < N.length)
    (hbody : ∀ (cdv : Value) (A : Around) (outer : List PySem.Env) (s : Shared) (H : Hp) (E : XK), Room k (A.deeper (PyProof.Rows.envOfC qual (defScope st) s.heap.objs.size f cdv)) → ∃ c', cO c' 0 = .ow ∧ PSsm (bodyX P w K mg base N qual st f cdv A outer s H E) ⟨.cl, false, []⟩ ((shs N.length).set 0 .ow) c' (defBody st) t)
    (hok : ∀ dx ps Q, spec ps Q → t { nx := fun e => ∃ ns vs, e[0]? = some (some (.obj C dx ns vs)) ∧ Q (.obj C dx ns vs), rt := fun _ => False } (startE N.length (.obj C dx [] [] :: ps))) : FnOk P w K mg base CX0 (k + 1) f fd pns (spMkM K C spec) := by
  refine F.ok S (fun vs H Q E h => ?_) (fun cdv A outer s H vs Q E hr h => ?_)
  · obtain ⟨zb, W, ps, R, H0, x, dx, ws, rfl, _, _, _, _, _, _, r, hs, _⟩ := h
    rw [List.length_cons, ← r.len]
    exact hlen ps R hs
  · obtain ⟨zb, W, ps, R, H0, x, dx, ws, rfl, rfl, nx, ndx, ne, hz, hsrc, r, hs, kk⟩ := h
    have r' : Rps K ⟨fun b => zb b ∨ inW W b, W, H0⟩ (.ref x :: ps) (.ref x :: ws) := Rps.cons (by unfold Rp; rfl) r
    have R0 := SR.start (N := N) (gw := false) hz hsrc r'
    have far : ∀ {b : Addr} {o : HO}, H0 b = some o → upd (upd H0 dx (.own x)) x (.ins C dx []) b = some o := fun {b o} e => by
      rw [upd_ne (fun z => by rw [z, nx] at e; cases e), upd_ne (fun z => by rw [z, ndx] at e; cases e)]; exact e
    have g : Grow W H0 (upd (upd H0 dx (.own x)) x (.ins C dx [])) := ⟨fun b o _ e => far e, fun q hq => by
      obtain ⟨⟨o1, e1⟩, o2, e2⟩ := (hsrc q hq).some
      exact SA.at (by rw [far e1, e1]) (by rw [far e2, e2]) (hsrc q hq)⟩
    have ndz : ¬ Zt ⟨false, zb, W, H0, fun _ => none, W, []⟩ (fun _ => none) W dx := fun z => by
      obtain ⟨o, e⟩ := R0.zt z
      rw [ndx] at e; cases e
    have hdx : upd (upd H0 dx (.own x)) x (.ins C dx []) dx = some (.own x) := by rw [upd_ne ne, upd_same]
    have R1 := R0.set_ow (i := 0) (p := .obj C dx [] []) (a := x) (by unfold shs; rw [List.length_replicate]; exact hN) (by rw [cO_shs]; decide) g nx ⟨⟨hcl, fun _ h => by cases h⟩, [], upd_same, ⟨fun z => z.elim ndz ne, hdx⟩, rfl, Rps.nil⟩
    have R2 : SR K ⟨false, zb, W, H0, fun b => open Classical in if b = dx then some (.own x) else none, W, []⟩ ((shs N.length).set 0 .ow) (putA (fun _ => none) 0 x) W (startE N.length (.obj C dx [] [] :: ps)) (L2.start N (.ref x :: ws)) (upd (upd H0 dx (.own x)) x (.ins C dx [])) := by
      refine ⟨R1.len, R1.W0in, R1.Wmin, R1.Wnew, R1.Wfix, R1.src, R1.keep, R1.zbt, R1.Asep, R1.Ainj, R1.Aset, R1.slots, R1.pins, fun b o e => ?_⟩
      have e : (open Classical in if b = dx then some (HO.own x) else none) = some o := e
      by_cases z : b = dx
      · rw [if_pos z] at e
        cases e
        subst z
        refine ⟨hdx, fun q => ?_⟩
        rcases q with q | q | ⟨i, q⟩
        · exact ndz (.inl q)
        · exact ndz (.inr (.inl q))
        · by_cases hi : i = 0
          · subst hi; rw [putA_eq] at q; cases q; exact ne rfl
          · rw [putA_ne hi] at q; cases q
      · rw [if_neg z] at e; cases e
    obtain ⟨c', hc0, hb⟩ := hbody cdv A outer s _ E hr
    refine ⟨_, hb.run.nox, _, _, W, _, { nx := fun e => ∃ ns vs, e[0]? = some (some (.obj C dx ns vs)) ∧ R (.obj C dx ns vs), rt := fun _ => False }, rfl, R2, hok dx ps R hs, ⟨fun A' W' env' σ' H' R' hp => ?_, fun _ _ _ _ z => z.elim, fun _ _ _ _ _ _ z => z.elim, fun _ _ _ _ _ _ z => z.elim⟩⟩
    obtain ⟨ns, vs, e0, hR⟩ := hp
    obtain ⟨a', hA', _, hO⟩ := R'.mine hc0 e0
    have eW : W' = W := R'.Wfix rfl
    subst eW
    have hO' := hO
    obtain ⟨_, us, _, ⟨_, hdo⟩, _, _⟩ := hO'
    have fz := (R'.fz dx (.own x) (by show (open Classical in if dx = dx then some (HO.own x) else none) = _; rw [if_pos rfl])).1
    have hdo : H' dx = some (.own a') := hdo
    rw [fz] at hdo
    cases hdo
    refine kk (.obj C dx ns vs) H' ⟨fun b o n e => R'.keep b o n e, R'.src⟩ (hO.less fun b z => ?_) hR
    rcases z with (z | z) | z
    · exact .inl z
    · exact .inr (.inl z)
    · rw [z]; exact .inr (.inr ⟨0, hA'⟩)
end
section
variable {X : Cx} {c : List Ow} {k : Nat} {f C : Addr} {fd : FuncData} {pns : List Str} {spec : Spec} {x : Str} {p pos : Pos} {e : Expr} {es : List Expr} {t : TAm}
def mMake (spec : Spec) (t : TAm) : TEm := fun env P => t env fun ps => spec ps P
@[simp] theorem s_mMake {env : Env} {P : PV → Prop} : mMake spec t env P ↔ t env fun ps => spec ps P := .rfl
theorem em_make (M : Mk X.K C f) (F : FnOk X.prog X.w X.K X.mg X.base CX0 k f fd pns (spMkM X.K C spec)) (hr : Room (k + 1) X.A) (hm : X.mg x = some (.ref C)) (hb : Binds X.K fd pns []) (ha : PAm X c .cl (e :: es) t) (hg : Gl X x := by rfl)
    (hdb : (x == ("__debug__" : Str)) = false := by decide) (he : starEach (e :: es) X.env = (false, eval e X.env) :: starEach es X.env := by rfl) (hpl : (backTo pos (starEach es X.env)).any (·.1) = false := by rfl) :
    PEm X c .fr (.Call (.Name x p) (e :: es) [] pos) (mMake spec t) := ⟨(pe_make M F hr hg hm hb .nil pass0 ha.run hdb he hpl).weak fun σ H Q h => by
  obtain ⟨G, A, W, env, P, R, h, k⟩ := h
  refine ⟨G, A, W, env, _, R, h, fun ps vs H1 g1 rs h1 => fun x dx nx ndx ne => ?_⟩
  have R1 := R.grow g1
  have l1 : ∀ b, (Zt G A W b ∨ inW W b) → Zt G A W b := fun b z => z.elim id Zt.w
  refine ⟨Zt G A W, W, ps, P, H1, x, dx, vs, by rw [List.append_nil], rfl, nx, ndx, ne, R1.dz, R1.src, Rps.ext (ext_less l1) rs.rps, h1, fun p H' g hO hp => ⟨rfl, k p (.ref x) H' (g1.trans g) ⟨x, rfl, g1.free nx, hO.less fun b z => ?_⟩ hp⟩⟩
  exact z.elim (fun z => .inl (.inl z)) .inr⟩
end
/-- the default () -/
theorem cst_unit {K : PySem.W.Frag} {a : Addr} (h : KTup K a []) : Cst K [.tup []] [.ref a] := fun S => Rps.cons (by
  unfold Rp
  exact ⟨a, [], rfl, .inr h, Rps.nil⟩) Rps.nil
end PM

set_option maxHeartbeats 2000000
/-! PM: comprehensions of two fors. -/
namespace PM
open PySem L2
theorem out_it {J : It} {n : Nat} {F : Hp → Prop} {Y : Nat → Hp → V → Hp → Prop} (w : Walk J n F Y) {H0 : Hp} {B : V → Hp → (Hp → Prop) → Prop} {Qd : Hp → Prop} (I : Nat → Hp → Prop) (h0 : I 0 H0) (hF : ∀ i H, i ≤ n → I i H → F H)
    (hs : ∀ i x H H', i < n → I i H → Y i H x H' → B x H' (I (i + 1))) (hd : ∀ H, I n H → Qd H) :
    ∃ W : Nat → Nat → Hp → Prop, (∃ m, W 0 m H0) ∧ ∀ i m H, W i m H → (J.stop i H ∧ Qd H) ∨ (J.go i H ∧ ∃ Nx : Hp → Prop, (∀ H', Nx H' → ∃ m', m' < m ∧ W (i + 1) m' H') ∧ ∀ x H', J.yld i H x H' → B x H' Nx) := by
  refine ⟨fun i m H => i + m = n ∧ I i H, ⟨n, Nat.zero_add n, h0⟩, fun i m H z => ?_⟩
  obtain ⟨e, p⟩ := z
  have f := hF i H (by omega) p
  cases m with
  | zero =>
    have e2 : i = n := by omega
    subst e2
    exact .inl ⟨w.stops H f, hd H p⟩
  | succ m =>
    have l : i < n := by omega
    exact .inr ⟨w.goes i H l f, I (i + 1), fun H' p' => ⟨m, Nat.lt_succ_self m, by omega, p'⟩, fun x H' y => hs i x H H' l p (w.yields i H x H' l f y)⟩
def mIn (g1 : TGm) (tt1 : TTm) (te : TEm) (env : Env) (Kn : List PV → Prop) : List PV → List PV → Prop
  | [], acc => Kn acc
  | x :: xs, acc => g1 x env fun e1 => tt1 e1 fun b => if b = true then te e1 fun y => acc.length < sizeLine ∧ mIn g1 tt1 te env Kn xs (acc ++ [y]) else mIn g1 tt1 te env Kn xs acc
def mTwo (g : TGm) (tt : TTm) (wi1 : TIm) (g1 : TGm) (tt1 : TTm) (te : TEm) (vs1 : List Nat) (env : Env) (P : PV → Prop) : List PV → List PV → Prop
  | [], acc => P (.lst acc)
  | x :: xs, acc => g x env fun e1 => tt e1 fun b => if b = true then wi1 e1 fun items => mIn g1 tt1 te (wipeE e1 vs1) (fun acc' => mTwo g tt wi1 g1 tt1 te vs1 env P xs acc') items acc else mTwo g tt wi1 g1 tt1 te vs1 env P xs acc
def mLc2 (wi : TIm) (vs vs1 : List Nat) (g : TGm) (tt : TTm) (wi1 : TIm) (g1 : TGm) (tt1 : TTm) (te : TEm) : TEm := fun env P => wi env fun items => mTwo g tt wi1 g1 tt1 te vs1 (wipeE env vs) P items []
theorem tm_lc2 {K : PySem.W.Frag} {c : List Ow} {lk lk1 : Option Nat} {wi wi1 : TIm} {vs vs1 ws ws1 : List Nat} {g g1 : TGm} {tt tt1 : TTm} {te : TEm} (hw : ∀ j ∈ ws, j ∈ vs) (hw1 : ∀ j ∈ ws1, j ∈ vs1) (σ : St) (H : Hp) (Q : VK) (h : tmE K c .fr (mLc2 wi vs vs1 g tt wi1 g1 tt1 te) σ H Q) :
    tLc2 (tiM K c lk wi) (tgM K c ws g) (tmT K c tt) (tiM K c lk1 wi1) (tgM K c ws1 g1) (tmT K c tt1) (tmE K c .cl te) vs vs1 σ H Q := by
  obtain ⟨G, A, W, env, P, R, h, k⟩ := h
  refine ⟨G, A, W, env, _, R, h, fun J items H1 pl g1' hpl ⟨Gd, Y, wk, hit⟩ h1 D nD => ?_⟩
  have R1 := R.grow g1'
  have nW : ¬ inW W D := fun w => by obtain ⟨o, e⟩ := inW_some R1.src w; rw [nD] at e; cases e
  have plD : ∀ q ∈ pl, H1 q.1 = some q.2 ∧ ¬ inW W q.1 := fun q hq => by
    cases lk with
    | none => have e : pl = [] := hpl; rw [e] at hq; cases hq
    | some j =>
      obtain ⟨a, o, e, hA, ho⟩ := hpl
      rw [e, List.mem_singleton] at hq
      rw [hq]
      exact ⟨ho, (R1.Asep j a hA).2.1⟩
  have far : ∀ {b : Addr} {o : HO}, H1 b = some o → b ≠ D := fun {b o} e z => by rw [z, nD] at e; cases e
  have onto : ∀ {H2 : Hp}, Grow W H1 H2 → Ext ⟨Zt G A W, W, H1⟩ ⟨Zt (G.and D) A W, W, H2⟩ := fun {H2} g2 => ⟨fun b o hz e => ⟨fun z => (zt_and.mp z).elim hz (far e), g2.keep b o (fun w => hz (Zt.w w)) e⟩, fun _ h => h⟩
  have zD : Zt (G.and D) A W D := zt_and.mpr (.inr rfl)
  have xD : ∀ (H5 : Hp) (o : HO), Ext ⟨Zt (G.and D) A W, W, H5⟩ ⟨Zt (G.and D) A W, W, upd H5 D o⟩ := fun H5 o => ⟨fun b w hn e => ⟨hn, by show upd H5 D o b = some w; rw [upd_ne (fun z => hn (by rw [z]; exact zD))]; exact e⟩, fun _ h => h⟩
  refine out_it wk (fun i H2 => ∃ acc wacc, SR K (G.and D) c A W (wipeE env vs) (wipe σ vs) H2 ∧ Grow W H1 H2 ∧ H2 D = some (.lst wacc) ∧ Rps K ⟨Zt (G.and D) A W, W, H2⟩ acc wacc ∧ mTwo g tt wi1 g1 tt1 te vs1 (wipeE env vs) P (items.drop i) acc)
    ⟨[], [], (R1.wipe vs).and nD, Grow.new R1.src nD, upd_same, Rps.nil, h1⟩ (fun i H2 _ hP => ?_) (fun i x H2 H3 hi hP y => ?_) (fun H2 hP => ?_)
  · obtain ⟨acc, wacc, R2, g2, hD, ra, hq⟩ := hP
    exact (hit _ W H2 (onto g2) R2.dz fun q hq => g2.keep _ _ (plD q hq).2 (plD q hq).1).1
  · obtain ⟨acc, wacc, R2, g2, hD, ra, hq⟩ := hP
    rw [List.drop_eq_getElem_cons hi] at hq
    obtain ⟨ga, rp⟩ := (hit _ W H2 (onto g2) R2.dz fun q hq => g2.keep _ _ (plD q hq).2 (plD q hq).1).2 i x H3 items[i] (List.getElem?_eq_getElem hi) y
    have g23 := ga.grow R2.src
    refine ⟨G.and D, A, W, wipeE env vs, items[i], _, R2.grow g23, rp, hq, fun env1 σ1 R4 t4 h4 => ?_⟩
    refine ⟨(t4.wipe hw).trans wipe_wipe, G.and D, A, W, env1, _, R4, h4, fun b H4 g4 h5 => ?_⟩
    have g24 : Grow W H2 H4 := g23.trans g4
    cases b with
    | false =>
      dsimp only at h5 ⊢
      rw [if_neg Bool.false_ne_true] at h5 ⊢
      exact ⟨acc, wacc, R2.grow g24, g2.trans g24, g24.keep D _ nW hD, Rps.ext (g24.ext R2.sz) ra, h5⟩
    | true =>
      dsimp only at h5 ⊢
      rw [if_pos rfl] at h5 ⊢
      refine ⟨G.and D, A, W, env1, _, R4.grow g4, h5, fun J1 items1 H5 pl1 g5 hpl1 ⟨Gd1, Y1, wk1, hit1⟩ h6 => ?_⟩
      have g25 : Grow W H2 H5 := g24.trans g5
      have R5 := (R4.grow g4).grow g5
      have pl1D : ∀ q ∈ pl1, H5 q.1 = some q.2 ∧ ¬ inW W q.1 ∧ q.1 ≠ D := fun q hq => by
        cases lk1 with
        | none => have e : pl1 = [] := hpl1; rw [e] at hq; cases hq
        | some j =>
          obtain ⟨a, o, e, hA, ho⟩ := hpl1
          rw [e, List.mem_singleton] at hq
          rw [hq]
          exact ⟨ho, (R5.Asep j a hA).2.1, fun z => (R5.Asep j a hA).2.2.1 (.inr z)⟩
      have onto1 : ∀ {H6 : Hp}, (∀ b o, ¬ inW W b → b ≠ D → H5 b = some o → H6 b = some o) → Ext ⟨Zt (G.and D) A W, W, H5⟩ ⟨Zt (G.and D) A W, W, H6⟩ := fun {H6} kp => ⟨fun b o hz e => ⟨hz, kp b o (fun w => hz (Zt.w w)) (fun z => hz (by rw [z]; exact zD)) e⟩, fun _ h => h⟩
      refine out_it wk1 (fun j H6 => ∃ acc' wacc', SR K (G.and D) c A W (wipeE env vs) (wipe σ vs) H6 ∧ SR K (G.and D) c A W (wipeE env1 vs1) (wipe σ1 vs1) H6 ∧ Grow W H1 H6 ∧ (∀ b o, ¬ inW W b → b ≠ D → H5 b = some o → H6 b = some o) ∧ H6 D = some (.lst wacc') ∧ Rps K ⟨Zt (G.and D) A W, W, H6⟩ acc' wacc' ∧
          mIn g1 tt1 te (wipeE env1 vs1) (fun a => mTwo g tt wi1 g1 tt1 te vs1 (wipeE env vs) P (items.drop (i + 1)) a) (items1.drop j) acc')
        ⟨acc, wacc, R2.grow g25, R5.wipe vs1, g2.trans g25, fun _ _ _ _ e => e, g25.keep D _ nW hD, Rps.ext (g25.ext R2.sz) ra, h6⟩ (fun j H6 _ hP => ?_) (fun j x1 H6 H7 hj hP y1 => ?_) (fun H6 hP => ?_)
      · obtain ⟨acc', wacc', Ro, Ri, g6, kp, hD6, ra6, hq6⟩ := hP
        exact (hit1 _ W H6 (onto1 kp) Ri.dz fun q hq => kp _ _ (pl1D q hq).2.1 (pl1D q hq).2.2 (pl1D q hq).1).1
      · obtain ⟨acc', wacc', Ro, Ri, g6, kp, hD6, ra6, hq6⟩ := hP
        rw [List.drop_eq_getElem_cons hj] at hq6
        obtain ⟨gb, rp1⟩ := (hit1 _ W H6 (onto1 kp) Ri.dz fun q hq => kp _ _ (pl1D q hq).2.1 (pl1D q hq).2.2 (pl1D q hq).1).2 j x1 H7 items1[j] (List.getElem?_eq_getElem hj) y1
        have g67 := gb.grow Ri.src
        refine ⟨G.and D, A, W, wipeE env1 vs1, items1[j], _, Ri.grow g67, rp1, hq6, fun env2 σ2 R8 t8 h8 => ?_⟩
        refine ⟨(t8.wipe hw1).trans wipe_wipe, G.and D, A, W, env2, _, R8, h8, fun b H8 g8 h9 => ?_⟩
        have g68 : Grow W H6 H8 := g67.trans g8
        cases b with
        | false =>
          dsimp only at h9 ⊢
          rw [if_neg Bool.false_ne_true] at h9 ⊢
          exact ⟨acc', wacc', Ro.grow g68, Ri.grow g68, g6.trans g68, fun b o n1 n2 e => g68.keep b o n1 (kp b o n1 n2 e), g68.keep D _ nW hD6, Rps.ext (g68.ext Ri.sz) ra6, h9⟩
        | true =>
          dsimp only at h9 ⊢
          rw [if_pos rfl] at h9 ⊢
          refine ⟨G.and D, A, W, env2, _, R8.grow g8, h9, fun p v H9 g9 rv ⟨hl, h10⟩ => ?_⟩
          have g69 : Grow W H6 H9 := g68.trans g9
          have hD9 : H9 D = some (.lst wacc') := g69.keep D _ nW hD6
          have ra9 : Rps K ⟨Zt (G.and D) A W, W, H9⟩ acc' wacc' := Rps.ext (g69.ext Ri.sz) ra6
          have Ro9 := (Ro.grow g69).upZ (o := .lst (wacc' ++ [v])) (.inr rfl) (R1.h0 nD) nW
          have Ri9 := (Ri.grow g69).upZ (o := .lst (wacc' ++ [v])) (.inr rfl) (R1.h0 nD) nW
          have g19 := g6.trans g69
          refine ⟨wacc', hD9, by rw [← ra6.len]; exact hl, acc' ++ [p], wacc' ++ [v], Ro9, Ri9, ⟨fun b o n1 e => by rw [upd_ne (far e)]; exact g19.keep b o n1 e, Ro9.src⟩, fun b o n1 n2 e => by rw [upd_ne n2]; exact g69.keep b o n1 (kp b o n1 n2 e), upd_same, Rps.ext (xD _ _) (ra9.append (Rps.cons rv.c Rps.nil)), h10⟩
      · obtain ⟨acc', wacc', Ro, Ri, g6, kp, hD6, ra6, hq6⟩ := hP
        rw [List.drop_length] at hq6
        exact ⟨acc', wacc', Ro, g6, hD6, ra6, hq6⟩
  · obtain ⟨acc, wacc, R2, g2, hD, ra, hq⟩ := hP
    rw [List.drop_length] at hq
    exact k (.lst acc) (.ref D) H2 (g1'.trans g2) ⟨D, rfl, g1'.free nD, wacc, hD, Rps.ext (ext_less fun b z => zt_and.mpr z) ra⟩ hq
section
variable {X : Cx} {f : Fx} {c : List Ow} {lk lk1 : Option Nat} {elt tg iter tg1 iter1 : Expr} {ifs ifs1 : List Expr} {scope : Scope} {own : List (Str × Nat)} {pos spos : Pos} {wi wi1 : TIm} {ws ws1 : List Nat} {g g1 : TGm} {tt tt1 : TTm} {te : TEm}
theorem em_lc2 (vs1 : List Nat) (hc : X.calm = true) (hN : X.N.Nodup) (hi : PIm X c lk tg iter wi) (ok : BlkOk X.N X.env.scope scope own)
    (hg : ∀ (s : Shared) (H : Hp) (C : Addr) (cl : List (Str × Addr)) (fp : List Addr), PGm (X.blk s H scope (compEnvC scope cl C X.env) fp) c ws tg g) (ht : ∀ (s : Shared) (H : Hp) (C : Addr) (cl : List (Str × Addr)) (fp : List Addr), PTsm (X.blk s H scope (compEnvC scope cl C X.env) fp) c ifs tt)
    (hi1 : ∀ (s : Shared) (H : Hp) (C : Addr) (cl : List (Str × Addr)) (fp : List Addr), PIm (X.blk s H scope (compEnvC scope cl C X.env) fp) c lk1 tg1 iter1 wi1)
    (hg1 : ∀ (s : Shared) (H : Hp) (C : Addr) (cl : List (Str × Addr)) (fp : List Addr), PGm (X.blk s H scope (compEnvC scope cl C X.env) fp) c ws1 tg1 g1) (ht1 : ∀ (s : Shared) (H : Hp) (C : Addr) (cl : List (Str × Addr)) (fp : List Addr), PTsm (X.blk s H scope (compEnvC scope cl C X.env) fp) c ifs1 tt1)
    (he : ∀ (s : Shared) (H : Hp) (C : Addr) (cl : List (Str × Addr)) (fp : List Addr), PEm (X.blk s H scope (compEnvC scope cl C X.env) fp) c .cl elt te) (hv : ∀ i ∈ vs1, i ∈ own.map (·.2) := by decide) (hw : ∀ j ∈ ws, j ∈ own.map (·.2) := by decide) (hw1 : ∀ j ∈ ws1, j ∈ vs1 := by decide)
    (hs : ∀ x, foldedSetIterable iter X.env x = pure x := by intro _; rfl) (hs1 : ∀ env x, foldedSetIterable iter1 env x = pure x := by intro _ _; rfl) :
    PEm X c .fr (.ListComp elt [⟨tg, iter, ifs, 0⟩, ⟨tg1, iter1, ifs1, 0⟩] scope pos) (mLc2 wi (own.map (·.2)) vs1 g tt wi1 g1 tt1 te) :=
  ⟨(pe_lc2 hc hN hi.run ok hv (fun s H C cl fp => (hg s H C cl fp).run) (fun s H C cl fp => (ht s H C cl fp).run) (fun s H C cl fp => (hi1 s H C cl fp).run) (fun s H C cl fp => (hg1 s H C cl fp).run) (fun s H C cl fp => (ht1 s H C cl fp).run) (fun s H C cl fp => (he s H C cl fp).run) hs hs1).weak fun σ H Q h => tm_lc2 (lk := lk) (lk1 := lk1) hw hw1 σ H Q h⟩
theorem sm_setLc2 (i : Nat) (vs1 : List Nat) {y : Str} {py : Pos} (hc : X.calm = true) (hN : X.N.Nodup) (hi : PIm X c lk tg iter wi) (ok : BlkOk X.N X.env.scope scope own)
    (hg : ∀ (s : Shared) (H : Hp) (C : Addr) (cl : List (Str × Addr)) (fp : List Addr), PGm (X.blk s H scope (compEnvC scope cl C X.env) fp) c ws tg g) (ht : ∀ (s : Shared) (H : Hp) (C : Addr) (cl : List (Str × Addr)) (fp : List Addr), PTsm (X.blk s H scope (compEnvC scope cl C X.env) fp) c ifs tt)
    (hi1 : ∀ (s : Shared) (H : Hp) (C : Addr) (cl : List (Str × Addr)) (fp : List Addr), PIm (X.blk s H scope (compEnvC scope cl C X.env) fp) c lk1 tg1 iter1 wi1)
    (hg1 : ∀ (s : Shared) (H : Hp) (C : Addr) (cl : List (Str × Addr)) (fp : List Addr), PGm (X.blk s H scope (compEnvC scope cl C X.env) fp) c ws1 tg1 g1) (ht1 : ∀ (s : Shared) (H : Hp) (C : Addr) (cl : List (Str × Addr)) (fp : List Addr), PTsm (X.blk s H scope (compEnvC scope cl C X.env) fp) c ifs1 tt1)
    (he : ∀ (s : Shared) (H : Hp) (C : Addr) (cl : List (Str × Addr)) (fp : List Addr), PEm (X.blk s H scope (compEnvC scope cl C X.env) fp) c .cl elt te)
    (hsw : swapsWith (.ListComp elt [⟨tg, iter, ifs, 0⟩, ⟨tg1, iter1, ifs1, 0⟩] scope pos) (some (.Name y py)) spos.line X.env = pure true) (hy : X.N[i]? = some y := by rfl) (hyl : X.env.scope.names.lookup y = some .local := by rfl) (hlen : i < c.length := by decide) (hl : cO c i ≠ .lk := by decide)
    (hv : ∀ i ∈ vs1, i ∈ own.map (·.2) := by decide) (hw : ∀ j ∈ ws, j ∈ own.map (·.2) := by decide) (hw1 : ∀ j ∈ ws1, j ∈ vs1 := by decide) (hs : ∀ x, foldedSetIterable iter X.env x = pure x := by intro _; rfl) (hs1 : ∀ env x, foldedSetIterable iter1 env x = pure x := by intro _ _; rfl) :
    PSm X f c (c.set i .ow) (.Assign [.Name y py] (.ListComp elt [⟨tg, iter, ifs, 0⟩, ⟨tg1, iter1, ifs1, 0⟩] scope pos) spos) (sSet i (mLc2 wi (own.map (·.2)) vs1 g tt wi1 g1 tt1 te)) :=
  ⟨(ps_setLc2 hc hN hy hyl hsw hi.run ok hv (fun s H C cl fp => (hg s H C cl fp).run) (fun s H C cl fp => (ht s H C cl fp).run) (fun s H C cl fp => (hi1 s H C cl fp).run) (fun s H C cl fp => (hg1 s H C cl fp).run) (fun s H C cl fp => (ht1 s H C cl fp).run) (fun s H C cl fp => (he s H C cl fp).run) hs hs1).weak fun D σ H h => by
    obtain ⟨G, A, W, env, M, hgw, R, h, k⟩ := h
    refine tm_lc2 (lk := lk) (lk1 := lk1) hw hw1 σ H _ ⟨G, A, W, env, _, R, h, fun p v H1 g r h1 => ?_⟩
    obtain ⟨a, rfl, n, o⟩ := r
    exact k.nx _ W _ _ H1 (R.set_ow hlen hl g n o) h1⟩
@[simp] theorem s_mLc2 {vs vs1 : List Nat} {env : Env} {P : PV → Prop} : mLc2 wi vs vs1 g tt wi1 g1 tt1 te env P ↔ wi env fun items => mTwo g tt wi1 g1 tt1 te vs1 (wipeE env vs) P items [] := .rfl
end
end PM

set_option maxHeartbeats 2000000
/-! PM: dicts whose keys are tuples of whole numbers (each with True), sorted lists of such tuples. -/
namespace PM
open PySem PySem.Spec PyProof.Rows L2
def xOf (p : Addr × List Int) : List Int × Addr × Value := (p.2, p.1, .bool true)
theorem xOf_entry (P : Program) (w : World) (p : Addr × List Int) : entryOfKey (tupleKind (PySem.intKind P w)) (xOf p) = pEntry p := rfl
theorem map_entry (P : Program) (w : World) (L : List (Addr × List Int)) : (L.map xOf).map (entryOfKey (tupleKind (PySem.intKind P w))) = L.map pEntry := by rw [List.map_map]; rfl
/-- b at the key k; the address of a key that is there stays -/
def putP (L : List (Addr × List Int)) (k : List Int) (b : Addr) : List (Addr × List Int) := if k ∈ L.map (·.2) then L else L ++ [(b, k)]
theorem atKey_xOf {k : List Int} : ∀ L : List (Addr × List Int), (atKey (L.map xOf) k).isSome = decide (k ∈ L.map (·.2))
  | [] => rfl
  | p :: L => by
    have ih := atKey_xOf (k := k) L
    unfold atKey at ih ⊢
    rw [List.map_cons, List.map_cons]
    simp only [List.find?_cons, List.mem_cons]
    by_cases e : (xOf p).1 = k
    · have e2 : p.2 = k := e
      simp [e, e2]
    · have e2 : ¬ k = p.2 := fun z => e z.symm
      simp [e, e2]
      simpa using ih
theorem stored_xOf {k : List Int} {b : Addr} {L : List (Addr × List Int)} : storedH (L.map xOf) k b (.bool true) = (putP L k b).map xOf := by
  unfold storedH putP
  rw [atKey_xOf]
  by_cases e : k ∈ L.map (·.2)
  · rw [if_pos (by simpa using e), if_pos e, List.map_map]
    refine List.map_congr_left fun p _ => ?_
    show putAt k (.bool true) (xOf p) = xOf p
    unfold putAt xOf
    split <;> rfl
  · rw [if_neg (by simpa using e), if_neg e, List.map_append]
    rfl
theorem putP_keys {L : List (Addr × List Int)} {k : List Int} {b : Addr} : (putP L k b).map (·.2) = if k ∈ L.map (·.2) then L.map (·.2) else L.map (·.2) ++ [k] := by
  unfold putP
  split
  · rfl
  · rw [List.map_append]; rfl
section
variable {X : Cx} {pins : List (Addr × Obj)} {σ : L2.St} {H : Hp} {s : Shared} {a : Addr} {L : List (Addr × List Int)}
theorem pd_of {P : Program} {w : World} (ok : HOk P w H s.heap) (e : H a = some (PairD a L)) : (a == sysModules) = false ∧ L.length ≤ sizeLine ∧ (L.map (·.2)).Nodup ∧ ∃ o es ep, s.heap.get? a = some o ∧ o.ExactDict ∧ o.data = .dict es ep ∧ es.toList = L.map pEntry :=
  (show ObjOk P w H s.heap a (PairD a L) from ok a _ e).1
theorem pd_new {P : Program} {w : World} {H' : Hp} {h' : Heap} (hd : (a == sysModules) = false) (hl : L.length ≤ sizeLine) (hn : (L.map (·.2)).Nodup) {o : Obj} {es : Array DictEntry} {ep : Nat} (h1 : h'.get? a = some o) (h2 : o.ExactDict) (h3 : o.data = .dict es ep) (h4 : es.toList = L.map pEntry) : ObjOk P w H' h' a (PairD a L) :=
  ⟨⟨hd, hl, hn, o, es, ep, h1, h2, h3, h4⟩, ⟨o, h1⟩, fun _ _ ⟨x1, x2, x3, o', es', ep', y1, y2⟩ k => ⟨x1, x2, x3, o', es', ep', k o' y1, y2⟩⟩
def tDNewP : TE := fun _ H Q => ∀ p, H p = none → Q (.ref p) (upd H p (PairD p []))
theorem pe_dnewP {pos : Pos} : PE X (.Dict [] [] pos) tDNewP := ⟨fun pins s σ H Q I h =>
  wpAny_Dict_empty ⟨.ref s.heap.objs.size, _, I.laid (a := s.heap.objs.size) (o := PairD s.heap.objs.size []) (t' := s.toks) (fun _ _ q => Heap.get?_push_of_some _ q) (Nat.le_refl _)
    (pd_new (beq_eq_false_iff_ne.mpr (Ne.symm (Nat.ne_of_lt I.big))) (Nat.zero_le _) List.nodup_nil (Heap.get?_push_size _ rfl) ⟨rfl, rfl, rfl⟩ rfl rfl), rfl, h _ (I.hok.fresh (Nat.le_refl _))⟩⟩
/-- d[y] = True -/
def sDPutP (K : PySem.W.Frag) (td ty tv : TE) : TS := fun D σ H => tv σ H fun v H1 => td σ H1 fun x H2 => ty σ H2 fun y H3 => ∃ a L b k, v = .bl true ∧ x = .ref a ∧ H3 a = some (PairD a L) ∧ y = .ref b ∧ SqT K H3 b (k.map V.int) ∧ (∀ p ∈ L, SqT K H3 p.1 (p.2.map V.int)) ∧ L.length < sizeLine ∧ D.nx σ (upd H3 a (PairD a (putP L k b)))
theorem ps_dputP {o i value : Expr} {pos pos' : Pos} {td ty tv : TE} (hu : X.A.units + 1 < cLine) (ho : PE X o td) (hi : PE X i ty) (hv : PE X value tv) (hs : swapsWith value (some (.Subscript o i pos')) pos.line X.env = pure false) :
    PS X (.Assign [.Subscript o i pos'] value pos) (sDPutP X.K td ty tv) := by
  refine ⟨fun pins s σ H D I h => ?_⟩
  refine wpAny_Assign_Subscript (thn (hv.run pins s σ H _ I h) fun r s1 ⟨v, H1, I1, rv, q1⟩ => thn (ho.run pins s1 σ H1 _ I1 q1) fun u s2 ⟨x, H2, I2, rx, q2⟩ => thn (hi.run pins s2 σ H2 _ I2 q2) fun iv s3 ⟨y, H3, I3, ry, a, L, b, k, ev, ex, eH, ey, hb, hk, hl, q3⟩ => ?_) hs
  subst ev ex ey
  obtain rfl : u = Value.ref a := rx
  obtain rfl : iv = Value.ref b := ry
  obtain rfl : r = Value.bool true := rv
  obtain ⟨hd, hz, hn, q, es, ep, h1, h2, h3, h4⟩ := pd_of I3.hok eH
  have hx : s3.heap.DictOfH (tupleKind (PySem.intKind X.prog X.w)) a (L.map xOf) := ⟨q, es, ep, h1, h2, h3, by rw [map_entry]; exact h4, fun x hx => by
    obtain ⟨p, hp, rfl⟩ := List.mem_map.mp hx
    exact I3.isT (hk p hp), by rw [List.map_map]; exact hn⟩
  have hz' : (L.map xOf).length ≤ sizeLine := by rw [List.length_map]; exact hz
  refine wpAny_setItem_heap (hsz := hz') (tupleKind_room_in1 hu) (I3.isT hb) hx fun h' dd' hs => ?_
  obtain ⟨q', es', ep', g1, g2, g3, g4, _, g5⟩ := dd'
  rw [stored_xOf, map_entry] at g4
  rw [stored_xOf, List.map_map] at g5
  have hl2 : (putP L k b).length ≤ sizeLine := by unfold putP; split; exact hz; rw [List.length_append]; exact hl
  exact ⟨σ, _, d_write I3 (by rw [eH]; exact True.intro) hs ⟨q', g1⟩ (pd_new hd hl2 g5 g1 g2 g3 g4), q3⟩
theorem perm_map {α β : Type} (f : α → β) : ∀ {l m : List β}, l.Perm m → ∀ L : List α, m = L.map f → ∃ L' : List α, L'.Perm L ∧ l = L'.map f := by
  intro l m h
  induction h with
  | nil => intro L e; exact ⟨[], by rw [List.map_eq_nil_iff.mp e.symm], rfl⟩
  | cons x _ ih =>
    intro L e
    cases L with
    | nil => cases e
    | cons y L =>
      injection e with e1 e2
      obtain ⟨L', p, q⟩ := ih L e2
      exact ⟨y :: L', p.cons y, by rw [List.map_cons, q, e1]⟩
  | swap x y l =>
    intro L e
    match L, e with
    | u :: v :: L, e =>
      injection e with e1 e2
      injection e2 with e2 e3
      exact ⟨v :: u :: L, List.Perm.swap _ _ _, by rw [List.map_cons, List.map_cons, e1, e2, e3]⟩
  | trans _ _ ih1 ih2 =>
    intro L e
    obtain ⟨L1, p1, q1⟩ := ih2 L e
    obtain ⟨L3, p2, q2⟩ := ih1 L1 q1
    exact ⟨L3, p2.trans p1, q2⟩
/-- sorted(d) of a dict of tuples of d whole numbers in [0, B) -/
def rSortedPD (K : PySem.W.Frag) : List V → Hp → VK → Prop := fun vs H Q => ∃ (a : Addr) (L : List (Addr × List Int)) (d : Nat) (B : Int), vs = [V.ref a] ∧ H a = some (PairD a L) ∧ (∀ p ∈ L, SqT K H p.1 (p.2.map V.int)) ∧ 1 ≤ d ∧
  (∀ p ∈ L, p.2.length = d ∧ TS.Bd B p.2) ∧ L.length < 64 ∧
  ∀ (L' : List (Addr × List Int)) (p : Addr), L'.Perm L → (L'.map (·.2)).Nodup → L'.Pairwise (fun q r => TS.code B q.2 ≤ TS.code B r.2) → H p = none → Q (.ref p) (upd H p (.lst (L'.map fun q => V.ref q.1)))
theorem cr_sortedPD (hc : X.calm = true) : CallR X (.builtin "sorted") (rSortedPD X.K) := by
  intro pins s σ H vs us Q I r h
  obtain ⟨a, L, d, B, rfl, ha, hk, hd1, hB, h64, q⟩ := h
  obtain ⟨hd, hz, hn, o, es, ep, h1, h2, h3, h4⟩ := pd_of I.hok ha
  have hes : es.size = L.length := by rw [← Array.length_toList, h4, List.length_map]
  rw [Vals.ref1 r]
  refine Calls.call_function_entry kind_sorted plain_sorted entry_sorted (args_sorted1 _) ?_
  unfold Builtin.«sorted»
  refine wpAny_bind (m := checkCount "sorted" 1 1 _) (wpAny_pure ?_)
  refine wpAny_bind (PySem.W.kdu_collect (A := X.A.in1) (kdl_raw hd h2 h3) (I.ok.hd hc) h1 (by omega) fun h' tk acc hk2 hacc => ?_)
  have hal : acc.toList = L.map fun p => Value.ref p.1 := by
    have hl : acc.toList.length = L.length := by rw [Array.length_toList, hacc.1, hes]
    apply List.ext_getElem?
    intro j
    rw [List.getElem?_map]
    cases hj : acc.toList[j]? with
    | none =>
      have z := List.getElem?_eq_none_iff.mp hj
      rw [List.getElem?_eq_none (by omega)]
      rfl
    | some v =>
      obtain ⟨en, hen, hv⟩ := hacc.2 j v (by rw [← Array.getElem?_toList]; exact hj)
      rw [← Array.getElem?_toList, h4, List.getElem?_map] at hen
      cases hb : L[j]? with
      | none => rw [hb] at hen; cases hen
      | some p =>
        rw [hb] at hen
        cases hen
        rw [hv]
        rfl
  have I1 : Inv X pins σ H { s with heap := h', toks := tk } := I.kept hk2
  have hlen0 : acc.toList.length = L.length := by rw [hal, List.length_map]
  refine wpAny_bind (wpAny_newList ?_ (by rw [hlen0, sizeLine_eq]; omega))
  have hoL : (h'.push (seqObj "list" acc.toList.toArray 0)).get? h'.objs.size = some (seqObj "list" acc.toList.toArray 0) := Heap.get?_push_size _ rfl
  show wpAny _ _ _ _ _ { s with heap := h'.push (seqObj "list" acc.toList.toArray 0), toks := tk }
  have tkk : ∀ q ∈ L, TS.TupInts (h'.push (seqObj "list" acc.toList.toArray 0)) (.ref q.1) q.2 := fun q hq => tupInts_of (P := X.prog) (w := X.w) (isT_keep (I1.isT (hk q hq)) fun b u e => Heap.get?_push_of_some _ e)
  have x : TS.TupsOk (h'.push (seqObj "list" acc.toList.toArray 0)) d B acc.toList := fun v hv => by
    rw [hal] at hv
    obtain ⟨q, hq, e⟩ := List.mem_map.mp hv
    rw [← e]
    exact ⟨q.2, tkk q hq, (hB q hq).1, (hB q hq).2⟩
  refine wpAny_bind (wpAny_holding (TS.call_sort_tups (s := { s with heap := h'.push (seqObj "list" acc.toList.toArray 0), toks := tk }) hoL (by rw [hlen0]; exact h64) hd1 x fun out a1 a2 => ?_))
  obtain ⟨c, hc2⟩ := sortedHeap_at (vs := acc.toList) (out := out) hoL
  obtain ⟨L', pL, e'⟩ := perm_map (fun p : Addr × List Int => Value.ref p.1) a1 L hal
  have pw : L'.Pairwise (fun q r => TS.code B q.2 ≤ TS.code B r.2) := by
    rw [e'] at a2
    refine List.Pairwise.imp_of_mem (fun {q r} hq hr hle => ?_) (List.pairwise_map.mp a2)
    have f1 : TS.intsOf (h'.push (seqObj "list" acc.toList.toArray 0)) (.ref q.1) = q.2 := (tkk q (pL.mem_iff.mp hq)).ints
    have f2 : TS.intsOf (h'.push (seqObj "list" acc.toList.toArray 0)) (.ref r.1) = r.2 := (tkk r (pL.mem_iff.mp hr)).ints
    rw [← f1, ← f2]
    exact hle
  have hlen : (L'.map fun q => V.ref q.1).length ≤ sizeLine := by rw [List.length_map, pL.length_eq]; exact hz
  refine wpAny_pure ⟨_, rfl, .ref h'.objs.size, upd H h'.objs.size (.lst (L'.map fun q => V.ref q.1)), I1.laid (t' := tk) (fun b u e => ?_) (Nat.le_refl _) ⟨hlen, out.toList, c, by rw [e']; exact vals_of_refs L', hc2⟩, rfl, q L' _ pL ((pL.map (·.2)).nodup_iff.mpr hn) pw (I1.hok.fresh (Nat.le_refl _))⟩
  have hlt := Heap.lt_size e
  show (sortedHeap (h'.push (seqObj "list" acc.toList.toArray 0)) h'.objs.size acc.toList out).get? b = some u
  rw [sortedHeap_old (Nat.ne_of_lt hlt) (by rw [size_push']; exact Nat.lt_succ_of_lt hlt)]
  exact Heap.get?_push_of_some _ e
end
end PM

set_option maxHeartbeats 4000000
/-! PM: set(xs) of a list of tuples of whole numbers, xs of any length, few of them distinct (the library's own rule wants xs short). -/
namespace PM
open PySem PySem.Spec PyProof.Rows L2
/-- of these tuples few are distinct -/
def Few (ks : List (Addr × List Int)) : Prop := ∀ L : List (Addr × List Int), (∀ p ∈ L, p ∈ ks) → (L.map (·.2)).Nodup → L.length < 63
section
variable {P : Program} {w : World} {A : Around} {E : Value → Shared → Prop} {s : Shared}
/-- the set at S holds what the first i items gave; the heap h0 still stands -/
structure Half (P : Program) (w : World) (h0 : Heap) (S : Addr) (ks : List (Addr × List Int)) (i : Nat) (h : Heap) : Prop where
  old : ∀ b o, h0.get? b = some o → h.get? b = some o
  got : ∃ L es ep t, SetTR P w h S L es ep t ∧ Got ks i L
section
variable {I S : Addr} {fp wr : List Addr} {G : Array GenState → Array GenState → Prop} {n : Nat} {Pv : Nat → Value → Prop} {St : Nat → Shared → Prop} {R : Result → Shared → Prop} {ks : List (Addr × List Int)} {h0 : Heap}
theorem Half.move {i : Nat} {s s' : Shared} (h : Half P w h0 S ks i s.heap) (m : Moved wr G s s') (hSw : S ∉ wr) (hw0 : ∀ b ∈ wr, h0.get? b = none) (hk : ∀ p ∈ ks, IsT P w h0 p.2 p.1) : Half P w h0 S ks i s'.heap := by
  have old : ∀ b o, h0.get? b = some o → s'.heap.get? b = some o := fun b o e => m.heap b o (fun z => by rw [hw0 b z] at e; cases e) (h.old b o e)
  obtain ⟨L, es, ep, t, r, g⟩ := h.got
  exact ⟨old, L, es, ep, t, r.keep (fun o e => m.heap S o hSw e) (fun p hp => isT_keep (hk p (List.mem_of_mem_take (g.sub p hp))) old), g⟩
/-- one more item is added -/
theorem Half.add {i : Nat} {s : Shared} {p : Addr × List Int} {Q : Bool → Shared → Prop} (few : Few ks) (h : Half P w h0 S ks i s.heap) (hp : ks[i]? = some p) (hk : ∀ p ∈ ks, IsT P w h0 p.2 p.1) (hS0 : h0.get? S = none) (hu : A.in1.units < cLine)
    (q : ∀ (b : Bool) (h' : Heap) (tk : Nat), s.toks ≤ tk → Heap.SameBut S s.heap h' → Half P w h0 S ks (i + 1) h' → Q b { s with heap := h', toks := tk }) :
    wpAny (model P w) A.in1 (setAdd S (.ref p.1)) Q E s := by
  obtain ⟨L, es, ep, t, r, g⟩ := h.got
  have hx : IsT P w s.heap p.2 p.1 := isT_keep (hk p (List.mem_of_getElem? hp)) h.old
  have room : L.length + 1 < 64 := Nat.succ_lt_succ (few L (fun u hu => List.mem_of_mem_take (g.sub u hu)) r.nd)
  unfold setAdd
  refine wpAny_holding (wpAny_bind (wpAny_pyHash_tuple hu hx (add_at (s := { s with toks := s.toks + (p.2.length + 1) }) r hx hu room fun b h' L' es' ep' t' hsb r' c1 c2 => ?_)))
  refine q b h' _ (Nat.le_add_right _ _) hsb ⟨fun c o e => (hsb.2 c (fun z => by rw [z, hS0] at e; cases e)).trans (h.old c o e), L', es', ep', t', r', ?_⟩
  by_cases c : p.2 ∈ L.map (·.2)
  · rw [c1 c]; exact g.same hp c
  · exact g.more hp (c2 c)
/-- the loop of set.update, from the i-th item on -/
theorem upd_from (W : WalksS P w A.in1 I fp wr G n Pv St) (hSf : S ∉ fp) (hn : n = ks.length) (few : Few ks) (hval : ∀ i v, Pv i v → ∃ p, ks[i]? = some p ∧ v = .ref p.1)
    (hk : ∀ p ∈ ks, IsT P w h0 p.2 p.1) (hS0 : h0.get? S = none) (hw0 : ∀ b ∈ wr, h0.get? b = none) (hu : A.in1.units < cLine) :
    ∀ (k i : Nat) (s : Shared), i + k = n → St i s → Half P w h0 S ks i s.heap → (∀ s', Moved (S :: wr) G s s' → Half P w h0 S ks n s'.heap → R (.ok (.ret .none)) s') →
      codeAny (model P w) A (.builtin "set.update.loop" ⟨[.ref S, .ref I], []⟩) R s := by
  have hSw : S ∉ wr := fun h => hSf (W.sub _ h)
  have more : ∀ b ∈ wr, b ∈ S :: wr := fun b hb => List.mem_cons_of_mem _ hb
  intro k
  induction k with
  | zero =>
    rintro i s hik hst hf hR
    obtain rfl : i = n := hik
    refine codeAny_builtin F.entry_set_update_loop ?_
    rw [Around.under_plainId F.plain_set_update_loop _]
    exact wpAny_bind (W.done s _ _ hst fun s' m => wpAny_pure (hR s' (m.mono more) (hf.move m hSw hw0 hk)))
  | succ k ih =>
    rintro i s hik hst hf hR
    refine codeAny_builtin F.entry_set_update_loop ?_
    rw [Around.under_plainId F.plain_set_update_loop _]
    refine wpAny_bind (W.item i s _ _ (by omega) hst fun v s' hP hst' m => ?_)
    obtain ⟨p, hp, rfl⟩ := hval i v hP
    refine wpAny_bind (wpAny_holding (Half.add few (hf.move m hSw hw0 hk) hp hk hS0 hu fun b h' tk ht hsb hf' => ?_))
    refine wpAny_pure ⟨plainId_quiet F.plain_set_update_loop _, ih (i + 1) _ (by omega) (W.frame _ s' _ _ hst' ht fun c hc o e => ?_) hf' fun s'' m'' hf'' => hR s'' (Moved.trans W.gtrans ((m.mono more).then_heap ht fun c o hc e => ?_) m'') hf''⟩
    · rw [hsb.2 c (fun z : c = S => hSf (z ▸ hc))]; exact e
    · rw [hsb.2 c (fun z : c = S => hc (z ▸ List.mem_cons_self))]; exact e
end
/-- a new set, empty -/
abbrev set0 (w : World) : Obj := { cls := .type "set", dict := none, data := .set #[] 0 (.fresh 0 0 (!w.params.followText "set-order")) }
theorem size_none (h : Heap) {b : Addr} (hb : h.objs.size ≤ b) : h.get? b = none := by
  cases q : h.get? b with
  | none => rfl
  | some o => exact absurd (Heap.lt_size q) (Nat.not_lt.mpr hb)
/-- set.__init__(S, l) for the new set S: the items of l -/
theorem init_from {l : Addr} {items : Array Value} {ks : List (Addr × List Int)} (hh : A.handled = none) (hl : s.heap.IsList l items) (hit : items.toList = ks.map fun p => Value.ref p.1) (hk : ∀ p ∈ ks, IsT P w s.heap p.2 p.1) (few : Few ks) (hu : A.units + 3 < cLine)
    {Q : PySem.Fin → Shared → Prop} (h : ∀ (h' : Heap) (tk : Nat), Half P w s.heap s.heap.objs.size ks ks.length h' → Q (.done (.ret .none)) { s with heap := h', toks := tk }) :
    wpAny (model P w) A.in1.in1 (Builtin.«set.__init__» ⟨[.ref s.heap.objs.size, .ref l], []⟩) Q E { s with heap := s.heap.push (set0 w) } := by
  have hisz : items.size = ks.length := by rw [← Array.length_toList, hit, List.length_map]
  obtain ⟨ol, hol, hcl, nl, hdl⟩ := hl
  obtain ⟨ocls, odict, odata, oslots⟩ := ol
  simp only at hcl hdl
  subst hcl; subst hdl
  have hol' : (s.heap.push (set0 w)).get? l = some { cls := .type "list", dict := odict, data := .seq items nl, slots := oslots } := Heap.get?_push_of_some _ hol
  have hsls := F.sub_list_set
  have hslf := F.sub_list_frozenset
  have hne : (Value.type "list" == Value.type "dict") = false := by decide
  have hl1 : (s.heap.push (set0 w)).IsList l items := ⟨_, hol', rfl, nl, rfl⟩
  unfold Builtin.«set.__init__» noKeywords Builtin.Frozenset.updateFrom
  generalize hPI : pyIter = PI
  wp_walk
  subst hPI
  refine wpAny_pyIter_list hl1 ?_
  refine wpAny_bind (wpAny_runValue ?_)
  have hlS : l < s.heap.objs.size := Heap.lt_size hol
  have hz1 : (s.heap.push (set0 w)).objs.size = s.heap.objs.size + 1 := Heap.size_push ..
  have hS : (s.heap.push (set0 w)).get? s.heap.objs.size = some (set0 w) := Heap.get?_push_size _ rfl
  have hval : ∀ (i : Nat) (v : Value), items[i]? = some v → ∃ p, ks[i]? = some p ∧ v = .ref p.1 := fun i v hv => by
    have q : items.toList[i]? = some v := by rw [Array.getElem?_toList]; exact hv
    rw [hit, List.getElem?_map] at q
    cases hq : ks[i]? with
    | none => rw [hq] at q; cases q
    | some p => rw [hq] at q; exact ⟨p, rfl, (Option.some.inj q).symm⟩
  have hneI : l ≠ (s.heap.push (set0 w)).objs.size := by rw [hz1]; exact Nat.ne_of_lt (Nat.lt_succ_of_lt hlS)
  have hSf : s.heap.objs.size ∉ [(s.heap.push (set0 w)).objs.size, l] := by
    rw [hz1]; simp only [List.mem_cons, List.not_mem_nil, or_false, not_or]
    exact ⟨Nat.ne_of_lt (Nat.lt_succ_self _), Nat.ne_of_gt hlS⟩
  have hh3 : A.in1.in1.in1.handled = none := by simp [hh]
  refine upd_from ((Walks.list hh3 _ l hneI items).toS) hSf hisz few hval hk (size_none _ (Nat.le_refl _)) (fun b hb => size_none _ (by
      rw [List.mem_singleton.mp hb, hz1]
      exact Nat.le_succ _)) hu items.size 0 _ (Nat.zero_add _) ⟨⟨_, Heap.get?_push_size _ rfl, rfl, rfl⟩, (hl1.push _)⟩
    ⟨fun b o e => Heap.get?_push_of_some _ (Heap.get?_push_of_some _ e), [], #[], 0, _, setTR_fresh (Heap.get?_push_of_some _ hS), Got.zero ks⟩ fun s' m hf => ?_
  obtain ⟨h', g2, d', tk', os'⟩ := s'
  have eg : g2 = s.gens := m.gens
  have ed : d' = s.drawn := m.drawn
  have eo : os' = s.os := m.os
  subst eg; subst ed; subst eo
  rw [hisz] at hf
  exact wpAny_pure (wpAny_pure (h h' tk' hf))
set_option maxHeartbeats 3200000 in
/-- set(l) -/
theorem call_setF {l : Addr} {items : Array Value} {ks : List (Addr × List Int)} {Q : Value → Shared → Prop} (hh : A.handled = none) (hl : s.heap.IsList l items) (hit : items.toList = ks.map fun p => Value.ref p.1) (hk : ∀ p ∈ ks, IsT P w s.heap p.2 p.1) (few : Few ks) (hu : A.units + 3 < cLine)
    (h : ∀ (h' : Heap) (tk : Nat), Half P w s.heap s.heap.objs.size ks ks.length h' → Q (.ref s.heap.objs.size) { s with heap := h', toks := tk }) :
    wpAny (model P w) A (call (.type "set") [.ref l]) Q E s := by
  obtain ⟨c, tl, hmro⟩ := F.called_set.mro
  have hmade := F.called_set.made
  have hsub := F.called_set.sub
  refine wpAny_call (codeAny_of_tree ?_)
  show wpAny _ _ (callAny (.type "set") _) _ _ _
  refine wpAny_pure ⟨Code.quiet_builtin _ (by decide +kernel), codeAny_builtin F.entry_type_call ?_⟩
  rw [Around.under_plain (weight_type_call_type "set" [.ref l] []) rfl]
  have h1 := F.called_set.notType
  have h2 := F.called_set.canCreate
  have hct := F.typeCall_set_1 (.ref l)
  repeat (any_goals (first | assumption | wp_step))
  refine codeAny_mono (code_set_led1 (.ref l) (E := E) (Q₁ := fun obj s₁ => obj = .ref s.heap.objs.size ∧ s₁ = { s with heap := s.heap.push (set0 w) }) ⟨rfl, rfl⟩) fun r s₁ hr => ?_
  match r, hr with
  | .error e, hr => exact hr
  | .ok (.ret obj), hr =>
    obtain ⟨rfl, rfl⟩ := hr
    have hT : Shared.TypeIs { s with heap := s.heap.push (set0 w) } (.ref s.heap.objs.size) "set" := ⟨_, Heap.get?_push_size _ rfl, rfl⟩
    have hli := F.called_set.init.lookup
    have hbi := F.called_set.init.bind (.ref s.heap.objs.size)
    repeat (any_goals (first | assumption | wp_step))
    refine codeAny_mono (codeAny_call_builtin (R := wants (fun r s₂ => r = .none ∧ ∃ h' tk, s₂ = { s with heap := h', toks := tk } ∧ Half P w s.heap s.heap.objs.size ks ks.length h') E) F.called_set.init.plain F.entry_set_init
      (check_set_init_1 hT (init_from hh hl hit hk few hu fun h' tk hf => ⟨rfl, h', tk, rfl, hf⟩))) fun r₂ s₂ hr₂ => ?_
    match r₂, hr₂ with
    | .error e, hr₂ => exact hr₂
    | .ok (.ret r), hr₂ =>
      obtain ⟨rfl, h', tk, rfl, hf⟩ := hr₂
      repeat (any_goals (first | assumption | wp_step))
      exact h _ _ hf
end
end PM

set_option maxHeartbeats 2000000
/-! PM: dicts of pairs as rules; sorted(dict of pairs), sorted(set(list of pairs)), sorted(tuple of whole numbers). -/
namespace PM
open PySem PySem.Spec PyProof.Rows L2
def tupI (k : List Int) : PV := .tup (k.map .int)
section
variable {K : PySem.W.Frag} {S : Wd}
theorem Rp.tupI {k : List Int} {v : V} (h : Rp K S (tupI k) v) : ∃ a, v = .ref a ∧ TupAt K S a (k.map V.int) := by
  unfold PM.tupI Rp at h
  obtain ⟨a, vs, e, t, r⟩ := h
  rw [Rps.ints.mp r] at t
  exact ⟨a, e, t⟩
theorem Rp.tupI' {k : List Int} {a : Addr} (h : TupAt K S a (k.map V.int)) : Rp K S (PM.tupI k) (.ref a) := by
  unfold PM.tupI Rp
  exact ⟨a, _, rfl, h, Rps.ints.mpr rfl⟩
theorem Rps.tupI : ∀ {ks : List (List Int)} {vs : List V}, Rps K S (ks.map PM.tupI) vs → ∃ L : List (Addr × List Int), vs = L.map (fun p => V.ref p.1) ∧ L.map (·.2) = ks ∧ ∀ p ∈ L, TupAt K S p.1 (p.2.map V.int)
  | [], vs, h => ⟨[], by unfold Rps at h; exact h, rfl, fun p hp => by cases hp⟩
  | k :: ks, vs, h => by
    rw [List.map_cons] at h
    unfold Rps at h
    obtain ⟨v, r, e, h1, h2⟩ := h
    obtain ⟨a, e1, t⟩ := h1.tupI
    obtain ⟨L, e2, e3, e4⟩ := Rps.tupI h2
    refine ⟨(a, k) :: L, by rw [e, e1, e2]; rfl, by rw [List.map_cons, e3], fun p hp => ?_⟩
    rcases List.mem_cons.mp hp with z | z
    · rw [z]; exact t
    · exact e4 p z
theorem Rps.tupI' : ∀ {L : List (Addr × List Int)}, (∀ p ∈ L, TupAt K S p.1 (p.2.map V.int)) → Rps K S ((L.map (·.2)).map PM.tupI) (L.map fun p => V.ref p.1)
  | [], _ => Rps.nil
  | p :: L, h => Rps.cons (Rp.tupI' (h p List.mem_cons_self)) (Rps.tupI' fun q hq => h q (List.mem_cons_of_mem _ hq))
end
/-! ### a dict of pairs -/
section
variable {X : Cx} {f : Fx} {c : List Ow} {e : Expr} {te : TEm} {pos : Pos}
theorem em_dnewP : PEm X c .fr (.Dict [] [] pos) (mC (.pdic [])) := ⟨pe_dnewP.weak fun σ H Q h p n => by
  obtain ⟨G, A, W, env, P, R, h, k⟩ := h
  exact k (.pdic []) (.ref p) _ (Grow.new R.src n) ⟨p, rfl, n, ⟨[], upd_same, rfl, fun q hq => by cases hq⟩⟩ h⟩
def addK (ks : List (List Int)) (k : List Int) : List (List Int) := if k ∈ ks then ks else ks ++ [k]
/-- d[k] = True for a dict of one's own -/
def sDPutT (i : Nat) (ti te : TEm) : TSm := fun M env => te env fun p => p = .bl true ∧ ∃ ks, env[i]? = some (some (.pdic ks)) ∧ ti env fun q => ∃ k, q = tupI k ∧ ks.length < sizeLine ∧ M.nx (env.set i (some (.pdic (addK ks k))))
theorem sm_dputT (i : Nat) {x : Str} {p1 p3 : Pos} {ei : Expr} {ti : TEm} (hu : X.A.units + 1 < cLine) (he : PEm X c .cl e te) (hk : PEm X c .cl ei ti) (hN : X.N[i]? = some x := by rfl) (hc : cO c i = .ow := by rfl) (hv : Vis X.env.scope x := by first | exact Or.inl rfl | exact Or.inr (Or.inl rfl) | exact Or.inr (Or.inr rfl)) (hd : (x == ("__debug__" : Str)) = false := by decide)
    (hcd : (x == ("__classdict__" : Str)) = false := by decide) (hs : swapsWith e (some (.Subscript (.Name x p1) ei p3)) pos.line X.env = pure false := by rfl) :
    PSm X f c c (.Assign [.Subscript (.Name x p1) ei p3] e pos) (sDPutT i ti te) := ⟨(ps_dputP hu (pe_var hN hv hd hcd) hk.run he.run hs).weak fun D σ H h => by
  obtain ⟨G, A, W, env, M, hg, R, h, k⟩ := h
  refine ⟨G, A, W, env, _, R, h, fun p v H1 g rv ⟨ep, ks, e0, h1⟩ => ?_⟩
  subst ep
  have R1 := R.grow g
  obtain ⟨a, hA⟩ := R1.Aset i _ (by rw [hc]; decide) e0
  obtain ⟨v0, hσ, hh⟩ := R1.slots i _ e0
  rw [hA] at hh
  obtain ⟨rfl, _⟩ := hh
  refine ⟨.ref a, hσ, G, A, W, env, _, R1, h1, fun q w H2 g2 rq ⟨key, hkq, hsz, h2⟩ => ?_⟩
  subst hkq
  have R2 := R1.grow g2
  obtain ⟨v2, _, hh2⟩ := R2.slots i _ e0
  rw [hA] at hh2
  obtain ⟨_, L, hH2, hl, r2⟩ := hh2
  obtain ⟨b, rfl, tb⟩ := (show Rp X.K _ (tupI key) w from rq).tupI
  have rv : v = .bl true := by have r := rv.c; unfold Rp at r; exact r
  refine ⟨a, L, b, key, rv, rfl, hH2, rfl, tb.sq, fun p hp => (r2 p hp).sq, by rw [← hl, List.length_map] at hsz; exact hsz, ?_⟩
  refine k.nx A W _ σ _ (R2.mut e0 hA hc ?_) h2
  have za : Zt G A W a := .inr (.inr ⟨i, hA⟩)
  have x : ∀ o, Ext ⟨Zt G A W, W, H2⟩ ⟨Zt G A W, W, upd H2 a o⟩ := fun o => ⟨fun b w hz e => ⟨hz, by show upd H2 a o b = some w; rw [upd_ne (fun z => hz (by rw [z]; exact za))]; exact e⟩, fun _ h => h⟩
  refine ⟨putP L key b, upd_same, by rw [putP_keys, hl]; rfl, fun p hp => ?_⟩
  have hp' : p ∈ L ∨ p = (b, key) := by
    unfold putP at hp
    split at hp
    · exact .inl hp
    · rcases List.mem_append.mp hp with z | z
      · exact .inl z
      · exact .inr (List.mem_singleton.mp z)
  rcases hp' with z | z
  · exact (r2 p z).ext (x _)
  · rw [z]; exact tb.ext (x _)⟩
end
/-! ### sorted -/
/-- d whole numbers in [0, B) each -/
def KOk (d : Nat) (B : Int) (ks : List (List Int)) : Prop := 1 ≤ d ∧ ∀ k ∈ ks, k.length = d ∧ TS.Bd B k
def oSortPD : POn := fun xs P => ∃ ks d B, xs = [.pdic ks] ∧ KOk d B ks ∧ ks.length < 64 ∧ ∀ ys : List (List Int), ys.Nodup → (∀ k, k ∈ ys ↔ k ∈ ks) → ys.Pairwise (fun k l => TS.code B k ≤ TS.code B l) → P (.lst (ys.map tupI))
theorem lift_sortPD {K : PySem.W.Frag} : LiftN K (rSortedPD K) oSortPD .fr := by
  rintro Z W H ps vs P Q S r ⟨ks, d, B, rfl, hk, h64, hp⟩ k
  obtain ⟨v, rfl, rv⟩ := r.one
  obtain ⟨a, L, rfl, _, e, el, r1⟩ := rv
  subst el
  rw [List.length_map] at h64
  refine ⟨a, L, d, B, rfl, e, fun p hp => (r1 p hp).sq, hk.1, fun p hp => hk.2 p.2 (List.mem_map_of_mem hp), h64, fun L' p pm nd pw n => ?_⟩
  have x : Ext ⟨Z, W, H⟩ ⟨fun b => Z b ∨ b = p, W, upd H p (.lst (L'.map fun q => V.ref q.1))⟩ := ⟨fun b o hz e => ⟨fun z => z.elim hz (ne_of_none e n), by show upd H p _ b = _; rw [upd_ne (ne_of_none e n)]; exact e⟩, fun _ h => h⟩
  refine k (.lst ((L'.map (·.2)).map tupI)) (.ref p) _ (Grow.new S.src n) ⟨p, rfl, n, ⟨_, upd_same, Rps.tupI' fun q hq => (r1 q (pm.mem_iff.mp hq)).ext x⟩⟩ (hp _ nd (fun k => ?_) (List.pairwise_map.mpr pw))
  rw [(pm.map (·.2)).mem_iff]
def FewK (ks : List (List Int)) : Prop := ∀ l : List (List Int), (∀ k ∈ l, k ∈ ks) → l.Nodup → l.length < 63
def rSetF (K : PySem.W.Frag) (P : Program) (w : World) : List V → Hp → VK → Prop := fun xs H Q => ∃ (l : Addr) (ks : List (Addr × List Int)), xs = [V.ref l] ∧ SqL K H l (ks.map fun p => V.ref p.1) ∧ (∀ p ∈ ks, SqT K H p.1 (p.2.map V.int)) ∧ Few ks ∧
  ∀ a L, H a = none → (∀ p ∈ L, p ∈ ks) → (∀ p ∈ ks, p.2 ∈ L.map (·.2)) → Q (.ref a) (upd H a (SetTO P w a L))
theorem cr_setF {X : Cx} (hc : X.calm = true) (hu : X.A.units + 64 < cLine) : CallR X (.type "set") (rSetF X.K X.prog X.w) := by
  intro pins s σ H xs us Q I r h
  obtain ⟨l, ks, rfl, hl, hk, hf, q⟩ := h
  rw [Vals.ref1 r]
  obtain ⟨its, rv, pl, hz⟩ := I.list hl
  have hn : H s.heap.objs.size = none := I.hok.fresh (Nat.le_refl _)
  refine call_setF (P := X.prog) (w := X.w) (ks := ks) (I.ok.hd hc) pl.isList (by simpa using refs_of_vals rv) (fun p hp => I.isT (hk p hp)) hf (by omega) fun h' tk hh => ?_
  obtain ⟨L, es, ep, t, R, g⟩ := hh.got
  refine ⟨.ref s.heap.objs.size, upd H s.heap.objs.size (SetTO X.prog X.w s.heap.objs.size L), I.laid (t' := tk) hh.old (Nat.le_refl _) (setTO_new R.t0), rfl, q _ L hn (fun p hp => ?_) fun p hp => ?_⟩
  · exact List.mem_of_mem_take (g.sub p hp)
  · exact g.all p (by rw [List.take_length]; exact hp)
def rSetSort (K : PySem.W.Frag) (P : Program) (w : World) : List V → Hp → VK → Prop := fun xs H Q => rSetF K P w xs H fun x H1 => rSortedT K P w [x] H1 Q
/-- sorted(set(xs)), xs a list of tuples of whole numbers -/
def oSortSet : POn := fun xs P => ∃ ks d B, xs = [.lst (ks.map tupI)] ∧ KOk d B ks ∧ FewK ks ∧ ∀ ys : List (List Int), ys.Nodup → (∀ k, k ∈ ys ↔ k ∈ ks) → ys.Pairwise (fun k l => TS.code B k ≤ TS.code B l) → P (.lst (ys.map tupI))
theorem lift_sortSet {K : PySem.W.Frag} {P0 : Program} {w0 : World} : LiftN K (rSetSort K P0 w0) oSortSet .fr := by
  rintro Z W H ps vs P Q S r ⟨ks, d, B, rfl, hk, hf, hp⟩ k
  obtain ⟨v, rfl, rv⟩ := r.one
  obtain ⟨l, ws, rfl, e, r1⟩ := rv.lst
  obtain ⟨L, rfl, el, r2⟩ := Rps.tupI r1
  subst el
  refine ⟨l, L, rfl, .inl (.inl e.2), fun p hp => (r2 p hp).sq, fun M hM nd => ?_, fun a L1 n s1 s2 => ?_⟩
  · have := hf (M.map (·.2)) (fun k hk => by obtain ⟨p, hp, rfl⟩ := List.mem_map.mp hk; exact List.mem_map_of_mem (hM p hp)) nd
    rwa [List.length_map] at this
  · have g1 : Grow W H (upd H a (SetTO P0 w0 a L1)) := Grow.new S.src n
    have x1 : Ext ⟨Z, W, H⟩ ⟨Z, W, upd H a (SetTO P0 w0 a L1)⟩ := g1.ext S.wz
    have r3 : ∀ p ∈ L1, TupAt K ⟨Z, W, upd H a (SetTO P0 w0 a L1)⟩ p.1 (p.2.map V.int) := fun p hp => (r2 p (s1 p hp)).ext x1
    refine ⟨a, L1, d, B, rfl, upd_same, fun p hp => (r3 p hp).sq, hk.1, fun p hp => hk.2 p.2 (List.mem_map_of_mem (s1 p hp)), fun L' p pm nd h64 pw n2 => ?_⟩
    have S2 : ∀ q ∈ W, SA (upd H a (SetTO P0 w0 a L1)) q := g1.src
    have x : Ext ⟨Z, W, upd H a (SetTO P0 w0 a L1)⟩ ⟨fun b => Z b ∨ b = p, W, upd (upd H a (SetTO P0 w0 a L1)) p (.lst (L'.map fun q => V.ref q.1))⟩ := ⟨fun b o hz e => ⟨fun z => z.elim hz (ne_of_none e n2), by show upd _ p _ b = _; rw [upd_ne (ne_of_none e n2)]; exact e⟩, fun _ h => h⟩
    refine k (.lst ((L'.map (·.2)).map tupI)) (.ref p) _ (g1.trans (Grow.new S2 n2)) ⟨p, rfl, g1.free n2, ⟨_, upd_same, Rps.tupI' fun q hq => (r3 q (pm.mem_iff.mp hq)).ext x⟩⟩ (hp _ nd (fun k => ?_) (List.pairwise_map.mpr pw))
    rw [(pm.map (·.2)).mem_iff]
    constructor
    · intro h
      obtain ⟨p, hp, rfl⟩ := List.mem_map.mp h
      exact List.mem_map_of_mem (s1 p hp)
    · intro h
      obtain ⟨p, hp, rfl⟩ := List.mem_map.mp h
      exact s2 p hp
/-- f(T(e)), f a built-in function, T a built-in class -/
theorem em_callBT {X : Cx} {c : List Ow} {md : Md} {id T : String} {x y : Str} {p q pos pos2 : Pos} {r r2 : List V → Hp → VK → Prop} {o : POn} {e : Expr} {es : List Expr} {t : TAm} (hc : CallR X (.builtin id) r) (hc2 : CallR X (.type T) r2) (L : LiftN X.K (fun xs H Q => r2 xs H fun v H1 => r [v] H1 Q) o md)
    (hg : Gl X x) (hm : X.mg x = none) (hv : bootBuiltins x = some (.builtin id)) (hg2 : Gl X y) (hm2 : X.mg y = none) (hv2 : bootBuiltins y = some (.type T)) (ha : PAm X c .ow (e :: es) t) (hn : x ≠ "__name__" := by decide) (hdb : (x == ("__debug__" : Str)) = false := by decide) (hn2 : y ≠ "__name__" := by decide) (hdb2 : (y == ("__debug__" : Str)) = false := by decide)
    (he : starEach [.Call (.Name y q) (e :: es) [] pos2] X.env = (false, eval (.Call (.Name y q) (e :: es) [] pos2) X.env) :: starEach [] X.env := by rfl) (hpl : (backTo pos (starEach [] X.env)).any (·.1) = false := by rfl)
    (he2 : starEach (e :: es) X.env = (false, eval e X.env) :: starEach es X.env := by rfl) (hpl2 : (backTo pos2 (starEach es X.env)).any (·.1) = false := by rfl) :
    PEm X c md (.Call (.Name x p) [.Call (.Name y q) (e :: es) [] pos2] [] pos) (mB o t) :=
  ⟨(pe_callB hc hg hm hv (pa_cons (pe_callTy hc2 hg2 hm2 hv2 ha.run hn2 hdb2 he2 hpl2) pa_nil he) hn hdb he hpl).weak fun σ H Q h => tmN L σ H Q h⟩
/-- sorted(xs), xs a tuple of fewer than 64 whole numbers -/
def rSortedTI (K : PySem.W.Frag) : List V → Hp → VK → Prop := fun vs H Q => ∃ (a : Addr) (ns : List Int), vs = [V.ref a] ∧ SqT K H a (ns.map V.int) ∧ ns.length < 64 ∧
  ∀ (ys : List Int) (p : Addr), ys.Perm ns → ys.Pairwise (· ≤ ·) → H p = none → Q (.ref p) (upd H p (.lst (ys.map V.int)))
theorem cr_sortedTI {X : Cx} : CallR X (.builtin "sorted") (rSortedTI X.K) := by
  intro pins s σ H vs us Q I r h
  obtain ⟨a, ns, rfl, hs, h64, q⟩ := h
  obtain ⟨its, rv, ⟨o, ho, hcl, n, hd⟩, hz⟩ := I.tuple hs
  rw [Vals.ref1 r]
  have hS : IntsAre its ns := rv.ints
  have hal : its.length = ns.length := by rw [← rv.length, List.length_map]
  refine Calls.call_function_entry kind_sorted plain_sorted entry_sorted (args_sorted1 _) ?_
  unfold Builtin.«sorted»
  refine wpAny_bind (m := checkCount "sorted" 1 1 _) (wpAny_pure ?_)
  refine wpAny_bind (wpAny_collect_seq (A := X.A.in1) a (.inr rfl) ho hcl hd (hsz := by rw [List.size_toArray, hal, sizeLine_eq]; omega) fun h' hk2 => ?_)
  rw [show its.toArray.toList = its from rfl]
  have I1 : Inv X pins σ H { s with heap := h', toks := s.toks } := I.kept hk2
  refine wpAny_bind (wpAny_newList ?_ (by rw [hal, sizeLine_eq]; omega))
  have hoL : (h'.push (seqObj "list" its.toArray 0)).get? h'.objs.size = some (seqObj "list" its.toArray 0) := Heap.get?_push_size _ rfl
  show wpAny _ _ _ _ _ { s with heap := h'.push (seqObj "list" its.toArray 0) }
  refine wpAny_bind (wpAny_holding (wpAny_call_entry slot_list_sort ⟨_, hoL, rfl⟩ entry_list_sort
    (list_sort_tree (s := { s with heap := h'.push (seqObj "list" its.toArray 0) }) hoL hS (by rw [hal]; exact h64) fun out ys g1 g2 g3 => ⟨_, rfl, ?_⟩) (args_list_sort _)))
  obtain ⟨e', he'⟩ := sortedHeap_at (vs := its) (out := out) hoL
  have hlen : (ys.map V.int).length ≤ sizeLine := by
    rw [List.length_map, g2.length_eq]
    exact Nat.le_trans (Nat.le_of_lt h64) (by decide)
  refine wpAny_pure ⟨_, rfl, .ref h'.objs.size, upd H h'.objs.size (.lst (ys.map V.int)), I1.laid (t' := s.toks) (fun b u e => ?_) (Nat.le_refl _)
    (show ObjOk X.prog X.w _ _ _ (.lst (ys.map V.int)) from ⟨hlen, out.toList, e', vals_of_ints g1, by rw [Array.toArray_toList]; exact he'⟩), rfl, q ys _ g2 g3 (I1.hok.fresh (Nat.le_refl _))⟩
  have hb : b < h'.objs.size := Heap.lt_size e
  rw [sortedHeap_old (Nat.ne_of_lt hb) (by rw [size_push']; exact Nat.lt_succ_of_lt hb)]
  exact Heap.get?_push_of_some _ e
/-- sorted(xs), xs a list or a tuple of whole numbers -/
def oSortTI : POn := fun xs P => ∃ ns : List Int, xs = [.tup (ns.map .int)] ∧ ns.length < 64 ∧ P (.lst ((isort ns).map .int))
theorem lift_sortTI {K : PySem.W.Frag} : LiftN K (rSortedTI K) oSortTI .fr := by
  rintro Z W H ps vs P Q S r ⟨ns, rfl, h64, hp⟩ k
  obtain ⟨v, rfl, rv⟩ := r.one
  obtain ⟨a, ws, rfl, e, r1⟩ := rv.tup
  have ew := Rps.ints.mp r1
  subst ew
  refine ⟨a, ns, rfl, e.sq, h64, fun ys p hy hs n => ?_⟩
  rw [isort_eq hy hs]
  exact k _ _ _ (Grow.new S.src n) ⟨p, rfl, n, OwnAt.newLst n (Rps.ints.mpr rfl)⟩ hp
theorem hu64_of {A : Around} {k : Nat} (hr : Room k A) : A.units + 64 < cLine := by have := hu65_of hr; omega
end PM

set_option maxHeartbeats 4000000
/-! PM: calls by keywords alone; isinstance of an own class; max of four; sorted(set(tuple of whole numbers)); x[::0 - 1]. -/
namespace L2
open PySem PySem.Spec PyProof.Rows
theorem PK.weak {X : Cx} {e : List Keyword} {t t' : TA} (h : PK X e t) (k : ∀ σ H Q, t' σ H Q → t σ H Q) : PK X e t' := ⟨fun pos pins s σ H Q I x => h.run pos pins s σ H Q I (k σ H Q x)⟩
section
variable {X : Cx}
theorem pe_revB {e : Expr} {te : TE} {k k2 : Nat} {p0 p1 p2 p3 pos : Pos} (he : PE X e te) : PE X (.Subscript e (.Slice none none (some (.BinOp (.Constant (.int 0) k p0) .Sub (.Constant (.int 1) k2 p1) p2)) p3) pos) (tRevA X.K te) := by
  refine ⟨fun pins s σ H Q I h => ?_⟩
  refine Subscript_ (thn (he.run pins s σ H _ I h) fun v s1 ⟨x, H1, I1, r1, q1⟩ => ?_)
  obtain ⟨a, xs, ex, q1⟩ := q1
  subst ex
  cases r1
  have hst : PO X (some (.BinOp (.Constant (.int 0) k p0) .Sub (.Constant (.int 1) k2 p1) p2)) (tPart (tSub (tC (.int 0)) (tC (.int 1)))) := po_some (pe_sub pe_int pe_int)
  refine wpAny_Slice (thn (po_none.run pins s1 σ H1 (fun o H2 => o = none ∧ H2 = H1) I1 ⟨rfl, rfl⟩) fun vl s2 ⟨l, H2, I2, pl, el, e2⟩ => ?_)
  subst el e2
  refine thn (po_none.run pins s2 σ H2 (fun o H3 => o = none ∧ H3 = H2) I2 ⟨rfl, rfl⟩) fun vu s3 ⟨u, H3, I3, pu, eu, e3⟩ => ?_
  subst eu e3
  refine thn (hst.run pins s3 σ H3 (fun o H4 => o = some (-1) ∧ H4 = H3) I3 ⟨0, 1, rfl, rfl, -1, rfl, rfl, rfl⟩) fun vs s4 ⟨o, H4, I4, ps, eo, e4⟩ => ?_
  subst eo e4
  have I5 : Inv X pins σ H4 { s4 with heap := s4.heap.push { cls := .type "slice", data := .fields #[vl, vu, vs] } } := I4.kept (t' := s4.toks) fun b ob q => Heap.get?_push_of_some _ q
  show wpAny (model X.prog X.w) X.A (subscriptTail e (.Slice none none (some (.BinOp (.Constant (.int 0) k p0) .Sub (.Constant (.int 1) k2 p1) p2)) p3) (.ref a) (.ref s4.heap.objs.size)) (EP X pins σ Q) X.xe { s4 with heap := s4.heap.push { cls := .type "slice", data := .fields #[vl, vu, vs] } }
  rcases q1 with ⟨hx, q⟩ | ⟨hx, q⟩
  · obtain ⟨its, r, ht, hz⟩ := I5.list hx
    have hlen := r.length
    refine tail_any (ops := [.ref a, .ref s4.heap.objs.size]) ht.isList.typeIs (PySem.slot_list_getitem.lookup) ?_ (by with_unfolding_all rfl)
    refine wpAny_getItem_list_slice ht.isList (Heap.IsSliceOf.new _ vl vu vs) pl pu ps (by decide) ?_ (by rw [List.size_toArray]; omega)
    rw [PySem.W.krv_pick]
    refine ⟨.ref _, _, I5.laid (t' := s4.toks) (o := .lst xs.reverse) (fun b ob q => Heap.get?_push_of_some _ q) (Nat.le_refl _) ?_, rfl, q _ (I5.hok.fresh (Nat.le_refl _))⟩
    exact ⟨by rw [List.length_reverse]; exact hz, _, 0, r.reverse, Heap.get?_push_size _ rfl⟩
  · obtain ⟨its, r, ht, hz⟩ := I5.tuple hx
    have hlen := r.length
    refine tail_any (ops := [.ref a, .ref s4.heap.objs.size]) ht.typeIs PyProof.Rows.slot_tuple_getitem.lookup ?_ (by with_unfolding_all rfl)
    have hsl : ({ s4 with heap := s4.heap.push { cls := .type "slice", data := .fields #[vl, vu, vs] } } : Shared).heap.IsSliceOf s4.heap.objs.size vl vu vs := Heap.IsSliceOf.new _ vl vu vs
    cases pl
    cases pu
    cases ps
    refine HT.getItem_tuple_rev ht hsl ?_ (by rw [List.size_toArray]; omega)
    refine ⟨.ref _, _, I5.laid (t' := s4.toks) (o := .tup xs.reverse) (fun b ob q => Heap.get?_push_of_some _ q) (Nat.le_refl _) ?_, rfl, q _ (I5.hok.fresh (Nat.le_refl _))⟩
    exact ⟨by rw [List.length_reverse]; exact hz, _, r.reverse, IsTup.new _ _⟩
end
section
variable {prog : Program} {w : World} {A : Around} {E : Value → Shared → Prop} {s : Shared}
theorem args_max4 (a b c d : Value) : argsOk "max" ⟨[a, b, c, d], []⟩ := by unfold argsOk; kernel_rfl
theorem call_max_four {a b c d : Value} {Q : Value → Shared → Prop}
    (h : wpAny (model prog w) A.in1 (pyIter (.ref s.heap.objs.size)) (fun it s₂ => ∃ I fp wr n P St bt, it = .ref I ∧ Walks prog w A.in1 I fp wr n P St ∧ St 0 s₂.heap ∧ (∀ b ∈ fp, b < s₂.heap.objs.size) ∧ 0 < n ∧ CmpOf prog w A.in1 .Gt P bt ∧
      ∀ v h' tk, P (argBest bt (n - 1)) v → (∀ b o, b ∉ wr → s₂.heap.get? b = some o → h'.get? b = some o) → Q v { s₂ with heap := h', toks := tk }) E
      { s with heap := s.heap.push { cls := .type "tuple", data := .seq #[a, b, c, d] } }) :
    wpAny (model prog w) A (call (.builtin "max") [a, b, c, d]) Q E s := by
  have hname : (toString "max" ++ toString ".loop" : String) = "max.loop" := by decide
  refine call_function_tree F.kind_max F.plain_max F.entry_max (args_max4 _ _ _ _) ?_
  show wpAny _ A.in1 (Builtin.Builtins.bindParams "max" ["key", "default"] 0 ⟨[], []⟩ >>= _) _ _ s
  refine wpAny_bind (wpAny_of_eq (show Builtin.Builtins.bindParams "max" ["key", "default"] 0 ⟨[], []⟩ = pure [none, none] from rfl) ?_)
  show wpAny _ A.in1 (newTuple [a, b, c, d] >>= _) _ _ s
  refine wpAny_bind (wpAny_newObj_type ?_)
  refine wpAny_bind (wpAny_mono h (fun it s₂ h₂ => ?_) fun _ _ e => e)
  obtain ⟨I, fp, wr, n, P, St, bt, rfl, W, hst, hfp, hn, hcmp, hQ⟩ := h₂
  refine wpAny_bind (wpAny_newObj_type ?_)
  have hSf : s₂.heap.objs.size ∉ fp := fun hm => Nat.lt_irrefl _ (hfp _ hm)
  rw [hname]
  refine wpAny_pure ⟨plainId_quiet F.plain_max_loop _, codeAny_max_loop_first W bt hcmp s₂.heap.objs.size hSf hn (W.frame _ _ _ hst fun b _ o e => Heap.get?_push_of_some _ e) (Heap.get?_push_size _ rfl) fun v h' tk hP hk => ?_⟩
  exact hQ v h' tk hP fun b o hbw e => hk b o hbw (Nat.ne_of_lt (Heap.lt_size e)) (Heap.get?_push_of_some _ e)
theorem max_four_ints {a b c d : Int} {t u x y : Tok} {Q : Value → Shared → Prop} (hh : A.handled = none)
    (h : ∀ h' tk (m : Int) z, (∀ d o, s.heap.get? d = some o → h'.get? d = some o) → (m = a ∨ m = b ∨ m = c ∨ m = d) → a ≤ m → b ≤ m → c ≤ m → d ≤ m → Q (.int m z) { s with heap := h', toks := tk }) :
    wpAny (model prog w) A (call (.builtin "max") [.int a t, .int b u, .int c x, .int d y]) Q E s := by
  have hT : (s.heap.push { cls := .type "tuple", data := .seq #[.int a t, .int b u, .int c x, .int d y] }).IsTuple s.heap.objs.size (intItems #[(a, t), (b, u), (c, x), (d, y)]) := ⟨_, Heap.get?_push_size _ rfl, rfl, 0, by simp [intItems]⟩
  refine call_max_four (wpAny_pyIter_tuple hT ?_)
  have hsz : (s.heap.push { cls := .type "tuple", data := .seq #[.int a t, .int b u, .int c x, .int d y] }).objs.size = s.heap.objs.size + 1 := Heap.size_push ..
  refine ⟨_, [_, s.heap.objs.size], [_], _, _, _, _, rfl, Walks.tuple (A := A.in1) hh _ s.heap.objs.size (by rw [hsz]; exact Nat.ne_of_lt (Nat.lt_succ_self _)) (intItems #[(a, t), (b, u), (c, x), (d, y)]),
    ⟨⟨_, Heap.get?_push_size _ rfl, rfl, rfl⟩, hT.push _⟩, fun d hd => ?_, by simp [intItems], CmpOf.ints_gt (numAt #[(a, t), (b, u), (c, x), (d, y)]) (fun _ _ => intItems_at), fun v h' tk hP hk => ?_⟩
  · show d < ((s.heap.push _).push _).objs.size
    rw [Heap.size_push, hsz]
    rcases List.mem_cons.mp hd with rfl | hd
    · rw [hsz]; exact Nat.lt_succ_self _
    · rcases List.mem_cons.mp hd with rfl | hd
      · exact Nat.lt_succ_of_lt (Nat.lt_succ_self _)
      · cases hd
  · have hold : ∀ d o, s.heap.get? d = some o → h'.get? d = some o := fun d o e => by
      refine hk d o (fun hm => ?_) (Heap.get?_push_of_some _ (Heap.get?_push_of_some _ e))
      rcases List.mem_cons.mp hm with e1 | hm
      · have := Heap.lt_size e; rw [e1, hsz] at this; exact Nat.lt_irrefl _ (Nat.lt_of_succ_lt this)
      · cases hm
    obtain ⟨z, rfl⟩ := intItems_at hP
    obtain ⟨h1, h2⟩ := argBest_gt (numAt #[(a, t), (b, u), (c, x), (d, y)]) 3
    have hsz2 : (intItems #[(a, t), (b, u), (c, x), (d, y)]).size - 1 = 3 := by simp [intItems]
    rw [hsz2]
    generalize hj : argBest (fun i j => decide (numAt #[(a, t), (b, u), (c, x), (d, y)] i > numAt #[(a, t), (b, u), (c, x), (d, y)] j)) 3 = j at h1 h2
    have g0 := h2 0 (by omega)
    have g1 := h2 1 (by omega)
    have g2 := h2 2 (by omega)
    have g3 := h2 3 (by omega)
    refine h h' tk _ z hold ?_ g0 g1 g2 g3
    match j, h1 with
    | 0, _ => exact .inl rfl
    | 1, _ => exact .inr (.inl rfl)
    | 2, _ => exact .inr (.inr (.inl rfl))
    | 3, _ => exact .inr (.inr (.inr rfl))
end
def rMax4 : List V → Hp → VK → Prop := fun xs H Q => ∃ i j k l : Int, xs = [.int i, .int j, .int k, .int l] ∧ ∀ m, (m = i ∨ m = j ∨ m = k ∨ m = l) → i ≤ m → j ≤ m → k ≤ m → l ≤ m → Q (.int m) H
theorem call_max4 {X : Cx} (hc : X.calm = true) : CallR X (.builtin "max") rMax4 := by
  intro pins s σ H xs us Q I r h
  obtain ⟨i, j, k, l, rfl, q⟩ := h
  cases r with | cons r1 r => cases r with | cons r2 r => cases r with | cons r3 r => cases r with | cons r4 r =>
  cases r
  obtain ⟨t1, rfl⟩ := r1
  obtain ⟨t2, rfl⟩ := r2
  obtain ⟨t3, rfl⟩ := r3
  obtain ⟨t4, rfl⟩ := r4
  exact max_four_ints (I.ok.hd hc) fun h' tk m z hk e1 e2 e3 e4 e5 => ⟨.int m, H, I.kept hk, ⟨z, rfl⟩, q m e1 e2 e3 e4 e5⟩
/-- set(t), t a tuple of whole numbers -/
def rSetTI (K : PySem.W.Frag) (w : World) : List V → Hp → VK → Prop := fun xs H Q => ∃ (a : Addr) (ns : List Int), xs = [V.ref a] ∧ SqT K H a (ns.map V.int) ∧ ns.length ≤ 1000 ∧ ∀ p c, H p = none → c ≤ ns.length → Q (.ref p) (upd H p (SetO w p (fun k => decide (k ∈ ns)) c))
theorem cr_setTI {X : Cx} (hc : X.calm = true) : CallR X (.type "set") (rSetTI X.K X.w) := by
  intro pins s σ H xs us Q I r h
  obtain ⟨a, ns, rfl, hs, hl, q⟩ := h
  rw [Vals.ref1 r]
  obtain ⟨its, rv, pt, hz⟩ := I.tuple hs
  have hi : IntsAre its.toArray.toList ns := ints_of_vals rv
  refine call_set_tupI ns (I.ok.hd hc) (show s.heap.IsTuple a its.toArray from pt) hi (by unfold scanBound; omega) fun h' tk c R1 hcn k => ?_
  exact ⟨.ref s.heap.objs.size, upd H s.heap.objs.size (SetO X.w s.heap.objs.size (fun k => decide (k ∈ ns)) c), I.laid (t' := tk) k (Nat.le_refl _) (setO_new R1), rfl, q _ c (I.hok.fresh (Nat.le_refl _)) hcn⟩
end L2
namespace PM
open PySem PySem.Spec PyProof.Rows L2
section
variable {X : Cx} {c : List Ow} {md : Md}
theorem em_revB {k k2 : Nat} {p0 p1 p3 p4 pos : Pos} {e : Expr} {te : TEm} (he : PEm X c .ow e te) : PEm X c .cl (.Subscript e (.Slice none none (some (.BinOp (.Constant (.int 0) k p0) .Sub (.Constant (.int 1) k2 p1) p4)) p3) pos) (mOp1 oRev te) := ⟨(pe_revB he.run).weak fun σ H Q h => by
  obtain ⟨G, A, W, env, P, R, h, kk⟩ := h
  refine ⟨G, A, W, env, _, R, h, fun px vx H1 g1 rx h1 => ?_⟩
  have R1 := R.grow g1
  have rx3 := rx.o
  cases px with
  | lst ps =>
    have h3' : P (.lst ps.reverse) := h1
    obtain ⟨a, vs, rfl, e, r⟩ := RpO.lst rx3
    exact ⟨a, vs, rfl, .inl ⟨.inl (.inl e.2), fun p n => kk _ _ _ (g1.trans (Grow.new R1.src n)) (VK1.ofRp (OwnAt.cl (R1.nz n) (OwnAt.newLst n r.reverse))) h3'⟩⟩
  | tup ps =>
    have h3' : P (.tup ps.reverse) := h1
    obtain ⟨a, vs, rfl, e, r⟩ := RpO.tup rx3
    exact ⟨a, vs, rfl, .inr ⟨e.sq, fun p n => kk _ _ _ (g1.trans (Grow.new R1.src n)) (VK1.ofRp (Rp.newTup (R1.nz n) n R1.src R.sz r.reverse)) h3'⟩⟩
  | _ => exact h1.elim⟩
/-! ### keywords -/
structure PKm (X : Cx) (c : List Ow) (md : Md) (kws : List Keyword) (t : TAm) : Prop where
  run : PK X kws (tmA X.K c md t)
theorem km_nil : PKm X c md [] mNil := ⟨pk_nil.weak fun σ H Q h => by
  obtain ⟨G, A, W, env, P, R, h, k⟩ := h
  exact k [] [] H (Grow.refl R.src) .nil h⟩
theorem km_cons {e : Expr} {kws : List Keyword} {te : TEm} {t : TAm} {nm : Option Str} {kpos : Pos} (ha : PEm X c .cl e te) (hr : PKm X c .cl kws t) : PKm X c .cl (⟨nm, e, kpos⟩ :: kws) (mCons te t) := ⟨(pk_cons ha.run hr.run).weak fun σ H Q h => by
  obtain ⟨G, A, W, env, P, R, h, k⟩ := h
  refine ⟨G, A, W, env, _, R, h, fun px vx H1 g1 rx h1 => ⟨G, A, W, env, _, R.grow g1, h1, fun ps vs H2 g2 rs h2 => ?_⟩⟩
  exact k (px :: ps) (vx :: vs) H2 (g1.trans g2) (.cons (Rp.ext (g2.ext R.sz) rx) rs) h2⟩
/-- a call by keywords, these in the parameters' order turned round -/
def mCallK (n : Nat) (spec : Spec) (t : TAm) : TEm := fun env P => t env fun ps => ps.length = n ∧ spec ps.reverse P
@[simp] theorem s_mCallK {n : Nat} {spec : Spec} {t : TAm} {env : Env} {P : PV → Prop} : mCallK n spec t env P ↔ t env fun ps => ps.length = n ∧ spec ps.reverse P := .rfl
theorem em_callK {k n : Nat} {fa : Addr} {fd : FuncData} {pns ks : List Str} {spec : Spec} {rm : Md} {x : Str} {p pos : Pos} {kw : Keyword} {kws : List Keyword} {t : TAm} (F : FnOk X.prog X.w X.K X.mg X.base CX0 k fa fd pns (spM X.K rm spec)) (hr : Room k X.A) (hm : X.mg x = some (.ref fa)) (hk : PySem.W.keepIn X.K (.ref fa) = true)
    (hb : KBn X.K fd pns 0 ks (fun _ ws => ws.reverse) (fun _ zs => zs.reverse)) (hkw : PKm X c .cl (kw :: kws) t) (hn : ks.length = n := by rfl) (hrm : rm ≠ .ow := by decide) (hg : Gl X x := by rfl) (hdb : (x == ("__debug__" : Str)) = false := by decide)
    (hall : (backToKw pos (keywordEach (kw :: kws) X.env)).all (·.1.isSome) = true := by rfl) (hks : (backToKw pos (keywordEach (kw :: kws) X.env)).filterMap (·.1) = ks := by rfl)
    (hpl : ((backTo pos (starEach [] X.env)).any (·.1) || (backToKw pos (keywordEach (kw :: kws) X.env)).any (·.1.isNone)) = false := by rfl) :
    PEm X c rm (.Call (.Name x p) [] (kw :: kws) pos) (mCallK n spec t) := by
  subst hn
  refine ⟨⟨fun pins s σ H Q I h => ?_⟩⟩
  obtain ⟨G, A, W, env, P, R, h, kk⟩ := h
  have hA : tmA X.K c .cl t σ H fun vs H1 => vs.length = ks.length ∧ spM X.K rm spec vs.reverse H1 Q E0 := by
    refine ⟨G, A, W, env, _, R, h, fun ps vs H1 g1 rs ⟨hn, h1⟩ => ?_⟩
    have R1 := R.grow g1
    have l1 : ∀ b, (Zt G A W b ∨ inW W b) → Zt G A W b := fun b z => z.elim id Zt.w
    have rr : Rps X.K ⟨Zt G A W, W, H1⟩ ps vs := rs.rps
    refine ⟨by rw [← rr.len]; exact hn, Zt G A W, W, ps.reverse, P, R1.dz, R1.src, Rps.ext (ext_less l1) rr.reverse, h1, fun p v H' g r hp => kk p v H' (g1.trans g) ?_ hp⟩
    exact (r.less hrm fun b z => .inl z).back g1
  refine wpAny_Call_Name_kw (ld_glob I hg hm ?_ hdb)
  refine PySem.W.callWith_KW0 (h₀ := X.base) I.ok.mod.kin hk hall (thn (hkw.run.run pos pins s σ H _ I hA) fun ws s1 ⟨zs, H1, I1, rz, l2, q2⟩ => ⟨I1.kIn, ?_⟩) hpl
  rw [hks]
  exact run_fnN F hr hb pass0 I1 .nil rz rfl l2 q2
end
end PM

set_option maxHeartbeats 4000000
/-! PM: isinstance of an own class; sorted(set(tuple of whole numbers)); max of four; binding by keywords. -/
namespace PM
open PySem PySem.Spec PyProof.Rows L2
section
variable {K : PySem.W.Frag} {x qual : Str} {params : Arguments} {body : List Stmt} {scope : Scope} {f : Addr} {fd : FuncData} {ps : List Str}
theorem bindsK (F : FunD K x qual params body scope [] [] f fd) (ks : List Str)
    (h : ∀ (kV doc pm : Value) (an : Option Addr) (cdv ct : Value) (ws : List Value), ws.length = ks.length → bindArgs (PySem.W.fnOf x qual params body scope .none kV doc pm an cdv ct) ⟨[], ks.zip ws⟩ = pure (ps.zip ws.reverse)) : KBn K fd ps 0 ks (fun _ ws => ws.reverse) (fun _ zs => zs.reverse) := by
  obtain ⟨oc, od, dV, kV, doc, pm, an, cdv, ct, osl, rfl, lk, hcd, hD, hK⟩ := F.ex
  rcases hD with ⟨_, rfl⟩ | ⟨e, _⟩
  · refine ⟨fun s us ws X l1 l2 => ?_, fun r1 r2 => Vals.reverse r2⟩
    obtain rfl := List.length_eq_zero_iff.mp l1
    exact .of_eq (h kV doc pm an cdv ct ws l2)
  · exact absurd rfl e
end
/-! ### sorted(set(t)) -/
def oSortSetI : POn := fun xs P => ∃ ns : List Int, xs = [.tup (ns.map .int)] ∧ ns.length < 64 ∧ ∀ ys : List Int, ys.Pairwise (· < ·) → (∀ k, k ∈ ys ↔ k ∈ ns) → P (.lst (ys.map .int))
theorem lift_sortSetI {K : PySem.W.Frag} {w : World} : LiftN K (fun xs H Q => rSetTI K w xs H fun v H1 => rSortedSet w [v] H1 Q) oSortSetI .fr := by
  rintro Z W H ps vs P Q S r ⟨ns, rfl, h64, hp⟩ k
  obtain ⟨v, rfl, rv⟩ := r.one
  obtain ⟨a, ws, rfl, e, r1⟩ := rv.tup
  have ew := Rps.ints.mp r1
  subst ew
  refine ⟨a, ns, rfl, e.sq, by omega, fun p c n hc => ?_⟩
  have g1 : Grow W H (upd H p (SetO w p (fun k => decide (k ∈ ns)) c)) := Grow.new S.src n
  refine ⟨p, _, c, rfl, upd_same, by omega, fun ys q hy hm hl n2 => ?_⟩
  exact k _ _ _ (g1.trans (Grow.new g1.src n2)) ⟨q, rfl, g1.free n2, OwnAt.newLst n2 (Rps.ints.mpr rfl)⟩ (hp ys hy fun k => (hm k).trans decide_eq_true_iff)
@[simp] theorem s_oSortSetI {ns : List Int} {P : PV → Prop} : oSortSetI [.tup (ns.map .int)] P ↔ ns.length < 64 ∧ ∀ ys : List Int, ys.Pairwise (· < ·) → (∀ k, k ∈ ys ↔ k ∈ ns) → P (.lst (ys.map .int)) := ⟨fun ⟨ms, e, h⟩ => by
  have e1 : ns = ms := by
    injection e with e _
    injection e with e
    exact (List.map_inj_right fun a b h => by injection h).mp e
  subst e1
  exact h, fun h => ⟨ns, rfl, h⟩⟩
/-! ### max of four -/
def oMax4 : POn := fun xs P => ∃ i j k l : Int, xs = [.int i, .int j, .int k, .int l] ∧ P (.int (max (max (max i j) k) l))
theorem lift_max4 {K : PySem.W.Frag} : LiftN K rMax4 oMax4 .cl := by
  rintro Z W H ps vs P Q S r ⟨i, j, k, l, rfl, hp⟩ kk
  cases r with | cons r1 r => cases r with | cons r2 r => cases r with | cons r3 r => cases r with | cons r4 r =>
  cases r
  rw [r1.int, r2.int, r3.int, r4.int]
  refine ⟨i, j, k, l, rfl, fun m h1 h2 h3 h4 h5 => ?_⟩
  have e : m = max (max (max i j) k) l := by omega
  subst e
  exact S.fin kk Rp.int' hp
@[simp] theorem s_oMax4 {i j k l : Int} {P : PV → Prop} : oMax4 [.int i, .int j, .int k, .int l] P ↔ P (.int (max (max (max i j) k) l)) := ⟨fun ⟨_, _, _, _, e, h⟩ => by cases e; exact h, fun h => ⟨i, j, k, l, rfl, h⟩⟩
/-! ### isinstance of an own class -/
def tys : List String := ["NoneType", "bool", "int", "str", "tuple", "list", "dict"]
structure ClsOk (K : PySem.W.Frag) (Cs : List Addr) : Prop where
  ins : ∀ C ∈ Cs, C8.InsC K C
  ne : ∀ C ∈ Cs, ∀ D ∈ Cs, C ≠ D → PySem.W.kitOne K (.ref C) (.ref D) = some false
  ty : ∀ D ∈ Cs, ∀ T ∈ tys, PySem.W.kitOne K (.type T) (.ref D) = some false
def isC (Cs : List Addr) (C : Addr) (x : PV) : Option Bool := match x with
  | .obj D _ _ _ => if D ∈ Cs then some (decide (D = C)) else none
  | x => (pty x).map fun _ => false
def oIsC (Cs : List Addr) (C : Addr) : PO1 := fun x P => ∃ b, isC Cs C x = some b ∧ P (.bl b)
theorem pty_tys {p : PV} {U : String} (h : pty p = some U) : U ∈ tys := by
  cases p <;> simp [pty] at h <;> subst h <;> simp [tys]
theorem em_isC {Cs : List Addr} {C : Addr} {X : Cx} {c : List Ow} {a : Expr} {ta : TEm} {p p2 pos : Pos} {nm : Str} (ok : ClsOk X.K Cs) (hC : C ∈ Cs) (ha : PEm X c .ow a ta) (hg : Gl X "isinstance") (hm : X.mg "isinstance" = none) (hgC : Gl X nm) (hmC : X.mg nm = some (.ref C))
    (hd : (nm == ("__debug__" : Str)) = false := by decide)
    (he : starEach [a, .Name nm p2] X.env = (false, eval a X.env) :: starEach [.Name nm p2] X.env := by rfl) (he2 : starEach [.Name nm p2] X.env = (false, eval (.Name nm p2) X.env) :: starEach [] X.env := by rfl) (hpl : (backTo pos (starEach [.Name nm p2] X.env)).any (·.1) = false := by rfl) :
    PEm X c .cl (.Call (.Name "isinstance" p) [a, .Name nm p2] [] pos) (mOp1 (oIsC Cs C) ta) := ⟨(pe_callB (r := rIsi X.K) call_isi hg hm PyProof.Rows.boot_isinstance (pa_cons ha.run (pa_cons (pe_glob (v := .ref C) hgC hmC rfl hd) pa_nil he2) he) (by decide) (by decide) he hpl).weak fun σ H Q h => by
  obtain ⟨G, A, W, env, P, R, h, k⟩ := h
  refine ⟨G, A, W, env, _, R, h, fun px vx H1 g1 rx ⟨b, hb, h1⟩ => ?_⟩
  have fin : ∀ {t : Value}, TyX X.K H1 vx t → PySem.W.kitOne X.K t (.ref C) = some b → rIsi X.K [vx, .ref C] H1 Q := fun {t} ht hk => ⟨vx, .ref C, t, .ref C, b, rfl, .own C, ht, hk, k _ _ H1 g1 (VK1.ofRp Rp.bl') h1⟩
  have plain : ∀ {U : String}, pty px = some U → b = false → rIsi X.K [vx, .ref C] H1 Q := fun {U} hU hf => fin (rx.tyx hU) (by rw [hf]; exact ok.ty C hC U (pty_tys hU))
  cases px with
  | obj D dx ns vs =>
    have hb : (if D ∈ Cs then some (decide (D = C)) else none) = some b := hb
    by_cases hD : D ∈ Cs
    · rw [if_pos hD] at hb
      have rx : Rp X.K ⟨Zt G A W, W, H1⟩ (.obj D dx ns vs) vx := rx
      unfold Rp at rx
      obtain ⟨hc, a, ws, rfl, hz, ha, hl, rs⟩ := rx
      have i := ok.ins D hD
      refine fin (.base (.ins ha i.cl i.ha i.hn i.htk i.hm)) ?_
      by_cases e : D = C
      · subst e
        rw [decide_eq_true rfl] at hb
        cases hb
        exact i.me
      · rw [decide_eq_false e] at hb
        cases hb
        exact ok.ne D hD C hC e
    · rw [if_neg hD] at hb; cases hb
  | non => exact plain (U := "NoneType") rfl (by cases hb; rfl)
  | bl _ => exact plain (U := "bool") rfl (by cases hb; rfl)
  | int _ => exact plain (U := "int") rfl (by cases hb; rfl)
  | str _ => exact plain (U := "str") rfl (by cases hb; rfl)
  | tup _ => exact plain (U := "tuple") rfl (by cases hb; rfl)
  | lst _ => exact plain (U := "list") rfl (by cases hb; rfl)
  | dic _ _ => exact plain (U := "dict") rfl (by cases hb; rfl)
  | _ => cases hb⟩
@[simp] theorem s_oIsC {Cs : List Addr} {C : Addr} {x : PV} {P : PV → Prop} : oIsC Cs C x P ↔ ∃ b, isC Cs C x = some b ∧ P (.bl b) := .rfl
/-! ### isinstance(x, (list, tuple)) -/
theorem kit_lt {K : PySem.W.Frag} {U : String} (h : U ∈ tys) : PySem.W.kitAny K (.type U) [.type "list", .type "tuple"] = some (decide (U = "list" ∨ U = "tuple")) := by
  simp only [tys, List.mem_cons, List.not_mem_nil, or_false] at h
  rcases h with h | h | h | h | h | h | h <;> subst h
  · exact kitAny_cons (kit_ty (r := false) rfl) (fun _ => kitAny_cons (kit_ty (r := false) rfl) (fun _ => kitAny_nil) (fun z => by cases z)) (fun z => by cases z)
  · exact kitAny_cons (kit_ty (r := false) rfl) (fun _ => kitAny_cons (kit_ty (r := false) rfl) (fun _ => kitAny_nil) (fun z => by cases z)) (fun z => by cases z)
  · exact kitAny_cons (kit_ty (r := false) rfl) (fun _ => kitAny_cons (kit_ty (r := false) rfl) (fun _ => kitAny_nil) (fun z => by cases z)) (fun z => by cases z)
  · exact kitAny_cons (kit_ty (r := false) rfl) (fun _ => kitAny_cons (kit_ty (r := false) rfl) (fun _ => kitAny_nil) (fun z => by cases z)) (fun z => by cases z)
  · exact kitAny_cons (kit_ty (r := false) rfl) (fun _ => kitAny_cons (kit_ty (r := true) rfl) (fun z => by cases z) (fun _ => rfl)) (fun z => by cases z)
  · exact kitAny_cons (kit_ty (r := true) rfl) (fun z => by cases z) (fun _ => rfl)
  · exact kitAny_cons (kit_ty (r := false) rfl) (fun _ => kitAny_cons (kit_ty (r := false) rfl) (fun _ => kitAny_nil) (fun z => by cases z)) (fun z => by cases z)
def oIsiLT : PO1 := fun x P => ∃ U, pty x = some U ∧ P (.bl (decide (U = "list" ∨ U = "tuple")))
theorem em_isiLT {X : Cx} {c : List Ow} {a : Expr} {ta : TEm} {p p2 p3 p4 pos : Pos} {x1 : Nat} (ha : PEm X c .ow a ta) (hg : Gl X "isinstance") (hm : X.mg "isinstance" = none) (hgL : Gl X "list") (hmL : X.mg "list" = none) (hgT : Gl X "tuple") (hmT : X.mg "tuple" = none)
    (he : starEach [a, .Tuple [.Name "list" p2, .Name "tuple" p3] x1 p4] X.env = (false, eval a X.env) :: starEach [.Tuple [.Name "list" p2, .Name "tuple" p3] x1 p4] X.env := by rfl) (he2 : starEach [.Tuple [.Name "list" p2, .Name "tuple" p3] x1 p4] X.env = (false, eval (.Tuple [.Name "list" p2, .Name "tuple" p3] x1 p4) X.env) :: starEach [] X.env := by rfl)
    (he3 : starEach [.Name "list" p2, .Name "tuple" p3] X.env = (false, eval (.Name "list" p2) X.env) :: starEach [.Name "tuple" p3] X.env := by rfl) (he4 : starEach [.Name "tuple" p3] X.env = (false, eval (.Name "tuple" p3) X.env) :: starEach [] X.env := by rfl)
    (hpl : (backTo pos (starEach [.Tuple [.Name "list" p2, .Name "tuple" p3] x1 p4] X.env)).any (·.1) = false := by rfl) :
    PEm X c .cl (.Call (.Name "isinstance" p) [a, .Tuple [.Name "list" p2, .Name "tuple" p3] x1 p4] [] pos) (mOp1 oIsiLT ta) :=
  ⟨(pe_callB (r := rIsiT X.K) call_isiT hg hm PyProof.Rows.boot_isinstance (pa_cons ha.run (pa_cons (pe_tup (pa_cons (pe_bltn (v := .ty "list") hgL hmL PyProof.Rows.boot_list rfl (by decide) (by decide)) (pa_cons (pe_bltn (v := .ty "tuple") hgT hmT PyProof.Rows.boot_tuple rfl (by decide) (by decide)) pa_nil he4) he3)) pa_nil he2) he) (by decide) (by decide) he hpl).weak fun σ H Q h => by
  obtain ⟨G, A, W, env, P, R, h, k⟩ := h
  refine ⟨G, A, W, env, _, R, h, fun px vx H1 g1 rx ⟨U, hU, h1⟩ => ⟨by decide, fun tp n => ?_⟩⟩
  have R1 := R.grow g1
  have g2 : Grow W H1 (upd H1 tp (.tup [.ty "list", .ty "tuple"])) := Grow.new R1.src n
  have rx2 := RpO.grow R.sz g2 rx.o
  exact ⟨vx, tp, _, .type U, [.type "list", .type "tuple"], _, rfl, upd_same, .cons (.ty _) (.cons (.ty _) .nil), rx2.tyx hU, kit_lt (pty_tys hU), k _ _ _ (g1.trans g2) (VK1.ofRp Rp.bl') h1⟩⟩
@[simp] theorem s_oIsiLT {x : PV} {P : PV → Prop} : oIsiLT x P ↔ ∃ U, pty x = some U ∧ P (.bl (decide (U = "list" ∨ U = "tuple"))) := .rfl
end PM

set_option maxHeartbeats 2000000
/-! PM: rows[i][j] = v, rows a list of one's own of lists of whole numbers, where no list came from outside. -/
namespace PM
open PySem L2
mutual
/-- no list in it -/
def noL : PV → Bool
  | .non => true
  | .bl _ => true
  | .int _ => true
  | .str _ => true
  | .src => true
  | .tup ps => noLs ps
  | _ => false
def noLs : List PV → Bool
  | [] => true
  | p :: ps => noL p && noLs ps
end
theorem noLs_all : ∀ {ps : List PV}, noLs ps = true ↔ ∀ p ∈ ps, noL p = true
  | [] => ⟨fun _ p h => absurd h (List.not_mem_nil), fun _ => rfl⟩
  | p :: ps => by
    show (noL p && noLs ps) = true ↔ _
    rw [Bool.and_eq_true, noLs_all]
    constructor
    · rintro ⟨h1, h2⟩ q hq
      rcases List.mem_cons.mp hq with z | z
      · rw [z]; exact h1
      · exact h2 q z
    · exact fun h => ⟨h p (List.mem_cons_self ..), fun q hq => h q (List.mem_cons_of_mem _ hq)⟩
section
variable {K : PySem.W.Frag} {Z Z' : Addr → Prop} {W : Ws} {H H' : Hp}
mutual
theorem Rp.noL (x : ∀ b xs, ¬ Z b → H b = some (.tup xs) → ¬ Z' b ∧ H' b = some (.tup xs)) : ∀ {p : PV} {v : V}, noL p = true → Rp K ⟨Z, W, H⟩ p v → Rp K ⟨Z', W, H'⟩ p v
  | .non, _, _, h => by unfold Rp at h ⊢; exact h
  | .bl _, _, _, h => by unfold Rp at h ⊢; exact h
  | .int _, _, _, h => by unfold Rp at h ⊢; exact h
  | .str _, _, _, h => by unfold Rp at h ⊢; exact h
  | .src, _, _, h => by unfold Rp at h ⊢; exact h
  | .tup ps, _, hn, h => by
    unfold Rp at h ⊢
    obtain ⟨a, vs, e, t, r⟩ := h
    have hn : noLs ps = true := hn
    exact ⟨a, vs, e, t.elim (fun y => .inl (x a _ y.1 y.2)) .inr, Rps.noL x hn r⟩
  | .lst _, _, hn, _ => by cases hn
  | .dic _ _, _, hn, _ => by cases hn
  | .obj _ _ _ _, _, hn, _ => by cases hn
  | .ref _, _, hn, _ => by cases hn
  | .scr _, _, hn, _ => by cases hn
  | .iset _, _, hn, _ => by cases hn
  | .pdic _, _, hn, _ => by cases hn
theorem Rps.noL (x : ∀ b xs, ¬ Z b → H b = some (.tup xs) → ¬ Z' b ∧ H' b = some (.tup xs)) : ∀ {ps : List PV} {vs : List V}, noLs ps = true → Rps K ⟨Z, W, H⟩ ps vs → Rps K ⟨Z', W, H'⟩ ps vs
  | [], _, _, h => by unfold Rps at h ⊢; exact h
  | p :: ps, _, hn, h => by
    unfold Rps at h ⊢
    obtain ⟨v, r, e, h1, h2⟩ := h
    have hn : (noL p && noLs ps) = true := hn
    rw [Bool.and_eq_true] at hn
    exact ⟨v, r, e, Rp.noL x hn.1 h1, Rps.noL x hn.2 h2⟩
end
end
/-- the lists that stood at the start are out of bounds; nothing is held -/
structure Hid (G : Gh) : Prop where
  lst : ∀ b xs, G.H0 b = some (.lst xs) → G.zb b
  pins : G.pins = []
  fz : ∀ b, G.fz b = none
def tmSL (K : PySem.W.Frag) (f : Fx) (c c' : List Ow) (t : TSm) : TS := fun D σ H => ∃ G A W env M, Hid G ∧ G.gw = f.gw ∧ SR K G c A W env σ H ∧ t M env ∧ Kont K f.rm f.cL c' G M D
structure PSmL (X : Cx) (f : Fx) (c c' : List Ow) (st : Stmt) (t : TSm) : Prop where
  run : PS X st (tmSL X.K f c c' t)
structure PSsmL (X : Cx) (f : Fx) (c c' : List Ow) (st : List Stmt) (t : TSm) : Prop where
  run : PSs X st (tmSL X.K f c c' t)
section
variable {X : Cx} {f : Fx} {c c1 c' : List Ow} {st : Stmt} {rest : List Stmt} {t u : TSm} {e : Expr} {te : TEm} {pos : Pos}
theorem toL (h : PSm X f c c' st t) : PSmL X f c c' st t := ⟨h.run.weak fun D σ H ⟨G, A, W, env, M, _, r⟩ => ⟨G, A, W, env, M, r⟩⟩
theorem toLs (h : PSsm X f c c' rest t) : PSsmL X f c c' rest t := ⟨h.run.weak fun D σ H ⟨G, A, W, env, M, _, r⟩ => ⟨G, A, W, env, M, r⟩⟩
theorem sm_consL (h1 : PSmL X f c c1 st t) (h2 : PSsmL X f c1 c' rest u) : PSsmL X f c c' (st :: rest) (sSeq t u) := ⟨(pss_cons h1.run h2.run).weak fun D σ H h => by
  obtain ⟨G, A, W, env, M, hd, hg, R, h, k⟩ := h
  exact ⟨G, A, W, env, _, hd, hg, R, h, ⟨fun A W env σ H R' h' => ⟨G, A, W, env, M, hd, hg, R', h', k⟩, k.rt, k.bk, k.ct⟩⟩⟩
theorem sm_oneL (h1 : PSmL X f c c' st t) : PSsmL X f c c' [st] t := ⟨pss_one h1.run⟩
theorem sm_postL (h : FrzOk c1 c' = true) (h1 : PSsmL X f c c1 rest t) : PSsmL X f c c' rest t := ⟨h1.run.weak fun D σ H h' => by
  obtain ⟨G, A, W, env, M, hd, hg, R, h', k⟩ := h'
  exact ⟨G, A, W, env, M, hd, hg, R, h', ⟨fun A W env σ H R' h2 => by
    obtain ⟨A', R2⟩ := R'.frz h
    exact k.nx A' W env σ H R2 h2, k.rt, k.bk, k.ct⟩⟩⟩
theorem sm_pre1L (h : FrzOk c c1 = true) (h1 : PSmL X f c1 c' st t) : PSmL X f c c' st t := ⟨h1.run.weak fun D σ H h' => by
  obtain ⟨G, A, W, env, M, hd, hg, R, h', k⟩ := h'
  obtain ⟨A', R'⟩ := R.frz h
  exact ⟨G, A', W, env, M, hd, hg, R', h', k⟩⟩
theorem sm_ifL {cnd : Expr} {a b : List Stmt} {tc : TTm} (hc : PTm X c cnd tc) (ha : PSsmL X f c c' a t) (hb : PSsmL X f c c' b u) : PSmL X f c c' (.If cnd a b pos) (sIf tc t u) := ⟨(ps_if hc.run ha.run hb.run).weak fun D σ H h => by
  obtain ⟨G, A, W, env, M, hd, hg, R, h, k⟩ := h
  refine ⟨G, A, W, env, _, R, h, fun b H1 g h1 => ?_⟩
  cases b with
  | true => rw [if_pos rfl] at h1 ⊢; exact ⟨G, A, W, env, M, hd, hg, R.grow g, h1, k⟩
  | false => rw [if_neg Bool.false_ne_true] at h1 ⊢; exact ⟨G, A, W, env, M, hd, hg, R.grow g, h1, k⟩⟩
/-- rows[a][b] = v -/
def sPut2 (i : Nat) (to tj te : TEm) : TSm := fun M env => te env fun p => ∃ (v : Int) (xss : List (List Int)), p = .int v ∧ env[i]? = some (some (.lst (xss.map lI))) ∧ (∀ k q, k ≠ i → env[k]? = some (some q) → noL q = true) ∧
  to env fun o => ∃ xs, o = lI xs ∧ tj env fun b => ∃ (m : Int) (n : Nat), b = .int m ∧ ixN xs.length m = some n ∧
    ∀ yss : List (List Int), yss.length = xss.length → (∀ j : Nat, yss[j]? = xss[j]? ∨ yss[j]? = some (xs.set n v)) → M.nx (env.set i (some (.lst (yss.map lI))))
theorem SR.mutIn {K : PySem.W.Frag} {G : Gh} {A : Nat → Option Addr} {W : Ws} {env : Env} {σ : St} {H : Hp} {i : Nat} {q : Addr} {xss : List (List Int)} {xs ys : List Int} (hd : Hid G) (R : SR K G c A W env σ H) (hc : cO c i = .ow) (e0 : env[i]? = some (some (.lst (xss.map lI)))) (no : ∀ k p, k ≠ i → env[k]? = some (some p) → noL p = true)
    (hq : ¬ Zt G A W q) (hH : H q = some (.lst (xs.map V.int))) : ∃ yss : List (List Int), yss.length = xss.length ∧ (∀ j : Nat, yss[j]? = xss[j]? ∨ yss[j]? = some ys) ∧ SR K G c A W (env.set i (some (.lst (yss.map lI)))) σ (upd H q (.lst (ys.map V.int))) := by
  obtain ⟨a, hA, hσ, vs, hHa, r⟩ := R.mine hc e0
  have naq : a ≠ q := fun z => hq (by rw [← z]; exact .inr (.inr ⟨i, hA⟩))
  have tr : ∀ b, (∃ w, H b = some w) → ∃ w, upd H q (.lst (ys.map V.int)) b = some w := fun b ⟨w, e⟩ => by
    by_cases z : b = q
    · subst z; exact ⟨_, upd_same⟩
    · exact ⟨w, by rw [upd_ne z]; exact e⟩
  have ne_w : ∀ p ∈ W, p.1 ≠ q ∧ p.2 ≠ q := fun p hp => ⟨fun z => hq (Zt.w ⟨p, hp, .inl z.symm⟩), fun z => hq (Zt.w ⟨p, hp, .inr z.symm⟩)⟩
  have tup : ∀ b zs, ¬ Zt G A W b → H b = some (.tup zs) → ¬ Zt G A W b ∧ upd H q (.lst (ys.map V.int)) b = some (.tup zs) := fun b zs hz e => ⟨hz, by rw [upd_ne (fun z => by rw [z, hH] at e; cases e)]; exact e⟩
  -- the rows, one by one
  have rows : ∀ (xss : List (List Int)) (vs : List V), Rps K ⟨Zt G A W, W, H⟩ (xss.map lI) vs → ∃ yss : List (List Int), yss.length = xss.length ∧ (∀ j : Nat, yss[j]? = xss[j]? ∨ yss[j]? = some ys) ∧ Rps K ⟨Zt G A W, W, upd H q (.lst (ys.map V.int))⟩ (yss.map lI) vs := by
    intro xss
    induction xss with
    | nil => exact fun vs h => ⟨[], rfl, fun j => .inl rfl, by unfold Rps at h; subst h; exact Rps.nil⟩
    | cons z xss ih =>
      intro vs h
      rw [List.map_cons] at h
      unfold Rps at h
      obtain ⟨v, vs', rfl, h1, h2⟩ := h
      obtain ⟨yss, l, hj, r2⟩ := ih vs' h2
      unfold lI Rp at h1
      obtain ⟨b, ws, rfl, ⟨hz, hb⟩, rz⟩ := h1
      have ew := Rps.ints.mp rz
      by_cases e : b = q
      · refine ⟨ys :: yss, by rw [List.length_cons, List.length_cons, l], fun j => ?_, ?_⟩
        · cases j with
          | zero => exact .inr rfl
          | succ j => simpa using hj j
        · rw [List.map_cons]
          refine Rps.cons ?_ r2
          unfold lI Rp
          exact ⟨b, ys.map V.int, rfl, ⟨hz, by rw [e]; exact upd_same⟩, Rps.ints.mpr rfl⟩
      · refine ⟨z :: yss, by rw [List.length_cons, List.length_cons, l], fun j => ?_, ?_⟩
        · cases j with
          | zero => exact .inl rfl
          | succ j => simpa using hj j
        · rw [List.map_cons]
          refine Rps.cons ?_ r2
          unfold lI Rp
          exact ⟨b, ws, rfl, ⟨hz, by show upd H q _ b = _; rw [upd_ne e]; exact hb⟩, by rw [ew]; exact Rps.ints.mpr rfl⟩
  obtain ⟨yss, l, hj, r2⟩ := rows xss vs r
  refine ⟨yss, l, hj, ?_⟩
  refine ⟨by rw [List.length_set]; exact R.len, R.W0in, R.Wmin, R.Wnew, R.Wfix, fun p hp => SA.at (upd_ne (ne_w p hp).1) (upd_ne (ne_w p hp).2) (R.src p hp), fun b w hw e => ?_, fun b hb => tr b (R.zbt b hb), fun k b e => ?_, R.Ainj, fun k p hk e => ?_, fun k p e => ?_, fun p hp => (by rw [hd.pins] at hp; cases hp), fun b o e => (by rw [hd.fz] at e; cases e)⟩
  · have hb := R.keep b w hw e
    rw [upd_ne (fun z => ?_)]
    · exact hb
    · rw [z, hH] at hb
      cases hb
      exact hq (.inl (hd.lst q _ (z ▸ e)))
  · obtain ⟨h1, h2, h3, h4, h5⟩ := R.Asep k b e
    exact ⟨h1, h2, h3, h4, tr b h5⟩
  · rcases env_set_get e with ⟨z, _, _⟩ | ⟨_, e⟩
    · rw [z]; exact ⟨a, hA⟩
    · exact R.Aset k p hk e
  · rcases env_set_get e with ⟨z, hl, z2⟩ | ⟨n, e⟩
    · subst z z2
      refine ⟨.ref a, hσ, ?_⟩
      rw [hA]
      exact ⟨rfl, vs, by show upd H q _ a = _; rw [upd_ne naq]; exact hHa, r2⟩
    · obtain ⟨v, h1, h2⟩ := R.slots k p e
      refine ⟨v, h1, ?_⟩
      have hn := no k p n e
      cases hk : A k with
      | none => rw [hk] at h2; exact Rp.noL tup hn h2
      | some b =>
        rw [hk] at h2
        exfalso
        have h3 := h2.2
        cases p <;> first | (cases hn; done) | exact h3
theorem sm_put2L (i : Nat) {x : Str} {p1 p2 p3 : Pos} {ei ej : Expr} {to tj : TEm} (he : PEm X c .cl e te) (ho : PEm X c .cl (.Subscript (.Name x p1) ei p2) to) (hj : PEm X c .ow ej tj) (hc : cO c i = .ow := by rfl)
    (ha : ∀ v, assign (.Subscript (.Subscript (.Name x p1) ei p2) ej p3) X.env v = (do
      let ov ← holding [v] (eval (.Subscript (.Name x p1) ei p2) X.env)
      let iv ← holding [v, ov] (eval ej X.env)
      standAt p3
      holding [v, ov, iv] (setItem ov iv v)
      release [v, ov, iv] []) := by intro _; rfl)
    (hs : swapsWithSole [.Subscript (.Subscript (.Name x p1) ei p2) ej p3] e pos.line X.env = pure false := by rfl) (hw : swappedStores [.Subscript (.Subscript (.Name x p1) ei p2) ej p3] e X.env = pure none := by rfl)
    (h1 : (assignEach [.Subscript (.Subscript (.Name x p1) ei p2) ej p3] X.env).map (·.2) = [assign (.Subscript (.Subscript (.Name x p1) ei p2) ej p3) X.env] := by rfl) :
    PSmL X f c c (.Assign [.Subscript (.Subscript (.Name x p1) ei p2) ej p3] e pos) (sPut2 i to tj te) := ⟨(ps_asg he.run (pg_sub ho.run hj.run set_list ha) hs hw h1).weak fun D σ H h => by
  obtain ⟨G, A, W, env, M, hd, hg, R, h, k⟩ := h
  refine ⟨G, A, W, env, _, R, h, fun p v H1 g rv ⟨w, xss, ep, e0, no, h1⟩ => ?_⟩
  subst ep
  have rv : Rp X.K ⟨Zt G A W, W, H1⟩ (.int w) v := rv
  unfold Rp at rv
  subst rv
  have R1 := R.grow g
  refine ⟨G, A, W, env, _, R1, h1, fun o vo H2 g2 ro ⟨xs, eo, h2⟩ => ?_⟩
  subst eo
  have R2 := R1.grow g2
  have ro : Rp X.K ⟨Zt G A W, W, H2⟩ (lI xs) vo := ro
  refine ⟨G, A, W, env, _, R2, h2, fun b vb H3 g3 rb ⟨m, n, eb, hix, h3⟩ => ?_⟩
  subst eb
  have R3 := R2.grow g3
  have ro3 := Rp.ext (g3.ext R.sz) ro
  unfold lI Rp at ro3
  obtain ⟨q, ws, rfl, ⟨hz, hH⟩, rw'⟩ := ro3
  have ew := Rps.ints.mp rw'
  subst ew
  obtain ⟨yss, l, hj2, R4⟩ := R3.mutIn (ys := xs.set n w) hd hc e0 no hz hH
  refine ⟨q, _, m, n, rfl, rb.o.int, hH, by rw [List.length_map]; exact hix, ?_⟩
  rw [← List.map_set]
  exact k.nx A W _ σ _ R4 (h3 yss l hj2)⟩
end
section
variable {P : Program} {w : World} {K : PySem.W.Frag} {mg : Str → Option Value} {base : Heap}
/-- THE RULE for a def to which no list is given -/
theorem fn_mL {x qual : Str} {st : Stmt} {f : Addr} {fd : FuncData} {N pns : List Str} {k : Nat} {rm : Md} {spec : Spec} {t : TSm} {dvs : List V} (F : FunD K x qual (defArgs st) (defBody st) (defScope st) dvs [] f fd) (S : FnScope N pns (defScope st))
    (hlen : ∀ ps Q, spec ps Q → ps.length = pns.length) (hno : ∀ ps Q, spec ps Q → noLs ps = true) (hrm : rm ≠ .ow := by decide)
    (hbody : ∀ (cdv : Value) (A : Around) (outer : List PySem.Env) (s : Shared) (H : Hp) (E : XK), Room k (A.deeper (PyProof.Rows.envOfC qual (defScope st) s.heap.objs.size f cdv)) → ∃ c', PSsmL (bodyX P w K mg base N qual st f cdv A outer s H E) ⟨rm, false, []⟩ (shs N.length) c' (defBody st) t)
    (hok : ∀ ps Q, spec ps Q → t { nx := fun _ => nxOf rm Q, rt := Q } (startE N.length ps)) : FnOk P w K mg base CX0 (k + 1) f fd pns (spM K rm spec) := by
  refine F.ok S (fun vs H Q E h => ?_) (fun cdv A outer s H vs Q E hr h => ?_)
  · obtain ⟨zb, W, ps, P, _, _, r, hs, _⟩ := h
    rw [← r.len]; exact hlen ps P hs
  · obtain ⟨zb, W, ps, P, hz, hsrc, r, hs, kk⟩ := h
    obtain ⟨zc, hzc⟩ : ∃ zc : Addr → Prop, zc = fun b => zb b ∨ ∃ xs, H b = some (.lst xs) := ⟨_, rfl⟩
    have hz' : ∀ b, zc b → ∃ o, H b = some o := fun b hb => by
      rw [hzc] at hb
      rcases hb with hb | ⟨xs, e⟩
      · exact hz b hb
      · exact ⟨_, e⟩
    have r' : Rps K ⟨fun b => zc b ∨ inW W b, W, H⟩ ps vs := Rps.noL (fun b xs hn e => ⟨fun z => by
      rw [hzc] at z
      rcases z with (z | ⟨ys, z⟩) | z
      · exact hn (.inl z)
      · rw [e] at z; cases z
      · exact hn (.inr z), e⟩) (hno ps P hs) r
    have hret : rm ≠ .ow → ∀ p v H', RetOk K rm ⟨false, zc, W, H, fun _ => none, W, []⟩ p v H' → P p → Q v H' := fun hm p v H' hr hp => by
      obtain ⟨W', h1, h2, h3, h4, h5⟩ := hr
      have e : W' = W := h2 rfl
      subst e
      refine kk p v H' ⟨fun b o n e => h4 b o n e, h3⟩ (h5.less hm fun b z => ?_) hp
      rcases z with z | z
      · exact .inl (by rw [hzc]; exact .inl z)
      · exact .inr z
    have hsr : SR K ⟨false, zc, W, H, fun _ => none, W, []⟩ (shs N.length) (fun _ => none) W (startE N.length ps) (L2.start N vs) H := SR.start hz' hsrc r'
    have hhid : Hid ⟨false, zc, W, H, fun _ => none, W, []⟩ := ⟨fun b xs e => by show zc b; rw [hzc]; exact .inr ⟨xs, e⟩, rfl, fun _ => rfl⟩
    obtain ⟨c', hb⟩ := hbody cdv A outer s H E hr
    cases rm with
    | cl =>
      refine ⟨_, hb.run.nox, ⟨false, zc, W, H, fun _ => none, W, []⟩, fun _ => none, W, startE N.length ps, { nx := fun _ => nxOf .cl P, rt := P }, hhid, rfl, hsr, hok ps P hs, ⟨fun A' W' env' σ' H' R' hp => ?_, hret (by decide), fun _ _ _ _ _ _ z => z.elim, fun _ _ _ _ _ _ z => z.elim⟩⟩
      exact hret (by decide) .non .non H' (R'.ret (Grow.refl R'.src) (by decide) (VK1.ofRp Rp.non')) hp
    | ow => exact absurd rfl hrm
    | fr => exact ⟨_, hb.run.nox, ⟨false, zc, W, H, fun _ => none, W, []⟩, fun _ => none, W, startE N.length ps, { nx := fun _ => nxOf .fr P, rt := P }, hhid, rfl, hsr, hok ps P hs, ⟨fun A' W' env' σ' H' R' hp => hp.elim, hret (by decide), fun _ _ _ _ _ _ z => z.elim, fun _ _ _ _ _ _ z => z.elim⟩⟩
end
end PM

set_option maxHeartbeats 4000000
/-! PM: xs[i] op= e; sum(lists, []); len(set(list)); a < b of tuples; sorted(list of tuples). -/
namespace L2
open PySem PySem.Spec PyProof.Rows
/-- xs[i] of a list of ints, 0 ≤ i -/
def rGetL : V → V → Hp → VK → Prop := fun o i H Q => ∃ p xs k v, o = .ref p ∧ i = .int k ∧ H p = some (.lst xs) ∧ 0 ≤ k ∧ xs[k.toNat]? = some v ∧ Q v H
theorem get_listL {X : Cx} : PGet X rGetL := by
  intro pins s σ H o i ov iv Q I ro ri h
  obtain ⟨p, xs, k, v, rfl, rfl, hp, h0, hv, q⟩ := h
  cases ro
  obtain ⟨t, rfl⟩ := ri
  obtain ⟨z, its, n, r, hl, e⟩ := I.lstM hp
  obtain ⟨w, ew, rw'⟩ := r.get hv
  have hi := (List.getElem?_eq_some_iff.mp hv).1
  refine getItem_listL (l := its) ⟨_, e, rfl, n, rfl⟩ h0 (by have := line63; omega) ew ⟨v, H, I, rw', q⟩
section
variable {P : Program} {w : World} {A : Around} {E : Value → Shared → Prop} {s : Shared} {R : Result → Shared → Prop}
theorem args_sum2 (a b : Value) : argsOk "sum" ⟨[a, b], []⟩ := by unfold argsOk; kernel_rfl
/-- the lists put together, from the i-th on -/
theorem sumL_loop {h0 : Heap} {S I b0 : Addr} {fp wr : List Addr} {Pv : Nat → Value → Prop} {St : Nat → Heap → Prop} {us : List (Addr × List Value)} (W : Walks P w A.in1 I fp wr us.length Pv St) (hSf : S ∉ fp) (hval : ∀ i v, Pv i v → ∃ p, us[i]? = some p ∧ v = .ref p.1)
    (hk : ∀ p ∈ us, h0.PlainList p.1 p.2.toArray) (hw0 : ∀ b ∈ wr, h0.get? b = none) (hwS : ∀ b ∈ wr, b < S) (hfS : ∀ b ∈ fp, b < S) (hS0 : h0.objs.size ≤ S) (hz : (us.flatMap (·.2)).length ≤ sizeLine) :
    ∀ (k i : Nat) (s : Shared) (p : Addr) (c : Nat), i + k = us.length → St i s.heap → (∀ b o, h0.get? b = some o → s.heap.get? b = some o) → s.heap.PlainList p ((us.take i).flatMap (·.2)).toArray → p ∉ wr → p ≠ S → (p = b0 ∨ h0.objs.size ≤ p) →
      s.heap.get? S = some { cls := .type "list", dict := none, data := .seq #[.ref p] c, slots := #[] } →
      (∀ h' tk p', (∀ b o, h0.get? b = some o → h'.get? b = some o) → h'.PlainList p' (us.flatMap (·.2)).toArray → (p' = b0 ∨ h0.objs.size ≤ p') → R (.ok (.ret (.ref p'))) { s with heap := h', toks := tk }) →
      codeAny (model P w) A (.builtin "sum.loop" ⟨[.ref I, .ref S, rawInt 2, rawInt 0], []⟩) R s := by
  have hSw : S ∉ wr := fun h => hSf (W.sub _ h)
  intro k
  induction k with
  | zero =>
    intro i s p c hik hst old hp hpw hpS hp0 hS hR
    obtain rfl : i = us.length := hik
    refine codeAny_builtin F.entry_sum_loop ?_
    rw [Around.under_plainId F.plain_sum_loop _]
    show wpAny _ A.in1 (seqItems? (.ref S) >>= _) _ _ s
    refine wpAny_bind (wpAny_seqItems hS rfl ?_)
    show wpAny _ A.in1 (tryCatch (pyNext (.ref I)) _ >>= _) _ _ s
    refine wpAny_bind (wpAny_tryCatch (W.done s _ _ hst fun h' tk kk => ?_))
    obtain ⟨n, hp⟩ := hp
    rw [List.take_length] at hp
    exact wpAny_pure (hR h' tk p (fun b o e => kk b o (fun z => by rw [hw0 b z] at e; cases e) (old b o e)) ⟨n, kk p _ hpw hp⟩ hp0)
  | succ k ih =>
    intro i s p c hik hst old hp hpw hpS hp0 hS hR
    refine codeAny_builtin F.entry_sum_loop ?_
    rw [Around.under_plainId F.plain_sum_loop _]
    show wpAny _ A.in1 (seqItems? (.ref S) >>= _) _ _ s
    refine wpAny_bind (wpAny_seqItems hS rfl ?_)
    show wpAny _ A.in1 (tryCatch (pyNext (.ref I)) _ >>= _) _ _ s
    refine wpAny_bind (wpAny_tryCatch (W.item i s _ _ (by omega) hst fun v h' tk hP hst' kk => ?_))
    obtain ⟨q, hq, rfl⟩ := hval i v hP
    have old1 : ∀ b o, h0.get? b = some o → h'.get? b = some o := fun b o e => kk b o (fun z => by rw [hw0 b z] at e; cases e) (old b o e)
    obtain ⟨n, hp⟩ := hp
    have hp1 := kk p _ hpw hp
    obtain ⟨m, hq1⟩ := hk q (List.mem_of_getElem? hq)
    have hq2 := old1 _ _ hq1
    have hS' := kk S _ hSw hS
    have etake : (us.take (i + 1)).flatMap (·.2) = (us.take i).flatMap (·.2) ++ q.2 := by rw [List.take_add_one, hq, List.flatMap_append]; simp
    have hle : ((us.take (i + 1)).flatMap (·.2)).length ≤ sizeLine := by
      refine Nat.le_trans (List.Sublist.length_le ?_) hz
      conv => rhs; rw [← List.take_append_drop (i + 1) us]
      rw [List.flatMap_append]
      exact List.sublist_append_left _ _
    rw [etake, List.length_append] at hle
    show wpAny _ A.in1 ((holding [Value.ref q.1] (binaryOp .Add (.ref p) (.ref q.1))).attempt >>= _) _ _ _
    refine wpAny_bind (wpAny_attempt (wpAny_holding (PySem.P.add_list hp1 hq2 ?_ (by rw [List.size_toArray, List.size_toArray]; exact hle))))
    show wpAny _ A.in1 (updateSeq S (fun _ => #[Value.ref h'.objs.size]) >>= _) _ _ _
    have hSlt : S < h'.objs.size := Heap.lt_size hS'
    have hnew : (h'.push { cls := .type "list", data := .seq (((us.take i).flatMap (·.2)).toArray ++ q.2.toArray) }).get? h'.objs.size = some { cls := .type "list", data := .seq (((us.take i).flatMap (·.2)).toArray ++ q.2.toArray) } := Heap.get?_push_size _ rfl
    have hS2 : (h'.push { cls := .type "list", data := .seq (((us.take i).flatMap (·.2)).toArray ++ q.2.toArray) }).get? S = some _ := Heap.get?_push_of_some _ hS'
    refine wpAny_bind (wpAny_updateSeq hS2 rfl ?_)
    have hS3 := Heap.get?_update_self (Obj.mapSeq fun _ => #[Value.ref h'.objs.size]) hS2 rfl
    refine wpAny_bind (wpAny_letGo ?_)
    have other : ∀ b o, b ≠ S → h'.get? b = some o → (((h'.push { cls := .type "list", data := .seq (((us.take i).flatMap (·.2)).toArray ++ q.2.toArray) }).update S (Obj.mapSeq fun _ => #[Value.ref h'.objs.size])).update S (Obj.mapSeq fun _ => #[Value.ref h'.objs.size])).get? b = some o := fun b o hb e =>
      (Heap.get?_update_other _ _ (fun z : S = b => hb z.symm)).trans ((Heap.get?_update_other _ _ (fun z : S = b => hb z.symm)).trans (Heap.get?_push_of_some _ e))
    refine wpAny_bind (wpAny_updateSeq hS3 rfl (wpAny_pure ⟨plainId_quiet F.plain_sum_loop _, ih (i + 1) _ h'.objs.size _ (by omega) (W.frame _ _ _ hst' fun b hb o e => other b o (fun z => hSf (z ▸ hb)) e) (fun b o e => ?_) ?_ (fun z => ?_) (Nat.ne_of_gt hSlt) (.inr (Nat.le_of_lt (Nat.lt_of_le_of_lt hS0 hSlt))) (Heap.get?_update_self _ hS3 rfl) fun h2 tk2 p' o1 o2 o3 => ?_⟩))
    · exact other b o (fun z => by have := Heap.lt_size e; rw [z] at this; exact absurd this (Nat.not_lt.mpr hS0)) (old1 b o e)
    · rw [etake]
      refine ⟨0, ?_⟩
      rw [Heap.get?_update_other _ _ (Nat.ne_of_lt hSlt), Heap.get?_update_other _ _ (Nat.ne_of_lt hSlt), hnew]
      simp
    · exact absurd (hwS _ z) (Nat.not_lt.mpr (Nat.le_of_lt hSlt))
    · exact hR h2 tk2 p' o1 o2 o3
/-- sum(l, b), b an empty list -/
theorem call_sumL {l b : Addr} {us : List (Addr × List Value)} {Q : Value → Shared → Prop} (hh : A.handled = none) (hl : s.heap.IsList l (us.map fun p => Value.ref p.1).toArray) (hb : s.heap.PlainList b #[]) (hk : ∀ p ∈ us, s.heap.PlainList p.1 p.2.toArray) (hz : (us.flatMap (·.2)).length ≤ sizeLine)
    (h : ∀ h' tk p', (∀ b o, s.heap.get? b = some o → h'.get? b = some o) → h'.PlainList p' (us.flatMap (·.2)).toArray → (p' = b ∨ s.heap.objs.size ≤ p') → Q (.ref p') { s with heap := h', toks := tk }) : wpAny (model P w) A (call (.builtin "sum") [.ref l, .ref b]) Q E s := by
  obtain ⟨nb, hb⟩ := hb
  refine call_function_tree F.kind_sum F.plain_sum F.entry_sum (args_sum2 _ _) ?_
  unfold Builtin.«sum»
  simp only [List.length_cons, List.length_nil]
  rw [if_neg (by decide)]
  refine wpAny_bind (wpAny_of_eq (show Builtin.Builtins.bindParams "sum" ["start"] 0 ⟨[.ref b], []⟩ = pure [some (.ref b)] from rfl) ?_)
  refine wpAny_bind (wpAny_pyIter_list hl ?_)
  refine wpAny_bind (wpAny_pure ?_)
  have hb1 : (s.heap.push { cls := .type "list_iterator", data := .fields #[.ref l, .int 0 0] }).get? b = some { cls := .type "list", data := .seq #[] nb } := Heap.get?_push_of_some _ hb
  simp only [List.forIn_cons, List.forIn_nil]
  refine wpAny_bind (wpAny_bind (wpAny_bind (wpAny_isInstance (T := "list") (b := false) ⟨_, hb1, rfl⟩ F.sub_list_str ?_)))
  simp only [Bool.false_eq_true, if_false]
  refine wpAny_pure (wpAny_bind (wpAny_bind (wpAny_isInstance (T := "list") (b := false) ⟨_, hb1, rfl⟩ F.sub_list_bytes ?_)))
  simp only [Bool.false_eq_true, if_false]
  refine wpAny_pure (wpAny_bind (wpAny_bind (wpAny_isInstance (T := "list") (b := false) ⟨_, hb1, rfl⟩ F.sub_list_bytearray ?_)))
  simp only [Bool.false_eq_true, if_false]
  refine wpAny_pure (wpAny_pure ?_)
  refine wpAny_bind (wpAny_newObj_type ?_)
  have hlS : l < s.heap.objs.size := by
    obtain ⟨o, ho, _⟩ := hl
    exact Heap.lt_size ho
  have hbS : b < s.heap.objs.size := Heap.lt_size hb
  have hz1 : (s.heap.push { cls := .type "list_iterator", data := .fields #[.ref l, .int 0 0] }).objs.size = s.heap.objs.size + 1 := Heap.size_push ..
  have hlen : (us.map fun p => Value.ref p.1).toArray.size = us.length := by rw [List.size_toArray, List.length_map]
  have W := Walks.list (prog := P) (w := w) (A := A.in1) hh s.heap.objs.size l (Nat.ne_of_lt hlS) (us.map fun p => Value.ref p.1).toArray
  rw [hlen] at W
  refine wpAny_pure ⟨plainId_quiet F.plain_sum_loop _, sumL_loop (h0 := s.heap) (b0 := b) W (fun hm => ?_) (fun i v hv => ?_) hk (fun c hc => ?_) (fun c hc => ?_) (fun c hc => ?_) ?_ hz us.length 0 _ b _ (Nat.zero_add _) ⟨⟨_, Heap.get?_push_of_some _ (Heap.get?_push_size _ rfl), rfl, rfl⟩, (hl.push _).push _⟩ (fun c o e => Heap.get?_push_of_some _ (Heap.get?_push_of_some _ e)) ⟨nb, Heap.get?_push_of_some _ hb1⟩ (fun hm => ?_) ?_ (.inl rfl) (Heap.get?_push_size _ rfl) h⟩
  · rw [hz1] at hm
    rcases List.mem_cons.mp hm with z | z
    · exact absurd z (Nat.ne_of_gt (Nat.lt_succ_self _))
    · exact absurd (List.mem_singleton.mp z) (Nat.ne_of_gt (Nat.lt_succ_of_lt hlS))
  · rw [List.getElem?_toArray, List.getElem?_map] at hv
    cases q : us[i]? with
    | none => rw [q] at hv; cases hv
    | some p => rw [q] at hv; exact ⟨p, rfl, (Option.some.inj hv).symm⟩
  · rw [List.mem_singleton.mp hc]
    cases q : s.heap.get? s.heap.objs.size with
    | none => rfl
    | some o => exact absurd (Heap.lt_size q) (Nat.lt_irrefl _)
  · rw [List.mem_singleton.mp hc, hz1]; exact Nat.lt_succ_self _
  · rw [hz1]
    rcases List.mem_cons.mp hc with z | z
    · rw [z]; exact Nat.lt_succ_self _
    · rw [List.mem_singleton.mp z]; exact Nat.lt_succ_of_lt hlS
  · rw [hz1]; exact Nat.le_succ _
  · exact absurd (List.mem_singleton.mp hm) (Nat.ne_of_lt hbS)
  · rw [hz1]; exact Nat.ne_of_lt (Nat.lt_succ_of_lt hbS)
end
/-- sum(xs, []) -/
def rSumLL (K : PySem.W.Frag) : List V → Hp → VK → Prop := fun vs H Q => ∃ (l b : Addr) (us : List (Addr × List V)), vs = [V.ref l, V.ref b] ∧ SqL K H l (us.map fun p => V.ref p.1) ∧ H b = some (.lst []) ∧ (∀ p ∈ us, H p.1 = some (.lst p.2)) ∧ (us.flatMap (·.2)).length ≤ sizeLine ∧
  (us.flatMap (·.2) = [] → Q (.ref b) H) ∧ ∀ p, H p = none → Q (.ref p) (upd H p (.lst (us.flatMap (·.2))))
theorem lists_vals {X : Cx} {pins : List (Addr × Obj)} {σ : St} {H : Hp} {s : Shared} (I : Inv X pins σ H s) : ∀ {us : List (Addr × List V)}, (∀ p ∈ us, H p.1 = some (.lst p.2)) → ∃ ws : List (Addr × List Value), ws.map (·.1) = us.map (·.1) ∧ (∀ p ∈ ws, s.heap.PlainList p.1 p.2.toArray) ∧ Vals (us.flatMap (·.2)) (ws.flatMap (·.2))
  | [], _ => ⟨[], rfl, fun p hp => absurd hp List.not_mem_nil, .nil⟩
  | u :: us, h => by
    obtain ⟨ws, h1, h2, h3⟩ := lists_vals I (us := us) fun p hp => h p (List.mem_cons_of_mem _ hp)
    obtain ⟨_, its, n, r, _, pl⟩ := I.lstM (h u (List.mem_cons_self ..))
    refine ⟨(u.1, its) :: ws, by rw [List.map_cons, List.map_cons, h1], fun p hp => ?_, ?_⟩
    · rcases List.mem_cons.mp hp with z | z
      · rw [z]
        exact ⟨n, pl⟩
      · exact h2 p z
    · rw [List.flatMap_cons, List.flatMap_cons]
      exact Vals.append r h3
theorem refs_vals' : ∀ {as : List Addr} {its : List Value}, Vals (as.map V.ref) its → its = as.map Value.ref
  | [], _, h => by cases h; rfl
  | a :: as, _, h => by
    rw [List.map_cons] at h
    cases h with
    | cons r t => cases r; rw [refs_vals' t]; rfl
theorem cr_sumLL {X : Cx} (hc : X.calm = true) : CallR X (.builtin "sum") (rSumLL X.K) := by
  intro pins s σ H xs vs Q I r h
  obtain ⟨l, b, us, rfl, hl, hb, hu, hz, q1, q2⟩ := h
  obtain ⟨u1, u2, rfl, r1, r2⟩ := vals2 r
  cases r1
  cases r2
  obtain ⟨its, rv, pl, _⟩ := I.list hl
  obtain ⟨z, bits, nb, rb, hbl, eb⟩ := I.lstM hb
  obtain ⟨ws, h1, h2, h3⟩ := lists_vals I hu
  have eits : its = ws.map fun p => Value.ref p.1 := by
    have : (ws.map fun p => Value.ref p.1) = (ws.map (·.1)).map Value.ref := by rw [List.map_map]; rfl
    rw [this, h1]
    have e2 : (us.map fun p => V.ref p.1) = (us.map (·.1)).map V.ref := by rw [List.map_map]; rfl
    rw [e2] at rv
    exact refs_vals' rv
  have ebits : bits = [] := by cases rb; rfl
  subst ebits
  have hlen : (ws.flatMap (·.2)).length = (us.flatMap (·.2)).length := h3.length.symm
  refine call_sumL (us := ws) (I.ok.hd hc) (by rw [← eits]; exact pl.isList) ⟨nb, eb⟩ h2 (by rw [hlen]; exact hz) fun h' tk p' o1 o2 o3 => ?_
  rcases o3 with rfl | o3
  · have e := o1 _ _ eb
    obtain ⟨n2, o2⟩ := o2
    rw [o2] at e
    have ew : (ws.flatMap (·.2)) = [] := by
      have := congrArg (fun o : Option Obj => o.map (·.data)) e
      have := (by simpa using this : (∀ (a : Addr) (b : List Value), (a, b) ∈ ws → b = []) ∧ n2 = nb)
      simpa using this.1
    have eu : us.flatMap (·.2) = [] := List.length_eq_zero_iff.mp (by rw [← hlen, ew]; rfl)
    exact ⟨.ref p', H, I.kept o1, rfl, q1 eu⟩
  · obtain ⟨n2, o2⟩ := o2
    exact ⟨.ref p', upd H p' (.lst (us.flatMap (·.2))), I.laid (t' := tk) o1 o3 ⟨hz, ws.flatMap (·.2), n2, h3, o2⟩, rfl, q2 p' (I.hok.fresh o3)⟩
end L2
namespace PM
open PySem PySem.Spec PyProof.Rows L2
/-! ### xs[i] op= e, a list of one's own, whole numbers -/
def sAugL (i : Nat) (o : Int → Int → Int) (ti te : TEm) : TSm := fun M env => ∃ ns : List Int, env[i]? = some (some (lI ns)) ∧ ti env fun q => ∃ (m x : Int), q = .int m ∧ 0 ≤ m ∧ ns[m.toNat]? = some x ∧ te env fun p => ∃ y, p = .int y ∧ M.nx (env.set i (some (lI (ns.set m.toNat (o x y)))))
theorem sm_augL (i : Nat) {X : Cx} {f : Fx} {c : List Ow} {o : Int → Int → Int} {x : Str} {op : Operator} {ei e : Expr} {ti te : TEm} {p1 p2 pos : Pos} (hp : PIp X op (ipI o)) (hk : PEm X c .cl ei ti) (he : PEm X c .cl e te) (hN : X.N[i]? = some x := by rfl) (hc : cO c i = .ow := by rfl) (hv : Vis X.env.scope x := by first | exact Or.inl rfl | exact Or.inr (Or.inl rfl) | exact Or.inr (Or.inr rfl)) (hd : (x == ("__debug__" : Str)) = false := by decide)
    (hcd : (x == ("__classdict__" : Str)) = false := by decide)
    (ha : ∀ ov iv new, augStore ei ov iv new = (do holding [new, ov, iv] (setItem ov iv new); release [new, ov, iv] []; pure .next) := by intros; rfl) :
    PSm X f c c (.AugAssign (.Subscript (.Name x p1) ei p2) op e pos) (sAugL i o ti te) := ⟨(ps_augS (pe_var hN hv hd hcd) hk.run get_listL he.run hp set_list ha).weak fun D σ H h => by
  obtain ⟨G, A, W, env, M, hg, R, ⟨ns, e0, h⟩, k⟩ := h
  obtain ⟨a, hA, hσ, vs, hH, r⟩ := R.mine hc e0
  refine ⟨.ref a, hσ, G, A, W, env, _, R, h, fun q w H1 g1 rq ⟨m, y, eq, m0, hm, h1⟩ => ?_⟩
  subst eq
  have rq : Rp X.K ⟨Zt G A W, W, H1⟩ (.int m) w := rq
  unfold Rp at rq
  subst rq
  have R1 := R.grow g1
  obtain ⟨a', hA', _, ws, hH1, r1⟩ := R1.mine hc e0
  rw [hA] at hA'; cases hA'
  have ew := Rps.ints.mp r1
  subst ew
  refine ⟨a, _, m, .int y, rfl, rfl, hH1, m0, by rw [List.getElem?_map, hm]; rfl, G, A, W, env, _, R1, h1, fun p v H2 g2 rp ⟨z, ep, h2⟩ => ?_⟩
  subst ep
  have rp : Rp X.K ⟨Zt G A W, W, H2⟩ (.int z) v := rp
  unfold Rp at rp
  subst rp
  have R2 := R1.grow g2
  obtain ⟨a', hA', _, ws2, hH2, r2⟩ := R2.mine hc e0
  rw [hA] at hA'; cases hA'
  have ew := Rps.ints.mp r2
  subst ew
  have hl := (List.getElem?_eq_some_iff.mp hm).1
  refine ⟨y, z, rfl, rfl, a, _, m, m.toNat, rfl, rfl, hH2, ?_, ?_⟩
  · rw [List.length_map]; unfold ixN; rw [if_pos m0, if_pos (by omega)]
  rw [← List.map_set]
  exact k.nx A W _ σ _ (R2.mut e0 hA hc (OwnAt.mutL (.inr (.inr ⟨i, hA⟩)) (Rps.ints.mpr rfl))) h2⟩
@[simp] theorem s_sAugL {i : Nat} {o : Int → Int → Int} {ti te : TEm} {M : Em} {env : Env} : sAugL i o ti te M env ↔ ∃ ns : List Int, env[i]? = some (some (lI ns)) ∧ ti env fun q => ∃ (m x : Int), q = .int m ∧ 0 ≤ m ∧ ns[m.toNat]? = some x ∧ te env fun p => ∃ y, p = .int y ∧ M.nx (env.set i (some (lI (ns.set m.toNat (o x y))))) := .rfl
/-! ### sum(lists, []) -/
def oSumLL : POn := fun xs P => ∃ xss : List (List PV), xs = [.lst (xss.map .lst), .lst []] ∧ xss.flatten.length ≤ sizeLine ∧ P (.lst xss.flatten)
theorem rps_lists {K : PySem.W.Frag} {S : Wd} : ∀ {xss : List (List PV)} {vs : List V}, Rps K S (xss.map .lst) vs → ∃ us : List (Addr × List V), vs = us.map (fun p => V.ref p.1) ∧ (∀ p ∈ us, S.H p.1 = some (.lst p.2)) ∧ Rps K S xss.flatten (us.flatMap (·.2))
  | [], vs, h => ⟨[], by unfold Rps at h; exact h, fun p hp => absurd hp List.not_mem_nil, Rps.nil⟩
  | xs :: xss, vs, h => by
    rw [List.map_cons] at h
    unfold Rps at h
    obtain ⟨v, r, e, h1, h2⟩ := h
    obtain ⟨us, e1, e2, e3⟩ := rps_lists h2
    unfold Rp at h1
    obtain ⟨a, ws, e4, l, rs⟩ := h1
    refine ⟨(a, ws) :: us, by rw [e, e4, e1]; rfl, fun p hp => ?_, ?_⟩
    · rcases List.mem_cons.mp hp with z | z
      · rw [z]; exact l.2
      · exact e2 p z
    · rw [List.flatten_cons, List.flatMap_cons]
      exact rs.append e3
theorem lift_sumLL {K : PySem.W.Frag} : LiftN K (rSumLL K) oSumLL .ow := by
  rintro Z W H ps vs P Q S r ⟨xss, rfl, hl, hp⟩ k
  obtain ⟨v, v2, rfl, rv, rv2⟩ := r.two
  obtain ⟨l, ws, rfl, e, r1⟩ := rv.lst
  obtain ⟨b, ws2, rfl, e2, r2⟩ := rv2.lst
  unfold Rps at r2
  subst r2
  obtain ⟨us, rfl, h1, h2⟩ := rps_lists r1
  have hlen := h2.len
  refine ⟨l, b, us, rfl, .inl (.inl e.2), e2.2, h1, by rw [← hlen]; exact hl, fun ez => ?_, fun p n => ?_⟩
  · have ef : xss.flatten = [] := List.length_eq_zero_iff.mp (by rw [hlen, ez]; rfl)
    rw [ef] at hp
    exact k (.lst []) (.ref b) H (Grow.refl S.src) ⟨b, [], rfl, e2, Rps.nil⟩ hp
  · have g : Grow W H (upd H p (.lst (us.flatMap (·.2)))) := Grow.new S.src n
    exact k (.lst xss.flatten) (.ref p) _ g ⟨p, _, rfl, ⟨fun z => absurd (inW_some S.src z) (by rw [n]; rintro ⟨o, eo⟩; cases eo), upd_same⟩, Rps.ext (g.ext S.wz) h2⟩ hp
/-! ### len(set(xs)) -/
def distinct (ns : List Int) : List Int := PyProof.Rows.firstMet (fun i => ns.getD i 0) ns.length
theorem distinct_go (ns : List Int) : ∀ i, i ≤ ns.length → (PyProof.Rows.firstMet (fun i => ns.getD i 0) i).Nodup ∧ ∀ x, x ∈ PyProof.Rows.firstMet (fun i => ns.getD i 0) i ↔ x ∈ ns.take i
  | 0, _ => ⟨List.nodup_nil, fun x => by rw [List.take_zero]; exact .rfl⟩
  | i + 1, h => by
    obtain ⟨h1, h2⟩ := distinct_go ns i (by omega)
    have e : ns.take (i + 1) = ns.take i ++ [ns.getD i 0] := by
      rw [List.take_add_one, List.getD_eq_getElem?_getD, List.getElem?_eq_getElem (by omega)]; rfl
    rw [PyProof.Rows.firstMet_succ, e]
    unfold step_dedup
    have hb : ((PyProof.Rows.firstMet (fun i => ns.getD i 0) i).any (· == ns.getD i 0)) = true ↔ ns.getD i 0 ∈ PyProof.Rows.firstMet (fun i => ns.getD i 0) i := by
      rw [List.any_eq_true]
      exact ⟨fun ⟨y, hy, ey⟩ => by rw [← eq_of_beq ey]; exact hy, fun hy => ⟨_, hy, beq_self_eq_true _⟩⟩
    by_cases c : ((PyProof.Rows.firstMet (fun i => ns.getD i 0) i).any (· == ns.getD i 0)) = true
    · rw [if_pos c]
      refine ⟨h1, fun x => ?_⟩
      rw [List.mem_append, List.mem_singleton, h2]
      exact ⟨.inl, fun z => z.elim id fun z => z ▸ (h2 _).mp (hb.mp c)⟩
    · rw [if_neg c]
      refine ⟨?_, fun x => ?_⟩
      · rw [List.nodup_append]
        refine ⟨h1, by simp, fun a ha b hb2 => ?_⟩
        rw [List.mem_singleton.mp hb2]
        exact fun z => c (hb.mpr (z ▸ ha))
      · rw [List.mem_append, List.mem_append, h2]
theorem distinct_nodup (ns : List Int) : (distinct ns).Nodup := (distinct_go ns _ (Nat.le_refl _)).1
theorem mem_distinct {ns : List Int} {x : Int} : x ∈ distinct ns ↔ x ∈ ns := by
  have := (distinct_go ns _ (Nat.le_refl _)).2 x
  rwa [List.take_length] at this
def mLenSet (t : TEm) : TEm := fun env P => t env fun p => ∃ ns : List Int, p = lI ns ∧ ns.length ≤ 4000 ∧ P (.int ((distinct ns).length : Nat))
@[simp] theorem s_mLenSet {t : TEm} {env : Env} {P : PV → Prop} : mLenSet t env P ↔ t env fun p => ∃ ns : List Int, p = lI ns ∧ ns.length ≤ 4000 ∧ P (.int ((distinct ns).length : Nat)) := .rfl
end PM
namespace L2
open PySem PySem.Spec PyProof.Rows
def tLenSetN (K : PySem.W.Frag) (ta : TE) : TE := fun σ H Q => ta σ H fun x H1 => ∃ (l : Addr) (ns : List Int), x = V.ref l ∧ SqL K H1 l (ns.map V.int) ∧ ns.length ≤ 4000 ∧ Q (.int ((PM.distinct ns).length : Nat)) H1
theorem pe_lenSetN {X : Cx} {a : Expr} {ta : TE} {p p2 q pos : Pos} (hc : X.calm = true) (hg : Gl X "len") (hm : X.mg "len" = none) (hg2 : Gl X "set") (hm2 : X.mg "set" = none) (ha : PE X a ta)
    (na : starEach [a] X.env = (false, eval a X.env) :: starEach [] X.env := by rfl) : PE X (.Call (.Name "len" p) [.Call (.Name "set" p2) [a] [] q] [] pos) (tLenSetN X.K ta) := by
  refine ⟨fun pins s σ H Q I h => ?_⟩
  refine Call_ (ld_blt I hg hm PySem.boot_len ?_)
  refine PyProof.Rows.callWith_builtin1 (PyProof.Rows.args_cons ?_ rfl) rfl rfl
  refine Call_ (ld_blt I hg2 hm2 PyProof.Rows.boot_set ?_)
  refine PyProof.Rows.callWith_type1 (PyProof.Rows.args_cons (thn (ha.run pins s σ H _ I h) fun v s1 ⟨x, H1, I1, r1, q1⟩ => PyProof.Rows.args_nil ?_) na) na rfl
  obtain ⟨l, ns, rfl, hq, h1, q1⟩ := q1
  cases r1
  obtain ⟨its, r, pl, hz⟩ := I1.list hq
  have hl : its.toArray.size = ns.length := by rw [List.size_toArray, ← r.length, List.length_map]
  refine call_set_list (I1.ok.hd hc) pl.isList (ns := ns) (by simpa using r.ints) (by unfold scanBound; omega) fun h' tk hS hk => ?_
  rw [hl] at hS
  refine PyProof.Rows.args_nil ?_
  obtain ⟨o, es, ep, t, ho, hex, hd, _, _, _, hf, hn⟩ := hS
  have I2 : Inv X pins σ H1 { s1 with heap := h', toks := tk } := I1.kept fun b o e => hk b o (Heap.lt_size e) e
  have hle : (PM.distinct ns).length ≤ ns.length := by
    have := PyProof.Rows.firstMet_length_le (fun i => ns.getD i 0) ns.length
    exact this
  have hn : es.size = (PM.distinct ns).length := hn
  exact call_len_set ho hex hd hf (by rw [hn] <;> omega) ⟨.int ((PM.distinct ns).length : Nat), H1, I2.tok _, ⟨_, by rw [hn]⟩, q1⟩
end L2
namespace PM
open PySem PySem.Spec PyProof.Rows L2
theorem em_lenSetN {X : Cx} {c : List Ow} {a : Expr} {ta : TEm} {p p2 q pos : Pos} (hc : X.calm = true) (hg : Gl X "len") (hm : X.mg "len" = none) (hg2 : Gl X "set") (hm2 : X.mg "set" = none) (ha : PEm X c .ow a ta)
    (na : starEach [a] X.env = (false, eval a X.env) :: starEach [] X.env := by rfl) : PEm X c .cl (.Call (.Name "len" p) [.Call (.Name "set" p2) [a] [] q] [] pos) (mLenSet ta) := ⟨(pe_lenSetN hc hg hm hg2 hm2 ha.run na).weak fun σ H Q h => by
  obtain ⟨G, A, W, env, P, R, h, k⟩ := h
  refine ⟨G, A, W, env, _, R, h, fun px vx H1 g1 rx ⟨ns, ep, hl, h1⟩ => ?_⟩
  subst ep
  have rx : RpO X.K ⟨Zt G A W, W, H1⟩ (lI ns) vx := rx
  unfold lI at rx
  obtain ⟨a', ws, rfl, e, r⟩ := rx.lst
  have ew := Rps.ints.mp r
  subst ew
  exact ⟨a', ns, rfl, .inl (.inl e.2), hl, k _ _ H1 g1 (VK1.ofRp (by unfold Rp; rfl)) h1⟩⟩
end PM

set_option maxHeartbeats 4000000
/-! PM: a < b of tuples of whole numbers; sorted(list of tuples). -/
namespace PM
open PySem PySem.Spec PyProof.Rows L2
theorem units1 {A : Around} {k : Nat} (hr : L2.Room k A) : A.units < PySem.cLine := by have := hu65_of hr; omega
def oLtT : PO2 := fun x y P => ∃ ns ms : List Int, x = tI ns ∧ y = tI ms ∧ P (.bl (HT.lexLt ns ms))
theorem lift_ltT {K : PySem.W.Frag} : Lift2 K (rLtT K) oLtT .cl := by
  rintro Z W H px py vx vy P Q S rx ry ⟨ns, ms, rfl, rfl, hp⟩ k
  obtain ⟨a, ws, rfl, e, r1⟩ := rx.tup
  have ew := Rps.ints.mp r1
  subst ew
  obtain ⟨b, ws, rfl, e2, r2⟩ := ry.tup
  have ew := Rps.ints.mp r2
  subst ew
  exact ⟨a, b, ns, ms, rfl, rfl, e.sq, e2.sq, S.fin k Rp.bl' hp⟩
theorem tI_inj {ns ms : List Int} (h : tI ns = tI ms) : ns = ms := by
  injection h with h
  exact (List.map_inj_right fun a b h => by injection h).mp h
@[simp] theorem s_oLtT {ns ms : List Int} {P : PV → Prop} : oLtT (tI ns) (tI ms) P ↔ P (.bl (HT.lexLt ns ms)) := ⟨fun ⟨_, _, e1, e2, h⟩ => by rw [tI_inj e1, tI_inj e2]; exact h, fun h => ⟨ns, ms, rfl, rfl, h⟩⟩
theorem lexLt3 {a b c x y z : Int} : HT.lexLt [a, b, c] [x, y, z] = decide (a < x ∨ (a = x ∧ (b < y ∨ (b = y ∧ c < z)))) := by
  rw [HT.lexLt_cons, HT.lexLt_cons, HT.lexLt_cons]
  by_cases h1 : a = x
  · subst h1
    rw [if_pos rfl]
    by_cases h2 : b = y
    · subst h2
      rw [if_pos rfl]
      by_cases h3 : c = z
      · subst h3; rw [if_pos rfl]; simp [HT.lexLt]
      · rw [if_neg h3]; simp
    · rw [if_neg h2]; simp [h2]
  · rw [if_neg h1]; simp [h1]
/-- sorted(xs), xs a list of tuples of whole numbers -/
def oSortTs (d : Nat) (B : Int) : POn := fun xs P => ∃ ks : List (List Int), xs = [.lst (ks.map tI)] ∧ (∀ k ∈ ks, k.length = d ∧ TS.Bd B k) ∧ ks.length < 64 ∧ ∀ ys : List (List Int), ys.Perm ks → ys.Pairwise (fun k l => TS.code B k ≤ TS.code B l) → P (.lst (ys.map tI))
theorem lift_sortTs {K : PySem.W.Frag} {d : Nat} {B : Int} : LiftN K (rSortU K d B) (oSortTs d B) .fr := by
  rintro Z W H ps vs P Q S r ⟨ks, rfl, hk, h64, hp⟩ k
  obtain ⟨v, rfl, rv⟩ := r.one
  obtain ⟨a, ws, rfl, e, r1⟩ := rv.lst
  obtain ⟨L, rfl, el, r2⟩ := Rps.tupI (ks := ks) r1
  subst el
  rw [List.length_map] at h64
  refine ⟨a, _, rfl, .inl (.inl e.2), by rw [List.length_map]; exact h64, fun x hx => ?_, fun ys p pm pw n => ?_⟩
  · obtain ⟨q, hq, rfl⟩ := List.mem_map.mp hx
    obtain ⟨h1, h2⟩ := hk q.2 (List.mem_map_of_mem hq)
    exact ⟨q.2, ⟨q.1, rfl, (r2 q hq).sq⟩, h1, h2⟩
  · obtain ⟨M, hM, eM⟩ := perm_map (fun p : Addr × List Int => V.ref p.1) pm L rfl
    subst eM
    have x : Ext ⟨Z, W, H⟩ ⟨fun b => Z b ∨ b = p, W, upd H p (.lst (M.map fun q => V.ref q.1))⟩ := ⟨fun b o hz e => ⟨fun z => z.elim hz (ne_of_none e n), by show upd H p _ b = _; rw [upd_ne (ne_of_none e n)]; exact e⟩, fun _ h => h⟩
    have rr : Rps K ⟨fun b => Z b ∨ b = p, W, upd H p (.lst (M.map fun q => V.ref q.1))⟩ ((M.map (·.2)).map tI) (M.map fun q => V.ref q.1) := Rps.tupI' fun q hq => (r2 q (hM.mem_iff.mp hq)).ext x
    refine k (.lst ((M.map (·.2)).map tI)) (.ref p) _ (Grow.new S.src n) ⟨p, rfl, n, ⟨_, upd_same, rr⟩⟩ (hp (M.map (·.2)) (hM.map _) ?_)
    rw [List.pairwise_map] at pw ⊢
    exact pw.imp_of_mem fun {p q} h1 h2 h => h p.2 q.2 ⟨p.1, rfl, (r2 p (hM.mem_iff.mp h1)).sq⟩ ⟨q.1, rfl, (r2 q (hM.mem_iff.mp h2)).sq⟩
end PM

set_option maxHeartbeats 1000000
namespace K45
open PySem PySem.Spec PyProof.Rows L2 PM
/-! ### the text -/
def topS (i : Nat) : Stmt := PySem.Challenge.pw_keysapart_k45_whole_cheapest_schedules_a.main.body.getD i (.Pass ⟨0, 0, 0, 0⟩)
abbrev s_is_integer : Stmt := topS 1
abbrev n_is_integer : List Str := ["value"]
abbrev p_is_integer : List Str := ["value"]
theorem S_is_integer : FnScope n_is_integer p_is_integer (defScope s_is_integer) := ⟨rfl, rfl, rfl, by decide +kernel, rfl, by decide +kernel, by decide +kernel⟩
abbrev s_is_number : Stmt := topS 2
abbrev n_is_number : List Str := ["value", "most"]
abbrev p_is_number : List Str := ["value", "most"]
theorem S_is_number : FnScope n_is_number p_is_number (defScope s_is_number) := ⟨rfl, rfl, rfl, by decide +kernel, rfl, by decide +kernel, by decide +kernel⟩
abbrev s_is_ascending : Stmt := topS 3
abbrev n_is_ascending : List Str := ["row", "at"]
abbrev p_is_ascending : List Str := ["row"]
theorem S_is_ascending : FnScope n_is_ascending p_is_ascending (defScope s_is_ascending) := ⟨rfl, rfl, rfl, by decide +kernel, rfl, by decide +kernel, by decide +kernel⟩
abbrev s_union_of : Stmt := topS 5
abbrev n_union_of : List Str := ["course", "first", "last", "found", "lot", "house"]
abbrev p_union_of : List Str := ["course", "first", "last"]
theorem S_union_of : FnScope n_union_of p_union_of (defScope s_union_of) := ⟨rfl, rfl, rfl, by decide +kernel, rfl, by decide +kernel, by decide +kernel⟩
abbrev s_earliest_firsts : Stmt := topS 7
abbrev n_earliest_firsts : List Str := ["counted", "t", "last", "found", "first"]
abbrev p_earliest_firsts : List Str := ["counted", "t"]
theorem S_earliest_firsts : FnScope n_earliest_firsts p_earliest_firsts (defScope s_earliest_firsts) := ⟨rfl, rfl, rfl, by decide +kernel, rfl, by decide +kernel, by decide +kernel⟩
abbrev s_least_prices : Stmt := topS 8
abbrev n_least_prices : List Str := ["counted", "t", "costs", "last", "firsts", "found", "ways", "first"]
abbrev p_least_prices : List Str := ["counted", "t", "costs"]
theorem S_least_prices : FnScope n_least_prices p_least_prices (defScope s_least_prices) := ⟨rfl, rfl, rfl, by decide +kernel, rfl, by decide +kernel, by decide +kernel⟩
abbrev s_price_by : Stmt := topS 9
abbrev n_price_by : List Str := ["costs", "schedule", "one"]
abbrev p_price_by : List Str := ["costs", "schedule"]
theorem S_price_by : FnScope n_price_by p_price_by (defScope s_price_by) := ⟨rfl, rfl, rfl, by decide +kernel, rfl, by decide +kernel, by decide +kernel⟩
abbrev s_cheapest_schedule : Stmt := topS 10
abbrev n_cheapest_schedule : List Str := ["counted", "t", "costs", "prices", "schedule", "last"]
abbrev p_cheapest_schedule : List Str := ["counted", "t", "costs"]
theorem S_cheapest_schedule : FnScope n_cheapest_schedule p_cheapest_schedule (defScope s_cheapest_schedule) := ⟨rfl, rfl, rfl, by decide +kernel, rfl, by decide +kernel, by decide +kernel⟩
abbrev s_is_toll : Stmt := topS 12
abbrev n_is_toll : List Str := ["counted", "t", "value", "first", "last", "toll", "one"]
abbrev p_is_toll : List Str := ["counted", "t", "value"]
theorem S_is_toll : FnScope n_is_toll p_is_toll (defScope s_is_toll) := ⟨rfl, rfl, rfl, by decide +kernel, rfl, by decide +kernel, by decide +kernel⟩
abbrev s_tolls_at : Stmt := topS 13
abbrev n_tolls_at : List Str := ["tolls", "one", "first", "last", "toll"]
abbrev p_tolls_at : List Str := ["tolls", "one"]
theorem S_tolls_at : FnScope n_tolls_at p_tolls_at (defScope s_tolls_at) := ⟨rfl, rfl, rfl, by decide +kernel, rfl, by decide +kernel, by decide +kernel⟩
abbrev s_is_tolls : Stmt := topS 14
abbrev n_is_tolls : List Str := ["counted", "t", "costs", "value", "one"]
abbrev p_is_tolls : List Str := ["counted", "t", "costs", "value"]
theorem S_is_tolls : FnScope n_is_tolls p_is_tolls (defScope s_is_tolls) := ⟨rfl, rfl, rfl, by decide +kernel, rfl, by decide +kernel, by decide +kernel⟩
abbrev s_tolls_of : Stmt := topS 15
abbrev n_tolls_of : List Str := ["counted", "t", "costs", "found", "last", "prices", "firsts", "more"]
abbrev p_tolls_of : List Str := ["counted", "t", "costs"]
theorem S_tolls_of : FnScope n_tolls_of p_tolls_of (defScope s_tolls_of) := ⟨rfl, rfl, rfl, by decide +kernel, rfl, by decide +kernel, by decide +kernel⟩
abbrev s_l_heap : Stmt := topS 17
abbrev n_l_heap : List Str := ["script", "great", "cell", "cells", "stir"]
abbrev p_l_heap : List Str := ["script"]
theorem S_l_heap : FnScope n_l_heap p_l_heap (defScope s_l_heap) := ⟨rfl, rfl, rfl, by decide +kernel, rfl, by decide +kernel, by decide +kernel⟩
abbrev s_l_draw : Stmt := topS 18
abbrev n_l_draw : List Str := ["heap", "many", "rest"]
abbrev p_l_draw : List Str := ["heap", "many"]
theorem S_l_draw : FnScope n_l_draw p_l_draw (defScope s_l_draw) := ⟨rfl, rfl, rfl, by decide +kernel, rfl, by decide +kernel, by decide +kernel⟩
abbrev s_l_pick : Stmt := topS 19
abbrev n_l_pick : List Str := ["heap", "some"]
abbrev p_l_pick : List Str := ["heap", "some"]
theorem S_l_pick : FnScope n_l_pick p_l_pick (defScope s_l_pick) := ⟨rfl, rfl, rfl, by decide +kernel, rfl, by decide +kernel, by decide +kernel⟩
abbrev s_l_some : Stmt := topS 20
abbrev n_l_some : List Str := ["heap", "pool", "many", "turn", "left", "found", "place"]
abbrev p_l_some : List Str := ["heap", "pool", "many"]
theorem S_l_some : FnScope n_l_some p_l_some (defScope s_l_some) := ⟨rfl, rfl, rfl, by decide +kernel, rfl, by decide +kernel, by decide +kernel⟩
abbrev s_l_is_number : Stmt := topS 21
abbrev n_l_is_number : List Str := ["value"]
abbrev p_l_is_number : List Str := ["value"]
theorem S_l_is_number : FnScope n_l_is_number p_l_is_number (defScope s_l_is_number) := ⟨rfl, rfl, rfl, by decide +kernel, rfl, by decide +kernel, by decide +kernel⟩
abbrev s_l_union : Stmt := topS 22
abbrev n_l_union : List Str := ["counted", "first", "last", "lot"]
abbrev p_l_union : List Str := ["counted", "first", "last"]
theorem S_l_union : FnScope n_l_union p_l_union (defScope s_l_union) := ⟨rfl, rfl, rfl, by decide +kernel, rfl, by decide +kernel, by decide +kernel⟩
abbrev s_l_is_schedule : Stmt := topS 23
abbrev n_l_is_schedule : List Str := ["maps", "value", "one"]
abbrev p_l_is_schedule : List Str := ["maps", "value"]
theorem S_l_is_schedule : FnScope n_l_is_schedule p_l_is_schedule (defScope s_l_is_schedule) := ⟨rfl, rfl, rfl, by decide +kernel, rfl, by decide +kernel, by decide +kernel⟩
abbrev s_l_is_secret : Stmt := topS 24
abbrev n_l_is_secret : List Str := ["counted", "t", "schedule", "first", "last"]
abbrev p_l_is_secret : List Str := ["counted", "t", "schedule"]
theorem S_l_is_secret : FnScope n_l_is_secret p_l_is_secret (defScope s_l_is_secret) := ⟨rfl, rfl, rfl, by decide +kernel, rfl, by decide +kernel, by decide +kernel⟩
abbrev s_l_is_tolls : Stmt := topS 25
abbrev n_l_is_tolls : List Str := ["counted", "t", "costs", "value", "paid", "row", "one", "cost", "at"]
abbrev p_l_is_tolls : List Str := ["counted", "t", "costs", "value"]
theorem S_l_is_tolls : FnScope n_l_is_tolls p_l_is_tolls (defScope s_l_is_tolls) := ⟨rfl, rfl, rfl, by decide +kernel, rfl, by decide +kernel, by decide +kernel⟩
abbrev s_l_counted : Stmt := topS 26
abbrev n_l_counted : List Str := ["heap", "maps", "many", "pool", "lots", "lot", "turn", "house"]
abbrev p_l_counted : List Str := ["heap", "maps"]
theorem S_l_counted : FnScope n_l_counted p_l_counted (defScope s_l_counted) := ⟨rfl, rfl, rfl, by decide +kernel, rfl, by decide +kernel, by decide +kernel⟩
abbrev s_l_lasts : Stmt := topS 27
abbrev n_l_lasts : List Str := ["counted", "first", "t", "last", "seen", "found", "house"]
abbrev p_l_lasts : List Str := ["counted", "first", "t"]
theorem S_l_lasts : FnScope n_l_lasts p_l_lasts (defScope s_l_lasts) := ⟨rfl, rfl, rfl, by decide +kernel, rfl, by decide +kernel, by decide +kernel⟩
abbrev s_l_own_tolls : Stmt := topS 28
abbrev n_l_own_tolls : List Str := ["heap", "counted", "t", "costs", "turn", "left", "found", "first", "lasts", "last", "room", "toll", "one", "cost", "row"]
abbrev p_l_own_tolls : List Str := ["heap", "counted", "t", "costs"]
theorem S_l_own_tolls : FnScope n_l_own_tolls p_l_own_tolls (defScope s_l_own_tolls) := ⟨rfl, rfl, rfl, by decide +kernel, rfl, by decide +kernel, by decide +kernel⟩
abbrev s_l_bent : Stmt := topS 29
abbrev n_l_bent : List Str := ["heap", "tolls", "counted", "rows", "made", "at", "which", "part", "row"]
abbrev p_l_bent : List Str := ["heap", "tolls", "counted"]
theorem S_l_bent : FnScope n_l_bent p_l_bent (defScope s_l_bent) := ⟨rfl, rfl, rfl, by decide +kernel, rfl, by decide +kernel, by decide +kernel⟩
abbrev s_law : Stmt := topS 30
abbrev n_law : List Str := ["script", "heap", "maps", "counted", "great", "t", "top", "costs", "own", "turn", "told", "tolls", "price", "bent", "due", "said", "lot", "one", "row"]
abbrev p_law : List Str := ["script"]
theorem S_law : FnScope n_law p_law (defScope s_law) := ⟨rfl, rfl, rfl, by decide +kernel, rfl, by decide +kernel, by decide +kernel⟩
/-- what the top has written -/
structure Tx (K : PySem.W.Frag) (mg : Str → Option Value) : Type where
  a_is_integer : Addr
  d_is_integer : FuncData
  f_is_integer : FunD K "is_integer" "is_integer" (defArgs s_is_integer) (defBody s_is_integer) (defScope s_is_integer) [] [] a_is_integer d_is_integer
  m_is_integer : mg "is_integer" = some (.ref a_is_integer)
  b_is_integer : Binds K d_is_integer p_is_integer []
  a_is_number : Addr
  d_is_number : FuncData
  f_is_number : FunD K "is_number" "is_number" (defArgs s_is_number) (defBody s_is_number) (defScope s_is_number) [V.non] [] a_is_number d_is_number
  m_is_number : mg "is_number" = some (.ref a_is_number)
  u_is_number1 : List Value
  b_is_number1 : Binds K d_is_number p_is_number u_is_number1
  v_is_number1 : Vals [V.non] u_is_number1
  a_is_ascending : Addr
  d_is_ascending : FuncData
  f_is_ascending : FunD K "is_ascending" "is_ascending" (defArgs s_is_ascending) (defBody s_is_ascending) (defScope s_is_ascending) [] [] a_is_ascending d_is_ascending
  m_is_ascending : mg "is_ascending" = some (.ref a_is_ascending)
  b_is_ascending : Binds K d_is_ascending p_is_ascending []
  a_union_of : Addr
  d_union_of : FuncData
  f_union_of : FunD K "union_of" "union_of" (defArgs s_union_of) (defBody s_union_of) (defScope s_union_of) [] [] a_union_of d_union_of
  m_union_of : mg "union_of" = some (.ref a_union_of)
  b_union_of : Binds K d_union_of p_union_of []
  a_earliest_firsts : Addr
  d_earliest_firsts : FuncData
  f_earliest_firsts : FunD K "earliest_firsts" "earliest_firsts" (defArgs s_earliest_firsts) (defBody s_earliest_firsts) (defScope s_earliest_firsts) [] [] a_earliest_firsts d_earliest_firsts
  m_earliest_firsts : mg "earliest_firsts" = some (.ref a_earliest_firsts)
  b_earliest_firsts : Binds K d_earliest_firsts p_earliest_firsts []
  a_least_prices : Addr
  d_least_prices : FuncData
  f_least_prices : FunD K "least_prices" "least_prices" (defArgs s_least_prices) (defBody s_least_prices) (defScope s_least_prices) [] [] a_least_prices d_least_prices
  m_least_prices : mg "least_prices" = some (.ref a_least_prices)
  b_least_prices : Binds K d_least_prices p_least_prices []
  a_price_by : Addr
  d_price_by : FuncData
  f_price_by : FunD K "price_by" "price_by" (defArgs s_price_by) (defBody s_price_by) (defScope s_price_by) [] [] a_price_by d_price_by
  m_price_by : mg "price_by" = some (.ref a_price_by)
  b_price_by : Binds K d_price_by p_price_by []
  a_cheapest_schedule : Addr
  d_cheapest_schedule : FuncData
  f_cheapest_schedule : FunD K "cheapest_schedule" "cheapest_schedule" (defArgs s_cheapest_schedule) (defBody s_cheapest_schedule) (defScope s_cheapest_schedule) [] [] a_cheapest_schedule d_cheapest_schedule
  m_cheapest_schedule : mg "cheapest_schedule" = some (.ref a_cheapest_schedule)
  b_cheapest_schedule : Binds K d_cheapest_schedule p_cheapest_schedule []
  a_is_toll : Addr
  d_is_toll : FuncData
  f_is_toll : FunD K "is_toll" "is_toll" (defArgs s_is_toll) (defBody s_is_toll) (defScope s_is_toll) [] [] a_is_toll d_is_toll
  m_is_toll : mg "is_toll" = some (.ref a_is_toll)
  b_is_toll : Binds K d_is_toll p_is_toll []
  a_tolls_at : Addr
  d_tolls_at : FuncData
  f_tolls_at : FunD K "tolls_at" "tolls_at" (defArgs s_tolls_at) (defBody s_tolls_at) (defScope s_tolls_at) [] [] a_tolls_at d_tolls_at
  m_tolls_at : mg "tolls_at" = some (.ref a_tolls_at)
  b_tolls_at : Binds K d_tolls_at p_tolls_at []
  a_is_tolls : Addr
  d_is_tolls : FuncData
  f_is_tolls : FunD K "is_tolls" "is_tolls" (defArgs s_is_tolls) (defBody s_is_tolls) (defScope s_is_tolls) [] [] a_is_tolls d_is_tolls
  m_is_tolls : mg "is_tolls" = some (.ref a_is_tolls)
  b_is_tolls : Binds K d_is_tolls p_is_tolls []
  a_tolls_of : Addr
  d_tolls_of : FuncData
  f_tolls_of : FunD K "tolls_of" "tolls_of" (defArgs s_tolls_of) (defBody s_tolls_of) (defScope s_tolls_of) [] [] a_tolls_of d_tolls_of
  m_tolls_of : mg "tolls_of" = some (.ref a_tolls_of)
  b_tolls_of : Binds K d_tolls_of p_tolls_of []
  a_l_heap : Addr
  d_l_heap : FuncData
  f_l_heap : FunD K "_law_heap" "_law_heap" (defArgs s_l_heap) (defBody s_l_heap) (defScope s_l_heap) [] [] a_l_heap d_l_heap
  m_l_heap : mg "_law_heap" = some (.ref a_l_heap)
  b_l_heap : Binds K d_l_heap p_l_heap []
  a_l_draw : Addr
  d_l_draw : FuncData
  f_l_draw : FunD K "_law_draw" "_law_draw" (defArgs s_l_draw) (defBody s_l_draw) (defScope s_l_draw) [] [] a_l_draw d_l_draw
  m_l_draw : mg "_law_draw" = some (.ref a_l_draw)
  b_l_draw : Binds K d_l_draw p_l_draw []
  a_l_pick : Addr
  d_l_pick : FuncData
  f_l_pick : FunD K "_law_pick" "_law_pick" (defArgs s_l_pick) (defBody s_l_pick) (defScope s_l_pick) [] [] a_l_pick d_l_pick
  m_l_pick : mg "_law_pick" = some (.ref a_l_pick)
  b_l_pick : Binds K d_l_pick p_l_pick []
  a_l_some : Addr
  d_l_some : FuncData
  f_l_some : FunD K "_law_some" "_law_some" (defArgs s_l_some) (defBody s_l_some) (defScope s_l_some) [] [] a_l_some d_l_some
  m_l_some : mg "_law_some" = some (.ref a_l_some)
  b_l_some : Binds K d_l_some p_l_some []
  a_l_is_number : Addr
  d_l_is_number : FuncData
  f_l_is_number : FunD K "_law_is_number" "_law_is_number" (defArgs s_l_is_number) (defBody s_l_is_number) (defScope s_l_is_number) [] [] a_l_is_number d_l_is_number
  m_l_is_number : mg "_law_is_number" = some (.ref a_l_is_number)
  b_l_is_number : Binds K d_l_is_number p_l_is_number []
  a_l_union : Addr
  d_l_union : FuncData
  f_l_union : FunD K "_law_union" "_law_union" (defArgs s_l_union) (defBody s_l_union) (defScope s_l_union) [] [] a_l_union d_l_union
  m_l_union : mg "_law_union" = some (.ref a_l_union)
  b_l_union : Binds K d_l_union p_l_union []
  a_l_is_schedule : Addr
  d_l_is_schedule : FuncData
  f_l_is_schedule : FunD K "_law_is_schedule" "_law_is_schedule" (defArgs s_l_is_schedule) (defBody s_l_is_schedule) (defScope s_l_is_schedule) [] [] a_l_is_schedule d_l_is_schedule
  m_l_is_schedule : mg "_law_is_schedule" = some (.ref a_l_is_schedule)
  b_l_is_schedule : Binds K d_l_is_schedule p_l_is_schedule []
  a_l_is_secret : Addr
  d_l_is_secret : FuncData
  f_l_is_secret : FunD K "_law_is_secret" "_law_is_secret" (defArgs s_l_is_secret) (defBody s_l_is_secret) (defScope s_l_is_secret) [] [] a_l_is_secret d_l_is_secret
  m_l_is_secret : mg "_law_is_secret" = some (.ref a_l_is_secret)
  b_l_is_secret : Binds K d_l_is_secret p_l_is_secret []
  a_l_is_tolls : Addr
  d_l_is_tolls : FuncData
  f_l_is_tolls : FunD K "_law_is_tolls" "_law_is_tolls" (defArgs s_l_is_tolls) (defBody s_l_is_tolls) (defScope s_l_is_tolls) [] [] a_l_is_tolls d_l_is_tolls
  m_l_is_tolls : mg "_law_is_tolls" = some (.ref a_l_is_tolls)
  b_l_is_tolls : Binds K d_l_is_tolls p_l_is_tolls []
  a_l_counted : Addr
  d_l_counted : FuncData
  f_l_counted : FunD K "_law_counted" "_law_counted" (defArgs s_l_counted) (defBody s_l_counted) (defScope s_l_counted) [] [] a_l_counted d_l_counted
  m_l_counted : mg "_law_counted" = some (.ref a_l_counted)
  b_l_counted : Binds K d_l_counted p_l_counted []
  a_l_lasts : Addr
  d_l_lasts : FuncData
  f_l_lasts : FunD K "_law_lasts" "_law_lasts" (defArgs s_l_lasts) (defBody s_l_lasts) (defScope s_l_lasts) [] [] a_l_lasts d_l_lasts
  m_l_lasts : mg "_law_lasts" = some (.ref a_l_lasts)
  b_l_lasts : Binds K d_l_lasts p_l_lasts []
  a_l_own_tolls : Addr
  d_l_own_tolls : FuncData
  f_l_own_tolls : FunD K "_law_own_tolls" "_law_own_tolls" (defArgs s_l_own_tolls) (defBody s_l_own_tolls) (defScope s_l_own_tolls) [] [] a_l_own_tolls d_l_own_tolls
  m_l_own_tolls : mg "_law_own_tolls" = some (.ref a_l_own_tolls)
  b_l_own_tolls : Binds K d_l_own_tolls p_l_own_tolls []
  a_l_bent : Addr
  d_l_bent : FuncData
  f_l_bent : FunD K "_law_bent" "_law_bent" (defArgs s_l_bent) (defBody s_l_bent) (defScope s_l_bent) [] [] a_l_bent d_l_bent
  m_l_bent : mg "_law_bent" = some (.ref a_l_bent)
  b_l_bent : Binds K d_l_bent p_l_bent []
  a_law : Addr
  d_law : FuncData
  f_law : FunD K "law" "law" (defArgs s_law) (defBody s_law) (defScope s_law) [] [] a_law d_law
  m_law : mg "law" = some (.ref a_law)
  z_abs : mg "abs" = none
  z_all : mg "all" = none
  z_bool : mg "bool" = none
  z_int : mg "int" = none
  z_isinstance : mg "isinstance" = none
  z_len : mg "len" = none
  z_list : mg "list" = none
  z_max : mg "max" = none
  z_min : mg "min" = none
  z_range : mg "range" = none
  z_set : mg "set" = none
  z_sorted : mg "sorted" = none
  z_sum : mg "sum" = none
  z_tuple : mg "tuple" = none
section
variable {P : Program} {w : World} {K : PySem.W.Frag} {mg : Str → Option Value} {base : Heap}
def t_is_integer : TSm :=
  (sRet (mAndV (mOp1 (oIsi "int") (mVar 0)) (mOp1 oNot (mOp1 (oIsi "bool") (mVar 0)))))
theorem w_is_integer (T : Tx K mg) (cdv : Value) (A : Around) (outer : List PySem.Env) (s : Shared) (H : Hp) (E : XK)
    (hr : Room 0 (A.deeper (PyProof.Rows.envOfC "is_integer" (defScope s_is_integer) s.heap.objs.size T.a_is_integer cdv))) :
    ∃ c', PSsm (bodyX P w K mg base n_is_integer "is_integer" s_is_integer T.a_is_integer cdv A outer s H E) ⟨.cl, false, []⟩ (shs 1) c' (defBody s_is_integer) (t_is_integer) :=
  ⟨[.sh], (sm_one (sm_ret (em_and (PEm.ow (em_isi "int" (PEm.ow (em_var 0)) (by rfl) T.z_isinstance (by rfl) T.z_int PyProof.Rows.boot_int)) (em_one (em_not (PEm.ow (em_isi "bool" (PEm.ow (em_var 0)) (by rfl) T.z_isinstance (by rfl) T.z_bool PyProof.Rows.boot_bool)))))))⟩
def t_is_number (sp_is_integer : PM.Spec) : TSm :=
  (sRet (mAndV (mCall sp_is_integer [] (mCons (mVar 0) mNil)) (mAndV (mOp oGe (mVar 0) (mC (.int 0))) (mOrV (mOp oIsN (mVar 1) (mC (.non))) (mOp oLe (mVar 0) (mVar 1))))))
theorem w_is_number (T : Tx K mg) (sp_is_integer : PM.Spec)
    (F_is_integer : FnOk P w K mg base CX0 1 T.a_is_integer T.d_is_integer p_is_integer (spM K .cl sp_is_integer)) (cdv : Value) (A : Around) (outer : List PySem.Env) (s : Shared) (H : Hp) (E : XK)
    (hr : Room 1 (A.deeper (PyProof.Rows.envOfC "is_number" (defScope s_is_number) s.heap.objs.size T.a_is_number cdv))) :
    ∃ c', PSsm (bodyX P w K mg base n_is_number "is_number" s_is_number T.a_is_number cdv A outer s H E) ⟨.cl, false, []⟩ (shs 2) c' (defBody s_is_number) (t_is_number sp_is_integer) :=
  ⟨[.sh, .sh], (sm_one (sm_ret (em_and (PEm.ow (em_call F_is_integer (hr.mono (by decide)) T.m_is_integer T.f_is_integer.kp T.b_is_integer .nil (fun _ => Rps.nil) (am_consC (em_var 0) am_nil))) (em_and (PEm.ow (em_cmp op_ge lift_ge (PEm.ow (em_var 0)) (PEm.ow em_int) (nomark _))) (em_one (em_or (PEm.ow (em_cmp op_isN lift_isN (PEm.ow (em_var 1)) (PEm.ow em_non) (nomark _))) (em_one (em_cmp op_le lift_le (PEm.ow (em_var 0)) (PEm.ow (em_var 1)) (nomark _)))))))))⟩
def t_is_ascending : TSm :=
  (sRet (mB oAll (mCons (mLc (mRng2 (mC (.int 1)) (mB oLen (mCons (mVar 0) mNil))) [1] (gmN 1) mYes (mOp oLtT (mOp oIx (mVar 0) (mOp oSub (mVar 1) (mC (.int 1)))) (mOp oIx (mVar 0) (mVar 1)))) mNil)))
theorem w_is_ascending (T : Tx K mg) (cdv : Value) (A : Around) (outer : List PySem.Env) (s : Shared) (H : Hp) (E : XK)
    (hr : Room 0 (A.deeper (PyProof.Rows.envOfC "is_ascending" (defScope s_is_ascending) s.heap.objs.size T.a_is_ascending cdv))) :
    ∃ c', PSsm (bodyX P w K mg base n_is_ascending "is_ascending" s_is_ascending T.a_is_ascending cdv A outer s H E) ⟨.cl, false, []⟩ (shs 2) c' (defBody s_is_ascending) (t_is_ascending) :=
  ⟨[.sh, .sh], (sm_one (sm_ret (em_callB (cr_all rfl) lift_all (by rfl) T.z_all PyProof.Rows.boot_all (am_cons (PEm.ow (em_lc (own := [("at", 1)]) rfl S_is_ascending.nd (im_rng2 T.z_range (PEm.ow em_int) (PEm.ow (em_callB call_lenA lift_len (by rfl) T.z_len PySem.boot_len (am_cons (PEm.ow (em_var 0)) am_nil)))) (blkOk_by (N := n_is_ascending) (sc := defScope s_is_ascending) (by decide +kernel)) (fun _ _ _ _ _ => (gm_name 1 S_is_ascending.nd)) (fun _ _ _ _ _ => tsm_nil) (fun _ _ _ _ _ => (em_cmp (op_ltT (PM.units1 hr)) lift_ltT (PEm.ow (em_ix (PEm.ow (em_var 0)) (PEm.ow (em_op op_sub lift_sub (PEm.ow (em_var 1)) (PEm.ow em_int))) (fun _ _ => rfl))) (PEm.ow (em_ix (PEm.ow (em_var 0)) (PEm.ow (em_var 1)) (fun _ _ => rfl))) (nomark _))))) am_nil))))⟩
def t_union_of : TSm :=
  (sSeq (sSet 3 (mC (.dic [] []))) (sSeq (sFor (mItems (mSl oSl (mVar 0) (mPart (mVar 1)) (mPart (mOp oAdd (mVar 2) (mC (.int 1)))))) (gmN 4) (sFor (mItems (mVar 4)) (gmN 5) (sDPutm 3 (mVar 5) (mC (.bl true))))) (sRet (mB oTuple (mCons (mB oSorted (mCons (mVarO 3) mNil)) mNil)))))
theorem w_union_of (T : Tx K mg) (cdv : Value) (A : Around) (outer : List PySem.Env) (s : Shared) (H : Hp) (E : XK)
    (hr : Room 0 (A.deeper (PyProof.Rows.envOfC "union_of" (defScope s_union_of) s.heap.objs.size T.a_union_of cdv))) :
    ∃ c', PSsm (bodyX P w K mg base n_union_of "union_of" s_union_of T.a_union_of cdv A outer s H E) ⟨.cl, false, []⟩ (shs 6) c' (defBody s_union_of) (t_union_of) :=
  ⟨[.sh, .sh, .sh, .sh, .sh, .sh], (sm_cons (sm_setF 3 S_union_of.nd em_dnew)
    (sm_cons (sm_for (c := [.sh, .sh, .sh, .ow, .sh, .sh]) .never rfl (im_seq (em_sl (PEm.ow (em_var 0)) (om_some (PEm.ow (em_var 1))) (om_some (PEm.ow (em_op op_plus lift_plus (PEm.ow (em_var 2)) (PEm.ow em_int)))))) (gm_name 4 S_union_of.nd) (sm_one (sm_for (c := [.sh, .sh, .sh, .ow, .sh, .sh]) .never rfl (im_seq (em_var 4)) (gm_name 5 S_union_of.nd) (sm_one (sm_dput 3 (hu_of hr) em_bl (PEm.ow (em_var 5)))) (fun _ e => by cases e))) (fun _ e => by cases e))
    (sm_one (sm_ret (em_callTy call_tuple_of lift_tuple (by rfl) T.z_tuple PyProof.Rows.boot_tuple (am_cons (PEm.ow (em_callB (call_sortedA rfl) lift_sorted (by rfl) T.z_sorted PyProof.Rows.boot_sorted (am_cons (em_varO 3) am_nil))) am_nil))))))⟩
def t_earliest_firsts (sp_union_of : PM.Spec) : TSm :=
  (sSeq (sPar [3, 4] (mCons (mLst mNil) (mCons (mC (.int 0)) mNil))) (sSeq (sFor (mRng1 (mB oLen (mCons (mVar 0) mNil))) (gmN 2) (sSeq (sWhile (mAnd (mTB (mOp oLe (mVar 4) (mVar 2))) (mTB (mOp oGt (mB oLen (mCons (mCall sp_union_of [] (mCons (mVar 0) (mCons (mVar 4) (mCons (mVar 2) mNil)))) mNil)) (mVar 1)))) (sAug 4 oAddI (mC (.int 1)))) (sApp 3 (mIf (mTB (mOp oLe (mVar 4) (mVar 2))) (mVar 4) (mC (.non)))))) (sRet (mB oTuple (mCons (mVarO 3) mNil)))))
theorem w_earliest_firsts (T : Tx K mg) (sp_union_of : PM.Spec)
    (F_union_of : FnOk P w K mg base CX0 1 T.a_union_of T.d_union_of p_union_of (spM K .cl sp_union_of)) (cdv : Value) (A : Around) (outer : List PySem.Env) (s : Shared) (H : Hp) (E : XK)
    (hr : Room 1 (A.deeper (PyProof.Rows.envOfC "earliest_firsts" (defScope s_earliest_firsts) s.heap.objs.size T.a_earliest_firsts cdv))) :
    ∃ c', PSsm (bodyX P w K mg base n_earliest_firsts "earliest_firsts" s_earliest_firsts T.a_earliest_firsts cdv A outer s H E) ⟨.cl, false, []⟩ (shs 5) c' (defBody s_earliest_firsts) (t_earliest_firsts sp_union_of) :=
  ⟨[.sh, .sh, .sh, .sh, .sh], (sm_cons (sm_par [3, 4] rfl S_earliest_firsts.nd (xm_fr (em_lst am_nil) (xm_cl em_int xm_nil)))
    (sm_cons (sm_for (c := [.sh, .sh, .sh, .ow, .sh]) .never rfl (im_rng1 T.z_range (PEm.ow (em_callB call_lenA lift_len (by rfl) T.z_len PySem.boot_len (am_cons (PEm.ow (em_var 0)) am_nil)))) (gm_name 2 S_earliest_firsts.nd) (sm_cons (sm_while (c := [.sh, .sh, .sh, .ow, .sh]) .never (PWm.pt (wm_and (tm_cmp op_le lift_le (PEm.ow (em_var 4)) (PEm.ow (em_var 2)) (nomark _)) (wm_and1 (tm_cmp op_gt lift_gt (PEm.ow (em_callB call_lenA lift_len (by rfl) T.z_len PySem.boot_len (am_cons (PEm.ow (em_call F_union_of (hr.mono (by decide)) T.m_union_of T.f_union_of.kp T.b_union_of .nil (fun _ => Rps.nil) (am_consC (em_var 0) (am_consC (em_var 4) (am_consC (em_var 2) am_nil))))) am_nil))) (PEm.ow (em_var 1)) (nomark _))))) (sm_one (sm_aug 4 iop_add lift_addI S_earliest_firsts.nd (PEm.ow em_int))))
    (sm_one (sm_app 3 (em_if (tm_cmp op_le lift_le (PEm.ow (em_var 4)) (PEm.ow (em_var 2)) (nomark _)) (em_var 4) em_non)))) (fun _ e => by cases e))
    (sm_one (sm_ret (em_callTy call_tuple_of lift_tuple (by rfl) T.z_tuple PyProof.Rows.boot_tuple (am_cons (em_varO 3) am_nil))))))⟩
def t_least_prices (sp_earliest_firsts : PM.Spec) : TSm :=
  (sSeq (sPar [4, 5] (mCons (mCall sp_earliest_firsts [] (mCons (mVar 0) (mCons (mVar 1) mNil))) (mCons (mLst mNil) mNil))) (sSeq (sIf (mTB (mOp (oInA false) (mC (.non)) (mVar 4))) (sRet (mTup mNil)) sNext) (sSeq (sFor (mRng1 (mB oLen (mCons (mVar 0) mNil))) (gmN 3) (sIf (mTB (mOp oEq (mOp oIx (mVar 4) (mVar 3)) (mC (.int 0)))) (sApp 5 (mTup (mCons (mC (.int 0)) (mCons (mC (.int 0)) mNil)))) (sSeq (sSet 6 (mLc (mRng2 (mOp oIx (mVar 4) (mVar 3)) (mOp oAdd (mVar 3) (mC (.int 1)))) [7] (gmN 7) mYes (mTup (mCons (mOp oAdd (mOp oIx (mOp oIx (mVarO 5) (mOp oSub (mVar 7) (mC (.int 1)))) (mC (.int 0))) (mOp oIx (mVar 2) (mOp oSub (mVar 7) (mC (.int 1))))) (mCons (mVar 7) mNil))))) (sApp 5 (mB (oBest bestLt) (mCons (mVarO 6) mNil)))))) (sRet (mB oTuple (mCons (mVarO 5) mNil))))))
theorem w_least_prices (T : Tx K mg) (sp_earliest_firsts : PM.Spec)
    (F_earliest_firsts : FnOk P w K mg base CX0 2 T.a_earliest_firsts T.d_earliest_firsts p_earliest_firsts (spM K .cl sp_earliest_firsts)) (cdv : Value) (A : Around) (outer : List PySem.Env) (s : Shared) (H : Hp) (E : XK)
    (hr : Room 2 (A.deeper (PyProof.Rows.envOfC "least_prices" (defScope s_least_prices) s.heap.objs.size T.a_least_prices cdv))) :
    ∃ c', PSsm (bodyX P w K mg base n_least_prices "least_prices" s_least_prices T.a_least_prices cdv A outer s H E) ⟨.cl, false, []⟩ (shs 8) c' (defBody s_least_prices) (t_least_prices sp_earliest_firsts) :=
  ⟨[.sh, .sh, .sh, .sh, .sh, .sh, .sh, .sh], (sm_cons (sm_parG [4, 5] rfl (pgs_n S_least_prices.nd (pgs_n S_least_prices.nd pgs_n0)) (xm_cl (em_call F_earliest_firsts (hr.mono (by decide)) T.m_earliest_firsts T.f_earliest_firsts.kp T.b_earliest_firsts .nil (fun _ => Rps.nil) (am_consC (em_var 0) (am_consC (em_var 1) am_nil))) (xm_fr (em_lst am_nil) xm_nil)))
    (sm_cons (sm_if (c' := [.sh, .sh, .sh, .sh, .sh, .ow, .sh, .sh]) (tm_cmp (op_inA (hu65_of hr)) lift_inA (PEm.ow em_non) (PEm.ow (em_var 4)) (by with_unfolding_all rfl)) (sm_one (sm_ret (em_tup am_nil))) sm_nil)
    (sm_cons (sm_for (c := [.sh, .sh, .sh, .sh, .sh, .ow, .sh, .sh]) .never rfl (im_rng1 T.z_range (PEm.ow (em_callB call_lenA lift_len (by rfl) T.z_len PySem.boot_len (am_cons (PEm.ow (em_var 0)) am_nil)))) (gm_name 3 S_least_prices.nd) (sm_one (sm_if (c' := [.sh, .sh, .sh, .sh, .sh, .ow, .sh, .sh]) (tm_cmp (op_eqD hr.units) lift_eq (PEm.ow (em_ix (PEm.ow (em_var 4)) (PEm.ow (em_var 3)) (fun _ _ => rfl))) (PEm.ow em_int) (nomark _)) (sm_one (sm_app 5 (em_tup (am_consC em_int (am_consC em_int am_nil))))) (sm_post (by decide) (sm_cons (sm_setLc 6 (hsw := sw_true rfl rfl rfl (by decide +kernel)) (own := [("first", 7)]) rfl S_least_prices.nd (im_rng2 T.z_range (PEm.ow (em_ix (PEm.ow (em_var 4)) (PEm.ow (em_var 3)) (fun _ _ => rfl))) (PEm.ow (em_op op_plus lift_plus (PEm.ow (em_var 3)) (PEm.ow em_int)))) (blkOk_by (N := n_least_prices) (sc := defScope s_least_prices) (by decide +kernel)) (fun _ _ _ _ _ => (gm_name 7 S_least_prices.nd)) (fun _ _ _ _ _ => tsm_nil) (fun _ _ _ _ _ => (em_tup (am_consC (em_op op_plus lift_plus (PEm.ow (em_ix (PEm.ow (em_ix (em_varO 5) (PEm.ow (em_op op_sub lift_sub (PEm.ow (em_var 7)) (PEm.ow em_int))) (fun _ _ => rfl))) (PEm.ow em_int) (fun _ _ => rfl))) (PEm.ow (em_ix (PEm.ow (em_var 2)) (PEm.ow (em_op op_sub lift_sub (PEm.ow (em_var 7)) (PEm.ow em_int))) (fun _ _ => rfl)))) (am_consC (em_var 7) am_nil)))))
    (sm_one (sm_app 5 (em_callB (cr_minDa rfl hr.units) (lift_best bestLt_lt) (by rfl) T.z_min PyProof.Rows.boot_min (am_cons (em_varO 6) am_nil)))))))) (fun _ e => by cases e))
    (sm_one (sm_ret (em_callTy call_tuple_of lift_tuple (by rfl) T.z_tuple PyProof.Rows.boot_tuple (am_cons (em_varO 5) am_nil)))))))⟩
def t_price_by : TSm :=
  (sRet (mB oSum (mCons (mLc (mItems (mVar 1)) [2] (gmN 2) mYes (mOp oIx (mVar 0) (mVar 2))) mNil)))
theorem w_price_by (T : Tx K mg) (cdv : Value) (A : Around) (outer : List PySem.Env) (s : Shared) (H : Hp) (E : XK)
    (hr : Room 0 (A.deeper (PyProof.Rows.envOfC "price_by" (defScope s_price_by) s.heap.objs.size T.a_price_by cdv))) :
    ∃ c', PSsm (bodyX P w K mg base n_price_by "price_by" s_price_by T.a_price_by cdv A outer s H E) ⟨.cl, false, []⟩ (shs 3) c' (defBody s_price_by) (t_price_by) :=
  ⟨[.sh, .sh, .sh], (sm_one (sm_ret (em_callB (cr_sum rfl) lift_sum (by rfl) T.z_sum PyProof.Rows.boot_sum (am_cons (PEm.ow (em_lc (own := [("one", 2)]) rfl S_price_by.nd (im_seq (em_var 1)) (blkOk_by (N := n_price_by) (sc := defScope s_price_by) (by decide +kernel)) (fun _ _ _ _ _ => (gm_name 2 S_price_by.nd)) (fun _ _ _ _ _ => tsm_nil) (fun _ _ _ _ _ => (em_ix (PEm.ow (em_var 0)) (PEm.ow (em_var 2)) (fun _ _ => rfl))))) am_nil))))⟩
def t_cheapest_schedule (sp_least_prices : PM.Spec) : TSm :=
  (sSeq (sSet 3 (mCall sp_least_prices [] (mCons (mVar 0) (mCons (mVar 1) (mCons (mVar 2) mNil))))) (sSeq (sIf (mTB (mOp oEq (mVar 3) (mTup mNil))) (sRet (mC (.non))) sNext) (sSeq (sPar [4, 5] (mCons (mLst mNil) (mCons (mOp oSub (mB oLen (mCons (mVar 0) mNil)) (mC (.int 1))) mNil))) (sSeq (sWhile (mTB (mOp oGt (mOp oIx (mOp oIx (mVar 3) (mVar 5)) (mC (.int 1))) (mC (.int 0)))) (sSeq (sSet 5 (mOp oSub (mOp oIx (mOp oIx (mVar 3) (mVar 5)) (mC (.int 1))) (mC (.int 1)))) (sApp 4 (mVar 5)))) (sRet (mB oTuple (mCons (mOp1 oRev (mVarO 4)) mNil)))))))
theorem w_cheapest_schedule (T : Tx K mg) (sp_least_prices : PM.Spec)
    (F_least_prices : FnOk P w K mg base CX0 3 T.a_least_prices T.d_least_prices p_least_prices (spM K .cl sp_least_prices)) (cdv : Value) (A : Around) (outer : List PySem.Env) (s : Shared) (H : Hp) (E : XK)
    (hr : Room 3 (A.deeper (PyProof.Rows.envOfC "cheapest_schedule" (defScope s_cheapest_schedule) s.heap.objs.size T.a_cheapest_schedule cdv))) :
    ∃ c', PSsm (bodyX P w K mg base n_cheapest_schedule "cheapest_schedule" s_cheapest_schedule T.a_cheapest_schedule cdv A outer s H E) ⟨.cl, false, []⟩ (shs 6) c' (defBody s_cheapest_schedule) (t_cheapest_schedule sp_least_prices) :=
  ⟨[.sh, .sh, .sh, .sh, .sh, .sh], (sm_cons (sm_set 3 S_cheapest_schedule.nd (em_call F_least_prices (hr.mono (by decide)) T.m_least_prices T.f_least_prices.kp T.b_least_prices .nil (fun _ => Rps.nil) (am_consC (em_var 0) (am_consC (em_var 1) (am_consC (em_var 2) am_nil)))))
    (sm_cons (sm_if (c' := [.sh, .sh, .sh, .sh, .sh, .sh]) (tm_cmp (op_eqD hr.units) lift_eq (PEm.ow (em_var 3)) (PEm.ow (em_tup am_nil)) (nomark _)) (sm_one (sm_ret em_non)) sm_nil)
    (sm_cons (sm_par [4, 5] rfl S_cheapest_schedule.nd (xm_fr (em_lst am_nil) (xm_cl (em_op op_sub lift_sub (PEm.ow (em_callB call_lenA lift_len (by rfl) T.z_len PySem.boot_len (am_cons (PEm.ow (em_var 0)) am_nil))) (PEm.ow em_int)) xm_nil)))
    (sm_cons (sm_while (c := [.sh, .sh, .sh, .sh, .ow, .sh]) .never (tm_cmp op_gt lift_gt (PEm.ow (em_ix (PEm.ow (em_ix (PEm.ow (em_var 3)) (PEm.ow (em_var 5)) (fun _ _ => rfl))) (PEm.ow em_int) (fun _ _ => rfl))) (PEm.ow em_int) (nomark _)) (sm_cons (sm_set 5 S_cheapest_schedule.nd (em_op op_sub lift_sub (PEm.ow (em_ix (PEm.ow (em_ix (PEm.ow (em_var 3)) (PEm.ow (em_var 5)) (fun _ _ => rfl))) (PEm.ow em_int) (fun _ _ => rfl))) (PEm.ow em_int)))
    (sm_one (sm_app 4 (em_var 5)))))
    (sm_one (sm_ret (em_callTy call_tuple_of lift_tuple (by rfl) T.z_tuple PyProof.Rows.boot_tuple (am_cons (PEm.ow (em_rev (em_varO 4))) am_nil))))))))⟩
def t_is_toll (sp_union_of : PM.Spec) (sp_is_number : PM.Spec) : TSm :=
  (sSeq (sIf (mOr (mNot (mTB (mOp1 (oIsi "tuple") (mVar 2)))) (mOr (mTB (mOp oNe (mB oLen (mCons (mVar 2) mNil)) (mC (.int 3)))) (mNot (mTB (mB oAll (mCons (mLc (mItems (mVar 2)) [6] (gmN 6) mYes (mCall sp_is_number [.non] (mCons (mVar 6) mNil))) mNil)))))) (sRet (mC (.bl false))) sNext) (sSeq (sAsg (mVar 2) (gmT 3 (gmCons (gmN 3) (gmCons (gmN 4) (gmCons (gmN 5) gmNil))))) (sSeq (sIf (mOr (mNot (mTB (mOp oLe (mVar 3) (mVar 4)))) (mOr (mTB (mOp oGe (mVar 4) (mB oLen (mCons (mVar 0) mNil)))) (mTB (mOp oEq (mVar 5) (mC (.int 0)))))) (sRet (mC (.bl false))) sNext) (sRet (mOp oGt (mB oLen (mCons (mCall sp_union_of [] (mCons (mVar 0) (mCons (mVar 3) (mCons (mVar 4) mNil)))) mNil)) (mVar 1))))))
theorem w_is_toll (T : Tx K mg) (sp_union_of : PM.Spec) (sp_is_number : PM.Spec)
    (F_union_of : FnOk P w K mg base CX0 1 T.a_union_of T.d_union_of p_union_of (spM K .cl sp_union_of))
    (F_is_number : FnOk P w K mg base CX0 2 T.a_is_number T.d_is_number p_is_number (spM K .cl sp_is_number)) (cdv : Value) (A : Around) (outer : List PySem.Env) (s : Shared) (H : Hp) (E : XK)
    (hr : Room 2 (A.deeper (PyProof.Rows.envOfC "is_toll" (defScope s_is_toll) s.heap.objs.size T.a_is_toll cdv))) :
    ∃ c', PSsm (bodyX P w K mg base n_is_toll "is_toll" s_is_toll T.a_is_toll cdv A outer s H E) ⟨.cl, false, []⟩ (shs 7) c' (defBody s_is_toll) (t_is_toll sp_union_of sp_is_number) :=
  ⟨[.sh, .sh, .sh, .sh, .sh, .sh, .sh], (sm_cons (sm_if (c' := [.sh, .sh, .sh, .sh, .sh, .sh, .sh]) (PWm.pt (wm_or (tm_not (tm_val (PEm.ow (em_isi "tuple" (PEm.ow (em_var 2)) (by rfl) T.z_isinstance (by rfl) T.z_tuple PyProof.Rows.boot_tuple)))) (wm_or (tm_cmp (op_neD hr.units) lift_ne (PEm.ow (em_callB call_lenA lift_len (by rfl) T.z_len PySem.boot_len (am_cons (PEm.ow (em_var 2)) am_nil))) (PEm.ow em_int) (nomark _)) (wm_or1 (tm_not (tm_val (PEm.ow (em_callB (cr_all rfl) lift_all (by rfl) T.z_all PyProof.Rows.boot_all (am_cons (PEm.ow (em_lc (own := [("one", 6)]) rfl S_is_toll.nd (im_seq (em_var 2)) (blkOk_by (N := n_is_toll) (sc := defScope s_is_toll) (by decide +kernel)) (fun _ _ _ _ _ => (gm_name 6 S_is_toll.nd)) (fun _ _ _ _ _ => tsm_nil) (fun _ _ _ _ _ => (em_call F_is_number (hr.mono (by decide)) T.m_is_number T.f_is_number.kp T.b_is_number1 T.v_is_number1 (cst_ok _ rfl) (am_consC (em_var 6) am_nil))))) am_nil))))))))) (sm_one (sm_ret em_bl)) sm_nil)
    (sm_cons (sm_asg (em_var 2) (gm_tup rfl (gsm_cons (gm_name 3 S_is_toll.nd) (gsm_cons (gm_name 4 S_is_toll.nd) (gsm_cons (gm_name 5 S_is_toll.nd) gsm_nil)))))
    (sm_cons (sm_if (c' := [.sh, .sh, .sh, .sh, .sh, .sh, .sh]) (PWm.pt (wm_or (tm_not (tm_cmp op_le lift_le (PEm.ow (em_var 3)) (PEm.ow (em_var 4)) (nomark _))) (wm_or (tm_cmp op_ge lift_ge (PEm.ow (em_var 4)) (PEm.ow (em_callB call_lenA lift_len (by rfl) T.z_len PySem.boot_len (am_cons (PEm.ow (em_var 0)) am_nil))) (nomark _)) (wm_or1 (tm_cmp (op_eqD hr.units) lift_eq (PEm.ow (em_var 5)) (PEm.ow em_int) (nomark _)))))) (sm_one (sm_ret em_bl)) sm_nil)
    (sm_one (sm_ret (em_cmp op_gt lift_gt (PEm.ow (em_callB call_lenA lift_len (by rfl) T.z_len PySem.boot_len (am_cons (PEm.ow (em_call F_union_of (hr.mono (by decide)) T.m_union_of T.f_union_of.kp T.b_union_of .nil (fun _ => Rps.nil) (am_consC (em_var 0) (am_consC (em_var 3) (am_consC (em_var 4) am_nil))))) am_nil))) (PEm.ow (em_var 1)) (nomark _)))))))⟩
def t_tolls_at : TSm :=
  (sRet (mB oSum (mCons (mLc (mItems (mVar 0)) [2, 3, 4] (gmT 3 (gmCons (gmN 2) (gmCons (gmN 3) (gmCons (gmN 4) gmNil)))) (mAnd (mTB (mOp oLe (mVar 2) (mVar 1))) (mTB (mOp oLt (mVar 1) (mVar 3)))) (mVar 4)) mNil)))
theorem w_tolls_at (T : Tx K mg) (cdv : Value) (A : Around) (outer : List PySem.Env) (s : Shared) (H : Hp) (E : XK)
    (hr : Room 0 (A.deeper (PyProof.Rows.envOfC "tolls_at" (defScope s_tolls_at) s.heap.objs.size T.a_tolls_at cdv))) :
    ∃ c', PSsm (bodyX P w K mg base n_tolls_at "tolls_at" s_tolls_at T.a_tolls_at cdv A outer s H E) ⟨.cl, false, []⟩ (shs 5) c' (defBody s_tolls_at) (t_tolls_at) :=
  ⟨[.sh, .sh, .sh, .sh, .sh], (sm_one (sm_ret (em_callB (cr_sum rfl) lift_sum (by rfl) T.z_sum PyProof.Rows.boot_sum (am_cons (PEm.ow (em_lc (own := [("first", 2), ("last", 3), ("toll", 4)]) rfl S_tolls_at.nd (im_seq (em_var 0)) (blkOk_by (N := n_tolls_at) (sc := defScope s_tolls_at) (by decide +kernel)) (fun _ _ _ _ _ => (gm_tup rfl (gsm_cons (gm_name 2 S_tolls_at.nd) (gsm_cons (gm_name 3 S_tolls_at.nd) (gsm_cons (gm_name 4 S_tolls_at.nd) gsm_nil))))) (fun _ _ _ _ _ => (tsm_one (PWm.pt (wm_and (tm_cmp op_le lift_le (PEm.ow (em_var 2)) (PEm.ow (em_var 1)) (nomark _)) (wm_and1 (tm_cmp op_lt lift_lt (PEm.ow (em_var 1)) (PEm.ow (em_var 3)) (nomark _))))))) (fun _ _ _ _ _ => (em_var 4)))) am_nil))))⟩
def t_is_tolls (sp_is_ascending : PM.Spec) (sp_is_toll : PM.Spec) (sp_tolls_at : PM.Spec) : TSm :=
  (sSeq (sIf (mOr (mNot (mTB (mOp1 (oIsi "tuple") (mVar 3)))) (mNot (mTB (mB oAll (mCons (mLc (mItems (mVar 3)) [4] (gmN 4) mYes (mCall sp_is_toll [] (mCons (mVar 0) (mCons (mVar 1) (mCons (mVar 4) mNil))))) mNil))))) (sRet (mC (.bl false))) sNext) (sRet (mAndV (mCall sp_is_ascending [] (mCons (mVar 3) mNil)) (mB oAll (mCons (mLc (mRng1 (mOp oSub (mB oLen (mCons (mVar 0) mNil)) (mC (.int 1)))) [4] (gmN 4) mYes (mOp oLe (mCall sp_tolls_at [] (mCons (mVar 3) (mCons (mVar 4) mNil))) (mOp oIx (mVar 2) (mVar 4)))) mNil)))))
theorem w_is_tolls (T : Tx K mg) (sp_is_ascending : PM.Spec) (sp_is_toll : PM.Spec) (sp_tolls_at : PM.Spec)
    (F_is_ascending : FnOk P w K mg base CX0 1 T.a_is_ascending T.d_is_ascending p_is_ascending (spM K .cl sp_is_ascending))
    (F_is_toll : FnOk P w K mg base CX0 3 T.a_is_toll T.d_is_toll p_is_toll (spM K .cl sp_is_toll))
    (F_tolls_at : FnOk P w K mg base CX0 1 T.a_tolls_at T.d_tolls_at p_tolls_at (spM K .cl sp_tolls_at)) (cdv : Value) (A : Around) (outer : List PySem.Env) (s : Shared) (H : Hp) (E : XK)
    (hr : Room 3 (A.deeper (PyProof.Rows.envOfC "is_tolls" (defScope s_is_tolls) s.heap.objs.size T.a_is_tolls cdv))) :
    ∃ c', PSsm (bodyX P w K mg base n_is_tolls "is_tolls" s_is_tolls T.a_is_tolls cdv A outer s H E) ⟨.cl, false, []⟩ (shs 5) c' (defBody s_is_tolls) (t_is_tolls sp_is_ascending sp_is_toll sp_tolls_at) :=
  ⟨[.sh, .sh, .sh, .sh, .sh], (sm_cons (sm_if (c' := [.sh, .sh, .sh, .sh, .sh]) (PWm.pt (wm_or (tm_not (tm_val (PEm.ow (em_isi "tuple" (PEm.ow (em_var 3)) (by rfl) T.z_isinstance (by rfl) T.z_tuple PyProof.Rows.boot_tuple)))) (wm_or1 (tm_not (tm_val (PEm.ow (em_callB (cr_all rfl) lift_all (by rfl) T.z_all PyProof.Rows.boot_all (am_cons (PEm.ow (em_lc (own := [("one", 4)]) rfl S_is_tolls.nd (im_seq (em_var 3)) (blkOk_by (N := n_is_tolls) (sc := defScope s_is_tolls) (by decide +kernel)) (fun _ _ _ _ _ => (gm_name 4 S_is_tolls.nd)) (fun _ _ _ _ _ => tsm_nil) (fun _ _ _ _ _ => (em_call F_is_toll (hr.mono (by decide)) T.m_is_toll T.f_is_toll.kp T.b_is_toll .nil (fun _ => Rps.nil) (am_consC (em_var 0) (am_consC (em_var 1) (am_consC (em_var 4) am_nil))))))) am_nil)))))))) (sm_one (sm_ret em_bl)) sm_nil)
    (sm_one (sm_ret (em_and (PEm.ow (em_call F_is_ascending (hr.mono (by decide)) T.m_is_ascending T.f_is_ascending.kp T.b_is_ascending .nil (fun _ => Rps.nil) (am_consC (em_var 3) am_nil))) (em_one (em_callB (cr_all rfl) lift_all (by rfl) T.z_all PyProof.Rows.boot_all (am_cons (PEm.ow (em_lc (own := [("one", 4)]) rfl S_is_tolls.nd (im_rng1 T.z_range (PEm.ow (em_op op_sub lift_sub (PEm.ow (em_callB call_lenA lift_len (by rfl) T.z_len PySem.boot_len (am_cons (PEm.ow (em_var 0)) am_nil))) (PEm.ow em_int)))) (blkOk_by (N := n_is_tolls) (sc := defScope s_is_tolls) (by decide +kernel)) (fun _ _ _ _ _ => (gm_name 4 S_is_tolls.nd)) (fun _ _ _ _ _ => tsm_nil) (fun _ _ _ _ _ => (em_cmp op_le lift_le (PEm.ow (em_call F_tolls_at (hr.mono (by decide)) T.m_tolls_at T.f_tolls_at.kp T.b_tolls_at .nil (fun _ => Rps.nil) (am_consC (em_var 3) (am_consC (em_var 4) am_nil)))) (PEm.ow (em_ix (PEm.ow (em_var 2)) (PEm.ow (em_var 4)) (fun _ _ => rfl))) (nomark _))))) am_nil)))))))⟩
def t_tolls_of (sp_least_prices : PM.Spec) (sp_earliest_firsts : PM.Spec) : TSm :=
  (sSeq (sPar [5, 6] (mCons (mCall sp_least_prices [] (mCons (mVar 0) (mCons (mVar 1) (mCons (mVar 2) mNil)))) (mCons (mCall sp_earliest_firsts [] (mCons (mVar 0) (mCons (mVar 1) mNil))) mNil))) (sSeq (sIf (mTB (mOp oEq (mVar 5) (mTup mNil))) (sRet (mC (.non))) sNext) (sSeq (sSet 3 (mLst mNil)) (sSeq (sFor (mRng2 (mC (.int 1)) (mB oLen (mCons (mVar 0) mNil))) (gmN 4) (sSeq (sSet 7 (mOp oSub (mOp oIx (mOp oIx (mVar 5) (mVar 4)) (mC (.int 0))) (mOp oIx (mOp oIx (mVar 5) (mOp oSub (mVar 4) (mC (.int 1)))) (mC (.int 0))))) (sIf (mTB (mOp oGt (mVar 7) (mC (.int 0)))) (sApp 3 (mTup (mCons (mOp oSub (mOp oIx (mVar 6) (mVar 4)) (mC (.int 1))) (mCons (mVar 4) (mCons (mVar 7) mNil))))) sNext))) (sRet (mB oTuple (mCons (mVarO 3) mNil)))))))
theorem w_tolls_of (T : Tx K mg) (sp_least_prices : PM.Spec) (sp_earliest_firsts : PM.Spec)
    (F_least_prices : FnOk P w K mg base CX0 3 T.a_least_prices T.d_least_prices p_least_prices (spM K .cl sp_least_prices))
    (F_earliest_firsts : FnOk P w K mg base CX0 2 T.a_earliest_firsts T.d_earliest_firsts p_earliest_firsts (spM K .cl sp_earliest_firsts)) (cdv : Value) (A : Around) (outer : List PySem.Env) (s : Shared) (H : Hp) (E : XK)
    (hr : Room 3 (A.deeper (PyProof.Rows.envOfC "tolls_of" (defScope s_tolls_of) s.heap.objs.size T.a_tolls_of cdv))) :
    ∃ c', PSsm (bodyX P w K mg base n_tolls_of "tolls_of" s_tolls_of T.a_tolls_of cdv A outer s H E) ⟨.cl, false, []⟩ (shs 8) c' (defBody s_tolls_of) (t_tolls_of sp_least_prices sp_earliest_firsts) :=
  ⟨[.sh, .sh, .sh, .sh, .sh, .sh, .sh, .sh], (sm_cons (sm_par [5, 6] rfl S_tolls_of.nd (xm_cl (em_call F_least_prices (hr.mono (by decide)) T.m_least_prices T.f_least_prices.kp T.b_least_prices .nil (fun _ => Rps.nil) (am_consC (em_var 0) (am_consC (em_var 1) (am_consC (em_var 2) am_nil)))) (xm_cl (em_call F_earliest_firsts (hr.mono (by decide)) T.m_earliest_firsts T.f_earliest_firsts.kp T.b_earliest_firsts .nil (fun _ => Rps.nil) (am_consC (em_var 0) (am_consC (em_var 1) am_nil))) xm_nil)))
    (sm_cons (sm_if (c' := [.sh, .sh, .sh, .sh, .sh, .sh, .sh, .sh]) (tm_cmp (op_eqD hr.units) lift_eq (PEm.ow (em_var 5)) (PEm.ow (em_tup am_nil)) (nomark _)) (sm_one (sm_ret em_non)) sm_nil)
    (sm_cons (sm_setF 3 S_tolls_of.nd (em_lst am_nil))
    (sm_cons (sm_for (c := [.sh, .sh, .sh, .ow, .sh, .sh, .sh, .sh]) .never rfl (im_rng2 T.z_range (PEm.ow em_int) (PEm.ow (em_callB call_lenA lift_len (by rfl) T.z_len PySem.boot_len (am_cons (PEm.ow (em_var 0)) am_nil)))) (gm_name 4 S_tolls_of.nd) (sm_cons (sm_set 7 S_tolls_of.nd (em_op op_sub lift_sub (PEm.ow (em_ix (PEm.ow (em_ix (PEm.ow (em_var 5)) (PEm.ow (em_var 4)) (fun _ _ => rfl))) (PEm.ow em_int) (fun _ _ => rfl))) (PEm.ow (em_ix (PEm.ow (em_ix (PEm.ow (em_var 5)) (PEm.ow (em_op op_sub lift_sub (PEm.ow (em_var 4)) (PEm.ow em_int))) (fun _ _ => rfl))) (PEm.ow em_int) (fun _ _ => rfl)))))
    (sm_one (sm_if (c' := [.sh, .sh, .sh, .ow, .sh, .sh, .sh, .sh]) (tm_cmp op_gt lift_gt (PEm.ow (em_var 7)) (PEm.ow em_int) (nomark _)) (sm_one (sm_app 3 (em_tup (am_consC (em_op op_sub lift_sub (PEm.ow (em_ix (PEm.ow (em_var 6)) (PEm.ow (em_var 4)) (fun _ _ => rfl))) (PEm.ow em_int)) (am_consC (em_var 4) (am_consC (em_var 7) am_nil)))))) sm_nil))) (fun _ e => by cases e))
    (sm_one (sm_ret (em_callTy call_tuple_of lift_tuple (by rfl) T.z_tuple PyProof.Rows.boot_tuple (am_cons (em_varO 3) am_nil))))))))⟩
def t_l_heap : TSm :=
  (sSeq (sSet 1 (mOp oMulW (mOp oMulW (mOp oPow (mC (.int 10)) (mC (.int 60))) (mOp oPow (mC (.int 10)) (mC (.int 60)))) (mOp oPow (mC (.int 10)) (mC (.int 60))))) (sSeq (sPar [3, 4] (mCons (mLc (mItems (mSl oSlS (mVar 0) mNo (mPart (mC (.int 60))))) [2] (gmN 2) mYes (mOp oMod (mB oInt (mCons (mOp oAdd (mOp oMul (mC (.int 2)) (mB oAbs (mCons (mVar 2) mNil))) (mB oInt (mCons (mOp oLt (mVar 2) (mC (.int 0))) mNil))) mNil)) (mVar 1))) (mCons (mC (.int 20043)) mNil))) (sSeq (sFor (mItems (mVar 3)) (gmN 2) (sSet 4 (mOp oMod (mB oInt (mCons (mOp oAdd (mOp oAdd (mOp oMul (mVar 4) (mC (.int 69621))) (mOp oMod (mB oInt (mCons (mVar 2) mNil)) (mC (.int 2147483563)))) (mC (.int 71))) mNil)) (mC (.int 2147483647))))) (sRet (mLst (mCons (mOp1 oRev (mLc (mItems (mVar 3)) [2] (gmN 2) (mTB (mOp oGe (mVar 2) (mOp oPow (mC (.int 10)) (mC (.int 18))))) (mVar 2))) (mCons (mVar 4) mNil)))))))
theorem w_l_heap (T : Tx K mg) (cdv : Value) (A : Around) (outer : List PySem.Env) (s : Shared) (H : Hp) (E : XK)
    (hr : Room 0 (A.deeper (PyProof.Rows.envOfC "_law_heap" (defScope s_l_heap) s.heap.objs.size T.a_l_heap cdv))) :
    ∃ c', PSsm (bodyX P w K mg base n_l_heap "_law_heap" s_l_heap T.a_l_heap cdv A outer s H E) ⟨.cl, false, []⟩ (shs 5) c' (defBody s_l_heap) (t_l_heap) :=
  ⟨[.sh, .sh, .sh, .sh, .sh], (sm_cons (sm_set 1 S_l_heap.nd (em_op op_mulW lift_mulW (PEm.ow (em_op op_mulW lift_mulW (PEm.ow (em_op op_pow lift_pow (PEm.ow em_int) (PEm.ow em_int))) (PEm.ow (em_op op_pow lift_pow (PEm.ow em_int) (PEm.ow em_int))))) (PEm.ow (em_op op_pow lift_pow (PEm.ow em_int) (PEm.ow em_int)))))
    (sm_cons (sm_par [3, 4] rfl S_l_heap.nd (xm_cl (PEm.cl (em_lc (own := [("cell", 2)]) rfl S_l_heap.nd (im_seq (PEm.cl (em_slS (PEm.ow (em_var 0)) om_none (om_some (PEm.ow em_int))))) (blkOk_by (N := n_l_heap) (sc := defScope s_l_heap) (by decide +kernel)) (fun _ _ _ _ _ => (gm_name 2 S_l_heap.nd)) (fun _ _ _ _ _ => tsm_nil) (fun _ _ _ _ _ => (em_op op_mod lift_mod (PEm.ow (em_callTy call_int1 lift_int (by rfl) T.z_int PyProof.Rows.boot_int (am_cons (PEm.ow (em_op op_plus lift_plus (PEm.ow (em_op op_mul lift_mul (PEm.ow em_int) (PEm.ow (em_callB call_abs lift_abs (by rfl) T.z_abs PyProof.Rows.boot_abs (am_cons (PEm.ow (em_var 2)) am_nil))))) (PEm.ow (em_callTy call_int1 lift_int (by rfl) T.z_int PyProof.Rows.boot_int (am_cons (PEm.ow (em_cmp op_lt lift_lt (PEm.ow (em_var 2)) (PEm.ow em_int) (nomark _))) am_nil))))) am_nil))) (PEm.ow (em_var 1)))))) (xm_cl em_int xm_nil)))
    (sm_cons (sm_for (c := [.sh, .sh, .sh, .sh, .sh]) .never rfl (im_seq (em_var 3)) (gm_name 2 S_l_heap.nd) (sm_one (sm_set 4 S_l_heap.nd (em_op op_mod lift_mod (PEm.ow (em_callTy call_int1 lift_int (by rfl) T.z_int PyProof.Rows.boot_int (am_cons (PEm.ow (em_op op_plus lift_plus (PEm.ow (em_op op_plus lift_plus (PEm.ow (em_op op_mul lift_mul (PEm.ow (em_var 4)) (PEm.ow em_int))) (PEm.ow (em_op op_mod lift_mod (PEm.ow (em_callTy call_int1 lift_int (by rfl) T.z_int PyProof.Rows.boot_int (am_cons (PEm.ow (em_var 2)) am_nil))) (PEm.ow em_int))))) (PEm.ow em_int))) am_nil))) (PEm.ow em_int)))) (fun _ e => by cases e))
    (sm_one (sm_ret (PEm.cl (em_lst (am_consC (em_rev (PEm.ow (em_lc (own := [("cell", 2)]) rfl S_l_heap.nd (im_seq (em_var 3)) (blkOk_by (N := n_l_heap) (sc := defScope s_l_heap) (by decide +kernel)) (fun _ _ _ _ _ => (gm_name 2 S_l_heap.nd)) (fun _ _ _ _ _ => (tsm_one (tm_cmp op_ge lift_ge (PEm.ow (em_var 2)) (PEm.ow (em_op op_pow lift_pow (PEm.ow em_int) (PEm.ow em_int))) (nomark _)))) (fun _ _ _ _ _ => (em_var 2))))) (am_consC (em_var 4) am_nil)))))))))⟩
def t_l_pick (sp_l_draw : PM.Spec) : TSm :=
  (sRet (mOp oIx (mVar 1) (mCall sp_l_draw [] (mCons (mVar 0) (mCons (mB oLen (mCons (mVar 1) mNil)) mNil)))))
theorem w_l_pick (T : Tx K mg) (sp_l_draw : PM.Spec)
    (F_l_draw : FnOk P w K mg base CX0 1 T.a_l_draw T.d_l_draw p_l_draw (spM K .cl sp_l_draw)) (cdv : Value) (A : Around) (outer : List PySem.Env) (s : Shared) (H : Hp) (E : XK)
    (hr : Room 1 (A.deeper (PyProof.Rows.envOfC "_law_pick" (defScope s_l_pick) s.heap.objs.size T.a_l_pick cdv))) :
    ∃ c', PSsm (bodyX P w K mg base n_l_pick "_law_pick" s_l_pick T.a_l_pick cdv A outer s H E) ⟨.cl, false, []⟩ (shs 2) c' (defBody s_l_pick) (t_l_pick sp_l_draw) :=
  ⟨[.sh, .sh], (sm_one (sm_ret (em_ix (PEm.ow (em_var 1)) (PEm.ow (em_call F_l_draw (hr.mono (by decide)) T.m_l_draw T.f_l_draw.kp T.b_l_draw .nil (fun _ => Rps.nil) (am_consC (em_var 0) (am_consC (em_callB call_lenA lift_len (by rfl) T.z_len PySem.boot_len (am_cons (PEm.ow (em_var 1)) am_nil)) am_nil)))) (fun _ _ => rfl))))⟩
def t_l_some (sp_l_draw : PM.Spec) : TSm :=
  (sSeq (sPar [4, 5] (mCons (mLc (mRng1 (mB oLen (mCons (mVar 1) mNil))) [6] (gmN 6) mYes (mVar 6)) (mCons (mLst mNil) mNil))) (sSeq (sFor (mRng1 (mVar 2)) (gmN 3) (sAppPop 5 4 (mCall sp_l_draw [] (mCons (mVar 0) (mCons (mB oLen (mCons (mVarO 4) mNil)) mNil))))) (sRet (mB oTuple (mCons (mLc (mItems (mB oSorted (mCons (mVarO 5) mNil))) [6] (gmN 6) mYes (mOp oIx (mVar 1) (mVar 6))) mNil)))))
theorem w_l_some (T : Tx K mg) (sp_l_draw : PM.Spec)
    (F_l_draw : FnOk P w K mg base CX0 1 T.a_l_draw T.d_l_draw p_l_draw (spM K .cl sp_l_draw)) (cdv : Value) (A : Around) (outer : List PySem.Env) (s : Shared) (H : Hp) (E : XK)
    (hr : Room 1 (A.deeper (PyProof.Rows.envOfC "_law_some" (defScope s_l_some) s.heap.objs.size T.a_l_some cdv))) :
    ∃ c', PSsm (bodyX P w K mg base n_l_some "_law_some" s_l_some T.a_l_some cdv A outer s H E) ⟨.cl, false, []⟩ (shs 7) c' (defBody s_l_some) (t_l_some sp_l_draw) :=
  ⟨[.sh, .sh, .sh, .sh, .sh, .sh, .sh], (sm_cons (sm_par [4, 5] rfl S_l_some.nd (xm_fr (em_lc (own := [("place", 6)]) rfl S_l_some.nd (im_rng1 T.z_range (PEm.ow (em_callB call_lenA lift_len (by rfl) T.z_len PySem.boot_len (am_cons (PEm.ow (em_var 1)) am_nil)))) (blkOk_by (N := n_l_some) (sc := defScope s_l_some) (by decide +kernel)) (fun _ _ _ _ _ => (gm_name 6 S_l_some.nd)) (fun _ _ _ _ _ => tsm_nil) (fun _ _ _ _ _ => (em_var 6))) (xm_fr (em_lst am_nil) xm_nil)))
    (sm_cons (sm_for (c := [.sh, .sh, .sh, .sh, .ow, .ow, .sh]) .never rfl (im_rng1 T.z_range (PEm.ow (em_var 2))) (gm_name 3 S_l_some.nd) (sm_one (sm_appPop 5 4 (by decide) (PEm.ow (em_call F_l_draw (hr.mono (by decide)) T.m_l_draw T.f_l_draw.kp T.b_l_draw .nil (fun _ => Rps.nil) (am_consC (em_var 0) (am_consC (em_callB call_lenA lift_len (by rfl) T.z_len PySem.boot_len (am_cons (em_varO 4) am_nil)) am_nil)))))) (fun _ e => by cases e))
    (sm_one (sm_ret (em_callTy call_tuple_of lift_tuple (by rfl) T.z_tuple PyProof.Rows.boot_tuple (am_cons (PEm.ow (em_lc (own := [("place", 6)]) rfl S_l_some.nd (im_seq (PEm.cl (em_callB (call_sortedA rfl) lift_sorted (by rfl) T.z_sorted PyProof.Rows.boot_sorted (am_cons (em_varO 5) am_nil)))) (blkOk_by (N := n_l_some) (sc := defScope s_l_some) (by decide +kernel)) (fun _ _ _ _ _ => (gm_name 6 S_l_some.nd)) (fun _ _ _ _ _ => tsm_nil) (fun _ _ _ _ _ => (em_ix (PEm.ow (em_var 1)) (PEm.ow (em_var 6)) (fun _ _ => rfl))))) am_nil))))))⟩
def t_l_is_number : TSm :=
  (sRet (mAndV (mOp1 (oIsi "int") (mVar 0)) (mAndV (mOp1 oNot (mOp1 (oIsi "bool") (mVar 0))) (mOp oGe (mVar 0) (mC (.int 0))))))
theorem w_l_is_number (T : Tx K mg) (cdv : Value) (A : Around) (outer : List PySem.Env) (s : Shared) (H : Hp) (E : XK)
    (hr : Room 0 (A.deeper (PyProof.Rows.envOfC "_law_is_number" (defScope s_l_is_number) s.heap.objs.size T.a_l_is_number cdv))) :
    ∃ c', PSsm (bodyX P w K mg base n_l_is_number "_law_is_number" s_l_is_number T.a_l_is_number cdv A outer s H E) ⟨.cl, false, []⟩ (shs 1) c' (defBody s_l_is_number) (t_l_is_number) :=
  ⟨[.sh], (sm_one (sm_ret (em_and (PEm.ow (em_isi "int" (PEm.ow (em_var 0)) (by rfl) T.z_isinstance (by rfl) T.z_int PyProof.Rows.boot_int)) (em_and (PEm.ow (em_not (PEm.ow (em_isi "bool" (PEm.ow (em_var 0)) (by rfl) T.z_isinstance (by rfl) T.z_bool PyProof.Rows.boot_bool)))) (em_one (em_cmp op_ge lift_ge (PEm.ow (em_var 0)) (PEm.ow em_int) (nomark _)))))))⟩
def t_l_union : TSm :=
  (sRet (mLenSet (mB oSumLL (mCons (mLc (mItems (mSl oSl (mVar 0) (mPart (mVar 1)) (mPart (mOp oAdd (mVar 2) (mC (.int 1)))))) [3] (gmN 3) mYes (mB oList (mCons (mVar 3) mNil))) (mCons (mLst mNil) mNil)))))
theorem w_l_union (T : Tx K mg) (cdv : Value) (A : Around) (outer : List PySem.Env) (s : Shared) (H : Hp) (E : XK)
    (hr : Room 0 (A.deeper (PyProof.Rows.envOfC "_law_union" (defScope s_l_union) s.heap.objs.size T.a_l_union cdv))) :
    ∃ c', PSsm (bodyX P w K mg base n_l_union "_law_union" s_l_union T.a_l_union cdv A outer s H E) ⟨.cl, false, []⟩ (shs 4) c' (defBody s_l_union) (t_l_union) :=
  ⟨[.sh, .sh, .sh, .sh], (sm_one (sm_ret (em_lenSetN rfl (by rfl) T.z_len (by rfl) T.z_set (em_callB (cr_sumLL rfl) lift_sumLL (by rfl) T.z_sum PyProof.Rows.boot_sum (am_cons (PEm.ow (em_lc (own := [("lot", 3)]) rfl S_l_union.nd (im_seq (em_sl (PEm.ow (em_var 0)) (om_some (PEm.ow (em_var 1))) (om_some (PEm.ow (em_op op_plus lift_plus (PEm.ow (em_var 2)) (PEm.ow em_int)))))) (blkOk_by (N := n_l_union) (sc := defScope s_l_union) (by decide +kernel)) (fun _ _ _ _ _ => (gm_name 3 S_l_union.nd)) (fun _ _ _ _ _ => tsm_nil) (fun _ _ _ _ _ => (PEm.cl (em_callTy call_list_of lift_list (by rfl) T.z_list PyProof.Rows.boot_list (am_cons (PEm.ow (em_var 3)) am_nil)))))) (am_cons (PEm.ow (em_lst am_nil)) am_nil))))))⟩
def t_l_is_schedule (sp_l_is_number : PM.Spec) : TSm :=
  (sSeq (sIf (mOr (mNot (mTB (mOp1 (oIsi "tuple") (mVar 1)))) (mNot (mTB (mB oAll (mCons (mLc (mItems (mVar 1)) [2] (gmN 2) mYes (mAndV (mCall sp_l_is_number [] (mCons (mVar 2) mNil)) (mOp oLt (mVar 2) (mOp oSub (mVar 0) (mC (.int 1)))))) mNil))))) (sRet (mC (.bl false))) sNext) (sRet (mOp oEq (mB oList (mCons (mVar 1) mNil)) (mB oSortSetI (mCons (mVar 1) mNil)))))
theorem w_l_is_schedule (T : Tx K mg) (sp_l_is_number : PM.Spec)
    (F_l_is_number : FnOk P w K mg base CX0 1 T.a_l_is_number T.d_l_is_number p_l_is_number (spM K .cl sp_l_is_number)) (cdv : Value) (A : Around) (outer : List PySem.Env) (s : Shared) (H : Hp) (E : XK)
    (hr : Room 1 (A.deeper (PyProof.Rows.envOfC "_law_is_schedule" (defScope s_l_is_schedule) s.heap.objs.size T.a_l_is_schedule cdv))) :
    ∃ c', PSsm (bodyX P w K mg base n_l_is_schedule "_law_is_schedule" s_l_is_schedule T.a_l_is_schedule cdv A outer s H E) ⟨.cl, false, []⟩ (shs 3) c' (defBody s_l_is_schedule) (t_l_is_schedule sp_l_is_number) :=
  ⟨[.sh, .sh, .sh], (sm_cons (sm_if (c' := [.sh, .sh, .sh]) (PWm.pt (wm_or (tm_not (tm_val (PEm.ow (em_isi "tuple" (PEm.ow (em_var 1)) (by rfl) T.z_isinstance (by rfl) T.z_tuple PyProof.Rows.boot_tuple)))) (wm_or1 (tm_not (tm_val (PEm.ow (em_callB (cr_all rfl) lift_all (by rfl) T.z_all PyProof.Rows.boot_all (am_cons (PEm.ow (em_lc (own := [("one", 2)]) rfl S_l_is_schedule.nd (im_seq (em_var 1)) (blkOk_by (N := n_l_is_schedule) (sc := defScope s_l_is_schedule) (by decide +kernel)) (fun _ _ _ _ _ => (gm_name 2 S_l_is_schedule.nd)) (fun _ _ _ _ _ => tsm_nil) (fun _ _ _ _ _ => (em_and (PEm.ow (em_call F_l_is_number (hr.mono (by decide)) T.m_l_is_number T.f_l_is_number.kp T.b_l_is_number .nil (fun _ => Rps.nil) (am_consC (em_var 2) am_nil))) (em_one (em_cmp op_lt lift_lt (PEm.ow (em_var 2)) (PEm.ow (em_op op_sub lift_sub (PEm.ow (em_var 0)) (PEm.ow em_int))) (nomark _))))))) am_nil)))))))) (sm_one (sm_ret em_bl)) sm_nil)
    (sm_one (sm_ret (em_cmp (op_eqD hr.units) lift_eq (PEm.ow (em_callTy call_list_of lift_list (by rfl) T.z_list PyProof.Rows.boot_list (am_cons (PEm.ow (em_var 1)) am_nil))) (PEm.ow (em_callBT (cr_sortedSet rfl) (cr_setTI rfl) lift_sortSetI (by rfl) T.z_sorted PyProof.Rows.boot_sorted (by rfl) T.z_set PyProof.Rows.boot_set (am_cons (PEm.ow (em_var 1)) am_nil))) (nomark _)))))⟩
def t_l_is_secret (sp_l_union : PM.Spec) : TSm :=
  (sSeq (sSet 3 (mC (.int 0))) (sSeq (sFor (mItems (mOp oAdd (mB oList (mCons (mVar 2) mNil)) (mLst (mCons (mOp oSub (mB oLen (mCons (mVar 0) mNil)) (mC (.int 1))) mNil)))) (gmN 4) (sSeq (sIf (mTB (mOp oGt (mCall sp_l_union [] (mCons (mVar 0) (mCons (mVar 3) (mCons (mVar 4) mNil)))) (mVar 1))) (sRet (mC (.bl false))) sNext) (sSet 3 (mOp oAdd (mVar 4) (mC (.int 1)))))) (sRet (mC (.bl true)))))
theorem w_l_is_secret (T : Tx K mg) (sp_l_union : PM.Spec)
    (F_l_union : FnOk P w K mg base CX0 1 T.a_l_union T.d_l_union p_l_union (spM K .cl sp_l_union)) (cdv : Value) (A : Around) (outer : List PySem.Env) (s : Shared) (H : Hp) (E : XK)
    (hr : Room 1 (A.deeper (PyProof.Rows.envOfC "_law_is_secret" (defScope s_l_is_secret) s.heap.objs.size T.a_l_is_secret cdv))) :
    ∃ c', PSsm (bodyX P w K mg base n_l_is_secret "_law_is_secret" s_l_is_secret T.a_l_is_secret cdv A outer s H E) ⟨.cl, false, []⟩ (shs 5) c' (defBody s_l_is_secret) (t_l_is_secret sp_l_union) :=
  ⟨[.sh, .sh, .sh, .sh, .sh], (sm_cons (sm_set 3 S_l_is_secret.nd em_int)
    (sm_cons (sm_for (c := [.sh, .sh, .sh, .sh, .sh]) .never rfl (im_seq (em_op op_plus lift_plus (PEm.ow (em_callTy call_list_of lift_list (by rfl) T.z_list PyProof.Rows.boot_list (am_cons (PEm.ow (em_var 2)) am_nil))) (PEm.ow (em_lst (am_consC (em_op op_sub lift_sub (PEm.ow (em_callB call_lenA lift_len (by rfl) T.z_len PySem.boot_len (am_cons (PEm.ow (em_var 0)) am_nil))) (PEm.ow em_int)) am_nil))))) (gm_name 4 S_l_is_secret.nd) (sm_cons (sm_if (c' := [.sh, .sh, .sh, .sh, .sh]) (tm_cmp op_gt lift_gt (PEm.ow (em_call F_l_union (hr.mono (by decide)) T.m_l_union T.f_l_union.kp T.b_l_union .nil (fun _ => Rps.nil) (am_consC (em_var 0) (am_consC (em_var 3) (am_consC (em_var 4) am_nil))))) (PEm.ow (em_var 1)) (nomark _)) (sm_one (sm_ret em_bl)) sm_nil)
    (sm_one (sm_set 3 S_l_is_secret.nd (em_op op_plus lift_plus (PEm.ow (em_var 4)) (PEm.ow em_int))))) (fun _ e => by cases e))
    (sm_one (sm_ret em_bl))))⟩
def t_l_is_tolls (sp_l_union : PM.Spec) (sp_l_is_number : PM.Spec) : TSm :=
  (sSeq (sIf (mNot (mTB (mOp1 (oIsi "tuple") (mVar 3)))) (sRet (mC (.bl false))) sNext) (sSeq (sSet 4 (mLc (mItems (mVar 2)) [7] (gmN 7) mYes (mC (.int 0)))) (sSeq (sFor (mItems (mVar 3)) (gmN 5) (sSeq (sIf (mOr (mNot (mTB (mOp1 (oIsi "tuple") (mVar 5)))) (mOr (mTB (mOp oNe (mB oLen (mCons (mVar 5) mNil)) (mC (.int 3)))) (mNot (mTB (mB oAll (mCons (mLc (mItems (mVar 5)) [6] (gmN 6) mYes (mCall sp_l_is_number [] (mCons (mVar 6) mNil))) mNil)))))) (sRet (mC (.bl false))) sNext) (sSeq (sIf (mOr (mTB (mOp oGt (mOp oIx (mVar 5) (mC (.int 0))) (mOp oIx (mVar 5) (mC (.int 1))))) (mOr (mTB (mOp oGe (mOp oIx (mVar 5) (mC (.int 1))) (mB oLen (mCons (mVar 0) mNil)))) (mOr (mTB (mOp oLt (mOp oIx (mVar 5) (mC (.int 2))) (mC (.int 1)))) (mTB (mOp oLe (mCall sp_l_union [] (mCons (mVar 0) (mCons (mOp oIx (mVar 5) (mC (.int 0))) (mCons (mOp oIx (mVar 5) (mC (.int 1))) mNil)))) (mVar 1)))))) (sRet (mC (.bl false))) sNext) (sFor (mRng2 (mOp oIx (mVar 5) (mC (.int 0))) (mOp oIx (mVar 5) (mC (.int 1)))) (gmN 6) (sAugL 4 (fun i j => i + j) (mVar 6) (mOp oIx (mVar 5) (mC (.int 2)))))))) (sSeq (sIf (mNot (mTB (mB oAll (mCons (mLc (mRng1 (mB oLen (mCons (mVar 2) mNil))) [6] (gmN 6) mYes (mOp oLe (mOp oIx (mVarO 4) (mVar 6)) (mOp oIx (mVar 2) (mVar 6)))) mNil)))) (sRet (mC (.bl false))) sNext) (sRet (mB oAll (mCons (mLc (mRng2 (mC (.int 1)) (mB oLen (mCons (mVar 3) mNil))) [8] (gmN 8) mYes (mOp oLtT (mOp oIx (mVar 3) (mOp oSub (mVar 8) (mC (.int 1)))) (mOp oIx (mVar 3) (mVar 8)))) mNil)))))))
theorem w_l_is_tolls (T : Tx K mg) (sp_l_union : PM.Spec) (sp_l_is_number : PM.Spec)
    (F_l_union : FnOk P w K mg base CX0 1 T.a_l_union T.d_l_union p_l_union (spM K .cl sp_l_union))
    (F_l_is_number : FnOk P w K mg base CX0 1 T.a_l_is_number T.d_l_is_number p_l_is_number (spM K .cl sp_l_is_number)) (cdv : Value) (A : Around) (outer : List PySem.Env) (s : Shared) (H : Hp) (E : XK)
    (hr : Room 1 (A.deeper (PyProof.Rows.envOfC "_law_is_tolls" (defScope s_l_is_tolls) s.heap.objs.size T.a_l_is_tolls cdv))) :
    ∃ c', PSsm (bodyX P w K mg base n_l_is_tolls "_law_is_tolls" s_l_is_tolls T.a_l_is_tolls cdv A outer s H E) ⟨.cl, false, []⟩ (shs 9) c' (defBody s_l_is_tolls) (t_l_is_tolls sp_l_union sp_l_is_number) :=
  ⟨[.sh, .sh, .sh, .sh, .sh, .sh, .sh, .sh, .sh], (sm_cons (sm_if (c' := [.sh, .sh, .sh, .sh, .sh, .sh, .sh, .sh, .sh]) (tm_not (tm_val (PEm.ow (em_isi "tuple" (PEm.ow (em_var 3)) (by rfl) T.z_isinstance (by rfl) T.z_tuple PyProof.Rows.boot_tuple)))) (sm_one (sm_ret em_bl)) sm_nil)
    (sm_cons (sm_setF 4 S_l_is_tolls.nd (em_lc (own := [("cost", 7)]) rfl S_l_is_tolls.nd (im_seq (em_var 2)) (blkOk_by (N := n_l_is_tolls) (sc := defScope s_l_is_tolls) (by decide +kernel)) (fun _ _ _ _ _ => (gm_name 7 S_l_is_tolls.nd)) (fun _ _ _ _ _ => tsm_nil) (fun _ _ _ _ _ => em_int)))
    (sm_cons (sm_for (c := [.sh, .sh, .sh, .sh, .ow, .sh, .sh, .sh, .sh]) .never rfl (im_seq (em_var 3)) (gm_name 5 S_l_is_tolls.nd) (sm_cons (sm_if (c' := [.sh, .sh, .sh, .sh, .ow, .sh, .sh, .sh, .sh]) (PWm.pt (wm_or (tm_not (tm_val (PEm.ow (em_isi "tuple" (PEm.ow (em_var 5)) (by rfl) T.z_isinstance (by rfl) T.z_tuple PyProof.Rows.boot_tuple)))) (wm_or (tm_cmp (op_neD hr.units) lift_ne (PEm.ow (em_callB call_lenA lift_len (by rfl) T.z_len PySem.boot_len (am_cons (PEm.ow (em_var 5)) am_nil))) (PEm.ow em_int) (nomark _)) (wm_or1 (tm_not (tm_val (PEm.ow (em_callB (cr_all rfl) lift_all (by rfl) T.z_all PyProof.Rows.boot_all (am_cons (PEm.ow (em_lc (own := [("one", 6)]) rfl S_l_is_tolls.nd (im_seq (em_var 5)) (blkOk_by (N := n_l_is_tolls) (sc := defScope s_l_is_tolls) (by decide +kernel)) (fun _ _ _ _ _ => (gm_name 6 S_l_is_tolls.nd)) (fun _ _ _ _ _ => tsm_nil) (fun _ _ _ _ _ => (em_call F_l_is_number (hr.mono (by decide)) T.m_l_is_number T.f_l_is_number.kp T.b_l_is_number .nil (fun _ => Rps.nil) (am_consC (em_var 6) am_nil))))) am_nil))))))))) (sm_one (sm_ret em_bl)) sm_nil)
    (sm_cons (sm_if (c' := [.sh, .sh, .sh, .sh, .ow, .sh, .sh, .sh, .sh]) (PWm.pt (wm_or (tm_cmp op_gt lift_gt (PEm.ow (em_ix (PEm.ow (em_var 5)) (PEm.ow em_int) (fun _ _ => rfl))) (PEm.ow (em_ix (PEm.ow (em_var 5)) (PEm.ow em_int) (fun _ _ => rfl))) (nomark _)) (wm_or (tm_cmp op_ge lift_ge (PEm.ow (em_ix (PEm.ow (em_var 5)) (PEm.ow em_int) (fun _ _ => rfl))) (PEm.ow (em_callB call_lenA lift_len (by rfl) T.z_len PySem.boot_len (am_cons (PEm.ow (em_var 0)) am_nil))) (nomark _)) (wm_or (tm_cmp op_lt lift_lt (PEm.ow (em_ix (PEm.ow (em_var 5)) (PEm.ow em_int) (fun _ _ => rfl))) (PEm.ow em_int) (nomark _)) (wm_or1 (tm_cmp op_le lift_le (PEm.ow (em_call F_l_union (hr.mono (by decide)) T.m_l_union T.f_l_union.kp T.b_l_union .nil (fun _ => Rps.nil) (am_consC (em_var 0) (am_consC (em_ix (PEm.ow (em_var 5)) (PEm.ow em_int) (fun _ _ => rfl)) (am_consC (em_ix (PEm.ow (em_var 5)) (PEm.ow em_int) (fun _ _ => rfl)) am_nil))))) (PEm.ow (em_var 1)) (nomark _))))))) (sm_one (sm_ret em_bl)) sm_nil)
    (sm_one (sm_for (c := [.sh, .sh, .sh, .sh, .ow, .sh, .sh, .sh, .sh]) .never rfl (im_rng2 T.z_range (PEm.ow (em_ix (PEm.ow (em_var 5)) (PEm.ow em_int) (fun _ _ => rfl))) (PEm.ow (em_ix (PEm.ow (em_var 5)) (PEm.ow em_int) (fun _ _ => rfl)))) (gm_name 6 S_l_is_tolls.nd) (sm_one (sm_augL 4 ip_add (em_var 6) (em_ix (PEm.ow (em_var 5)) (PEm.ow em_int) (fun _ _ => rfl)))) (fun _ e => by cases e))))) (fun _ e => by cases e))
    (sm_cons (sm_if (c' := [.sh, .sh, .sh, .sh, .ow, .sh, .sh, .sh, .sh]) (tm_not (tm_val (PEm.ow (em_callB (cr_all rfl) lift_all (by rfl) T.z_all PyProof.Rows.boot_all (am_cons (PEm.ow (em_lc (own := [("one", 6)]) rfl S_l_is_tolls.nd (im_rng1 T.z_range (PEm.ow (em_callB call_lenA lift_len (by rfl) T.z_len PySem.boot_len (am_cons (PEm.ow (em_var 2)) am_nil)))) (blkOk_by (N := n_l_is_tolls) (sc := defScope s_l_is_tolls) (by decide +kernel)) (fun _ _ _ _ _ => (gm_name 6 S_l_is_tolls.nd)) (fun _ _ _ _ _ => tsm_nil) (fun _ _ _ _ _ => (em_cmp op_le lift_le (PEm.ow (em_ix (em_varO 4) (PEm.ow (em_var 6)) (fun _ _ => rfl))) (PEm.ow (em_ix (PEm.ow (em_var 2)) (PEm.ow (em_var 6)) (fun _ _ => rfl))) (nomark _))))) am_nil))))) (sm_one (sm_ret em_bl)) sm_nil)
    (sm_one (sm_ret (em_callB (cr_all rfl) lift_all (by rfl) T.z_all PyProof.Rows.boot_all (am_cons (PEm.ow (em_lc (own := [("at", 8)]) rfl S_l_is_tolls.nd (im_rng2 T.z_range (PEm.ow em_int) (PEm.ow (em_callB call_lenA lift_len (by rfl) T.z_len PySem.boot_len (am_cons (PEm.ow (em_var 3)) am_nil)))) (blkOk_by (N := n_l_is_tolls) (sc := defScope s_l_is_tolls) (by decide +kernel)) (fun _ _ _ _ _ => (gm_name 8 S_l_is_tolls.nd)) (fun _ _ _ _ _ => tsm_nil) (fun _ _ _ _ _ => (em_cmp (op_ltT (PM.units1 hr)) lift_ltT (PEm.ow (em_ix (PEm.ow (em_var 3)) (PEm.ow (em_op op_sub lift_sub (PEm.ow (em_var 8)) (PEm.ow em_int))) (fun _ _ => rfl))) (PEm.ow (em_ix (PEm.ow (em_var 3)) (PEm.ow (em_var 8)) (fun _ _ => rfl))) (nomark _))))) am_nil))))))))⟩
def t_l_counted (sp_l_pick : PM.Spec) (sp_l_some : PM.Spec) (sp_l_draw : PM.Spec) : TSm :=
  (sSeq (sSet 2 (mCall sp_l_pick [] (mCons (mVar 0) (mCons (mLst (mCons (mC (.int 2)) (mCons (mC (.int 4)) (mCons (mC (.int 6)) (mCons (mC (.int 9)) (mCons (mC (.int 24)) mNil)))))) mNil)))) (sSeq (sPar [3, 4] (mCons (mLc (mRng1 (mVar 2)) [7] (gmN 7) mYes (mVar 7)) (mCons (mLst mNil) mNil))) (sSeq (sWhile (mTB (mOp oLt (mB oLen (mCons (mVarO 4) mNil)) (mVar 1))) (sSeq (sSet 5 (mCall sp_l_some [] (mCons (mVar 0) (mCons (mVar 3) (mCons (mCall sp_l_draw [] (mCons (mVar 0) (mCons (mOp oAdd (mB oMin2 (mCons (mVar 2) (mCons (mCall sp_l_pick [] (mCons (mVar 0) (mCons (mLst (mCons (mC (.int 1)) (mCons (mC (.int 2)) (mCons (mC (.int 3)) (mCons (mC (.int 5)) mNil))))) mNil))) mNil))) (mC (.int 1))) mNil))) mNil))))) (sFor (mRng1 (mCall sp_l_pick [] (mCons (mVar 0) (mCons (mLst (mCons (mC (.int 1)) (mCons (mC (.int 1)) (mCons (mC (.int 1)) (mCons (mC (.int 2)) (mCons (mC (.int 5)) mNil)))))) mNil)))) (gmN 6) (sApp 4 (mVar 5))))) (sRet (mB oTuple (mCons (mSl oSl (mVarO 4) mNo (mPart (mVar 1))) mNil))))))
theorem w_l_counted (T : Tx K mg) (sp_l_pick : PM.Spec) (sp_l_some : PM.Spec) (sp_l_draw : PM.Spec)
    (F_l_pick : FnOk P w K mg base CX0 2 T.a_l_pick T.d_l_pick p_l_pick (spM K .cl sp_l_pick))
    (F_l_some : FnOk P w K mg base CX0 2 T.a_l_some T.d_l_some p_l_some (spM K .cl sp_l_some))
    (F_l_draw : FnOk P w K mg base CX0 1 T.a_l_draw T.d_l_draw p_l_draw (spM K .cl sp_l_draw)) (cdv : Value) (A : Around) (outer : List PySem.Env) (s : Shared) (H : Hp) (E : XK)
    (hr : Room 2 (A.deeper (PyProof.Rows.envOfC "_law_counted" (defScope s_l_counted) s.heap.objs.size T.a_l_counted cdv))) :
    ∃ c', PSsm (bodyX P w K mg base n_l_counted "_law_counted" s_l_counted T.a_l_counted cdv A outer s H E) ⟨.cl, false, []⟩ (shs 8) c' (defBody s_l_counted) (t_l_counted sp_l_pick sp_l_some sp_l_draw) :=
  ⟨[.sh, .sh, .sh, .sh, .sh, .sh, .sh, .sh], (sm_cons (sm_set 2 S_l_counted.nd (em_call F_l_pick (hr.mono (by decide)) T.m_l_pick T.f_l_pick.kp T.b_l_pick .nil (fun _ => Rps.nil) (am_consC (em_var 0) (am_consC (PEm.cl (em_lst (am_consC em_int (am_consC em_int (am_consC em_int (am_consC em_int (am_consC em_int am_nil))))))) am_nil))))
    (sm_cons (sm_par [3, 4] rfl S_l_counted.nd (xm_cl (PEm.cl (em_lc (own := [("house", 7)]) rfl S_l_counted.nd (im_rng1 T.z_range (PEm.ow (em_var 2))) (blkOk_by (N := n_l_counted) (sc := defScope s_l_counted) (by decide +kernel)) (fun _ _ _ _ _ => (gm_name 7 S_l_counted.nd)) (fun _ _ _ _ _ => tsm_nil) (fun _ _ _ _ _ => (em_var 7)))) (xm_fr (em_lst am_nil) xm_nil)))
    (sm_cons (sm_while (c := [.sh, .sh, .sh, .sh, .ow, .sh, .sh, .sh]) .never (tm_cmp op_lt lift_lt (PEm.ow (em_callB call_lenA lift_len (by rfl) T.z_len PySem.boot_len (am_cons (em_varO 4) am_nil))) (PEm.ow (em_var 1)) (nomark _)) (sm_cons (sm_set 5 S_l_counted.nd (em_call F_l_some (hr.mono (by decide)) T.m_l_some T.f_l_some.kp T.b_l_some .nil (fun _ => Rps.nil) (am_consC (em_var 0) (am_consC (em_var 3) (am_consC (em_call F_l_draw (hr.mono (by decide)) T.m_l_draw T.f_l_draw.kp T.b_l_draw .nil (fun _ => Rps.nil) (am_consC (em_var 0) (am_consC (em_op op_plus lift_plus (PEm.ow (em_callB (call_min2 rfl) lift_min2 (by rfl) T.z_min PyProof.Rows.boot_min (am_cons (PEm.ow (em_var 2)) (am_cons (PEm.ow (em_call F_l_pick (hr.mono (by decide)) T.m_l_pick T.f_l_pick.kp T.b_l_pick .nil (fun _ => Rps.nil) (am_consC (em_var 0) (am_consC (PEm.cl (em_lst (am_consC em_int (am_consC em_int (am_consC em_int (am_consC em_int am_nil)))))) am_nil)))) am_nil)))) (PEm.ow em_int)) am_nil))) am_nil)))))
    (sm_one (sm_for (c := [.sh, .sh, .sh, .sh, .ow, .sh, .sh, .sh]) .never rfl (im_rng1 T.z_range (PEm.ow (em_call F_l_pick (hr.mono (by decide)) T.m_l_pick T.f_l_pick.kp T.b_l_pick .nil (fun _ => Rps.nil) (am_consC (em_var 0) (am_consC (PEm.cl (em_lst (am_consC em_int (am_consC em_int (am_consC em_int (am_consC em_int (am_consC em_int am_nil))))))) am_nil))))) (gm_name 6 S_l_counted.nd) (sm_one (sm_app 4 (em_var 5))) (fun _ e => by cases e)))))
    (sm_one (sm_ret (em_callTy call_tuple_of lift_tuple (by rfl) T.z_tuple PyProof.Rows.boot_tuple (am_cons (PEm.ow (em_sl (em_varO 4) om_none (om_some (PEm.ow (em_var 1))))) am_nil)))))))⟩
def t_l_lasts : TSm :=
  (sSeq (sPar [4, 5] (mCons (mLst mNil) (mCons (mLst mNil) mNil))) (sSeq (sFor (mRng2 (mVar 1) (mB oLen (mCons (mVar 0) mNil))) (gmN 3) (sSeq (sSet 4 (mOp oAdd (mVar 4) (mLc (mItems (mOp oIx (mVar 0) (mVar 3))) [6] (gmN 6) (mTB (mOp (oIn true) (mVar 6) (mVar 4))) (mVar 6)))) (sIf (mTB (mOp oGt (mB oLen (mCons (mVar 4) mNil)) (mVar 2))) (sApp 5 (mVar 3)) sNext))) (sRet (mVar 5))))
theorem w_l_lasts (T : Tx K mg) (cdv : Value) (A : Around) (outer : List PySem.Env) (s : Shared) (H : Hp) (E : XK)
    (hr : Room 0 (A.deeper (PyProof.Rows.envOfC "_law_lasts" (defScope s_l_lasts) s.heap.objs.size T.a_l_lasts cdv))) :
    ∃ c', PSsm (bodyX P w K mg base n_l_lasts "_law_lasts" s_l_lasts T.a_l_lasts cdv A outer s H E) ⟨.cl, false, []⟩ (shs 7) c' (defBody s_l_lasts) (t_l_lasts) :=
  ⟨[.sh, .sh, .sh, .sh, .sh, .sh, .sh], (sm_cons (sm_parG [4, 5] rfl (pgs_n S_l_lasts.nd (pgs_n S_l_lasts.nd pgs_n0)) (xm_cl (PEm.cl (em_lst am_nil)) (xm_fr (em_lst am_nil) xm_nil)))
    (sm_cons (sm_for (c := [.sh, .sh, .sh, .sh, .sh, .ow, .sh]) .never rfl (im_rng2 T.z_range (PEm.ow (em_var 1)) (PEm.ow (em_callB call_lenA lift_len (by rfl) T.z_len PySem.boot_len (am_cons (PEm.ow (em_var 0)) am_nil)))) (gm_name 3 S_l_lasts.nd) (sm_cons (sm_set 4 S_l_lasts.nd (em_op op_plus lift_plus (PEm.ow (em_var 4)) (PEm.ow (em_lc (own := [("house", 6)]) rfl S_l_lasts.nd (im_seq (em_ix (PEm.ow (em_var 0)) (PEm.ow (em_var 3)) (fun _ _ => rfl))) (blkOk_by (N := n_l_lasts) (sc := defScope s_l_lasts) (by decide +kernel)) (fun _ _ _ _ _ => (gm_name 6 S_l_lasts.nd)) (fun _ _ _ _ _ => (tsm_one (tm_cmp op_notIn_seq lift_in (PEm.ow (em_var 6)) (PEm.ow (em_var 4)) (by with_unfolding_all rfl)))) (fun _ _ _ _ _ => (em_var 6))))))
    (sm_one (sm_if (c' := [.sh, .sh, .sh, .sh, .sh, .ow, .sh]) (tm_cmp op_gt lift_gt (PEm.ow (em_callB call_lenA lift_len (by rfl) T.z_len PySem.boot_len (am_cons (PEm.ow (em_var 4)) am_nil))) (PEm.ow (em_var 2)) (nomark _)) (sm_one (sm_app 5 (em_var 3))) sm_nil))) (fun _ e => by cases e))
    (sm_one (sm_retO 5))))⟩
def t_l_own_tolls (sp_l_draw : PM.Spec) (sp_l_lasts : PM.Spec) (sp_l_pick : PM.Spec) : TSm :=
  (sSeq (sPar [5, 6] (mCons (mLc (mItems (mVar 3)) [13] (gmN 13) mYes (mVar 13)) (mCons (mLst mNil) mNil))) (sSeq (sFor (mRng1 (mC (.int 6))) (gmN 4) (sSeq (sSet 7 (mCall sp_l_draw [] (mCons (mVar 0) (mCons (mB oLen (mCons (mVar 1) mNil)) mNil)))) (sSeq (sSet 8 (mCall sp_l_lasts [] (mCons (mVar 1) (mCons (mVar 7) (mCons (mVar 2) mNil))))) (sSeq (sIf (mTB (mOp oEq (mVar 8) (mLst mNil))) sCont sNext) (sSeq (sSet 9 (mIf (mTB (mOp oEq (mCall sp_l_draw [] (mCons (mVar 0) (mCons (mC (.int 2)) mNil))) (mC (.int 0)))) (mOp oIx (mVar 8) (mC (.int 0))) (mCall sp_l_pick [] (mCons (mVar 0) (mCons (mVar 8) mNil))))) (sSeq (sSet 10 (mB oMinL (mCons (mOp oAdd (mLc (mRng2 (mVar 7) (mVar 9)) [12] (gmN 12) mYes (mOp oIx (mVarO 5) (mVar 12))) (mLst (mCons (mC (.int 40)) mNil))) mNil))) (sSeq (sIf (mOr (mTB (mOp oEq (mVar 10) (mC (.int 0)))) (mTB (mOp oNe (mLc (mOwn 6) [14] (gmN 14) (mAnd (mTB (mOp oEq (mOp oIx (mVar 14) (mC (.int 0))) (mVar 7))) (mTB (mOp oEq (mOp oIx (mVar 14) (mC (.int 1))) (mVar 9)))) (mVar 14)) (mLst mNil)))) sCont sNext) (sSeq (sSet 11 (mIf (mTB (mOp oEq (mCall sp_l_draw [] (mCons (mVar 0) (mCons (mC (.int 2)) mNil))) (mC (.int 0)))) (mVar 10) (mOp oAdd (mC (.int 1)) (mCall sp_l_draw [] (mCons (mVar 0) (mCons (mVar 10) mNil)))))) (sSeq (sFor (mRng2 (mVar 7) (mVar 9)) (gmN 12) (sAugL 5 (fun i j => i - j) (mVar 12) (mVar 11))) (sApp 6 (mTup (mCons (mVar 7) (mCons (mVar 9) (mCons (mVar 11) mNil)))))))))))))) (sRet (mB oTuple (mCons (mB (oSortTs 3 64) (mCons (mVarO 6) mNil)) mNil)))))
theorem w_l_own_tolls (T : Tx K mg) (sp_l_draw : PM.Spec) (sp_l_lasts : PM.Spec) (sp_l_pick : PM.Spec)
    (F_l_draw : FnOk P w K mg base CX0 1 T.a_l_draw T.d_l_draw p_l_draw (spM K .cl sp_l_draw))
    (F_l_lasts : FnOk P w K mg base CX0 1 T.a_l_lasts T.d_l_lasts p_l_lasts (spM K .cl sp_l_lasts))
    (F_l_pick : FnOk P w K mg base CX0 2 T.a_l_pick T.d_l_pick p_l_pick (spM K .cl sp_l_pick)) (cdv : Value) (A : Around) (outer : List PySem.Env) (s : Shared) (H : Hp) (E : XK)
    (hr : Room 2 (A.deeper (PyProof.Rows.envOfC "_law_own_tolls" (defScope s_l_own_tolls) s.heap.objs.size T.a_l_own_tolls cdv))) :
    ∃ c', PSsm (bodyX P w K mg base n_l_own_tolls "_law_own_tolls" s_l_own_tolls T.a_l_own_tolls cdv A outer s H E) ⟨.cl, false, []⟩ (shs 15) c' (defBody s_l_own_tolls) (t_l_own_tolls sp_l_draw sp_l_lasts sp_l_pick) :=
  ⟨[.sh, .sh, .sh, .sh, .sh, .sh, .sh, .sh, .sh, .sh, .sh, .sh, .sh, .sh, .sh], (sm_cons (sm_parG [5, 6] rfl (pgs_n S_l_own_tolls.nd (pgs_n S_l_own_tolls.nd pgs_n0)) (xm_fr (em_lc (own := [("cost", 13)]) rfl S_l_own_tolls.nd (im_seq (em_var 3)) (blkOk_by (N := n_l_own_tolls) (sc := defScope s_l_own_tolls) (by decide +kernel)) (fun _ _ _ _ _ => (gm_name 13 S_l_own_tolls.nd)) (fun _ _ _ _ _ => tsm_nil) (fun _ _ _ _ _ => (em_var 13))) (xm_fr (em_lst am_nil) xm_nil)))
    (sm_cons (sm_for (c := [.sh, .sh, .sh, .sh, .sh, .ow, .ow, .sh, .sh, .sh, .sh, .sh, .sh, .sh, .sh]) .never rfl (im_rng1 T.z_range (PEm.ow em_int)) (gm_name 4 S_l_own_tolls.nd) (sm_cons (sm_set 7 S_l_own_tolls.nd (em_call F_l_draw (hr.mono (by decide)) T.m_l_draw T.f_l_draw.kp T.b_l_draw .nil (fun _ => Rps.nil) (am_consC (em_var 0) (am_consC (em_callB call_lenA lift_len (by rfl) T.z_len PySem.boot_len (am_cons (PEm.ow (em_var 1)) am_nil)) am_nil))))
    (sm_cons (sm_set 8 S_l_own_tolls.nd (em_call F_l_lasts (hr.mono (by decide)) T.m_l_lasts T.f_l_lasts.kp T.b_l_lasts .nil (fun _ => Rps.nil) (am_consC (em_var 1) (am_consC (em_var 7) (am_consC (em_var 2) am_nil)))))
    (sm_cons (sm_if (c' := [.sh, .sh, .sh, .sh, .sh, .ow, .ow, .sh, .sh, .sh, .sh, .sh, .sh, .sh, .sh]) (tm_cmp (op_eqD hr.units) lift_eq (PEm.ow (em_var 8)) (PEm.ow (em_lst am_nil)) (nomark _)) (sm_one (sm_cont (by decide))) sm_nil)
    (sm_cons (sm_set 9 S_l_own_tolls.nd (em_if (tm_cmp (op_eqD hr.units) lift_eq (PEm.ow (em_call F_l_draw (hr.mono (by decide)) T.m_l_draw T.f_l_draw.kp T.b_l_draw .nil (fun _ => Rps.nil) (am_consC (em_var 0) (am_consC em_int am_nil)))) (PEm.ow em_int) (nomark _)) (em_ix (PEm.ow (em_var 8)) (PEm.ow em_int) (fun _ _ => rfl)) (em_call F_l_pick (hr.mono (by decide)) T.m_l_pick T.f_l_pick.kp T.b_l_pick .nil (fun _ => Rps.nil) (am_consC (em_var 0) (am_consC (em_var 8) am_nil)))))
    (sm_cons (sm_set 10 S_l_own_tolls.nd (em_callB (cr_min rfl) lift_minL (by rfl) T.z_min PyProof.Rows.boot_min (am_cons (PEm.ow (em_op op_plus lift_plus (PEm.ow (em_lc (own := [("one", 12)]) rfl S_l_own_tolls.nd (im_rng2 T.z_range (PEm.ow (em_var 7)) (PEm.ow (em_var 9))) (blkOk_by (N := n_l_own_tolls) (sc := defScope s_l_own_tolls) (by decide +kernel)) (fun _ _ _ _ _ => (gm_name 12 S_l_own_tolls.nd)) (fun _ _ _ _ _ => tsm_nil) (fun _ _ _ _ _ => (em_ix (em_varO 5) (PEm.ow (em_var 12)) (fun _ _ => rfl))))) (PEm.ow (em_lst (am_consC em_int am_nil))))) am_nil)))
    (sm_cons (sm_if (c' := [.sh, .sh, .sh, .sh, .sh, .ow, .ow, .sh, .sh, .sh, .sh, .sh, .sh, .sh, .sh]) (PWm.pt (wm_or (tm_cmp (op_eqD hr.units) lift_eq (PEm.ow (em_var 10)) (PEm.ow em_int) (nomark _)) (wm_or1 (tm_cmp (op_neD hr.units) lift_ne (PEm.ow (em_lc (own := [("row", 14)]) rfl S_l_own_tolls.nd (im_ownW 6) (blkOk_by (N := n_l_own_tolls) (sc := defScope s_l_own_tolls) (by decide +kernel)) (fun _ _ _ _ _ => (gm_name 14 S_l_own_tolls.nd)) (fun _ _ _ _ _ => (tsm_one (PWm.pt (wm_and (tm_cmp (op_eqD hr.units) lift_eq (PEm.ow (em_ix (PEm.ow (em_var 14)) (PEm.ow em_int) (fun _ _ => rfl))) (PEm.ow (em_var 7)) (nomark _)) (wm_and1 (tm_cmp (op_eqD hr.units) lift_eq (PEm.ow (em_ix (PEm.ow (em_var 14)) (PEm.ow em_int) (fun _ _ => rfl))) (PEm.ow (em_var 9)) (nomark _))))))) (fun _ _ _ _ _ => (em_var 14)))) (PEm.ow (em_lst am_nil)) (nomark _))))) (sm_one (sm_cont (by decide))) sm_nil)
    (sm_cons (sm_set 11 S_l_own_tolls.nd (em_if (tm_cmp (op_eqD hr.units) lift_eq (PEm.ow (em_call F_l_draw (hr.mono (by decide)) T.m_l_draw T.f_l_draw.kp T.b_l_draw .nil (fun _ => Rps.nil) (am_consC (em_var 0) (am_consC em_int am_nil)))) (PEm.ow em_int) (nomark _)) (em_var 10) (em_op op_plus lift_plus (PEm.ow em_int) (PEm.ow (em_call F_l_draw (hr.mono (by decide)) T.m_l_draw T.f_l_draw.kp T.b_l_draw .nil (fun _ => Rps.nil) (am_consC (em_var 0) (am_consC (em_var 10) am_nil)))))))
    (sm_cons (sm_for (c := [.sh, .sh, .sh, .sh, .sh, .ow, .ow, .sh, .sh, .sh, .sh, .sh, .sh, .sh, .sh]) .never rfl (im_rng2 T.z_range (PEm.ow (em_var 7)) (PEm.ow (em_var 9))) (gm_name 12 S_l_own_tolls.nd) (sm_one (sm_augL 5 ip_sub (em_var 12) (em_var 11))) (fun _ e => by cases e))
    (sm_one (sm_app 6 (em_tup (am_consC (em_var 7) (am_consC (em_var 9) (am_consC (em_var 11) am_nil)))))))))))))) (fun _ e => by cases e))
    (sm_one (sm_ret (em_callTy call_tuple_of lift_tuple (by rfl) T.z_tuple PyProof.Rows.boot_tuple (am_cons (PEm.ow (em_callB (cr_sortT (d := 3) (B := 64) (by decide)) lift_sortTs (by rfl) T.z_sorted PyProof.Rows.boot_sorted (am_cons (em_varO 6) am_nil))) am_nil))))))⟩
def t_l_bent (sp_l_pick : PM.Spec) (sp_l_draw : PM.Spec) : TSm :=
  (sSeq (sSet 3 (mLc (mItems (mVar 1)) [8] (gmN 8) mYes (mB oList (mCons (mVar 8) mNil)))) (sSeq (sIf (mTB (mOp oEq (mVarO 3) (mLst mNil))) (sRet (mCall sp_l_pick [] (mCons (mVar 0) (mCons (mLst (mCons (mTup (mCons (mTup (mCons (mC (.int 0)) (mCons (mOp oSub (mB oLen (mCons (mVar 2) mNil)) (mC (.int 1))) (mCons (mC (.int 1)) mNil)))) mNil)) (mCons (mTup (mCons (mTup (mCons (mC (.int 0)) (mCons (mB oLen (mCons (mVar 2) mNil)) (mCons (mC (.int 1)) mNil)))) mNil)) (mCons (mLst mNil) (mCons (mC (.non)) (mCons (mTup (mCons (mTup (mCons (mC (.int 0)) (mCons (mC (.int 0)) mNil))) mNil)) (mCons (mTup (mCons (mTup (mCons (mC (.int 0)) (mCons (mC (.int 0)) (mCons (mC (.int 0)) mNil)))) mNil)) mNil))))))) mNil)))) sNext) (sSeq (sPar [5, 6] (mCons (mCall sp_l_draw [] (mCons (mVar 0) (mCons (mB oLen (mCons (mVarO 3) mNil)) mNil))) (mCons (mCall sp_l_draw [] (mCons (mVar 0) (mCons (mC (.int 8)) mNil))) mNil))) (sSeq (sIf (mTB (mOp oLt (mVar 6) (mC (.int 5)))) (sSeq (sSet 7 (mCall sp_l_draw [] (mCons (mVar 0) (mCons (mC (.int 3)) mNil)))) (sPut2 3 (mOp oIx (mVarO 3) (mVar 5)) (mVar 7) (mB oMax2 (mCons (mC (.int 0)) (mCons (mOp oAdd (mOp oIx (mOp oIx (mVarO 3) (mVar 5)) (mVar 7)) (mCall sp_l_pick [] (mCons (mVar 0) (mCons (mLst (mCons (mC (.int 1)) (mCons (mOp1 oNeg (mC (.int 1))) (mCons (mC (.int 2)) (mCons (mOp1 oNeg (mOp oIx (mOp oIx (mVarO 3) (mVar 5)) (mVar 7))) (mCons (mC (.int 1)) mNil)))))) mNil)))) mNil))))) (sIf (mTB (mOp oEq (mVar 6) (mC (.int 5)))) (sApp 3 (mOp oIx (mVarO 3) (mVar 5))) (sIf (mTB (mOp oEq (mVar 6) (mC (.int 6)))) (sSet 3 (mOp1 oRev (mVarO 3))) (sPut 3 (mVar 5) (mLst (mCons (mOp oIx (mOp oIx (mVarO 3) (mVar 5)) (mC (.int 0))) (mCons (mOp oIx (mOp oIx (mVarO 3) (mVar 5)) (mC (.int 1))) (mCons (mCall sp_l_pick [] (mCons (mVar 0) (mCons (mLst (mCons (mC (.bl true)) (mCons (mC (.non)) (mCons (mC (.str (PySem.Str.ofString "one"))) (mCons (mOp oIx (mOp oIx (mVarO 3) (mVar 5)) (mC (.int 2))) (mCons (mC (.int 0)) (mCons (mTup (mCons (mC (.int 1)) mNil)) mNil))))))) mNil))) mNil)))))))) (sSeq (sSet 4 (mB oTuple (mCons (mLc (mItems (mVar 3)) [8] (gmN 8) mYes (mB oTuple (mCons (mVar 8) mNil))) mNil))) (sRet (mIf (mTB (mOp oEq (mCall sp_l_draw [] (mCons (mVar 0) (mCons (mC (.int 12)) mNil))) (mC (.int 0)))) (mB oList (mCons (mVar 4) mNil)) (mVar 4))))))))
theorem w_l_bent (T : Tx K mg) (sp_l_pick : PM.Spec) (sp_l_draw : PM.Spec)
    (F_l_pick : FnOk P w K mg base CX0 2 T.a_l_pick T.d_l_pick p_l_pick (spM K .cl sp_l_pick))
    (F_l_draw : FnOk P w K mg base CX0 1 T.a_l_draw T.d_l_draw p_l_draw (spM K .cl sp_l_draw)) (cdv : Value) (A : Around) (outer : List PySem.Env) (s : Shared) (H : Hp) (E : XK)
    (hr : Room 2 (A.deeper (PyProof.Rows.envOfC "_law_bent" (defScope s_l_bent) s.heap.objs.size T.a_l_bent cdv))) :
    ∃ c', PSsmL (bodyX P w K mg base n_l_bent "_law_bent" s_l_bent T.a_l_bent cdv A outer s H E) ⟨.cl, false, []⟩ (shs 9) c' (defBody s_l_bent) (t_l_bent sp_l_pick sp_l_draw) :=
  ⟨[.sh, .sh, .sh, .sh, .sh, .sh, .sh, .sh, .sh], (sm_consL (toL (sm_setLc 3 (hsw := sw_true rfl rfl rfl (by decide +kernel)) (own := [("row", 8)]) rfl S_l_bent.nd (im_seq (em_var 1)) (blkOk_by (N := n_l_bent) (sc := defScope s_l_bent) (by decide +kernel)) (fun _ _ _ _ _ => (gm_name 8 S_l_bent.nd)) (fun _ _ _ _ _ => tsm_nil) (fun _ _ _ _ _ => (PEm.cl (em_callTy call_list_of lift_list (by rfl) T.z_list PyProof.Rows.boot_list (am_cons (PEm.ow (em_var 8)) am_nil))))))
    (sm_consL (sm_ifL (c' := [.sh, .sh, .sh, .ow, .sh, .sh, .sh, .sh, .sh]) (tm_cmp (op_eqD hr.units) lift_eq (em_varO 3) (PEm.ow (em_lst am_nil)) (nomark _)) (sm_oneL (toL (sm_ret (em_call F_l_pick (hr.mono (by decide)) T.m_l_pick T.f_l_pick.kp T.b_l_pick .nil (fun _ => Rps.nil) (am_consC (em_var 0) (am_consC (PEm.cl (em_lst (am_consC (em_tup (am_consC (em_tup (am_consC em_int (am_consC (em_op op_sub lift_sub (PEm.ow (em_callB call_lenA lift_len (by rfl) T.z_len PySem.boot_len (am_cons (PEm.ow (em_var 2)) am_nil))) (PEm.ow em_int)) (am_consC em_int am_nil)))) am_nil)) (am_consC (em_tup (am_consC (em_tup (am_consC em_int (am_consC (em_callB call_lenA lift_len (by rfl) T.z_len PySem.boot_len (am_cons (PEm.ow (em_var 2)) am_nil)) (am_consC em_int am_nil)))) am_nil)) (am_consC (PEm.cl (em_lst am_nil)) (am_consC em_non (am_consC (em_tup (am_consC (em_tup (am_consC em_int (am_consC em_int am_nil))) am_nil)) (am_consC (em_tup (am_consC (em_tup (am_consC em_int (am_consC em_int (am_consC em_int am_nil)))) am_nil)) am_nil)))))))) am_nil)))))) (toLs sm_nil))
    (sm_consL (toL (sm_par [5, 6] rfl S_l_bent.nd (xm_cl (em_call F_l_draw (hr.mono (by decide)) T.m_l_draw T.f_l_draw.kp T.b_l_draw .nil (fun _ => Rps.nil) (am_consC (em_var 0) (am_consC (em_callB call_lenA lift_len (by rfl) T.z_len PySem.boot_len (am_cons (em_varO 3) am_nil)) am_nil))) (xm_cl (em_call F_l_draw (hr.mono (by decide)) T.m_l_draw T.f_l_draw.kp T.b_l_draw .nil (fun _ => Rps.nil) (am_consC (em_var 0) (am_consC em_int am_nil))) xm_nil))))
    (sm_consL (sm_ifL (c' := [.sh, .sh, .sh, .sh, .sh, .sh, .sh, .sh, .sh]) (tm_cmp op_lt lift_lt (PEm.ow (em_var 6)) (PEm.ow em_int) (nomark _)) (sm_postL (by decide) (sm_consL (toL (sm_set 7 S_l_bent.nd (em_call F_l_draw (hr.mono (by decide)) T.m_l_draw T.f_l_draw.kp T.b_l_draw .nil (fun _ => Rps.nil) (am_consC (em_var 0) (am_consC em_int am_nil)))))
    (sm_oneL (sm_put2L 3 (em_callB (call_max2 rfl) lift_max2 (by rfl) T.z_max PyProof.Rows.boot_max (am_cons (PEm.ow em_int) (am_cons (PEm.ow (em_op op_plus lift_plus (PEm.ow (em_ix (PEm.ow (em_ix (em_varO 3) (PEm.ow (em_var 5)) (fun _ _ => rfl))) (PEm.ow (em_var 7)) (fun _ _ => rfl))) (PEm.ow (em_call F_l_pick (hr.mono (by decide)) T.m_l_pick T.f_l_pick.kp T.b_l_pick .nil (fun _ => Rps.nil) (am_consC (em_var 0) (am_consC (PEm.cl (em_lst (am_consC em_int (am_consC (em_un un_neg lift_neg (PEm.ow em_int)) (am_consC em_int (am_consC (em_un un_neg lift_neg (PEm.ow (em_ix (PEm.ow (em_ix (em_varO 3) (PEm.ow (em_var 5)) (fun _ _ => rfl))) (PEm.ow (em_var 7)) (fun _ _ => rfl)))) (am_consC em_int am_nil))))))) am_nil)))))) am_nil))) (em_ix (em_varO 3) (PEm.ow (em_var 5)) (fun _ _ => rfl)) (PEm.ow (em_var 7)))))) (sm_oneL (sm_ifL (c' := [.sh, .sh, .sh, .sh, .sh, .sh, .sh, .sh, .sh]) (tm_cmp (op_eqD hr.units) lift_eq (PEm.ow (em_var 6)) (PEm.ow em_int) (nomark _)) (sm_postL (by decide) (sm_oneL (toL (sm_app 3 (em_ix (em_varO 3) (PEm.ow (em_var 5)) (fun _ _ => rfl)))))) (sm_oneL (sm_ifL (c' := [.sh, .sh, .sh, .sh, .sh, .sh, .sh, .sh, .sh]) (tm_cmp (op_eqD hr.units) lift_eq (PEm.ow (em_var 6)) (PEm.ow em_int) (nomark _)) (sm_oneL (toL (sm_set 3 S_l_bent.nd (em_rev (em_varO 3))))) (sm_postL (by decide) (sm_oneL (toL (sm_put 3 (PEm.cl (em_lst (am_consC (em_ix (PEm.ow (em_ix (em_varO 3) (PEm.ow (em_var 5)) (fun _ _ => rfl))) (PEm.ow em_int) (fun _ _ => rfl)) (am_consC (em_ix (PEm.ow (em_ix (em_varO 3) (PEm.ow (em_var 5)) (fun _ _ => rfl))) (PEm.ow em_int) (fun _ _ => rfl)) (am_consC (em_call F_l_pick (hr.mono (by decide)) T.m_l_pick T.f_l_pick.kp T.b_l_pick .nil (fun _ => Rps.nil) (am_consC (em_var 0) (am_consC (PEm.cl (em_lst (am_consC em_bl (am_consC em_non (am_consC em_str (am_consC (em_ix (PEm.ow (em_ix (em_varO 3) (PEm.ow (em_var 5)) (fun _ _ => rfl))) (PEm.ow em_int) (fun _ _ => rfl)) (am_consC em_int (am_consC (em_tup (am_consC em_int am_nil)) am_nil)))))))) am_nil))) am_nil))))) (PEm.ow (em_var 5)))))))))))
    (sm_consL (toL (sm_set 4 S_l_bent.nd (em_callTy call_tuple_of lift_tuple (by rfl) T.z_tuple PyProof.Rows.boot_tuple (am_cons (PEm.ow (em_lc (own := [("row", 8)]) rfl S_l_bent.nd (im_seq (em_var 3)) (blkOk_by (N := n_l_bent) (sc := defScope s_l_bent) (by decide +kernel)) (fun _ _ _ _ _ => (gm_name 8 S_l_bent.nd)) (fun _ _ _ _ _ => tsm_nil) (fun _ _ _ _ _ => (em_callTy call_tuple_of lift_tuple (by rfl) T.z_tuple PyProof.Rows.boot_tuple (am_cons (PEm.ow (em_var 8)) am_nil))))) am_nil))))
    (sm_oneL (toL (sm_ret (em_if (tm_cmp (op_eqD hr.units) lift_eq (PEm.ow (em_call F_l_draw (hr.mono (by decide)) T.m_l_draw T.f_l_draw.kp T.b_l_draw .nil (fun _ => Rps.nil) (am_consC (em_var 0) (am_consC em_int am_nil)))) (PEm.ow em_int) (nomark _)) (PEm.cl (em_callTy call_list_of lift_list (by rfl) T.z_list PyProof.Rows.boot_list (am_cons (PEm.ow (em_var 4)) am_nil))) (em_var 4))))))))))⟩
def t_law (ok_l_heap : List PV → Prop) (sp_l_pick : PM.Spec) (sp_l_counted : PM.Spec) (sp_l_own_tolls : PM.Spec) (sp_cheapest_schedule : PM.Spec) (sp_tolls_of : PM.Spec) (sp_is_tolls : PM.Spec) (sp_l_bent : PM.Spec) (sp_l_is_tolls : PM.Spec) (sp_l_draw : PM.Spec) (sp_l_is_schedule : PM.Spec) (sp_l_is_secret : PM.Spec) (sp_price_by : PM.Spec) : TSm :=
  (sSeq (sSrc 1 ok_l_heap (mCons (mVar 0) mNil)) (sSeq (sSet 2 (mCall sp_l_pick [] (mCons (mVar 1) (mCons (mLst (mCons (mC (.int 1)) (mCons (mC (.int 2)) (mCons (mC (.int 3)) (mCons (mC (.int 4)) (mCons (mC (.int 5)) (mCons (mC (.int 7)) (mCons (mC (.int 9)) (mCons (mC (.int 14)) (mCons (mC (.int 21)) (mCons (mC (.int 30)) mNil))))))))))) mNil)))) (sSeq (sSet 3 (mCall sp_l_counted [] (mCons (mVar 1) (mCons (mVar 2) mNil)))) (sSeq (sSet 4 (mB oMaxL (mCons (mLc (mItems (mVar 3)) [16] (gmN 16) mYes (mB oLen (mCons (mVar 16) mNil))) mNil))) (sSeq (sSet 5 (mB oMax2 (mCons (mC (.int 0)) (mCons (mOp oAdd (mVar 4) (mCall sp_l_pick [] (mCons (mVar 1) (mCons (mLst (mCons (mOp1 oNeg (mC (.int 1))) (mCons (mC (.int 0)) (mCons (mC (.int 0)) (mCons (mC (.int 0)) (mCons (mC (.int 1)) (mCons (mC (.int 1)) (mCons (mC (.int 2)) (mCons (mC (.int 3)) mNil))))))))) mNil)))) mNil)))) (sSeq (sSet 6 (mCall sp_l_pick [] (mCons (mVar 1) (mCons (mLst (mCons (mC (.int 0)) (mCons (mC (.int 1)) (mCons (mC (.int 3)) (mCons (mC (.int 10)) (mCons (mC (.int 3000)) (mCons (mOp oPow (mC (.int 10)) (mC (.int 9))) mNil))))))) mNil)))) (sSeq (sSet 7 (mB oTuple (mCons (mLc (mRng1 (mOp oSub (mVar 2) (mC (.int 1)))) [17] (gmN 17) mYes (mIf (mTB (mOp oGt (mCall sp_l_draw [] (mCons (mVar 1) (mCons (mC (.int 3)) mNil))) (mC (.int 0)))) (mCall sp_l_draw [] (mCons (mVar 1) (mCons (mOp oAdd (mVar 6) (mC (.int 1))) mNil))) (mVar 6))) mNil))) (sSeq (sPar [10, 11] (mCons (mCall sp_cheapest_schedule [] (mCons (mVar 3) (mCons (mVar 5) (mCons (mVar 7) mNil)))) (mCons (mCall sp_tolls_of [] (mCons (mVar 3) (mCons (mVar 5) (mCons (mVar 7) mNil)))) mNil))) (sSeq (sIf (mTB (mOp oGt (mVar 4) (mVar 5))) (sIf (mOr (mTB (mOp oNotN (mVar 10) (mC (.non)))) (mTB (mOp oNotN (mVar 11) (mC (.non))))) (sRet (mC (.bl false))) sNext) (sSeq (sIf (mOr (mNot (mTB (mCall sp_l_is_schedule [] (mCons (mVar 2) (mCons (mVar 10) mNil))))) (mNot (mTB (mCall sp_l_is_secret [] (mCons (mVar 3) (mCons (mVar 5) (mCons (mVar 10) mNil))))))) (sRet (mC (.bl false))) sNext) (sSeq (sIf (mNot (mTB (mCall sp_l_is_tolls [] (mCons (mVar 3) (mCons (mVar 5) (mCons (mVar 7) (mCons (mVar 11) mNil))))))) (sRet (mC (.bl false))) sNext) (sSeq (sSet 12 (mB oSum (mCons (mLc (mItems (mVar 10)) [17] (gmN 17) mYes (mOp oIx (mVar 7) (mVar 17))) mNil))) (sIf (mOr (mTB (mOp oNe (mB oSum (mCons (mLc (mItems (mVar 11)) [18] (gmN 18) mYes (mOp oIx (mVar 18) (mC (.int 2)))) mNil)) (mVar 12))) (mTB (mOp oNe (mCall sp_price_by [] (mCons (mVar 7) (mCons (mVar 10) mNil))) (mVar 12)))) (sRet (mC (.bl false))) sNext))))) (sSeq (sSet 8 (mCall sp_l_own_tolls [] (mCons (mVar 1) (mCons (mVar 3) (mCons (mVar 5) (mCons (mVar 7) mNil)))))) (sSeq (sIf (mTB (mOp oNotB (mCall sp_is_tolls [] (mCons (mVar 3) (mCons (mVar 5) (mCons (mVar 7) (mCons (mVar 8) mNil))))) (mC (.bl true)))) (sRet (mC (.bl false))) sNext) (sSeq (sFor (mRng1 (mC (.int 5))) (gmN 9) (sSeq (sSet 13 (mCall sp_l_bent [] (mCons (mVar 1) (mCons (mIf (mOr (mTB (mOp oIsN (mVar 11) (mC (.non)))) (mTB (mOp oEq (mCall sp_l_draw [] (mCons (mVar 1) (mCons (mC (.int 2)) mNil))) (mC (.int 0))))) (mVar 8) (mVar 11)) (mCons (mVar 3) mNil))))) (sSeq (sSet 14 (mCall sp_l_is_tolls [] (mCons (mVar 3) (mCons (mVar 5) (mCons (mVar 7) (mCons (mVar 13) mNil)))))) (sSeq (sSet 15 (mCall sp_is_tolls [] (mCons (mVar 3) (mCons (mVar 5) (mCons (mVar 7) (mCons (mVar 13) mNil)))))) (sIf (mOr (mAnd (mTB (mVar 14)) (mTB (mOp oNotB (mVar 15) (mC (.bl true))))) (mAnd (mNot (mTB (mVar 14))) (mTB (mOp oNotB (mVar 15) (mC (.bl false)))))) (sRet (mC (.bl false))) sNext))))) (sRet (mC (.bl true)))))))))))))))
theorem w_law (T : Tx K mg) (ok_l_heap : List PV → Prop) (sp_l_pick : PM.Spec) (sp_l_counted : PM.Spec) (sp_l_own_tolls : PM.Spec) (sp_cheapest_schedule : PM.Spec) (sp_tolls_of : PM.Spec) (sp_is_tolls : PM.Spec) (sp_l_bent : PM.Spec) (sp_l_is_tolls : PM.Spec) (sp_l_draw : PM.Spec) (sp_l_is_schedule : PM.Spec) (sp_l_is_secret : PM.Spec) (sp_price_by : PM.Spec)
    (F_l_heap : FnOk P w K mg base CX0 1 T.a_l_heap T.d_l_heap p_l_heap (spSrc K ok_l_heap))
    (F_l_pick : FnOk P w K mg base CX0 2 T.a_l_pick T.d_l_pick p_l_pick (spM K .cl sp_l_pick))
    (F_l_counted : FnOk P w K mg base CX0 3 T.a_l_counted T.d_l_counted p_l_counted (spM K .cl sp_l_counted))
    (F_l_own_tolls : FnOk P w K mg base CX0 3 T.a_l_own_tolls T.d_l_own_tolls p_l_own_tolls (spM K .cl sp_l_own_tolls))
    (F_cheapest_schedule : FnOk P w K mg base CX0 4 T.a_cheapest_schedule T.d_cheapest_schedule p_cheapest_schedule (spM K .cl sp_cheapest_schedule))
    (F_tolls_of : FnOk P w K mg base CX0 4 T.a_tolls_of T.d_tolls_of p_tolls_of (spM K .cl sp_tolls_of))
    (F_is_tolls : FnOk P w K mg base CX0 4 T.a_is_tolls T.d_is_tolls p_is_tolls (spM K .cl sp_is_tolls))
    (F_l_bent : FnOk P w K mg base CX0 3 T.a_l_bent T.d_l_bent p_l_bent (spM K .cl sp_l_bent))
    (F_l_is_tolls : FnOk P w K mg base CX0 2 T.a_l_is_tolls T.d_l_is_tolls p_l_is_tolls (spM K .cl sp_l_is_tolls))
    (F_l_draw : FnOk P w K mg base CX0 1 T.a_l_draw T.d_l_draw p_l_draw (spM K .cl sp_l_draw))
    (F_l_is_schedule : FnOk P w K mg base CX0 2 T.a_l_is_schedule T.d_l_is_schedule p_l_is_schedule (spM K .cl sp_l_is_schedule))
    (F_l_is_secret : FnOk P w K mg base CX0 2 T.a_l_is_secret T.d_l_is_secret p_l_is_secret (spM K .cl sp_l_is_secret))
    (F_price_by : FnOk P w K mg base CX0 1 T.a_price_by T.d_price_by p_price_by (spM K .cl sp_price_by)) (cdv : Value) (A : Around) (outer : List PySem.Env) (s : Shared) (H : Hp) (E : XK)
    (hr : Room 4 (A.deeper (PyProof.Rows.envOfC "law" (defScope s_law) s.heap.objs.size T.a_law cdv))) :
    ∃ c', PSsm (bodyX P w K mg base n_law "law" s_law T.a_law cdv A outer s H E) ⟨.cl, true, []⟩ (shs 19) c' (defBody s_law) (t_law ok_l_heap sp_l_pick sp_l_counted sp_l_own_tolls sp_cheapest_schedule sp_tolls_of sp_is_tolls sp_l_bent sp_l_is_tolls sp_l_draw sp_l_is_schedule sp_l_is_secret sp_price_by) :=
  ⟨[.sh, .sh, .sh, .sh, .sh, .sh, .sh, .sh, .sh, .sh, .sh, .sh, .sh, .sh, .sh, .sh, .sh, .sh, .sh], (sm_cons (sm_src 1 F_l_heap (hr.mono (by decide)) T.m_l_heap T.f_l_heap.kp T.b_l_heap rfl S_law.nd (am_consC (em_var 0) am_nil))
    (sm_cons (sm_set 2 S_law.nd (em_call F_l_pick (hr.mono (by decide)) T.m_l_pick T.f_l_pick.kp T.b_l_pick .nil (fun _ => Rps.nil) (am_consC (em_var 1) (am_consC (PEm.cl (em_lst (am_consC em_int (am_consC em_int (am_consC em_int (am_consC em_int (am_consC em_int (am_consC em_int (am_consC em_int (am_consC em_int (am_consC em_int (am_consC em_int am_nil)))))))))))) am_nil))))
    (sm_cons (sm_set 3 S_law.nd (em_call F_l_counted (hr.mono (by decide)) T.m_l_counted T.f_l_counted.kp T.b_l_counted .nil (fun _ => Rps.nil) (am_consC (em_var 1) (am_consC (em_var 2) am_nil))))
    (sm_cons (sm_set 4 S_law.nd (em_callB (cr_max rfl) lift_maxL (by rfl) T.z_max PyProof.Rows.boot_max (am_cons (PEm.ow (em_lc (own := [("lot", 16)]) rfl S_law.nd (im_seq (em_var 3)) (blkOk_by (N := n_law) (sc := defScope s_law) (by decide +kernel)) (fun _ _ _ _ _ => (gm_name 16 S_law.nd)) (fun _ _ _ _ _ => tsm_nil) (fun _ _ _ _ _ => (em_callB call_lenA lift_len (by rfl) T.z_len PySem.boot_len (am_cons (PEm.ow (em_var 16)) am_nil))))) am_nil)))
    (sm_cons (sm_set 5 S_law.nd (em_callB (call_max2 rfl) lift_max2 (by rfl) T.z_max PyProof.Rows.boot_max (am_cons (PEm.ow em_int) (am_cons (PEm.ow (em_op op_plus lift_plus (PEm.ow (em_var 4)) (PEm.ow (em_call F_l_pick (hr.mono (by decide)) T.m_l_pick T.f_l_pick.kp T.b_l_pick .nil (fun _ => Rps.nil) (am_consC (em_var 1) (am_consC (PEm.cl (em_lst (am_consC (em_un un_neg lift_neg (PEm.ow em_int)) (am_consC em_int (am_consC em_int (am_consC em_int (am_consC em_int (am_consC em_int (am_consC em_int (am_consC em_int am_nil)))))))))) am_nil)))))) am_nil))))
    (sm_cons (sm_set 6 S_law.nd (em_call F_l_pick (hr.mono (by decide)) T.m_l_pick T.f_l_pick.kp T.b_l_pick .nil (fun _ => Rps.nil) (am_consC (em_var 1) (am_consC (PEm.cl (em_lst (am_consC em_int (am_consC em_int (am_consC em_int (am_consC em_int (am_consC em_int (am_consC (em_op op_pow lift_pow (PEm.ow em_int) (PEm.ow em_int)) am_nil)))))))) am_nil))))
    (sm_cons (sm_set 7 S_law.nd (em_callTy call_tuple_of lift_tuple (by rfl) T.z_tuple PyProof.Rows.boot_tuple (am_cons (PEm.ow (em_lc (own := [("one", 17)]) rfl S_law.nd (im_rng1 T.z_range (PEm.ow (em_op op_sub lift_sub (PEm.ow (em_var 2)) (PEm.ow em_int)))) (blkOk_by (N := n_law) (sc := defScope s_law) (by decide +kernel)) (fun _ _ _ _ _ => (gm_name 17 S_law.nd)) (fun _ _ _ _ _ => tsm_nil) (fun _ _ _ _ _ => (em_if (tm_cmp op_gt lift_gt (PEm.ow (em_call F_l_draw (hr.mono (by decide)) T.m_l_draw T.f_l_draw.kp T.b_l_draw .nil (fun _ => Rps.nil) (am_consC (em_var 1) (am_consC em_int am_nil)))) (PEm.ow em_int) (nomark _)) (em_call F_l_draw (hr.mono (by decide)) T.m_l_draw T.f_l_draw.kp T.b_l_draw .nil (fun _ => Rps.nil) (am_consC (em_var 1) (am_consC (em_op op_plus lift_plus (PEm.ow (em_var 6)) (PEm.ow em_int)) am_nil))) (em_var 6))))) am_nil)))
    (sm_cons (sm_par [10, 11] rfl S_law.nd (xm_cl (em_call F_cheapest_schedule (hr.mono (by decide)) T.m_cheapest_schedule T.f_cheapest_schedule.kp T.b_cheapest_schedule .nil (fun _ => Rps.nil) (am_consC (em_var 3) (am_consC (em_var 5) (am_consC (em_var 7) am_nil)))) (xm_cl (em_call F_tolls_of (hr.mono (by decide)) T.m_tolls_of T.f_tolls_of.kp T.b_tolls_of .nil (fun _ => Rps.nil) (am_consC (em_var 3) (am_consC (em_var 5) (am_consC (em_var 7) am_nil)))) xm_nil)))
    (sm_cons (sm_if (c' := [.sh, .sh, .sh, .sh, .sh, .sh, .sh, .sh, .sh, .sh, .sh, .sh, .sh, .sh, .sh, .sh, .sh, .sh, .sh]) (tm_cmp op_gt lift_gt (PEm.ow (em_var 4)) (PEm.ow (em_var 5)) (nomark _)) (sm_one (sm_if (c' := [.sh, .sh, .sh, .sh, .sh, .sh, .sh, .sh, .sh, .sh, .sh, .sh, .sh, .sh, .sh, .sh, .sh, .sh, .sh]) (PWm.pt (wm_or (tm_cmp op_notN lift_notN (PEm.ow (em_var 10)) (PEm.ow em_non) (nomark _)) (wm_or1 (tm_cmp op_notN lift_notN (PEm.ow (em_var 11)) (PEm.ow em_non) (nomark _))))) (sm_one (sm_ret em_bl)) sm_nil)) (sm_cons (sm_if (c' := [.sh, .sh, .sh, .sh, .sh, .sh, .sh, .sh, .sh, .sh, .sh, .sh, .sh, .sh, .sh, .sh, .sh, .sh, .sh]) (PWm.pt (wm_or (tm_not (tm_val (PEm.ow (em_call F_l_is_schedule (hr.mono (by decide)) T.m_l_is_schedule T.f_l_is_schedule.kp T.b_l_is_schedule .nil (fun _ => Rps.nil) (am_consC (em_var 2) (am_consC (em_var 10) am_nil)))))) (wm_or1 (tm_not (tm_val (PEm.ow (em_call F_l_is_secret (hr.mono (by decide)) T.m_l_is_secret T.f_l_is_secret.kp T.b_l_is_secret .nil (fun _ => Rps.nil) (am_consC (em_var 3) (am_consC (em_var 5) (am_consC (em_var 10) am_nil)))))))))) (sm_one (sm_ret em_bl)) sm_nil)
    (sm_cons (sm_if (c' := [.sh, .sh, .sh, .sh, .sh, .sh, .sh, .sh, .sh, .sh, .sh, .sh, .sh, .sh, .sh, .sh, .sh, .sh, .sh]) (tm_not (tm_val (PEm.ow (em_call F_l_is_tolls (hr.mono (by decide)) T.m_l_is_tolls T.f_l_is_tolls.kp T.b_l_is_tolls .nil (fun _ => Rps.nil) (am_consC (em_var 3) (am_consC (em_var 5) (am_consC (em_var 7) (am_consC (em_var 11) am_nil)))))))) (sm_one (sm_ret em_bl)) sm_nil)
    (sm_cons (sm_set 12 S_law.nd (em_callB (cr_sum rfl) lift_sum (by rfl) T.z_sum PyProof.Rows.boot_sum (am_cons (PEm.ow (em_lc (own := [("one", 17)]) rfl S_law.nd (im_seq (em_var 10)) (blkOk_by (N := n_law) (sc := defScope s_law) (by decide +kernel)) (fun _ _ _ _ _ => (gm_name 17 S_law.nd)) (fun _ _ _ _ _ => tsm_nil) (fun _ _ _ _ _ => (em_ix (PEm.ow (em_var 7)) (PEm.ow (em_var 17)) (fun _ _ => rfl))))) am_nil)))
    (sm_one (sm_if (c' := [.sh, .sh, .sh, .sh, .sh, .sh, .sh, .sh, .sh, .sh, .sh, .sh, .sh, .sh, .sh, .sh, .sh, .sh, .sh]) (PWm.pt (wm_or (tm_cmp (op_neD hr.units) lift_ne (PEm.ow (em_callB (cr_sum rfl) lift_sum (by rfl) T.z_sum PyProof.Rows.boot_sum (am_cons (PEm.ow (em_lc (own := [("row", 18)]) rfl S_law.nd (im_seq (em_var 11)) (blkOk_by (N := n_law) (sc := defScope s_law) (by decide +kernel)) (fun _ _ _ _ _ => (gm_name 18 S_law.nd)) (fun _ _ _ _ _ => tsm_nil) (fun _ _ _ _ _ => (em_ix (PEm.ow (em_var 18)) (PEm.ow em_int) (fun _ _ => rfl))))) am_nil))) (PEm.ow (em_var 12)) (nomark _)) (wm_or1 (tm_cmp (op_neD hr.units) lift_ne (PEm.ow (em_call F_price_by (hr.mono (by decide)) T.m_price_by T.f_price_by.kp T.b_price_by .nil (fun _ => Rps.nil) (am_consC (em_var 7) (am_consC (em_var 10) am_nil)))) (PEm.ow (em_var 12)) (nomark _))))) (sm_one (sm_ret em_bl)) sm_nil))))))
    (sm_cons (sm_set 8 S_law.nd (em_call F_l_own_tolls (hr.mono (by decide)) T.m_l_own_tolls T.f_l_own_tolls.kp T.b_l_own_tolls .nil (fun _ => Rps.nil) (am_consC (em_var 1) (am_consC (em_var 3) (am_consC (em_var 5) (am_consC (em_var 7) am_nil))))))
    (sm_cons (sm_if (c' := [.sh, .sh, .sh, .sh, .sh, .sh, .sh, .sh, .sh, .sh, .sh, .sh, .sh, .sh, .sh, .sh, .sh, .sh, .sh]) (tm_cmp op_notBl lift_notB (PEm.ow (em_call F_is_tolls (hr.mono (by decide)) T.m_is_tolls T.f_is_tolls.kp T.b_is_tolls .nil (fun _ => Rps.nil) (am_consC (em_var 3) (am_consC (em_var 5) (am_consC (em_var 7) (am_consC (em_var 8) am_nil)))))) (PEm.ow em_bl) (nomark _)) (sm_one (sm_ret em_bl)) sm_nil)
    (sm_cons (sm_for (c := [.sh, .sh, .sh, .sh, .sh, .sh, .sh, .sh, .sh, .sh, .sh, .sh, .sh, .sh, .sh, .sh, .sh, .sh, .sh]) .never rfl (im_rng1 T.z_range (PEm.ow em_int)) (gm_name 9 S_law.nd) (sm_cons (sm_set 13 S_law.nd (em_call F_l_bent (hr.mono (by decide)) T.m_l_bent T.f_l_bent.kp T.b_l_bent .nil (fun _ => Rps.nil) (am_consC (em_var 1) (am_consC (em_if (PWm.pt (wm_or (tm_cmp op_isN lift_isN (PEm.ow (em_var 11)) (PEm.ow em_non) (nomark _)) (wm_or1 (tm_cmp (op_eqD hr.units) lift_eq (PEm.ow (em_call F_l_draw (hr.mono (by decide)) T.m_l_draw T.f_l_draw.kp T.b_l_draw .nil (fun _ => Rps.nil) (am_consC (em_var 1) (am_consC em_int am_nil)))) (PEm.ow em_int) (nomark _))))) (em_var 8) (em_var 11)) (am_consC (em_var 3) am_nil)))))
    (sm_cons (sm_set 14 S_law.nd (em_call F_l_is_tolls (hr.mono (by decide)) T.m_l_is_tolls T.f_l_is_tolls.kp T.b_l_is_tolls .nil (fun _ => Rps.nil) (am_consC (em_var 3) (am_consC (em_var 5) (am_consC (em_var 7) (am_consC (em_var 13) am_nil))))))
    (sm_cons (sm_set 15 S_law.nd (em_call F_is_tolls (hr.mono (by decide)) T.m_is_tolls T.f_is_tolls.kp T.b_is_tolls .nil (fun _ => Rps.nil) (am_consC (em_var 3) (am_consC (em_var 5) (am_consC (em_var 7) (am_consC (em_var 13) am_nil))))))
    (sm_one (sm_if (c' := [.sh, .sh, .sh, .sh, .sh, .sh, .sh, .sh, .sh, .sh, .sh, .sh, .sh, .sh, .sh, .sh, .sh, .sh, .sh]) (PWm.pt (wm_or (PWm.pt (wm_and (tm_val (PEm.ow (em_var 14))) (wm_and1 (tm_cmp op_notBl lift_notB (PEm.ow (em_var 15)) (PEm.ow em_bl) (nomark _))))) (wm_or1 (PWm.pt (wm_and (tm_not (tm_val (PEm.ow (em_var 14)))) (wm_and1 (tm_cmp op_notBl lift_notB (PEm.ow (em_var 15)) (PEm.ow em_bl) (nomark _)))))))) (sm_one (sm_ret em_bl)) sm_nil))))) (fun _ e => by cases e))
    (sm_one (sm_ret em_bl))))))))))))))⟩
end
end K45

set_option maxHeartbeats 2000000
namespace K45
open PySem L2 PM
def isInt : PV → Bool
  | .int _ => true
  | _ => false
def isNat : PV → Bool
  | .int i => decide (0 ≤ i)
  | _ => false
def sp_is_integer : PM.Spec := fun ps P => ∃ v, ps = [v] ∧ (pty v).isSome = true ∧ P (.bl (isInt v))
theorem h_is_integer (ps : List PV) (Q : PV → Prop) (h : sp_is_integer ps Q) : t_is_integer { nx := fun _ => nxOf .cl Q, rt := Q } (startE n_is_integer.length ps) := by
  obtain ⟨v, rfl, hv, h⟩ := h
  show t_is_integer _ [some v]
  unfold t_is_integer
  simp only [s_sRet, s_mAndV, s_mOp1, s_mVar0]
  refine oIsi_b known_int hv ⟨_, rfl, ?_⟩
  cases v with
  | int i => exact oIsi_of (P := fun x => oNot x Q) rfl rfl (s_oNot.mpr h)
  | bl b => exact oIsi_of (P := fun x => oNot x Q) rfl rfl (s_oNot.mpr h)
  | non => exact h
  | str _ => exact h
  | tup _ => exact h
  | lst _ => exact h
  | dic _ _ => exact h
  | _ => cases hv
def sp_is_number : PM.Spec := fun ps P => ∃ v, ps = [v, .non] ∧ (pty v).isSome = true ∧ P (.bl (isNat v))
theorem h_is_number (ps : List PV) (Q : PV → Prop) (h : sp_is_number ps Q) : t_is_number sp_is_integer { nx := fun _ => nxOf .cl Q, rt := Q } (startE n_is_number.length ps) := by
  obtain ⟨v, rfl, hv, h⟩ := h
  show t_is_number _ _ [some v, some .non]
  unfold t_is_number
  simp only [s_sRet, s_mAndV, s_mOrV, s_mOp, s_mVar0, s_mVarS, s_mCall, s_mCons, s_mNil, s_mC, List.append_nil]
  refine ⟨v, rfl, hv, _, rfl, ?_⟩
  cases v with
  | int i => 
    show (if true = true then _ else _)
    rw [if_pos rfl]
    simp only [s_oGe, s_oIsN, s_isNon_non]
    refine ⟨_, rfl, ?_⟩
    have e : isNat (.int i) = decide (0 ≤ i) := rfl
    rw [e] at h
    by_cases h0 : 0 ≤ i
    · rw [decide_eq_true h0] at h ⊢
      exact ⟨true, rfl, h⟩
    · rw [decide_eq_false h0] at h ⊢
      exact h
  | _ => exact h
def put (acc : List Int) (x : Int) : List Int := if x ∈ acc then acc else acc ++ [x]
def puts (acc lot : List Int) : List Int := lot.foldl put acc
def keys (lots : List (List Int)) : List Int := lots.foldl puts []
def seg {α : Type} (lots : List α) (a b : Nat) : List α := (lots.take (b + 1)).drop a
theorem nodup_put {acc : List Int} {x : Int} (h : acc.Nodup) : (put acc x).Nodup := by
  unfold put
  by_cases m : x ∈ acc
  · rw [if_pos m]; exact h
  · rw [if_neg m]
    rw [List.nodup_append]
    exact ⟨h, by simp, fun a ha b hb => by rw [List.mem_singleton] at hb; rw [hb]; exact fun z => m (z ▸ ha)⟩
theorem mem_put {acc : List Int} {x y : Int} : y ∈ put acc x ↔ y ∈ acc ∨ y = x := by
  unfold put
  by_cases m : x ∈ acc
  · rw [if_pos m]
    exact ⟨.inl, fun z => z.elim id fun e => e ▸ m⟩
  · rw [if_neg m, List.mem_append, List.mem_singleton]
theorem nodup_puts : ∀ {lot acc : List Int}, acc.Nodup → (puts acc lot).Nodup
  | [], _, h => h
  | x :: lot, acc, h => nodup_puts (lot := lot) (nodup_put (x := x) h)
theorem mem_puts {y : Int} : ∀ {lot acc : List Int}, y ∈ puts acc lot ↔ y ∈ acc ∨ y ∈ lot
  | [], acc => by show y ∈ acc ↔ _; simp
  | x :: lot, acc => by
    show y ∈ puts (put acc x) lot ↔ _
    rw [mem_puts, mem_put, List.mem_cons, or_assoc]
theorem nodup_fold : ∀ {lots : List (List Int)} {acc : List Int}, acc.Nodup → (lots.foldl puts acc).Nodup
  | [], _, h => h
  | l :: lots, acc, h => nodup_fold (lots := lots) (nodup_puts (lot := l) h)
theorem mem_fold {y : Int} : ∀ {lots : List (List Int)} {acc : List Int}, y ∈ lots.foldl puts acc ↔ y ∈ acc ∨ ∃ l ∈ lots, y ∈ l
  | [], _ => by simp
  | l :: lots, acc => by
    show y ∈ lots.foldl puts (puts acc l) ↔ _
    rw [mem_fold, mem_puts]
    constructor
    · rintro ((h | h) | ⟨m, hm, h⟩)
      · exact .inl h
      · exact .inr ⟨l, List.mem_cons_self .., h⟩
      · exact .inr ⟨m, List.mem_cons_of_mem _ hm, h⟩
    · rintro (h | ⟨m, hm, h⟩)
      · exact .inl (.inl h)
      · rcases List.mem_cons.mp hm with e | e
        · subst e; exact .inl (.inr h)
        · exact .inr ⟨m, e, h⟩
theorem nodup_keys (lots : List (List Int)) : (keys lots).Nodup := nodup_fold List.nodup_nil
theorem mem_keys {lots : List (List Int)} {y : Int} : y ∈ keys lots ↔ ∃ l ∈ lots, y ∈ l := by
  unfold keys
  rw [mem_fold]
  simp
theorem len_le : ∀ {a b : List Int}, a.Nodup → (∀ x ∈ a, x ∈ b) → a.length ≤ b.length
  | [], _, _, _ => Nat.zero_le _
  | x :: a, b, h, hs => by
    rw [List.nodup_cons] at h
    have hx := hs x (List.mem_cons_self ..)
    have := len_le (b := b.erase x) h.2 fun y hy => by
      have ne : y ≠ x := fun z => h.1 (z ▸ hy)
      exact (List.mem_erase_of_ne ne).mpr (hs y (List.mem_cons_of_mem _ hy))
    rw [List.length_erase_of_mem hx] at this
    have : 0 < b.length := List.length_pos_of_mem hx
    rw [List.length_cons]
    omega
theorem len_bound {a : List Int} {n : Nat} (h : a.Nodup) (hb : ∀ x ∈ a, 0 ≤ x ∧ x < (n : Int)) : a.length ≤ n := by
  have := len_le (b := (List.range n).map fun (i : Nat) => (i : Int)) h fun x hx => by
    obtain ⟨h0, h1⟩ := hb x hx
    exact List.mem_map.mpr ⟨x.toNat, List.mem_range.mpr (by omega), by omega⟩
  rw [List.length_map, List.length_range] at this
  exact this
abbrev crs (lots : List (List Int)) : PV := .tup (lots.map tI)
structure Good (lots : List (List Int)) : Prop where
  small : lots.length ≤ 100
  lot : ∀ l ∈ lots, l.Nodup ∧ ∀ x ∈ l, 0 ≤ x ∧ x < 24
theorem intKey_inj {a b : Int} : intKey a = intKey b → a = b := fun h => Sum.inl.inj h
theorem nodup_ikeys : ∀ {ks : List Int}, ks.Nodup → (ks.map intKey).Nodup
  | [], _ => List.nodup_nil
  | x :: ks, h => by
    rw [List.nodup_cons] at h
    rw [List.map_cons, List.nodup_cons]
    exact ⟨fun z => by obtain ⟨y, hy, e⟩ := List.mem_map.mp z; exact h.1 (intKey_inj e ▸ hy), nodup_ikeys h.2⟩
theorem kPut_ints {ks : List Int} {x : Int} : kPut (ks.map intKey) (List.replicate ks.length (.bl true)) (.inl x) (.bl true) = .dic ((put ks x).map intKey) (List.replicate (put ks x).length (.bl true)) := by
  unfold kPut put
  by_cases m : x ∈ ks
  · rw [if_pos m]
    cases hk : kAt (ks.map intKey) (.inl x) with
    | none => exact absurd rfl (kAt_none hk (.inl x) (List.mem_map.mpr ⟨x, m, rfl⟩))
    | some i => show PV.dic _ _ = _; rw [List.set_replicate_self]
  · rw [if_neg m]
    cases hk : kAt (ks.map intKey) (.inl x) with
    | none =>
      show PV.dic _ _ = _
      rw [List.map_append, List.length_append, List.length_singleton, ← List.replicate_append_replicate]
      rfl
    | some i =>
      unfold kAt at hk
      obtain ⟨hi, he, _⟩ := List.findIdx?_eq_some_iff_getElem.mp hk
      rw [List.getElem_map] at he
      have e := of_decide_eq_true he
      exact absurd (intKey_inj e ▸ List.getElem_mem _) m
def DEnv (lots : List (List Int)) (a b : Nat) (ks : List Int) (e : PM.Env) : Prop := ks.Nodup ∧ (∀ x ∈ ks, 0 ≤ x ∧ x < 24) ∧ ∃ y4 y5, e = [some (crs lots), some (.int a), some (.int b), some (.dic (ks.map intKey) (List.replicate ks.length (.bl true))), y4, y5]
theorem cut_seg {α : Type} {lots : List α} {a b : Nat} : (lots.drop (HT.sIx lots.length 0 (some (a : Int)))).take (HT.sIx lots.length lots.length (some ((b : Int) + 1)) - HT.sIx lots.length 0 (some (a : Int))) = seg lots a b := by
  rw [HT.sIx_nat, show ((b : Int) + 1) = ((b + 1 : Nat) : Int) by omega, HT.sIx_nat]
  unfold seg
  apply List.ext_getElem?
  intro i
  rw [List.getElem?_take, List.getElem?_drop, List.getElem?_drop, List.getElem?_take]
  by_cases h1 : i < min (b + 1) lots.length - min a lots.length
  · rw [if_pos h1, if_pos (by omega), show min a lots.length = a by omega]
  · rw [if_neg h1]
    by_cases h2 : a + i < b + 1
    · rw [if_pos h2, List.getElem?_eq_none (by omega)]
    · rw [if_neg h2]
def sp_union_of : PM.Spec := fun ps P => ∃ (lots : List (List Int)) (a b : Nat), ps = [crs lots, .int a, .int b] ∧ Good lots ∧ P (tI (isort (keys (seg lots a b))))
theorem seg_mem {α : Type} {lots : List α} {a b : Nat} {l : α} (h : l ∈ seg lots a b) : l ∈ lots := List.mem_of_mem_take (List.mem_of_mem_drop h)
theorem h_union_of (ps : List PV) (Q : PV → Prop) (h : sp_union_of ps Q) : t_union_of { nx := fun _ => nxOf .cl Q, rt := Q } (startE n_union_of.length ps) := by
  obtain ⟨lots, a, b, rfl, hg, h⟩ := h
  show t_union_of _ [some (crs lots), some (.int a), some (.int b), none, none, none]
  unfold t_union_of
  simp only [s_sSeq, s_sSet, s_mC, s_sFor, s_mItems, s_mSl, s_mPart, s_mOp, List.set_cons_succ, List.set_cons_zero, s_mVar0, s_mVarS, s_oAdd, s_oSlT]
  refine ⟨_, rfl, _, rfl, _, rfl, ?_⟩
  rw [cutP_map, cut_seg]
  refine for_fold puts (DEnv lots a b) [] ⟨List.nodup_nil, (fun _ h => by cases h), _, _, rfl⟩ (fun l ks e N hl hE hN => ?_) (fun e hE => ?_)
  · obtain ⟨hn, hr, y4, y5, rfl⟩ := hE
    have hlg := hg.lot l (seg_mem hl)
    rw [s_gmN]
    simp only [List.set_cons_succ, List.set_cons_zero, s_sFor, s_mItems, s_mVar0, s_mVarS]
    refine ⟨_, rfl, ?_⟩
    refine for_fold put (DEnv lots a b) ks ⟨hn, hr, _, _, rfl⟩ (fun x ks e N hx hE hN => ?_) hN
    obtain ⟨hn, hr, y4, y5, rfl⟩ := hE
    rw [s_gmN]
    simp only [List.set_cons_succ, List.set_cons_zero]
    refine ⟨_, _, rfl, ?_⟩
    simp only [s_mVar0, s_mVarS]
    have hl24 := len_bound (n := 24) hn hr
    refine ⟨.inl x, rfl, nodup_ikeys hn, ?_, hN _ ⟨nodup_put hn, fun y hy => ?_, y4, some (.int x), ?_⟩⟩
    · rw [List.length_map]; exact small_line (by omega)
    · rcases mem_put.mp hy with z | z
      · exact hr y z
      · rw [z]; exact hlg.2 x hx
    · rw [kPut_ints]; rfl
  · obtain ⟨hn, hr, y4, y5, rfl⟩ := hE
    have hl24 := len_bound (n := 24) hn hr
    simp only [s_sRet, s_mB, s_mCons, s_mNil, s_mVarO0, s_mVarOS]
    refine ⟨rfl, _, .inr ⟨⟨_, rfl⟩, by omega⟩, ?_⟩
    exact s_oTupleL.mpr h
theorem line {n : Nat} (h : n ≤ 1000000) : n ≤ sizeLine := Nat.le_of_lt (small_line h)
theorem isort_len (ns : List Int) : (isort ns).length = ns.length := (isort_perm ns).length_eq
def cnt (lots : List (List Int)) (a b : Nat) : Nat := (keys (seg lots a b)).length
theorem puts_filter : ∀ {lot acc : List Int}, lot.Nodup → puts acc lot = acc ++ lot.filter fun x => !decide (x ∈ acc)
  | [], acc, _ => by simp [puts]
  | x :: lot, acc, h => by
    rw [List.nodup_cons] at h
    show puts (put acc x) lot = _
    rw [puts_filter h.2, List.filter_cons]
    unfold put
    by_cases m : x ∈ acc
    · rw [if_pos m, decide_eq_true m]; rfl
    · rw [if_neg m, decide_eq_false m]
      show _ = acc ++ x :: _
      rw [List.append_assoc]
      show acc ++ x :: _ = _
      congr 2
      refine List.filter_congr fun y hy => ?_
      have ne : y ≠ x := fun z => h.1 (z ▸ hy)
      simp [ne]
def sp_pick : PM.Spec := fun ps P => ∃ (pool : PV) (xs : List PV), ps = [.src, pool] ∧ (pool = .lst xs ∨ pool = .tup xs) ∧ 0 < xs.length ∧ xs.length ≤ 1000 ∧ ∀ x ∈ xs, P x
/-- as in DrawA -/
def sp_drw : PM.Spec := fun ps P => ∃ many : Int, ps = [.src, .int many] ∧ 0 < many ∧ many < 1073741824 ∧ ∀ r, 0 ≤ r → r < many → P (.int r)
theorem h_l_pick (ps : List PV) (Q : PV → Prop) (h : sp_pick ps Q) : t_l_pick sp_drw { nx := fun _ => nxOf .cl Q, rt := Q } (startE n_l_pick.length ps) := by
  obtain ⟨pool, xs, rfl, hpool, h0, hl, h⟩ := h
  have hlen : plen pool = some xs.length := by rcases hpool with rfl | rfl <;> rfl
  show t_l_pick _ _ [some .src, some pool]
  unfold t_l_pick
  try simp only [s_mVar0, s_mVarS, s_mVarO0, s_mVarOS, s_isObj_lst, s_isObj_dic, s_mC, s_mOp, s_mOp1, s_mB, s_mNil, s_mCons, s_mTup, s_mLst, s_mCall, s_mTB, s_mNot, s_mAnd, s_mOr, s_mAndV, s_mOrV, s_mIf, s_mYes, s_mSl, s_mNo, s_mPart, s_mLc, s_mItems, s_mRng1, s_mRng2, s_mEnum, s_mChain, s_seqT, s_seqL, s_sNext, s_sSeq, s_sIf, s_sSet, s_sRet, s_sRetN, s_sBreak, s_sCont, s_sDrop, s_sPar, s_setN0, s_setNS, s_sAsg, s_sApp, s_sAug, s_sFor, s_sSrc, s_gmN, s_gmT, s_gmCons, s_gmNil, s_wipe0, s_wipeS, s_oSub, s_oAddI, s_oAdd, s_oLt, s_oLe, s_oGt, s_oGe, s_oNeg, s_oNot, s_oMul, s_oMulW, s_oMod, s_oFdiv, s_oPow, s_oIsN, s_oNotN, s_oIsB, s_oNotB, s_isNon_int, s_isNon_non, s_isNon_bl, s_isNon_str, s_isNon_tup, s_isNon_lst, s_isNon_dic, s_oEqI, s_oNeI, s_oIxT, s_oIxL, s_oSlT, s_oSlL, s_oRevT, s_oRevL, s_oInt, s_oIntB, s_oAbs, s_oMax2, s_oMin2, s_oLen, s_plenT, s_plenL, s_plenD, s_plenS, s_oTupleL, s_oTupleT, s_oListL, s_oListT, List.set_cons_succ, List.set_cons_zero, List.append_nil, true_and]
  refine ⟨_, hlen, _, rfl, by omega, by omega, fun r hr hr2 => ?_⟩
  have l : r.toNat < xs.length := by omega
  have hg : atI xs r = some xs[r.toNat] := by rw [atI_nn hr hr2, List.getElem?_eq_getElem l]
  rcases hpool with rfl | rfl
  · exact s_oIxL.mpr ⟨_, hg, h _ (List.getElem_mem l)⟩
  · exact s_oIxT.mpr ⟨_, hg, h _ (List.getElem_mem l)⟩
def rng (k : Nat) : List Int := (List.range k).map fun (i : Nat) => (i : Int)
theorem rng_len {k : Nat} : (rng k).length = k := by unfold rng; rw [List.length_map, List.length_range]
theorem mem_rng {k : Nat} {x : Int} : x ∈ rng k ↔ 0 ≤ x ∧ x < k := by
  unfold rng
  rw [List.mem_map]
  constructor
  · rintro ⟨i, hi, rfl⟩
    rw [List.mem_range] at hi
    omega
  · rintro ⟨h0, h1⟩
    exact ⟨x.toNat, List.mem_range.mpr (by omega), by omega⟩
theorem rng_nodup {k : Nat} : (rng k).Nodup := by
  unfold rng
  have : (List.range k).Nodup := List.nodup_range
  rw [List.Nodup, List.pairwise_map]
  exact this.imp fun h z => h (by omega)
theorem rng_get {k i : Nat} (h : i < k) : (rng k)[i]? = some (i : Int) := by
  unfold rng
  rw [List.getElem?_map, List.getElem?_range h]; rfl
theorem rngP_rng {k : Nat} : rngP 0 k = (rng k).map PV.int := by
  unfold rng
  rw [rngP_map, List.map_map]
  exact List.map_congr_left fun i _ => by show PV.int (0 + (i : Int)) = PV.int (i : Int); rw [Int.zero_add]
theorem perm_pop {α : Type} {l m : List α} {n : Nat} (h : n < l.length) : (l.eraseIdx n ++ (m ++ [l[n]])).Perm (l ++ m) := by
  have e : l = l.take n ++ l[n] :: l.drop (n + 1) := by
    rw [← List.drop_eq_getElem_cons h, List.take_append_drop]
  have e2 : l.eraseIdx n = l.take n ++ l.drop (n + 1) := List.eraseIdx_eq_take_drop_succ ..
  rw [e2]
  generalize l[n] = x at e ⊢
  have p1 : (l.take n ++ l.drop (n + 1) ++ (m ++ [x])).Perm (l.take n ++ l.drop (n + 1) ++ (x :: m)) := List.Perm.append_left _ (List.perm_append_singleton x m)
  refine p1.trans ?_
  conv => rhs; rw [e]
  rw [List.append_assoc, List.append_assoc]
  refine List.Perm.append_left _ ?_
  exact List.perm_middle
theorem erase_map {α β : Type} {f : α → β} {l : List α} {n : Nat} : (l.map f).eraseIdx n = (l.eraseIdx n).map f := by
  rw [List.eraseIdx_eq_take_drop_succ, List.eraseIdx_eq_take_drop_succ, List.map_append, List.map_take, List.map_drop]
theorem strict_of {xs : List Int} (h : xs.Pairwise (· ≤ ·)) (n : xs.Nodup) : xs.Pairwise (· < ·) :=
  (h.and n).imp fun ⟨a, b⟩ => by omega
def rng1 (m : Nat) : List Int := (List.range m).map fun (i : Nat) => 1 + (i : Int)
theorem mem_rng1 {m : Nat} {x : Int} : x ∈ rng1 m ↔ 1 ≤ x ∧ x ≤ m := by
  unfold rng1
  rw [List.mem_map]
  constructor
  · rintro ⟨i, hi, rfl⟩
    have := List.mem_range.mp hi
    omega
  · intro ⟨h1, h2⟩
    exact ⟨(x - 1).toNat, List.mem_range.mpr (by omega), by omega⟩
theorem rngP_rng1 {m : Nat} : rngP 1 m = (rng1 m).map PV.int := by
  unfold rngP rng1
  rw [List.map_map]; rfl
theorem take_succ {α : Type} {xs : List α} {i : Nat} {x : α} {S : Type} {st : S → α → S} {s0 : S} (h : xs[i]? = some x) : (xs.take (i + 1)).foldl st s0 = st ((xs.take i).foldl st s0) x := by
  rw [List.take_add_one, h, List.foldl_append]; rfl
theorem for_self {xs : List PV} {g tb M env} (I : Nat → PM.Env → Prop) (h0 : I 0 env) (hs : ∀ (i : Nat) (x : PV) (e : PM.Env) (N : PM.Env → Prop), xs[i]? = some x → I i e → (∀ e', I (i + 1) e' → N e') → g x e fun e1 => tb { M with nx := N, ct := N, bk := M.nx } e1)
    (hn : ∀ e, I xs.length e → M.nx e) : mForGo g tb M xs env := by
  have := for_inv (emb := id) (xs := xs) (g := g) (tb := tb) (M := M) (env := env) I h0 hs hn
  rwa [List.map_id] at this
theorem comp_self {f : PV → PV} {xs : List PV} {g tt te env P} (h : ∀ x ∈ xs, ∃ e1, (∀ k : PM.Env → Prop, k e1 → g x env k) ∧ (∀ Q : Bool → Prop, Q true → tt e1 Q) ∧ (∀ Q : PV → Prop, Q (f x) → te e1 Q))
    (hl : xs.length ≤ sizeLine) (hp : P (.lst (xs.map f))) : mCompGo g tt te env P xs [] := by
  have := comp_map (emb := id) (xs := xs) (g := g) (tt := tt) (te := te) (env := env) (P := P) h hl hp
  rwa [List.map_id] at this
def ok_heap : List PV → Prop := fun ps => ∃ ns : List Int, ps = [.scr ns] ∧ ns.length ≤ 63
theorem pick_ints {xs : List Int} {P : PV → Prop} (h0 : 0 < xs.length) (h1 : xs.length ≤ 1000) (h : ∀ x ∈ xs, P (.int x)) : sp_pick [.src, .lst (xs.map PV.int)] P := ⟨_, _, rfl, .inl rfl, by rw [List.length_map]; exact h0, by rw [List.length_map]; exact h1, fun x hx => by
  obtain ⟨i, hi, rfl⟩ := List.mem_map.mp hx
  exact h i hi⟩
theorem pick_dr {xs : List Int} {P : PV → Prop} {m : Int} (h0 : 0 < xs.length) (h1 : xs.length ≤ 1000) (hb : ∀ x ∈ xs, 0 < x ∧ x ≤ m) (hm : m ≤ 1000000) (h : ∀ r, 0 ≤ r → r < m → P (.int r)) : sp_pick [.src, .lst (xs.map PV.int)] fun y => sp_drw [.src, y] P := pick_ints h0 h1 fun x hx => by
  obtain ⟨a, b⟩ := hb x hx
  exact ⟨x, rfl, a, by omega, fun r r0 r1 => h r r0 (by omega)⟩
theorem pick_sub {α : Type} {xs : List α} {d : α} : ∀ {ns : List Int} {k : Nat}, ns.Pairwise (· < ·) → (∀ n ∈ ns, (k : Int) ≤ n ∧ n < xs.length) → (ns.map fun j => xs.getD j.toNat d).Sublist (xs.drop k)
  | [], _, _, _ => List.nil_sublist _
  | n :: ns, k, hp, hb => by
    obtain ⟨h1, h2⟩ := hb n (List.mem_cons_self ..)
    rw [List.pairwise_cons] at hp
    have hn : n.toNat < xs.length := by omega
    have ih := pick_sub (xs := xs) (d := d) (k := n.toNat + 1) hp.2 fun m hm => ⟨by have := hp.1 m hm; omega, (hb m (List.mem_cons_of_mem _ hm)).2⟩
    have e : xs.getD n.toNat d = xs[n.toNat] := by rw [List.getD_eq_getElem?_getD, List.getElem?_eq_getElem hn]; rfl
    rw [List.map_cons, e]
    have s1 : (xs[n.toNat] :: xs.drop (n.toNat + 1)).Sublist (xs.drop k) := by
      rw [← List.drop_eq_getElem_cons hn, show n.toNat = k + (n.toNat - k) by omega, ← List.drop_drop]
      exact List.drop_sublist _ _
    exact (List.Sublist.cons_cons _ ih).trans s1
def sp_some : PM.Spec := fun ps P => ∃ (pool : PV) (xs : List PV) (m : Nat), ps = [.src, pool, .int m] ∧ (pool = .lst xs ∨ pool = .tup xs) ∧ m ≤ xs.length ∧ xs.length ≤ 1000 ∧ ∀ ys : List PV, ys.Sublist xs → ys.length = m → P (.tup ys)
theorem h_l_some (ps : List PV) (Q : PV → Prop) (h : sp_some ps Q) : t_l_some sp_drw { nx := fun _ => nxOf .cl Q, rt := Q } (startE n_l_some.length ps) := by
  obtain ⟨pool, xs, m, rfl, hpool, hm, hk, h⟩ := h
  show t_l_some _ _ [some .src, some pool, some (.int m), none, none, none, none]
  unfold t_l_some
  try simp only [s_mVar0, s_mVarS, s_mVarO0, s_mVarOS, s_isObj_lst, s_isObj_dic, s_mC, s_mOp, s_mOp1, s_mB, s_mNil, s_mCons, s_mTup, s_mLst, s_mCall, s_mTB, s_mNot, s_mAnd, s_mOr, s_mAndV, s_mOrV, s_mIf, s_mYes, s_mSl, s_mNo, s_mPart, s_mLc, s_mItems, s_mRng1, s_mRng2, s_mEnum, s_mChain, s_seqT, s_seqL, s_sNext, s_sSeq, s_sIf, s_sSet, s_sRet, s_sRetN, s_sBreak, s_sCont, s_sDrop, s_sPar, s_setN0, s_setNS, s_sAsg, s_sApp, s_sAug, s_sFor, s_sSrc, s_gmN, s_gmT, s_gmCons, s_gmNil, s_wipe0, s_wipeS, s_oSub, s_oAddI, s_oAdd, s_oLt, s_oLe, s_oGt, s_oGe, s_oNeg, s_oNot, s_oMul, s_oMulW, s_oMod, s_oFdiv, s_oPow, s_oIsN, s_oNotN, s_oIsB, s_oNotB, s_isNon_int, s_isNon_non, s_isNon_bl, s_isNon_str, s_isNon_tup, s_isNon_lst, s_isNon_dic, s_oEqI, s_oNeI, s_oIxT, s_oIxL, s_oSlT, s_oSlL, s_oRevT, s_oRevL, s_oInt, s_oIntB, s_oAbs, s_oMax2, s_oMin2, s_oLen, s_plenT, s_plenL, s_plenD, s_plenS, s_oTupleL, s_oTupleT, s_oListL, s_oListT, List.set_cons_succ, List.set_cons_zero, List.append_nil, true_and]
  have hlen : plen pool = some xs.length := by rcases hpool with rfl | rfl <;> rfl
  refine ⟨_, hlen, _, rfl, by omega, ?_⟩
  rw [Int.toNat_natCast, rngP_rng]
  refine comp_map (f := .int) (fun x hx => ⟨_, fun k hk => s_gmN.mpr hk, fun Q hQ => hQ, fun Q hQ => ?_⟩) (by rw [rng_len]; exact line (by omega)) ?_
  · try simp only [s_mVar0, s_mVarS, s_mVarO0, s_mVarOS, s_isObj_lst, s_isObj_dic, s_mC, s_mOp, s_mOp1, s_mB, s_mNil, s_mCons, s_mTup, s_mLst, s_mCall, s_mTB, s_mNot, s_mAnd, s_mOr, s_mAndV, s_mOrV, s_mIf, s_mYes, s_mSl, s_mNo, s_mPart, s_mLc, s_mItems, s_mRng1, s_mRng2, s_mEnum, s_mChain, s_seqT, s_seqL, s_sNext, s_sSeq, s_sIf, s_sSet, s_sRet, s_sRetN, s_sBreak, s_sCont, s_sDrop, s_sPar, s_setN0, s_setNS, s_sAsg, s_sApp, s_sAug, s_sFor, s_sSrc, s_gmN, s_gmT, s_gmCons, s_gmNil, s_wipe0, s_wipeS, s_oSub, s_oAddI, s_oAdd, s_oLt, s_oLe, s_oGt, s_oGe, s_oNeg, s_oNot, s_oMul, s_oMulW, s_oMod, s_oFdiv, s_oPow, s_oIsN, s_oNotN, s_oIsB, s_oNotB, s_isNon_int, s_isNon_non, s_isNon_bl, s_isNon_str, s_isNon_tup, s_isNon_lst, s_isNon_dic, s_oEqI, s_oNeI, s_oIxT, s_oIxL, s_oSlT, s_oSlL, s_oRevT, s_oRevL, s_oInt, s_oIntB, s_oAbs, s_oMax2, s_oMin2, s_oLen, s_plenT, s_plenL, s_plenD, s_plenS, s_oTupleL, s_oTupleT, s_oListL, s_oListT, List.set_cons_succ, List.set_cons_zero, List.append_nil, true_and]; exact hQ
  refine ⟨Nat.zero_le _, _, rfl, by omega, ?_⟩
  rw [Int.toNat_natCast, rngP_rng]
  refine for_inv (fun i e => i ≤ m ∧ ∃ (left found : List Int) (y3 y6 : Option PV), (left ++ found).Perm (rng xs.length) ∧ found.length = i ∧ e = [some .src, some pool, some (.int m), y3, some (lI left), some (lI found), y6]) ⟨Nat.zero_le _, rng xs.length, [], none, none, by rw [List.append_nil], rfl, rfl⟩ (fun i x e N hx hE hN => ?_) (fun e hE => ?_)
  · obtain ⟨hi, left, found, y3, y6, hp, hf, rfl⟩ := hE
    have him : i < m := by have := (List.getElem?_eq_some_iff.mp hx).1; rw [rng_len] at this; exact this
    have hlen2 : left.length + found.length = xs.length := by rw [← List.length_append, hp.length_eq, rng_len]
    rw [s_gmN]
    refine ⟨_, _, rfl, rfl, ?_⟩
    try simp only [s_mVar0, s_mVarS, s_mVarO0, s_mVarOS, s_isObj_lst, s_isObj_dic, s_mC, s_mOp, s_mOp1, s_mB, s_mNil, s_mCons, s_mTup, s_mLst, s_mCall, s_mTB, s_mNot, s_mAnd, s_mOr, s_mAndV, s_mOrV, s_mIf, s_mYes, s_mSl, s_mNo, s_mPart, s_mLc, s_mItems, s_mRng1, s_mRng2, s_mEnum, s_mChain, s_seqT, s_seqL, s_sNext, s_sSeq, s_sIf, s_sSet, s_sRet, s_sRetN, s_sBreak, s_sCont, s_sDrop, s_sPar, s_setN0, s_setNS, s_sAsg, s_sApp, s_sAug, s_sFor, s_sSrc, s_gmN, s_gmT, s_gmCons, s_gmNil, s_wipe0, s_wipeS, s_oSub, s_oAddI, s_oAdd, s_oLt, s_oLe, s_oGt, s_oGe, s_oNeg, s_oNot, s_oMul, s_oMulW, s_oMod, s_oFdiv, s_oPow, s_oIsN, s_oNotN, s_oIsB, s_oNotB, s_isNon_int, s_isNon_non, s_isNon_bl, s_isNon_str, s_isNon_tup, s_isNon_lst, s_isNon_dic, s_oEqI, s_oNeI, s_oIxT, s_oIxL, s_oSlT, s_oSlL, s_oRevT, s_oRevL, s_oInt, s_oIntB, s_oAbs, s_oMax2, s_oMin2, s_oLen, s_plenT, s_plenL, s_plenD, s_plenS, s_oTupleL, s_oTupleT, s_oListL, s_oListT, List.set_cons_succ, List.set_cons_zero, List.append_nil, true_and]
    refine ⟨_, rfl, _, rfl, ?_, ?_, fun r hr hr2 => ?_⟩
    · rw [List.length_map]; omega
    · rw [List.length_map]; omega
    rw [List.length_map] at hr2
    have hn : r.toNat < left.length := by omega
    refine ⟨r, r.toNat, .int left[r.toNat], rfl, by omega, ?_, ?_, ?_, ?_⟩
    · rw [List.length_map]; unfold ixN; rw [if_pos hr, if_pos hr2]
    · rw [List.getElem?_map, List.getElem?_eq_getElem hn]; rfl
    · rw [List.length_map]; exact small_line (by omega)
    · refine hN _ ⟨him, left.eraseIdx r.toNat, found ++ [left[r.toNat]], some (.int x), y6, (perm_pop hn).trans hp, by rw [List.length_append, hf]; rfl, ?_⟩
      try simp only [List.set_cons_succ, List.set_cons_zero]
      rw [erase_map, show List.map PV.int found ++ [PV.int left[r.toNat]] = List.map PV.int (found ++ [left[r.toNat]]) from by rw [List.map_append]; rfl]
  · obtain ⟨hi, left, found, y3, y6, hp, hf, rfl⟩ := hE
    rw [rng_len] at hf
    try simp only [s_mVar0, s_mVarS, s_mVarO0, s_mVarOS, s_isObj_lst, s_isObj_dic, s_mC, s_mOp, s_mOp1, s_mB, s_mNil, s_mCons, s_mTup, s_mLst, s_mCall, s_mTB, s_mNot, s_mAnd, s_mOr, s_mAndV, s_mOrV, s_mIf, s_mYes, s_mSl, s_mNo, s_mPart, s_mLc, s_mItems, s_mRng1, s_mRng2, s_mEnum, s_mChain, s_seqT, s_seqL, s_sNext, s_sSeq, s_sIf, s_sSet, s_sRet, s_sRetN, s_sBreak, s_sCont, s_sDrop, s_sPar, s_setN0, s_setNS, s_sAsg, s_sApp, s_sAug, s_sFor, s_sSrc, s_gmN, s_gmT, s_gmCons, s_gmNil, s_wipe0, s_wipeS, s_oSub, s_oAddI, s_oAdd, s_oLt, s_oLe, s_oGt, s_oGe, s_oNeg, s_oNot, s_oMul, s_oMulW, s_oMod, s_oFdiv, s_oPow, s_oIsN, s_oNotN, s_oIsB, s_oNotB, s_isNon_int, s_isNon_non, s_isNon_bl, s_isNon_str, s_isNon_tup, s_isNon_lst, s_isNon_dic, s_oEqI, s_oNeI, s_oIxT, s_oIxL, s_oSlT, s_oSlL, s_oRevT, s_oRevL, s_oInt, s_oIntB, s_oAbs, s_oMax2, s_oMin2, s_oLen, s_plenT, s_plenL, s_plenD, s_plenS, s_oTupleL, s_oTupleT, s_oListL, s_oListT, List.set_cons_succ, List.set_cons_zero, List.append_nil, true_and]
    have hnd : (left ++ found).Nodup := hp.nodup_iff.mpr rng_nodup
    have hfn : found.Nodup := (List.nodup_append.mp hnd).2.1
    have hsn : (isort found).Nodup := (isort_perm found).nodup_iff.mpr hfn
    have hmem : ∀ x ∈ isort found, 0 ≤ x ∧ x < xs.length := fun x hx => mem_rng.mp (hp.mem_iff.mp (List.mem_append_right _ ((isort_perm found).mem_iff.mp hx)))
    refine ⟨found, .inl rfl, _, rfl, ?_⟩
    refine comp_map (f := fun j => xs.getD j.toNat .non) (fun x hx => ⟨_, fun k hk => s_gmN.mpr hk, fun Q hQ => hQ, fun Q hQ => ?_⟩) (by rw [isort_len, hf]; exact line (by omega)) ?_
    · obtain ⟨h0, h1⟩ := hmem x hx
      try simp only [s_mVar0, s_mVarS, s_mVarO0, s_mVarOS, s_isObj_lst, s_isObj_dic, s_mC, s_mOp, s_mOp1, s_mB, s_mNil, s_mCons, s_mTup, s_mLst, s_mCall, s_mTB, s_mNot, s_mAnd, s_mOr, s_mAndV, s_mOrV, s_mIf, s_mYes, s_mSl, s_mNo, s_mPart, s_mLc, s_mItems, s_mRng1, s_mRng2, s_mEnum, s_mChain, s_seqT, s_seqL, s_sNext, s_sSeq, s_sIf, s_sSet, s_sRet, s_sRetN, s_sBreak, s_sCont, s_sDrop, s_sPar, s_setN0, s_setNS, s_sAsg, s_sApp, s_sAug, s_sFor, s_sSrc, s_gmN, s_gmT, s_gmCons, s_gmNil, s_wipe0, s_wipeS, s_oSub, s_oAddI, s_oAdd, s_oLt, s_oLe, s_oGt, s_oGe, s_oNeg, s_oNot, s_oMul, s_oMulW, s_oMod, s_oFdiv, s_oPow, s_oIsN, s_oNotN, s_oIsB, s_oNotB, s_isNon_int, s_isNon_non, s_isNon_bl, s_isNon_str, s_isNon_tup, s_isNon_lst, s_isNon_dic, s_oEqI, s_oNeI, s_oIxT, s_oIxL, s_oSlT, s_oSlL, s_oRevT, s_oRevL, s_oInt, s_oIntB, s_oAbs, s_oMax2, s_oMin2, s_oLen, s_plenT, s_plenL, s_plenD, s_plenS, s_oTupleL, s_oTupleT, s_oListL, s_oListT, List.set_cons_succ, List.set_cons_zero, List.append_nil, true_and]
      have hg : atI xs x = some (xs.getD x.toNat .non) := by
        rw [atI_nn h0 h1, List.getD_eq_getElem?_getD, List.getElem?_eq_getElem (by omega)]; rfl
      rcases hpool with rfl | rfl
      · exact s_oIxL.mpr ⟨_, hg, hQ⟩
      · exact s_oIxT.mpr ⟨_, hg, hQ⟩
    · refine s_oTupleL.mpr (h _ (by have := pick_sub (xs := xs) (d := .non) (k := 0) (strict_of (isort_sorted found) hsn) hmem; rwa [List.drop_zero] at this) (by rw [List.length_map, isort_len, hf]))
end K45

set_option maxHeartbeats 2000000
namespace K45
open PySem L2 PM
theorem mem_seg {α : Type} {lots : List α} {a b : Nat} {l : α} : l ∈ seg lots a b ↔ ∃ i, a ≤ i ∧ i ≤ b ∧ lots[i]? = some l := by
  unfold seg
  rw [List.mem_iff_getElem?]
  constructor
  · rintro ⟨i, h⟩
    rw [List.getElem?_drop, List.getElem?_take] at h
    by_cases z : a + i < b + 1
    · rw [if_pos z] at h
      exact ⟨a + i, by omega, by omega, h⟩
    · rw [if_neg z] at h; cases h
  · rintro ⟨i, h1, h2, h⟩
    refine ⟨i - a, ?_⟩
    rw [List.getElem?_drop, List.getElem?_take, show a + (i - a) = i by omega, if_pos (by omega)]
    exact h
theorem cnt_mono {lots : List (List Int)} {a b a' b' : Nat} (h1 : a' ≤ a) (h2 : b ≤ b') : cnt lots a b ≤ cnt lots a' b' := by
  refine len_le (nodup_keys _) fun x hx => ?_
  obtain ⟨l, hl, hx⟩ := mem_keys.mp hx
  obtain ⟨i, i1, i2, hi⟩ := mem_seg.mp hl
  exact mem_keys.mpr ⟨l, mem_seg.mpr ⟨i, by omega, by omega, hi⟩, hx⟩
theorem puts_nil {l : List Int} (h : l.Nodup) : puts [] l = l := by
  rw [puts_filter h]
  show l.filter _ = l
  rw [List.filter_eq_self]
  intro x _
  simp
theorem seg_one {α : Type} {lots : List α} {i : Nat} {l : α} (h : lots[i]? = some l) : seg lots i i = [l] := by
  unfold seg
  have := (List.getElem?_eq_some_iff.mp h).1
  rw [List.take_add_one, h, List.drop_append]
  have e : (lots.take i).length = i := by rw [List.length_take]; omega
  rw [e, List.drop_of_length_le (by omega), Nat.sub_self]
  rfl
theorem seg_succ {α : Type} {lots : List α} {a i : Nat} {l : α} (h : lots[i + 1]? = some l) (ha : a ≤ i + 1) : seg lots a (i + 1) = seg lots a i ++ [l] := by
  unfold seg
  have := (List.getElem?_eq_some_iff.mp h).1
  rw [List.take_add_one, h, List.drop_append]
  have e : (lots.take (i + 1)).length = i + 1 := by rw [List.length_take]; omega
  rw [e, show a - (i + 1) = 0 by omega]
  rfl
theorem keys_succ {lots : List (List Int)} {a i : Nat} {l : List Int} (h : lots[i + 1]? = some l) (ha : a ≤ i + 1) : keys (seg lots a (i + 1)) = puts (keys (seg lots a i)) l := by
  rw [seg_succ h ha]
  unfold keys
  rw [List.foldl_append]
  rfl
theorem keys_one {lots : List (List Int)} {i : Nat} {l : List Int} (h : lots[i]? = some l) (hn : l.Nodup) : keys (seg lots i i) = l := by
  rw [seg_one h]
  exact puts_nil hn
/-! ### the earliest firsts -/
structure First (lots : List (List Int)) (t : Int) (l f : Nat) : Prop where
  le : f ≤ l + 1
  low : ∀ g, g < f → t < cnt lots g l
  ok : f ≤ l → (cnt lots f l : Int) ≤ t
def fE (l f : Nat) : PV := if f ≤ l then .int f else .non
def firstsP (fs : List Nat) : List PV := fs.zipIdx.map fun p => fE p.2 p.1
theorem firstsP_snoc {fs : List Nat} {f : Nat} : firstsP (fs ++ [f]) = firstsP fs ++ [fE fs.length f] := by
  unfold firstsP
  rw [List.zipIdx_append, List.map_append]
  simp
theorem firstsP_len {fs : List Nat} : (firstsP fs).length = fs.length := by unfold firstsP; simp
theorem firstsP_get {fs : List Nat} {i f : Nat} (h : fs[i]? = some f) : (firstsP fs)[i]? = some (fE i f) := by
  unfold firstsP
  rw [List.getElem?_map, List.getElem?_zipIdx, h]
  simp
def sp_earliest : PM.Spec := fun ps P => ∃ (lots : List (List Int)) (t : Int), ps = [crs lots, .int t] ∧ Good lots ∧ ∀ fs : List Nat, fs.length = lots.length → (∀ l f, fs[l]? = some f → First lots t l f) → P (.tup (firstsP fs))
theorem h_earliest_firsts (ps : List PV) (Q : PV → Prop) (h : sp_earliest ps Q) : t_earliest_firsts sp_union_of { nx := fun _ => nxOf .cl Q, rt := Q } (startE n_earliest_firsts.length ps) := by
  obtain ⟨lots, t, rfl, hg, h⟩ := h
  have hs := hg.small
  show t_earliest_firsts _ _ [some (crs lots), some (.int t), none, none, none]
  unfold t_earliest_firsts
  try simp only [s_mVar0, s_mVarS, s_mVarO0, s_mVarOS, s_isObj_lst, s_isObj_dic, s_mC, s_mOp, s_mOp1, s_mB, s_mNil, s_mCons, s_mTup, s_mLst, s_mCall, s_mTB, s_mNot, s_mAnd, s_mOr, s_mAndV, s_mOrV, s_mIf, s_mYes, s_mSl, s_mNo, s_mPart, s_mLc, s_mItems, s_mRng1, s_mRng2, s_mEnum, s_mChain, s_seqT, s_seqL, s_sNext, s_sSeq, s_sIf, s_sSet, s_sRet, s_sRetN, s_sBreak, s_sCont, s_sDrop, s_sPar, s_setN0, s_setNS, s_sAsg, s_sApp, s_sAug, s_sFor, s_sSrc, s_gmN, s_gmT, s_gmCons, s_gmNil, s_wipe0, s_wipeS, s_oSub, s_oAddI, s_oAdd, s_oLt, s_oLe, s_oGt, s_oGe, s_oNeg, s_oNot, s_oMul, s_oMulW, s_oMod, s_oFdiv, s_oPow, s_oIsN, s_oNotN, s_oIsB, s_oNotB, s_isNon_int, s_isNon_non, s_isNon_bl, s_isNon_str, s_isNon_tup, s_isNon_lst, s_isNon_dic, s_oEqI, s_oNeI, s_oIxT, s_oIxL, s_oSlT, s_oSlL, s_oRevT, s_oRevL, s_oInt, s_oIntB, s_oAbs, s_oMax2, s_oMin2, s_oLen, s_plenT, s_plenL, s_plenD, s_plenS, s_oTupleL, s_oTupleT, s_oListL, s_oListT, List.set_cons_succ, List.set_cons_zero, List.append_nil, true_and, x_bl, x_int, x_some, x_addT, x_addL, x_true, x_false]
  refine ⟨Nat.zero_le _, by rw [List.length_map]; omega, ?_⟩
  rw [List.length_map, Int.toNat_natCast, rngP_rng]
  refine for_inv (fun i e => i ≤ lots.length ∧ ∃ (fs : List Nat) (first : Nat) (y2 : Option PV), fs.length = i ∧ (∀ l f, fs[l]? = some f → First lots t l f) ∧ first ≤ i ∧ (∀ g, g < first → 0 < i ∧ t < cnt lots g (i - 1)) ∧ e = [some (crs lots), some (.int t), y2, some (.lst (firstsP fs)), some (.int first)])
    ⟨Nat.zero_le _, [], 0, none, rfl, (fun l f z => by simp at z), Nat.le_refl _, (fun g z => absurd z (Nat.not_lt_zero _)), rfl⟩ (fun i x e N hx hE hN => ?_) (fun e hE => ?_)
  · obtain ⟨hi, fs, first, y2, hl, hF, hle, hlow, rfl⟩ := hE
    have hlt : i < lots.length := by have := (List.getElem?_eq_some_iff.mp hx).1; rw [rng_len] at this; exact this
    have ex : x = (i : Int) := by rw [rng_get hlt] at hx; exact (Option.some.inj hx).symm
    subst ex
    rw [s_gmN]
    try simp only [s_mVar0, s_mVarS, s_mVarO0, s_mVarOS, s_isObj_lst, s_isObj_dic, s_mC, s_mOp, s_mOp1, s_mB, s_mNil, s_mCons, s_mTup, s_mLst, s_mCall, s_mTB, s_mNot, s_mAnd, s_mOr, s_mAndV, s_mOrV, s_mIf, s_mYes, s_mSl, s_mNo, s_mPart, s_mLc, s_mItems, s_mRng1, s_mRng2, s_mEnum, s_mChain, s_seqT, s_seqL, s_sNext, s_sSeq, s_sIf, s_sSet, s_sRet, s_sRetN, s_sBreak, s_sCont, s_sDrop, s_sPar, s_setN0, s_setNS, s_sAsg, s_sApp, s_sAug, s_sFor, s_sSrc, s_gmN, s_gmT, s_gmCons, s_gmNil, s_wipe0, s_wipeS, s_oSub, s_oAddI, s_oAdd, s_oLt, s_oLe, s_oGt, s_oGe, s_oNeg, s_oNot, s_oMul, s_oMulW, s_oMod, s_oFdiv, s_oPow, s_oIsN, s_oNotN, s_oIsB, s_oNotB, s_isNon_int, s_isNon_non, s_isNon_bl, s_isNon_str, s_isNon_tup, s_isNon_lst, s_isNon_dic, s_oEqI, s_oNeI, s_oIxT, s_oIxL, s_oSlT, s_oSlL, s_oRevT, s_oRevL, s_oInt, s_oIntB, s_oAbs, s_oMax2, s_oMin2, s_oLen, s_plenT, s_plenL, s_plenD, s_plenS, s_oTupleL, s_oTupleT, s_oListL, s_oListT, List.set_cons_succ, List.set_cons_zero, List.append_nil, true_and, x_bl, x_int, x_some, x_addT, x_addL, x_true, x_false]
    refine ⟨fun m e => ∃ first : Nat, m = i + 1 - first ∧ first ≤ i + 1 ∧ (∀ g, g < first → t < cnt lots g i) ∧ e = [some (crs lots), some (.int t), some (.int i), some (.lst (firstsP fs)), some (.int first)], ⟨_, first, rfl, by omega, fun g hg' => ?_, rfl⟩, ?_⟩
    · obtain ⟨h0, h1⟩ := hlow g hg'
      have := cnt_mono (lots := lots) (a := g) (a' := g) (b := i - 1) (b' := i) (Nat.le_refl _) (by omega)
      omega
    rintro m e ⟨first, rfl, hle, hlow, rfl⟩
    try simp only [s_mVar0, s_mVarS, s_mVarO0, s_mVarOS, s_isObj_lst, s_isObj_dic, s_mC, s_mOp, s_mOp1, s_mB, s_mNil, s_mCons, s_mTup, s_mLst, s_mCall, s_mTB, s_mNot, s_mAnd, s_mOr, s_mAndV, s_mOrV, s_mIf, s_mYes, s_mSl, s_mNo, s_mPart, s_mLc, s_mItems, s_mRng1, s_mRng2, s_mEnum, s_mChain, s_seqT, s_seqL, s_sNext, s_sSeq, s_sIf, s_sSet, s_sRet, s_sRetN, s_sBreak, s_sCont, s_sDrop, s_sPar, s_setN0, s_setNS, s_sAsg, s_sApp, s_sAug, s_sFor, s_sSrc, s_gmN, s_gmT, s_gmCons, s_gmNil, s_wipe0, s_wipeS, s_oSub, s_oAddI, s_oAdd, s_oLt, s_oLe, s_oGt, s_oGe, s_oNeg, s_oNot, s_oMul, s_oMulW, s_oMod, s_oFdiv, s_oPow, s_oIsN, s_oNotN, s_oIsB, s_oNotB, s_isNon_int, s_isNon_non, s_isNon_bl, s_isNon_str, s_isNon_tup, s_isNon_lst, s_isNon_dic, s_oEqI, s_oNeI, s_oIxT, s_oIxL, s_oSlT, s_oSlL, s_oRevT, s_oRevL, s_oInt, s_oIntB, s_oAbs, s_oMax2, s_oMin2, s_oLen, s_plenT, s_plenL, s_plenD, s_plenS, s_oTupleL, s_oTupleT, s_oListL, s_oListT, List.set_cons_succ, List.set_cons_zero, List.append_nil, true_and, x_bl, x_int, x_some, x_addT, x_addL, x_true, x_false]
    have nx : (first ≤ i → (cnt lots first i : Int) ≤ t) → N [some (crs lots), some (.int t), some (.int i), some (.lst (firstsP fs ++ [fE i first])), some (.int first)] := fun hok => by
      refine hN _ ⟨hlt, fs ++ [first], first, some (.int i), by rw [List.length_append, hl]; rfl, fun l f hf => ?_, hle, fun g hg' => ⟨Nat.succ_pos _, hlow g hg'⟩, ?_⟩
      · rcases Nat.lt_or_ge l fs.length with z | z
        · rw [List.getElem?_append_left z] at hf; exact hF l f hf
        · rw [List.getElem?_append_right z] at hf
          have e0 : l - fs.length = 0 := by
            have := (List.getElem?_eq_some_iff.mp hf).1
            simp at this; omega
          rw [e0] at hf
          have ef : f = first := (Option.some.inj hf).symm
          have el : l = i := by omega
          rw [ef, el]
          exact ⟨hle, hlow, hok⟩
      · rw [firstsP_snoc, hl]
    have fin : fs.length < sizeLine := small_line (by omega)
    by_cases hc : first ≤ i
    · rw [decide_eq_true (by omega : (first : Int) ≤ i), if_pos rfl]
      refine ⟨lots, first, i, rfl, hg, ?_⟩
      try simp only [s_mVar0, s_mVarS, s_mVarO0, s_mVarOS, s_isObj_lst, s_isObj_dic, s_mC, s_mOp, s_mOp1, s_mB, s_mNil, s_mCons, s_mTup, s_mLst, s_mCall, s_mTB, s_mNot, s_mAnd, s_mOr, s_mAndV, s_mOrV, s_mIf, s_mYes, s_mSl, s_mNo, s_mPart, s_mLc, s_mItems, s_mRng1, s_mRng2, s_mEnum, s_mChain, s_seqT, s_seqL, s_sNext, s_sSeq, s_sIf, s_sSet, s_sRet, s_sRetN, s_sBreak, s_sCont, s_sDrop, s_sPar, s_setN0, s_setNS, s_sAsg, s_sApp, s_sAug, s_sFor, s_sSrc, s_gmN, s_gmT, s_gmCons, s_gmNil, s_wipe0, s_wipeS, s_oSub, s_oAddI, s_oAdd, s_oLt, s_oLe, s_oGt, s_oGe, s_oNeg, s_oNot, s_oMul, s_oMulW, s_oMod, s_oFdiv, s_oPow, s_oIsN, s_oNotN, s_oIsB, s_oNotB, s_isNon_int, s_isNon_non, s_isNon_bl, s_isNon_str, s_isNon_tup, s_isNon_lst, s_isNon_dic, s_oEqI, s_oNeI, s_oIxT, s_oIxL, s_oSlT, s_oSlL, s_oRevT, s_oRevL, s_oInt, s_oIntB, s_oAbs, s_oMax2, s_oMin2, s_oLen, s_plenT, s_plenL, s_plenD, s_plenS, s_oTupleL, s_oTupleT, s_oListL, s_oListT, List.set_cons_succ, List.set_cons_zero, List.append_nil, true_and, x_bl, x_int, x_some, x_addT, x_addL, x_true, x_false]
      rw [List.length_map, isort_len]
      have ecnt : (keys (seg lots first i)).length = cnt lots first i := rfl
      rw [ecnt]
      by_cases hc2 : t < (cnt lots first i : Int)
      · rw [decide_eq_true hc2, if_pos rfl]
        refine ⟨_, rfl, ?_⟩
        try simp only [s_mVar0, s_mVarS, s_mVarO0, s_mVarOS, s_isObj_lst, s_isObj_dic, s_mC, s_mOp, s_mOp1, s_mB, s_mNil, s_mCons, s_mTup, s_mLst, s_mCall, s_mTB, s_mNot, s_mAnd, s_mOr, s_mAndV, s_mOrV, s_mIf, s_mYes, s_mSl, s_mNo, s_mPart, s_mLc, s_mItems, s_mRng1, s_mRng2, s_mEnum, s_mChain, s_seqT, s_seqL, s_sNext, s_sSeq, s_sIf, s_sSet, s_sRet, s_sRetN, s_sBreak, s_sCont, s_sDrop, s_sPar, s_setN0, s_setNS, s_sAsg, s_sApp, s_sAug, s_sFor, s_sSrc, s_gmN, s_gmT, s_gmCons, s_gmNil, s_wipe0, s_wipeS, s_oSub, s_oAddI, s_oAdd, s_oLt, s_oLe, s_oGt, s_oGe, s_oNeg, s_oNot, s_oMul, s_oMulW, s_oMod, s_oFdiv, s_oPow, s_oIsN, s_oNotN, s_oIsB, s_oNotB, s_isNon_int, s_isNon_non, s_isNon_bl, s_isNon_str, s_isNon_tup, s_isNon_lst, s_isNon_dic, s_oEqI, s_oNeI, s_oIxT, s_oIxL, s_oSlT, s_oSlL, s_oRevT, s_oRevL, s_oInt, s_oIntB, s_oAbs, s_oMax2, s_oMin2, s_oLen, s_plenT, s_plenL, s_plenD, s_plenS, s_oTupleL, s_oTupleT, s_oListL, s_oListT, List.set_cons_succ, List.set_cons_zero, List.append_nil, true_and, x_bl, x_int, x_some, x_addT, x_addL, x_true, x_false]
        refine ⟨i + 1 - (first + 1), by omega, first + 1, rfl, by omega, fun g hg' => ?_, rfl⟩
        rcases Nat.lt_succ_iff_lt_or_eq.mp hg' with z | z
        · exact hlow g z
        · rw [z]; exact hc2
      · rw [decide_eq_false hc2, if_neg Bool.false_ne_true]
        refine ⟨_, rfl, ?_⟩
        try simp only [s_mVar0, s_mVarS, s_mVarO0, s_mVarOS, s_isObj_lst, s_isObj_dic, s_mC, s_mOp, s_mOp1, s_mB, s_mNil, s_mCons, s_mTup, s_mLst, s_mCall, s_mTB, s_mNot, s_mAnd, s_mOr, s_mAndV, s_mOrV, s_mIf, s_mYes, s_mSl, s_mNo, s_mPart, s_mLc, s_mItems, s_mRng1, s_mRng2, s_mEnum, s_mChain, s_seqT, s_seqL, s_sNext, s_sSeq, s_sIf, s_sSet, s_sRet, s_sRetN, s_sBreak, s_sCont, s_sDrop, s_sPar, s_setN0, s_setNS, s_sAsg, s_sApp, s_sAug, s_sFor, s_sSrc, s_gmN, s_gmT, s_gmCons, s_gmNil, s_wipe0, s_wipeS, s_oSub, s_oAddI, s_oAdd, s_oLt, s_oLe, s_oGt, s_oGe, s_oNeg, s_oNot, s_oMul, s_oMulW, s_oMod, s_oFdiv, s_oPow, s_oIsN, s_oNotN, s_oIsB, s_oNotB, s_isNon_int, s_isNon_non, s_isNon_bl, s_isNon_str, s_isNon_tup, s_isNon_lst, s_isNon_dic, s_oEqI, s_oNeI, s_oIxT, s_oIxL, s_oSlT, s_oSlL, s_oRevT, s_oRevL, s_oInt, s_oIntB, s_oAbs, s_oMax2, s_oMin2, s_oLen, s_plenT, s_plenL, s_plenD, s_plenS, s_oTupleL, s_oTupleT, s_oListL, s_oListT, List.set_cons_succ, List.set_cons_zero, List.append_nil, true_and, x_bl, x_int, x_some, x_addT, x_addL, x_true, x_false]
        rw [if_pos trivial]
        refine ⟨by rw [firstsP_len]; exact fin, ?_⟩
        have := nx fun _ => by omega
        unfold fE at this
        rw [if_pos hc] at this
        exact this
    · rw [decide_eq_false (by omega : ¬ (first : Int) ≤ i), if_neg Bool.false_ne_true]
      try simp only [s_mVar0, s_mVarS, s_mVarO0, s_mVarOS, s_isObj_lst, s_isObj_dic, s_mC, s_mOp, s_mOp1, s_mB, s_mNil, s_mCons, s_mTup, s_mLst, s_mCall, s_mTB, s_mNot, s_mAnd, s_mOr, s_mAndV, s_mOrV, s_mIf, s_mYes, s_mSl, s_mNo, s_mPart, s_mLc, s_mItems, s_mRng1, s_mRng2, s_mEnum, s_mChain, s_seqT, s_seqL, s_sNext, s_sSeq, s_sIf, s_sSet, s_sRet, s_sRetN, s_sBreak, s_sCont, s_sDrop, s_sPar, s_setN0, s_setNS, s_sAsg, s_sApp, s_sAug, s_sFor, s_sSrc, s_gmN, s_gmT, s_gmCons, s_gmNil, s_wipe0, s_wipeS, s_oSub, s_oAddI, s_oAdd, s_oLt, s_oLe, s_oGt, s_oGe, s_oNeg, s_oNot, s_oMul, s_oMulW, s_oMod, s_oFdiv, s_oPow, s_oIsN, s_oNotN, s_oIsB, s_oNotB, s_isNon_int, s_isNon_non, s_isNon_bl, s_isNon_str, s_isNon_tup, s_isNon_lst, s_isNon_dic, s_oEqI, s_oNeI, s_oIxT, s_oIxL, s_oSlT, s_oSlL, s_oRevT, s_oRevL, s_oInt, s_oIntB, s_oAbs, s_oMax2, s_oMin2, s_oLen, s_plenT, s_plenL, s_plenD, s_plenS, s_oTupleL, s_oTupleT, s_oListL, s_oListT, List.set_cons_succ, List.set_cons_zero, List.append_nil, true_and, x_bl, x_int, x_some, x_addT, x_addL, x_true, x_false]
      refine ⟨_, rfl, ?_⟩
      try simp only [s_mVar0, s_mVarS, s_mVarO0, s_mVarOS, s_isObj_lst, s_isObj_dic, s_mC, s_mOp, s_mOp1, s_mB, s_mNil, s_mCons, s_mTup, s_mLst, s_mCall, s_mTB, s_mNot, s_mAnd, s_mOr, s_mAndV, s_mOrV, s_mIf, s_mYes, s_mSl, s_mNo, s_mPart, s_mLc, s_mItems, s_mRng1, s_mRng2, s_mEnum, s_mChain, s_seqT, s_seqL, s_sNext, s_sSeq, s_sIf, s_sSet, s_sRet, s_sRetN, s_sBreak, s_sCont, s_sDrop, s_sPar, s_setN0, s_setNS, s_sAsg, s_sApp, s_sAug, s_sFor, s_sSrc, s_gmN, s_gmT, s_gmCons, s_gmNil, s_wipe0, s_wipeS, s_oSub, s_oAddI, s_oAdd, s_oLt, s_oLe, s_oGt, s_oGe, s_oNeg, s_oNot, s_oMul, s_oMulW, s_oMod, s_oFdiv, s_oPow, s_oIsN, s_oNotN, s_oIsB, s_oNotB, s_isNon_int, s_isNon_non, s_isNon_bl, s_isNon_str, s_isNon_tup, s_isNon_lst, s_isNon_dic, s_oEqI, s_oNeI, s_oIxT, s_oIxL, s_oSlT, s_oSlL, s_oRevT, s_oRevL, s_oInt, s_oIntB, s_oAbs, s_oMax2, s_oMin2, s_oLen, s_plenT, s_plenL, s_plenD, s_plenS, s_oTupleL, s_oTupleT, s_oListL, s_oListT, List.set_cons_succ, List.set_cons_zero, List.append_nil, true_and, x_bl, x_int, x_some, x_addT, x_addL, x_true, x_false]
      refine ⟨by rw [firstsP_len]; exact fin, ?_⟩
      have := nx fun z => absurd z hc
      unfold fE at this
      rw [if_neg hc] at this
      exact this
  · obtain ⟨hi, fs, first, y2, hl, hF, hle, hlow, rfl⟩ := hE
    rw [rng_len] at hl
    try simp only [s_mVar0, s_mVarS, s_mVarO0, s_mVarOS, s_isObj_lst, s_isObj_dic, s_mC, s_mOp, s_mOp1, s_mB, s_mNil, s_mCons, s_mTup, s_mLst, s_mCall, s_mTB, s_mNot, s_mAnd, s_mOr, s_mAndV, s_mOrV, s_mIf, s_mYes, s_mSl, s_mNo, s_mPart, s_mLc, s_mItems, s_mRng1, s_mRng2, s_mEnum, s_mChain, s_seqT, s_seqL, s_sNext, s_sSeq, s_sIf, s_sSet, s_sRet, s_sRetN, s_sBreak, s_sCont, s_sDrop, s_sPar, s_setN0, s_setNS, s_sAsg, s_sApp, s_sAug, s_sFor, s_sSrc, s_gmN, s_gmT, s_gmCons, s_gmNil, s_wipe0, s_wipeS, s_oSub, s_oAddI, s_oAdd, s_oLt, s_oLe, s_oGt, s_oGe, s_oNeg, s_oNot, s_oMul, s_oMulW, s_oMod, s_oFdiv, s_oPow, s_oIsN, s_oNotN, s_oIsB, s_oNotB, s_isNon_int, s_isNon_non, s_isNon_bl, s_isNon_str, s_isNon_tup, s_isNon_lst, s_isNon_dic, s_oEqI, s_oNeI, s_oIxT, s_oIxL, s_oSlT, s_oSlL, s_oRevT, s_oRevL, s_oInt, s_oIntB, s_oAbs, s_oMax2, s_oMin2, s_oLen, s_plenT, s_plenL, s_plenD, s_plenS, s_oTupleL, s_oTupleT, s_oListL, s_oListT, List.set_cons_succ, List.set_cons_zero, List.append_nil, true_and, x_bl, x_int, x_some, x_addT, x_addL, x_true, x_false]
    exact h fs hl hF
/-! ### the fewest schedule -/
end K45

set_option maxHeartbeats 2000000
namespace K45
open PySem L2 PM
def prP (p : Int × Nat) : PV := .tup [.int p.1, .int (p.2 : Nat)]
def price (pr : List (Int × Nat)) (l : Nat) : Int := (pr.getD l (0, 0)).1
def pfst (pr : List (Int × Nat)) (l : Nat) : Nat := (pr.getD l (0, 0)).2
def cost (costs : List Int) (i : Nat) : Int := costs.getD i 0
/-- the l-th price is the least, by this first -/
def Pr1 (lots : List (List Int)) (t : Int) (costs : List Int) (pr : List (Int × Nat)) (l : Nat) : Prop :=
  ∃ f0, First lots t l f0 ∧ f0 ≤ l ∧ ((f0 = 0 ∧ pr[l]? = some (0, 0)) ∨ (0 < f0 ∧ ∃ f w, pr[l]? = some (w, f) ∧ f0 ≤ f ∧ f ≤ l ∧ w = price pr (f - 1) + cost costs (f - 1) ∧ ∀ g, f0 ≤ g → g ≤ l → w ≤ price pr (g - 1) + cost costs (g - 1)))
theorem price_app {pr : List (Int × Nat)} {x : Int × Nat} {l : Nat} (h : l < pr.length) : price (pr ++ [x]) l = price pr l := by
  unfold price
  rw [List.getD_eq_getElem?_getD, List.getD_eq_getElem?_getD, List.getElem?_append_left h]
theorem Pr1.app {lots : List (List Int)} {t : Int} {costs : List Int} {pr : List (Int × Nat)} {l : Nat} {x : Int × Nat} (hl : l < pr.length) (h : Pr1 lots t costs pr l) : Pr1 lots t costs (pr ++ [x]) l := by
  obtain ⟨f0, h1, h2, h3⟩ := h
  refine ⟨f0, h1, h2, ?_⟩
  rcases h3 with ⟨a, b⟩ | ⟨a, f, w, b, c, d, e, g⟩
  · exact .inl ⟨a, by rw [List.getElem?_append_left hl]; exact b⟩
  · refine .inr ⟨a, f, w, by rw [List.getElem?_append_left hl]; exact b, c, d, by rw [price_app (by omega)]; exact e, fun k k1 k2 => ?_⟩
    rw [price_app (by omega)]; exact g k k1 k2
theorem cnt_one {lots : List (List Int)} {i : Nat} {l : List Int} (hg : Good lots) (h : lots[i]? = some l) : cnt lots i i = l.length := by
  unfold cnt
  rw [keys_one h (hg.lot l (List.mem_of_getElem? h)).1]
def Fit (lots : List (List Int)) (t : Int) : Prop := ∀ l ∈ lots, (l.length : Int) ≤ t
structure Cs (lots : List (List Int)) (costs : List Int) : Prop where
  len : costs.length + 1 = lots.length
  nn : ∀ c ∈ costs, 0 ≤ c
theorem Cs.cost0 {lots : List (List Int)} {costs : List Int} (h : Cs lots costs) (i : Nat) : 0 ≤ cost costs i := by
  unfold cost
  rw [List.getD_eq_getElem?_getD]
  cases e : costs[i]? with
  | none => exact Int.le_refl _
  | some c => exact h.nn c (List.mem_of_getElem? e)
/-- none among firsts -/
def fD (p : Nat × Nat) : PyData := if p.1 ≤ p.2 then .int (p.1 : Int) else .none
theorem fD_to (p : Nat × Nat) : toD (fE p.2 p.1) = some (fD p) := by
  unfold fE fD
  by_cases c : p.1 ≤ p.2
  · rw [if_pos c, if_pos c]; rfl
  · rw [if_neg c, if_neg c]; rfl
theorem none_in {fs : List Nat} {b : Bool} {P : PV → Prop} (hb : (∃ (l f : Nat), fs[l]? = some f ∧ ¬ f ≤ l) ↔ b = true) (h : P (.bl b)) : oInA false .non (.tup (firstsP fs)) P := by
  refine ⟨_, .none, fs.zipIdx.map fD, rfl, rfl, toDs_map fD_to fs.zipIdx, rfl, ?_, ?_⟩
  · obtain ⟨h1, h2⟩ := lay_map (n := 0) (f := fD) (fun p => by
      unfold fD
      by_cases c : p.1 ≤ p.2
      · rw [if_pos c]; exact ⟨rfl, Nat.le_refl _⟩
      · rw [if_neg c]; exact ⟨rfl, Nat.le_refl _⟩) fs.zipIdx
    unfold SeqAt.shaped
    rw [Bool.and_eq_true]
    exact ⟨h1, decide_eq_true (by show PyData.depthAll _ + 1 ≤ 64; omega)⟩
  · have e : ((fs.zipIdx.map fD).any fun z => PyData.eqv z .none) = b := by
      apply Bool.eq_iff_iff.mpr
      rw [← hb, List.any_map, List.any_eq_true]
      constructor
      · rintro ⟨p, hp, e⟩
        obtain ⟨f, l⟩ := p
        refine ⟨l, f, List.mem_zipIdx_iff_getElem?.mp hp, fun c => ?_⟩
        have e : PyData.eqv (fD (f, l)) .none = true := e
        unfold fD at e
        rw [if_pos c] at e
        cases e
      · rintro ⟨l, f, h1, h2⟩
        refine ⟨(f, l), List.mem_zipIdx_iff_getElem?.mpr h1, ?_⟩
        show PyData.eqv (fD (f, l)) .none = true
        unfold fD
        rw [if_neg h2]; rfl
    rw [e, Bool.false_xor]
    exact h
def sp_least_prices : PM.Spec := fun ps P => ∃ (lots : List (List Int)) (t : Int) (costs : List Int), ps = [crs lots, .int t, tI costs] ∧ Good lots ∧ Cs lots costs ∧ (¬ Fit lots t → P (.tup [])) ∧ (Fit lots t → ∀ pr : List (Int × Nat), pr.length = lots.length → (∀ l, l < lots.length → Pr1 lots t costs pr l) → P (.tup (pr.map prP)))
theorem h_least_prices (ps : List PV) (Q : PV → Prop) (h : sp_least_prices ps Q) : t_least_prices sp_earliest { nx := fun _ => nxOf .cl Q, rt := Q } (startE n_least_prices.length ps) := by
  obtain ⟨lots, t, costs, rfl, hg, hc, h1, h2⟩ := h
  have hs := hg.small
  have hcl := hc.len
  show t_least_prices _ _ [some (crs lots), some (.int t), some (tI costs), none, none, none, none, none]
  unfold t_least_prices
  try simp only [s_mVar0, s_mVarS, s_mVarO0, s_mVarOS, s_isObj_lst, s_isObj_dic, s_mC, s_mOp, s_mOp1, s_mB, s_mNil, s_mCons, s_mTup, s_mLst, s_mCall, s_mTB, s_mNot, s_mAnd, s_mOr, s_mAndV, s_mOrV, s_mIf, s_mYes, s_mSl, s_mNo, s_mPart, s_mLc, s_mItems, s_mRng1, s_mRng2, s_mEnum, s_mChain, s_seqT, s_seqL, s_sNext, s_sSeq, s_sIf, s_sSet, s_sRet, s_sRetN, s_sBreak, s_sCont, s_sDrop, s_sPar, s_setN0, s_setNS, s_sAsg, s_sApp, s_sAug, s_sFor, s_sSrc, s_gmN, s_gmT, s_gmCons, s_gmNil, s_wipe0, s_wipeS, s_oSub, s_oAddI, s_oAdd, s_oLt, s_oLe, s_oGt, s_oGe, s_oNeg, s_oNot, s_oMul, s_oMulW, s_oMod, s_oFdiv, s_oPow, s_oIsN, s_oNotN, s_oIsB, s_oNotB, s_isNon_int, s_isNon_non, s_isNon_bl, s_isNon_str, s_isNon_tup, s_isNon_lst, s_isNon_dic, s_oEqI, s_oNeI, s_oIxT, s_oIxL, s_oSlT, s_oSlL, s_oRevT, s_oRevL, s_oInt, s_oIntB, s_oAbs, s_oMax2, s_oMin2, s_oLen, s_plenT, s_plenL, s_plenD, s_plenS, s_oTupleL, s_oTupleT, s_oListL, s_oListT, List.set_cons_succ, List.set_cons_zero, List.append_nil, true_and, x_bl, x_int, x_some, x_addT, x_addL, x_true, x_false]
  refine ⟨lots, t, rfl, hg, fun fs fl fF => ?_⟩
  have fitiff : (∃ (l f : Nat), fs[l]? = some f ∧ ¬ f ≤ l) ↔ ¬ Fit lots t := by
    constructor
    · rintro ⟨l, f, e, nle⟩ hfit
      have F := fF l f e
      have := F.low l (by omega)
      have hl : l < lots.length := by rw [← fl]; exact (List.getElem?_eq_some_iff.mp e).1
      rw [cnt_one hg (List.getElem?_eq_getElem hl)] at this
      have := hfit _ (List.getElem_mem hl)
      omega
    · intro hfit
      refine Classical.byContradiction fun hno => hfit fun l hl => ?_
      obtain ⟨i, hi, rfl⟩ := List.mem_iff_getElem.mp hl
      have ei := List.getElem?_eq_getElem (l := fs) (i := i) (by omega)
      have F := fF i _ ei
      have hle : fs[i] ≤ i := Classical.byContradiction fun z => hno ⟨i, _, ei, z⟩
      have h1 := F.ok hle
      have h2 := cnt_mono (lots := lots) (a := i) (a' := fs[i]) (b := i) (b' := i) hle (Nat.le_refl _)
      rw [cnt_one hg (List.getElem?_eq_getElem hi)] at h2
      omega
  by_cases hfit : Fit lots t
  case neg =>
    try simp only [s_mVar0, s_mVarS, s_mVarO0, s_mVarOS, s_isObj_lst, s_isObj_dic, s_mC, s_mOp, s_mOp1, s_mB, s_mNil, s_mCons, s_mTup, s_mLst, s_mCall, s_mTB, s_mNot, s_mAnd, s_mOr, s_mAndV, s_mOrV, s_mIf, s_mYes, s_mSl, s_mNo, s_mPart, s_mLc, s_mItems, s_mRng1, s_mRng2, s_mEnum, s_mChain, s_seqT, s_seqL, s_sNext, s_sSeq, s_sIf, s_sSet, s_sRet, s_sRetN, s_sBreak, s_sCont, s_sDrop, s_sPar, s_setN0, s_setNS, s_sAsg, s_sApp, s_sAug, s_sFor, s_sSrc, s_gmN, s_gmT, s_gmCons, s_gmNil, s_wipe0, s_wipeS, s_oSub, s_oAddI, s_oAdd, s_oLt, s_oLe, s_oGt, s_oGe, s_oNeg, s_oNot, s_oMul, s_oMulW, s_oMod, s_oFdiv, s_oPow, s_oIsN, s_oNotN, s_oIsB, s_oNotB, s_isNon_int, s_isNon_non, s_isNon_bl, s_isNon_str, s_isNon_tup, s_isNon_lst, s_isNon_dic, s_oEqI, s_oNeI, s_oIxT, s_oIxL, s_oSlT, s_oSlL, s_oRevT, s_oRevL, s_oInt, s_oIntB, s_oAbs, s_oMax2, s_oMin2, s_oLen, s_plenT, s_plenL, s_plenD, s_plenS, s_oTupleL, s_oTupleT, s_oListL, s_oListT, List.set_cons_succ, List.set_cons_zero, List.append_nil, true_and, x_bl, x_int, x_some, x_addT, x_addL, x_true, x_false]
    refine ⟨Nat.zero_le _, none_in (b := true) ⟨fun _ => rfl, fun _ => fitiff.mpr hfit⟩ ⟨_, rfl, ite_t rfl ⟨Nat.zero_le _, h1 hfit⟩⟩⟩
  try simp only [s_mVar0, s_mVarS, s_mVarO0, s_mVarOS, s_isObj_lst, s_isObj_dic, s_mC, s_mOp, s_mOp1, s_mB, s_mNil, s_mCons, s_mTup, s_mLst, s_mCall, s_mTB, s_mNot, s_mAnd, s_mOr, s_mAndV, s_mOrV, s_mIf, s_mYes, s_mSl, s_mNo, s_mPart, s_mLc, s_mItems, s_mRng1, s_mRng2, s_mEnum, s_mChain, s_seqT, s_seqL, s_sNext, s_sSeq, s_sIf, s_sSet, s_sRet, s_sRetN, s_sBreak, s_sCont, s_sDrop, s_sPar, s_setN0, s_setNS, s_sAsg, s_sApp, s_sAug, s_sFor, s_sSrc, s_gmN, s_gmT, s_gmCons, s_gmNil, s_wipe0, s_wipeS, s_oSub, s_oAddI, s_oAdd, s_oLt, s_oLe, s_oGt, s_oGe, s_oNeg, s_oNot, s_oMul, s_oMulW, s_oMod, s_oFdiv, s_oPow, s_oIsN, s_oNotN, s_oIsB, s_oNotB, s_isNon_int, s_isNon_non, s_isNon_bl, s_isNon_str, s_isNon_tup, s_isNon_lst, s_isNon_dic, s_oEqI, s_oNeI, s_oIxT, s_oIxL, s_oSlT, s_oSlL, s_oRevT, s_oRevL, s_oInt, s_oIntB, s_oAbs, s_oMax2, s_oMin2, s_oLen, s_plenT, s_plenL, s_plenD, s_plenS, s_oTupleL, s_oTupleT, s_oListL, s_oListT, List.set_cons_succ, List.set_cons_zero, List.append_nil, true_and, x_bl, x_int, x_some, x_addT, x_addL, x_true, x_false]
  refine ⟨Nat.zero_le _, none_in (b := false) ⟨fun z => absurd hfit (fitiff.mp z), fun z => by cases z⟩ ⟨_, rfl, ite_f Bool.false_ne_true ?_⟩⟩
  have fle : ∀ (l f : Nat), fs[l]? = some f → f ≤ l := fun l f e => Classical.byContradiction fun z => fitiff.mp ⟨l, f, e, z⟩ hfit
  try simp only [s_mVar0, s_mVarS, s_mVarO0, s_mVarOS, s_isObj_lst, s_isObj_dic, s_mC, s_mOp, s_mOp1, s_mB, s_mNil, s_mCons, s_mTup, s_mLst, s_mCall, s_mTB, s_mNot, s_mAnd, s_mOr, s_mAndV, s_mOrV, s_mIf, s_mYes, s_mSl, s_mNo, s_mPart, s_mLc, s_mItems, s_mRng1, s_mRng2, s_mEnum, s_mChain, s_seqT, s_seqL, s_sNext, s_sSeq, s_sIf, s_sSet, s_sRet, s_sRetN, s_sBreak, s_sCont, s_sDrop, s_sPar, s_setN0, s_setNS, s_sAsg, s_sApp, s_sAug, s_sFor, s_sSrc, s_gmN, s_gmT, s_gmCons, s_gmNil, s_wipe0, s_wipeS, s_oSub, s_oAddI, s_oAdd, s_oLt, s_oLe, s_oGt, s_oGe, s_oNeg, s_oNot, s_oMul, s_oMulW, s_oMod, s_oFdiv, s_oPow, s_oIsN, s_oNotN, s_oIsB, s_oNotB, s_isNon_int, s_isNon_non, s_isNon_bl, s_isNon_str, s_isNon_tup, s_isNon_lst, s_isNon_dic, s_oEqI, s_oNeI, s_oIxT, s_oIxL, s_oSlT, s_oSlL, s_oRevT, s_oRevL, s_oInt, s_oIntB, s_oAbs, s_oMax2, s_oMin2, s_oLen, s_plenT, s_plenL, s_plenD, s_plenS, s_oTupleL, s_oTupleT, s_oListL, s_oListT, List.set_cons_succ, List.set_cons_zero, List.append_nil, true_and, x_bl, x_int, x_some, x_addT, x_addL, x_true, x_false]
  rw [List.length_map]
  refine ⟨by omega, ?_⟩
  rw [Int.toNat_natCast, rngP_rng]
  refine for_inv (fun i e => i ≤ lots.length ∧ ∃ (pr : List (Int × Nat)) (y3 y6 : Option PV), pr.length = i ∧ (∀ l, l < i → Pr1 lots t costs pr l) ∧ e = [some (crs lots), some (.int t), some (tI costs), y3, some (.tup (firstsP fs)), some (.lst (pr.map prP)), y6, none]) ⟨Nat.zero_le _, [], none, none, rfl, fun l z => absurd z (Nat.not_lt_zero _), rfl⟩ (fun i x e N hx hE hN => ?_) (fun e hE => ?_)
  · obtain ⟨hi, pr, y3, y6, hl, hP, rfl⟩ := hE
    have hlt : i < lots.length := by have := (List.getElem?_eq_some_iff.mp hx).1; rw [rng_len] at this; exact this
    have ex : x = (i : Int) := by rw [rng_get hlt] at hx; exact (Option.some.inj hx).symm
    subst ex
    have ef := List.getElem?_eq_getElem (l := fs) (i := i) (by omega)
    have F := fF i _ ef
    have fl2 := fle i _ ef
    generalize fs[i] = f0 at ef F fl2
    have ea : atI (firstsP fs) (i : Int) = some (.int f0) := by
      rw [atI_nn (Int.natCast_nonneg _) (by rw [firstsP_len]; omega), Int.toNat_natCast, firstsP_get ef]
      unfold fE
      rw [if_pos fl2]
    rw [s_gmN]
    try simp only [s_mVar0, s_mVarS, s_mVarO0, s_mVarOS, s_isObj_lst, s_isObj_dic, s_mC, s_mOp, s_mOp1, s_mB, s_mNil, s_mCons, s_mTup, s_mLst, s_mCall, s_mTB, s_mNot, s_mAnd, s_mOr, s_mAndV, s_mOrV, s_mIf, s_mYes, s_mSl, s_mNo, s_mPart, s_mLc, s_mItems, s_mRng1, s_mRng2, s_mEnum, s_mChain, s_seqT, s_seqL, s_sNext, s_sSeq, s_sIf, s_sSet, s_sRet, s_sRetN, s_sBreak, s_sCont, s_sDrop, s_sPar, s_setN0, s_setNS, s_sAsg, s_sApp, s_sAug, s_sFor, s_sSrc, s_gmN, s_gmT, s_gmCons, s_gmNil, s_wipe0, s_wipeS, s_oSub, s_oAddI, s_oAdd, s_oLt, s_oLe, s_oGt, s_oGe, s_oNeg, s_oNot, s_oMul, s_oMulW, s_oMod, s_oFdiv, s_oPow, s_oIsN, s_oNotN, s_oIsB, s_oNotB, s_isNon_int, s_isNon_non, s_isNon_bl, s_isNon_str, s_isNon_tup, s_isNon_lst, s_isNon_dic, s_oEqI, s_oNeI, s_oIxT, s_oIxL, s_oSlT, s_oSlL, s_oRevT, s_oRevL, s_oInt, s_oIntB, s_oAbs, s_oMax2, s_oMin2, s_oLen, s_plenT, s_plenL, s_plenD, s_plenS, s_oTupleL, s_oTupleT, s_oListL, s_oListT, List.set_cons_succ, List.set_cons_zero, List.append_nil, true_and, x_bl, x_int, x_some, x_addT, x_addL, x_true, x_false]
    refine ⟨_, ea, ?_⟩
    try simp only [s_mVar0, s_mVarS, s_mVarO0, s_mVarOS, s_isObj_lst, s_isObj_dic, s_mC, s_mOp, s_mOp1, s_mB, s_mNil, s_mCons, s_mTup, s_mLst, s_mCall, s_mTB, s_mNot, s_mAnd, s_mOr, s_mAndV, s_mOrV, s_mIf, s_mYes, s_mSl, s_mNo, s_mPart, s_mLc, s_mItems, s_mRng1, s_mRng2, s_mEnum, s_mChain, s_seqT, s_seqL, s_sNext, s_sSeq, s_sIf, s_sSet, s_sRet, s_sRetN, s_sBreak, s_sCont, s_sDrop, s_sPar, s_setN0, s_setNS, s_sAsg, s_sApp, s_sAug, s_sFor, s_sSrc, s_gmN, s_gmT, s_gmCons, s_gmNil, s_wipe0, s_wipeS, s_oSub, s_oAddI, s_oAdd, s_oLt, s_oLe, s_oGt, s_oGe, s_oNeg, s_oNot, s_oMul, s_oMulW, s_oMod, s_oFdiv, s_oPow, s_oIsN, s_oNotN, s_oIsB, s_oNotB, s_isNon_int, s_isNon_non, s_isNon_bl, s_isNon_str, s_isNon_tup, s_isNon_lst, s_isNon_dic, s_oEqI, s_oNeI, s_oIxT, s_oIxL, s_oSlT, s_oSlL, s_oRevT, s_oRevL, s_oInt, s_oIntB, s_oAbs, s_oMax2, s_oMin2, s_oLen, s_plenT, s_plenL, s_plenD, s_plenS, s_oTupleL, s_oTupleT, s_oListL, s_oListT, List.set_cons_succ, List.set_cons_zero, List.append_nil, true_and, x_bl, x_int, x_some, x_addT, x_addL, x_true, x_false]
    have app : ∀ w f y, (pr.map prP ++ [prP (w, f)]) = ((pr ++ [(w, f)]).map prP) → Pr1 lots t costs (pr ++ [(w, f)]) i → N [some (crs lots), some (.int t), some (tI costs), some (.int i), some (.tup (firstsP fs)), some (.lst (pr.map prP ++ [prP (w, f)])), y, none] := fun w f y e hp => by
      rw [e]
      refine hN _ ⟨hlt, pr ++ [(w, f)], _, y, by rw [List.length_append, hl]; rfl, fun l z => ?_, rfl⟩
      rcases Nat.lt_succ_iff_lt_or_eq.mp z with z | z
      · exact (hP l z).app (by omega)
      · rw [z]; exact hp
    have em : ∀ w f, (pr.map prP ++ [prP (w, f)]) = ((pr ++ [(w, f)]).map prP) := fun w f => by rw [List.map_append]; rfl
    have small : (pr.map prP).length < sizeLine := by rw [List.length_map]; exact small_line (by omega)
    by_cases c : f0 = 0
    · refine ite_t (decide_eq_true (by omega)) ⟨_, rfl, line (by simp), small, ?_⟩
      exact app 0 0 y6 (em 0 0) ⟨f0, F, fl2, .inl ⟨c, by rw [List.getElem?_append_right (by omega), hl, Nat.sub_self]; rfl⟩⟩
    · refine ite_f (by rw [decide_eq_false (by omega)]; decide) ?_
      try simp only [s_mVar0, s_mVarS, s_mVarO0, s_mVarOS, s_isObj_lst, s_isObj_dic, s_mC, s_mOp, s_mOp1, s_mB, s_mNil, s_mCons, s_mTup, s_mLst, s_mCall, s_mTB, s_mNot, s_mAnd, s_mOr, s_mAndV, s_mOrV, s_mIf, s_mYes, s_mSl, s_mNo, s_mPart, s_mLc, s_mItems, s_mRng1, s_mRng2, s_mEnum, s_mChain, s_seqT, s_seqL, s_sNext, s_sSeq, s_sIf, s_sSet, s_sRet, s_sRetN, s_sBreak, s_sCont, s_sDrop, s_sPar, s_setN0, s_setNS, s_sAsg, s_sApp, s_sAug, s_sFor, s_sSrc, s_gmN, s_gmT, s_gmCons, s_gmNil, s_wipe0, s_wipeS, s_oSub, s_oAddI, s_oAdd, s_oLt, s_oLe, s_oGt, s_oGe, s_oNeg, s_oNot, s_oMul, s_oMulW, s_oMod, s_oFdiv, s_oPow, s_oIsN, s_oNotN, s_oIsB, s_oNotB, s_isNon_int, s_isNon_non, s_isNon_bl, s_isNon_str, s_isNon_tup, s_isNon_lst, s_isNon_dic, s_oEqI, s_oNeI, s_oIxT, s_oIxL, s_oSlT, s_oSlL, s_oRevT, s_oRevL, s_oInt, s_oIntB, s_oAbs, s_oMax2, s_oMin2, s_oLen, s_plenT, s_plenL, s_plenD, s_plenS, s_oTupleL, s_oTupleT, s_oListL, s_oListT, List.set_cons_succ, List.set_cons_zero, List.append_nil, true_and, x_bl, x_int, x_some, x_addT, x_addL, x_true, x_false]
      refine ⟨_, ea, _, _, rfl, rfl, by omega, ?_⟩
      rw [show ((i : Int) + 1 - f0).toNat = i + 1 - f0 by omega]
      rw [rngP_map]
      obtain ⟨wf, hwf⟩ : ∃ wf : Nat → Int × Nat, wf = fun j => (price pr (f0 + j - 1) + cost costs (f0 + j - 1), f0 + j) := ⟨_, rfl⟩
      refine comp_map (f := fun j => prP (wf j)) (fun j hj => ⟨_, fun k hk => s_gmN.mpr hk, fun Q hQ => hQ, fun Q hQ => ?_⟩) (line (by rw [List.length_range]; omega)) ?_
      · rw [List.mem_range] at hj
        try simp only [s_mVar0, s_mVarS, s_mVarO0, s_mVarOS, s_isObj_lst, s_isObj_dic, s_mC, s_mOp, s_mOp1, s_mB, s_mNil, s_mCons, s_mTup, s_mLst, s_mCall, s_mTB, s_mNot, s_mAnd, s_mOr, s_mAndV, s_mOrV, s_mIf, s_mYes, s_mSl, s_mNo, s_mPart, s_mLc, s_mItems, s_mRng1, s_mRng2, s_mEnum, s_mChain, s_seqT, s_seqL, s_sNext, s_sSeq, s_sIf, s_sSet, s_sRet, s_sRetN, s_sBreak, s_sCont, s_sDrop, s_sPar, s_setN0, s_setNS, s_sAsg, s_sApp, s_sAug, s_sFor, s_sSrc, s_gmN, s_gmT, s_gmCons, s_gmNil, s_wipe0, s_wipeS, s_oSub, s_oAddI, s_oAdd, s_oLt, s_oLe, s_oGt, s_oGe, s_oNeg, s_oNot, s_oMul, s_oMulW, s_oMod, s_oFdiv, s_oPow, s_oIsN, s_oNotN, s_oIsB, s_oNotB, s_isNon_int, s_isNon_non, s_isNon_bl, s_isNon_str, s_isNon_tup, s_isNon_lst, s_isNon_dic, s_oEqI, s_oNeI, s_oIxT, s_oIxL, s_oSlT, s_oSlL, s_oRevT, s_oRevL, s_oInt, s_oIntB, s_oAbs, s_oMax2, s_oMin2, s_oLen, s_plenT, s_plenL, s_plenD, s_plenS, s_oTupleL, s_oTupleT, s_oListL, s_oListT, List.set_cons_succ, List.set_cons_zero, List.append_nil, true_and, x_bl, x_int, x_some, x_addT, x_addL, x_true, x_false]
        have e1 : atI (pr.map prP) ((f0 : Int) + j - 1) = some (prP (pr.getD (f0 + j - 1) (0, 0))) := by
          rw [show (f0 : Int) + j - 1 = ((f0 + j - 1 : Nat) : Int) by omega, atI_nn (Int.natCast_nonneg _) (by rw [List.length_map]; omega), Int.toNat_natCast, List.getElem?_map, List.getD_eq_getElem?_getD, List.getElem?_eq_getElem (by omega)]; rfl
        have e2 : atI (costs.map PV.int) ((f0 : Int) + j - 1) = some (.int (cost costs (f0 + j - 1))) := by
          rw [show (f0 : Int) + j - 1 = ((f0 + j - 1 : Nat) : Int) by omega, atI_nn (Int.natCast_nonneg _) (by rw [List.length_map]; omega), Int.toNat_natCast, List.getElem?_map, cost, List.getD_eq_getElem?_getD, List.getElem?_eq_getElem (by omega)]; rfl
        refine ⟨_, e1, ?_⟩
        unfold prP
        try simp only [s_mVar0, s_mVarS, s_mVarO0, s_mVarOS, s_isObj_lst, s_isObj_dic, s_mC, s_mOp, s_mOp1, s_mB, s_mNil, s_mCons, s_mTup, s_mLst, s_mCall, s_mTB, s_mNot, s_mAnd, s_mOr, s_mAndV, s_mOrV, s_mIf, s_mYes, s_mSl, s_mNo, s_mPart, s_mLc, s_mItems, s_mRng1, s_mRng2, s_mEnum, s_mChain, s_seqT, s_seqL, s_sNext, s_sSeq, s_sIf, s_sSet, s_sRet, s_sRetN, s_sBreak, s_sCont, s_sDrop, s_sPar, s_setN0, s_setNS, s_sAsg, s_sApp, s_sAug, s_sFor, s_sSrc, s_gmN, s_gmT, s_gmCons, s_gmNil, s_wipe0, s_wipeS, s_oSub, s_oAddI, s_oAdd, s_oLt, s_oLe, s_oGt, s_oGe, s_oNeg, s_oNot, s_oMul, s_oMulW, s_oMod, s_oFdiv, s_oPow, s_oIsN, s_oNotN, s_oIsB, s_oNotB, s_isNon_int, s_isNon_non, s_isNon_bl, s_isNon_str, s_isNon_tup, s_isNon_lst, s_isNon_dic, s_oEqI, s_oNeI, s_oIxT, s_oIxL, s_oSlT, s_oSlL, s_oRevT, s_oRevL, s_oInt, s_oIntB, s_oAbs, s_oMax2, s_oMin2, s_oLen, s_plenT, s_plenL, s_plenD, s_plenS, s_oTupleL, s_oTupleT, s_oListL, s_oListT, List.set_cons_succ, List.set_cons_zero, List.append_nil, true_and, x_bl, x_int, x_some, x_addT, x_addL, x_true, x_false]
        refine ⟨_, rfl, _, e2, ?_⟩
        try simp only [s_mVar0, s_mVarS, s_mVarO0, s_mVarOS, s_isObj_lst, s_isObj_dic, s_mC, s_mOp, s_mOp1, s_mB, s_mNil, s_mCons, s_mTup, s_mLst, s_mCall, s_mTB, s_mNot, s_mAnd, s_mOr, s_mAndV, s_mOrV, s_mIf, s_mYes, s_mSl, s_mNo, s_mPart, s_mLc, s_mItems, s_mRng1, s_mRng2, s_mEnum, s_mChain, s_seqT, s_seqL, s_sNext, s_sSeq, s_sIf, s_sSet, s_sRet, s_sRetN, s_sBreak, s_sCont, s_sDrop, s_sPar, s_setN0, s_setNS, s_sAsg, s_sApp, s_sAug, s_sFor, s_sSrc, s_gmN, s_gmT, s_gmCons, s_gmNil, s_wipe0, s_wipeS, s_oSub, s_oAddI, s_oAdd, s_oLt, s_oLe, s_oGt, s_oGe, s_oNeg, s_oNot, s_oMul, s_oMulW, s_oMod, s_oFdiv, s_oPow, s_oIsN, s_oNotN, s_oIsB, s_oNotB, s_isNon_int, s_isNon_non, s_isNon_bl, s_isNon_str, s_isNon_tup, s_isNon_lst, s_isNon_dic, s_oEqI, s_oNeI, s_oIxT, s_oIxL, s_oSlT, s_oSlL, s_oRevT, s_oRevL, s_oInt, s_oIntB, s_oAbs, s_oMax2, s_oMin2, s_oLen, s_plenT, s_plenL, s_plenD, s_plenS, s_oTupleL, s_oTupleT, s_oListL, s_oListT, List.set_cons_succ, List.set_cons_zero, List.append_nil, true_and, x_bl, x_int, x_some, x_addT, x_addL, x_true, x_false]
        refine ⟨line (by simp), ?_⟩
        rw [hwf] at hQ
        exact hQ
      obtain ⟨W, hW⟩ : ∃ W : List (Int × Nat), W = (List.range (i + 1 - f0)).map wf := ⟨_, rfl⟩
      have hWp : (List.range (i + 1 - f0)).map (fun j => prP (wf j)) = W.map prP := by rw [hW, List.map_map]; rfl
      have hW0 : 0 < W.length := by rw [hW, List.length_map, List.length_range]; omega
      rw [hWp]
      refine ⟨_, rfl, rfl, ⟨_, _, W.map (fun p => .tuple [.int p.1, .int (p.2 : Nat)]), rfl, rfl, toDs_map (fun _ => rfl) W, ⟨fun x hx y hy => ?_, fun x hx => ?_⟩, ?_, by rw [List.length_map]; exact hW0, fun p hp => ?_⟩⟩
      · obtain ⟨i, _, rfl⟩ := List.mem_map.mp hx
        obtain ⟨j, _, rfl⟩ := List.mem_map.mp hy
        rfl
      · obtain ⟨i, _, rfl⟩ := List.mem_map.mp hx
        exact fun z => by cases z
      · exact Nat.le_trans (lay_map (n := 1) (f := fun p : Int × Nat => PyData.tuple [.int p.1, .int (p.2 : Nat)]) (fun _ => ⟨rfl, Nat.le_refl _⟩) W).2 (by decide)
      obtain ⟨u, hu, hum, hle⟩ := bestLt_key (xs := W) (f := fun p : Int × Nat => .tuple [.int p.1, .int (p.2 : Nat)]) (k := fun p => p.1) (fun x y z => by rw [dataLt_hd (by omega)]; exact decide_eq_true z) (fun x y z => by rw [dataLt_hd (by omega)]; exact decide_eq_false (by omega)) hW0
      rw [List.getElem?_map, hu] at hp
      cases hp
      refine ⟨small, app u.1 u.2 _ (em u.1 u.2) ?_⟩
      rw [hW, List.mem_map] at hum
      obtain ⟨j, hj, rfl⟩ := hum
      rw [List.mem_range] at hj
      refine ⟨f0, F, fl2, .inr ⟨by omega, f0 + j, (wf j).1, by rw [List.getElem?_append_right (by omega), hl, Nat.sub_self, hwf]; rfl, by omega, by omega, ?_, fun g g1 g2 => ?_⟩⟩
      · rw [price_app (by omega), hwf]
      · rw [price_app (by omega)]
        have := hle (wf (g - f0)) (by rw [hW]; exact List.mem_map_of_mem (List.mem_range.mpr (by omega)))
        have e2 : wf (g - f0) = (price pr (g - 1) + cost costs (g - 1), g) := by
          rw [hwf]
          show (price pr (f0 + (g - f0) - 1) + cost costs (f0 + (g - f0) - 1), f0 + (g - f0)) = _
          rw [show f0 + (g - f0) = g by omega]
        rw [e2] at this
        exact this
  · obtain ⟨hi, pr, y3, y6, hl, hP, rfl⟩ := hE
    rw [rng_len] at hP
    try simp only [s_mVar0, s_mVarS, s_mVarO0, s_mVarOS, s_isObj_lst, s_isObj_dic, s_mC, s_mOp, s_mOp1, s_mB, s_mNil, s_mCons, s_mTup, s_mLst, s_mCall, s_mTB, s_mNot, s_mAnd, s_mOr, s_mAndV, s_mOrV, s_mIf, s_mYes, s_mSl, s_mNo, s_mPart, s_mLc, s_mItems, s_mRng1, s_mRng2, s_mEnum, s_mChain, s_seqT, s_seqL, s_sNext, s_sSeq, s_sIf, s_sSet, s_sRet, s_sRetN, s_sBreak, s_sCont, s_sDrop, s_sPar, s_setN0, s_setNS, s_sAsg, s_sApp, s_sAug, s_sFor, s_sSrc, s_gmN, s_gmT, s_gmCons, s_gmNil, s_wipe0, s_wipeS, s_oSub, s_oAddI, s_oAdd, s_oLt, s_oLe, s_oGt, s_oGe, s_oNeg, s_oNot, s_oMul, s_oMulW, s_oMod, s_oFdiv, s_oPow, s_oIsN, s_oNotN, s_oIsB, s_oNotB, s_isNon_int, s_isNon_non, s_isNon_bl, s_isNon_str, s_isNon_tup, s_isNon_lst, s_isNon_dic, s_oEqI, s_oNeI, s_oIxT, s_oIxL, s_oSlT, s_oSlL, s_oRevT, s_oRevL, s_oInt, s_oIntB, s_oAbs, s_oMax2, s_oMin2, s_oLen, s_plenT, s_plenL, s_plenD, s_plenS, s_oTupleL, s_oTupleT, s_oListL, s_oListT, List.set_cons_succ, List.set_cons_zero, List.append_nil, true_and, x_bl, x_int, x_some, x_addT, x_addL, x_true, x_false]
    exact h2 hfit pr (by rw [hl, rng_len]) hP
end K45

set_option maxHeartbeats 2000000
namespace K45
open PySem L2 PM
/-! ### what least prices are -/
structure Prs (lots : List (List Int)) (t : Int) (costs : List Int) (pr : List (Int × Nat)) : Prop where
  len : pr.length = lots.length
  all : ∀ l, l < lots.length → Pr1 lots t costs pr l
theorem First.uniq {lots : List (List Int)} {t : Int} {l f g : Nat} (a : First lots t l f) (b : First lots t l g) (hf : f ≤ l) (hg : g ≤ l) : f = g := by
  rcases Nat.lt_trichotomy f g with h | h | h
  · have := b.low f h; have := a.ok hf; omega
  · exact h
  · have := a.low g h; have := b.ok hg; omega
theorem First.mono {lots : List (List Int)} {t : Int} {l f g : Nat} (a : First lots t l f) (b : First lots t (l + 1) g) (hg : g ≤ l + 1) : f ≤ g := by
  refine Nat.le_of_not_lt fun h => ?_
  have h1 := a.low g h
  have h2 := b.ok hg
  have := cnt_mono (lots := lots) (a := g) (a' := g) (b := l) (b' := l + 1) (Nat.le_refl _) (by omega)
  omega
theorem price_of {pr : List (Int × Nat)} {l : Nat} {w : Int} {f : Nat} (h : pr[l]? = some (w, f)) : price pr l = w ∧ pfst pr l = f := by
  unfold price pfst
  rw [List.getD_eq_getElem?_getD, h]; exact ⟨rfl, rfl⟩
section
variable {lots : List (List Int)} {t : Int} {costs : List Int} {pr : List (Int × Nat)}
theorem price_nn (hc : Cs lots costs) (H : Prs lots t costs pr) : ∀ l, l < lots.length → 0 ≤ price pr l := by
  intro l
  induction l using Nat.strongRecOn with
  | ind l ih =>
    intro hl
    obtain ⟨f0, F, fl, h⟩ := H.all l hl
    rcases h with ⟨_, e⟩ | ⟨f1, f, w, e, g1, g2, ew, _⟩
    · rw [(price_of e).1]; exact Int.le_refl _
    · rw [(price_of e).1, ew]
      have := ih (f - 1) (by omega) (by omega)
      have := hc.cost0 (f - 1)
      omega
/-- no dearer behind than ahead -/
theorem price_mono (hc : Cs lots costs) (H : Prs lots t costs pr) : ∀ l, l + 1 < lots.length → price pr l ≤ price pr (l + 1) := by
  intro l hl
  obtain ⟨f0, F, fl, h⟩ := H.all l (by omega)
  obtain ⟨g0, G, gl, k⟩ := H.all (l + 1) hl
  have hm := F.mono G gl
  rcases k with ⟨g00, e⟩ | ⟨g1, f, w, e, k1, k2, ew, _⟩
  · have : f0 = 0 := by omega
    rcases h with ⟨_, e'⟩ | ⟨f1, _⟩
    · rw [(price_of e).1, (price_of e').1]; exact Int.le_refl _
    · omega
  · rw [(price_of e).1, ew]
    have c0 := hc.cost0 (f - 1)
    rcases (show f = l + 1 ∨ f ≤ l by omega) with z | z
    · rw [z, Nat.add_sub_cancel]
      have := hc.cost0 l
      omega
    · rcases h with ⟨_, e'⟩ | ⟨f1, f', w', e', _, _, _, least⟩
      · rw [(price_of e').1]
        have := price_nn hc H (f - 1) (by omega)
        omega
      · rw [(price_of e').1]
        exact least f (by omega) z
theorem price_zero (H : Prs lots t costs pr) (h0 : 0 < lots.length) : price pr 0 = 0 := by
  obtain ⟨f0, F, fl, h⟩ := H.all 0 h0
  rcases h with ⟨_, e⟩ | ⟨f1, _⟩
  · exact (price_of e).1
  · omega
theorem price_le (hc : Cs lots costs) (H : Prs lots t costs pr) {a b : Nat} (hab : a ≤ b) (hb : b < lots.length) : price pr a ≤ price pr b := by
  induction b with
  | zero =>
    have : a = 0 := by omega
    rw [this]; exact Int.le_refl _
  | succ b ih =>
    rcases (show a = b + 1 ∨ a ≤ b by omega) with z | z
    · rw [z]; exact Int.le_refl _
    · exact Int.le_trans (ih z (by omega)) (price_mono hc H b hb)
end
/-! ### the cheapest schedule -/
/-- from the l-th map back: the last maps of the epochs ahead of it, the latest first -/
inductive Back (lots : List (List Int)) (t : Int) (costs : List Int) (pr : List (Int × Nat)) : Nat → List Nat → Prop where
  | done {l : Nat} (h : (cnt lots 0 l : Int) ≤ t) (e : price pr l = 0) : Back lots t costs pr l []
  | step {l f : Nat} {s : List Nat} (h0 : 0 < f) (hl : f ≤ l) (h : (cnt lots f l : Int) ≤ t) (e : price pr l = price pr (f - 1) + cost costs (f - 1)) (b : Back lots t costs pr (f - 1) s) : Back lots t costs pr l ((f - 1) :: s)
theorem cnt_ok {lots : List (List Int)} {t : Int} {l f0 f : Nat} (F : First lots t l f0) (h : f0 ≤ f) (hl : f ≤ l) : (cnt lots f l : Int) ≤ t := by
  have := F.ok (by omega)
  have := cnt_mono (lots := lots) (a := f) (a' := f0) (b := l) (b' := l) h (Nat.le_refl _)
  omega
theorem sum_map_app {α : Type} (g : α → Int) (a b : List α) : ((a ++ b).map g).sum = (a.map g).sum + (b.map g).sum := by rw [List.map_append, List.sum_append]
theorem Back.sum {lots : List (List Int)} {t : Int} {costs : List Int} {pr : List (Int × Nat)} {l : Nat} {s : List Nat} (b : Back lots t costs pr l s) : (s.map (cost costs)).sum = price pr l := by
  induction b with
  | done _ e => rw [e]; rfl
  | step h0 hl h e b ih => rw [List.map_cons, List.sum_cons, ih, e]; omega
theorem Back.lt {lots : List (List Int)} {t : Int} {costs : List Int} {pr : List (Int × Nat)} {l : Nat} {s : List Nat} (b : Back lots t costs pr l s) : (∀ x ∈ s, x < l) ∧ s.Pairwise (· > ·) := by
  induction b with
  | done _ _ => exact ⟨fun x h => absurd h List.not_mem_nil, List.Pairwise.nil⟩
  | step h0 hl h e b ih =>
    refine ⟨fun x hx => ?_, List.pairwise_cons.mpr ⟨fun x hx => ih.1 x hx, ih.2⟩⟩
    rcases List.mem_cons.mp hx with z | z
    · omega
    · have := ih.1 x z; omega
/-- the epochs' ends, in order: each epoch is secret -/
def secG (lots : List (List Int)) (t : Int) : Nat → List Nat → Prop
  | _, [] => True
  | f, l :: s => (cnt lots f l : Int) ≤ t ∧ secG lots t (l + 1) s
theorem secG_app {lots : List (List Int)} {t : Int} : ∀ {s : List Nat} {f x : Nat}, secG lots t f (s ++ [x]) ↔ secG lots t f s ∧ (cnt lots ((s.getLast?.map (· + 1)).getD f) x : Int) ≤ t
  | [], f, x => by simp [secG]
  | [a], f, x => by simp [secG]
  | a :: b :: s, f, x => by
    have := secG_app (lots := lots) (t := t) (s := b :: s) (f := a + 1) (x := x)
    show (cnt lots f a : Int) ≤ t ∧ secG lots t (a + 1) ((b :: s) ++ [x]) ↔ _
    rw [this]
    show _ ↔ ((cnt lots f a : Int) ≤ t ∧ secG lots t (a + 1) (b :: s)) ∧ _
    rw [and_assoc]
    rw [List.getLast?_cons_cons]
    have e : ∀ (o : Option Nat), o.isSome = true → (o.map (· + 1)).getD (a + 1) = (o.map (· + 1)).getD f := fun o h => by
      cases o with
      | none => cases h
      | some _ => rfl
    rw [e _ (by simp)]
theorem Back.sec {lots : List (List Int)} {t : Int} {costs : List Int} {pr : List (Int × Nat)} {l : Nat} {s : List Nat} (b : Back lots t costs pr l s) : secG lots t 0 (s.reverse ++ [l]) := by
  induction b with
  | done h _ => exact ⟨h, trivial⟩
  | @step l f s h0 hl h e b ih =>
    rw [List.reverse_cons, secG_app]
    refine ⟨ih, ?_⟩
    rw [List.getLast?_append]
    show (cnt lots (f - 1 + 1) l : Int) ≤ t
    rw [show f - 1 + 1 = f by omega]; exact h
end K45

set_option maxHeartbeats 2000000
namespace K45
open PySem L2 PM
def nI (s : List Nat) : List Int := s.map fun (i : Nat) => (i : Int)
theorem cost_at {costs : List Int} {i : Nat} (h : i < costs.length) : atI (costs.map PV.int) (i : Int) = some (.int (cost costs i)) := by
  rw [atI_nn (Int.natCast_nonneg _) (by rw [List.length_map]; omega), Int.toNat_natCast, List.getElem?_map, cost, List.getD_eq_getElem?_getD, List.getElem?_eq_getElem h]; rfl
def sp_price_by : PM.Spec := fun ps P => ∃ (costs : List Int) (s : List Nat), ps = [tI costs, tI (nI s)] ∧ (∀ x ∈ s, x < costs.length) ∧ s.length ≤ 1000 ∧ P (.int (s.map (cost costs)).sum)
theorem h_price_by (ps : List PV) (Q : PV → Prop) (h : sp_price_by ps Q) : t_price_by { nx := fun _ => nxOf .cl Q, rt := Q } (startE n_price_by.length ps) := by
  obtain ⟨costs, s, rfl, hx, hl, h⟩ := h
  show t_price_by _ [some (tI costs), some (tI (nI s)), none]
  unfold t_price_by
  try simp only [s_mVar0, s_mVarS, s_mVarO0, s_mVarOS, s_isObj_lst, s_isObj_dic, s_mC, s_mOp, s_mOp1, s_mB, s_mNil, s_mCons, s_mTup, s_mLst, s_mCall, s_mTB, s_mNot, s_mAnd, s_mOr, s_mAndV, s_mOrV, s_mIf, s_mYes, s_mSl, s_mNo, s_mPart, s_mLc, s_mItems, s_mRng1, s_mRng2, s_mEnum, s_mChain, s_seqT, s_seqL, s_sNext, s_sSeq, s_sIf, s_sSet, s_sRet, s_sRetN, s_sBreak, s_sCont, s_sDrop, s_sPar, s_setN0, s_setNS, s_sAsg, s_sApp, s_sAug, s_sFor, s_sSrc, s_gmN, s_gmT, s_gmCons, s_gmNil, s_wipe0, s_wipeS, s_oSub, s_oAddI, s_oAdd, s_oLt, s_oLe, s_oGt, s_oGe, s_oNeg, s_oNot, s_oMul, s_oMulW, s_oMod, s_oFdiv, s_oPow, s_oIsN, s_oNotN, s_oIsB, s_oNotB, s_isNon_int, s_isNon_non, s_isNon_bl, s_isNon_str, s_isNon_tup, s_isNon_lst, s_isNon_dic, s_oEqI, s_oNeI, s_oIxT, s_oIxL, s_oSlT, s_oSlL, s_oRevT, s_oRevL, s_oInt, s_oIntB, s_oAbs, s_oMax2, s_oMin2, s_oLen, s_plenT, s_plenL, s_plenD, s_plenS, s_oTupleL, s_oTupleT, s_oListL, s_oListT, List.set_cons_succ, List.set_cons_zero, List.append_nil, true_and, x_bl, x_int, x_some, x_addT, x_addL, x_true, x_false]
  have e : (nI s).map PV.int = s.map fun (i : Nat) => PV.int (i : Int) := by unfold nI; rw [List.map_map]; rfl
  rw [e]
  refine comp_map (f := fun i => .int (cost costs i)) (fun i hi => ⟨_, fun k hk => s_gmN.mpr hk, fun Q hQ => hQ, fun Q hQ => ?_⟩) (line (by omega)) (oSum_map (b := fun i => cost costs i) h)
  try simp only [s_mVar0, s_mVarS, s_mVarO0, s_mVarOS, s_isObj_lst, s_isObj_dic, s_mC, s_mOp, s_mOp1, s_mB, s_mNil, s_mCons, s_mTup, s_mLst, s_mCall, s_mTB, s_mNot, s_mAnd, s_mOr, s_mAndV, s_mOrV, s_mIf, s_mYes, s_mSl, s_mNo, s_mPart, s_mLc, s_mItems, s_mRng1, s_mRng2, s_mEnum, s_mChain, s_seqT, s_seqL, s_sNext, s_sSeq, s_sIf, s_sSet, s_sRet, s_sRetN, s_sBreak, s_sCont, s_sDrop, s_sPar, s_setN0, s_setNS, s_sAsg, s_sApp, s_sAug, s_sFor, s_sSrc, s_gmN, s_gmT, s_gmCons, s_gmNil, s_wipe0, s_wipeS, s_oSub, s_oAddI, s_oAdd, s_oLt, s_oLe, s_oGt, s_oGe, s_oNeg, s_oNot, s_oMul, s_oMulW, s_oMod, s_oFdiv, s_oPow, s_oIsN, s_oNotN, s_oIsB, s_oNotB, s_isNon_int, s_isNon_non, s_isNon_bl, s_isNon_str, s_isNon_tup, s_isNon_lst, s_isNon_dic, s_oEqI, s_oNeI, s_oIxT, s_oIxL, s_oSlT, s_oSlL, s_oRevT, s_oRevL, s_oInt, s_oIntB, s_oAbs, s_oMax2, s_oMin2, s_oLen, s_plenT, s_plenL, s_plenD, s_plenS, s_oTupleL, s_oTupleT, s_oListL, s_oListT, List.set_cons_succ, List.set_cons_zero, List.append_nil, true_and, x_bl, x_int, x_some, x_addT, x_addL, x_true, x_false]
  exact ⟨_, cost_at (hx i hi), hQ⟩
theorem eq_unit {pr : List (Int × Nat)} {P : PV → Prop} (h : P (.bl pr.isEmpty)) : oEq (.tup (pr.map prP)) (.tup []) P := by
  refine ⟨.tuple (pr.map fun p => .tuple [.int p.1, .int (p.2 : Nat)]), .tuple [], ?_, rfl, ?_, rfl, ?_⟩
  · show (toDs (pr.map prP)).map PyData.tuple = _
    rw [toDs_map (emb := prP) (f := fun p : Int × Nat => PyData.tuple [.int p.1, .int (p.2 : Nat)]) (fun _ => rfl) pr]; rfl
  · obtain ⟨h1, h2⟩ := lay_map (n := 1) (f := fun p : Int × Nat => PyData.tuple [.int p.1, .int (p.2 : Nat)]) (fun _ => ⟨rfl, Nat.le_refl _⟩) pr
    unfold SeqAt.shaped
    rw [Bool.and_eq_true]
    exact ⟨h1, decide_eq_true (by show PyData.depthAll _ + 1 ≤ 64; omega)⟩
  · cases pr with
    | nil => exact h
    | cons _ _ => exact h
theorem pr_at {pr : List (Int × Nat)} {l : Nat} (h : l < pr.length) : atI (pr.map prP) (l : Int) = some (.tup [.int (price pr l), .int (pfst pr l : Nat)]) := by
  rw [atI_nn (Int.natCast_nonneg _) (by rw [List.length_map]; omega), Int.toNat_natCast, List.getElem?_map, price, pfst, List.getD_eq_getElem?_getD, List.getElem?_eq_getElem h]; rfl
def sp_cheapest : PM.Spec := fun ps P => ∃ (lots : List (List Int)) (t : Int) (costs : List Int), ps = [crs lots, .int t, tI costs] ∧ Good lots ∧ Cs lots costs ∧ (¬ Fit lots t → P .non) ∧ (Fit lots t → ∀ pr s, Prs lots t costs pr → Back lots t costs pr (lots.length - 1) s → P (tI (nI s.reverse)))
theorem h_cheapest_schedule (ps : List PV) (Q : PV → Prop) (h : sp_cheapest ps Q) : t_cheapest_schedule sp_least_prices { nx := fun _ => nxOf .cl Q, rt := Q } (startE n_cheapest_schedule.length ps) := by
  obtain ⟨lots, t, costs, rfl, hg, hc, h1, h2⟩ := h
  have hcl := hc.len
  show t_cheapest_schedule _ _ [some (crs lots), some (.int t), some (tI costs), none, none, none]
  unfold t_cheapest_schedule
  try simp only [s_mVar0, s_mVarS, s_mVarO0, s_mVarOS, s_isObj_lst, s_isObj_dic, s_mC, s_mOp, s_mOp1, s_mB, s_mNil, s_mCons, s_mTup, s_mLst, s_mCall, s_mTB, s_mNot, s_mAnd, s_mOr, s_mAndV, s_mOrV, s_mIf, s_mYes, s_mSl, s_mNo, s_mPart, s_mLc, s_mItems, s_mRng1, s_mRng2, s_mEnum, s_mChain, s_seqT, s_seqL, s_sNext, s_sSeq, s_sIf, s_sSet, s_sRet, s_sRetN, s_sBreak, s_sCont, s_sDrop, s_sPar, s_setN0, s_setNS, s_sAsg, s_sApp, s_sAug, s_sFor, s_sSrc, s_gmN, s_gmT, s_gmCons, s_gmNil, s_wipe0, s_wipeS, s_oSub, s_oAddI, s_oAdd, s_oLt, s_oLe, s_oGt, s_oGe, s_oNeg, s_oNot, s_oMul, s_oMulW, s_oMod, s_oFdiv, s_oPow, s_oIsN, s_oNotN, s_oIsB, s_oNotB, s_isNon_int, s_isNon_non, s_isNon_bl, s_isNon_str, s_isNon_tup, s_isNon_lst, s_isNon_dic, s_oEqI, s_oNeI, s_oIxT, s_oIxL, s_oSlT, s_oSlL, s_oRevT, s_oRevL, s_oInt, s_oIntB, s_oAbs, s_oMax2, s_oMin2, s_oLen, s_plenT, s_plenL, s_plenD, s_plenS, s_oTupleL, s_oTupleT, s_oListL, s_oListT, List.set_cons_succ, List.set_cons_zero, List.append_nil, true_and, x_bl, x_int, x_some, x_addT, x_addL, x_true, x_false]
  refine ⟨lots, t, costs, rfl, hg, hc, fun hf => ?_, fun hf pr hl hp => ?_⟩
  · try simp only [s_mVar0, s_mVarS, s_mVarO0, s_mVarOS, s_isObj_lst, s_isObj_dic, s_mC, s_mOp, s_mOp1, s_mB, s_mNil, s_mCons, s_mTup, s_mLst, s_mCall, s_mTB, s_mNot, s_mAnd, s_mOr, s_mAndV, s_mOrV, s_mIf, s_mYes, s_mSl, s_mNo, s_mPart, s_mLc, s_mItems, s_mRng1, s_mRng2, s_mEnum, s_mChain, s_seqT, s_seqL, s_sNext, s_sSeq, s_sIf, s_sSet, s_sRet, s_sRetN, s_sBreak, s_sCont, s_sDrop, s_sPar, s_setN0, s_setNS, s_sAsg, s_sApp, s_sAug, s_sFor, s_sSrc, s_gmN, s_gmT, s_gmCons, s_gmNil, s_wipe0, s_wipeS, s_oSub, s_oAddI, s_oAdd, s_oLt, s_oLe, s_oGt, s_oGe, s_oNeg, s_oNot, s_oMul, s_oMulW, s_oMod, s_oFdiv, s_oPow, s_oIsN, s_oNotN, s_oIsB, s_oNotB, s_isNon_int, s_isNon_non, s_isNon_bl, s_isNon_str, s_isNon_tup, s_isNon_lst, s_isNon_dic, s_oEqI, s_oNeI, s_oIxT, s_oIxL, s_oSlT, s_oSlL, s_oRevT, s_oRevL, s_oInt, s_oIntB, s_oAbs, s_oMax2, s_oMin2, s_oLen, s_plenT, s_plenL, s_plenD, s_plenS, s_oTupleL, s_oTupleT, s_oListL, s_oListT, List.set_cons_succ, List.set_cons_zero, List.append_nil, true_and, x_bl, x_int, x_some, x_addT, x_addL, x_true, x_false]
    refine ⟨Nat.zero_le _, eq_unit (pr := []) ⟨_, rfl, ite_t rfl (h1 hf)⟩⟩
  · have H : Prs lots t costs pr := ⟨hl, hp⟩
    have hs := hg.small
    try simp only [s_mVar0, s_mVarS, s_mVarO0, s_mVarOS, s_isObj_lst, s_isObj_dic, s_mC, s_mOp, s_mOp1, s_mB, s_mNil, s_mCons, s_mTup, s_mLst, s_mCall, s_mTB, s_mNot, s_mAnd, s_mOr, s_mAndV, s_mOrV, s_mIf, s_mYes, s_mSl, s_mNo, s_mPart, s_mLc, s_mItems, s_mRng1, s_mRng2, s_mEnum, s_mChain, s_seqT, s_seqL, s_sNext, s_sSeq, s_sIf, s_sSet, s_sRet, s_sRetN, s_sBreak, s_sCont, s_sDrop, s_sPar, s_setN0, s_setNS, s_sAsg, s_sApp, s_sAug, s_sFor, s_sSrc, s_gmN, s_gmT, s_gmCons, s_gmNil, s_wipe0, s_wipeS, s_oSub, s_oAddI, s_oAdd, s_oLt, s_oLe, s_oGt, s_oGe, s_oNeg, s_oNot, s_oMul, s_oMulW, s_oMod, s_oFdiv, s_oPow, s_oIsN, s_oNotN, s_oIsB, s_oNotB, s_isNon_int, s_isNon_non, s_isNon_bl, s_isNon_str, s_isNon_tup, s_isNon_lst, s_isNon_dic, s_oEqI, s_oNeI, s_oIxT, s_oIxL, s_oSlT, s_oSlL, s_oRevT, s_oRevL, s_oInt, s_oIntB, s_oAbs, s_oMax2, s_oMin2, s_oLen, s_plenT, s_plenL, s_plenD, s_plenS, s_oTupleL, s_oTupleT, s_oListL, s_oListT, List.set_cons_succ, List.set_cons_zero, List.append_nil, true_and, x_bl, x_int, x_some, x_addT, x_addL, x_true, x_false]
    refine ⟨Nat.zero_le _, eq_unit ⟨_, rfl, ite_f ?_ ⟨Nat.zero_le _, ?_⟩⟩⟩
    · cases pr with
      | nil => rw [List.length_nil] at hl; omega
      | cons _ _ => exact Bool.false_ne_true
    rw [List.length_map]
    rw [show (lots.length : Int) - 1 = ((lots.length - 1 : Nat) : Int) by omega]
    refine ⟨fun m e => ∃ (s : List Nat) (l : Nat), m = l ∧ l < lots.length ∧ s.length + l < lots.length ∧ (∀ s', Back lots t costs pr l s' → Back lots t costs pr (lots.length - 1) (s ++ s')) ∧ e = [some (crs lots), some (.int t), some (tI costs), some (.tup (pr.map prP)), some (lI (nI s)), some (.int (l : Nat))], ⟨_, [], lots.length - 1, rfl, by omega, by simp; omega, fun s' hs' => hs', rfl⟩, ?_⟩
    rintro m e ⟨s, l, rfl, hll, hsl, hB, rfl⟩
    try simp only [s_mVar0, s_mVarS, s_mVarO0, s_mVarOS, s_isObj_lst, s_isObj_dic, s_mC, s_mOp, s_mOp1, s_mB, s_mNil, s_mCons, s_mTup, s_mLst, s_mCall, s_mTB, s_mNot, s_mAnd, s_mOr, s_mAndV, s_mOrV, s_mIf, s_mYes, s_mSl, s_mNo, s_mPart, s_mLc, s_mItems, s_mRng1, s_mRng2, s_mEnum, s_mChain, s_seqT, s_seqL, s_sNext, s_sSeq, s_sIf, s_sSet, s_sRet, s_sRetN, s_sBreak, s_sCont, s_sDrop, s_sPar, s_setN0, s_setNS, s_sAsg, s_sApp, s_sAug, s_sFor, s_sSrc, s_gmN, s_gmT, s_gmCons, s_gmNil, s_wipe0, s_wipeS, s_oSub, s_oAddI, s_oAdd, s_oLt, s_oLe, s_oGt, s_oGe, s_oNeg, s_oNot, s_oMul, s_oMulW, s_oMod, s_oFdiv, s_oPow, s_oIsN, s_oNotN, s_oIsB, s_oNotB, s_isNon_int, s_isNon_non, s_isNon_bl, s_isNon_str, s_isNon_tup, s_isNon_lst, s_isNon_dic, s_oEqI, s_oNeI, s_oIxT, s_oIxL, s_oSlT, s_oSlL, s_oRevT, s_oRevL, s_oInt, s_oIntB, s_oAbs, s_oMax2, s_oMin2, s_oLen, s_plenT, s_plenL, s_plenD, s_plenS, s_oTupleL, s_oTupleT, s_oListL, s_oListT, List.set_cons_succ, List.set_cons_zero, List.append_nil, true_and, x_bl, x_int, x_some, x_addT, x_addL, x_true, x_false]
    refine ⟨_, pr_at (by omega), ?_⟩
    try simp only [s_mVar0, s_mVarS, s_mVarO0, s_mVarOS, s_isObj_lst, s_isObj_dic, s_mC, s_mOp, s_mOp1, s_mB, s_mNil, s_mCons, s_mTup, s_mLst, s_mCall, s_mTB, s_mNot, s_mAnd, s_mOr, s_mAndV, s_mOrV, s_mIf, s_mYes, s_mSl, s_mNo, s_mPart, s_mLc, s_mItems, s_mRng1, s_mRng2, s_mEnum, s_mChain, s_seqT, s_seqL, s_sNext, s_sSeq, s_sIf, s_sSet, s_sRet, s_sRetN, s_sBreak, s_sCont, s_sDrop, s_sPar, s_setN0, s_setNS, s_sAsg, s_sApp, s_sAug, s_sFor, s_sSrc, s_gmN, s_gmT, s_gmCons, s_gmNil, s_wipe0, s_wipeS, s_oSub, s_oAddI, s_oAdd, s_oLt, s_oLe, s_oGt, s_oGe, s_oNeg, s_oNot, s_oMul, s_oMulW, s_oMod, s_oFdiv, s_oPow, s_oIsN, s_oNotN, s_oIsB, s_oNotB, s_isNon_int, s_isNon_non, s_isNon_bl, s_isNon_str, s_isNon_tup, s_isNon_lst, s_isNon_dic, s_oEqI, s_oNeI, s_oIxT, s_oIxL, s_oSlT, s_oSlL, s_oRevT, s_oRevL, s_oInt, s_oIntB, s_oAbs, s_oMax2, s_oMin2, s_oLen, s_plenT, s_plenL, s_plenD, s_plenS, s_oTupleL, s_oTupleT, s_oListL, s_oListT, List.set_cons_succ, List.set_cons_zero, List.append_nil, true_and, x_bl, x_int, x_some, x_addT, x_addL, x_true, x_false]
    refine ⟨_, rfl, ?_⟩
    try simp only [s_mVar0, s_mVarS, s_mVarO0, s_mVarOS, s_isObj_lst, s_isObj_dic, s_mC, s_mOp, s_mOp1, s_mB, s_mNil, s_mCons, s_mTup, s_mLst, s_mCall, s_mTB, s_mNot, s_mAnd, s_mOr, s_mAndV, s_mOrV, s_mIf, s_mYes, s_mSl, s_mNo, s_mPart, s_mLc, s_mItems, s_mRng1, s_mRng2, s_mEnum, s_mChain, s_seqT, s_seqL, s_sNext, s_sSeq, s_sIf, s_sSet, s_sRet, s_sRetN, s_sBreak, s_sCont, s_sDrop, s_sPar, s_setN0, s_setNS, s_sAsg, s_sApp, s_sAug, s_sFor, s_sSrc, s_gmN, s_gmT, s_gmCons, s_gmNil, s_wipe0, s_wipeS, s_oSub, s_oAddI, s_oAdd, s_oLt, s_oLe, s_oGt, s_oGe, s_oNeg, s_oNot, s_oMul, s_oMulW, s_oMod, s_oFdiv, s_oPow, s_oIsN, s_oNotN, s_oIsB, s_oNotB, s_isNon_int, s_isNon_non, s_isNon_bl, s_isNon_str, s_isNon_tup, s_isNon_lst, s_isNon_dic, s_oEqI, s_oNeI, s_oIxT, s_oIxL, s_oSlT, s_oSlL, s_oRevT, s_oRevL, s_oInt, s_oIntB, s_oAbs, s_oMax2, s_oMin2, s_oLen, s_plenT, s_plenL, s_plenD, s_plenS, s_oTupleL, s_oTupleT, s_oListL, s_oListT, List.set_cons_succ, List.set_cons_zero, List.append_nil, true_and, x_bl, x_int, x_some, x_addT, x_addL, x_true, x_false]
    obtain ⟨f0, F, fl, hh⟩ := H.all m hll
    rcases hh with ⟨f00, e⟩ | ⟨f1, f, w, e, k1, k2, ew, _⟩
    · rw [(price_of e).2]
      refine ite_f (by decide) ?_
      have := h2 hf pr s H (by
        have := hB [] (.done (by rw [f00] at F; exact cnt_ok F (Nat.zero_le _) (Nat.zero_le _)) (price_of e).1)
        rwa [List.append_nil] at this)
      have er : (List.map PV.int (nI s)).reverse = (nI s.reverse).map PV.int := by unfold nI; simp [List.map_reverse]
      rw [er]; exact this
    · rw [(price_of e).2]
      refine ite_t (decide_eq_true (by omega)) ⟨_, pr_at (by omega), ?_⟩
      try simp only [s_mVar0, s_mVarS, s_mVarO0, s_mVarOS, s_isObj_lst, s_isObj_dic, s_mC, s_mOp, s_mOp1, s_mB, s_mNil, s_mCons, s_mTup, s_mLst, s_mCall, s_mTB, s_mNot, s_mAnd, s_mOr, s_mAndV, s_mOrV, s_mIf, s_mYes, s_mSl, s_mNo, s_mPart, s_mLc, s_mItems, s_mRng1, s_mRng2, s_mEnum, s_mChain, s_seqT, s_seqL, s_sNext, s_sSeq, s_sIf, s_sSet, s_sRet, s_sRetN, s_sBreak, s_sCont, s_sDrop, s_sPar, s_setN0, s_setNS, s_sAsg, s_sApp, s_sAug, s_sFor, s_sSrc, s_gmN, s_gmT, s_gmCons, s_gmNil, s_wipe0, s_wipeS, s_oSub, s_oAddI, s_oAdd, s_oLt, s_oLe, s_oGt, s_oGe, s_oNeg, s_oNot, s_oMul, s_oMulW, s_oMod, s_oFdiv, s_oPow, s_oIsN, s_oNotN, s_oIsB, s_oNotB, s_isNon_int, s_isNon_non, s_isNon_bl, s_isNon_str, s_isNon_tup, s_isNon_lst, s_isNon_dic, s_oEqI, s_oNeI, s_oIxT, s_oIxL, s_oSlT, s_oSlL, s_oRevT, s_oRevL, s_oInt, s_oIntB, s_oAbs, s_oMax2, s_oMin2, s_oLen, s_plenT, s_plenL, s_plenD, s_plenS, s_oTupleL, s_oTupleT, s_oListL, s_oListT, List.set_cons_succ, List.set_cons_zero, List.append_nil, true_and, x_bl, x_int, x_some, x_addT, x_addL, x_true, x_false]
      refine ⟨_, rfl, ?_⟩
      rw [(price_of e).2]
      try simp only [s_mVar0, s_mVarS, s_mVarO0, s_mVarOS, s_isObj_lst, s_isObj_dic, s_mC, s_mOp, s_mOp1, s_mB, s_mNil, s_mCons, s_mTup, s_mLst, s_mCall, s_mTB, s_mNot, s_mAnd, s_mOr, s_mAndV, s_mOrV, s_mIf, s_mYes, s_mSl, s_mNo, s_mPart, s_mLc, s_mItems, s_mRng1, s_mRng2, s_mEnum, s_mChain, s_seqT, s_seqL, s_sNext, s_sSeq, s_sIf, s_sSet, s_sRet, s_sRetN, s_sBreak, s_sCont, s_sDrop, s_sPar, s_setN0, s_setNS, s_sAsg, s_sApp, s_sAug, s_sFor, s_sSrc, s_gmN, s_gmT, s_gmCons, s_gmNil, s_wipe0, s_wipeS, s_oSub, s_oAddI, s_oAdd, s_oLt, s_oLe, s_oGt, s_oGe, s_oNeg, s_oNot, s_oMul, s_oMulW, s_oMod, s_oFdiv, s_oPow, s_oIsN, s_oNotN, s_oIsB, s_oNotB, s_isNon_int, s_isNon_non, s_isNon_bl, s_isNon_str, s_isNon_tup, s_isNon_lst, s_isNon_dic, s_oEqI, s_oNeI, s_oIxT, s_oIxL, s_oSlT, s_oSlL, s_oRevT, s_oRevL, s_oInt, s_oIntB, s_oAbs, s_oMax2, s_oMin2, s_oLen, s_plenT, s_plenL, s_plenD, s_plenS, s_oTupleL, s_oTupleT, s_oListL, s_oListT, List.set_cons_succ, List.set_cons_zero, List.append_nil, true_and, x_bl, x_int, x_some, x_addT, x_addL, x_true, x_false]
      refine ⟨_, rfl, by unfold nI; rw [List.length_map, List.length_map]; exact small_line (by omega), f - 1, by omega, s ++ [f - 1], f - 1, rfl, by omega, by rw [List.length_append, List.length_singleton]; omega, fun s' hs' => ?_, ?_⟩
      · rw [List.append_assoc]
        exact hB _ (.step (by omega) k2 (cnt_ok F k1 k2) (by rw [(price_of e).1, ew]) hs')
      · have e1 : (f : Int) - 1 = ((f - 1 : Nat) : Int) := by omega
        rw [e1]
        have e2 : lI (nI (s ++ [f - 1])) = .lst (List.map PV.int (nI s) ++ [PV.int ((f - 1 : Nat) : Int)]) := by unfold nI; rw [List.map_append, show lI _ = PV.lst (List.map PV.int _) from rfl, List.map_append]; rfl
        rw [e2]
def rowT (pr : List (Int × Nat)) (fs : List Nat) (j : Nat) : Option (List Int) := if price pr j < price pr (j + 1) then some [(fs.getD (j + 1) 0 : Int) - 1, ((j + 1 : Nat) : Int), price pr (j + 1) - price pr j] else none
def tollRows (pr : List (Int × Nat)) (fs : List Nat) (m : Nat) : List (List Int) := (List.range m).filterMap (rowT pr fs)
theorem tollRows_succ {pr : List (Int × Nat)} {fs : List Nat} {m : Nat} : tollRows pr fs (m + 1) = tollRows pr fs m ++ (rowT pr fs m).toList := by
  unfold tollRows
  rw [List.range_succ, List.filterMap_append]
  congr 1
theorem fit_le {lots : List (List Int)} {t : Int} {l f : Nat} (hg : Good lots) (hfit : Fit lots t) (F : First lots t l f) (hl : l < lots.length) : f ≤ l := by
  refine Nat.le_of_not_lt fun z => ?_
  have := F.low l z
  rw [cnt_one hg (List.getElem?_eq_getElem hl)] at this
  have := hfit _ (List.getElem_mem hl)
  omega
theorem rng1_get {m i : Nat} (h : i < m) : (rng1 m)[i]? = some (1 + (i : Int)) := by
  unfold rng1
  rw [List.getElem?_map, List.getElem?_range h]; rfl
theorem rng1_len {m : Nat} : (rng1 m).length = m := by unfold rng1; simp
theorem tollRows_len {pr : List (Int × Nat)} {fs : List Nat} {m : Nat} : (tollRows pr fs m).length ≤ m := by
  unfold tollRows
  exact Nat.le_trans (List.length_filterMap_le _ _) (by simp)
def sp_tolls_of : PM.Spec := fun ps P => ∃ (lots : List (List Int)) (t : Int) (costs : List Int), ps = [crs lots, .int t, tI costs] ∧ Good lots ∧ Cs lots costs ∧ (¬ Fit lots t → P .non) ∧ (Fit lots t → ∀ pr (fs : List Nat), Prs lots t costs pr → fs.length = lots.length → (∀ (l f : Nat), fs[l]? = some f → First lots t l f ∧ f ≤ l) → P (.tup ((tollRows pr fs (lots.length - 1)).map tI)))
theorem h_tolls_of (ps : List PV) (Q : PV → Prop) (h : sp_tolls_of ps Q) : t_tolls_of sp_least_prices sp_earliest { nx := fun _ => nxOf .cl Q, rt := Q } (startE n_tolls_of.length ps) := by
  obtain ⟨lots, t, costs, rfl, hg, hc, h1, h2⟩ := h
  have hcl := hc.len
  have hs := hg.small
  show t_tolls_of _ _ _ [some (crs lots), some (.int t), some (tI costs), none, none, none, none, none]
  unfold t_tolls_of
  try simp only [s_mVar0, s_mVarS, s_mVarO0, s_mVarOS, s_isObj_lst, s_isObj_dic, s_mC, s_mOp, s_mOp1, s_mB, s_mNil, s_mCons, s_mTup, s_mLst, s_mCall, s_mTB, s_mNot, s_mAnd, s_mOr, s_mAndV, s_mOrV, s_mIf, s_mYes, s_mSl, s_mNo, s_mPart, s_mLc, s_mItems, s_mRng1, s_mRng2, s_mEnum, s_mChain, s_seqT, s_seqL, s_sNext, s_sSeq, s_sIf, s_sSet, s_sRet, s_sRetN, s_sBreak, s_sCont, s_sDrop, s_sPar, s_setN0, s_setNS, s_sAsg, s_sApp, s_sAug, s_sFor, s_sSrc, s_gmN, s_gmT, s_gmCons, s_gmNil, s_wipe0, s_wipeS, s_oSub, s_oAddI, s_oAdd, s_oLt, s_oLe, s_oGt, s_oGe, s_oNeg, s_oNot, s_oMul, s_oMulW, s_oMod, s_oFdiv, s_oPow, s_oIsN, s_oNotN, s_oIsB, s_oNotB, s_isNon_int, s_isNon_non, s_isNon_bl, s_isNon_str, s_isNon_tup, s_isNon_lst, s_isNon_dic, s_oEqI, s_oNeI, s_oIxT, s_oIxL, s_oSlT, s_oSlL, s_oRevT, s_oRevL, s_oInt, s_oIntB, s_oAbs, s_oMax2, s_oMin2, s_oLen, s_plenT, s_plenL, s_plenD, s_plenS, s_oTupleL, s_oTupleT, s_oListL, s_oListT, List.set_cons_succ, List.set_cons_zero, List.append_nil, true_and, x_bl, x_int, x_some, x_addT, x_addL, x_true, x_false]
  refine ⟨lots, t, costs, rfl, hg, hc, fun hf => ?_, fun hf pr hl hp => ?_⟩
  · refine ⟨lots, t, rfl, hg, fun fs fl fF => ?_⟩
    try simp only [s_mVar0, s_mVarS, s_mVarO0, s_mVarOS, s_isObj_lst, s_isObj_dic, s_mC, s_mOp, s_mOp1, s_mB, s_mNil, s_mCons, s_mTup, s_mLst, s_mCall, s_mTB, s_mNot, s_mAnd, s_mOr, s_mAndV, s_mOrV, s_mIf, s_mYes, s_mSl, s_mNo, s_mPart, s_mLc, s_mItems, s_mRng1, s_mRng2, s_mEnum, s_mChain, s_seqT, s_seqL, s_sNext, s_sSeq, s_sIf, s_sSet, s_sRet, s_sRetN, s_sBreak, s_sCont, s_sDrop, s_sPar, s_setN0, s_setNS, s_sAsg, s_sApp, s_sAug, s_sFor, s_sSrc, s_gmN, s_gmT, s_gmCons, s_gmNil, s_wipe0, s_wipeS, s_oSub, s_oAddI, s_oAdd, s_oLt, s_oLe, s_oGt, s_oGe, s_oNeg, s_oNot, s_oMul, s_oMulW, s_oMod, s_oFdiv, s_oPow, s_oIsN, s_oNotN, s_oIsB, s_oNotB, s_isNon_int, s_isNon_non, s_isNon_bl, s_isNon_str, s_isNon_tup, s_isNon_lst, s_isNon_dic, s_oEqI, s_oNeI, s_oIxT, s_oIxL, s_oSlT, s_oSlL, s_oRevT, s_oRevL, s_oInt, s_oIntB, s_oAbs, s_oMax2, s_oMin2, s_oLen, s_plenT, s_plenL, s_plenD, s_plenS, s_oTupleL, s_oTupleT, s_oListL, s_oListT, List.set_cons_succ, List.set_cons_zero, List.append_nil, true_and, x_bl, x_int, x_some, x_addT, x_addL, x_true, x_false]
    refine ⟨Nat.zero_le _, eq_unit (pr := []) ⟨_, rfl, ite_t rfl (h1 hf)⟩⟩
  · refine ⟨lots, t, rfl, hg, fun fs fl fF => ?_⟩
    have H : Prs lots t costs pr := ⟨hl, hp⟩
    try simp only [s_mVar0, s_mVarS, s_mVarO0, s_mVarOS, s_isObj_lst, s_isObj_dic, s_mC, s_mOp, s_mOp1, s_mB, s_mNil, s_mCons, s_mTup, s_mLst, s_mCall, s_mTB, s_mNot, s_mAnd, s_mOr, s_mAndV, s_mOrV, s_mIf, s_mYes, s_mSl, s_mNo, s_mPart, s_mLc, s_mItems, s_mRng1, s_mRng2, s_mEnum, s_mChain, s_seqT, s_seqL, s_sNext, s_sSeq, s_sIf, s_sSet, s_sRet, s_sRetN, s_sBreak, s_sCont, s_sDrop, s_sPar, s_setN0, s_setNS, s_sAsg, s_sApp, s_sAug, s_sFor, s_sSrc, s_gmN, s_gmT, s_gmCons, s_gmNil, s_wipe0, s_wipeS, s_oSub, s_oAddI, s_oAdd, s_oLt, s_oLe, s_oGt, s_oGe, s_oNeg, s_oNot, s_oMul, s_oMulW, s_oMod, s_oFdiv, s_oPow, s_oIsN, s_oNotN, s_oIsB, s_oNotB, s_isNon_int, s_isNon_non, s_isNon_bl, s_isNon_str, s_isNon_tup, s_isNon_lst, s_isNon_dic, s_oEqI, s_oNeI, s_oIxT, s_oIxL, s_oSlT, s_oSlL, s_oRevT, s_oRevL, s_oInt, s_oIntB, s_oAbs, s_oMax2, s_oMin2, s_oLen, s_plenT, s_plenL, s_plenD, s_plenS, s_oTupleL, s_oTupleT, s_oListL, s_oListT, List.set_cons_succ, List.set_cons_zero, List.append_nil, true_and, x_bl, x_int, x_some, x_addT, x_addL, x_true, x_false]
    refine ⟨Nat.zero_le _, eq_unit ⟨_, rfl, ite_f ?_ ⟨Nat.zero_le _, ?_⟩⟩⟩
    · cases pr with
      | nil => rw [List.length_nil] at hl; omega
      | cons _ _ => exact Bool.false_ne_true
    rw [List.length_map]
    refine ⟨_, _, rfl, rfl, by omega, ?_⟩
    rw [show ((lots.length : Int) - 1).toNat = lots.length - 1 by omega, rngP_rng1]
    have fle : ∀ (l f : Nat), fs[l]? = some f → First lots t l f ∧ f ≤ l := fun l f e => ⟨fF l f e, fit_le hg hf (fF l f e) (by rw [← fl]; exact (List.getElem?_eq_some_iff.mp e).1)⟩
    refine for_inv (fun i e => i ≤ lots.length - 1 ∧ ∃ (y4 y7 : Option PV), e = [some (crs lots), some (.int t), some (tI costs), some (.lst ((tollRows pr fs i).map tI)), y4, some (.tup (pr.map prP)), some (.tup (firstsP fs)), y7]) ⟨Nat.zero_le _, none, none, rfl⟩ (fun i x e N hx hE hN => ?_) (fun e hE => ?_)
    · obtain ⟨hi, y4, y7, rfl⟩ := hE
      have hlt : i < lots.length - 1 := by have := (List.getElem?_eq_some_iff.mp hx).1; rw [rng1_len] at this; exact this
      have ex : x = ((i + 1 : Nat) : Int) := by rw [rng1_get hlt] at hx; have := (Option.some.inj hx); omega
      subst ex
      have ef := List.getElem?_eq_getElem (l := fs) (i := i + 1) (by omega)
      obtain ⟨F, fl2⟩ := fle _ _ ef
      have ed : fs.getD (i + 1) 0 = fs[i + 1] := by rw [List.getD_eq_getElem?_getD, ef]; rfl
      generalize fs[i + 1] = f0 at ef F fl2 ed
      have ea : atI (firstsP fs) ((i + 1 : Nat) : Int) = some (.int f0) := by
        rw [atI_nn (Int.natCast_nonneg _) (by rw [firstsP_len]; omega), Int.toNat_natCast, firstsP_get ef]
        unfold fE
        rw [if_pos fl2]
      rw [s_gmN]
      try simp only [s_mVar0, s_mVarS, s_mVarO0, s_mVarOS, s_isObj_lst, s_isObj_dic, s_mC, s_mOp, s_mOp1, s_mB, s_mNil, s_mCons, s_mTup, s_mLst, s_mCall, s_mTB, s_mNot, s_mAnd, s_mOr, s_mAndV, s_mOrV, s_mIf, s_mYes, s_mSl, s_mNo, s_mPart, s_mLc, s_mItems, s_mRng1, s_mRng2, s_mEnum, s_mChain, s_seqT, s_seqL, s_sNext, s_sSeq, s_sIf, s_sSet, s_sRet, s_sRetN, s_sBreak, s_sCont, s_sDrop, s_sPar, s_setN0, s_setNS, s_sAsg, s_sApp, s_sAug, s_sFor, s_sSrc, s_gmN, s_gmT, s_gmCons, s_gmNil, s_wipe0, s_wipeS, s_oSub, s_oAddI, s_oAdd, s_oLt, s_oLe, s_oGt, s_oGe, s_oNeg, s_oNot, s_oMul, s_oMulW, s_oMod, s_oFdiv, s_oPow, s_oIsN, s_oNotN, s_oIsB, s_oNotB, s_isNon_int, s_isNon_non, s_isNon_bl, s_isNon_str, s_isNon_tup, s_isNon_lst, s_isNon_dic, s_oEqI, s_oNeI, s_oIxT, s_oIxL, s_oSlT, s_oSlL, s_oRevT, s_oRevL, s_oInt, s_oIntB, s_oAbs, s_oMax2, s_oMin2, s_oLen, s_plenT, s_plenL, s_plenD, s_plenS, s_oTupleL, s_oTupleT, s_oListL, s_oListT, List.set_cons_succ, List.set_cons_zero, List.append_nil, true_and, x_bl, x_int, x_some, x_addT, x_addL, x_true, x_false]
      refine ⟨_, pr_at (by omega), ?_⟩
      try simp only [s_mVar0, s_mVarS, s_mVarO0, s_mVarOS, s_isObj_lst, s_isObj_dic, s_mC, s_mOp, s_mOp1, s_mB, s_mNil, s_mCons, s_mTup, s_mLst, s_mCall, s_mTB, s_mNot, s_mAnd, s_mOr, s_mAndV, s_mOrV, s_mIf, s_mYes, s_mSl, s_mNo, s_mPart, s_mLc, s_mItems, s_mRng1, s_mRng2, s_mEnum, s_mChain, s_seqT, s_seqL, s_sNext, s_sSeq, s_sIf, s_sSet, s_sRet, s_sRetN, s_sBreak, s_sCont, s_sDrop, s_sPar, s_setN0, s_setNS, s_sAsg, s_sApp, s_sAug, s_sFor, s_sSrc, s_gmN, s_gmT, s_gmCons, s_gmNil, s_wipe0, s_wipeS, s_oSub, s_oAddI, s_oAdd, s_oLt, s_oLe, s_oGt, s_oGe, s_oNeg, s_oNot, s_oMul, s_oMulW, s_oMod, s_oFdiv, s_oPow, s_oIsN, s_oNotN, s_oIsB, s_oNotB, s_isNon_int, s_isNon_non, s_isNon_bl, s_isNon_str, s_isNon_tup, s_isNon_lst, s_isNon_dic, s_oEqI, s_oNeI, s_oIxT, s_oIxL, s_oSlT, s_oSlL, s_oRevT, s_oRevL, s_oInt, s_oIntB, s_oAbs, s_oMax2, s_oMin2, s_oLen, s_plenT, s_plenL, s_plenD, s_plenS, s_oTupleL, s_oTupleT, s_oListL, s_oListT, List.set_cons_succ, List.set_cons_zero, List.append_nil, true_and, x_bl, x_int, x_some, x_addT, x_addL, x_true, x_false]
      refine ⟨_, rfl, ?_⟩
      rw [show ((i + 1 : Nat) : Int) - 1 = ((i : Nat) : Int) by omega]
      refine ⟨_, pr_at (by omega), ?_⟩
      try simp only [s_mVar0, s_mVarS, s_mVarO0, s_mVarOS, s_isObj_lst, s_isObj_dic, s_mC, s_mOp, s_mOp1, s_mB, s_mNil, s_mCons, s_mTup, s_mLst, s_mCall, s_mTB, s_mNot, s_mAnd, s_mOr, s_mAndV, s_mOrV, s_mIf, s_mYes, s_mSl, s_mNo, s_mPart, s_mLc, s_mItems, s_mRng1, s_mRng2, s_mEnum, s_mChain, s_seqT, s_seqL, s_sNext, s_sSeq, s_sIf, s_sSet, s_sRet, s_sRetN, s_sBreak, s_sCont, s_sDrop, s_sPar, s_setN0, s_setNS, s_sAsg, s_sApp, s_sAug, s_sFor, s_sSrc, s_gmN, s_gmT, s_gmCons, s_gmNil, s_wipe0, s_wipeS, s_oSub, s_oAddI, s_oAdd, s_oLt, s_oLe, s_oGt, s_oGe, s_oNeg, s_oNot, s_oMul, s_oMulW, s_oMod, s_oFdiv, s_oPow, s_oIsN, s_oNotN, s_oIsB, s_oNotB, s_isNon_int, s_isNon_non, s_isNon_bl, s_isNon_str, s_isNon_tup, s_isNon_lst, s_isNon_dic, s_oEqI, s_oNeI, s_oIxT, s_oIxL, s_oSlT, s_oSlL, s_oRevT, s_oRevL, s_oInt, s_oIntB, s_oAbs, s_oMax2, s_oMin2, s_oLen, s_plenT, s_plenL, s_plenD, s_plenS, s_oTupleL, s_oTupleT, s_oListL, s_oListT, List.set_cons_succ, List.set_cons_zero, List.append_nil, true_and, x_bl, x_int, x_some, x_addT, x_addL, x_true, x_false]
      refine ⟨_, rfl, ?_⟩
      try simp only [s_mVar0, s_mVarS, s_mVarO0, s_mVarOS, s_isObj_lst, s_isObj_dic, s_mC, s_mOp, s_mOp1, s_mB, s_mNil, s_mCons, s_mTup, s_mLst, s_mCall, s_mTB, s_mNot, s_mAnd, s_mOr, s_mAndV, s_mOrV, s_mIf, s_mYes, s_mSl, s_mNo, s_mPart, s_mLc, s_mItems, s_mRng1, s_mRng2, s_mEnum, s_mChain, s_seqT, s_seqL, s_sNext, s_sSeq, s_sIf, s_sSet, s_sRet, s_sRetN, s_sBreak, s_sCont, s_sDrop, s_sPar, s_setN0, s_setNS, s_sAsg, s_sApp, s_sAug, s_sFor, s_sSrc, s_gmN, s_gmT, s_gmCons, s_gmNil, s_wipe0, s_wipeS, s_oSub, s_oAddI, s_oAdd, s_oLt, s_oLe, s_oGt, s_oGe, s_oNeg, s_oNot, s_oMul, s_oMulW, s_oMod, s_oFdiv, s_oPow, s_oIsN, s_oNotN, s_oIsB, s_oNotB, s_isNon_int, s_isNon_non, s_isNon_bl, s_isNon_str, s_isNon_tup, s_isNon_lst, s_isNon_dic, s_oEqI, s_oNeI, s_oIxT, s_oIxL, s_oSlT, s_oSlL, s_oRevT, s_oRevL, s_oInt, s_oIntB, s_oAbs, s_oMax2, s_oMin2, s_oLen, s_plenT, s_plenL, s_plenD, s_plenS, s_oTupleL, s_oTupleT, s_oListL, s_oListT, List.set_cons_succ, List.set_cons_zero, List.append_nil, true_and, x_bl, x_int, x_some, x_addT, x_addL, x_true, x_false]
      have es := tollRows_succ (pr := pr) (fs := fs) (m := i)
      unfold rowT at es
      rw [ed] at es
      by_cases c : price pr i < price pr (i + 1)
      · rw [if_pos c] at es
        refine ite_t (decide_eq_true (by omega)) ⟨_, rfl, _, ea, ?_⟩
        try simp only [s_mVar0, s_mVarS, s_mVarO0, s_mVarOS, s_isObj_lst, s_isObj_dic, s_mC, s_mOp, s_mOp1, s_mB, s_mNil, s_mCons, s_mTup, s_mLst, s_mCall, s_mTB, s_mNot, s_mAnd, s_mOr, s_mAndV, s_mOrV, s_mIf, s_mYes, s_mSl, s_mNo, s_mPart, s_mLc, s_mItems, s_mRng1, s_mRng2, s_mEnum, s_mChain, s_seqT, s_seqL, s_sNext, s_sSeq, s_sIf, s_sSet, s_sRet, s_sRetN, s_sBreak, s_sCont, s_sDrop, s_sPar, s_setN0, s_setNS, s_sAsg, s_sApp, s_sAug, s_sFor, s_sSrc, s_gmN, s_gmT, s_gmCons, s_gmNil, s_wipe0, s_wipeS, s_oSub, s_oAddI, s_oAdd, s_oLt, s_oLe, s_oGt, s_oGe, s_oNeg, s_oNot, s_oMul, s_oMulW, s_oMod, s_oFdiv, s_oPow, s_oIsN, s_oNotN, s_oIsB, s_oNotB, s_isNon_int, s_isNon_non, s_isNon_bl, s_isNon_str, s_isNon_tup, s_isNon_lst, s_isNon_dic, s_oEqI, s_oNeI, s_oIxT, s_oIxL, s_oSlT, s_oSlL, s_oRevT, s_oRevL, s_oInt, s_oIntB, s_oAbs, s_oMax2, s_oMin2, s_oLen, s_plenT, s_plenL, s_plenD, s_plenS, s_oTupleL, s_oTupleT, s_oListL, s_oListT, List.set_cons_succ, List.set_cons_zero, List.append_nil, true_and, x_bl, x_int, x_some, x_addT, x_addL, x_true, x_false]
        refine ⟨line (by simp), by rw [List.length_map]; exact small_line (by have := tollRows_len (pr := pr) (fs := fs) (m := i); omega), hN _ ⟨hlt, some (.int ((i + 1 : Nat) : Int)), some (.int (price pr (i + 1) - price pr i)), ?_⟩⟩
        rw [es, List.map_append]; rfl
      · rw [if_neg c] at es
        refine ite_f (by rw [decide_eq_false (by omega)]; decide) (hN _ ⟨hlt, some (.int ((i + 1 : Nat) : Int)), some (.int (price pr (i + 1) - price pr i)), ?_⟩)
        rw [es]
        simp
    · obtain ⟨hi, y4, y7, rfl⟩ := hE
      rw [rng1_len]
      try simp only [s_mVar0, s_mVarS, s_mVarO0, s_mVarOS, s_isObj_lst, s_isObj_dic, s_mC, s_mOp, s_mOp1, s_mB, s_mNil, s_mCons, s_mTup, s_mLst, s_mCall, s_mTB, s_mNot, s_mAnd, s_mOr, s_mAndV, s_mOrV, s_mIf, s_mYes, s_mSl, s_mNo, s_mPart, s_mLc, s_mItems, s_mRng1, s_mRng2, s_mEnum, s_mChain, s_seqT, s_seqL, s_sNext, s_sSeq, s_sIf, s_sSet, s_sRet, s_sRetN, s_sBreak, s_sCont, s_sDrop, s_sPar, s_setN0, s_setNS, s_sAsg, s_sApp, s_sAug, s_sFor, s_sSrc, s_gmN, s_gmT, s_gmCons, s_gmNil, s_wipe0, s_wipeS, s_oSub, s_oAddI, s_oAdd, s_oLt, s_oLe, s_oGt, s_oGe, s_oNeg, s_oNot, s_oMul, s_oMulW, s_oMod, s_oFdiv, s_oPow, s_oIsN, s_oNotN, s_oIsB, s_oNotB, s_isNon_int, s_isNon_non, s_isNon_bl, s_isNon_str, s_isNon_tup, s_isNon_lst, s_isNon_dic, s_oEqI, s_oNeI, s_oIxT, s_oIxL, s_oSlT, s_oSlL, s_oRevT, s_oRevL, s_oInt, s_oIntB, s_oAbs, s_oMax2, s_oMin2, s_oLen, s_plenT, s_plenL, s_plenD, s_plenS, s_oTupleL, s_oTupleT, s_oListL, s_oListT, List.set_cons_succ, List.set_cons_zero, List.append_nil, true_and, x_bl, x_int, x_some, x_addT, x_addL, x_true, x_false]
      exact h2 hf pr fs H fl fle
end K45

set_option maxHeartbeats 2000000
namespace K45
open PySem L2 PM
abbrev T3 := Int × Int × Int
def t3 (r : T3) : PV := tI [r.1, r.2.1, r.2.2]
structure Ok3 (lots : List (List Int)) (t : Int) (r : T3) : Prop where
  a0 : 0 ≤ r.1
  ab : r.1 ≤ r.2.1
  bn : r.2.1 < lots.length
  c1 : 1 ≤ r.2.2
  un : t < cnt lots r.1.toNat r.2.1.toNat
/-- what is paid there -/
def paid (rs : List T3) (one : Int) : Int := ((rs.filter fun r => decide (r.1 ≤ one ∧ one < r.2.1)).map fun r => r.2.2).sum
def ascB (rs : List T3) : Bool := (rng1 (rs.length - 1)).all fun i => HT.lexLt [(rs.getD (i - 1).toNat (0, 0, 0)).1, (rs.getD (i - 1).toNat (0, 0, 0)).2.1, (rs.getD (i - 1).toNat (0, 0, 0)).2.2] [(rs.getD i.toNat (0, 0, 0)).1, (rs.getD i.toNat (0, 0, 0)).2.1, (rs.getD i.toNat (0, 0, 0)).2.2]
def fitsB (costs : List Int) (rs : List T3) : Bool := (rng costs.length).all fun one => decide (paid rs one ≤ cost costs one.toNat)
/-- rows, then bad ones or none -/
def TollsOk (lots : List (List Int)) (t : Int) (costs : List Int) (v : PV) (b : Bool) : Prop :=
  (∃ rs : List T3, v = .tup (rs.map t3) ∧ (∀ r ∈ rs, Ok3 lots t r) ∧ b = (ascB rs && fitsB costs rs)) ∨ ((∀ rs : List T3, v = .tup (rs.map t3) → ¬ ∀ r ∈ rs, Ok3 lots t r) ∧ b = false)
/-- what a value may be -/
structure Dom (v : PV) : Prop where
  ty : (pty v).isSome = true
  rows : ∀ rows, v = .tup rows → rows.length ≤ 100 ∧ ∀ r ∈ rows, ∃ xs, r = .tup xs ∧ xs.length ≤ 100 ∧ ∀ x ∈ xs, (pty x).isSome = true
/-- a row is good, or it is not -/
def RowIs (lots : List (List Int)) (t : Int) (r : PV) (b : Bool) : Prop := (∃ q, r = t3 q ∧ Ok3 lots t q ∧ b = true) ∨ ((∀ q, r = t3 q → ¬ Ok3 lots t q) ∧ b = false)
theorem t3_inj {a b : T3} (h : t3 a = t3 b) : a = b := by
  have := tI_inj h
  obtain ⟨a1, a2, a3⟩ := a
  obtain ⟨b1, b2, b3⟩ := b
  simpa using this
theorem nat3 : ∀ {xs : List PV}, xs.length = 3 → xs.all isNat = true → ∃ q : T3, .tup xs = t3 q ∧ 0 ≤ q.1 ∧ 0 ≤ q.2.1 ∧ 0 ≤ q.2.2
  | [x, y, z], _, h => by
    simp only [List.all_cons, List.all_nil, Bool.and_true, Bool.and_eq_true] at h
    obtain ⟨h1, h2, h3⟩ := h
    have ofN : ∀ {x : PV}, isNat x = true → ∃ i : Int, x = .int i ∧ 0 ≤ i := fun {x} h => by
      cases x with
      | int i => exact ⟨i, rfl, of_decide_eq_true h⟩
      | _ => cases h
    obtain ⟨a, rfl, ha⟩ := ofN h1
    obtain ⟨b, rfl, hb⟩ := ofN h2
    obtain ⟨c, rfl, hc⟩ := ofN h3
    exact ⟨(a, b, c), rfl, ha, hb, hc⟩
theorem not3_len {xs : List PV} (h : ¬ xs.length = 3) (q : T3) : PV.tup xs ≠ t3 q := fun e => by
  injection e with e
  rw [e] at h
  exact h rfl
theorem not3_nat {xs : List PV} {lots : List (List Int)} {t : Int} (h : ¬ xs.all isNat = true) (q : T3) (e : PV.tup xs = t3 q) : ¬ Ok3 lots t q := fun ok => by
  injection e with e
  rw [e] at h
  have := ok.a0
  have := ok.ab
  have := ok.c1
  refine h ?_
  show (decide (0 ≤ q.1) && (decide (0 ≤ q.2.1) && (decide (0 ≤ q.2.2) && true))) = true
  rw [decide_eq_true (by omega), decide_eq_true (by omega), decide_eq_true (by omega)]; rfl
def sp_is_toll : PM.Spec := fun ps P => ∃ (lots : List (List Int)) (t : Int) (xs : List PV), ps = [crs lots, .int t, .tup xs] ∧ Good lots ∧ xs.length ≤ 100 ∧ (∀ x ∈ xs, (pty x).isSome = true) ∧ ∀ b, RowIs lots t (.tup xs) b → P (.bl b)
theorem union_len {lots : List (List Int)} {a b : Nat} : (isort (keys (seg lots a b))).length = cnt lots a b := isort_len _
theorem h_is_toll (ps : List PV) (Q : PV → Prop) (h : sp_is_toll ps Q) : t_is_toll sp_union_of sp_is_number { nx := fun _ => nxOf .cl Q, rt := Q } (startE n_is_toll.length ps) := by
  obtain ⟨lots, t, xs, rfl, hg, hl, hx, h⟩ := h
  have hs := hg.small
  show t_is_toll _ _ _ [some (crs lots), some (.int t), some (.tup xs), none, none, none, none]
  unfold t_is_toll
  try simp only [s_mVar0, s_mVarS, s_mVarO0, s_mVarOS, s_isObj_lst, s_isObj_dic, s_mC, s_mOp, s_mOp1, s_mB, s_mNil, s_mCons, s_mTup, s_mLst, s_mCall, s_mTB, s_mNot, s_mAnd, s_mOr, s_mAndV, s_mOrV, s_mIf, s_mYes, s_mSl, s_mNo, s_mPart, s_mLc, s_mItems, s_mRng1, s_mRng2, s_mEnum, s_mChain, s_seqT, s_seqL, s_sNext, s_sSeq, s_sIf, s_sSet, s_sRet, s_sRetN, s_sBreak, s_sCont, s_sDrop, s_sPar, s_setN0, s_setNS, s_sAsg, s_sApp, s_sAug, s_sFor, s_sSrc, s_gmN, s_gmT, s_gmCons, s_gmNil, s_wipe0, s_wipeS, s_oSub, s_oAddI, s_oAdd, s_oLt, s_oLe, s_oGt, s_oGe, s_oNeg, s_oNot, s_oMul, s_oMulW, s_oMod, s_oFdiv, s_oPow, s_oIsN, s_oNotN, s_oIsB, s_oNotB, s_isNon_int, s_isNon_non, s_isNon_bl, s_isNon_str, s_isNon_tup, s_isNon_lst, s_isNon_dic, s_oEqI, s_oNeI, s_oIxT, s_oIxL, s_oSlT, s_oSlL, s_oRevT, s_oRevL, s_oInt, s_oIntB, s_oAbs, s_oMax2, s_oMin2, s_oLen, s_plenT, s_plenL, s_plenD, s_plenS, s_oTupleL, s_oTupleT, s_oListL, s_oListT, List.set_cons_succ, List.set_cons_zero, List.append_nil, true_and, x_bl, x_int, x_some, x_addT, x_addL, x_true, x_false]
  refine oIsi_of (b := true) rfl rfl ⟨_, rfl, ite_f (by decide) ?_⟩
  by_cases c3 : xs.length = 3
  case neg => 
    refine ite_t (by simp; omega) (h false (.inr ⟨fun q e => absurd e (not3_len c3 q), rfl⟩))
  refine ite_f (by simp [c3]) ?_
  refine comp_self (f := fun x => .bl (isNat x)) (fun x hx2 => ⟨_, fun k hk => s_gmN.mpr hk, fun Q hQ => hQ, fun Q hQ => ?_⟩) (line (by omega)) (oAll_map (b := isNat) ?_)
  · try simp only [s_mVar0, s_mVarS, s_mVarO0, s_mVarOS, s_isObj_lst, s_isObj_dic, s_mC, s_mOp, s_mOp1, s_mB, s_mNil, s_mCons, s_mTup, s_mLst, s_mCall, s_mTB, s_mNot, s_mAnd, s_mOr, s_mAndV, s_mOrV, s_mIf, s_mYes, s_mSl, s_mNo, s_mPart, s_mLc, s_mItems, s_mRng1, s_mRng2, s_mEnum, s_mChain, s_seqT, s_seqL, s_sNext, s_sSeq, s_sIf, s_sSet, s_sRet, s_sRetN, s_sBreak, s_sCont, s_sDrop, s_sPar, s_setN0, s_setNS, s_sAsg, s_sApp, s_sAug, s_sFor, s_sSrc, s_gmN, s_gmT, s_gmCons, s_gmNil, s_wipe0, s_wipeS, s_oSub, s_oAddI, s_oAdd, s_oLt, s_oLe, s_oGt, s_oGe, s_oNeg, s_oNot, s_oMul, s_oMulW, s_oMod, s_oFdiv, s_oPow, s_oIsN, s_oNotN, s_oIsB, s_oNotB, s_isNon_int, s_isNon_non, s_isNon_bl, s_isNon_str, s_isNon_tup, s_isNon_lst, s_isNon_dic, s_oEqI, s_oNeI, s_oIxT, s_oIxL, s_oSlT, s_oSlL, s_oRevT, s_oRevL, s_oInt, s_oIntB, s_oAbs, s_oMax2, s_oMin2, s_oLen, s_plenT, s_plenL, s_plenD, s_plenS, s_oTupleL, s_oTupleT, s_oListL, s_oListT, List.set_cons_succ, List.set_cons_zero, List.append_nil, true_and, x_bl, x_int, x_some, x_addT, x_addL, x_true, x_false]
    exact ⟨_, rfl, hx x hx2, hQ⟩
  by_cases cn : xs.all isNat = true
  case neg =>
    refine ⟨_, rfl, ite_t (by simpa using cn) (h false (.inr ⟨fun q e => not3_nat cn q e, rfl⟩))⟩
  rw [cn]
  refine ⟨_, rfl, ite_f (by decide) ?_⟩
  obtain ⟨q, eq, q1, q2, q3⟩ := nat3 c3 cn
  injection eq with exs
  subst exs
  try simp only [s_mVar0, s_mVarS, s_mVarO0, s_mVarOS, s_isObj_lst, s_isObj_dic, s_mC, s_mOp, s_mOp1, s_mB, s_mNil, s_mCons, s_mTup, s_mLst, s_mCall, s_mTB, s_mNot, s_mAnd, s_mOr, s_mAndV, s_mOrV, s_mIf, s_mYes, s_mSl, s_mNo, s_mPart, s_mLc, s_mItems, s_mRng1, s_mRng2, s_mEnum, s_mChain, s_seqT, s_seqL, s_sNext, s_sSeq, s_sIf, s_sSet, s_sRet, s_sRetN, s_sBreak, s_sCont, s_sDrop, s_sPar, s_setN0, s_setNS, s_sAsg, s_sApp, s_sAug, s_sFor, s_sSrc, s_gmN, s_gmT, s_gmCons, s_gmNil, s_wipe0, s_wipeS, s_oSub, s_oAddI, s_oAdd, s_oLt, s_oLe, s_oGt, s_oGe, s_oNeg, s_oNot, s_oMul, s_oMulW, s_oMod, s_oFdiv, s_oPow, s_oIsN, s_oNotN, s_oIsB, s_oNotB, s_isNon_int, s_isNon_non, s_isNon_bl, s_isNon_str, s_isNon_tup, s_isNon_lst, s_isNon_dic, s_oEqI, s_oNeI, s_oIxT, s_oIxL, s_oSlT, s_oSlL, s_oRevT, s_oRevL, s_oInt, s_oIntB, s_oAbs, s_oMax2, s_oMin2, s_oLen, s_plenT, s_plenL, s_plenD, s_plenS, s_oTupleL, s_oTupleT, s_oListL, s_oListT, List.set_cons_succ, List.set_cons_zero, List.append_nil, true_and, x_bl, x_int, x_some, x_addT, x_addL, x_true, x_false]
  refine ⟨rfl, ?_⟩
  simp only [List.map_cons, List.map_nil]
  try simp only [s_mVar0, s_mVarS, s_mVarO0, s_mVarOS, s_isObj_lst, s_isObj_dic, s_mC, s_mOp, s_mOp1, s_mB, s_mNil, s_mCons, s_mTup, s_mLst, s_mCall, s_mTB, s_mNot, s_mAnd, s_mOr, s_mAndV, s_mOrV, s_mIf, s_mYes, s_mSl, s_mNo, s_mPart, s_mLc, s_mItems, s_mRng1, s_mRng2, s_mEnum, s_mChain, s_seqT, s_seqL, s_sNext, s_sSeq, s_sIf, s_sSet, s_sRet, s_sRetN, s_sBreak, s_sCont, s_sDrop, s_sPar, s_setN0, s_setNS, s_sAsg, s_sApp, s_sAug, s_sFor, s_sSrc, s_gmN, s_gmT, s_gmCons, s_gmNil, s_wipe0, s_wipeS, s_oSub, s_oAddI, s_oAdd, s_oLt, s_oLe, s_oGt, s_oGe, s_oNeg, s_oNot, s_oMul, s_oMulW, s_oMod, s_oFdiv, s_oPow, s_oIsN, s_oNotN, s_oIsB, s_oNotB, s_isNon_int, s_isNon_non, s_isNon_bl, s_isNon_str, s_isNon_tup, s_isNon_lst, s_isNon_dic, s_oEqI, s_oNeI, s_oIxT, s_oIxL, s_oSlT, s_oSlL, s_oRevT, s_oRevL, s_oInt, s_oIntB, s_oAbs, s_oMax2, s_oMin2, s_oLen, s_plenT, s_plenL, s_plenD, s_plenS, s_oTupleL, s_oTupleT, s_oListL, s_oListT, List.set_cons_succ, List.set_cons_zero, List.append_nil, true_and, x_bl, x_int, x_some, x_addT, x_addL, x_true, x_false]
  have rowN : ¬ Ok3 lots t q → RowIs lots t (.tup [PV.int q.1, .int q.2.1, .int q.2.2]) false := fun nk => .inr ⟨fun q' e ok => nk (t3_inj (a := q) (b := q') e ▸ ok), rfl⟩
  rw [List.length_map]
  by_cases c1 : q.1 ≤ q.2.1
  case neg => exact ite_t (by rw [decide_eq_false c1]; rfl) (ite_t trivial (h false (rowN fun ok => c1 ok.ab)))
  refine ite_f (by rw [decide_eq_true c1]; decide) ?_
  by_cases c2 : (lots.length : Int) ≤ q.2.1
  · exact ite_t (decide_eq_true c2) (ite_t trivial (h false (rowN fun ok => by have := ok.bn; omega)))
  refine ite_f (by rw [decide_eq_false c2]; decide) ?_
  by_cases c4 : q.2.2 = 0
  · exact ite_t (decide_eq_true c4) (h false (rowN fun ok => by have := ok.c1; omega))
  refine ite_f (by rw [decide_eq_false c4]; decide) ?_
  refine ⟨lots, q.1.toNat, q.2.1.toNat, by rw [Int.toNat_of_nonneg q1, Int.toNat_of_nonneg q2], hg, ?_⟩
  refine ⟨_, (by show some (List.map PV.int _).length = _; rw [List.length_map, union_len]), h _ ?_⟩
  by_cases c5 : t < (cnt lots q.1.toNat q.2.1.toNat : Int)
  · exact .inl ⟨q, rfl, ⟨q1, c1, by omega, by omega, c5⟩, decide_eq_true c5⟩
  · exact .inr ⟨fun q' e ok => c5 (t3_inj (a := q) (b := q') e ▸ ok.un), decide_eq_false c5⟩
theorem at_t3 {rs : List T3} {i : Int} (h0 : 0 ≤ i) (h : i < rs.length) : atI (rs.map t3) i = some (t3 (rs.getD i.toNat (0, 0, 0))) := by
  rw [atI_nn h0 (by rw [List.length_map]; omega), List.getElem?_map, List.getD_eq_getElem?_getD, List.getElem?_eq_getElem (by omega)]; rfl
theorem rng1_mem {m : Nat} {i : Int} (h : i ∈ rng1 m) : 1 ≤ i ∧ i ≤ m := by
  unfold rng1 at h
  obtain ⟨j, hj, rfl⟩ := List.mem_map.mp h
  have := List.mem_range.mp hj
  omega
theorem rng_mem {m : Nat} {i : Int} (h : i ∈ rng m) : 0 ≤ i ∧ i < m := by
  unfold rng at h
  obtain ⟨j, hj, rfl⟩ := List.mem_map.mp h
  have := List.mem_range.mp hj
  omega
def sp_is_asc3 : PM.Spec := fun ps P => ∃ rs : List T3, ps = [.tup (rs.map t3)] ∧ rs.length ≤ 100 ∧ P (.bl (ascB rs))
theorem h_is_asc3 (ps : List PV) (Q : PV → Prop) (h : sp_is_asc3 ps Q) : t_is_ascending { nx := fun _ => nxOf .cl Q, rt := Q } (startE n_is_ascending.length ps) := by
  obtain ⟨rs, rfl, hl, h⟩ := h
  show t_is_ascending _ [some (.tup (rs.map t3)), none]
  unfold t_is_ascending
  try simp only [s_mVar0, s_mVarS, s_mVarO0, s_mVarOS, s_isObj_lst, s_isObj_dic, s_mC, s_mOp, s_mOp1, s_mB, s_mNil, s_mCons, s_mTup, s_mLst, s_mCall, s_mTB, s_mNot, s_mAnd, s_mOr, s_mAndV, s_mOrV, s_mIf, s_mYes, s_mSl, s_mNo, s_mPart, s_mLc, s_mItems, s_mRng1, s_mRng2, s_mEnum, s_mChain, s_seqT, s_seqL, s_sNext, s_sSeq, s_sIf, s_sSet, s_sRet, s_sRetN, s_sBreak, s_sCont, s_sDrop, s_sPar, s_setN0, s_setNS, s_sAsg, s_sApp, s_sAug, s_sFor, s_sSrc, s_gmN, s_gmT, s_gmCons, s_gmNil, s_wipe0, s_wipeS, s_oSub, s_oAddI, s_oAdd, s_oLt, s_oLe, s_oGt, s_oGe, s_oNeg, s_oNot, s_oMul, s_oMulW, s_oMod, s_oFdiv, s_oPow, s_oIsN, s_oNotN, s_oIsB, s_oNotB, s_isNon_int, s_isNon_non, s_isNon_bl, s_isNon_str, s_isNon_tup, s_isNon_lst, s_isNon_dic, s_oEqI, s_oNeI, s_oIxT, s_oIxL, s_oSlT, s_oSlL, s_oRevT, s_oRevL, s_oInt, s_oIntB, s_oAbs, s_oMax2, s_oMin2, s_oLen, s_plenT, s_plenL, s_plenD, s_plenS, s_oTupleL, s_oTupleT, s_oListL, s_oListT, List.set_cons_succ, List.set_cons_zero, List.append_nil, true_and, x_bl, x_int, x_some, x_addT, x_addL, x_true, x_false]
  rw [List.length_map]
  refine ⟨_, _, rfl, rfl, by omega, ?_⟩
  rw [show ((rs.length : Int) - 1).toNat = rs.length - 1 by omega, rngP_rng1]
  refine comp_map (emb := PV.int) (f := fun (i : Int) => .bl (HT.lexLt [(rs.getD (i - 1).toNat (0, 0, 0)).1, (rs.getD (i - 1).toNat (0, 0, 0)).2.1, (rs.getD (i - 1).toNat (0, 0, 0)).2.2] [(rs.getD i.toNat (0, 0, 0)).1, (rs.getD i.toNat (0, 0, 0)).2.1, (rs.getD i.toNat (0, 0, 0)).2.2])) (fun i hi => ⟨_, fun k hk => s_gmN.mpr hk, fun Q hQ => hQ, fun Q hQ => ?_⟩) (line (by rw [rng1_len]; omega)) (oAll_map (b := fun (i : Int) => HT.lexLt [(rs.getD (i - 1).toNat (0, 0, 0)).1, (rs.getD (i - 1).toNat (0, 0, 0)).2.1, (rs.getD (i - 1).toNat (0, 0, 0)).2.2] [(rs.getD i.toNat (0, 0, 0)).1, (rs.getD i.toNat (0, 0, 0)).2.1, (rs.getD i.toNat (0, 0, 0)).2.2]) h)
  obtain ⟨i1, i2⟩ := rng1_mem hi
  try simp only [s_mVar0, s_mVarS, s_mVarO0, s_mVarOS, s_isObj_lst, s_isObj_dic, s_mC, s_mOp, s_mOp1, s_mB, s_mNil, s_mCons, s_mTup, s_mLst, s_mCall, s_mTB, s_mNot, s_mAnd, s_mOr, s_mAndV, s_mOrV, s_mIf, s_mYes, s_mSl, s_mNo, s_mPart, s_mLc, s_mItems, s_mRng1, s_mRng2, s_mEnum, s_mChain, s_seqT, s_seqL, s_sNext, s_sSeq, s_sIf, s_sSet, s_sRet, s_sRetN, s_sBreak, s_sCont, s_sDrop, s_sPar, s_setN0, s_setNS, s_sAsg, s_sApp, s_sAug, s_sFor, s_sSrc, s_gmN, s_gmT, s_gmCons, s_gmNil, s_wipe0, s_wipeS, s_oSub, s_oAddI, s_oAdd, s_oLt, s_oLe, s_oGt, s_oGe, s_oNeg, s_oNot, s_oMul, s_oMulW, s_oMod, s_oFdiv, s_oPow, s_oIsN, s_oNotN, s_oIsB, s_oNotB, s_isNon_int, s_isNon_non, s_isNon_bl, s_isNon_str, s_isNon_tup, s_isNon_lst, s_isNon_dic, s_oEqI, s_oNeI, s_oIxT, s_oIxL, s_oSlT, s_oSlL, s_oRevT, s_oRevL, s_oInt, s_oIntB, s_oAbs, s_oMax2, s_oMin2, s_oLen, s_plenT, s_plenL, s_plenD, s_plenS, s_oTupleL, s_oTupleT, s_oListL, s_oListT, List.set_cons_succ, List.set_cons_zero, List.append_nil, true_and, x_bl, x_int, x_some, x_addT, x_addL, x_true, x_false]
  refine ⟨_, at_t3 (by omega) (by omega), _, at_t3 (by omega) (by omega), ?_⟩
  exact s_oLtT.mpr hQ
def sp_tolls_at : PM.Spec := fun ps P => ∃ (rs : List T3) (one : Int), ps = [.tup (rs.map t3), .int one] ∧ rs.length ≤ 100 ∧ P (.int (paid rs one))
theorem h_tolls_at (ps : List PV) (Q : PV → Prop) (h : sp_tolls_at ps Q) : t_tolls_at { nx := fun _ => nxOf .cl Q, rt := Q } (startE n_tolls_at.length ps) := by
  obtain ⟨rs, one, rfl, hl, h⟩ := h
  show t_tolls_at _ [some (.tup (rs.map t3)), some (.int one), none, none, none]
  unfold t_tolls_at
  try simp only [s_mVar0, s_mVarS, s_mVarO0, s_mVarOS, s_isObj_lst, s_isObj_dic, s_mC, s_mOp, s_mOp1, s_mB, s_mNil, s_mCons, s_mTup, s_mLst, s_mCall, s_mTB, s_mNot, s_mAnd, s_mOr, s_mAndV, s_mOrV, s_mIf, s_mYes, s_mSl, s_mNo, s_mPart, s_mLc, s_mItems, s_mRng1, s_mRng2, s_mEnum, s_mChain, s_seqT, s_seqL, s_sNext, s_sSeq, s_sIf, s_sSet, s_sRet, s_sRetN, s_sBreak, s_sCont, s_sDrop, s_sPar, s_setN0, s_setNS, s_sAsg, s_sApp, s_sAug, s_sFor, s_sSrc, s_gmN, s_gmT, s_gmCons, s_gmNil, s_wipe0, s_wipeS, s_oSub, s_oAddI, s_oAdd, s_oLt, s_oLe, s_oGt, s_oGe, s_oNeg, s_oNot, s_oMul, s_oMulW, s_oMod, s_oFdiv, s_oPow, s_oIsN, s_oNotN, s_oIsB, s_oNotB, s_isNon_int, s_isNon_non, s_isNon_bl, s_isNon_str, s_isNon_tup, s_isNon_lst, s_isNon_dic, s_oEqI, s_oNeI, s_oIxT, s_oIxL, s_oSlT, s_oSlL, s_oRevT, s_oRevL, s_oInt, s_oIntB, s_oAbs, s_oMax2, s_oMin2, s_oLen, s_plenT, s_plenL, s_plenD, s_plenS, s_oTupleL, s_oTupleT, s_oListL, s_oListT, List.set_cons_succ, List.set_cons_zero, List.append_nil, true_and, x_bl, x_int, x_some, x_addT, x_addL, x_true, x_false]
  refine comp_emb (emb := t3) (tst := fun r => decide (r.1 ≤ one ∧ one < r.2.1)) (f := fun r => .int r.2.2) (fun r hr => ⟨[some (.tup (rs.map t3)), some (.int one), some (.int r.1), some (.int r.2.1), some (.int r.2.2)], fun k hk => ?_, fun Q hQ => ?_, fun _ Q hQ => ?_⟩) (by rw [List.length_nil, Nat.zero_add]; exact line (by omega)) ?_
  · unfold t3
    try simp only [s_mVar0, s_mVarS, s_mVarO0, s_mVarOS, s_isObj_lst, s_isObj_dic, s_mC, s_mOp, s_mOp1, s_mB, s_mNil, s_mCons, s_mTup, s_mLst, s_mCall, s_mTB, s_mNot, s_mAnd, s_mOr, s_mAndV, s_mOrV, s_mIf, s_mYes, s_mSl, s_mNo, s_mPart, s_mLc, s_mItems, s_mRng1, s_mRng2, s_mEnum, s_mChain, s_seqT, s_seqL, s_sNext, s_sSeq, s_sIf, s_sSet, s_sRet, s_sRetN, s_sBreak, s_sCont, s_sDrop, s_sPar, s_setN0, s_setNS, s_sAsg, s_sApp, s_sAug, s_sFor, s_sSrc, s_gmN, s_gmT, s_gmCons, s_gmNil, s_wipe0, s_wipeS, s_oSub, s_oAddI, s_oAdd, s_oLt, s_oLe, s_oGt, s_oGe, s_oNeg, s_oNot, s_oMul, s_oMulW, s_oMod, s_oFdiv, s_oPow, s_oIsN, s_oNotN, s_oIsB, s_oNotB, s_isNon_int, s_isNon_non, s_isNon_bl, s_isNon_str, s_isNon_tup, s_isNon_lst, s_isNon_dic, s_oEqI, s_oNeI, s_oIxT, s_oIxL, s_oSlT, s_oSlL, s_oRevT, s_oRevL, s_oInt, s_oIntB, s_oAbs, s_oMax2, s_oMin2, s_oLen, s_plenT, s_plenL, s_plenD, s_plenS, s_oTupleL, s_oTupleT, s_oListL, s_oListT, List.set_cons_succ, List.set_cons_zero, List.append_nil, true_and, x_bl, x_int, x_some, x_addT, x_addL, x_true, x_false]
    refine ⟨rfl, ?_⟩
    simp only [List.map_cons, List.map_nil]
    try simp only [s_mVar0, s_mVarS, s_mVarO0, s_mVarOS, s_isObj_lst, s_isObj_dic, s_mC, s_mOp, s_mOp1, s_mB, s_mNil, s_mCons, s_mTup, s_mLst, s_mCall, s_mTB, s_mNot, s_mAnd, s_mOr, s_mAndV, s_mOrV, s_mIf, s_mYes, s_mSl, s_mNo, s_mPart, s_mLc, s_mItems, s_mRng1, s_mRng2, s_mEnum, s_mChain, s_seqT, s_seqL, s_sNext, s_sSeq, s_sIf, s_sSet, s_sRet, s_sRetN, s_sBreak, s_sCont, s_sDrop, s_sPar, s_setN0, s_setNS, s_sAsg, s_sApp, s_sAug, s_sFor, s_sSrc, s_gmN, s_gmT, s_gmCons, s_gmNil, s_wipe0, s_wipeS, s_oSub, s_oAddI, s_oAdd, s_oLt, s_oLe, s_oGt, s_oGe, s_oNeg, s_oNot, s_oMul, s_oMulW, s_oMod, s_oFdiv, s_oPow, s_oIsN, s_oNotN, s_oIsB, s_oNotB, s_isNon_int, s_isNon_non, s_isNon_bl, s_isNon_str, s_isNon_tup, s_isNon_lst, s_isNon_dic, s_oEqI, s_oNeI, s_oIxT, s_oIxL, s_oSlT, s_oSlL, s_oRevT, s_oRevL, s_oInt, s_oIntB, s_oAbs, s_oMax2, s_oMin2, s_oLen, s_plenT, s_plenL, s_plenD, s_plenS, s_oTupleL, s_oTupleT, s_oListL, s_oListT, List.set_cons_succ, List.set_cons_zero, List.append_nil, true_and, x_bl, x_int, x_some, x_addT, x_addL, x_true, x_false]
    exact hk
  · try simp only [s_mVar0, s_mVarS, s_mVarO0, s_mVarOS, s_isObj_lst, s_isObj_dic, s_mC, s_mOp, s_mOp1, s_mB, s_mNil, s_mCons, s_mTup, s_mLst, s_mCall, s_mTB, s_mNot, s_mAnd, s_mOr, s_mAndV, s_mOrV, s_mIf, s_mYes, s_mSl, s_mNo, s_mPart, s_mLc, s_mItems, s_mRng1, s_mRng2, s_mEnum, s_mChain, s_seqT, s_seqL, s_sNext, s_sSeq, s_sIf, s_sSet, s_sRet, s_sRetN, s_sBreak, s_sCont, s_sDrop, s_sPar, s_setN0, s_setNS, s_sAsg, s_sApp, s_sAug, s_sFor, s_sSrc, s_gmN, s_gmT, s_gmCons, s_gmNil, s_wipe0, s_wipeS, s_oSub, s_oAddI, s_oAdd, s_oLt, s_oLe, s_oGt, s_oGe, s_oNeg, s_oNot, s_oMul, s_oMulW, s_oMod, s_oFdiv, s_oPow, s_oIsN, s_oNotN, s_oIsB, s_oNotB, s_isNon_int, s_isNon_non, s_isNon_bl, s_isNon_str, s_isNon_tup, s_isNon_lst, s_isNon_dic, s_oEqI, s_oNeI, s_oIxT, s_oIxL, s_oSlT, s_oSlL, s_oRevT, s_oRevL, s_oInt, s_oIntB, s_oAbs, s_oMax2, s_oMin2, s_oLen, s_plenT, s_plenL, s_plenD, s_plenS, s_oTupleL, s_oTupleT, s_oListL, s_oListT, List.set_cons_succ, List.set_cons_zero, List.append_nil, true_and, x_bl, x_int, x_some, x_addT, x_addL, x_true, x_false]
    by_cases c : r.1 ≤ one
    · refine ite_t (decide_eq_true c) ?_
      have e : decide (r.1 ≤ one ∧ one < r.2.1) = decide (one < r.2.1) := by simp [c]
      rw [e] at hQ
      exact hQ
    · refine ite_f (by rw [decide_eq_false c]; decide) ?_
      have e : decide (r.1 ≤ one ∧ one < r.2.1) = false := by simp [c]
      rw [e] at hQ
      exact hQ
  · try simp only [s_mVar0, s_mVarS, s_mVarO0, s_mVarOS, s_isObj_lst, s_isObj_dic, s_mC, s_mOp, s_mOp1, s_mB, s_mNil, s_mCons, s_mTup, s_mLst, s_mCall, s_mTB, s_mNot, s_mAnd, s_mOr, s_mAndV, s_mOrV, s_mIf, s_mYes, s_mSl, s_mNo, s_mPart, s_mLc, s_mItems, s_mRng1, s_mRng2, s_mEnum, s_mChain, s_seqT, s_seqL, s_sNext, s_sSeq, s_sIf, s_sSet, s_sRet, s_sRetN, s_sBreak, s_sCont, s_sDrop, s_sPar, s_setN0, s_setNS, s_sAsg, s_sApp, s_sAug, s_sFor, s_sSrc, s_gmN, s_gmT, s_gmCons, s_gmNil, s_wipe0, s_wipeS, s_oSub, s_oAddI, s_oAdd, s_oLt, s_oLe, s_oGt, s_oGe, s_oNeg, s_oNot, s_oMul, s_oMulW, s_oMod, s_oFdiv, s_oPow, s_oIsN, s_oNotN, s_oIsB, s_oNotB, s_isNon_int, s_isNon_non, s_isNon_bl, s_isNon_str, s_isNon_tup, s_isNon_lst, s_isNon_dic, s_oEqI, s_oNeI, s_oIxT, s_oIxL, s_oSlT, s_oSlL, s_oRevT, s_oRevL, s_oInt, s_oIntB, s_oAbs, s_oMax2, s_oMin2, s_oLen, s_plenT, s_plenL, s_plenD, s_plenS, s_oTupleL, s_oTupleT, s_oListL, s_oListT, List.set_cons_succ, List.set_cons_zero, List.append_nil, true_and, x_bl, x_int, x_some, x_addT, x_addL, x_true, x_false]
    exact hQ
  · rw [List.nil_append]
    exact oSum_map (b := fun r : T3 => r.2.2) h
open Classical in
noncomputable def rowB (lots : List (List Int)) (t : Int) (r : PV) : Bool := decide (∃ q, r = t3 q ∧ Ok3 lots t q)
open Classical in
theorem rowB_of {lots : List (List Int)} {t : Int} {r : PV} {b : Bool} (h : RowIs lots t r b) : b = rowB lots t r := by
  unfold rowB
  rcases h with ⟨q, e, k, rfl⟩ | ⟨k, rfl⟩
  · exact (decide_eq_true ⟨q, e, k⟩).symm
  · exact (decide_eq_false fun ⟨q, e, ok⟩ => k q e ok).symm
open Classical in
theorem rows_all {lots : List (List Int)} {t : Int} : ∀ {rows : List PV}, rows.all (rowB lots t) = true → ∃ rs : List T3, rows = rs.map t3 ∧ ∀ r ∈ rs, Ok3 lots t r
  | [], _ => ⟨[], rfl, fun _ h => absurd h List.not_mem_nil⟩
  | r :: rows, h => by
    rw [List.all_cons, Bool.and_eq_true] at h
    obtain ⟨rs, e, k⟩ := rows_all h.2
    have h1 := h.1
    unfold rowB at h1
    obtain ⟨q, e1, k1⟩ := of_decide_eq_true h1
    exact ⟨q :: rs, by rw [List.map_cons, e, e1], fun r hr => by
      rcases List.mem_cons.mp hr with rfl | hr
      · exact k1
      · exact k r hr⟩
theorem rows_not {lots : List (List Int)} {t : Int} {rows : List PV} (h : ¬ rows.all (rowB lots t) = true) (rs : List T3) (e : PV.tup rows = .tup (rs.map t3)) : ¬ ∀ r ∈ rs, Ok3 lots t r := fun ok => h (by
  injection e with e
  rw [e, List.all_map, List.all_eq_true]
  intro r hr
  exact (rowB_of (.inl ⟨r, rfl, ok r hr, rfl⟩)).symm)
theorem t3s_inj {rs rs' : List T3} (h : rs.map t3 = rs'.map t3) : rs = rs' := by
  induction rs generalizing rs' with
  | nil => cases rs' with
    | nil => rfl
    | cons _ _ => cases h
  | cons a rs ih => cases rs' with
    | nil => cases h
    | cons b rs' =>
      rw [List.map_cons, List.map_cons] at h
      injection h with h1 h2
      rw [t3_inj h1, ih h2]
def sp_is_tolls : PM.Spec := fun ps P => ∃ (lots : List (List Int)) (t : Int) (costs : List Int) (v : PV), ps = [crs lots, .int t, tI costs, v] ∧ Good lots ∧ costs.length + 1 = lots.length ∧ Dom v ∧ ∀ b, TollsOk lots t costs v b → P (.bl b)
theorem h_is_tolls (ps : List PV) (Q : PV → Prop) (h : sp_is_tolls ps Q) : t_is_tolls sp_is_asc3 sp_is_toll sp_tolls_at { nx := fun _ => nxOf .cl Q, rt := Q } (startE n_is_tolls.length ps) := by
  obtain ⟨lots, t, costs, v, rfl, hg, hc, hv, h⟩ := h
  have hs := hg.small
  show t_is_tolls _ _ _ _ [some (crs lots), some (.int t), some (tI costs), some v, none]
  unfold t_is_tolls
  try simp only [s_mVar0, s_mVarS, s_mVarO0, s_mVarOS, s_isObj_lst, s_isObj_dic, s_mC, s_mOp, s_mOp1, s_mB, s_mNil, s_mCons, s_mTup, s_mLst, s_mCall, s_mTB, s_mNot, s_mAnd, s_mOr, s_mAndV, s_mOrV, s_mIf, s_mYes, s_mSl, s_mNo, s_mPart, s_mLc, s_mItems, s_mRng1, s_mRng2, s_mEnum, s_mChain, s_seqT, s_seqL, s_sNext, s_sSeq, s_sIf, s_sSet, s_sRet, s_sRetN, s_sBreak, s_sCont, s_sDrop, s_sPar, s_setN0, s_setNS, s_sAsg, s_sApp, s_sAug, s_sFor, s_sSrc, s_gmN, s_gmT, s_gmCons, s_gmNil, s_wipe0, s_wipeS, s_oSub, s_oAddI, s_oAdd, s_oLt, s_oLe, s_oGt, s_oGe, s_oNeg, s_oNot, s_oMul, s_oMulW, s_oMod, s_oFdiv, s_oPow, s_oIsN, s_oNotN, s_oIsB, s_oNotB, s_isNon_int, s_isNon_non, s_isNon_bl, s_isNon_str, s_isNon_tup, s_isNon_lst, s_isNon_dic, s_oEqI, s_oNeI, s_oIxT, s_oIxL, s_oSlT, s_oSlL, s_oRevT, s_oRevL, s_oInt, s_oIntB, s_oAbs, s_oMax2, s_oMin2, s_oLen, s_plenT, s_plenL, s_plenD, s_plenS, s_oTupleL, s_oTupleT, s_oListL, s_oListT, List.set_cons_succ, List.set_cons_zero, List.append_nil, true_and, x_bl, x_int, x_some, x_addT, x_addL, x_true, x_false]
  have notup : (∀ rows, v ≠ .tup rows) → Q (.bl false) := fun k => h false (.inr ⟨fun rs e => absurd e (k _), rfl⟩)
  have hlen : (lots.length : Int) - 1 = (costs.length : Nat) := by omega
  rw [List.length_map, hlen, Int.toNat_natCast]
  refine oIsi_b known_tuple hv.ty ⟨_, rfl, ?_⟩
  have hd := hv.rows
  have ht := hv.ty
  cases v with
  | tup rows =>
    refine ite_f (by show ¬ (!true) = true; decide) ⟨rows, rfl, ?_⟩
    obtain ⟨h1, h2⟩ := hd rows rfl
    refine comp_self (f := fun r => .bl (rowB lots t r)) (fun r hr => ⟨_, fun k hk => s_gmN.mpr hk, fun Q hQ => hQ, fun Q hQ => ?_⟩) (line (by omega)) (oAll_map (b := rowB lots t) ?_)
    · obtain ⟨xs, rfl, k1, k2⟩ := h2 r hr
      try simp only [s_mVar0, s_mVarS, s_mVarO0, s_mVarOS, s_isObj_lst, s_isObj_dic, s_mC, s_mOp, s_mOp1, s_mB, s_mNil, s_mCons, s_mTup, s_mLst, s_mCall, s_mTB, s_mNot, s_mAnd, s_mOr, s_mAndV, s_mOrV, s_mIf, s_mYes, s_mSl, s_mNo, s_mPart, s_mLc, s_mItems, s_mRng1, s_mRng2, s_mEnum, s_mChain, s_seqT, s_seqL, s_sNext, s_sSeq, s_sIf, s_sSet, s_sRet, s_sRetN, s_sBreak, s_sCont, s_sDrop, s_sPar, s_setN0, s_setNS, s_sAsg, s_sApp, s_sAug, s_sFor, s_sSrc, s_gmN, s_gmT, s_gmCons, s_gmNil, s_wipe0, s_wipeS, s_oSub, s_oAddI, s_oAdd, s_oLt, s_oLe, s_oGt, s_oGe, s_oNeg, s_oNot, s_oMul, s_oMulW, s_oMod, s_oFdiv, s_oPow, s_oIsN, s_oNotN, s_oIsB, s_oNotB, s_isNon_int, s_isNon_non, s_isNon_bl, s_isNon_str, s_isNon_tup, s_isNon_lst, s_isNon_dic, s_oEqI, s_oNeI, s_oIxT, s_oIxL, s_oSlT, s_oSlL, s_oRevT, s_oRevL, s_oInt, s_oIntB, s_oAbs, s_oMax2, s_oMin2, s_oLen, s_plenT, s_plenL, s_plenD, s_plenS, s_oTupleL, s_oTupleT, s_oListL, s_oListT, List.set_cons_succ, List.set_cons_zero, List.append_nil, true_and, x_bl, x_int, x_some, x_addT, x_addL, x_true, x_false]
      exact ⟨lots, t, xs, rfl, hg, k1, k2, fun b hb => by rw [rowB_of hb]; exact hQ⟩
    · by_cases c : rows.all (rowB lots t) = true
      case neg => exact ⟨_, rfl, ite_t (by simpa using c) (h false (.inr ⟨fun rs e => rows_not c rs e, rfl⟩))⟩
      rw [c]
      refine ⟨_, rfl, ite_f (by decide) ?_⟩
      obtain ⟨rs, rfl, ok⟩ := rows_all c
      rw [List.length_map] at h1
      refine ⟨rs, rfl, h1, _, rfl, ?_⟩
      have hb : ∀ b, b = (ascB rs && fitsB costs rs) → Q (.bl b) := fun b e => h b (.inl ⟨rs, rfl, ok, e⟩)
      by_cases ca : ascB rs = true
      · refine ite_t ca ⟨by omega, ?_⟩
        rw [rngP_rng]
        refine comp_map (emb := PV.int) (f := fun i => .bl (decide (paid rs i ≤ cost costs i.toNat))) (fun i hi => ⟨_, fun k hk => s_gmN.mpr hk, fun Q hQ => hQ, fun Q hQ => ?_⟩) (line (by rw [rng_len]; omega)) (oAll_map (b := fun i => decide (paid rs i ≤ cost costs i.toNat)) ?_)
        · obtain ⟨i0, i1⟩ := rng_mem hi
          try simp only [s_mVar0, s_mVarS, s_mVarO0, s_mVarOS, s_isObj_lst, s_isObj_dic, s_mC, s_mOp, s_mOp1, s_mB, s_mNil, s_mCons, s_mTup, s_mLst, s_mCall, s_mTB, s_mNot, s_mAnd, s_mOr, s_mAndV, s_mOrV, s_mIf, s_mYes, s_mSl, s_mNo, s_mPart, s_mLc, s_mItems, s_mRng1, s_mRng2, s_mEnum, s_mChain, s_seqT, s_seqL, s_sNext, s_sSeq, s_sIf, s_sSet, s_sRet, s_sRetN, s_sBreak, s_sCont, s_sDrop, s_sPar, s_setN0, s_setNS, s_sAsg, s_sApp, s_sAug, s_sFor, s_sSrc, s_gmN, s_gmT, s_gmCons, s_gmNil, s_wipe0, s_wipeS, s_oSub, s_oAddI, s_oAdd, s_oLt, s_oLe, s_oGt, s_oGe, s_oNeg, s_oNot, s_oMul, s_oMulW, s_oMod, s_oFdiv, s_oPow, s_oIsN, s_oNotN, s_oIsB, s_oNotB, s_isNon_int, s_isNon_non, s_isNon_bl, s_isNon_str, s_isNon_tup, s_isNon_lst, s_isNon_dic, s_oEqI, s_oNeI, s_oIxT, s_oIxL, s_oSlT, s_oSlL, s_oRevT, s_oRevL, s_oInt, s_oIntB, s_oAbs, s_oMax2, s_oMin2, s_oLen, s_plenT, s_plenL, s_plenD, s_plenS, s_oTupleL, s_oTupleT, s_oListL, s_oListT, List.set_cons_succ, List.set_cons_zero, List.append_nil, true_and, x_bl, x_int, x_some, x_addT, x_addL, x_true, x_false]
          refine ⟨rs, i, rfl, h1, ?_⟩
          have := cost_at (costs := costs) (i := i.toNat) (by omega)
          rw [Int.toNat_of_nonneg i0] at this
          refine ⟨_, this, ?_⟩
          try simp only [s_mVar0, s_mVarS, s_mVarO0, s_mVarOS, s_isObj_lst, s_isObj_dic, s_mC, s_mOp, s_mOp1, s_mB, s_mNil, s_mCons, s_mTup, s_mLst, s_mCall, s_mTB, s_mNot, s_mAnd, s_mOr, s_mAndV, s_mOrV, s_mIf, s_mYes, s_mSl, s_mNo, s_mPart, s_mLc, s_mItems, s_mRng1, s_mRng2, s_mEnum, s_mChain, s_seqT, s_seqL, s_sNext, s_sSeq, s_sIf, s_sSet, s_sRet, s_sRetN, s_sBreak, s_sCont, s_sDrop, s_sPar, s_setN0, s_setNS, s_sAsg, s_sApp, s_sAug, s_sFor, s_sSrc, s_gmN, s_gmT, s_gmCons, s_gmNil, s_wipe0, s_wipeS, s_oSub, s_oAddI, s_oAdd, s_oLt, s_oLe, s_oGt, s_oGe, s_oNeg, s_oNot, s_oMul, s_oMulW, s_oMod, s_oFdiv, s_oPow, s_oIsN, s_oNotN, s_oIsB, s_oNotB, s_isNon_int, s_isNon_non, s_isNon_bl, s_isNon_str, s_isNon_tup, s_isNon_lst, s_isNon_dic, s_oEqI, s_oNeI, s_oIxT, s_oIxL, s_oSlT, s_oSlL, s_oRevT, s_oRevL, s_oInt, s_oIntB, s_oAbs, s_oMax2, s_oMin2, s_oLen, s_plenT, s_plenL, s_plenD, s_plenS, s_oTupleL, s_oTupleT, s_oListL, s_oListT, List.set_cons_succ, List.set_cons_zero, List.append_nil, true_and, x_bl, x_int, x_some, x_addT, x_addL, x_true, x_false]
          exact hQ
        · exact hb _ (by rw [ca, Bool.true_and]; rfl)
      · exact ite_f ca (hb false (by rw [Bool.not_eq_true] at ca; rw [ca]; rfl))
  | bl _ => exact ite_t rfl (ite_t trivial (notup (fun _ e => by cases e)))
  | int _ => exact ite_t rfl (ite_t trivial (notup (fun _ e => by cases e)))
  | non => exact ite_t rfl (ite_t trivial (notup (fun _ e => by cases e)))
  | str _ => exact ite_t rfl (ite_t trivial (notup (fun _ e => by cases e)))
  | lst _ => exact ite_t rfl (ite_t trivial (notup (fun _ e => by cases e)))
  | dic _ _ => exact ite_t rfl (ite_t trivial (notup (fun _ e => by cases e)))
  | _ => cases ht
end K45

set_option maxHeartbeats 2000000
namespace K45
open PySem L2 PM
/-! ### equality of whole numbers in a row -/
theorem toDs_ints (l : List Int) : toDs (l.map PV.int) = some (l.map PyData.int) := toDs_map (fun _ => rfl) l
theorem eqv_ints : ∀ l m : List Int, PyData.eqvAll (l.map PyData.int) (m.map PyData.int) = decide (l = m)
  | [], [] => rfl
  | [], _ :: _ => rfl
  | _ :: _, [] => rfl
  | a :: l, b :: m => by
    have ih := eqv_ints l m
    show ((a == b) && PyData.eqvAll (l.map PyData.int) (m.map PyData.int)) = _
    rw [ih]
    by_cases h : a = b <;> by_cases h2 : l = m <;> simp [h, h2]
theorem lay_ints : ∀ l : List Int, PyData.canLayAll0 (l.map PyData.int) = true
  | [] => rfl
  | _ :: l => by
    show (true && PyData.canLayAll0 (l.map PyData.int)) = true
    rw [lay_ints l]; rfl
theorem dep_ints : ∀ l : List Int, PyData.depthAll (l.map PyData.int) = 0
  | [] => rfl
  | _ :: l => by
    show max 0 (PyData.depthAll (l.map PyData.int)) = 0
    rw [dep_ints l]; rfl
theorem toD_tI (l : List Int) : toD (tI l) = some (.tuple (l.map PyData.int)) := by
  show (toDs (l.map PV.int)).map PyData.tuple = _
  rw [toDs_ints]; rfl
theorem toD_lI (l : List Int) : toD (lI l) = some (.list (l.map PyData.int)) := by
  show (toDs (l.map PV.int)).map PyData.list = _
  rw [toDs_ints]; rfl
theorem sh_tI (l : List Int) : SeqAt.shaped (.tuple (l.map PyData.int)) = true := by
  unfold SeqAt.shaped
  rw [Bool.and_eq_true]
  exact ⟨lay_ints l, decide_eq_true (by show PyData.depthAll (l.map PyData.int) + 1 ≤ 64; rw [dep_ints]; decide)⟩
theorem sh_lI (l : List Int) : SeqAt.shaped (.list (l.map PyData.int)) = true := by
  unfold SeqAt.shaped
  rw [Bool.and_eq_true]
  exact ⟨lay_ints l, decide_eq_true (by show PyData.depthAll (l.map PyData.int) + 1 ≤ 64; rw [dep_ints]; decide)⟩
section
variable {l m : List Int} {P : PV → Prop}
theorem eq_T (h : P (.bl (decide (l = m)))) : oEq (tI l) (tI m) P := ⟨_, _, toD_tI l, toD_tI m, sh_tI l, sh_tI m, by show P (.bl (PyData.eqvAll _ _)); rw [eqv_ints]; exact h⟩
theorem ne_T (h : P (.bl (!decide (l = m)))) : oNe (tI l) (tI m) P := ⟨_, _, toD_tI l, toD_tI m, sh_tI l, sh_tI m, by show P (.bl (!PyData.eqvAll _ _)); rw [eqv_ints]; exact h⟩
theorem eq_L (h : P (.bl (decide (l = m)))) : oEq (lI l) (lI m) P := ⟨_, _, toD_lI l, toD_lI m, sh_lI l, sh_lI m, by show P (.bl (PyData.eqvAll _ _)); rw [eqv_ints]; exact h⟩
theorem ne_L (h : P (.bl (!decide (l = m)))) : oNe (lI l) (lI m) P := ⟨_, _, toD_lI l, toD_lI m, sh_lI l, sh_lI m, by show P (.bl (!PyData.eqvAll _ _)); rw [eqv_ints]; exact h⟩
end
def Asc (xs : List Int) : Prop := xs.Pairwise (· < ·)
theorem asc_ext : ∀ {xs ys : List Int}, Asc xs → Asc ys → (∀ k, k ∈ ys ↔ k ∈ xs) → ys = xs
  | [], ys, _, _, h => by
    cases ys with
    | nil => rfl
    | cons y ys => exact absurd ((h y).mp (List.mem_cons_self ..)) (by simp)
  | x :: xs, [], _, _, h => absurd ((h x).mpr (List.mem_cons_self ..)) (by simp)
  | x :: xs, y :: ys, hx, hy, h => by
    obtain ⟨hx1, hx2⟩ := List.pairwise_cons.mp hx
    obtain ⟨hy1, hy2⟩ := List.pairwise_cons.mp hy
    have e : y = x := by
      have a := (h y).mp (List.mem_cons_self ..)
      have b := (h x).mpr (List.mem_cons_self ..)
      rcases List.mem_cons.mp a with a | a
      · exact a
      · rcases List.mem_cons.mp b with b | b
        · exact b.symm
        · have := hx1 y a; have := hy1 x b; omega
    subst e
    rw [asc_ext hx2 hy2 fun k => ?_]
    constructor
    · intro hk
      rcases List.mem_cons.mp ((h k).mp (List.mem_cons_of_mem _ hk)) with z | z
      · subst z; exact absurd (hy1 _ hk) (by omega)
      · exact z
    · intro hk
      rcases List.mem_cons.mp ((h k).mpr (List.mem_cons_of_mem _ hk)) with z | z
      · subst z; exact absurd (hx1 _ hk) (by omega)
      · exact z
/-! ### counted -/
def sp_l_counted : PM.Spec := fun ps P => ∃ (n : Nat), ps = [.src, .int n] ∧ n ≤ 100 ∧ ∀ lots, Good lots → lots.length = n → P (crs lots)
theorem h_l_counted (ps : List PV) (Q : PV → Prop) (h : sp_l_counted ps Q) : t_l_counted sp_pick sp_some sp_drw { nx := fun _ => nxOf .cl Q, rt := Q } (startE n_l_counted.length ps) := by
  obtain ⟨n, rfl, hn, h⟩ := h
  show t_l_counted _ _ _ _ [some .src, some (.int n), none, none, none, none, none, none]
  unfold t_l_counted
  try simp only [s_mVar0, s_mVarS, s_mVarO0, s_mVarOS, s_isObj_lst, s_isObj_dic, s_mC, s_mOp, s_mOp1, s_mB, s_mNil, s_mCons, s_mTup, s_mLst, s_mCall, s_mTB, s_mNot, s_mAnd, s_mOr, s_mAndV, s_mOrV, s_mIf, s_mYes, s_mSl, s_mNo, s_mPart, s_mLc, s_mItems, s_mRng1, s_mRng2, s_mEnum, s_mChain, s_seqT, s_seqL, s_sNext, s_sSeq, s_sIf, s_sSet, s_sRet, s_sRetN, s_sBreak, s_sCont, s_sDrop, s_sPar, s_setN0, s_setNS, s_sAsg, s_sApp, s_sAug, s_sFor, s_sSrc, s_gmN, s_gmT, s_gmCons, s_gmNil, s_wipe0, s_wipeS, s_oSub, s_oAddI, s_oAdd, s_oLt, s_oLe, s_oGt, s_oGe, s_oNeg, s_oNot, s_oMul, s_oMulW, s_oMod, s_oFdiv, s_oPow, s_oIsN, s_oNotN, s_oIsB, s_oNotB, s_isNon_int, s_isNon_non, s_isNon_bl, s_isNon_str, s_isNon_tup, s_isNon_lst, s_isNon_dic, s_oEqI, s_oNeI, s_oIxT, s_oIxL, s_oSlT, s_oSlL, s_oRevT, s_oRevL, s_oInt, s_oIntB, s_oAbs, s_oMax2, s_oMin2, s_oLen, s_plenT, s_plenL, s_plenD, s_plenS, s_oTupleL, s_oTupleT, s_oListL, s_oListT, List.set_cons_succ, List.set_cons_zero, List.append_nil, true_and]
  refine ⟨line (by simp), _, _, rfl, .inl rfl, by simp, by simp, ?_⟩
  intro x hx
  obtain ⟨many, rfl, m0, m24⟩ : ∃ k : Nat, x = .int k ∧ 0 < k ∧ k ≤ 24 := by
    simp at hx
    rcases hx with rfl | rfl | rfl | rfl | rfl
    · exact ⟨2, rfl, by decide, by decide⟩
    · exact ⟨4, rfl, by decide, by decide⟩
    · exact ⟨6, rfl, by decide, by decide⟩
    · exact ⟨9, rfl, by decide, by decide⟩
    · exact ⟨24, rfl, by decide, by decide⟩
  refine ⟨_, rfl, by omega, ?_⟩
  rw [Int.toNat_natCast, rngP_rng]
  refine comp_map (f := .int) (fun x hx => ⟨_, fun k hk => s_gmN.mpr hk, fun Q hQ => hQ, fun Q hQ => ?_⟩) (by rw [rng_len]; exact line (by omega)) ?_
  · show mVar 7 [some .src, some (.int n), some (.int many), none, none, none, none, some (.int x)] Q
    try simp only [s_mVar0, s_mVarS, s_mVarO0, s_mVarOS, s_isObj_lst, s_isObj_dic, s_mC, s_mOp, s_mOp1, s_mB, s_mNil, s_mCons, s_mTup, s_mLst, s_mCall, s_mTB, s_mNot, s_mAnd, s_mOr, s_mAndV, s_mOrV, s_mIf, s_mYes, s_mSl, s_mNo, s_mPart, s_mLc, s_mItems, s_mRng1, s_mRng2, s_mEnum, s_mChain, s_seqT, s_seqL, s_sNext, s_sSeq, s_sIf, s_sSet, s_sRet, s_sRetN, s_sBreak, s_sCont, s_sDrop, s_sPar, s_setN0, s_setNS, s_sAsg, s_sApp, s_sAug, s_sFor, s_sSrc, s_gmN, s_gmT, s_gmCons, s_gmNil, s_wipe0, s_wipeS, s_oSub, s_oAddI, s_oAdd, s_oLt, s_oLe, s_oGt, s_oGe, s_oNeg, s_oNot, s_oMul, s_oMulW, s_oMod, s_oFdiv, s_oPow, s_oIsN, s_oNotN, s_oIsB, s_oNotB, s_isNon_int, s_isNon_non, s_isNon_bl, s_isNon_str, s_isNon_tup, s_isNon_lst, s_isNon_dic, s_oEqI, s_oNeI, s_oIxT, s_oIxL, s_oSlT, s_oSlL, s_oRevT, s_oRevL, s_oInt, s_oIntB, s_oAbs, s_oMax2, s_oMin2, s_oLen, s_plenT, s_plenL, s_plenD, s_plenS, s_oTupleL, s_oTupleT, s_oListL, s_oListT, List.set_cons_succ, List.set_cons_zero, List.append_nil, true_and]; exact hQ
  refine ⟨Nat.zero_le _, ?_⟩
  refine ⟨fun k e => ∃ (ls : List (List Int)) (y5 y6 y7 : Option PV), (∀ l ∈ ls, l.Nodup ∧ ∀ x ∈ l, 0 ≤ x ∧ x < 24) ∧ ls.length ≤ n + 5 ∧ k = n - ls.length ∧ e = [some .src, some (.int n), some (.int many), some (lI (rng many)), some (.lst (ls.map tI)), y5, y6, y7], ⟨n, [], none, none, none, (fun _ h => by cases h), by simp, by simp, rfl⟩, ?_⟩
  rintro k e ⟨ls, y5, y6, y7, hls, hlen, rfl, rfl⟩
  try simp only [s_mVar0, s_mVarS, s_mVarO0, s_mVarOS, s_isObj_lst, s_isObj_dic, s_mC, s_mOp, s_mOp1, s_mB, s_mNil, s_mCons, s_mTup, s_mLst, s_mCall, s_mTB, s_mNot, s_mAnd, s_mOr, s_mAndV, s_mOrV, s_mIf, s_mYes, s_mSl, s_mNo, s_mPart, s_mLc, s_mItems, s_mRng1, s_mRng2, s_mEnum, s_mChain, s_seqT, s_seqL, s_sNext, s_sSeq, s_sIf, s_sSet, s_sRet, s_sRetN, s_sBreak, s_sCont, s_sDrop, s_sPar, s_setN0, s_setNS, s_sAsg, s_sApp, s_sAug, s_sFor, s_sSrc, s_gmN, s_gmT, s_gmCons, s_gmNil, s_wipe0, s_wipeS, s_oSub, s_oAddI, s_oAdd, s_oLt, s_oLe, s_oGt, s_oGe, s_oNeg, s_oNot, s_oMul, s_oMulW, s_oMod, s_oFdiv, s_oPow, s_oIsN, s_oNotN, s_oIsB, s_oNotB, s_isNon_int, s_isNon_non, s_isNon_bl, s_isNon_str, s_isNon_tup, s_isNon_lst, s_isNon_dic, s_oEqI, s_oNeI, s_oIxT, s_oIxL, s_oSlT, s_oSlL, s_oRevT, s_oRevL, s_oInt, s_oIntB, s_oAbs, s_oMax2, s_oMin2, s_oLen, s_plenT, s_plenL, s_plenD, s_plenS, s_oTupleL, s_oTupleT, s_oListL, s_oListT, List.set_cons_succ, List.set_cons_zero, List.append_nil, true_and]
  refine ⟨_, rfl, _, rfl, ?_⟩
  rw [List.length_map]
  by_cases hc : (ls.length : Int) < n
  · rw [decide_eq_true hc, if_pos rfl]
    try simp only [s_mVar0, s_mVarS, s_mVarO0, s_mVarOS, s_isObj_lst, s_isObj_dic, s_mC, s_mOp, s_mOp1, s_mB, s_mNil, s_mCons, s_mTup, s_mLst, s_mCall, s_mTB, s_mNot, s_mAnd, s_mOr, s_mAndV, s_mOrV, s_mIf, s_mYes, s_mSl, s_mNo, s_mPart, s_mLc, s_mItems, s_mRng1, s_mRng2, s_mEnum, s_mChain, s_seqT, s_seqL, s_sNext, s_sSeq, s_sIf, s_sSet, s_sRet, s_sRetN, s_sBreak, s_sCont, s_sDrop, s_sPar, s_setN0, s_setNS, s_sAsg, s_sApp, s_sAug, s_sFor, s_sSrc, s_gmN, s_gmT, s_gmCons, s_gmNil, s_wipe0, s_wipeS, s_oSub, s_oAddI, s_oAdd, s_oLt, s_oLe, s_oGt, s_oGe, s_oNeg, s_oNot, s_oMul, s_oMulW, s_oMod, s_oFdiv, s_oPow, s_oIsN, s_oNotN, s_oIsB, s_oNotB, s_isNon_int, s_isNon_non, s_isNon_bl, s_isNon_str, s_isNon_tup, s_isNon_lst, s_isNon_dic, s_oEqI, s_oNeI, s_oIxT, s_oIxL, s_oSlT, s_oSlL, s_oRevT, s_oRevL, s_oInt, s_oIntB, s_oAbs, s_oMax2, s_oMin2, s_oLen, s_plenT, s_plenL, s_plenD, s_plenS, s_oTupleL, s_oTupleT, s_oListL, s_oListT, List.set_cons_succ, List.set_cons_zero, List.append_nil, true_and]
    refine ⟨line (by simp), _, _, rfl, .inl rfl, by simp, by simp, fun x hx => ?_⟩
    obtain ⟨pk, rfl, p1⟩ : ∃ pk : Nat, x = .int pk ∧ 0 < pk := by
      simp at hx
      rcases hx with rfl | rfl | rfl | rfl
      · exact ⟨1, rfl, by decide⟩
      · exact ⟨2, rfl, by decide⟩
      · exact ⟨3, rfl, by decide⟩
      · exact ⟨5, rfl, by decide⟩
    refine s_oMin2.mpr (s_oAdd.mpr ?_)
    obtain ⟨q, eq, q0, qm⟩ : ∃ q : Nat, (if (pk : Int) < many then (pk : Int) else many) = q ∧ 0 < q ∧ q ≤ many := by
      by_cases z : (pk : Int) < many
      · exact ⟨pk, if_pos z, p1, by omega⟩
      · exact ⟨many, if_neg z, m0, Nat.le_refl _⟩
    rw [eq]
    refine ⟨_, rfl, by omega, by omega, fun r hr hr2 => ⟨lI (rng many), (rng many).map PV.int, r.toNat, by rw [Int.toNat_of_nonneg hr], .inl rfl, by rw [List.length_map, rng_len]; omega, by rw [List.length_map, rng_len]; omega, fun ys hsub hyl => ?_⟩⟩
    obtain ⟨lot, hls2, rfl⟩ := List.sublist_map_iff.mp hsub
    have hlot : lot.Nodup ∧ ∀ x ∈ lot, 0 ≤ x ∧ x < 24 := ⟨hls2.nodup rng_nodup, fun x hx => by obtain ⟨a, b⟩ := mem_rng.mp (hls2.subset hx); omega⟩
    refine ⟨line (by simp), _, _, rfl, .inl rfl, by simp, by simp, fun x hx => ?_⟩
    obtain ⟨c, rfl, c1, c5⟩ : ∃ c : Nat, x = .int c ∧ 1 ≤ c ∧ c ≤ 5 := by
      simp at hx
      rcases hx with rfl | rfl | rfl
      · exact ⟨1, rfl, by decide, by decide⟩
      · exact ⟨2, rfl, by decide, by decide⟩
      · exact ⟨5, rfl, by decide, by decide⟩
    refine ⟨_, rfl, by omega, ?_⟩
    rw [Int.toNat_natCast, rngP_rng]
    have hrep : ∀ i, ∀ l ∈ ls ++ List.replicate i lot, l.Nodup ∧ ∀ x ∈ l, 0 ≤ x ∧ x < 24 := fun i l hl => by
      rcases List.mem_append.mp hl with z | z
      · exact hls l z
      · rw [(List.mem_replicate.mp z).2]; exact hlot
    refine for_inv (fun i e => i ≤ c ∧ ∃ y6, e = [some .src, some (.int n), some (.int many), some (lI (rng many)), some (.lst ((ls ++ List.replicate i lot).map tI)), some (tI lot), y6, y7]) ⟨Nat.zero_le _, y6, by rw [List.replicate_zero, List.append_nil]⟩ (fun i x e N hx hE hN => ?_) (fun e hE => ?_)
    · obtain ⟨hi, y6, rfl⟩ := hE
      have hic : i < c := by have := (List.getElem?_eq_some_iff.mp hx).1; rw [rng_len] at this; exact this
      rw [s_gmN]
      try simp only [s_mVar0, s_mVarS, s_mVarO0, s_mVarOS, s_isObj_lst, s_isObj_dic, s_mC, s_mOp, s_mOp1, s_mB, s_mNil, s_mCons, s_mTup, s_mLst, s_mCall, s_mTB, s_mNot, s_mAnd, s_mOr, s_mAndV, s_mOrV, s_mIf, s_mYes, s_mSl, s_mNo, s_mPart, s_mLc, s_mItems, s_mRng1, s_mRng2, s_mEnum, s_mChain, s_seqT, s_seqL, s_sNext, s_sSeq, s_sIf, s_sSet, s_sRet, s_sRetN, s_sBreak, s_sCont, s_sDrop, s_sPar, s_setN0, s_setNS, s_sAsg, s_sApp, s_sAug, s_sFor, s_sSrc, s_gmN, s_gmT, s_gmCons, s_gmNil, s_wipe0, s_wipeS, s_oSub, s_oAddI, s_oAdd, s_oLt, s_oLe, s_oGt, s_oGe, s_oNeg, s_oNot, s_oMul, s_oMulW, s_oMod, s_oFdiv, s_oPow, s_oIsN, s_oNotN, s_oIsB, s_oNotB, s_isNon_int, s_isNon_non, s_isNon_bl, s_isNon_str, s_isNon_tup, s_isNon_lst, s_isNon_dic, s_oEqI, s_oNeI, s_oIxT, s_oIxL, s_oSlT, s_oSlL, s_oRevT, s_oRevL, s_oInt, s_oIntB, s_oAbs, s_oMax2, s_oMin2, s_oLen, s_plenT, s_plenL, s_plenD, s_plenS, s_oTupleL, s_oTupleT, s_oListL, s_oListT, List.set_cons_succ, List.set_cons_zero, List.append_nil, true_and]
      refine ⟨_, rfl, ?_⟩
      try simp only [s_mVar0, s_mVarS, s_mVarO0, s_mVarOS, s_isObj_lst, s_isObj_dic, s_mC, s_mOp, s_mOp1, s_mB, s_mNil, s_mCons, s_mTup, s_mLst, s_mCall, s_mTB, s_mNot, s_mAnd, s_mOr, s_mAndV, s_mOrV, s_mIf, s_mYes, s_mSl, s_mNo, s_mPart, s_mLc, s_mItems, s_mRng1, s_mRng2, s_mEnum, s_mChain, s_seqT, s_seqL, s_sNext, s_sSeq, s_sIf, s_sSet, s_sRet, s_sRetN, s_sBreak, s_sCont, s_sDrop, s_sPar, s_setN0, s_setNS, s_sAsg, s_sApp, s_sAug, s_sFor, s_sSrc, s_gmN, s_gmT, s_gmCons, s_gmNil, s_wipe0, s_wipeS, s_oSub, s_oAddI, s_oAdd, s_oLt, s_oLe, s_oGt, s_oGe, s_oNeg, s_oNot, s_oMul, s_oMulW, s_oMod, s_oFdiv, s_oPow, s_oIsN, s_oNotN, s_oIsB, s_oNotB, s_isNon_int, s_isNon_non, s_isNon_bl, s_isNon_str, s_isNon_tup, s_isNon_lst, s_isNon_dic, s_oEqI, s_oNeI, s_oIxT, s_oIxL, s_oSlT, s_oSlL, s_oRevT, s_oRevL, s_oInt, s_oIntB, s_oAbs, s_oMax2, s_oMin2, s_oLen, s_plenT, s_plenL, s_plenD, s_plenS, s_oTupleL, s_oTupleT, s_oListL, s_oListT, List.set_cons_succ, List.set_cons_zero, List.append_nil, true_and]
      refine ⟨?_, hN _ ⟨hic, some (.int x), ?_⟩⟩
      · rw [List.length_map, List.length_append, List.length_replicate]; exact small_line (by omega)
      · rw [List.replicate_succ', ← List.append_assoc, List.map_append (l₂ := [lot])]
        rfl
    · obtain ⟨hi, y6, rfl⟩ := hE
      rw [rng_len]
      refine ⟨n - (ls ++ List.replicate c lot).length, ?_, ls ++ List.replicate c lot, _, _, _, hrep c, ?_, rfl, rfl⟩
      · rw [List.length_append, List.length_replicate]; omega
      · rw [List.length_append, List.length_replicate]; omega
  · rw [decide_eq_false hc, if_neg Bool.false_ne_true]
    try simp only [s_mVar0, s_mVarS, s_mVarO0, s_mVarOS, s_isObj_lst, s_isObj_dic, s_mC, s_mOp, s_mOp1, s_mB, s_mNil, s_mCons, s_mTup, s_mLst, s_mCall, s_mTB, s_mNot, s_mAnd, s_mOr, s_mAndV, s_mOrV, s_mIf, s_mYes, s_mSl, s_mNo, s_mPart, s_mLc, s_mItems, s_mRng1, s_mRng2, s_mEnum, s_mChain, s_seqT, s_seqL, s_sNext, s_sSeq, s_sIf, s_sSet, s_sRet, s_sRetN, s_sBreak, s_sCont, s_sDrop, s_sPar, s_setN0, s_setNS, s_sAsg, s_sApp, s_sAug, s_sFor, s_sSrc, s_gmN, s_gmT, s_gmCons, s_gmNil, s_wipe0, s_wipeS, s_oSub, s_oAddI, s_oAdd, s_oLt, s_oLe, s_oGt, s_oGe, s_oNeg, s_oNot, s_oMul, s_oMulW, s_oMod, s_oFdiv, s_oPow, s_oIsN, s_oNotN, s_oIsB, s_oNotB, s_isNon_int, s_isNon_non, s_isNon_bl, s_isNon_str, s_isNon_tup, s_isNon_lst, s_isNon_dic, s_oEqI, s_oNeI, s_oIxT, s_oIxL, s_oSlT, s_oSlL, s_oRevT, s_oRevL, s_oInt, s_oIntB, s_oAbs, s_oMax2, s_oMin2, s_oLen, s_plenT, s_plenL, s_plenD, s_plenS, s_oTupleL, s_oTupleT, s_oListL, s_oListT, List.set_cons_succ, List.set_cons_zero, List.append_nil, true_and]
    refine ⟨_, rfl, ?_⟩
    rw [cutP_map]
    have e : (ls.drop (HT.sIx ls.length 0 none)).take (HT.sIx ls.length ls.length (some (n : Int)) - HT.sIx ls.length 0 none) = ls.take n := by
      rw [HT.sIx_none, HT.sIx_nat]
      show (ls.drop 0).take (min n ls.length - 0) = _
      rw [List.drop_zero, Nat.sub_zero, show min n ls.length = n by omega]
    rw [e]
    refine h _ ⟨by rw [List.length_take]; omega, fun l hl => hls l (List.mem_of_mem_take hl)⟩ (by rw [List.length_take]; omega)

def sp_l_is_number : PM.Spec := fun ps P => ∃ v, ps = [v] ∧ (pty v).isSome = true ∧ P (.bl (isNat v))
theorem h_l_is_number (ps : List PV) (Q : PV → Prop) (h : sp_l_is_number ps Q) : t_l_is_number { nx := fun _ => nxOf .cl Q, rt := Q } (startE n_l_is_number.length ps) := by
  obtain ⟨v, rfl, hv, h⟩ := h
  show t_l_is_number _ [some v]
  unfold t_l_is_number
  try simp only [s_mVar0, s_mVarS, s_mVarO0, s_mVarOS, s_isObj_lst, s_isObj_dic, s_mC, s_mOp, s_mOp1, s_mB, s_mNil, s_mCons, s_mTup, s_mLst, s_mCall, s_mTB, s_mNot, s_mAnd, s_mOr, s_mAndV, s_mOrV, s_mIf, s_mYes, s_mSl, s_mNo, s_mPart, s_mLc, s_mItems, s_mRng1, s_mRng2, s_mEnum, s_mChain, s_seqT, s_seqL, s_sNext, s_sSeq, s_sIf, s_sSet, s_sRet, s_sRetN, s_sBreak, s_sCont, s_sDrop, s_sPar, s_setN0, s_setNS, s_sAsg, s_sApp, s_sAug, s_sFor, s_sSrc, s_gmN, s_gmT, s_gmCons, s_gmNil, s_wipe0, s_wipeS, s_oSub, s_oAddI, s_oAdd, s_oLt, s_oLe, s_oGt, s_oGe, s_oNeg, s_oNot, s_oMul, s_oMulW, s_oMod, s_oFdiv, s_oPow, s_oIsN, s_oNotN, s_oIsB, s_oNotB, s_isNon_int, s_isNon_non, s_isNon_bl, s_isNon_str, s_isNon_tup, s_isNon_lst, s_isNon_dic, s_oEqI, s_oNeI, s_oIxT, s_oIxL, s_oSlT, s_oSlL, s_oRevT, s_oRevL, s_oInt, s_oIntB, s_oAbs, s_oMax2, s_oMin2, s_oLen, s_plenT, s_plenL, s_plenD, s_plenS, s_oTupleL, s_oTupleT, s_oListL, s_oListT, List.set_cons_succ, List.set_cons_zero, List.append_nil, true_and, x_bl, x_int, x_some, x_addT, x_addL, x_true, x_false]
  refine oIsi_b known_int hv ⟨_, rfl, ?_⟩
  cases v with
  | int i => 
    refine ite_t rfl (oIsi_of rfl rfl ?_)
    try simp only [s_mVar0, s_mVarS, s_mVarO0, s_mVarOS, s_isObj_lst, s_isObj_dic, s_mC, s_mOp, s_mOp1, s_mB, s_mNil, s_mCons, s_mTup, s_mLst, s_mCall, s_mTB, s_mNot, s_mAnd, s_mOr, s_mAndV, s_mOrV, s_mIf, s_mYes, s_mSl, s_mNo, s_mPart, s_mLc, s_mItems, s_mRng1, s_mRng2, s_mEnum, s_mChain, s_seqT, s_seqL, s_sNext, s_sSeq, s_sIf, s_sSet, s_sRet, s_sRetN, s_sBreak, s_sCont, s_sDrop, s_sPar, s_setN0, s_setNS, s_sAsg, s_sApp, s_sAug, s_sFor, s_sSrc, s_gmN, s_gmT, s_gmCons, s_gmNil, s_wipe0, s_wipeS, s_oSub, s_oAddI, s_oAdd, s_oLt, s_oLe, s_oGt, s_oGe, s_oNeg, s_oNot, s_oMul, s_oMulW, s_oMod, s_oFdiv, s_oPow, s_oIsN, s_oNotN, s_oIsB, s_oNotB, s_isNon_int, s_isNon_non, s_isNon_bl, s_isNon_str, s_isNon_tup, s_isNon_lst, s_isNon_dic, s_oEqI, s_oNeI, s_oIxT, s_oIxL, s_oSlT, s_oSlL, s_oRevT, s_oRevL, s_oInt, s_oIntB, s_oAbs, s_oMax2, s_oMin2, s_oLen, s_plenT, s_plenL, s_plenD, s_plenS, s_oTupleL, s_oTupleT, s_oListL, s_oListT, List.set_cons_succ, List.set_cons_zero, List.append_nil, true_and, x_bl, x_int, x_some, x_addT, x_addL, x_true, x_false]
    exact h
  | bl b => 
    refine ite_t rfl (oIsi_of rfl rfl ?_)
    try simp only [s_mVar0, s_mVarS, s_mVarO0, s_mVarOS, s_isObj_lst, s_isObj_dic, s_mC, s_mOp, s_mOp1, s_mB, s_mNil, s_mCons, s_mTup, s_mLst, s_mCall, s_mTB, s_mNot, s_mAnd, s_mOr, s_mAndV, s_mOrV, s_mIf, s_mYes, s_mSl, s_mNo, s_mPart, s_mLc, s_mItems, s_mRng1, s_mRng2, s_mEnum, s_mChain, s_seqT, s_seqL, s_sNext, s_sSeq, s_sIf, s_sSet, s_sRet, s_sRetN, s_sBreak, s_sCont, s_sDrop, s_sPar, s_setN0, s_setNS, s_sAsg, s_sApp, s_sAug, s_sFor, s_sSrc, s_gmN, s_gmT, s_gmCons, s_gmNil, s_wipe0, s_wipeS, s_oSub, s_oAddI, s_oAdd, s_oLt, s_oLe, s_oGt, s_oGe, s_oNeg, s_oNot, s_oMul, s_oMulW, s_oMod, s_oFdiv, s_oPow, s_oIsN, s_oNotN, s_oIsB, s_oNotB, s_isNon_int, s_isNon_non, s_isNon_bl, s_isNon_str, s_isNon_tup, s_isNon_lst, s_isNon_dic, s_oEqI, s_oNeI, s_oIxT, s_oIxL, s_oSlT, s_oSlL, s_oRevT, s_oRevL, s_oInt, s_oIntB, s_oAbs, s_oMax2, s_oMin2, s_oLen, s_plenT, s_plenL, s_plenD, s_plenS, s_oTupleL, s_oTupleT, s_oListL, s_oListT, List.set_cons_succ, List.set_cons_zero, List.append_nil, true_and, x_bl, x_int, x_some, x_addT, x_addL, x_true, x_false]
    exact h
  | non => exact ite_f (by show ¬ false = true; decide) h
  | str _ => exact ite_f (by show ¬ false = true; decide) h
  | tup _ => exact ite_f (by show ¬ false = true; decide) h
  | lst _ => exact ite_f (by show ¬ false = true; decide) h
  | dic _ _ => exact ite_f (by show ¬ false = true; decide) h
  | _ => cases hv
theorem flat_le : ∀ (ls : List (List Int)), (∀ l ∈ ls, l.length ≤ 24) → ls.flatten.length ≤ ls.length * 24
  | [], _ => Nat.zero_le _
  | l :: ls, h => by
    have := flat_le ls fun m hm => h m (List.mem_cons_of_mem _ hm)
    have := h l (List.mem_cons_self ..)
    rw [List.flatten_cons, List.length_append, List.length_cons]
    omega
def sp_l_union : PM.Spec := fun ps P => ∃ (lots : List (List Int)) (a b : Nat), ps = [crs lots, .int a, .int b] ∧ Good lots ∧ P (.int (cnt lots a b : Nat))
theorem h_l_union (ps : List PV) (Q : PV → Prop) (h : sp_l_union ps Q) : t_l_union { nx := fun _ => nxOf .cl Q, rt := Q } (startE n_l_union.length ps) := by
  obtain ⟨lots, a, b, rfl, hg, h⟩ := h
  have hs := hg.small
  show t_l_union _ [some (crs lots), some (.int a), some (.int b), none]
  unfold t_l_union
  rw [s_sRet, s_mLenSet]
  try simp only [s_mVar0, s_mVarS, s_mVarO0, s_mVarOS, s_isObj_lst, s_isObj_dic, s_mC, s_mOp, s_mOp1, s_mB, s_mNil, s_mCons, s_mTup, s_mLst, s_mCall, s_mTB, s_mNot, s_mAnd, s_mOr, s_mAndV, s_mOrV, s_mIf, s_mYes, s_mSl, s_mNo, s_mPart, s_mLc, s_mItems, s_mRng1, s_mRng2, s_mEnum, s_mChain, s_seqT, s_seqL, s_sNext, s_sSeq, s_sIf, s_sSet, s_sRet, s_sRetN, s_sBreak, s_sCont, s_sDrop, s_sPar, s_setN0, s_setNS, s_sAsg, s_sApp, s_sAug, s_sFor, s_sSrc, s_gmN, s_gmT, s_gmCons, s_gmNil, s_wipe0, s_wipeS, s_oSub, s_oAddI, s_oAdd, s_oLt, s_oLe, s_oGt, s_oGe, s_oNeg, s_oNot, s_oMul, s_oMulW, s_oMod, s_oFdiv, s_oPow, s_oIsN, s_oNotN, s_oIsB, s_oNotB, s_isNon_int, s_isNon_non, s_isNon_bl, s_isNon_str, s_isNon_tup, s_isNon_lst, s_isNon_dic, s_oEqI, s_oNeI, s_oIxT, s_oIxL, s_oSlT, s_oSlL, s_oRevT, s_oRevL, s_oInt, s_oIntB, s_oAbs, s_oMax2, s_oMin2, s_oLen, s_plenT, s_plenL, s_plenD, s_plenS, s_oTupleL, s_oTupleT, s_oListL, s_oListT, List.set_cons_succ, List.set_cons_zero, List.append_nil, true_and, x_bl, x_int, x_some, x_addT, x_addL, x_true, x_false]
  rw [cutP_map, cut_seg]
  have hsl : (seg lots a b).length ≤ 100 := by unfold seg; rw [List.length_drop, List.length_take]; omega
  refine comp_map (f := fun l => lI l) (fun l hl => ⟨_, fun k hk => s_gmN.mpr hk, fun Q hQ => hQ, fun Q hQ => ?_⟩) (line (by omega)) ?_
  · try simp only [s_mVar0, s_mVarS, s_mVarO0, s_mVarOS, s_isObj_lst, s_isObj_dic, s_mC, s_mOp, s_mOp1, s_mB, s_mNil, s_mCons, s_mTup, s_mLst, s_mCall, s_mTB, s_mNot, s_mAnd, s_mOr, s_mAndV, s_mOrV, s_mIf, s_mYes, s_mSl, s_mNo, s_mPart, s_mLc, s_mItems, s_mRng1, s_mRng2, s_mEnum, s_mChain, s_seqT, s_seqL, s_sNext, s_sSeq, s_sIf, s_sSet, s_sRet, s_sRetN, s_sBreak, s_sCont, s_sDrop, s_sPar, s_setN0, s_setNS, s_sAsg, s_sApp, s_sAug, s_sFor, s_sSrc, s_gmN, s_gmT, s_gmCons, s_gmNil, s_wipe0, s_wipeS, s_oSub, s_oAddI, s_oAdd, s_oLt, s_oLe, s_oGt, s_oGe, s_oNeg, s_oNot, s_oMul, s_oMulW, s_oMod, s_oFdiv, s_oPow, s_oIsN, s_oNotN, s_oIsB, s_oNotB, s_isNon_int, s_isNon_non, s_isNon_bl, s_isNon_str, s_isNon_tup, s_isNon_lst, s_isNon_dic, s_oEqI, s_oNeI, s_oIxT, s_oIxL, s_oSlT, s_oSlL, s_oRevT, s_oRevL, s_oInt, s_oIntB, s_oAbs, s_oMax2, s_oMin2, s_oLen, s_plenT, s_plenL, s_plenD, s_plenS, s_oTupleL, s_oTupleT, s_oListL, s_oListT, List.set_cons_succ, List.set_cons_zero, List.append_nil, true_and, x_bl, x_int, x_some, x_addT, x_addL, x_true, x_false]
    exact hQ
  have fl := flat_le (seg lots a b) fun l hl => len_bound (n := 24) (hg.lot l (seg_mem hl)).1 (hg.lot l (seg_mem hl)).2
  have ef : ((seg lots a b).map fun l => List.map PV.int l).flatten = (seg lots a b).flatten.map PV.int := by rw [List.map_flatten]
  refine ⟨Nat.zero_le _, (seg lots a b).map (fun l => List.map PV.int l), by rw [List.map_map]; rfl, ?_, ?_⟩
  · rw [ef, List.length_map]; exact line (by omega)
  · rw [ef]
    refine ⟨_, rfl, by omega, ?_⟩
    have e : (distinct (seg lots a b).flatten).length = cnt lots a b := by
      unfold cnt
      refine Nat.le_antisymm (len_le (distinct_nodup _) fun x hx => ?_) (len_le (nodup_keys _) fun x hx => ?_)
      · rw [mem_distinct, List.mem_flatten] at hx
        exact mem_keys.mpr hx
      · rw [mem_distinct, List.mem_flatten]
        exact mem_keys.mp hx
    rw [e]; exact h
def sp_l_is_schedule : PM.Spec := fun ps P => ∃ (maps : Nat) (s : List Nat), ps = [.int maps, tI (nI s)] ∧ s.Pairwise (· < ·) ∧ (∀ x ∈ s, x + 1 < maps) ∧ s.length < 64 ∧ P (.bl true)
theorem h_l_is_schedule (ps : List PV) (Q : PV → Prop) (h : sp_l_is_schedule ps Q) : t_l_is_schedule sp_l_is_number { nx := fun _ => nxOf .cl Q, rt := Q } (startE n_l_is_schedule.length ps) := by
  obtain ⟨maps, s, rfl, hp, hx, hl, h⟩ := h
  show t_l_is_schedule _ _ [some (.int maps), some (tI (nI s)), none]
  unfold t_l_is_schedule
  try simp only [s_mVar0, s_mVarS, s_mVarO0, s_mVarOS, s_isObj_lst, s_isObj_dic, s_mC, s_mOp, s_mOp1, s_mB, s_mNil, s_mCons, s_mTup, s_mLst, s_mCall, s_mTB, s_mNot, s_mAnd, s_mOr, s_mAndV, s_mOrV, s_mIf, s_mYes, s_mSl, s_mNo, s_mPart, s_mLc, s_mItems, s_mRng1, s_mRng2, s_mEnum, s_mChain, s_seqT, s_seqL, s_sNext, s_sSeq, s_sIf, s_sSet, s_sRet, s_sRetN, s_sBreak, s_sCont, s_sDrop, s_sPar, s_setN0, s_setNS, s_sAsg, s_sApp, s_sAug, s_sFor, s_sSrc, s_gmN, s_gmT, s_gmCons, s_gmNil, s_wipe0, s_wipeS, s_oSub, s_oAddI, s_oAdd, s_oLt, s_oLe, s_oGt, s_oGe, s_oNeg, s_oNot, s_oMul, s_oMulW, s_oMod, s_oFdiv, s_oPow, s_oIsN, s_oNotN, s_oIsB, s_oNotB, s_isNon_int, s_isNon_non, s_isNon_bl, s_isNon_str, s_isNon_tup, s_isNon_lst, s_isNon_dic, s_oEqI, s_oNeI, s_oIxT, s_oIxL, s_oSlT, s_oSlL, s_oRevT, s_oRevL, s_oInt, s_oIntB, s_oAbs, s_oMax2, s_oMin2, s_oLen, s_plenT, s_plenL, s_plenD, s_plenS, s_oTupleL, s_oTupleT, s_oListL, s_oListT, List.set_cons_succ, List.set_cons_zero, List.append_nil, true_and, x_bl, x_int, x_some, x_addT, x_addL, x_true, x_false]
  have hnl : (nI s).length = s.length := by unfold nI; simp
  refine oIsi_b known_tuple rfl ⟨_, rfl, ite_f (by show ¬ (!true) = true; decide) ?_⟩
  refine comp_map (emb := PV.int) (f := fun _ => .bl true) (fun x hx2 => ⟨_, fun k hk => s_gmN.mpr hk, fun Q hQ => hQ, fun Q hQ => ?_⟩) (line (by omega)) (oAll_map (b := fun _ => true) ?_)
  · unfold nI at hx2
    obtain ⟨i, hi, rfl⟩ := List.mem_map.mp hx2
    have := hx i hi
    try simp only [s_mVar0, s_mVarS, s_mVarO0, s_mVarOS, s_isObj_lst, s_isObj_dic, s_mC, s_mOp, s_mOp1, s_mB, s_mNil, s_mCons, s_mTup, s_mLst, s_mCall, s_mTB, s_mNot, s_mAnd, s_mOr, s_mAndV, s_mOrV, s_mIf, s_mYes, s_mSl, s_mNo, s_mPart, s_mLc, s_mItems, s_mRng1, s_mRng2, s_mEnum, s_mChain, s_seqT, s_seqL, s_sNext, s_sSeq, s_sIf, s_sSet, s_sRet, s_sRetN, s_sBreak, s_sCont, s_sDrop, s_sPar, s_setN0, s_setNS, s_sAsg, s_sApp, s_sAug, s_sFor, s_sSrc, s_gmN, s_gmT, s_gmCons, s_gmNil, s_wipe0, s_wipeS, s_oSub, s_oAddI, s_oAdd, s_oLt, s_oLe, s_oGt, s_oGe, s_oNeg, s_oNot, s_oMul, s_oMulW, s_oMod, s_oFdiv, s_oPow, s_oIsN, s_oNotN, s_oIsB, s_oNotB, s_isNon_int, s_isNon_non, s_isNon_bl, s_isNon_str, s_isNon_tup, s_isNon_lst, s_isNon_dic, s_oEqI, s_oNeI, s_oIxT, s_oIxL, s_oSlT, s_oSlL, s_oRevT, s_oRevL, s_oInt, s_oIntB, s_oAbs, s_oMax2, s_oMin2, s_oLen, s_plenT, s_plenL, s_plenD, s_plenS, s_oTupleL, s_oTupleT, s_oListL, s_oListT, List.set_cons_succ, List.set_cons_zero, List.append_nil, true_and, x_bl, x_int, x_some, x_addT, x_addL, x_true, x_false]
    refine ⟨.int i, rfl, rfl, _, rfl, ite_t (decide_eq_true (show 0 ≤ (i : Int) by omega)) ?_⟩
    rw [decide_eq_true (by omega)]; exact hQ
  · rw [List.all_eq_true.mpr (fun _ _ => rfl)]
    refine ⟨_, rfl, ite_f (by decide) (s_oSortSetI.mpr ⟨by omega, fun ys ha hm => ?_⟩)⟩
    have e := asc_ext (xs := nI s) (by unfold Asc nI; rw [List.pairwise_map]; exact hp.imp fun h => by omega) ha hm
    subst e
    exact eq_L (by rw [decide_eq_true rfl]; exact h)
def sp_l_is_secret : PM.Spec := fun ps P => ∃ (lots : List (List Int)) (t : Int) (s : List Nat), ps = [crs lots, .int t, tI (nI s)] ∧ Good lots ∧ 0 < lots.length ∧ s.length ≤ 1000 ∧ secG lots t 0 (s ++ [lots.length - 1]) ∧ P (.bl true)
theorem h_l_is_secret (ps : List PV) (Q : PV → Prop) (h : sp_l_is_secret ps Q) : t_l_is_secret sp_l_union { nx := fun _ => nxOf .cl Q, rt := Q } (startE n_l_is_secret.length ps) := by
  obtain ⟨lots, t, s, rfl, hg, h0, hl, hsec, h⟩ := h
  have hs := hg.small
  show t_l_is_secret _ _ [some (crs lots), some (.int t), some (tI (nI s)), none, none]
  unfold t_l_is_secret
  try simp only [s_mVar0, s_mVarS, s_mVarO0, s_mVarOS, s_isObj_lst, s_isObj_dic, s_mC, s_mOp, s_mOp1, s_mB, s_mNil, s_mCons, s_mTup, s_mLst, s_mCall, s_mTB, s_mNot, s_mAnd, s_mOr, s_mAndV, s_mOrV, s_mIf, s_mYes, s_mSl, s_mNo, s_mPart, s_mLc, s_mItems, s_mRng1, s_mRng2, s_mEnum, s_mChain, s_seqT, s_seqL, s_sNext, s_sSeq, s_sIf, s_sSet, s_sRet, s_sRetN, s_sBreak, s_sCont, s_sDrop, s_sPar, s_setN0, s_setNS, s_sAsg, s_sApp, s_sAug, s_sFor, s_sSrc, s_gmN, s_gmT, s_gmCons, s_gmNil, s_wipe0, s_wipeS, s_oSub, s_oAddI, s_oAdd, s_oLt, s_oLe, s_oGt, s_oGe, s_oNeg, s_oNot, s_oMul, s_oMulW, s_oMod, s_oFdiv, s_oPow, s_oIsN, s_oNotN, s_oIsB, s_oNotB, s_isNon_int, s_isNon_non, s_isNon_bl, s_isNon_str, s_isNon_tup, s_isNon_lst, s_isNon_dic, s_oEqI, s_oNeI, s_oIxT, s_oIxL, s_oSlT, s_oSlL, s_oRevT, s_oRevL, s_oInt, s_oIntB, s_oAbs, s_oMax2, s_oMin2, s_oLen, s_plenT, s_plenL, s_plenD, s_plenS, s_oTupleL, s_oTupleT, s_oListL, s_oListT, List.set_cons_succ, List.set_cons_zero, List.append_nil, true_and, x_bl, x_int, x_some, x_addT, x_addL, x_true, x_false]
  have hnl : (nI s).length = s.length := by unfold nI; simp
  have el : List.map PV.int (nI s) ++ [PV.int ((List.map tI lots).length - 1)] = (s ++ [lots.length - 1]).map fun (i : Nat) => PV.int (i : Int) := by
    rw [List.map_append, List.length_map, show (lots.length : Int) - 1 = ((lots.length - 1 : Nat) : Int) by omega]
    unfold nI
    rw [List.map_map]; rfl
  rw [el]
  refine ⟨line (by simp), by rw [List.length_map, hnl]; exact line (by simp; omega), ?_⟩
  refine for_inv (fun i e => ∃ (f : Nat) (y : Option PV), secG lots t f ((s ++ [lots.length - 1]).drop i) ∧ e = [some (crs lots), some (.int t), some (tI (nI s)), some (.int f), y]) ⟨0, none, hsec, rfl⟩ (fun i x e N hx hE hN => ?_) (fun e hE => ?_)
  · obtain ⟨f, y, hs, rfl⟩ := hE
    rw [s_gmN]
    try simp only [s_mVar0, s_mVarS, s_mVarO0, s_mVarOS, s_isObj_lst, s_isObj_dic, s_mC, s_mOp, s_mOp1, s_mB, s_mNil, s_mCons, s_mTup, s_mLst, s_mCall, s_mTB, s_mNot, s_mAnd, s_mOr, s_mAndV, s_mOrV, s_mIf, s_mYes, s_mSl, s_mNo, s_mPart, s_mLc, s_mItems, s_mRng1, s_mRng2, s_mEnum, s_mChain, s_seqT, s_seqL, s_sNext, s_sSeq, s_sIf, s_sSet, s_sRet, s_sRetN, s_sBreak, s_sCont, s_sDrop, s_sPar, s_setN0, s_setNS, s_sAsg, s_sApp, s_sAug, s_sFor, s_sSrc, s_gmN, s_gmT, s_gmCons, s_gmNil, s_wipe0, s_wipeS, s_oSub, s_oAddI, s_oAdd, s_oLt, s_oLe, s_oGt, s_oGe, s_oNeg, s_oNot, s_oMul, s_oMulW, s_oMod, s_oFdiv, s_oPow, s_oIsN, s_oNotN, s_oIsB, s_oNotB, s_isNon_int, s_isNon_non, s_isNon_bl, s_isNon_str, s_isNon_tup, s_isNon_lst, s_isNon_dic, s_oEqI, s_oNeI, s_oIxT, s_oIxL, s_oSlT, s_oSlL, s_oRevT, s_oRevL, s_oInt, s_oIntB, s_oAbs, s_oMax2, s_oMin2, s_oLen, s_plenT, s_plenL, s_plenD, s_plenS, s_oTupleL, s_oTupleT, s_oListL, s_oListT, List.set_cons_succ, List.set_cons_zero, List.append_nil, true_and, x_bl, x_int, x_some, x_addT, x_addL, x_true, x_false]
    have e1 := (List.getElem?_eq_some_iff.mp hx)
    rw [List.drop_eq_getElem_cons e1.1, e1.2] at hs
    refine ⟨lots, f, x, rfl, hg, s_oGt.mpr ⟨_, rfl, ite_f (by rw [decide_eq_false (by have := hs.1; omega)]; decide) (hN _ ⟨x + 1, some (.int x), hs.2, ?_⟩)⟩⟩
    rfl
  · obtain ⟨f, y, hs, rfl⟩ := hE
    try simp only [s_mVar0, s_mVarS, s_mVarO0, s_mVarOS, s_isObj_lst, s_isObj_dic, s_mC, s_mOp, s_mOp1, s_mB, s_mNil, s_mCons, s_mTup, s_mLst, s_mCall, s_mTB, s_mNot, s_mAnd, s_mOr, s_mAndV, s_mOrV, s_mIf, s_mYes, s_mSl, s_mNo, s_mPart, s_mLc, s_mItems, s_mRng1, s_mRng2, s_mEnum, s_mChain, s_seqT, s_seqL, s_sNext, s_sSeq, s_sIf, s_sSet, s_sRet, s_sRetN, s_sBreak, s_sCont, s_sDrop, s_sPar, s_setN0, s_setNS, s_sAsg, s_sApp, s_sAug, s_sFor, s_sSrc, s_gmN, s_gmT, s_gmCons, s_gmNil, s_wipe0, s_wipeS, s_oSub, s_oAddI, s_oAdd, s_oLt, s_oLe, s_oGt, s_oGe, s_oNeg, s_oNot, s_oMul, s_oMulW, s_oMod, s_oFdiv, s_oPow, s_oIsN, s_oNotN, s_oIsB, s_oNotB, s_isNon_int, s_isNon_non, s_isNon_bl, s_isNon_str, s_isNon_tup, s_isNon_lst, s_isNon_dic, s_oEqI, s_oNeI, s_oIxT, s_oIxL, s_oSlT, s_oSlL, s_oRevT, s_oRevL, s_oInt, s_oIntB, s_oAbs, s_oMax2, s_oMin2, s_oLen, s_plenT, s_plenL, s_plenD, s_plenS, s_oTupleL, s_oTupleT, s_oListL, s_oListT, List.set_cons_succ, List.set_cons_zero, List.append_nil, true_and, x_bl, x_int, x_some, x_addT, x_addL, x_true, x_false]
    exact h
end K45

set_option maxHeartbeats 2000000
namespace K45
open PySem L2 PM
theorem rng_map_set {n m : Nat} {g : Int → Int} {x : Int} : ((rng n).map g).set m x = (rng n).map fun j => if j = (m : Int) then x else g j := by
  apply List.ext_getElem?
  intro i
  unfold rng
  rw [List.getElem?_set, List.map_map, List.map_map, List.getElem?_map, List.getElem?_map]
  by_cases c : m = i
  · subst c
    rw [if_pos rfl, List.length_map, List.length_range]
    by_cases h : m < n
    · rw [if_pos h, List.getElem?_range h]
      simp
    · rw [if_neg h, List.getElem?_eq_none (by simp; omega)]; rfl
  · rw [if_neg c]
    by_cases h : i < n
    · rw [List.getElem?_range h]
      simp
      omega
    · rw [List.getElem?_eq_none (by simp; omega)]; rfl
theorem rng_map_get {n : Nat} {g : Int → Int} {m : Int} (h0 : 0 ≤ m) (h : m < n) : ((rng n).map g)[m.toNat]? = some (g m) := by
  rw [List.getElem?_map, rng_get (by omega), Option.map_some, Int.toNat_of_nonneg h0]
theorem paid_app {rs : List T3} {q : T3} {one : Int} : paid (rs ++ [q]) one = paid rs one + if q.1 ≤ one ∧ one < q.2.1 then q.2.2 else 0 := by
  unfold paid
  rw [List.filter_append, List.map_append, List.sum_append]
  congr 1
  by_cases c : q.1 ≤ one ∧ one < q.2.1
  · rw [if_pos c, List.filter_cons, if_pos (decide_eq_true c)]; simp
  · rw [if_neg c, List.filter_cons, if_neg (by rw [decide_eq_false c]; decide)]; rfl
def paidL (n : Nat) (rs : List T3) : List Int := (rng n).map (paid rs)
theorem h_l_is_tolls (ps : List PV) (Q : PV → Prop) (h : sp_is_tolls ps Q) : t_l_is_tolls sp_l_union sp_l_is_number { nx := fun _ => nxOf .cl Q, rt := Q } (startE n_l_is_tolls.length ps) := by
  obtain ⟨lots, t, costs, v, rfl, hg, hc, hv, h⟩ := h
  have hs := hg.small
  show t_l_is_tolls _ _ _ [some (crs lots), some (.int t), some (tI costs), some v, none, none, none, none, none]
  unfold t_l_is_tolls
  try simp only [s_mVar0, s_mVarS, s_mVarO0, s_mVarOS, s_isObj_lst, s_isObj_dic, s_mC, s_mOp, s_mOp1, s_mB, s_mNil, s_mCons, s_mTup, s_mLst, s_mCall, s_mTB, s_mNot, s_mAnd, s_mOr, s_mAndV, s_mOrV, s_mIf, s_mYes, s_mSl, s_mNo, s_mPart, s_mLc, s_mItems, s_mRng1, s_mRng2, s_mEnum, s_mChain, s_seqT, s_seqL, s_sNext, s_sSeq, s_sIf, s_sSet, s_sRet, s_sRetN, s_sBreak, s_sCont, s_sDrop, s_sPar, s_setN0, s_setNS, s_sAsg, s_sApp, s_sAug, s_sFor, s_sSrc, s_gmN, s_gmT, s_gmCons, s_gmNil, s_wipe0, s_wipeS, s_oSub, s_oAddI, s_oAdd, s_oLt, s_oLe, s_oGt, s_oGe, s_oNeg, s_oNot, s_oMul, s_oMulW, s_oMod, s_oFdiv, s_oPow, s_oIsN, s_oNotN, s_oIsB, s_oNotB, s_isNon_int, s_isNon_non, s_isNon_bl, s_isNon_str, s_isNon_tup, s_isNon_lst, s_isNon_dic, s_oEqI, s_oNeI, s_oIxT, s_oIxL, s_oSlT, s_oSlL, s_oRevT, s_oRevL, s_oInt, s_oIntB, s_oAbs, s_oMax2, s_oMin2, s_oLen, s_plenT, s_plenL, s_plenD, s_plenS, s_oTupleL, s_oTupleT, s_oListL, s_oListT, List.set_cons_succ, List.set_cons_zero, List.append_nil, true_and, x_bl, x_int, x_some, x_addT, x_addL, x_true, x_false]
  have notup : (∀ rows, v ≠ .tup rows) → Q (.bl false) := fun k => h false (.inr ⟨fun rs e => absurd e (k _), rfl⟩)
  refine oIsi_b known_tuple hv.ty ⟨_, rfl, ?_⟩
  have hd := hv.rows
  have ht := hv.ty
  cases v with
  | tup rows =>
    refine ite_f (by show ¬ (!true) = true; decide) ?_
    obtain ⟨hr1, hr2⟩ := hd rows rfl
    have badR : ∀ (i : Nat) (r : PV), rows[i]? = some r → RowIs lots t r false → Q (.bl false) := fun i r hr hb => h false (.inr ⟨fun rs e => rows_not (fun z => by
      have := rowB_of hb
      rw [List.all_eq_true.mp z r (List.mem_of_getElem? hr)] at this
      cases this) rs e, rfl⟩)
    refine comp_map (emb := PV.int) (f := fun _ => .int 0) (fun x hx => ⟨_, fun k hk => s_gmN.mpr hk, fun Q hQ => hQ, fun Q hQ => hQ⟩) (line (by omega)) ⟨rows, rfl, ?_⟩
    have e0 : PV.lst (costs.map fun _ => PV.int 0) = lI (paidL costs.length []) := by
      unfold paidL rng lI
      rw [List.map_map, List.map_map]
      congr 1
      apply List.ext_getElem?
      intro i
      rw [List.getElem?_map, List.getElem?_map]
      by_cases c : i < costs.length
      · rw [List.getElem?_range c, List.getElem?_eq_getElem c]; rfl
      · rw [List.getElem?_eq_none (by omega), List.getElem?_eq_none (by simp; omega)]; rfl
    rw [e0]
    refine for_self (fun i e => ∃ (rs : List T3) (y5 y6 : Option PV), rows.take i = rs.map t3 ∧ (∀ r ∈ rs, Ok3 lots t r) ∧ e = [some (crs lots), some (.int t), some (tI costs), some (.tup rows), some (lI (paidL costs.length rs)), y5, y6, none, none]) ⟨[], none, none, rfl, fun r hr => absurd hr List.not_mem_nil, rfl⟩ (fun i r e N hr hE hN => ?_) (fun e hE => ?_)
    · obtain ⟨rs, y5, y6, htk, hok, rfl⟩ := hE
      obtain ⟨xs, rfl, k1, k2⟩ := hr2 r (List.mem_of_getElem? hr)
      rw [s_gmN]
      try simp only [s_mVar0, s_mVarS, s_mVarO0, s_mVarOS, s_isObj_lst, s_isObj_dic, s_mC, s_mOp, s_mOp1, s_mB, s_mNil, s_mCons, s_mTup, s_mLst, s_mCall, s_mTB, s_mNot, s_mAnd, s_mOr, s_mAndV, s_mOrV, s_mIf, s_mYes, s_mSl, s_mNo, s_mPart, s_mLc, s_mItems, s_mRng1, s_mRng2, s_mEnum, s_mChain, s_seqT, s_seqL, s_sNext, s_sSeq, s_sIf, s_sSet, s_sRet, s_sRetN, s_sBreak, s_sCont, s_sDrop, s_sPar, s_setN0, s_setNS, s_sAsg, s_sApp, s_sAug, s_sFor, s_sSrc, s_gmN, s_gmT, s_gmCons, s_gmNil, s_wipe0, s_wipeS, s_oSub, s_oAddI, s_oAdd, s_oLt, s_oLe, s_oGt, s_oGe, s_oNeg, s_oNot, s_oMul, s_oMulW, s_oMod, s_oFdiv, s_oPow, s_oIsN, s_oNotN, s_oIsB, s_oNotB, s_isNon_int, s_isNon_non, s_isNon_bl, s_isNon_str, s_isNon_tup, s_isNon_lst, s_isNon_dic, s_oEqI, s_oNeI, s_oIxT, s_oIxL, s_oSlT, s_oSlL, s_oRevT, s_oRevL, s_oInt, s_oIntB, s_oAbs, s_oMax2, s_oMin2, s_oLen, s_plenT, s_plenL, s_plenD, s_plenS, s_oTupleL, s_oTupleT, s_oListL, s_oListT, List.set_cons_succ, List.set_cons_zero, List.append_nil, true_and, x_bl, x_int, x_some, x_addT, x_addL, x_true, x_false]
      refine oIsi_of (b := true) rfl rfl ⟨_, rfl, ite_f (by decide) ?_⟩
      by_cases c3 : xs.length = 3
      case neg => exact ite_t (by simp; omega) (badR i _ hr (.inr ⟨fun q e => absurd e (not3_len c3 q), rfl⟩))
      refine ite_f (by simp [c3]) ?_
      refine comp_self (f := fun x => .bl (isNat x)) (fun x hx2 => ⟨_, fun k hk => s_gmN.mpr hk, fun Q hQ => hQ, fun Q hQ => ?_⟩) (line (by omega)) (oAll_map (b := isNat) ?_)
      · try simp only [s_mVar0, s_mVarS, s_mVarO0, s_mVarOS, s_isObj_lst, s_isObj_dic, s_mC, s_mOp, s_mOp1, s_mB, s_mNil, s_mCons, s_mTup, s_mLst, s_mCall, s_mTB, s_mNot, s_mAnd, s_mOr, s_mAndV, s_mOrV, s_mIf, s_mYes, s_mSl, s_mNo, s_mPart, s_mLc, s_mItems, s_mRng1, s_mRng2, s_mEnum, s_mChain, s_seqT, s_seqL, s_sNext, s_sSeq, s_sIf, s_sSet, s_sRet, s_sRetN, s_sBreak, s_sCont, s_sDrop, s_sPar, s_setN0, s_setNS, s_sAsg, s_sApp, s_sAug, s_sFor, s_sSrc, s_gmN, s_gmT, s_gmCons, s_gmNil, s_wipe0, s_wipeS, s_oSub, s_oAddI, s_oAdd, s_oLt, s_oLe, s_oGt, s_oGe, s_oNeg, s_oNot, s_oMul, s_oMulW, s_oMod, s_oFdiv, s_oPow, s_oIsN, s_oNotN, s_oIsB, s_oNotB, s_isNon_int, s_isNon_non, s_isNon_bl, s_isNon_str, s_isNon_tup, s_isNon_lst, s_isNon_dic, s_oEqI, s_oNeI, s_oIxT, s_oIxL, s_oSlT, s_oSlL, s_oRevT, s_oRevL, s_oInt, s_oIntB, s_oAbs, s_oMax2, s_oMin2, s_oLen, s_plenT, s_plenL, s_plenD, s_plenS, s_oTupleL, s_oTupleT, s_oListL, s_oListT, List.set_cons_succ, List.set_cons_zero, List.append_nil, true_and, x_bl, x_int, x_some, x_addT, x_addL, x_true, x_false]
        exact ⟨_, rfl, k2 x hx2, hQ⟩
      by_cases cn : xs.all isNat = true
      case neg => exact ⟨_, rfl, ite_t (by simpa using cn) (badR i _ hr (.inr ⟨fun q e => not3_nat cn q e, rfl⟩))⟩
      rw [cn]
      refine ⟨_, rfl, ite_f (by decide) ?_⟩
      obtain ⟨q, eq, q1, q2, q3⟩ := nat3 c3 cn
      injection eq with exs
      subst exs
      have rowN : ¬ Ok3 lots t q → Q (.bl false) := fun nk => badR i _ hr (.inr ⟨fun q' e ok => nk (t3_inj (a := q) (b := q') e ▸ ok), rfl⟩)
      simp only [List.map_cons, List.map_nil]
      try simp only [s_mVar0, s_mVarS, s_mVarO0, s_mVarOS, s_isObj_lst, s_isObj_dic, s_mC, s_mOp, s_mOp1, s_mB, s_mNil, s_mCons, s_mTup, s_mLst, s_mCall, s_mTB, s_mNot, s_mAnd, s_mOr, s_mAndV, s_mOrV, s_mIf, s_mYes, s_mSl, s_mNo, s_mPart, s_mLc, s_mItems, s_mRng1, s_mRng2, s_mEnum, s_mChain, s_seqT, s_seqL, s_sNext, s_sSeq, s_sIf, s_sSet, s_sRet, s_sRetN, s_sBreak, s_sCont, s_sDrop, s_sPar, s_setN0, s_setNS, s_sAsg, s_sApp, s_sAug, s_sFor, s_sSrc, s_gmN, s_gmT, s_gmCons, s_gmNil, s_wipe0, s_wipeS, s_oSub, s_oAddI, s_oAdd, s_oLt, s_oLe, s_oGt, s_oGe, s_oNeg, s_oNot, s_oMul, s_oMulW, s_oMod, s_oFdiv, s_oPow, s_oIsN, s_oNotN, s_oIsB, s_oNotB, s_isNon_int, s_isNon_non, s_isNon_bl, s_isNon_str, s_isNon_tup, s_isNon_lst, s_isNon_dic, s_oEqI, s_oNeI, s_oIxT, s_oIxL, s_oSlT, s_oSlL, s_oRevT, s_oRevL, s_oInt, s_oIntB, s_oAbs, s_oMax2, s_oMin2, s_oLen, s_plenT, s_plenL, s_plenD, s_plenS, s_oTupleL, s_oTupleT, s_oListL, s_oListT, List.set_cons_succ, List.set_cons_zero, List.append_nil, true_and, x_bl, x_int, x_some, x_addT, x_addL, x_true, x_false]
      refine ⟨_, rfl, _, rfl, s_oGt.mpr ⟨_, rfl, ?_⟩⟩
      by_cases c1 : q.1 ≤ q.2.1
      case neg => exact ite_t (decide_eq_true (by omega)) (ite_t trivial (rowN fun ok => c1 ok.ab))
      refine ite_f (by rw [decide_eq_false (by omega)]; decide) ⟨_, rfl, s_oGe.mpr ⟨_, rfl, ?_⟩⟩
      rw [List.length_map]
      by_cases c2 : (lots.length : Int) ≤ q.2.1
      · exact ite_t (decide_eq_true c2) (ite_t trivial (rowN fun ok => by have := ok.bn; omega))
      refine ite_f (by rw [decide_eq_false c2]; decide) ⟨_, rfl, s_oLt.mpr ⟨_, rfl, ?_⟩⟩
      by_cases c4 : q.2.2 < 1
      · exact ite_t (decide_eq_true c4) (ite_t trivial (rowN fun ok => by have := ok.c1; omega))
      refine ite_f (by rw [decide_eq_false c4]; decide) ⟨_, rfl, _, rfl, lots, q.1.toNat, q.2.1.toNat, by rw [Int.toNat_of_nonneg q1, Int.toNat_of_nonneg q2], hg, s_oLe.mpr ⟨_, rfl, ?_⟩⟩
      by_cases c5 : (cnt lots q.1.toNat q.2.1.toNat : Int) ≤ t
      · exact ite_t (decide_eq_true c5) (rowN fun ok => by have := ok.un; omega)
      refine ite_f (by rw [decide_eq_false c5]; decide) ?_
      have okq : Ok3 lots t q := ⟨q1, c1, by omega, by omega, by omega⟩
      refine ⟨_, rfl, _, rfl, _, _, rfl, rfl, by omega, ?_⟩
      have er : rngP q.1 (q.2.1 - q.1).toNat = (rng (q.2.1 - q.1).toNat).map fun j => PV.int (q.1 + j) := by
        rw [rngP_map]; unfold rng; rw [List.map_map]; rfl
      rw [er]
      refine for_inv (fun k e => k ≤ (q.2.1 - q.1).toNat ∧ ∃ y6, e = [some (crs lots), some (.int t), some (tI costs), some (.tup rows), some (lI ((rng costs.length).map fun j => paid rs j + if q.1 ≤ j ∧ j < q.1 + k then q.2.2 else 0)), some (.tup [PV.int q.1, .int q.2.1, .int q.2.2]), y6, none, none]) ⟨Nat.zero_le _, y6, ?_⟩ (fun k x e N hx hE hN => ?_) (fun e hE => ?_)
      · have : (fun j => paid rs j + if q.1 ≤ j ∧ j < q.1 + ((0 : Nat) : Int) then q.2.2 else 0) = paid rs := by
          funext j
          rw [if_neg (by omega), Int.add_zero]
        rw [this]; rfl
      · obtain ⟨hk, y6, rfl⟩ := hE
        have e1 := (List.getElem?_eq_some_iff.mp hx).1
        rw [rng_len] at e1
        rw [rng_get e1] at hx
        cases hx
        rw [s_gmN]
        try simp only [s_mVar0, s_mVarS, s_mVarO0, s_mVarOS, s_isObj_lst, s_isObj_dic, s_mC, s_mOp, s_mOp1, s_mB, s_mNil, s_mCons, s_mTup, s_mLst, s_mCall, s_mTB, s_mNot, s_mAnd, s_mOr, s_mAndV, s_mOrV, s_mIf, s_mYes, s_mSl, s_mNo, s_mPart, s_mLc, s_mItems, s_mRng1, s_mRng2, s_mEnum, s_mChain, s_seqT, s_seqL, s_sNext, s_sSeq, s_sIf, s_sSet, s_sRet, s_sRetN, s_sBreak, s_sCont, s_sDrop, s_sPar, s_setN0, s_setNS, s_sAsg, s_sApp, s_sAug, s_sFor, s_sSrc, s_gmN, s_gmT, s_gmCons, s_gmNil, s_wipe0, s_wipeS, s_oSub, s_oAddI, s_oAdd, s_oLt, s_oLe, s_oGt, s_oGe, s_oNeg, s_oNot, s_oMul, s_oMulW, s_oMod, s_oFdiv, s_oPow, s_oIsN, s_oNotN, s_oIsB, s_oNotB, s_isNon_int, s_isNon_non, s_isNon_bl, s_isNon_str, s_isNon_tup, s_isNon_lst, s_isNon_dic, s_oEqI, s_oNeI, s_oIxT, s_oIxL, s_oSlT, s_oSlL, s_oRevT, s_oRevL, s_oInt, s_oIntB, s_oAbs, s_oMax2, s_oMin2, s_oLen, s_plenT, s_plenL, s_plenD, s_plenS, s_oTupleL, s_oTupleT, s_oListL, s_oListT, List.set_cons_succ, List.set_cons_zero, List.append_nil, true_and, x_bl, x_int, x_some, x_addT, x_addL, x_true, x_false]
        refine ⟨_, rfl, ?_⟩
        try simp only [s_mVar0, s_mVarS, s_mVarO0, s_mVarOS, s_isObj_lst, s_isObj_dic, s_mC, s_mOp, s_mOp1, s_mB, s_mNil, s_mCons, s_mTup, s_mLst, s_mCall, s_mTB, s_mNot, s_mAnd, s_mOr, s_mAndV, s_mOrV, s_mIf, s_mYes, s_mSl, s_mNo, s_mPart, s_mLc, s_mItems, s_mRng1, s_mRng2, s_mEnum, s_mChain, s_seqT, s_seqL, s_sNext, s_sSeq, s_sIf, s_sSet, s_sRet, s_sRetN, s_sBreak, s_sCont, s_sDrop, s_sPar, s_setN0, s_setNS, s_sAsg, s_sApp, s_sAug, s_sFor, s_sSrc, s_gmN, s_gmT, s_gmCons, s_gmNil, s_wipe0, s_wipeS, s_oSub, s_oAddI, s_oAdd, s_oLt, s_oLe, s_oGt, s_oGe, s_oNeg, s_oNot, s_oMul, s_oMulW, s_oMod, s_oFdiv, s_oPow, s_oIsN, s_oNotN, s_oIsB, s_oNotB, s_isNon_int, s_isNon_non, s_isNon_bl, s_isNon_str, s_isNon_tup, s_isNon_lst, s_isNon_dic, s_oEqI, s_oNeI, s_oIxT, s_oIxL, s_oSlT, s_oSlL, s_oRevT, s_oRevL, s_oInt, s_oIntB, s_oAbs, s_oMax2, s_oMin2, s_oLen, s_plenT, s_plenL, s_plenD, s_plenS, s_oTupleL, s_oTupleT, s_oListL, s_oListT, List.set_cons_succ, List.set_cons_zero, List.append_nil, true_and, x_bl, x_int, x_some, x_addT, x_addL, x_true, x_false]
        refine ⟨_, _, rfl, by omega, rng_map_get (by omega) (by omega), _, rfl, ?_⟩
        refine ⟨_, rfl, hN _ ⟨e1, some (.int (q.1 + k)), ?_⟩⟩
        rw [rng_map_set]
        have : (fun j : Int => if j = (((q.1 + k).toNat : Nat) : Int) then (paid rs (q.1 + k) + if q.1 ≤ q.1 + k ∧ q.1 + k < q.1 + k then q.2.2 else 0) + q.2.2 else (paid rs j + if q.1 ≤ j ∧ j < q.1 + k then q.2.2 else 0)) = fun j => paid rs j + if q.1 ≤ j ∧ j < q.1 + ((k + 1 : Nat) : Int) then q.2.2 else 0 := by
          funext j
          rw [if_neg (show ¬ (q.1 ≤ q.1 + k ∧ q.1 + (k : Int) < q.1 + k) by omega)]
          by_cases c : j = q.1 + k
          · rw [if_pos (by omega), if_pos (by omega), c]; omega
          · rw [if_neg (by omega)]
            by_cases c' : q.1 ≤ j ∧ j < q.1 + k
            · rw [if_pos c', if_pos (by omega)]
            · rw [if_neg c', if_neg (by omega)]
        rw [this]
      · obtain ⟨hk, y6, rfl⟩ := hE
        rw [rng_len]
        refine hN _ ⟨rs ++ [q], some (.tup [PV.int q.1, .int q.2.1, .int q.2.2]), y6, ?_, fun r hr => ?_, ?_⟩
        · rw [List.take_add_one, hr, htk, List.map_append]; rfl
        · rcases List.mem_append.mp hr with z | z
          · exact hok r z
          · rw [List.mem_singleton.mp z]; exact okq
        · have : (fun j => paid rs j + if q.1 ≤ j ∧ j < q.1 + (((q.2.1 - q.1).toNat : Nat) : Int) then q.2.2 else 0) = paid (rs ++ [q]) := by
            funext j
            rw [paid_app, show q.1 + (((q.2.1 - q.1).toNat : Nat) : Int) = q.2.1 by omega]
          rw [this]; rfl
    · obtain ⟨rs, y5, y6, htk, hok, rfl⟩ := hE
      rw [List.take_length] at htk
      subst htk
      have hb : ∀ b, b = (ascB rs && fitsB costs rs) → Q (.bl b) := fun b e => h b (.inl ⟨rs, rfl, hok, e⟩)
      rw [List.length_map] at hr1
      try simp only [s_mVar0, s_mVarS, s_mVarO0, s_mVarOS, s_isObj_lst, s_isObj_dic, s_mC, s_mOp, s_mOp1, s_mB, s_mNil, s_mCons, s_mTup, s_mLst, s_mCall, s_mTB, s_mNot, s_mAnd, s_mOr, s_mAndV, s_mOrV, s_mIf, s_mYes, s_mSl, s_mNo, s_mPart, s_mLc, s_mItems, s_mRng1, s_mRng2, s_mEnum, s_mChain, s_seqT, s_seqL, s_sNext, s_sSeq, s_sIf, s_sSet, s_sRet, s_sRetN, s_sBreak, s_sCont, s_sDrop, s_sPar, s_setN0, s_setNS, s_sAsg, s_sApp, s_sAug, s_sFor, s_sSrc, s_gmN, s_gmT, s_gmCons, s_gmNil, s_wipe0, s_wipeS, s_oSub, s_oAddI, s_oAdd, s_oLt, s_oLe, s_oGt, s_oGe, s_oNeg, s_oNot, s_oMul, s_oMulW, s_oMod, s_oFdiv, s_oPow, s_oIsN, s_oNotN, s_oIsB, s_oNotB, s_isNon_int, s_isNon_non, s_isNon_bl, s_isNon_str, s_isNon_tup, s_isNon_lst, s_isNon_dic, s_oEqI, s_oNeI, s_oIxT, s_oIxL, s_oSlT, s_oSlL, s_oRevT, s_oRevL, s_oInt, s_oIntB, s_oAbs, s_oMax2, s_oMin2, s_oLen, s_plenT, s_plenL, s_plenD, s_plenS, s_oTupleL, s_oTupleT, s_oListL, s_oListT, List.set_cons_succ, List.set_cons_zero, List.append_nil, true_and, x_bl, x_int, x_some, x_addT, x_addL, x_true, x_false]
      rw [List.length_map, Int.toNat_natCast, rngP_rng]
      refine ⟨by omega, comp_map (emb := PV.int) (f := fun i => .bl (decide (paid rs i ≤ cost costs i.toNat))) (fun i hi => ⟨_, fun k hk => s_gmN.mpr hk, fun Q hQ => hQ, fun Q hQ => ?_⟩) (line (by rw [rng_len]; omega)) (oAll_map (b := fun i => decide (paid rs i ≤ cost costs i.toNat)) ?_)⟩
      · obtain ⟨i0, i1⟩ := rng_mem hi
        try simp only [s_mVar0, s_mVarS, s_mVarO0, s_mVarOS, s_isObj_lst, s_isObj_dic, s_mC, s_mOp, s_mOp1, s_mB, s_mNil, s_mCons, s_mTup, s_mLst, s_mCall, s_mTB, s_mNot, s_mAnd, s_mOr, s_mAndV, s_mOrV, s_mIf, s_mYes, s_mSl, s_mNo, s_mPart, s_mLc, s_mItems, s_mRng1, s_mRng2, s_mEnum, s_mChain, s_seqT, s_seqL, s_sNext, s_sSeq, s_sIf, s_sSet, s_sRet, s_sRetN, s_sBreak, s_sCont, s_sDrop, s_sPar, s_setN0, s_setNS, s_sAsg, s_sApp, s_sAug, s_sFor, s_sSrc, s_gmN, s_gmT, s_gmCons, s_gmNil, s_wipe0, s_wipeS, s_oSub, s_oAddI, s_oAdd, s_oLt, s_oLe, s_oGt, s_oGe, s_oNeg, s_oNot, s_oMul, s_oMulW, s_oMod, s_oFdiv, s_oPow, s_oIsN, s_oNotN, s_oIsB, s_oNotB, s_isNon_int, s_isNon_non, s_isNon_bl, s_isNon_str, s_isNon_tup, s_isNon_lst, s_isNon_dic, s_oEqI, s_oNeI, s_oIxT, s_oIxL, s_oSlT, s_oSlL, s_oRevT, s_oRevL, s_oInt, s_oIntB, s_oAbs, s_oMax2, s_oMin2, s_oLen, s_plenT, s_plenL, s_plenD, s_plenS, s_oTupleL, s_oTupleT, s_oListL, s_oListT, List.set_cons_succ, List.set_cons_zero, List.append_nil, true_and, x_bl, x_int, x_some, x_addT, x_addL, x_true, x_false]
        refine ⟨.int (paid rs i), ?_, ?_⟩
        · rw [atI_nn i0 (by rw [List.length_map]; unfold paidL; rw [List.length_map, rng_len]; omega), List.getElem?_map, paidL, rng_map_get i0 i1]; rfl
        · have := cost_at (costs := costs) (i := i.toNat) (by omega)
          rw [Int.toNat_of_nonneg i0] at this
          refine ⟨_, this, ?_⟩
          try simp only [s_mVar0, s_mVarS, s_mVarO0, s_mVarOS, s_isObj_lst, s_isObj_dic, s_mC, s_mOp, s_mOp1, s_mB, s_mNil, s_mCons, s_mTup, s_mLst, s_mCall, s_mTB, s_mNot, s_mAnd, s_mOr, s_mAndV, s_mOrV, s_mIf, s_mYes, s_mSl, s_mNo, s_mPart, s_mLc, s_mItems, s_mRng1, s_mRng2, s_mEnum, s_mChain, s_seqT, s_seqL, s_sNext, s_sSeq, s_sIf, s_sSet, s_sRet, s_sRetN, s_sBreak, s_sCont, s_sDrop, s_sPar, s_setN0, s_setNS, s_sAsg, s_sApp, s_sAug, s_sFor, s_sSrc, s_gmN, s_gmT, s_gmCons, s_gmNil, s_wipe0, s_wipeS, s_oSub, s_oAddI, s_oAdd, s_oLt, s_oLe, s_oGt, s_oGe, s_oNeg, s_oNot, s_oMul, s_oMulW, s_oMod, s_oFdiv, s_oPow, s_oIsN, s_oNotN, s_oIsB, s_oNotB, s_isNon_int, s_isNon_non, s_isNon_bl, s_isNon_str, s_isNon_tup, s_isNon_lst, s_isNon_dic, s_oEqI, s_oNeI, s_oIxT, s_oIxL, s_oSlT, s_oSlL, s_oRevT, s_oRevL, s_oInt, s_oIntB, s_oAbs, s_oMax2, s_oMin2, s_oLen, s_plenT, s_plenL, s_plenD, s_plenS, s_oTupleL, s_oTupleT, s_oListL, s_oListT, List.set_cons_succ, List.set_cons_zero, List.append_nil, true_and, x_bl, x_int, x_some, x_addT, x_addL, x_true, x_false]
          exact hQ
      · show ∃ k, PV.bl (fitsB costs rs) = .bl k ∧ _
        refine ⟨_, rfl, ?_⟩
        by_cases cf : fitsB costs rs = true
        case neg =>
          rw [Bool.not_eq_true] at cf
          rw [cf]
          exact ite_t rfl (hb false (by rw [cf, Bool.and_false]))
        rw [cf] at hb ⊢
        rw [Bool.and_true] at hb
        refine ite_f (by decide) ?_
        rw [List.length_map]
        refine ⟨_, _, rfl, rfl, by omega, ?_⟩
        rw [show ((rs.length : Int) - 1).toNat = rs.length - 1 by omega, rngP_rng1]
        refine comp_map (emb := PV.int) (f := fun (i : Int) => .bl (HT.lexLt [(rs.getD (i - 1).toNat (0, 0, 0)).1, (rs.getD (i - 1).toNat (0, 0, 0)).2.1, (rs.getD (i - 1).toNat (0, 0, 0)).2.2] [(rs.getD i.toNat (0, 0, 0)).1, (rs.getD i.toNat (0, 0, 0)).2.1, (rs.getD i.toNat (0, 0, 0)).2.2])) (fun i hi => ⟨_, fun k hk => s_gmN.mpr hk, fun Q hQ => hQ, fun Q hQ => ?_⟩) (line (by rw [rng1_len]; omega)) (oAll_map (b := fun (i : Int) => HT.lexLt [(rs.getD (i - 1).toNat (0, 0, 0)).1, (rs.getD (i - 1).toNat (0, 0, 0)).2.1, (rs.getD (i - 1).toNat (0, 0, 0)).2.2] [(rs.getD i.toNat (0, 0, 0)).1, (rs.getD i.toNat (0, 0, 0)).2.1, (rs.getD i.toNat (0, 0, 0)).2.2]) (hb _ rfl))
        obtain ⟨i1, i2⟩ := rng1_mem hi
        try simp only [s_mVar0, s_mVarS, s_mVarO0, s_mVarOS, s_isObj_lst, s_isObj_dic, s_mC, s_mOp, s_mOp1, s_mB, s_mNil, s_mCons, s_mTup, s_mLst, s_mCall, s_mTB, s_mNot, s_mAnd, s_mOr, s_mAndV, s_mOrV, s_mIf, s_mYes, s_mSl, s_mNo, s_mPart, s_mLc, s_mItems, s_mRng1, s_mRng2, s_mEnum, s_mChain, s_seqT, s_seqL, s_sNext, s_sSeq, s_sIf, s_sSet, s_sRet, s_sRetN, s_sBreak, s_sCont, s_sDrop, s_sPar, s_setN0, s_setNS, s_sAsg, s_sApp, s_sAug, s_sFor, s_sSrc, s_gmN, s_gmT, s_gmCons, s_gmNil, s_wipe0, s_wipeS, s_oSub, s_oAddI, s_oAdd, s_oLt, s_oLe, s_oGt, s_oGe, s_oNeg, s_oNot, s_oMul, s_oMulW, s_oMod, s_oFdiv, s_oPow, s_oIsN, s_oNotN, s_oIsB, s_oNotB, s_isNon_int, s_isNon_non, s_isNon_bl, s_isNon_str, s_isNon_tup, s_isNon_lst, s_isNon_dic, s_oEqI, s_oNeI, s_oIxT, s_oIxL, s_oSlT, s_oSlL, s_oRevT, s_oRevL, s_oInt, s_oIntB, s_oAbs, s_oMax2, s_oMin2, s_oLen, s_plenT, s_plenL, s_plenD, s_plenS, s_oTupleL, s_oTupleT, s_oListL, s_oListT, List.set_cons_succ, List.set_cons_zero, List.append_nil, true_and, x_bl, x_int, x_some, x_addT, x_addL, x_true, x_false]
        refine ⟨_, at_t3 (by omega) (by omega), _, at_t3 (by omega) (by omega), ?_⟩
        exact s_oLtT.mpr hQ
  | bl _ => exact ite_t rfl (notup (fun _ e => by cases e))
  | int _ => exact ite_t rfl (notup (fun _ e => by cases e))
  | non => exact ite_t rfl (notup (fun _ e => by cases e))
  | str _ => exact ite_t rfl (notup (fun _ e => by cases e))
  | lst _ => exact ite_t rfl (notup (fun _ e => by cases e))
  | dic _ _ => exact ite_t rfl (notup (fun _ e => by cases e))
  | _ => cases ht
end K45

set_option maxHeartbeats 2000000
namespace K45
open PySem L2 PM
def upto (lots : List (List Int)) (a i : Nat) : List (List Int) := (lots.take (a + i)).drop a
theorem upto_succ {lots : List (List Int)} {a i : Nat} {l : List Int} (h : lots[a + i]? = some l) : upto lots a (i + 1) = upto lots a i ++ [l] := by
  unfold upto
  have := (List.getElem?_eq_some_iff.mp h).1
  rw [← Nat.add_assoc, List.take_add_one, h, List.drop_append]
  have e : (lots.take (a + i)).length = a + i := by rw [List.length_take]; omega
  rw [e, show a - (a + i) = 0 by omega]
  rfl
theorem upto_keys {lots : List (List Int)} {a i : Nat} {l : List Int} (h : lots[a + i]? = some l) : keys (upto lots a (i + 1)) = puts (keys (upto lots a i)) l := by
  rw [upto_succ h]
  unfold keys
  rw [List.foldl_append]
  rfl
def sp_l_lasts : PM.Spec := fun ps P => ∃ (lots : List (List Int)) (a : Nat) (t : Int), ps = [crs lots, .int a, .int t] ∧ Good lots ∧ a < lots.length ∧ ∀ ls : List Nat, (∀ l ∈ ls, a ≤ l ∧ l < lots.length ∧ t < cnt lots a l) → ls.length ≤ 100 → P (lI (nI ls))
theorem h_l_lasts (ps : List PV) (Q : PV → Prop) (h : sp_l_lasts ps Q) : t_l_lasts { nx := fun _ => nxOf .cl Q, rt := Q } (startE n_l_lasts.length ps) := by
  obtain ⟨lots, a, t, rfl, hg, ha, h⟩ := h
  have hs := hg.small
  show t_l_lasts _ [some (crs lots), some (.int a), some (.int t), none, none, none, none]
  unfold t_l_lasts
  try simp only [s_mVar0, s_mVarS, s_mVarO0, s_mVarOS, s_isObj_lst, s_isObj_dic, s_mC, s_mOp, s_mOp1, s_mB, s_mNil, s_mCons, s_mTup, s_mLst, s_mCall, s_mTB, s_mNot, s_mAnd, s_mOr, s_mAndV, s_mOrV, s_mIf, s_mYes, s_mSl, s_mNo, s_mPart, s_mLc, s_mItems, s_mRng1, s_mRng2, s_mEnum, s_mChain, s_seqT, s_seqL, s_sNext, s_sSeq, s_sIf, s_sSet, s_sRet, s_sRetN, s_sBreak, s_sCont, s_sDrop, s_sPar, s_setN0, s_setNS, s_sAsg, s_sApp, s_sAug, s_sFor, s_sSrc, s_gmN, s_gmT, s_gmCons, s_gmNil, s_wipe0, s_wipeS, s_oSub, s_oAddI, s_oAdd, s_oLt, s_oLe, s_oGt, s_oGe, s_oNeg, s_oNot, s_oMul, s_oMulW, s_oMod, s_oFdiv, s_oPow, s_oIsN, s_oNotN, s_oIsB, s_oNotB, s_isNon_int, s_isNon_non, s_isNon_bl, s_isNon_str, s_isNon_tup, s_isNon_lst, s_isNon_dic, s_oEqI, s_oNeI, s_oIxT, s_oIxL, s_oSlT, s_oSlL, s_oRevT, s_oRevL, s_oInt, s_oIntB, s_oAbs, s_oMax2, s_oMin2, s_oLen, s_plenT, s_plenL, s_plenD, s_plenS, s_oTupleL, s_oTupleT, s_oListL, s_oListT, List.set_cons_succ, List.set_cons_zero, List.append_nil, true_and, x_bl, x_int, x_some, x_addT, x_addL, x_true, x_false]
  rw [List.length_map]
  refine ⟨Nat.zero_le _, Nat.zero_le _, _, _, rfl, rfl, by omega, ?_⟩
  have er : rngP (a : Int) ((lots.length : Int) - a).toNat = (List.range (lots.length - a)).map fun (j : Nat) => PV.int ((a + j : Nat) : Int) := by
    rw [rngP_map, show ((lots.length : Int) - a).toNat = lots.length - a by omega]; rfl
  rw [er]
  refine for_inv (fun i e => i ≤ lots.length - a ∧ ∃ (ls : List Nat) (y3 : Option PV), (∀ l ∈ ls, a ≤ l ∧ l < lots.length ∧ t < cnt lots a l) ∧ ls.length ≤ i ∧ e = [some (crs lots), some (.int a), some (.int t), y3, some (lI (keys (upto lots a i))), some (lI (nI ls)), none]) ⟨Nat.zero_le _, [], none, fun _ h => absurd h List.not_mem_nil, Nat.le_refl _, ?_⟩ (fun i x e N hx hE hN => ?_) (fun e hE => ?_)
  · have : upto lots a 0 = [] := by unfold upto; rw [Nat.add_zero, List.drop_take, Nat.sub_self, List.take_zero]
    rw [this]; rfl
  · obtain ⟨hi, ls, y3, hls, hll, rfl⟩ := hE
    have e1 := (List.getElem?_eq_some_iff.mp hx).1
    rw [List.length_range] at e1
    rw [List.getElem?_range e1] at hx
    cases hx
    have el : lots[a + i]? = some lots[a + i] := List.getElem?_eq_getElem (by omega)
    generalize lots[a + i] = lot at el
    have hlot := hg.lot lot (List.mem_of_getElem? el)
    have ea : atI (lots.map tI) ((a + i : Nat) : Int) = some (tI lot) := by
      rw [atI_nn (Int.natCast_nonneg _) (by rw [List.length_map]; omega), Int.toNat_natCast, List.getElem?_map, el]; rfl
    rw [s_gmN]
    try simp only [s_mVar0, s_mVarS, s_mVarO0, s_mVarOS, s_isObj_lst, s_isObj_dic, s_mC, s_mOp, s_mOp1, s_mB, s_mNil, s_mCons, s_mTup, s_mLst, s_mCall, s_mTB, s_mNot, s_mAnd, s_mOr, s_mAndV, s_mOrV, s_mIf, s_mYes, s_mSl, s_mNo, s_mPart, s_mLc, s_mItems, s_mRng1, s_mRng2, s_mEnum, s_mChain, s_seqT, s_seqL, s_sNext, s_sSeq, s_sIf, s_sSet, s_sRet, s_sRetN, s_sBreak, s_sCont, s_sDrop, s_sPar, s_setN0, s_setNS, s_sAsg, s_sApp, s_sAug, s_sFor, s_sSrc, s_gmN, s_gmT, s_gmCons, s_gmNil, s_wipe0, s_wipeS, s_oSub, s_oAddI, s_oAdd, s_oLt, s_oLe, s_oGt, s_oGe, s_oNeg, s_oNot, s_oMul, s_oMulW, s_oMod, s_oFdiv, s_oPow, s_oIsN, s_oNotN, s_oIsB, s_oNotB, s_isNon_int, s_isNon_non, s_isNon_bl, s_isNon_str, s_isNon_tup, s_isNon_lst, s_isNon_dic, s_oEqI, s_oNeI, s_oIxT, s_oIxL, s_oSlT, s_oSlL, s_oRevT, s_oRevL, s_oInt, s_oIntB, s_oAbs, s_oMax2, s_oMin2, s_oLen, s_plenT, s_plenL, s_plenD, s_plenS, s_oTupleL, s_oTupleT, s_oListL, s_oListT, List.set_cons_succ, List.set_cons_zero, List.append_nil, true_and, x_bl, x_int, x_some, x_addT, x_addL, x_true, x_false]
    have hkn := nodup_keys (upto lots a i)
    have hkn2 := nodup_keys (upto lots a (i + 1))
    have hk24 : ∀ j, ∀ x ∈ keys (upto lots a j), 0 ≤ x ∧ x < 24 := fun j x hx => by
      obtain ⟨l, hl, hx⟩ := mem_keys.mp hx
      exact (hg.lot l (List.mem_of_mem_take (List.mem_of_mem_drop hl))).2 x hx
    have b1 := len_bound (n := 24) hkn (hk24 i)
    have b2 := len_bound (n := 24) hlot.1 hlot.2
    have ek := upto_keys el
    rw [puts_filter hlot.1] at ek
    refine ⟨_, ea, _, rfl, comp_emb (emb := PV.int) (tst := fun y => !decide (y ∈ keys (upto lots a i))) (f := PV.int) (fun y hy => ⟨_, fun k hk => s_gmN.mpr hk, fun Q hQ => ?_, fun _ Q hQ => ?_⟩) (by rw [List.length_nil, Nat.zero_add]; exact line (by omega)) ?_⟩
    · try simp only [s_mVar0, s_mVarS, s_mVarO0, s_mVarOS, s_isObj_lst, s_isObj_dic, s_mC, s_mOp, s_mOp1, s_mB, s_mNil, s_mCons, s_mTup, s_mLst, s_mCall, s_mTB, s_mNot, s_mAnd, s_mOr, s_mAndV, s_mOrV, s_mIf, s_mYes, s_mSl, s_mNo, s_mPart, s_mLc, s_mItems, s_mRng1, s_mRng2, s_mEnum, s_mChain, s_seqT, s_seqL, s_sNext, s_sSeq, s_sIf, s_sSet, s_sRet, s_sRetN, s_sBreak, s_sCont, s_sDrop, s_sPar, s_setN0, s_setNS, s_sAsg, s_sApp, s_sAug, s_sFor, s_sSrc, s_gmN, s_gmT, s_gmCons, s_gmNil, s_wipe0, s_wipeS, s_oSub, s_oAddI, s_oAdd, s_oLt, s_oLe, s_oGt, s_oGe, s_oNeg, s_oNot, s_oMul, s_oMulW, s_oMod, s_oFdiv, s_oPow, s_oIsN, s_oNotN, s_oIsB, s_oNotB, s_isNon_int, s_isNon_non, s_isNon_bl, s_isNon_str, s_isNon_tup, s_isNon_lst, s_isNon_dic, s_oEqI, s_oNeI, s_oIxT, s_oIxL, s_oSlT, s_oSlL, s_oRevT, s_oRevL, s_oInt, s_oIntB, s_oAbs, s_oMax2, s_oMin2, s_oLen, s_plenT, s_plenL, s_plenD, s_plenS, s_oTupleL, s_oTupleT, s_oListL, s_oListT, List.set_cons_succ, List.set_cons_zero, List.append_nil, true_and, x_bl, x_int, x_some, x_addT, x_addL, x_true, x_false]
      exact oIn_ints (by rw [if_pos rfl]; exact ⟨_, rfl, hQ⟩)
    · try simp only [s_mVar0, s_mVarS, s_mVarO0, s_mVarOS, s_isObj_lst, s_isObj_dic, s_mC, s_mOp, s_mOp1, s_mB, s_mNil, s_mCons, s_mTup, s_mLst, s_mCall, s_mTB, s_mNot, s_mAnd, s_mOr, s_mAndV, s_mOrV, s_mIf, s_mYes, s_mSl, s_mNo, s_mPart, s_mLc, s_mItems, s_mRng1, s_mRng2, s_mEnum, s_mChain, s_seqT, s_seqL, s_sNext, s_sSeq, s_sIf, s_sSet, s_sRet, s_sRetN, s_sBreak, s_sCont, s_sDrop, s_sPar, s_setN0, s_setNS, s_sAsg, s_sApp, s_sAug, s_sFor, s_sSrc, s_gmN, s_gmT, s_gmCons, s_gmNil, s_wipe0, s_wipeS, s_oSub, s_oAddI, s_oAdd, s_oLt, s_oLe, s_oGt, s_oGe, s_oNeg, s_oNot, s_oMul, s_oMulW, s_oMod, s_oFdiv, s_oPow, s_oIsN, s_oNotN, s_oIsB, s_oNotB, s_isNon_int, s_isNon_non, s_isNon_bl, s_isNon_str, s_isNon_tup, s_isNon_lst, s_isNon_dic, s_oEqI, s_oNeI, s_oIxT, s_oIxL, s_oSlT, s_oSlL, s_oRevT, s_oRevL, s_oInt, s_oIntB, s_oAbs, s_oMax2, s_oMin2, s_oLen, s_plenT, s_plenL, s_plenD, s_plenS, s_oTupleL, s_oTupleT, s_oListL, s_oListT, List.set_cons_succ, List.set_cons_zero, List.append_nil, true_and, x_bl, x_int, x_some, x_addT, x_addL, x_true, x_false]
      exact hQ
    · rw [List.nil_append]
      have b3 : (lot.filter fun y => !decide (y ∈ keys (upto lots a i))).length ≤ lot.length := List.length_filter_le _ _
      try simp only [s_mVar0, s_mVarS, s_mVarO0, s_mVarOS, s_isObj_lst, s_isObj_dic, s_mC, s_mOp, s_mOp1, s_mB, s_mNil, s_mCons, s_mTup, s_mLst, s_mCall, s_mTB, s_mNot, s_mAnd, s_mOr, s_mAndV, s_mOrV, s_mIf, s_mYes, s_mSl, s_mNo, s_mPart, s_mLc, s_mItems, s_mRng1, s_mRng2, s_mEnum, s_mChain, s_seqT, s_seqL, s_sNext, s_sSeq, s_sIf, s_sSet, s_sRet, s_sRetN, s_sBreak, s_sCont, s_sDrop, s_sPar, s_setN0, s_setNS, s_sAsg, s_sApp, s_sAug, s_sFor, s_sSrc, s_gmN, s_gmT, s_gmCons, s_gmNil, s_wipe0, s_wipeS, s_oSub, s_oAddI, s_oAdd, s_oLt, s_oLe, s_oGt, s_oGe, s_oNeg, s_oNot, s_oMul, s_oMulW, s_oMod, s_oFdiv, s_oPow, s_oIsN, s_oNotN, s_oIsB, s_oNotB, s_isNon_int, s_isNon_non, s_isNon_bl, s_isNon_str, s_isNon_tup, s_isNon_lst, s_isNon_dic, s_oEqI, s_oNeI, s_oIxT, s_oIxL, s_oSlT, s_oSlL, s_oRevT, s_oRevL, s_oInt, s_oIntB, s_oAbs, s_oMax2, s_oMin2, s_oLen, s_plenT, s_plenL, s_plenD, s_plenS, s_oTupleL, s_oTupleT, s_oListL, s_oListT, List.set_cons_succ, List.set_cons_zero, List.append_nil, true_and, x_bl, x_int, x_some, x_addT, x_addL, x_true, x_false]
      rw [← List.map_append, ← ek]
      refine ⟨line (by rw [List.length_map, List.length_map]; omega), ?_⟩
      rw [List.length_map]
      have ec : (keys (upto lots a (i + 1))).length = cnt lots a (a + i) := by unfold cnt seg upto; rw [Nat.add_assoc]
      rw [ec]
      by_cases c : t < (cnt lots a (a + i) : Int)
      · refine ite_t (decide_eq_true c) ⟨_, rfl, by rw [List.length_map]; unfold nI; rw [List.length_map]; exact small_line (by omega), hN _ ⟨by omega, ls ++ [a + i], some (.int ((a + i : Nat) : Int)), fun l hl => ?_, by rw [List.length_append]; exact Nat.succ_le_succ hll, ?_⟩⟩
        · rcases List.mem_append.mp hl with z | z
          · exact hls l z
          · rw [List.mem_singleton.mp z]; exact ⟨by omega, by omega, c⟩
        · have e2 : lI (nI (ls ++ [a + i])) = .lst (List.map PV.int (nI ls) ++ [PV.int ((a + i : Nat) : Int)]) := by unfold nI; rw [List.map_append, show lI _ = PV.lst (List.map PV.int _) from rfl, List.map_append]; rfl
          rw [e2]
      · exact ite_f (by rw [decide_eq_false c]; decide) (hN _ ⟨by omega, ls, some (.int ((a + i : Nat) : Int)), hls, by omega, rfl⟩)
  · obtain ⟨hi, ls, y3, hls, hll, rfl⟩ := hE
    rw [List.length_range] at hll
    try simp only [s_mVar0, s_mVarS, s_mVarO0, s_mVarOS, s_isObj_lst, s_isObj_dic, s_mC, s_mOp, s_mOp1, s_mB, s_mNil, s_mCons, s_mTup, s_mLst, s_mCall, s_mTB, s_mNot, s_mAnd, s_mOr, s_mAndV, s_mOrV, s_mIf, s_mYes, s_mSl, s_mNo, s_mPart, s_mLc, s_mItems, s_mRng1, s_mRng2, s_mEnum, s_mChain, s_seqT, s_seqL, s_sNext, s_sSeq, s_sIf, s_sSet, s_sRet, s_sRetN, s_sBreak, s_sCont, s_sDrop, s_sPar, s_setN0, s_setNS, s_sAsg, s_sApp, s_sAug, s_sFor, s_sSrc, s_gmN, s_gmT, s_gmCons, s_gmNil, s_wipe0, s_wipeS, s_oSub, s_oAddI, s_oAdd, s_oLt, s_oLe, s_oGt, s_oGe, s_oNeg, s_oNot, s_oMul, s_oMulW, s_oMod, s_oFdiv, s_oPow, s_oIsN, s_oNotN, s_oIsB, s_oNotB, s_isNon_int, s_isNon_non, s_isNon_bl, s_isNon_str, s_isNon_tup, s_isNon_lst, s_isNon_dic, s_oEqI, s_oNeI, s_oIxT, s_oIxL, s_oSlT, s_oSlL, s_oRevT, s_oRevL, s_oInt, s_oIntB, s_oAbs, s_oMax2, s_oMin2, s_oLen, s_plenT, s_plenL, s_plenD, s_plenS, s_oTupleL, s_oTupleT, s_oListL, s_oListT, List.set_cons_succ, List.set_cons_zero, List.append_nil, true_and, x_bl, x_int, x_some, x_addT, x_addL, x_true, x_false]
    exact h ls hls (by omega)
end K45

set_option maxHeartbeats 2000000
namespace K45
open PySem L2 PM
def leftL (costs : List Int) (rs : List T3) : List Int := (rng costs.length).map fun j => cost costs j.toNat - paid rs j
structure FD (lots : List (List Int)) (t : Int) (costs : List Int) (rs : List T3) : Prop where
  ok : ∀ r ∈ rs, Ok3 lots t r
  b40 : ∀ r ∈ rs, r.2.2 ≤ 40
  fit : ∀ j : Int, 0 ≤ j → j < costs.length → paid rs j ≤ cost costs j.toNat
  dist : rs.Pairwise fun a b => ¬ (a.1 = b.1 ∧ a.2.1 = b.2.1)
theorem last_of {ls : List Nat} {C : PV → Prop} (h0 : ls ≠ []) (hl : ls.length ≤ 1000) (hK : ∀ l ∈ ls, C (.int (l : Nat))) : sp_drw [.src, .int 2] fun x => oEq x (.int 0) fun y => ∃ k, y = .bl k ∧ if k = true then ∃ p, atI (List.map PV.int (nI ls)) 0 = some p ∧ C p else sp_pick [.src, lI (nI ls)] C := by
  refine ⟨_, rfl, by decide, by decide, fun r r0 r1 => s_oEqI.mpr ⟨_, rfl, ?_⟩⟩
  have hlp : 0 < ls.length := List.length_pos_iff.mpr h0
  by_cases c : r = 0
  · refine ite_t (decide_eq_true c) ⟨.int (ls[0] : Nat), ?_, hK _ (List.getElem_mem hlp)⟩
    rw [atI_nn (Int.le_refl _) (by rw [List.length_map]; unfold nI; rw [List.length_map]; omega), List.getElem?_map, nI, List.getElem?_map]
    show ((ls[0]?.map _).map _) = _
    rw [List.getElem?_eq_getElem hlp]; rfl
  · refine ite_f (by rw [decide_eq_false c]; decide) (pick_ints (by unfold nI; rw [List.length_map]; exact hlp) (by unfold nI; rw [List.length_map]; exact hl) fun x hx => ?_)
    obtain ⟨l, hl, rfl⟩ := List.mem_map.mp hx
    exact hK l hl
theorem toll_of {m : Int} {C : PV → Prop} (h0 : 0 < m) (h1 : m ≤ 40) (hK : ∀ c, 1 ≤ c → c ≤ m → C (.int c)) : sp_drw [.src, .int 2] fun x => oEq x (.int 0) fun y => ∃ k, y = .bl k ∧ if k = true then C (.int m) else sp_drw [.src, .int m] fun y => oAdd (.int 1) y C := by
  refine ⟨_, rfl, by decide, by decide, fun r r0 r1 => s_oEqI.mpr ⟨_, rfl, ?_⟩⟩
  by_cases c : r = 0
  · exact ite_t (decide_eq_true c) (hK m (by omega) (Int.le_refl _))
  · refine ite_f (by rw [decide_eq_false c]; decide) ⟨_, rfl, h0, by omega, fun r r0 r1 => s_oAdd.mpr (hK _ (by omega) (by omega))⟩
def rowL (r : T3) : List Int := [r.1, r.2.1, r.2.2]
theorem sum_perm : ∀ {a b : List Int}, a.Perm b → a.sum = b.sum := fun h => by
  induction h with
  | nil => rfl
  | cons x _ ih => rw [List.sum_cons, List.sum_cons, ih]
  | swap x y l => rw [List.sum_cons, List.sum_cons, List.sum_cons, List.sum_cons]; omega
  | trans _ _ h1 h2 => rw [h1, h2]
theorem paid_perm {a b : List T3} (h : a.Perm b) (one : Int) : paid a one = paid b one := sum_perm ((h.filter _).map _)
theorem ascB_of {rs : List T3} (h : rs.Pairwise fun a b => HT.lexLt (rowL a) (rowL b) = true) : ascB rs = true := by
  unfold ascB
  rw [List.all_eq_true]
  intro i hi
  obtain ⟨i1, i2⟩ := rng1_mem hi
  rw [List.pairwise_iff_getElem] at h
  have := h (i - 1).toNat i.toNat (by omega) (by omega) (by omega)
  rw [List.getD_eq_getElem?_getD, List.getD_eq_getElem?_getD, List.getElem?_eq_getElem (by omega), List.getElem?_eq_getElem (by omega)]
  exact this
theorem lex_code {a b : T3} (ha : TS.Bd 64 (rowL a)) (hb : TS.Bd 64 (rowL b)) (h : TS.code 64 (rowL a) ≤ TS.code 64 (rowL b)) (d : ¬ (a.1 = b.1 ∧ a.2.1 = b.2.1)) : HT.lexLt (rowL a) (rowL b) = true := by
  unfold rowL at *
  rw [lexLt3]
  have a1 := ha a.1 (by simp)
  have a2 := ha a.2.1 (by simp)
  have a3 := ha a.2.2 (by simp)
  have b1 := hb b.1 (by simp)
  have b2 := hb b.2.1 (by simp)
  have b3 := hb b.2.2 (by simp)
  have e : ∀ x y z : Int, TS.code 64 [x, y, z] = x * 4096 + (y * 64 + (z * 1 + 0)) := fun x y z => rfl
  rw [e, e] at h
  refine decide_eq_true ?_
  omega
theorem fitsB_of {costs : List Int} {rs : List T3} (h : ∀ j : Int, 0 ≤ j → j < costs.length → paid rs j ≤ cost costs j.toNat) : fitsB costs rs = true := by
  unfold fitsB
  rw [List.all_eq_true]
  intro i hi
  obtain ⟨i0, i1⟩ := rng_mem hi
  exact decide_eq_true (h i i0 i1)
def sp_l_own_tolls : PM.Spec := fun ps P => ∃ (lots : List (List Int)) (t : Int) (costs : List Int), ps = [.src, crs lots, .int t, tI costs] ∧ Good lots ∧ Cs lots costs ∧ lots.length ≤ 60 ∧ ∀ rs : List T3, (∀ r ∈ rs, Ok3 lots t r) → ascB rs = true → fitsB costs rs = true → rs.length ≤ 6 → P (.tup (rs.map t3))
theorem h_l_own_tolls (ps : List PV) (Q : PV → Prop) (h : sp_l_own_tolls ps Q) : t_l_own_tolls sp_drw sp_l_lasts sp_pick { nx := fun _ => nxOf .cl Q, rt := Q } (startE n_l_own_tolls.length ps) := by
  obtain ⟨lots, t, costs, rfl, hg, hc, h60, h⟩ := h
  have hcl := hc.len
  show t_l_own_tolls _ _ _ _ [some .src, some (crs lots), some (.int t), some (tI costs), none, none, none, none, none, none, none, none, none, none, none]
  unfold t_l_own_tolls
  try simp only [s_mVar0, s_mVarS, s_mVarO0, s_mVarOS, s_isObj_lst, s_isObj_dic, s_mC, s_mOp, s_mOp1, s_mB, s_mNil, s_mCons, s_mTup, s_mLst, s_mCall, s_mTB, s_mNot, s_mAnd, s_mOr, s_mAndV, s_mOrV, s_mIf, s_mYes, s_mSl, s_mNo, s_mPart, s_mLc, s_mItems, s_mRng1, s_mRng2, s_mEnum, s_mChain, s_seqT, s_seqL, s_sNext, s_sSeq, s_sIf, s_sSet, s_sRet, s_sRetN, s_sBreak, s_sCont, s_sDrop, s_sPar, s_setN0, s_setNS, s_sAsg, s_sApp, s_sAug, s_sFor, s_sSrc, s_gmN, s_gmT, s_gmCons, s_gmNil, s_wipe0, s_wipeS, s_oSub, s_oAddI, s_oAdd, s_oLt, s_oLe, s_oGt, s_oGe, s_oNeg, s_oNot, s_oMul, s_oMulW, s_oMod, s_oFdiv, s_oPow, s_oIsN, s_oNotN, s_oIsB, s_oNotB, s_isNon_int, s_isNon_non, s_isNon_bl, s_isNon_str, s_isNon_tup, s_isNon_lst, s_isNon_dic, s_oEqI, s_oNeI, s_oIxT, s_oIxL, s_oSlT, s_oSlL, s_oRevT, s_oRevL, s_oInt, s_oIntB, s_oAbs, s_oMax2, s_oMin2, s_oLen, s_plenT, s_plenL, s_plenD, s_plenS, s_oTupleL, s_oTupleT, s_oListL, s_oListT, List.set_cons_succ, List.set_cons_zero, List.append_nil, true_and, x_bl, x_int, x_some, x_addT, x_addL, x_true, x_false]
  refine comp_map (emb := PV.int) (f := PV.int) (fun x hx => ⟨_, fun k hk => s_gmN.mpr hk, fun Q hQ => hQ, fun Q hQ => ?_⟩) (line (by omega)) ?_
  · try simp only [s_mVar0, s_mVarS, s_mVarO0, s_mVarOS, s_isObj_lst, s_isObj_dic, s_mC, s_mOp, s_mOp1, s_mB, s_mNil, s_mCons, s_mTup, s_mLst, s_mCall, s_mTB, s_mNot, s_mAnd, s_mOr, s_mAndV, s_mOrV, s_mIf, s_mYes, s_mSl, s_mNo, s_mPart, s_mLc, s_mItems, s_mRng1, s_mRng2, s_mEnum, s_mChain, s_seqT, s_seqL, s_sNext, s_sSeq, s_sIf, s_sSet, s_sRet, s_sRetN, s_sBreak, s_sCont, s_sDrop, s_sPar, s_setN0, s_setNS, s_sAsg, s_sApp, s_sAug, s_sFor, s_sSrc, s_gmN, s_gmT, s_gmCons, s_gmNil, s_wipe0, s_wipeS, s_oSub, s_oAddI, s_oAdd, s_oLt, s_oLe, s_oGt, s_oGe, s_oNeg, s_oNot, s_oMul, s_oMulW, s_oMod, s_oFdiv, s_oPow, s_oIsN, s_oNotN, s_oIsB, s_oNotB, s_isNon_int, s_isNon_non, s_isNon_bl, s_isNon_str, s_isNon_tup, s_isNon_lst, s_isNon_dic, s_oEqI, s_oNeI, s_oIxT, s_oIxL, s_oSlT, s_oSlL, s_oRevT, s_oRevL, s_oInt, s_oIntB, s_oAbs, s_oMax2, s_oMin2, s_oLen, s_plenT, s_plenL, s_plenD, s_plenS, s_oTupleL, s_oTupleT, s_oListL, s_oListT, List.set_cons_succ, List.set_cons_zero, List.append_nil, true_and, x_bl, x_int, x_some, x_addT, x_addL, x_true, x_false]
    exact hQ
  try simp only [s_mVar0, s_mVarS, s_mVarO0, s_mVarOS, s_isObj_lst, s_isObj_dic, s_mC, s_mOp, s_mOp1, s_mB, s_mNil, s_mCons, s_mTup, s_mLst, s_mCall, s_mTB, s_mNot, s_mAnd, s_mOr, s_mAndV, s_mOrV, s_mIf, s_mYes, s_mSl, s_mNo, s_mPart, s_mLc, s_mItems, s_mRng1, s_mRng2, s_mEnum, s_mChain, s_seqT, s_seqL, s_sNext, s_sSeq, s_sIf, s_sSet, s_sRet, s_sRetN, s_sBreak, s_sCont, s_sDrop, s_sPar, s_setN0, s_setNS, s_sAsg, s_sApp, s_sAug, s_sFor, s_sSrc, s_gmN, s_gmT, s_gmCons, s_gmNil, s_wipe0, s_wipeS, s_oSub, s_oAddI, s_oAdd, s_oLt, s_oLe, s_oGt, s_oGe, s_oNeg, s_oNot, s_oMul, s_oMulW, s_oMod, s_oFdiv, s_oPow, s_oIsN, s_oNotN, s_oIsB, s_oNotB, s_isNon_int, s_isNon_non, s_isNon_bl, s_isNon_str, s_isNon_tup, s_isNon_lst, s_isNon_dic, s_oEqI, s_oNeI, s_oIxT, s_oIxL, s_oSlT, s_oSlL, s_oRevT, s_oRevL, s_oInt, s_oIntB, s_oAbs, s_oMax2, s_oMin2, s_oLen, s_plenT, s_plenL, s_plenD, s_plenS, s_oTupleL, s_oTupleT, s_oListL, s_oListT, List.set_cons_succ, List.set_cons_zero, List.append_nil, true_and, x_bl, x_int, x_some, x_addT, x_addL, x_true, x_false]
  refine ⟨Nat.zero_le _, by omega, ?_⟩
  rw [show Int.toNat 6 = 6 from rfl, rngP_rng]
  have e0 : costs = leftL costs [] := by
    unfold leftL rng
    rw [List.map_map]
    apply List.ext_getElem?
    intro i
    rw [List.getElem?_map]
    by_cases c : i < costs.length
    · rw [List.getElem?_range c, List.getElem?_eq_getElem c]
      show _ = some (cost costs (i : Int).toNat - 0)
      rw [Int.toNat_natCast, cost, List.getD_eq_getElem?_getD, List.getElem?_eq_getElem c]
      simp
    · rw [List.getElem?_eq_none (by omega), List.getElem?_eq_none (by simp; omega)]; rfl
  have el : PV.lst (List.map PV.int costs) = lI (leftL costs []) := by rw [← e0]
  rw [el]
  refine for_inv (fun i e => i ≤ 6 ∧ ∃ (rs : List T3) (y4 y7 y8 y9 y10 y11 y12 : Option PV), FD lots t costs rs ∧ rs.length ≤ i ∧ e = [some .src, some (crs lots), some (.int t), some (tI costs), y4, some (lI (leftL costs rs)), some (.lst (rs.map t3)), y7, y8, y9, y10, y11, y12, none, none]) ⟨by omega, [], none, none, none, none, none, none, none, ⟨fun _ h => absurd h List.not_mem_nil, fun _ h => absurd h List.not_mem_nil, fun j _ _ => hc.cost0 _, List.Pairwise.nil⟩, Nat.le_refl _, rfl⟩ (fun i x e N hx hE hN => ?_) (fun e hE => ?_)
  · obtain ⟨hi, rs, y4, y7, y8, y9, y10, y11, y12, fd, hlen, rfl⟩ := hE
    have hi6 := (List.getElem?_eq_some_iff.mp hx).1
    rw [rng_len] at hi6
    have hN' : ∀ rs' y4 y7 y8 y9 y10 y11 y12, FD lots t costs rs' → rs'.length ≤ i + 1 → N [some .src, some (crs lots), some (.int t), some (tI costs), y4, some (lI (leftL costs rs')), some (.lst (rs'.map t3)), y7, y8, y9, y10, y11, y12, none, none] := fun rs' y4 y7 y8 y9 y10 y11 y12 a b => hN _ ⟨hi6, rs', y4, y7, y8, y9, y10, y11, y12, a, b, rfl⟩
    rw [s_gmN]
    try simp only [s_mVar0, s_mVarS, s_mVarO0, s_mVarOS, s_isObj_lst, s_isObj_dic, s_mC, s_mOp, s_mOp1, s_mB, s_mNil, s_mCons, s_mTup, s_mLst, s_mCall, s_mTB, s_mNot, s_mAnd, s_mOr, s_mAndV, s_mOrV, s_mIf, s_mYes, s_mSl, s_mNo, s_mPart, s_mLc, s_mItems, s_mRng1, s_mRng2, s_mEnum, s_mChain, s_seqT, s_seqL, s_sNext, s_sSeq, s_sIf, s_sSet, s_sRet, s_sRetN, s_sBreak, s_sCont, s_sDrop, s_sPar, s_setN0, s_setNS, s_sAsg, s_sApp, s_sAug, s_sFor, s_sSrc, s_gmN, s_gmT, s_gmCons, s_gmNil, s_wipe0, s_wipeS, s_oSub, s_oAddI, s_oAdd, s_oLt, s_oLe, s_oGt, s_oGe, s_oNeg, s_oNot, s_oMul, s_oMulW, s_oMod, s_oFdiv, s_oPow, s_oIsN, s_oNotN, s_oIsB, s_oNotB, s_isNon_int, s_isNon_non, s_isNon_bl, s_isNon_str, s_isNon_tup, s_isNon_lst, s_isNon_dic, s_oEqI, s_oNeI, s_oIxT, s_oIxL, s_oSlT, s_oSlL, s_oRevT, s_oRevL, s_oInt, s_oIntB, s_oAbs, s_oMax2, s_oMin2, s_oLen, s_plenT, s_plenL, s_plenD, s_plenS, s_oTupleL, s_oTupleT, s_oListL, s_oListT, List.set_cons_succ, List.set_cons_zero, List.append_nil, true_and, x_bl, x_int, x_some, x_addT, x_addL, x_true, x_false]
    rw [List.length_map]
    refine ⟨_, rfl, by omega, by omega, fun r r0 r1 => ?_⟩
    obtain ⟨a, rfl⟩ := Int.eq_ofNat_of_zero_le r0
    refine ⟨lots, a, t, rfl, hg, by omega, fun ls hls hll => ?_⟩
    try simp only [s_mVar0, s_mVarS, s_mVarO0, s_mVarOS, s_isObj_lst, s_isObj_dic, s_mC, s_mOp, s_mOp1, s_mB, s_mNil, s_mCons, s_mTup, s_mLst, s_mCall, s_mTB, s_mNot, s_mAnd, s_mOr, s_mAndV, s_mOrV, s_mIf, s_mYes, s_mSl, s_mNo, s_mPart, s_mLc, s_mItems, s_mRng1, s_mRng2, s_mEnum, s_mChain, s_seqT, s_seqL, s_sNext, s_sSeq, s_sIf, s_sSet, s_sRet, s_sRetN, s_sBreak, s_sCont, s_sDrop, s_sPar, s_setN0, s_setNS, s_sAsg, s_sApp, s_sAug, s_sFor, s_sSrc, s_gmN, s_gmT, s_gmCons, s_gmNil, s_wipe0, s_wipeS, s_oSub, s_oAddI, s_oAdd, s_oLt, s_oLe, s_oGt, s_oGe, s_oNeg, s_oNot, s_oMul, s_oMulW, s_oMod, s_oFdiv, s_oPow, s_oIsN, s_oNotN, s_oIsB, s_oNotB, s_isNon_int, s_isNon_non, s_isNon_bl, s_isNon_str, s_isNon_tup, s_isNon_lst, s_isNon_dic, s_oEqI, s_oNeI, s_oIxT, s_oIxL, s_oSlT, s_oSlL, s_oRevT, s_oRevL, s_oInt, s_oIntB, s_oAbs, s_oMax2, s_oMin2, s_oLen, s_plenT, s_plenL, s_plenD, s_plenS, s_oTupleL, s_oTupleT, s_oListL, s_oListT, List.set_cons_succ, List.set_cons_zero, List.append_nil, true_and, x_bl, x_int, x_some, x_addT, x_addL, x_true, x_false]
    refine ⟨Nat.zero_le _, oEqI_nil ⟨_, rfl, ?_⟩⟩
    by_cases cl : ls = []
    · subst cl
      exact ite_t rfl (hN' rs _ _ _ _ _ _ _ fd (by omega))
    refine ite_f (by cases ls with
      | nil => exact absurd rfl cl
      | cons _ _ => exact Bool.false_ne_true) (last_of cl (by omega) fun l hl => ?_)
    obtain ⟨la, lb, lu⟩ := hls l hl
    have er : rngP (a : Int) ((l : Int) - a).toNat = (List.range (l - a)).map fun (j : Nat) => PV.int ((a + j : Nat) : Int) := by
      rw [rngP_map, show ((l : Int) - a).toNat = l - a by omega]; rfl
    refine ⟨_, _, rfl, rfl, by omega, ?_⟩
    rw [er]
    have at5 : ∀ j : Nat, j < l - a → atI ((leftL costs rs).map PV.int) ((a + j : Nat) : Int) = some (.int (cost costs (a + j) - paid rs ((a + j : Nat) : Int))) := fun j hj => by
      rw [atI_nn (Int.natCast_nonneg _) (by rw [List.length_map]; unfold leftL; rw [List.length_map, rng_len]; omega), List.getElem?_map, leftL, rng_map_get (Int.natCast_nonneg _) (by omega), Int.toNat_natCast]; rfl
    refine comp_map (f := fun (j : Nat) => .int (cost costs (a + j) - paid rs ((a + j : Nat) : Int))) (fun j hj => ⟨_, fun k hk => s_gmN.mpr hk, fun Q hQ => hQ, fun Q hQ => ?_⟩) (line (by rw [List.length_range]; omega)) ?_
    · try simp only [s_mVar0, s_mVarS, s_mVarO0, s_mVarOS, s_isObj_lst, s_isObj_dic, s_mC, s_mOp, s_mOp1, s_mB, s_mNil, s_mCons, s_mTup, s_mLst, s_mCall, s_mTB, s_mNot, s_mAnd, s_mOr, s_mAndV, s_mOrV, s_mIf, s_mYes, s_mSl, s_mNo, s_mPart, s_mLc, s_mItems, s_mRng1, s_mRng2, s_mEnum, s_mChain, s_seqT, s_seqL, s_sNext, s_sSeq, s_sIf, s_sSet, s_sRet, s_sRetN, s_sBreak, s_sCont, s_sDrop, s_sPar, s_setN0, s_setNS, s_sAsg, s_sApp, s_sAug, s_sFor, s_sSrc, s_gmN, s_gmT, s_gmCons, s_gmNil, s_wipe0, s_wipeS, s_oSub, s_oAddI, s_oAdd, s_oLt, s_oLe, s_oGt, s_oGe, s_oNeg, s_oNot, s_oMul, s_oMulW, s_oMod, s_oFdiv, s_oPow, s_oIsN, s_oNotN, s_oIsB, s_oNotB, s_isNon_int, s_isNon_non, s_isNon_bl, s_isNon_str, s_isNon_tup, s_isNon_lst, s_isNon_dic, s_oEqI, s_oNeI, s_oIxT, s_oIxL, s_oSlT, s_oSlL, s_oRevT, s_oRevL, s_oInt, s_oIntB, s_oAbs, s_oMax2, s_oMin2, s_oLen, s_plenT, s_plenL, s_plenD, s_plenS, s_oTupleL, s_oTupleT, s_oListL, s_oListT, List.set_cons_succ, List.set_cons_zero, List.append_nil, true_and, x_bl, x_int, x_some, x_addT, x_addL, x_true, x_false]
      exact ⟨_, at5 j (List.mem_range.mp hj), hQ⟩
    have em : (List.range (l - a)).map (fun (j : Nat) => PV.int (cost costs (a + j) - paid rs ((a + j : Nat) : Int))) ++ [PV.int 40] = ((List.range (l - a)).map (fun (j : Nat) => cost costs (a + j) - paid rs ((a + j : Nat) : Int)) ++ [40]).map PV.int := by
      rw [List.map_append, List.map_map]; rfl
    try simp only [s_mVar0, s_mVarS, s_mVarO0, s_mVarOS, s_isObj_lst, s_isObj_dic, s_mC, s_mOp, s_mOp1, s_mB, s_mNil, s_mCons, s_mTup, s_mLst, s_mCall, s_mTB, s_mNot, s_mAnd, s_mOr, s_mAndV, s_mOrV, s_mIf, s_mYes, s_mSl, s_mNo, s_mPart, s_mLc, s_mItems, s_mRng1, s_mRng2, s_mEnum, s_mChain, s_seqT, s_seqL, s_sNext, s_sSeq, s_sIf, s_sSet, s_sRet, s_sRetN, s_sBreak, s_sCont, s_sDrop, s_sPar, s_setN0, s_setNS, s_sAsg, s_sApp, s_sAug, s_sFor, s_sSrc, s_gmN, s_gmT, s_gmCons, s_gmNil, s_wipe0, s_wipeS, s_oSub, s_oAddI, s_oAdd, s_oLt, s_oLe, s_oGt, s_oGe, s_oNeg, s_oNot, s_oMul, s_oMulW, s_oMod, s_oFdiv, s_oPow, s_oIsN, s_oNotN, s_oIsB, s_oNotB, s_isNon_int, s_isNon_non, s_isNon_bl, s_isNon_str, s_isNon_tup, s_isNon_lst, s_isNon_dic, s_oEqI, s_oNeI, s_oIxT, s_oIxL, s_oSlT, s_oSlL, s_oRevT, s_oRevL, s_oInt, s_oIntB, s_oAbs, s_oMax2, s_oMin2, s_oLen, s_plenT, s_plenL, s_plenD, s_plenS, s_oTupleL, s_oTupleT, s_oListL, s_oListT, List.set_cons_succ, List.set_cons_zero, List.append_nil, true_and, x_bl, x_int, x_some, x_addT, x_addL, x_true, x_false]
    rw [em]
    refine ⟨line (by simp), line (by simp; omega), _, rfl, by simp, fun m hm hle => ?_⟩
    have m40 : m ≤ 40 := hle 40 (by simp)
    have mle : ∀ j : Int, a ≤ j → j < l → m ≤ cost costs j.toNat - paid rs j := fun j j0 j1 => by
      have := hle (cost costs j.toNat - paid rs j) (List.mem_append_left _ (List.mem_map.mpr ⟨j.toNat - a, List.mem_range.mpr (by omega), by rw [show a + (j.toNat - a) = j.toNat by omega, Int.toNat_of_nonneg (by omega)]⟩))
      exact this
    have m0 : 0 ≤ m := by
      rcases List.mem_append.mp hm with z | z
      · obtain ⟨j, hj, rfl⟩ := List.mem_map.mp z
        have := List.mem_range.mp hj
        have := fd.fit ((a + j : Nat) : Int) (Int.natCast_nonneg _) (by omega)
        rw [Int.toNat_natCast] at this
        omega
      · rw [List.mem_singleton.mp z]; decide
    refine s_oEqI.mpr ⟨_, rfl, ?_⟩
    by_cases cm : m = 0
    · exact ite_t (decide_eq_true cm) (ite_t trivial (hN' rs _ _ _ _ _ _ _ fd (by omega)))
    refine ite_f (by rw [decide_eq_false cm]; decide) ?_
    refine ⟨_, rfl, ?_⟩
    refine comp_emb (emb := t3) (tst := fun q => decide (q.1 = a ∧ q.2.1 = l)) (f := t3) (fun q hq => ⟨_, fun k hk => s_gmN.mpr hk, fun Q hQ => ?_, fun _ Q hQ => ?_⟩) (by rw [List.length_nil, Nat.zero_add]; exact line (by omega)) ?_
    · unfold t3
      try simp only [s_mVar0, s_mVarS, s_mVarO0, s_mVarOS, s_isObj_lst, s_isObj_dic, s_mC, s_mOp, s_mOp1, s_mB, s_mNil, s_mCons, s_mTup, s_mLst, s_mCall, s_mTB, s_mNot, s_mAnd, s_mOr, s_mAndV, s_mOrV, s_mIf, s_mYes, s_mSl, s_mNo, s_mPart, s_mLc, s_mItems, s_mRng1, s_mRng2, s_mEnum, s_mChain, s_seqT, s_seqL, s_sNext, s_sSeq, s_sIf, s_sSet, s_sRet, s_sRetN, s_sBreak, s_sCont, s_sDrop, s_sPar, s_setN0, s_setNS, s_sAsg, s_sApp, s_sAug, s_sFor, s_sSrc, s_gmN, s_gmT, s_gmCons, s_gmNil, s_wipe0, s_wipeS, s_oSub, s_oAddI, s_oAdd, s_oLt, s_oLe, s_oGt, s_oGe, s_oNeg, s_oNot, s_oMul, s_oMulW, s_oMod, s_oFdiv, s_oPow, s_oIsN, s_oNotN, s_oIsB, s_oNotB, s_isNon_int, s_isNon_non, s_isNon_bl, s_isNon_str, s_isNon_tup, s_isNon_lst, s_isNon_dic, s_oEqI, s_oNeI, s_oIxT, s_oIxL, s_oSlT, s_oSlL, s_oRevT, s_oRevL, s_oInt, s_oIntB, s_oAbs, s_oMax2, s_oMin2, s_oLen, s_plenT, s_plenL, s_plenD, s_plenS, s_oTupleL, s_oTupleT, s_oListL, s_oListT, List.set_cons_succ, List.set_cons_zero, List.append_nil, true_and, x_bl, x_int, x_some, x_addT, x_addL, x_true, x_false]
      refine ⟨_, rfl, s_oEqI.mpr ⟨_, rfl, ?_⟩⟩
      by_cases c : q.1 = a
      · refine ite_t (decide_eq_true c) ⟨_, rfl, s_oEqI.mpr ⟨_, rfl, ?_⟩⟩
        have e : decide (q.1 = a ∧ q.2.1 = l) = decide (q.2.1 = l) := by simp [c]
        rw [e] at hQ
        exact hQ
      · refine ite_f (by rw [decide_eq_false c]; decide) ?_
        have e : decide (q.1 = a ∧ q.2.1 = l) = false := by simp [c]
        rw [e] at hQ
        exact hQ
    · try simp only [s_mVar0, s_mVarS, s_mVarO0, s_mVarOS, s_isObj_lst, s_isObj_dic, s_mC, s_mOp, s_mOp1, s_mB, s_mNil, s_mCons, s_mTup, s_mLst, s_mCall, s_mTB, s_mNot, s_mAnd, s_mOr, s_mAndV, s_mOrV, s_mIf, s_mYes, s_mSl, s_mNo, s_mPart, s_mLc, s_mItems, s_mRng1, s_mRng2, s_mEnum, s_mChain, s_seqT, s_seqL, s_sNext, s_sSeq, s_sIf, s_sSet, s_sRet, s_sRetN, s_sBreak, s_sCont, s_sDrop, s_sPar, s_setN0, s_setNS, s_sAsg, s_sApp, s_sAug, s_sFor, s_sSrc, s_gmN, s_gmT, s_gmCons, s_gmNil, s_wipe0, s_wipeS, s_oSub, s_oAddI, s_oAdd, s_oLt, s_oLe, s_oGt, s_oGe, s_oNeg, s_oNot, s_oMul, s_oMulW, s_oMod, s_oFdiv, s_oPow, s_oIsN, s_oNotN, s_oIsB, s_oNotB, s_isNon_int, s_isNon_non, s_isNon_bl, s_isNon_str, s_isNon_tup, s_isNon_lst, s_isNon_dic, s_oEqI, s_oNeI, s_oIxT, s_oIxL, s_oSlT, s_oSlL, s_oRevT, s_oRevL, s_oInt, s_oIntB, s_oAbs, s_oMax2, s_oMin2, s_oLen, s_plenT, s_plenL, s_plenD, s_plenS, s_oTupleL, s_oTupleT, s_oListL, s_oListT, List.set_cons_succ, List.set_cons_zero, List.append_nil, true_and, x_bl, x_int, x_some, x_addT, x_addL, x_true, x_false]
      exact hQ
    rw [List.nil_append]
    refine ⟨Nat.zero_le _, oNe_nil (f := fun r : T3 => PyData.tuple [.int r.1, .int r.2.1, .int r.2.2]) (n := 1) (fun _ => rfl) (fun _ => ⟨rfl, Nat.le_refl _⟩) (by decide) ⟨_, rfl, ?_⟩⟩
    by_cases cd : (rs.filter fun q : T3 => decide (q.1 = (a : Int) ∧ q.2.1 = (l : Int))) = []
    case neg =>
      refine ite_t (by rw [Bool.not_eq_true', List.isEmpty_eq_false_iff]; exact cd) (hN' rs _ _ _ _ _ _ _ fd (by omega))
    rw [cd]
    refine ite_f (by decide) (toll_of (by omega) m40 fun c c1 cm' => ?_)
    refine ⟨_, _, rfl, rfl, by omega, ?_⟩
    rw [er]
    have okq : Ok3 lots t ((a : Int), (l : Int), c) := ⟨Int.natCast_nonneg _, by show (a : Int) ≤ l; omega, by show (l : Int) < _; omega, c1, by show t < (cnt lots (a : Int).toNat (l : Int).toNat : Int); rw [Int.toNat_natCast, Int.toNat_natCast]; exact lu⟩
    refine for_inv (fun k e => k ≤ l - a ∧ ∃ y12, e = [some .src, some (crs lots), some (.int t), some (tI costs), some (.int x), some (lI ((rng costs.length).map fun j => cost costs j.toNat - paid rs j - if a ≤ j ∧ j < a + k then c else 0)), some (.lst (rs.map t3)), some (.int a), some (lI (nI ls)), some (.int l), some (.int m), some (.int c), y12, none, none]) ⟨Nat.zero_le _, y12, ?_⟩ (fun k x e N hx hE hN => ?_) (fun e hE => ?_)
    · have : (fun j : Int => cost costs j.toNat - paid rs j - if (a : Int) ≤ j ∧ j < a + ((0 : Nat) : Int) then c else 0) = fun j => cost costs j.toNat - paid rs j := by
        funext j
        rw [if_neg (by omega), Int.sub_zero]
      rw [this]; rfl
    · obtain ⟨hk, y6, rfl⟩ := hE
      have e1 := (List.getElem?_eq_some_iff.mp hx).1
      rw [List.length_range] at e1
      rw [List.getElem?_range e1] at hx
      cases hx
      rw [s_gmN]
      try simp only [s_mVar0, s_mVarS, s_mVarO0, s_mVarOS, s_isObj_lst, s_isObj_dic, s_mC, s_mOp, s_mOp1, s_mB, s_mNil, s_mCons, s_mTup, s_mLst, s_mCall, s_mTB, s_mNot, s_mAnd, s_mOr, s_mAndV, s_mOrV, s_mIf, s_mYes, s_mSl, s_mNo, s_mPart, s_mLc, s_mItems, s_mRng1, s_mRng2, s_mEnum, s_mChain, s_seqT, s_seqL, s_sNext, s_sSeq, s_sIf, s_sSet, s_sRet, s_sRetN, s_sBreak, s_sCont, s_sDrop, s_sPar, s_setN0, s_setNS, s_sAsg, s_sApp, s_sAug, s_sFor, s_sSrc, s_gmN, s_gmT, s_gmCons, s_gmNil, s_wipe0, s_wipeS, s_oSub, s_oAddI, s_oAdd, s_oLt, s_oLe, s_oGt, s_oGe, s_oNeg, s_oNot, s_oMul, s_oMulW, s_oMod, s_oFdiv, s_oPow, s_oIsN, s_oNotN, s_oIsB, s_oNotB, s_isNon_int, s_isNon_non, s_isNon_bl, s_isNon_str, s_isNon_tup, s_isNon_lst, s_isNon_dic, s_oEqI, s_oNeI, s_oIxT, s_oIxL, s_oSlT, s_oSlL, s_oRevT, s_oRevL, s_oInt, s_oIntB, s_oAbs, s_oMax2, s_oMin2, s_oLen, s_plenT, s_plenL, s_plenD, s_plenS, s_oTupleL, s_oTupleT, s_oListL, s_oListT, List.set_cons_succ, List.set_cons_zero, List.append_nil, true_and, x_bl, x_int, x_some, x_addT, x_addL, x_true, x_false]
      refine ⟨_, rfl, ?_⟩
      try simp only [s_mVar0, s_mVarS, s_mVarO0, s_mVarOS, s_isObj_lst, s_isObj_dic, s_mC, s_mOp, s_mOp1, s_mB, s_mNil, s_mCons, s_mTup, s_mLst, s_mCall, s_mTB, s_mNot, s_mAnd, s_mOr, s_mAndV, s_mOrV, s_mIf, s_mYes, s_mSl, s_mNo, s_mPart, s_mLc, s_mItems, s_mRng1, s_mRng2, s_mEnum, s_mChain, s_seqT, s_seqL, s_sNext, s_sSeq, s_sIf, s_sSet, s_sRet, s_sRetN, s_sBreak, s_sCont, s_sDrop, s_sPar, s_setN0, s_setNS, s_sAsg, s_sApp, s_sAug, s_sFor, s_sSrc, s_gmN, s_gmT, s_gmCons, s_gmNil, s_wipe0, s_wipeS, s_oSub, s_oAddI, s_oAdd, s_oLt, s_oLe, s_oGt, s_oGe, s_oNeg, s_oNot, s_oMul, s_oMulW, s_oMod, s_oFdiv, s_oPow, s_oIsN, s_oNotN, s_oIsB, s_oNotB, s_isNon_int, s_isNon_non, s_isNon_bl, s_isNon_str, s_isNon_tup, s_isNon_lst, s_isNon_dic, s_oEqI, s_oNeI, s_oIxT, s_oIxL, s_oSlT, s_oSlL, s_oRevT, s_oRevL, s_oInt, s_oIntB, s_oAbs, s_oMax2, s_oMin2, s_oLen, s_plenT, s_plenL, s_plenD, s_plenS, s_oTupleL, s_oTupleT, s_oListL, s_oListT, List.set_cons_succ, List.set_cons_zero, List.append_nil, true_and, x_bl, x_int, x_some, x_addT, x_addL, x_true, x_false]
      refine ⟨_, _, rfl, by omega, rng_map_get (by omega) (by omega), ?_⟩
      refine hN _ ⟨e1, some (.int ((a + k : Nat) : Int)), ?_⟩
      rw [rng_map_set]
      have : (fun j : Int => if j = ((((a + k : Nat) : Int).toNat : Nat) : Int) then (cost costs ((a + k : Nat) : Int).toNat - paid rs ((a + k : Nat) : Int) - if (a : Int) ≤ ((a + k : Nat) : Int) ∧ ((a + k : Nat) : Int) < a + k then c else 0) - c else (cost costs j.toNat - paid rs j - if (a : Int) ≤ j ∧ j < a + k then c else 0)) = fun j => cost costs j.toNat - paid rs j - if (a : Int) ≤ j ∧ j < a + ((k + 1 : Nat) : Int) then c else 0 := by
        funext j
        rw [if_neg (show ¬ ((a : Int) ≤ ((a + k : Nat) : Int) ∧ ((a + k : Nat) : Int) < a + k) by omega)]
        by_cases c : j = ((a + k : Nat) : Int)
        · rw [if_pos (by omega), if_pos (by omega), c]; omega
        · rw [if_neg (by omega)]
          by_cases c' : (a : Int) ≤ j ∧ j < a + k
          · rw [if_pos c', if_pos (by omega)]
          · rw [if_neg c', if_neg (by omega)]
      rw [this]
    · obtain ⟨hk, y6, rfl⟩ := hE
      rw [List.length_range]
      try simp only [s_mVar0, s_mVarS, s_mVarO0, s_mVarOS, s_isObj_lst, s_isObj_dic, s_mC, s_mOp, s_mOp1, s_mB, s_mNil, s_mCons, s_mTup, s_mLst, s_mCall, s_mTB, s_mNot, s_mAnd, s_mOr, s_mAndV, s_mOrV, s_mIf, s_mYes, s_mSl, s_mNo, s_mPart, s_mLc, s_mItems, s_mRng1, s_mRng2, s_mEnum, s_mChain, s_seqT, s_seqL, s_sNext, s_sSeq, s_sIf, s_sSet, s_sRet, s_sRetN, s_sBreak, s_sCont, s_sDrop, s_sPar, s_setN0, s_setNS, s_sAsg, s_sApp, s_sAug, s_sFor, s_sSrc, s_gmN, s_gmT, s_gmCons, s_gmNil, s_wipe0, s_wipeS, s_oSub, s_oAddI, s_oAdd, s_oLt, s_oLe, s_oGt, s_oGe, s_oNeg, s_oNot, s_oMul, s_oMulW, s_oMod, s_oFdiv, s_oPow, s_oIsN, s_oNotN, s_oIsB, s_oNotB, s_isNon_int, s_isNon_non, s_isNon_bl, s_isNon_str, s_isNon_tup, s_isNon_lst, s_isNon_dic, s_oEqI, s_oNeI, s_oIxT, s_oIxL, s_oSlT, s_oSlL, s_oRevT, s_oRevL, s_oInt, s_oIntB, s_oAbs, s_oMax2, s_oMin2, s_oLen, s_plenT, s_plenL, s_plenD, s_plenS, s_oTupleL, s_oTupleT, s_oListL, s_oListT, List.set_cons_succ, List.set_cons_zero, List.append_nil, true_and, x_bl, x_int, x_some, x_addT, x_addL, x_true, x_false]
      refine ⟨_, rfl, line (by simp), by rw [List.length_map]; exact small_line (by omega), ?_⟩
      have eL : (rng costs.length).map (fun j => cost costs j.toNat - paid rs j - if (a : Int) ≤ j ∧ j < a + ((l - a : Nat) : Int) then c else 0) = leftL costs (rs ++ [((a : Int), (l : Int), c)]) := by
        unfold leftL
        congr 1
        funext j
        rw [paid_app, show (a : Int) + ((l - a : Nat) : Int) = l by omega]
        show _ = cost costs j.toNat - (paid rs j + if (a : Int) ≤ j ∧ j < l then c else 0)
        omega
      rw [eL]
      have eR : List.map t3 rs ++ [PV.tup [PV.int a, PV.int l, PV.int c]] = (rs ++ [((a : Int), (l : Int), c)]).map t3 := by rw [List.map_append]; rfl
      rw [eR]
      refine hN' (rs ++ [((a : Int), (l : Int), c)]) _ _ _ _ _ _ _ ⟨fun r hr => ?_, fun r hr => ?_, fun j j0 j1 => ?_, ?_⟩ (by rw [List.length_append]; exact Nat.succ_le_succ hlen)
      · rcases List.mem_append.mp hr with z | z
        · exact fd.ok r z
        · rw [List.mem_singleton.mp z]; exact okq
      · rcases List.mem_append.mp hr with z | z
        · exact fd.b40 r z
        · rw [List.mem_singleton.mp z]; show c ≤ 40; omega
      · rw [paid_app]
        have := fd.fit j j0 j1
        by_cases z : (a : Int) ≤ j ∧ j < l
        · have := mle j z.1 z.2
          rw [if_pos z]
          show _ + c ≤ _
          omega
        · rw [if_neg z]; omega
      · rw [List.pairwise_append]
        refine ⟨fd.dist, List.pairwise_singleton _ _, fun r hr q hq => ?_⟩
        rw [List.mem_singleton.mp hq]
        intro z
        have : r ∈ rs.filter fun q : T3 => decide (q.1 = (a : Int) ∧ q.2.1 = (l : Int)) := List.mem_filter.mpr ⟨hr, decide_eq_true (show r.1 = (a : Int) ∧ r.2.1 = (l : Int) from z)⟩
        rw [cd] at this
        exact List.not_mem_nil this
  · obtain ⟨hi, rs, y4, y7, y8, y9, y10, y11, y12, fd, hlen, rfl⟩ := hE
    rw [rng_len] at hlen
    try simp only [s_mVar0, s_mVarS, s_mVarO0, s_mVarOS, s_isObj_lst, s_isObj_dic, s_mC, s_mOp, s_mOp1, s_mB, s_mNil, s_mCons, s_mTup, s_mLst, s_mCall, s_mTB, s_mNot, s_mAnd, s_mOr, s_mAndV, s_mOrV, s_mIf, s_mYes, s_mSl, s_mNo, s_mPart, s_mLc, s_mItems, s_mRng1, s_mRng2, s_mEnum, s_mChain, s_seqT, s_seqL, s_sNext, s_sSeq, s_sIf, s_sSet, s_sRet, s_sRetN, s_sBreak, s_sCont, s_sDrop, s_sPar, s_setN0, s_setNS, s_sAsg, s_sApp, s_sAug, s_sFor, s_sSrc, s_gmN, s_gmT, s_gmCons, s_gmNil, s_wipe0, s_wipeS, s_oSub, s_oAddI, s_oAdd, s_oLt, s_oLe, s_oGt, s_oGe, s_oNeg, s_oNot, s_oMul, s_oMulW, s_oMod, s_oFdiv, s_oPow, s_oIsN, s_oNotN, s_oIsB, s_oNotB, s_isNon_int, s_isNon_non, s_isNon_bl, s_isNon_str, s_isNon_tup, s_isNon_lst, s_isNon_dic, s_oEqI, s_oNeI, s_oIxT, s_oIxL, s_oSlT, s_oSlL, s_oRevT, s_oRevL, s_oInt, s_oIntB, s_oAbs, s_oMax2, s_oMin2, s_oLen, s_plenT, s_plenL, s_plenD, s_plenS, s_oTupleL, s_oTupleT, s_oListL, s_oListT, List.set_cons_succ, List.set_cons_zero, List.append_nil, true_and, x_bl, x_int, x_some, x_addT, x_addL, x_true, x_false]
    have hbd : ∀ r ∈ rs, TS.Bd 64 (rowL r) := fun r hr x hx => by
      have ok := fd.ok r hr
      have := ok.a0
      have := ok.ab
      have := ok.bn
      have := ok.c1
      have := fd.b40 r hr
      unfold rowL at hx
      simp only [List.mem_cons, List.not_mem_nil, or_false] at hx
      rcases hx with rfl | rfl | rfl <;> omega
    refine ⟨rs.map rowL, by rw [List.map_map]; rfl, fun k hk => ?_, by rw [List.length_map]; omega, fun ys hp hs => ?_⟩
    · obtain ⟨r, hr, rfl⟩ := List.mem_map.mp hk
      exact ⟨rfl, hbd r hr⟩
    · obtain ⟨rs', hp', eM⟩ := perm_map rowL hp rs rfl
      subst eM
      have e3 : (rs'.map rowL).map tI = rs'.map t3 := by rw [List.map_map]; rfl
      rw [e3]
      refine s_oTupleL.mpr (h rs' (fun r hr => fd.ok r (hp'.mem_iff.mp hr)) (ascB_of ?_) (fitsB_of fun j j0 j1 => by rw [paid_perm hp']; exact fd.fit j j0 j1) (by rw [hp'.length_eq]; omega))
      have d := hp'.symm.pairwise fd.dist (fun {a b} z w => z ⟨w.1.symm, w.2.symm⟩)
      rw [List.pairwise_map] at hs
      exact (hs.and d).imp_of_mem fun {a b} ha hb z => lex_code (hbd a (hp'.mem_iff.mp ha)) (hbd b (hp'.mem_iff.mp hb)) z.1 z.2
end K45

set_option maxHeartbeats 2000000
namespace K45
open PySem L2 PM
def sp_l_bent : PM.Spec := fun ps P => ∃ (rs : List T3) (lots : List (List Int)), ps = [.src, .tup (rs.map t3), crs lots] ∧ rs.length ≤ 60 ∧ lots.length ≤ 60 ∧ ∀ v, Dom v → P v
theorem hnoL (rs : List T3) (lots : List (List Int)) : noLs (rs.map t3) = true ∧ noLs (lots.map tI) = true := by
  have a : ∀ ns : List Int, noLs (ns.map PV.int) = true := fun ns => noLs_all.mpr fun p hp => by
    obtain ⟨i, _, rfl⟩ := List.mem_map.mp hp
    rfl
  exact ⟨noLs_all.mpr fun p hp => by
    obtain ⟨i, _, rfl⟩ := List.mem_map.mp hp
    exact a _, noLs_all.mpr fun p hp => by
    obtain ⟨i, _, rfl⟩ := List.mem_map.mp hp
    exact a _⟩
theorem hno_l_bent (ps : List PV) (Q : PV → Prop) (h : sp_l_bent ps Q) : noLs ps = true := by
  obtain ⟨rs, lots, rfl, _⟩ := h
  have a : ∀ ns : List Int, noLs (ns.map PV.int) = true := fun ns => noLs_all.mpr fun p hp => by
    obtain ⟨i, _, rfl⟩ := List.mem_map.mp hp
    rfl
  have e1 : noLs (rs.map t3) = true := noLs_all.mpr fun p hp => by
    obtain ⟨i, _, rfl⟩ := List.mem_map.mp hp
    exact a _
  have e2 : noLs (lots.map tI) = true := noLs_all.mpr fun p hp => by
    obtain ⟨i, _, rfl⟩ := List.mem_map.mp hp
    exact a _
  show (true && (noLs (rs.map t3) && (noLs (lots.map tI) && true))) = true
  rw [e1, e2]; rfl
/-- rows that are lists of three -/
def Rw (p : PV) : Prop := ∃ xs, p = .lst xs ∧ xs.length = 3 ∧ ∀ x ∈ xs, (pty x).isSome = true
def lr (r : T3) : List Int := [r.1, r.2.1, r.2.2]
theorem dom_lst {ps : List PV} : Dom (.lst ps) := ⟨rfl, fun _ e => by cases e⟩
def toT : PV → PV
  | .lst xs => .tup xs
  | p => p
theorem bent_tail {Q : PV → Prop} {rows : List PV} (hr : ∀ p ∈ rows, Rw p) (hl : rows.length ≤ 61) (h : ∀ v, Dom v → Q v) {e1 e2 e3 e4 e5 e6 e7 : Option PV} :
    mCompGo (gmN 8) mYes (mB oTuple (mCons (mVar 8) mNil)) [some .src, e1, e2, e3, e4, e5, e6, e7, none] (fun x => oTuple [x] fun p => sp_drw [PV.src, PV.int 12] fun x => oEq x (PV.int 0) fun x => ∃ k, x = PV.bl k ∧ if k = true then oList [p] Q else Q p) rows [] := by
  refine comp_self (f := toT) (fun p hp => ⟨_, fun k hk => s_gmN.mpr hk, fun Q hQ => hQ, fun Q hQ => ?_⟩) (line (by omega)) ?_
  · obtain ⟨xs, rfl, _, _⟩ := hr p hp
    try simp only [s_mVar0, s_mVarS, s_mVarO0, s_mVarOS, s_isObj_lst, s_isObj_dic, s_mC, s_mOp, s_mOp1, s_mB, s_mNil, s_mCons, s_mTup, s_mLst, s_mCall, s_mTB, s_mNot, s_mAnd, s_mOr, s_mAndV, s_mOrV, s_mIf, s_mYes, s_mSl, s_mNo, s_mPart, s_mLc, s_mItems, s_mRng1, s_mRng2, s_mEnum, s_mChain, s_seqT, s_seqL, s_sNext, s_sSeq, s_sIf, s_sSet, s_sRet, s_sRetN, s_sBreak, s_sCont, s_sDrop, s_sPar, s_setN0, s_setNS, s_sAsg, s_sApp, s_sAug, s_sFor, s_sSrc, s_gmN, s_gmT, s_gmCons, s_gmNil, s_wipe0, s_wipeS, s_oSub, s_oAddI, s_oAdd, s_oLt, s_oLe, s_oGt, s_oGe, s_oNeg, s_oNot, s_oMul, s_oMulW, s_oMod, s_oFdiv, s_oPow, s_oIsN, s_oNotN, s_oIsB, s_oNotB, s_isNon_int, s_isNon_non, s_isNon_bl, s_isNon_str, s_isNon_tup, s_isNon_lst, s_isNon_dic, s_oEqI, s_oNeI, s_oIxT, s_oIxL, s_oSlT, s_oSlL, s_oRevT, s_oRevL, s_oInt, s_oIntB, s_oAbs, s_oMax2, s_oMin2, s_oLen, s_plenT, s_plenL, s_plenD, s_plenS, s_oTupleL, s_oTupleT, s_oListL, s_oListT, List.set_cons_succ, List.set_cons_zero, List.append_nil, true_and, x_bl, x_int, x_some, x_addT, x_addL, x_true, x_false]
    exact hQ
  try simp only [s_mVar0, s_mVarS, s_mVarO0, s_mVarOS, s_isObj_lst, s_isObj_dic, s_mC, s_mOp, s_mOp1, s_mB, s_mNil, s_mCons, s_mTup, s_mLst, s_mCall, s_mTB, s_mNot, s_mAnd, s_mOr, s_mAndV, s_mOrV, s_mIf, s_mYes, s_mSl, s_mNo, s_mPart, s_mLc, s_mItems, s_mRng1, s_mRng2, s_mEnum, s_mChain, s_seqT, s_seqL, s_sNext, s_sSeq, s_sIf, s_sSet, s_sRet, s_sRetN, s_sBreak, s_sCont, s_sDrop, s_sPar, s_setN0, s_setNS, s_sAsg, s_sApp, s_sAug, s_sFor, s_sSrc, s_gmN, s_gmT, s_gmCons, s_gmNil, s_wipe0, s_wipeS, s_oSub, s_oAddI, s_oAdd, s_oLt, s_oLe, s_oGt, s_oGe, s_oNeg, s_oNot, s_oMul, s_oMulW, s_oMod, s_oFdiv, s_oPow, s_oIsN, s_oNotN, s_oIsB, s_oNotB, s_isNon_int, s_isNon_non, s_isNon_bl, s_isNon_str, s_isNon_tup, s_isNon_lst, s_isNon_dic, s_oEqI, s_oNeI, s_oIxT, s_oIxL, s_oSlT, s_oSlL, s_oRevT, s_oRevL, s_oInt, s_oIntB, s_oAbs, s_oMax2, s_oMin2, s_oLen, s_plenT, s_plenL, s_plenD, s_plenS, s_oTupleL, s_oTupleT, s_oListL, s_oListT, List.set_cons_succ, List.set_cons_zero, List.append_nil, true_and, x_bl, x_int, x_some, x_addT, x_addL, x_true, x_false]
  refine ⟨_, rfl, by decide, by decide, fun r r0 r1 => s_oEqI.mpr ⟨_, rfl, ?_⟩⟩
  have hd : Dom (.tup (rows.map toT)) := ⟨rfl, fun rws e => by
    injection e with e
    subst e
    refine ⟨by rw [List.length_map]; omega, fun r hr2 => ?_⟩
    obtain ⟨p, hp, rfl⟩ := List.mem_map.mp hr2
    obtain ⟨xs, rfl, h3, hx⟩ := hr p hp
    exact ⟨xs, rfl, by omega, hx⟩⟩
  by_cases c : r = 0
  · exact ite_t (decide_eq_true c) (h _ dom_lst)
  · exact ite_f (by rw [decide_eq_false c]; decide) (h _ hd)
theorem rw_int {ns : List Int} (h : ns.length = 3) : Rw (lI ns) := ⟨_, rfl, by rw [List.length_map]; exact h, fun x hx => by
  obtain ⟨i, _, rfl⟩ := List.mem_map.mp hx
  rfl⟩
theorem h_l_bent (ps : List PV) (Q : PV → Prop) (h : sp_l_bent ps Q) : t_l_bent sp_pick sp_drw { nx := fun _ => nxOf .cl Q, rt := Q } (startE n_l_bent.length ps) := by
  obtain ⟨rs, lots, rfl, hr, hl, h⟩ := h
  show t_l_bent _ _ _ [some .src, some (.tup (rs.map t3)), some (crs lots), none, none, none, none, none, none]
  unfold t_l_bent
  rw [s_sSeq, s_sSet]
  try simp only [s_mVar0, s_mVarS, s_mVarO0, s_mVarOS, s_isObj_lst, s_isObj_dic, s_mC, s_mOp, s_mOp1, s_mB, s_mNil, s_mCons, s_mTup, s_mLst, s_mCall, s_mTB, s_mNot, s_mAnd, s_mOr, s_mAndV, s_mOrV, s_mIf, s_mYes, s_mSl, s_mNo, s_mPart, s_mLc, s_mItems, s_mRng1, s_mRng2, s_mEnum, s_mChain, s_seqT, s_seqL, s_sNext, s_sSeq, s_sIf, s_sSet, s_sRet, s_sRetN, s_sBreak, s_sCont, s_sDrop, s_sPar, s_setN0, s_setNS, s_sAsg, s_sApp, s_sAug, s_sFor, s_sSrc, s_gmN, s_gmT, s_gmCons, s_gmNil, s_wipe0, s_wipeS, s_oSub, s_oAddI, s_oAdd, s_oLt, s_oLe, s_oGt, s_oGe, s_oNeg, s_oNot, s_oMul, s_oMulW, s_oMod, s_oFdiv, s_oPow, s_oIsN, s_oNotN, s_oIsB, s_oNotB, s_isNon_int, s_isNon_non, s_isNon_bl, s_isNon_str, s_isNon_tup, s_isNon_lst, s_isNon_dic, s_oEqI, s_oNeI, s_oIxT, s_oIxL, s_oSlT, s_oSlL, s_oRevT, s_oRevL, s_oInt, s_oIntB, s_oAbs, s_oMax2, s_oMin2, s_oLen, s_plenT, s_plenL, s_plenD, s_plenS, s_oTupleL, s_oTupleT, s_oListL, s_oListT, List.set_cons_succ, List.set_cons_zero, List.append_nil, true_and, x_bl, x_int, x_some, x_addT, x_addL, x_true, x_false]
  refine comp_map (emb := t3) (f := fun r => lI (lr r)) (fun r hr => ⟨_, fun k hk => s_gmN.mpr hk, fun Q hQ => hQ, fun Q hQ => ?_⟩) (line (by omega)) ?_
  · show mB oList _ [some .src, some (.tup (rs.map t3)), some (crs lots), none, none, none, none, none, some (t3 r)] Q
    unfold t3
    try simp only [s_mVar0, s_mVarS, s_mVarO0, s_mVarOS, s_isObj_lst, s_isObj_dic, s_mC, s_mOp, s_mOp1, s_mB, s_mNil, s_mCons, s_mTup, s_mLst, s_mCall, s_mTB, s_mNot, s_mAnd, s_mOr, s_mAndV, s_mOrV, s_mIf, s_mYes, s_mSl, s_mNo, s_mPart, s_mLc, s_mItems, s_mRng1, s_mRng2, s_mEnum, s_mChain, s_seqT, s_seqL, s_sNext, s_sSeq, s_sIf, s_sSet, s_sRet, s_sRetN, s_sBreak, s_sCont, s_sDrop, s_sPar, s_setN0, s_setNS, s_sAsg, s_sApp, s_sAug, s_sFor, s_sSrc, s_gmN, s_gmT, s_gmCons, s_gmNil, s_wipe0, s_wipeS, s_oSub, s_oAddI, s_oAdd, s_oLt, s_oLe, s_oGt, s_oGe, s_oNeg, s_oNot, s_oMul, s_oMulW, s_oMod, s_oFdiv, s_oPow, s_oIsN, s_oNotN, s_oIsB, s_oNotB, s_isNon_int, s_isNon_non, s_isNon_bl, s_isNon_str, s_isNon_tup, s_isNon_lst, s_isNon_dic, s_oEqI, s_oNeI, s_oIxT, s_oIxL, s_oSlT, s_oSlL, s_oRevT, s_oRevL, s_oInt, s_oIntB, s_oAbs, s_oMax2, s_oMin2, s_oLen, s_plenT, s_plenL, s_plenD, s_plenS, s_oTupleL, s_oTupleT, s_oListL, s_oListT, List.set_cons_succ, List.set_cons_zero, List.append_nil, true_and, x_bl, x_int, x_some, x_addT, x_addL, x_true, x_false]
    exact hQ
  rw [List.length_map]
  refine ⟨rfl, Nat.zero_le _, oEq_nil (f := fun r : T3 => PyData.list [.int r.1, .int r.2.1, .int r.2.2]) (n := 1) (fun _ => rfl) (fun _ => ⟨rfl, Nat.le_refl _⟩) (by decide) ⟨_, rfl, ?_⟩⟩
  have dom_ints : ∀ ns : List Int, ns.length ≤ 100 → Dom (.tup [.tup (ns.map PV.int)]) := fun ns hn => ⟨rfl, fun rows e => by
    injection e with e
    subst e
    refine ⟨by simp, fun r hr => ?_⟩
    rw [List.mem_singleton.mp hr]
    refine ⟨_, rfl, by rw [List.length_map]; exact hn, fun x hx => ?_⟩
    obtain ⟨i, _, rfl⟩ := List.mem_map.mp hx
    rfl⟩
  cases rs with
  | nil =>
    refine ite_t rfl ⟨line (by simp), line (by simp), line (by simp), line (by simp), line (by simp), line (by simp), line (by simp), line (by simp), line (by simp), line (by simp), _, _, rfl, .inl rfl, by simp, by simp, fun x hx => h x ?_⟩
    simp only [List.mem_cons, List.not_mem_nil, or_false] at hx
    rcases hx with rfl | rfl | rfl | rfl | rfl | rfl
    · exact dom_ints [_, _, _] (by simp)
    · exact dom_ints [_, _, _] (by simp)
    · exact dom_lst
    · exact ⟨rfl, fun _ e => by cases e⟩
    · exact dom_ints [_, _] (by simp)
    · exact dom_ints [_, _, _] (by simp)
  | cons r0' rs' =>
  have h0 : 0 < (r0' :: rs').length := Nat.succ_pos _
  generalize r0' :: rs' = rs at hr h0
  refine ite_f (by cases rs with
    | nil => exact absurd h0 (Nat.lt_irrefl _)
    | cons _ _ => exact Bool.false_ne_true) ⟨rfl, _, rfl, ?_⟩
  rw [List.length_map]
  refine ⟨_, rfl, by omega, by omega, fun a a0 a1 => ⟨_, rfl, by decide, by decide, fun w w0 w1 => s_oLt.mpr ⟨_, rfl, ?_⟩⟩⟩
  have ha : a.toNat < rs.length := by omega
  have hat : atI (rs.map fun r => lI (lr r)) a = some (lI (lr rs[a.toNat])) := by
    rw [atI_nn a0 (by rw [List.length_map]; omega), List.getElem?_map, List.getElem?_eq_getElem ha]; rfl
  have hRs : ∀ p ∈ rs.map fun r => lI (lr r), Rw p := fun p hp => by
    obtain ⟨r, _, rfl⟩ := List.mem_map.mp hp
    exact rw_int rfl
  have hlm : (rs.map fun r => lI (lr r)).length = rs.length := List.length_map ..
  by_cases c5 : w < 5
  · refine ite_t (decide_eq_true c5) ⟨_, rfl, by decide, by decide, fun k k0 k1 => ?_⟩
    obtain ⟨kn, rfl⟩ := Int.eq_ofNat_of_zero_le k0
    have hk3 : kn < 3 := by omega
    have hx : ∃ x0, atI ((lr rs[a.toNat]).map PV.int) (kn : Int) = some (.int x0) := ⟨(lr rs[a.toNat])[kn]'hk3, by
      rw [atI_nn (Int.natCast_nonneg _) (by rw [List.length_map]; show (kn : Int) < ((3 : Nat) : Int); omega), Int.toNat_natCast, List.getElem?_map, List.getElem?_eq_getElem hk3]; rfl⟩
    obtain ⟨x0, hx0⟩ := hx
    unfold sPut2
    try simp only [s_mVar0, s_mVarS, s_mVarO0, s_mVarOS, s_isObj_lst, s_isObj_dic, s_mC, s_mOp, s_mOp1, s_mB, s_mNil, s_mCons, s_mTup, s_mLst, s_mCall, s_mTB, s_mNot, s_mAnd, s_mOr, s_mAndV, s_mOrV, s_mIf, s_mYes, s_mSl, s_mNo, s_mPart, s_mLc, s_mItems, s_mRng1, s_mRng2, s_mEnum, s_mChain, s_seqT, s_seqL, s_sNext, s_sSeq, s_sIf, s_sSet, s_sRet, s_sRetN, s_sBreak, s_sCont, s_sDrop, s_sPar, s_setN0, s_setNS, s_sAsg, s_sApp, s_sAug, s_sFor, s_sSrc, s_gmN, s_gmT, s_gmCons, s_gmNil, s_wipe0, s_wipeS, s_oSub, s_oAddI, s_oAdd, s_oLt, s_oLe, s_oGt, s_oGe, s_oNeg, s_oNot, s_oMul, s_oMulW, s_oMod, s_oFdiv, s_oPow, s_oIsN, s_oNotN, s_oIsB, s_oNotB, s_isNon_int, s_isNon_non, s_isNon_bl, s_isNon_str, s_isNon_tup, s_isNon_lst, s_isNon_dic, s_oEqI, s_oNeI, s_oIxT, s_oIxL, s_oSlT, s_oSlL, s_oRevT, s_oRevL, s_oInt, s_oIntB, s_oAbs, s_oMax2, s_oMin2, s_oLen, s_plenT, s_plenL, s_plenD, s_plenS, s_oTupleL, s_oTupleT, s_oListL, s_oListT, List.set_cons_succ, List.set_cons_zero, List.append_nil, true_and, x_bl, x_int, x_some, x_addT, x_addL, x_true, x_false]
    refine ⟨_, hat, s_oIxL.mpr ⟨_, hx0, _, hat, s_oIxL.mpr ⟨_, hx0, ?_⟩⟩⟩
    try simp only [s_mVar0, s_mVarS, s_mVarO0, s_mVarOS, s_isObj_lst, s_isObj_dic, s_mC, s_mOp, s_mOp1, s_mB, s_mNil, s_mCons, s_mTup, s_mLst, s_mCall, s_mTB, s_mNot, s_mAnd, s_mOr, s_mAndV, s_mOrV, s_mIf, s_mYes, s_mSl, s_mNo, s_mPart, s_mLc, s_mItems, s_mRng1, s_mRng2, s_mEnum, s_mChain, s_seqT, s_seqL, s_sNext, s_sSeq, s_sIf, s_sSet, s_sRet, s_sRetN, s_sBreak, s_sCont, s_sDrop, s_sPar, s_setN0, s_setNS, s_sAsg, s_sApp, s_sAug, s_sFor, s_sSrc, s_gmN, s_gmT, s_gmCons, s_gmNil, s_wipe0, s_wipeS, s_oSub, s_oAddI, s_oAdd, s_oLt, s_oLe, s_oGt, s_oGe, s_oNeg, s_oNot, s_oMul, s_oMulW, s_oMod, s_oFdiv, s_oPow, s_oIsN, s_oNotN, s_oIsB, s_oNotB, s_isNon_int, s_isNon_non, s_isNon_bl, s_isNon_str, s_isNon_tup, s_isNon_lst, s_isNon_dic, s_oEqI, s_oNeI, s_oIxT, s_oIxL, s_oSlT, s_oSlL, s_oRevT, s_oRevL, s_oInt, s_oIntB, s_oAbs, s_oMax2, s_oMin2, s_oLen, s_plenT, s_plenL, s_plenD, s_plenS, s_oTupleL, s_oTupleT, s_oListL, s_oListT, List.set_cons_succ, List.set_cons_zero, List.append_nil, true_and, x_bl, x_int, x_some, x_addT, x_addL, x_true, x_false]
    have epk : PV.lst [PV.int 1, .int (-1), .int 2, .int (-x0), .int 1] = .lst (([1, -1, 2, -x0, 1] : List Int).map PV.int) := rfl
    rw [epk]
    refine ⟨line (by simp), pick_ints (by simp) (by simp) fun y hy => ?_⟩
    try simp only [s_mVar0, s_mVarS, s_mVarO0, s_mVarOS, s_isObj_lst, s_isObj_dic, s_mC, s_mOp, s_mOp1, s_mB, s_mNil, s_mCons, s_mTup, s_mLst, s_mCall, s_mTB, s_mNot, s_mAnd, s_mOr, s_mAndV, s_mOrV, s_mIf, s_mYes, s_mSl, s_mNo, s_mPart, s_mLc, s_mItems, s_mRng1, s_mRng2, s_mEnum, s_mChain, s_seqT, s_seqL, s_sNext, s_sSeq, s_sIf, s_sSet, s_sRet, s_sRetN, s_sBreak, s_sCont, s_sDrop, s_sPar, s_setN0, s_setNS, s_sAsg, s_sApp, s_sAug, s_sFor, s_sSrc, s_gmN, s_gmT, s_gmCons, s_gmNil, s_wipe0, s_wipeS, s_oSub, s_oAddI, s_oAdd, s_oLt, s_oLe, s_oGt, s_oGe, s_oNeg, s_oNot, s_oMul, s_oMulW, s_oMod, s_oFdiv, s_oPow, s_oIsN, s_oNotN, s_oIsB, s_oNotB, s_isNon_int, s_isNon_non, s_isNon_bl, s_isNon_str, s_isNon_tup, s_isNon_lst, s_isNon_dic, s_oEqI, s_oNeI, s_oIxT, s_oIxL, s_oSlT, s_oSlL, s_oRevT, s_oRevL, s_oInt, s_oIntB, s_oAbs, s_oMax2, s_oMin2, s_oLen, s_plenT, s_plenL, s_plenD, s_plenS, s_oTupleL, s_oTupleT, s_oListL, s_oListT, List.set_cons_succ, List.set_cons_zero, List.append_nil, true_and, x_bl, x_int, x_some, x_addT, x_addL, x_true, x_false]
    refine ⟨_, rs.map lr, rfl, by rw [List.map_map]; rfl, fun k q hk e => ?_, _, hat, lr rs[a.toNat], rfl, kn, kn, rfl, ?_, fun yss hyl hyj => bent_tail (fun p hp => ?_) (by rw [List.length_map, hyl, List.length_map]; omega) h⟩
    · obtain ⟨n1, n2⟩ := hnoL rs lots
      match k with
      | 0 => cases e; rfl
      | 1 => cases e; exact n1
      | 2 => cases e; exact n2
      | 3 => exact absurd rfl hk
      | 4 => cases e
      | 5 => cases e; rfl
      | 6 => cases e; rfl
      | 7 => cases e; rfl
      | 8 => cases e
      | (k + 9) => cases e
    · unfold ixN
      rw [if_pos (Int.natCast_nonneg _), show (lr rs[a.toNat]).length = 3 from rfl, if_pos (show (kn : Int) < ((3 : Nat) : Int) by omega), Int.toNat_natCast]
    · obtain ⟨ys, hys, rfl⟩ := List.mem_map.mp hp
      obtain ⟨j, hj⟩ := List.mem_iff_getElem?.mp hys
      rcases hyj j with z | z
      · rw [hj, List.getElem?_map] at z
        obtain ⟨r, _, hr⟩ := Option.map_eq_some_iff.mp z.symm
        rw [← hr]; exact rw_int rfl
      · rw [hj] at z
        cases z
        exact rw_int (by rw [List.length_set]; rfl)
  refine ite_f (by rw [decide_eq_false c5]; decide) (s_oEqI.mpr ⟨_, rfl, ?_⟩)
  by_cases c6 : w = 5
  · refine ite_t (decide_eq_true c6) ⟨_, rfl, rfl, s_oIxL.mpr ⟨_, hat, by rw [hlm]; exact small_line (by omega), bent_tail (fun p hp => ?_) (by rw [List.length_append, hlm]; exact Nat.succ_le_succ (by omega)) h⟩⟩
    rcases List.mem_append.mp hp with z | z
    · exact hRs p z
    · rw [List.mem_singleton.mp z]; exact rw_int rfl
  refine ite_f (by rw [decide_eq_false c6]; decide) (s_oEqI.mpr ⟨_, rfl, ?_⟩)
  by_cases c7 : w = 6
  · refine ite_t (decide_eq_true c7) ⟨rfl, ?_⟩
    try simp only [s_mVar0, s_mVarS, s_mVarO0, s_mVarOS, s_isObj_lst, s_isObj_dic, s_mC, s_mOp, s_mOp1, s_mB, s_mNil, s_mCons, s_mTup, s_mLst, s_mCall, s_mTB, s_mNot, s_mAnd, s_mOr, s_mAndV, s_mOrV, s_mIf, s_mYes, s_mSl, s_mNo, s_mPart, s_mLc, s_mItems, s_mRng1, s_mRng2, s_mEnum, s_mChain, s_seqT, s_seqL, s_sNext, s_sSeq, s_sIf, s_sSet, s_sRet, s_sRetN, s_sBreak, s_sCont, s_sDrop, s_sPar, s_setN0, s_setNS, s_sAsg, s_sApp, s_sAug, s_sFor, s_sSrc, s_gmN, s_gmT, s_gmCons, s_gmNil, s_wipe0, s_wipeS, s_oSub, s_oAddI, s_oAdd, s_oLt, s_oLe, s_oGt, s_oGe, s_oNeg, s_oNot, s_oMul, s_oMulW, s_oMod, s_oFdiv, s_oPow, s_oIsN, s_oNotN, s_oIsB, s_oNotB, s_isNon_int, s_isNon_non, s_isNon_bl, s_isNon_str, s_isNon_tup, s_isNon_lst, s_isNon_dic, s_oEqI, s_oNeI, s_oIxT, s_oIxL, s_oSlT, s_oSlL, s_oRevT, s_oRevL, s_oInt, s_oIntB, s_oAbs, s_oMax2, s_oMin2, s_oLen, s_plenT, s_plenL, s_plenD, s_plenS, s_oTupleL, s_oTupleT, s_oListL, s_oListT, List.set_cons_succ, List.set_cons_zero, List.append_nil, true_and, x_bl, x_int, x_some, x_addT, x_addL, x_true, x_false]
    exact bent_tail (fun p hp => hRs p (List.mem_reverse.mp hp)) (by rw [List.length_reverse, hlm]; omega) h
  refine ite_f (by rw [decide_eq_false c7]; decide) ?_
  have hx0 : atI ((lr rs[a.toNat]).map PV.int) 0 = some (.int rs[a.toNat].1) := rfl
  have hx1 : atI ((lr rs[a.toNat]).map PV.int) 1 = some (.int rs[a.toNat].2.1) := rfl
  have hx2 : atI ((lr rs[a.toNat]).map PV.int) 2 = some (.int rs[a.toNat].2.2) := rfl
  unfold sPut
  try simp only [s_mVar0, s_mVarS, s_mVarO0, s_mVarOS, s_isObj_lst, s_isObj_dic, s_mC, s_mOp, s_mOp1, s_mB, s_mNil, s_mCons, s_mTup, s_mLst, s_mCall, s_mTB, s_mNot, s_mAnd, s_mOr, s_mAndV, s_mOrV, s_mIf, s_mYes, s_mSl, s_mNo, s_mPart, s_mLc, s_mItems, s_mRng1, s_mRng2, s_mEnum, s_mChain, s_seqT, s_seqL, s_sNext, s_sSeq, s_sIf, s_sSet, s_sRet, s_sRetN, s_sBreak, s_sCont, s_sDrop, s_sPar, s_setN0, s_setNS, s_sAsg, s_sApp, s_sAug, s_sFor, s_sSrc, s_gmN, s_gmT, s_gmCons, s_gmNil, s_wipe0, s_wipeS, s_oSub, s_oAddI, s_oAdd, s_oLt, s_oLe, s_oGt, s_oGe, s_oNeg, s_oNot, s_oMul, s_oMulW, s_oMod, s_oFdiv, s_oPow, s_oIsN, s_oNotN, s_oIsB, s_oNotB, s_isNon_int, s_isNon_non, s_isNon_bl, s_isNon_str, s_isNon_tup, s_isNon_lst, s_isNon_dic, s_oEqI, s_oNeI, s_oIxT, s_oIxL, s_oSlT, s_oSlL, s_oRevT, s_oRevL, s_oInt, s_oIntB, s_oAbs, s_oMax2, s_oMin2, s_oLen, s_plenT, s_plenL, s_plenD, s_plenS, s_oTupleL, s_oTupleT, s_oListL, s_oListT, List.set_cons_succ, List.set_cons_zero, List.append_nil, true_and, x_bl, x_int, x_some, x_addT, x_addL, x_true, x_false]
  refine ⟨_, hat, s_oIxL.mpr ⟨_, hx0, _, hat, s_oIxL.mpr ⟨_, hx1, _, hat, s_oIxL.mpr ⟨_, hx2, line (by simp), line (by simp), _, _, rfl, .inl rfl, by simp, by simp, fun x hx => ?_⟩⟩⟩⟩
  have hp : (pty x).isSome = true := by
    simp only [List.mem_cons, List.not_mem_nil, or_false] at hx
    rcases hx with rfl | rfl | rfl | rfl | rfl | rfl <;> rfl
  refine ⟨line (by simp), _, rfl, a, a.toNat, rfl, by rw [hlm]; unfold ixN; rw [if_pos a0, if_pos a1], bent_tail (fun p hp2 => ?_) (by rw [List.length_set, hlm]; omega) h⟩
  rcases List.mem_or_eq_of_mem_set hp2 with z | z
  · exact hRs p z
  · rw [z]
    refine ⟨_, rfl, rfl, fun y hy => ?_⟩
    simp only [List.mem_cons, List.not_mem_nil, or_false] at hy
    rcases hy with rfl | rfl | rfl
    · rfl
    · rfl
    · exact hp
end K45

set_option maxHeartbeats 2000000
namespace K45
open PySem L2 PM
section
variable {lots : List (List Int)} {t : Int} {costs : List Int} {pr pr' : List (Int × Nat)} {fs : List Nat}
theorem price_uniq (H : Prs lots t costs pr) (H' : Prs lots t costs pr') : ∀ l, l < lots.length → price pr l = price pr' l := by
  intro l
  induction l using Nat.strongRecOn with
  | ind l ih =>
    intro hl
    obtain ⟨f0, F, fl, h⟩ := H.all l hl
    obtain ⟨g0, G, gl, k⟩ := H'.all l hl
    have e := F.uniq G fl gl
    subst e
    rcases h with ⟨z, e⟩ | ⟨f1, f, w, e, a1, a2, ew, am⟩
    · rcases k with ⟨_, e'⟩ | ⟨f1, _⟩
      · rw [(price_of e).1, (price_of e').1]
      · omega
    · rcases k with ⟨z, _⟩ | ⟨_, g, w', e', b1, b2, ew', bm⟩
      · omega
      · rw [(price_of e).1, (price_of e').1]
        have i1 := ih (f - 1) (by omega) (by omega)
        have i2 := ih (g - 1) (by omega) (by omega)
        have m1 := am g b1 b2
        have m2 := bm f a1 a2
        rw [i2] at m1
        rw [← i1] at m2
        omega
def fst (fs : List Nat) (j : Nat) : Nat := fs.getD j 0
def rowQ (pr : List (Int × Nat)) (fs : List Nat) (j : Nat) : Option T3 := if price pr j < price pr (j + 1) then some ((fst fs (j + 1) : Int) - 1, ((j + 1 : Nat) : Int), price pr (j + 1) - price pr j) else none
def tollT (pr : List (Int × Nat)) (fs : List Nat) (m : Nat) : List T3 := (List.range m).filterMap (rowQ pr fs)
theorem tollT_rows (m : Nat) : (tollRows pr fs m).map tI = (tollT pr fs m).map t3 := by
  unfold tollRows tollT
  rw [List.map_filterMap, List.map_filterMap]
  congr 1
  funext j
  unfold rowT rowQ
  by_cases c : price pr j < price pr (j + 1)
  · rw [if_pos c, if_pos c]; rfl
  · rw [if_neg c, if_neg c]; rfl
theorem tollT_succ {m : Nat} : tollT pr fs (m + 1) = tollT pr fs m ++ (rowQ pr fs m).toList := by
  unfold tollT
  rw [List.range_succ, List.filterMap_append]
  congr 1
structure Fs (lots : List (List Int)) (t : Int) (fs : List Nat) : Prop where
  len : fs.length = lots.length
  at_ : ∀ (l f : Nat), fs[l]? = some f → First lots t l f ∧ f ≤ l
theorem Fs.fst (F : Fs lots t fs) {l : Nat} (h : l < lots.length) : First lots t l (fst fs l) ∧ fst fs l ≤ l := by
  have e := List.getElem?_eq_getElem (l := fs) (i := l) (by rw [F.len]; exact h)
  have : K45.fst fs l = fs[l]'(by rw [F.len]; exact h) := by unfold K45.fst; rw [List.getD_eq_getElem?_getD, e]; rfl
  rw [this]
  exact F.at_ l _ e
theorem Fs.mono (F : Fs lots t fs) {a b : Nat} (hab : a ≤ b) (hb : b < lots.length) : K45.fst fs a ≤ K45.fst fs b := by
  induction b with
  | zero =>
    have : a = 0 := by omega
    rw [this]; exact Nat.le_refl _
  | succ b ih =>
    rcases (show a = b + 1 ∨ a ≤ b by omega) with z | z
    · rw [z]; exact Nat.le_refl _
    · exact Nat.le_trans (ih z (by omega)) ((F.fst (by omega : b < _)).1.mono (F.fst hb).1 (F.fst hb).2)
/-- by the least first -/
theorem price_fst (H : Prs lots t costs pr) (F : Fs lots t fs) {l : Nat} (h : l < lots.length) : (fst fs l = 0 ∧ price pr l = 0) ∨ (0 < fst fs l ∧ ∀ g, fst fs l ≤ g → g ≤ l → price pr l ≤ price pr (g - 1) + cost costs (g - 1)) := by
  obtain ⟨f0, G, gl, k⟩ := H.all l h
  have e := (F.fst h).1.uniq G (F.fst h).2 gl
  rw [e]
  rcases k with ⟨z, e'⟩ | ⟨z, f, w, e', _, _, _, m⟩
  · exact .inl ⟨z, (price_of e').1⟩
  · exact .inr ⟨z, fun g g1 g2 => by rw [(price_of e').1]; exact m g g1 g2⟩
theorem row_ok (hc : Cs lots costs) (H : Prs lots t costs pr) (F : Fs lots t fs) {j : Nat} (h : j + 1 < lots.length) {q : T3} (e : rowQ pr fs j = some q) : Ok3 lots t q := by
  unfold rowQ at e
  by_cases c : price pr j < price pr (j + 1)
  · rw [if_pos c] at e
    cases e
    have nn := price_nn hc H j (by omega)
    obtain ⟨F1, F2⟩ := F.fst h
    rcases price_fst H F h with ⟨_, z⟩ | ⟨z, _⟩
    · omega
    · refine ⟨by show 0 ≤ (fst fs (j + 1) : Int) - 1; omega, by show (fst fs (j + 1) : Int) - 1 ≤ ((j + 1 : Nat) : Int); omega, by show ((j + 1 : Nat) : Int) < _; omega, by show 1 ≤ price pr (j + 1) - price pr j; omega, ?_⟩
      show t < (cnt lots ((fst fs (j + 1) : Int) - 1).toNat ((j + 1 : Nat) : Int).toNat : Int)
      rw [show ((fst fs (j + 1) : Int) - 1).toNat = fst fs (j + 1) - 1 by omega, Int.toNat_natCast]
      exact F1.low _ (by omega)
  · rw [if_neg c] at e; cases e
theorem tollT_ok (hc : Cs lots costs) (H : Prs lots t costs pr) (F : Fs lots t fs) : ∀ r ∈ tollT pr fs (lots.length - 1), Ok3 lots t r := fun r hr => by
  unfold tollT at hr
  obtain ⟨j, hj, e⟩ := List.mem_filterMap.mp hr
  have := List.mem_range.mp hj
  exact row_ok hc H F (by omega) e
theorem tollT_asc (F : Fs lots t fs) : ascB (tollT pr fs (lots.length - 1)) = true := by
  refine ascB_of ?_
  unfold tollT
  rw [List.pairwise_filterMap]
  have hp : (List.range (lots.length - 1)).Pairwise (· < ·) := List.pairwise_lt_range
  refine hp.imp_of_mem fun {j k} hj hk hjk a ha b hb => ?_
  have := List.mem_range.mp hk
  have hm := F.mono (a := j + 1) (b := k + 1) (by omega) (by omega)
  unfold rowQ at ha hb
  by_cases c1 : price pr j < price pr (j + 1)
  · rw [if_pos c1] at ha
    cases ha
    by_cases c2 : price pr k < price pr (k + 1)
    · rw [if_pos c2] at hb
      cases hb
      unfold rowL
      rw [lexLt3]
      refine decide_eq_true ?_
      show (fst fs (j + 1) : Int) - 1 < (fst fs (k + 1) : Int) - 1 ∨ ((fst fs (j + 1) : Int) - 1 = (fst fs (k + 1) : Int) - 1 ∧ (((j + 1 : Nat) : Int) < ((k + 1 : Nat) : Int) ∨ _))
      omega
    · rw [if_neg c2] at hb; cases hb
  · rw [if_neg c1] at ha; cases ha
theorem paid_nil (rs : List T3) (one : Int) (h : ∀ r ∈ rs, ¬ (r.1 ≤ one ∧ one < r.2.1)) : paid rs one = 0 := by
  unfold paid
  rw [List.filter_eq_nil_iff.mpr fun r hr => by rw [decide_eq_true_eq]; exact h r hr]; rfl
theorem paid_step (hc : Cs lots costs) (H : Prs lots t costs pr) {m : Nat} (hm : m + 1 < lots.length) {one : Nat} (ho : one ≤ m) : paid (tollT pr fs (m + 1)) one = paid (tollT pr fs m) one + if fst fs (m + 1) ≤ one + 1 then price pr (m + 1) - price pr m else 0 := by
  rw [tollT_succ]
  unfold rowQ
  have mono := price_mono hc H m hm
  by_cases c : price pr m < price pr (m + 1)
  · rw [if_pos c]
    show paid (tollT pr fs m ++ [_]) one = _
    rw [paid_app]
    congr 1
    by_cases c2 : fst fs (m + 1) ≤ one + 1
    · rw [if_pos c2, if_pos]
      constructor
      · show (fst fs (m + 1) : Int) - 1 ≤ one; omega
      · show (one : Int) < ((m + 1 : Nat) : Int); omega
    · rw [if_neg c2, if_neg]
      rintro ⟨z, _⟩
      have z' : (fst fs (m + 1) : Int) - 1 ≤ one := z
      omega
  · rw [if_neg c]
    show paid (tollT pr fs m ++ []) one = _
    rw [List.append_nil]
    have : price pr (m + 1) - price pr m = 0 := by omega
    rw [this]
    split <;> omega
theorem paid_inv (hc : Cs lots costs) (H : Prs lots t costs pr) (F : Fs lots t fs) {one : Nat} : ∀ m, one ≤ m → m < lots.length → (fst fs m ≤ one + 1 ∧ paid (tollT pr fs m) one = price pr m - price pr one) ∨ (one + 1 < fst fs m ∧ paid (tollT pr fs m) one ≤ cost costs one) := by
  intro m hm
  induction hm with
  | refl =>
    intro hl
    refine .inl ⟨by have := (F.fst hl).2; omega, ?_⟩
    rw [paid_nil, Int.sub_self]
    intro r hr
    unfold tollT at hr
    obtain ⟨j, hj, e⟩ := List.mem_filterMap.mp hr
    have := List.mem_range.mp hj
    unfold rowQ at e
    by_cases c : price pr j < price pr (j + 1)
    · rw [if_pos c] at e
      cases e
      rintro ⟨_, z⟩
      have z' : (one : Int) < ((j + 1 : Nat) : Int) := z
      omega
    · rw [if_neg c] at e; cases e
  | @step m hm ih =>
    intro hl
    have hm : one ≤ m := hm
    have ih := ih (by omega)
    show (fst fs (m + 1) ≤ one + 1 ∧ paid (tollT pr fs (m + 1)) one = price pr (m + 1) - price pr one) ∨ (one + 1 < fst fs (m + 1) ∧ paid (tollT pr fs (m + 1)) one ≤ cost costs one)
    rw [paid_step hc H hl hm]
    have mono := F.mono (a := m) (b := m + 1) (by omega) hl
    by_cases c : fst fs (m + 1) ≤ one + 1
    · rw [if_pos c]
      rcases ih with ⟨i1, i2⟩ | ⟨i1, i2⟩
      · exact .inl ⟨c, by rw [i2]; omega⟩
      · omega
    · rw [if_neg c, Int.add_zero]
      refine .inr ⟨by omega, ?_⟩
      rcases ih with ⟨i1, i2⟩ | ⟨i1, i2⟩
      · rw [i2]
        have c0 := hc.cost0 one
        rcases Nat.lt_or_eq_of_le hm with z | z
        · have nn := price_nn hc H one (by omega)
          rcases price_fst H F (by omega : m < lots.length) with ⟨_, p0⟩ | ⟨_, p1⟩
          · omega
          · have := p1 (one + 1) i1 (by omega)
            rw [Nat.add_sub_cancel] at this
            omega
        · subst z; omega
      · exact i2
theorem tollT_fit (hc : Cs lots costs) (H : Prs lots t costs pr) (F : Fs lots t fs) : fitsB costs (tollT pr fs (lots.length - 1)) = true := by
  refine fitsB_of fun j j0 j1 => ?_
  obtain ⟨one, rfl⟩ := Int.eq_ofNat_of_zero_le j0
  have hcl := hc.len
  rw [Int.toNat_natCast]
  have c0 := hc.cost0 one
  rcases paid_inv hc H F (one := one) (lots.length - 1) (by omega) (by omega) with ⟨i1, i2⟩ | ⟨_, i2⟩
  · rw [i2]
    have nn := price_nn hc H one (by omega)
    rcases price_fst H F (by omega : lots.length - 1 < lots.length) with ⟨_, p0⟩ | ⟨_, p1⟩
    · omega
    · have := p1 (one + 1) i1 (by omega)
      rw [Nat.add_sub_cancel] at this
      omega
  · exact i2
theorem tollT_sum (hc : Cs lots costs) (H : Prs lots t costs pr) : ∀ m, m < lots.length → ((tollT pr fs m).map fun r => r.2.2).sum = price pr m := by
  intro m
  induction m with
  | zero => intro h; rw [price_zero H h]; rfl
  | succ m ih =>
    intro h
    have i := ih (by omega)
    have mono := price_mono hc H m h
    rw [tollT_succ, List.map_append, List.sum_append, i]
    unfold rowQ
    by_cases c : price pr m < price pr (m + 1)
    · rw [if_pos c]
      show _ + ([price pr (m + 1) - price pr m] : List Int).sum = _
      rw [List.sum_cons, List.sum_nil]; omega
    · rw [if_neg c]
      show _ + ([] : List Int).sum = _
      rw [List.sum_nil]; omega
theorem tollT_len (m : Nat) : (tollT pr fs m).length ≤ m := by
  unfold tollT
  exact Nat.le_trans (List.length_filterMap_le _ _) (by simp)
end
end K45

set_option maxHeartbeats 2000000
namespace K45
open PySem L2 PM
def t_law_c10 (ok_l_heap : List PV → Prop) (sp_l_pick : PM.Spec) (sp_l_counted : PM.Spec) (sp_l_own_tolls : PM.Spec) (sp_cheapest_schedule : PM.Spec) (sp_tolls_of : PM.Spec) (sp_is_tolls : PM.Spec) (sp_l_bent : PM.Spec) (sp_l_is_tolls : PM.Spec) (sp_l_draw : PM.Spec) (sp_l_is_schedule : PM.Spec) (sp_l_is_secret : PM.Spec) (sp_price_by : PM.Spec) : TSm :=
  (sSeq (sSet 8 (mCall sp_l_own_tolls [] (mCons (mVar 1) (mCons (mVar 3) (mCons (mVar 5) (mCons (mVar 7) mNil)))))) (sSeq (sIf (mTB (mOp oNotB (mCall sp_is_tolls [] (mCons (mVar 3) (mCons (mVar 5) (mCons (mVar 7) (mCons (mVar 8) mNil))))) (mC (.bl true)))) (sRet (mC (.bl false))) sNext) (sSeq (sFor (mRng1 (mC (.int 5))) (gmN 9) (sSeq (sSet 13 (mCall sp_l_bent [] (mCons (mVar 1) (mCons (mIf (mOr (mTB (mOp oIsN (mVar 11) (mC (.non)))) (mTB (mOp oEq (mCall sp_l_draw [] (mCons (mVar 1) (mCons (mC (.int 2)) mNil))) (mC (.int 0))))) (mVar 8) (mVar 11)) (mCons (mVar 3) mNil))))) (sSeq (sSet 14 (mCall sp_l_is_tolls [] (mCons (mVar 3) (mCons (mVar 5) (mCons (mVar 7) (mCons (mVar 13) mNil)))))) (sSeq (sSet 15 (mCall sp_is_tolls [] (mCons (mVar 3) (mCons (mVar 5) (mCons (mVar 7) (mCons (mVar 13) mNil)))))) (sIf (mOr (mAnd (mTB (mVar 14)) (mTB (mOp oNotB (mVar 15) (mC (.bl true))))) (mAnd (mNot (mTB (mVar 14))) (mTB (mOp oNotB (mVar 15) (mC (.bl false)))))) (sRet (mC (.bl false))) sNext))))) (sRet (mC (.bl true))))))
def t_law_a (ok_l_heap : List PV → Prop) (sp_l_pick : PM.Spec) (sp_l_counted : PM.Spec) (sp_l_own_tolls : PM.Spec) (sp_cheapest_schedule : PM.Spec) (sp_tolls_of : PM.Spec) (sp_is_tolls : PM.Spec) (sp_l_bent : PM.Spec) (sp_l_is_tolls : PM.Spec) (sp_l_draw : PM.Spec) (sp_l_is_schedule : PM.Spec) (sp_l_is_secret : PM.Spec) (sp_price_by : PM.Spec) : TSm :=
  (sSeq (sSrc 1 ok_l_heap (mCons (mVar 0) mNil)) (sSeq (sSet 2 (mCall sp_l_pick [] (mCons (mVar 1) (mCons (mLst (mCons (mC (.int 1)) (mCons (mC (.int 2)) (mCons (mC (.int 3)) (mCons (mC (.int 4)) (mCons (mC (.int 5)) (mCons (mC (.int 7)) (mCons (mC (.int 9)) (mCons (mC (.int 14)) (mCons (mC (.int 21)) (mCons (mC (.int 30)) mNil))))))))))) mNil)))) (sSeq (sSet 3 (mCall sp_l_counted [] (mCons (mVar 1) (mCons (mVar 2) mNil)))) (sSeq (sSet 4 (mB oMaxL (mCons (mLc (mItems (mVar 3)) [16] (gmN 16) mYes (mB oLen (mCons (mVar 16) mNil))) mNil))) (sSeq (sSet 5 (mB oMax2 (mCons (mC (.int 0)) (mCons (mOp oAdd (mVar 4) (mCall sp_l_pick [] (mCons (mVar 1) (mCons (mLst (mCons (mOp1 oNeg (mC (.int 1))) (mCons (mC (.int 0)) (mCons (mC (.int 0)) (mCons (mC (.int 0)) (mCons (mC (.int 1)) (mCons (mC (.int 1)) (mCons (mC (.int 2)) (mCons (mC (.int 3)) mNil))))))))) mNil)))) mNil)))) (sSeq (sSet 6 (mCall sp_l_pick [] (mCons (mVar 1) (mCons (mLst (mCons (mC (.int 0)) (mCons (mC (.int 1)) (mCons (mC (.int 3)) (mCons (mC (.int 10)) (mCons (mC (.int 3000)) (mCons (mOp oPow (mC (.int 10)) (mC (.int 9))) mNil))))))) mNil)))) (sSeq (sSet 7 (mB oTuple (mCons (mLc (mRng1 (mOp oSub (mVar 2) (mC (.int 1)))) [17] (gmN 17) mYes (mIf (mTB (mOp oGt (mCall sp_l_draw [] (mCons (mVar 1) (mCons (mC (.int 3)) mNil))) (mC (.int 0)))) (mCall sp_l_draw [] (mCons (mVar 1) (mCons (mOp oAdd (mVar 6) (mC (.int 1))) mNil))) (mVar 6))) mNil))) (sSeq (sPar [10, 11] (mCons (mCall sp_cheapest_schedule [] (mCons (mVar 3) (mCons (mVar 5) (mCons (mVar 7) mNil)))) (mCons (mCall sp_tolls_of [] (mCons (mVar 3) (mCons (mVar 5) (mCons (mVar 7) mNil)))) mNil))) (sSeq (sIf (mTB (mOp oGt (mVar 4) (mVar 5))) (sIf (mOr (mTB (mOp oNotN (mVar 10) (mC (.non)))) (mTB (mOp oNotN (mVar 11) (mC (.non))))) (sRet (mC (.bl false))) sNext) (sSeq (sIf (mOr (mNot (mTB (mCall sp_l_is_schedule [] (mCons (mVar 2) (mCons (mVar 10) mNil))))) (mNot (mTB (mCall sp_l_is_secret [] (mCons (mVar 3) (mCons (mVar 5) (mCons (mVar 10) mNil))))))) (sRet (mC (.bl false))) sNext) (sSeq (sIf (mNot (mTB (mCall sp_l_is_tolls [] (mCons (mVar 3) (mCons (mVar 5) (mCons (mVar 7) (mCons (mVar 11) mNil))))))) (sRet (mC (.bl false))) sNext) (sSeq (sSet 12 (mB oSum (mCons (mLc (mItems (mVar 10)) [17] (gmN 17) mYes (mOp oIx (mVar 7) (mVar 17))) mNil))) (sIf (mOr (mTB (mOp oNe (mB oSum (mCons (mLc (mItems (mVar 11)) [18] (gmN 18) mYes (mOp oIx (mVar 18) (mC (.int 2)))) mNil)) (mVar 12))) (mTB (mOp oNe (mCall sp_price_by [] (mCons (mVar 7) (mCons (mVar 10) mNil))) (mVar 12)))) (sRet (mC (.bl false))) sNext))))) (t_law_c10 ok_l_heap sp_l_pick sp_l_counted sp_l_own_tolls sp_cheapest_schedule sp_tolls_of sp_is_tolls sp_l_bent sp_l_is_tolls sp_l_draw sp_l_is_schedule sp_l_is_secret sp_price_by))))))))))
theorem t_law_eq (ok_l_heap : List PV → Prop) (sp_l_pick : PM.Spec) (sp_l_counted : PM.Spec) (sp_l_own_tolls : PM.Spec) (sp_cheapest_schedule : PM.Spec) (sp_tolls_of : PM.Spec) (sp_is_tolls : PM.Spec) (sp_l_bent : PM.Spec) (sp_l_is_tolls : PM.Spec) (sp_l_draw : PM.Spec) (sp_l_is_schedule : PM.Spec) (sp_l_is_secret : PM.Spec) (sp_price_by : PM.Spec) : t_law ok_l_heap sp_l_pick sp_l_counted sp_l_own_tolls sp_cheapest_schedule sp_tolls_of sp_is_tolls sp_l_bent sp_l_is_tolls sp_l_draw sp_l_is_schedule sp_l_is_secret sp_price_by = t_law_a ok_l_heap sp_l_pick sp_l_counted sp_l_own_tolls sp_cheapest_schedule sp_tolls_of sp_is_tolls sp_l_bent sp_l_is_tolls sp_l_draw sp_l_is_schedule sp_l_is_secret sp_price_by := rfl
theorem t3s_dom {rs : List T3} (h : rs.length ≤ 60) : Dom (.tup (rs.map t3)) := ⟨rfl, fun rows e => by
  injection e with e
  subst e
  refine ⟨by rw [List.length_map]; omega, fun r hr => ?_⟩
  obtain ⟨q, _, rfl⟩ := List.mem_map.mp hr
  refine ⟨_, rfl, by simp, fun x hx => ?_⟩
  obtain ⟨i, _, rfl⟩ := List.mem_map.mp hx
  rfl⟩
theorem tolls_true {lots : List (List Int)} {t : Int} {costs : List Int} {rs : List T3} (h : ∀ r ∈ rs, Ok3 lots t r) (ha : ascB rs = true) (hf : fitsB costs rs = true) {b : Bool} (hb : TollsOk lots t costs (.tup (rs.map t3)) b) : b = true := by
  rcases hb with ⟨rs', e, _, rfl⟩ | ⟨k, _⟩
  · injection e with e
    rw [← t3s_inj e, ha, hf]; rfl
  · exact absurd h (k rs rfl)
theorem tolls_uniq {lots : List (List Int)} {t : Int} {costs : List Int} {v : PV} {b b' : Bool} (h : TollsOk lots t costs v b) (h' : TollsOk lots t costs v b') : b = b' := by
  rcases h with ⟨rs, e, ok, rfl⟩ | ⟨k, rfl⟩
  · rcases h' with ⟨rs', e', _, rfl⟩ | ⟨k, _⟩
    · rw [e] at e'
      injection e' with e'
      rw [t3s_inj e']
    · exact absurd ok (k rs e)
  · rcases h' with ⟨rs', e', ok, _⟩ | ⟨_, rfl⟩
    · exact absurd ok (k rs' e')
    · rfl
theorem bent_step {lots : List (List Int)} {t : Int} {costs : List Int} {C : PV → PV → PV → Prop} (hg : Good lots) (hc : costs.length + 1 = lots.length) (h60 : lots.length ≤ 60) {rs : List T3} (hr : rs.length ≤ 60) (h : ∀ p b, C p (.bl b) (.bl b)) :
    sp_l_bent [.src, .tup (rs.map t3), crs lots] fun p => sp_is_tolls [crs lots, .int t, tI costs, p] fun d => sp_is_tolls [crs lots, .int t, tI costs, p] fun s => C p d s :=
  ⟨rs, lots, rfl, hr, h60, fun p hp => ⟨lots, t, costs, p, rfl, hg, hc, hp, fun b hb => ⟨lots, t, costs, p, rfl, hg, hc, hp, fun b' hb' => by rw [tolls_uniq hb hb']; exact h p b'⟩⟩⟩
theorem h_c10 {lots : List (List Int)} {t top great : Int} {costs : List Int} {Q : PV → Prop} {tl : PV} {maps : Nat} {e0 y10 y12 : Option PV} (hg : Good lots) (hc : Cs lots costs) (h60 : lots.length ≤ 60) (hl0 : 0 < lots.length) (htl : tl = .non ∨ ∃ rs : List T3, tl = .tup (rs.map t3) ∧ rs.length ≤ 60) (hq : Q (.bl true)) :
    t_law_c10 ok_heap sp_pick sp_l_counted sp_l_own_tolls sp_cheapest sp_tolls_of sp_is_tolls sp_l_bent sp_is_tolls sp_drw sp_l_is_schedule sp_l_is_secret sp_price_by { nx := fun _ => False, rt := Q }
      [e0, some .src, some (.int maps), some (crs lots), some (.int great), some (.int t), some (.int top), some (tI costs), none, none, y10, some tl, y12, none, none, none, none, none, none] := by
  unfold t_law_c10
  try simp only [s_mVar0, s_mVarS, s_mVarO0, s_mVarOS, s_isObj_lst, s_isObj_dic, s_mC, s_mOp, s_mOp1, s_mB, s_mNil, s_mCons, s_mTup, s_mLst, s_mCall, s_mTB, s_mNot, s_mAnd, s_mOr, s_mAndV, s_mOrV, s_mIf, s_mYes, s_mSl, s_mNo, s_mPart, s_mLc, s_mItems, s_mRng1, s_mRng2, s_mEnum, s_mChain, s_seqT, s_seqL, s_sNext, s_sSeq, s_sIf, s_sSet, s_sRet, s_sRetN, s_sBreak, s_sCont, s_sDrop, s_sPar, s_setN0, s_setNS, s_sAsg, s_sApp, s_sAug, s_sFor, s_sSrc, s_gmN, s_gmT, s_gmCons, s_gmNil, s_wipe0, s_wipeS, s_oSub, s_oAddI, s_oAdd, s_oLt, s_oLe, s_oGt, s_oGe, s_oNeg, s_oNot, s_oMul, s_oMulW, s_oMod, s_oFdiv, s_oPow, s_oIsN, s_oNotN, s_oIsB, s_oNotB, s_isNon_int, s_isNon_non, s_isNon_bl, s_isNon_str, s_isNon_tup, s_isNon_lst, s_isNon_dic, s_oEqI, s_oNeI, s_oIxT, s_oIxL, s_oSlT, s_oSlL, s_oRevT, s_oRevL, s_oInt, s_oIntB, s_oAbs, s_oMax2, s_oMin2, s_oLen, s_plenT, s_plenL, s_plenD, s_plenS, s_oTupleL, s_oTupleT, s_oListL, s_oListT, List.set_cons_succ, List.set_cons_zero, List.append_nil, true_and, x_bl, x_int, x_some, x_addT, x_addL, x_true, x_false]
  refine ⟨lots, t, costs, rfl, hg, hc, h60, fun own hok hasc hfit hlen => ⟨lots, t, costs, .tup (own.map t3), rfl, hg, hc.len, t3s_dom (by omega), fun b hb => ?_⟩⟩
  have eb := tolls_true hok hasc hfit hb
  subst eb
  try simp only [s_mVar0, s_mVarS, s_mVarO0, s_mVarOS, s_isObj_lst, s_isObj_dic, s_mC, s_mOp, s_mOp1, s_mB, s_mNil, s_mCons, s_mTup, s_mLst, s_mCall, s_mTB, s_mNot, s_mAnd, s_mOr, s_mAndV, s_mOrV, s_mIf, s_mYes, s_mSl, s_mNo, s_mPart, s_mLc, s_mItems, s_mRng1, s_mRng2, s_mEnum, s_mChain, s_seqT, s_seqL, s_sNext, s_sSeq, s_sIf, s_sSet, s_sRet, s_sRetN, s_sBreak, s_sCont, s_sDrop, s_sPar, s_setN0, s_setNS, s_sAsg, s_sApp, s_sAug, s_sFor, s_sSrc, s_gmN, s_gmT, s_gmCons, s_gmNil, s_wipe0, s_wipeS, s_oSub, s_oAddI, s_oAdd, s_oLt, s_oLe, s_oGt, s_oGe, s_oNeg, s_oNot, s_oMul, s_oMulW, s_oMod, s_oFdiv, s_oPow, s_oIsN, s_oNotN, s_oIsB, s_oNotB, s_isNon_int, s_isNon_non, s_isNon_bl, s_isNon_str, s_isNon_tup, s_isNon_lst, s_isNon_dic, s_oEqI, s_oNeI, s_oIxT, s_oIxL, s_oSlT, s_oSlL, s_oRevT, s_oRevL, s_oInt, s_oIntB, s_oAbs, s_oMax2, s_oMin2, s_oLen, s_plenT, s_plenL, s_plenD, s_plenS, s_oTupleL, s_oTupleT, s_oListL, s_oListT, List.set_cons_succ, List.set_cons_zero, List.append_nil, true_and, x_bl, x_int, x_some, x_addT, x_addL, x_true, x_false]
  rw [show Int.toNat 5 = 5 from rfl, rngP_rng]
  refine ⟨by decide, for_inv (fun i e => ∃ (y9 y13 y14 y15 : Option PV), e = [e0, some .src, some (.int maps), some (crs lots), some (.int great), some (.int t), some (.int top), some (tI costs), some (.tup (own.map t3)), y9, y10, some tl, y12, y13, y14, y15, none, none, none]) ⟨none, none, none, none, rfl⟩ (fun i x e N hx hE hN => ?_) (fun e hE => ?_)⟩
  · obtain ⟨y9, y13, y14, y15, rfl⟩ := hE
    rw [s_gmN]
    try simp only [s_mVar0, s_mVarS, s_mVarO0, s_mVarOS, s_isObj_lst, s_isObj_dic, s_mC, s_mOp, s_mOp1, s_mB, s_mNil, s_mCons, s_mTup, s_mLst, s_mCall, s_mTB, s_mNot, s_mAnd, s_mOr, s_mAndV, s_mOrV, s_mIf, s_mYes, s_mSl, s_mNo, s_mPart, s_mLc, s_mItems, s_mRng1, s_mRng2, s_mEnum, s_mChain, s_seqT, s_seqL, s_sNext, s_sSeq, s_sIf, s_sSet, s_sRet, s_sRetN, s_sBreak, s_sCont, s_sDrop, s_sPar, s_setN0, s_setNS, s_sAsg, s_sApp, s_sAug, s_sFor, s_sSrc, s_gmN, s_gmT, s_gmCons, s_gmNil, s_wipe0, s_wipeS, s_oSub, s_oAddI, s_oAdd, s_oLt, s_oLe, s_oGt, s_oGe, s_oNeg, s_oNot, s_oMul, s_oMulW, s_oMod, s_oFdiv, s_oPow, s_oIsN, s_oNotN, s_oIsB, s_oNotB, s_isNon_int, s_isNon_non, s_isNon_bl, s_isNon_str, s_isNon_tup, s_isNon_lst, s_isNon_dic, s_oEqI, s_oNeI, s_oIxT, s_oIxL, s_oSlT, s_oSlL, s_oRevT, s_oRevL, s_oInt, s_oIntB, s_oAbs, s_oMax2, s_oMin2, s_oLen, s_plenT, s_plenL, s_plenD, s_plenS, s_oTupleL, s_oTupleT, s_oListL, s_oListT, List.set_cons_succ, List.set_cons_zero, List.append_nil, true_and, x_bl, x_int, x_some, x_addT, x_addL, x_true, x_false]
    by_cases cn : PM.isNon tl = true
    · refine ite_t cn (ite_t trivial (bent_step hg hc.len h60 (show own.length ≤ 60 by omega) fun p b => ?_))
      cases b <;> (try simp only [s_mVar0, s_mVarS, s_mVarO0, s_mVarOS, s_isObj_lst, s_isObj_dic, s_mC, s_mOp, s_mOp1, s_mB, s_mNil, s_mCons, s_mTup, s_mLst, s_mCall, s_mTB, s_mNot, s_mAnd, s_mOr, s_mAndV, s_mOrV, s_mIf, s_mYes, s_mSl, s_mNo, s_mPart, s_mLc, s_mItems, s_mRng1, s_mRng2, s_mEnum, s_mChain, s_seqT, s_seqL, s_sNext, s_sSeq, s_sIf, s_sSet, s_sRet, s_sRetN, s_sBreak, s_sCont, s_sDrop, s_sPar, s_setN0, s_setNS, s_sAsg, s_sApp, s_sAug, s_sFor, s_sSrc, s_gmN, s_gmT, s_gmCons, s_gmNil, s_wipe0, s_wipeS, s_oSub, s_oAddI, s_oAdd, s_oLt, s_oLe, s_oGt, s_oGe, s_oNeg, s_oNot, s_oMul, s_oMulW, s_oMod, s_oFdiv, s_oPow, s_oIsN, s_oNotN, s_oIsB, s_oNotB, s_isNon_int, s_isNon_non, s_isNon_bl, s_isNon_str, s_isNon_tup, s_isNon_lst, s_isNon_dic, s_oEqI, s_oNeI, s_oIxT, s_oIxL, s_oSlT, s_oSlL, s_oRevT, s_oRevL, s_oInt, s_oIntB, s_oAbs, s_oMax2, s_oMin2, s_oLen, s_plenT, s_plenL, s_plenD, s_plenS, s_oTupleL, s_oTupleT, s_oListL, s_oListT, List.set_cons_succ, List.set_cons_zero, List.append_nil, true_and, x_bl, x_int, x_some, x_addT, x_addL, x_true, x_false]; exact hN _ ⟨_, _, _, _, rfl⟩)
    refine ite_f cn ⟨_, rfl, by decide, by decide, fun r r0 r1 => s_oEqI.mpr ⟨_, rfl, ?_⟩⟩
    by_cases c0 : r = 0
    · refine ite_t (decide_eq_true c0) (bent_step hg hc.len h60 (show own.length ≤ 60 by omega) fun p b => ?_)
      cases b <;> (try simp only [s_mVar0, s_mVarS, s_mVarO0, s_mVarOS, s_isObj_lst, s_isObj_dic, s_mC, s_mOp, s_mOp1, s_mB, s_mNil, s_mCons, s_mTup, s_mLst, s_mCall, s_mTB, s_mNot, s_mAnd, s_mOr, s_mAndV, s_mOrV, s_mIf, s_mYes, s_mSl, s_mNo, s_mPart, s_mLc, s_mItems, s_mRng1, s_mRng2, s_mEnum, s_mChain, s_seqT, s_seqL, s_sNext, s_sSeq, s_sIf, s_sSet, s_sRet, s_sRetN, s_sBreak, s_sCont, s_sDrop, s_sPar, s_setN0, s_setNS, s_sAsg, s_sApp, s_sAug, s_sFor, s_sSrc, s_gmN, s_gmT, s_gmCons, s_gmNil, s_wipe0, s_wipeS, s_oSub, s_oAddI, s_oAdd, s_oLt, s_oLe, s_oGt, s_oGe, s_oNeg, s_oNot, s_oMul, s_oMulW, s_oMod, s_oFdiv, s_oPow, s_oIsN, s_oNotN, s_oIsB, s_oNotB, s_isNon_int, s_isNon_non, s_isNon_bl, s_isNon_str, s_isNon_tup, s_isNon_lst, s_isNon_dic, s_oEqI, s_oNeI, s_oIxT, s_oIxL, s_oSlT, s_oSlL, s_oRevT, s_oRevL, s_oInt, s_oIntB, s_oAbs, s_oMax2, s_oMin2, s_oLen, s_plenT, s_plenL, s_plenD, s_plenS, s_oTupleL, s_oTupleT, s_oListL, s_oListT, List.set_cons_succ, List.set_cons_zero, List.append_nil, true_and, x_bl, x_int, x_some, x_addT, x_addL, x_true, x_false]; exact hN _ ⟨_, _, _, _, rfl⟩)
    · rcases htl with rfl | ⟨rs, rfl, hrs⟩
      · exact absurd rfl cn
      refine ite_f (by rw [decide_eq_false c0]; decide) (bent_step hg hc.len h60 hrs fun p b => ?_)
      cases b <;> (try simp only [s_mVar0, s_mVarS, s_mVarO0, s_mVarOS, s_isObj_lst, s_isObj_dic, s_mC, s_mOp, s_mOp1, s_mB, s_mNil, s_mCons, s_mTup, s_mLst, s_mCall, s_mTB, s_mNot, s_mAnd, s_mOr, s_mAndV, s_mOrV, s_mIf, s_mYes, s_mSl, s_mNo, s_mPart, s_mLc, s_mItems, s_mRng1, s_mRng2, s_mEnum, s_mChain, s_seqT, s_seqL, s_sNext, s_sSeq, s_sIf, s_sSet, s_sRet, s_sRetN, s_sBreak, s_sCont, s_sDrop, s_sPar, s_setN0, s_setNS, s_sAsg, s_sApp, s_sAug, s_sFor, s_sSrc, s_gmN, s_gmT, s_gmCons, s_gmNil, s_wipe0, s_wipeS, s_oSub, s_oAddI, s_oAdd, s_oLt, s_oLe, s_oGt, s_oGe, s_oNeg, s_oNot, s_oMul, s_oMulW, s_oMod, s_oFdiv, s_oPow, s_oIsN, s_oNotN, s_oIsB, s_oNotB, s_isNon_int, s_isNon_non, s_isNon_bl, s_isNon_str, s_isNon_tup, s_isNon_lst, s_isNon_dic, s_oEqI, s_oNeI, s_oIxT, s_oIxL, s_oSlT, s_oSlL, s_oRevT, s_oRevL, s_oInt, s_oIntB, s_oAbs, s_oMax2, s_oMin2, s_oLen, s_plenT, s_plenL, s_plenD, s_plenS, s_oTupleL, s_oTupleT, s_oListL, s_oListT, List.set_cons_succ, List.set_cons_zero, List.append_nil, true_and, x_bl, x_int, x_some, x_addT, x_addL, x_true, x_false]; exact hN _ ⟨_, _, _, _, rfl⟩)
  · obtain ⟨y9, y13, y14, y15, rfl⟩ := hE
    try simp only [s_mVar0, s_mVarS, s_mVarO0, s_mVarOS, s_isObj_lst, s_isObj_dic, s_mC, s_mOp, s_mOp1, s_mB, s_mNil, s_mCons, s_mTup, s_mLst, s_mCall, s_mTB, s_mNot, s_mAnd, s_mOr, s_mAndV, s_mOrV, s_mIf, s_mYes, s_mSl, s_mNo, s_mPart, s_mLc, s_mItems, s_mRng1, s_mRng2, s_mEnum, s_mChain, s_seqT, s_seqL, s_sNext, s_sSeq, s_sIf, s_sSet, s_sRet, s_sRetN, s_sBreak, s_sCont, s_sDrop, s_sPar, s_setN0, s_setNS, s_sAsg, s_sApp, s_sAug, s_sFor, s_sSrc, s_gmN, s_gmT, s_gmCons, s_gmNil, s_wipe0, s_wipeS, s_oSub, s_oAddI, s_oAdd, s_oLt, s_oLe, s_oGt, s_oGe, s_oNeg, s_oNot, s_oMul, s_oMulW, s_oMod, s_oFdiv, s_oPow, s_oIsN, s_oNotN, s_oIsB, s_oNotB, s_isNon_int, s_isNon_non, s_isNon_bl, s_isNon_str, s_isNon_tup, s_isNon_lst, s_isNon_dic, s_oEqI, s_oNeI, s_oIxT, s_oIxL, s_oSlT, s_oSlL, s_oRevT, s_oRevL, s_oInt, s_oIntB, s_oAbs, s_oMax2, s_oMin2, s_oLen, s_plenT, s_plenL, s_plenD, s_plenS, s_oTupleL, s_oTupleT, s_oListL, s_oListT, List.set_cons_succ, List.set_cons_zero, List.append_nil, true_and, x_bl, x_int, x_some, x_addT, x_addL, x_true, x_false]
    exact hq
end K45

set_option maxHeartbeats 2000000
namespace K45
open PySem L2 PM
theorem ints_of_nn {α : Type} : ∀ {xs : List α} {ys : List PV}, Paired (fun _ y => ∃ c : Int, y = .int c ∧ 0 ≤ c) xs ys → ∃ cs : List Int, ys = cs.map .int ∧ cs.length = xs.length ∧ ∀ c ∈ cs, 0 ≤ c
  | _, _, .nil => ⟨[], rfl, rfl, fun _ h => by cases h⟩
  | _, _, .cons ⟨c, e, c0⟩ t => by
    obtain ⟨cs, e2, l, h⟩ := ints_of_nn t
    exact ⟨c :: cs, by rw [e, e2]; rfl, by rw [List.length_cons, List.length_cons, l], fun x hx => by
      rcases List.mem_cons.mp hx with z | z
      · rw [z]; exact c0
      · exact h x z⟩
theorem h_law (sc : List Int) (hsc : sc.length ≤ 63) : t_law ok_heap sp_pick sp_l_counted sp_l_own_tolls sp_cheapest sp_tolls_of sp_is_tolls sp_l_bent sp_is_tolls sp_drw sp_l_is_schedule sp_l_is_secret sp_price_by { nx := fun _ => False, rt := fun p => p = .bl true } (startE n_law.length [.scr sc]) := by
  rw [t_law_eq]
  show t_law_a _ _ _ _ _ _ _ _ _ _ _ _ _ _ [some (.scr sc), none, none, none, none, none, none, none, none, none, none, none, none, none, none, none, none, none, none]
  unfold t_law_a
  try simp only [s_mVar0, s_mVarS, s_mVarO0, s_mVarOS, s_isObj_lst, s_isObj_dic, s_mC, s_mOp, s_mOp1, s_mB, s_mNil, s_mCons, s_mTup, s_mLst, s_mCall, s_mTB, s_mNot, s_mAnd, s_mOr, s_mAndV, s_mOrV, s_mIf, s_mYes, s_mSl, s_mNo, s_mPart, s_mLc, s_mItems, s_mRng1, s_mRng2, s_mEnum, s_mChain, s_seqT, s_seqL, s_sNext, s_sSeq, s_sIf, s_sSet, s_sRet, s_sRetN, s_sBreak, s_sCont, s_sDrop, s_sPar, s_setN0, s_setNS, s_sAsg, s_sApp, s_sAug, s_sFor, s_sSrc, s_gmN, s_gmT, s_gmCons, s_gmNil, s_wipe0, s_wipeS, s_oSub, s_oAddI, s_oAdd, s_oLt, s_oLe, s_oGt, s_oGe, s_oNeg, s_oNot, s_oMul, s_oMulW, s_oMod, s_oFdiv, s_oPow, s_oIsN, s_oNotN, s_oIsB, s_oNotB, s_isNon_int, s_isNon_non, s_isNon_bl, s_isNon_str, s_isNon_tup, s_isNon_lst, s_isNon_dic, s_oEqI, s_oNeI, s_oIxT, s_oIxL, s_oSlT, s_oSlL, s_oRevT, s_oRevL, s_oInt, s_oIntB, s_oAbs, s_oMax2, s_oMin2, s_oLen, s_plenT, s_plenL, s_plenD, s_plenS, s_oTupleL, s_oTupleT, s_oListL, s_oListT, List.set_cons_succ, List.set_cons_zero, List.append_nil, true_and, x_bl, x_int, x_some, x_addT, x_addL, x_true, x_false]
  refine ⟨⟨sc, rfl, hsc⟩, line (by simp), pick_ints (xs := [1, 2, 3, 4, 5, 7, 9, 14, 21, 30]) (by decide) (by decide) fun mp hmp => ?_⟩
  obtain ⟨n, rfl, n1, n30⟩ : ∃ n : Nat, mp = n ∧ 1 ≤ n ∧ n ≤ 30 := by
    have : 1 ≤ mp ∧ mp ≤ 30 := by
      simp only [List.mem_cons, List.not_mem_nil, or_false] at hmp
      omega
    exact ⟨mp.toNat, by omega, by omega, by omega⟩
  refine ⟨n, rfl, by omega, fun lots hg hll => ?_⟩
  refine ⟨_, rfl, comp_map (f := fun l => .int (l.length : Nat)) (fun l hl => ⟨_, fun k hk => s_gmN.mpr hk, fun Q hQ => hQ, fun Q hQ => ?_⟩) (line (by omega)) ?_⟩
  · try simp only [s_mVar0, s_mVarS, s_mVarO0, s_mVarOS, s_isObj_lst, s_isObj_dic, s_mC, s_mOp, s_mOp1, s_mB, s_mNil, s_mCons, s_mTup, s_mLst, s_mCall, s_mTB, s_mNot, s_mAnd, s_mOr, s_mAndV, s_mOrV, s_mIf, s_mYes, s_mSl, s_mNo, s_mPart, s_mLc, s_mItems, s_mRng1, s_mRng2, s_mEnum, s_mChain, s_seqT, s_seqL, s_sNext, s_sSeq, s_sIf, s_sSet, s_sRet, s_sRetN, s_sBreak, s_sCont, s_sDrop, s_sPar, s_setN0, s_setNS, s_sAsg, s_sApp, s_sAug, s_sFor, s_sSrc, s_gmN, s_gmT, s_gmCons, s_gmNil, s_wipe0, s_wipeS, s_oSub, s_oAddI, s_oAdd, s_oLt, s_oLe, s_oGt, s_oGe, s_oNeg, s_oNot, s_oMul, s_oMulW, s_oMod, s_oFdiv, s_oPow, s_oIsN, s_oNotN, s_oIsB, s_oNotB, s_isNon_int, s_isNon_non, s_isNon_bl, s_isNon_str, s_isNon_tup, s_isNon_lst, s_isNon_dic, s_oEqI, s_oNeI, s_oIxT, s_oIxL, s_oSlT, s_oSlL, s_oRevT, s_oRevL, s_oInt, s_oIntB, s_oAbs, s_oMax2, s_oMin2, s_oLen, s_plenT, s_plenL, s_plenD, s_plenS, s_oTupleL, s_oTupleT, s_oListL, s_oListT, List.set_cons_succ, List.set_cons_zero, List.append_nil, true_and, x_bl, x_int, x_some, x_addT, x_addL, x_true, x_false]
    rw [List.length_map]
    exact hQ
  refine ⟨lots.map fun l => (l.length : Int), by rw [List.map_map]; rfl, by rw [List.length_map]; omega, fun great hgr hle => ?_⟩
  have hfit : ∀ t : Int, great ≤ t ↔ Fit lots t := fun t => ⟨fun h l hl => Int.le_trans (hle _ (List.mem_map.mpr ⟨l, hl, rfl⟩)) h, fun h => by
    obtain ⟨l, hl, rfl⟩ := List.mem_map.mp hgr
    exact h l hl⟩
  refine ⟨line (by simp), pick_ints (xs := [-1, 0, 0, 0, 1, 1, 2, 3]) (by decide) (by decide) fun d hd => ?_⟩
  try simp only [s_mVar0, s_mVarS, s_mVarO0, s_mVarOS, s_isObj_lst, s_isObj_dic, s_mC, s_mOp, s_mOp1, s_mB, s_mNil, s_mCons, s_mTup, s_mLst, s_mCall, s_mTB, s_mNot, s_mAnd, s_mOr, s_mAndV, s_mOrV, s_mIf, s_mYes, s_mSl, s_mNo, s_mPart, s_mLc, s_mItems, s_mRng1, s_mRng2, s_mEnum, s_mChain, s_seqT, s_seqL, s_sNext, s_sSeq, s_sIf, s_sSet, s_sRet, s_sRetN, s_sBreak, s_sCont, s_sDrop, s_sPar, s_setN0, s_setNS, s_sAsg, s_sApp, s_sAug, s_sFor, s_sSrc, s_gmN, s_gmT, s_gmCons, s_gmNil, s_wipe0, s_wipeS, s_oSub, s_oAddI, s_oAdd, s_oLt, s_oLe, s_oGt, s_oGe, s_oNeg, s_oNot, s_oMul, s_oMulW, s_oMod, s_oFdiv, s_oPow, s_oIsN, s_oNotN, s_oIsB, s_oNotB, s_isNon_int, s_isNon_non, s_isNon_bl, s_isNon_str, s_isNon_tup, s_isNon_lst, s_isNon_dic, s_oEqI, s_oNeI, s_oIxT, s_oIxL, s_oSlT, s_oSlL, s_oRevT, s_oRevL, s_oInt, s_oIntB, s_oAbs, s_oMax2, s_oMin2, s_oLen, s_plenT, s_plenL, s_plenD, s_plenS, s_oTupleL, s_oTupleT, s_oListL, s_oListT, List.set_cons_succ, List.set_cons_zero, List.append_nil, true_and, x_bl, x_int, x_some, x_addT, x_addL, x_true, x_false]
  generalize (if 0 < great + d then great + d else 0) = t
  refine ⟨⟨by decide, by decide, by decide⟩, line (by simp), ?_⟩
  have ep : PV.lst [PV.int 0, PV.int 1, PV.int 3, PV.int 10, PV.int 3000, PV.int (10 ^ Int.toNat 9)] = .lst (([0, 1, 3, 10, 3000, 1000000000] : List Int).map PV.int) := rfl
  rw [ep]
  refine pick_ints (by decide) (by decide) fun top htop => ?_
  have ht : 0 ≤ top ∧ top ≤ 1000000000 := by
    simp only [List.mem_cons, List.not_mem_nil, or_false] at htop
    omega
  rw [show (n : Int) - 1 = ((n - 1 : Nat) : Int) by omega, Int.toNat_natCast, rngP_rng]
  refine ⟨by omega, ?_⟩
  refine comp_rel (emb := PV.int) (xs := rng (n - 1)) (R := fun _ y => ∃ c : Int, y = .int c ∧ 0 ≤ c) (fun x hx => ⟨_, fun k hk => s_gmN.mpr hk, fun Q hQ => hQ, fun Q hQ => ?_⟩) (by rw [List.length_nil, rng_len]; exact line (by omega)) (fun ys hys => ?_)
  · try simp only [s_mVar0, s_mVarS, s_mVarO0, s_mVarOS, s_isObj_lst, s_isObj_dic, s_mC, s_mOp, s_mOp1, s_mB, s_mNil, s_mCons, s_mTup, s_mLst, s_mCall, s_mTB, s_mNot, s_mAnd, s_mOr, s_mAndV, s_mOrV, s_mIf, s_mYes, s_mSl, s_mNo, s_mPart, s_mLc, s_mItems, s_mRng1, s_mRng2, s_mEnum, s_mChain, s_seqT, s_seqL, s_sNext, s_sSeq, s_sIf, s_sSet, s_sRet, s_sRetN, s_sBreak, s_sCont, s_sDrop, s_sPar, s_setN0, s_setNS, s_sAsg, s_sApp, s_sAug, s_sFor, s_sSrc, s_gmN, s_gmT, s_gmCons, s_gmNil, s_wipe0, s_wipeS, s_oSub, s_oAddI, s_oAdd, s_oLt, s_oLe, s_oGt, s_oGe, s_oNeg, s_oNot, s_oMul, s_oMulW, s_oMod, s_oFdiv, s_oPow, s_oIsN, s_oNotN, s_oIsB, s_oNotB, s_isNon_int, s_isNon_non, s_isNon_bl, s_isNon_str, s_isNon_tup, s_isNon_lst, s_isNon_dic, s_oEqI, s_oNeI, s_oIxT, s_oIxL, s_oSlT, s_oSlL, s_oRevT, s_oRevL, s_oInt, s_oIntB, s_oAbs, s_oMax2, s_oMin2, s_oLen, s_plenT, s_plenL, s_plenD, s_plenS, s_oTupleL, s_oTupleT, s_oListL, s_oListT, List.set_cons_succ, List.set_cons_zero, List.append_nil, true_and, x_bl, x_int, x_some, x_addT, x_addL, x_true, x_false]
    refine ⟨_, rfl, by decide, by decide, fun r r0 r1 => s_oGt.mpr ⟨_, rfl, ?_⟩⟩
    by_cases c : 0 < r
    · exact ite_t (decide_eq_true c) ⟨_, rfl, by omega, by omega, fun r r0 r1 => hQ _ ⟨r, rfl, r0⟩⟩
    · exact ite_f (by rw [decide_eq_false c]; decide) (hQ _ ⟨top, rfl, ht.1⟩)
  obtain ⟨costs, rfl, hcl, hc0⟩ := ints_of_nn hys
  rw [rng_len] at hcl
  rw [List.nil_append]
  have hc : Cs lots costs := ⟨by omega, hc0⟩
  have h60 : lots.length ≤ 60 := by omega
  refine s_oTupleL.mpr ⟨lots, t, costs, rfl, hg, hc, fun nf => ⟨lots, t, costs, rfl, hg, hc, fun _ => ?_, fun f => absurd f nf⟩, fun f pr s H B => ⟨lots, t, costs, rfl, hg, hc, fun nf => absurd f nf, fun _ pr' fs H' fl fF => ?_⟩⟩
  · refine ite_t (decide_eq_true (Int.not_le.mp fun z => nf ((hfit t).mp z))) ?_
    refine ite_f (by decide) (ite_f (by decide) (h_c10 hg hc h60 (by omega) (.inl rfl) rfl))
  · have F : Fs lots t fs := ⟨fl, fF⟩
    have hle2 := (hfit t).mpr f
    have hBl := B.lt
    have hsr : ∀ x ∈ s.reverse, x < lots.length - 1 := fun x hx => hBl.1 x (List.mem_reverse.mp hx)
    have hasc : s.reverse.Pairwise (· < ·) := List.pairwise_reverse.mpr hBl.2
    have hsl : s.reverse.length ≤ 30 := by
      have := len_bound (a := nI s.reverse) (n := 30) (by unfold nI; rw [List.Nodup, List.pairwise_map]; exact hasc.imp fun z => by omega) fun x hx => by
        unfold nI at hx
        obtain ⟨i, hi, rfl⟩ := List.mem_map.mp hx
        have := hsr i hi
        omega
      unfold nI at this
      rwa [List.length_map] at this
    have hsum : (s.reverse.map (cost costs)).sum = price pr (lots.length - 1) := by
      rw [List.map_reverse, List.sum_reverse, B.sum]
    have hpr := price_uniq H H' (lots.length - 1) (by omega)
    have hts := tollT_sum (fs := fs) hc H' (lots.length - 1) (by omega)
    have er : (tollRows pr' fs (lots.length - 1)).map tI = (tollT pr' fs (lots.length - 1)).map t3 := tollT_rows _
    have htl := tollT_len (pr := pr') (fs := fs) (lots.length - 1)
    have hok := tollT_ok hc H' F
    have hta := tollT_asc (pr := pr') F
    have htf := tollT_fit hc H' F
    rw [er]
    generalize tollT pr' fs (lots.length - 1) = tl at *
    refine ite_f (by rw [decide_eq_false (by omega)]; decide) ?_
    refine ⟨n, s.reverse, rfl, hasc, fun x hx => by have := hsr x hx; omega, by omega, _, rfl, ite_f (by decide) ?_⟩
    refine ⟨lots, t, s.reverse, rfl, hg, by omega, by omega, B.sec, _, rfl, ite_f (by decide) ?_⟩
    refine ⟨lots, t, costs, .tup (tl.map t3), rfl, hg, hc.len, t3s_dom (by omega), fun b hb => ?_⟩
    have eb := tolls_true hok hta htf hb
    subst eb
    refine ⟨_, rfl, ite_f (by decide) ⟨_, rfl, ?_⟩⟩
    have e3 : List.map PV.int (nI s.reverse) = s.reverse.map fun (i : Nat) => PV.int (i : Int) := by unfold nI; rw [List.map_map]; rfl
    rw [e3]
    refine comp_map (f := fun (i : Nat) => .int (cost costs i)) (fun i hi => ⟨_, fun k hk => s_gmN.mpr hk, fun Q hQ => hQ, fun Q hQ => ?_⟩) (line (by omega)) (oSum_map (b := fun (i : Nat) => cost costs i) ⟨_, rfl, ?_⟩)
    · try simp only [s_mVar0, s_mVarS, s_mVarO0, s_mVarOS, s_isObj_lst, s_isObj_dic, s_mC, s_mOp, s_mOp1, s_mB, s_mNil, s_mCons, s_mTup, s_mLst, s_mCall, s_mTB, s_mNot, s_mAnd, s_mOr, s_mAndV, s_mOrV, s_mIf, s_mYes, s_mSl, s_mNo, s_mPart, s_mLc, s_mItems, s_mRng1, s_mRng2, s_mEnum, s_mChain, s_seqT, s_seqL, s_sNext, s_sSeq, s_sIf, s_sSet, s_sRet, s_sRetN, s_sBreak, s_sCont, s_sDrop, s_sPar, s_setN0, s_setNS, s_sAsg, s_sApp, s_sAug, s_sFor, s_sSrc, s_gmN, s_gmT, s_gmCons, s_gmNil, s_wipe0, s_wipeS, s_oSub, s_oAddI, s_oAdd, s_oLt, s_oLe, s_oGt, s_oGe, s_oNeg, s_oNot, s_oMul, s_oMulW, s_oMod, s_oFdiv, s_oPow, s_oIsN, s_oNotN, s_oIsB, s_oNotB, s_isNon_int, s_isNon_non, s_isNon_bl, s_isNon_str, s_isNon_tup, s_isNon_lst, s_isNon_dic, s_oEqI, s_oNeI, s_oIxT, s_oIxL, s_oSlT, s_oSlL, s_oRevT, s_oRevL, s_oInt, s_oIntB, s_oAbs, s_oMax2, s_oMin2, s_oLen, s_plenT, s_plenL, s_plenD, s_plenS, s_oTupleL, s_oTupleT, s_oListL, s_oListT, List.set_cons_succ, List.set_cons_zero, List.append_nil, true_and, x_bl, x_int, x_some, x_addT, x_addL, x_true, x_false]
      exact ⟨_, cost_at (by have := hsr i hi; omega), hQ⟩
    refine comp_map (emb := t3) (f := fun r => .int r.2.2) (fun r hr => ⟨_, fun k hk => s_gmN.mpr hk, fun Q hQ => hQ, fun Q hQ => ?_⟩) (line (by omega)) (oSum_map (b := fun r : T3 => r.2.2) (s_oNeI.mpr ⟨_, rfl, ?_⟩))
    · show mOp oIx (mVar 18) (mC (.int 2)) [_, _, _, _, _, _, _, _, _, _, _, _, _, _, _, _, _, _, some (t3 r)] Q
      unfold t3
      try simp only [s_mVar0, s_mVarS, s_mVarO0, s_mVarOS, s_isObj_lst, s_isObj_dic, s_mC, s_mOp, s_mOp1, s_mB, s_mNil, s_mCons, s_mTup, s_mLst, s_mCall, s_mTB, s_mNot, s_mAnd, s_mOr, s_mAndV, s_mOrV, s_mIf, s_mYes, s_mSl, s_mNo, s_mPart, s_mLc, s_mItems, s_mRng1, s_mRng2, s_mEnum, s_mChain, s_seqT, s_seqL, s_sNext, s_sSeq, s_sIf, s_sSet, s_sRet, s_sRetN, s_sBreak, s_sCont, s_sDrop, s_sPar, s_setN0, s_setNS, s_sAsg, s_sApp, s_sAug, s_sFor, s_sSrc, s_gmN, s_gmT, s_gmCons, s_gmNil, s_wipe0, s_wipeS, s_oSub, s_oAddI, s_oAdd, s_oLt, s_oLe, s_oGt, s_oGe, s_oNeg, s_oNot, s_oMul, s_oMulW, s_oMod, s_oFdiv, s_oPow, s_oIsN, s_oNotN, s_oIsB, s_oNotB, s_isNon_int, s_isNon_non, s_isNon_bl, s_isNon_str, s_isNon_tup, s_isNon_lst, s_isNon_dic, s_oEqI, s_oNeI, s_oIxT, s_oIxL, s_oSlT, s_oSlL, s_oRevT, s_oRevL, s_oInt, s_oIntB, s_oAbs, s_oMax2, s_oMin2, s_oLen, s_plenT, s_plenL, s_plenD, s_plenS, s_oTupleL, s_oTupleT, s_oListL, s_oListT, List.set_cons_succ, List.set_cons_zero, List.append_nil, true_and, x_bl, x_int, x_some, x_addT, x_addL, x_true, x_false]
      exact ⟨_, rfl, hQ⟩
    have hsum' : (s.reverse.map fun (i : Nat) => cost costs i).sum = price pr (lots.length - 1) := hsum
    rw [hts, hsum', hpr]
    refine ite_f (by rw [decide_eq_true rfl]; decide) ⟨costs, s.reverse, rfl, fun x hx => by have := hsr x hx; omega, by omega, s_oNeI.mpr ⟨_, rfl, ?_⟩⟩
    rw [hsum, hpr]
    refine ite_f (by rw [decide_eq_true rfl]; decide) (h_c10 hg hc h60 (by omega) (.inr ⟨tl, rfl, by omega⟩) rfl)
end K45

set_option maxHeartbeats 4000000
namespace K45
open PySem L2 PM
/-! ### the maker of a heap -/
section
variable {P : Program} {w : World} {K : PySem.W.Frag} {mg : Str → Option Value} {base : Heap}
theorem src_m {x qual : Str} {st : Stmt} {f : Addr} {fd : FuncData} {N pns : List Str} {k : Nat} {t : TSm} {dvs : List V} (F : FunD K x qual (defArgs st) (defBody st) (defScope st) dvs [] f fd) (S : FnScope N pns (defScope st)) (h1 : pns.length = 1)
    (hbody : ∀ (cdv : Value) (A : Around) (outer : List PySem.Env) (s : Shared) (H : Hp) (E : XK), Room k (A.deeper (PyProof.Rows.envOfC qual (defScope st) s.heap.objs.size f cdv)) → ∃ c', PSsm (bodyX P w K mg base N qual st f cdv A outer s H E) ⟨.cl, false, []⟩ (shs N.length) c' (defBody st) t)
    (hok : ∀ ns : List Int, ns.length ≤ 63 → t { nx := fun _ => False, rt := fun p => ∃ (cs : List Nat) (s : Nat), p = .lst [.lst (cs.map fun (c : Nat) => PV.int (c : Int)), .int (s : Int)] ∧ cs.length ≤ 63 ∧ s < 2147483647 } (startE N.length [.scr ns])) : FnOk P w K mg base CX0 (k + 1) f fd pns (spSrc K ok_heap) := by
  refine F.ok S (fun vs H Q E h => ?_) (fun cdv A outer s H vs Q E hr h => ?_)
  · obtain ⟨Z, W, ps, _, _, _, r, ⟨ns, e, _⟩, _⟩ := h
    rw [← r.len, e]; exact h1.symm
  · obtain ⟨Z, W, ps, hz, hs, hwz, r, ⟨ns, e, hl⟩, q⟩ := h
    subst e
    obtain ⟨a, rfl, ha⟩ : ∃ a, vs = [.ref a] ∧ ((¬ Z a ∧ ∃ o, H a = some (.frz o (.lst (ns.map V.int)))) ∨ KLst K a (ns.map V.int)) := by
      unfold Rps at r
      obtain ⟨v, r', rfl, h1, h2⟩ := r
      unfold Rps at h2
      subst h2
      unfold Rp at h1
      obtain ⟨a, rfl, h⟩ := h1
      exact ⟨a, rfl, h⟩
    have r2 : Rps K ⟨fun b => (fun b => ∃ o, H b = some o ∧ ∀ o' u, o ≠ .frz o' u) b ∨ inW [] b, [], H⟩ [.scr ns] [.ref a] := by
      refine Rps.cons ?_ Rps.nil
      unfold Rp
      refine ⟨a, rfl, ?_⟩
      rcases ha with ⟨_, o, ho⟩ | hk
      · exact .inl ⟨fun z => z.elim (fun ⟨o', h1, h2⟩ => by rw [ho] at h1; cases h1; exact h2 _ _ rfl) (fun ⟨p, hp, _⟩ => by cases hp), o, ho⟩
      · exact .inr hk
    have hsr : SR K ⟨false, fun b => ∃ o, H b = some o ∧ ∀ o' u, o ≠ .frz o' u, [], H, fun _ => none, [], []⟩ (shs N.length) (fun _ => none) [] (startE N.length [.scr ns]) (L2.start N [.ref a]) H := SR.start (fun _ ⟨o, h1, _⟩ => ⟨o, h1⟩) (fun _ z => by cases z) r2
    obtain ⟨c', hb⟩ := hbody cdv A outer s H E hr
    refine ⟨_, hb.run.nox, ⟨false, fun b => ∃ o, H b = some o ∧ ∀ o' u, o ≠ .frz o' u, [], H, fun _ => none, [], []⟩, fun _ => none, [], startE N.length [.scr ns], _, rfl, hsr, hok ns hl, ⟨fun _ _ _ _ _ _ z => z.elim, fun p v H' hr hp => ?_, fun _ _ _ _ _ _ z => z.elim, fun _ _ _ _ _ _ z => z.elim⟩⟩
    obtain ⟨cs, s', rfl, hc, hs'⟩ := hp
    obtain ⟨W', _, hW, _, keep, rv⟩ := hr
    have eW : W' = [] := hW rfl
    subst eW
    have rv' := rv.c
    unfold Rp at rv'
    obtain ⟨a1, vs, rfl, l1, rs⟩ := rv'
    unfold Rps at rs
    obtain ⟨v1, r1, rfl, h2, rs⟩ := rs
    unfold Rps at rs
    obtain ⟨v2, r2, rfl, h3, rs⟩ := rs
    unfold Rps at rs
    subst rs
    unfold Rp at h2 h3
    obtain ⟨b1, ws, rfl, l2, rs⟩ := h2
    subst h3
    have ew : ws = cs.map fun (c : Nat) => V.int (c : Int) := by
      have e : (cs.map fun (c : Nat) => PV.int (c : Int)) = (cs.map fun (c : Nat) => (c : Int)).map PV.int := by rw [List.map_map]; rfl
      rw [e] at rs
      rw [Rps.ints.mp rs, List.map_map]; rfl
    have gr : ∀ b o, H b = some o → H' b = some o := fun b o e => keep b o (fun ⟨p, hp, _⟩ => by cases hp) e
    have fresh : ∀ b xs, ¬ ((fun b => ∃ o, H b = some o ∧ ∀ o' u, o ≠ .frz o' u) b ∨ inW [] b) → H' b = some (.lst xs) → H b = none := fun b xs nz hb => by
      cases e : H b with
      | none => rfl
      | some o =>
        refine absurd (.inl ⟨o, e, fun o' u z => ?_⟩) nz
        rw [gr _ _ e, z] at hb
        cases hb
    have n1 := fresh a1 _ l1.1 l1.2
    have n2 := fresh b1 _ l2.1 l2.2
    refine q H' (a1, b1) gr n1 n2 ⟨fun z => ?_, cs, s', hc, hs', l1.2, by rw [← ew]; exact l2.2⟩
    have e1 : H' a1 = some (.lst [.ref b1, .int (s' : Int)]) := l1.2
    have e2 : H' b1 = some (.lst ws) := l2.2
    have z' : a1 = b1 := z
    rw [z', e2, ew] at e1
    cases cs with
    | nil => cases e1
    | cons c cs => cases e1
theorem h_l_heap (ns : List Int) (hl : ns.length ≤ 63) : t_l_heap { nx := fun _ => False, rt := fun p => ∃ (cs : List Nat) (s : Nat), p = .lst [.lst (cs.map fun (c : Nat) => PV.int (c : Int)), .int (s : Int)] ∧ cs.length ≤ 63 ∧ s < 2147483647 } (startE n_l_heap.length [.scr ns]) := by
  show t_l_heap _ [some (.scr ns), none, none, none, none]
  unfold t_l_heap
  try simp only [s_mVar0, s_mVarS, s_mVarO0, s_mVarOS, s_isObj_lst, s_isObj_dic, s_mC, s_mOp, s_mOp1, s_mB, s_mNil, s_mCons, s_mTup, s_mLst, s_mCall, s_mTB, s_mNot, s_mAnd, s_mOr, s_mAndV, s_mOrV, s_mIf, s_mYes, s_mSl, s_mNo, s_mPart, s_mLc, s_mItems, s_mRng1, s_mRng2, s_mEnum, s_mChain, s_seqT, s_seqL, s_sNext, s_sSeq, s_sIf, s_sSet, s_sRet, s_sRetN, s_sBreak, s_sCont, s_sDrop, s_sPar, s_setN0, s_setNS, s_sAsg, s_sApp, s_sAug, s_sFor, s_sSrc, s_gmN, s_gmT, s_gmCons, s_gmNil, s_wipe0, s_wipeS, s_oSub, s_oAddI, s_oAdd, s_oLt, s_oLe, s_oGt, s_oGe, s_oNeg, s_oNot, s_oMul, s_oMulW, s_oMod, s_oFdiv, s_oPow, s_oIsN, s_oNotN, s_oIsB, s_oNotB, s_isNon_int, s_isNon_non, s_isNon_bl, s_isNon_str, s_isNon_tup, s_isNon_lst, s_isNon_dic, s_oEqI, s_oNeI, s_oIxT, s_oIxL, s_oSlT, s_oSlL, s_oRevT, s_oRevL, s_oInt, s_oIntB, s_oAbs, s_oMax2, s_oMin2, s_oLen, s_plenT, s_plenL, s_plenD, s_plenS, s_oTupleL, s_oTupleT, s_oListL, s_oListT, List.set_cons_succ, List.set_cons_zero, List.append_nil, true_and, x_bl, x_int, x_some, x_addT, x_addL, x_true, x_false]
  refine ⟨⟨by decide, by decide, by decide⟩, ⟨by decide, by decide, by decide⟩, by unfold CMulW; decide +kernel, ⟨by decide, by decide, by decide⟩, by unfold CMulW; decide +kernel, ?_⟩
  generalize hgt : ((10 : Int) ^ (60 : Int).toNat * 10 ^ (60 : Int).toNat * 10 ^ (60 : Int).toNat) = great
  have hg0 : 0 < great := by rw [← hgt]; decide +kernel
  refine ⟨ns, rfl, ?_⟩
  refine ⟨_, rfl, ?_⟩
  rw [cutP_map]
  obtain ⟨xs, hxs, hxl⟩ : ∃ xs : List Int, (ns.drop (HT.sIx ns.length 0 none)).take (HT.sIx ns.length ns.length (some 60) - HT.sIx ns.length 0 none) = xs ∧ xs.length ≤ 63 := ⟨_, rfl, by rw [List.length_take, List.length_drop]; omega⟩
  rw [hxs]
  obtain ⟨fc, hfc⟩ : ∃ fc : Int → Int, fc = fun x => (2 * (if x < 0 then -x else x) + (if decide (x < 0) = true then 1 else 0)) % great := ⟨_, rfl⟩
  have fc0 : ∀ x, 0 ≤ fc x := fun x => by rw [hfc]; exact Int.emod_nonneg _ (by omega)
  refine comp_map (emb := PV.int) (xs := xs) (f := fun x => .int (fc x)) (fun x hx => ⟨_, fun k hk => s_gmN.mpr hk, fun Q hQ => hQ, fun Q hQ => ?_⟩) (line (by omega)) ?_
  · show mOp oMod _ (mVar 1) [some (.scr ns), some (.int great), some (.int x), none, none] Q
    try simp only [s_mVar0, s_mVarS, s_mVarO0, s_mVarOS, s_isObj_lst, s_isObj_dic, s_mC, s_mOp, s_mOp1, s_mB, s_mNil, s_mCons, s_mTup, s_mLst, s_mCall, s_mTB, s_mNot, s_mAnd, s_mOr, s_mAndV, s_mOrV, s_mIf, s_mYes, s_mSl, s_mNo, s_mPart, s_mLc, s_mItems, s_mRng1, s_mRng2, s_mEnum, s_mChain, s_seqT, s_seqL, s_sNext, s_sSeq, s_sIf, s_sSet, s_sRet, s_sRetN, s_sBreak, s_sCont, s_sDrop, s_sPar, s_setN0, s_setNS, s_sAsg, s_sApp, s_sAug, s_sFor, s_sSrc, s_gmN, s_gmT, s_gmCons, s_gmNil, s_wipe0, s_wipeS, s_oSub, s_oAddI, s_oAdd, s_oLt, s_oLe, s_oGt, s_oGe, s_oNeg, s_oNot, s_oMul, s_oMulW, s_oMod, s_oFdiv, s_oPow, s_oIsN, s_oNotN, s_oIsB, s_oNotB, s_isNon_int, s_isNon_non, s_isNon_bl, s_isNon_str, s_isNon_tup, s_isNon_lst, s_isNon_dic, s_oEqI, s_oNeI, s_oIxT, s_oIxL, s_oSlT, s_oSlL, s_oRevT, s_oRevL, s_oInt, s_oIntB, s_oAbs, s_oMax2, s_oMin2, s_oLen, s_plenT, s_plenL, s_plenD, s_plenS, s_oTupleL, s_oTupleT, s_oListL, s_oListT, List.set_cons_succ, List.set_cons_zero, List.append_nil, true_and, x_bl, x_int, x_some, x_addT, x_addL, x_true, x_false]
    refine ⟨.inl ⟨by decide, by decide⟩, hg0, ?_⟩
    rw [hfc] at hQ
    exact hQ
  refine ⟨_, rfl, ?_⟩
  refine for_inv (emb := fun x => PV.int (fc x)) (fun i e => ∃ (s : Int) (y2 : Option PV), 0 ≤ s ∧ s < 2147483647 ∧ e = [some (.scr ns), some (.int great), y2, some (.lst (xs.map fun x => .int (fc x))), some (.int s)]) ⟨20043, none, by decide, by decide, rfl⟩ (fun i x e N hx hE hN => ?_) (fun e hE => ?_)
  · obtain ⟨s, y2, s0, s1, rfl⟩ := hE
    rw [s_gmN]
    try simp only [s_mVar0, s_mVarS, s_mVarO0, s_mVarOS, s_isObj_lst, s_isObj_dic, s_mC, s_mOp, s_mOp1, s_mB, s_mNil, s_mCons, s_mTup, s_mLst, s_mCall, s_mTB, s_mNot, s_mAnd, s_mOr, s_mAndV, s_mOrV, s_mIf, s_mYes, s_mSl, s_mNo, s_mPart, s_mLc, s_mItems, s_mRng1, s_mRng2, s_mEnum, s_mChain, s_seqT, s_seqL, s_sNext, s_sSeq, s_sIf, s_sSet, s_sRet, s_sRetN, s_sBreak, s_sCont, s_sDrop, s_sPar, s_setN0, s_setNS, s_sAsg, s_sApp, s_sAug, s_sFor, s_sSrc, s_gmN, s_gmT, s_gmCons, s_gmNil, s_wipe0, s_wipeS, s_oSub, s_oAddI, s_oAdd, s_oLt, s_oLe, s_oGt, s_oGe, s_oNeg, s_oNot, s_oMul, s_oMulW, s_oMod, s_oFdiv, s_oPow, s_oIsN, s_oNotN, s_oIsB, s_oNotB, s_isNon_int, s_isNon_non, s_isNon_bl, s_isNon_str, s_isNon_tup, s_isNon_lst, s_isNon_dic, s_oEqI, s_oNeI, s_oIxT, s_oIxL, s_oSlT, s_oSlL, s_oRevT, s_oRevL, s_oInt, s_oIntB, s_oAbs, s_oMax2, s_oMin2, s_oLen, s_plenT, s_plenL, s_plenD, s_plenS, s_oTupleL, s_oTupleT, s_oListL, s_oListT, List.set_cons_succ, List.set_cons_zero, List.append_nil, true_and, x_bl, x_int, x_some, x_addT, x_addL, x_true, x_false]
    refine ⟨.inr ⟨by decide, by decide⟩, by decide, by decide, hN _ ⟨_, _, ?_, ?_, rfl⟩⟩
    · exact Int.emod_nonneg _ (by decide)
    · exact Int.emod_lt_of_pos _ (by decide)
  · obtain ⟨s, y2, s0, s1, rfl⟩ := hE
    try simp only [s_mVar0, s_mVarS, s_mVarO0, s_mVarOS, s_isObj_lst, s_isObj_dic, s_mC, s_mOp, s_mOp1, s_mB, s_mNil, s_mCons, s_mTup, s_mLst, s_mCall, s_mTB, s_mNot, s_mAnd, s_mOr, s_mAndV, s_mOrV, s_mIf, s_mYes, s_mSl, s_mNo, s_mPart, s_mLc, s_mItems, s_mRng1, s_mRng2, s_mEnum, s_mChain, s_seqT, s_seqL, s_sNext, s_sSeq, s_sIf, s_sSet, s_sRet, s_sRetN, s_sBreak, s_sCont, s_sDrop, s_sPar, s_setN0, s_setNS, s_sAsg, s_sApp, s_sAug, s_sFor, s_sSrc, s_gmN, s_gmT, s_gmCons, s_gmNil, s_wipe0, s_wipeS, s_oSub, s_oAddI, s_oAdd, s_oLt, s_oLe, s_oGt, s_oGe, s_oNeg, s_oNot, s_oMul, s_oMulW, s_oMod, s_oFdiv, s_oPow, s_oIsN, s_oNotN, s_oIsB, s_oNotB, s_isNon_int, s_isNon_non, s_isNon_bl, s_isNon_str, s_isNon_tup, s_isNon_lst, s_isNon_dic, s_oEqI, s_oNeI, s_oIxT, s_oIxL, s_oSlT, s_oSlL, s_oRevT, s_oRevL, s_oInt, s_oIntB, s_oAbs, s_oMax2, s_oMin2, s_oLen, s_plenT, s_plenL, s_plenD, s_plenS, s_oTupleL, s_oTupleT, s_oListL, s_oListT, List.set_cons_succ, List.set_cons_zero, List.append_nil, true_and, x_bl, x_int, x_some, x_addT, x_addL, x_true, x_false]
    refine comp_emb (emb := fun x => PV.int (fc x)) (xs := xs) (tst := fun x => decide ((10 : Int) ^ 18 ≤ fc x)) (f := fun x => .int (fc x)) (fun x hx => ⟨_, fun k hk => s_gmN.mpr hk, fun Q hQ => ?_, fun _ Q hQ => ?_⟩) (by rw [List.length_nil, Nat.zero_add]; exact line (by omega)) ?_
    · show mTB _ [some (.scr ns), some (.int great), some (.int (fc x)), some (.lst (xs.map fun x => .int (fc x))), some (.int s)] Q
      try simp only [s_mVar0, s_mVarS, s_mVarO0, s_mVarOS, s_isObj_lst, s_isObj_dic, s_mC, s_mOp, s_mOp1, s_mB, s_mNil, s_mCons, s_mTup, s_mLst, s_mCall, s_mTB, s_mNot, s_mAnd, s_mOr, s_mAndV, s_mOrV, s_mIf, s_mYes, s_mSl, s_mNo, s_mPart, s_mLc, s_mItems, s_mRng1, s_mRng2, s_mEnum, s_mChain, s_seqT, s_seqL, s_sNext, s_sSeq, s_sIf, s_sSet, s_sRet, s_sRetN, s_sBreak, s_sCont, s_sDrop, s_sPar, s_setN0, s_setNS, s_sAsg, s_sApp, s_sAug, s_sFor, s_sSrc, s_gmN, s_gmT, s_gmCons, s_gmNil, s_wipe0, s_wipeS, s_oSub, s_oAddI, s_oAdd, s_oLt, s_oLe, s_oGt, s_oGe, s_oNeg, s_oNot, s_oMul, s_oMulW, s_oMod, s_oFdiv, s_oPow, s_oIsN, s_oNotN, s_oIsB, s_oNotB, s_isNon_int, s_isNon_non, s_isNon_bl, s_isNon_str, s_isNon_tup, s_isNon_lst, s_isNon_dic, s_oEqI, s_oNeI, s_oIxT, s_oIxL, s_oSlT, s_oSlL, s_oRevT, s_oRevL, s_oInt, s_oIntB, s_oAbs, s_oMax2, s_oMin2, s_oLen, s_plenT, s_plenL, s_plenD, s_plenS, s_oTupleL, s_oTupleT, s_oListL, s_oListT, List.set_cons_succ, List.set_cons_zero, List.append_nil, true_and, x_bl, x_int, x_some, x_addT, x_addL, x_true, x_false]
      exact ⟨⟨by decide, by decide, by decide⟩, hQ⟩
    · show mVar 2 [some (.scr ns), some (.int great), some (.int (fc x)), some (.lst (xs.map fun x => .int (fc x))), some (.int s)] Q
      try simp only [s_mVar0, s_mVarS, s_mVarO0, s_mVarOS, s_isObj_lst, s_isObj_dic, s_mC, s_mOp, s_mOp1, s_mB, s_mNil, s_mCons, s_mTup, s_mLst, s_mCall, s_mTB, s_mNot, s_mAnd, s_mOr, s_mAndV, s_mOrV, s_mIf, s_mYes, s_mSl, s_mNo, s_mPart, s_mLc, s_mItems, s_mRng1, s_mRng2, s_mEnum, s_mChain, s_seqT, s_seqL, s_sNext, s_sSeq, s_sIf, s_sSet, s_sRet, s_sRetN, s_sBreak, s_sCont, s_sDrop, s_sPar, s_setN0, s_setNS, s_sAsg, s_sApp, s_sAug, s_sFor, s_sSrc, s_gmN, s_gmT, s_gmCons, s_gmNil, s_wipe0, s_wipeS, s_oSub, s_oAddI, s_oAdd, s_oLt, s_oLe, s_oGt, s_oGe, s_oNeg, s_oNot, s_oMul, s_oMulW, s_oMod, s_oFdiv, s_oPow, s_oIsN, s_oNotN, s_oIsB, s_oNotB, s_isNon_int, s_isNon_non, s_isNon_bl, s_isNon_str, s_isNon_tup, s_isNon_lst, s_isNon_dic, s_oEqI, s_oNeI, s_oIxT, s_oIxL, s_oSlT, s_oSlL, s_oRevT, s_oRevL, s_oInt, s_oIntB, s_oAbs, s_oMax2, s_oMin2, s_oLen, s_plenT, s_plenL, s_plenD, s_plenS, s_oTupleL, s_oTupleT, s_oListL, s_oListT, List.set_cons_succ, List.set_cons_zero, List.append_nil, true_and, x_bl, x_int, x_some, x_addT, x_addL, x_true, x_false]
      exact hQ
    rw [List.nil_append]
    refine s_oRevL.mpr ⟨line (by simp), ((xs.filter fun x => decide ((10 : Int) ^ 18 ≤ fc x)).reverse.map fun x => (fc x).toNat), s.toNat, ?_, ?_, by omega⟩
    · rw [List.map_map, ← List.map_reverse, Int.toNat_of_nonneg s0]
      congr 3
      exact List.map_congr_left fun x _ => by show PV.int (fc x) = PV.int ((fc x).toNat : Int); rw [Int.toNat_of_nonneg (fc0 x)]
    · rw [List.length_map, List.length_reverse]
      exact Nat.le_trans (List.length_filter_le _ _) hxl
end
end K45

set_option maxHeartbeats 1000000
/-! The draw of a heap [cells, stir], by hand. -/
namespace PM
open PySem L2
theorem SA.cells {W : Ws} {H : Hp} {p : Addr × Addr} (hs : ∀ q ∈ W, SA H q) (hp : p ∈ W) {cs : List Nat} (l : cs.length ≤ 63) : ∀ q ∈ W, SA (upd H p.2 (.lst (cs.map fun (c : Nat) => V.int (c : Int)))) q := fun q hq => by
  obtain ⟨np, csp, sp, lp, bp, ap, cp⟩ := hs p hp
  obtain ⟨n, c0, s0, l0, b0, a, b⟩ := hs q hq
  have h1 : q.1 ≠ p.2 := fun z => by
    rw [z, cp] at a
    cases csp with
    | nil => cases a
    | cons x xs => cases a
  by_cases h2 : q.2 = p.2
  · exact ⟨n, cs, s0, l, b0, by rw [upd_ne h1]; exact a, by rw [h2, upd_same]⟩
  · exact ⟨n, c0, s0, l0, b0, by rw [upd_ne h1]; exact a, by rw [upd_ne h2]; exact b⟩
theorem SA.stir {W : Ws} {H : Hp} {p : Addr × Addr} (hs : ∀ q ∈ W, SA H q) (hp : p ∈ W) {s : Nat} (l : s < 2147483647) : ∀ q ∈ W, SA (upd H p.1 (.lst [.ref p.2, .int (s : Int)])) q := fun q hq => by
  obtain ⟨np, csp, sp, lp, bp, ap, cp⟩ := hs p hp
  obtain ⟨n, c0, s0, l0, b0, a, b⟩ := hs q hq
  have h1 : q.2 ≠ p.1 := fun z => by
    rw [z, ap] at b
    cases c0 with
    | nil => cases b
    | cons x xs => cases b
  by_cases h2 : q.1 = p.1
  · have e : q.2 = p.2 := by rw [h2, ap] at a; simp at a; exact a.1.symm
    exact ⟨n, c0, s, l0, l, by rw [h2, upd_same, e], by rw [upd_ne h1]; exact b⟩
  · exact ⟨n, c0, s0, l0, b0, by rw [upd_ne h2]; exact a, by rw [upd_ne h1]; exact b⟩
theorem Grow.cells {W : Ws} {H H' : Hp} (g : Grow W H H') {p : Addr × Addr} (hp : p ∈ W) {cs : List Nat} (l : cs.length ≤ 63) : Grow W H (upd H' p.2 (.lst (cs.map fun (c : Nat) => V.int (c : Int)))) :=
  ⟨fun b o n e => by rw [upd_ne (fun z => n ⟨p, hp, .inr z⟩)]; exact g.keep b o n e, SA.cells g.src hp l⟩
theorem Grow.stir {W : Ws} {H H' : Hp} (g : Grow W H H') {p : Addr × Addr} (hp : p ∈ W) {s : Nat} (l : s < 2147483647) : Grow W H (upd H' p.1 (.lst [.ref p.2, .int (s : Int)])) :=
  ⟨fun b o n e => by rw [upd_ne (fun z => n ⟨p, hp, .inl z⟩)]; exact g.keep b o n e, SA.stir g.src hp l⟩
theorem dp_ints {K : PySem.W.Frag} {H : Hp} : ∀ cs : List Nat, DpAll K H (cs.map fun (c : Nat) => V.int (c : Int)) (cs.map fun (c : Nat) => PyData.int (c : Int))
  | [] => .nil
  | c :: cs => .cons (.int _) (dp_ints cs)
theorem lay_ints : ∀ cs : List Nat, PyData.canLayAll0 (cs.map fun (c : Nat) => PyData.int (c : Int)) = true ∧ PyData.depthAll (cs.map fun (c : Nat) => PyData.int (c : Int)) = 0
  | [] => ⟨rfl, rfl⟩
  | c :: cs => by
    obtain ⟨h1, h2⟩ := lay_ints cs
    constructor
    · show (PyData.canLay0 (.int (c : Int)) && PyData.canLayAll0 _) = true
      rw [h1]; rfl
    · show max (PyData.depth (.int (c : Int))) (PyData.depthAll _) = 0
      rw [h2]; rfl
theorem shaped_ints (cs : List Nat) : SeqAt.shaped (.list (cs.map fun (c : Nat) => PyData.int (c : Int))) = true := by
  unfold SeqAt.shaped
  rw [show PyData.canLay0 (.list (cs.map fun (c : Nat) => PyData.int (c : Int))) = true from (lay_ints cs).1]
  rw [show PyData.depth (.list (cs.map fun (c : Nat) => PyData.int (c : Int))) = PyData.depthAll (cs.map fun (c : Nat) => PyData.int (c : Int)) + 1 from rfl, (lay_ints cs).2]
  rfl
theorem eqv_ints_nil (cs : List Nat) : PyData.eqv (.list (cs.map fun (c : Nat) => PyData.int (c : Int))) (.list []) = cs.isEmpty := by
  cases cs with
  | nil => rfl
  | cons c cs => rfl
def sp_draw : PM.Spec := fun ps P => ∃ many : Int, ps = [.src, .int many] ∧ 0 < many ∧ many < 1073741824 ∧ ∀ r, 0 ≤ r → r < many → P (.int r)
/-- heap[0] != [] -/
theorem draw_ne {K : PySem.W.Frag} {W : Ws} {H H' : Hp} {p : Addr × Addr} {m : Int} {y : Option V} (g : Grow W H H') (hp : p ∈ W) {Q : VK}
    (h : ∀ (cs : List Nat) (s : Nat) H2, H' p.2 = some (.lst (cs.map fun (c : Nat) => V.int (c : Int))) → Grow W H H2 → cs.length ≤ 63 → s < 2147483647 → H2 p.1 = some (.lst [.ref p.2, .int (s : Int)]) → H2 p.2 = some (.lst (cs.map fun (c : Nat) => V.int (c : Int))) → Q (.bl (!cs.isEmpty)) H2) :
    tOp (rNeD K) (tOp (rIx K) (tVar 0) (tC (.int 0))) (tLst tNil) [some (.ref p.1), some (.int m), y] H' Q := by
  obtain ⟨n, cs, s, l, b, e1, e2⟩ := g.src p hp
  refine ⟨.ref p.1, rfl, .inl ⟨p.1, _, 0, .ref p.2, rfl, rfl, .inl (.inl e1), rfl, Nat.zero_le _, fun c nc => ?_⟩⟩
  have g2 := g.trans (Grow.new (o := .lst []) g.src nc)
  have f1 : upd H' c (.lst []) p.1 = some (.lst [.ref p.2, .int (s : Int)]) := by rw [upd_ne (ne_of_none e1 nc)]; exact e1
  have f2 : upd H' c (.lst []) p.2 = some (.lst (cs.map fun (c : Nat) => V.int (c : Int))) := by rw [upd_ne (ne_of_none e2 nc)]; exact e2
  refine ⟨.list (cs.map fun (c : Nat) => PyData.int (c : Int)), .list [], .lst (.inl (.inl f2)) (dp_ints cs), .lst (.inl (.inl upd_same)) .nil, shaped_ints cs, rfl, ?_⟩
  rw [eqv_ints_nil]
  exact h cs s _ e2 g2 l b f1 f2
theorem map_int_inj : ∀ {xs ys : List Nat}, (xs.map fun (c : Nat) => V.int (c : Int)) = (ys.map fun (c : Nat) => V.int (c : Int)) → xs = ys
  | [], [], _ => rfl
  | [], _ :: _, h => by cases h
  | _ :: _, [], h => by cases h
  | x :: xs, y :: ys, h => by
    rw [List.map_cons, List.map_cons] at h
    injection h with h1 h2
    have e : x = y := by
      have e : (x : Int) = (y : Int) := V.int.inj h1
      omega
    rw [e, map_int_inj h2]
theorem rev_end {cs : List Nat} (h : cs ≠ []) : ∃ r c, cs = r ++ [c] := ⟨cs.dropLast, cs.getLast h, (List.dropLast_concat_getLast h).symm⟩
theorem at_end (r : List Nat) (c : Nat) : atI ((r ++ [c]).map fun (c : Nat) => V.int (c : Int)) (-1) = some (.int (c : Int)) := by
  unfold atI ixN
  rw [List.length_map, List.length_append, List.length_singleton, if_neg (by decide), if_pos (by omega)]
  show ((r ++ [c]).map fun (c : Nat) => V.int (c : Int))[((-1 : Int) + ((r.length + 1 : Nat) : Int)).toNat]? = _
  rw [show ((-1 : Int) + ((r.length + 1 : Nat) : Int)).toNat = r.length by omega, List.map_append, List.getElem?_append_right (by rw [List.length_map]; exact Nat.le_refl _), List.length_map, Nat.sub_self]
  rfl
theorem draw_loop {K : PySem.W.Frag} {W : Ws} {H : Hp} {p : Addr × Addr} {m : Int} {D : Ends} (hs : ∀ q ∈ W, SA H q) (hp : p ∈ W) (hnx : ∀ H2, Grow W H H2 → D.nx [some (.ref p.1), some (.int m), none] H2) :
    tWhile (tAnd (tTest (tOp (rNeD K) (tOp (rIx K) (tVar 0) (tC (.int 0))) (tLst tNil))) (tTest (tOp (rEqD K) (tOp (rIx K) (tOp (rIx K) (tVar 0) (tC (.int 0))) (tUn (rU fun i => V.int (-i)) (tC (V.int 1)))) (tC (V.int 0)))))
      (tDrop (tBM0 K "list" rPop (tOp (rIx K) (tVar 0) (tC (.int 0))))) D [some (.ref p.1), some (.int m), none] H := by
  refine ⟨fun i σ H1 => σ = [some (.ref p.1), some (.int m), none] ∧ Grow W H H1 ∧ ∃ cs : List Nat, cs.length = i ∧ H1 p.2 = some (.lst (cs.map fun (c : Nat) => V.int (c : Int))), ?_, fun i σ H1 hW => ?_⟩
  · obtain ⟨n, cs, s, l, b, e1, e2⟩ := hs p hp
    exact ⟨cs.length, rfl, Grow.refl hs, cs, rfl, e2⟩
  · obtain ⟨rfl, g1, cs0, hl0, e0⟩ := hW
    refine draw_ne g1 hp fun cs s H2 e3 g2 l b e1 e2 => ⟨_, rfl, ?_⟩
    have ec : cs = cs0 := map_int_inj (by rw [e0] at e3; simpa using e3.symm)
    subst ec
    by_cases hc : cs = []
    · subst hc
      exact hnx H2 g2
    · obtain ⟨r, c, rfl⟩ := rev_end hc
      have hb : (!(r ++ [c]).isEmpty) = true := by simp
      rw [hb]
      refine iteT ⟨.ref p.1, rfl, .inl ⟨p.1, _, 0, .ref p.2, rfl, rfl, .inl (.inl e1), rfl, 1, rfl, .inl ⟨p.2, _, -1, .int (c : Int), rfl, rfl, .inl (.inl e2), at_end r c, ?_⟩⟩⟩
      refine ⟨.int (c : Int), .int 0, .int _, .int _, rfl, rfl, _, rfl, ?_⟩
      cases PyData.eqv (.int (c : Int)) (.int 0) with
      | true =>
        refine iteT ⟨fun σ' H' => σ' = [some (.ref p.1), some (.int m), none] ∧ Grow W H H' ∧ H' p.2 = some (.lst (r.map fun (c : Nat) => V.int (c : Int))), fun σ' H' ⟨h1, h2, h3⟩ => ⟨r.length, by rw [← hl0, List.length_append]; exact Nat.lt_succ_self _, h1, h2, r, rfl, h3⟩, ?_⟩
        refine ⟨.ref p.1, rfl, .inl ⟨p.1, _, 0, .ref p.2, rfl, rfl, .inl (.inl e1), rfl, .inl ⟨rfl, _, .inl (.inl e2)⟩, p.2, _, .int (c : Int), rfl, rfl, e2, ?_, rfl, ?_⟩⟩
        · rw [List.length_map, List.length_append, List.length_singleton, Nat.add_sub_cancel, List.map_append, List.getElem?_append_right (by rw [List.length_map]; exact Nat.le_refl _), List.length_map, Nat.sub_self]
          rfl
        · have e5 : ((r ++ [c]).map fun (c : Nat) => V.int (c : Int)).dropLast = r.map fun (c : Nat) => V.int (c : Int) := by
            rw [List.map_append]; exact List.dropLast_concat
          rw [e5]
          refine ⟨g2.cells hp ?_, upd_same⟩
          rw [List.length_append] at l
          exact Nat.le_trans (Nat.le_add_right _ _) l
      | false => exact iteF (hnx H2 g2)
end PM
namespace K45
open PySem PySem.Spec PyProof.Rows L2 PM
section
variable {P : Program} {w : World} {K : PySem.W.Frag} {mg : Str → Option Value} {base : Heap}
theorem ok_l_draw (T : Tx K mg) : FnOk P w K mg base CX0 1 T.a_l_draw T.d_l_draw p_l_draw (spM K .cl sp_draw) := by
  have zi : mg "int" = none := T.z_int
  refine T.f_l_draw.ok S_l_draw (fun vs H Q E h => ?_) (fun cdv A outer s H vs Q E hr h => ?_)
  · obtain ⟨zb, W, ps, P', _, _, r, ⟨m, e, _⟩, _⟩ := h
    rw [← r.len, e]; rfl
  · obtain ⟨zb, W, ps, P', hz, hs, r, ⟨m, e, m0, m1, hp⟩, k⟩ := h
    subst e
    obtain ⟨p, hpw, rfl⟩ : ∃ p ∈ W, vs = [.ref p.1, .int m] := by
      unfold Rps at r
      obtain ⟨v, r', rfl, h1, h2⟩ := r
      unfold Rps at h2
      obtain ⟨v2, r2, rfl, h3, h4⟩ := h2
      unfold Rps at h4
      unfold Rp at h1 h3
      obtain ⟨p, hp, rfl⟩ := h1
      exact ⟨p, hp, by rw [h3, h4]⟩
    have fin : ∀ r H', Grow W H H' → 0 ≤ r → r < m → Q (.int r) H' := fun r H' g h1 h2 => k (.int r) (.int r) H' g (VK1.ofRp Rp.int') (hp r h1 h2)
    refine ⟨_, PSs.nox (pss_cons (ps_while .never (pw_and (pt_cmpR (op_neD hr.units) (pe_ix ix_seq (pv 0) pe_int (fun _ _ => rfl)) (pe_lst pa_nil) (nomark _)) (pw_and1 (pt_cmpR (op_eqD hr.units) (pe_ix ix_seq (pe_ix ix_seq (pv 0) pe_int (fun _ _ => rfl)) (pe_un un_neg pe_int) (fun _ _ => rfl)) pe_int (nomark _)))).pt
        (pss_one (ps_expr (pe_bm0 PySem.F.plainAttrs_list PySem.F.slot_list_pop PySem.F.type_list_pop mt_pop (pe_ix ix_seq (pv 0) pe_int (fun _ _ => rfl))))))
      (pss_cons (ps_if (pt_cmpR (op_neD hr.units) (pe_ix ix_seq (pv 0) pe_int (fun _ _ => rfl)) (pe_lst pa_nil) (nomark _))
        (pss_cons (ps_set (i := 2) S_l_draw.nd rfl (.inl rfl) (pe_bm0 PySem.F.plainAttrs_list PySem.F.slot_list_pop PySem.F.type_list_pop mt_pop (pe_ix ix_seq (pv 0) pe_int (fun _ _ => rfl))))
        (pss_cons (ps_expr (pe_bm PySem.F.plainAttrs_list PySem.F.slot_list_append PySem.F.type_list_append mt_append (pe_ix ix_seq (pv 0) pe_int (fun _ _ => rfl)) (pa_cons (pe_op op_fdiv (pv 2) (pv 1)) pa_nil)))
        (pss_one (ps_ret (pe_op op_mod (pe_callTy call_int1 (by rfl) zi PyProof.Rows.boot_int (pa_cons (pv 2) pa_nil)) (pv 1))))))
        pss_nil)
      (pss_cons (ps_asg (pe_op op_mod (pe_callTy call_int1 (by rfl) zi PyProof.Rows.boot_int (pa_cons (pe_op op_add (pe_op op_mul (pe_ix ix_seq (pv 0) pe_int (fun _ _ => rfl)) pe_int) pe_int) pa_nil)) pe_int) (pg_sub (pv 0) pe_int set_list (by intro _; rfl)))
      (pss_one (ps_ret (pe_op op_mod (pe_callTy call_int1 (by rfl) zi PyProof.Rows.boot_int (pa_cons (pe_op op_fdiv (pe_ix ix_seq (pv 0) pe_int (fun _ _ => rfl)) pe_int) pa_nil)) (pv 1))))))), ?_⟩
    refine draw_loop hs hpw fun H2 g2 => ?_
    refine draw_ne g2 hpw fun cs s H3 _ g3 l b e1 e2 => ⟨_, rfl, ?_⟩
    by_cases hc : cs = []
    · subst hc
      refine iteF ⟨.ref p.1, rfl, .inl ⟨p.1, _, 1, .int (s : Int), rfl, rfl, .inl (.inl e1), rfl, s, 48271, rfl, rfl, .inl ⟨by omega, by omega⟩, _, 83, rfl, rfl, .inl ⟨_, rfl, _, 2147483647, rfl, rfl, (by decide : (0 : Int) < 2147483647), .ref p.1, rfl, ?_⟩⟩⟩
      obtain ⟨s', hs', e'⟩ : ∃ s' : Nat, s' < 2147483647 ∧ ((s : Int) * 48271 + 83) % 2147483647 = (s' : Int) := ⟨(((s : Int) * 48271 + 83) % 2147483647).toNat, by omega, by omega⟩
      have g4 := g3.stir hpw hs'
      rw [← e'] at g4
      refine ⟨p.1, _, 1, 1, rfl, rfl, e1, rfl, ?_⟩
      refine ⟨.ref p.1, rfl, .inl ⟨p.1, _, 1, _, rfl, rfl, .inl (.inl upd_same), rfl, _, 32, rfl, rfl, ⟨by decide, by decide⟩, .inl ⟨_, rfl, .int m, rfl, _, m, rfl, rfl, m0, ?_⟩⟩⟩
      exact fin _ _ g4 (Int.emod_nonneg _ (by omega)) (Int.emod_lt_of_pos _ m0)
    · obtain ⟨r, c, rfl⟩ := rev_end hc
      have hb : (!(r ++ [c]).isEmpty) = true := by simp
      rw [hb]
      refine iteT ⟨.ref p.1, rfl, .inl ⟨p.1, _, 0, .ref p.2, rfl, rfl, .inl (.inl e1), rfl, .inl ⟨rfl, _, .inl (.inl e2)⟩, p.2, _, .int (c : Int), rfl, rfl, e2, ?_, ?_⟩⟩
      · rw [List.length_map, List.length_append, List.length_singleton, Nat.add_sub_cancel, List.map_append, List.getElem?_append_right (by rw [List.length_map]; exact Nat.le_refl _), List.length_map, Nat.sub_self]
        rfl
      have e5 : ((r ++ [c]).map fun (c : Nat) => V.int (c : Int)).dropLast = r.map fun (c : Nat) => V.int (c : Int) := by
        rw [List.map_append]; exact List.dropLast_concat
      rw [e5]
      have lr : r.length + 1 ≤ 63 := by rw [List.length_append, List.length_singleton] at l; exact l
      have g4 := g3.cells hpw (cs := r) (by omega)
      obtain ⟨q, hq⟩ : ∃ q : Nat, (c : Int) / m = (q : Int) := ⟨((c : Int) / m).toNat, by have := Int.ediv_nonneg (a := (c : Int)) (b := m) (by omega) (by omega); omega⟩
      have n12 : p.1 ≠ p.2 := (hs p hpw).1
      have f1 : upd H3 p.2 (.lst (r.map fun (c : Nat) => V.int (c : Int))) p.1 = some (.lst [.ref p.2, .int (s : Int)]) := by rw [upd_ne n12]; exact e1
      refine ⟨.ref p.1, rfl, .inl ⟨p.1, _, 0, .ref p.2, rfl, rfl, .inl (.inl f1), rfl, .inl ⟨rfl, _, .inl (.inl upd_same)⟩, .int (c : Int), rfl, .int m, rfl, c, m, rfl, rfl, ⟨m0, m1⟩, p.2, _, _, rfl, rfl, upd_same, ?_, ?_⟩⟩
      · rw [List.length_map]
        exact Nat.lt_of_lt_of_le (by omega : r.length < 64) (by decide)
      have e6 : (r.map fun (c : Nat) => V.int (c : Int)) ++ [V.int (q : Int)] = (r ++ [q]).map fun (c : Nat) => V.int (c : Int) := by rw [List.map_append]; rfl
      have g5 := g4.cells hpw (cs := r ++ [q]) (by rw [List.length_append, List.length_singleton]; exact lr)
      rw [← e6, ← hq] at g5
      refine ⟨.int (c : Int), rfl, .inl ⟨_, rfl, .int m, rfl, c, m, rfl, rfl, m0, ?_⟩⟩
      exact fin _ _ g5 (Int.emod_nonneg _ (by omega)) (Int.emod_lt_of_pos _ m0)
end
end K45

set_option maxHeartbeats 1000000
namespace K45
open PySem PySem.Spec PyProof.Rows L2 PM
section
variable {P : Program} {w : World} {K : PySem.W.Frag} {mg : Str → Option Value} {base : Heap}
theorem ok_is_integer (T : Tx K mg) : FnOk P w K mg base CX0 1 T.a_is_integer T.d_is_integer p_is_integer (spM K .cl sp_is_integer) := fn_m T.f_is_integer S_is_integer (by intro ps Q h; repeat (first | (have e := h.1; subst e; rfl) | (obtain ⟨_, h⟩ := h)))  (fun cdv A outer s H E hr => w_is_integer T   cdv A outer s H E hr) h_is_integer
theorem ok_is_number (T : Tx K mg) : FnOk P w K mg base CX0 2 T.a_is_number T.d_is_number p_is_number (spM K .cl sp_is_number) := fn_m T.f_is_number S_is_number (by intro ps Q h; repeat (first | (have e := h.1; subst e; rfl) | (obtain ⟨_, h⟩ := h)))  (fun cdv A outer s H E hr => w_is_number T sp_is_integer (ok_is_integer T) cdv A outer s H E hr) h_is_number
theorem ok_is_ascending (T : Tx K mg) : FnOk P w K mg base CX0 1 T.a_is_ascending T.d_is_ascending p_is_ascending (spM K .cl sp_is_asc3) := fn_m T.f_is_ascending S_is_ascending (by intro ps Q h; repeat (first | (have e := h.1; subst e; rfl) | (obtain ⟨_, h⟩ := h)))  (fun cdv A outer s H E hr => w_is_ascending T   cdv A outer s H E hr) h_is_asc3
theorem ok_union_of (T : Tx K mg) : FnOk P w K mg base CX0 1 T.a_union_of T.d_union_of p_union_of (spM K .cl sp_union_of) := fn_m T.f_union_of S_union_of (by intro ps Q h; repeat (first | (have e := h.1; subst e; rfl) | (obtain ⟨_, h⟩ := h)))  (fun cdv A outer s H E hr => w_union_of T   cdv A outer s H E hr) h_union_of
theorem ok_earliest_firsts (T : Tx K mg) : FnOk P w K mg base CX0 2 T.a_earliest_firsts T.d_earliest_firsts p_earliest_firsts (spM K .cl sp_earliest) := fn_m T.f_earliest_firsts S_earliest_firsts (by intro ps Q h; repeat (first | (have e := h.1; subst e; rfl) | (obtain ⟨_, h⟩ := h)))  (fun cdv A outer s H E hr => w_earliest_firsts T sp_union_of (ok_union_of T) cdv A outer s H E hr) h_earliest_firsts
theorem ok_least_prices (T : Tx K mg) : FnOk P w K mg base CX0 3 T.a_least_prices T.d_least_prices p_least_prices (spM K .cl sp_least_prices) := fn_m T.f_least_prices S_least_prices (by intro ps Q h; repeat (first | (have e := h.1; subst e; rfl) | (obtain ⟨_, h⟩ := h)))  (fun cdv A outer s H E hr => w_least_prices T sp_earliest (ok_earliest_firsts T) cdv A outer s H E hr) h_least_prices
theorem ok_price_by (T : Tx K mg) : FnOk P w K mg base CX0 1 T.a_price_by T.d_price_by p_price_by (spM K .cl sp_price_by) := fn_m T.f_price_by S_price_by (by intro ps Q h; repeat (first | (have e := h.1; subst e; rfl) | (obtain ⟨_, h⟩ := h)))  (fun cdv A outer s H E hr => w_price_by T   cdv A outer s H E hr) h_price_by
theorem ok_cheapest_schedule (T : Tx K mg) : FnOk P w K mg base CX0 4 T.a_cheapest_schedule T.d_cheapest_schedule p_cheapest_schedule (spM K .cl sp_cheapest) := fn_m T.f_cheapest_schedule S_cheapest_schedule (by intro ps Q h; repeat (first | (have e := h.1; subst e; rfl) | (obtain ⟨_, h⟩ := h)))  (fun cdv A outer s H E hr => w_cheapest_schedule T sp_least_prices (ok_least_prices T) cdv A outer s H E hr) h_cheapest_schedule
theorem ok_is_toll (T : Tx K mg) : FnOk P w K mg base CX0 3 T.a_is_toll T.d_is_toll p_is_toll (spM K .cl sp_is_toll) := fn_m T.f_is_toll S_is_toll (by intro ps Q h; repeat (first | (have e := h.1; subst e; rfl) | (obtain ⟨_, h⟩ := h)))  (fun cdv A outer s H E hr => w_is_toll T sp_union_of sp_is_number (ok_union_of T) (ok_is_number T) cdv A outer s H E hr) h_is_toll
theorem ok_tolls_at (T : Tx K mg) : FnOk P w K mg base CX0 1 T.a_tolls_at T.d_tolls_at p_tolls_at (spM K .cl sp_tolls_at) := fn_m T.f_tolls_at S_tolls_at (by intro ps Q h; repeat (first | (have e := h.1; subst e; rfl) | (obtain ⟨_, h⟩ := h)))  (fun cdv A outer s H E hr => w_tolls_at T   cdv A outer s H E hr) h_tolls_at
theorem ok_is_tolls (T : Tx K mg) : FnOk P w K mg base CX0 4 T.a_is_tolls T.d_is_tolls p_is_tolls (spM K .cl sp_is_tolls) := fn_m T.f_is_tolls S_is_tolls (by intro ps Q h; repeat (first | (have e := h.1; subst e; rfl) | (obtain ⟨_, h⟩ := h)))  (fun cdv A outer s H E hr => w_is_tolls T sp_is_asc3 sp_is_toll sp_tolls_at (ok_is_ascending T) (ok_is_toll T) (ok_tolls_at T) cdv A outer s H E hr) h_is_tolls
theorem ok_tolls_of (T : Tx K mg) : FnOk P w K mg base CX0 4 T.a_tolls_of T.d_tolls_of p_tolls_of (spM K .cl sp_tolls_of) := fn_m T.f_tolls_of S_tolls_of (by intro ps Q h; repeat (first | (have e := h.1; subst e; rfl) | (obtain ⟨_, h⟩ := h)))  (fun cdv A outer s H E hr => w_tolls_of T sp_least_prices sp_earliest (ok_least_prices T) (ok_earliest_firsts T) cdv A outer s H E hr) h_tolls_of
theorem ok_l_heap (T : Tx K mg) : FnOk P w K mg base CX0 1 T.a_l_heap T.d_l_heap p_l_heap (spSrc K ok_heap) := src_m T.f_l_heap S_l_heap rfl (fun cdv A outer s H E hr => w_l_heap T   cdv A outer s H E hr) h_l_heap
theorem ok_l_pick (T : Tx K mg) : FnOk P w K mg base CX0 2 T.a_l_pick T.d_l_pick p_l_pick (spM K .cl sp_pick) := fn_m T.f_l_pick S_l_pick (by intro ps Q h; repeat (first | (have e := h.1; subst e; rfl) | (obtain ⟨_, h⟩ := h)))  (fun cdv A outer s H E hr => w_l_pick T sp_drw (ok_l_draw T) cdv A outer s H E hr) h_l_pick
theorem ok_l_some (T : Tx K mg) : FnOk P w K mg base CX0 2 T.a_l_some T.d_l_some p_l_some (spM K .cl sp_some) := fn_m T.f_l_some S_l_some (by intro ps Q h; repeat (first | (have e := h.1; subst e; rfl) | (obtain ⟨_, h⟩ := h)))  (fun cdv A outer s H E hr => w_l_some T sp_drw (ok_l_draw T) cdv A outer s H E hr) h_l_some
theorem ok_l_is_number (T : Tx K mg) : FnOk P w K mg base CX0 1 T.a_l_is_number T.d_l_is_number p_l_is_number (spM K .cl sp_l_is_number) := fn_m T.f_l_is_number S_l_is_number (by intro ps Q h; repeat (first | (have e := h.1; subst e; rfl) | (obtain ⟨_, h⟩ := h)))  (fun cdv A outer s H E hr => w_l_is_number T   cdv A outer s H E hr) h_l_is_number
theorem ok_l_union (T : Tx K mg) : FnOk P w K mg base CX0 1 T.a_l_union T.d_l_union p_l_union (spM K .cl sp_l_union) := fn_m T.f_l_union S_l_union (by intro ps Q h; repeat (first | (have e := h.1; subst e; rfl) | (obtain ⟨_, h⟩ := h)))  (fun cdv A outer s H E hr => w_l_union T   cdv A outer s H E hr) h_l_union
theorem ok_l_is_schedule (T : Tx K mg) : FnOk P w K mg base CX0 2 T.a_l_is_schedule T.d_l_is_schedule p_l_is_schedule (spM K .cl sp_l_is_schedule) := fn_m T.f_l_is_schedule S_l_is_schedule (by intro ps Q h; repeat (first | (have e := h.1; subst e; rfl) | (obtain ⟨_, h⟩ := h)))  (fun cdv A outer s H E hr => w_l_is_schedule T sp_l_is_number (ok_l_is_number T) cdv A outer s H E hr) h_l_is_schedule
theorem ok_l_is_secret (T : Tx K mg) : FnOk P w K mg base CX0 2 T.a_l_is_secret T.d_l_is_secret p_l_is_secret (spM K .cl sp_l_is_secret) := fn_m T.f_l_is_secret S_l_is_secret (by intro ps Q h; repeat (first | (have e := h.1; subst e; rfl) | (obtain ⟨_, h⟩ := h)))  (fun cdv A outer s H E hr => w_l_is_secret T sp_l_union (ok_l_union T) cdv A outer s H E hr) h_l_is_secret
theorem ok_l_is_tolls (T : Tx K mg) : FnOk P w K mg base CX0 2 T.a_l_is_tolls T.d_l_is_tolls p_l_is_tolls (spM K .cl sp_is_tolls) := fn_m T.f_l_is_tolls S_l_is_tolls (by intro ps Q h; repeat (first | (have e := h.1; subst e; rfl) | (obtain ⟨_, h⟩ := h)))  (fun cdv A outer s H E hr => w_l_is_tolls T sp_l_union sp_l_is_number (ok_l_union T) (ok_l_is_number T) cdv A outer s H E hr) h_l_is_tolls
theorem ok_l_counted (T : Tx K mg) : FnOk P w K mg base CX0 3 T.a_l_counted T.d_l_counted p_l_counted (spM K .cl sp_l_counted) := fn_m T.f_l_counted S_l_counted (by intro ps Q h; repeat (first | (have e := h.1; subst e; rfl) | (obtain ⟨_, h⟩ := h)))  (fun cdv A outer s H E hr => w_l_counted T sp_pick sp_some sp_drw (ok_l_pick T) (ok_l_some T) (ok_l_draw T) cdv A outer s H E hr) h_l_counted
theorem ok_l_lasts (T : Tx K mg) : FnOk P w K mg base CX0 1 T.a_l_lasts T.d_l_lasts p_l_lasts (spM K .cl sp_l_lasts) := fn_m T.f_l_lasts S_l_lasts (by intro ps Q h; repeat (first | (have e := h.1; subst e; rfl) | (obtain ⟨_, h⟩ := h)))  (fun cdv A outer s H E hr => w_l_lasts T   cdv A outer s H E hr) h_l_lasts
theorem ok_l_own_tolls (T : Tx K mg) : FnOk P w K mg base CX0 3 T.a_l_own_tolls T.d_l_own_tolls p_l_own_tolls (spM K .cl sp_l_own_tolls) := fn_m T.f_l_own_tolls S_l_own_tolls (by intro ps Q h; repeat (first | (have e := h.1; subst e; rfl) | (obtain ⟨_, h⟩ := h)))  (fun cdv A outer s H E hr => w_l_own_tolls T sp_drw sp_l_lasts sp_pick (ok_l_draw T) (ok_l_lasts T) (ok_l_pick T) cdv A outer s H E hr) h_l_own_tolls
theorem ok_l_bent (T : Tx K mg) : FnOk P w K mg base CX0 3 T.a_l_bent T.d_l_bent p_l_bent (spM K .cl sp_l_bent) := fn_mL T.f_l_bent S_l_bent (by intro ps Q h; repeat (first | (have e := h.1; subst e; rfl) | (obtain ⟨_, h⟩ := h))) hno_l_bent (by decide) (fun cdv A outer s H E hr => w_l_bent T sp_pick sp_drw (ok_l_pick T) (ok_l_draw T) cdv A outer s H E hr) h_l_bent
theorem ok_law (T : Tx K mg) : FnOk P w K mg base CX0 5 T.a_law T.d_law p_law (spLawM K) := law_m T.f_law S_law rfl (fun cdv A outer s H E hr => w_law T ok_heap sp_pick sp_l_counted sp_l_own_tolls sp_cheapest sp_tolls_of sp_is_tolls sp_l_bent sp_is_tolls sp_drw sp_l_is_schedule sp_l_is_secret sp_price_by (ok_l_heap T) (ok_l_pick T) (ok_l_counted T) (ok_l_own_tolls T) (ok_cheapest_schedule T) (ok_tolls_of T) (ok_is_tolls T) (ok_l_bent T) (ok_l_is_tolls T) (ok_l_draw T) (ok_l_is_schedule T) (ok_l_is_secret T) (ok_price_by T) cdv A outer s H E hr) h_law
end
theorem all_mk {l : PySem.W.OpenLaw} {w : World} {K : PySem.W.Frag} {h : Heap} {mg : Str → Option Value} {fa f1 f2 f3 f4 f5 f6 f7 f8 f9 f10 f11 f12 f13 f14 f15 f16 f17 f18 f19 f20 f21 f22 f23 f24 f25 f26 : Addr} (X : K.In h) (G : h.Ns mainGlobals mg) (hfa : mg "law" = some (.ref fa))
    {od1 an1 : Option Addr} {sl1 : Array (Option Value)} {oc1 kV1 dc1 pm1 cd1 ct1 : Value}
    {od2 an2 : Option Addr} {sl2 : Array (Option Value)} {oc2 kV2 dc2 pm2 cd2 ct2 : Value}
    {od3 an3 : Option Addr} {sl3 : Array (Option Value)} {oc3 kV3 dc3 pm3 cd3 ct3 : Value}
    {od4 an4 : Option Addr} {sl4 : Array (Option Value)} {oc4 kV4 dc4 pm4 cd4 ct4 : Value}
    {od5 an5 : Option Addr} {sl5 : Array (Option Value)} {oc5 kV5 dc5 pm5 cd5 ct5 : Value}
    {od6 an6 : Option Addr} {sl6 : Array (Option Value)} {oc6 kV6 dc6 pm6 cd6 ct6 : Value}
    {od7 an7 : Option Addr} {sl7 : Array (Option Value)} {oc7 kV7 dc7 pm7 cd7 ct7 : Value}
    {od8 an8 : Option Addr} {sl8 : Array (Option Value)} {oc8 kV8 dc8 pm8 cd8 ct8 : Value}
    {od9 an9 : Option Addr} {sl9 : Array (Option Value)} {oc9 kV9 dc9 pm9 cd9 ct9 : Value}
    {od10 an10 : Option Addr} {sl10 : Array (Option Value)} {oc10 kV10 dc10 pm10 cd10 ct10 : Value}
    {od11 an11 : Option Addr} {sl11 : Array (Option Value)} {oc11 kV11 dc11 pm11 cd11 ct11 : Value}
    {od12 an12 : Option Addr} {sl12 : Array (Option Value)} {oc12 kV12 dc12 pm12 cd12 ct12 : Value}
    {od13 an13 : Option Addr} {sl13 : Array (Option Value)} {oc13 kV13 dc13 pm13 cd13 ct13 : Value}
    {od14 an14 : Option Addr} {sl14 : Array (Option Value)} {oc14 kV14 dc14 pm14 cd14 ct14 : Value}
    {od15 an15 : Option Addr} {sl15 : Array (Option Value)} {oc15 kV15 dc15 pm15 cd15 ct15 : Value}
    {od16 an16 : Option Addr} {sl16 : Array (Option Value)} {oc16 kV16 dc16 pm16 cd16 ct16 : Value}
    {od17 an17 : Option Addr} {sl17 : Array (Option Value)} {oc17 kV17 dc17 pm17 cd17 ct17 : Value}
    {od18 an18 : Option Addr} {sl18 : Array (Option Value)} {oc18 kV18 dc18 pm18 cd18 ct18 : Value}
    {od19 an19 : Option Addr} {sl19 : Array (Option Value)} {oc19 kV19 dc19 pm19 cd19 ct19 : Value}
    {od20 an20 : Option Addr} {sl20 : Array (Option Value)} {oc20 kV20 dc20 pm20 cd20 ct20 : Value}
    {od21 an21 : Option Addr} {sl21 : Array (Option Value)} {oc21 kV21 dc21 pm21 cd21 ct21 : Value}
    {od22 an22 : Option Addr} {sl22 : Array (Option Value)} {oc22 kV22 dc22 pm22 cd22 ct22 : Value}
    {od23 an23 : Option Addr} {sl23 : Array (Option Value)} {oc23 kV23 dc23 pm23 cd23 ct23 : Value}
    {od24 an24 : Option Addr} {sl24 : Array (Option Value)} {oc24 kV24 dc24 pm24 cd24 ct24 : Value}
    {od25 an25 : Option Addr} {sl25 : Array (Option Value)} {oc25 kV25 dc25 pm25 cd25 ct25 : Value}
    {od26 an26 : Option Addr} {sl26 : Array (Option Value)} {oc26 kV26 dc26 pm26 cd26 ct26 : Value}
    {T2 : Addr} {tc2 : Value} {td2 : Option Addr} {tn2 : Nat} {ts2 : Array (Option Value)}
    (a1 : PySem.W.nsIn K mainGlobals "is_integer" = some (some (.ref f1))) (l1 : K.lookup f1 = some ⟨oc1, od1, .func (PySem.W.fnOf "is_integer" "is_integer" (defArgs s_is_integer) (defBody s_is_integer) (defScope s_is_integer) .none kV1 dc1 pm1 an1 cd1 ct1), sl1⟩) (c1 : PySem.W.codeIn K cd1 "is_integer" = true) (k1 : PySem.W.keepIn K (.ref f1) = true)
    (a2 : PySem.W.nsIn K mainGlobals "is_number" = some (some (.ref f2))) (l2 : K.lookup f2 = some ⟨oc2, od2, .func (PySem.W.fnOf "is_number" "is_number" (defArgs s_is_number) (defBody s_is_number) (defScope s_is_number) (.ref T2) kV2 dc2 pm2 an2 cd2 ct2), sl2⟩) (c2 : PySem.W.codeIn K cd2 "is_number" = true) (k2 : PySem.W.keepIn K (.ref f2) = true)
    (t2 : K.lookup T2 = some ⟨tc2, td2, .seq [Value.none].toArray tn2, ts2⟩)
    (a3 : PySem.W.nsIn K mainGlobals "is_ascending" = some (some (.ref f3))) (l3 : K.lookup f3 = some ⟨oc3, od3, .func (PySem.W.fnOf "is_ascending" "is_ascending" (defArgs s_is_ascending) (defBody s_is_ascending) (defScope s_is_ascending) .none kV3 dc3 pm3 an3 cd3 ct3), sl3⟩) (c3 : PySem.W.codeIn K cd3 "is_ascending" = true) (k3 : PySem.W.keepIn K (.ref f3) = true)
    (a4 : PySem.W.nsIn K mainGlobals "union_of" = some (some (.ref f4))) (l4 : K.lookup f4 = some ⟨oc4, od4, .func (PySem.W.fnOf "union_of" "union_of" (defArgs s_union_of) (defBody s_union_of) (defScope s_union_of) .none kV4 dc4 pm4 an4 cd4 ct4), sl4⟩) (c4 : PySem.W.codeIn K cd4 "union_of" = true) (k4 : PySem.W.keepIn K (.ref f4) = true)
    (a5 : PySem.W.nsIn K mainGlobals "earliest_firsts" = some (some (.ref f5))) (l5 : K.lookup f5 = some ⟨oc5, od5, .func (PySem.W.fnOf "earliest_firsts" "earliest_firsts" (defArgs s_earliest_firsts) (defBody s_earliest_firsts) (defScope s_earliest_firsts) .none kV5 dc5 pm5 an5 cd5 ct5), sl5⟩) (c5 : PySem.W.codeIn K cd5 "earliest_firsts" = true) (k5 : PySem.W.keepIn K (.ref f5) = true)
    (a6 : PySem.W.nsIn K mainGlobals "least_prices" = some (some (.ref f6))) (l6 : K.lookup f6 = some ⟨oc6, od6, .func (PySem.W.fnOf "least_prices" "least_prices" (defArgs s_least_prices) (defBody s_least_prices) (defScope s_least_prices) .none kV6 dc6 pm6 an6 cd6 ct6), sl6⟩) (c6 : PySem.W.codeIn K cd6 "least_prices" = true) (k6 : PySem.W.keepIn K (.ref f6) = true)
    (a7 : PySem.W.nsIn K mainGlobals "price_by" = some (some (.ref f7))) (l7 : K.lookup f7 = some ⟨oc7, od7, .func (PySem.W.fnOf "price_by" "price_by" (defArgs s_price_by) (defBody s_price_by) (defScope s_price_by) .none kV7 dc7 pm7 an7 cd7 ct7), sl7⟩) (c7 : PySem.W.codeIn K cd7 "price_by" = true) (k7 : PySem.W.keepIn K (.ref f7) = true)
    (a8 : PySem.W.nsIn K mainGlobals "cheapest_schedule" = some (some (.ref f8))) (l8 : K.lookup f8 = some ⟨oc8, od8, .func (PySem.W.fnOf "cheapest_schedule" "cheapest_schedule" (defArgs s_cheapest_schedule) (defBody s_cheapest_schedule) (defScope s_cheapest_schedule) .none kV8 dc8 pm8 an8 cd8 ct8), sl8⟩) (c8 : PySem.W.codeIn K cd8 "cheapest_schedule" = true) (k8 : PySem.W.keepIn K (.ref f8) = true)
    (a9 : PySem.W.nsIn K mainGlobals "is_toll" = some (some (.ref f9))) (l9 : K.lookup f9 = some ⟨oc9, od9, .func (PySem.W.fnOf "is_toll" "is_toll" (defArgs s_is_toll) (defBody s_is_toll) (defScope s_is_toll) .none kV9 dc9 pm9 an9 cd9 ct9), sl9⟩) (c9 : PySem.W.codeIn K cd9 "is_toll" = true) (k9 : PySem.W.keepIn K (.ref f9) = true)
    (a10 : PySem.W.nsIn K mainGlobals "tolls_at" = some (some (.ref f10))) (l10 : K.lookup f10 = some ⟨oc10, od10, .func (PySem.W.fnOf "tolls_at" "tolls_at" (defArgs s_tolls_at) (defBody s_tolls_at) (defScope s_tolls_at) .none kV10 dc10 pm10 an10 cd10 ct10), sl10⟩) (c10 : PySem.W.codeIn K cd10 "tolls_at" = true) (k10 : PySem.W.keepIn K (.ref f10) = true)
    (a11 : PySem.W.nsIn K mainGlobals "is_tolls" = some (some (.ref f11))) (l11 : K.lookup f11 = some ⟨oc11, od11, .func (PySem.W.fnOf "is_tolls" "is_tolls" (defArgs s_is_tolls) (defBody s_is_tolls) (defScope s_is_tolls) .none kV11 dc11 pm11 an11 cd11 ct11), sl11⟩) (c11 : PySem.W.codeIn K cd11 "is_tolls" = true) (k11 : PySem.W.keepIn K (.ref f11) = true)
    (a12 : PySem.W.nsIn K mainGlobals "tolls_of" = some (some (.ref f12))) (l12 : K.lookup f12 = some ⟨oc12, od12, .func (PySem.W.fnOf "tolls_of" "tolls_of" (defArgs s_tolls_of) (defBody s_tolls_of) (defScope s_tolls_of) .none kV12 dc12 pm12 an12 cd12 ct12), sl12⟩) (c12 : PySem.W.codeIn K cd12 "tolls_of" = true) (k12 : PySem.W.keepIn K (.ref f12) = true)
    (a13 : PySem.W.nsIn K mainGlobals "_law_heap" = some (some (.ref f13))) (l13 : K.lookup f13 = some ⟨oc13, od13, .func (PySem.W.fnOf "_law_heap" "_law_heap" (defArgs s_l_heap) (defBody s_l_heap) (defScope s_l_heap) .none kV13 dc13 pm13 an13 cd13 ct13), sl13⟩) (c13 : PySem.W.codeIn K cd13 "_law_heap" = true) (k13 : PySem.W.keepIn K (.ref f13) = true)
    (a14 : PySem.W.nsIn K mainGlobals "_law_draw" = some (some (.ref f14))) (l14 : K.lookup f14 = some ⟨oc14, od14, .func (PySem.W.fnOf "_law_draw" "_law_draw" (defArgs s_l_draw) (defBody s_l_draw) (defScope s_l_draw) .none kV14 dc14 pm14 an14 cd14 ct14), sl14⟩) (c14 : PySem.W.codeIn K cd14 "_law_draw" = true) (k14 : PySem.W.keepIn K (.ref f14) = true)
    (a15 : PySem.W.nsIn K mainGlobals "_law_pick" = some (some (.ref f15))) (l15 : K.lookup f15 = some ⟨oc15, od15, .func (PySem.W.fnOf "_law_pick" "_law_pick" (defArgs s_l_pick) (defBody s_l_pick) (defScope s_l_pick) .none kV15 dc15 pm15 an15 cd15 ct15), sl15⟩) (c15 : PySem.W.codeIn K cd15 "_law_pick" = true) (k15 : PySem.W.keepIn K (.ref f15) = true)
    (a16 : PySem.W.nsIn K mainGlobals "_law_some" = some (some (.ref f16))) (l16 : K.lookup f16 = some ⟨oc16, od16, .func (PySem.W.fnOf "_law_some" "_law_some" (defArgs s_l_some) (defBody s_l_some) (defScope s_l_some) .none kV16 dc16 pm16 an16 cd16 ct16), sl16⟩) (c16 : PySem.W.codeIn K cd16 "_law_some" = true) (k16 : PySem.W.keepIn K (.ref f16) = true)
    (a17 : PySem.W.nsIn K mainGlobals "_law_is_number" = some (some (.ref f17))) (l17 : K.lookup f17 = some ⟨oc17, od17, .func (PySem.W.fnOf "_law_is_number" "_law_is_number" (defArgs s_l_is_number) (defBody s_l_is_number) (defScope s_l_is_number) .none kV17 dc17 pm17 an17 cd17 ct17), sl17⟩) (c17 : PySem.W.codeIn K cd17 "_law_is_number" = true) (k17 : PySem.W.keepIn K (.ref f17) = true)
    (a18 : PySem.W.nsIn K mainGlobals "_law_union" = some (some (.ref f18))) (l18 : K.lookup f18 = some ⟨oc18, od18, .func (PySem.W.fnOf "_law_union" "_law_union" (defArgs s_l_union) (defBody s_l_union) (defScope s_l_union) .none kV18 dc18 pm18 an18 cd18 ct18), sl18⟩) (c18 : PySem.W.codeIn K cd18 "_law_union" = true) (k18 : PySem.W.keepIn K (.ref f18) = true)
    (a19 : PySem.W.nsIn K mainGlobals "_law_is_schedule" = some (some (.ref f19))) (l19 : K.lookup f19 = some ⟨oc19, od19, .func (PySem.W.fnOf "_law_is_schedule" "_law_is_schedule" (defArgs s_l_is_schedule) (defBody s_l_is_schedule) (defScope s_l_is_schedule) .none kV19 dc19 pm19 an19 cd19 ct19), sl19⟩) (c19 : PySem.W.codeIn K cd19 "_law_is_schedule" = true) (k19 : PySem.W.keepIn K (.ref f19) = true)
    (a20 : PySem.W.nsIn K mainGlobals "_law_is_secret" = some (some (.ref f20))) (l20 : K.lookup f20 = some ⟨oc20, od20, .func (PySem.W.fnOf "_law_is_secret" "_law_is_secret" (defArgs s_l_is_secret) (defBody s_l_is_secret) (defScope s_l_is_secret) .none kV20 dc20 pm20 an20 cd20 ct20), sl20⟩) (c20 : PySem.W.codeIn K cd20 "_law_is_secret" = true) (k20 : PySem.W.keepIn K (.ref f20) = true)
    (a21 : PySem.W.nsIn K mainGlobals "_law_is_tolls" = some (some (.ref f21))) (l21 : K.lookup f21 = some ⟨oc21, od21, .func (PySem.W.fnOf "_law_is_tolls" "_law_is_tolls" (defArgs s_l_is_tolls) (defBody s_l_is_tolls) (defScope s_l_is_tolls) .none kV21 dc21 pm21 an21 cd21 ct21), sl21⟩) (c21 : PySem.W.codeIn K cd21 "_law_is_tolls" = true) (k21 : PySem.W.keepIn K (.ref f21) = true)
    (a22 : PySem.W.nsIn K mainGlobals "_law_counted" = some (some (.ref f22))) (l22 : K.lookup f22 = some ⟨oc22, od22, .func (PySem.W.fnOf "_law_counted" "_law_counted" (defArgs s_l_counted) (defBody s_l_counted) (defScope s_l_counted) .none kV22 dc22 pm22 an22 cd22 ct22), sl22⟩) (c22 : PySem.W.codeIn K cd22 "_law_counted" = true) (k22 : PySem.W.keepIn K (.ref f22) = true)
    (a23 : PySem.W.nsIn K mainGlobals "_law_lasts" = some (some (.ref f23))) (l23 : K.lookup f23 = some ⟨oc23, od23, .func (PySem.W.fnOf "_law_lasts" "_law_lasts" (defArgs s_l_lasts) (defBody s_l_lasts) (defScope s_l_lasts) .none kV23 dc23 pm23 an23 cd23 ct23), sl23⟩) (c23 : PySem.W.codeIn K cd23 "_law_lasts" = true) (k23 : PySem.W.keepIn K (.ref f23) = true)
    (a24 : PySem.W.nsIn K mainGlobals "_law_own_tolls" = some (some (.ref f24))) (l24 : K.lookup f24 = some ⟨oc24, od24, .func (PySem.W.fnOf "_law_own_tolls" "_law_own_tolls" (defArgs s_l_own_tolls) (defBody s_l_own_tolls) (defScope s_l_own_tolls) .none kV24 dc24 pm24 an24 cd24 ct24), sl24⟩) (c24 : PySem.W.codeIn K cd24 "_law_own_tolls" = true) (k24 : PySem.W.keepIn K (.ref f24) = true)
    (a25 : PySem.W.nsIn K mainGlobals "_law_bent" = some (some (.ref f25))) (l25 : K.lookup f25 = some ⟨oc25, od25, .func (PySem.W.fnOf "_law_bent" "_law_bent" (defArgs s_l_bent) (defBody s_l_bent) (defScope s_l_bent) .none kV25 dc25 pm25 an25 cd25 ct25), sl25⟩) (c25 : PySem.W.codeIn K cd25 "_law_bent" = true) (k25 : PySem.W.keepIn K (.ref f25) = true)
    (a26 : PySem.W.nsIn K mainGlobals "law" = some (some (.ref f26))) (l26 : K.lookup f26 = some ⟨oc26, od26, .func (PySem.W.fnOf "law" "law" (defArgs s_law) (defBody s_law) (defScope s_law) .none kV26 dc26 pm26 an26 cd26 ct26), sl26⟩) (c26 : PySem.W.codeIn K cd26 "law" = true) (k26 : PySem.W.keepIn K (.ref f26) = true)
    (z0 : PySem.W.nsIn K mainGlobals "abs" = some none)
    (z1 : PySem.W.nsIn K mainGlobals "all" = some none)
    (z2 : PySem.W.nsIn K mainGlobals "bool" = some none)
    (z3 : PySem.W.nsIn K mainGlobals "int" = some none)
    (z4 : PySem.W.nsIn K mainGlobals "isinstance" = some none)
    (z5 : PySem.W.nsIn K mainGlobals "len" = some none)
    (z6 : PySem.W.nsIn K mainGlobals "list" = some none)
    (z7 : PySem.W.nsIn K mainGlobals "max" = some none)
    (z8 : PySem.W.nsIn K mainGlobals "min" = some none)
    (z9 : PySem.W.nsIn K mainGlobals "range" = some none)
    (z10 : PySem.W.nsIn K mainGlobals "set" = some none)
    (z11 : PySem.W.nsIn K mainGlobals "sorted" = some none)
    (z12 : PySem.W.nsIn K mainGlobals "sum" = some none)
    (z13 : PySem.W.nsIn K mainGlobals "tuple" = some none) :
    ∃ fd : FuncData, (∀ (s : Shared) (v : Value), BindsTo s fd ⟨[v], []⟩ [("script", v)]) ∧ ∀ base : Heap, K.In base → base.Ns mainGlobals mg → FnOk l.prog w K mg base CX0 5 fa fd ["script"] (spLawM K) := by
  have e := hfa.symm.trans (PySem.W.mg_of X G a26)
  cases e
  have F1 : FunD K "is_integer" "is_integer" (defArgs s_is_integer) (defBody s_is_integer) (defScope s_is_integer) [] [] f1 _ := ⟨⟨oc1, od1, .none, kV1, dc1, pm1, an1, cd1, ct1, sl1, rfl, l1, c1, .inl ⟨rfl, rfl⟩, .inl rfl⟩, k1⟩
  have B1 := binds0 (ps := p_is_integer) F1 fun _ _ _ _ _ _ us hl => match us, hl with | [_], _ => rfl
  have F2 : FunD K "is_number" "is_number" (defArgs s_is_number) (defBody s_is_number) (defScope s_is_number) [V.non] [] f2 _ := ⟨⟨oc2, od2, (.ref T2), kV2, dc2, pm2, an2, cd2, ct2, sl2, rfl, l2, c2, .inr ⟨by simp, T2, _, [Value.none], tn2, rfl, t2, rfl, .cons rfl (.nil)⟩, .inl rfl⟩, k2⟩
  obtain ⟨u2_1, v2_1, B2_1⟩ := FunD.binds1 (ps := p_is_number) F2 1 0 (by simp) rfl fun T kV doc pm an cdv ct us its hu hi => match us, its, hu, hi with | [_], [_], _, _ => ⟨_, rfl, rfl⟩
  have F3 : FunD K "is_ascending" "is_ascending" (defArgs s_is_ascending) (defBody s_is_ascending) (defScope s_is_ascending) [] [] f3 _ := ⟨⟨oc3, od3, .none, kV3, dc3, pm3, an3, cd3, ct3, sl3, rfl, l3, c3, .inl ⟨rfl, rfl⟩, .inl rfl⟩, k3⟩
  have B3 := binds0 (ps := p_is_ascending) F3 fun _ _ _ _ _ _ us hl => match us, hl with | [_], _ => rfl
  have F4 : FunD K "union_of" "union_of" (defArgs s_union_of) (defBody s_union_of) (defScope s_union_of) [] [] f4 _ := ⟨⟨oc4, od4, .none, kV4, dc4, pm4, an4, cd4, ct4, sl4, rfl, l4, c4, .inl ⟨rfl, rfl⟩, .inl rfl⟩, k4⟩
  have B4 := binds0 (ps := p_union_of) F4 fun _ _ _ _ _ _ us hl => match us, hl with | [_, _, _], _ => rfl
  have F5 : FunD K "earliest_firsts" "earliest_firsts" (defArgs s_earliest_firsts) (defBody s_earliest_firsts) (defScope s_earliest_firsts) [] [] f5 _ := ⟨⟨oc5, od5, .none, kV5, dc5, pm5, an5, cd5, ct5, sl5, rfl, l5, c5, .inl ⟨rfl, rfl⟩, .inl rfl⟩, k5⟩
  have B5 := binds0 (ps := p_earliest_firsts) F5 fun _ _ _ _ _ _ us hl => match us, hl with | [_, _], _ => rfl
  have F6 : FunD K "least_prices" "least_prices" (defArgs s_least_prices) (defBody s_least_prices) (defScope s_least_prices) [] [] f6 _ := ⟨⟨oc6, od6, .none, kV6, dc6, pm6, an6, cd6, ct6, sl6, rfl, l6, c6, .inl ⟨rfl, rfl⟩, .inl rfl⟩, k6⟩
  have B6 := binds0 (ps := p_least_prices) F6 fun _ _ _ _ _ _ us hl => match us, hl with | [_, _, _], _ => rfl
  have F7 : FunD K "price_by" "price_by" (defArgs s_price_by) (defBody s_price_by) (defScope s_price_by) [] [] f7 _ := ⟨⟨oc7, od7, .none, kV7, dc7, pm7, an7, cd7, ct7, sl7, rfl, l7, c7, .inl ⟨rfl, rfl⟩, .inl rfl⟩, k7⟩
  have B7 := binds0 (ps := p_price_by) F7 fun _ _ _ _ _ _ us hl => match us, hl with | [_, _], _ => rfl
  have F8 : FunD K "cheapest_schedule" "cheapest_schedule" (defArgs s_cheapest_schedule) (defBody s_cheapest_schedule) (defScope s_cheapest_schedule) [] [] f8 _ := ⟨⟨oc8, od8, .none, kV8, dc8, pm8, an8, cd8, ct8, sl8, rfl, l8, c8, .inl ⟨rfl, rfl⟩, .inl rfl⟩, k8⟩
  have B8 := binds0 (ps := p_cheapest_schedule) F8 fun _ _ _ _ _ _ us hl => match us, hl with | [_, _, _], _ => rfl
  have F9 : FunD K "is_toll" "is_toll" (defArgs s_is_toll) (defBody s_is_toll) (defScope s_is_toll) [] [] f9 _ := ⟨⟨oc9, od9, .none, kV9, dc9, pm9, an9, cd9, ct9, sl9, rfl, l9, c9, .inl ⟨rfl, rfl⟩, .inl rfl⟩, k9⟩
  have B9 := binds0 (ps := p_is_toll) F9 fun _ _ _ _ _ _ us hl => match us, hl with | [_, _, _], _ => rfl
  have F10 : FunD K "tolls_at" "tolls_at" (defArgs s_tolls_at) (defBody s_tolls_at) (defScope s_tolls_at) [] [] f10 _ := ⟨⟨oc10, od10, .none, kV10, dc10, pm10, an10, cd10, ct10, sl10, rfl, l10, c10, .inl ⟨rfl, rfl⟩, .inl rfl⟩, k10⟩
  have B10 := binds0 (ps := p_tolls_at) F10 fun _ _ _ _ _ _ us hl => match us, hl with | [_, _], _ => rfl
  have F11 : FunD K "is_tolls" "is_tolls" (defArgs s_is_tolls) (defBody s_is_tolls) (defScope s_is_tolls) [] [] f11 _ := ⟨⟨oc11, od11, .none, kV11, dc11, pm11, an11, cd11, ct11, sl11, rfl, l11, c11, .inl ⟨rfl, rfl⟩, .inl rfl⟩, k11⟩
  have B11 := binds0 (ps := p_is_tolls) F11 fun _ _ _ _ _ _ us hl => match us, hl with | [_, _, _, _], _ => rfl
  have F12 : FunD K "tolls_of" "tolls_of" (defArgs s_tolls_of) (defBody s_tolls_of) (defScope s_tolls_of) [] [] f12 _ := ⟨⟨oc12, od12, .none, kV12, dc12, pm12, an12, cd12, ct12, sl12, rfl, l12, c12, .inl ⟨rfl, rfl⟩, .inl rfl⟩, k12⟩
  have B12 := binds0 (ps := p_tolls_of) F12 fun _ _ _ _ _ _ us hl => match us, hl with | [_, _, _], _ => rfl
  have F13 : FunD K "_law_heap" "_law_heap" (defArgs s_l_heap) (defBody s_l_heap) (defScope s_l_heap) [] [] f13 _ := ⟨⟨oc13, od13, .none, kV13, dc13, pm13, an13, cd13, ct13, sl13, rfl, l13, c13, .inl ⟨rfl, rfl⟩, .inl rfl⟩, k13⟩
  have B13 := binds0 (ps := p_l_heap) F13 fun _ _ _ _ _ _ us hl => match us, hl with | [_], _ => rfl
  have F14 : FunD K "_law_draw" "_law_draw" (defArgs s_l_draw) (defBody s_l_draw) (defScope s_l_draw) [] [] f14 _ := ⟨⟨oc14, od14, .none, kV14, dc14, pm14, an14, cd14, ct14, sl14, rfl, l14, c14, .inl ⟨rfl, rfl⟩, .inl rfl⟩, k14⟩
  have B14 := binds0 (ps := p_l_draw) F14 fun _ _ _ _ _ _ us hl => match us, hl with | [_, _], _ => rfl
  have F15 : FunD K "_law_pick" "_law_pick" (defArgs s_l_pick) (defBody s_l_pick) (defScope s_l_pick) [] [] f15 _ := ⟨⟨oc15, od15, .none, kV15, dc15, pm15, an15, cd15, ct15, sl15, rfl, l15, c15, .inl ⟨rfl, rfl⟩, .inl rfl⟩, k15⟩
  have B15 := binds0 (ps := p_l_pick) F15 fun _ _ _ _ _ _ us hl => match us, hl with | [_, _], _ => rfl
  have F16 : FunD K "_law_some" "_law_some" (defArgs s_l_some) (defBody s_l_some) (defScope s_l_some) [] [] f16 _ := ⟨⟨oc16, od16, .none, kV16, dc16, pm16, an16, cd16, ct16, sl16, rfl, l16, c16, .inl ⟨rfl, rfl⟩, .inl rfl⟩, k16⟩
  have B16 := binds0 (ps := p_l_some) F16 fun _ _ _ _ _ _ us hl => match us, hl with | [_, _, _], _ => rfl
  have F17 : FunD K "_law_is_number" "_law_is_number" (defArgs s_l_is_number) (defBody s_l_is_number) (defScope s_l_is_number) [] [] f17 _ := ⟨⟨oc17, od17, .none, kV17, dc17, pm17, an17, cd17, ct17, sl17, rfl, l17, c17, .inl ⟨rfl, rfl⟩, .inl rfl⟩, k17⟩
  have B17 := binds0 (ps := p_l_is_number) F17 fun _ _ _ _ _ _ us hl => match us, hl with | [_], _ => rfl
  have F18 : FunD K "_law_union" "_law_union" (defArgs s_l_union) (defBody s_l_union) (defScope s_l_union) [] [] f18 _ := ⟨⟨oc18, od18, .none, kV18, dc18, pm18, an18, cd18, ct18, sl18, rfl, l18, c18, .inl ⟨rfl, rfl⟩, .inl rfl⟩, k18⟩
  have B18 := binds0 (ps := p_l_union) F18 fun _ _ _ _ _ _ us hl => match us, hl with | [_, _, _], _ => rfl
  have F19 : FunD K "_law_is_schedule" "_law_is_schedule" (defArgs s_l_is_schedule) (defBody s_l_is_schedule) (defScope s_l_is_schedule) [] [] f19 _ := ⟨⟨oc19, od19, .none, kV19, dc19, pm19, an19, cd19, ct19, sl19, rfl, l19, c19, .inl ⟨rfl, rfl⟩, .inl rfl⟩, k19⟩
  have B19 := binds0 (ps := p_l_is_schedule) F19 fun _ _ _ _ _ _ us hl => match us, hl with | [_, _], _ => rfl
  have F20 : FunD K "_law_is_secret" "_law_is_secret" (defArgs s_l_is_secret) (defBody s_l_is_secret) (defScope s_l_is_secret) [] [] f20 _ := ⟨⟨oc20, od20, .none, kV20, dc20, pm20, an20, cd20, ct20, sl20, rfl, l20, c20, .inl ⟨rfl, rfl⟩, .inl rfl⟩, k20⟩
  have B20 := binds0 (ps := p_l_is_secret) F20 fun _ _ _ _ _ _ us hl => match us, hl with | [_, _, _], _ => rfl
  have F21 : FunD K "_law_is_tolls" "_law_is_tolls" (defArgs s_l_is_tolls) (defBody s_l_is_tolls) (defScope s_l_is_tolls) [] [] f21 _ := ⟨⟨oc21, od21, .none, kV21, dc21, pm21, an21, cd21, ct21, sl21, rfl, l21, c21, .inl ⟨rfl, rfl⟩, .inl rfl⟩, k21⟩
  have B21 := binds0 (ps := p_l_is_tolls) F21 fun _ _ _ _ _ _ us hl => match us, hl with | [_, _, _, _], _ => rfl
  have F22 : FunD K "_law_counted" "_law_counted" (defArgs s_l_counted) (defBody s_l_counted) (defScope s_l_counted) [] [] f22 _ := ⟨⟨oc22, od22, .none, kV22, dc22, pm22, an22, cd22, ct22, sl22, rfl, l22, c22, .inl ⟨rfl, rfl⟩, .inl rfl⟩, k22⟩
  have B22 := binds0 (ps := p_l_counted) F22 fun _ _ _ _ _ _ us hl => match us, hl with | [_, _], _ => rfl
  have F23 : FunD K "_law_lasts" "_law_lasts" (defArgs s_l_lasts) (defBody s_l_lasts) (defScope s_l_lasts) [] [] f23 _ := ⟨⟨oc23, od23, .none, kV23, dc23, pm23, an23, cd23, ct23, sl23, rfl, l23, c23, .inl ⟨rfl, rfl⟩, .inl rfl⟩, k23⟩
  have B23 := binds0 (ps := p_l_lasts) F23 fun _ _ _ _ _ _ us hl => match us, hl with | [_, _, _], _ => rfl
  have F24 : FunD K "_law_own_tolls" "_law_own_tolls" (defArgs s_l_own_tolls) (defBody s_l_own_tolls) (defScope s_l_own_tolls) [] [] f24 _ := ⟨⟨oc24, od24, .none, kV24, dc24, pm24, an24, cd24, ct24, sl24, rfl, l24, c24, .inl ⟨rfl, rfl⟩, .inl rfl⟩, k24⟩
  have B24 := binds0 (ps := p_l_own_tolls) F24 fun _ _ _ _ _ _ us hl => match us, hl with | [_, _, _, _], _ => rfl
  have F25 : FunD K "_law_bent" "_law_bent" (defArgs s_l_bent) (defBody s_l_bent) (defScope s_l_bent) [] [] f25 _ := ⟨⟨oc25, od25, .none, kV25, dc25, pm25, an25, cd25, ct25, sl25, rfl, l25, c25, .inl ⟨rfl, rfl⟩, .inl rfl⟩, k25⟩
  have B25 := binds0 (ps := p_l_bent) F25 fun _ _ _ _ _ _ us hl => match us, hl with | [_, _, _], _ => rfl
  have F26 : FunD K "law" "law" (defArgs s_law) (defBody s_law) (defScope s_law) [] [] _ _ := ⟨⟨oc26, od26, .none, kV26, dc26, pm26, an26, cd26, ct26, sl26, rfl, l26, c26, .inl ⟨rfl, rfl⟩, .inl rfl⟩, k26⟩
  exact ⟨_, fun s v => .of_eq rfl, fun base _ _ => ok_law ⟨f1, _, F1, (PySem.W.mg_of X G a1), B1, f2, _, F2, (PySem.W.mg_of X G a2), u2_1, B2_1, v2_1, f3, _, F3, (PySem.W.mg_of X G a3), B3, f4, _, F4, (PySem.W.mg_of X G a4), B4, f5, _, F5, (PySem.W.mg_of X G a5), B5, f6, _, F6, (PySem.W.mg_of X G a6), B6, f7, _, F7, (PySem.W.mg_of X G a7), B7, f8, _, F8, (PySem.W.mg_of X G a8), B8, f9, _, F9, (PySem.W.mg_of X G a9), B9, f10, _, F10, (PySem.W.mg_of X G a10), B10, f11, _, F11, (PySem.W.mg_of X G a11), B11, f12, _, F12, (PySem.W.mg_of X G a12), B12, f13, _, F13, (PySem.W.mg_of X G a13), B13, f14, _, F14, (PySem.W.mg_of X G a14), B14, f15, _, F15, (PySem.W.mg_of X G a15), B15, f16, _, F16, (PySem.W.mg_of X G a16), B16, f17, _, F17, (PySem.W.mg_of X G a17), B17, f18, _, F18, (PySem.W.mg_of X G a18), B18, f19, _, F19, (PySem.W.mg_of X G a19), B19, f20, _, F20, (PySem.W.mg_of X G a20), B20, f21, _, F21, (PySem.W.mg_of X G a21), B21, f22, _, F22, (PySem.W.mg_of X G a22), B22, f23, _, F23, (PySem.W.mg_of X G a23), B23, f24, _, F24, (PySem.W.mg_of X G a24), B24, f25, _, F25, (PySem.W.mg_of X G a25), B25, _, _, F26, (PySem.W.mg_of X G a26), (PySem.W.mg_none_of X G z0), (PySem.W.mg_none_of X G z1), (PySem.W.mg_none_of X G z2), (PySem.W.mg_none_of X G z3), (PySem.W.mg_none_of X G z4), (PySem.W.mg_none_of X G z5), (PySem.W.mg_none_of X G z6), (PySem.W.mg_none_of X G z7), (PySem.W.mg_none_of X G z8), (PySem.W.mg_none_of X G z9), (PySem.W.mg_none_of X G z10), (PySem.W.mg_none_of X G z11), (PySem.W.mg_none_of X G z12), (PySem.W.mg_none_of X G z13)⟩⟩
end K45
open PySem PySem.W PyProof.Rows
set_option maxHeartbeats 0 in
theorem PySem.Challenge.cw_keysapart_k45_whole_cheapest_schedules_a_holds : PySem.Challenge.rw_keysapart_k45_whole_cheapest_schedules_a.Holds := by
  w_on; o_law; k_head; (case hw => w_witness2)
  k_fill
  refine L2.walk_of (l := PySem.Challenge.rw_keysapart_k45_whole_cheapest_schedules_a) (n := 63) (k := 5) (x := "script") (CX := fun _ => L2.CX0) (sp := fun w => PM.spLawM _) rfl (by decide) rfl ⟨rfl, by decide, by decide⟩ (fun w h Y => PySem.W.kIn_of Y) ?F (fun _ _ a ns hl hO hS => ⟨a, ns, rfl, hO, hS, hl, fun _ => rfl⟩) (fun _ _ _ _ _ h => h)
  case F =>
    intro w mg fa h KX G hmg
    refine' K45.all_mk KX G hmg ?a1 ?l1 ?c1 ?k1 ?a2 ?l2 ?c2 ?k2 ?t2 ?a3 ?l3 ?c3 ?k3 ?a4 ?l4 ?c4 ?k4 ?a5 ?l5 ?c5 ?k5 ?a6 ?l6 ?c6 ?k6 ?a7 ?l7 ?c7 ?k7 ?a8 ?l8 ?c8 ?k8 ?a9 ?l9 ?c9 ?k9 ?a10 ?l10 ?c10 ?k10 ?a11 ?l11 ?c11 ?k11 ?a12 ?l12 ?c12 ?k12 ?a13 ?l13 ?c13 ?k13 ?a14 ?l14 ?c14 ?k14 ?a15 ?l15 ?c15 ?k15 ?a16 ?l16 ?c16 ?k16 ?a17 ?l17 ?c17 ?k17 ?a18 ?l18 ?c18 ?k18 ?a19 ?l19 ?c19 ?k19 ?a20 ?l20 ?c20 ?k20 ?a21 ?l21 ?c21 ?k21 ?a22 ?l22 ?c22 ?k22 ?a23 ?l23 ?c23 ?k23 ?a24 ?l24 ?c24 ?k24 ?a25 ?l25 ?c25 ?k25 ?a26 ?l26 ?c26 ?k26 ?z0 ?z1 ?z2 ?z3 ?z4 ?z5 ?z6 ?z7 ?z8 ?z9 ?z10 ?z11 ?z12 ?z13
    (case a1 => k_is); (case l1 => k_is); (case c1 => k_is); (case k1 => k_is); (case a2 => k_is); (case l2 => k_is); (case c2 => k_is); (case k2 => k_is); (case t2 => k_is); (case a3 => k_is); (case l3 => k_is); (case c3 => k_is); (case k3 => k_is); (case a4 => k_is); (case l4 => k_is); (case c4 => k_is); (case k4 => k_is); (case a5 => k_is); (case l5 => k_is); (case c5 => k_is); (case k5 => k_is); (case a6 => k_is); (case l6 => k_is); (case c6 => k_is); (case k6 => k_is); (case a7 => k_is); (case l7 => k_is); (case c7 => k_is); (case k7 => k_is); (case a8 => k_is); (case l8 => k_is); (case c8 => k_is); (case k8 => k_is); (case a9 => k_is); (case l9 => k_is); (case c9 => k_is); (case k9 => k_is); (case a10 => k_is); (case l10 => k_is); (case c10 => k_is); (case k10 => k_is); (case a11 => k_is); (case l11 => k_is); (case c11 => k_is); (case k11 => k_is); (case a12 => k_is); (case l12 => k_is); (case c12 => k_is); (case k12 => k_is); (case a13 => k_is); (case l13 => k_is); (case c13 => k_is); (case k13 => k_is); (case a14 => k_is); (case l14 => k_is); (case c14 => k_is); (case k14 => k_is); (case a15 => k_is); (case l15 => k_is); (case c15 => k_is); (case k15 => k_is); (case a16 => k_is); (case l16 => k_is); (case c16 => k_is); (case k16 => k_is); (case a17 => k_is); (case l17 => k_is); (case c17 => k_is); (case k17 => k_is); (case a18 => k_is); (case l18 => k_is); (case c18 => k_is); (case k18 => k_is); (case a19 => k_is); (case l19 => k_is); (case c19 => k_is); (case k19 => k_is); (case a20 => k_is); (case l20 => k_is); (case c20 => k_is); (case k20 => k_is); (case a21 => k_is); (case l21 => k_is); (case c21 => k_is); (case k21 => k_is); (case a22 => k_is); (case l22 => k_is); (case c22 => k_is); (case k22 => k_is); (case a23 => k_is); (case l23 => k_is); (case c23 => k_is); (case k23 => k_is); (case a24 => k_is); (case l24 => k_is); (case c24 => k_is); (case k24 => k_is); (case a25 => k_is); (case l25 => k_is); (case c25 => k_is); (case k25 => k_is); (case a26 => k_is); (case l26 => k_is); (case c26 => k_is); (case k26 => k_is); (case z0 => k_is); (case z1 => k_is); (case z2 => k_is); (case z3 => k_is); (case z4 => k_is); (case z5 => k_is); (case z6 => k_is); (case z7 => k_is); (case z8 => k_is); (case z9 => k_is); (case z10 => k_is); (case z11 => k_is); (case z12 => k_is); (case z13 => k_is)

