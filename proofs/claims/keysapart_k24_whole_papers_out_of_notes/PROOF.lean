import PyProof.Rows.All
import Wide.All
import OpenK.AllK
import Wide.FinOn
import HandS.ForMost
import HandS.Walk
import HandS.SetKeys
import HandS.SetBool
import HandS.TupSets
import HandS.SortInts
import HandS.TupAny
import HandS.Style
import HandS.IsInst
import HandS.WordsDict
import HandS.More
import HandS.ListItems
import HandS.Zip
import HandS.Defaults
import HandS.Deep
import HandS.Wide
import PyProof.Draws
import KE.GoesMore
import KE.GoesEnum
import KE.DataMinMax
import HandS.Conv
import PySem.Challenge.RW_keysapart_k24_whole_papers_out_of_notes
set_option Elab.async false
set_option linter.all false
set_option maxRecDepth 100000
set_option maxHeartbeats 1000000
/-! PM: values as trees; what stands for them in the heap. -/
namespace PM
open PySem L2

inductive PV where
  | non | bl (b : Bool) | int (i : Int) | str (x : Str)
  | tup (xs : List PV) | lst (xs : List PV) | dic (ks : List Key) (vs : List PV)
  | obj (C dx : Addr) (ns : List Str) (vs : List PV)
  | ref (a : Addr) | src | scr (ns : List Int) | iset (ks : List Int) | pdic (ks : List (List Int))

/-- a dict at a whose keys are tuples of whole numbers, each with True -/
def pEntry (p : Addr × List Int) : DictEntry := ⟨reduceHash (Builtin.Tuple.tupleHashOf (p.2.map hashInt)), .ref p.1, .bool true⟩
def PairD (a : Addr) (L : List (Addr × List Int)) : HO := .ext fun h => (a == sysModules) = false ∧ L.length ≤ sizeLine ∧ (L.map (·.2)).Nodup ∧ ∃ o es ep, h.get? a = some o ∧ o.ExactDict ∧ o.data = .dict es ep ∧ es.toList = L.map pEntry
/-- a set of whole numbers at a -/
def SetI (a : Addr) (S : Int → Bool) (n : Nat) : HO := .ext fun h => ∃ (P : Program) (w : World), h.SetOf (PySem.intKind P w) a S n

/-- sources of draws, in pairs of places -/
abbrev Ws := List (Addr × Addr)
def inW (W : Ws) (b : Addr) : Prop := ∃ p ∈ W, b = p.1 ∨ b = p.2
-- SOURCE FORM
/-- what stands at a source -/
def SA (H : Hp) (p : Addr × Addr) : Prop :=
  p.1 ≠ p.2 ∧ ∃ (cs : List Nat) (s : Nat), cs.length ≤ 63 ∧ s < 2147483647 ∧ H p.1 = some (.lst [.ref p.2, .int (s : Int)]) ∧ H p.2 = some (.lst (cs.map fun (c : Nat) => V.int (c : Int)))
theorem SA.at {H H' : Hp} {p : Addr × Addr} (h1 : H' p.1 = H p.1) (h2 : H' p.2 = H p.2) (h : SA H p) : SA H' p := by
  obtain ⟨n, cs, s, hl, hs, a, b⟩ := h
  exact ⟨n, cs, s, hl, hs, by rw [h1]; exact a, by rw [h2]; exact b⟩
theorem SA.some {H : Hp} {p : Addr × Addr} (h : SA H p) : (∃ o, H p.1 = some o) ∧ ∃ o, H p.2 = some o := by
  obtain ⟨n, cs, s, hl, hs, a, b⟩ := h
  exact ⟨⟨_, a⟩, _, b⟩
-- SOURCE FORM ENDS
theorem inW_some {H : Hp} {W : Ws} (h : ∀ p ∈ W, SA H p) {b : Addr} (hb : inW W b) : ∃ o, H b = some o := by
  obtain ⟨p, hp, e | e⟩ := hb
  · rw [e]; exact (h p hp).some.1
  · rw [e]; exact (h p hp).some.2

/-- a heap with what is to be avoided -/
structure Wd where
  Z : Addr → Prop
  W : Ws
  H : Hp
/-- what a made object's class must say of the fields -/
def ObjC (K : PySem.W.Frag) (C : Addr) (ns : List Str) : Prop := Cls K C ∧ ∀ f ∈ ns, NoAttr K C f
def KTup (K : PySem.W.Frag) (a : Addr) (xs : List V) : Prop := ∃ (o : Obj) (its : Array Value) (n : Nat), K.lookup a = some o ∧ o.cls = .type "tuple" ∧ o.data = .seq its n ∧ its.size ≤ sizeLine ∧ Vals xs its.toList
def KLst (K : PySem.W.Frag) (a : Addr) (xs : List V) : Prop := ∃ (o : Obj) (its : Array Value) (n : Nat), K.lookup a = some o ∧ o.cls = .type "list" ∧ o.dict = none ∧ o.data = .seq its n ∧ its.size ≤ sizeLine ∧ Vals xs its.toList
def TupAt (K : PySem.W.Frag) (S : Wd) (a : Addr) (xs : List V) : Prop := (¬ S.Z a ∧ S.H a = some (.tup xs)) ∨ KTup K a xs
def LstAt (S : Wd) (a : Addr) (xs : List V) : Prop := ¬ S.Z a ∧ S.H a = some (.lst xs)
theorem TupAt.sq {K : PySem.W.Frag} {S : Wd} {a : Addr} {xs : List V} (h : TupAt K S a xs) : SqT K S.H a xs := h.elim (fun x => .inl (.inl x.2)) .inr
theorem LstAt.sq {K : PySem.W.Frag} {S : Wd} {a : Addr} {xs : List V} (h : LstAt S a xs) : SqL K S.H a xs := .inl (.inl h.2)

mutual
def Rp (K : PySem.W.Frag) (S : Wd) : PV → V → Prop
  | .non, v => v = .non
  | .bl b, v => v = .bl b
  | .int i, v => v = .int i
  | .str x, v => v = .str x
  | .ref a, v => v = .ref a
  | .src, v => ∃ p ∈ S.W, v = .ref p.1
  | .iset ks, v => ∃ a n, v = .ref a ∧ ¬ S.Z a ∧ S.H a = some (SetI a (fun k => decide (k ∈ ks)) n)
  | .pdic ks, v => ∃ a L, v = .ref a ∧ ¬ S.Z a ∧ S.H a = some (PairD a L) ∧ L.map (·.2) = ks ∧ ∀ p ∈ L, TupAt K S p.1 (p.2.map V.int)
  | .scr ns, v => ∃ a, v = .ref a ∧ ((¬ S.Z a ∧ ∃ o, S.H a = some (.frz o (.lst (ns.map V.int)))) ∨ KLst K a (ns.map V.int))
  | .tup ps, v => ∃ a vs, v = .ref a ∧ TupAt K S a vs ∧ Rps K S ps vs
  | .lst ps, v => ∃ a vs, v = .ref a ∧ LstAt S a vs ∧ Rps K S ps vs
  | .dic ks ps, v => ∃ a vs, v = .ref a ∧ ¬ S.Z a ∧ S.H a = some (.dK (ks.zip vs)) ∧ ks.length = vs.length ∧ Rps K S ps vs
  | .obj C dx ns ps, v => ObjC K C ns ∧ ∃ a vs, v = .ref a ∧ ¬ S.Z a ∧ S.H a = some (.ins C dx (ns.zip vs)) ∧ ns.length = vs.length ∧ Rps K S ps vs
def Rps (K : PySem.W.Frag) (S : Wd) : List PV → List V → Prop
  | [], vs => vs = []
  | p :: ps, vs => ∃ v r, vs = v :: r ∧ Rp K S p v ∧ Rps K S ps r
end

structure Ext (S S' : Wd) : Prop where
  keep : ∀ b o, ¬ S.Z b → S.H b = some o → ¬ S'.Z b ∧ S'.H b = some o
  srcs : ∀ p ∈ S.W, p ∈ S'.W
theorem Ext.trans {S S' S'' : Wd} (x : Ext S S') (y : Ext S' S'') : Ext S S'' :=
  ⟨fun b o h e => let ⟨h1, e1⟩ := x.keep b o h e; y.keep b o h1 e1, fun p hp => y.srcs p (x.srcs p hp)⟩
section
variable {K : PySem.W.Frag} {S S' : Wd}
theorem TupAt.ext (x : Ext S S') {a : Addr} {xs : List V} (h : TupAt K S a xs) : TupAt K S' a xs := h.elim (fun y => .inl (x.keep a _ y.1 y.2)) .inr
theorem LstAt.ext (x : Ext S S') {a : Addr} {xs : List V} (h : LstAt S a xs) : LstAt S' a xs := x.keep a _ h.1 h.2
mutual
theorem Rp.ext (x : Ext S S') : ∀ {p : PV} {v : V}, Rp K S p v → Rp K S' p v
  | .non, _, h => h
  | .bl _, _, h => h
  | .int _, _, h => h
  | .str _, _, h => h
  | .ref _, _, h => h
  | .src, _, h => by
    unfold Rp at h ⊢
    obtain ⟨p, hp, e⟩ := h
    exact ⟨p, x.srcs p hp, e⟩
  | .scr ns, _, h => by
    unfold Rp at h ⊢
    obtain ⟨a, e, h⟩ := h
    rcases h with ⟨h1, o, h2⟩ | h
    · exact ⟨a, e, .inl ⟨(x.keep a _ h1 h2).1, o, (x.keep a _ h1 h2).2⟩⟩
    · exact ⟨a, e, .inr h⟩
  | .iset ks, _, h => by
    unfold Rp at h ⊢
    obtain ⟨a, n, e, h1, h2⟩ := h
    exact ⟨a, n, e, (x.keep a _ h1 h2).1, (x.keep a _ h1 h2).2⟩
  | .pdic ks, _, h => by
    unfold Rp at h ⊢
    obtain ⟨a, L, e, h1, h2, h3, h4⟩ := h
    exact ⟨a, L, e, (x.keep a _ h1 h2).1, (x.keep a _ h1 h2).2, h3, fun p hp => (h4 p hp).ext x⟩
  | .tup ps, _, h => by
    unfold Rp at h ⊢
    obtain ⟨a, vs, e, h1, h2⟩ := h
    exact ⟨a, vs, e, h1.ext x, Rps.ext x h2⟩
  | .lst ps, _, h => by
    unfold Rp at h ⊢
    obtain ⟨a, vs, e, h1, h2⟩ := h
    exact ⟨a, vs, e, h1.ext x, Rps.ext x h2⟩
  | .dic ks ps, _, h => by
    unfold Rp at h ⊢
    obtain ⟨a, vs, e, h0, h1, hl, h2⟩ := h
    exact ⟨a, vs, e, (x.keep a _ h0 h1).1, (x.keep a _ h0 h1).2, hl, Rps.ext x h2⟩
  | .obj C dx ns ps, _, h => by
    unfold Rp at h ⊢
    obtain ⟨hc, a, vs, e, h0, h1, hl, h2⟩ := h
    exact ⟨hc, a, vs, e, (x.keep a _ h0 h1).1, (x.keep a _ h0 h1).2, hl, Rps.ext x h2⟩
theorem Rps.ext (x : Ext S S') : ∀ {ps : List PV} {vs : List V}, Rps K S ps vs → Rps K S' ps vs
  | [], _, h => h
  | p :: ps, _, h => by
    unfold Rps at h ⊢
    obtain ⟨v, r, e, h1, h2⟩ := h
    exact ⟨v, r, e, Rp.ext x h1, Rps.ext x h2⟩
end
theorem Rps.len : ∀ {ps : List PV} {vs : List V}, Rps K S ps vs → ps.length = vs.length
  | [], _, h => by unfold Rps at h; rw [h]; rfl
  | p :: ps, _, h => by
    unfold Rps at h
    obtain ⟨v, r, e, h1, h2⟩ := h
    rw [e, List.length_cons, List.length_cons, Rps.len h2]
theorem Rps.nil : Rps K S [] [] := by unfold Rps; rfl
theorem Rps.cons {p : PV} {ps : List PV} {v : V} {vs : List V} (h : Rp K S p v) (t : Rps K S ps vs) : Rps K S (p :: ps) (v :: vs) := by unfold Rps; exact ⟨v, vs, rfl, h, t⟩
theorem Rps.cons_inv {p : PV} {ps : List PV} {v : V} {vs : List V} (h : Rps K S (p :: ps) (v :: vs)) : Rp K S p v ∧ Rps K S ps vs := by
  unfold Rps at h
  obtain ⟨_, _, e, h1, h2⟩ := h
  cases e
  exact ⟨h1, h2⟩
theorem Rps.get : ∀ {ps : List PV} {vs : List V} {i : Nat} {p : PV}, Rps K S ps vs → ps[i]? = some p → ∃ v, vs[i]? = some v ∧ Rp K S p v
  | [], _, _, _, _, e => by simp at e
  | q :: ps, _, 0, p, h, e => by
    unfold Rps at h
    obtain ⟨v, r, e1, h1, h2⟩ := h
    subst e1
    simp at e
    subst e
    exact ⟨v, by simp, h1⟩
  | q :: ps, _, i + 1, p, h, e => by
    unfold Rps at h
    obtain ⟨v, r, e1, h1, h2⟩ := h
    subst e1
    obtain ⟨w, e2, h3⟩ := Rps.get (i := i) (p := p) h2 (by simpa using e)
    exact ⟨w, by simpa using e2, h3⟩
theorem Rps.append : ∀ {ps qs : List PV} {vs ws : List V}, Rps K S ps vs → Rps K S qs ws → Rps K S (ps ++ qs) (vs ++ ws)
  | [], _, _, _, h, h' => by unfold Rps at h; subst h; exact h'
  | p :: ps, _, _, _, h, h' => by
    unfold Rps at h
    obtain ⟨v, r, e, h1, h2⟩ := h
    subst e
    exact Rps.cons h1 (Rps.append h2 h')
theorem Rps.take : ∀ {ps : List PV} {vs : List V} (n : Nat), Rps K S ps vs → Rps K S (ps.take n) (vs.take n)
  | [], _, _, h => by unfold Rps at h; subst h; simp; exact Rps.nil
  | p :: ps, _, 0, h => by simp; exact Rps.nil
  | p :: ps, _, n + 1, h => by
    unfold Rps at h
    obtain ⟨v, r, e, h1, h2⟩ := h
    subst e
    exact Rps.cons h1 (Rps.take n h2)
theorem Rps.drop : ∀ {ps : List PV} {vs : List V} (n : Nat), Rps K S ps vs → Rps K S (ps.drop n) (vs.drop n)
  | [], _, _, h => by unfold Rps at h; subst h; simp; exact Rps.nil
  | p :: ps, _, 0, h => h
  | p :: ps, _, n + 1, h => by
    unfold Rps at h
    obtain ⟨v, r, e, h1, h2⟩ := h
    subst e
    exact Rps.drop n h2
theorem Rps.set {p : PV} {v : V} (hp : Rp K S p v) : ∀ {ps : List PV} {vs : List V} (n : Nat), Rps K S ps vs → Rps K S (ps.set n p) (vs.set n v)
  | [], _, _, h => by unfold Rps at h; subst h; exact Rps.nil
  | q :: ps, _, 0, h => by
    unfold Rps at h
    obtain ⟨w, r, e, h1, h2⟩ := h
    subst e
    exact Rps.cons hp h2
  | q :: ps, _, n + 1, h => by
    unfold Rps at h
    obtain ⟨w, r, e, h1, h2⟩ := h
    subst e
    exact Rps.cons h1 (Rps.set hp n h2)
theorem Rps.reverse : ∀ {ps : List PV} {vs : List V}, Rps K S ps vs → Rps K S ps.reverse vs.reverse
  | [], _, h => by unfold Rps at h; subst h; exact Rps.nil
  | p :: ps, _, h => by
    unfold Rps at h
    obtain ⟨v, r, e, h1, h2⟩ := h
    subst e
    rw [List.reverse_cons, List.reverse_cons]
    exact Rps.append (Rps.reverse h2) (Rps.cons h1 Rps.nil)
theorem Rps.eraseIdx : ∀ {ps : List PV} {vs : List V} (n : Nat), Rps K S ps vs → Rps K S (ps.eraseIdx n) (vs.eraseIdx n)
  | [], _, _, h => by unfold Rps at h; subst h; exact Rps.nil
  | q :: ps, _, 0, h => by
    unfold Rps at h
    obtain ⟨w, r, e, h1, h2⟩ := h
    subst e
    exact h2
  | q :: ps, _, n + 1, h => by
    unfold Rps at h
    obtain ⟨w, r, e, h1, h2⟩ := h
    subst e
    exact Rps.cons h1 (Rps.eraseIdx n h2)
theorem Rps.ints : ∀ {ns : List Int} {vs : List V}, Rps K S (ns.map PV.int) vs ↔ vs = ns.map V.int
  | [], _ => by unfold Rps; rfl
  | n :: ns, vs => by
    constructor
    · intro h
      rw [List.map_cons] at h
      unfold Rps at h
      obtain ⟨v, r, e, h1, h2⟩ := h
      unfold Rp at h1
      rw [e, h1, Rps.ints.mp h2]
      rfl
    · intro h
      rw [h, List.map_cons, List.map_cons]
      exact Rps.cons (by unfold Rp; rfl) (Rps.ints.mpr rfl)
theorem Rps.strs : ∀ {ns : List Str} {vs : List V}, Rps K S (ns.map PV.str) vs ↔ vs = ns.map V.str
  | [], _ => by unfold Rps; rfl
  | n :: ns, vs => by
    constructor
    · intro h
      rw [List.map_cons] at h
      unfold Rps at h
      obtain ⟨v, r, e, h1, h2⟩ := h
      unfold Rp at h1
      rw [e, h1, Rps.strs.mp h2]
      rfl
    · intro h
      rw [h, List.map_cons, List.map_cons]
      exact Rps.cons (by unfold Rp; rfl) (Rps.strs.mpr rfl)
theorem Rps.bls : ∀ {ns : List Bool} {vs : List V}, Rps K S (ns.map PV.bl) vs ↔ vs = ns.map V.bl
  | [], _ => by unfold Rps; rfl
  | n :: ns, vs => by
    constructor
    · intro h
      rw [List.map_cons] at h
      unfold Rps at h
      obtain ⟨v, r, e, h1, h2⟩ := h
      unfold Rp at h1
      rw [e, h1, Rps.bls.mp h2]
      rfl
    · intro h
      rw [h, List.map_cons, List.map_cons]
      exact Rps.cons (by unfold Rp; rfl) (Rps.bls.mpr rfl)
end

/-- as Rp, but the list at the root may be one's own -/
def RpO (K : PySem.W.Frag) (S : Wd) : PV → V → Prop
  | .lst ps, v => ∃ a vs, v = .ref a ∧ (¬ inW S.W a ∧ S.H a = some (.lst vs)) ∧ Rps K S ps vs
  | .dic ks ps, v => ∃ a vs, v = .ref a ∧ ¬ inW S.W a ∧ S.H a = some (.dK (ks.zip vs)) ∧ ks.length = vs.length ∧ Rps K S ps vs
  | .pdic ks, v => ∃ a L, v = .ref a ∧ ¬ inW S.W a ∧ S.H a = some (PairD a L) ∧ L.map (·.2) = ks ∧ ∀ p ∈ L, TupAt K S p.1 (p.2.map V.int)
  | p, v => Rp K S p v
/-- what stands at a, its parts clean -/
def OwnAt (K : PySem.W.Frag) (S : Wd) (a : Addr) : PV → Prop
  | .lst ps => ∃ vs, S.H a = some (.lst vs) ∧ Rps K S ps vs
  | .dic ks ps => ∃ vs, S.H a = some (.dK (ks.zip vs)) ∧ ks.length = vs.length ∧ Rps K S ps vs
  | .obj C dx ns ps => ObjC K C ns ∧ ∃ vs, S.H a = some (.ins C dx (ns.zip vs)) ∧ (¬ S.Z dx ∧ S.H dx = some (.own a)) ∧ ns.length = vs.length ∧ Rps K S ps vs
  | .pdic ks => ∃ L, S.H a = some (PairD a L) ∧ L.map (·.2) = ks ∧ ∀ p ∈ L, TupAt K S p.1 (p.2.map V.int)
  | _ => False

/-! ### what an expression's value is: clean, its root perhaps one's own, newly made -/
inductive Md where | cl | ow | fr deriving DecidableEq
/-- all that was tracked stays, but the sources; these keep their form -/
structure Grow (W : Ws) (H H' : Hp) : Prop where
  keep : ∀ b o, ¬ inW W b → H b = some o → H' b = some o
  src : ∀ p ∈ W, SA H' p
theorem Grow.trans {W : Ws} {H H1 H2 : Hp} (a : Grow W H H1) (b : Grow W H1 H2) : Grow W H H2 := ⟨fun c o n e => b.keep c o n (a.keep c o n e), b.src⟩
theorem Grow.refl {W : Ws} {H : Hp} (h : ∀ p ∈ W, SA H p) : Grow W H H := ⟨fun _ _ _ e => e, h⟩
theorem Grow.free {W : Ws} {H H1 : Hp} (g : Grow W H H1) {a : Addr} (h : H1 a = none) : H a = none := by
  cases e : H a with
  | none => rfl
  | some o =>
    by_cases w : inW W a
    · obtain ⟨u, e1⟩ := inW_some g.src w
      rw [h] at e1; cases e1
    · rw [g.keep a o w e] at h; cases h
theorem Grow.ext {Z : Addr → Prop} {W : Ws} {H H' : Hp} (g : Grow W H H') (hz : ∀ b, inW W b → Z b) : Ext ⟨Z, W, H⟩ ⟨Z, W, H'⟩ := ⟨fun b o h e => ⟨h, g.keep b o (fun w => h (hz b w)) e⟩, fun _ h => h⟩
/-- a new object -/
theorem Grow.new {W : Ws} {H : Hp} (h : ∀ p ∈ W, SA H p) {a : Addr} {o : HO} (n : H a = none) : Grow W H (upd H a o) := by
  have k : ∀ b u, H b = some u → upd H a o b = some u := fun b u e => by rw [upd_ne (ne_of_none e n)]; exact e
  refine ⟨fun b u _ e => k b u e, fun p hp => ?_⟩
  obtain ⟨⟨_, e1⟩, _, e2⟩ := (h p hp).some
  exact SA.at (by rw [k _ _ e1, e1]) (by rw [k _ _ e2, e2]) (h p hp)
def VK1 (K : PySem.W.Frag) (md : Md) (Z : Addr → Prop) (W : Ws) (H H' : Hp) (p : PV) (v : V) : Prop :=
  match md with
  | .cl => Rp K ⟨Z, W, H'⟩ p v
  | .ow => RpO K ⟨Z, W, H'⟩ p v
  | .fr => ∃ a, v = .ref a ∧ H a = none ∧ OwnAt K ⟨fun b => Z b ∨ b = a, W, H'⟩ a p
section
variable {K : PySem.W.Frag} {Z Z' : Addr → Prop} {W : Ws} {H H1 H' : Hp} {p : PV} {v : V}
theorem Rp.ow (hz : ∀ b, inW W b → Z b) (h : Rp K ⟨Z, W, H⟩ p v) : RpO K ⟨Z, W, H⟩ p v := by
  cases p with
  | lst ps =>
    unfold Rp at h
    obtain ⟨a, vs, e, h1, h2⟩ := h
    exact ⟨a, vs, e, ⟨fun w => h1.1 (hz a w), h1.2⟩, h2⟩
  | dic ks ps =>
    unfold Rp at h
    obtain ⟨a, vs, e, h0, h1⟩ := h
    exact ⟨a, vs, e, fun w => h0 (hz a w), h1⟩
  | pdic ks =>
    unfold Rp at h
    obtain ⟨a, L, e, h0, h1⟩ := h
    exact ⟨a, L, e, fun w => h0 (hz a w), h1⟩
  | _ => exact h
theorem ext_less (h : ∀ b, Z' b → Z b) : Ext ⟨Z, W, H⟩ ⟨Z', W, H⟩ := ⟨fun b o n e => ⟨fun z => n (h b z), e⟩, fun _ h => h⟩
/-- newly made is clean -/
theorem OwnAt.cl {a : Addr} (hz : ¬ Z a) (h : OwnAt K ⟨fun b => Z b ∨ b = a, W, H⟩ a p) : Rp K ⟨Z, W, H⟩ p (.ref a) := by
  have x : Ext ⟨fun b => Z b ∨ b = a, W, H⟩ ⟨Z, W, H⟩ := ext_less fun b => .inl
  cases p with
  | lst ps =>
    obtain ⟨vs, e, r⟩ := h
    unfold Rp
    exact ⟨a, vs, rfl, ⟨hz, e⟩, Rps.ext x r⟩
  | dic ks ps =>
    obtain ⟨vs, e, l, r⟩ := h
    unfold Rp
    exact ⟨a, vs, rfl, hz, e, l, Rps.ext x r⟩
  | obj C dx ns ps =>
    obtain ⟨hc, vs, e, _, l, r⟩ := h
    unfold Rp
    exact ⟨hc, a, vs, rfl, hz, e, l, Rps.ext x r⟩
  | pdic ks =>
    obtain ⟨L, e, l, r⟩ := h
    unfold Rp
    exact ⟨a, L, rfl, hz, e, l, fun p hp => (r p hp).ext x⟩
  | _ => exact h.elim
theorem VK1.cl (hd : ∀ b, Z b → ∃ o, H b = some o) (h : VK1 K .fr Z W H H' p v) : VK1 K .cl Z W H H' p v := by
  obtain ⟨a, rfl, n, o⟩ := h
  exact o.cl fun z => by
    obtain ⟨u, e⟩ := hd a z
    rw [n] at e; cases e
theorem RpO.grow (hz : ∀ b, inW W b → Z b) (g : Grow W H H') (h : RpO K ⟨Z, W, H⟩ p v) : RpO K ⟨Z, W, H'⟩ p v := by
  cases p with
  | lst ps =>
    obtain ⟨a, vs, e, h1, h2⟩ := h
    exact ⟨a, vs, e, ⟨h1.1, g.keep a _ h1.1 h1.2⟩, Rps.ext (g.ext hz) h2⟩
  | dic ks ps =>
    obtain ⟨a, vs, e, h0, h1, l, h2⟩ := h
    exact ⟨a, vs, e, h0, g.keep a _ h0 h1, l, Rps.ext (g.ext hz) h2⟩
  | pdic ks =>
    obtain ⟨a, L, e, h0, h1, l, h2⟩ := h
    exact ⟨a, L, e, h0, g.keep a _ h0 h1, l, fun p hp => (h2 p hp).ext (g.ext hz)⟩
  | non => exact Rp.ext (g.ext hz) h
  | bl _ => exact Rp.ext (g.ext hz) h
  | int _ => exact Rp.ext (g.ext hz) h
  | str _ => exact Rp.ext (g.ext hz) h
  | ref _ => exact Rp.ext (g.ext hz) h
  | src => exact Rp.ext (g.ext hz) h
  | scr _ => exact Rp.ext (g.ext hz) h
  | iset _ => exact Rp.ext (g.ext hz) h
  | tup _ => exact Rp.ext (g.ext hz) h
  | obj _ _ _ _ => exact Rp.ext (g.ext hz) h
end

/-! ### a def's state -/
/-- how a name holds its list: shared, its own, its own and locked -/
inductive Ow where | sh | ow | lk deriving DecidableEq
abbrev Env := List (Option PV)
/-- what is fixed while a def runs -/
structure Gh where
  gw : Bool
  zb : Addr → Prop
  W0 : Ws
  H0 : Hp
  fz : Hp
  Wm : Ws
  pins : List (Nat × Addr × HO)
def cO (c : List Ow) (i : Nat) : Ow := c.getD i .sh
def Zt (G : Gh) (A : Nat → Option Addr) (W : Ws) : Addr → Prop := fun b => G.zb b ∨ inW W b ∨ ∃ i, A i = some b
structure SR (K : PySem.W.Frag) (G : Gh) (c : List Ow) (A : Nat → Option Addr) (W : Ws) (env : Env) (σ : St) (H : Hp) : Prop where
  len : env.length = σ.length
  W0in : ∀ p ∈ G.W0, p ∈ W
  Wmin : ∀ p ∈ G.Wm, p ∈ W
  Wnew : ∀ p ∈ W, p ∈ G.W0 ∨ (G.H0 p.1 = none ∧ G.H0 p.2 = none)
  Wfix : G.gw = false → W = G.W0
  src : ∀ p ∈ W, SA H p
  keep : ∀ b o, ¬ inW G.W0 b → G.H0 b = some o → H b = some o
  zbt : ∀ b, G.zb b → ∃ o, H b = some o
  Asep : ∀ i a, A i = some a → G.H0 a = none ∧ ¬ inW W a ∧ ¬ G.zb a ∧ cO c i ≠ .sh ∧ ∃ o, H a = some o
  Ainj : ∀ i j a, A i = some a → A j = some a → i = j
  Aset : ∀ i p, cO c i ≠ .sh → env[i]? = some (some p) → ∃ a, A i = some a
  slots : ∀ i p, env[i]? = some (some p) → ∃ v, σ[i]? = some (some v) ∧
    match A i with
    | none => Rp K ⟨Zt G A W, W, H⟩ p v
    | some a => v = .ref a ∧ OwnAt K ⟨Zt G A W, W, H⟩ a p
  pins : ∀ q ∈ G.pins, H q.2.1 = some q.2.2 ∧ ¬ inW W q.2.1 ∧ A q.1 = some q.2.1 ∧ cO c q.1 = .lk
  fz : ∀ b o, G.fz b = some o → H b = some o ∧ ¬ Zt G A W b
section
variable {K : PySem.W.Frag} {G : Gh} {c : List Ow} {A : Nat → Option Addr} {W : Ws} {env : Env} {σ : St} {H H' : Hp}
theorem Zt.w {b : Addr} (h : inW W b) : Zt G A W b := .inr (.inl h)
theorem SR.zt (R : SR K G c A W env σ H) {b : Addr} (h : Zt G A W b) : ∃ o, H b = some o := by
  rcases h with h | h | ⟨i, h⟩
  · exact R.zbt b h
  · exact inW_some R.src h
  · exact (R.Asep i b h).2.2.2.2
theorem OwnAt.ext {S S' : Wd} (x : Ext S S') {a : Addr} (e : S'.H a = S.H a) {p : PV} (h : OwnAt K S a p) : OwnAt K S' a p := by
  cases p with
  | lst ps => obtain ⟨vs, h1, h2⟩ := h; exact ⟨vs, by rw [e]; exact h1, Rps.ext x h2⟩
  | dic ks ps => obtain ⟨vs, h1, l, h2⟩ := h; exact ⟨vs, by rw [e]; exact h1, l, Rps.ext x h2⟩
  | obj C dx ns ps => obtain ⟨hc, vs, h1, h3, l, h2⟩ := h; exact ⟨hc, vs, by rw [e]; exact h1, x.keep _ _ h3.1 h3.2, l, Rps.ext x h2⟩
  | pdic ks => obtain ⟨L, h1, l, h2⟩ := h; exact ⟨L, by rw [e]; exact h1, l, fun p hp => (h2 p hp).ext x⟩
  | _ => exact h.elim
theorem SR.grow (R : SR K G c A W env σ H) (g : Grow W H H') : SR K G c A W env σ H' := by
  have x : Ext ⟨Zt G A W, W, H⟩ ⟨Zt G A W, W, H'⟩ := g.ext fun b => Zt.w
  have kA : ∀ i a, A i = some a → H' a = H a := fun i a e => by
    obtain ⟨_, n, _, _, o, ho⟩ := R.Asep i a e
    rw [ho, g.keep a o n ho]
  refine ⟨R.len, R.W0in, R.Wmin, R.Wnew, R.Wfix, g.src, fun b o n e => ?_, fun b hb => ?_, fun i a e => ?_, R.Ainj, R.Aset, fun i p e => ?_, fun q hq => ?_, fun b o e => ?_⟩
  · refine g.keep b o (fun w => ?_) (R.keep b o n e)
    obtain ⟨p, hp, hb⟩ := w
    rcases R.Wnew p hp with z | ⟨z1, z2⟩
    · exact n ⟨p, z, hb⟩
    · rcases hb with hb | hb
      · rw [hb, z1] at e; cases e
      · rw [hb, z2] at e; cases e
  · obtain ⟨o, e⟩ := R.zbt b hb
    by_cases w : inW W b
    · exact inW_some g.src w
    · exact ⟨o, g.keep b o w e⟩
  · obtain ⟨h1, h2, h3, h4, o, h5⟩ := R.Asep i a e
    exact ⟨h1, h2, h3, h4, o, g.keep a o h2 h5⟩
  · obtain ⟨v, h1, h2⟩ := R.slots i p e
    refine ⟨v, h1, ?_⟩
    cases hA : A i with
    | none => rw [hA] at h2; exact Rp.ext x h2
    | some a => rw [hA] at h2; exact ⟨h2.1, h2.2.ext x (kA i a hA)⟩
  · obtain ⟨h1, h2, h3⟩ := R.pins q hq
    exact ⟨g.keep _ _ h2 h1, h2, h3⟩
  · obtain ⟨h1, h2⟩ := R.fz b o e
    exact ⟨g.keep b o (fun w => h2 (Zt.w w)) h1, h2⟩
end
end PM

set_option maxHeartbeats 1000000
/-! PM: expressions. -/
namespace PM
open PySem L2

abbrev TEm := Env → (PV → Prop) → Prop
abbrev TAm := Env → (List PV → Prop) → Prop
abbrev TTm := Env → (Bool → Prop) → Prop
def tmE (K : PySem.W.Frag) (c : List Ow) (md : Md) (t : TEm) : TE := fun σ H Q => ∃ G A W env P, SR K G c A W env σ H ∧ t env P ∧ ∀ p v H', Grow W H H' → VK1 K md (Zt G A W) W H H' p v → P p → Q v H'
def tmT (K : PySem.W.Frag) (c : List Ow) (t : TTm) : TT := fun σ H Q => ∃ G A W env P, SR K G c A W env σ H ∧ t env P ∧ ∀ b H', Grow W H H' → P b → Q b H'
def VKs (K : PySem.W.Frag) (md : Md) (Z : Addr → Prop) (W : Ws) (H : Hp) : List PV → List V → Prop := Paired (match md with
  | .ow => RpO K ⟨Z, W, H⟩
  | _ => Rp K ⟨Z, W, H⟩)
def tmA (K : PySem.W.Frag) (c : List Ow) (md : Md) (t : TAm) : TA := fun σ H Q => ∃ G A W env P, SR K G c A W env σ H ∧ t env P ∧ ∀ ps vs H', Grow W H H' → VKs K md (Zt G A W) W H' ps vs → P ps → Q vs H'
structure PEm (X : Cx) (c : List Ow) (md : Md) (e : Expr) (t : TEm) : Prop where
  run : PE X e (tmE X.K c md t)
structure PTm (X : Cx) (c : List Ow) (e : Expr) (t : TTm) : Prop where
  run : PT X e (tmT X.K c t)
structure PWm (X : Cx) (c : List Ow) (e : Expr) (t : TTm) : Prop where
  run : PW X e (tmT X.K c t)
structure PAm (X : Cx) (c : List Ow) (md : Md) (es : List Expr) (t : TAm) : Prop where
  run : PA X es (tmA X.K c md t)
theorem _root_.L2.PE.weak {X : Cx} {e : Expr} {t t' : TE} (h : PE X e t) (k : ∀ σ H Q, t' σ H Q → t σ H Q) : PE X e t' := ⟨fun pins s σ H Q I x => h.run pins s σ H Q I (k σ H Q x)⟩
theorem _root_.L2.PT.weak {X : Cx} {e : Expr} {t t' : TT} (h : PT X e t) (k : ∀ σ H Q, t' σ H Q → t σ H Q) : PT X e t' := ⟨fun pins s σ H Q I x => h.run pins s σ H Q I (k σ H Q x)⟩
theorem _root_.L2.PW.weak {X : Cx} {e : Expr} {t t' : TT} (h : PW X e t) (k : ∀ σ H Q, t' σ H Q → t σ H Q) : PW X e t' := ⟨fun wh pins s σ H Q I x => h.run wh pins s σ H Q I (k σ H Q x)⟩
theorem _root_.L2.PA.weak {X : Cx} {e : List Expr} {t t' : TA} (h : PA X e t) (k : ∀ σ H Q, t' σ H Q → t σ H Q) : PA X e t' := ⟨fun pos pins s σ H Q I x => h.run pos pins s σ H Q I (k σ H Q x)⟩

section
variable {K : PySem.W.Frag} {Z Z' : Addr → Prop} {W : Ws} {H H1 H' : Hp} {p : PV} {v : V} {md : Md}
/-- any value may be taken as one whose root is perhaps one's own -/
theorem VK1.ow (hz : ∀ b, inW W b → Z b) (hd : ∀ b, Z b → ∃ o, H b = some o) (h : VK1 K md Z W H H' p v) : RpO K ⟨Z, W, H'⟩ p v := by
  cases md with
  | cl => exact Rp.ow hz h
  | ow => exact h
  | fr => exact Rp.ow hz (VK1.cl hd h)
theorem VK1.back {H0 : Hp} (g : Grow W H0 H) (h : VK1 K md Z W H H' p v) : VK1 K md Z W H0 H' p v := by
  cases md with
  | cl => exact h
  | ow => exact h
  | fr =>
    obtain ⟨a, e, n, o⟩ := h
    exact ⟨a, e, g.free n, o⟩
/-- what has no list is clean -/
theorem RpO.cl (hp : ∀ ps, p ≠ .lst ps) (hq : ∀ ks ps, p ≠ .dic ks ps) (hr : ∀ ks, p ≠ .pdic ks) (h : RpO K ⟨Z, W, H⟩ p v) : Rp K ⟨Z, W, H⟩ p v := by
  cases p with
  | lst ps => exact absurd rfl (hp ps)
  | dic ks ps => exact absurd rfl (hq ks ps)
  | pdic ks => exact absurd rfl (hr ks)
  | _ => exact h
theorem RpO.int {i : Int} (h : RpO K ⟨Z, W, H⟩ (.int i) v) : v = .int i := by unfold RpO Rp at h; exact h
theorem RpO.bl {i : Bool} (h : RpO K ⟨Z, W, H⟩ (.bl i) v) : v = .bl i := by unfold RpO Rp at h; exact h
theorem RpO.str {i : Str} (h : RpO K ⟨Z, W, H⟩ (.str i) v) : v = .str i := by unfold RpO Rp at h; exact h
theorem RpO.non (h : RpO K ⟨Z, W, H⟩ .non v) : v = .non := by unfold RpO Rp at h; exact h
theorem RpO.tup {ps : List PV} (h : RpO K ⟨Z, W, H⟩ (.tup ps) v) : ∃ a vs, v = .ref a ∧ TupAt K ⟨Z, W, H⟩ a vs ∧ Rps K ⟨Z, W, H⟩ ps vs := by unfold RpO Rp at h; exact h
theorem RpO.lst {ps : List PV} (h : RpO K ⟨Z, W, H⟩ (.lst ps) v) : ∃ a vs, v = .ref a ∧ (¬ inW W a ∧ H a = some (.lst vs)) ∧ Rps K ⟨Z, W, H⟩ ps vs := by unfold RpO at h; exact h
theorem Rp.int' {i : Int} : Rp K ⟨Z, W, H⟩ (.int i) (.int i) := by unfold Rp; rfl
theorem Rp.bl' {i : Bool} : Rp K ⟨Z, W, H⟩ (.bl i) (.bl i) := by unfold Rp; rfl
theorem Rp.str' {i : Str} : Rp K ⟨Z, W, H⟩ (.str i) (.str i) := by unfold Rp; rfl
theorem Rp.non' : Rp K ⟨Z, W, H⟩ .non .non := by unfold Rp; rfl
/-- a new tuple -/
theorem Rp.newTup {ps : List PV} {vs : List V} {a : Addr} (hz : ¬ Z a) (n : H a = none) (hs : ∀ p ∈ W, SA H p) (hw : ∀ b, inW W b → Z b) (h : Rps K ⟨Z, W, H⟩ ps vs) : Rp K ⟨Z, W, upd H a (.tup vs)⟩ (.tup ps) (.ref a) := by
  unfold Rp
  exact ⟨a, vs, rfl, .inl ⟨hz, upd_same⟩, Rps.ext ((Grow.new hs n).ext hw) h⟩
/-- a new list -/
theorem OwnAt.newLst {ps : List PV} {vs : List V} {a : Addr} (n : H a = none) (h : Rps K ⟨Z, W, H⟩ ps vs) : OwnAt K ⟨fun b => Z b ∨ b = a, W, upd H a (.lst vs)⟩ a (.lst ps) :=
by
  have x : Ext ⟨Z, W, H⟩ ⟨fun b => Z b ∨ b = a, W, upd H a (.lst vs)⟩ := by
    refine ⟨fun b o z e => ⟨fun y => ?_, ?_⟩, fun _ h => h⟩
    · have e' : H b = some o := e
      rcases y with y | y
      · exact z y
      · rw [y, n] at e'; cases e'
    · have e' : H b = some o := e
      show upd H a (.lst vs) b = some o
      rw [upd_ne (ne_of_none e' n)]; exact e'
  exact ⟨vs, upd_same, Rps.ext x h⟩
theorem VK1.ofRp (h : Rp K ⟨Z, W, H'⟩ p v) : VK1 K .cl Z W H H' p v := h
theorem VK1.o (h : VK1 K .ow Z W H H' p v) : RpO K ⟨Z, W, H'⟩ p v := h
theorem VK1.c (h : VK1 K .cl Z W H H' p v) : Rp K ⟨Z, W, H'⟩ p v := h
theorem VK1.bl {b : Bool} (h : VK1 K md Z W H H' (.bl b) v) : v = .bl b := by
  cases md with
  | cl => unfold VK1 Rp at h; exact h
  | ow => unfold VK1 RpO Rp at h; exact h
  | fr => obtain ⟨a, _, _, h⟩ := h; exact h.elim
end
theorem SR.dz {K : PySem.W.Frag} {G : Gh} {c : List Ow} {A : Nat → Option Addr} {W : Ws} {env : Env} {σ : St} {H : Hp} (R : SR K G c A W env σ H) : ∀ b, Zt G A W b → ∃ o, H b = some o := fun _ h => R.zt h
theorem SR.nz {K : PySem.W.Frag} {G : Gh} {c : List Ow} {A : Nat → Option Addr} {W : Ws} {env : Env} {σ : St} {H : Hp} (R : SR K G c A W env σ H) {a : Addr} (n : H a = none) : ¬ Zt G A W a := fun z => by
  obtain ⟨o, e⟩ := R.zt z
  rw [n] at e; cases e
theorem SR.sz {K : PySem.W.Frag} {G : Gh} {c : List Ow} {A : Nat → Option Addr} {W : Ws} {env : Env} {σ : St} {H : Hp} (_ : SR K G c A W env σ H) : ∀ b, inW W b → Zt G A W b := fun _ => Zt.w

/-! ### coercions -/
section
variable {X : Cx} {c : List Ow} {e : Expr} {t : TEm} {md : Md}
theorem PEm.ow (h : PEm X c md e t) : PEm X c .ow e t := ⟨h.run.weak fun σ H Q ⟨G, A, W, env, P, R, ht, k⟩ => ⟨G, A, W, env, P, R, ht, fun p v H' g r hp => k p v H' g (r.ow R.sz R.dz) hp⟩⟩
theorem PEm.cl (h : PEm X c .fr e t) : PEm X c .cl e t := ⟨h.run.weak fun σ H Q ⟨G, A, W, env, P, R, ht, k⟩ => ⟨G, A, W, env, P, R, ht, fun p v H' g r hp => k p v H' g (VK1.cl R.dz r) hp⟩⟩
end

/-! ### names, constants -/
section
variable {X : Cx} {c : List Ow} {pos : Pos}
def mVar (i : Nat) : TEm := fun env P => ∃ v, env[i]? = some (some v) ∧ P v
def mC (p : PV) : TEm := fun _ P => P p
/-- a shared name -/
theorem em_var (i : Nat) {x : Str} (hN : X.N[i]? = some x := by rfl) (hc : cO c i = .sh := by rfl) (hv : Vis X.env.scope x := by first | exact Or.inl rfl | exact Or.inr (Or.inl rfl) | exact Or.inr (Or.inr rfl)) (hd : (x == ("__debug__" : Str)) = false := by decide)
    (hcd : (x == ("__classdict__" : Str)) = false := by decide) : PEm X c .cl (.Name x pos) (mVar i) := ⟨(pe_var hN hv hd hcd).weak fun σ H Q h => by
  obtain ⟨G, A, W, env, P, R, ⟨p, e, hp⟩, k⟩ := h
  obtain ⟨v, e1, h1⟩ := R.slots i p e
  cases hA : A i with
  | none =>
    rw [hA] at h1
    exact ⟨v, e1, k p v H (Grow.refl R.src) h1 hp⟩
  | some a => exact absurd hc (R.Asep i a hA).2.2.2.1⟩
def mVarO (i : Nat) : TEm := fun env P => ∃ v, env[i]? = some (some v) ∧ (∀ C dx ns ps, v ≠ .obj C dx ns ps) ∧ P v
/-- any name -/
theorem em_varO (i : Nat) {x : Str} (hN : X.N[i]? = some x := by rfl) (hv : Vis X.env.scope x := by first | exact Or.inl rfl | exact Or.inr (Or.inl rfl) | exact Or.inr (Or.inr rfl)) (hd : (x == ("__debug__" : Str)) = false := by decide)
    (hcd : (x == ("__classdict__" : Str)) = false := by decide) : PEm X c .ow (.Name x pos) (mVarO i) := ⟨(pe_var hN hv hd hcd).weak fun σ H Q h => by
  obtain ⟨G, A, W, env, P, R, ⟨p, e, no, hp⟩, k⟩ := h
  obtain ⟨v, e1, h1⟩ := R.slots i p e
  refine ⟨v, e1, k p v H (Grow.refl R.src) ?_ hp⟩
  cases hA : A i with
  | none =>
    rw [hA] at h1
    exact Rp.ow R.sz h1
  | some a =>
    rw [hA] at h1
    obtain ⟨rfl, h1⟩ := h1
    have nw := (R.Asep i a hA).2.1
    cases p with
    | lst ps => obtain ⟨vs, e2, r⟩ := h1; exact ⟨a, vs, rfl, ⟨nw, e2⟩, r⟩
    | dic ks ps => obtain ⟨vs, e2, l, r⟩ := h1; exact ⟨a, vs, rfl, nw, e2, l, r⟩
    | pdic ks => obtain ⟨L, e2, l, r⟩ := h1; exact ⟨a, L, rfl, nw, e2, l, r⟩
    | obj C dx ns ps => exact absurd rfl (no C dx ns ps)
    | _ => exact h1.elim⟩
theorem em_const {md : Md} {e : Expr} {p : PV} {v : V} (h : PE X e (tC v)) (r : ∀ Z W H, Rp X.K ⟨Z, W, H⟩ p v) : PEm X c .cl e (mC p) := ⟨h.weak fun σ H Q h => by
  obtain ⟨G, A, W, env, P, R, hp, k⟩ := h
  exact k p v H (Grow.refl R.src) (r _ _ _) hp⟩
theorem em_int {i : Int} {j : Nat} : PEm X c .cl (.Constant (.int i) j pos) (mC (.int i)) := em_const (md := .cl) pe_int fun _ _ _ => Rp.int'
theorem em_bl {b : Bool} {j : Nat} : PEm X c .cl (.Constant (.bool b) j pos) (mC (.bl b)) := em_const (md := .cl) pe_bl fun _ _ _ => Rp.bl'
theorem em_non {j : Nat} : PEm X c .cl (.Constant .none j pos) (mC .non) := em_const (md := .cl) pe_non fun _ _ _ => Rp.non'
theorem em_str {x : Str} {j : Nat} : PEm X c .cl (.Constant (.str x) j pos) (mC (.str x)) := em_const (md := .cl) pe_str fun _ _ _ => Rp.str'
end

/-! ### operations by values -/
abbrev PO2 := PV → PV → (PV → Prop) → Prop
abbrev PO1 := PV → (PV → Prop) → Prop
abbrev POn := List PV → (PV → Prop) → Prop
/-- what stands around an operation -/
structure Sit (Z : Addr → Prop) (W : Ws) (H : Hp) : Prop where
  wz : ∀ b, inW W b → Z b
  src : ∀ p ∈ W, SA H p
  zd : ∀ b, Z b → ∃ o, H b = some o
theorem SR.sit {K : PySem.W.Frag} {G : Gh} {c : List Ow} {A : Nat → Option Addr} {W : Ws} {env : Env} {σ : St} {H : Hp} (R : SR K G c A W env σ H) : Sit (Zt G A W) W H := ⟨R.sz, R.src, R.dz⟩
theorem Sit.nz {Z : Addr → Prop} {W : Ws} {H : Hp} (s : Sit Z W H) {a : Addr} (n : H a = none) : ¬ Z a := fun z => by
  obtain ⟨o, e⟩ := s.zd a z
  rw [n] at e; cases e
def Lift1 (K : PySem.W.Frag) (r : V → Hp → VK → Prop) (o : PO1) (md : Md) : Prop :=
  ∀ Z W H px vx P Q, Sit Z W H → RpO K ⟨Z, W, H⟩ px vx → o px P → (∀ p v H', Grow W H H' → VK1 K md Z W H H' p v → P p → Q v H') → r vx H Q
def Lift2 (K : PySem.W.Frag) (r : R2) (o : PO2) (md : Md) : Prop :=
  ∀ Z W H px py vx vy P Q, Sit Z W H → RpO K ⟨Z, W, H⟩ px vx → RpO K ⟨Z, W, H⟩ py vy → o px py P → (∀ p v H', Grow W H H' → VK1 K md Z W H H' p v → P p → Q v H') → r vx vy H Q
def LiftN (K : PySem.W.Frag) (r : List V → Hp → VK → Prop) (o : POn) (md : Md) : Prop :=
  ∀ Z W H ps vs P Q, Sit Z W H → VKs K .ow Z W H ps vs → o ps P → (∀ p v H', Grow W H H' → VK1 K md Z W H H' p v → P p → Q v H') → r vs H Q
def mOp1 (o : PO1) (ta : TEm) : TEm := fun env P => ta env fun x => o x P
def mOp (o : PO2) (ta tb : TEm) : TEm := fun env P => ta env fun x => tb env fun y => o x y P
def mB (o : POn) (t : TAm) : TEm := fun env P => t env fun xs => o xs P
section
variable {X : Cx} {c : List Ow} {a b : Expr} {ta tb : TEm} {md : Md} {pos : Pos} {r : R2} {o : PO2}
theorem tm1 {K : PySem.W.Frag} {r : V → Hp → VK → Prop} {o : PO1} (L : Lift1 K r o md) (σ : St) (H : Hp) (Q : VK) (h : tmE K c md (mOp1 o ta) σ H Q) : tmE K c .ow ta σ H fun x H1 => r x H1 Q := by
  obtain ⟨G, A, W, env, P, R, h, k⟩ := h
  exact ⟨G, A, W, env, _, R, h, fun px vx H1 g1 rx h1 => L _ W H1 px vx P Q (R.grow g1).sit rx h1 fun p v H' g r hp => k p v H' (g1.trans g) (r.back g1) hp⟩
theorem tm2 {K : PySem.W.Frag} (L : Lift2 K r o md) (σ : St) (H : Hp) (Q : VK) (h : tmE K c md (mOp o ta tb) σ H Q) : tOp r (tmE K c .ow ta) (tmE K c .ow tb) σ H Q := by
  obtain ⟨G, A, W, env, P, R, h, k⟩ := h
  refine ⟨G, A, W, env, _, R, h, fun px vx H1 g1 rx h1 => ⟨G, A, W, env, _, R.grow g1, h1, fun py vy H2 g2 ry h2 => ?_⟩⟩
  exact L _ W H2 px py vx vy P Q ((R.grow g1).grow g2).sit (RpO.grow R.sz g2 rx) ry h2 fun p v H' g r hp => k p v H' ((g1.trans g2).trans g) (r.back (g1.trans g2)) hp
theorem em_op {op : Operator} (ho : OpR X (binaryOp op) r) (L : Lift2 X.K r o md) (ha : PEm X c .ow a ta) (hb : PEm X c .ow b tb) : PEm X c md (.BinOp a op b pos) (mOp o ta tb) := ⟨(pe_op ho ha.run hb.run).weak (tm2 L)⟩
theorem em_cmp {op : CmpOp} (ho : OpR X (compareOp op) r) (L : Lift2 X.K r o md) (ha : PEm X c .ow a ta) (hb : PEm X c .ow b tb) (hm : behindInMarks op b = false) : PEm X c md (.Compare a [op] [b] pos) (mOp o ta tb) := ⟨(pe_cmpR ho ha.run hb.run hm).weak (tm2 L)⟩
theorem em_un {op : UnaryOp} {r : V → Hp → VK → Prop} {o : PO1} (ho : UnR X (unaryOp op) r) (L : Lift1 X.K r o md) (ha : PEm X c .ow a ta) : PEm X c md (.UnaryOp op a pos) (mOp1 o ta) := ⟨(pe_un ho ha.run).weak (tm1 L)⟩
/-- arguments -/
def mNil : TAm := fun _ P => P []
def mCons (t : TEm) (ts : TAm) : TAm := fun env P => t env fun x => ts env fun xs => P (x :: xs)
variable {e : Expr} {es : List Expr} {te : TEm} {t : TAm}
theorem am_nil : PAm X c md [] mNil := ⟨pa_nil.weak fun σ H Q h => by
  obtain ⟨G, A, W, env, P, R, h, k⟩ := h
  exact k [] [] H (Grow.refl R.src) .nil h⟩
theorem VKs.grow {K : PySem.W.Frag} {Z : Addr → Prop} {W : Ws} {H H' : Hp} (hz : ∀ b, inW W b → Z b) (g : Grow W H H') : ∀ {ps : List PV} {vs : List V}, VKs K md Z W H ps vs → VKs K md Z W H' ps vs
  | _, _, .nil => .nil
  | _, _, .cons h t => .cons (by cases md with
    | cl => exact Rp.ext (g.ext hz) h
    | fr => exact Rp.ext (g.ext hz) h
    | ow => exact RpO.grow hz g h) (VKs.grow hz g t)
theorem am_cons (ha : PEm X c .ow e te) (hr : PAm X c .ow es t) (hs : starEach (e :: es) X.env = (false, eval e X.env) :: starEach es X.env := by rfl) : PAm X c .ow (e :: es) (mCons te t) := ⟨(pa_cons ha.run hr.run hs).weak fun σ H Q h => by
  obtain ⟨G, A, W, env, P, R, h, k⟩ := h
  refine ⟨G, A, W, env, _, R, h, fun px vx H1 g1 rx h1 => ⟨G, A, W, env, _, R.grow g1, h1, fun ps vs H2 g2 rs h2 => ?_⟩⟩
  exact k (px :: ps) (vx :: vs) H2 (g1.trans g2) (.cons (RpO.grow R.sz g2 rx) rs) h2⟩
theorem am_consC (ha : PEm X c .cl e te) (hr : PAm X c .cl es t) (hs : starEach (e :: es) X.env = (false, eval e X.env) :: starEach es X.env := by rfl) : PAm X c .cl (e :: es) (mCons te t) := ⟨(pa_cons ha.run hr.run hs).weak fun σ H Q h => by
  obtain ⟨G, A, W, env, P, R, h, k⟩ := h
  refine ⟨G, A, W, env, _, R, h, fun px vx H1 g1 rx h1 => ⟨G, A, W, env, _, R.grow g1, h1, fun ps vs H2 g2 rs h2 => ?_⟩⟩
  exact k (px :: ps) (vx :: vs) H2 (g1.trans g2) (.cons (Rp.ext (g2.ext R.sz) rx) rs) h2⟩
theorem VKs.rps {K : PySem.W.Frag} {Z : Addr → Prop} {W : Ws} {H : Hp} : ∀ {ps : List PV} {vs : List V}, VKs K .cl Z W H ps vs → Rps K ⟨Z, W, H⟩ ps vs
  | _, _, .nil => Rps.nil
  | _, _, .cons h t => Rps.cons h (VKs.rps t)
theorem tmN {K : PySem.W.Frag} {r : List V → Hp → VK → Prop} {o : POn} (L : LiftN K r o md) (σ : St) (H : Hp) (Q : VK) (h : tmE K c md (mB o t) σ H Q) : tCB r (tmA K c .ow t) σ H Q := by
  obtain ⟨G, A, W, env, P, R, h, k⟩ := h
  exact ⟨G, A, W, env, _, R, h, fun ps vs H1 g1 rs h1 => L _ W H1 ps vs P Q (R.grow g1).sit rs h1 fun p v H' g r hp => k p v H' (g1.trans g) (r.back g1) hp⟩
/-- a built-in function, a built-in class, called -/
theorem em_callB {id : String} {x : Str} {p : Pos} {r : List V → Hp → VK → Prop} {o : POn} (hc : CallR X (.builtin id) r) (L : LiftN X.K r o md) (hg : Gl X x) (hm : X.mg x = none) (hv : bootBuiltins x = some (.builtin id)) (ha : PAm X c .ow (e :: es) t) (hn : x ≠ "__name__" := by decide) (hdb : (x == ("__debug__" : Str)) = false := by decide)
    (he : starEach (e :: es) X.env = (false, eval e X.env) :: starEach es X.env := by rfl) (hpl : (backTo pos (starEach es X.env)).any (·.1) = false := by rfl) : PEm X c md (.Call (.Name x p) (e :: es) [] pos) (mB o t) :=
  ⟨(pe_callB hc hg hm hv ha.run hn hdb he hpl).weak (tmN L)⟩
theorem em_callTy {T : String} {x : Str} {p : Pos} {r : List V → Hp → VK → Prop} {o : POn} (hc : CallR X (.type T) r) (L : LiftN X.K r o md) (hg : Gl X x) (hm : X.mg x = none) (hv : bootBuiltins x = some (.type T)) (ha : PAm X c .ow (e :: es) t) (hn : x ≠ "__name__" := by decide) (hdb : (x == ("__debug__" : Str)) = false := by decide)
    (he : starEach (e :: es) X.env = (false, eval e X.env) :: starEach es X.env := by rfl) (hpl : (backTo pos (starEach es X.env)).any (·.1) = false := by rfl) : PEm X c md (.Call (.Name x p) (e :: es) [] pos) (mB o t) :=
  ⟨(pe_callTy hc hg hm hv ha.run hn hdb he hpl).weak (tmN L)⟩
/-- displays -/
def mTup (t : TAm) : TEm := fun env P => t env fun xs => xs.length ≤ sizeLine ∧ P (.tup xs)
def mLst (t : TAm) : TEm := fun env P => t env fun xs => xs.length ≤ sizeLine ∧ P (.lst xs)
theorem Paired.len {α β : Type} {R : α → β → Prop} : ∀ {xs : List α} {ys : List β}, Paired R xs ys → xs.length = ys.length
  | _, _, .nil => rfl
  | _, _, .cons _ t => by rw [List.length_cons, List.length_cons, Paired.len t]
theorem em_tup {x1 : Nat} (h : PAm X c .cl es t) : PEm X c .cl (.Tuple es x1 pos) (mTup t) := ⟨(pe_tup h.run).weak fun σ H Q h => by
  obtain ⟨G, A, W, env, P, R, h, k⟩ := h
  refine ⟨G, A, W, env, _, R, h, fun ps vs H1 g1 rs ⟨hl, h1⟩ => ⟨by rw [← Paired.len rs]; exact hl, fun a n => ?_⟩⟩
  have R1 := R.grow g1
  exact k (.tup ps) (.ref a) _ (g1.trans (Grow.new R1.src n)) (Rp.newTup (R1.nz n) n R1.src R.sz rs.rps) h1⟩
theorem em_lst (h : PAm X c .cl es t) : PEm X c .fr (.List es pos) (mLst t) := ⟨(pe_lst h.run).weak fun σ H Q h => by
  obtain ⟨G, A, W, env, P, R, h, k⟩ := h
  refine ⟨G, A, W, env, _, R, h, fun ps vs H1 g1 rs ⟨hl, h1⟩ => ⟨by rw [← Paired.len rs]; exact hl, fun a n => ?_⟩⟩
  have R1 := R.grow g1
  exact k (.lst ps) (.ref a) _ (g1.trans (Grow.new R1.src n)) ⟨a, rfl, g1.free n, OwnAt.newLst n rs.rps⟩ h1⟩
end

/-! ### tests -/
section
variable {X : Cx} {c : List Ow} {a b : Expr} {ta tb : TEm} {tA tB : TTm} {pos : Pos} {rest : List Expr} {md : Md}
/-- a value that is True or False, as a test -/
def mTB (t : TEm) : TTm := fun env P => t env fun x => ∃ k, x = .bl k ∧ P k
theorem tm_val (h : PEm X c .ow a ta) (he : ∀ whole, isTrue a X.env whole = (do let v ← whole; standAt a.pos; holding [v] (truthy v)) := by intro _; rfl) : PTm X c a (mTB ta) := ⟨(pt_val h.run he).weak fun σ H Q h => by
  obtain ⟨G, A, W, env, P, R, h, k⟩ := h
  exact ⟨G, A, W, env, _, R, h, fun p v H1 g1 r ⟨j, e, h1⟩ => ⟨j, by subst e; exact VK1.bl r, k j H1 g1 h1⟩⟩⟩
theorem tm_cmp {op : CmpOp} {r : R2} {o : PO2} (ho : OpR X (compareOp op) r) (L : Lift2 X.K r o .cl) (ha : PEm X c .ow a ta) (hb : PEm X c .ow b tb) (hm : behindInMarks op b = false) : PTm X c (.Compare a [op] [b] pos) (mTB (mOp o ta tb)) := ⟨(pt_cmpR ho ha.run hb.run hm).weak fun σ H Q h => by
  obtain ⟨G, A, W, env, P, R, h, k⟩ := h
  refine tm2 L σ H _ ⟨G, A, W, env, _, R, h, fun p v H1 g1 r ⟨j, e, h1⟩ => ⟨j, ?_, k j H1 g1 h1⟩⟩
  subst e
  exact VK1.bl r⟩
def mAnd (t u : TTm) : TTm := fun env P => t env fun b => if b = true then u env P else P false
def mOr (t u : TTm) : TTm := fun env P => t env fun b => if b = true then P true else u env P
def mNot (t : TTm) : TTm := fun env P => t env fun b => P (!b)
theorem tm_not (h : PTm X c a tA) : PTm X c (.UnaryOp .Not a pos) (mNot tA) := ⟨(pt_not h.run).weak fun σ H Q h => by
  obtain ⟨G, A, W, env, P, R, h, k⟩ := h
  exact ⟨G, A, W, env, _, R, h, fun b H1 g1 h1 => k _ H1 g1 h1⟩⟩
theorem wm_and1 (h : PTm X c a tA) : PWm X c (.BoolOp .And [a] pos) tA := ⟨pw_and1 h.run⟩
theorem wm_or1 (h : PTm X c a tA) : PWm X c (.BoolOp .Or [a] pos) tA := ⟨pw_or1 h.run⟩
theorem wm_and (ha : PTm X c a tA) (hb : PWm X c (.BoolOp .And (b :: rest) pos) tB) : PWm X c (.BoolOp .And (a :: b :: rest) pos) (mAnd tA tB) := ⟨(pw_and ha.run hb.run).weak fun σ H Q h => by
  obtain ⟨G, A, W, env, P, R, h, k⟩ := h
  refine ⟨G, A, W, env, _, R, h, fun b H1 g1 h1 => ?_⟩
  cases b with
  | true => rw [if_pos rfl] at h1 ⊢; exact ⟨G, A, W, env, _, R.grow g1, h1, fun b H2 g2 h2 => k b H2 (g1.trans g2) h2⟩
  | false => rw [if_neg Bool.false_ne_true] at h1 ⊢; exact k _ H1 g1 h1⟩
theorem wm_or (ha : PTm X c a tA) (hb : PWm X c (.BoolOp .Or (b :: rest) pos) tB) : PWm X c (.BoolOp .Or (a :: b :: rest) pos) (mOr tA tB) := ⟨(pw_or ha.run hb.run).weak fun σ H Q h => by
  obtain ⟨G, A, W, env, P, R, h, k⟩ := h
  refine ⟨G, A, W, env, _, R, h, fun b H1 g1 h1 => ?_⟩
  cases b with
  | false => rw [if_neg Bool.false_ne_true] at h1 ⊢; exact ⟨G, A, W, env, _, R.grow g1, h1, fun b H2 g2 h2 => k b H2 (g1.trans g2) h2⟩
  | true => rw [if_pos rfl] at h1 ⊢; exact k _ H1 g1 h1⟩
theorem PWm.pt (h : PWm X c a tA) : PTm X c a tA := ⟨h.run.pt⟩
/-- and, or, not as values that are True or False -/
def mAndV (t u : TEm) : TEm := fun env P => t env fun x => ∃ k, x = .bl k ∧ if k = true then u env P else P (.bl false)
def mOrV (t u : TEm) : TEm := fun env P => t env fun x => ∃ k, x = .bl k ∧ if k = true then P (.bl true) else u env P
def oNot : PO1 := fun x P => ∃ k, x = .bl k ∧ P (.bl (!k))
theorem em_one {op : BoolOp} (h : PEm X c md a ta) : PEm X c md (.BoolOp op [a] pos) ta := ⟨pe_one h.run⟩
theorem em_and (ha : PEm X c .ow a ta) (hb : PEm X c .cl (.BoolOp .And (b :: rest) pos) tb) : PEm X c .cl (.BoolOp .And (a :: b :: rest) pos) (mAndV ta tb) := ⟨(pe_and ha.run hb.run).weak fun σ H Q h => by
  obtain ⟨G, A, W, env, P, R, h, k⟩ := h
  refine ⟨G, A, W, env, _, R, h, fun p v H1 g1 r ⟨j, e, h1⟩ => ⟨j, by subst e; exact VK1.bl r, ?_⟩⟩
  cases j with
  | true => rw [if_pos rfl] at h1 ⊢; exact ⟨G, A, W, env, _, R.grow g1, h1, fun p v H2 g2 r2 h2 => k p v H2 (g1.trans g2) r2 h2⟩
  | false => rw [if_neg Bool.false_ne_true] at h1 ⊢; exact k _ _ H1 g1 (VK1.ofRp Rp.bl') h1⟩
theorem em_or (ha : PEm X c .ow a ta) (hb : PEm X c .cl (.BoolOp .Or (b :: rest) pos) tb) : PEm X c .cl (.BoolOp .Or (a :: b :: rest) pos) (mOrV ta tb) := ⟨(pe_or ha.run hb.run).weak fun σ H Q h => by
  obtain ⟨G, A, W, env, P, R, h, k⟩ := h
  refine ⟨G, A, W, env, _, R, h, fun p v H1 g1 r ⟨j, e, h1⟩ => ⟨j, by subst e; exact VK1.bl r, ?_⟩⟩
  cases j with
  | false => rw [if_neg Bool.false_ne_true] at h1 ⊢; exact ⟨G, A, W, env, _, R.grow g1, h1, fun p v H2 g2 r2 h2 => k p v H2 (g1.trans g2) r2 h2⟩
  | true => rw [if_pos rfl] at h1 ⊢; exact k _ _ H1 g1 (VK1.ofRp Rp.bl') h1⟩
theorem em_not (ha : PEm X c .ow a ta) : PEm X c .cl (.UnaryOp .Not a pos) (mOp1 oNot ta) := ⟨(pe_not ha.run).weak fun σ H Q h => by
  obtain ⟨G, A, W, env, P, R, h, k⟩ := h
  exact ⟨G, A, W, env, _, R, h, fun p v H1 g1 r ⟨j, e, h1⟩ => ⟨j, by subst e; exact VK1.bl r, k _ _ H1 g1 (VK1.ofRp Rp.bl') h1⟩⟩⟩
def mIf (t : TTm) (ta tb : TEm) : TEm := fun env P => t env fun b => if b = true then ta env P else tb env P
theorem em_if {cnd : Expr} (hc : PTm X c cnd tA) (ha : PEm X c md a ta) (hb : PEm X c md b tb) : PEm X c md (.IfExp cnd a b pos) (mIf tA ta tb) := ⟨(pe_ifExp hc.run ha.run hb.run).weak fun σ H Q h => by
  obtain ⟨G, A, W, env, P, R, h, k⟩ := h
  refine ⟨G, A, W, env, _, R, h, fun b H1 g1 h1 => ?_⟩
  cases b with
  | true => rw [if_pos rfl] at h1 ⊢; exact ⟨G, A, W, env, _, R.grow g1, h1, fun p v H2 g2 r2 h2 => k p v H2 (g1.trans g2) (r2.back g1) h2⟩
  | false => rw [if_neg Bool.false_ne_true] at h1 ⊢; exact ⟨G, A, W, env, _, R.grow g1, h1, fun p v H2 g2 r2 h2 => k p v H2 (g1.trans g2) (r2.back g1) h2⟩⟩
end
end PM

set_option maxHeartbeats 1000000
/-! PM: operations by values. -/
namespace PM
open PySem L2

theorem OpR.or {X : Cx} {f : Value → Value → Sem Value} {r r' : R2} (h : OpR X f r) (h' : OpR X f r') : OpR X f (fun x y H Q => r x y H Q ∨ r' x y H Q) := by
  intro pins s σ H x y v u Q I rx ry q
  rcases q with q | q
  · exact h pins s σ H x y v u Q I rx ry q
  · exact h' pins s σ H x y v u Q I rx ry q
theorem CallR.or {X : Cx} {f : Value} {r r' : List V → Hp → VK → Prop} (h : CallR X f r) (h' : CallR X f r') : CallR X f (fun x H Q => r x H Q ∨ r' x H Q) := by
  intro pins s σ H x us Q I rx q
  rcases q with q | q
  · exact h pins s σ H x us Q I rx q
  · exact h' pins s σ H x us Q I rx q
section
variable {K : PySem.W.Frag}
theorem Sit.fin {Z : Addr → Prop} {W : Ws} {H : Hp} {P : PV → Prop} {Q : VK} {p : PV} {v : V} (S : Sit Z W H) (k : ∀ p v H', Grow W H H' → VK1 K .cl Z W H H' p v → P p → Q v H') (r : Rp K ⟨Z, W, H⟩ p v) (hp : P p) : Q v H := k p v H (Grow.refl S.src) (VK1.ofRp r) hp
/-! ### whole numbers -/
/-- two ints under a condition -/
def oI (C : Int → Int → Prop) (g : Int → Int → PV) : PO2 := fun x y P => ∃ i j, x = .int i ∧ y = .int j ∧ C i j ∧ P (g i j)
theorem lift_I {C C' : Int → Int → Prop} {g : Int → Int → PV} {g' : Int → Int → V} (hc : ∀ i j, C i j → C' i j) (hg : ∀ i j, C i j → ∀ Z W H, Rp K ⟨Z, W, H⟩ (g i j) (g' i j)) : Lift2 K (rI C' g') (oI C g) .cl := by
  rintro Z W H px py vx vy P Q S rx ry ⟨i, j, rfl, rfl, c, hp⟩ k
  exact ⟨i, j, rx.int, ry.int, hc i j c, S.fin k (hg i j c _ _ _) hp⟩
theorem lift_I0 {g : Int → Int → PV} {g' : Int → Int → V} (hg : ∀ i j Z W H, Rp K ⟨Z, W, H⟩ (g i j) (g' i j)) : Lift2 K (rI0 g') (oI (fun _ _ => True) g) .cl := by
  rintro Z W H px py vx vy P Q S rx ry ⟨i, j, rfl, rfl, c, hp⟩ k
  exact ⟨i, j, rx.int, ry.int, S.fin k (hg i j _ _ _) hp⟩
def oSub : PO2 := fun x y P => ∃ i j, x = .int i ∧ y = .int j ∧ P (.int (i - j))
theorem lift_sub : Lift2 K (rI0 fun i j => .int (i - j)) oSub .cl := by
  rintro Z W H px py vx vy P Q S rx ry ⟨i, j, rfl, rfl, hp⟩ k
  exact ⟨i, j, rx.int, ry.int, S.fin k Rp.int' hp⟩
def oFdiv : PO2 := fun x y P => ∃ i j, x = .int i ∧ y = .int j ∧ (0 < j ∧ j < 1073741824) ∧ P (.int (i / j))
theorem lift_fdiv : Lift2 K (rI CDiv fun i j => .int (i / j)) oFdiv .cl := by
  rintro Z W H px py vx vy P Q S rx ry ⟨i, j, rfl, rfl, c, hp⟩ k
  exact ⟨i, j, rx.int, ry.int, c, S.fin k Rp.int' hp⟩
def oMod : PO2 := fun x y P => ∃ i j, x = .int i ∧ y = .int j ∧ 0 < j ∧ P (.int (i % j))
theorem lift_mod : Lift2 K (rI (fun _ j => 0 < j) fun i j => .int (i % j)) oMod .cl := by
  rintro Z W H px py vx vy P Q S rx ry ⟨i, j, rfl, rfl, c, hp⟩ k
  exact ⟨i, j, rx.int, ry.int, c, S.fin k Rp.int' hp⟩
def oPow : PO2 := fun x y P => ∃ i j, x = .int i ∧ y = .int j ∧ (0 ≤ j ∧ j ≤ 1000000 ∧ i.natAbs < 2 ^ 64) ∧ P (.int (i ^ j.toNat))
theorem lift_pow : Lift2 K (rI CPow fun i j => .int (i ^ j.toNat)) oPow .cl := by
  rintro Z W H px py vx vy P Q S rx ry ⟨i, j, rfl, rfl, c, hp⟩ k
  exact ⟨i, j, rx.int, ry.int, c, S.fin k Rp.int' hp⟩
def oNeg : PO1 := fun x P => ∃ i, x = .int i ∧ P (.int (-i))
theorem lift_neg : Lift1 K (rU fun i => .int (-i)) oNeg .cl := by
  rintro Z W H px vx P Q S rx ⟨i, rfl, hp⟩ k
  exact ⟨i, rx.int, S.fin k Rp.int' hp⟩
def oLt : PO2 := fun x y P => ∃ i j, x = .int i ∧ y = .int j ∧ P (.bl (decide (i < j)))
def oLe : PO2 := fun x y P => ∃ i j, x = .int i ∧ y = .int j ∧ P (.bl (decide (i ≤ j)))
def oGt : PO2 := fun x y P => ∃ i j, x = .int i ∧ y = .int j ∧ P (.bl (decide (j < i)))
def oGe : PO2 := fun x y P => ∃ i j, x = .int i ∧ y = .int j ∧ P (.bl (decide (j ≤ i)))
theorem lift_lt : Lift2 K (rI0 fun i j => .bl (decide (i < j))) oLt .cl := by
  rintro Z W H px py vx vy P Q S rx ry ⟨i, j, rfl, rfl, hp⟩ k
  exact ⟨i, j, rx.int, ry.int, S.fin k Rp.bl' hp⟩
theorem lift_le : Lift2 K (rI0 fun i j => .bl (decide (i ≤ j))) oLe .cl := by
  rintro Z W H px py vx vy P Q S rx ry ⟨i, j, rfl, rfl, hp⟩ k
  exact ⟨i, j, rx.int, ry.int, S.fin k Rp.bl' hp⟩
theorem lift_gt : Lift2 K (rI0 fun i j => .bl (decide (j < i))) oGt .cl := by
  rintro Z W H px py vx vy P Q S rx ry ⟨i, j, rfl, rfl, hp⟩ k
  exact ⟨i, j, rx.int, ry.int, S.fin k Rp.bl' hp⟩
theorem lift_ge : Lift2 K (rI0 fun i j => .bl (decide (j ≤ i))) oGe .cl := by
  rintro Z W H px py vx vy P Q S rx ry ⟨i, j, rfl, rfl, hp⟩ k
  exact ⟨i, j, rx.int, ry.int, S.fin k Rp.bl' hp⟩

/-! ### +, * -/
def oAdd : PO2 := fun x y P => match x, y with
  | .int i, .int j => P (.int (i + j))
  | .tup a, .tup b => a.length + b.length ≤ sizeLine ∧ P (.tup (a ++ b))
  | .str a, .str b => a.length + b.length ≤ sizeLine ∧ P (.str (a ++ b))
  | .lst a, .lst b => a.length + b.length ≤ sizeLine ∧ P (.lst (a ++ b))
  | _, _ => False
def rStr : R2 := fun x y H Q => ∃ i j, x = .str i ∧ y = .str j ∧ i.length + j.length ≤ sizeLine ∧ Q (.str (i ++ j)) H
abbrev rPlus (K : PySem.W.Frag) : R2 := fun x y H Q => (rI0 (fun i j => .int (i + j)) x y H Q ∨ rCatA K x y H Q) ∨ (rStr x y H Q ∨ rCat x y H Q)
theorem op_plus {X : Cx} : OpR X (binaryOp .Add) (rPlus X.K) := OpR.or (OpR.or op_add op_catA) (OpR.or op_add_str op_cat)
theorem Rps.isNil {S : Wd} {ps : List PV} {vs : List V} (h : Rps K S ps vs) : ps = [] ↔ vs = [] := by
  have l := h.len
  constructor
  · intro e; rw [e] at l; exact List.eq_nil_of_length_eq_zero l.symm
  · intro e; rw [e] at l; exact List.eq_nil_of_length_eq_zero l
theorem lift_cat {P : PV → Prop} {Q : VK} {Z : Addr → Prop} {W : Ws} {H : Hp} {a b : List PV} {vx vy : V} (S : Sit Z W H) (rx : RpO K ⟨Z, W, H⟩ (.lst a) vx) (ry : RpO K ⟨Z, W, H⟩ (.lst b) vy) (hl : a.length + b.length ≤ sizeLine) (hp : P (.lst (a ++ b)))
    (k : ∀ p v H', Grow W H H' → VK1 K .fr Z W H H' p v → P p → Q v H') : rCat vx vy H Q := by
  obtain ⟨l1, vs, rfl, ⟨_, e1⟩, r1⟩ := rx.lst
  obtain ⟨l2, ws, rfl, ⟨_, e2⟩, r2⟩ := ry.lst
  refine ⟨l1, l2, vs, ws, rfl, rfl, e1, e2, by rw [← r1.len, ← r2.len]; exact hl, fun p n => ?_⟩
  exact k _ _ _ (Grow.new S.src n) ⟨p, rfl, n, OwnAt.newLst n (r1.append r2)⟩ hp
theorem lift_plus : Lift2 K (rPlus K) oAdd .cl := by
  intro Z W H px py vx vy P Q S rx ry h k
  cases px with
  | int i =>
    cases py with
    | int j => exact .inl (.inl ⟨i, j, rx.int, ry.int, S.fin k Rp.int' h⟩)
    | _ => exact h.elim
  | str i =>
    cases py with
    | str j => exact .inr (.inl ⟨i, j, rx.str, ry.str, h.1, S.fin k Rp.str' h.2⟩)
    | _ => exact h.elim
  | tup a =>
    cases py with
    | tup b =>
      obtain ⟨hl, hp⟩ := h
      have rx' : Rp K ⟨Z, W, H⟩ (.tup a) vx := rx
      have ry' : Rp K ⟨Z, W, H⟩ (.tup b) vy := ry
      obtain ⟨l1, vs, rfl, e1, r1⟩ := rx.tup
      obtain ⟨l2, ws, rfl, e2, r2⟩ := ry.tup
      refine .inl (.inr ⟨l1, l2, vs, ws, rfl, rfl, e1.sq, e2.sq, by rw [← r1.len, ← r2.len]; exact hl, fun z => ?_, fun _ z => ?_, fun _ _ p n => ?_⟩)
      · rw [r1.isNil.mpr z, List.nil_append] at hp
        exact S.fin k ry' hp
      · rw [r2.isNil.mpr z, List.append_nil] at hp
        exact S.fin k rx' hp
      · exact k _ _ _ (Grow.new S.src n) (VK1.ofRp (Rp.newTup (S.nz n) n S.src S.wz (r1.append r2))) hp
    | _ => exact h.elim
  | lst a =>
    cases py with
    | lst b => exact .inr (.inr (lift_cat S rx ry h.1 h.2 fun p v H' g r hp => k p v H' g (VK1.cl S.zd r) hp))
    | _ => exact h.elim
  | _ => exact h.elim
/-- lists, the sum a new one -/
def oCat : PO2 := fun x y P => ∃ a b, x = .lst a ∧ y = .lst b ∧ a.length + b.length ≤ sizeLine ∧ P (.lst (a ++ b))
theorem lift_catF : Lift2 K rCat oCat .fr := by
  rintro Z W H px py vx vy P Q S rx ry ⟨a, b, rfl, rfl, hl, hp⟩ k
  exact lift_cat S rx ry hl hp k
def oMul : PO2 := fun x y P => ∃ i j, x = .int i ∧ y = .int j ∧ CMul i j ∧ P (.int (i * j))
theorem lift_mul : Lift2 K (rI CMul fun i j => .int (i * j)) oMul .cl := by
  rintro Z W H px py vx vy P Q S rx ry ⟨i, j, rfl, rfl, c, hp⟩ k
  exact ⟨i, j, rx.int, ry.int, c, S.fin k Rp.int' hp⟩
theorem Rps.rep {S : Wd} {ps : List PV} {vs : List V} (h : Rps K S ps vs) : ∀ n : Nat, Rps K S (List.replicate n ps).flatten (List.replicate n vs).flatten
  | 0 => Rps.nil
  | n + 1 => by
    rw [List.replicate_succ, List.replicate_succ, List.flatten_cons, List.flatten_cons]
    exact h.append (Rps.rep h n)
def oRep : PO2 := fun x y P => ∃ a k, x = .lst a ∧ y = .int k ∧ (-(2 ^ 63) ≤ k ∧ k < 2 ^ 63) ∧ a.length * k.toNat ≤ sizeLine ∧ P (.lst (List.replicate k.toNat a).flatten)
theorem lift_rep : Lift2 K rRep oRep .fr := by
  rintro Z W H px py vx vy P Q S rx ry ⟨a, i, rfl, rfl, ⟨h1, h2⟩, hl, hp⟩ k
  obtain ⟨l1, vs, rfl, ⟨_, e1⟩, r1⟩ := rx.lst
  refine ⟨l1, i, vs, rfl, ry.int, e1, h1, h2, by rw [← r1.len]; exact hl, fun p n => ?_⟩
  exact k _ _ _ (Grow.new S.src n) ⟨p, rfl, n, OwnAt.newLst n (r1.rep _)⟩ hp

/-! ### == of data -/
mutual
def toD : PV → Option PyData
  | .non => some .none
  | .bl b => some (.bool b)
  | .int i => some (.int i)
  | .str x => some (.str x)
  | .tup ps => (toDs ps).map .tuple
  | .lst ps => (toDs ps).map .list
  | _ => none
def toDs : List PV → Option (List PyData)
  | [] => some []
  | p :: ps => (toD p).bind fun d => (toDs ps).map fun ds => d :: ds
end
mutual
theorem toD_dp {S : Wd} : ∀ {p : PV} {v : V} {d : PyData}, Rp K S p v → toD p = some d → Dp K S.H v d
  | .non, _, _, h, e => by unfold Rp at h; subst h; unfold toD at e; cases e; exact .non
  | .bl b, _, _, h, e => by unfold Rp at h; subst h; unfold toD at e; cases e; exact .bl b
  | .int b, _, _, h, e => by unfold Rp at h; subst h; unfold toD at e; cases e; exact .int b
  | .str b, _, _, h, e => by unfold Rp at h; subst h; unfold toD at e; cases e; exact .str b
  | .tup ps, _, _, h, e => by
    unfold Rp at h
    obtain ⟨a, vs, rfl, h1, h2⟩ := h
    unfold toD at e
    cases q : toDs ps with
    | none => rw [q] at e; cases e
    | some ds => rw [q] at e; cases e; exact .tup h1.sq (toDs_dp h2 q)
  | .lst ps, _, _, h, e => by
    unfold Rp at h
    obtain ⟨a, vs, rfl, h1, h2⟩ := h
    unfold toD at e
    cases q : toDs ps with
    | none => rw [q] at e; cases e
    | some ds => rw [q] at e; cases e; exact .lst h1.sq (toDs_dp h2 q)
  | .dic _ _, _, _, _, e => by unfold toD at e; cases e
  | .obj _ _ _ _, _, _, _, e => by unfold toD at e; cases e
  | .ref _, _, _, _, e => by unfold toD at e; cases e
  | .src, _, _, _, e => by unfold toD at e; cases e
  | .scr _, _, _, _, e => by unfold toD at e; cases e
theorem toDs_dp {S : Wd} : ∀ {ps : List PV} {vs : List V} {ds : List PyData}, Rps K S ps vs → toDs ps = some ds → DpAll K S.H vs ds
  | [], _, _, h, e => by unfold Rps at h; subst h; unfold toDs at e; cases e; exact .nil
  | p :: ps, _, _, h, e => by
    unfold Rps at h
    obtain ⟨v, r, rfl, h1, h2⟩ := h
    unfold toDs at e
    cases q : toD p with
    | none => rw [q] at e; cases e
    | some d =>
      rw [q] at e
      cases q2 : toDs ps with
      | none => rw [q2] at e; cases e
      | some ds => rw [q2] at e; cases e; exact .cons (toD_dp h1 q) (toDs_dp h2 q2)
end
theorem toD_dpO {Z : Addr → Prop} {W : Ws} {H : Hp} {p : PV} {v : V} {d : PyData} (h : RpO K ⟨Z, W, H⟩ p v) (e : toD p = some d) : Dp K H v d := by
  cases p with
  | lst ps =>
    obtain ⟨a, vs, rfl, h1, h2⟩ := h.lst
    unfold toD at e
    cases q : toDs ps with
    | none => rw [q] at e; cases e
    | some ds => rw [q] at e; cases e; exact .lst (.inl (.inl h1.2)) (toDs_dp h2 q)
  | dic _ _ => unfold toD at e; cases e
  | non => exact toD_dp (S := ⟨Z, W, H⟩) h e
  | bl _ => exact toD_dp (S := ⟨Z, W, H⟩) h e
  | int _ => exact toD_dp (S := ⟨Z, W, H⟩) h e
  | str _ => exact toD_dp (S := ⟨Z, W, H⟩) h e
  | tup _ => exact toD_dp (S := ⟨Z, W, H⟩) h e
  | obj _ _ _ _ => unfold toD at e; cases e
  | ref _ => unfold toD at e; cases e
  | src => unfold toD at e; cases e
  | scr _ => unfold toD at e; cases e
  | iset _ => unfold toD at e; cases e
  | pdic _ => unfold toD at e; cases e
def oEq : PO2 := fun x y P => ∃ d e, toD x = some d ∧ toD y = some e ∧ SeqAt.shaped d = true ∧ SeqAt.shaped e = true ∧ P (.bl (PyData.eqv d e))
def oNe : PO2 := fun x y P => ∃ d e, toD x = some d ∧ toD y = some e ∧ SeqAt.shaped d = true ∧ SeqAt.shaped e = true ∧ P (.bl (!PyData.eqv d e))
theorem lift_eq : Lift2 K (rEqD K) oEq .cl := by
  rintro Z W H px py vx vy P Q S rx ry ⟨d, e, h1, h2, s1, s2, hp⟩ k
  exact ⟨d, e, toD_dpO rx h1, toD_dpO ry h2, s1, s2, S.fin k Rp.bl' hp⟩
theorem lift_ne : Lift2 K (rNeD K) oNe .cl := by
  rintro Z W H px py vx vy P Q S rx ry ⟨d, e, h1, h2, s1, s2, hp⟩ k
  exact ⟨d, e, toD_dpO rx h1, toD_dpO ry h2, s1, s2, S.fin k Rp.bl' hp⟩
/-- == of scalars, short -/
def oEqS : PO2 := fun x y P => match x, y with
  | .int i, .int j => P (.bl (decide (i = j)))
  | .str i, .str j => P (.bl (decide (i = j)))
  | .bl i, .bl j => P (.bl (decide (i = j)))
  | _, _ => False
def oNeS : PO2 := fun x y P => match x, y with
  | .int i, .int j => P (.bl (!decide (i = j)))
  | .str i, .str j => P (.bl (!decide (i = j)))
  | .bl i, .bl j => P (.bl (!decide (i = j)))
  | _, _ => False

/-! ### is -/
def isNon : PV → Bool
  | .non => true
  | _ => false
theorem RpO.isNon {Z : Addr → Prop} {W : Ws} {H : Hp} {p : PV} {v : V} (h : RpO K ⟨Z, W, H⟩ p v) : decide (v = .non) = isNon p := by
  cases p with
  | non => rw [h.non]; rfl
  | bl b => rw [h.bl]; rfl
  | int b => rw [h.int]; rfl
  | str b => rw [h.str]; rfl
  | tup b => obtain ⟨a, vs, rfl, _⟩ := h.tup; rfl
  | lst b => obtain ⟨a, vs, rfl, _⟩ := h.lst; rfl
  | dic _ _ => obtain ⟨a, vs, rfl, _⟩ := h; rfl
  | obj _ _ _ _ => unfold RpO Rp at h; obtain ⟨_, a, vs, rfl, _⟩ := h; rfl
  | ref _ => unfold RpO Rp at h; subst h; rfl
  | src => unfold RpO Rp at h; obtain ⟨p, _, rfl⟩ := h; rfl
  | scr _ => unfold RpO Rp at h; obtain ⟨p, rfl, _⟩ := h; rfl
  | iset _ => unfold RpO Rp at h; obtain ⟨p, n, rfl, _⟩ := h; rfl
  | pdic _ => obtain ⟨a, L, rfl, _⟩ := h; rfl
def oIsN : PO2 := fun x y P => y = .non ∧ P (.bl (isNon x))
def oNotN : PO2 := fun x y P => y = .non ∧ P (.bl (!isNon x))
theorem lift_isN : Lift2 K (fun x y H Q => y = .non ∧ Q (.bl (decide (x = .non))) H) oIsN .cl := by
  rintro Z W H px py vx vy P Q S rx ry ⟨rfl, hp⟩ k
  refine ⟨ry.non, ?_⟩
  rw [rx.isNon]
  exact S.fin k Rp.bl' hp
theorem lift_notN : Lift2 K (fun x y H Q => y = .non ∧ Q (.bl (!decide (x = .non))) H) oNotN .cl := by
  rintro Z W H px py vx vy P Q S rx ry ⟨rfl, hp⟩ k
  refine ⟨ry.non, ?_⟩
  rw [rx.isNon]
  exact S.fin k Rp.bl' hp
def oIsB : PO2 := fun x y P => ∃ a b, x = .bl a ∧ y = .bl b ∧ P (.bl (decide (a = b)))
def oNotB : PO2 := fun x y P => ∃ a b, x = .bl a ∧ y = .bl b ∧ P (.bl (!decide (a = b)))
theorem lift_isB : Lift2 K rIsB oIsB .cl := by
  rintro Z W H px py vx vy P Q S rx ry ⟨a, b, rfl, rfl, hp⟩ k
  exact ⟨a, b, rx.bl, ry.bl, S.fin k Rp.bl' hp⟩
theorem lift_notB : Lift2 K rNotB oNotB .cl := by
  rintro Z W H px py vx vy P Q S rx ry ⟨a, b, rfl, rfl, hp⟩ k
  exact ⟨a, b, rx.bl, ry.bl, S.fin k Rp.bl' hp⟩

/-! ### in, of flat things -/
def flatP : PV → Bool
  | .non => true
  | .bl _ => true
  | .int _ => true
  | .str _ => true
  | _ => false
def eqP : PV → PV → Bool
  | .non, .non => true
  | .bl a, .bl b => a == b
  | .bl a, .int b => (if a then 1 else 0) == b
  | .int a, .bl b => a == (if b then 1 else 0)
  | .int a, .int b => a == b
  | .str a, .str b => a == b
  | _, _ => false
def flV : PV → V
  | .bl b => .bl b
  | .int i => .int i
  | .str x => .str x
  | _ => .non
theorem RpO.flat {Z : Addr → Prop} {W : Ws} {H : Hp} {p : PV} {v : V} (h : RpO K ⟨Z, W, H⟩ p v) (f : flatP p = true) : v = flV p := by
  cases p with
  | non => exact h.non
  | bl b => exact h.bl
  | int b => exact h.int
  | str b => exact h.str
  | _ => exact absurd f (by simp [flatP])
theorem flV_flat {p : PV} (f : flatP p = true) : flatV (flV p) = true := by cases p <;> first | rfl | exact absurd f (by simp [flatP])
theorem flV_eq {p q : PV} (f : flatP p = true) (g : flatP q = true) : eqV (flV p) (flV q) = eqP p q := by
  cases p <;> cases q <;> first | rfl | (simp [flatP] at f; done) | (simp [flatP] at g; done)
theorem Rps.flat {S : Wd} : ∀ {ps : List PV} {vs : List V}, Rps K S ps vs → ps.all flatP = true → vs = ps.map flV
  | [], _, h, _ => by unfold Rps at h; exact h
  | p :: ps, _, h, f => by
    unfold Rps at h
    obtain ⟨v, r, rfl, h1, h2⟩ := h
    rw [List.all_cons, Bool.and_eq_true] at f
    rw [List.map_cons, Rps.flat h2 f.2]
    obtain ⟨Z, W, H⟩ := S
    have e : v = flV p := by
      cases p with
      | non => unfold Rp at h1; exact h1
      | bl b => unfold Rp at h1; exact h1
      | int b => unfold Rp at h1; exact h1
      | str b => unfold Rp at h1; exact h1
      | _ => exact absurd f.1 (by simp [flatP])
    rw [e]
def inP (x : PV) (ps : List PV) : Bool := ps.any fun y => eqP y x
theorem inV_flat {x : PV} (f : flatP x = true) : ∀ {ps : List PV}, ps.all flatP = true → inV (flV x) (ps.map flV) = inP x ps
  | [], _ => rfl
  | p :: ps, h => by
    rw [List.all_cons, Bool.and_eq_true] at h
    have e := inV_flat f h.2
    unfold inV inP at e ⊢
    rw [List.map_cons, List.any_cons, List.any_cons, flV_eq h.1 f, e]
def oIn (neg : Bool) : PO2 := fun x y P => ∃ ps, (y = .lst ps ∨ y = .tup ps) ∧ flatP x = true ∧ ps.all flatP = true ∧ P (.bl (if neg then !inP x ps else inP x ps))
theorem lift_in {neg : Bool} : Lift2 K (rIn K neg) (oIn neg) .cl := by
  rintro Z W H px py vx vy P Q S rx ry ⟨ps, hy, fx, fs, hp⟩ k
  have ex := rx.flat fx
  subst ex
  rcases hy with rfl | rfl
  · obtain ⟨a, vs, rfl, e, r⟩ := ry.lst
    have ev := r.flat fs
    subst ev
    refine ⟨a, _, rfl, .inl (.inl (.inl e.2)), flV_flat fx, ?_, ?_⟩
    · rw [List.all_eq_true] at fs ⊢
      intro v hv
      obtain ⟨p, hp, rfl⟩ := List.mem_map.mp hv
      exact flV_flat (fs p hp)
    · rw [inV_flat fx fs]
      exact S.fin k Rp.bl' hp
  · obtain ⟨a, vs, rfl, e, r⟩ := ry.tup
    have ev := r.flat fs
    subst ev
    refine ⟨a, _, rfl, .inr e.sq, flV_flat fx, ?_, ?_⟩
    · rw [List.all_eq_true] at fs ⊢
      intro v hv
      obtain ⟨p, hp, rfl⟩ := List.mem_map.mp hv
      exact flV_flat (fs p hp)
    · rw [inV_flat fx fs]
      exact S.fin k Rp.bl' hp

/-! ### subscripts -/
def oIx : PO2 := fun x y P => match x, y with
  | .lst ps, .int i => ∃ p, atI ps i = some p ∧ P p
  | .tup ps, .int i => ∃ p, atI ps i = some p ∧ P p
  | .str z, .int i => z.length ≤ sizeLine ∧ ∃ c, atI z.cps.toList i = some c ∧ P (.str ⟨#[c]⟩)
  | _, _ => False
theorem Rps.atI {S : Wd} {ps : List PV} {vs : List V} {i : Int} {p : PV} (h : Rps K S ps vs) (e : L2.atI ps i = some p) : ∃ v, L2.atI vs i = some v ∧ Rp K S p v := by
  unfold L2.atI at e ⊢
  rw [← h.len]
  cases q : ixN ps.length i with
  | none => rw [q] at e; cases e
  | some j =>
    rw [q] at e
    exact h.get (i := j) e
theorem lift_ix : Lift2 K (rIx K) oIx .cl := by
  intro Z W H px py vx vy P Q S rx ry h k
  cases px with
  | lst ps =>
    cases py with
    | int i =>
      obtain ⟨p, e, hp⟩ := h
      obtain ⟨a, vs, rfl, e1, r⟩ := rx.lst
      obtain ⟨v, e2, r2⟩ := r.atI e
      exact .inl ⟨a, vs, i, v, rfl, ry.int, .inl (.inl e1.2), e2, S.fin k r2 hp⟩
    | _ => exact h.elim
  | tup ps =>
    cases py with
    | int i =>
      obtain ⟨p, e, hp⟩ := h
      obtain ⟨a, vs, rfl, e1, r⟩ := rx.tup
      obtain ⟨v, e2, r2⟩ := r.atI e
      exact .inr (.inl ⟨a, vs, i, v, rfl, ry.int, e1.sq, e2, S.fin k r2 hp⟩)
    | _ => exact h.elim
  | str z =>
    cases py with
    | int i =>
      obtain ⟨hl, c, e, hp⟩ := h
      exact .inr (.inr ⟨z, i, c, rx.str, ry.int, hl, e, S.fin k Rp.str' hp⟩)
    | _ => exact h.elim
  | _ => exact h.elim
theorem em_ix {X : Cx} {c : List Ow} {a b : Expr} {ta tb : TEm} {pos : Pos} (ha : PEm X c .ow a ta) (hb : PEm X c .ow b tb) (hs : PlainIx b) : PEm X c .cl (.Subscript a b pos) (mOp oIx ta tb) := ⟨(pe_ix ix_seq ha.run hb.run hs).weak (tm2 lift_ix)⟩
end
end PM

set_option maxHeartbeats 1000000
/-! PM: slices, built-ins. -/
namespace PM
open PySem L2
/-! ### sorting -/
def ins (x : Int) : List Int → List Int
  | [] => [x]
  | y :: ys => if x ≤ y then x :: y :: ys else y :: ins x ys
def isort : List Int → List Int
  | [] => []
  | x :: xs => ins x (isort xs)
theorem ins_perm (x : Int) : ∀ ys, (ins x ys).Perm (x :: ys)
  | [] => List.Perm.refl _
  | y :: ys => by
    unfold ins
    split
    · exact List.Perm.refl _
    · exact ((ins_perm x ys).cons y).trans (List.Perm.swap x y ys)
theorem isort_perm : ∀ xs, (isort xs).Perm xs
  | [] => List.Perm.refl _
  | x :: xs => (ins_perm x (isort xs)).trans ((isort_perm xs).cons x)
theorem ins_sorted (x : Int) : ∀ ys : List Int, ys.Pairwise (· ≤ ·) → (ins x ys).Pairwise (· ≤ ·)
  | [], _ => by unfold ins; exact List.pairwise_singleton _ _
  | y :: ys, h => by
    unfold ins
    rw [List.pairwise_cons] at h
    split
    · rename_i hxy
      refine List.pairwise_cons.mpr ⟨fun z hz => ?_, List.pairwise_cons.mpr h⟩
      rcases List.mem_cons.mp hz with rfl | hz
      · exact hxy
      · exact Int.le_trans hxy (h.1 z hz)
    · rename_i hxy
      refine List.pairwise_cons.mpr ⟨fun z hz => ?_, ins_sorted x ys h.2⟩
      rcases List.mem_cons.mp ((ins_perm x ys).mem_iff.mp hz) with rfl | hz
      · omega
      · exact h.1 z hz
theorem isort_sorted : ∀ xs, (isort xs).Pairwise (· ≤ ·)
  | [] => List.Pairwise.nil
  | x :: xs => ins_sorted x _ (isort_sorted xs)
theorem sorted_unique {xs ys : List Int} (p : xs.Perm ys) (hx : xs.Pairwise (· ≤ ·)) (hy : ys.Pairwise (· ≤ ·)) : xs = ys :=
  p.eq_of_pairwise (fun a b _ _ h1 h2 => Int.le_antisymm h1 h2) hx hy
theorem isort_eq {xs ys : List Int} (p : ys.Perm xs) (h : ys.Pairwise (· ≤ ·)) : ys = isort xs := sorted_unique (p.trans (isort_perm xs).symm) h (isort_sorted xs)

section
variable {K : PySem.W.Frag}
theorem VKs.nil_inv {Z : Addr → Prop} {W : Ws} {H : Hp} {vs : List V} (h : VKs K .ow Z W H [] vs) : vs = [] := by cases h; rfl
theorem VKs.one {Z : Addr → Prop} {W : Ws} {H : Hp} {p : PV} {vs : List V} (h : VKs K .ow Z W H [p] vs) : ∃ v, vs = [v] ∧ RpO K ⟨Z, W, H⟩ p v := by
  cases h with
  | cons h t => cases t; exact ⟨_, rfl, h⟩
theorem VKs.two {Z : Addr → Prop} {W : Ws} {H : Hp} {p q : PV} {vs : List V} (h : VKs K .ow Z W H [p, q] vs) : ∃ v w, vs = [v, w] ∧ RpO K ⟨Z, W, H⟩ p v ∧ RpO K ⟨Z, W, H⟩ q w := by
  cases h with
  | cons h t => cases t with
    | cons h' t' => cases t'; exact ⟨_, _, rfl, h, h'⟩
/-! ### numbers -/
def oAbs : POn := fun xs P => ∃ i, xs = [.int i] ∧ P (.int (if i < 0 then -i else i))
theorem lift_abs : LiftN K (fun xs H Q => ∃ i, xs = [.int i] ∧ Q (.int (if i < 0 then -i else i)) H) oAbs .cl := by
  rintro Z W H ps vs P Q S r ⟨i, rfl, hp⟩ k
  obtain ⟨v, rfl, rv⟩ := r.one
  exact ⟨i, by rw [rv.int], S.fin k Rp.int' hp⟩
def oMax2 : POn := fun xs P => ∃ i j, xs = [.int i, .int j] ∧ P (.int (if j > i then j else i))
def oMin2 : POn := fun xs P => ∃ i j, xs = [.int i, .int j] ∧ P (.int (if j < i then j else i))
theorem lift_max2 : LiftN K (fun xs H Q => ∃ i j, xs = [.int i, .int j] ∧ Q (.int (if j > i then j else i)) H) oMax2 .cl := by
  rintro Z W H ps vs P Q S r ⟨i, j, rfl, hp⟩ k
  obtain ⟨v, w, rfl, rv, rw'⟩ := r.two
  exact ⟨i, j, by rw [rv.int, rw'.int], S.fin k Rp.int' hp⟩
theorem lift_min2 : LiftN K (fun xs H Q => ∃ i j, xs = [.int i, .int j] ∧ Q (.int (if j < i then j else i)) H) oMin2 .cl := by
  rintro Z W H ps vs P Q S r ⟨i, j, rfl, hp⟩ k
  obtain ⟨v, w, rfl, rv, rw'⟩ := r.two
  exact ⟨i, j, by rw [rv.int, rw'.int], S.fin k Rp.int' hp⟩
def oInt : POn := fun xs P => match xs with
  | [.int i] => P (.int i)
  | [.bl b] => P (.int (if b then 1 else 0))
  | _ => False
theorem lift_int : LiftN K (fun xs H Q => (∃ i, xs = [.int i] ∧ Q (.int i) H) ∨ ∃ k, xs = [.bl k] ∧ Q (.int (if k then 1 else 0)) H) oInt .cl := by
  intro Z W H ps vs P Q S r h k
  match ps, h with
  | [.int i], h =>
    obtain ⟨v, rfl, rv⟩ := r.one
    exact .inl ⟨i, by rw [rv.int], S.fin k Rp.int' h⟩
  | [.bl i], h =>
    obtain ⟨v, rfl, rv⟩ := r.one
    exact .inr ⟨i, by rw [rv.bl], S.fin k Rp.int' h⟩
/-! ### len, list, tuple, sorted, sum .. -/
def plen : PV → Option Nat
  | .lst ps => some ps.length
  | .tup ps => some ps.length
  | .dic ks _ => some ks.length
  | .str x => if x.length ≤ sizeLine then some x.length else none
  | .scr ns => some ns.length
  | _ => none
def oLen : POn := fun xs P => ∃ x n, xs = [x] ∧ plen x = some n ∧ P (.int (n : Int))
abbrev rLen (K : PySem.W.Frag) : List V → Hp → VK → Prop := fun xs H Q => (∃ x n, xs = [x] ∧ LenV K x H n ∧ Q (.int n) H) ∨ (∃ a kvs, xs = [V.ref a] ∧ H a = some (.dK kvs) ∧ Q (.int kvs.length) H)
theorem call_lenA {X : Cx} : CallR X (.builtin "len") (rLen X.K) := CallR.or call_len call_lenD
theorem lift_len : LiftN K (rLen K) oLen .cl := by
  rintro Z W H ps vs P Q S r ⟨x, n, rfl, hn, hp⟩ k
  obtain ⟨v, rfl, rv⟩ := r.one
  cases x with
  | lst ps =>
    obtain ⟨a, ws, rfl, e, r1⟩ := rv.lst
    obtain rfl : ps.length = n := Option.some.inj hn
    exact .inl ⟨_, ps.length, rfl, .inl ⟨ws, .inl (.inl e.2), r1.len⟩, S.fin k Rp.int' hp⟩
  | tup ps =>
    obtain ⟨a, ws, rfl, e, r1⟩ := rv.tup
    obtain rfl : ps.length = n := Option.some.inj hn
    exact .inl ⟨_, ps.length, rfl, .inr ⟨ws, e.sq, r1.len⟩, S.fin k Rp.int' hp⟩
  | dic ks ps =>
    obtain ⟨a, ws, rfl, _, e, l, r1⟩ := rv
    obtain rfl : ks.length = n := Option.some.inj hn
    have el : (ks.zip ws).length = ks.length := by rw [List.length_zip, ← l, Nat.min_self]
    refine .inr ⟨a, _, rfl, e, ?_⟩
    rw [el]
    exact S.fin k Rp.int' hp
  | str x =>
    rw [rv.str]
    have hn' : (if x.length ≤ sizeLine then some x.length else none) = some n := hn
    by_cases hl : x.length ≤ sizeLine
    · rw [if_pos hl] at hn'
      obtain rfl : x.length = n := Option.some.inj hn'
      exact .inl ⟨_, x.length, rfl, ⟨hl, rfl⟩, S.fin k Rp.int' hp⟩
    · rw [if_neg hl] at hn'; cases hn'
  | scr ns =>
    unfold RpO Rp at rv
    obtain ⟨a, rfl, e⟩ := rv
    obtain rfl : ns.length = n := Option.some.inj hn
    have e' : SqL K H a (ns.map V.int) := e.elim (fun z => let ⟨o, w⟩ := z.2; .inl (.inr ⟨o, w⟩)) .inr
    exact .inl ⟨_, ns.length, rfl, .inl ⟨ns.map V.int, e', by rw [List.length_map]⟩, S.fin k Rp.int' hp⟩
  | _ => cases hn
/-- the items of a list or tuple -/
def seqP : PV → Option (List PV)
  | .lst ps => some ps
  | .tup ps => some ps
  | _ => none
theorem RpO.seq {Z : Addr → Prop} {W : Ws} {H : Hp} {p : PV} {ps : List PV} {v : V} (h : RpO K ⟨Z, W, H⟩ p v) (e : seqP p = some ps) : ∃ a vs, v = .ref a ∧ (SqL K H a vs ∨ SqT K H a vs) ∧ Rps K ⟨Z, W, H⟩ ps vs := by
  cases p with
  | lst qs =>
    obtain rfl : qs = ps := Option.some.inj e
    obtain ⟨a, ws, rfl, e, r1⟩ := h.lst
    exact ⟨a, ws, rfl, .inl (.inl (.inl e.2)), r1⟩
  | tup qs =>
    obtain rfl : qs = ps := Option.some.inj e
    obtain ⟨a, ws, rfl, e, r1⟩ := h.tup
    exact ⟨a, ws, rfl, .inr e.sq, r1⟩
  | _ => cases e
def oList : POn := fun xs P => ∃ x ps, xs = [x] ∧ seqP x = some ps ∧ P (.lst ps)
theorem lift_list : LiftN K (fun xs H Q => ∃ p ys, xs = [.ref p] ∧ (SqL K H p ys ∨ SqT K H p ys) ∧ ∀ l, H l = none → Q (.ref l) (upd H l (.lst ys))) oList .fr := by
  rintro Z W H ps vs P Q S r ⟨x, qs, rfl, hn, hp⟩ k
  obtain ⟨v, rfl, rv⟩ := r.one
  obtain ⟨a, ws, rfl, e, r1⟩ := rv.seq hn
  exact ⟨a, ws, rfl, e, fun l n => k _ _ _ (Grow.new S.src n) ⟨l, rfl, n, OwnAt.newLst n r1⟩ hp⟩
def oTuple : POn := fun xs P => ∃ x ps, xs = [x] ∧ seqP x = some ps ∧ P (.tup ps)
theorem lift_tuple : LiftN K (fun xs H Q => ∃ p ys, xs = [.ref p] ∧ ((SqL K H p ys ∧ ∀ l, H l = none → Q (.ref l) (upd H l (.tup ys))) ∨ (SqT K H p ys ∧ Q (.ref p) H))) oTuple .cl := by
  rintro Z W H ps vs P Q S r ⟨x, qs, rfl, hn, hp⟩ k
  obtain ⟨v, rfl, rv⟩ := r.one
  cases x with
  | lst ps =>
    obtain rfl : ps = qs := Option.some.inj hn
    obtain ⟨a, ws, rfl, e, r1⟩ := rv.lst
    exact ⟨a, ws, rfl, .inl ⟨.inl (.inl e.2), fun l n => k _ _ _ (Grow.new S.src n) (VK1.ofRp (Rp.newTup (S.nz n) n S.src S.wz r1)) hp⟩⟩
  | tup ps =>
    obtain rfl : ps = qs := Option.some.inj hn
    have rv' : Rp K ⟨Z, W, H⟩ (.tup ps) v := rv
    obtain ⟨a, ws, rfl, e, r1⟩ := rv.tup
    exact ⟨a, ws, rfl, .inr ⟨e.sq, S.fin k rv' hp⟩⟩
  | _ => cases hn
def intKey (i : Int) : Key := Sum.inl i
def oSorted : POn := fun xs P => ∃ ns : List Int, (xs = [.lst (ns.map .int)] ∨ ((∃ vs, xs = [.dic (ns.map intKey) vs]) ∧ ns.length < 64)) ∧ P (.lst ((isort ns).map .int))
abbrev rSortedA (K : PySem.W.Frag) : List V → Hp → VK → Prop := fun xs H Q => rSortedI K xs H Q ∨ (∃ (a : Addr) (kvs : List (Key × V)) (ks : List Int), xs = [.ref a] ∧ Rd H a (.dK kvs) ∧ kvs.map (·.1) = ks.map Sum.inl ∧ ks.length < 64 ∧
    ∀ (ys : List Int) (p : Addr), ys.Perm ks → ys.Pairwise (· ≤ ·) → H p = none → Q (.ref p) (upd H p (.lst (ys.map V.int))))
theorem call_sortedA {X : Cx} (hc : X.calm = true) : CallR X (.builtin "sorted") (rSortedA X.K) := CallR.or cr_sortedI (call_sortedDI hc)
theorem lift_sorted : LiftN K (rSortedA K) oSorted .fr := by
  rintro Z W H ps vs P Q S r ⟨ns, h, hp⟩ k
  have fin : ∀ (ys : List Int) (p : Addr), ys.Perm ns → ys.Pairwise (· ≤ ·) → H p = none → Q (.ref p) (upd H p (.lst (ys.map V.int))) := fun ys p hy hs n => by
    rw [isort_eq hy hs]
    exact k _ _ _ (Grow.new S.src n) ⟨p, rfl, n, OwnAt.newLst n (Rps.ints.mpr rfl)⟩ hp
  rcases h with rfl | ⟨⟨vals, rfl⟩, h64⟩
  · obtain ⟨v, rfl, rv⟩ := r.one
    obtain ⟨a, ws, rfl, e, r1⟩ := rv.lst
    have ew := Rps.ints.mp r1
    subst ew
    exact .inl ⟨a, ns, rfl, .inl (.inl e.2), fin⟩
  · obtain ⟨v, rfl, rv⟩ := r.one
    obtain ⟨a, ws, rfl, _, e, l, r1⟩ := rv
    refine .inr ⟨a, _, ns, rfl, .inl e, ?_, h64, fin⟩
    exact List.map_fst_zip (Nat.le_of_eq l)
def oSum : POn := fun xs P => ∃ ns : List Int, xs = [.lst (ns.map .int)] ∧ P (.int ns.sum)
theorem lift_sum : LiftN K (rSum K) oSum .cl := by
  rintro Z W H ps vs P Q S r ⟨ns, rfl, hp⟩ k
  obtain ⟨v, rfl, rv⟩ := r.one
  obtain ⟨a, ws, rfl, e, r1⟩ := rv.lst
  have ew := Rps.ints.mp r1
  subst ew
  exact ⟨a, ns, rfl, .inl (.inl e.2), S.fin k Rp.int' hp⟩
def oMaxL : POn := fun xs P => ∃ ns : List Int, xs = [.lst (ns.map .int)] ∧ 0 < ns.length ∧ ∀ m, m ∈ ns → (∀ y, y ∈ ns → y ≤ m) → P (.int m)
def oMinL : POn := fun xs P => ∃ ns : List Int, xs = [.lst (ns.map .int)] ∧ 0 < ns.length ∧ ∀ m, m ∈ ns → (∀ y, y ∈ ns → m ≤ y) → P (.int m)
theorem lift_maxL : LiftN K (rMax K) oMaxL .cl := by
  rintro Z W H ps vs P Q S r ⟨ns, rfl, h0, hp⟩ k
  obtain ⟨v, rfl, rv⟩ := r.one
  obtain ⟨a, ws, rfl, e, r1⟩ := rv.lst
  have ew := Rps.ints.mp r1
  subst ew
  exact ⟨a, ns, rfl, .inl (.inl e.2), h0, fun m h1 h2 => S.fin k Rp.int' (hp m h1 h2)⟩
theorem lift_minL : LiftN K (rMin K) oMinL .cl := by
  rintro Z W H ps vs P Q S r ⟨ns, rfl, h0, hp⟩ k
  obtain ⟨v, rfl, rv⟩ := r.one
  obtain ⟨a, ws, rfl, e, r1⟩ := rv.lst
  have ew := Rps.ints.mp r1
  subst ew
  exact ⟨a, ns, rfl, .inl (.inl e.2), h0, fun m h1 h2 => S.fin k Rp.int' (hp m h1 h2)⟩
def oAll : POn := fun xs P => ∃ bs : List Bool, xs = [.lst (bs.map .bl)] ∧ P (.bl (bs.all id))
def oAny : POn := fun xs P => ∃ bs : List Bool, xs = [.lst (bs.map .bl)] ∧ P (.bl (bs.any id))
theorem lift_all : LiftN K (rAll K) oAll .cl := by
  rintro Z W H ps vs P Q S r ⟨ns, rfl, hp⟩ k
  obtain ⟨v, rfl, rv⟩ := r.one
  obtain ⟨a, ws, rfl, e, r1⟩ := rv.lst
  have ew := Rps.bls.mp r1
  subst ew
  exact ⟨a, ns, rfl, .inl (.inl e.2), S.fin k Rp.bl' hp⟩
theorem lift_any : LiftN K (rAny K) oAny .cl := by
  rintro Z W H ps vs P Q S r ⟨ns, rfl, hp⟩ k
  obtain ⟨v, rfl, rv⟩ := r.one
  obtain ⟨a, ws, rfl, e, r1⟩ := rv.lst
  have ew := Rps.bls.mp r1
  subst ew
  exact ⟨a, ns, rfl, .inl (.inl e.2), S.fin k Rp.bl' hp⟩

/-! ### isinstance -/
def pty : PV → Option String
  | .non => some "NoneType"
  | .bl _ => some "bool"
  | .int _ => some "int"
  | .str _ => some "str"
  | .tup _ => some "tuple"
  | .lst _ => some "list"
  | .dic _ _ => some "dict"
  | _ => none
theorem RpO.tyx {Z : Addr → Prop} {W : Ws} {H : Hp} {p : PV} {v : V} {T : String} (h : RpO K ⟨Z, W, H⟩ p v) (e : pty p = some T) : TyX K H v (.type T) := by
  cases p with
  | non => cases e; rw [h.non]; exact .base .non
  | bl _ => cases e; rw [h.bl]; exact .base (.bl _)
  | int _ => cases e; rw [h.int]; exact .base (.int _)
  | str _ => cases e; rw [h.str]; exact .base (.str _)
  | tup ps =>
    cases e
    obtain ⟨a, ws, rfl, e, r1⟩ := h.tup
    rcases e with e | ⟨o, its, n, h1, h2, _⟩
    · exact .base (.tup e.2)
    · exact .kTuple h1 h2
  | lst ps => cases e; obtain ⟨a, ws, rfl, e, r1⟩ := h.lst; exact .base (.lst e.2)
  | dic ks ps => cases e; obtain ⟨a, ws, rfl, _, e, _⟩ := h; exact .base (.dK e)
  | _ => cases e
def oIsi (T : String) : PO1 := fun x P => ∃ U b, pty x = some U ∧ kitB U T = some b ∧ P (.bl b)
theorem em_isi (T : String) {X : Cx} {c : List Ow} {a : Expr} {ta : TEm} {p p2 pos : Pos} {nm : Str} (ha : PEm X c .ow a ta) (hg : Gl X "isinstance") (hm : X.mg "isinstance" = none) (hgT : Gl X nm) (hmT : X.mg nm = none) (hT : bootBuiltins nm = some (.type T))
    (hn : nm ≠ "__name__" := by decide) (hd : (nm == ("__debug__" : Str)) = false := by decide)
    (he : starEach [a, .Name nm p2] X.env = (false, eval a X.env) :: starEach [.Name nm p2] X.env := by rfl) (he2 : starEach [.Name nm p2] X.env = (false, eval (.Name nm p2) X.env) :: starEach [] X.env := by rfl) (hpl : (backTo pos (starEach [.Name nm p2] X.env)).any (·.1) = false := by rfl) :
    PEm X c .cl (.Call (.Name "isinstance" p) [a, .Name nm p2] [] pos) (mOp1 (oIsi T) ta) := ⟨(pe_callB (r := rIsi X.K) call_isi hg hm PyProof.Rows.boot_isinstance (pa_cons ha.run (pa_cons (pe_bltn (v := .ty T) hgT hmT hT rfl hn hd) pa_nil he2) he) (by decide) (by decide) he hpl).weak fun σ H Q h => by
  obtain ⟨G, A, W, env, P, R, h, k⟩ := h
  refine ⟨G, A, W, env, _, R, h, fun px vx H1 g1 rx ⟨U, b, hU, hb, h1⟩ => ?_⟩
  exact ⟨vx, .ty T, .type U, .type T, b, rfl, .ty T, rx.tyx hU, kit_ty hb, k _ _ H1 g1 (VK1.ofRp Rp.bl') h1⟩⟩

/-! ### slices -/
structure POm (X : Cx) (c : List Ow) (e : Option Expr) (t : Env → (Option Int → Prop) → Prop) : Prop where
  run : PO X e (fun σ H Q => ∃ G A W env P, SR X.K G c A W env σ H ∧ t env P ∧ ∀ o H', Grow W H H' → P o → Q o H')
def mNo : Env → (Option Int → Prop) → Prop := fun _ P => P none
def mPart (t : TEm) : Env → (Option Int → Prop) → Prop := fun env P => t env fun x => ∃ i, x = .int i ∧ P (some i)
theorem om_none {X : Cx} {c : List Ow} : POm X c none mNo := ⟨⟨fun pins s σ H Q I h => po_none.run pins s σ H Q I (by
  obtain ⟨G, A, W, env, P, R, h, k⟩ := h
  exact k none H (Grow.refl R.src) h)⟩⟩
theorem om_some {X : Cx} {c : List Ow} {e : Expr} {t : TEm} (h : PEm X c .ow e t) : POm X c (some e) (mPart t) := ⟨⟨fun pins s σ H Q I x => (po_some h.run).run pins s σ H Q I (by
  obtain ⟨G, A, W, env, P, R, x, k⟩ := x
  refine ⟨G, A, W, env, _, R, x, fun p v H1 g1 r ⟨i, e, h1⟩ => ?_⟩
  subst e
  exact ⟨i, r.o.int, k _ H1 g1 h1⟩)⟩⟩
def cutP (xs : List PV) (lo hi : Option Int) : List PV := (xs.drop (HT.sIx xs.length 0 lo)).take (HT.sIx xs.length xs.length hi - HT.sIx xs.length 0 lo)
theorem Rps.cut {S : Wd} {ps : List PV} {vs : List V} (h : Rps K S ps vs) (lo hi : Option Int) : Rps K S (cutP ps lo hi) (cutV vs lo hi) := by
  unfold cutP cutV
  rw [h.len]
  exact Rps.take _ (Rps.drop _ h)
def mSl (o : PV → Option Int → Option Int → (PV → Prop) → Prop) (t : TEm) (tl th : Env → (Option Int → Prop) → Prop) : TEm := fun env P => t env fun x => tl env fun l => th env fun u => o x l u P
def oSlL : PV → Option Int → Option Int → (PV → Prop) → Prop := fun x l u P => ∃ ps, x = .lst ps ∧ P (.lst (cutP ps l u))
def oSlT : PV → Option Int → Option Int → (PV → Prop) → Prop := fun x l u P => ∃ ps, x = .tup ps ∧ P (.tup (cutP ps l u))
theorem cut_whole {xs : List PV} {lo hi : Option Int} (h : HT.sIx xs.length 0 lo = 0 ∧ HT.sIx xs.length xs.length hi = xs.length) : cutP xs lo hi = xs := by
  unfold cutP
  rw [h.1, h.2]
  simp
section
variable {X : Cx} {c : List Ow} {e : Expr} {lo hi : Option Expr} {te : TEm} {tl th : Env → (Option Int → Prop) → Prop} {pos p2 : Pos}
theorem em_slL (he : PEm X c .ow e te) (hl : POm X c lo tl) (hu : POm X c hi th) : PEm X c .fr (.Subscript e (.Slice lo hi none p2) pos) (mSl oSlL te tl th) := ⟨(pe_slice sl_list he.run hl.run hu.run).weak fun σ H Q h => by
  obtain ⟨G, A, W, env, P, R, h, k⟩ := h
  refine ⟨G, A, W, env, _, R, h, fun px vx H1 g1 rx h1 => ⟨G, A, W, env, _, R.grow g1, h1, fun l H2 g2 h2 => ⟨G, A, W, env, _, (R.grow g1).grow g2, h2, fun u H3 g3 h3 => ?_⟩⟩⟩
  have R3 := ((R.grow g1).grow g2).grow g3
  obtain ⟨ps, rfl, hp⟩ := h3
  obtain ⟨a, vs, rfl, e, r⟩ := RpO.lst (RpO.grow R.sz (g2.trans g3) rx.o)
  exact ⟨a, vs, rfl, .inl (.inl e.2), fun p n => k _ _ _ (((g1.trans g2).trans g3).trans (Grow.new R3.src n)) ⟨p, rfl, ((g1.trans g2).trans g3).free n, OwnAt.newLst n (r.cut l u)⟩ hp⟩⟩
theorem em_slT (he : PEm X c .ow e te) (hl : POm X c lo tl) (hu : POm X c hi th) : PEm X c .cl (.Subscript e (.Slice lo hi none p2) pos) (mSl oSlT te tl th) := ⟨(pe_slice sl_tupA he.run hl.run hu.run).weak fun σ H Q h => by
  obtain ⟨G, A, W, env, P, R, h, k⟩ := h
  refine ⟨G, A, W, env, _, R, h, fun px vx H1 g1 rx h1 => ⟨G, A, W, env, _, R.grow g1, h1, fun l H2 g2 h2 => ⟨G, A, W, env, _, (R.grow g1).grow g2, h2, fun u H3 g3 h3 => ?_⟩⟩⟩
  have R3 := ((R.grow g1).grow g2).grow g3
  obtain ⟨ps, rfl, hp⟩ := h3
  have rx3 := RpO.grow R.sz (g2.trans g3) rx.o
  have rx4 : Rp X.K ⟨Zt G A W, W, H3⟩ (.tup ps) vx := rx3
  obtain ⟨a, vs, rfl, e, r⟩ := RpO.tup rx3
  refine ⟨a, vs, rfl, e.sq, fun w => ?_, fun _ p n => ?_⟩
  · rw [← r.len] at w
    rw [cut_whole w] at hp
    exact k _ _ H3 ((g1.trans g2).trans g3) (VK1.ofRp rx4) hp
  · exact k _ _ _ (((g1.trans g2).trans g3).trans (Grow.new R3.src n)) (VK1.ofRp (Rp.newTup (R3.nz n) n R3.src R.sz (r.cut l u))) hp⟩
end
end
end PM

set_option maxHeartbeats 1000000
/-! PM: statements. -/
namespace PM
open PySem L2

theorem cO_set {c : List Ow} {i j : Nat} {o : Ow} : cO (c.set i o) j = if j = i ∧ i < c.length then o else cO c j := by
  unfold cO
  rw [List.getD_eq_getElem?_getD, List.getD_eq_getElem?_getD, List.getElem?_set]
  by_cases h : i = j
  · subst h
    by_cases h2 : i < c.length
    · rw [if_pos rfl, if_pos h2, if_pos (And.intro rfl h2)]; rfl
    · rw [if_pos rfl, if_neg h2, if_neg (fun z => h2 z.2), List.getElem?_eq_none (by omega)]
  · rw [if_neg h, if_neg (fun z => h z.1.symm)]
theorem cO_sh {c : List Ow} {i : Nat} : cO (c.set i .sh) i = .sh := by
  rw [cO_set]
  by_cases h : i < c.length
  · rw [if_pos ⟨rfl, h⟩]
  · rw [if_neg (fun z => h z.2)]
    unfold cO
    rw [List.getD_eq_getElem?_getD, List.getElem?_eq_none (by omega)]; rfl
theorem cO_ne {c : List Ow} {i j : Nat} {o : Ow} (h : j ≠ i) : cO (c.set i o) j = cO c j := by rw [cO_set, if_neg (fun z => h z.1)]
theorem env_set_get {α : Type} {env : List (Option α)} {i j : Nat} {x p : α} (e : (env.set i (some x))[j]? = some (some p)) : (j = i ∧ i < env.length ∧ p = x) ∨ (j ≠ i ∧ env[j]? = some (some p)) := by
  rw [List.getElem?_set] at e
  by_cases h : i = j
  · subst h
    rw [if_pos rfl] at e
    by_cases h2 : i < env.length
    · rw [if_pos h2] at e
      exact .inl ⟨rfl, h2, (Option.some.inj (Option.some.inj e)).symm⟩
    · rw [if_neg h2] at e; cases e
  · rw [if_neg h] at e
    exact .inr ⟨fun z => h z.symm, e⟩
section
variable {K : PySem.W.Frag} {G G' : Gh} {c c' : List Ow} {A : Nat → Option Addr} {W : Ws} {env : Env} {σ : St} {H H' : Hp}
def dropA (A : Nat → Option Addr) (i : Nat) : Nat → Option Addr := fun j => if j = i then none else A j
def putA (A : Nat → Option Addr) (i : Nat) (a : Addr) : Nat → Option Addr := fun j => if j = i then some a else A j
theorem dropA_some {i j : Nat} {a : Addr} (e : dropA A i j = some a) : j ≠ i ∧ A j = some a := by
  unfold dropA at e
  by_cases h : j = i
  · rw [if_pos h] at e; cases e
  · rw [if_neg h] at e; exact ⟨h, e⟩
theorem dropA_ne {i j : Nat} (h : j ≠ i) : dropA A i j = A j := if_neg h
theorem dropA_eq {i : Nat} : dropA A i i = none := if_pos rfl
theorem putA_ne {i j : Nat} {a : Addr} (h : j ≠ i) : putA A i a j = A j := if_neg h
theorem putA_eq {i : Nat} {a : Addr} : putA A i a i = some a := if_pos rfl
theorem zt_drop {i : Nat} {b : Addr} (h : Zt G (dropA A i) W b) : Zt G A W b := by
  rcases h with h | h | ⟨j, h⟩
  · exact .inl h
  · exact .inr (.inl h)
  · exact .inr (.inr ⟨j, (dropA_some h).2⟩)
/-- a name takes a clean value -/
theorem SR.set_sh {i : Nat} {p : PV} {v : V} (R : SR K G c A W env σ H) (hl : cO c i ≠ .lk) (r : Rp K ⟨Zt G A W, W, H⟩ p v) : SR K G (c.set i .sh) (dropA A i) W (env.set i (some p)) (σ.set i (some v)) H := by
  have x : Ext ⟨Zt G A W, W, H⟩ ⟨Zt G (dropA A i) W, W, H⟩ := ext_less fun b => zt_drop
  refine ⟨by rw [List.length_set, List.length_set]; exact R.len, R.W0in, R.Wmin, R.Wnew, R.Wfix, R.src, R.keep, R.zbt, fun j a e => ?_, fun j k a e1 e2 => ?_, fun j q hc e => ?_, fun j q e => ?_, fun q hq => ?_, fun b o e => ?_⟩
  · obtain ⟨n, e⟩ := dropA_some e
    obtain ⟨h1, h2, h3, h4, h5⟩ := R.Asep j a e
    exact ⟨h1, h2, h3, by rw [cO_ne n]; exact h4, h5⟩
  · exact R.Ainj j k a (dropA_some e1).2 (dropA_some e2).2
  · rcases env_set_get e with ⟨rfl, _, _⟩ | ⟨n, e⟩
    · exact absurd cO_sh hc
    · rw [cO_ne n] at hc
      obtain ⟨a, ha⟩ := R.Aset j q hc e
      exact ⟨a, by rw [dropA_ne n]; exact ha⟩
  · rcases env_set_get e with ⟨rfl, hi, rfl⟩ | ⟨n, e⟩
    · refine ⟨v, by rw [List.getElem?_set_self (by rw [← R.len]; exact hi)], ?_⟩
      rw [dropA_eq]
      exact Rp.ext x r
    · obtain ⟨w, h1, h2⟩ := R.slots j q e
      refine ⟨w, by rw [List.getElem?_set_ne (Ne.symm n)]; exact h1, ?_⟩
      rw [dropA_ne n]
      cases hA : A j with
      | none => rw [hA] at h2; exact Rp.ext x h2
      | some a => rw [hA] at h2; exact ⟨h2.1, h2.2.ext x rfl⟩
  · obtain ⟨h1, h2, h3, h4⟩ := R.pins q hq
    have n : q.1 ≠ i := fun z => hl (z ▸ h4)
    exact ⟨h1, h2, by rw [dropA_ne n]; exact h3, by rw [cO_ne n]; exact h4⟩
  · obtain ⟨h1, h2⟩ := R.fz b o e
    exact ⟨h1, fun z => h2 (zt_drop z)⟩
theorem SR.h0 (R : SR K G c A W env σ H) {a : Addr} (n : H a = none) : G.H0 a = none := by
  cases e : G.H0 a with
  | none => rfl
  | some o =>
    by_cases w : inW G.W0 a
    · obtain ⟨p, hp, hb⟩ := w
      obtain ⟨u, e1⟩ := inW_some R.src (b := a) ⟨p, R.W0in p hp, hb⟩
      rw [n] at e1; cases e1
    · rw [R.keep a o w e] at n; cases n
/-- a name takes a new list -/
theorem SR.set_ow {i : Nat} {p : PV} {a : Addr} (R : SR K G c A W env σ H) (hi' : i < c.length) (hl : cO c i ≠ .lk) (g : Grow W H H') (n : H a = none) (r : OwnAt K ⟨fun b => Zt G A W b ∨ b = a, W, H'⟩ a p) :
    SR K G (c.set i .ow) (putA A i a) W (env.set i (some p)) (σ.set i (some (.ref a))) H' := by
  have R' := R.grow g
  have ta : ∃ o, H' a = some o := by
    cases p with
    | lst ps => obtain ⟨vs, e, _⟩ := r; exact ⟨_, e⟩
    | dic ks ps => obtain ⟨vs, e, _⟩ := r; exact ⟨_, e⟩
    | obj C dx ns ps => obtain ⟨_, vs, e, _⟩ := r; exact ⟨_, e⟩
    | pdic ks => obtain ⟨L, e, _⟩ := r; exact ⟨_, e⟩
    | _ => exact r.elim
  have nt : ∀ b o, H b = some o → b ≠ a := fun b o e z => by rw [z, n] at e; cases e
  have nw : ¬ inW W a := fun w => by obtain ⟨o, e⟩ := inW_some R.src w; rw [n] at e; cases e
  have nz : ¬ G.zb a := fun z => by obtain ⟨o, e⟩ := R.zbt a z; rw [n] at e; cases e
  have zt : ∀ b, Zt G (putA A i a) W b → Zt G A W b ∨ b = a := fun b z => by
    rcases z with z | z | ⟨j, z⟩
    · exact .inl (.inl z)
    · exact .inl (.inr (.inl z))
    · by_cases hj : j = i
      · subst hj; rw [putA_eq] at z; cases z; exact .inr rfl
      · rw [putA_ne hj] at z; exact .inl (.inr (.inr ⟨j, z⟩))
  have x : Ext ⟨Zt G A W, W, H⟩ ⟨Zt G (putA A i a) W, W, H'⟩ := ⟨fun b o hz e => ⟨fun z => (zt b z).elim hz (nt b o e), g.keep b o (fun w => hz (Zt.w w)) e⟩, fun _ h => h⟩
  have y : Ext ⟨fun b => Zt G A W b ∨ b = a, W, H'⟩ ⟨Zt G (putA A i a) W, W, H'⟩ := ext_less zt
  have own : ∀ j b, A j = some b → H' b = H b ∧ b ≠ a := fun j b e => by
    obtain ⟨_, n2, _, _, o, ho⟩ := R.Asep j b e
    exact ⟨by rw [ho, g.keep b o n2 ho], nt b o ho⟩
  refine ⟨by rw [List.length_set, List.length_set]; exact R.len, R.W0in, R.Wmin, R.Wnew, R.Wfix, R'.src, R'.keep, R'.zbt, fun j b e => ?_, fun j k b e1 e2 => ?_, fun j q hc e => ?_, fun j q e => ?_, fun q hq => ?_, fun b o e => ?_⟩
  · by_cases hj : j = i
    · subst hj
      rw [putA_eq] at e; cases e
      exact ⟨R.h0 n, nw, nz, by rw [cO_set, if_pos ⟨rfl, hi'⟩]; decide, ta⟩
    · rw [putA_ne hj] at e
      obtain ⟨h1, h2, h3, h4, h5⟩ := R'.Asep j b e
      exact ⟨h1, h2, h3, by rw [cO_ne hj]; exact h4, h5⟩
  · by_cases hj : j = i
    · by_cases hk : k = i
      · rw [hj, hk]
      · subst hj; rw [putA_eq] at e1; cases e1; rw [putA_ne hk] at e2; exact absurd rfl (own k a e2).2
    · by_cases hk : k = i
      · subst hk; rw [putA_eq] at e2; cases e2; rw [putA_ne hj] at e1; exact absurd rfl (own j a e1).2
      · rw [putA_ne hj] at e1; rw [putA_ne hk] at e2; exact R.Ainj j k b e1 e2
  · by_cases hj : j = i
    · subst hj; exact ⟨a, putA_eq⟩
    · rcases env_set_get e with ⟨z, _, _⟩ | ⟨_, e⟩
      · exact absurd z hj
      · rw [cO_ne hj] at hc
        obtain ⟨b, hb⟩ := R.Aset j q hc e
        exact ⟨b, by rw [putA_ne hj]; exact hb⟩
  · rcases env_set_get e with ⟨rfl, hi, rfl⟩ | ⟨hj, e⟩
    · refine ⟨.ref a, by rw [List.getElem?_set_self (by rw [← R.len]; exact hi)], ?_⟩
      rw [putA_eq]
      exact ⟨rfl, r.ext y rfl⟩
    · obtain ⟨w, h1, h2⟩ := R.slots j q e
      refine ⟨w, by rw [List.getElem?_set_ne (Ne.symm hj)]; exact h1, ?_⟩
      rw [putA_ne hj]
      cases hA : A j with
      | none => rw [hA] at h2; exact Rp.ext x h2
      | some b => rw [hA] at h2; exact ⟨h2.1, h2.2.ext x (own j b hA).1⟩
  · obtain ⟨h1, h2, h3, h4⟩ := R'.pins q hq
    have nj : q.1 ≠ i := fun z => hl (z ▸ h4)
    exact ⟨h1, h2, by rw [putA_ne nj]; exact h3, by rw [cO_ne nj]; exact h4⟩
  · obtain ⟨h1, h2⟩ := R.fz b o e
    obtain ⟨h3, _⟩ := R'.fz b o e
    exact ⟨h3, fun z => (zt b z).elim h2 (nt b o h1)⟩
/-- one's own list is changed -/
theorem SR.mut {j : Nat} {a : Addr} {o : HO} {p p0 : PV} (e0 : env[j]? = some (some p0)) (R : SR K G c A W env σ H) (hA : A j = some a) (hc : cO c j = .ow) (r : OwnAt K ⟨Zt G A W, W, upd H a o⟩ a p) :
    SR K G c A W (env.set j (some p)) σ (upd H a o) := by
  obtain ⟨a1, a2, a3, a4, u, a5⟩ := R.Asep j a hA
  have za : Zt G A W a := .inr (.inr ⟨j, hA⟩)
  have x : Ext ⟨Zt G A W, W, H⟩ ⟨Zt G A W, W, upd H a o⟩ := ⟨fun b w hz e => ⟨hz, by show upd H a o b = some w; rw [upd_ne (fun z => hz (by rw [z]; exact za))]; exact e⟩, fun _ h => h⟩
  have tr : ∀ b, (∃ w, H b = some w) → ∃ w, upd H a o b = some w := fun b ⟨w, e⟩ => by
    by_cases z : b = a
    · subst z; exact ⟨o, upd_same⟩
    · exact ⟨w, by rw [upd_ne z]; exact e⟩
  have ne_w : ∀ q ∈ W, q.1 ≠ a ∧ q.2 ≠ a := fun q hq => ⟨fun z => a2 ⟨q, hq, .inl z.symm⟩, fun z => a2 ⟨q, hq, .inr z.symm⟩⟩
  refine ⟨by rw [List.length_set]; exact R.len, R.W0in, R.Wmin, R.Wnew, R.Wfix, fun q hq => ?_, fun b w hw e => ?_, fun b hb => tr b (R.zbt b hb), fun k b e => ?_, R.Ainj, fun k q hk e => ?_, fun k q e => ?_, fun q hq => ?_, fun b w e => ?_⟩
  · exact SA.at (upd_ne (ne_w q hq).1) (upd_ne (ne_w q hq).2) (R.src q hq)
  · rw [upd_ne (fun z => by rw [z, a1] at e; cases e)]
    exact R.keep b w hw e
  · obtain ⟨h1, h2, h3, h4, h5⟩ := R.Asep k b e
    exact ⟨h1, h2, h3, h4, tr b h5⟩
  · rcases env_set_get e with ⟨z, _, _⟩ | ⟨_, e⟩
    · rw [z]; exact ⟨a, hA⟩
    · exact R.Aset k q hk e
  · rcases env_set_get e with ⟨z, hl, z2⟩ | ⟨n, e⟩
    · subst z z2
      obtain ⟨v, h1, h2⟩ := R.slots k p0 e0
      rw [hA] at h2
      refine ⟨v, h1, ?_⟩
      rw [hA]
      exact ⟨h2.1, r⟩
    · obtain ⟨v, h1, h2⟩ := R.slots k q e
      refine ⟨v, h1, ?_⟩
      cases hk : A k with
      | none => rw [hk] at h2; exact Rp.ext x h2
      | some b =>
        rw [hk] at h2
        refine ⟨h2.1, h2.2.ext x ?_⟩
        have : b ≠ a := fun z => n (R.Ainj k j a (z ▸ hk) hA)
        exact upd_ne this
  · obtain ⟨h1, h2, h3, h4⟩ := R.pins q hq
    have : q.2.1 ≠ a := fun z => by
      have := R.Ainj q.1 j a (z ▸ h3) hA
      rw [this, hc] at h4; cases h4
    exact ⟨by rw [upd_ne this]; exact h1, h2, h3, h4⟩
  · obtain ⟨h1, h2⟩ := R.fz b w e
    exact ⟨by rw [upd_ne (fun z => h2 (by rw [z]; exact za))]; exact h1, h2⟩
end

section
variable {K : PySem.W.Frag} {G G' : Gh} {c c' : List Ow} {A : Nat → Option Addr} {W : Ws} {env : Env} {σ : St} {H H' : Hp}
theorem OwnAt.less {Z Z' : Addr → Prop} {a : Addr} {p : PV} (r : OwnAt K ⟨Z, W, H⟩ a p) (h : ∀ b, Z' b → Z b) : OwnAt K ⟨Z', W, H⟩ a p := r.ext (ext_less h) rfl
/-- what is one's own may become shared -/
def FrzOk : List Ow → List Ow → Bool
  | [], [] => true
  | x :: xs, y :: ys => (decide (x = y) || (decide (x = .ow) && decide (y = .sh))) && FrzOk xs ys
  | _, _ => false
theorem FrzOk.at : ∀ {c c' : List Ow} (i : Nat), FrzOk c c' = true → cO c' i = cO c i ∨ (cO c i = .ow ∧ cO c' i = .sh)
  | [], [], _, _ => .inl rfl
  | x :: xs, y :: ys, 0, h => by
    unfold FrzOk at h
    rw [Bool.and_eq_true, Bool.or_eq_true, Bool.and_eq_true, decide_eq_true_eq, decide_eq_true_eq, decide_eq_true_eq] at h
    rcases h.1 with e | e
    · subst e; exact .inl rfl
    · exact .inr ⟨e.1, e.2⟩
  | x :: xs, y :: ys, i + 1, h => by
    unfold FrzOk at h
    rw [Bool.and_eq_true] at h
    exact FrzOk.at (c := xs) (c' := ys) i h.2
theorem SR.frz (R : SR K G c A W env σ H) (h : FrzOk c c' = true) : ∃ A', SR K G c' A' W env σ H := by
  have hat := fun i => FrzOk.at (c := c) (c' := c') i h
  let A' : Nat → Option Addr := fun i => if cO c' i = .sh then none else A i
  have d1 : ∀ i a, A' i = some a → A i = some a ∧ cO c' i ≠ .sh := fun i a e => by
    have e' : (if cO c' i = .sh then none else A i) = some a := e
    by_cases z : cO c' i = .sh
    · rw [if_pos z] at e'; cases e'
    · rw [if_neg z] at e'; exact ⟨e', z⟩
  have d2 : ∀ i, cO c' i ≠ .sh → A' i = A i := fun i z => if_neg z
  have d3 : ∀ i, cO c' i = .sh → A' i = none := fun i z => if_pos z
  have zt : ∀ b, Zt G A' W b → Zt G A W b := fun b z => by
    rcases z with z | z | ⟨i, z⟩
    · exact .inl z
    · exact .inr (.inl z)
    · exact .inr (.inr ⟨i, (d1 i b z).1⟩)
  have x : Ext ⟨Zt G A W, W, H⟩ ⟨Zt G A' W, W, H⟩ := ext_less zt
  refine ⟨A', R.len, R.W0in, R.Wmin, R.Wnew, R.Wfix, R.src, R.keep, R.zbt, fun i a e => ?_, fun i j a e1 e2 => R.Ainj i j a (d1 i a e1).1 (d1 j a e2).1, fun i p hc e => ?_, fun i p e => ?_, fun q hq => ?_, fun b o e => ?_⟩
  · obtain ⟨h1, h2, h3, _, h5⟩ := R.Asep i a (d1 i a e).1
    exact ⟨h1, h2, h3, (d1 i a e).2, h5⟩
  · rw [d2 i hc]
    exact R.Aset i p (fun z => by
      rcases hat i with w | w
      · exact hc (w.trans z)
      · exact hc w.2) e
  · obtain ⟨v, h1, h2⟩ := R.slots i p e
    refine ⟨v, h1, ?_⟩
    by_cases z : cO c' i = .sh
    · rw [d3 i z]
      cases hA : A i with
      | none => rw [hA] at h2; exact Rp.ext x h2
      | some a =>
        rw [hA] at h2
        obtain ⟨rfl, h2⟩ := h2
        obtain ⟨_, a2, a3, _, _⟩ := R.Asep i a hA
        refine OwnAt.cl (Z := Zt G A' W) (fun w => ?_) (h2.less (Z' := fun b => Zt G A' W b ∨ b = a) fun b w => ?_)
        · rcases w with w | w | ⟨j, w⟩
          · exact a3 w
          · exact a2 w
          · obtain ⟨w1, w2⟩ := d1 j a w
            have := R.Ainj j i a w1 hA
            exact w2 (this ▸ z)
        · rcases w with w | w
          · exact zt b w
          · rw [w]; exact .inr (.inr ⟨i, hA⟩)
    · rw [d2 i z]
      cases hA : A i with
      | none => rw [hA] at h2; exact Rp.ext x h2
      | some a => rw [hA] at h2; exact ⟨h2.1, h2.2.ext x rfl⟩
  · obtain ⟨h1, h2, h3, h4⟩ := R.pins q hq
    have e : cO c' q.1 = .lk := by
      rcases hat q.1 with w | w
      · rw [w]; exact h4
      · rw [h4] at w; cases w.1
    exact ⟨h1, h2, by rw [d2 q.1 (by rw [e]; decide)]; exact h3, e⟩
  · obtain ⟨h1, h2⟩ := R.fz b o e
    exact ⟨h1, fun z => h2 (zt b z)⟩

/-! ### statements -/
structure Em where
  nx : Env → Prop
  rt : PV → Prop
  bk : Env → Prop := fun _ => False
  ct : Env → Prop := fun _ => False
abbrev TSm := Em → Env → Prop
/-- what a def gives back -/
def RetOk (K : PySem.W.Frag) (rm : Md) (G : Gh) (p : PV) (v : V) (H : Hp) : Prop :=
  ∃ W, (∀ q ∈ G.W0, q ∈ W) ∧ (G.gw = false → W = G.W0) ∧ (∀ q ∈ W, SA H q) ∧ (∀ b o, ¬ inW G.W0 b → G.H0 b = some o → H b = some o) ∧ VK1 K rm (fun b => G.zb b ∨ inW W b) W G.H0 H p v
structure Kont (K : PySem.W.Frag) (rm : Md) (cL c' : List Ow) (G : Gh) (M : Em) (D : Ends) : Prop where
  nx : ∀ A W env σ H, SR K G c' A W env σ H → M.nx env → D.nx σ H
  rt : ∀ p v H, RetOk K rm G p v H → M.rt p → D.rt v H
  bk : ∀ A W env σ H, SR K G cL A W env σ H → M.bk env → D.bk σ H
  ct : ∀ A W env σ H, SR K G cL A W env σ H → M.ct env → D.ct σ H
structure Fx where
  rm : Md
  gw : Bool
  cL : List Ow
def tmS (K : PySem.W.Frag) (f : Fx) (c c' : List Ow) (t : TSm) : TS := fun D σ H => ∃ G A W env M, G.gw = f.gw ∧ SR K G c A W env σ H ∧ t M env ∧ Kont K f.rm f.cL c' G M D
structure PSm (X : Cx) (f : Fx) (c c' : List Ow) (st : Stmt) (t : TSm) : Prop where
  run : PS X st (tmS X.K f c c' t)
structure PSsm (X : Cx) (f : Fx) (c c' : List Ow) (st : List Stmt) (t : TSm) : Prop where
  run : PSs X st (tmS X.K f c c' t)
theorem _root_.L2.PS.weak {X : Cx} {e : Stmt} {t t' : TS} (h : PS X e t) (k : ∀ D σ H, t' D σ H → t D σ H) : PS X e t' := ⟨fun pins s σ H D I x => h.run pins s σ H D I (k D σ H x)⟩
theorem _root_.L2.PSs.weak {X : Cx} {e : List Stmt} {t t' : TS} (h : PSs X e t) (k : ∀ D σ H, t' D σ H → t D σ H) : PSs X e t' := ⟨fun pins s σ H D I x => h.run pins s σ H D I (k D σ H x)⟩
end
section
variable {X : Cx} {f : Fx} {c c1 c' : List Ow} {st : Stmt} {rest : List Stmt} {t u : TSm} {e : Expr} {te : TEm} {pos : Pos}
def sNext : TSm := fun M env => M.nx env
def sSeq (t u : TSm) : TSm := fun M env => t { M with nx := u M } env
theorem sm_nil : PSsm X f c c [] sNext := ⟨pss_nil.weak fun D σ H h => by
  obtain ⟨G, A, W, env, M, hg, R, h, k⟩ := h
  exact k.nx A W env σ H R h⟩
theorem sm_cons (h1 : PSm X f c c1 st t) (h2 : PSsm X f c1 c' rest u) : PSsm X f c c' (st :: rest) (sSeq t u) := ⟨(pss_cons h1.run h2.run).weak fun D σ H h => by
  obtain ⟨G, A, W, env, M, hg, R, h, k⟩ := h
  exact ⟨G, A, W, env, _, hg, R, h, ⟨fun A W env σ H R' h' => ⟨G, A, W, env, M, hg, R', h', k⟩, k.rt, k.bk, k.ct⟩⟩⟩
theorem sm_one (h1 : PSm X f c c' st t) : PSsm X f c c' [st] t := ⟨pss_one h1.run⟩
/-- ownership may be let go ahead of a block, behind it -/
theorem sm_pre (h : FrzOk c c1 = true) (h1 : PSsm X f c1 c' rest t) : PSsm X f c c' rest t := ⟨h1.run.weak fun D σ H h' => by
  obtain ⟨G, A, W, env, M, hg, R, h', k⟩ := h'
  obtain ⟨A', R'⟩ := R.frz h
  exact ⟨G, A', W, env, M, hg, R', h', k⟩⟩
theorem sm_post (h : FrzOk c1 c' = true) (h1 : PSsm X f c c1 rest t) : PSsm X f c c' rest t := ⟨h1.run.weak fun D σ H h' => by
  obtain ⟨G, A, W, env, M, hg, R, h', k⟩ := h'
  exact ⟨G, A, W, env, M, hg, R, h', ⟨fun A W env σ H R' h2 => by
    obtain ⟨A', R2⟩ := R'.frz h
    exact k.nx A' W env σ H R2 h2, k.rt, k.bk, k.ct⟩⟩⟩
theorem sm_pre1 (h : FrzOk c c1 = true) (h1 : PSm X f c1 c' st t) : PSm X f c c' st t := ⟨h1.run.weak fun D σ H h' => by
  obtain ⟨G, A, W, env, M, hg, R, h', k⟩ := h'
  obtain ⟨A', R'⟩ := R.frz h
  exact ⟨G, A', W, env, M, hg, R', h', k⟩⟩
theorem sm_pass : PSm X f c c (.Pass pos) sNext := ⟨ps_pass.weak fun D σ H h => by
  obtain ⟨G, A, W, env, M, hg, R, h, k⟩ := h
  exact k.nx A W env σ H R h⟩
def sBreak : TSm := fun M env => M.bk env
def sCont : TSm := fun M env => M.ct env
theorem sm_break (h : FrzOk c f.cL = true) : PSm X f c c' (.Break pos) sBreak := ⟨ps_break.weak fun D σ H h' => by
  obtain ⟨G, A, W, env, M, hg, R, h', k⟩ := h'
  obtain ⟨A', R'⟩ := R.frz h
  exact k.bk A' W env σ H R' h'⟩
theorem sm_cont (h : FrzOk c f.cL = true) : PSm X f c c' (.Continue pos) sCont := ⟨ps_continue.weak fun D σ H h' => by
  obtain ⟨G, A, W, env, M, hg, R, h', k⟩ := h'
  obtain ⟨A', R'⟩ := R.frz h
  exact k.ct A' W env σ H R' h'⟩
def sDrop (te : TEm) : TSm := fun M env => te env fun _ => M.nx env
theorem sm_expr {md : Md} (he : PEm X c md e te) (hs : swapsWith e none pos.line X.env = pure false := by rfl) : PSm X f c c (.Expr e pos) (sDrop te) := ⟨(ps_expr he.run hs).weak fun D σ H h => by
  obtain ⟨G, A, W, env, M, hg, R, h, k⟩ := h
  exact ⟨G, A, W, env, _, R, h, fun p v H1 g r h1 => k.nx A W env σ H1 (R.grow g) h1⟩⟩
def sRet (te : TEm) : TSm := fun M env => te env M.rt
theorem SR.ret {K : PySem.W.Frag} {G : Gh} {A : Nat → Option Addr} {W : Ws} {env : Env} {σ : St} {H H1 : Hp} {rm : Md} {p : PV} {v : V} (R : SR K G c A W env σ H) (g : Grow W H H1) (hm : rm ≠ .ow) (r : VK1 K rm (Zt G A W) W H H1 p v) : RetOk K rm G p v H1 := by
  have R1 := R.grow g
  refine ⟨W, R.W0in, R.Wfix, R1.src, R1.keep, ?_⟩
  have less : ∀ b, (G.zb b ∨ inW W b) → Zt G A W b := fun b z => z.elim .inl fun z => .inr (.inl z)
  cases rm with
  | cl => exact VK1.ofRp (Rp.ext (ext_less less) r.c)
  | ow => exact absurd rfl hm
  | fr =>
    obtain ⟨a, e, n, o⟩ := r
    exact ⟨a, e, R.h0 n, o.less fun b z => z.elim (fun z => .inl (less b z)) .inr⟩
theorem sm_ret (he : PEm X c f.rm e te) (hm : f.rm ≠ .ow := by decide) : PSm X f c c' (.Return (some e) pos) (sRet te) := ⟨(ps_ret he.run).weak fun D σ H h => by
  obtain ⟨G, A, W, env, M, hg, R, h, k⟩ := h
  exact ⟨G, A, W, env, _, R, h, fun p v H1 g r h1 => k.rt p v H1 (R.ret g hm r) h1⟩⟩
/-- a list of one's own given back -/
theorem sm_retO (i : Nat) {x : Str} {pos' : Pos} (hN : X.N[i]? = some x := by rfl) (hc : cO c i ≠ .sh := by decide) (hm : f.rm ≠ .ow := by decide) (hv : Vis X.env.scope x := by first | exact Or.inl rfl | exact Or.inr (Or.inl rfl) | exact Or.inr (Or.inr rfl)) (hd : (x == ("__debug__" : Str)) = false := by decide)
    (hcd : (x == ("__classdict__" : Str)) = false := by decide) : PSm X f c c' (.Return (some (.Name x pos')) pos) (sRet (mVar i)) := ⟨(ps_ret (pe_var hN hv hd hcd)).weak fun D σ H h => by
  obtain ⟨G, A, W, env, M, hg, R, ⟨p, e, hp⟩, k⟩ := h
  obtain ⟨v, h1, h2⟩ := R.slots i p e
  obtain ⟨a, hA⟩ := R.Aset i p hc e
  rw [hA] at h2
  obtain ⟨rfl, h2⟩ := h2
  obtain ⟨a1, a2, a3, _, _⟩ := R.Asep i a hA
  refine ⟨.ref a, h1, k.rt p _ H ⟨W, R.W0in, R.Wfix, R.src, R.keep, ?_⟩ hp⟩
  have o : OwnAt X.K ⟨fun b => (G.zb b ∨ inW W b) ∨ b = a, W, H⟩ a p := h2.less fun b z => by
    rcases z with z | z
    · exact z.elim .inl fun z => .inr (.inl z)
    · rw [z]; exact .inr (.inr ⟨i, hA⟩)
  cases hr : f.rm with
  | ow => exact absurd hr hm
  | cl => exact VK1.ofRp (o.cl fun z => z.elim a3 a2)
  | fr => exact ⟨a, rfl, a1, o⟩⟩
def sRetN : TSm := fun M _ => M.rt .non
theorem sm_retN (hm : f.rm = .cl := by rfl) : PSm X f c c' (.Return none pos) sRetN := ⟨ps_retN.weak fun D σ H h => by
  obtain ⟨G, A, W, env, M, hg, R, h, k⟩ := h
  refine k.rt _ _ H ⟨W, R.W0in, R.Wfix, R.src, R.keep, ?_⟩ h
  rw [hm]
  exact VK1.ofRp Rp.non'⟩
def sIf (tc : TTm) (t u : TSm) : TSm := fun M env => tc env fun b => if b = true then t M env else u M env
theorem sm_if {cnd : Expr} {a b : List Stmt} {tc : TTm} (hc : PTm X c cnd tc) (ha : PSsm X f c c' a t) (hb : PSsm X f c c' b u) : PSm X f c c' (.If cnd a b pos) (sIf tc t u) := ⟨(ps_if hc.run ha.run hb.run).weak fun D σ H h => by
  obtain ⟨G, A, W, env, M, hg, R, h, k⟩ := h
  refine ⟨G, A, W, env, _, R, h, fun b H1 g h1 => ?_⟩
  cases b with
  | true => rw [if_pos rfl] at h1 ⊢; exact ⟨G, A, W, env, M, hg, R.grow g, h1, k⟩
  | false => rw [if_neg Bool.false_ne_true] at h1 ⊢; exact ⟨G, A, W, env, M, hg, R.grow g, h1, k⟩⟩
/-- x = e -/
def sSet (i : Nat) (te : TEm) : TSm := fun M env => te env fun p => M.nx (env.set i (some p))
theorem sm_set (i : Nat) {x : Str} {pos' : Pos} (hN : X.N.Nodup) (he : PEm X c .cl e te) (hi : X.N[i]? = some x := by rfl) (hx : Loc X.env.scope x := by first | exact Or.inl rfl | exact Or.inr rfl) (hl : cO c i ≠ .lk := by decide) (hs : swapsWith e (some (.Name x pos')) pos.line X.env = pure false := by rfl) (hf : X.fn x = true ∨ X.env.scope.names.lookup x = some .local := by first | exact .inl rfl | exact .inr rfl | assumption) :
    PSm X f c (c.set i .sh) (.Assign [.Name x pos'] e pos) (sSet i te) := ⟨(ps_set hN hi hx he.run hs hf).weak fun D σ H h => by
  obtain ⟨G, A, W, env, M, hg, R, h, k⟩ := h
  exact ⟨G, A, W, env, _, R, h, fun p v H1 g r h1 => k.nx _ W _ _ H1 ((R.grow g).set_sh hl r.c) h1⟩⟩
theorem sm_setF (i : Nat) {x : Str} {pos' : Pos} (hN : X.N.Nodup) (he : PEm X c .fr e te) (hi : X.N[i]? = some x := by rfl) (hx : Loc X.env.scope x := by first | exact Or.inl rfl | exact Or.inr rfl) (hlen : i < c.length := by decide) (hl : cO c i ≠ .lk := by decide) (hs : swapsWith e (some (.Name x pos')) pos.line X.env = pure false := by rfl) (hf : X.fn x = true ∨ X.env.scope.names.lookup x = some .local := by first | exact .inl rfl | exact .inr rfl | assumption) :
    PSm X f c (c.set i .ow) (.Assign [.Name x pos'] e pos) (sSet i te) := ⟨(ps_set hN hi hx he.run hs hf).weak fun D σ H h => by
  obtain ⟨G, A, W, env, M, hg, R, h, k⟩ := h
  refine ⟨G, A, W, env, _, R, h, fun p v H1 g r h1 => ?_⟩
  obtain ⟨a, rfl, n, o⟩ := r
  exact k.nx _ W _ _ H1 (R.set_ow hlen hl g n o) h1⟩
/-- x += e, whole numbers -/
def sAug (i : Nat) (o : PO2) (te : TEm) : TSm := fun M env => ∃ x, env[i]? = some (some x) ∧ te env fun y => o x y fun z => M.nx (env.set i (some z))
theorem sm_aug (i : Nat) {x : Str} {pos' : Pos} {op : Operator} {r : R2} {o : PO2} (ho : OpR X (inplaceOp op) r) (L : Lift2 X.K r o .cl) (hN : X.N.Nodup) (he : PEm X c .ow e te) (hi : X.N[i]? = some x := by rfl) (hx : Loc X.env.scope x := by first | exact Or.inl rfl | exact Or.inr rfl) (hc : cO c i = .sh := by rfl) (hf : X.fn x = true ∨ X.env.scope.names.lookup x = some .local := by first | exact .inl rfl | exact .inr rfl | assumption) :
    PSm X f c (c.set i .sh) (.AugAssign (.Name x pos') op e pos) (sAug i o te) := ⟨(ps_aug hN hi hx he.run (ti := r) (fun pins s σ H x y v u Q I rx ry h => ho pins s σ H x y v u Q I rx ry h) hf).weak fun D σ H h => by
  obtain ⟨G, A, W, env, M, hg, R, ⟨p, ep, h⟩, k⟩ := h
  obtain ⟨v, h1, h2⟩ := R.slots i p ep
  have hA : A i = none := by
    cases hA : A i with
    | none => rfl
    | some a => exact absurd hc (R.Asep i a hA).2.2.2.1
  rw [hA] at h2
  refine ⟨v, h1, G, A, W, env, _, R, h, fun q w H1 g r h3 => ?_⟩
  refine L _ W H1 p q v w _ _ (R.grow g).sit (RpO.grow R.sz g (Rp.ow R.sz h2)) r.o h3 fun z u H2 g2 r2 h4 => ?_
  exact k.nx _ W _ _ H2 (((R.grow g).grow g2).set_sh (by rw [hc]; decide) r2.c) h4⟩
end
end PM

set_option maxHeartbeats 1000000
/-! PM: lists changed, targets, loops. -/
namespace PM
open PySem L2
section
variable {X : Cx} {f : Fx} {c c1 c' : List Ow} {st : Stmt} {rest : List Stmt} {t u : TSm} {e ei : Expr} {te ti : TEm} {pos : Pos}
/-- one's own list, as it stands -/
theorem SR.mine {K : PySem.W.Frag} {G : Gh} {A : Nat → Option Addr} {W : Ws} {env : Env} {σ : St} {H : Hp} {i : Nat} {p : PV} (R : SR K G c A W env σ H) (hc : cO c i = .ow) (e : env[i]? = some (some p)) : ∃ a, A i = some a ∧ σ[i]? = some (some (.ref a)) ∧ OwnAt K ⟨Zt G A W, W, H⟩ a p := by
  obtain ⟨v, h1, h2⟩ := R.slots i p e
  obtain ⟨a, hA⟩ := R.Aset i p (by rw [hc]; decide) e
  rw [hA] at h2
  exact ⟨a, hA, by rw [h1, h2.1], h2.2⟩
theorem OwnAt.mutL {K : PySem.W.Frag} {Z : Addr → Prop} {W : Ws} {H : Hp} {a : Addr} {ps : List PV} {vs : List V} (hz : Z a) (r : Rps K ⟨Z, W, H⟩ ps vs) : OwnAt K ⟨Z, W, upd H a (.lst vs)⟩ a (.lst ps) :=
by
  have x : Ext ⟨Z, W, H⟩ ⟨Z, W, upd H a (.lst vs)⟩ := ⟨fun b w h e => ⟨h, by show upd H a (.lst vs) b = some w; rw [upd_ne (fun z => h (by rw [z]; exact hz))]; exact e⟩, fun _ h => h⟩
  exact ⟨vs, upd_same, Rps.ext x r⟩
/-- x.append(e) -/
def sApp (i : Nat) (te : TEm) : TSm := fun M env => ∃ ps, env[i]? = some (some (.lst ps)) ∧ te env fun p => ps.length < sizeLine ∧ M.nx (env.set i (some (.lst (ps ++ [p]))))
theorem sm_app (i : Nat) {x : Str} {p1 p2 cpos : Pos} (he : PEm X c .cl e te) (hN : X.N[i]? = some x := by rfl) (hc : cO c i = .ow := by rfl) (hv : Vis X.env.scope x := by first | exact Or.inl rfl | exact Or.inr (Or.inl rfl) | exact Or.inr (Or.inr rfl)) (hd : (x == ("__debug__" : Str)) = false := by decide)
    (hcd : (x == ("__classdict__" : Str)) = false := by decide)
    (hbase : attributeBase (.Name x p1) "append" X.env (eval (.Name x p1) X.env) = eval (.Name x p1) X.env := by rfl)
    (hfew : ((backTo cpos (starEach [e] X.env)).all (fun x => !x.1) && (backToKw cpos (keywordEach [] X.env)).all (fun x => x.1.isSome)
      && decide (([e] : List Expr).length + ([] : List Keyword).length + (if ([] : List Keyword).isEmpty then 0 else 1) < 30)) = true := by rfl)
    (hline : (p2.endLine == cpos.line) = true := by rfl) (hs : starEach [e] X.env = (false, eval e X.env) :: starEach [] X.env := by rfl) (hplain : (backTo cpos (starEach [] X.env)).any (·.1) = false := by rfl)
    (hsw : swapsWith (.Call (.Attribute (.Name x p1) "append" p2) [e] [] cpos) none pos.line X.env = pure false := by rfl) :
    PSm X f c c (.Expr (.Call (.Attribute (.Name x p1) "append" p2) [e] [] cpos) pos) (sApp i te) := ⟨(ps_expr (pe_bm PySem.F.plainAttrs_list PySem.F.slot_list_append PySem.F.type_list_append mt_append (pe_var hN hv hd hcd) (pa_cons he.run pa_nil hs) hbase hfew hline hs hplain) hsw).weak fun D σ H h => by
  obtain ⟨G, A, W, env, M, hg, R, ⟨ps, e0, h⟩, k⟩ := h
  obtain ⟨a, hA, hσ, vs, hH, r⟩ := R.mine hc e0
  refine ⟨.ref a, hσ, .inl ⟨rfl, vs, .inl (.inl hH)⟩, G, A, W, env, _, R, h, fun p v H1 g rv ⟨hl, h1⟩ => ?_⟩
  have R1 := R.grow g
  obtain ⟨a', hA', _, ws, hH1, r1⟩ := R1.mine hc e0
  rw [hA] at hA'; cases hA'
  refine ⟨a, ws, v, rfl, rfl, hH1, by rw [← r1.len]; exact hl, ?_⟩
  exact k.nx A W _ σ _ (R1.mut e0 hA hc (OwnAt.mutL (.inr (.inr ⟨i, hA⟩)) (r1.append (Rps.cons rv.c Rps.nil)))) h1⟩
/-- x.extend(e), e a list -/
def sExt (i : Nat) (te : TEm) : TSm := fun M env => ∃ ps, env[i]? = some (some (.lst ps)) ∧ te env fun p => ∃ qs, p = .lst qs ∧ ps.length + qs.length ≤ sizeLine ∧ M.nx (env.set i (some (.lst (ps ++ qs))))
theorem sm_ext (i : Nat) {x : Str} {p1 p2 cpos : Pos} (he : PEm X c .cl e te) (hN : X.N[i]? = some x := by rfl) (hc : cO c i = .ow := by rfl) (hv : Vis X.env.scope x := by first | exact Or.inl rfl | exact Or.inr (Or.inl rfl) | exact Or.inr (Or.inr rfl)) (hd : (x == ("__debug__" : Str)) = false := by decide)
    (hcd : (x == ("__classdict__" : Str)) = false := by decide)
    (hbase : attributeBase (.Name x p1) "extend" X.env (eval (.Name x p1) X.env) = eval (.Name x p1) X.env := by rfl)
    (hfew : ((backTo cpos (starEach [e] X.env)).all (fun x => !x.1) && (backToKw cpos (keywordEach [] X.env)).all (fun x => x.1.isSome)
      && decide (([e] : List Expr).length + ([] : List Keyword).length + (if ([] : List Keyword).isEmpty then 0 else 1) < 30)) = true := by rfl)
    (hline : (p2.endLine == cpos.line) = true := by rfl) (hs : starEach [e] X.env = (false, eval e X.env) :: starEach [] X.env := by rfl) (hplain : (backTo cpos (starEach [] X.env)).any (·.1) = false := by rfl)
    (hsw : swapsWith (.Call (.Attribute (.Name x p1) "extend" p2) [e] [] cpos) none pos.line X.env = pure false := by rfl) :
    PSm X f c c (.Expr (.Call (.Attribute (.Name x p1) "extend" p2) [e] [] cpos) pos) (sExt i te) := ⟨(ps_expr (pe_bm PySem.F.plainAttrs_list PySem.F.slot_list_extend PySem.F.type_list_extend mt_extend (pe_var hN hv hd hcd) (pa_cons he.run pa_nil hs) hbase hfew hline hs hplain) hsw).weak fun D σ H h => by
  obtain ⟨G, A, W, env, M, hg, R, ⟨ps, e0, h⟩, k⟩ := h
  obtain ⟨a, hA, hσ, vs, hH, r⟩ := R.mine hc e0
  refine ⟨.ref a, hσ, .inl ⟨rfl, vs, .inl (.inl hH)⟩, G, A, W, env, _, R, h, fun p v H1 g rv ⟨qs, eq, hl, h1⟩ => ?_⟩
  subst eq
  have R1 := R.grow g
  obtain ⟨a', hA', _, ws, hH1, r1⟩ := R1.mine hc e0
  rw [hA] at hA'; cases hA'
  obtain ⟨b, us, rfl, e2, r2⟩ := (Rp.ow R1.sz rv.c).lst
  refine ⟨a, b, ws, us, rfl, rfl, hH1, e2.2, by rw [← r1.len, ← r2.len]; exact hl, ?_⟩
  exact k.nx A W _ σ _ (R1.mut e0 hA hc (OwnAt.mutL (.inr (.inr ⟨i, hA⟩)) (r1.append r2))) h1⟩
/-- y = x.pop(), y = x.pop(e) -/
def sPop (j i : Nat) : TSm := fun M env => ∃ ps p, env[i]? = some (some (.lst ps)) ∧ ps[ps.length - 1]? = some p ∧ M.nx ((env.set i (some (.lst ps.dropLast))).set j (some p))
theorem Rps.dropLast {K : PySem.W.Frag} {S : Wd} {ps : List PV} {vs : List V} (h : Rps K S ps vs) : Rps K S ps.dropLast vs.dropLast := by
  rw [List.dropLast_eq_take, List.dropLast_eq_take, h.len]
  exact h.take _
theorem sm_pop (j i : Nat) {x y : Str} {py p1 p2 cpos : Pos} (hNd : X.N.Nodup) (hi : X.N[j]? = some y := by rfl) (hy : Loc X.env.scope y := by first | exact Or.inl rfl | exact Or.inr rfl) (hl : cO c j ≠ .lk := by decide) (hN : X.N[i]? = some x := by rfl) (hc : cO c i = .ow := by rfl) (hv : Vis X.env.scope x := by first | exact Or.inl rfl | exact Or.inr (Or.inl rfl) | exact Or.inr (Or.inr rfl)) (hd : (x == ("__debug__" : Str)) = false := by decide)
    (hcd : (x == ("__classdict__" : Str)) = false := by decide) (hbase : attributeBase (.Name x p1) "pop" X.env (eval (.Name x p1) X.env) = eval (.Name x p1) X.env := by rfl) (hline : (p2.endLine == cpos.line) = true := by rfl)
    (hsw : swapsWith (.Call (.Attribute (.Name x p1) "pop" p2) [] [] cpos) (some (.Name y py)) pos.line X.env = pure false := by rfl) (hf : X.fn y = true ∨ X.env.scope.names.lookup y = some .local := by first | exact .inl rfl | exact .inr rfl | assumption) :
    PSm X f c (c.set j .sh) (.Assign [.Name y py] (.Call (.Attribute (.Name x p1) "pop" p2) [] [] cpos) pos) (sPop j i) := ⟨(ps_set hNd hi hy (pe_bm0 PySem.F.plainAttrs_list PySem.F.slot_list_pop PySem.F.type_list_pop mt_pop (pe_var hN hv hd hcd) hbase hline) hsw hf).weak fun D σ H h => by
  obtain ⟨G, A, W, env, M, hg, R, ⟨ps, p, e0, ep, h⟩, k⟩ := h
  obtain ⟨a, hA, hσ, vs, hH, r⟩ := R.mine hc e0
  obtain ⟨v, ev, rv⟩ := r.get ep
  refine ⟨.ref a, hσ, .inl ⟨rfl, vs, .inl (.inl hH)⟩, a, vs, v, rfl, rfl, hH, by rw [← r.len]; exact ev, ?_⟩
  have za : Zt G A W a := .inr (.inr ⟨i, hA⟩)
  have R1 := R.mut e0 hA hc (OwnAt.mutL za r.dropLast)
  have x : Ext ⟨Zt G A W, W, H⟩ ⟨Zt G A W, W, upd H a (.lst vs.dropLast)⟩ := ⟨fun b w hz e => ⟨hz, by show upd H a _ b = some w; rw [upd_ne (fun z => hz (by rw [z]; exact za))]; exact e⟩, fun _ h => h⟩
  exact k.nx _ W _ _ _ (R1.set_sh hl (Rp.ext x rv)) h⟩
def sPopAt (j i : Nat) (te : TEm) : TSm := fun M env => ∃ ps, env[i]? = some (some (.lst ps)) ∧ te env fun q => ∃ (m : Int) (n : Nat) (p : PV), q = .int m ∧ (-(2 ^ 63) ≤ m ∧ m < 2 ^ 63) ∧ ixN ps.length m = some n ∧ ps[n]? = some p ∧ M.nx ((env.set i (some (.lst (ps.eraseIdx n)))).set j (some p))
theorem sm_popAt (j i : Nat) {x y : Str} {py p1 p2 cpos : Pos} (hNd : X.N.Nodup) (he : PEm X c .ow e te) (hi : X.N[j]? = some y := by rfl) (hy : Loc X.env.scope y := by first | exact Or.inl rfl | exact Or.inr rfl) (hl : cO c j ≠ .lk := by decide) (hN : X.N[i]? = some x := by rfl) (hc : cO c i = .ow := by rfl) (hv : Vis X.env.scope x := by first | exact Or.inl rfl | exact Or.inr (Or.inl rfl) | exact Or.inr (Or.inr rfl)) (hd : (x == ("__debug__" : Str)) = false := by decide)
    (hcd : (x == ("__classdict__" : Str)) = false := by decide) (hbase : attributeBase (.Name x p1) "pop" X.env (eval (.Name x p1) X.env) = eval (.Name x p1) X.env := by rfl)
    (hfew : ((backTo cpos (starEach [e] X.env)).all (fun x => !x.1) && (backToKw cpos (keywordEach [] X.env)).all (fun x => x.1.isSome)
      && decide (([e] : List Expr).length + ([] : List Keyword).length + (if ([] : List Keyword).isEmpty then 0 else 1) < 30)) = true := by rfl) (hline : (p2.endLine == cpos.line) = true := by rfl) (hs : starEach [e] X.env = (false, eval e X.env) :: starEach [] X.env := by rfl) (hplain : (backTo cpos (starEach [] X.env)).any (·.1) = false := by rfl)
    (hsw : swapsWith (.Call (.Attribute (.Name x p1) "pop" p2) [e] [] cpos) (some (.Name y py)) pos.line X.env = pure false := by rfl) (hf : X.fn y = true ∨ X.env.scope.names.lookup y = some .local := by first | exact .inl rfl | exact .inr rfl | assumption) :
    PSm X f c (c.set j .sh) (.Assign [.Name y py] (.Call (.Attribute (.Name x p1) "pop" p2) [e] [] cpos) pos) (sPopAt j i te) := ⟨(ps_set hNd hi hy (pe_bm PySem.F.plainAttrs_list PySem.F.slot_list_pop PySem.F.type_list_pop mt_popAt (pe_var hN hv hd hcd) (pa_cons he.run pa_nil hs) hbase hfew hline hs hplain) hsw hf).weak fun D σ H h => by
  obtain ⟨G, A, W, env, M, hg, R, ⟨ps, e0, h⟩, k⟩ := h
  obtain ⟨a, hA, hσ, vs, hH, r⟩ := R.mine hc e0
  refine ⟨.ref a, hσ, .inl ⟨rfl, vs, .inl (.inl hH)⟩, G, A, W, env, _, R, h, fun q w H1 g rq ⟨m, n, p, eq, ⟨hm1, hm2⟩, hix, hp, h1⟩ => ?_⟩
  subst eq
  have R1 := R.grow g
  obtain ⟨a', hA', _, ws, hH1, r1⟩ := R1.mine hc e0
  rw [hA] at hA'; cases hA'
  obtain ⟨v, ev, rv⟩ := r1.get hp
  rw [r1.len] at hix
  refine ⟨a, ws, m, n, v, rfl, by rw [rq.o.int], hH1, hm1, hm2, (ixN_seq hix).1, ev, ?_⟩
  have za : Zt G A W a := .inr (.inr ⟨i, hA⟩)
  have R2 := R1.mut e0 hA hc (OwnAt.mutL za (r1.eraseIdx n))
  have x : Ext ⟨Zt G A W, W, H1⟩ ⟨Zt G A W, W, upd H1 a (.lst (ws.eraseIdx n))⟩ := ⟨fun b w hz e => ⟨hz, by show upd H1 a _ b = some w; rw [upd_ne (fun z => hz (by rw [z]; exact za))]; exact e⟩, fun _ h => h⟩
  exact k.nx _ W _ _ _ (R2.set_sh hl (Rp.ext x rv)) h1⟩
/-- x[k] = e, x a list of one's own -/
def sPut (i : Nat) (ti te : TEm) : TSm := fun M env => te env fun p => ∃ ps, env[i]? = some (some (.lst ps)) ∧ ti env fun q => ∃ (m : Int) (n : Nat), q = .int m ∧ ixN ps.length m = some n ∧ M.nx (env.set i (some (.lst (ps.set n p))))
theorem sm_put (i : Nat) {x : Str} {p1 p2 : Pos} (he : PEm X c .cl e te) (hk : PEm X c .ow ei ti) (hN : X.N[i]? = some x := by rfl) (hc : cO c i = .ow := by rfl) (hv : Vis X.env.scope x := by first | exact Or.inl rfl | exact Or.inr (Or.inl rfl) | exact Or.inr (Or.inr rfl)) (hd : (x == ("__debug__" : Str)) = false := by decide)
    (hcd : (x == ("__classdict__" : Str)) = false := by decide)
    (ha : ∀ v, assign (.Subscript (.Name x p1) ei p2) X.env v = (do
      let ov ← holding [v] (eval (.Name x p1) X.env)
      let iv ← holding [v, ov] (eval ei X.env)
      standAt p2
      holding [v, ov, iv] (setItem ov iv v)
      release [v, ov, iv] []) := by intro _; rfl)
    (hs : swapsWithSole [.Subscript (.Name x p1) ei p2] e pos.line X.env = pure false := by rfl) (hw : swappedStores [.Subscript (.Name x p1) ei p2] e X.env = pure none := by rfl)
    (h1 : (assignEach [.Subscript (.Name x p1) ei p2] X.env).map (·.2) = [assign (.Subscript (.Name x p1) ei p2) X.env] := by rfl) :
    PSm X f c c (.Assign [.Subscript (.Name x p1) ei p2] e pos) (sPut i ti te) := ⟨(ps_asg he.run (pg_sub (pe_var hN hv hd hcd) hk.run set_list ha) hs hw h1).weak fun D σ H h => by
  obtain ⟨G, A, W, env, M, hg, R, h, k⟩ := h
  refine ⟨G, A, W, env, _, R, h, fun p v H1 g rv ⟨ps, e0, h1⟩ => ?_⟩
  have R1 := R.grow g
  obtain ⟨a, hA, hσ, vs, hH, r⟩ := R1.mine hc e0
  refine ⟨.ref a, hσ, G, A, W, env, _, R1, h1, fun q w H2 g2 rq ⟨m, n, eq, hix, h2⟩ => ?_⟩
  subst eq
  have R2 := R1.grow g2
  obtain ⟨a', hA', _, ws, hH2, r2⟩ := R2.mine hc e0
  rw [hA] at hA'; cases hA'
  rw [r2.len] at hix
  refine ⟨a, ws, m, n, rfl, rq.o.int, hH2, hix, ?_⟩
  exact k.nx A W _ σ _ (R2.mut e0 hA hc (OwnAt.mutL (.inr (.inr ⟨i, hA⟩)) (Rps.set (Rp.ext (g2.ext R.sz) rv.c) n r2))) h2⟩

/-! ### targets -/
abbrev TGm := PV → Env → (Env → Prop) → Prop
/-- only the slots vs are touched -/
def Touch (vs : List Nat) (σ σ' : St) : Prop := σ'.length = σ.length ∧ ∀ j, j ∉ vs → σ'[j]? = σ[j]?
def tgM (K : PySem.W.Frag) (c : List Ow) (vs : List Nat) (t : TGm) : TG := fun v σ H Q => ∃ G A W env p k, SR K G c A W env σ H ∧ Rp K ⟨Zt G A W, W, H⟩ p v ∧ t p env k ∧ ∀ env' σ', SR K G c A W env' σ' H → Touch vs σ σ' → k env' → Q σ' H
structure PGm (X : Cx) (c : List Ow) (vs : List Nat) (tg : Expr) (t : TGm) : Prop where
  run : PG X tg (tgM X.K c vs t)
def gmN (i : Nat) : TGm := fun p env k => k (env.set i (some p))
theorem c_same {c : List Ow} {i : Nat} (h : cO c i = .sh) : c.set i .sh = c := by
  apply List.ext_getElem?
  intro j
  rw [List.getElem?_set]
  by_cases e : i = j
  · subst e
    rw [if_pos rfl]
    by_cases h2 : i < c.length
    · rw [if_pos h2]
      unfold cO at h
      rw [List.getD_eq_getElem?_getD, List.getElem?_eq_getElem h2] at h
      rw [List.getElem?_eq_getElem h2]
      exact congrArg some h.symm
    · rw [if_neg h2, List.getElem?_eq_none (by omega)]
  · rw [if_neg e]
theorem SR.noA {K : PySem.W.Frag} {G : Gh} {A : Nat → Option Addr} {W : Ws} {env : Env} {σ : St} {H : Hp} {i : Nat} (R : SR K G c A W env σ H) (hc : cO c i = .sh) : A i = none := by
  cases hA : A i with
  | none => rfl
  | some a => exact absurd hc (R.Asep i a hA).2.2.2.1
theorem SR.set_cl {K : PySem.W.Frag} {G : Gh} {A : Nat → Option Addr} {W : Ws} {env : Env} {σ : St} {H : Hp} {i : Nat} {p : PV} {v : V} (R : SR K G c A W env σ H) (hc : cO c i = .sh) (r : Rp K ⟨Zt G A W, W, H⟩ p v) : SR K G c A W (env.set i (some p)) (σ.set i (some v)) H := by
  have h := R.set_sh (i := i) (by rw [hc]; decide) r
  rw [c_same hc] at h
  have e : dropA A i = A := by
    funext j
    by_cases z : j = i
    · rw [z, dropA_eq, R.noA hc]
    · exact dropA_ne z
  rw [e] at h
  exact h
theorem gm_name (i : Nat) {x : Str} {pos : Pos} (hN : X.N.Nodup) (hi : X.N[i]? = some x := by rfl) (hc : cO c i = .sh := by rfl) (hx : Loc X.env.scope x := by first | exact Or.inl rfl | exact Or.inr rfl) (hf : X.fn x = true ∨ X.env.scope.names.lookup x = some .local := by first | exact .inl rfl | exact .inr rfl | assumption) : PGm X c [i] (.Name x pos) (gmN i) :=
  ⟨⟨fun pins s σ H v u Q I r h => (pg_name hN hi hx hf).run pins s σ H v u Q I r (by
    obtain ⟨G, A, W, env, p, k, R, rp, h, q⟩ := h
    exact q _ _ (R.set_cl hc rp) ⟨List.length_set .., fun j hj => List.getElem?_set_ne (fun z => hj (by rw [← z]; exact List.mem_singleton.mpr rfl))⟩ h)⟩⟩
abbrev TGsm := List PV → Env → (Env → Prop) → Prop
def tgsM (K : PySem.W.Frag) (c : List Ow) (vs : List Nat) (t : TGsm) : TGs := fun ws σ H Q => ∃ G A W env ps k, SR K G c A W env σ H ∧ Rps K ⟨Zt G A W, W, H⟩ ps ws ∧ t ps env k ∧ ∀ env' σ', SR K G c A W env' σ' H → Touch vs σ σ' → k env' → Q σ' H
structure PGsm (X : Cx) (c : List Ow) (vs : List Nat) (tg : List Expr) (t : TGsm) : Prop where
  run : PGs X tg (tgsM X.K c vs t)
theorem Touch.refl {vs : List Nat} {σ : St} : Touch vs σ σ := ⟨rfl, fun _ _ => rfl⟩
theorem Touch.trans {vs ws : List Nat} {σ σ1 σ2 : St} (a : Touch vs σ σ1) (b : Touch ws σ1 σ2) : Touch (vs ++ ws) σ σ2 :=
  ⟨b.1.trans a.1, fun j hj => (b.2 j fun z => hj (List.mem_append_right _ z)).trans (a.2 j fun z => hj (List.mem_append_left _ z))⟩
def gmNil : TGsm := fun ps env k => ps = [] ∧ k env
def gmCons (g : TGm) (r : TGsm) : TGsm := fun ps env k => ∃ p qs, ps = p :: qs ∧ g p env fun env' => r qs env' k
theorem gsm_nil : PGsm X c [] [] gmNil := ⟨⟨fun pins s σ H vs us Q I r h => pgs_nil.run pins s σ H vs us Q I r (by
  obtain ⟨G, A, W, env, ps, k, R, rp, ⟨e, h⟩, q⟩ := h
  subst e
  exact ⟨by unfold Rps at rp; exact rp, q _ _ R Touch.refl h⟩)⟩⟩
theorem gsm_cons {tg : Expr} {tgs : List Expr} {g : TGm} {r : TGsm} {vs ws : List Nat} (h1 : PGm X c vs tg g) (h2 : PGsm X c ws tgs r) (hs : (assignEach (tg :: tgs) X.env).map (·.2) = assign tg X.env :: (assignEach tgs X.env).map (·.2) := by rfl) : PGsm X c (vs ++ ws) (tg :: tgs) (gmCons g r) :=
  ⟨⟨fun pins s σ H vs us Q I r' h => (pgs_cons h1.run h2.run hs).run pins s σ H vs us Q I r' (by
    obtain ⟨G, A, W, env, ps, k, R, rp, ⟨p, qs, e, h⟩, q⟩ := h
    subst e
    unfold Rps at rp
    obtain ⟨v, ws, e2, r1, r2⟩ := rp
    exact ⟨v, ws, e2, G, A, W, env, p, _, R, r1, h, fun env' σ' R' t1 h' => ⟨G, A, W, env', qs, k, R', r2, h', fun env2 σ2 R2 t2 h2 => q env2 σ2 R2 (t1.trans t2) h2⟩⟩)⟩⟩
def gmT (n : Nat) (r : TGsm) : TGm := fun p env k => ∃ ps, p = .tup ps ∧ ps.length = n ∧ r ps env k
theorem gm_tup {es : List Expr} {kk : Nat} {r : TGsm} {n : Nat} {pos : Pos} {vs : List Nat} (hc : X.calm = true) (h : PGsm X c vs es r) (hn : (assignEach es X.env).length = n := by rfl) (hst : (assignEach es X.env).findIdx? (·.1) = none := by rfl) : PGm X c vs (.Tuple es kk pos) (gmT n r) :=
  ⟨⟨fun pins s σ H v u Q I r' h' => (pg_tup hc h.run hn hst).run pins s σ H v u Q I r' (by
    obtain ⟨G, A, W, env, p, k, R, rp, ⟨ps, e, hl, h⟩, q⟩ := h'
    subst e
    unfold Rp at rp
    obtain ⟨a, vs, rfl, h1, h2⟩ := rp
    exact ⟨a, vs, rfl, h1.sq, by rw [← h2.len]; exact hl, G, A, W, env, ps, k, R, h2, h, q⟩)⟩⟩
/-- (a, b) = e -/
def sAsg (te : TEm) (g : TGm) : TSm := fun M env => te env fun p => g p env M.nx
theorem sm_asg {tg : Expr} {g : TGm} {vs : List Nat} (he : PEm X c .cl e te) (hg : PGm X c vs tg g) (hs : swapsWithSole [tg] e pos.line X.env = pure false := by rfl) (hw : swappedStores [tg] e X.env = pure none := by rfl)
    (h1 : (assignEach [tg] X.env).map (·.2) = [assign tg X.env] := by rfl) : PSm X f c c (.Assign [tg] e pos) (sAsg te g) := ⟨(ps_asg he.run hg.run hs hw h1).weak fun D σ H h => by
  obtain ⟨G, A, W, env, M, hg, R, h, k⟩ := h
  exact ⟨G, A, W, env, _, R, h, fun p v H1 g rv h1 => ⟨G, A, W, env, p, M.nx, R.grow g, rv.c, h1, fun env' σ' R' _ h' => k.nx A W env' σ' H1 R' h'⟩⟩⟩
end
end PM

set_option maxHeartbeats 1000000
/-! PM: what is walked, for, while, comprehensions. -/
namespace PM
open PySem L2
/-- all that was tracked is as it was -/
def GrowA (H H' : Hp) : Prop := ∀ b o, H b = some o → H' b = some o
theorem GrowA.grow {W : Ws} {H H' : Hp} (g : GrowA H H') (h : ∀ p ∈ W, SA H p) : Grow W H H' := ⟨fun b o _ e => g b o e, fun p hp => by
  obtain ⟨⟨_, e1⟩, _, e2⟩ := (h p hp).some
  exact SA.at (by rw [g _ _ e1, e1]) (by rw [g _ _ e2, e2]) (h p hp)⟩
theorem GrowA.refl {H : Hp} : GrowA H H := fun _ _ e => e
theorem GrowA.new {H : Hp} {a : Addr} {o : HO} (n : H a = none) : GrowA H (upd H a o) := fun b u e => by rw [upd_ne (ne_of_none e n)]; exact e
/-- the items of a walk: pl are places that must stand as they are -/
def ItOk (K : PySem.W.Frag) (Z : Addr → Prop) (W : Ws) (H : Hp) (pl : List (Addr × HO)) (J : It) (items : List PV) : Prop :=
  ∃ (Gd : Hp → Prop) (Y : Nat → Hp → V → Hp → Prop), Walk J items.length Gd Y ∧ ∀ Z2 W2 H2, Ext ⟨Z, W, H⟩ ⟨Z2, W2, H2⟩ → (∀ b, Z2 b → ∃ o, H2 b = some o) → (∀ q ∈ pl, H2 q.1 = some q.2) →
    Gd H2 ∧ ∀ i x H3 p, items[i]? = some p → Y i H2 x H3 → GrowA H2 H3 ∧ Rp K ⟨Z2, W2, H3⟩ p x
abbrev TIm := Env → (List PV → Prop) → Prop
/-- lk: the slot whose own list is walked -/
structure PIm (X : Cx) (c : List Ow) (lk : Option Nat) (tg iter : Expr) (t : TIm) : Prop where
  run : PI X tg iter (fun σ H R => ∃ G A W env P, SR X.K G c A W env σ H ∧ t env P ∧ ∀ J items H' pl, Grow W H H' → (match lk with | none => pl = [] | some j => ∃ a o, pl = [(a, o)] ∧ A j = some a ∧ H' a = some o) → ItOk X.K (Zt G A W) W H' pl J items → P items → R J H')
section
variable {X : Cx} {c : List Ow} {tg e : Expr} {te : TEm} {pos : Pos}
def iSeq (K : PySem.W.Frag) (tl : TE) : TI := fun σ H R => tl σ H fun x H1 => ∃ a, x = .ref a ∧ (((∃ xs, SqL K H1 a xs) ∧ R (Itl K a) H1) ∨ ((∃ xs, SqT K H1 a xs) ∧ R (Itt K a) H1))
theorem pi_seq {l : Expr} {tl : TE} (hl : PE X l tl) : PI X tg l (iSeq X.K tl) := by
  refine ⟨fun pins s σ H R I h => ?_⟩
  refine thn (hl.run pins s σ H _ I h) fun v s1 ⟨x, H1, I1, r1, q1⟩ => ?_
  obtain ⟨a, e, q1⟩ := q1
  subst e
  cases r1
  rcases q1 with ⟨⟨xs, hq⟩, q⟩ | ⟨⟨xs, hq⟩, q⟩
  · obtain ⟨its, rv, p, hz⟩ := I1.list hq
    refine wpAny_pyIter_list p.isList ?_
    refine ⟨s1.heap.objs.size, [s1.heap.objs.size], _, _, H1, rfl, I1.kept (t' := s1.toks) fun b o e => Heap.get?_push_of_some _ e, turn_list a _, ⟨_, Heap.get?_push_size _ rfl, rfl, rfl⟩, fun b hb => ?_, q⟩
    have e : b = s1.heap.objs.size := by simpa using hb
    subst e
    exact I1.fpOk (Nat.le_refl _) (I1.hok.fresh (Nat.le_refl _))
  · obtain ⟨its, rv, p, hz⟩ := I1.tuple hq
    refine wpAny_pyIter_tuple (show s1.heap.IsTuple a its.toArray from p) ?_
    refine ⟨s1.heap.objs.size, [s1.heap.objs.size], _, _, H1, rfl, I1.kept (t' := s1.toks) fun b o e => Heap.get?_push_of_some _ e, turn_tuple a _, ⟨_, Heap.get?_push_size _ rfl, rfl, rfl⟩, fun b hb => ?_, q⟩
    have e : b = s1.heap.objs.size := by simpa using hb
    subst e
    exact I1.fpOk (Nat.le_refl _) (I1.hok.fresh (Nat.le_refl _))
/-- a list or tuple -/
def mItems (te : TEm) : TIm := fun env P => te env fun p => ∃ ps, seqP p = some ps ∧ P ps
theorem itok_list {K : PySem.W.Frag} {Z : Addr → Prop} {W : Ws} {H : Hp} {a : Addr} {vs : List V} {ps : List PV} (h : ¬ Z a) (e : H a = some (.lst vs)) (r : Rps K ⟨Z, W, H⟩ ps vs) : ItOk K Z W H [] (Itl K a) ps := by
  refine ⟨_, _, by rw [r.len]; exact walk_list, fun Z2 W2 H2 x hz _ => ?_⟩
  have e2 := (x.keep a _ h e).2
  refine ⟨.inl (.inl e2), fun i v H3 p hp y => ?_⟩
  obtain ⟨rfl, hv⟩ := y
  obtain ⟨w, hw, rw'⟩ := r.get hp
  rw [hv] at hw; cases hw
  exact ⟨GrowA.refl, Rp.ext x rw'⟩
theorem itok_own {K : PySem.W.Frag} {Z : Addr → Prop} {W : Ws} {H : Hp} {a : Addr} {vs : List V} {ps : List PV} (e : H a = some (.lst vs)) (r : Rps K ⟨Z, W, H⟩ ps vs) : ItOk K Z W H [(a, .lst vs)] (Itl K a) ps := by
  refine ⟨_, _, by rw [r.len]; exact walk_list, fun Z2 W2 H2 x hz hpl => ?_⟩
  have e2 : H2 a = some (.lst vs) := hpl (a, .lst vs) (by simp)
  refine ⟨.inl (.inl e2), fun i v H3 p hp y => ?_⟩
  obtain ⟨rfl, hv⟩ := y
  obtain ⟨w, hw, rw'⟩ := r.get hp
  rw [hv] at hw; cases hw
  exact ⟨GrowA.refl, Rp.ext x rw'⟩
theorem itok_tup {K : PySem.W.Frag} {Z : Addr → Prop} {W : Ws} {H : Hp} {a : Addr} {vs : List V} {ps : List PV} (e : TupAt K ⟨Z, W, H⟩ a vs) (r : Rps K ⟨Z, W, H⟩ ps vs) : ItOk K Z W H [] (Itt K a) ps := by
  refine ⟨_, _, by rw [r.len]; exact walk_tup, fun Z2 W2 H2 x hz _ => ?_⟩
  refine ⟨(e.ext x).sq, fun i v H3 p hp y => ?_⟩
  obtain ⟨rfl, hv⟩ := y
  obtain ⟨w, hw, rw'⟩ := r.get hp
  rw [hv] at hw; cases hw
  exact ⟨GrowA.refl, Rp.ext x rw'⟩
theorem im_seq (he : PEm X c .cl e te) : PIm X c none tg e (mItems te) := ⟨⟨fun pins s σ H R I h => (pi_seq he.run).run pins s σ H R I (by
  obtain ⟨G, A, W, env, P, R, h, k⟩ := h
  refine ⟨G, A, W, env, _, R, h, fun p v H1 g rv ⟨ps, hp, h1⟩ => ?_⟩
  cases p with
  | lst qs =>
    obtain rfl : qs = ps := Option.some.inj hp
    have rv' := rv.c
    unfold Rp at rv'
    obtain ⟨a, vs, rfl, e, r⟩ := rv'
    exact ⟨a, rfl, .inl ⟨⟨vs, e.sq⟩, k _ qs H1 [] g rfl (itok_list e.1 e.2 r) h1⟩⟩
  | tup qs =>
    obtain rfl : qs = ps := Option.some.inj hp
    have rv' := rv.c
    unfold Rp at rv'
    obtain ⟨a, vs, rfl, e, r⟩ := rv'
    exact ⟨a, rfl, .inr ⟨⟨vs, e.sq⟩, k _ qs H1 [] g rfl (itok_tup e r) h1⟩⟩
  | _ => cases hp)⟩⟩
/-- one's own list -/
theorem im_own (j : Nat) {x : Str} (hN : X.N[j]? = some x := by rfl) (hc : cO c j ≠ .sh := by decide) (hv : Vis X.env.scope x := by first | exact Or.inl rfl | exact Or.inr (Or.inl rfl) | exact Or.inr (Or.inr rfl)) (hd : (x == ("__debug__" : Str)) = false := by decide)
    (hcd : (x == ("__classdict__" : Str)) = false := by decide) : PIm X c (some j) tg (.Name x pos) (fun env P => ∃ ps, env[j]? = some (some (.lst ps)) ∧ P ps) := ⟨⟨fun pins s σ H R I h => (pi_seq (pe_var hN hv hd hcd)).run pins s σ H R I (by
  obtain ⟨G, A, W, env, P, R, ⟨ps, e, h⟩, k⟩ := h
  obtain ⟨v, h1, h2⟩ := R.slots j _ e
  obtain ⟨a, hA⟩ := R.Aset j _ hc e
  rw [hA] at h2
  obtain ⟨rfl, vs, hH, r⟩ := h2
  exact ⟨_, h1, a, rfl, .inl ⟨⟨vs, .inl (.inl hH)⟩, k _ ps H [(a, .lst vs)] (Grow.refl R.src) ⟨a, _, rfl, hA, hH⟩ (itok_own hH r) h⟩⟩)⟩⟩
/-- ranges -/
def rngP (lo : Int) (n : Nat) : List PV := (List.range n).map fun i => PV.int (lo + (i : Nat))
theorem itok_range {K : PySem.W.Frag} {Z : Addr → Prop} {W : Ws} {H : Hp} {lo : Int} {n : Nat} : ItOk K Z W H [] (Itr lo n) (rngP lo n) := by
  refine ⟨_, _, by unfold rngP; rw [List.length_map, List.length_range]; exact walk_range, fun Z2 W2 H2 x hz _ => ⟨trivial, fun i v H3 p hp y => ?_⟩⟩
  obtain ⟨rfl, rfl⟩ := y
  unfold rngP at hp
  obtain ⟨hi, e⟩ := List.getElem?_eq_some_iff.mp hp
  rw [List.length_map, List.length_range] at hi
  rw [List.getElem_map, List.getElem_range] at e
  subst e
  exact ⟨GrowA.refl, Rp.int'⟩
def mRng1 (t : TEm) : TIm := fun env P => t env fun x => ∃ n, x = .int n ∧ (-(2 ^ 62) ≤ n ∧ n < 2 ^ 62) ∧ P (rngP 0 n.toNat)
def mRng2 (t u : TEm) : TIm := fun env P => t env fun x => u env fun y => ∃ a b, x = .int a ∧ y = .int b ∧ (-(2 ^ 62) ≤ a ∧ a < 2 ^ 62 ∧ -(2 ^ 62) ≤ b ∧ b < 2 ^ 62) ∧ P (rngP a (b - a).toNat)
variable {a b : Expr} {ta tb : TEm}
theorem im_rng1 {p : Pos} (hm : X.mg "range" = none) (ha : PEm X c .ow a ta) (hg : Gl X "range" := by rfl) (hs0 : starEach [a] X.env = (false, eval a X.env) :: starEach [] X.env := by rfl) (hs : starEach [a] X.env = [(false, eval a X.env)] := by rfl) : PIm X c none tg (.Call (.Name "range" p) [a] [] pos) (mRng1 ta) := ⟨⟨fun pins s σ H R I h => (pi_range1 hg hm (pa_cons ha.run pa_nil hs0) hs).run pins s σ H R I (by
  obtain ⟨G, A, W, env, P, R, h, k⟩ := h
  refine ⟨G, A, W, env, _, R, h, fun q v H1 g rv ⟨n, e, ⟨h1, h2⟩, h3⟩ => ?_⟩
  subst e
  exact ⟨n, by rw [rv.o.int], h1, h2, k _ _ H1 [] g rfl itok_range h3⟩)⟩⟩
theorem im_rng2 {p : Pos} (hm : X.mg "range" = none) (ha : PEm X c .ow a ta) (hb : PEm X c .ow b tb) (hg : Gl X "range" := by rfl) (hs0 : starEach [a, b] X.env = (false, eval a X.env) :: starEach [b] X.env := by rfl) (hs1 : starEach [b] X.env = (false, eval b X.env) :: starEach [] X.env := by rfl)
    (hs : starEach [a, b] X.env = [(false, eval a X.env), (false, eval b X.env)] := by rfl) (hs2 : starEach [b] X.env = [(false, eval b X.env)] := by rfl) : PIm X c none tg (.Call (.Name "range" p) [a, b] [] pos) (mRng2 ta tb) := ⟨⟨fun pins s σ H R I h => (pi_range2 hg hm (pa_cons ha.run (pa_cons hb.run pa_nil hs1) hs0) hs hs2).run pins s σ H R I (by
  obtain ⟨G, A, W, env, P, R, h, k⟩ := h
  refine ⟨G, A, W, env, _, R, h, fun q v H1 g rv h1 => ⟨G, A, W, env, _, R.grow g, h1, fun q2 v2 H2 g2 rv2 ⟨n, m, e, e2, ⟨b1, b2, b3, b4⟩, h5⟩ => ?_⟩⟩
  subst e e2
  exact ⟨n, m, by rw [rv.o.int, rv2.o.int], ⟨b1, b2, b3, b4⟩, k _ _ H2 [] (g.trans g2) rfl itok_range h5⟩)⟩⟩
end

/-! ### for -/
def mForGo (g : TGm) (tb : TSm) (M : Em) : List PV → Env → Prop
  | [], env => M.nx env
  | x :: xs, env => g x env fun env1 => tb { M with nx := mForGo g tb M xs, ct := mForGo g tb M xs, bk := M.nx } env1
def sFor (wi : TIm) (g : TGm) (tb : TSm) : TSm := fun M env => wi env fun items => mForGo g tb M items env
section
variable {K : PySem.W.Frag} {G : Gh} {c : List Ow} {A : Nat → Option Addr} {W : Ws} {env : Env} {σ : St} {H : Hp}
/-- into a loop: what is clean now stays so -/
noncomputable def inLoop (G : Gh) (Z : Addr → Prop) (W : Ws) (H : Hp) (more : List (Nat × Addr × HO)) : Gh :=
  { G with fz := fun b => open Classical in if Z b then none else H b, Wm := W, pins := more ++ G.pins }
def lkC (c : List Ow) : Option Nat → List Ow
  | none => c
  | some j => c.set j .lk
theorem cO_lk {c : List Ow} {j i : Nat} (hj : cO c j ≠ .sh) : cO (c.set j .lk) i = if i = j then .lk else cO c i := by
  rw [cO_set]
  by_cases h : i = j
  · have hl : j < c.length := by
      cases Nat.lt_or_ge j c.length with
      | inl z => exact z
      | inr z =>
        exact absurd (by unfold cO; rw [List.getD_eq_getElem?_getD, List.getElem?_eq_none z]; rfl) hj
    rw [if_pos ⟨h, hl⟩, if_pos h]
  · rw [if_neg (fun z => h z.1), if_neg h]
theorem SR.loop (R : SR K G c A W env σ H) : SR K (inLoop G (Zt G A W) W H []) c A W env σ H := by
  refine ⟨R.len, R.W0in, fun _ h => h, R.Wnew, R.Wfix, R.src, R.keep, R.zbt, R.Asep, R.Ainj, R.Aset, R.slots, R.pins, fun b o e => ?_⟩
  have e' : (open Classical in if Zt G A W b then none else H b) = some o := e
  by_cases z : Zt G A W b
  · rw [if_pos z] at e'; cases e'
  · rw [if_neg z] at e'; exact ⟨e', z⟩
theorem SR.lock {j : Nat} {a : Addr} {o : HO} (R : SR K G c A W env σ H) (hc : cO c j = .ow) (hA : A j = some a) (e : H a = some o) : SR K (inLoop G (Zt G A W) W H [(j, a, o)]) (c.set j .lk) A W env σ H := by
  have hj : cO c j ≠ .sh := by rw [hc]; decide
  have R' := R.loop
  refine ⟨R.len, R.W0in, fun _ h => h, R.Wnew, R.Wfix, R.src, R.keep, R.zbt, fun i b e => ?_, R.Ainj, fun i p hi e => ?_, R.slots, fun q hq => ?_, R'.fz⟩
  · obtain ⟨h1, h2, h3, h4, h5⟩ := R.Asep i b e
    refine ⟨h1, h2, h3, ?_, h5⟩
    rw [cO_lk hj]
    by_cases z : i = j
    · rw [if_pos z]; decide
    · rw [if_neg z]; exact h4
  · rw [cO_lk hj] at hi
    by_cases z : i = j
    · exact ⟨a, z ▸ hA⟩
    · rw [if_neg z] at hi; exact R.Aset i p hi e
  · rcases List.mem_append.mp hq with hq | hq
    · have : q = (j, a, o) := by simpa using hq
      subst this
      exact ⟨e, (R.Asep j a hA).2.1, hA, by rw [cO_lk hj, if_pos rfl]⟩
    · obtain ⟨h1, h2, h3, h4⟩ := R.pins q hq
      refine ⟨h1, h2, h3, ?_⟩
      rw [cO_lk hj]
      by_cases z : q.1 = j
      · rw [if_pos z]
      · rw [if_neg z]; exact h4
theorem SR.unloop {Z0 : Addr → Prop} {W0 : Ws} {H0 : Hp} {more : List (Nat × Addr × HO)} (R : SR K (inLoop G Z0 W0 H0 more) c A W env σ H) (hf : ∀ b o, G.fz b = some o → H0 b = some o ∧ ¬ Z0 b) (hw : ∀ p ∈ G.Wm, p ∈ W0) : SR K G c A W env σ H := by
  refine ⟨R.len, R.W0in, fun p h => R.Wmin p (hw p h), R.Wnew, R.Wfix, R.src, R.keep, R.zbt, R.Asep, R.Ainj, R.Aset, R.slots, fun q hq => R.pins q (List.mem_append_right _ hq), fun b o e => R.fz b o ?_⟩
  obtain ⟨h1, h2⟩ := hf b o e
  show (open Classical in if Z0 b then none else H0 b) = some o
  rw [if_neg h2]; exact h1
theorem SR.unlock {j : Nat} (R : SR K G (c.set j .lk) A W env σ H) (hc : cO c j = .ow) (hp : ∀ q ∈ G.pins, cO c q.1 = .lk) : SR K G c A W env σ H := by
  have hj : cO c j ≠ .sh := by rw [hc]; decide
  have eq : ∀ i, cO (c.set j .lk) i ≠ .sh ↔ cO c i ≠ .sh := fun i => by
    rw [cO_lk hj]
    by_cases z : i = j
    · rw [if_pos z, z]; exact ⟨fun _ => hj, fun _ => by decide⟩
    · rw [if_neg z]
  refine ⟨R.len, R.W0in, R.Wmin, R.Wnew, R.Wfix, R.src, R.keep, R.zbt, fun i b e => ?_, R.Ainj, fun i p hi e => R.Aset i p ((eq i).mpr hi) e, R.slots, fun q hq => ?_, R.fz⟩
  · obtain ⟨h1, h2, h3, h4, h5⟩ := R.Asep i b e
    exact ⟨h1, h2, h3, (eq i).mp h4, h5⟩
  · obtain ⟨h1, h2, h3, _⟩ := R.pins q hq
    exact ⟨h1, h2, h3, hp q hq⟩
/-- the state in a loop sees all that was clean -/
theorem SR.ext {Z0 : Addr → Prop} {W0 : Ws} {H0 : Hp} {more : List (Nat × Addr × HO)} (R : SR K (inLoop G Z0 W0 H0 more) c A W env σ H) : Ext ⟨Z0, W0, H0⟩ ⟨Zt (inLoop G Z0 W0 H0 more) A W, W, H⟩ :=
  ⟨fun b o n e => by
    obtain ⟨h1, h2⟩ := R.fz b o (by
      show (open Classical in if Z0 b then none else H0 b) = some o
      rw [if_neg n]; exact e)
    exact ⟨h2, h1⟩, fun p hp => R.Wmin p hp⟩
end
section
variable {X : Cx} {f : Fx} {c : List Ow} {tg iter : Expr} {body : List Stmt} {wi : TIm} {g : TGm} {tb : TSm} {pos : Pos}
theorem sm_for {lk : Option Nat} {vs : List Nat} (hp : PassesOwn (model X.prog X.w) X.A X.env X.xe) (hc : X.calm = true) (hi : PIm X c lk tg iter wi) (hg : PGm X (lkC c lk) vs tg g) (hb : PSsm X { f with cL := lkC c lk } (lkC c lk) (lkC c lk) body tb) (hlk : ∀ j, lk = some j → cO c j = .ow)
    (hs : ∀ x, foldedSetIterable iter X.env x = pure x := by intro _; rfl) : PSm X f c c (.For tg iter body [] pos) (sFor wi g tb) := ⟨(ps_for hp hc hi.run hg.run hb.run hs).weak fun D σ H h => by
  obtain ⟨G, A, W, env, M, hgw, R, h, k⟩ := h
  refine ⟨G, A, W, env, _, R, h, fun J items H1 pl g1 hpl ⟨Gd, Y, wk, hit⟩ h1 => ?_⟩
  have R1 := R.grow g1
  -- into the loop
  obtain ⟨more, hmore, R2, hnx⟩ : ∃ more, (∀ q ∈ pl, ∃ j, (j, q.1, q.2) ∈ more) ∧ SR X.K (inLoop G (Zt G A W) W H1 more) (lkC c lk) A W env σ H1 ∧
      ∀ A' W' env' σ' H', SR X.K (inLoop G (Zt G A W) W H1 more) (lkC c lk) A' W' env' σ' H' → SR X.K G c A' W' env' σ' H' := by
    cases lk with
    | none =>
      have hpl' : pl = [] := hpl
      subst hpl'
      exact ⟨[], (fun q hq => by cases hq), R1.loop, fun A' W' env' σ' H' R' => R'.unloop R1.fz R1.Wmin⟩
    | some j =>
      obtain ⟨a, o, rfl, hA, ho⟩ := hpl
      have hj := hlk j rfl
      refine ⟨[(j, a, o)], (fun q hq => ⟨j, by rw [List.mem_singleton] at hq; rw [hq]; exact List.mem_singleton.mpr rfl⟩), R1.lock hj hA ho, fun A' W' env' σ' H' R' => ?_⟩
      exact (R'.unloop R1.fz R1.Wmin).unlock hj fun q hq => (R1.pins q hq).2.2.2
  have K2 : Kont X.K f.rm (lkC c lk) (lkC c lk) (inLoop G (Zt G A W) W H1 more) M ⟨fun σ H => D.nx σ H, D.rt, fun _ _ => True, fun _ _ => True⟩ :=
    ⟨fun A' W' env' σ' H' R' h' => k.nx _ _ _ _ _ (hnx _ _ _ _ _ R') h', fun p v H' r h' => k.rt p v H' r h', fun _ _ _ _ _ _ _ => trivial, fun _ _ _ _ _ _ _ => trivial⟩
  refine for_it (D := D) (g := tgM X.K (lkC c lk) vs g) (tb := tmS X.K { f with cL := lkC c lk } (lkC c lk) (lkC c lk) tb) wk (fun i σ H => ∃ A' W' env', SR X.K (inLoop G (Zt G A W) W H1 more) (lkC c lk) A' W' env' σ H ∧ mForGo g tb M (items.drop i) env') ⟨A, W, env, R2, h1⟩ (fun i σ H _ hP => ?_) (fun i x σ H H' hi hP y => ?_) (fun σ H hP => ?_)
  · obtain ⟨A', W', env', R', _⟩ := hP
    exact (hit _ W' H R'.ext R'.dz fun q hq => by
      obtain ⟨j, hj⟩ := hmore q hq
      exact (R'.pins (j, q.1, q.2) (List.mem_append_left _ hj)).1).1
  · obtain ⟨A', W', env', R', h'⟩ := hP
    have hd : items.drop i = items[i] :: items.drop (i + 1) := List.drop_eq_getElem_cons hi
    rw [hd] at h'
    obtain ⟨ga, rp⟩ := (hit _ W' H R'.ext R'.dz fun q hq => by
      obtain ⟨j, hj⟩ := hmore q hq
      exact (R'.pins (j, q.1, q.2) (List.mem_append_left _ hj)).1).2 i x H' items[i] (List.getElem?_eq_getElem hi) y
    refine ⟨_, A', W', env', items[i], _, R'.grow (ga.grow R'.src), rp, h', fun env2 σ2 R2 _ h2 => ?_⟩
    refine ⟨inLoop G (Zt G A W) W H1 more, A', W', env2, _, hgw, R2, h2, ⟨fun A3 W3 env3 σ3 H3 R3 h3 => ⟨A3, W3, env3, R3, h3⟩, fun p v H3 r3 h3 => k.rt p v H3 r3 h3, fun A3 W3 env3 σ3 H3 R3 h3 => k.nx _ _ _ _ _ (hnx _ _ _ _ _ R3) h3, fun A3 W3 env3 σ3 H3 R3 h3 => ⟨A3, W3, env3, R3, h3⟩⟩⟩
  · obtain ⟨A', W', env', R', h'⟩ := hP
    rw [List.drop_length] at h'
    exact k.nx _ _ _ _ _ (hnx _ _ _ _ _ R') h'⟩
/-- while -/
def sWhile (tc : TTm) (tb : TSm) : TSm := fun M env => ∃ Wv : Nat → Env → Prop, (∃ m, Wv m env) ∧ ∀ m env, Wv m env →
  tc env fun b => if b = true then tb { M with nx := fun env' => ∃ m', m' < m ∧ Wv m' env', ct := fun env' => ∃ m', m' < m ∧ Wv m' env', bk := M.nx } env else M.nx env
theorem sm_while {cnd : Expr} {tc : TTm} (hp : PassesOwn (model X.prog X.w) X.A X.env X.xe) (hc : PTm X c cnd tc) (hb : PSsm X { f with cL := c } c c body tb) : PSm X f c c (.While cnd body [] pos) (sWhile tc tb) := ⟨(ps_while hp hc.run hb.run).weak fun D σ H h => by
  obtain ⟨G, A, W, env, M, hgw, R, ⟨Wv, ⟨m, w0⟩, turn⟩, k⟩ := h
  refine ⟨fun m σ H => ∃ A W env, SR X.K G c A W env σ H ∧ Wv m env, ⟨m, A, W, env, R, w0⟩, ?_⟩
  rintro m σ H ⟨A, W, env, R, w⟩
  refine ⟨G, A, W, env, _, R, turn m env w, fun b H1 g h1 => ?_⟩
  cases b with
  | true =>
    rw [if_pos rfl] at h1 ⊢
    refine ⟨fun σ' H' => ∃ m' A W env, m' < m ∧ SR X.K G c A W env σ' H' ∧ Wv m' env, fun σ' H' ⟨m', A, W, env, hm, R', w'⟩ => ⟨m', hm, A, W, env, R', w'⟩, ?_⟩
    exact ⟨G, A, W, env, _, hgw, R.grow g, h1, ⟨fun A W env σ H R' ⟨m', hm, w'⟩ => ⟨m', A, W, env, hm, R', w'⟩, k.rt, fun A W env σ H R' h' => k.nx A W env σ H R' h', fun A W env σ H R' ⟨m', hm, w'⟩ => ⟨m', A, W, env, hm, R', w'⟩⟩⟩
  | false =>
    rw [if_neg Bool.false_ne_true] at h1 ⊢
    exact k.nx A W env σ H1 (R.grow g) h1⟩
end
end PM

set_option maxHeartbeats 1000000
/-! PM: comprehensions. -/
namespace PM
open PySem L2
def wipeE (env : Env) : List Nat → Env
  | [] => env
  | v :: vs => (wipeE env vs).set v none
theorem wipeE_length (env : Env) : ∀ vs : List Nat, (wipeE env vs).length = env.length
  | [] => rfl
  | v :: vs => by unfold wipeE; rw [List.length_set, wipeE_length env vs]
theorem wipeE_some {env : Env} {i : Nat} {p : PV} : ∀ {vs : List Nat}, (wipeE env vs)[i]? = some (some p) → env[i]? = some (some p) ∧ i ∉ vs
  | [], h => ⟨h, by simp⟩
  | v :: vs, h => by
    unfold wipeE at h
    rw [List.getElem?_set] at h
    by_cases e : v = i
    · rw [if_pos e] at h
      split at h <;> cases h
    · rw [if_neg e] at h
      obtain ⟨h1, h2⟩ := wipeE_some h
      refine ⟨h1, fun z => ?_⟩
      rcases List.mem_cons.mp z with z | z
      · exact e z.symm
      · exact h2 z
theorem wipe_out {σ : St} {j : Nat} : ∀ {vs : List Nat}, j ∉ vs → (wipe σ vs)[j]? = σ[j]?
  | [], _ => rfl
  | v :: vs, h => by
    unfold wipe
    rw [List.getElem?_set_ne (fun z => h (by rw [z]; exact List.mem_cons_self)), wipe_out (fun z => h (List.mem_cons_of_mem _ z))]
theorem wipe_in {σ : St} {j : Nat} : ∀ {vs : List Nat}, j ∈ vs → j < σ.length → (wipe σ vs)[j]? = some none
  | [], h, _ => by cases h
  | v :: vs, h, hl => by
    unfold wipe
    by_cases e : v = j
    · subst e
      rw [List.getElem?_set_self (by rw [wipe_length]; exact hl)]
    · rw [List.getElem?_set_ne e]
      rcases List.mem_cons.mp h with z | z
      · exact absurd z.symm e
      · exact wipe_in z hl
theorem Touch.wipe {vs ws : List Nat} {σ σ' : St} (t : Touch ws σ σ') (h : ∀ j ∈ ws, j ∈ vs) : wipe σ' vs = wipe σ vs := by
  apply List.ext_getElem?
  intro j
  by_cases hj : j ∈ vs
  · by_cases hl : j < σ.length
    · rw [wipe_in hj hl, wipe_in hj (by rw [t.1]; exact hl)]
    · rw [List.getElem?_eq_none (by rw [wipe_length, t.1]; omega), List.getElem?_eq_none (by rw [wipe_length]; omega)]
  · rw [wipe_out hj, wipe_out hj]
    exact t.2 j fun z => hj (h j z)
theorem wipe_wipe {σ : St} {vs : List Nat} : wipe (wipe σ vs) vs = wipe σ vs := by
  apply List.ext_getElem?
  intro j
  by_cases hj : j ∈ vs
  · by_cases hl : j < σ.length
    · rw [wipe_in hj (by rw [wipe_length]; exact hl), wipe_in hj hl]
    · rw [List.getElem?_eq_none (by rw [wipe_length, wipe_length]; omega), List.getElem?_eq_none (by rw [wipe_length]; omega)]
  · rw [wipe_out hj]
section
variable {K : PySem.W.Frag} {G : Gh} {c : List Ow} {A : Nat → Option Addr} {W : Ws} {env : Env} {σ : St} {H : Hp}
theorem SR.wipe (vs : List Nat) (R : SR K G c A W env σ H) : SR K G c A W (wipeE env vs) (L2.wipe σ vs) H := by
  refine ⟨by rw [wipeE_length, wipe_length]; exact R.len, R.W0in, R.Wmin, R.Wnew, R.Wfix, R.src, R.keep, R.zbt, R.Asep, R.Ainj, fun i p hc e => R.Aset i p hc (wipeE_some e).1, fun i p e => ?_, R.pins, R.fz⟩
  obtain ⟨e1, n⟩ := wipeE_some e
  obtain ⟨v, h1, h2⟩ := R.slots i p e1
  exact ⟨v, by rw [wipe_out n]; exact h1, h2⟩
/-- one more place to be avoided -/
def Gh.and (G : Gh) (D : Addr) : Gh := { G with zb := fun b => G.zb b ∨ b = D }
theorem zt_and {D : Addr} {b : Addr} : Zt (G.and D) A W b ↔ (Zt G A W b ∨ b = D) := by
  constructor
  · rintro ((h | h) | h | h)
    · exact .inl (.inl h)
    · exact .inr h
    · exact .inl (.inr (.inl h))
    · exact .inl (.inr (.inr h))
  · rintro ((h | h | h) | h)
    · exact .inl (.inl h)
    · exact .inr (.inl h)
    · exact .inr (.inr h)
    · exact .inl (.inr h)
theorem SR.and {D : Addr} {o : HO} (R : SR K G c A W env σ H) (n : H D = none) : SR K (G.and D) c A W env σ (upd H D o) := by
  have g : Grow W H (upd H D o) := Grow.new R.src n
  have R' := R.grow g
  have nt : ∀ b u, H b = some u → b ≠ D := fun b u e z => by rw [z, n] at e; cases e
  have x : Ext ⟨Zt G A W, W, H⟩ ⟨Zt (G.and D) A W, W, upd H D o⟩ := ⟨fun b u hz e => ⟨fun z => (zt_and.mp z).elim hz (nt b u e), by show upd H D o b = some u; rw [upd_ne (nt b u e)]; exact e⟩, fun _ h => h⟩
  refine ⟨R'.len, R'.W0in, R'.Wmin, R'.Wnew, R'.Wfix, R'.src, R'.keep, fun b hb => ?_, fun i a e => ?_, R'.Ainj, R'.Aset, fun i p e => ?_, R'.pins, fun b u e => ?_⟩
  · rcases hb with hb | hb
    · exact R'.zbt b hb
    · rw [hb]; exact ⟨o, upd_same⟩
  · obtain ⟨h1, h2, h3, h4, h5⟩ := R'.Asep i a e
    obtain ⟨_, _, _, _, u, hu⟩ := R.Asep i a e
    exact ⟨h1, h2, fun z => z.elim h3 (nt a u hu), h4, h5⟩
  · obtain ⟨v, h1, h2⟩ := R.slots i p e
    refine ⟨v, h1, ?_⟩
    cases hA : A i with
    | none => rw [hA] at h2; exact Rp.ext x h2
    | some a =>
      rw [hA] at h2
      obtain ⟨_, _, _, _, u, hu⟩ := R.Asep i a hA
      exact ⟨h2.1, h2.2.ext x (upd_ne (nt a u hu))⟩
  · obtain ⟨h1, h2⟩ := R.fz b u e
    exact ⟨by rw [upd_ne (nt b u h1)]; exact h1, fun z => (zt_and.mp z).elim h2 (nt b u h1)⟩
theorem SR.upZ {D : Addr} {o : HO} (R : SR K G c A W env σ H) (hz : G.zb D) (h0 : G.H0 D = none) (nw : ¬ inW W D) : SR K G c A W env σ (upd H D o) := by
  have za : Zt G A W D := .inl hz
  have x : Ext ⟨Zt G A W, W, H⟩ ⟨Zt G A W, W, upd H D o⟩ := ⟨fun b w hn e => ⟨hn, by show upd H D o b = some w; rw [upd_ne (fun z => hn (by rw [z]; exact za))]; exact e⟩, fun _ h => h⟩
  have tr : ∀ b, (∃ w, H b = some w) → ∃ w, upd H D o b = some w := fun b ⟨w, e⟩ => by
    by_cases z : b = D
    · subst z; exact ⟨o, upd_same⟩
    · exact ⟨w, by rw [upd_ne z]; exact e⟩
  have neA : ∀ i a, A i = some a → a ≠ D := fun i a e z => (R.Asep i a e).2.2.1 (by rw [z]; exact hz)
  refine ⟨R.len, R.W0in, R.Wmin, R.Wnew, R.Wfix, fun q hq => ?_, fun b w hw e => ?_, fun b hb => tr b (R.zbt b hb), fun i a e => ?_, R.Ainj, R.Aset, fun i p e => ?_, fun q hq => ?_, fun b w e => ?_⟩
  · exact SA.at (upd_ne (fun z => nw ⟨q, hq, .inl z.symm⟩)) (upd_ne (fun z => nw ⟨q, hq, .inr z.symm⟩)) (R.src q hq)
  · rw [upd_ne (fun z => by rw [z, h0] at e; cases e)]; exact R.keep b w hw e
  · obtain ⟨h1, h2, h3, h4, h5⟩ := R.Asep i a e
    exact ⟨h1, h2, h3, h4, tr a h5⟩
  · obtain ⟨v, h1, h2⟩ := R.slots i p e
    refine ⟨v, h1, ?_⟩
    cases hA : A i with
    | none => rw [hA] at h2; exact Rp.ext x h2
    | some a => rw [hA] at h2; exact ⟨h2.1, h2.2.ext x (upd_ne (neA i a hA))⟩
  · obtain ⟨h1, h2, h3, h4⟩ := R.pins q hq
    exact ⟨by rw [upd_ne (neA q.1 _ h3)]; exact h1, h2, h3, h4⟩
  · obtain ⟨h1, h2⟩ := R.fz b w e
    exact ⟨by rw [upd_ne (fun z => h2 (by rw [z]; exact za))]; exact h1, h2⟩
end
structure PTsm (X : Cx) (c : List Ow) (es : List Expr) (t : TTm) : Prop where
  run : PTs X es (tmT X.K c t)
def mYes : TTm := fun _ P => P true
theorem tsm_nil {X : Cx} {c : List Ow} : PTsm X c [] mYes := ⟨⟨fun pins s σ H Q I h => pts_nil.run pins s σ H Q I (by
  obtain ⟨G, A, W, env, P, R, h, k⟩ := h
  exact k true H (Grow.refl R.src) h)⟩⟩
theorem tsm_one {X : Cx} {c : List Ow} {e : Expr} {t : TTm} (h : PTm X c e t) : PTsm X c [e] t := ⟨pts_one h.run⟩
/-- the turns of a comprehension -/
def mCompGo (g : TGm) (tt : TTm) (te : TEm) (env : Env) (P : PV → Prop) : List PV → List PV → Prop
  | [], acc => P (.lst acc)
  | x :: xs, acc => g x env fun env1 => tt env1 fun b => if b = true then te env1 fun y => acc.length < sizeLine ∧ mCompGo g tt te env P xs (acc ++ [y]) else mCompGo g tt te env P xs acc
def mLc (wi : TIm) (vs : List Nat) (g : TGm) (tt : TTm) (te : TEm) : TEm := fun env P => wi env fun items => mCompGo g tt te (wipeE env vs) P items []
def tiM (K : PySem.W.Frag) (c : List Ow) (lk : Option Nat) (t : TIm) : TI := fun σ H R => ∃ G A W env P, SR K G c A W env σ H ∧ t env P ∧ ∀ J items H' pl, Grow W H H' → (match lk with | none => pl = [] | some j => ∃ a o, pl = [(a, o)] ∧ A j = some a ∧ H' a = some o) → ItOk K (Zt G A W) W H' pl J items → P items → R J H'
theorem tm_lc {K : PySem.W.Frag} {c : List Ow} {lk : Option Nat} {wi : TIm} {vs ws : List Nat} {g : TGm} {tt : TTm} {te : TEm} (hw : ∀ j ∈ ws, j ∈ vs) (σ : St) (H : Hp) (Q : VK) (h : tmE K c .fr (mLc wi vs g tt te) σ H Q) :
    tLc (tiM K c lk wi) (tgM K c ws g) (tmT K c tt) (tmE K c .cl te) vs σ H Q := by
  obtain ⟨G, A, W, env, P, R, h, k⟩ := h
  refine ⟨G, A, W, env, _, R, h, fun J items H1 pl g1 hpl ⟨Gd, Y, wk, hit⟩ h1 D nD => ?_⟩
  have R1 := R.grow g1
  have nW : ¬ inW W D := fun w => by obtain ⟨o, e⟩ := inW_some R1.src w; rw [nD] at e; cases e
  have plD : ∀ q ∈ pl, H1 q.1 = some q.2 ∧ ¬ inW W q.1 := fun q hq => by
    cases lk with
    | none => have e : pl = [] := hpl; rw [e] at hq; cases hq
    | some j =>
      obtain ⟨a, o, e, hA, ho⟩ := hpl
      rw [e, List.mem_singleton] at hq
      rw [hq]
      exact ⟨ho, (R1.Asep j a hA).2.1⟩
  have RD : SR K (G.and D) c A W (wipeE env vs) (wipe σ vs) (upd H1 D (.lst [])) := (R1.wipe vs).and nD
  refine lc_it (g := tgM K c ws g) (tt := tmT K c tt) (te := tmE K c .cl te) wk
    (fun i H2 => ∃ acc wacc, SR K (G.and D) c A W (wipeE env vs) (wipe σ vs) H2 ∧ Grow W H1 H2 ∧ H2 D = some (.lst wacc) ∧ Rps K ⟨Zt (G.and D) A W, W, H2⟩ acc wacc ∧ mCompGo g tt te (wipeE env vs) P (items.drop i) acc)
    ⟨[], [], RD, Grow.new R1.src nD, upd_same, Rps.nil, h1⟩ (fun i H2 _ hP => ?_) (fun i x H2 H3 hi hP y => ?_) (fun H2 hP => ?_)
  · obtain ⟨acc, wacc, R2, g2, hD, ra, hq⟩ := hP
    refine (hit _ W H2 ⟨fun b o hz e => ?_, fun _ h => h⟩ R2.dz fun q hq => g2.keep _ _ (plD q hq).2 (plD q hq).1).1
    exact ⟨fun z => (zt_and.mp z).elim hz (fun z => by have e' : H1 b = some o := e; rw [z, nD] at e'; cases e'), g2.keep b o (fun w => hz (Zt.w w)) e⟩
  · obtain ⟨acc, wacc, R2, g2, hD, ra, hq⟩ := hP
    have x12 : Ext ⟨Zt G A W, W, H1⟩ ⟨Zt (G.and D) A W, W, H2⟩ := ⟨fun b o hz e => ⟨fun z => (zt_and.mp z).elim hz (fun z => by have e' : H1 b = some o := e; rw [z, nD] at e'; cases e'), g2.keep b o (fun w => hz (Zt.w w)) e⟩, fun _ h => h⟩
    have hd : items.drop i = items[i] :: items.drop (i + 1) := List.drop_eq_getElem_cons hi
    rw [hd] at hq
    obtain ⟨ga, rp⟩ := (hit _ W H2 x12 R2.dz fun q hq => g2.keep _ _ (plD q hq).2 (plD q hq).1).2 i x H3 items[i] (List.getElem?_eq_getElem hi) y
    have g23 := ga.grow R2.src
    have R3 := R2.grow g23
    refine ⟨G.and D, A, W, wipeE env vs, items[i], _, R3, rp, hq, fun env1 σ1 R4 t4 h4 => ?_⟩
    refine ⟨(t4.wipe hw).trans wipe_wipe, G.and D, A, W, env1, _, R4, h4, fun b H4 g4 h5 => ?_⟩
    cases b with
    | true =>
      rw [if_pos rfl] at h5 ⊢
      refine ⟨G.and D, A, W, env1, _, R4.grow g4, h5, fun p v H5 g5 rv ⟨hl, h6⟩ => ?_⟩
      have g25 : Grow W H2 H5 := (g23.trans g4).trans g5
      have hD5 : H5 D = some (.lst wacc) := g25.keep D _ nW hD
      have R5 := R2.grow g25
      have ra5 : Rps K ⟨Zt (G.and D) A W, W, H5⟩ acc wacc := Rps.ext (g25.ext R2.sz) ra
      have zD : Zt (G.and D) A W D := zt_and.mpr (.inr rfl)
      have xD : ∀ o, Ext ⟨Zt (G.and D) A W, W, H5⟩ ⟨Zt (G.and D) A W, W, upd H5 D o⟩ := fun o => ⟨fun b w hn e => ⟨hn, by show upd H5 D o b = some w; rw [upd_ne (fun z => hn (by rw [z]; exact zD))]; exact e⟩, fun _ h => h⟩
      refine ⟨wacc, hD5, by rw [← ra.len]; exact hl, acc ++ [p], wacc ++ [v], R5.upZ (.inr rfl) (R1.h0 nD) nW, ?_, upd_same, Rps.ext (xD _) (ra5.append (Rps.cons rv.c Rps.nil)), h6⟩
      have g15 := g2.trans g25
      exact ⟨fun b o hw e => by rw [upd_ne (fun z => by rw [z, nD] at e; cases e)]; exact g15.keep b o hw e, (R5.upZ (o := .lst (wacc ++ [v])) (.inr rfl) (R1.h0 nD) nW).src⟩
    | false =>
      rw [if_neg Bool.false_ne_true] at h5 ⊢
      have g24 : Grow W H2 H4 := g23.trans g4
      exact ⟨acc, wacc, R2.grow g24, g2.trans g24, g24.keep D _ nW hD, Rps.ext (g24.ext R2.sz) ra, h5⟩
  · obtain ⟨acc, wacc, R2, g2, hD, ra, hq⟩ := hP
    rw [List.drop_length] at hq
    exact k (.lst acc) (.ref D) H2 (g1.trans g2) ⟨D, rfl, g1.free nD, wacc, hD, Rps.ext (ext_less fun b z => zt_and.mpr z) ra⟩ hq
section
variable {X : Cx} {f : Fx} {c : List Ow} {lk : Option Nat} {elt tg iter : Expr} {ifs : List Expr} {scope : Scope} {own : List (Str × Nat)} {pos spos : Pos} {wi : TIm} {ws : List Nat} {g : TGm} {tt : TTm} {te : TEm}
theorem em_lc (hc : X.calm = true) (hN : X.N.Nodup) (hi : PIm X c lk tg iter wi) (ok : BlkOk X.N X.env.scope scope own)
    (hg : ∀ (s : Shared) (H : Hp) (C : Addr) (cl : List (Str × Addr)) (fp : List Addr), PGm (X.blk s H scope (compEnvC scope cl C X.env) fp) c ws tg g) (ht : ∀ (s : Shared) (H : Hp) (C : Addr) (cl : List (Str × Addr)) (fp : List Addr), PTsm (X.blk s H scope (compEnvC scope cl C X.env) fp) c ifs tt)
    (he : ∀ (s : Shared) (H : Hp) (C : Addr) (cl : List (Str × Addr)) (fp : List Addr), PEm (X.blk s H scope (compEnvC scope cl C X.env) fp) c .cl elt te) (hw : ∀ j ∈ ws, j ∈ own.map (·.2) := by decide) (hs : ∀ x, foldedSetIterable iter X.env x = pure x := by intro _; rfl) :
    PEm X c .fr (.ListComp elt [⟨tg, iter, ifs, 0⟩] scope pos) (mLc wi (own.map (·.2)) g tt te) :=
  ⟨(pe_lc hc hN hi.run ok (fun s H C cl fp => (hg s H C cl fp).run) (fun s H C cl fp => (ht s H C cl fp).run) (fun s H C cl fp => (he s H C cl fp).run) hs).weak fun σ H Q h => tm_lc hw σ H Q h⟩
theorem sm_setLc (i : Nat) {y : Str} {py : Pos} (hc : X.calm = true) (hN : X.N.Nodup) (hi : PIm X c lk tg iter wi) (ok : BlkOk X.N X.env.scope scope own)
    (hg : ∀ (s : Shared) (H : Hp) (C : Addr) (cl : List (Str × Addr)) (fp : List Addr), PGm (X.blk s H scope (compEnvC scope cl C X.env) fp) c ws tg g) (ht : ∀ (s : Shared) (H : Hp) (C : Addr) (cl : List (Str × Addr)) (fp : List Addr), PTsm (X.blk s H scope (compEnvC scope cl C X.env) fp) c ifs tt)
    (he : ∀ (s : Shared) (H : Hp) (C : Addr) (cl : List (Str × Addr)) (fp : List Addr), PEm (X.blk s H scope (compEnvC scope cl C X.env) fp) c .cl elt te)
    (hsw : swapsWith (.ListComp elt [⟨tg, iter, ifs, 0⟩] scope pos) (some (.Name y py)) spos.line X.env = pure true) (hy : X.N[i]? = some y := by rfl) (hyl : X.env.scope.names.lookup y = some .local := by rfl) (hlen : i < c.length := by decide) (hl : cO c i ≠ .lk := by decide) (hw : ∀ j ∈ ws, j ∈ own.map (·.2) := by decide) (hs : ∀ x, foldedSetIterable iter X.env x = pure x := by intro _; rfl) :
    PSm X f c (c.set i .ow) (.Assign [.Name y py] (.ListComp elt [⟨tg, iter, ifs, 0⟩] scope pos) spos) (sSet i (mLc wi (own.map (·.2)) g tt te)) :=
  ⟨(ps_setLc hc hN hy hyl hsw hi.run ok (fun s H C cl fp => (hg s H C cl fp).run) (fun s H C cl fp => (ht s H C cl fp).run) (fun s H C cl fp => (he s H C cl fp).run) hs).weak fun D σ H h => by
    obtain ⟨G, A, W, env, M, hgw, R, h, k⟩ := h
    refine tm_lc hw σ H _ ⟨G, A, W, env, _, R, h, fun p v H1 g r h1 => ?_⟩
    obtain ⟨a, rfl, n, o⟩ := r
    exact k.nx _ W _ _ H1 (R.set_ow hlen hl g n o) h1⟩
end
end PM

set_option maxHeartbeats 1000000
/-! PM: defs and their calls. -/
namespace PM
open PySem L2
abbrev Spec := List PV → (PV → Prop) → Prop
/-- what a def promises -/
def spM (K : PySem.W.Frag) (rm : Md) (spec : Spec) : Sp := fun vs H Q _ => ∃ (zb : Addr → Prop) (W : Ws) (ps : List PV) (P : PV → Prop), (∀ b, zb b → ∃ o, H b = some o) ∧ (∀ q ∈ W, SA H q) ∧ Rps K ⟨fun b => zb b ∨ inW W b, W, H⟩ ps vs ∧ spec ps P ∧
  ∀ p v H', Grow W H H' → VK1 K rm (fun b => zb b ∨ inW W b) W H H' p v → P p → Q v H'
def mCall (spec : Spec) (ds : List PV) (t : TAm) : TEm := fun env P => t env fun ps => spec (ps ++ ds) P
theorem VK1.less {K : PySem.W.Frag} {Z Z' : Addr → Prop} {W : Ws} {H H' : Hp} {p : PV} {v : V} {md : Md} (hm : md ≠ .ow) (h : ∀ b, Z' b → Z b) (r : VK1 K md Z W H H' p v) : VK1 K md Z' W H H' p v := by
  cases md with
  | cl => exact VK1.ofRp (Rp.ext (ext_less h) r.c)
  | ow => exact absurd rfl hm
  | fr =>
    obtain ⟨a, e, n, o⟩ := r
    exact ⟨a, e, n, o.less fun b z => z.elim (fun z => .inl (h b z)) .inr⟩
/-- defaults: constants -/
def Cst (K : PySem.W.Frag) (ds : List PV) (vs : List V) : Prop := ∀ S, Rps K S ds vs
section
variable {X : Cx} {c : List Ow} {k : Nat} {fa : Addr} {fd : FuncData} {pns : List Str} {spec : Spec} {rm : Md} {x : Str} {p pos : Pos} {e : Expr} {es : List Expr} {t : TAm} {ds : List PV} {dvs : List V} {dus : List Value}
theorem tm_call {K : PySem.W.Frag} (hm : rm ≠ .ow) (hds : Cst K ds dvs) (σ : St) (H : Hp) (Q : VK) (h : tmE K c rm (mCall spec ds t) σ H Q) : tCall (spM K rm spec) dvs E0 (tmA K c .cl t) σ H Q := by
  obtain ⟨G, A, W, env, P, R, h, k⟩ := h
  refine ⟨G, A, W, env, _, R, h, fun ps vs H1 g1 rs h1 => ?_⟩
  have R1 := R.grow g1
  have l1 : ∀ b, (Zt G A W b ∨ inW W b) → Zt G A W b := fun b z => z.elim id Zt.w
  refine ⟨Zt G A W, W, ps ++ ds, P, R1.dz, R1.src, (Rps.ext (ext_less l1) rs.rps).append (hds _), h1, fun p v H' g r hp => k p v H' (g1.trans g) ?_ hp⟩
  exact (r.less hm fun b z => .inl z).back g1
theorem em_call (F : FnOk X.prog X.w X.K X.mg X.base CX0 k fa fd pns (spM X.K rm spec)) (hr : Room k X.A) (hm : X.mg x = some (.ref fa)) (hk : PySem.W.keepIn X.K (.ref fa) = true) (hb : Binds X.K fd pns dus) (hd : Vals dvs dus) (hds : Cst X.K ds dvs)
    (ha : PAm X c .cl (e :: es) t) (hrm : rm ≠ .ow := by decide) (hg : Gl X x := by rfl) (hdb : (x == ("__debug__" : Str)) = false := by decide) (he : starEach (e :: es) X.env = (false, eval e X.env) :: starEach es X.env := by rfl) (hpl : (backTo pos (starEach es X.env)).any (·.1) = false := by rfl) :
    PEm X c rm (.Call (.Name x p) (e :: es) [] pos) (mCall spec ds t) := ⟨(pe_call F hr hg hm hk hb hd pass0 ha.run hdb he hpl).weak fun σ H Q h => tm_call hrm hds σ H Q h⟩
/-- a def's own lists handed on for a look: what comes back is no list -/
def mCallO (spec : Spec) (ds : List PV) (t : TAm) : TEm := fun env P => t env fun ps => spec (ps ++ ds) fun r => flatP r = true ∧ P r
theorem VKs.look {K : PySem.W.Frag} {Z : Addr → Prop} {W : Ws} {H : Hp} (hz : ∀ b, inW W b → Z b) : ∀ {ps : List PV} {vs : List V}, VKs K .ow Z W H ps vs → Rps K ⟨fun b => (fun _ => False) b ∨ inW W b, W, H⟩ ps vs
  | _, _, .nil => Rps.nil
  | p :: _, v :: _, .cons h t => Rps.cons (by
    have x : Ext ⟨Z, W, H⟩ ⟨fun b => (fun _ => False) b ∨ inW W b, W, H⟩ := ext_less fun b z => z.elim False.elim (hz b)
    have h' : RpO K ⟨Z, W, H⟩ p v := h
    cases p with
    | lst ps =>
      obtain ⟨a, ws, e, h1, h2⟩ := h'
      unfold Rp
      exact ⟨a, ws, e, ⟨fun z => z.elim False.elim h1.1, h1.2⟩, Rps.ext x h2⟩
    | dic ks ps =>
      obtain ⟨a, ws, e, h0, h1, l, h2⟩ := h'
      unfold Rp
      exact ⟨a, ws, e, fun z => z.elim False.elim h0, h1, l, Rps.ext x h2⟩
    | non => exact Rp.ext x h'
    | bl _ => exact Rp.ext x h'
    | int _ => exact Rp.ext x h'
    | str _ => exact Rp.ext x h'
    | tup _ => exact Rp.ext x h'
    | obj _ _ _ _ => exact Rp.ext x h'
    | ref _ => exact Rp.ext x h'
    | src => exact Rp.ext x h'
    | iset _ => exact Rp.ext x h'
    | pdic ks =>
      obtain ⟨a, L, e, h0, h1, l, h2⟩ := h'
      unfold Rp
      exact ⟨a, L, e, fun z => z.elim False.elim h0, h1, l, fun p hp => (h2 p hp).ext x⟩
    | scr _ => exact Rp.ext x h') (VKs.look hz t)
theorem Rp.flat {K : PySem.W.Frag} {S S' : Wd} {p : PV} {v : V} (f : flatP p = true) (h : Rp K S p v) : Rp K S' p v := by
  cases p with
  | non => unfold Rp at h ⊢; exact h
  | bl _ => unfold Rp at h ⊢; exact h
  | int _ => unfold Rp at h ⊢; exact h
  | str _ => unfold Rp at h ⊢; exact h
  | _ => exact absurd f (by simp [flatP])
theorem em_callO (F : FnOk X.prog X.w X.K X.mg X.base CX0 k fa fd pns (spM X.K .cl spec)) (hr : Room k X.A) (hm : X.mg x = some (.ref fa)) (hk : PySem.W.keepIn X.K (.ref fa) = true) (hb : Binds X.K fd pns dus) (hd : Vals dvs dus) (hds : Cst X.K ds dvs)
    (ha : PAm X c .ow (e :: es) t) (hg : Gl X x := by rfl) (hdb : (x == ("__debug__" : Str)) = false := by decide) (he : starEach (e :: es) X.env = (false, eval e X.env) :: starEach es X.env := by rfl) (hpl : (backTo pos (starEach es X.env)).any (·.1) = false := by rfl) :
    PEm X c .cl (.Call (.Name x p) (e :: es) [] pos) (mCallO spec ds t) := ⟨(pe_call F hr hg hm hk hb hd pass0 ha.run hdb he hpl).weak fun σ H Q h => by
  obtain ⟨G, A, W, env, P, R, h, k⟩ := h
  refine ⟨G, A, W, env, _, R, h, fun ps vs H1 g1 rs h1 => ?_⟩
  refine ⟨fun _ => False, W, ps ++ ds, _, fun b z => z.elim, (R.grow g1).src, (VKs.look R.sz rs).append (hds _), h1, fun p v H' g r ⟨hf, hp⟩ => k p v H' (g1.trans g) (VK1.ofRp (Rp.flat hf r.c)) hp⟩⟩
end
/-- where a def begins -/
def startE (n : Nat) (args : List PV) : Env := args.map some ++ List.replicate (n - args.length) none
def shs (n : Nat) : List Ow := List.replicate n .sh
theorem cO_shs {n i : Nat} : cO (shs n) i = .sh := by
  unfold cO shs
  rw [List.getD_eq_getElem?_getD, List.getElem?_replicate]
  split <;> rfl
theorem SR.start {K : PySem.W.Frag} {N : List Str} {zb : Addr → Prop} {W : Ws} {ps : List PV} {vs : List V} {H : Hp} {gw : Bool} (hz : ∀ b, zb b → ∃ o, H b = some o) (hs : ∀ q ∈ W, SA H q) (r : Rps K ⟨fun b => zb b ∨ inW W b, W, H⟩ ps vs) :
    SR K ⟨gw, zb, W, H, fun _ => none, W, []⟩ (shs N.length) (fun _ => none) W (startE N.length ps) (L2.start N vs) H := by
  have less : ∀ b, Zt ⟨gw, zb, W, H, fun _ => none, W, []⟩ (fun _ => none) W b → (zb b ∨ inW W b) := fun b z => by
    rcases z with z | z | ⟨i, z⟩
    · exact .inl z
    · exact .inr z
    · cases z
  refine ⟨?_, fun _ h => h, fun _ h => h, fun _ h => .inl h, fun _ => rfl, hs, fun _ _ _ e => e, hz, fun i a e => (by cases e), fun i j a e => (by cases e), fun i p hc => absurd cO_shs hc, fun i p e => ?_, fun q hq => (by cases hq), fun b o e => (by cases e)⟩
  · unfold startE L2.start
    rw [List.length_append, List.length_append, List.length_map, List.length_map, List.length_replicate, List.length_replicate, r.len]
  · have hi : i < ps.length := by
      unfold startE at e
      cases Nat.lt_or_ge i ps.length with
      | inl h => exact h
      | inr h =>
        rw [List.getElem?_append_right (by rw [List.length_map]; exact h), List.getElem?_replicate] at e
        split at e <;> cases e
    have hp : ps[i]? = some p := by
      unfold startE at e
      rw [List.getElem?_append_left (by rw [List.length_map]; exact hi), List.getElem?_map] at e
      cases q : ps[i]? with
      | none => rw [q] at e; cases e
      | some u => rw [q] at e; cases e; rfl
    obtain ⟨v, hv, rv⟩ := r.get hp
    refine ⟨v, ?_, Rp.ext (ext_less less) rv⟩
    unfold L2.start
    rw [List.getElem?_append_left (by rw [List.length_map, ← r.len]; exact hi), List.getElem?_map, hv]
    rfl
section
variable {P : Program} {w : World} {K : PySem.W.Frag} {mg : Str → Option Value} {base : Heap}
/-- the context of a def's body -/
abbrev bodyX (P : Program) (w : World) (K : PySem.W.Frag) (mg : Str → Option Value) (base : Heap) (N : List Str) (qual : Str) (st : Stmt) (f : Addr) (cdv : Value) (A : Around) (outer : List PySem.Env) (s : Shared) (H : Hp) (E : XK) : Cx :=
  (cxOf CX0 P w K mg base N qual (defScope st) f cdv A outer s H E).nox
def nxOf (rm : Md) (Q : PV → Prop) : Prop := match rm with
  | .cl => Q .non
  | _ => False
/-- THE RULE for a def -/
theorem fn_m {x qual : Str} {st : Stmt} {f : Addr} {fd : FuncData} {N pns : List Str} {k : Nat} {rm : Md} {spec : Spec} {t : TSm} {dvs : List V} (F : FunD K x qual (defArgs st) (defBody st) (defScope st) dvs [] f fd) (S : FnScope N pns (defScope st))
    (hlen : ∀ ps Q, spec ps Q → ps.length = pns.length)
    (hbody : ∀ (cdv : Value) (A : Around) (outer : List PySem.Env) (s : Shared) (H : Hp) (E : XK), Room k (A.deeper (PyProof.Rows.envOfC qual (defScope st) s.heap.objs.size f cdv)) → ∃ c', PSsm (bodyX P w K mg base N qual st f cdv A outer s H E) ⟨rm, false, []⟩ (shs N.length) c' (defBody st) t)
    (hok : ∀ ps Q, spec ps Q → t { nx := fun _ => nxOf rm Q, rt := Q } (startE N.length ps)) : FnOk P w K mg base CX0 (k + 1) f fd pns (spM K rm spec) := by
  refine F.ok S (fun vs H Q E h => ?_) (fun cdv A outer s H vs Q E hr h => ?_)
  · obtain ⟨zb, W, ps, P, _, _, r, hs, _⟩ := h
    rw [← r.len]; exact hlen ps P hs
  · obtain ⟨zb, W, ps, P, hz, hsrc, r, hs, kk⟩ := h
    have hret : ∀ p v H', RetOk K rm ⟨false, zb, W, H, fun _ => none, W, []⟩ p v H' → P p → Q v H' := fun p v H' hr hp => by
      obtain ⟨W', h1, h2, h3, h4, h5⟩ := hr
      have e : W' = W := h2 rfl
      subst e
      exact kk p v H' ⟨fun b o n e => h4 b o n e, h3⟩ h5 hp
    have hsr : SR K ⟨false, zb, W, H, fun _ => none, W, []⟩ (shs N.length) (fun _ => none) W (startE N.length ps) (L2.start N vs) H := SR.start hz hsrc r
    obtain ⟨c', hb⟩ := hbody cdv A outer s H E hr
    refine ⟨_, hb.run.nox, ⟨false, zb, W, H, fun _ => none, W, []⟩, fun _ => none, W, startE N.length ps, { nx := fun _ => nxOf rm P, rt := P }, rfl, hsr, hok ps P hs, ⟨fun A' W' env' σ' H' R' hp => ?_, hret, fun _ _ _ _ _ _ z => z.elim, fun _ _ _ _ _ _ z => z.elim⟩⟩
    cases rm with
    | cl => exact hret .non .non H' (R'.ret (Grow.refl R'.src) (by decide) (VK1.ofRp Rp.non')) hp
    | ow => exact hp.elim
    | fr => exact hp.elim
end
end PM

set_option maxHeartbeats 1000000
/-! PM: more rules of the layer beneath: t[::-1], enumerate(t). -/
namespace HT
open PySem PySem.Spec PyProof.Rows
section
variable {prog : Program} {w : World} {A : Around} {E : Value → Shared → Prop} {s : Shared}
theorem sliceApplied_rev {sl : Addr} {n : Nat} {t : Tok} {Q : Int × Int × Nat → Shared → Prop} (hs : s.heap.IsSliceOf sl .none .none (.int (-1) t))
    (h : Q ((n : Int) - 1, -1, n) s) : wpAny (model prog w) A (Builtin.Slice.sliceApplied (.ref sl) (pure (n : Int))) Q E s := by
  obtain ⟨os, hos, hcs, hds⟩ := id hs
  unfold Builtin.Slice.sliceApplied Builtin.Slice.sliceFields
  refine wpAny_bind (wpAny_bind (wpAny_field hos hds (x := .none) rfl (wpAny_bind (wpAny_field hos hds (x := .none) rfl (wpAny_bind (wpAny_field hos hds (x := .int (-1) t) rfl (wpAny_pure ?_)))))))
  refine wpAny_bind (slicePart_int ?_)
  show wpAny _ _ (if ((-1 : Int) == 0) = true then _ else _) _ _ s
  rw [if_neg (by decide)]
  refine wpAny_bind (slicePart_none (wpAny_bind (slicePart_none (wpAny_bind (wpAny_pure ?_)))))
  show wpAny _ _ (match Builtin.Slice.sliceAdjust none none (-1) (n : Int) with | (lo, hi) => pure (lo, (-1 : Int), Builtin.Slice.slicePlaces lo hi (-1))) _ _ s
  have e1 : Builtin.Slice.sliceAdjust none none (-1) (n : Int) = ((n : Int) - 1, -1) := by
    unfold Builtin.Slice.sliceAdjust
    simp
  rw [e1]
  show wpAny _ _ (pure ((n : Int) - 1, (-1 : Int), Builtin.Slice.slicePlaces ((n : Int) - 1) (-1) (-1))) _ _ s
  have e2 : Builtin.Slice.slicePlaces ((n : Int) - 1) (-1) (-1) = n := by
    unfold Builtin.Slice.slicePlaces
    have h1 : ¬ ((-1 : Int) > 0) := by omega
    simp only [h1, if_false]
    have h3 : (- -1 : Int) = 1 := by decide
    rw [h3, Int.ediv_one]
    split <;> omega
  rw [e2]
  exact wpAny_pure h
theorem filterMap_same {α β : Type} {f g : α → Option β} : ∀ {l : List α}, (∀ a ∈ l, f a = g a) → l.filterMap f = l.filterMap g
  | [], _ => rfl
  | a :: l, h => by
    rw [List.filterMap_cons, List.filterMap_cons, h a List.mem_cons_self, filterMap_same fun b hb => h b (List.mem_cons_of_mem _ hb)]
theorem pick_rev (xs : Array Value) : ((List.range xs.size).filterMap fun (m : Nat) => xs[(((xs.size : Int) - 1) + (m : Int) * (-1)).toNat]?).toArray = xs.toList.reverse.toArray := by
  have e : ∀ m ∈ List.range xs.size, xs[(((xs.size : Int) - 1) + (m : Int) * (-1)).toNat]? = xs[xs.size - 1 - m]? := fun m hm => by
    have := List.mem_range.mp hm
    have : (((xs.size : Int) - 1) + (m : Int) * (-1)).toNat = xs.size - 1 - m := by omega
    rw [this]
  rw [filterMap_same e]
  have e2 := PySem.W.krv_all xs
  have e3 := PySem.W.krv_range xs.size
  rw [← e2, ← List.filterMap_reverse, ← e3, List.filterMap_map]
  rfl
theorem getItem_tuple_rev {t sl : Addr} {items : Array Value} {tk : Tok} {Q : Value → Shared → Prop} (ht : IsTup s.heap t items) (hs : s.heap.IsSliceOf sl .none .none (.int (-1) tk))
    (h : Q (.ref s.heap.objs.size) { s with heap := s.heap.push { cls := .type "tuple", data := .seq items.toList.reverse.toArray } })
    (hsz : items.size ≤ sizeLine) : wpAny (model prog w) A (getItem (.ref t) (.ref sl)) Q E s := by
  have htake : sizeOk (.seq items.toList.reverse.toArray) := by
    show items.toList.reverse.toArray.size ≤ sizeLine
    rw [List.size_toArray, List.length_reverse, Array.length_toList]
    omega
  obtain ⟨os, hos, hcs, hds⟩ := id hs
  have hTs : s.TypeIs (.ref sl) "slice" := ⟨os, hos, hcs⟩
  unfold getItem
  try with_reducible refine wpAny_holding ?_
  first | refine wpAny_bind (wpAny_pure ?_) | skip
  refine wpAny_bind (wpAny_sequenceKey ht.typeIs (by decide) ?_)
  refine wpAny_bind (wpAny_callSpecial?_slot (name := Str.ofString "__getitem__") ht.typeIs PyProof.Rows.slot_tuple_getitem
    (wpAny_call_entry PyProof.Rows.slot_tuple_getitem ht.typeIs entry_tuple_getitem ?_ (args_tuple_getitem _ _)))
  show wpAny _ _ (Builtin.Tuple.tupleItemsOf (.ref t) >>= _) _ _ s
  refine wpAny_bind (tupleItemsOf_ ht ?_)
  refine wpAny_bind (wpAny_typeOf hTs ?_)
  rw [if_pos (by decide)]
  refine wpAny_bind (sliceApplied_rev hs ?_)
  have hno : ¬ (((((items.size : Nat) : Int) - 1) == 0 && (-1 : Int) == 1 && items.size == items.size) = true) := by
    intro q
    rw [Bool.and_eq_true, Bool.and_eq_true] at q
    exact absurd q.1.2 (by decide)
  show wpAny _ _ (if ((((items.size : Nat) : Int) - 1) == 0 && (-1 : Int) == 1 && items.size == items.size) = true then _ else _) _ _ s
  rw [if_neg hno, pick_rev]
  first
    | exact wpAny_bind (m := Builtin.Tuple.tupleExact _) (wpAny_newObj_type (wpAny_pure ⟨_, rfl, wpAny_pure h⟩) htake)
    | exact wpAny_bind (m := Builtin.Tuple.tupleExact _) (wpAny_newObj_type (wpAny_bind (wpAny_pure (wpAny_pure ⟨_, rfl, wpAny_pure h⟩))) htake)
    | exact wpAny_bind (wpAny_bind (m := Builtin.Tuple.tupleExact _) (wpAny_newObj_type (wpAny_pure (wpAny_pure ⟨_, rfl, wpAny_pure h⟩)) htake))
    | exact wpAny_bind (wpAny_bind (m := Builtin.Tuple.tupleExact _) (wpAny_newObj_type (wpAny_pure ⟨_, rfl, wpAny_pure h⟩) htake))
end
end HT
namespace L2
open PySem PySem.Spec PyProof.Rows
section
variable {X : Cx}
/-- x[::-1], a list or a tuple -/
def tRevA (K : PySem.W.Frag) (te : TE) : TE := fun σ H Q => te σ H fun x H1 => ∃ a xs, x = .ref a ∧ ((SqL K H1 a xs ∧ ∀ p, H1 p = none → Q (.ref p) (upd H1 p (.lst xs.reverse))) ∨ (SqT K H1 a xs ∧ ∀ p, H1 p = none → Q (.ref p) (upd H1 p (.tup xs.reverse))))
theorem pe_revA {e : Expr} {te : TE} {k : Nat} {p1 p2 p3 pos : Pos} (he : PE X e te) : PE X (.Subscript e (.Slice none none (some (.UnaryOp .USub (.Constant (.int 1) k p1) p2)) p3) pos) (tRevA X.K te) := by
  refine ⟨fun pins s σ H Q I h => ?_⟩
  refine Subscript_ (thn (he.run pins s σ H _ I h) fun v s1 ⟨x, H1, I1, r1, q1⟩ => ?_)
  obtain ⟨a, xs, ex, q1⟩ := q1
  subst ex
  cases r1
  have hst : PO X (some (.UnaryOp .USub (.Constant (.int 1) k p1) p2)) (tPart (tUn (rU fun i => .int (-i)) (tC (.int 1)))) := po_some (pe_un un_neg pe_int)
  refine wpAny_Slice (thn (po_none.run pins s1 σ H1 (fun o H2 => o = none ∧ H2 = H1) I1 ⟨rfl, rfl⟩) fun vl s2 ⟨l, H2, I2, pl, el, e2⟩ => ?_)
  subst el e2
  refine thn (po_none.run pins s2 σ H2 (fun o H3 => o = none ∧ H3 = H2) I2 ⟨rfl, rfl⟩) fun vu s3 ⟨u, H3, I3, pu, eu, e3⟩ => ?_
  subst eu e3
  refine thn (hst.run pins s3 σ H3 (fun o H4 => o = some (-1) ∧ H4 = H3) I3 ⟨1, rfl, -1, rfl, rfl, rfl⟩) fun vs s4 ⟨o, H4, I4, ps, eo, e4⟩ => ?_
  subst eo e4
  have I5 : Inv X pins σ H4 { s4 with heap := s4.heap.push { cls := .type "slice", data := .fields #[vl, vu, vs] } } := I4.kept (t' := s4.toks) fun b ob q => Heap.get?_push_of_some _ q
  show wpAny (model X.prog X.w) X.A (subscriptTail e (.Slice none none (some (.UnaryOp .USub (.Constant (.int 1) k p1) p2)) p3) (.ref a) (.ref s4.heap.objs.size)) (EP X pins σ Q) X.xe { s4 with heap := s4.heap.push { cls := .type "slice", data := .fields #[vl, vu, vs] } }
  rcases q1 with ⟨hx, q⟩ | ⟨hx, q⟩
  · obtain ⟨its, r, ht, hz⟩ := I5.list hx
    have hlen := r.length
    refine tail_any (ops := [.ref a, .ref s4.heap.objs.size]) ht.isList.typeIs (PySem.slot_list_getitem.lookup) ?_ (by with_unfolding_all rfl)
    refine wpAny_getItem_list_slice ht.isList (Heap.IsSliceOf.new _ vl vu vs) pl pu ps (by decide) ?_ (by rw [List.size_toArray]; omega)
    rw [PySem.W.krv_pick]
    refine ⟨.ref _, _, I5.laid (t' := s4.toks) (o := .lst xs.reverse) (fun b ob q => Heap.get?_push_of_some _ q) (Nat.le_refl _) ?_, rfl, q _ (I5.hok.fresh (Nat.le_refl _))⟩
    exact ⟨by rw [List.length_reverse]; exact hz, _, 0, r.reverse, Heap.get?_push_size _ rfl⟩
  · obtain ⟨its, r, ht, hz⟩ := I5.tuple hx
    have hlen := r.length
    refine tail_any (ops := [.ref a, .ref s4.heap.objs.size]) ht.typeIs PyProof.Rows.slot_tuple_getitem.lookup ?_ (by with_unfolding_all rfl)
    have hsl : ({ s4 with heap := s4.heap.push { cls := .type "slice", data := .fields #[vl, vu, vs] } } : Shared).heap.IsSliceOf s4.heap.objs.size vl vu vs := Heap.IsSliceOf.new _ vl vu vs
    cases pl
    cases pu
    cases ps
    refine HT.getItem_tuple_rev ht hsl ?_ (by rw [List.size_toArray]; omega)
    refine ⟨.ref _, _, I5.laid (t' := s4.toks) (o := .tup xs.reverse) (fun b ob q => Heap.get?_push_of_some _ q) (Nat.le_refl _) ?_, rfl, q _ (I5.hok.fresh (Nat.le_refl _))⟩
    exact ⟨by rw [List.length_reverse]; exact hz, _, r.reverse, IsTup.new _ _⟩
end
/-! ### enumerate(t) of a tuple -/
open Sem (wp) in
theorem meets_enumerate_new1 {v : Value} {o : Obj} {H : Heap → Prop} (B : Begins v o H) :
    Meets (Builtin.«enumerate.__new__» ⟨[.type "enumerate", v], []⟩) (fun _ R s => H s.heap ∧
      R (.ok (.ret (.ref (s.heap.push o).objs.size))) { s with heap := (s.heap.push o).push { cls := .type "enumerate", data := .fields #[.none, .bool false, .ref s.heap.objs.size, rawInt 0, .none, .none] } }) :=
  .of_wp fun prog w A R s h => by
    obtain ⟨hp, g, d, tk, os⟩ := s; obtain ⟨h1, h⟩ := h
    have hsub := sub_enumerate
    have q1 : ∀ {A' : Around} {E : Value → Shared → Prop} {Q : Value → Shared → Prop}, Q (.ref hp.objs.size) ⟨hp.push o, g, d, tk, os⟩ → wpAny (model prog w) A' (pyIter v) Q E ⟨hp, g, d, tk, os⟩ :=
      fun q => B.iter prog w _ _ ⟨hp, g, d, tk, os⟩ _ h1 q
    wp_walk using q1
    refine wpAny_stack_any fun st => wpAny_pure ?_
    split
    · rename_i c _ _ _ _ _
      cases (c == Value.type "enumerate")
      · wp_walk using q1
        exact ⟨_, rfl, h⟩
      · wp_walk using q1
        exact ⟨_, rfl, h⟩
    · wp_walk using q1
      exact ⟨_, rfl, h⟩
theorem call_enumerate_tuple {prog : Program} {w : World} {A : Around} {E : Value → Shared → Prop} {s : Shared} {l : Addr} {items : Array Value} {Q : Value → Shared → Prop} (hL : s.heap.IsTuple l items)
    (h : ∀ h', IsEnum h' (s.heap.objs.size + 1) s.heap.objs.size 0 .none → h'.IsTupleIter s.heap.objs.size l 0 → h'.objs.size = s.heap.objs.size + 2 →
      (∀ b o, s.heap.get? b = some o → h'.get? b = some o) → Q (.ref (s.heap.objs.size + 1)) { s with heap := h' }) :
    wpAny (model prog w) A (call (.type "enumerate") [.ref l]) Q E s := by
  have B := begins_tuple (t := l) (items := items)
  refine callType_new F.called_enumerate (by decide) (F.typeCall_enumerate_1 _) (F.newCall_enumerate_1 _) (fun obj => F.args_object_init_2 obj _) F.entry_enumerate_new
    (meets_enumerate_new1 B) ⟨hL, ?_⟩
  have hz : (s.heap.push { cls := .type "tuple_iterator", data := .fields #[.ref l, .int 0 0] }).objs.size = s.heap.objs.size + 1 := Heap.size_push ..
  show _ ∧ _
  rw [hz]
  have he : IsEnum ((s.heap.push { cls := .type "tuple_iterator", data := .fields #[.ref l, .int 0 0] }).push
      { cls := .type "enumerate", data := .fields #[.none, .bool false, .ref s.heap.objs.size, rawInt 0, .none, .none] }) (s.heap.objs.size + 1) s.heap.objs.size 0 .none := by
    have := Heap.get?_push_size (s.heap.push { cls := .type "tuple_iterator", data := .fields #[.ref l, .int 0 0] })
      (o := { cls := .type "enumerate", data := .fields #[.none, .bool false, .ref s.heap.objs.size, rawInt 0, .none, .none] }) rfl
    rw [hz] at this; exact this
  refine ⟨⟨_, he, rfl⟩, h _ he ⟨_, Heap.get?_push_of_some _ (Heap.get?_push_size _ rfl), rfl, rfl⟩ (by rw [Heap.size_push, hz]) fun b o x => Heap.get?_push_of_some _ (Heap.get?_push_of_some _ x)⟩
end L2

set_option maxHeartbeats 1000000
/-! PM: enumerate, zip. -/
namespace L2
open PySem PySem.Spec PyProof.Rows
section
/-- the tuple at a, each item in a new pair -/
def IteT (K : PySem.W.Frag) (a : Addr) : It :=
  ⟨fun i H => ∃ (xs : List V) (x : V), SqT K H a xs ∧ xs[i]? = some x, fun i H v H' => ∃ T x, v = .ref T ∧ H T = none ∧ H' = upd H T (.tup [.int (i : Nat), x]) ∧ ∀ xs, SqT K H a xs → xs[i]? = some x, fun i H => ∃ xs : List V, SqT K H a xs ∧ xs.length ≤ i⟩
theorem turn_enumT {P : Program} {w : World} {K : PySem.W.Frag} {elts : List Expr} {kk : Nat} {tpos : Pos} (a e it : Addr) (hai : a ≠ it) (hae : a ≠ e) :
    Turn P w K (.Tuple elts kk tpos) (IteT K a) [e, it] e (fun i h => (∃ old, IsEnum h e it ((i : Nat) : Int) old) ∧ h.IsTupleIter it a i ∧ e ≠ it) where
  mem := by simp
  obj := fun i h st b hb => by
    obtain ⟨⟨old, he⟩, ⟨o, ho, hc, hd⟩, _⟩ := st
    have e' : b = e ∨ b = it := by simpa using hb
    rcases e' with z | z
    · rw [z]; exact ⟨_, he, fun v q => nomatch q⟩
    · rw [z]; exact ⟨o, ho, fun v q => by rw [hd] at q; cases q⟩
  keep := fun i h h' st k => let ⟨⟨old, he⟩, hi, hne⟩ := st; ⟨⟨old, k e (by simp) _ he⟩, hi.at fun o q => k it (by simp) o q, hne⟩
  item := by
    intro X hP hw hK hc i pins s σ H E I hf st hg
    subst hP hw hK
    obtain ⟨⟨old, he⟩, hit, hne⟩ := st
    obtain ⟨xs, x, hq, hx⟩ := hg
    obtain ⟨its, rv, p, hz⟩ := I.tuple hq
    obtain ⟨u, hu, ru⟩ := rv.get hx
    have hel : e < s.heap.objs.size := Heap.lt_size he
    have hil : it < s.heap.objs.size := by obtain ⟨_, q, _⟩ := hit; exact Heap.lt_size q
    have D := Draws.tuple (prog := X.prog) (w := X.w) (A := X.A.in1) (I.ok.hd hc) it a hai its.toArray
    have hi : i < its.toArray.size := by
      rw [List.size_toArray]
      exact (List.getElem?_eq_some_iff.mp hu).1
    refine wpAny_pyNext_enum_itemD D he ⟨hit, (show s.heap.IsTuple a its.toArray from p)⟩ hi hne (by simp [hne, Ne.symm hae]) fun x2 h' tk hP ho hst hT hsz hk => ?_
    have ex2 : x2 = u := by
      have := hP
      rw [List.getElem?_toArray, hu] at this
      exact (Option.some.inj this).symm
    subst ex2
    obtain ⟨hit', _⟩ := hst
    refine ⟨_, rfl, wpAny_letOwnedTupleGo_enum (s := { s with heap := h', toks := tk + 1 }) ho fun h'' he' sb => ?_⟩
    have hT2 : h''.get? s.heap.objs.size = some { cls := .type "tuple", data := .seq #[.int i tk, x2] } := (sb.2 _ (Nat.ne_of_gt hel)).trans hT
    have new : ObjOk X.prog X.w (upd H s.heap.objs.size (.tup [.int (i : Nat), x])) h'' s.heap.objs.size (.tup [.int (i : Nat), x]) :=
      ⟨by show 2 ≤ sizeLine; decide, [.int i tk, x2], .cons ⟨_, rfl⟩ (.cons ru .nil), ⟨_, hT2, rfl, _, rfl⟩⟩
    have I1 : Inv X pins σ (upd H s.heap.objs.size (.tup [.int (i : Nat), x])) { s with heap := h'', toks := tk + 1 } :=
      I.turnedNew (ch := [e, it]) (fun b ob hb q => (sb.2 b (fun z => hb (by simp [z]))).trans (hk b ob (fun z => hb (by simp [z])) (fun z => hb (by simp [z])) q)) hf (Nat.le_refl _) new
    refine ⟨.ref s.heap.objs.size, _, I1, rfl, ⟨_, x, rfl, I.hok.fresh (Nat.le_refl _), rfl, fun ys hy => by rw [I.tuple_inj hy hq]; exact hx⟩, ⟨⟨x2, ?_⟩, hit'.at fun o q => (sb.2 it (Ne.symm hne)).trans q, hne⟩, fun b hb => ?_⟩
    · have e1 : ((i + 1 : Nat) : Int) = (i : Int) + 1 := by omega
      rw [e1]; exact he'
    · have hb' : b < s.heap.objs.size := by
        have e' : b = e ∨ b = it := by simpa using hb
        rcases e' with z | z
        · rw [z]; exact hel
        · rw [z]; exact hil
      rw [upd_ne (Nat.ne_of_lt hb')]
      exact (hf b hb).1
  done := by
    intro X hP hw hK hc i pins s σ H E I hf st hg
    subst hP hw hK
    obtain ⟨⟨old, he⟩, hit, hne⟩ := st
    obtain ⟨xs, hq, hx⟩ := hg
    obtain ⟨its, rv, p, hz⟩ := I.tuple hq
    obtain ⟨f0, f1, f2, f3, f4, f5⟩ := hf it (by simp)
    have hl := rv.length
    have fin : ∀ h', Heap.ExtBut it s.heap h' → (none : Option Value) = none ∧ Inv X pins σ H { s with heap := h' } := fun h' eb => ⟨rfl, I.turned (t' := s.toks) (fun b o hb q => eb b o hb q) f0 f1 f3 f4 f5⟩
    -- the tuple's iterator stands at its end, or behind it
    have hTy : s.TypeIs (.ref e) "enumerate" := ⟨_, he, rfl⟩
    unfold pyNext
    refine wpAny_bind (wpAny_attempt (wpAny_callSpecial?_slot (name := Str.ofString "__next__") hTy F.slot_enumerate_next
      (wpAny_call_entry F.slot_enumerate_next hTy F.entry_enumerate_next ?_ (F.args_enumerate_next_1 _))))
    show wpAny _ _ (field (.ref e) 2 >>= _) _ _ _
    refine wpAny_bind (wpAny_field he rfl (x := .ref it) rfl ?_)
    refine wpAny_bind (wpAny_nextOf_tuple_end (I.ok.hd hc) hit (show s.heap.IsTuple a its.toArray from p) (by simp; omega) fun h' x he' hx' => ?_)
    obtain ⟨o, ho, hc'⟩ := hx'
    refine wpAny_bind (wpAny_isInstance (T := "StopIteration") (b := true) ⟨o, ho, hc'⟩ isSubtype_stop ?_)
    exact wpAny_pure (fin _ he')
  self := fun A i s Q E st h => let ⟨⟨_, he⟩, _⟩ := st; wpAny_pyIter_enum he h
def iEnumA (K : PySem.W.Frag) (ta : TA) : TI := fun σ H R => ta σ H fun vs H1 => ∃ a xs, vs = [.ref a] ∧ ((SqL K H1 a xs ∧ R (Ite K a) H1) ∨ (SqT K H1 a xs ∧ R (IteT K a) H1))
theorem pi_enumA {X : Cx} {e : Expr} {ta : TA} {p pos tpos : Pos} {elts : List Expr} {kk : Nat} (hg : Gl X "enumerate") (hm : X.mg "enumerate" = none) (ha : PA X [e] ta) (hs : starEach [e] X.env = [(false, eval e X.env)] := by rfl) :
    PI X (.Tuple elts kk tpos) (.Call (.Name "enumerate" p) [e] [] pos) (iEnumA X.K ta) := by
  refine ⟨fun pins s σ H R I h => ?_⟩
  refine Call_ (ld_blt I hg hm boot_enumerate (PyProof.Rows.callWith_type1 (thn (ha.run pos pins s σ H _ I h) fun us s1 ⟨vs, H1, I1, r1, q1⟩ => ?_) hs rfl))
  obtain ⟨a, xs, ex, q⟩ := q1
  subst ex
  have fp : ∀ b ∈ [s1.heap.objs.size + 1, s1.heap.objs.size], FpOk X pins H1 b := fun b hb => by
    have e' : b = s1.heap.objs.size + 1 ∨ b = s1.heap.objs.size := by simpa using hb
    have hle : s1.heap.objs.size ≤ b := by
      rcases e' with z | z
      · rw [z]; exact Nat.le_add_right _ _
      · rw [z]; exact Nat.le_refl _
    exact I1.fpOk hle (I1.hok.fresh hle)
  cases r1 with
  | cons r rr =>
    cases rr
    cases r
    rcases q with ⟨hq, q⟩ | ⟨hq, q⟩
    · obtain ⟨its, rv, p', hz⟩ := I1.list hq
      refine call_enumerate_list p'.isList fun h' he hit hsz hk => wpAny_pyIter_enum he ?_
      have I2 : Inv X pins σ H1 { s1 with heap := h' } := I1.kept (t' := s1.toks) hk
      exact ⟨s1.heap.objs.size + 1, [s1.heap.objs.size + 1, s1.heap.objs.size], _, _, H1, rfl, I2, turn_enum a (s1.heap.objs.size + 1) s1.heap.objs.size, ⟨⟨.none, he⟩, hit, Nat.succ_ne_self _⟩, fp, q⟩
    · obtain ⟨its, rv, p', hz⟩ := I1.tuple hq
      have hal : a < s1.heap.objs.size := p'.lt
      refine call_enumerate_tuple (show s1.heap.IsTuple a its.toArray from p') fun h' he hit hsz hk => wpAny_pyIter_enum he ?_
      have I2 : Inv X pins σ H1 { s1 with heap := h' } := I1.kept (t' := s1.toks) hk
      exact ⟨s1.heap.objs.size + 1, [s1.heap.objs.size + 1, s1.heap.objs.size], _, _, H1, rfl, I2, turn_enumT a (s1.heap.objs.size + 1) s1.heap.objs.size (Nat.ne_of_lt hal) (Nat.ne_of_lt (Nat.lt_succ_of_lt hal)), ⟨⟨.none, he⟩, hit, Nat.succ_ne_self _⟩, fp, q⟩
theorem walk_enumT {K : PySem.W.Frag} {a : Addr} {xs : List V} : Walk (IteT K a) xs.length (fun H => SqT K H a xs) (YPair (fun i => some (.int (i : Nat))) (fun i => xs[i]?)) := by
  refine ⟨fun i _ hi q => ⟨xs, xs[i], q, by simp [hi]⟩, fun _ q => ⟨xs, q, Nat.le_refl _⟩, fun i H v H' _ q y => ?_⟩
  obtain ⟨T, x, h1, h2, h3, h4⟩ := y
  exact ⟨T, .int (i : Nat), x, h1, h2, h3, rfl, h4 xs q⟩
theorem walk_zipT {K : PySem.W.Frag} {a b : Addr} {xs ys : List V} {n : Nat} (hn : n = min xs.length ys.length) : Walk (RZ.ItzT K a b) n (fun H => SqT K H a xs ∧ SqT K H b ys) (YPair (fun i => xs[i]?) (fun i => ys[i]?)) := by
  subst hn
  refine ⟨fun i _ hi q => ?_, fun _ q => ⟨xs, ys, q.1, q.2, by omega⟩, fun i H v H' _ q y => ?_⟩
  · have h1 : i < xs.length := by omega
    have h2 : i < ys.length := by omega
    exact ⟨xs, ys, xs[i], ys[i], q.1, q.2, by simp [h1], by simp [h2]⟩
  · obtain ⟨T, x, z, h1, h2, h3, h4, h5⟩ := y
    exact ⟨T, x, z, h1, h2, h3, h4 xs q.1, h5 ys q.2⟩
end
end L2
namespace PM
open PySem L2
/-- items that come in new pairs -/
theorem itok_pair {K : PySem.W.Frag} {Z : Addr → Prop} {W : Ws} {H : Hp} {J : It} {n : Nat} {Gd : Hp → Prop} {xs ys : Nat → Option V} {items : List PV} (hn : items.length = n) (wk : Walk J n Gd (YPair xs ys))
    (hst : ∀ Z2 W2 H2, Ext ⟨Z, W, H⟩ ⟨Z2, W2, H2⟩ → Gd H2 ∧ ∀ (i : Nat) (p : PV) (x y : V), items[i]? = some p → xs i = some x → ys i = some y → ∃ a b, p = .tup [a, b] ∧ Rp K ⟨Z2, W2, H2⟩ a x ∧ Rp K ⟨Z2, W2, H2⟩ b y) : ItOk K Z W H [] J items := by
  refine ⟨Gd, YPair xs ys, by rw [hn]; exact wk, fun Z2 W2 H2 x hz _ => ?_⟩
  obtain ⟨g, k⟩ := hst Z2 W2 H2 x
  refine ⟨g, fun i v H3 p hp y => ?_⟩
  obtain ⟨T, u, w, rfl, nT, rfl, h1, h2⟩ := y
  obtain ⟨a, b, rfl, ra, rb⟩ := k i p u w hp h1 h2
  have ga : GrowA H2 (upd H2 T (.tup [u, w])) := GrowA.new nT
  have nz : ¬ Z2 T := fun z => by obtain ⟨o, e⟩ := hz T z; rw [nT] at e; cases e
  have x2 : Ext ⟨Z2, W2, H2⟩ ⟨Z2, W2, upd H2 T (.tup [u, w])⟩ := ⟨fun b o hb e => ⟨hb, ga b o e⟩, fun _ h => h⟩
  refine ⟨ga, ?_⟩
  unfold Rp
  exact ⟨T, [u, w], rfl, .inl ⟨nz, upd_same⟩, Rps.cons (Rp.ext x2 ra) (Rps.cons (Rp.ext x2 rb) Rps.nil)⟩
def enumP (ps : List PV) : List PV := (List.range ps.length).map fun i => .tup [.int (i : Nat), ps.getD i .non]
def zipP (ps qs : List PV) : List PV := List.zipWith (fun a b => .tup [a, b]) ps qs
theorem enumP_get {ps : List PV} {i : Nat} {p : PV} (h : (enumP ps)[i]? = some p) : ∃ q, ps[i]? = some q ∧ p = .tup [.int (i : Nat), q] := by
  unfold enumP at h
  obtain ⟨hi, e⟩ := List.getElem?_eq_some_iff.mp h
  rw [List.length_map, List.length_range] at hi
  rw [List.getElem_map, List.getElem_range] at e
  refine ⟨ps[i], List.getElem?_eq_getElem hi, ?_⟩
  rw [← e, List.getD_eq_getElem?_getD, List.getElem?_eq_getElem hi]
  rfl
section
variable {X : Cx} {c : List Ow} {e e2 : Expr} {te te2 : TEm} {p pos tpos : Pos} {elts : List Expr} {kk : Nat}
def mEnum (te : TEm) : TIm := fun env P => te env fun p => ∃ ps, seqP p = some ps ∧ P (enumP ps)
theorem im_enum (hm : X.mg "enumerate" = none) (he : PEm X c .cl e te) (hg : Gl X "enumerate" := by rfl) (hs0 : starEach [e] X.env = (false, eval e X.env) :: starEach [] X.env := by rfl) (hs : starEach [e] X.env = [(false, eval e X.env)] := by rfl) :
    PIm X c none (.Tuple elts kk tpos) (.Call (.Name "enumerate" p) [e] [] pos) (mEnum te) := ⟨⟨fun pins s σ H R I h => (pi_enumA hg hm (pa_cons he.run pa_nil hs0) hs).run pins s σ H R I (by
  obtain ⟨G, A, W, env, P, R, h, k⟩ := h
  refine ⟨G, A, W, env, _, R, h, fun p v H1 g rv ⟨ps, hp, h1⟩ => ?_⟩
  have hl : (enumP ps).length = ps.length := by unfold enumP; rw [List.length_map, List.length_range]
  have rv' := rv.c
  cases p with
  | lst qs =>
    obtain rfl : qs = ps := Option.some.inj hp
    unfold Rp at rv'
    obtain ⟨a, vs, rfl, e, r⟩ := rv'
    refine ⟨a, vs, rfl, .inl ⟨e.sq, k _ _ H1 [] g rfl (itok_pair (hl.trans r.len) walk_enum fun Z2 W2 H2 x => ⟨(e.ext x).sq, fun i q u w hq h2 h3 => ?_⟩) h1⟩⟩
    obtain ⟨q0, hq0, rfl⟩ := enumP_get hq
    obtain ⟨w', hw', rw'⟩ := r.get hq0
    rw [h3] at hw'; cases hw'
    cases h2
    exact ⟨_, _, rfl, Rp.int', Rp.ext x rw'⟩
  | tup qs =>
    obtain rfl : qs = ps := Option.some.inj hp
    unfold Rp at rv'
    obtain ⟨a, vs, rfl, e, r⟩ := rv'
    refine ⟨a, vs, rfl, .inr ⟨e.sq, k _ _ H1 [] g rfl (itok_pair (hl.trans r.len) walk_enumT fun Z2 W2 H2 x => ⟨(e.ext x).sq, fun i q u w hq h2 h3 => ?_⟩) h1⟩⟩
    obtain ⟨q0, hq0, rfl⟩ := enumP_get hq
    obtain ⟨w', hw', rw'⟩ := r.get hq0
    rw [h3] at hw'; cases hw'
    cases h2
    exact ⟨_, _, rfl, Rp.int', Rp.ext x rw'⟩
  | _ => cases hp)⟩⟩
/-- zip of two lists, or of two tuples -/
def mZip (te te2 : TEm) : TIm := fun env P => te env fun x => te2 env fun y => match x, y with
  | .lst ps, .lst qs => P (zipP ps qs)
  | .tup ps, .tup qs => P (zipP ps qs)
  | _, _ => False
theorem zipP_get {ps qs : List PV} {i : Nat} {p : PV} (h : (zipP ps qs)[i]? = some p) : ∃ a b, ps[i]? = some a ∧ qs[i]? = some b ∧ p = .tup [a, b] := by
  unfold zipP at h
  rw [List.getElem?_zipWith] at h
  cases h1 : ps[i]? with
  | none => rw [h1] at h; cases h
  | some a =>
    cases h2 : qs[i]? with
    | none => rw [h1, h2] at h; cases h
    | some b => rw [h1, h2] at h; cases h; exact ⟨a, b, rfl, rfl, rfl⟩
theorem im_zip (hm : X.mg "zip" = none) (he : PEm X c .cl e te) (he2 : PEm X c .cl e2 te2) (hg : Gl X "zip" := by rfl) (hs0 : starEach [e, e2] X.env = (false, eval e X.env) :: starEach [e2] X.env := by rfl) (hs1 : starEach [e2] X.env = (false, eval e2 X.env) :: starEach [] X.env := by rfl)
    (hs2 : (backTo pos (starEach [e2] X.env)).any (·.1) = false := by rfl) :
    PIm X c none (.Tuple elts kk tpos) (.Call (.Name "zip" p) [e, e2] [] pos) (mZip te te2) := ⟨⟨fun pins s σ H R I h => (RZ.pi_zipA hg hm (pa_cons he.run (pa_cons he2.run pa_nil hs1) hs0) hs0 hs2).run pins s σ H R I (by
  obtain ⟨G, A, W, env, P, R, h, k⟩ := h
  refine ⟨G, A, W, env, _, R, h, fun p v H1 g rv h1 => ⟨G, A, W, env, _, R.grow g, h1, fun q w H2 g2 rw2 h2 => ?_⟩⟩
  have rv' := Rp.ext (g2.ext R.sz) rv.c
  have rw' := rw2.c
  cases p with
  | lst ps =>
    cases q with
    | lst qs =>
      unfold Rp at rv' rw'
      obtain ⟨a, vs, rfl, e, r⟩ := rv'
      obtain ⟨b, ws, rfl, e', r'⟩ := rw'
      have hl : (zipP ps qs).length = min vs.length ws.length := by unfold zipP; rw [List.length_zipWith, r.len, r'.len]
      refine ⟨a, b, vs, ws, rfl, .inl ⟨e.sq, e'.sq, k _ _ H2 [] (g.trans g2) rfl (itok_pair hl (walk_zip rfl) fun Z2 W2 H3 x => ⟨⟨(e.ext x).sq, (e'.ext x).sq⟩, fun i q u w hq h3 h4 => ?_⟩) h2⟩⟩
      obtain ⟨a0, b0, ha, hb, rfl⟩ := zipP_get hq
      obtain ⟨u', hu', ru'⟩ := r.get ha
      obtain ⟨w', hw', rw'⟩ := r'.get hb
      rw [h3] at hu'; cases hu'
      rw [h4] at hw'; cases hw'
      exact ⟨_, _, rfl, Rp.ext x ru', Rp.ext x rw'⟩
    | _ => exact h2.elim
  | tup ps =>
    cases q with
    | tup qs =>
      unfold Rp at rv' rw'
      obtain ⟨a, vs, rfl, e, r⟩ := rv'
      obtain ⟨b, ws, rfl, e', r'⟩ := rw'
      have hl : (zipP ps qs).length = min vs.length ws.length := by unfold zipP; rw [List.length_zipWith, r.len, r'.len]
      refine ⟨a, b, vs, ws, rfl, .inr ⟨e.sq, e'.sq, k _ _ H2 [] (g.trans g2) rfl (itok_pair hl (walk_zipT rfl) fun Z2 W2 H3 x => ⟨⟨(e.ext x).sq, (e'.ext x).sq⟩, fun i q u w hq h3 h4 => ?_⟩) h2⟩⟩
      obtain ⟨a0, b0, ha, hb, rfl⟩ := zipP_get hq
      obtain ⟨u', hu', ru'⟩ := r.get ha
      obtain ⟨w', hw', rw'⟩ := r'.get hb
      rw [h3] at hu'; cases hu'
      rw [h4] at hw'; cases hw'
      exact ⟨_, _, rfl, Rp.ext x ru', Rp.ext x rw'⟩
    | _ => exact h2.elim
  | _ => exact h2.elim)⟩⟩
end
end PM

set_option maxHeartbeats 1000000
/-! PM: several names at once, views of any line, dicts. -/
namespace PM
open PySem L2

/-! ### several names at once -/
def Gh.shun (G : Gh) (a : Addr) : Gh := { G with zb := fun b => G.zb b ∨ b = a }
section
variable {K : PySem.W.Frag} {G : Gh} {c : List Ow} {A : Nat → Option Addr} {W : Ws} {env : Env} {σ : St} {H H1 H' : Hp}
theorem zt_shun {a b : Addr} (h : Zt (G.shun a) A W b) : Zt G A W b ∨ b = a := by
  rcases h with (h | h) | h | h
  · exact .inl (.inl h)
  · exact .inr h
  · exact .inl (.inr (.inl h))
  · exact .inl (.inr (.inr h))
/-- a new thing that is to be left alone -/
theorem SR.shun (R : SR K G c A W env σ H) (g : Grow W H H1) {a : Addr} (n : H a = none) (t : ∃ o, H1 a = some o) : SR K (G.shun a) c A W env σ H1 := by
  have R1 := R.grow g
  have nt : ∀ b o, H b = some o → b ≠ a := fun b o e z => by rw [z, n] at e; cases e
  have x : Ext ⟨Zt G A W, W, H⟩ ⟨Zt (G.shun a) A W, W, H1⟩ := ⟨fun b o hz e => ⟨fun z => (zt_shun z).elim hz (nt b o e), g.keep b o (fun w => hz (Zt.w w)) e⟩, fun _ h => h⟩
  refine ⟨R1.len, R1.W0in, R1.Wmin, R1.Wnew, R1.Wfix, R1.src, R1.keep, fun b hb => ?_, fun i b e => ?_, R1.Ainj, R1.Aset, fun i p e => ?_, R1.pins, fun b o e => ?_⟩
  · rcases hb with hb | hb
    · exact R1.zbt b hb
    · rw [hb]; exact t
  · obtain ⟨h1, h2, h3, h4, h5⟩ := R1.Asep i b e
    obtain ⟨o, e2⟩ := (R.Asep i b e).2.2.2.2
    exact ⟨h1, h2, fun z => z.elim h3 (nt b o e2), h4, h5⟩
  · obtain ⟨v, h1, h2⟩ := R.slots i p e
    refine ⟨v, h1, ?_⟩
    cases hA : A i with
    | none => rw [hA] at h2; exact Rp.ext x h2
    | some b =>
      rw [hA] at h2
      obtain ⟨_, n2, _, _, o, ho⟩ := R.Asep i b hA
      exact ⟨h2.1, h2.2.ext x (by show H1 b = H b; rw [ho, g.keep b o n2 ho])⟩
  · obtain ⟨h1, h2⟩ := R.fz b o e
    exact ⟨(R1.fz b o e).1, fun z => (zt_shun z).elim h2 (nt b o h1)⟩
/-- values made one behind the other, the new ones each apart -/
inductive Chn (K : PySem.W.Frag) (W : Ws) : (Addr → Prop) → Hp → List Md → List PV → List V → Hp → Prop
  | nil {Z : Addr → Prop} {H : Hp} : Chn K W Z H [] [] [] H
  | cl {Z : Addr → Prop} {H H1 H' : Hp} {ms : List Md} {p : PV} {ps : List PV} {v : V} {vs : List V} : Grow W H H1 → VK1 K .cl Z W H H1 p v → Chn K W Z H1 ms ps vs H' → Chn K W Z H (.cl :: ms) (p :: ps) (v :: vs) H'
  | fr {Z : Addr → Prop} {H H1 H' : Hp} {ms : List Md} {p : PV} {ps : List PV} {a : Addr} {vs : List V} : Grow W H H1 → H a = none → OwnAt K ⟨fun b => Z b ∨ b = a, W, H1⟩ a p → Chn K W (fun b => Z b ∨ b = a) H1 ms ps vs H' → Chn K W Z H (.fr :: ms) (p :: ps) (.ref a :: vs) H'
theorem Chn.less {Z Z' : Addr → Prop} {ms : List Md} {ps : List PV} {vs : List V} (h : Chn K W Z H ms ps vs H') (k : ∀ b, Z' b → Z b) : Chn K W Z' H ms ps vs H' := by
  induction h generalizing Z' with
  | nil => exact .nil
  | cl g r _ ih => exact .cl g (VK1.ofRp (Rp.ext (ext_less k) r.c)) (ih k)
  | fr g n o _ ih =>
    exact .fr g n (o.less fun b z => z.imp (k b) id) (ih fun b z => z.imp (k b) id)
theorem Chn.grow {Z : Addr → Prop} {ms : List Md} {ps : List PV} {vs : List V} (h : Chn K W Z H ms ps vs H') (hs : ∀ p ∈ W, SA H p) : Grow W H H' := by
  induction h with
  | nil => exact Grow.refl hs
  | cl g r _ ih => exact g.trans (ih g.src)
  | fr g n o _ ih => exact g.trans (ih g.src)
def tmX (K : PySem.W.Frag) (c : List Ow) (ms : List Md) (t : TAm) : TA := fun σ H Q => ∃ G A W env P, SR K G c A W env σ H ∧ t env P ∧ ∀ ps vs H', Chn K W (Zt G A W) H ms ps vs H' → P ps → Q vs H'
structure PXm (X : Cx) (c : List Ow) (ms : List Md) (es : List Expr) (t : TAm) : Prop where
  run : PA X es (tmX X.K c ms t)
theorem OwnAt.tr {S : Wd} {a : Addr} {p : PV} (h : OwnAt K S a p) : ∃ o, S.H a = some o := by
  cases p with
  | lst ps => obtain ⟨vs, e, _⟩ := h; exact ⟨_, e⟩
  | dic ks ps => obtain ⟨vs, e, _⟩ := h; exact ⟨_, e⟩
  | obj C dx ns ps => obtain ⟨_, vs, e, _⟩ := h; exact ⟨_, e⟩
  | pdic ks => obtain ⟨L, e, _⟩ := h; exact ⟨_, e⟩
  | _ => exact h.elim
variable {X : Cx} {e : Expr} {es : List Expr} {te : TEm} {t : TAm} {ms : List Md}
theorem xm_nil : PXm X c [] [] mNil := ⟨pa_nil.weak fun σ H Q h => by
  obtain ⟨G, A, W, env, P, R, h, k⟩ := h
  exact k [] [] H .nil h⟩
theorem xm_cl (ha : PEm X c .cl e te) (hr : PXm X c ms es t) (hs : starEach (e :: es) X.env = (false, eval e X.env) :: starEach es X.env := by rfl) : PXm X c (.cl :: ms) (e :: es) (mCons te t) := ⟨(pa_cons ha.run hr.run hs).weak fun σ H Q h => by
  obtain ⟨G, A, W, env, P, R, h, k⟩ := h
  exact ⟨G, A, W, env, _, R, h, fun px vx H1 g1 rx h1 => ⟨G, A, W, env, _, R.grow g1, h1, fun ps vs H2 ch h2 => k _ _ H2 (.cl g1 rx ch) h2⟩⟩⟩
theorem xm_fr (ha : PEm X c .fr e te) (hr : PXm X c ms es t) (hs : starEach (e :: es) X.env = (false, eval e X.env) :: starEach es X.env := by rfl) : PXm X c (.fr :: ms) (e :: es) (mCons te t) := ⟨(pa_cons ha.run hr.run hs).weak fun σ H Q h => by
  obtain ⟨G, A, W, env, P, R, h, k⟩ := h
  refine ⟨G, A, W, env, _, R, h, fun px vx H1 g1 rx h1 => ?_⟩
  obtain ⟨a, rfl, n, o⟩ := rx
  exact ⟨G.shun a, A, W, env, _, R.shun g1 n o.tr, h1, fun ps vs H2 ch h2 => k _ _ H2 (.fr g1 n o (ch.less fun b z => by
    rcases z with z | z
    · rcases z with z | z | z
      · exact .inl (.inl z)
      · exact .inr (.inl z)
      · exact .inr (.inr z)
    · exact .inl (.inr z))) h2⟩⟩
def mdO : Md → Ow
  | .fr => .ow
  | _ => .sh
/-- one name takes the first of them -/
theorem SR.chn {md : Md} {i : Nat} {p : PV} {v : V} {ps : List PV} {vs : List V} (R : SR K G c A W env σ H) (h : Chn K W (Zt G A W) H (md :: ms) (p :: ps) (v :: vs) H') (hi : i < c.length) (hl : cO c i ≠ .lk) :
    ∃ A1 H1, SR K G (c.set i (mdO md)) A1 W (env.set i (some p)) (σ.set i (some v)) H1 ∧ Chn K W (Zt G A1 W) H1 ms ps vs H' := by
  cases h with
  | cl g r ch => exact ⟨_, _, (R.grow g).set_sh hl r.c, ch.less fun b z => zt_drop z⟩
  | fr g n o ch =>
    refine ⟨_, _, R.set_ow hi hl g n o, ch.less fun b z => ?_⟩
    rcases z with z | z | ⟨j, z⟩
    · exact .inl (.inl z)
    · exact .inl (.inr (.inl z))
    · by_cases hj : j = i
      · subst hj; rw [putA_eq] at z; cases z; exact .inr rfl
      · rw [putA_ne hj] at z; exact .inl (.inr (.inr ⟨j, z⟩))
variable {f : Fx}
def setN {α : Type} (env : List (Option α)) : List Nat → List α → List (Option α)
  | i :: is, p :: ps => setN (env.set i (some p)) is ps
  | _, _ => env
def putMs (c : List Ow) : List Nat → List Md → List Ow
  | i :: is, m :: ms => putMs (c.set i (mdO m)) is ms
  | _, _ => c
def okPut (c : List Ow) : List Nat → List Md → Bool
  | i :: is, m :: ms => decide (i < c.length) && !decide (cO c i = .lk) && okPut (c.set i (mdO m)) is ms
  | [], [] => true
  | _, _ => false
theorem Chn.len {Z : Addr → Prop} {ps : List PV} {vs : List V} (h : Chn K W Z H ms ps vs H') : ms.length = ps.length ∧ ms.length = vs.length := by
  induction h with
  | nil => exact ⟨rfl, rfl⟩
  | cl _ _ _ ih => exact ⟨by rw [List.length_cons, List.length_cons, ih.1], by rw [List.length_cons, List.length_cons, ih.2]⟩
  | fr _ _ _ _ ih => exact ⟨by rw [List.length_cons, List.length_cons, ih.1], by rw [List.length_cons, List.length_cons, ih.2]⟩
theorem SR.chnN : ∀ {is : List Nat} {ms : List Md} {c : List Ow} {A : Nat → Option Addr} {env : Env} {σ : St} {H : Hp} {ps : List PV} {vs : List V}, SR K G c A W env σ H → Chn K W (Zt G A W) H ms ps vs H' → okPut c is ms = true → ∃ A', SR K G (putMs c is ms) A' W (setN env is ps) (setN σ is vs) H'
  | [], [], _, _, _, _, _, _, _, R, h, _ => by cases h; exact ⟨_, R⟩
  | [], _ :: _, _, _, _, _, _, _, _, _, _, ok => by cases ok
  | _ :: _, [], _, _, _, _, _, _, _, _, _, ok => by cases ok
  | i :: is, m :: ms, c, A, env, σ, H, ps, vs, R, h, ok => by
    have ok' : (decide (i < c.length) && !decide (cO c i = .lk) && okPut (c.set i (mdO m)) is ms) = true := ok
    rw [Bool.and_eq_true, Bool.and_eq_true] at ok'
    obtain ⟨⟨h1, h2⟩, h3⟩ := ok'
    have h2' : cO c i ≠ .lk := fun z => by rw [decide_eq_true z] at h2; cases h2
    cases ps with
    | nil => cases h
    | cons p ps =>
      cases vs with
      | nil => cases h
      | cons v vs =>
        obtain ⟨A1, H1, R1, ch⟩ := R.chn h (of_decide_eq_true h1) h2'
        have q := SR.chnN R1 ch h3
        exact q
def sPar (is : List Nat) (t : TAm) : TSm := fun M env => t env fun ps => M.nx (setN env is ps)
theorem sm_par {i j : Nat} {x y : Str} {a b : Expr} {px py pt pos : Pos} {kt k2 : Nat} {pt2 : Pos} (is : List Nat) (hc : X.calm = true) (hN : X.N.Nodup) (ha : PXm X c ms [a, b] t) (he : is = [i, j] := by rfl) (hi : X.N[i]? = some x := by rfl) (hj : X.N[j]? = some y := by rfl) (hij : i ≠ j := by decide)
    (hx : X.env.scope.names.lookup x = some .local := by rfl) (hy : X.env.scope.names.lookup y = some .local := by rfl) (ok : okPut c is ms = true := by decide)
    (hw : swappedStores [.Tuple [.Name x px, .Name y py] kt pt] (.Tuple [a, b] k2 pt2) X.env = pure (some [x, y]) := by rfl)
    (hs : swapsWithSole [.Tuple [.Name x px, .Name y py] kt pt] (.Tuple [a, b] k2 pt2) pos.line X.env = pure false := by rfl) :
    PSm X f c (putMs c is ms) (.Assign [.Tuple [.Name x px, .Name y py] kt pt] (.Tuple [a, b] k2 pt2) pos) (sPar is t) := ⟨(ps_par hc hN hi hj hij hx hy ha.run hw hs).weak fun D σ H h => by
  subst he
  obtain ⟨G, A, W, env, M, hg, R, h, k⟩ := h
  refine ⟨G, A, W, env, _, R, h, fun ps vs H2 ch h2 => ?_⟩
  obtain ⟨A', R'⟩ := R.chnN ch ok
  obtain ⟨v, w, rfl⟩ : ∃ v w, vs = [v, w] := by
    cases ms with
    | nil => cases ok
    | cons m1 ms =>
      cases ms with
      | nil => unfold okPut okPut at ok; rw [Bool.and_false] at ok; cases ok
      | cons m2 ms =>
        cases ms with
        | cons m3 ms => unfold okPut okPut okPut at ok; rw [Bool.and_false, Bool.and_false] at ok; cases ok
        | nil =>
          have hl := ch.len.2
          cases vs with
          | nil => cases hl
          | cons v vs =>
            cases vs with
            | nil => cases hl
            | cons w vs =>
              cases vs with
              | nil => exact ⟨v, w, rfl⟩
              | cons _ _ => cases hl
  exact ⟨v, w, rfl, k.nx _ _ _ _ _ R' h2⟩⟩
theorem sm_par3 {i j l : Nat} {x y z : Str} {a b d : Expr} {px py pz pt pos : Pos} {kt k2 : Nat} {pt2 : Pos} (is : List Nat) (hc : X.calm = true) (hN : X.N.Nodup) (ha : PXm X c ms [a, b, d] t) (he : is = [i, j, l] := by rfl) (hi : X.N[i]? = some x := by rfl) (hj : X.N[j]? = some y := by rfl) (hl : X.N[l]? = some z := by rfl) (hij : i ≠ j := by decide) (hil : i ≠ l := by decide) (hjl : j ≠ l := by decide)
    (hx : X.env.scope.names.lookup x = some .local := by rfl) (hy : X.env.scope.names.lookup y = some .local := by rfl) (hz : X.env.scope.names.lookup z = some .local := by rfl) (ok : okPut c is ms = true := by decide)
    (hw : swappedStores [.Tuple [.Name x px, .Name y py, .Name z pz] kt pt] (.Tuple [a, b, d] k2 pt2) X.env = pure (some [x, y, z]) := by rfl)
    (hs : swapsWithSole [.Tuple [.Name x px, .Name y py, .Name z pz] kt pt] (.Tuple [a, b, d] k2 pt2) pos.line X.env = pure false := by rfl) :
    PSm X f c (putMs c is ms) (.Assign [.Tuple [.Name x px, .Name y py, .Name z pz] kt pt] (.Tuple [a, b, d] k2 pt2) pos) (sPar is t) := ⟨(ps_par3 hc hN hi hj hl hij hil hjl hx hy hz ha.run hw hs).weak fun D σ H h => by
  subst he
  obtain ⟨G, A, W, env, M, hg, R, h, k⟩ := h
  refine ⟨G, A, W, env, _, R, h, fun ps vs H2 ch h2 => ?_⟩
  obtain ⟨A', R'⟩ := R.chnN ch ok
  obtain ⟨v, w, u, rfl⟩ : ∃ v w u, vs = [v, w, u] := by
    cases ms with
    | nil => cases ok
    | cons m1 ms =>
      cases ms with
      | nil => unfold okPut okPut at ok; rw [Bool.and_false] at ok; cases ok
      | cons m2 ms =>
        cases ms with
        | nil => unfold okPut okPut okPut at ok; rw [Bool.and_false, Bool.and_false] at ok; cases ok
        | cons m3 ms =>
          cases ms with
          | cons m4 ms => unfold okPut okPut okPut okPut at ok; rw [Bool.and_false, Bool.and_false, Bool.and_false] at ok; cases ok
          | nil =>
            have hl := ch.len.2
            cases vs with
            | nil => cases hl
            | cons v vs =>
              cases vs with
              | nil => cases hl
              | cons w vs =>
                cases vs with
                | nil => cases hl
                | cons u vs =>
                  cases vs with
                  | nil => exact ⟨v, w, u, rfl⟩
                  | cons _ _ => cases hl
  exact ⟨v, w, u, rfl, k.nx _ _ _ _ _ R' h2⟩⟩
/-- the same by way of a tuple -/
def gNs (is : List Nat) : TGs := fun vs σ H Q => vs.length = is.length ∧ Q (setN σ is vs) H
theorem pgs_n0 : PGs X [] (gNs []) := ⟨fun pins s σ H vs us Q I r h => pgs_nil.run pins s σ H vs us Q I r (by
  obtain ⟨e, h⟩ := h
  cases vs with
  | nil => exact ⟨rfl, h⟩
  | cons _ _ => cases e)⟩
theorem pgs_n {i : Nat} {is : List Nat} {x : Str} {p : Pos} (hN : X.N.Nodup) (h2 : PGs X es (gNs is)) (hi : X.N[i]? = some x := by rfl) (hx : Loc X.env.scope x := by first | exact Or.inl rfl | exact Or.inr rfl) (hf : X.fn x = true ∨ X.env.scope.names.lookup x = some .local := by first | exact .inl rfl | exact .inr rfl | assumption)
    (hs : (assignEach (.Name x p :: es) X.env).map (·.2) = assign (.Name x p) X.env :: (assignEach es X.env).map (·.2) := by rfl) : PGs X (.Name x p :: es) (gNs (i :: is)) := ⟨fun pins s σ H vs us Q I r h => (pgs_cons (pg_name hN hi hx hf) h2 hs).run pins s σ H vs us Q I r (by
  obtain ⟨e, h⟩ := h
  cases vs with
  | nil => cases e
  | cons v vs => exact ⟨v, vs, rfl, Nat.succ.inj e, h⟩)⟩
theorem okPut_len : ∀ {is : List Nat} {ms : List Md} {c : List Ow}, okPut c is ms = true → is.length = ms.length
  | [], [], _, _ => rfl
  | [], _ :: _, _, h => by cases h
  | _ :: _, [], _, h => by cases h
  | i :: is, m :: ms, c, h => by
    unfold okPut at h
    rw [Bool.and_eq_true] at h
    rw [List.length_cons, List.length_cons, okPut_len h.2]
theorem sm_parG {tgs : List Expr} {pt pos : Pos} {kt k2 n : Nat} {pt2 : Pos} (is : List Nat) (hc : X.calm = true) (hg : PGs X tgs (gNs is)) (ha : PXm X c ms es t) (ok : okPut c is ms = true := by decide) (hl : is.length ≤ sizeLine := by decide)
    (hs : swapsWithSole [.Tuple tgs kt pt] (.Tuple es k2 pt2) pos.line X.env = pure false := by rfl) (hw : swappedStores [.Tuple tgs kt pt] (.Tuple es k2 pt2) X.env = pure none := by rfl)
    (h1 : (assignEach [.Tuple tgs kt pt] X.env).map (·.2) = [assign (.Tuple tgs kt pt) X.env] := by rfl) (hn : (assignEach tgs X.env).length = n := by rfl) (hnl : is.length = n := by rfl) (hst : (assignEach tgs X.env).findIdx? (·.1) = none := by rfl) :
    PSm X f c (putMs c is ms) (.Assign [.Tuple tgs kt pt] (.Tuple es k2 pt2) pos) (sPar is t) := ⟨(ps_asg (pe_tup ha.run) (pg_tup hc hg hn hst) hs hw h1).weak fun D σ H h => by
  obtain ⟨G, A, W, env, M, hgw, R, h, k⟩ := h
  refine ⟨G, A, W, env, _, R, h, fun ps vs H2 ch h2 => ?_⟩
  obtain ⟨A', R'⟩ := R.chnN ch ok
  have hl2 : vs.length = is.length := ch.len.2.symm.trans (okPut_len ok).symm
  refine ⟨by rw [hl2]; exact hl, fun T nT => ⟨T, vs, rfl, .inl (.inl upd_same), hl2.trans hnl, hl2, ?_⟩⟩
  exact k.nx _ _ _ _ _ (R'.grow (Grow.new R'.src nT)) h2⟩
end

/-! ### a part of any line, a line turned round -/
def oSl : PV → Option Int → Option Int → (PV → Prop) → Prop := fun x l u P => match x with
  | .lst ps => P (.lst (cutP ps l u))
  | .tup ps => P (.tup (cutP ps l u))
  | _ => False
def oRev : PO1 := fun x P => match x with
  | .lst ps => P (.lst ps.reverse)
  | .tup ps => P (.tup ps.reverse)
  | _ => False
section
variable {X : Cx} {c : List Ow} {e : Expr} {lo hi : Option Expr} {te : TEm} {tl th : Env → (Option Int → Prop) → Prop} {pos p2 : Pos}
theorem em_sl (he : PEm X c .ow e te) (hl : POm X c lo tl) (hu : POm X c hi th) : PEm X c .cl (.Subscript e (.Slice lo hi none p2) pos) (mSl oSl te tl th) := ⟨(pe_slice (SlR.or sl_list sl_tupA) he.run hl.run hu.run).weak fun σ H Q h => by
  obtain ⟨G, A, W, env, P, R, h, k⟩ := h
  refine ⟨G, A, W, env, _, R, h, fun px vx H1 g1 rx h1 => ⟨G, A, W, env, _, R.grow g1, h1, fun l H2 g2 h2 => ⟨G, A, W, env, _, (R.grow g1).grow g2, h2, fun u H3 g3 h3 => ?_⟩⟩⟩
  have R3 := ((R.grow g1).grow g2).grow g3
  have rx3 := RpO.grow R.sz (g2.trans g3) rx.o
  cases px with
  | lst ps =>
    have h3' : P (.lst (cutP ps l u)) := h3
    obtain ⟨a, vs, rfl, e, r⟩ := RpO.lst rx3
    refine .inl ⟨a, vs, rfl, .inl (.inl e.2), fun p n => k _ _ _ (((g1.trans g2).trans g3).trans (Grow.new R3.src n)) (VK1.ofRp (OwnAt.cl (R3.nz n) (OwnAt.newLst n (r.cut l u)))) h3'⟩
  | tup ps =>
    have h3' : P (.tup (cutP ps l u)) := h3
    have rx4 : Rp X.K ⟨Zt G A W, W, H3⟩ (.tup ps) vx := rx3
    obtain ⟨a, vs, rfl, e, r⟩ := RpO.tup rx3
    refine .inr ⟨a, vs, rfl, e.sq, fun w => ?_, fun _ p n => ?_⟩
    · rw [← r.len] at w
      rw [cut_whole w] at h3'
      exact k _ _ H3 ((g1.trans g2).trans g3) (VK1.ofRp rx4) h3'
    · exact k _ _ _ (((g1.trans g2).trans g3).trans (Grow.new R3.src n)) (VK1.ofRp (Rp.newTup (R3.nz n) n R3.src R.sz (r.cut l u))) h3'
  | _ => exact h3.elim⟩
theorem em_rev {k : Nat} {p1 p3 p4 : Pos} (he : PEm X c .ow e te) : PEm X c .cl (.Subscript e (.Slice none none (some (.UnaryOp .USub (.Constant (.int 1) k p1) p4)) p3) pos) (mOp1 oRev te) := ⟨(pe_revA he.run).weak fun σ H Q h => by
  obtain ⟨G, A, W, env, P, R, h, kk⟩ := h
  refine ⟨G, A, W, env, _, R, h, fun px vx H1 g1 rx h1 => ?_⟩
  have R1 := R.grow g1
  have rx3 := rx.o
  cases px with
  | lst ps =>
    have h3' : P (.lst ps.reverse) := h1
    obtain ⟨a, vs, rfl, e, r⟩ := RpO.lst rx3
    exact ⟨a, vs, rfl, .inl ⟨.inl (.inl e.2), fun p n => kk _ _ _ (g1.trans (Grow.new R1.src n)) (VK1.ofRp (OwnAt.cl (R1.nz n) (OwnAt.newLst n r.reverse))) h3'⟩⟩
  | tup ps =>
    have h3' : P (.tup ps.reverse) := h1
    obtain ⟨a, vs, rfl, e, r⟩ := RpO.tup rx3
    exact ⟨a, vs, rfl, .inr ⟨e.sq, fun p n => kk _ _ _ (g1.trans (Grow.new R1.src n)) (VK1.ofRp (Rp.newTup (R1.nz n) n R1.src R.sz r.reverse)) h3'⟩⟩
  | _ => exact h1.elim⟩
end

/-! ### dicts -/
def pkey : PV → Option Key
  | .int i => some (.inl i)
  | .str x => some (.inr x)
  | _ => none
theorem pkey_v {K : PySem.W.Frag} {Z : Addr → Prop} {W : Ws} {H : Hp} {p : PV} {v : V} {k : Key} (h : pkey p = some k) (r : RpO K ⟨Z, W, H⟩ p v) : v = kV k := by
  cases p with
  | int i => cases h; exact r.int
  | str x => cases h; exact r.str
  | _ => cases h
/-- the place of a key -/
def kAt (ks : List Key) (k : Key) : Option Nat := ks.findIdx? (fun j => decide (j = k))
def kPut (ks : List Key) (vs : List PV) (k : Key) (v : PV) : PV := match kAt ks k with
  | some i => .dic ks (vs.set i v)
  | none => .dic (ks ++ [k]) (vs ++ [v])
theorem valV_zip {k : Key} : ∀ {ks : List Key} {vs : List V}, ks.length = vs.length → valV (ks.zip vs) k = (kAt ks k).bind (vs[·]?)
  | [], [], _ => rfl
  | j :: ks, v :: vs, h => by
    have ih := valV_zip (k := k) (ks := ks) (vs := vs) (by simpa using h)
    unfold kAt at ih ⊢
    rw [List.zip_cons_cons, List.findIdx?_cons]
    by_cases e : j = k
    · rw [valV_pos (p := (j, v)) e, if_pos (decide_eq_true e)]; rfl
    · rw [valV_neg (p := (j, v)) e, ih, if_neg (by simpa using e)]
      cases ks.findIdx? (fun j => decide (j = k)) with
      | none => rfl
      | some i => rfl
theorem kAt_none {ks : List Key} {k : Key} (h : kAt ks k = none) : ∀ j ∈ ks, j ≠ k := fun j hj => by
  unfold kAt at h
  rw [List.findIdx?_eq_none_iff] at h
  exact of_decide_eq_false (h j hj)
theorem map_same {k : Key} {v : V} : ∀ {ks : List Key} {vs : List V}, (∀ j ∈ ks, j ≠ k) → (ks.zip vs).map (fun kv => if kv.1 = k then (kv.1, v) else kv) = ks.zip vs
  | [], _, _ => rfl
  | _ :: _, [], _ => rfl
  | j :: ks, w :: vs, h => by
    rw [List.zip_cons_cons, List.map_cons, map_same (fun i hi => h i (List.mem_cons_of_mem _ hi)), if_neg (h j (List.mem_cons_self ..))]
theorem map_put {k : Key} {v : V} : ∀ {ks : List Key} {vs : List V} {i : Nat}, ks.Nodup → kAt ks k = some i → (ks.zip vs).map (fun kv => if kv.1 = k then (kv.1, v) else kv) = ks.zip (vs.set i v)
  | [], _, _, _, h => by cases h
  | _ :: _, [], i, _, _ => by simp
  | j :: ks, w :: vs, i, hn, h => by
    rw [List.nodup_cons] at hn
    unfold kAt at h
    rw [List.findIdx?_cons] at h
    by_cases e : j = k
    · rw [if_pos (decide_eq_true e)] at h
      cases h
      subst e
      rw [List.zip_cons_cons, List.map_cons, map_same (fun i hi z => hn.1 (by rw [← z]; exact hi)), if_pos rfl, List.set_cons_zero, List.zip_cons_cons]
    · rw [if_neg (by simpa using e)] at h
      cases q : ks.findIdx? (fun j => decide (j = k)) with
      | none => rw [q] at h; cases h
      | some m =>
        rw [q] at h
        cases h
        rw [List.zip_cons_cons, List.map_cons, map_put hn.2 q, if_neg e, List.set_cons_succ, List.zip_cons_cons]
theorem putK_zip {k : Key} {v : V} {ks : List Key} {vs : List V} (hn : ks.Nodup) (hl : ks.length = vs.length) : putK (ks.zip vs) k v = match kAt ks k with
    | some i => ks.zip (vs.set i v)
    | none => (ks ++ [k]).zip (vs ++ [v]) := by
  cases q : kAt ks k with
  | none =>
    have : valV (ks.zip vs) k = none := by rw [valV_zip hl, q]; rfl
    rw [putK_new v this]
    show _ = (ks ++ [k]).zip (vs ++ [v])
    rw [List.zip_append hl]
    rfl
  | some i =>
    have hi : i < vs.length := by
      unfold kAt at q
      obtain ⟨h, _⟩ := List.findIdx?_eq_some_iff_getElem.mp q
      rw [← hl]; exact h
    have : (valV (ks.zip vs) k).isSome = true := by rw [valV_zip hl, q]; simp [hi]
    unfold putK
    rw [valV_any, if_pos this]
    exact map_put hn q
section
variable {X : Cx} {c : List Ow} {e d : Expr} {te td : TEm} {pos p2 : Pos} {md : Md} {f : Fx}
theorem em_dnew : PEm X c .fr (.Dict [] [] pos) (mC (.dic [] [])) := ⟨pe_dnewK.weak fun σ H Q h p n => by
  obtain ⟨G, A, W, env, P, R, h, k⟩ := h
  exact k (.dic [] []) (.ref p) _ (Grow.new R.src n) ⟨p, rfl, n, ⟨[], upd_same, rfl, Rps.nil⟩⟩ h⟩
/-- d[y] -/
def oDGet : PO2 := fun d y P => ∃ ks vs k i v, d = .dic ks vs ∧ pkey y = some k ∧ kAt ks k = some i ∧ vs[i]? = some v ∧ P v
theorem em_dget (hu : X.A.units + 1 < cLine) (hd : PEm X c .ow d td) (he : PEm X c .ow e te) (hs : NoSl e) : PEm X c .cl (.Subscript d e pos) (mOp oDGet td te) := ⟨(pe_dget hu hd.run he.run hs).weak fun σ H Q h => by
  obtain ⟨G, A, W, env, P, R, h, k⟩ := h
  refine ⟨G, A, W, env, _, R, h, fun px vx H1 g1 rx h1 => ⟨G, A, W, env, _, R.grow g1, h1, fun py vy H2 g2 ry h2 => ?_⟩⟩
  obtain ⟨ks, vs, key, i, v, rfl, hk, hi, hv, hp⟩ := h2
  have rx2 := RpO.grow R.sz g2 rx.o
  obtain ⟨a, ws, rfl, hw, hH, hl, r⟩ := rx2
  obtain ⟨w, h3, rw3⟩ := r.get hv
  refine ⟨a, w, rfl, ?_, k v w H2 (g1.trans g2) (VK1.ofRp rw3) hp⟩
  rw [pkey_v hk ry.o]
  have : valV (ks.zip ws) key = some w := by rw [valV_zip hl, hi]; exact h3
  rw [← this]
  exact DGet.k hH⟩
/-- d[k] = e for a dict of one's own -/
def sDPutm (i : Nat) (ti te : TEm) : TSm := fun M env => te env fun p => ∃ ks ps, env[i]? = some (some (.dic ks ps)) ∧ ti env fun q => ∃ k, pkey q = some k ∧ ks.Nodup ∧ ks.length < sizeLine ∧ M.nx (env.set i (some (kPut ks ps k p)))
theorem sm_dput (i : Nat) {x : Str} {p1 p3 : Pos} {ei : Expr} {ti : TEm} (hu : X.A.units + 1 < cLine) (he : PEm X c .cl e te) (hk : PEm X c .ow ei ti) (hN : X.N[i]? = some x := by rfl) (hc : cO c i = .ow := by rfl) (hv : Vis X.env.scope x := by first | exact Or.inl rfl | exact Or.inr (Or.inl rfl) | exact Or.inr (Or.inr rfl)) (hd : (x == ("__debug__" : Str)) = false := by decide)
    (hcd : (x == ("__classdict__" : Str)) = false := by decide) (hs : swapsWith e (some (.Subscript (.Name x p1) ei p3)) pos.line X.env = pure false := by rfl) :
    PSm X f c c (.Assign [.Subscript (.Name x p1) ei p3] e pos) (sDPutm i ti te) := ⟨(ps_dput hu (pe_var hN hv hd hcd) hk.run he.run hs).weak fun D σ H h => by
  obtain ⟨G, A, W, env, M, hg, R, h, k⟩ := h
  refine ⟨G, A, W, env, _, R, h, fun p v H1 g rv ⟨ks, ps, e0, h1⟩ => ?_⟩
  have R1 := R.grow g
  obtain ⟨a, hA⟩ := R1.Aset i _ (by rw [hc]; decide) e0
  obtain ⟨v0, hσ, hh⟩ := R1.slots i _ e0
  rw [hA] at hh
  obtain ⟨rfl, _⟩ := hh
  refine ⟨.ref a, hσ, G, A, W, env, _, R1, h1, fun q w H2 g2 rq ⟨key, hkq, hnd, hsz, h2⟩ => ?_⟩
  have R2 := R1.grow g2
  obtain ⟨v2, _, hh2⟩ := R2.slots i _ e0
  rw [hA] at hh2
  obtain ⟨_, ws, hH2, hl, r2⟩ := hh2
  have rv2 : Rp X.K ⟨Zt G A W, W, H2⟩ p v := Rp.ext (g2.ext R.sz) rv.c
  have hzl : (ks.zip ws).length < sizeLine := by rw [List.length_zip, ← hl, Nat.min_self]; exact hsz
  refine ⟨a, upd H2 a (.dK (putK (ks.zip ws) key v)), rfl, ?_, ?_⟩
  · rw [pkey_v hkq rq.o]
    exact DPut.k hH2 hzl
  · refine k.nx A W _ σ _ (R2.mut e0 hA hc ?_) h2
    have za : Zt G A W a := .inr (.inr ⟨i, hA⟩)
    have x : ∀ o, Ext ⟨Zt G A W, W, H2⟩ ⟨Zt G A W, W, upd H2 a o⟩ := fun o => ⟨fun b w hz e => ⟨hz, by show upd H2 a o b = some w; rw [upd_ne (fun z => hz (by rw [z]; exact za))]; exact e⟩, fun _ h => h⟩
    rw [putK_zip hnd hl]
    unfold kPut
    cases hq : kAt ks key with
    | none => exact ⟨ws ++ [v], upd_same, by rw [List.length_append, List.length_append, hl]; rfl, Rps.ext (x _) (r2.append (Rps.cons rv2 Rps.nil))⟩
    | some j => exact ⟨ws.set j v, upd_same, by rw [List.length_set, hl], Rps.ext (x _) (Rps.set rv2 j r2)⟩⟩
/-- y in d -/
def oDIn (neg : Bool) : PO2 := fun y d P => ∃ ks vs k, d = .dic ks vs ∧ pkey y = some k ∧ P (.bl (xor neg (kAt ks k).isSome))
def rDIn (neg : Bool) : R2 := fun y x H Q => ∃ a o, x = .ref a ∧ DGet H a y o ∧ Q (.bl (xor neg o.isSome)) H
theorem op_din (hu : X.A.units + 1 < cLine) : OpR X (compareOp .In) (rDIn false) := fun pins s σ H x y v u Q I rx ry ⟨a, o, e, g, q⟩ => by
  subst e
  obtain rfl : u = Value.ref a := ry
  refine d_in hu I g rx fun s3 I3 => ⟨_, H, I3, ?_, q⟩
  rw [Bool.false_xor]; rfl
theorem op_dnin (hu : X.A.units + 1 < cLine) : OpR X (compareOp .NotIn) (rDIn true) := fun pins s σ H x y v u Q I rx ry ⟨a, o, e, g, q⟩ => by
  subst e
  obtain rfl : u = Value.ref a := ry
  refine d_notIn hu I g rx fun s3 I3 => ⟨_, H, I3, ?_, q⟩
  rw [Bool.true_xor]; rfl
theorem lift_din {K : PySem.W.Frag} {neg : Bool} : Lift2 K (rDIn neg) (oDIn neg) .cl := by
  rintro Z W H px py vx vy P Q S rx ry ⟨ks, vs, k, rfl, hk, hp⟩ kk
  obtain ⟨a, ws, rfl, hw, hH, hl, r⟩ := ry
  refine ⟨a, valV (ks.zip ws) k, rfl, by rw [pkey_v hk rx]; exact DGet.k hH, ?_⟩
  have : (valV (ks.zip ws) k).isSome = (kAt ks k).isSome := by
    rw [valV_zip hl]
    cases q : kAt ks k with
    | none => rfl
    | some i =>
      have hi : i < ws.length := by
        unfold kAt at q
        obtain ⟨h, _⟩ := List.findIdx?_eq_some_iff_getElem.mp q
        rw [← hl]; exact h
      simp [hi]
  rw [this]
  exact kk _ _ H (Grow.refl S.src) (VK1.ofRp Rp.bl') hp
end

/-! ### a chain of two comparisons -/
def mChain (o o' : PO2) (ta tb tc : TEm) : TEm := fun env P => ta env fun x => tb env fun y => o x y fun z => ∃ k, z = .bl k ∧ if k = true then tc env fun w => o' y w P else P (.bl false)
section
variable {X : Cx} {c : List Ow} {a b d : Expr} {ta tb td : TEm} {pos : Pos} {op op' : CmpOp} {r r' : R2} {o o' : PO2}
theorem tmChain {K : PySem.W.Frag} (L : Lift2 K r o .cl) (L' : Lift2 K r' o' .cl) (σ : St) (H : Hp) (Q : VK) (h : tmE K c .cl (mChain o o' ta tb td) σ H Q) : tChain r r' (tmE K c .ow ta) (tmE K c .ow tb) (tmE K c .ow td) σ H Q := by
  obtain ⟨G, A, W, env, P, R, h, k⟩ := h
  refine ⟨G, A, W, env, _, R, h, fun px vx H1 g1 rx h1 => ⟨G, A, W, env, _, R.grow g1, h1, fun py vy H2 g2 ry h2 => ?_⟩⟩
  have R2 := (R.grow g1).grow g2
  refine L _ W H2 px py vx vy _ _ R2.sit (RpO.grow R.sz g2 rx.o) ry.o h2 fun pz vz H3 g3 rz ⟨j, e, h3⟩ => ⟨j, by subst e; exact VK1.bl rz, ?_⟩
  have R3 := R2.grow g3
  cases j with
  | false => rw [if_neg Bool.false_ne_true] at h3 ⊢; exact k _ _ H3 ((g1.trans g2).trans g3) (VK1.ofRp Rp.bl') h3
  | true =>
    rw [if_pos rfl] at h3 ⊢
    refine ⟨G, A, W, env, _, R3, h3, fun pw vw H4 g4 rw4 h4 => ?_⟩
    exact L' _ W H4 py pw vy vw P Q (R3.grow g4).sit (RpO.grow R.sz (g3.trans g4) ry.o) rw4.o h4 fun p v H5 g5 r5 hp => k p v H5 ((((g1.trans g2).trans g3).trans g4).trans g5) (r5.back (((g1.trans g2).trans g3).trans g4)) hp
theorem em_chain (ho : OpR X (compareOp op) r) (L : Lift2 X.K r o .cl) (ho' : OpR X (compareOp op') r') (L' : Lift2 X.K r' o' .cl) (ha : PEm X c .ow a ta) (hb : PEm X c .ow b tb) (hd : PEm X c .ow d td) (hm : lastMarks [op, op'] [b, d] = false := by with_unfolding_all rfl) :
    PEm X c .cl (.Compare a [op, op'] [b, d] pos) (mChain o o' ta tb td) := ⟨(pe_chain ho ho' ha.run hb.run hd.run hm).weak fun σ H Q h => tmChain L L' σ H Q h⟩
theorem tm_chain (ho : OpR X (compareOp op) r) (L : Lift2 X.K r o .cl) (ho' : OpR X (compareOp op') r') (L' : Lift2 X.K r' o' .cl) (ha : PEm X c .ow a ta) (hb : PEm X c .ow b tb) (hd : PEm X c .ow d td) (hm : lastMarks [op, op'] [b, d] = false := by with_unfolding_all rfl) :
    PTm X c (.Compare a [op, op'] [b, d] pos) (mTB (mChain o o' ta tb td)) := ⟨(pt_chain ho ho' ha.run hb.run hd.run hm).weak fun σ H Q h => by
  obtain ⟨G, A, W, env, P, R, h, k⟩ := h
  refine tmChain L L' σ H _ ⟨G, A, W, env, _, R, h, fun p v H1 g1 r ⟨j, e, h1⟩ => ⟨j, ?_, k j H1 g1 h1⟩⟩
  subst e
  exact VK1.bl r⟩
end
end PM

set_option maxHeartbeats 1000000
/-! PM: great products, the script's parts, x.append(y.pop(e)), sources, the law's def. -/
namespace PM
open PySem L2
section
variable {K : PySem.W.Frag}
def oMulW : PO2 := fun x y P => ∃ i j, x = .int i ∧ y = .int j ∧ CMulW i j ∧ P (.int (i * j))
theorem lift_mulW : Lift2 K (rI CMulW fun i j => .int (i * j)) oMulW .cl := by
  rintro Z W H px py vx vy P Q S rx ry ⟨i, j, rfl, rfl, hc, hp⟩ k
  exact ⟨i, j, rx.int, ry.int, hc, S.fin k Rp.int' hp⟩
end
section
variable {K : PySem.W.Frag}
def oAddI : PO2 := fun x y P => ∃ i j, x = .int i ∧ y = .int j ∧ P (.int (i + j))
theorem lift_addI : Lift2 K (rI0 fun i j => .int (i + j)) oAddI .cl := by
  rintro Z W H px py vx vy P Q S rx ry ⟨i, j, rfl, rfl, hp⟩ k
  exact ⟨i, j, rx.int, ry.int, S.fin k Rp.int' hp⟩
end
def oSlS : PV → Option Int → Option Int → (PV → Prop) → Prop := fun x l u P => ∃ ns : List Int, x = .scr ns ∧ P (.lst (cutP (ns.map .int) l u))
section
variable {X : Cx} {c : List Ow} {e : Expr} {lo hi : Option Expr} {te : TEm} {tl th : Env → (Option Int → Prop) → Prop} {pos p2 : Pos}
theorem em_slS (he : PEm X c .ow e te) (hl : POm X c lo tl) (hu : POm X c hi th) : PEm X c .fr (.Subscript e (.Slice lo hi none p2) pos) (mSl oSlS te tl th) := ⟨(pe_slice sl_list he.run hl.run hu.run).weak fun σ H Q h => by
  obtain ⟨G, A, W, env, P, R, h, k⟩ := h
  refine ⟨G, A, W, env, _, R, h, fun px vx H1 g1 rx h1 => ⟨G, A, W, env, _, R.grow g1, h1, fun l H2 g2 h2 => ⟨G, A, W, env, _, (R.grow g1).grow g2, h2, fun u H3 g3 h3 => ?_⟩⟩⟩
  have R3 := ((R.grow g1).grow g2).grow g3
  obtain ⟨ns, rfl, hp⟩ := h3
  have rx3 := RpO.grow R.sz (g2.trans g3) rx.o
  unfold RpO Rp at rx3
  obtain ⟨a, rfl, e⟩ := rx3
  have e' : SqL X.K H3 a (ns.map V.int) := e.elim (fun z => let ⟨o, w⟩ := z.2; .inl (.inr ⟨o, w⟩)) .inr
  have r : Rps X.K ⟨Zt G A W, W, H3⟩ (ns.map PV.int) (ns.map V.int) := Rps.ints.mpr rfl
  exact ⟨a, _, rfl, e', fun p n => k _ _ _ (((g1.trans g2).trans g3).trans (Grow.new R3.src n)) ⟨p, rfl, ((g1.trans g2).trans g3).free n, OwnAt.newLst n (r.cut l u)⟩ hp⟩⟩
end
/-! ### x.append(y.pop(e)) -/
def sAppPop (i j : Nat) (te : TEm) : TSm := fun M env => ∃ ps qs, env[i]? = some (some (.lst ps)) ∧ env[j]? = some (some (.lst qs)) ∧ te env fun q => ∃ (m : Int) (n : Nat) (p : PV), q = .int m ∧ (-(2 ^ 63) ≤ m ∧ m < 2 ^ 63) ∧ ixN qs.length m = some n ∧ qs[n]? = some p ∧ ps.length < sizeLine ∧
  M.nx ((env.set j (some (.lst (qs.eraseIdx n)))).set i (some (.lst (ps ++ [p]))))
section
variable {X : Cx} {f : Fx} {c : List Ow} {e : Expr} {te : TEm} {pos : Pos}
theorem sm_appPop (i j : Nat) {x y : Str} {p1 p2 cpos p3 p4 cpos2 : Pos} (hij : i ≠ j := by decide) (he : PEm X c .ow e te) (hN : X.N[i]? = some x := by rfl) (hM : X.N[j]? = some y := by rfl) (hc : cO c i = .ow := by rfl) (hc2 : cO c j = .ow := by rfl)
    (hv : Vis X.env.scope x := by first | exact Or.inl rfl | exact Or.inr (Or.inl rfl) | exact Or.inr (Or.inr rfl)) (hd : (x == ("__debug__" : Str)) = false := by decide) (hcd : (x == ("__classdict__" : Str)) = false := by decide)
    (hv2 : Vis X.env.scope y := by first | exact Or.inl rfl | exact Or.inr (Or.inl rfl) | exact Or.inr (Or.inr rfl)) (hd2 : (y == ("__debug__" : Str)) = false := by decide) (hcd2 : (y == ("__classdict__" : Str)) = false := by decide)
    (hbase : attributeBase (.Name x p1) "append" X.env (eval (.Name x p1) X.env) = eval (.Name x p1) X.env := by rfl)
    (hbase2 : attributeBase (.Name y p3) "pop" X.env (eval (.Name y p3) X.env) = eval (.Name y p3) X.env := by rfl)
    (hfew : ((backTo cpos (starEach [.Call (.Attribute (.Name y p3) "pop" p4) [e] [] cpos2] X.env)).all (fun x => !x.1) && (backToKw cpos (keywordEach [] X.env)).all (fun x => x.1.isSome)
      && decide (([.Call (.Attribute (.Name y p3) "pop" p4) [e] [] cpos2] : List Expr).length + ([] : List Keyword).length + (if ([] : List Keyword).isEmpty then 0 else 1) < 30)) = true := by rfl)
    (hfew2 : ((backTo cpos2 (starEach [e] X.env)).all (fun x => !x.1) && (backToKw cpos2 (keywordEach [] X.env)).all (fun x => x.1.isSome)
      && decide (([e] : List Expr).length + ([] : List Keyword).length + (if ([] : List Keyword).isEmpty then 0 else 1) < 30)) = true := by rfl)
    (hline : (p2.endLine == cpos.line) = true := by rfl) (hline2 : (p4.endLine == cpos2.line) = true := by rfl)
    (hs : starEach [.Call (.Attribute (.Name y p3) "pop" p4) [e] [] cpos2] X.env = (false, eval (.Call (.Attribute (.Name y p3) "pop" p4) [e] [] cpos2) X.env) :: starEach [] X.env := by rfl) (hplain : (backTo cpos (starEach [] X.env)).any (·.1) = false := by rfl)
    (hs2 : starEach [e] X.env = (false, eval e X.env) :: starEach [] X.env := by rfl) (hplain2 : (backTo cpos2 (starEach [] X.env)).any (·.1) = false := by rfl)
    (hsw : swapsWith (.Call (.Attribute (.Name x p1) "append" p2) [.Call (.Attribute (.Name y p3) "pop" p4) [e] [] cpos2] [] cpos) none pos.line X.env = pure false := by rfl) :
    PSm X f c c (.Expr (.Call (.Attribute (.Name x p1) "append" p2) [.Call (.Attribute (.Name y p3) "pop" p4) [e] [] cpos2] [] cpos) pos) (sAppPop i j te) :=
  ⟨(ps_expr (pe_bm PySem.F.plainAttrs_list PySem.F.slot_list_append PySem.F.type_list_append mt_append (pe_var hN hv hd hcd)
      (pa_cons (pe_bm PySem.F.plainAttrs_list PySem.F.slot_list_pop PySem.F.type_list_pop mt_popAt (pe_var hM hv2 hd2 hcd2) (pa_cons he.run pa_nil hs2) hbase2 hfew2 hline2 hs2 hplain2) pa_nil hs) hbase hfew hline hs hplain) hsw).weak fun D σ H h => by
  obtain ⟨G, A, W, env, M, hg, R, ⟨ps, qs, e0, e1, h⟩, k⟩ := h
  obtain ⟨a, hA, hσ, vs, hH, r⟩ := R.mine hc e0
  obtain ⟨b, hB, hτ, ws, hHb, rb⟩ := R.mine hc2 e1
  refine ⟨.ref a, hσ, .inl ⟨rfl, vs, .inl (.inl hH)⟩, .ref b, hτ, .inl ⟨rfl, ws, .inl (.inl hHb)⟩, G, A, W, env, _, R, h, fun q w H1 g rq ⟨m, n, p, eq, ⟨hm1, hm2⟩, hix, hp, hl, h1⟩ => ?_⟩
  subst eq
  have R1 := R.grow g
  obtain ⟨b', hB', _, ws1, hH1, r1⟩ := R1.mine hc2 e1
  rw [hB] at hB'; cases hB'
  obtain ⟨v, ev, rv⟩ := r1.get hp
  rw [r1.len] at hix
  refine ⟨b, ws1, m, n, v, rfl, by rw [rq.o.int], hH1, hm1, hm2, (ixN_seq hix).1, ev, ?_⟩
  have zb : Zt G A W b := .inr (.inr ⟨j, hB⟩)
  have R2 := R1.mut e1 hB hc2 (OwnAt.mutL zb (r1.eraseIdx n))
  have xx : Ext ⟨Zt G A W, W, H1⟩ ⟨Zt G A W, W, upd H1 b (.lst (ws1.eraseIdx n))⟩ := ⟨fun u o hz e => ⟨hz, by show upd H1 b _ u = some o; rw [upd_ne (fun z => hz (by rw [z]; exact zb))]; exact e⟩, fun _ h => h⟩
  have e0' : (env.set j (some (.lst (qs.eraseIdx n))))[i]? = some (some (.lst ps)) := by rw [List.getElem?_set_ne (Ne.symm hij)]; exact e0
  obtain ⟨a', hA', _, us, hH2, r2⟩ := R2.mine hc e0'
  rw [hA] at hA'; cases hA'
  refine ⟨a, us, v, rfl, rfl, hH2, by rw [← r2.len]; exact hl, ?_⟩
  exact k.nx A W _ σ _ (R2.mut e0' hA hc (OwnAt.mutL (.inr (.inr ⟨i, hA⟩)) (r2.append (Rps.cons (Rp.ext xx rv) Rps.nil)))) h1⟩
end

/-! ### sources of draws -/
/-- what the maker of a source promises -/
def spSrc (K : PySem.W.Frag) (ok : List PV → Prop) : Sp := fun vs H Q _ => ∃ (Z : Addr → Prop) (W : Ws) (ps : List PV), (∀ b, Z b → ∃ o, H b = some o) ∧ (∀ q ∈ W, SA H q) ∧ (∀ b, inW W b → Z b) ∧ Rps K ⟨Z, W, H⟩ ps vs ∧ ok ps ∧ ∀ H' q, GrowA H H' → H q.1 = none → H q.2 = none → SA H' q → Q (.ref q.1) H'
section
variable {K : PySem.W.Frag} {G : Gh} {c : List Ow} {A : Nat → Option Addr} {W : Ws} {env : Env} {σ : St} {H H' : Hp}
theorem SR.addW {q : Addr × Addr} (R : SR K G c A W env σ H) (hg : G.gw = true) (g : GrowA H H') (n1 : H q.1 = none) (n2 : H q.2 = none) (s : SA H' q) : SR K G c A (q :: W) env σ H' := by
  have R1 := R.grow (g.grow R.src)
  have nt : ∀ b o, H b = some o → ¬ (b = q.1 ∨ b = q.2) := fun b o e z => by
    rcases z with z | z
    · rw [z, n1] at e; cases e
    · rw [z, n2] at e; cases e
  have iw : ∀ b, inW (q :: W) b → inW W b ∨ (b = q.1 ∨ b = q.2) := fun b ⟨p, hp, e⟩ => by
    rcases List.mem_cons.mp hp with z | z
    · rw [z] at e; exact .inr e
    · exact .inl ⟨p, z, e⟩
  have zt : ∀ b, Zt G A (q :: W) b → Zt G A W b ∨ (b = q.1 ∨ b = q.2) := fun b z => by
    rcases z with z | z | z
    · exact .inl (.inl z)
    · exact (iw b z).imp (fun z => .inr (.inl z)) id
    · exact .inl (.inr (.inr z))
  have x : Ext ⟨Zt G A W, W, H⟩ ⟨Zt G A (q :: W), q :: W, H'⟩ := ⟨fun b o hz e => ⟨fun z => (zt b z).elim hz (nt b o e), g b o e⟩, fun p hp => List.mem_cons_of_mem _ hp⟩
  refine ⟨R.len, fun p hp => List.mem_cons_of_mem _ (R.W0in p hp), fun p hp => List.mem_cons_of_mem _ (R.Wmin p hp), fun p hp => ?_, (fun z => by rw [hg] at z; cases z), fun p hp => ?_, R1.keep, R1.zbt, fun i a e => ?_, R.Ainj, R.Aset, fun i p e => ?_, fun u hu => ?_, fun b o e => ?_⟩
  · rcases List.mem_cons.mp hp with z | z
    · rw [z]; exact .inr ⟨R.h0 n1, R.h0 n2⟩
    · exact R.Wnew p z
  · rcases List.mem_cons.mp hp with z | z
    · rw [z]; exact s
    · exact R1.src p z
  · obtain ⟨h1, h2, h3, h4, h5⟩ := R1.Asep i a e
    obtain ⟨o, e5⟩ := (R.Asep i a e).2.2.2.2
    exact ⟨h1, fun z => (iw a z).elim h2 (nt a o e5), h3, h4, h5⟩
  · obtain ⟨v, h1, h2⟩ := R.slots i p e
    refine ⟨v, h1, ?_⟩
    cases hA : A i with
    | none => rw [hA] at h2; exact Rp.ext x h2
    | some a =>
      rw [hA] at h2
      obtain ⟨_, _, _, _, o, e5⟩ := R.Asep i a hA
      exact ⟨h2.1, h2.2.ext x (by show H' a = H a; rw [e5, g a o e5])⟩
  · obtain ⟨h1, h2, h3, h4⟩ := R1.pins u hu
    obtain ⟨h1', _, _, _⟩ := R.pins u hu
    exact ⟨h1, fun z => (iw _ z).elim h2 (nt _ _ h1'), h3, h4⟩
  · obtain ⟨h1, h2⟩ := R.fz b o e
    exact ⟨g b o h1, fun z => (zt b z).elim h2 (nt b o h1)⟩
end
def sSrc (i : Nat) (ok : List PV → Prop) (t : TAm) : TSm := fun M env => t env fun ps => ok ps ∧ M.nx (env.set i (some .src))
section
variable {X : Cx} {f : Fx} {c : List Ow} {k : Nat} {fa : Addr} {fd : FuncData} {pns : List Str} {ok : List PV → Prop} {x y : Str} {p pos pos' cpos : Pos} {e : Expr} {es : List Expr} {t : TAm}
/-- x = maker(..) -/
theorem sm_src (i : Nat) (F : FnOk X.prog X.w X.K X.mg X.base CX0 k fa fd pns (spSrc X.K ok)) (hr : Room k X.A) (hm : X.mg x = some (.ref fa)) (hk : PySem.W.keepIn X.K (.ref fa) = true) (hb : Binds X.K fd pns []) (hgw : f.gw = true) (hN : X.N.Nodup)
    (ha : PAm X c .cl (e :: es) t) (hi : X.N[i]? = some y := by rfl) (hx : Loc X.env.scope y := by first | exact Or.inl rfl | exact Or.inr rfl) (hl : cO c i ≠ .lk := by decide) (hg : Gl X x := by rfl) (hdb : (x == ("__debug__" : Str)) = false := by decide) (he : starEach (e :: es) X.env = (false, eval e X.env) :: starEach es X.env := by rfl) (hpl : (backTo cpos (starEach es X.env)).any (·.1) = false := by rfl)
    (hs : swapsWith (.Call (.Name x p) (e :: es) [] cpos) (some (.Name y pos')) pos.line X.env = pure false := by rfl) (hf : X.fn y = true ∨ X.env.scope.names.lookup y = some .local := by first | exact .inl rfl | exact .inr rfl | assumption) :
    PSm X f c (c.set i .sh) (.Assign [.Name y pos'] (.Call (.Name x p) (e :: es) [] cpos) pos) (sSrc i ok t) := ⟨(ps_set hN hi hx (pe_call F hr hg hm hk hb .nil pass0 ha.run hdb he hpl) hs hf).weak fun D σ H h => by
  obtain ⟨G, A, W, env, M, hg, R, h, kk⟩ := h
  refine ⟨G, A, W, env, _, R, h, fun ps vs H1 g1 rs ⟨hok, h1⟩ => ?_⟩
  have R1 := R.grow g1
  refine ⟨Zt G A W, W, ps, R1.dz, R1.src, R1.sz, by rw [List.append_nil]; exact rs.rps, hok, fun H2 q g n1 n2 s => ?_⟩
  have R2 := R1.addW (hg.trans hgw) g n1 n2 s
  refine kk.nx _ _ _ _ _ (R2.set_sh hl ?_) h1
  unfold Rp
  exact ⟨q, List.mem_cons_self .., rfl⟩⟩
end

theorem rp_flV {K : PySem.W.Frag} {S : Wd} {p : PV} (f : flatP p = true) : Rp K S p (flV p) := by
  cases p with
  | non => unfold Rp; rfl
  | bl _ => unfold Rp; rfl
  | int _ => unfold Rp; rfl
  | str _ => unfold Rp; rfl
  | _ => exact absurd f (by simp [flatP])
theorem cst_ok {K : PySem.W.Frag} : ∀ (ds : List PV), ds.all flatP = true → Cst K ds (ds.map flV)
  | [], _ => fun _ => Rps.nil
  | d :: ds, h => fun S => by
    rw [List.all_cons, Bool.and_eq_true] at h
    exact Rps.cons (rp_flV h.1) (cst_ok ds h.2 S)
theorem binds0 {K : PySem.W.Frag} {x qual : Str} {params : Arguments} {body : List Stmt} {scope : Scope} {f : Addr} {fd : FuncData} {ps : List Str} (F : FunD K x qual params body scope [] [] f fd)
    (h : ∀ (kV doc pm : Value) (an : Option Addr) (cdv ct : Value) (us : List Value), us.length = ps.length → bindArgs (PySem.W.fnOf x qual params body scope .none kV doc pm an cdv ct) ⟨us, []⟩ = pure (ps.zip us)) : Binds K fd ps [] := fun s us _ hl => by
  rw [List.append_nil] at hl ⊢
  exact F.bindsA h s us hl
theorem fn_none {P : Program} {w : World} {K : PySem.W.Frag} {mg : Str → Option Value} {base : Heap} {k : Nat} {f : Addr} {fd : FuncData} {ps : List Str} {rm : Md} {spec : Spec} (h : ∀ ps Q, spec ps Q → False) : FnOk P w K mg base CX0 k f fd ps (spM K rm spec) :=
  ⟨fun vs H Q E z => by obtain ⟨_, _, _, _, _, _, _, z, _⟩ := z; exact (h _ _ z).elim, fun A outer s H args us vs Q E _ _ _ _ z => by obtain ⟨_, _, _, _, _, _, _, z, _⟩ := z; exact (h _ _ z).elim⟩
/-! ### the law's def -/
def spLawM (K : PySem.W.Frag) : Sp := fun vs H Q _ => ∃ (a : Addr) (ns : List Int), vs = [.ref a] ∧ Only H ∧ SqL K H a (ns.map V.int) ∧ ns.length ≤ 63 ∧ ∀ H', Q (.bl true) H'
theorem law_m {P : Program} {w : World} {K : PySem.W.Frag} {mg : Str → Option Value} {base : Heap} {x qual : Str} {st : Stmt} {f : Addr} {fd : FuncData} {N pns : List Str} {k : Nat} {t : TSm} {dvs : List V} (F : FunD K x qual (defArgs st) (defBody st) (defScope st) dvs [] f fd) (S : FnScope N pns (defScope st)) (h1 : pns.length = 1)
    (hbody : ∀ (cdv : Value) (A : Around) (outer : List PySem.Env) (s : Shared) (H : Hp) (E : XK), Room k (A.deeper (PyProof.Rows.envOfC qual (defScope st) s.heap.objs.size f cdv)) → ∃ c', PSsm (bodyX P w K mg base N qual st f cdv A outer s H E) ⟨.cl, true, []⟩ (shs N.length) c' (defBody st) t)
    (hok : ∀ ns : List Int, ns.length ≤ 63 → t { nx := fun _ => False, rt := fun p => p = .bl true } (startE N.length [.scr ns])) : FnOk P w K mg base CX0 (k + 1) f fd pns (spLawM K) := by
  refine F.ok S (fun vs H Q E h => ?_) (fun cdv A outer s H vs Q E hr h => ?_)
  · obtain ⟨a, ns, rfl, _⟩ := h
    exact h1.symm
  · obtain ⟨a, ns, rfl, hO, hS, hl, q⟩ := h
    have r : Rps K ⟨fun b => (fun _ => False) b ∨ inW [] b, [], H⟩ [.scr ns] [.ref a] := by
      refine Rps.cons ?_ Rps.nil
      unfold Rp
      refine ⟨a, rfl, ?_⟩
      rcases hS with hS | hS
      · refine .inl ⟨fun z => z.elim id fun ⟨p, hp, _⟩ => (by cases hp), ?_⟩
        rcases hS with hS | hS
        · rcases hO a with z | ⟨o, xs, z⟩
          · rw [hS] at z; cases z
          · rw [hS] at z; cases z
        · exact hS
      · exact .inr hS
    have hsr : SR K ⟨true, fun _ => False, [], H, fun _ => none, [], []⟩ (shs N.length) (fun _ => none) [] (startE N.length [.scr ns]) (L2.start N [.ref a]) H := SR.start (fun _ z => z.elim) (fun _ z => by cases z) r
    obtain ⟨c', hb⟩ := hbody cdv A outer s H E hr
    refine ⟨_, hb.run.nox, ⟨true, fun _ => False, [], H, fun _ => none, [], []⟩, fun _ => none, [], startE N.length [.scr ns], _, rfl, hsr, hok ns hl, ⟨fun _ _ _ _ _ _ z => z.elim, fun p v H' hr hp => ?_, fun _ _ _ _ _ _ z => z.elim, fun _ _ _ _ _ _ z => z.elim⟩⟩
    subst hp
    obtain ⟨W', _, _, _, _, h5⟩ := hr
    rw [VK1.bl h5]
    exact q H'
end PM

set_option maxHeartbeats 1000000
/-! PM: the plain side: what the transformers say, in rows for simp; loops and comprehensions by what they do. -/
namespace PM
open PySem L2
section
variable {env : Env} {P : PV → Prop} {i j : Nat} {M : Em} {t u : TSm} {te ta tb tc : TEm} {ts : TAm} {tt : TTm}
@[simp] theorem s_mVar0 {o : PV} : mVar 0 (some o :: env) P ↔ P o := ⟨fun ⟨v, e, h⟩ => by cases e; exact h, fun h => ⟨o, rfl, h⟩⟩
@[simp] theorem s_mVarS {o : Option PV} : mVar (i + 1) (o :: env) P ↔ mVar i env P := by
  unfold mVar; rw [List.getElem?_cons_succ]
def isObj : PV → Bool
  | .obj _ _ _ _ => true
  | _ => false
@[simp] theorem s_mVarO0 {o : PV} : mVarO 0 (some o :: env) P ↔ isObj o = false ∧ P o := by
  constructor
  · rintro ⟨v, e, n, h⟩
    cases e
    refine ⟨?_, h⟩
    cases o with
    | obj C dx ns ps => exact absurd rfl (n C dx ns ps)
    | _ => rfl
  · rintro ⟨n, h⟩
    exact ⟨o, rfl, (fun C dx ns ps z => by rw [z] at n; cases n), h⟩
@[simp] theorem s_mVarOS {o : Option PV} : mVarO (i + 1) (o :: env) P ↔ mVarO i env P := by
  unfold mVarO; rw [List.getElem?_cons_succ]
@[simp] theorem s_isObj_lst {ps : List PV} : isObj (.lst ps) = false := rfl
@[simp] theorem s_isObj_dic {ks : List Key} {ps : List PV} : isObj (.dic ks ps) = false := rfl
@[simp] theorem s_mC {p : PV} : mC p env P ↔ P p := .rfl
@[simp] theorem s_mOp {o : PO2} : mOp o ta tb env P ↔ ta env fun x => tb env fun y => o x y P := .rfl
@[simp] theorem s_mOp1 {o : PO1} : mOp1 o ta env P ↔ ta env fun x => o x P := .rfl
@[simp] theorem s_mB {o : POn} : mB o ts env P ↔ ts env fun xs => o xs P := .rfl
@[simp] theorem s_mNil {Q : List PV → Prop} : mNil env Q ↔ Q [] := .rfl
@[simp] theorem s_mCons {Q : List PV → Prop} : mCons te ts env Q ↔ te env fun x => ts env fun xs => Q (x :: xs) := .rfl
@[simp] theorem s_mTup : mTup ts env P ↔ ts env fun xs => xs.length ≤ sizeLine ∧ P (.tup xs) := .rfl
@[simp] theorem s_mLst : mLst ts env P ↔ ts env fun xs => xs.length ≤ sizeLine ∧ P (.lst xs) := .rfl
@[simp] theorem s_mCall {sp : Spec} {ds : List PV} : mCall sp ds ts env P ↔ ts env fun ps => sp (ps ++ ds) P := .rfl
@[simp] theorem s_mTB {Q : Bool → Prop} : mTB te env Q ↔ te env fun x => ∃ k, x = .bl k ∧ Q k := .rfl
@[simp] theorem s_mNot {Q : Bool → Prop} : mNot tt env Q ↔ tt env fun b => Q (!b) := .rfl
@[simp] theorem s_mAnd {tu : TTm} {Q : Bool → Prop} : mAnd tt tu env Q ↔ tt env fun b => if b = true then tu env Q else Q false := .rfl
@[simp] theorem s_mOr {tu : TTm} {Q : Bool → Prop} : mOr tt tu env Q ↔ tt env fun b => if b = true then Q true else tu env Q := .rfl
@[simp] theorem s_mAndV : mAndV ta tb env P ↔ ta env fun x => ∃ k, x = .bl k ∧ if k = true then tb env P else P (.bl false) := .rfl
@[simp] theorem s_mOrV : mOrV ta tb env P ↔ ta env fun x => ∃ k, x = .bl k ∧ if k = true then P (.bl true) else tb env P := .rfl
@[simp] theorem s_mIf : mIf tt ta tb env P ↔ tt env fun b => if b = true then ta env P else tb env P := .rfl
@[simp] theorem s_mYes {Q : Bool → Prop} : mYes env Q ↔ Q true := .rfl
@[simp] theorem s_mSl {o : PV → Option Int → Option Int → (PV → Prop) → Prop} {tl th : Env → (Option Int → Prop) → Prop} : mSl o te tl th env P ↔ te env fun x => tl env fun l => th env fun u => o x l u P := .rfl
@[simp] theorem s_mNo {Q : Option Int → Prop} : mNo env Q ↔ Q none := .rfl
@[simp] theorem s_mPart {Q : Option Int → Prop} : mPart te env Q ↔ te env fun x => ∃ i, x = .int i ∧ Q (some i) := .rfl
@[simp] theorem s_mLc {wi : TIm} {vs : List Nat} {g : TGm} : mLc wi vs g tt te env P ↔ wi env fun items => mCompGo g tt te (wipeE env vs) P items [] := .rfl
@[simp] theorem s_mItems {Q : List PV → Prop} : mItems te env Q ↔ te env fun p => ∃ ps, seqP p = some ps ∧ Q ps := .rfl
@[simp] theorem s_mRng1 {Q : List PV → Prop} : mRng1 te env Q ↔ te env fun x => ∃ n, x = .int n ∧ (-(2 ^ 62) ≤ n ∧ n < 2 ^ 62) ∧ Q (rngP 0 n.toNat) := .rfl
@[simp] theorem s_mRng2 {Q : List PV → Prop} : mRng2 ta tb env Q ↔ ta env fun x => tb env fun y => ∃ a b, x = .int a ∧ y = .int b ∧ (-(2 ^ 62) ≤ a ∧ a < 2 ^ 62 ∧ -(2 ^ 62) ≤ b ∧ b < 2 ^ 62) ∧ Q (rngP a (b - a).toNat) := .rfl
@[simp] theorem s_mEnum {Q : List PV → Prop} : mEnum te env Q ↔ te env fun p => ∃ ps, seqP p = some ps ∧ Q (enumP ps) := .rfl
@[simp] theorem s_mChain {o o' : PO2} : mChain o o' ta tb tc env P ↔ ta env fun x => tb env fun y => o x y fun z => ∃ k, z = .bl k ∧ if k = true then tc env fun w => o' y w P else P (.bl false) := .rfl
@[simp] theorem s_seqT {ps : List PV} : seqP (.tup ps) = some ps := rfl
@[simp] theorem s_seqL {ps : List PV} : seqP (.lst ps) = some ps := rfl
-- statements
@[simp] theorem s_sNext : sNext M env ↔ M.nx env := .rfl
@[simp] theorem s_sSeq : sSeq t u M env ↔ t { M with nx := u M } env := .rfl
@[simp] theorem s_sIf : sIf tt t u M env ↔ tt env fun b => if b = true then t M env else u M env := .rfl
@[simp] theorem s_sSet : sSet i te M env ↔ te env fun p => M.nx (env.set i (some p)) := .rfl
@[simp] theorem s_sRet : sRet te M env ↔ te env M.rt := .rfl
@[simp] theorem s_sRetN : sRetN M env ↔ M.rt .non := .rfl
@[simp] theorem s_sBreak : sBreak M env ↔ M.bk env := .rfl
@[simp] theorem s_sCont : sCont M env ↔ M.ct env := .rfl
@[simp] theorem s_sDrop : sDrop te M env ↔ te env fun _ => M.nx env := .rfl
@[simp] theorem s_sPar {is : List Nat} : sPar is ts M env ↔ ts env fun ps => M.nx (setN env is ps) := .rfl
@[simp] theorem s_setN0 {ps : List PV} : setN env [] ps = env := by cases ps <;> rfl
@[simp] theorem s_setNS {is : List Nat} {p : PV} {ps : List PV} : setN env (i :: is) (p :: ps) = setN (env.set i (some p)) is ps := rfl
@[simp] theorem s_sAsg {g : TGm} : sAsg te g M env ↔ te env fun p => g p env M.nx := .rfl
@[simp] theorem s_sApp : sApp i te M env ↔ ∃ ps, env[i]? = some (some (.lst ps)) ∧ te env fun p => ps.length < sizeLine ∧ M.nx (env.set i (some (.lst (ps ++ [p])))) := .rfl
@[simp] theorem s_sAug {o : PO2} : sAug i o te M env ↔ ∃ x, env[i]? = some (some x) ∧ te env fun y => o x y fun z => M.nx (env.set i (some z)) := .rfl
@[simp] theorem s_sFor {wi : TIm} {g : TGm} : sFor wi g t M env ↔ wi env fun items => mForGo g t M items env := .rfl
@[simp] theorem s_sSrc {ok : List PV → Prop} : sSrc i ok ts M env ↔ ts env fun ps => ok ps ∧ M.nx (env.set i (some .src)) := .rfl
-- targets
@[simp] theorem s_gmN {p : PV} {k : Env → Prop} : gmN i p env k ↔ k (env.set i (some p)) := .rfl
@[simp] theorem s_gmT {n : Nat} {r : TGsm} {ps : List PV} {k : Env → Prop} : gmT n r (.tup ps) env k ↔ ps.length = n ∧ r ps env k := ⟨fun ⟨qs, e, h⟩ => by cases e; exact h, fun h => ⟨ps, rfl, h⟩⟩
@[simp] theorem s_gmCons {g : TGm} {r : TGsm} {p : PV} {ps : List PV} {k : Env → Prop} : gmCons g r (p :: ps) env k ↔ g p env fun env' => r ps env' k := ⟨fun ⟨q, qs, e, h⟩ => by cases e; exact h, fun h => ⟨p, ps, rfl, h⟩⟩
@[simp] theorem s_gmNil {k : Env → Prop} : gmNil [] env k ↔ k env := ⟨fun h => h.2, fun h => ⟨rfl, h⟩⟩
@[simp] theorem s_wipe0 : wipeE env [] = env := rfl
@[simp] theorem s_wipeS {vs : List Nat} : wipeE env (i :: vs) = (wipeE env vs).set i none := rfl
-- operations
variable {a b : Int} {x y : PV}
@[simp] theorem s_oSub : oSub (.int a) (.int b) P ↔ P (.int (a - b)) := ⟨fun ⟨_, _, e, f, h⟩ => by cases e; cases f; exact h, fun h => ⟨a, b, rfl, rfl, h⟩⟩
@[simp] theorem s_oAddI : oAddI (.int a) (.int b) P ↔ P (.int (a + b)) := ⟨fun ⟨_, _, e, f, h⟩ => by cases e; cases f; exact h, fun h => ⟨a, b, rfl, rfl, h⟩⟩
@[simp] theorem s_oAdd : oAdd (.int a) (.int b) P ↔ P (.int (a + b)) := .rfl
@[simp] theorem s_oLt : oLt (.int a) (.int b) P ↔ P (.bl (decide (a < b))) := ⟨fun ⟨_, _, e, f, h⟩ => by cases e; cases f; exact h, fun h => ⟨a, b, rfl, rfl, h⟩⟩
@[simp] theorem s_oLe : oLe (.int a) (.int b) P ↔ P (.bl (decide (a ≤ b))) := ⟨fun ⟨_, _, e, f, h⟩ => by cases e; cases f; exact h, fun h => ⟨a, b, rfl, rfl, h⟩⟩
@[simp] theorem s_oGt : oGt (.int a) (.int b) P ↔ P (.bl (decide (b < a))) := ⟨fun ⟨_, _, e, f, h⟩ => by cases e; cases f; exact h, fun h => ⟨a, b, rfl, rfl, h⟩⟩
@[simp] theorem s_oGe : oGe (.int a) (.int b) P ↔ P (.bl (decide (b ≤ a))) := ⟨fun ⟨_, _, e, f, h⟩ => by cases e; cases f; exact h, fun h => ⟨a, b, rfl, rfl, h⟩⟩
@[simp] theorem s_oNeg : oNeg (.int a) P ↔ P (.int (-a)) := ⟨fun ⟨_, e, h⟩ => by cases e; exact h, fun h => ⟨a, rfl, h⟩⟩
@[simp] theorem s_oNot {k : Bool} : oNot (.bl k) P ↔ P (.bl (!k)) := ⟨fun ⟨_, e, h⟩ => by cases e; exact h, fun h => ⟨k, rfl, h⟩⟩
@[simp] theorem s_oMul : oMul (.int a) (.int b) P ↔ CMul a b ∧ P (.int (a * b)) := ⟨fun ⟨_, _, e, f, h⟩ => by cases e; cases f; exact h, fun h => ⟨a, b, rfl, rfl, h⟩⟩
@[simp] theorem s_oMulW : oMulW (.int a) (.int b) P ↔ CMulW a b ∧ P (.int (a * b)) := ⟨fun ⟨_, _, e, f, h⟩ => by cases e; cases f; exact h, fun h => ⟨a, b, rfl, rfl, h⟩⟩
@[simp] theorem s_oMod : oMod (.int a) (.int b) P ↔ 0 < b ∧ P (.int (a % b)) := ⟨fun ⟨_, _, e, f, h⟩ => by cases e; cases f; exact h, fun h => ⟨a, b, rfl, rfl, h⟩⟩
@[simp] theorem s_oFdiv : oFdiv (.int a) (.int b) P ↔ (0 < b ∧ b < 1073741824) ∧ P (.int (a / b)) := ⟨fun ⟨_, _, e, f, h⟩ => by cases e; cases f; exact h, fun h => ⟨a, b, rfl, rfl, h⟩⟩
@[simp] theorem s_oPow : oPow (.int a) (.int b) P ↔ (0 ≤ b ∧ b ≤ 1000000 ∧ a.natAbs < 2 ^ 64) ∧ P (.int (a ^ b.toNat)) := ⟨fun ⟨_, _, e, f, h⟩ => by cases e; cases f; exact h, fun h => ⟨a, b, rfl, rfl, h⟩⟩
@[simp] theorem s_oIsN : oIsN x .non P ↔ P (.bl (isNon x)) := ⟨fun h => h.2, fun h => ⟨rfl, h⟩⟩
@[simp] theorem s_oNotN : oNotN x .non P ↔ P (.bl (!isNon x)) := ⟨fun h => h.2, fun h => ⟨rfl, h⟩⟩
@[simp] theorem s_oIsB {k l : Bool} : oIsB (.bl k) (.bl l) P ↔ P (.bl (decide (k = l))) := ⟨fun ⟨_, _, e, f, h⟩ => by cases e; cases f; exact h, fun h => ⟨k, l, rfl, rfl, h⟩⟩
@[simp] theorem s_oNotB {k l : Bool} : oNotB (.bl k) (.bl l) P ↔ P (.bl (!decide (k = l))) := ⟨fun ⟨_, _, e, f, h⟩ => by cases e; cases f; exact h, fun h => ⟨k, l, rfl, rfl, h⟩⟩
@[simp] theorem s_isNon_int : isNon (.int a) = false := rfl
@[simp] theorem s_isNon_non : isNon .non = true := rfl
@[simp] theorem s_isNon_bl {k : Bool} : isNon (.bl k) = false := rfl
@[simp] theorem s_isNon_str {k : Str} : isNon (.str k) = false := rfl
@[simp] theorem s_isNon_tup {k : List PV} : isNon (.tup k) = false := rfl
@[simp] theorem s_isNon_lst {k : List PV} : isNon (.lst k) = false := rfl
@[simp] theorem s_isNon_dic {k : List Key} {l : List PV} : isNon (.dic k l) = false := rfl
@[simp] theorem s_oEqI : oEq (.int a) (.int b) P ↔ P (.bl (decide (a = b))) := by
  have e : PyData.eqv (.int a) (.int b) = decide (a = b) := rfl
  constructor
  · rintro ⟨_, _, f, g, _, _, h⟩
    cases f; cases g
    rw [e] at h; exact h
  · intro h
    exact ⟨_, _, rfl, rfl, rfl, rfl, by rw [e]; exact h⟩
@[simp] theorem s_oNeI : oNe (.int a) (.int b) P ↔ P (.bl (!decide (a = b))) := by
  have e : PyData.eqv (.int a) (.int b) = decide (a = b) := rfl
  constructor
  · rintro ⟨_, _, f, g, _, _, h⟩
    cases f; cases g
    rw [e] at h; exact h
  · intro h
    exact ⟨_, _, rfl, rfl, rfl, rfl, by rw [e]; exact h⟩
@[simp] theorem s_oIxT {ps : List PV} : oIx (.tup ps) (.int a) P ↔ ∃ p, atI ps a = some p ∧ P p := .rfl
@[simp] theorem s_oIxL {ps : List PV} : oIx (.lst ps) (.int a) P ↔ ∃ p, atI ps a = some p ∧ P p := .rfl
@[simp] theorem s_oSlT {ps : List PV} {l u : Option Int} : oSl (.tup ps) l u P ↔ P (.tup (cutP ps l u)) := .rfl
@[simp] theorem s_oSlL {ps : List PV} {l u : Option Int} : oSl (.lst ps) l u P ↔ P (.lst (cutP ps l u)) := .rfl
@[simp] theorem s_oRevT {ps : List PV} : oRev (.tup ps) P ↔ P (.tup ps.reverse) := .rfl
@[simp] theorem s_oRevL {ps : List PV} : oRev (.lst ps) P ↔ P (.lst ps.reverse) := .rfl
@[simp] theorem s_oInt : oInt [.int a] P ↔ P (.int a) := .rfl
@[simp] theorem s_oIntB {k : Bool} : oInt [.bl k] P ↔ P (.int (if k then 1 else 0)) := .rfl
@[simp] theorem s_oAbs : oAbs [.int a] P ↔ P (.int (if a < 0 then -a else a)) := ⟨fun ⟨_, e, h⟩ => by cases e; exact h, fun h => ⟨a, rfl, h⟩⟩
@[simp] theorem s_oMax2 : oMax2 [.int a, .int b] P ↔ P (.int (if b > a then b else a)) := ⟨fun ⟨_, _, e, h⟩ => by cases e; exact h, fun h => ⟨a, b, rfl, h⟩⟩
@[simp] theorem s_oMin2 : oMin2 [.int a, .int b] P ↔ P (.int (if b < a then b else a)) := ⟨fun ⟨_, _, e, h⟩ => by cases e; exact h, fun h => ⟨a, b, rfl, h⟩⟩
@[simp] theorem s_oLen : oLen [x] P ↔ ∃ n, plen x = some n ∧ P (.int (n : Int)) := ⟨fun ⟨_, n, e, f, h⟩ => by cases e; exact ⟨n, f, h⟩, fun ⟨n, f, h⟩ => ⟨x, n, rfl, f, h⟩⟩
@[simp] theorem s_plenT {ps : List PV} : plen (.tup ps) = some ps.length := rfl
@[simp] theorem s_plenL {ps : List PV} : plen (.lst ps) = some ps.length := rfl
@[simp] theorem s_plenD {ks : List Key} {ps : List PV} : plen (.dic ks ps) = some ks.length := rfl
@[simp] theorem s_plenS {ns : List Int} : plen (.scr ns) = some ns.length := rfl
@[simp] theorem s_oTupleL {ps : List PV} : oTuple [.lst ps] P ↔ P (.tup ps) := ⟨fun ⟨_, _, e, f, h⟩ => by cases e; cases f; exact h, fun h => ⟨_, ps, rfl, rfl, h⟩⟩
@[simp] theorem s_oTupleT {ps : List PV} : oTuple [.tup ps] P ↔ P (.tup ps) := ⟨fun ⟨_, _, e, f, h⟩ => by cases e; cases f; exact h, fun h => ⟨_, ps, rfl, rfl, h⟩⟩
@[simp] theorem s_oListL {ps : List PV} : oList [.lst ps] P ↔ P (.lst ps) := ⟨fun ⟨_, _, e, f, h⟩ => by cases e; cases f; exact h, fun h => ⟨_, ps, rfl, rfl, h⟩⟩
@[simp] theorem s_oListT {ps : List PV} : oList [.tup ps] P ↔ P (.lst ps) := ⟨fun ⟨_, _, e, f, h⟩ => by cases e; cases f; exact h, fun h => ⟨_, ps, rfl, rfl, h⟩⟩
end
theorem x_bl {b : Bool} {p : Bool → Prop} : (∃ k, PV.bl b = PV.bl k ∧ p k) ↔ p b := ⟨fun ⟨_, e, h⟩ => by cases e; exact h, fun h => ⟨b, rfl, h⟩⟩
theorem x_int {b : Int} {p : Int → Prop} : (∃ k, PV.int b = PV.int k ∧ p k) ↔ p b := ⟨fun ⟨_, e, h⟩ => by cases e; exact h, fun h => ⟨b, rfl, h⟩⟩
theorem x_some {α : Type} {b : α} {p : α → Prop} : (∃ k, some b = some k ∧ p k) ↔ p b := ⟨fun ⟨_, e, h⟩ => by cases e; exact h, fun h => ⟨b, rfl, h⟩⟩
theorem x_addT {a b : List PV} {P : PV → Prop} : oAdd (.tup a) (.tup b) P ↔ a.length + b.length ≤ sizeLine ∧ P (.tup (a ++ b)) := .rfl
theorem x_addL {a b : List PV} {P : PV → Prop} : oAdd (.lst a) (.lst b) P ↔ a.length + b.length ≤ sizeLine ∧ P (.lst (a ++ b)) := .rfl
theorem x_true {p q : Prop} : (if true = true then p else q) ↔ p := by rw [if_pos rfl]
theorem x_false {p q : Prop} : (if false = true then p else q) ↔ q := by rw [if_neg Bool.false_ne_true]
/-! ### of a type -/
def isiB (T : String) (p : PV) : Bool := match pty p with
  | some U => (kitB U T).getD false
  | none => false
theorem oIsi_of {T : String} {p : PV} {P : PV → Prop} {U : String} {b : Bool} (h : pty p = some U) (hb : kitB U T = some b) (hp : P (.bl b)) : oIsi T p P := ⟨U, b, h, hb, hp⟩
abbrev Known (T : String) : Prop := ∀ U ∈ ["NoneType", "bool", "int", "str", "tuple", "list", "dict"], (kitB U T).isSome = true
theorem pty_mem {p : PV} {U : String} (h : pty p = some U) : U ∈ ["NoneType", "bool", "int", "str", "tuple", "list", "dict"] := by
  cases p <;> cases h <;> decide
theorem oIsi_b {T : String} {p : PV} {P : PV → Prop} (k : Known T) (h : (pty p).isSome = true) (hp : P (.bl (isiB T p))) : oIsi T p P := by
  obtain ⟨U, hU⟩ := Option.isSome_iff_exists.mp h
  obtain ⟨b, hb⟩ := Option.isSome_iff_exists.mp (k U (pty_mem hU))
  refine ⟨U, b, hU, hb, ?_⟩
  unfold isiB at hp
  rw [hU] at hp
  have e : (kitB U T).getD false = b := by rw [hb]; rfl
  rw [← e]; exact hp
theorem known_int : Known "int" := by decide
theorem known_bool : Known "bool" := by decide
theorem known_str : Known "str" := by decide
theorem known_tuple : Known "tuple" := by decide
theorem known_list : Known "list" := by decide
theorem known_dict : Known "dict" := by decide
/-! ### loops and comprehensions -/
section
variable {g : TGm} {tt : TTm} {te : TEm} {tb : TSm} {env : Env} {P : PV → Prop} {M : Em}
/-- a loop by what stands ahead of each turn -/
theorem for_inv {α : Type} {emb : α → PV} {xs : List α} (I : Nat → Env → Prop) (h0 : I 0 env) (hs : ∀ (i : Nat) (x : α) (e : Env) (N : Env → Prop), xs[i]? = some x → I i e → (∀ e', I (i + 1) e' → N e') → g (emb x) e fun e1 => tb { M with nx := N, ct := N, bk := M.nx } e1)
    (hn : ∀ e, I xs.length e → M.nx e) : mForGo g tb M (xs.map emb) env := by
  have go : ∀ (ys : List α) (i : Nat) (e : Env), xs.drop i = ys → I i e → i ≤ xs.length → mForGo g tb M (ys.map emb) e := by
    intro ys
    induction ys with
    | nil =>
      intro i e hd hi hl
      have : i = xs.length := by
        have := List.drop_eq_nil_iff.mp hd
        omega
      subst this
      exact hn e hi
    | cons y ys ih =>
      intro i e hd hi hl
      have hx : xs[i]? = some y := by
        have : (xs.drop i)[0]? = some y := by rw [hd]; rfl
        rw [List.getElem?_drop] at this
        exact this
      have hlt : i < xs.length := (List.getElem?_eq_some_iff.mp hx).1
      have hd2 : xs.drop (i + 1) = ys := by
        rw [← List.drop_drop, hd]; rfl
      exact hs i y e _ hx hi fun e' he' => ih (i + 1) e' hd2 he' hlt
  exact go xs 0 env rfl h0 (Nat.zero_le _)
theorem foldl_take {α S : Type} {xs : List α} {f : S → α → S} {s : S} {i : Nat} {x : α} (h : xs[i]? = some x) : (xs.take (i + 1)).foldl f s = f ((xs.take i).foldl f s) x := by
  rw [List.take_add_one, h, List.foldl_append]
  rfl
/-- a loop as a fold -/
theorem for_fold {α S : Type} {emb : α → PV} {xs : List α} (step : S → α → S) (E : S → Env → Prop) (s0 : S) (h0 : E s0 env) (hs : ∀ (x : α) (s : S) (e : Env) (N : Env → Prop), x ∈ xs → E s e → (∀ e', E (step s x) e' → N e') → g (emb x) e fun e1 => tb { M with nx := N, ct := N, bk := M.nx } e1)
    (hn : ∀ e, E (xs.foldl step s0) e → M.nx e) : mForGo g tb M (xs.map emb) env := by
  refine for_inv (fun i e => E ((xs.take i).foldl step s0) e) h0 (fun i x e N hx hE hN => hs x _ e N (List.mem_of_getElem? hx) hE fun e' he' => hN e' ?_) (fun e he => hn e ?_)
  · rw [List.take_add_one, hx, List.foldl_append]
    exact he'
  · rw [List.take_length] at he
    exact he
/-- a comprehension that has one answer at each item -/
theorem comp_emb {α : Type} {emb : α → PV} {tst : α → Bool} {f : α → PV} : ∀ {xs : List α} {acc : List PV}, (∀ x ∈ xs, ∃ e1, (∀ k : Env → Prop, k e1 → g (emb x) env k) ∧ (∀ Q : Bool → Prop, Q (tst x) → tt e1 Q) ∧ (tst x = true → ∀ Q : PV → Prop, Q (f x) → te e1 Q)) →
    acc.length + xs.length ≤ sizeLine → P (.lst (acc ++ (xs.filter tst).map f)) → mCompGo g tt te env P (xs.map emb) acc
  | [], acc, _, _, hp => by
    rw [List.filter_nil, List.map_nil, List.append_nil] at hp
    exact hp
  | x :: xs, acc, h, hl, hp => by
    obtain ⟨e1, h1, h2, h3⟩ := h x (List.mem_cons_self ..)
    rw [List.length_cons] at hl
    rw [List.map_cons]
    unfold mCompGo
    refine h1 _ (h2 _ ?_)
    cases ht : tst x with
    | true =>
      rw [if_pos rfl]
      refine h3 ht _ ⟨by omega, comp_emb (fun y hy => h y (List.mem_cons_of_mem _ hy)) (by rw [List.length_append, List.length_singleton]; omega) ?_⟩
      rw [List.filter_cons, ht, if_pos rfl, List.map_cons] at hp
      rw [List.append_assoc]
      exact hp
    | false =>
      rw [if_neg Bool.false_ne_true]
      refine comp_emb (fun y hy => h y (List.mem_cons_of_mem _ hy)) (by omega) ?_
      rw [List.filter_cons, ht, if_neg Bool.false_ne_true] at hp
      exact hp
/-- a comprehension without test -/
theorem comp_map {α : Type} {emb : α → PV} {f : α → PV} {xs : List α} (h : ∀ x ∈ xs, ∃ e1, (∀ k : Env → Prop, k e1 → g (emb x) env k) ∧ (∀ Q : Bool → Prop, Q true → tt e1 Q) ∧ (∀ Q : PV → Prop, Q (f x) → te e1 Q))
    (hl : xs.length ≤ sizeLine) (hp : P (.lst (xs.map f))) : mCompGo g tt te env P (xs.map emb) [] := by
  refine comp_emb (tst := fun _ => true) (f := f) (fun x hx => ?_) (by rw [List.length_nil, Nat.zero_add]; exact hl) ?_
  · obtain ⟨e1, h1, h2, h3⟩ := h x hx
    exact ⟨e1, h1, h2, fun _ => h3⟩
  · rw [List.filter_eq_self.mpr (fun _ _ => rfl)]
    exact hp
/-- .. whose answers are one of several -/
theorem comp_rel {α : Type} {emb : α → PV} {R : α → PV → Prop} : ∀ {xs : List α} {acc : List PV}, (∀ x ∈ xs, ∃ e1, (∀ k : Env → Prop, k e1 → g (emb x) env k) ∧ (∀ Q : Bool → Prop, Q true → tt e1 Q) ∧ (∀ Q : PV → Prop, (∀ y, R x y → Q y) → te e1 Q)) →
    acc.length + xs.length ≤ sizeLine → (∀ ys, Paired R xs ys → P (.lst (acc ++ ys))) → mCompGo g tt te env P (xs.map emb) acc
  | [], acc, _, _, hp => by
    have := hp [] .nil
    rw [List.append_nil] at this
    exact this
  | x :: xs, acc, h, hl, hp => by
    obtain ⟨e1, h1, h2, h3⟩ := h x (List.mem_cons_self ..)
    rw [List.length_cons] at hl
    rw [List.map_cons]
    unfold mCompGo
    refine h1 _ (h2 _ ?_)
    rw [if_pos rfl]
    refine h3 _ fun y hy => ⟨by omega, comp_rel (fun z hz => h z (List.mem_cons_of_mem _ hz)) (by rw [List.length_append, List.length_singleton]; omega) fun ys hys => ?_⟩
    have := hp (y :: ys) (.cons hy hys)
    rw [List.append_assoc]
    exact this
end
/-! ### data in rows -/
theorem small_line {n : Nat} (h : n ≤ 1000000) : n < sizeLine := Nat.lt_of_le_of_lt h (by decide)
abbrev lI (ns : List Int) : PV := .lst (ns.map .int)
abbrev tI (ns : List Int) : PV := .tup (ns.map .int)
theorem inP_ints {x : Int} : ∀ {ns : List Int}, inP (.int x) (ns.map .int) = decide (x ∈ ns)
  | [] => rfl
  | n :: ns => by
    have ih := inP_ints (x := x) (ns := ns)
    unfold inP at ih ⊢
    rw [List.map_cons, List.any_cons, ih]
    show (n == x || decide (x ∈ ns)) = decide (x ∈ n :: ns)
    by_cases e : n = x
    · subst e; simp
    · have e' : ¬ x = n := fun z => e z.symm
      simp [e, e']
theorem oIn_ints {neg : Bool} {x : Int} {ns : List Int} {P : PV → Prop} (h : P (.bl (if neg then !decide (x ∈ ns) else decide (x ∈ ns)))) : oIn neg (.int x) (lI ns) P := by
  refine ⟨_, .inl rfl, rfl, ?_, ?_⟩
  · rw [List.all_eq_true]
    intro y hy
    obtain ⟨z, _, rfl⟩ := List.mem_map.mp hy
    rfl
  · rw [inP_ints]; exact h
theorem toDs_map {α : Type} {emb : α → PV} {f : α → PyData} (h : ∀ x, toD (emb x) = some (f x)) : ∀ xs : List α, toDs (xs.map emb) = some (xs.map f)
  | [] => by unfold toDs; rfl
  | x :: xs => by
    rw [List.map_cons, List.map_cons]
    unfold toDs
    rw [h x, toDs_map h xs]
    rfl
theorem lay_map {α : Type} {f : α → PyData} {n : Nat} (h : ∀ x, PyData.canLay0 (f x) = true ∧ PyData.depth (f x) ≤ n) : ∀ xs : List α, PyData.canLayAll0 (xs.map f) = true ∧ PyData.depthAll (xs.map f) ≤ n
  | [] => ⟨rfl, Nat.zero_le _⟩
  | x :: xs => by
    obtain ⟨h1, h2⟩ := lay_map h xs
    obtain ⟨g1, g2⟩ := h x
    constructor
    · show (PyData.canLay0 (f x) && PyData.canLayAll0 _) = true
      rw [h1, g1]; rfl
    · show max (PyData.depth (f x)) (PyData.depthAll _) ≤ n
      exact Nat.max_le.mpr ⟨g2, h2⟩
theorem shaped_map {α : Type} {f : α → PyData} {n : Nat} (h : ∀ x, PyData.canLay0 (f x) = true ∧ PyData.depth (f x) ≤ n) (hn : n < 64) (xs : List α) : SeqAt.shaped (.list (xs.map f)) = true := by
  obtain ⟨h1, h2⟩ := lay_map h xs
  unfold SeqAt.shaped
  rw [show PyData.canLay0 (.list (xs.map f)) = true from h1]
  have : PyData.depth (.list (xs.map f)) ≤ 64 := by
    show PyData.depthAll (xs.map f) + 1 ≤ 64
    omega
  rw [decide_eq_true this]; rfl
theorem eqv_nil (ds : List PyData) : PyData.eqv (.list ds) (.list []) = ds.isEmpty := by cases ds <;> rfl
theorem oEq_nil {α : Type} {emb : α → PV} {f : α → PyData} {n : Nat} {xs : List α} {P : PV → Prop} (h : ∀ x, toD (emb x) = some (f x)) (hs : ∀ x, PyData.canLay0 (f x) = true ∧ PyData.depth (f x) ≤ n) (hn : n < 64) (hp : P (.bl xs.isEmpty)) : oEq (.lst (xs.map emb)) (.lst []) P := by
  refine ⟨.list (xs.map f), .list [], ?_, by unfold toD toDs; rfl, shaped_map hs hn xs, rfl, ?_⟩
  · unfold toD; rw [toDs_map h]; rfl
  · rw [eqv_nil, List.isEmpty_map]; exact hp
theorem oNe_nil {α : Type} {emb : α → PV} {f : α → PyData} {n : Nat} {xs : List α} {P : PV → Prop} (h : ∀ x, toD (emb x) = some (f x)) (hs : ∀ x, PyData.canLay0 (f x) = true ∧ PyData.depth (f x) ≤ n) (hn : n < 64) (hp : P (.bl (!xs.isEmpty))) : oNe (.lst (xs.map emb)) (.lst []) P := by
  refine ⟨.list (xs.map f), .list [], ?_, by unfold toD toDs; rfl, shaped_map hs hn xs, rfl, ?_⟩
  · unfold toD; rw [toDs_map h]; rfl
  · rw [eqv_nil, List.isEmpty_map]; exact hp
theorem oEqI_nil {ns : List Int} {P : PV → Prop} (hp : P (.bl ns.isEmpty)) : oEq (lI ns) (.lst []) P := oEq_nil (f := .int) (n := 0) (fun _ => rfl) (fun _ => ⟨rfl, Nat.le_refl _⟩) (by decide) hp
theorem oNeI_nil {ns : List Int} {P : PV → Prop} (hp : P (.bl (!ns.isEmpty))) : oNe (lI ns) (.lst []) P := oNe_nil (f := .int) (n := 0) (fun _ => rfl) (fun _ => ⟨rfl, Nat.le_refl _⟩) (by decide) hp
theorem oAll_map {α : Type} {xs : List α} {b : α → Bool} {P : PV → Prop} (h : P (.bl (xs.all b))) : oAll [.lst (xs.map fun x => .bl (b x))] P := by
  refine ⟨xs.map b, by rw [List.map_map]; rfl, ?_⟩
  rw [List.all_map]
  exact h
theorem oAny_map {α : Type} {xs : List α} {b : α → Bool} {P : PV → Prop} (h : P (.bl (xs.any b))) : oAny [.lst (xs.map fun x => .bl (b x))] P := by
  refine ⟨xs.map b, by rw [List.map_map]; rfl, ?_⟩
  rw [List.any_map]
  exact h
theorem oSum_map {α : Type} {xs : List α} {b : α → Int} {P : PV → Prop} (h : P (.int (xs.map b).sum)) : oSum [.lst (xs.map fun x => .int (b x))] P := ⟨xs.map b, by rw [List.map_map]; rfl, h⟩
theorem rngP_map {a : Int} {n : Nat} : rngP a n = (List.range n).map fun (i : Nat) => PV.int (a + (i : Int)) := rfl
theorem enumP_map {α : Type} {xs : List α} {emb : α → PV} : enumP (xs.map emb) = (List.range xs.length).map fun i => .tup [.int (i : Nat), (xs.map emb).getD i .non] := by
  unfold enumP; rw [List.length_map]
theorem zipP_map {α β : Type} {xs : List α} {ys : List β} {ea : α → PV} {eb : β → PV} : zipP (xs.map ea) (ys.map eb) = (xs.zip ys).map fun p => .tup [ea p.1, eb p.2] := by
  unfold zipP
  rw [List.zipWith_map, List.zip, List.map_zipWith]
theorem atI_map {α : Type} {xs : List α} {emb : α → PV} {i : Int} : atI (xs.map emb) i = (atI xs i).map emb := by
  unfold atI
  rw [List.length_map]
  cases ixN xs.length i with
  | none => rfl
  | some j => exact List.getElem?_map ..
theorem atI_pos {α : Type} {xs : List α} {i : Nat} (h : i < xs.length) : atI xs (i : Int) = xs[i]? := by
  unfold atI ixN
  rw [if_pos (by omega), if_pos (by omega), Int.toNat_natCast]
  rfl
theorem atI_nn {α : Type} {xs : List α} {i : Int} (h0 : 0 ≤ i) (h : i < xs.length) : atI xs i = xs[i.toNat]? := by
  have e : i = (i.toNat : Int) := by omega
  have l : i.toNat < xs.length := by omega
  have := atI_pos l
  rw [← e] at this
  exact this
theorem atI_last1 {α : Type} {xs : List α} (h : 0 < xs.length) : atI xs (-1) = xs[xs.length - 1]? := by
  unfold atI ixN
  rw [if_neg (by omega), if_pos (by omega)]
  show xs[((-1 : Int) + (xs.length : Int)).toNat]? = _
  rw [show ((-1 : Int) + (xs.length : Int)).toNat = xs.length - 1 by omega]
theorem cutP_map {α : Type} {xs : List α} {emb : α → PV} {a b : Option Int} : cutP (xs.map emb) a b = ((xs.drop (HT.sIx xs.length 0 a)).take (HT.sIx xs.length xs.length b - HT.sIx xs.length 0 a)).map emb := by
  unfold cutP
  rw [List.length_map, List.map_take, List.map_drop]
end PM

set_option maxHeartbeats 1000000
/-! PM: the least and the greatest of data, ranges made into lines. -/
namespace L2
open PySem PySem.Spec PyProof.Rows
/-- the place of the first of the least, of the greatest -/
def bestLt (ds : List PyData) : Nat := argBest (fun i j => PySem.W.dataLt (ds.getD i .none) (ds.getD j .none)) (ds.length - 1)
def bestGt (ds : List PyData) : Nat := argBest (fun i j => PySem.W.dataLt (ds.getD j .none) (ds.getD i .none)) (ds.length - 1)
def rBest (K : PySem.W.Frag) (best : List PyData → Nat) : List V → Hp → VK → Prop := fun vs H Q => ∃ (a : Addr) (xs : List V) (ds : List PyData), vs = [V.ref a] ∧ (SqL K H a xs ∨ SqT K H a xs) ∧ DpAll K H xs ds ∧ PySem.W.AlikeAll ds ∧ PyData.depthAll ds ≤ 60 ∧ 0 < ds.length ∧ ∀ v, xs[best ds]? = some v → Q v H
theorem cr_minDa {X : Cx} (hc : X.calm = true) (hu : X.A.units + 64 < cLine) : CallR X (.builtin "min") (rBest X.K bestLt) := by
  intro pins s σ H vs us Q I r h
  obtain ⟨a, xs, ds, rfl, hs, hd, hal, hdp, hne, q⟩ := h
  rw [Vals.ref1 r]
  rcases hs with hs | hs
  · obtain ⟨its, rv, hl, _⟩ := I.list hs
    obtain ⟨as, hr⟩ := Dp.readsAll I ds xs its hd rv
    have hsz : its.length = ds.length := readsAll_len _ hr
    have hr' : ReadsAll s.heap its.toArray.toList ds as := hr
    refine call_min_walkH (PySem.W.iter_listW (A := X.A.in1) (I.ok.hd hc) hl.isList fun s₂ e W st hfp hw hk => ?_)
    refine ⟨_, _, _, _, _, _, _, s.heap, _, rfl, W, st, hfp, by rw [List.size_toArray]; omega, hw, hk, PySem.W.cmpIn_lt (A := X.A.in1) hr' hal (by show X.A.units + 1 + _ < _; omega), fun v s' hP m => ?_⟩
    obtain ⟨h', tk, rfl, hk'⟩ := PySem.W.moved_old e rfl m
    have hP' : its[bestLt ds]? = some v := by
      have : its.toArray[argBest (fun i j => PySem.W.dataLt (ds.getD i .none) (ds.getD j .none)) (its.toArray.size - 1)]? = some v := hP
      rw [List.size_toArray, hsz] at this
      rw [← this, List.getElem?_toArray]; rfl
    have hlen : bestLt ds < its.length := (List.getElem?_eq_some_iff.mp hP').1
    have hx : xs[bestLt ds]? = some (xs[bestLt ds]'(by rw [rv.length]; exact hlen)) := List.getElem?_eq_getElem _
    obtain ⟨u, hu2, ru⟩ := rv.get hx
    rw [hP'] at hu2; cases hu2
    exact ⟨_, H, I.kept hk', ru, q _ hx⟩
  · obtain ⟨its, rv, hl, _⟩ := I.tuple hs
    obtain ⟨as, hr⟩ := Dp.readsAll I ds xs its hd rv
    have hsz : its.length = ds.length := readsAll_len _ hr
    have hr' : ReadsAll s.heap its.toArray.toList ds as := hr
    refine call_min_walkH (PySem.W.iter_tupleW (A := X.A.in1) (I.ok.hd hc) (show s.heap.IsTuple a its.toArray from hl) fun s₂ e W st hfp hw hk => ?_)
    refine ⟨_, _, _, _, _, _, _, s.heap, _, rfl, W, st, hfp, by rw [List.size_toArray]; omega, hw, hk, PySem.W.cmpIn_lt (A := X.A.in1) hr' hal (by show X.A.units + 1 + _ < _; omega), fun v s' hP m => ?_⟩
    obtain ⟨h', tk, rfl, hk'⟩ := PySem.W.moved_old e rfl m
    have hP' : its[bestLt ds]? = some v := by
      have : its.toArray[argBest (fun i j => PySem.W.dataLt (ds.getD i .none) (ds.getD j .none)) (its.toArray.size - 1)]? = some v := hP
      rw [List.size_toArray, hsz] at this
      rw [← this, List.getElem?_toArray]; rfl
    have hlen : bestLt ds < its.length := (List.getElem?_eq_some_iff.mp hP').1
    have hx : xs[bestLt ds]? = some (xs[bestLt ds]'(by rw [rv.length]; exact hlen)) := List.getElem?_eq_getElem _
    obtain ⟨u, hu2, ru⟩ := rv.get hx
    rw [hP'] at hu2; cases hu2
    exact ⟨_, H, I.kept hk', ru, q _ hx⟩
theorem cr_maxDa {X : Cx} (hc : X.calm = true) (hu : X.A.units + 64 < cLine) : CallR X (.builtin "max") (rBest X.K bestGt) := by
  intro pins s σ H vs us Q I r h
  obtain ⟨a, xs, ds, rfl, hs, hd, hal, hdp, hne, q⟩ := h
  rw [Vals.ref1 r]
  rcases hs with hs | hs
  · obtain ⟨its, rv, hl, _⟩ := I.list hs
    obtain ⟨as, hr⟩ := Dp.readsAll I ds xs its hd rv
    have hsz : its.length = ds.length := readsAll_len _ hr
    have hr' : ReadsAll s.heap its.toArray.toList ds as := hr
    refine call_max_walkH (PySem.W.iter_listW (A := X.A.in1) (I.ok.hd hc) hl.isList fun s₂ e W st hfp hw hk => ?_)
    refine ⟨_, _, _, _, _, _, _, s.heap, _, rfl, W, st, hfp, by rw [List.size_toArray]; omega, hw, hk, PySem.W.cmpIn_gt (A := X.A.in1) hr' hal (by show X.A.units + 1 + _ < _; omega), fun v s' hP m => ?_⟩
    obtain ⟨h', tk, rfl, hk'⟩ := PySem.W.moved_old e rfl m
    have hP' : its[bestGt ds]? = some v := by
      have : its.toArray[argBest (fun i j => PySem.W.dataLt (ds.getD j .none) (ds.getD i .none)) (its.toArray.size - 1)]? = some v := hP
      rw [List.size_toArray, hsz] at this
      rw [← this, List.getElem?_toArray]; rfl
    have hlen : bestGt ds < its.length := (List.getElem?_eq_some_iff.mp hP').1
    have hx : xs[bestGt ds]? = some (xs[bestGt ds]'(by rw [rv.length]; exact hlen)) := List.getElem?_eq_getElem _
    obtain ⟨u, hu2, ru⟩ := rv.get hx
    rw [hP'] at hu2; cases hu2
    exact ⟨_, H, I.kept hk', ru, q _ hx⟩
  · obtain ⟨its, rv, hl, _⟩ := I.tuple hs
    obtain ⟨as, hr⟩ := Dp.readsAll I ds xs its hd rv
    have hsz : its.length = ds.length := readsAll_len _ hr
    have hr' : ReadsAll s.heap its.toArray.toList ds as := hr
    refine call_max_walkH (PySem.W.iter_tupleW (A := X.A.in1) (I.ok.hd hc) (show s.heap.IsTuple a its.toArray from hl) fun s₂ e W st hfp hw hk => ?_)
    refine ⟨_, _, _, _, _, _, _, s.heap, _, rfl, W, st, hfp, by rw [List.size_toArray]; omega, hw, hk, PySem.W.cmpIn_gt (A := X.A.in1) hr' hal (by show X.A.units + 1 + _ < _; omega), fun v s' hP m => ?_⟩
    obtain ⟨h', tk, rfl, hk'⟩ := PySem.W.moved_old e rfl m
    have hP' : its[bestGt ds]? = some v := by
      have : its.toArray[argBest (fun i j => PySem.W.dataLt (ds.getD j .none) (ds.getD i .none)) (its.toArray.size - 1)]? = some v := hP
      rw [List.size_toArray, hsz] at this
      rw [← this, List.getElem?_toArray]; rfl
    have hlen : bestGt ds < its.length := (List.getElem?_eq_some_iff.mp hP').1
    have hx : xs[bestGt ds]? = some (xs[bestGt ds]'(by rw [rv.length]; exact hlen)) := List.getElem?_eq_getElem _
    obtain ⟨u, hu2, ru⟩ := rv.get hx
    rw [hP'] at hu2; cases hu2
    exact ⟨_, H, I.kept hk', ru, q _ hx⟩
/-! ### tuple(range(a, b, c)) -/
section
variable {X : Cx} {a b c : Expr} {ta tb tc : TE}
def rg3V (i c : Int) (n : Nat) : List V := (List.range n).map fun k => V.int (i + (k : Nat) * c)
def tTup3 (ta tb tc : TE) : TE := fun σ H Q => ta σ H fun x H1 => tb σ H1 fun y H2 => tc σ H2 fun z H3 => ∃ (i j c : Int) (n : Nat), x = .int i ∧ y = .int j ∧ z = .int c ∧ RgC i j c n ∧ n ≤ 16777216 ∧ ∀ q, H3 q = none → Q (.ref q) (upd H3 q (.tup (rg3V i c n)))
theorem pe_tup3 {p p2 pos pos2 : Pos} (hc : X.calm = true) (hg : Gl X "tuple") (hm : X.mg "tuple" = none) (hg2 : Gl X "range") (hm2 : X.mg "range" = none) (ha : PE X a ta) (hb : PE X b tb) (hcc : PE X c tc)
    (na : starEach [a, b, c] X.env = (false, eval a X.env) :: starEach [b, c] X.env := by rfl) (nb : starEach [b, c] X.env = (false, eval b X.env) :: starEach [c] X.env := by rfl) (nc : starEach [c] X.env = (false, eval c X.env) :: starEach [] X.env := by rfl)
    (hp : (backTo pos2 (starEach [b, c] X.env)).any (·.1) = false := by rfl) (nr : starEach [.Call (.Name "range" p2) [a, b, c] [] pos2] X.env = (false, eval (.Call (.Name "range" p2) [a, b, c] [] pos2) X.env) :: starEach [] X.env := by rfl) :
    PE X (.Call (.Name "tuple" p) [.Call (.Name "range" p2) [a, b, c] [] pos2] [] pos) (tTup3 ta tb tc) := by
  refine ⟨fun pins s σ H Q I h => ?_⟩
  refine Call_ (ld_blt I hg hm boot_tuple (PyProof.Rows.callWith_type1 (args_cons ?_ nr) nr))
  refine Call_ (ld_blt I hg2 hm2 boot_range (PyProof.Rows.callWith_type1 (args_cons (thn (ha.run pins s σ H _ I h) fun v s1 ⟨x, H1, I1, r1, q1⟩ => args_cons (thn (hb.run pins s1 σ H1 _ I1 q1) fun u s2 ⟨y, H2, I2, r2, q2⟩ => one_arg hcc I2 q2 (fun w s3 z H3 I3 r3 q => ?_) nc) nb) na) na hp))
  obtain ⟨i, j, k, n, rfl, rfl, rfl, ⟨c0, c1, c2, c3⟩, hn, q⟩ := q
  obtain ⟨t, rfl⟩ := r1
  obtain ⟨t', rfl⟩ := r2
  obtain ⟨t'', rfl⟩ := r3
  refine call_range_3 c0 (args_nil ?_) (.inl (PyProof.noPylong_small c1))
  have I4 : Inv X pins σ H3 { s3 with heap := s3.heap.push { cls := .type "range", data := .fields #[.int i t, .int j t', .int k t''] } } := I3.kept (t' := s3.toks) fun b o e => Heap.get?_push_of_some _ e
  refine call_tuple_range (n := n) (I4.ok.hd hc) (IsRange.new _ _ _ _ _ _ _) c2 c3 hn fun h' tk acc hk hi => ?_
  have I5 : Inv X pins σ H3 { s3 with heap := h', toks := tk } := I4.kept hk
  have hv : Vals (rg3V i k n) acc.toList := by
    have e : acc.toList.length = n := by rw [Array.length_toList]; exact hi.1
    unfold rg3V
    rw [← e]
    refine vals_of_get acc.toList _ fun j u hj => ?_
    obtain ⟨t, rfl⟩ := hi.2 j u (by rw [← hj, Array.getElem?_toList])
    exact ⟨t, rfl⟩
  refine ⟨.ref h'.objs.size, upd H3 h'.objs.size (.tup (rg3V i k n)), I5.laid (t' := tk) (fun c o e => Heap.get?_push_of_some _ e) (Nat.le_refl _) (show ObjOk X.prog X.w _ _ _ (.tup (rg3V i k n)) from ⟨?_, acc.toList, hv, ?_⟩), rfl, q _ (I5.hok.fresh (Nat.le_refl _))⟩
  · unfold rg3V; rw [List.length_map, List.length_range, sizeLine_eq]; omega
  · rw [Array.toArray_toList]; exact IsTup.new _ _
end
end L2
namespace PM
open PySem L2
def oBest (best : List PyData → Nat) : POn := fun xs P => ∃ x ps ds, xs = [x] ∧ seqP x = some ps ∧ toDs ps = some ds ∧ PySem.W.AlikeAll ds ∧ PyData.depthAll ds ≤ 60 ∧ 0 < ps.length ∧ ∀ p, ps[best ds]? = some p → P p
theorem toDs_len : ∀ {ps : List PV} {ds : List PyData}, toDs ps = some ds → ds.length = ps.length
  | [], _, h => by unfold toDs at h; cases h; rfl
  | p :: ps, _, h => by
    unfold toDs at h
    cases q : toD p with
    | none => rw [q] at h; cases h
    | some d =>
      rw [q] at h
      cases q2 : toDs ps with
      | none => rw [q2] at h; cases h
      | some ds => rw [q2] at h; cases h; rw [List.length_cons, List.length_cons, toDs_len q2]
theorem lift_best {K : PySem.W.Frag} {best : List PyData → Nat} (hb : ∀ ds, 0 < ds.length → best ds < ds.length) : LiftN K (rBest K best) (oBest best) .cl := by
  rintro Z W H ps vs P Q S r ⟨x, qs, ds, rfl, hx, hd, hal, hdp, hne, hp⟩ k
  obtain ⟨v, rfl, rv⟩ := r.one
  obtain ⟨a, ws, rfl, hs, rs⟩ := rv.seq hx
  have hl := toDs_len hd
  refine ⟨a, ws, ds, rfl, hs, toDs_dp rs hd, hal, hdp, by omega, fun v hv => ?_⟩
  have hlt := hb ds (by omega)
  have hq : qs[best ds]? = some (qs[best ds]'(by omega)) := List.getElem?_eq_getElem _
  obtain ⟨v', hv', rv'⟩ := rs.get hq
  rw [hv] at hv'; cases hv'
  exact S.fin k rv' (hp _ hq)
theorem argBest_le (bt : Nat → Nat → Bool) : ∀ n, argBest bt n ≤ n
  | 0 => Nat.le_refl _
  | n + 1 => by
    unfold argBest
    split
    · exact Nat.le_refl _
    · exact Nat.le_succ_of_le (argBest_le bt n)
theorem bestLt_lt (ds : List PyData) (h : 0 < ds.length) : bestLt ds < ds.length := by
  have := argBest_le (fun i j => PySem.W.dataLt (ds.getD i .none) (ds.getD j .none)) (ds.length - 1)
  unfold bestLt
  omega
theorem bestGt_lt (ds : List PyData) (h : 0 < ds.length) : bestGt ds < ds.length := by
  have := argBest_le (fun i j => PySem.W.dataLt (ds.getD j .none) (ds.getD i .none)) (ds.length - 1)
  unfold bestGt
  omega
section
variable {X : Cx} {c : List Ow} {a b d e : Expr} {ta tb td : TEm} {p p2 pos pos2 : Pos}
def rg3P (i k : Int) (n : Nat) : List PV := (List.range n).map fun j => PV.int (i + (j : Nat) * k)
def mTup3 (ta tb td : TEm) : TEm := fun env P => ta env fun x => tb env fun y => td env fun z => ∃ (i j k : Int) (n : Nat), x = .int i ∧ y = .int j ∧ z = .int k ∧ RgC i j k n ∧ n ≤ 16777216 ∧ P (.tup (rg3P i k n))
theorem em_tup3 (hc : X.calm = true) (hm : X.mg "tuple" = none) (hm2 : X.mg "range" = none) (ha : PEm X c .ow a ta) (hb : PEm X c .ow b tb) (hd : PEm X c .ow d td) (hg : Gl X "tuple" := by rfl) (hg2 : Gl X "range" := by rfl)
    (na : starEach [a, b, d] X.env = (false, eval a X.env) :: starEach [b, d] X.env := by rfl) (nb : starEach [b, d] X.env = (false, eval b X.env) :: starEach [d] X.env := by rfl) (nc : starEach [d] X.env = (false, eval d X.env) :: starEach [] X.env := by rfl)
    (hp : (backTo pos2 (starEach [b, d] X.env)).any (·.1) = false := by rfl) (nr : starEach [.Call (.Name "range" p2) [a, b, d] [] pos2] X.env = (false, eval (.Call (.Name "range" p2) [a, b, d] [] pos2) X.env) :: starEach [] X.env := by rfl) :
    PEm X c .cl (.Call (.Name "tuple" p) [.Call (.Name "range" p2) [a, b, d] [] pos2] [] pos) (mTup3 ta tb td) := ⟨(pe_tup3 hc hg hm hg2 hm2 ha.run hb.run hd.run na nb nc hp nr).weak fun σ H Q h => by
  obtain ⟨G, A, W, env, P, R, h, k⟩ := h
  refine ⟨G, A, W, env, _, R, h, fun px vx H1 g1 rx h1 => ⟨G, A, W, env, _, R.grow g1, h1, fun py vy H2 g2 ry h2 => ⟨G, A, W, env, _, (R.grow g1).grow g2, h2, fun pz vz H3 g3 rz h3 => ?_⟩⟩⟩
  obtain ⟨i, j, m, n, rfl, rfl, rfl, hr, hn, hp⟩ := h3
  have R3 := ((R.grow g1).grow g2).grow g3
  refine ⟨i, j, m, n, rx.o.int, ry.o.int, rz.o.int, hr, hn, fun q nq => ?_⟩
  have rs : Rps X.K ⟨Zt G A W, W, H3⟩ (rg3P i m n) (rg3V i m n) := by
    have e1 : rg3P i m n = ((List.range n).map fun j => i + (j : Nat) * m).map PV.int := by unfold rg3P; rw [List.map_map]; rfl
    have e2 : rg3V i m n = ((List.range n).map fun j => i + (j : Nat) * m).map V.int := by unfold rg3V; rw [List.map_map]; rfl
    rw [e1, e2]
    exact Rps.ints.mpr rfl
  exact k _ _ _ (((g1.trans g2).trans g3).trans (Grow.new R3.src nq)) (VK1.ofRp (Rp.newTup (R3.nz nq) nq R3.src R.sz rs)) hp⟩
/-- list(range(..)), tuple(range(..)) -/
def mRgL1 (t : TEm) : TEm := fun env P => t env fun x => ∃ n, x = .int n ∧ RgOk 0 n ∧ P (.lst (rngP 0 n.toNat))
def mRgT1 (t : TEm) : TEm := fun env P => t env fun x => ∃ n, x = .int n ∧ RgOk 0 n ∧ P (.tup (rngP 0 n.toNat))
def mRgL2 (t u : TEm) : TEm := fun env P => t env fun x => u env fun y => ∃ i j, x = .int i ∧ y = .int j ∧ RgOk i j ∧ P (.lst (rngP i (j - i).toNat))
def mRgT2 (t u : TEm) : TEm := fun env P => t env fun x => u env fun y => ∃ i j, x = .int i ∧ y = .int j ∧ RgOk i j ∧ P (.tup (rngP i (j - i).toNat))
theorem rg_rps {K : PySem.W.Frag} {S : Wd} {i j : Int} : Rps K S (rngP i (j - i).toNat) (rgV i j) := by
  have e1 : rngP i (j - i).toNat = ((List.range (j - i).toNat).map fun (k : Nat) => i + (k : Int)).map PV.int := by unfold rngP; rw [List.map_map]; rfl
  have e2 : rgV i j = ((List.range (j - i).toNat).map fun (k : Nat) => i + (k : Int)).map V.int := by unfold rgV; rw [List.map_map]; rfl
  rw [e1, e2]
  exact Rps.ints.mpr rfl
theorem em_rgL1 (hc : X.calm = true) (hm : X.mg "list" = none) (hm2 : X.mg "range" = none) (ha : PEm X c .ow a ta) (hg : Gl X "list" := by rfl) (hg2 : Gl X "range" := by rfl) (na : starEach [a] X.env = (false, eval a X.env) :: starEach [] X.env := by rfl)
    (nr : starEach [.Call (.Name "range" p2) [a] [] pos2] X.env = (false, eval (.Call (.Name "range" p2) [a] [] pos2) X.env) :: starEach [] X.env := by rfl) : PEm X c .fr (.Call (.Name "list" p) [.Call (.Name "range" p2) [a] [] pos2] [] pos) (mRgL1 ta) := ⟨(pe_listRg hc hg hm (prg_1 hg2 hm2 ha.run na) nr).weak fun σ H Q h => by
  obtain ⟨G, A, W, env, P, R, h, k⟩ := h
  refine ⟨G, A, W, env, _, R, h, fun px vx H1 g1 rx ⟨n, e, hr, hp⟩ => ⟨n, by subst e; exact rx.o.int, hr, fun q nq => ?_⟩⟩
  have R1 := R.grow g1
  have rs : Rps X.K ⟨Zt G A W, W, H1⟩ (rngP 0 (n - 0).toNat) (rgV 0 n) := rg_rps
  rw [Int.sub_zero] at rs
  exact k _ _ _ (g1.trans (Grow.new R1.src nq)) ⟨q, rfl, g1.free nq, OwnAt.newLst nq rs⟩ hp⟩
theorem em_rgT1 (hc : X.calm = true) (hm : X.mg "tuple" = none) (hm2 : X.mg "range" = none) (ha : PEm X c .ow a ta) (hg : Gl X "tuple" := by rfl) (hg2 : Gl X "range" := by rfl) (na : starEach [a] X.env = (false, eval a X.env) :: starEach [] X.env := by rfl)
    (nr : starEach [.Call (.Name "range" p2) [a] [] pos2] X.env = (false, eval (.Call (.Name "range" p2) [a] [] pos2) X.env) :: starEach [] X.env := by rfl) : PEm X c .cl (.Call (.Name "tuple" p) [.Call (.Name "range" p2) [a] [] pos2] [] pos) (mRgT1 ta) := ⟨(pe_tupRg hc hg hm (prg_1 hg2 hm2 ha.run na) nr).weak fun σ H Q h => by
  obtain ⟨G, A, W, env, P, R, h, k⟩ := h
  refine ⟨G, A, W, env, _, R, h, fun px vx H1 g1 rx ⟨n, e, hr, hp⟩ => ⟨n, by subst e; exact rx.o.int, hr, fun q nq => ?_⟩⟩
  have R1 := R.grow g1
  have rs : Rps X.K ⟨Zt G A W, W, H1⟩ (rngP 0 (n - 0).toNat) (rgV 0 n) := rg_rps
  rw [Int.sub_zero] at rs
  exact k _ _ _ (g1.trans (Grow.new R1.src nq)) (VK1.ofRp (Rp.newTup (R1.nz nq) nq R1.src R.sz rs)) hp⟩
theorem em_rgL2 (hc : X.calm = true) (hm : X.mg "list" = none) (hm2 : X.mg "range" = none) (ha : PEm X c .ow a ta) (hb : PEm X c .ow b tb) (hg : Gl X "list" := by rfl) (hg2 : Gl X "range" := by rfl) (na : starEach [a, b] X.env = (false, eval a X.env) :: starEach [b] X.env := by rfl) (nb : starEach [b] X.env = (false, eval b X.env) :: starEach [] X.env := by rfl)
    (hp : (backTo pos2 (starEach [b] X.env)).any (·.1) = false := by rfl) (nr : starEach [.Call (.Name "range" p2) [a, b] [] pos2] X.env = (false, eval (.Call (.Name "range" p2) [a, b] [] pos2) X.env) :: starEach [] X.env := by rfl) : PEm X c .fr (.Call (.Name "list" p) [.Call (.Name "range" p2) [a, b] [] pos2] [] pos) (mRgL2 ta tb) := ⟨(pe_listRg hc hg hm (prg_2 hg2 hm2 ha.run hb.run na nb hp) nr).weak fun σ H Q h => by
  obtain ⟨G, A, W, env, P, R, h, k⟩ := h
  refine ⟨G, A, W, env, _, R, h, fun px vx H1 g1 rx h1 => ⟨G, A, W, env, _, R.grow g1, h1, fun py vy H2 g2 ry ⟨i, j, e, e2, hr, hp⟩ => ⟨i, j, by subst e; exact rx.o.int, by subst e2; exact ry.o.int, hr, fun q nq => ?_⟩⟩⟩
  have R2 := (R.grow g1).grow g2
  exact k _ _ _ ((g1.trans g2).trans (Grow.new R2.src nq)) ⟨q, rfl, (g1.trans g2).free nq, OwnAt.newLst nq rg_rps⟩ hp⟩
theorem em_rgT2 (hc : X.calm = true) (hm : X.mg "tuple" = none) (hm2 : X.mg "range" = none) (ha : PEm X c .ow a ta) (hb : PEm X c .ow b tb) (hg : Gl X "tuple" := by rfl) (hg2 : Gl X "range" := by rfl) (na : starEach [a, b] X.env = (false, eval a X.env) :: starEach [b] X.env := by rfl) (nb : starEach [b] X.env = (false, eval b X.env) :: starEach [] X.env := by rfl)
    (hp : (backTo pos2 (starEach [b] X.env)).any (·.1) = false := by rfl) (nr : starEach [.Call (.Name "range" p2) [a, b] [] pos2] X.env = (false, eval (.Call (.Name "range" p2) [a, b] [] pos2) X.env) :: starEach [] X.env := by rfl) : PEm X c .cl (.Call (.Name "tuple" p) [.Call (.Name "range" p2) [a, b] [] pos2] [] pos) (mRgT2 ta tb) := ⟨(pe_tupRg hc hg hm (prg_2 hg2 hm2 ha.run hb.run na nb hp) nr).weak fun σ H Q h => by
  obtain ⟨G, A, W, env, P, R, h, k⟩ := h
  refine ⟨G, A, W, env, _, R, h, fun px vx H1 g1 rx h1 => ⟨G, A, W, env, _, R.grow g1, h1, fun py vy H2 g2 ry ⟨i, j, e, e2, hr, hp⟩ => ⟨i, j, by subst e; exact rx.o.int, by subst e2; exact ry.o.int, hr, fun q nq => ?_⟩⟩⟩
  have R2 := (R.grow g1).grow g2
  exact k _ _ _ ((g1.trans g2).trans (Grow.new R2.src nq)) (VK1.ofRp (Rp.newTup (R2.nz nq) nq R2.src R.sz rg_rps)) hp⟩
end
theorem hu65_of {A : Around} {k : Nat} (hr : Room k A) : A.units + 65 < cLine := by have := hr.un; omega
/-! ### x in a line of data -/
def rInA (K : PySem.W.Frag) (neg : Bool) : R2 := fun x y H Q => ∃ d ds, Dp K H x d ∧ (Dp K H y (.list ds) ∨ Dp K H y (.tuple ds)) ∧ SeqAt.shaped d = true ∧ SeqAt.shaped (.list ds) = true ∧ Q (.bl (xor neg (ds.any fun z => PyData.eqv z d))) H
theorem op_inA {X : Cx} (hu : X.A.units + 65 < cLine) : OpR X (compareOp .In) (rInA X.K false) := by
  intro pins s σ H x y v u Q I rx ry h
  obtain ⟨d, ds, hd, he, sd, se, q⟩ := h
  rw [Bool.false_xor] at q
  obtain ⟨as, r1⟩ := Dp.reads I d x v hd rx
  rcases he with he | he
  · obtain ⟨bs, r2⟩ := Dp.reads I (.list ds) y u he ry
    exact SeqAt.in_list_reads r2 r1 (SeqAt.canLay_of_shaped se) (SeqAt.canLay_of_shaped sd) (PyProof.Rows.room_in_shaped sd hu) ⟨.bl _, H, I, rfl, q⟩
  · obtain ⟨bs, r2⟩ := Dp.reads I (.tuple ds) y u he ry
    exact SeqAt.in_tuple_reads r2 r1 (SeqAt.canLay_of_shaped se) (SeqAt.canLay_of_shaped sd) (PyProof.Rows.room_in_shaped sd hu) ⟨.bl _, H, I, rfl, q⟩
theorem op_ninA {X : Cx} (hu : X.A.units + 65 < cLine) : OpR X (compareOp .NotIn) (rInA X.K true) := by
  intro pins s σ H x y v u Q I rx ry h
  obtain ⟨d, ds, hd, he, sd, se, q⟩ := h
  rw [Bool.true_xor] at q
  obtain ⟨as, r1⟩ := Dp.reads I d x v hd rx
  rcases he with he | he
  · obtain ⟨bs, r2⟩ := Dp.reads I (.list ds) y u he ry
    exact SeqAt.notIn_list_reads r2 r1 (SeqAt.canLay_of_shaped se) (SeqAt.canLay_of_shaped sd) (PyProof.Rows.room_in_shaped sd hu) ⟨.bl _, H, I, rfl, q⟩
  · obtain ⟨bs, r2⟩ := Dp.reads I (.tuple ds) y u he ry
    exact SeqAt.notIn_tuple_reads r2 r1 (SeqAt.canLay_of_shaped se) (SeqAt.canLay_of_shaped sd) (PyProof.Rows.room_in_shaped sd hu) ⟨.bl _, H, I, rfl, q⟩
def oInA (neg : Bool) : PO2 := fun x y P => ∃ ps d ds, seqP y = some ps ∧ toD x = some d ∧ toDs ps = some ds ∧ SeqAt.shaped d = true ∧ SeqAt.shaped (.list ds) = true ∧ P (.bl (xor neg (ds.any fun z => PyData.eqv z d)))
theorem lift_inA {K : PySem.W.Frag} {neg : Bool} : Lift2 K (rInA K neg) (oInA neg) .cl := by
  rintro Z W H px py vx vy P Q S rx ry ⟨ps, d, ds, hy, hd, hds, sd, se, hp⟩ k
  refine ⟨d, ds, toD_dpO rx hd, ?_, sd, se, S.fin k Rp.bl' hp⟩
  cases py with
  | lst qs =>
    cases hy
    obtain ⟨a, ws, rfl, e, r⟩ := ry.lst
    exact .inl (.lst (.inl (.inl e.2)) (toDs_dp r hds))
  | tup qs =>
    cases hy
    obtain ⟨a, ws, rfl, e, r⟩ := ry.tup
    exact .inr (.tup e.sq (toDs_dp r hds))
  | _ => cases hy
/-! ### what min and max find -/
theorem argBest_min' {k : Nat → Int} {bt : Nat → Nat → Bool} : ∀ {n : Nat}, (∀ i j, i ≤ n → j ≤ n → k i < k j → bt i j = true) → (∀ i j, i ≤ n → j ≤ n → k j < k i → bt i j = false) → ∀ j, j ≤ n → k (argBest bt n) ≤ k j
  | 0, _, _, j, h => by rw [Nat.le_zero.mp h]; exact Int.le_refl _
  | n + 1, h1, h2, j, h => by
    have ih := argBest_min' (n := n) (fun i j a b => h1 i j (by omega) (by omega)) (fun i j a b => h2 i j (by omega) (by omega))
    have hb := argBest_le bt n
    unfold argBest
    cases e : bt (n + 1) (argBest bt n) with
    | true =>
      rw [if_pos rfl]
      have hle : k (n + 1) ≤ k (argBest bt n) := Int.not_lt.mp fun z => by rw [h2 _ _ (by omega) (by omega) z] at e; cases e
      rcases Nat.lt_or_ge n j with z | z
      · have : j = n + 1 := by omega
        rw [this]; exact Int.le_refl _
      · exact Int.le_trans hle (ih j z)
    | false =>
      rw [if_neg Bool.false_ne_true]
      have hle : k (argBest bt n) ≤ k (n + 1) := Int.not_lt.mp fun z => by rw [h1 _ _ (by omega) (by omega) z] at e; cases e
      rcases Nat.lt_or_ge n j with z | z
      · have : j = n + 1 := by omega
        rw [this]; exact hle
      · exact ih j z
theorem dataLt_hd {a b : Int} {r s : List PyData} (h : a ≠ b) : PySem.W.dataLt (.tuple (.int a :: r)) (.tuple (.int b :: s)) = decide (a < b) := by
  rw [PySem.W.dataLt_tuple, PySem.W.dataLt_all_no (by rfl) (by show (a == b) = false; simpa using h), PySem.W.dataLt_int]
/-- the least by the first part, a whole number -/
theorem bestLt_key {α : Type} {xs : List α} {f : α → PyData} {k : α → Int} (h1 : ∀ x y, k x < k y → PySem.W.dataLt (f x) (f y) = true) (h2 : ∀ x y, k y < k x → PySem.W.dataLt (f x) (f y) = false) (hp : 0 < xs.length) :
    ∃ x, xs[bestLt (xs.map f)]? = some x ∧ x ∈ xs ∧ ∀ y ∈ xs, k x ≤ k y := by
  have hl := bestLt_lt (xs.map f) (by rw [List.length_map]; exact hp)
  rw [List.length_map] at hl
  refine ⟨xs[bestLt (xs.map f)], List.getElem?_eq_getElem hl, List.getElem_mem hl, fun y hy => ?_⟩
  obtain ⟨j, hj, rfl⟩ := List.mem_iff_getElem.mp hy
  have d : α := xs[0]
  have gd : ∀ i (hi : i < xs.length), (xs.map f).getD i .none = f xs[i] := fun i hi => by
    rw [List.getD_eq_getElem?_getD, List.getElem?_map, List.getElem?_eq_getElem hi]; rfl
  have kk : ∀ i (hi : i < xs.length), (xs[i]?.map k).getD 0 = k xs[i] := fun i hi => by rw [List.getElem?_eq_getElem hi]; rfl
  -- beyond the end nothing is asked: the order is made total there
  have main := argBest_min' (n := xs.length - 1) (k := fun i => (xs[i]?.map k).getD 0) (bt := fun i j => PySem.W.dataLt ((xs.map f).getD i .none) ((xs.map f).getD j .none))
    (fun i j hi hj z => by rw [gd i (by omega), gd j (by omega)]; rw [kk i (by omega), kk j (by omega)] at z; exact h1 _ _ z)
    (fun i j hi hj z => by rw [gd i (by omega), gd j (by omega)]; rw [kk i (by omega), kk j (by omega)] at z; exact h2 _ _ z) j (by omega)
  have e : bestLt (xs.map f) = argBest (fun i j => PySem.W.dataLt ((xs.map f).getD i .none) ((xs.map f).getD j .none)) (xs.length - 1) := by unfold bestLt; rw [List.length_map]
  rw [kk j hj, ← e, kk _ hl] at main
  exact main
theorem ite_f {c p q : Prop} {inst : Decidable c} (h : ¬ c) (hq : q) : @ite Prop c inst p q := by rw [if_neg h]; exact hq
theorem ite_t {c p q : Prop} {inst : Decidable c} (h : c) (hp : p) : @ite Prop c inst p q := by rw [if_pos h]; exact hp
end PM

set_option maxHeartbeats 1000000
/-! zip of any two walkers: what is walked may be a list here and a tuple there. -/
namespace L2
open PySem PySem.Spec PyProof.Rows RZ
/-- a walker: its iterator at i over the thing at l -/
structure Wkr (i l : Addr) (It : Nat → Heap → Prop) (Co : Array Value → Heap → Prop) : Prop where
  keepI : ∀ {h g : Heap} {k : Nat}, It k h → (∀ o, h.get? i = some o → g.get? i = some o) → It k g
  keepC : ∀ {h g : Heap} {xs : Array Value}, Co xs h → (∀ o, h.get? l = some o → g.get? l = some o) → Co xs g
  obj : ∀ {h : Heap} {k : Nat}, It k h → ∃ o, h.get? i = some o ∧ ∀ v, o.data ≠ .cell v
  item : ∀ {prog : Program} {w : World} {A : Around} {E : Value → Shared → Prop} {s : Shared} {k : Nat} {x : Value} {xs : Array Value} {Q : Value → Shared → Prop}, It k s.heap → Co xs s.heap → xs[k]? = some x →
    (∀ g, It (k + 1) g → Heap.SameBut i s.heap g → Q x { s with heap := g }) → wpAny (model prog w) A (Builtin.SmallTypes.nextOf (.ref i)) Q E s
  fin : ∀ {prog : Program} {w : World} {A : Around} {E : Value → Shared → Prop} {s : Shared} {k : Nat} {xs : Array Value} {Q : Value → Shared → Prop}, A.handled = none → It k s.heap → Co xs s.heap → xs[k]? = none →
    (∀ g e, Heap.ExtBut i s.heap g → (∃ o, g.get? e = some o ∧ o.cls = .type "StopIteration") → E (.ref e) { s with heap := g }) → wpAny (model prog w) A (Builtin.SmallTypes.nextOf (.ref i)) Q E s
theorem wkr_list {i l : Addr} : Wkr i l (fun k h => h.IsListIter i l k) (fun xs h => h.IsList l xs) where
  keepI := fun a f => a.at f
  keepC := fun ⟨o, ho, r⟩ g => ⟨o, g _ ho, r⟩
  obj := fun ⟨o, e, _, d⟩ => ⟨o, e, fun v q => by rw [d] at q; cases q⟩
  item := fun a b hx hq => wpAny_nextOf_list_item a b hx hq
  fin := fun hh a b hx hq => wpAny_nextOf_list_end hh a b hx hq
theorem wkr_tup {i l : Addr} : Wkr i l (fun k h => h.IsTupleIter i l k) (fun xs h => h.IsTuple l xs) where
  keepI := fun a f => a.at f
  keepC := fun ⟨o, ho, r⟩ g => ⟨o, g _ ho, r⟩
  obj := fun ⟨o, e, _, d⟩ => ⟨o, e, fun v q => by rw [d] at q; cases q⟩
  item := fun a b hx hq => nextOf_tuple_item a b hx hq
  fin := fun hh a b hx hq => nextOf_tuple_end hh a b hx hq
section
variable {prog : Program} {w : World} {A : Around} {E : Value → Shared → Prop} {s : Shared} {z TI TO i j l m : Addr} {I J : Nat → Heap → Prop} {C D : Array Value → Heap → Prop} {k n : Nat} {xs ys : Array Value} {a b : Value}
theorem zipW_item {x y : Value} {Q : Value → Shared → Prop} (P : ZipApart z TI TO i j l m) (U : Wkr i l I C) (V : Wkr j m J D) (fz : IsZip s.heap z TI TO .none) (fI : IsPair s.heap TI (.ref i) (.ref j)) (fO : IsPair s.heap TO a b)
    (st1 : I k s.heap) (st2 : J n s.heap) (co1 : C xs s.heap) (co2 : D ys s.heap) (ex : xs[k]? = some x) (ey : ys[n]? = some y)
    (K : ∀ g, IsZip g z TI TO (rawInt s.heap.objs.size) → IsPair g TO x y → I (k + 1) g → J (n + 1) g → IsPair g s.heap.objs.size x y → g.objs.size = s.heap.objs.size + 1 → (∀ c o, c ≠ z → c ≠ TO → c ≠ i → c ≠ j → s.heap.get? c = some o → g.get? c = some o) → Q (.ref s.heap.objs.size) { s with heap := g }) :
    wpAny (model prog w) A (Builtin.«zip.__next__» ⟨[.ref z], []⟩) (fun r t => ∃ v, r = .done (.ret v) ∧ Q v t) E s := by
  show wpAny _ A (field (.ref z) 2 >>= _) _ E s
  refine wpAny_bind (wpAny_field fz rfl (x := .bool false) rfl ?_)
  show wpAny _ A (field (.ref z) 3 >>= _) _ E s
  refine wpAny_bind (wpAny_field fz rfl (x := .ref TI) rfl (wpAny_bind (wpAny_seqItems fI rfl ?_)))
  show wpAny _ A (Builtin.SmallTypes.ownedTupleIsFree (.ref z) >>= _) _ E s
  unfold Builtin.SmallTypes.ownedTupleIsFree
  refine wpAny_bind (wpAny_bind (wpAny_field fz rfl (x := .none) rfl (wpAny_pure ?_)))
  simp only [if_true]
  refine wpAny_bind (wpAny_rule (wpAny_bind (wpAny_field fz rfl (x := .ref TO) rfl (wpAny_bind (wpAny_setField_rec fz (by simp) fun g1 gz1 b1 => ?_)))))
  replace gz1 : IsZip g1 z TI TO .ellipsis := gz1
  refine wpAny_bind ?_
  simp only [List.zipIdx_cons, List.zipIdx_nil, List.forIn_cons, List.forIn_nil]
  refine wpAny_bind (wpAny_bind (wpAny_onRaise ?_))
  show wpAny _ A (Builtin.SmallTypes.nextOf (.ref i) >>= _) _ _ _
  have k1 : ∀ c o, c ≠ z → s.heap.get? c = some o → g1.get? c = some o := fun c o h e => b1.extBut _ _ h e
  refine wpAny_bind (U.item (U.keepI st1 fun o => k1 _ o P.i1z) (U.keepC co1 fun o => k1 _ o P.l1z) ex fun g2 st1' b2 => wpAny_pure ?_)
  have k2 : ∀ c o, c ≠ i → g1.get? c = some o → g2.get? c = some o := fun c o h e => b2.extBut _ _ h e
  have fO2 : IsPair g2 TO a b := k2 _ _ P.TOi1 (k1 _ _ P.TOz fO)
  refine wpAny_bind (wpAny_seqItems fO2 rfl (wpAny_bind (wpAny_updateSeq_pair fO2 fun g3 fO3 b3 => ?_)))
  replace fO3 : IsPair g3 TO x b := fO3
  have k3 : ∀ c o, c ≠ TO → g2.get? c = some o → g3.get? c = some o := fun c o h e => b3.extBut _ _ h e
  refine wpAny_bind (wpAny_letGo (wpAny_pure (wpAny_bind (wpAny_bind (wpAny_onRaise ?_)))))
  show wpAny _ A (Builtin.SmallTypes.nextOf (.ref j) >>= _) _ _ _
  refine wpAny_bind (V.item (V.keepI st2 fun o e => k3 _ o P.TOi2.symm (k2 _ o P.i12.symm (k1 _ o P.i2z e))) (V.keepC co2 fun o e => k3 _ o P.l2TO (k2 _ o P.l2i1 (k1 _ o P.l2z e))) ey fun g4 st2' b4 => wpAny_pure ?_)
  have k4 : ∀ c o, c ≠ j → g3.get? c = some o → g4.get? c = some o := fun c o h e => b4.extBut _ _ h e
  have fO4 : IsPair g4 TO x b := k4 _ _ P.TOi2 fO3
  refine wpAny_bind (wpAny_seqItems fO4 rfl (wpAny_bind (wpAny_updateSeq_pair fO4 fun g5 fO5 b5 => ?_)))
  replace fO5 : IsPair g5 TO x y := fO5
  have k5 : ∀ c o, c ≠ TO → g4.get? c = some o → g5.get? c = some o := fun c o h e => b5.extBut _ _ h e
  refine wpAny_bind (wpAny_letGo (wpAny_pure (wpAny_pure (wpAny_bind (wpAny_seqItems fO5 rfl (wpAny_bind (wpAny_newTuple ?_)))))))
  have sz : g5.objs.size = s.heap.objs.size := by rw [b5.1, b4.1, b3.1, b2.1, b1.1]
  have gz5 : IsZip g5 z TI TO .ellipsis := k5 _ _ P.TOz.symm (k4 _ _ P.i2z.symm (k3 _ _ P.TOz.symm (k2 _ _ P.i1z.symm gz1)))
  have zl : z < g5.objs.size := Heap.lt_size gz5
  show wpAny _ A (Builtin.SmallTypes.ownedTupleHandOut (.ref z) (.ref g5.objs.size) >>= _) _ E _
  unfold Builtin.SmallTypes.ownedTupleHandOut
  refine wpAny_bind ?_
  have gz6 : IsZip (g5.push { cls := .type "tuple", data := .seq #[x, y] }) z TI TO .ellipsis := Heap.get?_push_of_some _ gz5
  refine wpAny_bind (wpAny_setField_rec gz6 (by simp) fun g7 gz7 b7 => ?_)
  replace gz7 : IsZip g7 z TI TO (rawInt g5.objs.size) := gz7
  refine wpAny_setField_rec gz7 (by simp) fun g8 gz8 b8 => ?_
  replace gz8 : IsZip g8 z TI TO (rawInt g5.objs.size) := gz8
  have k8 : ∀ c o, c ≠ z → g5.get? c = some o → g8.get? c = some o := fun c o h e => b8.extBut _ _ h (b7.extBut _ _ h (Heap.get?_push_of_some _ e))
  have nw : IsPair g8 g5.objs.size x y := b8.extBut _ _ (Nat.ne_of_gt zl) (b7.extBut _ _ (Nat.ne_of_gt zl) (Heap.get?_push_size _ rfl))
  have sz8 : g8.objs.size = g5.objs.size + 1 := by rw [b8.1, b7.1, Heap.size_push]
  rw [sz] at gz8 nw sz8
  refine wpAny_pure ⟨_, rfl, ?_⟩
  show Q (.ref g5.objs.size) { s with heap := g8 }
  rw [sz]
  refine K g8 gz8 (k8 _ _ P.TOz fO5) (U.keepI st1' fun o e => k8 _ o P.i1z (k5 _ o P.TOi1.symm (k4 _ o P.i12 (k3 _ o P.TOi1.symm e)))) (V.keepI st2' fun o e => k8 _ o P.i2z (k5 _ o P.TOi2.symm e)) nw sz8 fun c o n1 n2 n3 n4 e => ?_
  exact k8 _ o n1 (k5 _ o n2 (k4 _ o n4 (k3 _ o n2 (k2 _ o n3 (k1 _ o n1 e)))))
theorem zipW_fin {Q : Fin → Shared → Prop} (hh : A.handled = none) (P : ZipApart z TI TO i j l m) (U : Wkr i l I C) (V : Wkr j m J D) (fz : IsZip s.heap z TI TO .none) (fI : IsPair s.heap TI (.ref i) (.ref j)) (fO : IsPair s.heap TO a b)
    (st1 : I k s.heap) (st2 : J n s.heap) (co1 : C xs s.heap) (co2 : D ys s.heap) (en : xs[k]? = none ∨ ys[n]? = none)
    (K : ∀ g e, (∀ c o, c ≠ z → c ≠ TO → c ≠ i → c ≠ j → s.heap.get? c = some o → g.get? c = some o) → (∃ o, g.get? e = some o ∧ o.cls = .type "StopIteration") → E (.ref e) { s with heap := g }) :
    wpAny (model prog w) A (Builtin.«zip.__next__» ⟨[.ref z], []⟩) Q E s := by
  show wpAny _ A (field (.ref z) 2 >>= _) _ E s
  refine wpAny_bind (wpAny_field fz rfl (x := .bool false) rfl ?_)
  show wpAny _ A (field (.ref z) 3 >>= _) _ E s
  refine wpAny_bind (wpAny_field fz rfl (x := .ref TI) rfl (wpAny_bind (wpAny_seqItems fI rfl ?_)))
  show wpAny _ A (Builtin.SmallTypes.ownedTupleIsFree (.ref z) >>= _) _ E s
  unfold Builtin.SmallTypes.ownedTupleIsFree
  refine wpAny_bind (wpAny_bind (wpAny_field fz rfl (x := .none) rfl (wpAny_pure ?_)))
  simp only [if_true]
  refine wpAny_bind (wpAny_rule (wpAny_bind (wpAny_field fz rfl (x := .ref TO) rfl (wpAny_bind (wpAny_setField_rec fz (by simp) fun g1 gz1 b1 => ?_)))))
  replace gz1 : IsZip g1 z TI TO .ellipsis := gz1
  refine wpAny_bind ?_
  simp only [List.zipIdx_cons, List.zipIdx_nil, List.forIn_cons, List.forIn_nil]
  refine wpAny_bind (wpAny_bind (wpAny_onRaise ?_))
  show wpAny _ A (Builtin.SmallTypes.nextOf (.ref i) >>= _) _ _ _
  have k1 : ∀ c o, c ≠ z → s.heap.get? c = some o → g1.get? c = some o := fun c o h e => b1.extBut _ _ h e
  cases ex : xs[k]? with
  | none =>
    refine wpAny_bind (U.fin hh (U.keepI st1 fun o => k1 _ o P.i1z) (U.keepC co1 fun o => k1 _ o P.l1z) ex fun g2 e b2 he => ?_)
    obtain ⟨oe, e1, e2⟩ := he
    have gz2 : IsZip g2 z TI TO .ellipsis := b2 _ _ P.i1z.symm gz1
    have ne : e ≠ z := fun q => by subst q; rw [gz2] at e1; cases e1; simp at e2
    exact wpAny_setField_rec gz2 (by simp) fun g3 _ b3 => K g3 e (fun c o n1 _ n3 _ h => b3.extBut _ _ n1 (b2 _ _ n3 (k1 _ o n1 h))) ⟨oe, b3.extBut _ _ ne e1, e2⟩
  | some x =>
    have ey : ys[n]? = none := en.elim (fun q => by rw [ex] at q; cases q) id
    refine wpAny_bind (U.item (U.keepI st1 fun o => k1 _ o P.i1z) (U.keepC co1 fun o => k1 _ o P.l1z) ex fun g2 st1' b2 => wpAny_pure ?_)
    have k2 : ∀ c o, c ≠ i → g1.get? c = some o → g2.get? c = some o := fun c o h e => b2.extBut _ _ h e
    have fO2 : IsPair g2 TO a b := k2 _ _ P.TOi1 (k1 _ _ P.TOz fO)
    refine wpAny_bind (wpAny_seqItems fO2 rfl (wpAny_bind (wpAny_updateSeq_pair fO2 fun g3 fO3 b3 => ?_)))
    have k3 : ∀ c o, c ≠ TO → g2.get? c = some o → g3.get? c = some o := fun c o h e => b3.extBut _ _ h e
    refine wpAny_bind (wpAny_letGo (wpAny_pure (wpAny_bind (wpAny_bind (wpAny_onRaise ?_)))))
    show wpAny _ A (Builtin.SmallTypes.nextOf (.ref j) >>= _) _ _ _
    refine wpAny_bind (V.fin hh (V.keepI st2 fun o e => k3 _ o P.TOi2.symm (k2 _ o P.i12.symm (k1 _ o P.i2z e))) (V.keepC co2 fun o e => k3 _ o P.l2TO (k2 _ o P.l2i1 (k1 _ o P.l2z e))) ey fun g4 e b4 he => ?_)
    obtain ⟨oe, e1, e2⟩ := he
    have gz4 : IsZip g4 z TI TO .ellipsis := b4 _ _ P.i2z.symm (k3 _ _ P.TOz.symm (k2 _ _ P.i1z.symm gz1))
    have ne : e ≠ z := fun q => by subst q; rw [gz4] at e1; cases e1; simp at e2
    exact wpAny_setField_rec gz4 (by simp) fun g5 _ b5 => K g5 e (fun c o n1 n2 n3 n4 h => b5.extBut _ _ n1 (b4 _ _ n4 (k3 _ o n2 (k2 _ o n3 (k1 _ o n1 h))))) ⟨oe, b5.extBut _ _ ne e1, e2⟩
end
/-! ### a tuple and a list -/
def zM1 (h : Heap) (l : Addr) : Heap := h.push { cls := .type "tuple_iterator", data := .fields #[.ref l, .int 0 0] }
def zM2 (h : Heap) (l m : Addr) : Heap := (zM1 h l).push { cls := .type "list_iterator", data := .fields #[.ref m, .int 0 0] }
def zM3 (h : Heap) (l m : Addr) : Heap := (zM2 h l m).push { cls := .type "tuple", data := .seq #[.ref h.objs.size, .ref (zM1 h l).objs.size] }
def zM4 (h : Heap) (l m : Addr) : Heap := (zM3 h l m).push { cls := .type "tuple", data := .seq #[.none, .none] }
def zM5 (h : Heap) (l m : Addr) : Heap := (zM4 h l m).push { cls := .type "zip", data := .fields #[.none, .bool false, .bool false, .ref (zM2 h l m).objs.size, .ref (zM3 h l m).objs.size] }
theorem meets_zM (l m : Addr) (xs ys : Array Value) :
    Meets (Builtin.«zip.__new__» ⟨[.type "zip", .ref l, .ref m], []⟩) (fun _ R t => t.heap.IsTuple l xs ∧ t.heap.IsList m ys ∧ R (.ok (.ret (.ref (zM4 t.heap l m).objs.size))) { t with heap := zM5 t.heap l m }) :=
  .of_wp fun prog w A R t q => by
    obtain ⟨hp, g, d, tk, os⟩ := t
    obtain ⟨q1, q2, q⟩ := q
    have hsub := sub_zip
    have f1 : Heap.IsTuple (Shared.heap ⟨hp, g, d, tk, os⟩) l xs := q1
    have f2 : Heap.IsList (Shared.heap ⟨hp.push { cls := .type "tuple_iterator", data := .fields #[.ref l, .int 0 0] }, g, d, tk, os⟩) m ys := Heap.IsList.push q2 _
    wp_walk using wpAny_pyIter_tuple f1, wpAny_pyIter_list f2
    exact ⟨_, rfl, q⟩
section
variable {prog : Program} {w : World} {A : Around} {E : Value → Shared → Prop} {s : Shared}
theorem call_zM {l m : Addr} {xs ys : Array Value} {Q : Value → Shared → Prop} (q1 : s.heap.IsTuple l xs) (q2 : s.heap.IsList m ys)
    (K : ∀ g, IsZip g (s.heap.objs.size + 4) (s.heap.objs.size + 2) (s.heap.objs.size + 3) .none → IsPair g (s.heap.objs.size + 2) (.ref s.heap.objs.size) (.ref (s.heap.objs.size + 1)) → IsPair g (s.heap.objs.size + 3) .none .none →
      g.IsTupleIter s.heap.objs.size l 0 → g.IsListIter (s.heap.objs.size + 1) m 0 → g.objs.size = s.heap.objs.size + 5 → (∀ c o, s.heap.get? c = some o → g.get? c = some o) → Q (.ref (s.heap.objs.size + 4)) { s with heap := g }) :
    wpAny (model prog w) A (call (.type "zip") [.ref l, .ref m]) Q E s := by
  refine callType_new F.called_zip (by decide) (F.typeCall_zip_2 _ _) (F.newCall_zip_2 _ _) (fun o => F.args_object_init_3 o _ _) F.entry_zip_new (meets_zM l m xs ys) ⟨q1, q2, ?_⟩
  have n1 : (zM1 s.heap l).objs.size = s.heap.objs.size + 1 := Heap.size_push ..
  have n2 : (zM2 s.heap l m).objs.size = s.heap.objs.size + 2 := by unfold zM2; rw [Heap.size_push, n1]
  have n3 : (zM3 s.heap l m).objs.size = s.heap.objs.size + 3 := by unfold zM3; rw [Heap.size_push, n2]
  have n4 : (zM4 s.heap l m).objs.size = s.heap.objs.size + 4 := by unfold zM4; rw [Heap.size_push, n3]
  have n5 : (zM5 s.heap l m).objs.size = s.heap.objs.size + 5 := by unfold zM5; rw [Heap.size_push, n4]
  have u5 : ∀ {c o}, (zM4 s.heap l m).get? c = some o → (zM5 s.heap l m).get? c = some o := fun e => Heap.get?_push_of_some _ e
  have u4 : ∀ {c o}, (zM3 s.heap l m).get? c = some o → (zM5 s.heap l m).get? c = some o := fun e => u5 (Heap.get?_push_of_some _ e)
  have u3 : ∀ {c o}, (zM2 s.heap l m).get? c = some o → (zM5 s.heap l m).get? c = some o := fun e => u4 (Heap.get?_push_of_some _ e)
  have u2 : ∀ {c o}, (zM1 s.heap l).get? c = some o → (zM5 s.heap l m).get? c = some o := fun e => u3 (Heap.get?_push_of_some _ e)
  have u1 : ∀ {c o}, s.heap.get? c = some o → (zM5 s.heap l m).get? c = some o := fun e => u2 (Heap.get?_push_of_some _ e)
  have g5 : (zM5 s.heap l m).get? (zM4 s.heap l m).objs.size = some _ := Heap.get?_push_size _ rfl
  have g4 : (zM5 s.heap l m).get? (zM3 s.heap l m).objs.size = some _ := u5 (Heap.get?_push_size _ rfl)
  have g3 : (zM5 s.heap l m).get? (zM2 s.heap l m).objs.size = some _ := u4 (Heap.get?_push_size _ rfl)
  have g2 : (zM5 s.heap l m).get? (zM1 s.heap l).objs.size = some _ := u3 (Heap.get?_push_size _ rfl)
  have g1 : (zM5 s.heap l m).get? s.heap.objs.size = some _ := u2 (Heap.get?_push_size _ rfl)
  rw [n2, n3, n4] at g5
  rw [n1, n2] at g3
  rw [n3] at g4
  rw [n1] at g2
  rw [n4]
  exact ⟨⟨_, g5, rfl⟩, K _ g5 g3 g4 ⟨_, g1, rfl, rfl⟩ ⟨_, g2, rfl, rfl⟩ n5 fun c o e => u1 e⟩
end
/-- a zip as it stands ahead of a turn -/
def zSt (z TI TO i j : Addr) (I J : Nat → Heap → Prop) (k : Nat) (h : Heap) : Prop := IsZip h z TI TO .none ∧ IsPair h TI (.ref i) (.ref j) ∧ (∃ x y, IsPair h TO x y) ∧ I k h ∧ J k h
/-- the line at a -/
abbrev LnOf (lst : Bool) (K : PySem.W.Frag) (H : Hp) (a : Addr) (xs : List V) : Prop := match lst with
  | true => SqL K H a xs
  | false => SqT K H a xs
def ItzW (p q : Bool) (K : PySem.W.Frag) (a b : Addr) : It :=
  ⟨fun k H => ∃ (xs ys : List V) (x y : V), LnOf p K H a xs ∧ LnOf q K H b ys ∧ xs[k]? = some x ∧ ys[k]? = some y,
    fun k H v H' => ∃ T x y, v = .ref T ∧ H T = none ∧ H' = upd H T (.tup [x, y]) ∧ (∀ xs, LnOf p K H a xs → xs[k]? = some x) ∧ ∀ ys, LnOf q K H b ys → ys[k]? = some y,
    fun k H => ∃ xs ys : List V, LnOf p K H a xs ∧ LnOf q K H b ys ∧ (xs.length ≤ k ∨ ys.length ≤ k)⟩
theorem turn_zipW {P : Program} {w : World} {K : PySem.W.Frag} {elts : List Expr} {kk : Nat} {tpos : Pos} {p q : Bool} {a b z TI TO i j : Addr} {I J : Nat → Heap → Prop} {C D : Array Value → Heap → Prop} (ap : ZipApart z TI TO i j a b) (U : Wkr i a I C) (V : Wkr j b J D)
    (hC : ∀ (X : Cx) (pins : List (Addr × Obj)) (σ : St) (H : Hp) (s : Shared), Inv X pins σ H s → ∀ xs, LnOf p X.K H a xs → ∃ its : List Value, Vals xs its ∧ C its.toArray s.heap)
    (hD : ∀ (X : Cx) (pins : List (Addr × Obj)) (σ : St) (H : Hp) (s : Shared), Inv X pins σ H s → ∀ xs, LnOf q X.K H b xs → ∃ its : List Value, Vals xs its ∧ D its.toArray s.heap) :
    Turn P w K (.Tuple elts kk tpos) (ItzW p q K a b) [z, TI, TO, i, j] z (zSt z TI TO i j I J) where
  mem := List.mem_cons_self ..
  obj := fun k h ⟨fz, fI, ⟨x, y, fO⟩, s1, s2⟩ c hc => by
    rw [List.mem_cons, List.mem_cons, List.mem_cons, List.mem_cons, List.mem_singleton] at hc
    rcases hc with e | e | e | e | e
    · rw [e]; exact ⟨_, fz, fun v q => nomatch q⟩
    · rw [e]; exact ⟨_, fI, fun v q => nomatch q⟩
    · rw [e]; exact ⟨_, fO, fun v q => nomatch q⟩
    · rw [e]; exact U.obj s1
    · rw [e]; exact V.obj s2
  keep := fun k h g ⟨fz, fI, ⟨x, y, fO⟩, s1, s2⟩ f => ⟨f z (by simp) _ fz, f TI (by simp) _ fI, ⟨x, y, f TO (by simp) _ fO⟩, U.keepI s1 fun o => f i (by simp) o, V.keepI s2 fun o => f j (by simp) o⟩
  item := by
    intro X e1 e2 e3 hc k pins s σ H E Iv fp ⟨fz, fI, ⟨x0, y0, fO⟩, s1, s2⟩ ⟨xs, ys, x, y, lx, ly, gx, gy⟩
    subst e1 e2 e3
    obtain ⟨its, rv, co1⟩ := hC X pins σ H s Iv xs lx
    obtain ⟨its2, rv2, co2⟩ := hD X pins σ H s Iv ys ly
    obtain ⟨u, hu, ru⟩ := rv.get gx
    obtain ⟨u2, hu2, ru2⟩ := rv2.get gy
    have zl : z < s.heap.objs.size := Heap.lt_size fz
    have ty : s.TypeIs (.ref z) "zip" := ⟨_, fz, rfl⟩
    unfold pyNext
    refine wpAny_bind (wpAny_attempt (wpAny_callSpecial?_slot (name := Str.ofString "__next__") ty F.slot_zip_next (wpAny_call_entry F.slot_zip_next ty F.entry_zip_next
      (zipW_item ap U V fz fI fO s1 s2 co1 co2 (x := u) (y := u2) (by simpa using hu) (by simpa using hu2) fun g gz gO g1 g2 gT sz gk => wpAny_pure ?_) (F.args_zip_next_1 _))))
    refine ⟨_, rfl, wpAny_letOwnedTupleGo_zip (s := { s with heap := g }) gz fun f fz' sb => ?_⟩
    have gT2 : f.get? s.heap.objs.size = some { cls := .type "tuple", data := .seq #[u, u2] } := (sb.2 _ (Nat.ne_of_gt zl)).trans gT
    have nw : ObjOk X.prog X.w (upd H s.heap.objs.size (.tup [x, y])) f s.heap.objs.size (.tup [x, y]) := ⟨(by decide : 2 ≤ sizeLine), [u, u2], .cons ru (.cons ru2 .nil), ⟨_, gT2, rfl, _, rfl⟩⟩
    have stay : ∀ c o, c ∉ [z, TI, TO, i, j] → s.heap.get? c = some o → f.get? c = some o := fun c o hb e => by
      have n1 : c ≠ z := fun r => hb (by rw [r]; simp)
      exact (sb.2 c n1).trans (gk c o n1 (fun r => hb (by rw [r]; simp)) (fun r => hb (by rw [r]; simp)) (fun r => hb (by rw [r]; simp)) e)
    have I1 : Inv X pins σ (upd H s.heap.objs.size (.tup [x, y])) { s with heap := f } := Iv.turnedNew (t' := s.toks) (ch := [z, TI, TO, i, j]) (fun c o hb e => stay c o hb e) fp (Nat.le_refl _) nw
    have fO' : IsPair f TO u u2 := (sb.2 _ ap.TOz).trans gO
    have fI' : IsPair f TI (.ref i) (.ref j) := (sb.2 _ ap.TIz).trans (gk _ _ ap.TIz ap.TITO ap.TIi1 ap.TIi2 fI)
    have lt : ∀ c ∈ [z, TI, TO, i, j], c < s.heap.objs.size := fun c hc2 => by
      rw [List.mem_cons, List.mem_cons, List.mem_cons, List.mem_cons, List.mem_singleton] at hc2
      rcases hc2 with e | e | e | e | e
      · rw [e]; exact zl
      · rw [e]; exact Heap.lt_size fI
      · rw [e]; exact Heap.lt_size fO
      · obtain ⟨o, ho, _⟩ := U.obj s1; rw [e]; exact Heap.lt_size ho
      · obtain ⟨o, ho, _⟩ := V.obj s2; rw [e]; exact Heap.lt_size ho
    refine ⟨.ref s.heap.objs.size, _, I1, rfl, ⟨_, x, y, rfl, Iv.hok.fresh (Nat.le_refl _), rfl, fun xs' h' => ?_, fun ys' h' => ?_⟩, ⟨fz', fI', ⟨_, _, fO'⟩, U.keepI g1 fun o e => (sb.2 _ ap.i1z).trans e, V.keepI g2 fun o e => (sb.2 _ ap.i2z).trans e⟩, fun c hc2 => ?_⟩
    · cases p with
      | true => rw [Iv.list_inj h' lx]; exact gx
      | false => rw [Iv.tuple_inj h' lx]; exact gx
    · cases q with
      | true => rw [Iv.list_inj h' ly]; exact gy
      | false => rw [Iv.tuple_inj h' ly]; exact gy
    · rw [upd_ne (Nat.ne_of_lt (lt c hc2))]
      exact (fp c hc2).1
  done := by
    intro X e1 e2 e3 hc k pins s σ H E Iv fp ⟨fz, fI, ⟨x0, y0, fO⟩, s1, s2⟩ ⟨xs, ys, lx, ly, en⟩
    subst e1 e2 e3
    obtain ⟨its, rv, co1⟩ := hC X pins σ H s Iv xs lx
    obtain ⟨its2, rv2, co2⟩ := hD X pins σ H s Iv ys ly
    have l1 := rv.length
    have l2 := rv2.length
    have en' : its.toArray[k]? = none ∨ its2.toArray[k]? = none := en.imp (fun q => by simp; omega) fun q => by simp; omega
    have ty : s.TypeIs (.ref z) "zip" := ⟨_, fz, rfl⟩
    unfold pyNext
    refine wpAny_bind (wpAny_attempt (wpAny_callSpecial?_slot (name := Str.ofString "__next__") ty F.slot_zip_next (wpAny_call_entry F.slot_zip_next ty F.entry_zip_next
      (zipW_fin (Iv.ok.hd hc) ap U V fz fI fO s1 s2 co1 co2 en' fun g e gk he => ?_) (F.args_zip_next_1 _))))
    obtain ⟨o, ho, hcl⟩ := he
    refine wpAny_bind (wpAny_isInstance (T := "StopIteration") (b := true) ⟨o, ho, hcl⟩ isSubtype_stop (wpAny_pure ⟨rfl, ?_⟩))
    exact Iv.turnedL (t' := s.toks) (ch := [z, TI, TO, i, j]) (fun c o hb e => gk c o (fun r => hb (by rw [r]; simp)) (fun r => hb (by rw [r]; simp)) (fun r => hb (by rw [r]; simp)) (fun r => hb (by rw [r]; simp)) e) fp
  self := fun A k s Q E st h => wpAny_pyIter_zip st.1 h
theorem co_list {X : Cx} {pins : List (Addr × Obj)} {σ : St} {H : Hp} {s : Shared} {a : Addr} (Iv : Inv X pins σ H s) (xs : List V) (h : LnOf true X.K H a xs) : ∃ its : List Value, Vals xs its ∧ s.heap.IsList a its.toArray := by
  obtain ⟨its, rv, p, _⟩ := Iv.list h
  exact ⟨its, rv, p.isList⟩
theorem co_tup {X : Cx} {pins : List (Addr × Obj)} {σ : St} {H : Hp} {s : Shared} {a : Addr} (Iv : Inv X pins σ H s) (xs : List V) (h : LnOf false X.K H a xs) : ∃ its : List Value, Vals xs its ∧ s.heap.IsTuple a its.toArray := by
  obtain ⟨its, rv, p, _⟩ := Iv.tuple h
  exact ⟨its, rv, p⟩
/-- zip(a tuple, a list) -/
def iZipM (K : PySem.W.Frag) (ta : TA) : TI := fun σ H R => ta σ H fun vs H1 => ∃ a b xs ys, vs = [.ref a, .ref b] ∧ SqT K H1 a xs ∧ SqL K H1 b ys ∧ R (ItzW false true K a b) H1
theorem pi_zipM {X : Cx} {e e2 : Expr} {ta : TA} {p pos tpos : Pos} {elts : List Expr} {kk : Nat} (hg : Gl X "zip") (hm : X.mg "zip" = none) (ha : PA X [e, e2] ta) (hs : starEach [e, e2] X.env = (false, eval e X.env) :: starEach [e2] X.env) (hpl : (backTo pos (starEach [e2] X.env)).any (·.1) = false) :
    PI X (.Tuple elts kk tpos) (.Call (.Name "zip" p) [e, e2] [] pos) (iZipM X.K ta) := ⟨fun pins s σ H R Iv h => by
  refine Call_ (ld_blt Iv hg hm PyProof.Rows.boot_zip (PyProof.Rows.callWith_type1 (thn (ha.run pos pins s σ H _ Iv h) fun us s1 ⟨vs, H1, I1, r1, q1⟩ => ?_) hs hpl))
  obtain ⟨a, b, xs, ys, ex, lx, ly, q⟩ := q1
  subst ex
  cases r1 with
  | cons r rr => cases rr with
    | cons r' rr =>
      cases rr
      cases r
      cases r'
      obtain ⟨its, rv, p1⟩ := co_tup I1 xs lx
      obtain ⟨its2, rv2, p2⟩ := co_list I1 ys ly
      have al : a < s1.heap.objs.size := by obtain ⟨o, ho, _⟩ := id p1; exact Heap.lt_size ho
      have bl : b < s1.heap.objs.size := by obtain ⟨o, ho, _⟩ := id p2; exact Heap.lt_size ho
      have fp : ∀ c, c ∈ [s1.heap.objs.size + 4, s1.heap.objs.size + 2, s1.heap.objs.size + 3, s1.heap.objs.size, s1.heap.objs.size + 1] → FpOk X pins H1 c := fun c hc => by
        have le : s1.heap.objs.size ≤ c := by
          rw [List.mem_cons, List.mem_cons, List.mem_cons, List.mem_cons, List.mem_singleton] at hc
          rcases hc with e | e | e | e | e
          · rw [e]; exact Nat.le_add_right _ _
          · rw [e]; exact Nat.le_add_right _ _
          · rw [e]; exact Nat.le_add_right _ _
          · rw [e]; exact Nat.le_refl _
          · rw [e]; exact Nat.le_add_right _ _
        exact I1.fpOk le (I1.hok.fresh le)
      refine call_zM p1 p2 fun g gz gI gO g1 g2 sz gk => wpAny_pyIter_zip gz ?_
      have I2 : Inv X pins σ H1 { s1 with heap := g } := I1.kept (t' := s1.toks) gk
      exact ⟨s1.heap.objs.size + 4, [s1.heap.objs.size + 4, s1.heap.objs.size + 2, s1.heap.objs.size + 3, s1.heap.objs.size, s1.heap.objs.size + 1], _, _, H1, rfl, I2,
        turn_zipW (PySem.W.ktu_apart s1.heap.objs.size a b al bl) wkr_tup wkr_list (fun _ _ _ _ _ Iw => co_tup Iw) (fun _ _ _ _ _ Iw => co_list Iw), ⟨gz, gI, ⟨_, _, gO⟩, g1, g2⟩, fp, q⟩⟩
theorem walk_zipW {K : PySem.W.Frag} {a b : Addr} {xs ys : List V} {n : Nat} (hn : n = min xs.length ys.length) : Walk (ItzW false true K a b) n (fun H => SqT K H a xs ∧ SqL K H b ys) (YPair (fun i => xs[i]?) (fun i => ys[i]?)) := by
  subst hn
  refine ⟨fun i _ hi q => ?_, fun _ q => ⟨xs, ys, q.1, q.2, by omega⟩, fun i H v H' _ q y => ?_⟩
  · have u1 : i < xs.length := by omega
    have u2 : i < ys.length := by omega
    exact ⟨xs, ys, xs[i], ys[i], q.1, q.2, List.getElem?_eq_getElem u1, List.getElem?_eq_getElem u2⟩
  · obtain ⟨T, x, z, f1, f2, f3, f4, f5⟩ := y
    exact ⟨T, x, z, f1, f2, f3, f4 xs q.1, f5 ys q.2⟩
end L2
namespace PM
open PySem L2
/-- zip of a tuple and a list -/
def mZipM (te te2 : TEm) : TIm := fun env P => te env fun x => te2 env fun y => ∃ ps qs, x = .tup ps ∧ y = .lst qs ∧ P (zipP ps qs)
theorem im_zipM {X : Cx} {c : List Ow} {e e2 : Expr} {te te2 : TEm} {p pos tpos : Pos} {elts : List Expr} {kk : Nat} (hm : X.mg "zip" = none) (he : PEm X c .cl e te) (he2 : PEm X c .cl e2 te2) (hg : Gl X "zip" := by rfl) (hs0 : starEach [e, e2] X.env = (false, eval e X.env) :: starEach [e2] X.env := by rfl) (hs1 : starEach [e2] X.env = (false, eval e2 X.env) :: starEach [] X.env := by rfl)
    (hs2 : (backTo pos (starEach [e2] X.env)).any (·.1) = false := by rfl) : PIm X c none (.Tuple elts kk tpos) (.Call (.Name "zip" p) [e, e2] [] pos) (mZipM te te2) := ⟨⟨fun pins s σ H R I h => (pi_zipM hg hm (pa_cons he.run (pa_cons he2.run pa_nil hs1) hs0) hs0 hs2).run pins s σ H R I (by
  obtain ⟨G, A, W, env, P, R, h, k⟩ := h
  refine ⟨G, A, W, env, _, R, h, fun p v H1 g rv h1 => ⟨G, A, W, env, _, R.grow g, h1, fun q w H2 g2 rw2 h2 => ?_⟩⟩
  obtain ⟨ps, qs, rfl, rfl, h2⟩ := h2
  have rv' := Rp.ext (g2.ext R.sz) rv.c
  have rw' := rw2.c
  unfold Rp at rv' rw'
  obtain ⟨a, vs, rfl, f, r⟩ := rv'
  obtain ⟨b, ws, rfl, f', r'⟩ := rw'
  have hl : (zipP ps qs).length = min vs.length ws.length := by unfold zipP; rw [List.length_zipWith, r.len, r'.len]
  refine ⟨a, b, vs, ws, rfl, f.sq, f'.sq, k _ _ H2 [] (g.trans g2) rfl (itok_pair hl (walk_zipW rfl) fun Z2 W2 H3 x => ⟨⟨(f.ext x).sq, (f'.ext x).sq⟩, fun i q u w hq u1 u2 => ?_⟩) h2⟩
  obtain ⟨a0, b0, ga, gb, rfl⟩ := zipP_get hq
  obtain ⟨u', hu', ru'⟩ := r.get ga
  obtain ⟨w', hw', rw'⟩ := r'.get gb
  rw [u1] at hu'; cases hu'
  rw [u2] at hw'; cases hw'
  exact ⟨_, _, rfl, Rp.ext x ru', Rp.ext x rw'⟩)⟩⟩
end PM

set_option maxHeartbeats 2000000
/-! PM: sets of whole numbers: comprehensions, membership. -/
namespace PM
open PySem PySem.Spec PyProof.Rows L2
section
variable {X : Cx} {pins : List (Addr × Obj)} {σ : L2.St} {H : Hp} {s : Shared}
theorem setI_ok {P : Program} {w : World} {h : Heap} {a : Addr} {S : Int → Bool} {n : Nat} (R : h.SetOf (PySem.intKind P w) a S n) : ObjOk P w H h a (SetI a S n) := by
  have ⟨o, _, _, _, ho, _⟩ := R
  refine ⟨⟨P, w, R⟩, ⟨o, ho⟩, ?_⟩
  rintro h1 h2 ⟨P', w', p⟩ k
  obtain ⟨o', es, ep, t, ho', r⟩ := p
  exact ⟨P', w', o', es, ep, t, k o' ho', r⟩
theorem setI_get {a : Addr} {S : Int → Bool} {n : Nat} (I : Inv X pins σ H s) (ha : H a = some (SetI a S n)) : s.heap.SetOf (PySem.intKind X.prog X.w) a S n := by
  obtain ⟨P, w, r⟩ := (I.hok a _ ha).1
  exact r
theorem int_is {k : Int} {u : Value} {P : Program} {w : World} (r : RelV (.int k) u) : (PySem.intKind P w).is k u = true ∧ u.scannable = true := by
  obtain ⟨t, rfl⟩ := r
  exact ⟨by simp [PySem.intKind, Value.isInt], rfl⟩
def rSInI (neg : Bool) : V → V → Hp → VK → Prop := fun x y H Q => ∃ (k : Int) (a : Addr) (S : Int → Bool) (n : Nat), x = .int k ∧ y = .ref a ∧ H a = some (SetI a S n) ∧ Q (.bl (if neg then !S k else S k)) H
theorem or_sinI : OpR X (compareOp .In) (rSInI false) := by
  intro pins s σ H x y v u Q I rx ry h
  obtain ⟨k, a, S, n, rfl, rfl, ha, q⟩ := h
  cases ry
  exact wpAny_inSet_of (int_is rx).1 (int_is (P := X.prog) (w := X.w) rx).2 (setI_get I ha) ⟨.bl (S k), H, I.tok _, rfl, q⟩
theorem or_sninI : OpR X (compareOp .NotIn) (rSInI true) := by
  intro pins s σ H x y v u Q I rx ry h
  obtain ⟨k, a, S, n, rfl, rfl, ha, q⟩ := h
  cases ry
  exact wpAny_notInSet_of (int_is rx).1 (int_is (P := X.prog) (w := X.w) rx).2 (setI_get I ha) ⟨.bl (!S k), H, I.tok _, rfl, q⟩
/-- one more member -/
theorem setI_more {E : Value → Shared → Prop} {D : Addr} {S : Int → Bool} {n : Nat} {y : Int} {u : Value} {Q : Value → Shared → Prop} (I : Inv X pins σ H s) (hD : H D = some (SetI D S n)) (room : n + 1 < scanBound) (ru : RelV (.int y) u)
    (h : ∀ s', Inv X pins σ (upd H D (SetI D (fun j => S j || decide (j = y)) (if S y = true then n else n + 1))) s' → Q .none s') : wpAny (model X.prog X.w) X.A (call (.builtin "set.add") [.ref D, u]) Q E s := by
  refine call_set_add (int_is ru).1 (int_is (P := X.prog) (w := X.w) ru).2 (setI_get I hD) room fun h' sb new => ?_
  obtain ⟨o, es, ep, t, ho, r⟩ := new
  exact h _ (I.write (e := D) (t' := s.toks + 1) (by rw [hD]; trivial) (.inl rfl) (fun b u hb hu => (sb.2 b hb).trans hu) ⟨o, ho⟩ (setI_ok ⟨o, es, ep, t, ho, r⟩))
/-- {elt for tg in iter if ..} of whole numbers: the set grows at D -/
def tSk (wi : TI) (g : TG) (tt : TT) (te : TE) (vs : List Nat) : TE := fun σ H Q => wi σ H fun J H1 => ∀ D, H1 D = none → ∃ W : Nat → Nat → Hp → Prop, (∃ m, W 0 m (upd H1 D (SetI D (fun _ => false) 0))) ∧ ∀ i m H, W i m H →
  (J.stop i H ∧ Q (.ref D) H) ∨ (J.go i H ∧ ∃ Nx : Hp → Prop, (∀ H', Nx H' → ∃ m', m' < m ∧ W (i + 1) m' H') ∧ ∀ x H', J.yld i H x H' → g x (wipe σ vs) H' fun σ2 H2 => wipe σ2 vs = wipe σ vs ∧ tt σ2 H2 fun b H3 =>
    if b = true then te σ2 H3 fun y H4 => ∃ (k : Int) (S : Int → Bool) (n : Nat), y = .int k ∧ H4 D = some (SetI D S n) ∧ n + 1 < scanBound ∧ Nx (upd H4 D (SetI D (fun j => S j || decide (j = k)) (if S k = true then n else n + 1))) else Nx H3)
variable {elt tg iter : Expr} {ifs : List Expr} {scope : Scope} {own : List (Str × Nat)} {pos : Pos} {wi : TI} {g : TG} {tt : TT} {te : TE}
theorem sk_core {Q : VK} {pn : List (Addr × Obj)} {z0 : Shared} {σ0 : L2.St} {B0 : Hp} {pos' : Pos} {use : Option (Value → Sem Unit)} {Qf : Value → Shared → Prop} (calm : X.calm = true) (nd : X.N.Nodup) (J : Inv X pn σ0 B0 z0) (hi : PI X tg iter wi) (blk : BlkOk X.N X.env.scope scope own)
    (hg : ∀ (z : Shared) (B : Hp) (C : Addr) (l : List (Str × Addr)) (f : List Addr), PG (X.blk z B scope (compEnvC scope l C X.env) f) tg g) (ht : ∀ (z : Shared) (B : Hp) (C : Addr) (l : List (Str × Addr)) (f : List Addr), PTs (X.blk z B scope (compEnvC scope l C X.env) f) ifs tt)
    (he : ∀ (z : Shared) (B : Hp) (C : Addr) (l : List (Str × Addr)) (f : List Addr), PE (X.blk z B scope (compEnvC scope l C X.env) f) elt te) (hs : ∀ x, foldedSetIterable iter X.env x = pure x)
    (h : tSk wi g tt te (own.map (·.2)) σ0 B0 Q)
    (close : ∀ (D C : Addr) (z' : Shared) (names : Str → Option Value) (B' : Hp), Inv X pn σ0 B' z' → Q (.ref D) B' → z'.heap.Ns C names → FpOk X pn B' C → compPost (model X.prog X.w) X.A X.xe use Qf (.ref D) C (.ok .next) z') :
    wpAny (model X.prog X.w) X.A (comprehension (.SetComp elt [⟨tg, iter, ifs, 0⟩] scope pos) scope X.env pos' (newSet (.type "set")) false (eval iter X.env) use) Qf X.xe z0 := by
  have cells : ∀ y ∈ scope.names, y.2 = .free → ∃ c, X.env.cells.lookup y.1 = some c := fun y hy e => J.ok.has _ (blk.free y hy e)
  refine wpAny_comprehension_free (use := use) rfl hs (closure_ok cells) blk.kind (fun y hy e => by rw [blk.uniq y hy, e]) (thn (hi.run pn z0 σ0 B0 _ J h) fun iv z1 hx => thn hx fun it z2 ⟨ia, fp, tn, Jt, B2, ei, J2, T, u2, f2, q⟩ => ?_)
  subst ei
  refine PpSet.newSet_ok (newEnv_comp ?_)
  obtain ⟨D, hD⟩ : ∃ D, D = z2.heap.objs.size := ⟨_, rfl⟩
  rw [← hD]
  have free : B2 D = none := J2.hok.fresh (Nat.le_of_eq hD.symm)
  obtain ⟨W, ⟨m0, w0⟩, turn⟩ := q D free
  obtain ⟨so, hso⟩ : ∃ so : Obj, so = { cls := .type "set", dict := none, data := .set #[] 0 (.fresh 0 0 (!X.w.params.followText "set-order")) } := ⟨_, rfl⟩
  rw [← hso]
  obtain ⟨z3, hz3⟩ : ∃ z3 : Shared, z3 = { z2 with heap := z2.heap.push so } := ⟨_, rfl⟩
  have e3 : z3.heap = z2.heap.push so := by rw [hz3]
  obtain ⟨B3, hB3⟩ : ∃ B3, B3 = upd B2 D (SetI D (fun _ => false) 0) := ⟨_, rfl⟩
  have J3 : Inv X pn σ0 B3 z3 := by
    rw [hz3, hB3]
    refine J2.laid (t' := z2.toks) (fun b o e => Heap.get?_push_of_some _ e) (Nat.le_of_eq hD.symm) (setI_ok ?_)
    rw [hD, hso]
    exact ⟨_, #[], 0, _, Heap.get?_push_size _ rfl, ⟨rfl, rfl, rfl⟩, rfl, (fun e he => by simp at he), (fun k => by simp), (by decide), (by rfl), rfl⟩
  have lt : ∀ b ∈ fp, b < z2.heap.objs.size := fun b hb => by
    obtain ⟨o, e, _⟩ := T.obj _ _ u2 b hb
    exact Heap.lt_size e
  have f3 : ∀ b ∈ fp, FpOk X pn B3 b ∧ b < z3.heap.objs.size := fun b hb => by
    have l := lt b hb
    have ne : b ≠ D := by rw [hD]; exact Nat.ne_of_lt l
    exact ⟨⟨by rw [hB3, upd_ne ne]; exact (f2 b hb).1, (f2 b hb).2⟩, by rw [e3, Heap.size_push]; exact Nat.lt_succ_of_lt l⟩
  have u3 : tn 0 z3.heap := T.keep _ _ _ u2 fun b _ o e => by rw [e3]; exact Heap.get?_push_of_some _ e
  have J4 := block_start J3 blk nd f3
  obtain ⟨L, hL⟩ : ∃ L, L = cellsFrom (z3.heap.objs.size + 1) scope.names (cloFrom X.env.cells scope.names []) := ⟨_, rfl⟩
  rw [← hL] at J4
  have pg := hg z3 B3 z3.heap.objs.size L fp
  have pt := ht z3 B3 z3.heap.objs.size L fp
  have pe := he z3 B3 z3.heap.objs.size L fp
  have nofp : ∀ b ∈ fp, B3 b = none := fun b hb => (f3 b hb).1.1
  rw [← hz3]
  show codeAny _ _ (.compStart (.SetComp elt [⟨tg, iter, ifs, 0⟩] scope pos) 0 (.ref ia) (.ref D) (compEnvC scope (cellsFrom (z3.heap.objs.size + 1) scope.names (cloFrom X.env.cells scope.names [])) z3.heap.objs.size X.env)) (compPost (model X.prog X.w) X.A X.xe use Qf (.ref D) z3.heap.objs.size) { z3 with heap := pushCells (z3.heap.push { cls := .type "dict", data := .dict #[] }) scope.names }
  rw [← hL]
  obtain ⟨ce, hce⟩ : ∃ ce, ce = compEnvC scope L z3.heap.objs.size X.env := ⟨_, rfl⟩
  rw [← hce] at J4 pg pt pe ⊢
  have cL : ce.locals = z3.heap.objs.size := by rw [hce]; rfl
  obtain ⟨z4, hz4⟩ : ∃ z4 : Shared, z4 = { z3 with heap := pushCells (z3.heap.push { cls := .type "dict", data := .dict #[] }) scope.names } := ⟨_, rfl⟩
  rw [← hz4] at J4 ⊢
  have u4 : tn 0 z4.heap := T.keep _ _ _ u3 fun b _ o e => by rw [hz4]; exact pushCells_keeps _ _ _ _ (Heap.get?_push_of_some _ e)
  obtain ⟨Y, hY⟩ : ∃ Y : Cx, Y = X.blk z3 B3 scope ce fp := ⟨_, rfl⟩
  rw [← hY] at J4 pg pt pe
  have steady : ∀ {σ' : L2.St} {B' : Hp} {z' : Shared}, Inv Y [] σ' B' z' → (∀ b ∈ fp, B' b = none) → ∀ b ∈ fp, FpOk Y [] B' b := fun {σ' B' z'} I' hn b hb => by
    subst hY
    exact ⟨hn b hb, (I'.ok.exf b hb).1, I'.ok.exfs b hb, .inl hb, fun x c e => (I'.ok.exf b hb).2 x c e, fun p hp => absurd (show p ∈ ([] : List (Addr × Obj)) ++ [] from hp) (by simp)⟩
  have loop : codeAny (model X.prog X.w) X.A (.compLoop (.SetComp elt [⟨tg, iter, ifs, 0⟩] scope pos) 0 (.ref ia) (.ref D) ce) (compPost (model X.prog X.w) X.A X.xe use Qf (.ref D) z3.heap.objs.size) z4 := by
    refine PpSet.compLoopS_any (fun n z' => ∃ i B', Inv Y [] (wipe σ0 (own.map (·.2))) B' z' ∧ tn i z'.heap ∧ (∀ b ∈ fp, B' b = none) ∧ W i n B') ?_ m0 ⟨0, B3, J4, u4, nofp, by rw [hB3]; exact w0⟩
    rintro n z5 ⟨i, B5, J5, u5, n5, w5⟩
    rcases turn i n B5 w5 with ⟨stop, qq⟩ | ⟨go, Nx, hNx, step⟩
    · have td := T.done Y (by rw [hY]) (by rw [hY]) (by rw [hY]) (by rw [hY]; exact calm) i [] z5 _ B5 (fun _ _ => False) J5 (steady J5 n5) u5 stop
      subst hY
      refine thnF td fun r z6 ⟨er, J6⟩ => ?_
      subst er
      have J7 : Inv X pn σ0 B5 z6 := J3.call' (ch := fp) J6.os J6.base J6.hok J6.bare fun b hb => ⟨(f3 b hb).1.2.2.2.1, (f3 b hb).1.2.1, (f3 b hb).1.2.2.2.2.1, (f3 b hb).1.2.2.2.2.2⟩
      have gone : B5 z3.heap.objs.size = none := by
        have z : B5 ce.locals = none := J6.free
        rwa [cL] at z
      obtain ⟨names, hn, _⟩ := J6.loc
      have hn : z6.heap.Ns ce.locals names := hn
      rw [cL] at hn
      exact close D _ z6 names B5 J7 qq hn (J3.fpOk (Nat.le_refl _) gone)
    · have ti := T.item Y (by rw [hY]) (by rw [hY]) (by rw [hY]) (by rw [hY]; exact calm) i [] z5 _ B5 (fun _ _ => False) J5 (steady J5 n5) u5 go
      subst hY
      refine thnF ti fun r z6 ⟨u, er, h6⟩ => ?_
      subst er
      refine thnF h6 fun _ z7 ⟨x, B7, J7, r7, y7, u7, n7⟩ => ?_
      have J7' := J7.pinned (steady J7 n7) (T.obj _ _ u7)
      refine thnF (pg.run _ z7 _ B7 x u _ J7' r7 (step x B7 y7)) fun _ z8 ⟨σ8, B8, J8, hw8, q8⟩ => ?_
      refine thnF (pt.run _ z8 σ8 B8 _ J8 q8) fun b z9 ⟨B9, J9, q9⟩ => ?_
      have onward : ∀ {z' : Shared} {B' : Hp}, Inv (X.blk z3 B3 scope ce fp) ([] ++ pinsAt fp z7.heap) σ8 B' z' → Nx B' → ∃ m, m < n ∧ ∃ i B', Inv (X.blk z3 B3 scope ce fp) [] (wipe σ0 (own.map (·.2))) B' z' ∧ tn i z'.heap ∧ (∀ b ∈ fp, B' b = none) ∧ W i m B' := fun {z' B'} J' nx => by
        obtain ⟨m', lm, w'⟩ := hNx B' nx
        have held : ∀ b ∈ fp, ∀ o, z7.heap.get? b = some o → z'.heap.get? b = some o ∧ B' b = none := fun b hb o e =>
          have z := J'.pin (b, o) (List.mem_append_right _ (List.mem_append_right _ (mem_pinsAt hb e)))
          ⟨z.1, z.2.1⟩
        have lw : (wipe σ0 (own.map (·.2))).length = σ8.length := by rw [← hw8, wipe_length]
        refine ⟨m', lm, i + 1, B', (J'.unpinned (pins := [])).weak lw (fun j v e => ?_), T.keep _ _ _ u7 fun b hb o e => (held b hb o e).1, fun b hb => ?_, w'⟩
        · rw [← hw8] at e
          exact (wipe_some e).1
        · obtain ⟨o, e, _⟩ := T.obj _ _ u7 b hb
          exact (held b hb o e).2
      cases b with
      | false => rw [if_neg Bool.false_ne_true] at q9 ⊢; exact onward J9 q9
      | true =>
        rw [if_pos rfl] at q9 ⊢
        refine thnF (pe.run _ z9 σ8 B9 _ J9 q9) fun v z10 ⟨yv, B10, J10, rv, k, S, c, ey, hD10, room, nx⟩ => ?_
        subst ey
        exact setI_more (X := X.blk z3 B3 scope ce fp) J10 hD10 room rv fun z11 J11 => onward J11 nx
  exact PpSet.codeAny_compStart_set loop (T.self X.A 0 _ _ _ u4 loop)
/-- as a value -/
theorem pe_sk (calm : X.calm = true) (nd : X.N.Nodup) (hi : PI X tg iter wi) (blk : BlkOk X.N X.env.scope scope own)
    (hg : ∀ (z : Shared) (B : Hp) (C : Addr) (l : List (Str × Addr)) (f : List Addr), PG (X.blk z B scope (compEnvC scope l C X.env) f) tg g) (ht : ∀ (z : Shared) (B : Hp) (C : Addr) (l : List (Str × Addr)) (f : List Addr), PTs (X.blk z B scope (compEnvC scope l C X.env) f) ifs tt)
    (he : ∀ (z : Shared) (B : Hp) (C : Addr) (l : List (Str × Addr)) (f : List Addr), PE (X.blk z B scope (compEnvC scope l C X.env) f) elt te) (hs : ∀ x, foldedSetIterable iter X.env x = pure x := by intro _; rfl) :
    PE X (.SetComp elt [⟨tg, iter, ifs, 0⟩] scope pos) (tSk wi g tt te (own.map (·.2))) := by
  refine ⟨fun pn z0 σ0 B0 Q J h => ?_⟩
  rw [PpSet.eval_SetComp]
  refine sk_core calm nd J hi blk hg ht he hs h fun D C z' names B' J' q hn f => ⟨names, hn, fun h'' sb => ?_⟩
  obtain ⟨a0, a1, a2, a3, a4, a5⟩ := f
  exact ⟨.ref D, B', J'.turned (t' := z'.toks) (fun b o hb e => (sb.2 b hb).trans e) a0 a1 a3 a4 a5, rfl, q⟩
/-- x = {..} on one row -/
theorem ps_setSk {i : Nat} {y : Str} {py spos : Pos} (calm : X.calm = true) (nd : X.N.Nodup) (hy : X.N[i]? = some y) (hyl : X.env.scope.names.lookup y = some .local) (hsw : swapsWith (.SetComp elt [⟨tg, iter, ifs, 0⟩] scope pos) (some (.Name y py)) spos.line X.env = pure true) (hi : PI X tg iter wi) (blk : BlkOk X.N X.env.scope scope own)
    (hg : ∀ (z : Shared) (B : Hp) (C : Addr) (l : List (Str × Addr)) (f : List Addr), PG (X.blk z B scope (compEnvC scope l C X.env) f) tg g) (ht : ∀ (z : Shared) (B : Hp) (C : Addr) (l : List (Str × Addr)) (f : List Addr), PTs (X.blk z B scope (compEnvC scope l C X.env) f) ifs tt)
    (he : ∀ (z : Shared) (B : Hp) (C : Addr) (l : List (Str × Addr)) (f : List Addr), PE (X.blk z B scope (compEnvC scope l C X.env) f) elt te) (hs : ∀ x, foldedSetIterable iter X.env x = pure x := by intro _; rfl) :
    PS X (.Assign [.Name y py] (.SetComp elt [⟨tg, iter, ifs, 0⟩] scope pos) spos) (tAsg (tSk wi g tt te (own.map (·.2))) (gName i)) := by
  refine ⟨fun pn z0 σ0 B0 D J h => ?_⟩
  rw [exec_Assign_Name_used _ _ _ _ hsw]
  refine wpAny_bind (wpAny_standAt (wpAny_bind ?_))
  have h : tSk wi g tt te (own.map (·.2)) σ0 B0 (fun x B' => gName i x σ0 B' D.nx) := h
  show wpAny _ X.A (do let _ ← comprehension (.SetComp elt [⟨tg, iter, ifs, 0⟩] scope pos) scope X.env (firstIterPos [⟨tg, iter, ifs, 0⟩] pos) (newSet (.type "set")) false (eval iter X.env) (some (assign (.Name y py) X.env))) _ _ z0
  refine wpAny_bind (thn (sk_core (Qf := fun _ z' => SP X pn D .next z') calm nd J hi blk hg ht he hs h fun L C z' names B' J' q hn f => ?_) fun _ z' hq => wpAny_pure (wpAny_pure hq))
  obtain ⟨a0, a1, a2, a3, a4, a5⟩ := f
  show wpAny _ _ (assign (.Name y py) X.env (.ref L)) _ _ _
  refine wpAny_assign_Name (store_ok2 (v := V.ref L) J' nd hy (.inl hyl) rfl (fun z2 J2 ⟨a, sb, ha⟩ => ?_) (.inr hyl))
  have other : C ≠ a := by
    rcases ha with e | e
    · rw [e]; exact a1
    · exact fun e2 => a4 y a e e2.symm
  exact ⟨names, hn.sameBut sb other, fun h3 sb3 => ⟨_, B', J2.turned (t' := z2.toks) (fun b o hb e => (sb3.2 b hb).trans e) a0 a1 a3 a4 a5, q⟩⟩
theorem sw_set {elt : Expr} {gs : List Comprehension} {scope : Scope} {pos py : Pos} {y : Str} {l : Nat} {env : PySem.Env} (hk : env.scope.kind = .function) (hy : env.scope.names.lookup y = some .local) (hl : (py.line == pos.line) = true)
    (ha : (scope.names.any fun (n, k) => n == y && (k == .local || k == .cell)) = false) : swapsWith (.SetComp elt gs scope pos) (some (.Name y py)) l env = pure true := by
  have hb : env.blockKind = .function := by unfold Env.blockKind; rw [hk]; rfl
  have ky : env.kindOf y = some .local := hy
  unfold swapsWith
  simp only [Expr.pos, hb, ky, hl, ha]
  rfl
end
end PM

set_option maxHeartbeats 2000000
/-! PM: {e for x in xs if ..} of whole numbers; membership in it. -/
namespace PM
open PySem L2
theorem sk_it {J : It} {n : Nat} {F : Hp → Prop} {Y : Nat → Hp → V → Hp → Prop} (w : Walk J n F Y) {g : TG} {tt : TT} {te : TE} {vs : List Nat} {σ : St} {H1 : Hp} {D : Addr} {Qd : Hp → Prop} (I : Nat → Hp → Prop) (h0 : I 0 (upd H1 D (SetI D (fun _ => false) 0))) (hF : ∀ i H, i ≤ n → I i H → F H)
    (hs : ∀ i x H H', i < n → I i H → Y i H x H' → g x (wipe σ vs) H' fun σ2 H2 => wipe σ2 vs = wipe σ vs ∧ tt σ2 H2 fun b H3 =>
      if b = true then te σ2 H3 fun y H4 => ∃ (k : Int) (S : Int → Bool) (c : Nat), y = .int k ∧ H4 D = some (SetI D S c) ∧ c + 1 < scanBound ∧ I (i + 1) (upd H4 D (SetI D (fun j => S j || decide (j = k)) (if S k = true then c else c + 1))) else I (i + 1) H3) (hd : ∀ H, I n H → Qd H) :
    ∃ W : Nat → Nat → Hp → Prop, (∃ m, W 0 m (upd H1 D (SetI D (fun _ => false) 0))) ∧ ∀ i m H, W i m H →
      (J.stop i H ∧ Qd H) ∨ (J.go i H ∧ ∃ Nx : Hp → Prop, (∀ H', Nx H' → ∃ m', m' < m ∧ W (i + 1) m' H') ∧ ∀ x H', J.yld i H x H' → g x (wipe σ vs) H' fun σ2 H2 => wipe σ2 vs = wipe σ vs ∧ tt σ2 H2 fun b H3 =>
        if b = true then te σ2 H3 fun y H4 => ∃ (k : Int) (S : Int → Bool) (c : Nat), y = .int k ∧ H4 D = some (SetI D S c) ∧ c + 1 < scanBound ∧ Nx (upd H4 D (SetI D (fun j => S j || decide (j = k)) (if S k = true then c else c + 1))) else Nx H3) := by
  refine ⟨fun i m H => i + m = n ∧ I i H, ⟨n, Nat.zero_add n, h0⟩, fun i m H z => ?_⟩
  obtain ⟨e, p⟩ := z
  have f := hF i H (by omega) p
  cases m with
  | zero =>
    have e2 : i = n := by omega
    subst e2
    exact .inl ⟨w.stops H f, hd H p⟩
  | succ m =>
    have l : i < n := by omega
    exact .inr ⟨w.goes i H l f, I (i + 1), fun H' p' => ⟨m, Nat.lt_succ_self m, by omega, p'⟩, fun x H' y => hs i x H H' l p (w.yields i H x H' l f y)⟩
/-- the turns -/
def mScGo (g : TGm) (tt : TTm) (te : TEm) (env : Env) (P : PV → Prop) : List PV → List Int → Prop
  | [], acc => P (.iset acc)
  | x :: xs, acc => g x env fun env1 => tt env1 fun b => if b = true then te env1 fun y => ∃ k, y = .int k ∧ acc.length < 4000 ∧ mScGo g tt te env P xs (acc ++ [k]) else mScGo g tt te env P xs acc
def mSc (wi : TIm) (vs : List Nat) (g : TGm) (tt : TTm) (te : TEm) : TEm := fun env P => wi env fun items => mScGo g tt te (wipeE env vs) P items []
theorem mem_snoc {acc : List Int} {k : Int} : (fun j => decide (j ∈ acc) || decide (j = k)) = fun j => decide (j ∈ acc ++ [k]) := by
  funext j
  by_cases h1 : j ∈ acc <;> by_cases h2 : j = k <;> simp [h1, h2]
theorem tm_sk {K : PySem.W.Frag} {c : List Ow} {lk : Option Nat} {wi : TIm} {vs ws : List Nat} {g : TGm} {tt : TTm} {te : TEm} (hw : ∀ j ∈ ws, j ∈ vs) (σ : St) (H : Hp) (Q : VK) (h : tmE K c .cl (mSc wi vs g tt te) σ H Q) :
    tSk (tiM K c lk wi) (tgM K c ws g) (tmT K c tt) (tmE K c .cl te) vs σ H Q := by
  obtain ⟨G, A, W, env, P, R, h, k⟩ := h
  refine ⟨G, A, W, env, _, R, h, fun J items H1 pl g1 hpl ⟨Gd, Y, wk, hit⟩ h1 D nD => ?_⟩
  have R1 := R.grow g1
  have nW : ¬ inW W D := fun w => by obtain ⟨o, e⟩ := inW_some R1.src w; rw [nD] at e; cases e
  have plD : ∀ q ∈ pl, H1 q.1 = some q.2 ∧ ¬ inW W q.1 := fun q hq => by
    cases lk with
    | none => have e : pl = [] := hpl; rw [e] at hq; cases hq
    | some j =>
      obtain ⟨a, o, e, hA, ho⟩ := hpl
      rw [e, List.mem_singleton] at hq
      rw [hq]
      exact ⟨ho, (R1.Asep j a hA).2.1⟩
  have far : ∀ {b : Addr} {o : HO}, H1 b = some o → b ≠ D := fun {b o} e z => by rw [z, nD] at e; cases e
  have onto : ∀ {H2 : Hp}, Grow W H1 H2 → Ext ⟨Zt G A W, W, H1⟩ ⟨Zt (G.and D) A W, W, H2⟩ := fun {H2} g2 => ⟨fun b o hz e => ⟨fun z => (zt_and.mp z).elim hz (far e), g2.keep b o (fun w => hz (Zt.w w)) e⟩, fun _ h => h⟩
  refine sk_it (g := tgM K c ws g) (tt := tmT K c tt) (te := tmE K c .cl te) wk
    (fun i H2 => ∃ acc n, SR K (G.and D) c A W (wipeE env vs) (wipe σ vs) H2 ∧ Grow W H1 H2 ∧ H2 D = some (SetI D (fun j => decide (j ∈ acc)) n) ∧ n ≤ acc.length ∧ mScGo g tt te (wipeE env vs) P (items.drop i) acc)
    ⟨[], 0, (R1.wipe vs).and nD, Grow.new R1.src nD, by rw [upd_same]; rfl, Nat.le_refl _, h1⟩ (fun i H2 _ hP => ?_) (fun i x H2 H3 hi hP y => ?_) (fun H2 hP => ?_)
  · obtain ⟨acc, n, R2, g2, hD, hn, hq⟩ := hP
    exact (hit _ W H2 (onto g2) R2.dz fun q hq => g2.keep _ _ (plD q hq).2 (plD q hq).1).1
  · obtain ⟨acc, n, R2, g2, hD, hn, hq⟩ := hP
    rw [List.drop_eq_getElem_cons hi] at hq
    obtain ⟨ga, rp⟩ := (hit _ W H2 (onto g2) R2.dz fun q hq => g2.keep _ _ (plD q hq).2 (plD q hq).1).2 i x H3 items[i] (List.getElem?_eq_getElem hi) y
    have g23 := ga.grow R2.src
    refine ⟨G.and D, A, W, wipeE env vs, items[i], _, R2.grow g23, rp, hq, fun env1 σ1 R4 t4 h4 => ?_⟩
    refine ⟨(t4.wipe hw).trans wipe_wipe, G.and D, A, W, env1, _, R4, h4, fun b H4 g4 h5 => ?_⟩
    cases b with
    | true =>
      rw [if_pos rfl] at h5 ⊢
      refine ⟨G.and D, A, W, env1, _, R4.grow g4, h5, fun p v H5 g5 rv h6 => ?_⟩
      obtain ⟨m, rfl, hl, h6⟩ := h6
      have g25 : Grow W H2 H5 := (g23.trans g4).trans g5
      have rv : Rp K ⟨Zt (G.and D) A W, W, H5⟩ (.int m) v := rv
      unfold Rp at rv
      subst rv
      have g15 := g2.trans g25
      have R6 := (R2.grow g25).upZ (o := SetI D (fun j => decide (j ∈ acc) || decide (j = m)) (if decide (m ∈ acc) = true then n else n + 1)) (.inr rfl) (R1.h0 nD) nW
      refine ⟨m, _, n, rfl, g25.keep D _ nW hD, by show n + 1 < 4096; omega, acc ++ [m], (if decide (m ∈ acc) = true then n else n + 1), R6, ⟨fun b o hw e => by rw [upd_ne (far e)]; exact g15.keep b o hw e, R6.src⟩, ?_, ?_, h6⟩
      · rw [upd_same, mem_snoc]
      · rw [List.length_append, List.length_singleton]; split <;> omega
    | false =>
      rw [if_neg Bool.false_ne_true] at h5 ⊢
      have g24 : Grow W H2 H4 := g23.trans g4
      exact ⟨acc, n, R2.grow g24, g2.trans g24, g24.keep D _ nW hD, hn, h5⟩
  · obtain ⟨acc, n, R2, g2, hD, hn, hq⟩ := hP
    rw [List.drop_length] at hq
    refine k (.iset acc) (.ref D) H2 (g1.trans g2) ?_ hq
    show Rp K _ (.iset acc) (.ref D)
    unfold Rp
    exact ⟨D, n, rfl, R1.nz nD, hD⟩
section
variable {X : Cx} {c : List Ow} {lk : Option Nat} {elt tg iter : Expr} {ifs : List Expr} {scope : Scope} {own : List (Str × Nat)} {pos : Pos} {wi : TIm} {ws : List Nat} {g : TGm} {tt : TTm} {te : TEm}
theorem em_sk (hc : X.calm = true) (hN : X.N.Nodup) (hi : PIm X c lk tg iter wi) (ok : BlkOk X.N X.env.scope scope own)
    (hg : ∀ (s : Shared) (H : Hp) (C : Addr) (cl : List (Str × Addr)) (fp : List Addr), PGm (X.blk s H scope (compEnvC scope cl C X.env) fp) c ws tg g) (ht : ∀ (s : Shared) (H : Hp) (C : Addr) (cl : List (Str × Addr)) (fp : List Addr), PTsm (X.blk s H scope (compEnvC scope cl C X.env) fp) c ifs tt)
    (he : ∀ (s : Shared) (H : Hp) (C : Addr) (cl : List (Str × Addr)) (fp : List Addr), PEm (X.blk s H scope (compEnvC scope cl C X.env) fp) c .cl elt te) (hw : ∀ j ∈ ws, j ∈ own.map (·.2) := by decide) (hs : ∀ x, foldedSetIterable iter X.env x = pure x := by intro _; rfl) :
    PEm X c .cl (.SetComp elt [⟨tg, iter, ifs, 0⟩] scope pos) (mSc wi (own.map (·.2)) g tt te) :=
  ⟨(pe_sk hc hN hi.run ok (fun s H C cl fp => (hg s H C cl fp).run) (fun s H C cl fp => (ht s H C cl fp).run) (fun s H C cl fp => (he s H C cl fp).run) hs).weak fun σ H Q h => tm_sk hw σ H Q h⟩
theorem sm_setSk (i : Nat) {f : Fx} {y : Str} {py spos : Pos} (hc : X.calm = true) (hN : X.N.Nodup) (hi : PIm X c lk tg iter wi) (ok : BlkOk X.N X.env.scope scope own)
    (hg : ∀ (s : Shared) (H : Hp) (C : Addr) (cl : List (Str × Addr)) (fp : List Addr), PGm (X.blk s H scope (compEnvC scope cl C X.env) fp) c ws tg g) (ht : ∀ (s : Shared) (H : Hp) (C : Addr) (cl : List (Str × Addr)) (fp : List Addr), PTsm (X.blk s H scope (compEnvC scope cl C X.env) fp) c ifs tt)
    (he : ∀ (s : Shared) (H : Hp) (C : Addr) (cl : List (Str × Addr)) (fp : List Addr), PEm (X.blk s H scope (compEnvC scope cl C X.env) fp) c .cl elt te)
    (hsw : swapsWith (.SetComp elt [⟨tg, iter, ifs, 0⟩] scope pos) (some (.Name y py)) spos.line X.env = pure true) (hy : X.N[i]? = some y := by rfl) (hyl : X.env.scope.names.lookup y = some .local := by rfl) (hl : cO c i ≠ .lk := by decide) (hw : ∀ j ∈ ws, j ∈ own.map (·.2) := by decide) (hs : ∀ x, foldedSetIterable iter X.env x = pure x := by intro _; rfl) :
    PSm X f c (c.set i .sh) (.Assign [.Name y py] (.SetComp elt [⟨tg, iter, ifs, 0⟩] scope pos) spos) (sSet i (mSc wi (own.map (·.2)) g tt te)) :=
  ⟨(ps_setSk hc hN hy hyl hsw hi.run ok (fun s H C cl fp => (hg s H C cl fp).run) (fun s H C cl fp => (ht s H C cl fp).run) (fun s H C cl fp => (he s H C cl fp).run) hs).weak fun D σ H h => by
    obtain ⟨G, A, W, env, M, hgw, R, h, k⟩ := h
    refine tm_sk hw σ H _ ⟨G, A, W, env, _, R, h, fun p v H1 g r h1 => ?_⟩
    exact k.nx _ W _ _ H1 ((R.grow g).set_sh hl r.c) h1⟩
end
/-! ### membership -/
section
variable {K : PySem.W.Frag}
def oInS (neg : Bool) : PO2 := fun x y P => ∃ (k : Int) (ks : List Int), x = .int k ∧ y = .iset ks ∧ P (.bl (if neg then !decide (k ∈ ks) else decide (k ∈ ks)))
theorem lift_inS {neg : Bool} : Lift2 K (rSInI neg) (oInS neg) .cl := by
  rintro Z W H px py vx vy P Q S rx ry ⟨k, ks, rfl, rfl, hp⟩ kk
  have rx : Rp K ⟨Z, W, H⟩ (.int k) vx := rx
  have ry : Rp K ⟨Z, W, H⟩ (.iset ks) vy := ry
  unfold Rp at rx ry
  obtain ⟨a, n, rfl, _, ha⟩ := ry
  subst rx
  exact ⟨k, a, _, n, rfl, rfl, ha, S.fin kk Rp.bl' hp⟩
@[simp] theorem s_mSc {wi : TIm} {vs : List Nat} {g : TGm} {tt : TTm} {te : TEm} {env : Env} {P : PV → Prop} : mSc wi vs g tt te env P ↔ wi env fun items => mScGo g tt te (wipeE env vs) P items [] := .rfl
@[simp] theorem s_oInS {neg : Bool} {k : Int} {ks : List Int} {P : PV → Prop} : oInS neg (.int k) (.iset ks) P ↔ P (.bl (if neg then !decide (k ∈ ks) else decide (k ∈ ks))) := ⟨fun ⟨_, _, e1, e2, h⟩ => by cases e1; cases e2; exact h, fun h => ⟨k, ks, rfl, rfl, h⟩⟩
/-- the members, found -/
theorem sk_emb {α : Type} {emb : α → PV} {tst : α → Bool} {f : α → Int} {g : TGm} {tt : TTm} {te : TEm} {env : Env} {P : PV → Prop} : ∀ {xs : List α} {acc : List Int}, (∀ x ∈ xs, ∃ e1, (∀ k : Env → Prop, k e1 → g (emb x) env k) ∧ (∀ Q : Bool → Prop, Q (tst x) → tt e1 Q) ∧ (tst x = true → ∀ Q : PV → Prop, Q (.int (f x)) → te e1 Q)) →
    acc.length + xs.length ≤ 4000 → P (.iset (acc ++ (xs.filter tst).map f)) → mScGo g tt te env P (xs.map emb) acc
  | [], acc, _, _, hp => by
    rw [List.filter_nil, List.map_nil, List.append_nil] at hp
    exact hp
  | x :: xs, acc, h, hl, hp => by
    obtain ⟨e1, h1, h2, h3⟩ := h x (List.mem_cons_self ..)
    rw [List.length_cons] at hl
    rw [List.map_cons]
    unfold mScGo
    refine h1 _ (h2 _ ?_)
    cases ht : tst x with
    | true =>
      rw [if_pos rfl]
      refine h3 ht _ ⟨f x, rfl, by omega, sk_emb (fun y hy => h y (List.mem_cons_of_mem _ hy)) (by rw [List.length_append, List.length_singleton]; omega) ?_⟩
      rw [List.filter_cons, ht, if_pos rfl, List.map_cons] at hp
      rw [List.append_assoc]
      exact hp
    | false =>
      rw [if_neg Bool.false_ne_true]
      refine sk_emb (fun y hy => h y (List.mem_cons_of_mem _ hy)) (by omega) ?_
      rw [List.filter_cons, ht, if_neg Bool.false_ne_true] at hp
      exact hp
end
end PM

set_option maxHeartbeats 2000000
/-! PM: x, y = e, z where z is a list of one's own that is given up for y. -/
namespace PM
open PySem L2
section
variable {K : PySem.W.Frag} {G : Gh} {c : List Ow} {A : Nat → Option Addr} {W : Ws} {env : Env} {σ : St} {H : Hp}
theorem env_set_none {α : Type} {env : List (Option α)} {i j : Nat} {p : α} (e : (env.set i none)[j]? = some (some p)) : j ≠ i ∧ env[j]? = some (some p) := by
  rw [List.getElem?_set] at e
  by_cases h : i = j
  · rw [if_pos h] at e
    split at e <;> cases e
  · rw [if_neg h] at e
    exact ⟨fun z => h z.symm, e⟩
/-- the list of z goes over to j -/
theorem SR.move {z j : Nat} {a : Addr} {q : PV} (R : SR K G c A W env σ H) (hA : A z = some a) (hq : env[z]? = some (some q)) (hzj : z ≠ j) (hj : j < c.length) (hl : cO c j ≠ .lk) (hlz : cO c z ≠ .lk) :
    SR K G ((c.set z .sh).set j .ow) (putA (dropA A z) j a) W ((env.set z none).set j (some q)) (σ.set j (some (.ref a))) H := by
  have hjz : j ≠ z := Ne.symm hzj
  have get : ∀ {k b}, putA (dropA A z) j a k = some b → (k = j ∧ b = a) ∨ (k ≠ j ∧ k ≠ z ∧ A k = some b) := fun {k b} e => by
    by_cases h : k = j
    · subst h; rw [putA_eq] at e; cases e; exact .inl ⟨rfl, rfl⟩
    · rw [putA_ne h] at e
      obtain ⟨n, e⟩ := dropA_some e
      exact .inr ⟨h, n, e⟩
  have less : ∀ b, Zt G (putA (dropA A z) j a) W b → Zt G A W b := fun b h => by
    rcases h with h | h | ⟨k, h⟩
    · exact .inl h
    · exact .inr (.inl h)
    · rcases get h with ⟨_, rfl⟩ | ⟨_, _, e⟩
      · exact .inr (.inr ⟨z, hA⟩)
      · exact .inr (.inr ⟨k, e⟩)
  have x : Ext ⟨Zt G A W, W, H⟩ ⟨Zt G (putA (dropA A z) j a) W, W, H⟩ := ext_less less
  have cj : cO ((c.set z .sh).set j .ow) j = .ow := by rw [cO_set, if_pos ⟨rfl, by rw [List.length_set]; exact hj⟩]
  have cz : cO ((c.set z .sh).set j .ow) z = .sh := by rw [cO_ne hzj, cO_sh]
  have ck : ∀ k, k ≠ j → k ≠ z → cO ((c.set z .sh).set j .ow) k = cO c k := fun k h1 h2 => by rw [cO_ne h1, cO_ne h2]
  have le : (env.set z none).length = env.length := List.length_set
  refine ⟨by rw [List.length_set, List.length_set, List.length_set]; exact R.len, R.W0in, R.Wmin, R.Wnew, R.Wfix, R.src, R.keep, R.zbt, fun k b e => ?_, fun k l b e1 e2 => ?_, fun k p hc e => ?_, fun k p e => ?_, fun q hq => ?_, fun b o e => ?_⟩
  · rcases get e with ⟨rfl, rfl⟩ | ⟨h1, h2, e⟩
    · obtain ⟨g1, g2, g3, _, g5⟩ := R.Asep z b hA
      exact ⟨g1, g2, g3, by rw [cj]; decide, g5⟩
    · obtain ⟨g1, g2, g3, g4, g5⟩ := R.Asep k b e
      exact ⟨g1, g2, g3, by rw [ck k h1 h2]; exact g4, g5⟩
  · rcases get e1 with ⟨rfl, rfl⟩ | ⟨h1, h2, e3⟩
    · rcases get e2 with ⟨rfl, _⟩ | ⟨_, h4, e2⟩
      · rfl
      · exact absurd (R.Ainj l z b e2 hA) h4
    · rcases get e2 with ⟨rfl, rfl⟩ | ⟨_, _, e2⟩
      · exact absurd (R.Ainj k z b e3 hA) h2
      · exact R.Ainj k l b e3 e2
  · rcases env_set_get e with ⟨rfl, _, _⟩ | ⟨n, e⟩
    · exact ⟨a, putA_eq⟩
    · obtain ⟨n2, e⟩ := env_set_none e
      rw [ck k n n2] at hc
      obtain ⟨b, hb⟩ := R.Aset k p hc e
      exact ⟨b, by rw [putA_ne n, dropA_ne n2]; exact hb⟩
  · rcases env_set_get e with ⟨rfl, hi, rfl⟩ | ⟨n, e⟩
    · refine ⟨.ref a, by rw [List.getElem?_set_self (by rw [← R.len, ← le]; exact hi)], ?_⟩
      rw [putA_eq]
      obtain ⟨w, _, h2⟩ := R.slots z p hq
      rw [hA] at h2
      exact ⟨rfl, h2.2.ext x rfl⟩
    · obtain ⟨n2, e⟩ := env_set_none e
      obtain ⟨w, h1, h2⟩ := R.slots k p e
      refine ⟨w, by rw [List.getElem?_set_ne (Ne.symm n)]; exact h1, ?_⟩
      rw [putA_ne n, dropA_ne n2]
      cases hA : A k with
      | none => rw [hA] at h2; exact Rp.ext x h2
      | some b => rw [hA] at h2; exact ⟨h2.1, h2.2.ext x rfl⟩
  · obtain ⟨h1, h2, h3, h4⟩ := R.pins q hq
    have n : q.1 ≠ j := fun e => hl (e ▸ h4)
    have n2 : q.1 ≠ z := fun e => hlz (e ▸ h4)
    exact ⟨h1, h2, by rw [putA_ne n, dropA_ne n2]; exact h3, by rw [ck _ n n2]; exact h4⟩
  · obtain ⟨h1, h2⟩ := R.fz b o e
    exact ⟨h1, fun h => h2 (less b h)⟩
end
section
variable {X : Cx} {f : Fx} {c : List Ow} {e : Expr} {te : TEm}
def sMov (i j z : Nat) (te : TEm) : TSm := fun M env => te env fun p => ∃ q, env[z]? = some (some q) ∧ M.nx (((env.set i (some p)).set z none).set j (some q))
theorem sm_mov (i j z : Nat) {x y v : Str} {px py pz pt pos : Pos} {kt k2 : Nat} {pt2 : Pos} (hc : X.calm = true) (hN : X.N.Nodup) (he : PEm X c .cl e te) (hi : X.N[i]? = some x := by rfl) (hj : X.N[j]? = some y := by rfl) (hz : X.N[z]? = some v := by rfl) (hij : i ≠ j := by decide) (hiz : i ≠ z := by decide) (hzj : z ≠ j := by decide)
    (hx : X.env.scope.names.lookup x = some .local := by rfl) (hy : X.env.scope.names.lookup y = some .local := by rfl) (hv : Vis X.env.scope v := by first | exact Or.inl rfl | exact Or.inr (Or.inl rfl) | exact Or.inr (Or.inr rfl)) (hd : (v == ("__debug__" : Str)) = false := by decide) (hcd : (v == ("__classdict__" : Str)) = false := by decide)
    (li : cO c i ≠ .lk := by decide) (lj : cO c j ≠ .lk := by decide) (oz : cO c z = .ow := by decide) (hlj : j < c.length := by decide)
    (hs1 : starEach [e, .Name v pz] X.env = (false, eval e X.env) :: starEach [.Name v pz] X.env := by rfl) (hs2 : starEach [.Name v pz] X.env = (false, eval (.Name v pz) X.env) :: starEach [] X.env := by rfl)
    (hw : swappedStores [.Tuple [.Name x px, .Name y py] kt pt] (.Tuple [e, .Name v pz] k2 pt2) X.env = pure (some [x, y]) := by rfl)
    (hs : swapsWithSole [.Tuple [.Name x px, .Name y py] kt pt] (.Tuple [e, .Name v pz] k2 pt2) pos.line X.env = pure false := by rfl) :
    PSm X f c (((c.set i .sh).set z .sh).set j .ow) (.Assign [.Tuple [.Name x px, .Name y py] kt pt] (.Tuple [e, .Name v pz] k2 pt2) pos) (sMov i j z te) := ⟨(ps_par hc hN hi hj hij hx hy (pa_cons he.run (pa_cons (pe_var hz hv hd hcd) pa_nil hs2) hs1) hw hs).weak fun D σ H h => by
  obtain ⟨G, A, W, env, M, hg, R, h, k⟩ := h
  refine ⟨G, A, W, env, _, R, h, fun p u H1 g1 r h1 => ?_⟩
  obtain ⟨q, hq, h2⟩ := h1
  have R1 := R.grow g1
  obtain ⟨a, hA⟩ := R1.Aset z q (by rw [oz]; decide) hq
  obtain ⟨w, e1, e2⟩ := R1.slots z q hq
  rw [hA] at e2
  obtain ⟨rfl, _⟩ := e2
  have R2 := R1.set_sh (i := i) (p := p) (v := u) li r.c
  have hzi : z ≠ i := Ne.symm hiz
  have hji : j ≠ i := Ne.symm hij
  have R3 := R2.move (z := z) (j := j) (a := a) (q := q) (by rw [dropA_ne hzi]; exact hA) (by rw [List.getElem?_set_ne hiz]; exact hq) hzj (by rw [List.length_set]; exact hlj) (by rw [cO_ne hji]; exact lj) (by rw [cO_ne hzi, oz]; decide)
  exact ⟨.ref a, e1, u, .ref a, rfl, k.nx _ _ _ _ _ R3 h2⟩⟩
theorem sm_movG {tgs : List Expr} (i j z : Nat) {v : Str} {pz pt pos : Pos} {kt k2 : Nat} {pt2 : Pos} (hc : X.calm = true) (hg : PGs X tgs (gNs [i, j])) (he : PEm X c .cl e te) (hz : X.N[z]? = some v := by rfl) (hij : i ≠ j := by decide) (hiz : i ≠ z := by decide) (hzj : z ≠ j := by decide)
    (hv : Vis X.env.scope v := by first | exact Or.inl rfl | exact Or.inr (Or.inl rfl) | exact Or.inr (Or.inr rfl)) (hd : (v == ("__debug__" : Str)) = false := by decide) (hcd : (v == ("__classdict__" : Str)) = false := by decide)
    (li : cO c i ≠ .lk := by decide) (lj : cO c j ≠ .lk := by decide) (oz : cO c z = .ow := by decide) (hlj : j < c.length := by decide)
    (hs1 : starEach [e, .Name v pz] X.env = (false, eval e X.env) :: starEach [.Name v pz] X.env := by rfl) (hs2 : starEach [.Name v pz] X.env = (false, eval (.Name v pz) X.env) :: starEach [] X.env := by rfl)
    (hs : swapsWithSole [.Tuple tgs kt pt] (.Tuple [e, .Name v pz] k2 pt2) pos.line X.env = pure false := by rfl) (hw : swappedStores [.Tuple tgs kt pt] (.Tuple [e, .Name v pz] k2 pt2) X.env = pure none := by rfl)
    (h1 : (assignEach [.Tuple tgs kt pt] X.env).map (·.2) = [assign (.Tuple tgs kt pt) X.env] := by rfl) (hn : (assignEach tgs X.env).length = 2 := by rfl) (hst : (assignEach tgs X.env).findIdx? (·.1) = none := by rfl) :
    PSm X f c (((c.set i .sh).set z .sh).set j .ow) (.Assign [.Tuple tgs kt pt] (.Tuple [e, .Name v pz] k2 pt2) pos) (sMov i j z te) := ⟨(ps_asg (pe_tup (pa_cons he.run (pa_cons (pe_var hz hv hd hcd) pa_nil hs2) hs1)) (pg_tup hc hg hn hst) hs hw h1).weak fun D σ H h => by
  obtain ⟨G, A, W, env, M, hgw, R, h, k⟩ := h
  refine ⟨G, A, W, env, _, R, h, fun p u H1 g1 r h1 => ?_⟩
  obtain ⟨q, hq, h2⟩ := h1
  have R1 := R.grow g1
  obtain ⟨a, hA⟩ := R1.Aset z q (by rw [oz]; decide) hq
  obtain ⟨w, e1, e2⟩ := R1.slots z q hq
  rw [hA] at e2
  obtain ⟨rfl, _⟩ := e2
  have R2 := R1.set_sh (i := i) (p := p) (v := u) li r.c
  have hzi : z ≠ i := Ne.symm hiz
  have hji : j ≠ i := Ne.symm hij
  have R3 := R2.move (z := z) (j := j) (a := a) (q := q) (by rw [dropA_ne hzi]; exact hA) (by rw [List.getElem?_set_ne hiz]; exact hq) hzj (by rw [List.length_set]; exact hlj) (by rw [cO_ne hji]; exact lj) (by rw [cO_ne hzi, oz]; decide)
  exact ⟨.ref a, e1, by show (2 : Nat) ≤ sizeLine; decide, fun T nT => ⟨T, [u, .ref a], rfl, .inl (.inl upd_same), rfl, rfl, k.nx _ _ _ _ _ (R3.grow (Grow.new R3.src nT)) h2⟩⟩⟩
@[simp] theorem s_sMov {i j z : Nat} {M : Em} {env : Env} : sMov i j z te M env ↔ te env fun p => ∃ q, env[z]? = some (some q) ∧ M.nx (((env.set i (some p)).set z none).set j (some q)) := .rfl
end
/-! ### a comprehension within a comprehension -/
theorem lookup_relab {env : PySem.Env} : ∀ {names : List (Str × NameKind)} {x : Str}, (names.lookup x = some .cell ∨ names.lookup x = some .free) →
    (names.map fun (n, k) => if (k == NameKind.free && env.scope.kind == .function && env.kindOf n == some .cell) then (n, NameKind.cell) else (n, k)).lookup x = some .cell ∨ (names.map fun (n, k) => if (k == NameKind.free && env.scope.kind == .function && env.kindOf n == some .cell) then (n, NameKind.cell) else (n, k)).lookup x = some .free
  | [], x, h => by rcases h with h | h <;> cases h
  | (n, k) :: r, x, h => by
    have ih := @lookup_relab env r x
    rw [List.map_cons]
    dsimp only
    by_cases hx : (x == n) = true
    · rw [List.lookup_cons, hx] at h
      by_cases hc : (k == NameKind.free && env.scope.kind == .function && env.kindOf n == some .cell) = true
      · left
        have e : (if (k == NameKind.free && env.scope.kind == .function && env.kindOf n == some .cell) = true then (n, NameKind.cell) else (n, k)) = (n, NameKind.cell) := if_pos hc
        rw [e, List.lookup_cons, hx]
      · have e : (if (k == NameKind.free && env.scope.kind == .function && env.kindOf n == some .cell) = true then (n, NameKind.cell) else (n, k)) = (n, k) := if_neg hc
        simp only [e, List.lookup_cons, hx]
        exact h
    · have hx : (x == n) = false := by cases q : x == n with
        | true => exact absurd q hx
        | false => rfl
      rw [List.lookup_cons, hx] at h
      have ih' := ih h
      by_cases hc : (k == NameKind.free && env.scope.kind == .function && env.kindOf n == some .cell) = true
      · have e : (if (k == NameKind.free && env.scope.kind == .function && env.kindOf n == some .cell) = true then (n, NameKind.cell) else (n, k)) = (n, NameKind.cell) := if_pos hc
        rw [e, List.lookup_cons, hx]
        exact ih'
      · have e : (if (k == NameKind.free && env.scope.kind == .function && env.kindOf n == some .cell) = true then (n, NameKind.cell) else (n, k)) = (n, k) := if_neg hc
        simp only [e, List.lookup_cons, hx]
        exact ih'
theorem blkOk_nest {N : List Str} {outer scope : Scope} {own : List (Str × Nat)} {env : PySem.Env} (h : blkC N outer scope own = true) : BlkOk N (relabel outer env) scope own := by
  obtain ⟨h1, h2, h3, h4, h5⟩ := blkOk_by h
  exact ⟨h1, h2, h3, fun y hy e => lookup_relab (h4 y hy e), h5⟩
/-! ### a walk over one's own list -/
def mOwn (j : Nat) : TIm := fun env P => ∃ ps, env[j]? = some (some (.lst ps)) ∧ P ps
@[simp] theorem s_mOwn {j : Nat} {env : Env} {P : List PV → Prop} : mOwn j env P ↔ ∃ ps, env[j]? = some (some (.lst ps)) ∧ P ps := .rfl
theorem im_ownW {X : Cx} {c : List Ow} {tg : Expr} {pos : Pos} (j : Nat) {x : Str} (hN : X.N[j]? = some x := by rfl) (hc : cO c j ≠ .sh := by decide) (hv : Vis X.env.scope x := by first | exact Or.inl rfl | exact Or.inr (Or.inl rfl) | exact Or.inr (Or.inr rfl)) (hd : (x == ("__debug__" : Str)) = false := by decide)
    (hcd : (x == ("__classdict__" : Str)) = false := by decide) : PIm X c (some j) tg (.Name x pos) (mOwn j) := im_own j hN hc hv hd hcd
end PM

set_option maxHeartbeats 2000000
/-! PM: objects of a class whose __init__ writes the fields: making, fields read; constants of the module; raise where it is never met. -/
namespace PM
open PySem L2
/-! ### fields read -/
section
variable {K : PySem.W.Frag} {S : Wd}
theorem rps_lookup {f : Str} {v : PV} : ∀ {ns : List Str} {vs : List PV} {ws : List V}, Rps K S vs ws → (ns.zip vs).lookup f = some v → ∃ w, (ns.zip ws).lookup f = some w ∧ Rp K S v w
  | [], _, _, _, h => by cases h
  | n :: ns, [], _, _, h => by cases h
  | n :: ns, p :: vs, ws, r, h => by
    unfold Rps at r
    obtain ⟨w, ws', rfl, r1, r2⟩ := r
    rw [List.zip_cons_cons, List.lookup_cons] at h ⊢
    cases hb : f == n with
    | true => rw [hb] at h; cases h; exact ⟨w, rfl, r1⟩
    | false => rw [hb] at h; exact rps_lookup r2 h
theorem lookup_mem {α : Type} {f : Str} {v : α} : ∀ {ns : List Str} {vs : List α}, (ns.zip vs).lookup f = some v → f ∈ ns
  | [], _, h => by cases h
  | n :: ns, [], h => by cases h
  | n :: ns, p :: vs, h => by
    rw [List.zip_cons_cons, List.lookup_cons] at h
    cases hb : f == n with
    | true => rw [eq_of_beq hb]; exact List.mem_cons_self ..
    | false => rw [hb] at h; exact List.mem_cons_of_mem _ (lookup_mem h)
end
def mFld (f : Str) (te : TEm) : TEm := fun env P => te env fun p => ∃ C dx ns vs v, p = .obj C dx ns vs ∧ (ns.zip vs).lookup f = some v ∧ P v
section
variable {X : Cx} {c : List Ow} {e : Expr} {te : TEm} {pos : Pos} {f : Str}
theorem em_fld (he : PEm X c .cl e te) (hb : attributeBase e f X.env (eval e X.env) = eval e X.env := by rfl) : PEm X c .cl (.Attribute e f pos) (mFld f te) := ⟨(pe_fld he.run hb).weak fun σ H Q h => by
  obtain ⟨G, A, W, env, P, R, h, k⟩ := h
  refine ⟨G, A, W, env, _, R, h, fun p x H1 g r ⟨C, dx, ns, vs, v, e, l, hv⟩ => ?_⟩
  subst e
  have r : Rp X.K ⟨Zt G A W, W, H1⟩ (.obj C dx ns vs) x := r
  unfold Rp at r
  obtain ⟨hc, a, ws, rfl, hz, ha, hl, rs⟩ := r
  obtain ⟨w, lw, rw'⟩ := rps_lookup rs l
  exact ⟨a, C, dx, _, w, rfl, ha, hc.1, hc.2 f (lookup_mem l), lw, k v w H1 g rw' hv⟩⟩
@[simp] theorem s_mFld {env : Env} {P : PV → Prop} : mFld f te env P ↔ te env fun p => ∃ C dx ns vs v, p = .obj C dx ns vs ∧ (ns.zip vs).lookup f = some v ∧ P v := .rfl
/-! ### constants of the module -/
theorem em_gint {x : Str} {i : Int} {u : Value} (hm : X.mg x = some u) (hr : RelV (.int i) u) (hg : Gl X x := by rfl) (hd : (x == ("__debug__" : Str)) = false := by decide) : PEm X c .cl (.Name x pos) (mC (.int i)) := ⟨(pe_glob hg hm hr hd).weak fun σ H Q h => by
  obtain ⟨G, A, W, env, P, R, h, k⟩ := h
  exact k _ _ H (Grow.refl R.src) (by show Rp _ _ _ _; unfold Rp; rfl) h⟩
/-! ### raise, never met -/
def sNo : TSm := fun _ _ => False
theorem sm_no {fx : Fx} {c' : List Ow} {st : Stmt} : PSm X fx c c' st sNo := ⟨⟨fun pins s σ H D I h => by
  obtain ⟨G, A, W, env, M, _, _, h, _⟩ := h
  exact h.elim⟩⟩
@[simp] theorem s_sNo {M : Em} {env : Env} : sNo M env ↔ False := .rfl
/-! ### a field written, in an __init__ -/
def sFldP (C : Addr) (f : Str) (i : Nat) (te : TEm) : TSm := fun M env => te env fun p => ∃ dx ns vs, env[i]? = some (some (.obj C dx ns vs)) ∧ f ∉ ns ∧ ns.length < 900 ∧ M.nx (env.set i (some (.obj C dx (ns ++ [f]) (vs ++ [p]))))
@[simp] theorem s_sFldP {C : Addr} {i : Nat} {M : Em} {env : Env} : sFldP C f i te M env ↔ te env fun p => ∃ dx ns vs, env[i]? = some (some (.obj C dx ns vs)) ∧ f ∉ ns ∧ ns.length < 900 ∧ M.nx (env.set i (some (.obj C dx (ns ++ [f]) (vs ++ [p])))) := .rfl
theorem putF_new {f : Str} {y : V} : ∀ {ns : List Str} {ws : List V}, f ∉ ns → ns.length = ws.length → putF f y (ns.zip ws) = (ns ++ [f]).zip (ws ++ [y])
  | [], [], _, _ => rfl
  | [], _ :: _, _, h => by cases h
  | _ :: _, [], _, h => by cases h
  | n :: ns, w :: ws, hn, hl => by
    have h1 : ¬ n = f := fun e => hn (e ▸ List.mem_cons_self ..)
    rw [List.zip_cons_cons]
    unfold putF
    rw [if_neg h1, putF_new (fun z => hn (List.mem_cons_of_mem _ z)) (Nat.succ.inj hl)]
    rfl
theorem sm_fldP (C : Addr) (i : Nat) {fx : Fx} {x : Str} {p1 p2 : Pos} (hcl : Cls X.K C) (hna : NoAttr X.K C f) (he : PEm X c .cl e te) (hN : X.N[i]? = some x := by rfl) (hc : cO c i = .ow := by rfl) (hv : Vis X.env.scope x := by first | exact Or.inl rfl | exact Or.inr (Or.inl rfl) | exact Or.inr (Or.inr rfl)) (hd : (x == ("__debug__" : Str)) = false := by decide)
    (hcd : (x == ("__classdict__" : Str)) = false := by decide) (hs : swapsWith e (some (.Attribute (.Name x p1) f p2)) pos.line X.env = pure false := by rfl) :
    PSm X fx c c (.Assign [.Attribute (.Name x p1) f p2] e pos) (sFldP C f i te) := ⟨(ps_fld (pe_var hN hv hd hcd) he.run hs).weak fun D σ H h => by
  obtain ⟨G, A, W, env, M, hg, R, h, k⟩ := h
  refine ⟨G, A, W, env, _, R, h, fun p y H1 g ry h1 => ?_⟩
  obtain ⟨dx, ns, vs, e0, hf, hl, h2⟩ := h1
  have R1 := R.grow g
  obtain ⟨a, hA, hσ, hO⟩ := R1.mine hc e0
  obtain ⟨hoc, ws, hH, ⟨hzd, hdx⟩, hlen, rs⟩ := hO
  have za : Zt G A W a := .inr (.inr ⟨i, hA⟩)
  have nda : dx ≠ a := fun z => hzd (by rw [z]; exact za)
  refine ⟨.ref a, hσ, a, C, dx, _, rfl, hH, hcl, hna, by rw [List.length_zip]; omega, ?_⟩
  rw [putF_new hf hlen]
  have ry : Rp X.K ⟨Zt G A W, W, H1⟩ p y := ry
  have x2 : Ext ⟨Zt G A W, W, H1⟩ ⟨Zt G A W, W, upd H1 a (.ins C dx ((ns ++ [f]).zip (ws ++ [y])))⟩ := ⟨fun b w hn e => ⟨hn, by show upd H1 a _ b = some w; rw [upd_ne (fun z => hn (by rw [z]; exact za))]; exact e⟩, fun _ h => h⟩
  refine k.nx _ _ _ _ _ (R1.mut e0 hA hc (p := .obj C dx (ns ++ [f]) (vs ++ [p])) ?_) h2
  refine ⟨⟨hoc.1, fun q hq => ?_⟩, ws ++ [y], upd_same, ⟨hzd, ?_⟩, by rw [List.length_append, List.length_append, hlen]; rfl, Rps.ext x2 (rs.append (Rps.cons ry Rps.nil))⟩
  · rcases List.mem_append.mp hq with z | z
    · exact hoc.2 q z
    · rw [List.mem_singleton.mp z]; exact hna
  · show upd H1 a _ dx = _
    rw [upd_ne nda]; exact hdx⟩
end
end PM

set_option maxHeartbeats 2000000
/-! PM: C(..), with C's own __init__. -/
namespace PM
open PySem L2
section
variable {P : Program} {w : World} {K : PySem.W.Frag} {mg : Str → Option Value} {base : Heap}
/-- what an __init__ promises: of the object at x, new and empty, it makes p -/
def spMkM (K : PySem.W.Frag) (C : Addr) (spec : Spec) : Sp := fun vs H Q _ => ∃ (zb : Addr → Prop) (W : Ws) (ps : List PV) (R : PV → Prop) (H0 : Hp) (x dx : Addr) (ws : List V), vs = .ref x :: ws ∧ H = upd (upd H0 dx (.own x)) x (.ins C dx []) ∧ H0 x = none ∧ H0 dx = none ∧ dx ≠ x ∧
  (∀ b, zb b → ∃ o, H0 b = some o) ∧ (∀ q ∈ W, SA H0 q) ∧ Rps K ⟨fun b => zb b ∨ inW W b, W, H0⟩ ps ws ∧ spec ps R ∧ ∀ p H', Grow W H0 H' → OwnAt K ⟨fun b => (zb b ∨ inW W b) ∨ b = x, W, H'⟩ x p → R p → Q .non H'
theorem fn_init {n qual : Str} {st : Stmt} {f C : Addr} {fd : FuncData} {N pns : List Str} {k : Nat} {spec : Spec} {t : TSm} {dvs : List V} (F : FunD K n qual (defArgs st) (defBody st) (defScope st) dvs [] f fd) (S : FnScope N pns (defScope st)) (hcl : Cls K C)
    (hlen : ∀ ps Q, spec ps Q → ps.length + 1 = pns.length) (hN : 0 < N.length)
    (hbody : ∀ (cdv : Value) (A : Around) (outer : List PySem.Env) (s : Shared) (H : Hp) (E : XK), Room k (A.deeper (PyProof.Rows.envOfC qual (defScope st) s.heap.objs.size f cdv)) → ∃ c', cO c' 0 = .ow ∧ PSsm (bodyX P w K mg base N qual st f cdv A outer s H E) ⟨.cl, false, []⟩ ((shs N.length).set 0 .ow) c' (defBody st) t)
    (hok : ∀ dx ps Q, spec ps Q → t { nx := fun e => ∃ ns vs, e[0]? = some (some (.obj C dx ns vs)) ∧ Q (.obj C dx ns vs), rt := fun _ => False } (startE N.length (.obj C dx [] [] :: ps))) : FnOk P w K mg base CX0 (k + 1) f fd pns (spMkM K C spec) := by
  refine F.ok S (fun vs H Q E h => ?_) (fun cdv A outer s H vs Q E hr h => ?_)
  · obtain ⟨zb, W, ps, R, H0, x, dx, ws, rfl, _, _, _, _, _, _, r, hs, _⟩ := h
    rw [List.length_cons, ← r.len]
    exact hlen ps R hs
  · obtain ⟨zb, W, ps, R, H0, x, dx, ws, rfl, rfl, nx, ndx, ne, hz, hsrc, r, hs, kk⟩ := h
    have r' : Rps K ⟨fun b => zb b ∨ inW W b, W, H0⟩ (.ref x :: ps) (.ref x :: ws) := Rps.cons (by unfold Rp; rfl) r
    have R0 := SR.start (N := N) (gw := false) hz hsrc r'
    have far : ∀ {b : Addr} {o : HO}, H0 b = some o → upd (upd H0 dx (.own x)) x (.ins C dx []) b = some o := fun {b o} e => by
      rw [upd_ne (fun z => by rw [z, nx] at e; cases e), upd_ne (fun z => by rw [z, ndx] at e; cases e)]; exact e
    have g : Grow W H0 (upd (upd H0 dx (.own x)) x (.ins C dx [])) := ⟨fun b o _ e => far e, fun q hq => by
      obtain ⟨⟨o1, e1⟩, o2, e2⟩ := (hsrc q hq).some
      exact SA.at (by rw [far e1, e1]) (by rw [far e2, e2]) (hsrc q hq)⟩
    have ndz : ¬ Zt ⟨false, zb, W, H0, fun _ => none, W, []⟩ (fun _ => none) W dx := fun z => by
      obtain ⟨o, e⟩ := R0.zt z
      rw [ndx] at e; cases e
    have hdx : upd (upd H0 dx (.own x)) x (.ins C dx []) dx = some (.own x) := by rw [upd_ne ne, upd_same]
    have R1 := R0.set_ow (i := 0) (p := .obj C dx [] []) (a := x) (by unfold shs; rw [List.length_replicate]; exact hN) (by rw [cO_shs]; decide) g nx ⟨⟨hcl, fun _ h => by cases h⟩, [], upd_same, ⟨fun z => z.elim ndz ne, hdx⟩, rfl, Rps.nil⟩
    have R2 : SR K ⟨false, zb, W, H0, fun b => open Classical in if b = dx then some (.own x) else none, W, []⟩ ((shs N.length).set 0 .ow) (putA (fun _ => none) 0 x) W (startE N.length (.obj C dx [] [] :: ps)) (L2.start N (.ref x :: ws)) (upd (upd H0 dx (.own x)) x (.ins C dx [])) := by
      refine ⟨R1.len, R1.W0in, R1.Wmin, R1.Wnew, R1.Wfix, R1.src, R1.keep, R1.zbt, R1.Asep, R1.Ainj, R1.Aset, R1.slots, R1.pins, fun b o e => ?_⟩
      have e : (open Classical in if b = dx then some (HO.own x) else none) = some o := e
      by_cases z : b = dx
      · rw [if_pos z] at e
        cases e
        subst z
        refine ⟨hdx, fun q => ?_⟩
        rcases q with q | q | ⟨i, q⟩
        · exact ndz (.inl q)
        · exact ndz (.inr (.inl q))
        · by_cases hi : i = 0
          · subst hi; rw [putA_eq] at q; cases q; exact ne rfl
          · rw [putA_ne hi] at q; cases q
      · rw [if_neg z] at e; cases e
    obtain ⟨c', hc0, hb⟩ := hbody cdv A outer s _ E hr
    refine ⟨_, hb.run.nox, _, _, W, _, { nx := fun e => ∃ ns vs, e[0]? = some (some (.obj C dx ns vs)) ∧ R (.obj C dx ns vs), rt := fun _ => False }, rfl, R2, hok dx ps R hs, ⟨fun A' W' env' σ' H' R' hp => ?_, fun _ _ _ _ z => z.elim, fun _ _ _ _ _ _ z => z.elim, fun _ _ _ _ _ _ z => z.elim⟩⟩
    obtain ⟨ns, vs, e0, hR⟩ := hp
    obtain ⟨a', hA', _, hO⟩ := R'.mine hc0 e0
    have eW : W' = W := R'.Wfix rfl
    subst eW
    have hO' := hO
    obtain ⟨_, us, _, ⟨_, hdo⟩, _, _⟩ := hO'
    have fz := (R'.fz dx (.own x) (by show (open Classical in if dx = dx then some (HO.own x) else none) = _; rw [if_pos rfl])).1
    have hdo : H' dx = some (.own a') := hdo
    rw [fz] at hdo
    cases hdo
    refine kk (.obj C dx ns vs) H' ⟨fun b o n e => R'.keep b o n e, R'.src⟩ (hO.less fun b z => ?_) hR
    rcases z with (z | z) | z
    · exact .inl z
    · exact .inr (.inl z)
    · rw [z]; exact .inr (.inr ⟨0, hA'⟩)
end
section
variable {X : Cx} {c : List Ow} {k : Nat} {f C : Addr} {fd : FuncData} {pns : List Str} {spec : Spec} {x : Str} {p pos : Pos} {e : Expr} {es : List Expr} {t : TAm}
def mMake (spec : Spec) (t : TAm) : TEm := fun env P => t env fun ps => spec ps P
@[simp] theorem s_mMake {env : Env} {P : PV → Prop} : mMake spec t env P ↔ t env fun ps => spec ps P := .rfl
theorem em_make (M : Mk X.K C f) (F : FnOk X.prog X.w X.K X.mg X.base CX0 k f fd pns (spMkM X.K C spec)) (hr : Room (k + 1) X.A) (hm : X.mg x = some (.ref C)) (hb : Binds X.K fd pns []) (ha : PAm X c .cl (e :: es) t) (hg : Gl X x := by rfl)
    (hdb : (x == ("__debug__" : Str)) = false := by decide) (he : starEach (e :: es) X.env = (false, eval e X.env) :: starEach es X.env := by rfl) (hpl : (backTo pos (starEach es X.env)).any (·.1) = false := by rfl) :
    PEm X c .fr (.Call (.Name x p) (e :: es) [] pos) (mMake spec t) := ⟨(pe_make M F hr hg hm hb .nil pass0 ha.run hdb he hpl).weak fun σ H Q h => by
  obtain ⟨G, A, W, env, P, R, h, k⟩ := h
  refine ⟨G, A, W, env, _, R, h, fun ps vs H1 g1 rs h1 => fun x dx nx ndx ne => ?_⟩
  have R1 := R.grow g1
  have l1 : ∀ b, (Zt G A W b ∨ inW W b) → Zt G A W b := fun b z => z.elim id Zt.w
  refine ⟨Zt G A W, W, ps, P, H1, x, dx, vs, by rw [List.append_nil], rfl, nx, ndx, ne, R1.dz, R1.src, Rps.ext (ext_less l1) rs.rps, h1, fun p H' g hO hp => ⟨rfl, k p (.ref x) H' (g1.trans g) ⟨x, rfl, g1.free nx, hO.less fun b z => ?_⟩ hp⟩⟩
  exact z.elim (fun z => .inl (.inl z)) .inr⟩
end
/-- the default () -/
theorem cst_unit {K : PySem.W.Frag} {a : Addr} (h : KTup K a []) : Cst K [.tup []] [.ref a] := fun S => Rps.cons (by
  unfold Rp
  exact ⟨a, [], rfl, .inr h, Rps.nil⟩) Rps.nil
end PM

set_option maxHeartbeats 2000000
/-! PM: comprehensions of two fors. -/
namespace PM
open PySem L2
theorem out_it {J : It} {n : Nat} {F : Hp → Prop} {Y : Nat → Hp → V → Hp → Prop} (w : Walk J n F Y) {H0 : Hp} {B : V → Hp → (Hp → Prop) → Prop} {Qd : Hp → Prop} (I : Nat → Hp → Prop) (h0 : I 0 H0) (hF : ∀ i H, i ≤ n → I i H → F H)
    (hs : ∀ i x H H', i < n → I i H → Y i H x H' → B x H' (I (i + 1))) (hd : ∀ H, I n H → Qd H) :
    ∃ W : Nat → Nat → Hp → Prop, (∃ m, W 0 m H0) ∧ ∀ i m H, W i m H → (J.stop i H ∧ Qd H) ∨ (J.go i H ∧ ∃ Nx : Hp → Prop, (∀ H', Nx H' → ∃ m', m' < m ∧ W (i + 1) m' H') ∧ ∀ x H', J.yld i H x H' → B x H' Nx) := by
  refine ⟨fun i m H => i + m = n ∧ I i H, ⟨n, Nat.zero_add n, h0⟩, fun i m H z => ?_⟩
  obtain ⟨e, p⟩ := z
  have f := hF i H (by omega) p
  cases m with
  | zero =>
    have e2 : i = n := by omega
    subst e2
    exact .inl ⟨w.stops H f, hd H p⟩
  | succ m =>
    have l : i < n := by omega
    exact .inr ⟨w.goes i H l f, I (i + 1), fun H' p' => ⟨m, Nat.lt_succ_self m, by omega, p'⟩, fun x H' y => hs i x H H' l p (w.yields i H x H' l f y)⟩
def mIn (g1 : TGm) (tt1 : TTm) (te : TEm) (env : Env) (Kn : List PV → Prop) : List PV → List PV → Prop
  | [], acc => Kn acc
  | x :: xs, acc => g1 x env fun e1 => tt1 e1 fun b => if b = true then te e1 fun y => acc.length < sizeLine ∧ mIn g1 tt1 te env Kn xs (acc ++ [y]) else mIn g1 tt1 te env Kn xs acc
def mTwo (g : TGm) (tt : TTm) (wi1 : TIm) (g1 : TGm) (tt1 : TTm) (te : TEm) (vs1 : List Nat) (env : Env) (P : PV → Prop) : List PV → List PV → Prop
  | [], acc => P (.lst acc)
  | x :: xs, acc => g x env fun e1 => tt e1 fun b => if b = true then wi1 e1 fun items => mIn g1 tt1 te (wipeE e1 vs1) (fun acc' => mTwo g tt wi1 g1 tt1 te vs1 env P xs acc') items acc else mTwo g tt wi1 g1 tt1 te vs1 env P xs acc
def mLc2 (wi : TIm) (vs vs1 : List Nat) (g : TGm) (tt : TTm) (wi1 : TIm) (g1 : TGm) (tt1 : TTm) (te : TEm) : TEm := fun env P => wi env fun items => mTwo g tt wi1 g1 tt1 te vs1 (wipeE env vs) P items []
theorem tm_lc2 {K : PySem.W.Frag} {c : List Ow} {lk lk1 : Option Nat} {wi wi1 : TIm} {vs vs1 ws ws1 : List Nat} {g g1 : TGm} {tt tt1 : TTm} {te : TEm} (hw : ∀ j ∈ ws, j ∈ vs) (hw1 : ∀ j ∈ ws1, j ∈ vs1) (σ : St) (H : Hp) (Q : VK) (h : tmE K c .fr (mLc2 wi vs vs1 g tt wi1 g1 tt1 te) σ H Q) :
    tLc2 (tiM K c lk wi) (tgM K c ws g) (tmT K c tt) (tiM K c lk1 wi1) (tgM K c ws1 g1) (tmT K c tt1) (tmE K c .cl te) vs vs1 σ H Q := by
  obtain ⟨G, A, W, env, P, R, h, k⟩ := h
  refine ⟨G, A, W, env, _, R, h, fun J items H1 pl g1' hpl ⟨Gd, Y, wk, hit⟩ h1 D nD => ?_⟩
  have R1 := R.grow g1'
  have nW : ¬ inW W D := fun w => by obtain ⟨o, e⟩ := inW_some R1.src w; rw [nD] at e; cases e
  have plD : ∀ q ∈ pl, H1 q.1 = some q.2 ∧ ¬ inW W q.1 := fun q hq => by
    cases lk with
    | none => have e : pl = [] := hpl; rw [e] at hq; cases hq
    | some j =>
      obtain ⟨a, o, e, hA, ho⟩ := hpl
      rw [e, List.mem_singleton] at hq
      rw [hq]
      exact ⟨ho, (R1.Asep j a hA).2.1⟩
  have far : ∀ {b : Addr} {o : HO}, H1 b = some o → b ≠ D := fun {b o} e z => by rw [z, nD] at e; cases e
  have onto : ∀ {H2 : Hp}, Grow W H1 H2 → Ext ⟨Zt G A W, W, H1⟩ ⟨Zt (G.and D) A W, W, H2⟩ := fun {H2} g2 => ⟨fun b o hz e => ⟨fun z => (zt_and.mp z).elim hz (far e), g2.keep b o (fun w => hz (Zt.w w)) e⟩, fun _ h => h⟩
  have zD : Zt (G.and D) A W D := zt_and.mpr (.inr rfl)
  have xD : ∀ (H5 : Hp) (o : HO), Ext ⟨Zt (G.and D) A W, W, H5⟩ ⟨Zt (G.and D) A W, W, upd H5 D o⟩ := fun H5 o => ⟨fun b w hn e => ⟨hn, by show upd H5 D o b = some w; rw [upd_ne (fun z => hn (by rw [z]; exact zD))]; exact e⟩, fun _ h => h⟩
  refine out_it wk (fun i H2 => ∃ acc wacc, SR K (G.and D) c A W (wipeE env vs) (wipe σ vs) H2 ∧ Grow W H1 H2 ∧ H2 D = some (.lst wacc) ∧ Rps K ⟨Zt (G.and D) A W, W, H2⟩ acc wacc ∧ mTwo g tt wi1 g1 tt1 te vs1 (wipeE env vs) P (items.drop i) acc)
    ⟨[], [], (R1.wipe vs).and nD, Grow.new R1.src nD, upd_same, Rps.nil, h1⟩ (fun i H2 _ hP => ?_) (fun i x H2 H3 hi hP y => ?_) (fun H2 hP => ?_)
  · obtain ⟨acc, wacc, R2, g2, hD, ra, hq⟩ := hP
    exact (hit _ W H2 (onto g2) R2.dz fun q hq => g2.keep _ _ (plD q hq).2 (plD q hq).1).1
  · obtain ⟨acc, wacc, R2, g2, hD, ra, hq⟩ := hP
    rw [List.drop_eq_getElem_cons hi] at hq
    obtain ⟨ga, rp⟩ := (hit _ W H2 (onto g2) R2.dz fun q hq => g2.keep _ _ (plD q hq).2 (plD q hq).1).2 i x H3 items[i] (List.getElem?_eq_getElem hi) y
    have g23 := ga.grow R2.src
    refine ⟨G.and D, A, W, wipeE env vs, items[i], _, R2.grow g23, rp, hq, fun env1 σ1 R4 t4 h4 => ?_⟩
    refine ⟨(t4.wipe hw).trans wipe_wipe, G.and D, A, W, env1, _, R4, h4, fun b H4 g4 h5 => ?_⟩
    have g24 : Grow W H2 H4 := g23.trans g4
    cases b with
    | false =>
      dsimp only at h5 ⊢
      rw [if_neg Bool.false_ne_true] at h5 ⊢
      exact ⟨acc, wacc, R2.grow g24, g2.trans g24, g24.keep D _ nW hD, Rps.ext (g24.ext R2.sz) ra, h5⟩
    | true =>
      dsimp only at h5 ⊢
      rw [if_pos rfl] at h5 ⊢
      refine ⟨G.and D, A, W, env1, _, R4.grow g4, h5, fun J1 items1 H5 pl1 g5 hpl1 ⟨Gd1, Y1, wk1, hit1⟩ h6 => ?_⟩
      have g25 : Grow W H2 H5 := g24.trans g5
      have R5 := (R4.grow g4).grow g5
      have pl1D : ∀ q ∈ pl1, H5 q.1 = some q.2 ∧ ¬ inW W q.1 ∧ q.1 ≠ D := fun q hq => by
        cases lk1 with
        | none => have e : pl1 = [] := hpl1; rw [e] at hq; cases hq
        | some j =>
          obtain ⟨a, o, e, hA, ho⟩ := hpl1
          rw [e, List.mem_singleton] at hq
          rw [hq]
          exact ⟨ho, (R5.Asep j a hA).2.1, fun z => (R5.Asep j a hA).2.2.1 (.inr z)⟩
      have onto1 : ∀ {H6 : Hp}, (∀ b o, ¬ inW W b → b ≠ D → H5 b = some o → H6 b = some o) → Ext ⟨Zt (G.and D) A W, W, H5⟩ ⟨Zt (G.and D) A W, W, H6⟩ := fun {H6} kp => ⟨fun b o hz e => ⟨hz, kp b o (fun w => hz (Zt.w w)) (fun z => hz (by rw [z]; exact zD)) e⟩, fun _ h => h⟩
      refine out_it wk1 (fun j H6 => ∃ acc' wacc', SR K (G.and D) c A W (wipeE env vs) (wipe σ vs) H6 ∧ SR K (G.and D) c A W (wipeE env1 vs1) (wipe σ1 vs1) H6 ∧ Grow W H1 H6 ∧ (∀ b o, ¬ inW W b → b ≠ D → H5 b = some o → H6 b = some o) ∧ H6 D = some (.lst wacc') ∧ Rps K ⟨Zt (G.and D) A W, W, H6⟩ acc' wacc' ∧
          mIn g1 tt1 te (wipeE env1 vs1) (fun a => mTwo g tt wi1 g1 tt1 te vs1 (wipeE env vs) P (items.drop (i + 1)) a) (items1.drop j) acc')
        ⟨acc, wacc, R2.grow g25, R5.wipe vs1, g2.trans g25, fun _ _ _ _ e => e, g25.keep D _ nW hD, Rps.ext (g25.ext R2.sz) ra, h6⟩ (fun j H6 _ hP => ?_) (fun j x1 H6 H7 hj hP y1 => ?_) (fun H6 hP => ?_)
      · obtain ⟨acc', wacc', Ro, Ri, g6, kp, hD6, ra6, hq6⟩ := hP
        exact (hit1 _ W H6 (onto1 kp) Ri.dz fun q hq => kp _ _ (pl1D q hq).2.1 (pl1D q hq).2.2 (pl1D q hq).1).1
      · obtain ⟨acc', wacc', Ro, Ri, g6, kp, hD6, ra6, hq6⟩ := hP
        rw [List.drop_eq_getElem_cons hj] at hq6
        obtain ⟨gb, rp1⟩ := (hit1 _ W H6 (onto1 kp) Ri.dz fun q hq => kp _ _ (pl1D q hq).2.1 (pl1D q hq).2.2 (pl1D q hq).1).2 j x1 H7 items1[j] (List.getElem?_eq_getElem hj) y1
        have g67 := gb.grow Ri.src
        refine ⟨G.and D, A, W, wipeE env1 vs1, items1[j], _, Ri.grow g67, rp1, hq6, fun env2 σ2 R8 t8 h8 => ?_⟩
        refine ⟨(t8.wipe hw1).trans wipe_wipe, G.and D, A, W, env2, _, R8, h8, fun b H8 g8 h9 => ?_⟩
        have g68 : Grow W H6 H8 := g67.trans g8
        cases b with
        | false =>
          dsimp only at h9 ⊢
          rw [if_neg Bool.false_ne_true] at h9 ⊢
          exact ⟨acc', wacc', Ro.grow g68, Ri.grow g68, g6.trans g68, fun b o n1 n2 e => g68.keep b o n1 (kp b o n1 n2 e), g68.keep D _ nW hD6, Rps.ext (g68.ext Ri.sz) ra6, h9⟩
        | true =>
          dsimp only at h9 ⊢
          rw [if_pos rfl] at h9 ⊢
          refine ⟨G.and D, A, W, env2, _, R8.grow g8, h9, fun p v H9 g9 rv ⟨hl, h10⟩ => ?_⟩
          have g69 : Grow W H6 H9 := g68.trans g9
          have hD9 : H9 D = some (.lst wacc') := g69.keep D _ nW hD6
          have ra9 : Rps K ⟨Zt (G.and D) A W, W, H9⟩ acc' wacc' := Rps.ext (g69.ext Ri.sz) ra6
          have Ro9 := (Ro.grow g69).upZ (o := .lst (wacc' ++ [v])) (.inr rfl) (R1.h0 nD) nW
          have Ri9 := (Ri.grow g69).upZ (o := .lst (wacc' ++ [v])) (.inr rfl) (R1.h0 nD) nW
          have g19 := g6.trans g69
          refine ⟨wacc', hD9, by rw [← ra6.len]; exact hl, acc' ++ [p], wacc' ++ [v], Ro9, Ri9, ⟨fun b o n1 e => by rw [upd_ne (far e)]; exact g19.keep b o n1 e, Ro9.src⟩, fun b o n1 n2 e => by rw [upd_ne n2]; exact g69.keep b o n1 (kp b o n1 n2 e), upd_same, Rps.ext (xD _ _) (ra9.append (Rps.cons rv.c Rps.nil)), h10⟩
      · obtain ⟨acc', wacc', Ro, Ri, g6, kp, hD6, ra6, hq6⟩ := hP
        rw [List.drop_length] at hq6
        exact ⟨acc', wacc', Ro, g6, hD6, ra6, hq6⟩
  · obtain ⟨acc, wacc, R2, g2, hD, ra, hq⟩ := hP
    rw [List.drop_length] at hq
    exact k (.lst acc) (.ref D) H2 (g1'.trans g2) ⟨D, rfl, g1'.free nD, wacc, hD, Rps.ext (ext_less fun b z => zt_and.mpr z) ra⟩ hq
section
variable {X : Cx} {f : Fx} {c : List Ow} {lk lk1 : Option Nat} {elt tg iter tg1 iter1 : Expr} {ifs ifs1 : List Expr} {scope : Scope} {own : List (Str × Nat)} {pos spos : Pos} {wi wi1 : TIm} {ws ws1 : List Nat} {g g1 : TGm} {tt tt1 : TTm} {te : TEm}
theorem em_lc2 (vs1 : List Nat) (hc : X.calm = true) (hN : X.N.Nodup) (hi : PIm X c lk tg iter wi) (ok : BlkOk X.N X.env.scope scope own)
    (hg : ∀ (s : Shared) (H : Hp) (C : Addr) (cl : List (Str × Addr)) (fp : List Addr), PGm (X.blk s H scope (compEnvC scope cl C X.env) fp) c ws tg g) (ht : ∀ (s : Shared) (H : Hp) (C : Addr) (cl : List (Str × Addr)) (fp : List Addr), PTsm (X.blk s H scope (compEnvC scope cl C X.env) fp) c ifs tt)
    (hi1 : ∀ (s : Shared) (H : Hp) (C : Addr) (cl : List (Str × Addr)) (fp : List Addr), PIm (X.blk s H scope (compEnvC scope cl C X.env) fp) c lk1 tg1 iter1 wi1)
    (hg1 : ∀ (s : Shared) (H : Hp) (C : Addr) (cl : List (Str × Addr)) (fp : List Addr), PGm (X.blk s H scope (compEnvC scope cl C X.env) fp) c ws1 tg1 g1) (ht1 : ∀ (s : Shared) (H : Hp) (C : Addr) (cl : List (Str × Addr)) (fp : List Addr), PTsm (X.blk s H scope (compEnvC scope cl C X.env) fp) c ifs1 tt1)
    (he : ∀ (s : Shared) (H : Hp) (C : Addr) (cl : List (Str × Addr)) (fp : List Addr), PEm (X.blk s H scope (compEnvC scope cl C X.env) fp) c .cl elt te) (hv : ∀ i ∈ vs1, i ∈ own.map (·.2) := by decide) (hw : ∀ j ∈ ws, j ∈ own.map (·.2) := by decide) (hw1 : ∀ j ∈ ws1, j ∈ vs1 := by decide)
    (hs : ∀ x, foldedSetIterable iter X.env x = pure x := by intro _; rfl) (hs1 : ∀ env x, foldedSetIterable iter1 env x = pure x := by intro _ _; rfl) :
    PEm X c .fr (.ListComp elt [⟨tg, iter, ifs, 0⟩, ⟨tg1, iter1, ifs1, 0⟩] scope pos) (mLc2 wi (own.map (·.2)) vs1 g tt wi1 g1 tt1 te) :=
  ⟨(pe_lc2 hc hN hi.run ok hv (fun s H C cl fp => (hg s H C cl fp).run) (fun s H C cl fp => (ht s H C cl fp).run) (fun s H C cl fp => (hi1 s H C cl fp).run) (fun s H C cl fp => (hg1 s H C cl fp).run) (fun s H C cl fp => (ht1 s H C cl fp).run) (fun s H C cl fp => (he s H C cl fp).run) hs hs1).weak fun σ H Q h => tm_lc2 (lk := lk) (lk1 := lk1) hw hw1 σ H Q h⟩
theorem sm_setLc2 (i : Nat) (vs1 : List Nat) {y : Str} {py : Pos} (hc : X.calm = true) (hN : X.N.Nodup) (hi : PIm X c lk tg iter wi) (ok : BlkOk X.N X.env.scope scope own)
    (hg : ∀ (s : Shared) (H : Hp) (C : Addr) (cl : List (Str × Addr)) (fp : List Addr), PGm (X.blk s H scope (compEnvC scope cl C X.env) fp) c ws tg g) (ht : ∀ (s : Shared) (H : Hp) (C : Addr) (cl : List (Str × Addr)) (fp : List Addr), PTsm (X.blk s H scope (compEnvC scope cl C X.env) fp) c ifs tt)
    (hi1 : ∀ (s : Shared) (H : Hp) (C : Addr) (cl : List (Str × Addr)) (fp : List Addr), PIm (X.blk s H scope (compEnvC scope cl C X.env) fp) c lk1 tg1 iter1 wi1)
    (hg1 : ∀ (s : Shared) (H : Hp) (C : Addr) (cl : List (Str × Addr)) (fp : List Addr), PGm (X.blk s H scope (compEnvC scope cl C X.env) fp) c ws1 tg1 g1) (ht1 : ∀ (s : Shared) (H : Hp) (C : Addr) (cl : List (Str × Addr)) (fp : List Addr), PTsm (X.blk s H scope (compEnvC scope cl C X.env) fp) c ifs1 tt1)
    (he : ∀ (s : Shared) (H : Hp) (C : Addr) (cl : List (Str × Addr)) (fp : List Addr), PEm (X.blk s H scope (compEnvC scope cl C X.env) fp) c .cl elt te)
    (hsw : swapsWith (.ListComp elt [⟨tg, iter, ifs, 0⟩, ⟨tg1, iter1, ifs1, 0⟩] scope pos) (some (.Name y py)) spos.line X.env = pure true) (hy : X.N[i]? = some y := by rfl) (hyl : X.env.scope.names.lookup y = some .local := by rfl) (hlen : i < c.length := by decide) (hl : cO c i ≠ .lk := by decide)
    (hv : ∀ i ∈ vs1, i ∈ own.map (·.2) := by decide) (hw : ∀ j ∈ ws, j ∈ own.map (·.2) := by decide) (hw1 : ∀ j ∈ ws1, j ∈ vs1 := by decide) (hs : ∀ x, foldedSetIterable iter X.env x = pure x := by intro _; rfl) (hs1 : ∀ env x, foldedSetIterable iter1 env x = pure x := by intro _ _; rfl) :
    PSm X f c (c.set i .ow) (.Assign [.Name y py] (.ListComp elt [⟨tg, iter, ifs, 0⟩, ⟨tg1, iter1, ifs1, 0⟩] scope pos) spos) (sSet i (mLc2 wi (own.map (·.2)) vs1 g tt wi1 g1 tt1 te)) :=
  ⟨(ps_setLc2 hc hN hy hyl hsw hi.run ok hv (fun s H C cl fp => (hg s H C cl fp).run) (fun s H C cl fp => (ht s H C cl fp).run) (fun s H C cl fp => (hi1 s H C cl fp).run) (fun s H C cl fp => (hg1 s H C cl fp).run) (fun s H C cl fp => (ht1 s H C cl fp).run) (fun s H C cl fp => (he s H C cl fp).run) hs hs1).weak fun D σ H h => by
    obtain ⟨G, A, W, env, M, hgw, R, h, k⟩ := h
    refine tm_lc2 (lk := lk) (lk1 := lk1) hw hw1 σ H _ ⟨G, A, W, env, _, R, h, fun p v H1 g r h1 => ?_⟩
    obtain ⟨a, rfl, n, o⟩ := r
    exact k.nx _ W _ _ H1 (R.set_ow hlen hl g n o) h1⟩
@[simp] theorem s_mLc2 {vs vs1 : List Nat} {env : Env} {P : PV → Prop} : mLc2 wi vs vs1 g tt wi1 g1 tt1 te env P ↔ wi env fun items => mTwo g tt wi1 g1 tt1 te vs1 (wipeE env vs) P items [] := .rfl
end
end PM

set_option maxHeartbeats 2000000
/-! PM: dicts whose keys are tuples of whole numbers (each with True), sorted lists of such tuples. -/
namespace PM
open PySem PySem.Spec PyProof.Rows L2
def xOf (p : Addr × List Int) : List Int × Addr × Value := (p.2, p.1, .bool true)
theorem xOf_entry (P : Program) (w : World) (p : Addr × List Int) : entryOfKey (tupleKind (PySem.intKind P w)) (xOf p) = pEntry p := rfl
theorem map_entry (P : Program) (w : World) (L : List (Addr × List Int)) : (L.map xOf).map (entryOfKey (tupleKind (PySem.intKind P w))) = L.map pEntry := by rw [List.map_map]; rfl
/-- b at the key k; the address of a key that is there stays -/
def putP (L : List (Addr × List Int)) (k : List Int) (b : Addr) : List (Addr × List Int) := if k ∈ L.map (·.2) then L else L ++ [(b, k)]
theorem atKey_xOf {k : List Int} : ∀ L : List (Addr × List Int), (atKey (L.map xOf) k).isSome = decide (k ∈ L.map (·.2))
  | [] => rfl
  | p :: L => by
    have ih := atKey_xOf (k := k) L
    unfold atKey at ih ⊢
    rw [List.map_cons, List.map_cons]
    simp only [List.find?_cons, List.mem_cons]
    by_cases e : (xOf p).1 = k
    · have e2 : p.2 = k := e
      simp [e, e2]
    · have e2 : ¬ k = p.2 := fun z => e z.symm
      simp [e, e2]
      simpa using ih
theorem stored_xOf {k : List Int} {b : Addr} {L : List (Addr × List Int)} : storedH (L.map xOf) k b (.bool true) = (putP L k b).map xOf := by
  unfold storedH putP
  rw [atKey_xOf]
  by_cases e : k ∈ L.map (·.2)
  · rw [if_pos (by simpa using e), if_pos e, List.map_map]
    refine List.map_congr_left fun p _ => ?_
    show putAt k (.bool true) (xOf p) = xOf p
    unfold putAt xOf
    split <;> rfl
  · rw [if_neg (by simpa using e), if_neg e, List.map_append]
    rfl
theorem putP_keys {L : List (Addr × List Int)} {k : List Int} {b : Addr} : (putP L k b).map (·.2) = if k ∈ L.map (·.2) then L.map (·.2) else L.map (·.2) ++ [k] := by
  unfold putP
  split
  · rfl
  · rw [List.map_append]; rfl
section
variable {X : Cx} {pins : List (Addr × Obj)} {σ : L2.St} {H : Hp} {s : Shared} {a : Addr} {L : List (Addr × List Int)}
theorem pd_of {P : Program} {w : World} (ok : HOk P w H s.heap) (e : H a = some (PairD a L)) : (a == sysModules) = false ∧ L.length ≤ sizeLine ∧ (L.map (·.2)).Nodup ∧ ∃ o es ep, s.heap.get? a = some o ∧ o.ExactDict ∧ o.data = .dict es ep ∧ es.toList = L.map pEntry :=
  (show ObjOk P w H s.heap a (PairD a L) from ok a _ e).1
theorem pd_new {P : Program} {w : World} {H' : Hp} {h' : Heap} (hd : (a == sysModules) = false) (hl : L.length ≤ sizeLine) (hn : (L.map (·.2)).Nodup) {o : Obj} {es : Array DictEntry} {ep : Nat} (h1 : h'.get? a = some o) (h2 : o.ExactDict) (h3 : o.data = .dict es ep) (h4 : es.toList = L.map pEntry) : ObjOk P w H' h' a (PairD a L) :=
  ⟨⟨hd, hl, hn, o, es, ep, h1, h2, h3, h4⟩, ⟨o, h1⟩, fun _ _ ⟨x1, x2, x3, o', es', ep', y1, y2⟩ k => ⟨x1, x2, x3, o', es', ep', k o' y1, y2⟩⟩
def tDNewP : TE := fun _ H Q => ∀ p, H p = none → Q (.ref p) (upd H p (PairD p []))
theorem pe_dnewP {pos : Pos} : PE X (.Dict [] [] pos) tDNewP := ⟨fun pins s σ H Q I h =>
  wpAny_Dict_empty ⟨.ref s.heap.objs.size, _, I.laid (a := s.heap.objs.size) (o := PairD s.heap.objs.size []) (t' := s.toks) (fun _ _ q => Heap.get?_push_of_some _ q) (Nat.le_refl _)
    (pd_new (beq_eq_false_iff_ne.mpr (Ne.symm (Nat.ne_of_lt I.big))) (Nat.zero_le _) List.nodup_nil (Heap.get?_push_size _ rfl) ⟨rfl, rfl, rfl⟩ rfl rfl), rfl, h _ (I.hok.fresh (Nat.le_refl _))⟩⟩
/-- d[y] = True -/
def sDPutP (K : PySem.W.Frag) (td ty tv : TE) : TS := fun D σ H => tv σ H fun v H1 => td σ H1 fun x H2 => ty σ H2 fun y H3 => ∃ a L b k, v = .bl true ∧ x = .ref a ∧ H3 a = some (PairD a L) ∧ y = .ref b ∧ SqT K H3 b (k.map V.int) ∧ (∀ p ∈ L, SqT K H3 p.1 (p.2.map V.int)) ∧ L.length < sizeLine ∧ D.nx σ (upd H3 a (PairD a (putP L k b)))
theorem ps_dputP {o i value : Expr} {pos pos' : Pos} {td ty tv : TE} (hu : X.A.units + 1 < cLine) (ho : PE X o td) (hi : PE X i ty) (hv : PE X value tv) (hs : swapsWith value (some (.Subscript o i pos')) pos.line X.env = pure false) :
    PS X (.Assign [.Subscript o i pos'] value pos) (sDPutP X.K td ty tv) := by
  refine ⟨fun pins s σ H D I h => ?_⟩
  refine wpAny_Assign_Subscript (thn (hv.run pins s σ H _ I h) fun r s1 ⟨v, H1, I1, rv, q1⟩ => thn (ho.run pins s1 σ H1 _ I1 q1) fun u s2 ⟨x, H2, I2, rx, q2⟩ => thn (hi.run pins s2 σ H2 _ I2 q2) fun iv s3 ⟨y, H3, I3, ry, a, L, b, k, ev, ex, eH, ey, hb, hk, hl, q3⟩ => ?_) hs
  subst ev ex ey
  obtain rfl : u = Value.ref a := rx
  obtain rfl : iv = Value.ref b := ry
  obtain rfl : r = Value.bool true := rv
  obtain ⟨hd, hz, hn, q, es, ep, h1, h2, h3, h4⟩ := pd_of I3.hok eH
  have hx : s3.heap.DictOfH (tupleKind (PySem.intKind X.prog X.w)) a (L.map xOf) := ⟨q, es, ep, h1, h2, h3, by rw [map_entry]; exact h4, fun x hx => by
    obtain ⟨p, hp, rfl⟩ := List.mem_map.mp hx
    exact I3.isT (hk p hp), by rw [List.map_map]; exact hn⟩
  have hz' : (L.map xOf).length ≤ sizeLine := by rw [List.length_map]; exact hz
  refine wpAny_setItem_heap (hsz := hz') (tupleKind_room_in1 hu) (I3.isT hb) hx fun h' dd' hs => ?_
  obtain ⟨q', es', ep', g1, g2, g3, g4, _, g5⟩ := dd'
  rw [stored_xOf, map_entry] at g4
  rw [stored_xOf, List.map_map] at g5
  have hl2 : (putP L k b).length ≤ sizeLine := by unfold putP; split; exact hz; rw [List.length_append]; exact hl
  exact ⟨σ, _, d_write I3 (by rw [eH]; exact True.intro) hs ⟨q', g1⟩ (pd_new hd hl2 g5 g1 g2 g3 g4), q3⟩
theorem perm_map {α β : Type} (f : α → β) : ∀ {l m : List β}, l.Perm m → ∀ L : List α, m = L.map f → ∃ L' : List α, L'.Perm L ∧ l = L'.map f := by
  intro l m h
  induction h with
  | nil => intro L e; exact ⟨[], by rw [List.map_eq_nil_iff.mp e.symm], rfl⟩
  | cons x _ ih =>
    intro L e
    cases L with
    | nil => cases e
    | cons y L =>
      injection e with e1 e2
      obtain ⟨L', p, q⟩ := ih L e2
      exact ⟨y :: L', p.cons y, by rw [List.map_cons, q, e1]⟩
  | swap x y l =>
    intro L e
    match L, e with
    | u :: v :: L, e =>
      injection e with e1 e2
      injection e2 with e2 e3
      exact ⟨v :: u :: L, List.Perm.swap _ _ _, by rw [List.map_cons, List.map_cons, e1, e2, e3]⟩
  | trans _ _ ih1 ih2 =>
    intro L e
    obtain ⟨L1, p1, q1⟩ := ih2 L e
    obtain ⟨L3, p2, q2⟩ := ih1 L1 q1
    exact ⟨L3, p2.trans p1, q2⟩
/-- sorted(d) of a dict of tuples of d whole numbers in [0, B) -/
def rSortedPD (K : PySem.W.Frag) : List V → Hp → VK → Prop := fun vs H Q => ∃ (a : Addr) (L : List (Addr × List Int)) (d : Nat) (B : Int), vs = [V.ref a] ∧ H a = some (PairD a L) ∧ (∀ p ∈ L, SqT K H p.1 (p.2.map V.int)) ∧ 1 ≤ d ∧
  (∀ p ∈ L, p.2.length = d ∧ TS.Bd B p.2) ∧ L.length < 64 ∧
  ∀ (L' : List (Addr × List Int)) (p : Addr), L'.Perm L → (L'.map (·.2)).Nodup → L'.Pairwise (fun q r => TS.code B q.2 ≤ TS.code B r.2) → H p = none → Q (.ref p) (upd H p (.lst (L'.map fun q => V.ref q.1)))
theorem cr_sortedPD (hc : X.calm = true) : CallR X (.builtin "sorted") (rSortedPD X.K) := by
  intro pins s σ H vs us Q I r h
  obtain ⟨a, L, d, B, rfl, ha, hk, hd1, hB, h64, q⟩ := h
  obtain ⟨hd, hz, hn, o, es, ep, h1, h2, h3, h4⟩ := pd_of I.hok ha
  have hes : es.size = L.length := by rw [← Array.length_toList, h4, List.length_map]
  rw [Vals.ref1 r]
  refine Calls.call_function_entry kind_sorted plain_sorted entry_sorted (args_sorted1 _) ?_
  unfold Builtin.«sorted»
  refine wpAny_bind (m := checkCount "sorted" 1 1 _) (wpAny_pure ?_)
  refine wpAny_bind (PySem.W.kdu_collect (A := X.A.in1) (kdl_raw hd h2 h3) (I.ok.hd hc) h1 (by omega) fun h' tk acc hk2 hacc => ?_)
  have hal : acc.toList = L.map fun p => Value.ref p.1 := by
    have hl : acc.toList.length = L.length := by rw [Array.length_toList, hacc.1, hes]
    apply List.ext_getElem?
    intro j
    rw [List.getElem?_map]
    cases hj : acc.toList[j]? with
    | none =>
      have z := List.getElem?_eq_none_iff.mp hj
      rw [List.getElem?_eq_none (by omega)]
      rfl
    | some v =>
      obtain ⟨en, hen, hv⟩ := hacc.2 j v (by rw [← Array.getElem?_toList]; exact hj)
      rw [← Array.getElem?_toList, h4, List.getElem?_map] at hen
      cases hb : L[j]? with
      | none => rw [hb] at hen; cases hen
      | some p =>
        rw [hb] at hen
        cases hen
        rw [hv]
        rfl
  have I1 : Inv X pins σ H { s with heap := h', toks := tk } := I.kept hk2
  have hlen0 : acc.toList.length = L.length := by rw [hal, List.length_map]
  refine wpAny_bind (wpAny_newList ?_ (by rw [hlen0, sizeLine_eq]; omega))
  have hoL : (h'.push (seqObj "list" acc.toList.toArray 0)).get? h'.objs.size = some (seqObj "list" acc.toList.toArray 0) := Heap.get?_push_size _ rfl
  show wpAny _ _ _ _ _ { s with heap := h'.push (seqObj "list" acc.toList.toArray 0), toks := tk }
  have tkk : ∀ q ∈ L, TS.TupInts (h'.push (seqObj "list" acc.toList.toArray 0)) (.ref q.1) q.2 := fun q hq => tupInts_of (P := X.prog) (w := X.w) (isT_keep (I1.isT (hk q hq)) fun b u e => Heap.get?_push_of_some _ e)
  have x : TS.TupsOk (h'.push (seqObj "list" acc.toList.toArray 0)) d B acc.toList := fun v hv => by
    rw [hal] at hv
    obtain ⟨q, hq, e⟩ := List.mem_map.mp hv
    rw [← e]
    exact ⟨q.2, tkk q hq, (hB q hq).1, (hB q hq).2⟩
  refine wpAny_bind (wpAny_holding (TS.call_sort_tups (s := { s with heap := h'.push (seqObj "list" acc.toList.toArray 0), toks := tk }) hoL (by rw [hlen0]; exact h64) hd1 x fun out a1 a2 => ?_))
  obtain ⟨c, hc2⟩ := sortedHeap_at (vs := acc.toList) (out := out) hoL
  obtain ⟨L', pL, e'⟩ := perm_map (fun p : Addr × List Int => Value.ref p.1) a1 L hal
  have pw : L'.Pairwise (fun q r => TS.code B q.2 ≤ TS.code B r.2) := by
    rw [e'] at a2
    refine List.Pairwise.imp_of_mem (fun {q r} hq hr hle => ?_) (List.pairwise_map.mp a2)
    have f1 : TS.intsOf (h'.push (seqObj "list" acc.toList.toArray 0)) (.ref q.1) = q.2 := (tkk q (pL.mem_iff.mp hq)).ints
    have f2 : TS.intsOf (h'.push (seqObj "list" acc.toList.toArray 0)) (.ref r.1) = r.2 := (tkk r (pL.mem_iff.mp hr)).ints
    rw [← f1, ← f2]
    exact hle
  have hlen : (L'.map fun q => V.ref q.1).length ≤ sizeLine := by rw [List.length_map, pL.length_eq]; exact hz
  refine wpAny_pure ⟨_, rfl, .ref h'.objs.size, upd H h'.objs.size (.lst (L'.map fun q => V.ref q.1)), I1.laid (t' := tk) (fun b u e => ?_) (Nat.le_refl _) ⟨hlen, out.toList, c, by rw [e']; exact vals_of_refs L', hc2⟩, rfl, q L' _ pL ((pL.map (·.2)).nodup_iff.mpr hn) pw (I1.hok.fresh (Nat.le_refl _))⟩
  have hlt := Heap.lt_size e
  show (sortedHeap (h'.push (seqObj "list" acc.toList.toArray 0)) h'.objs.size acc.toList out).get? b = some u
  rw [sortedHeap_old (Nat.ne_of_lt hlt) (by rw [size_push']; exact Nat.lt_succ_of_lt hlt)]
  exact Heap.get?_push_of_some _ e
end
end PM

set_option maxHeartbeats 4000000
/-! PM: set(xs) of a list of tuples of whole numbers, xs of any length, few of them distinct (the library's own rule wants xs short). -/
namespace PM
open PySem PySem.Spec PyProof.Rows L2
/-- of these tuples few are distinct -/
def Few (ks : List (Addr × List Int)) : Prop := ∀ L : List (Addr × List Int), (∀ p ∈ L, p ∈ ks) → (L.map (·.2)).Nodup → L.length < 63
section
variable {P : Program} {w : World} {A : Around} {E : Value → Shared → Prop} {s : Shared}
/-- the set at S holds what the first i items gave; the heap h0 still stands -/
structure Half (P : Program) (w : World) (h0 : Heap) (S : Addr) (ks : List (Addr × List Int)) (i : Nat) (h : Heap) : Prop where
  old : ∀ b o, h0.get? b = some o → h.get? b = some o
  got : ∃ L es ep t, SetTR P w h S L es ep t ∧ Got ks i L
section
variable {I S : Addr} {fp wr : List Addr} {G : Array GenState → Array GenState → Prop} {n : Nat} {Pv : Nat → Value → Prop} {St : Nat → Shared → Prop} {R : Result → Shared → Prop} {ks : List (Addr × List Int)} {h0 : Heap}
theorem Half.move {i : Nat} {s s' : Shared} (h : Half P w h0 S ks i s.heap) (m : Moved wr G s s') (hSw : S ∉ wr) (hw0 : ∀ b ∈ wr, h0.get? b = none) (hk : ∀ p ∈ ks, IsT P w h0 p.2 p.1) : Half P w h0 S ks i s'.heap := by
  have old : ∀ b o, h0.get? b = some o → s'.heap.get? b = some o := fun b o e => m.heap b o (fun z => by rw [hw0 b z] at e; cases e) (h.old b o e)
  obtain ⟨L, es, ep, t, r, g⟩ := h.got
  exact ⟨old, L, es, ep, t, r.keep (fun o e => m.heap S o hSw e) (fun p hp => isT_keep (hk p (List.mem_of_mem_take (g.sub p hp))) old), g⟩
/-- one more item is added -/
theorem Half.add {i : Nat} {s : Shared} {p : Addr × List Int} {Q : Bool → Shared → Prop} (few : Few ks) (h : Half P w h0 S ks i s.heap) (hp : ks[i]? = some p) (hk : ∀ p ∈ ks, IsT P w h0 p.2 p.1) (hS0 : h0.get? S = none) (hu : A.in1.units < cLine)
    (q : ∀ (b : Bool) (h' : Heap) (tk : Nat), s.toks ≤ tk → Heap.SameBut S s.heap h' → Half P w h0 S ks (i + 1) h' → Q b { s with heap := h', toks := tk }) :
    wpAny (model P w) A.in1 (setAdd S (.ref p.1)) Q E s := by
  obtain ⟨L, es, ep, t, r, g⟩ := h.got
  have hx : IsT P w s.heap p.2 p.1 := isT_keep (hk p (List.mem_of_getElem? hp)) h.old
  have room : L.length + 1 < 64 := Nat.succ_lt_succ (few L (fun u hu => List.mem_of_mem_take (g.sub u hu)) r.nd)
  unfold setAdd
  refine wpAny_holding (wpAny_bind (wpAny_pyHash_tuple hu hx (add_at (s := { s with toks := s.toks + (p.2.length + 1) }) r hx hu room fun b h' L' es' ep' t' hsb r' c1 c2 => ?_)))
  refine q b h' _ (Nat.le_add_right _ _) hsb ⟨fun c o e => (hsb.2 c (fun z => by rw [z, hS0] at e; cases e)).trans (h.old c o e), L', es', ep', t', r', ?_⟩
  by_cases c : p.2 ∈ L.map (·.2)
  · rw [c1 c]; exact g.same hp c
  · exact g.more hp (c2 c)
/-- the loop of set.update, from the i-th item on -/
theorem upd_from (W : WalksS P w A.in1 I fp wr G n Pv St) (hSf : S ∉ fp) (hn : n = ks.length) (few : Few ks) (hval : ∀ i v, Pv i v → ∃ p, ks[i]? = some p ∧ v = .ref p.1)
    (hk : ∀ p ∈ ks, IsT P w h0 p.2 p.1) (hS0 : h0.get? S = none) (hw0 : ∀ b ∈ wr, h0.get? b = none) (hu : A.in1.units < cLine) :
    ∀ (k i : Nat) (s : Shared), i + k = n → St i s → Half P w h0 S ks i s.heap → (∀ s', Moved (S :: wr) G s s' → Half P w h0 S ks n s'.heap → R (.ok (.ret .none)) s') →
      codeAny (model P w) A (.builtin "set.update.loop" ⟨[.ref S, .ref I], []⟩) R s := by
  have hSw : S ∉ wr := fun h => hSf (W.sub _ h)
  have more : ∀ b ∈ wr, b ∈ S :: wr := fun b hb => List.mem_cons_of_mem _ hb
  intro k
  induction k with
  | zero =>
    rintro i s hik hst hf hR
    obtain rfl : i = n := hik
    refine codeAny_builtin F.entry_set_update_loop ?_
    rw [Around.under_plainId F.plain_set_update_loop _]
    exact wpAny_bind (W.done s _ _ hst fun s' m => wpAny_pure (hR s' (m.mono more) (hf.move m hSw hw0 hk)))
  | succ k ih =>
    rintro i s hik hst hf hR
    refine codeAny_builtin F.entry_set_update_loop ?_
    rw [Around.under_plainId F.plain_set_update_loop _]
    refine wpAny_bind (W.item i s _ _ (by omega) hst fun v s' hP hst' m => ?_)
    obtain ⟨p, hp, rfl⟩ := hval i v hP
    refine wpAny_bind (wpAny_holding (Half.add few (hf.move m hSw hw0 hk) hp hk hS0 hu fun b h' tk ht hsb hf' => ?_))
    refine wpAny_pure ⟨plainId_quiet F.plain_set_update_loop _, ih (i + 1) _ (by omega) (W.frame _ s' _ _ hst' ht fun c hc o e => ?_) hf' fun s'' m'' hf'' => hR s'' (Moved.trans W.gtrans ((m.mono more).then_heap ht fun c o hc e => ?_) m'') hf''⟩
    · rw [hsb.2 c (fun z : c = S => hSf (z ▸ hc))]; exact e
    · rw [hsb.2 c (fun z : c = S => hc (z ▸ List.mem_cons_self))]; exact e
end
/-- a new set, empty -/
abbrev set0 (w : World) : Obj := { cls := .type "set", dict := none, data := .set #[] 0 (.fresh 0 0 (!w.params.followText "set-order")) }
theorem size_none (h : Heap) {b : Addr} (hb : h.objs.size ≤ b) : h.get? b = none := by
  cases q : h.get? b with
  | none => rfl
  | some o => exact absurd (Heap.lt_size q) (Nat.not_lt.mpr hb)
/-- set.__init__(S, l) for the new set S: the items of l -/
theorem init_from {l : Addr} {items : Array Value} {ks : List (Addr × List Int)} (hh : A.handled = none) (hl : s.heap.IsList l items) (hit : items.toList = ks.map fun p => Value.ref p.1) (hk : ∀ p ∈ ks, IsT P w s.heap p.2 p.1) (few : Few ks) (hu : A.units + 3 < cLine)
    {Q : PySem.Fin → Shared → Prop} (h : ∀ (h' : Heap) (tk : Nat), Half P w s.heap s.heap.objs.size ks ks.length h' → Q (.done (.ret .none)) { s with heap := h', toks := tk }) :
    wpAny (model P w) A.in1.in1 (Builtin.«set.__init__» ⟨[.ref s.heap.objs.size, .ref l], []⟩) Q E { s with heap := s.heap.push (set0 w) } := by
  have hisz : items.size = ks.length := by rw [← Array.length_toList, hit, List.length_map]
  obtain ⟨ol, hol, hcl, nl, hdl⟩ := hl
  obtain ⟨ocls, odict, odata, oslots⟩ := ol
  simp only at hcl hdl
  subst hcl; subst hdl
  have hol' : (s.heap.push (set0 w)).get? l = some { cls := .type "list", dict := odict, data := .seq items nl, slots := oslots } := Heap.get?_push_of_some _ hol
  have hsls := F.sub_list_set
  have hslf := F.sub_list_frozenset
  have hne : (Value.type "list" == Value.type "dict") = false := by decide
  have hl1 : (s.heap.push (set0 w)).IsList l items := ⟨_, hol', rfl, nl, rfl⟩
  unfold Builtin.«set.__init__» noKeywords Builtin.Frozenset.updateFrom
  generalize hPI : pyIter = PI
  wp_walk
  subst hPI
  refine wpAny_pyIter_list hl1 ?_
  refine wpAny_bind (wpAny_runValue ?_)
  have hlS : l < s.heap.objs.size := Heap.lt_size hol
  have hz1 : (s.heap.push (set0 w)).objs.size = s.heap.objs.size + 1 := Heap.size_push ..
  have hS : (s.heap.push (set0 w)).get? s.heap.objs.size = some (set0 w) := Heap.get?_push_size _ rfl
  have hval : ∀ (i : Nat) (v : Value), items[i]? = some v → ∃ p, ks[i]? = some p ∧ v = .ref p.1 := fun i v hv => by
    have q : items.toList[i]? = some v := by rw [Array.getElem?_toList]; exact hv
    rw [hit, List.getElem?_map] at q
    cases hq : ks[i]? with
    | none => rw [hq] at q; cases q
    | some p => rw [hq] at q; exact ⟨p, rfl, (Option.some.inj q).symm⟩
  have hneI : l ≠ (s.heap.push (set0 w)).objs.size := by rw [hz1]; exact Nat.ne_of_lt (Nat.lt_succ_of_lt hlS)
  have hSf : s.heap.objs.size ∉ [(s.heap.push (set0 w)).objs.size, l] := by
    rw [hz1]; simp only [List.mem_cons, List.not_mem_nil, or_false, not_or]
    exact ⟨Nat.ne_of_lt (Nat.lt_succ_self _), Nat.ne_of_gt hlS⟩
  have hh3 : A.in1.in1.in1.handled = none := by simp [hh]
  refine upd_from ((Walks.list hh3 _ l hneI items).toS) hSf hisz few hval hk (size_none _ (Nat.le_refl _)) (fun b hb => size_none _ (by
      rw [List.mem_singleton.mp hb, hz1]
      exact Nat.le_succ _)) hu items.size 0 _ (Nat.zero_add _) ⟨⟨_, Heap.get?_push_size _ rfl, rfl, rfl⟩, (hl1.push _)⟩
    ⟨fun b o e => Heap.get?_push_of_some _ (Heap.get?_push_of_some _ e), [], #[], 0, _, setTR_fresh (Heap.get?_push_of_some _ hS), Got.zero ks⟩ fun s' m hf => ?_
  obtain ⟨h', g2, d', tk', os'⟩ := s'
  have eg : g2 = s.gens := m.gens
  have ed : d' = s.drawn := m.drawn
  have eo : os' = s.os := m.os
  subst eg; subst ed; subst eo
  rw [hisz] at hf
  exact wpAny_pure (wpAny_pure (h h' tk' hf))
set_option maxHeartbeats 3200000 in
/-- set(l) -/
theorem call_setF {l : Addr} {items : Array Value} {ks : List (Addr × List Int)} {Q : Value → Shared → Prop} (hh : A.handled = none) (hl : s.heap.IsList l items) (hit : items.toList = ks.map fun p => Value.ref p.1) (hk : ∀ p ∈ ks, IsT P w s.heap p.2 p.1) (few : Few ks) (hu : A.units + 3 < cLine)
    (h : ∀ (h' : Heap) (tk : Nat), Half P w s.heap s.heap.objs.size ks ks.length h' → Q (.ref s.heap.objs.size) { s with heap := h', toks := tk }) :
    wpAny (model P w) A (call (.type "set") [.ref l]) Q E s := by
  obtain ⟨c, tl, hmro⟩ := F.called_set.mro
  have hmade := F.called_set.made
  have hsub := F.called_set.sub
  refine wpAny_call (codeAny_of_tree ?_)
  show wpAny _ _ (callAny (.type "set") _) _ _ _
  refine wpAny_pure ⟨Code.quiet_builtin _ (by decide +kernel), codeAny_builtin F.entry_type_call ?_⟩
  rw [Around.under_plain (weight_type_call_type "set" [.ref l] []) rfl]
  have h1 := F.called_set.notType
  have h2 := F.called_set.canCreate
  have hct := F.typeCall_set_1 (.ref l)
  repeat (any_goals (first | assumption | wp_step))
  refine codeAny_mono (code_set_led1 (.ref l) (E := E) (Q₁ := fun obj s₁ => obj = .ref s.heap.objs.size ∧ s₁ = { s with heap := s.heap.push (set0 w) }) ⟨rfl, rfl⟩) fun r s₁ hr => ?_
  match r, hr with
  | .error e, hr => exact hr
  | .ok (.ret obj), hr =>
    obtain ⟨rfl, rfl⟩ := hr
    have hT : Shared.TypeIs { s with heap := s.heap.push (set0 w) } (.ref s.heap.objs.size) "set" := ⟨_, Heap.get?_push_size _ rfl, rfl⟩
    have hli := F.called_set.init.lookup
    have hbi := F.called_set.init.bind (.ref s.heap.objs.size)
    repeat (any_goals (first | assumption | wp_step))
    refine codeAny_mono (codeAny_call_builtin (R := wants (fun r s₂ => r = .none ∧ ∃ h' tk, s₂ = { s with heap := h', toks := tk } ∧ Half P w s.heap s.heap.objs.size ks ks.length h') E) F.called_set.init.plain F.entry_set_init
      (check_set_init_1 hT (init_from hh hl hit hk few hu fun h' tk hf => ⟨rfl, h', tk, rfl, hf⟩))) fun r₂ s₂ hr₂ => ?_
    match r₂, hr₂ with
    | .error e, hr₂ => exact hr₂
    | .ok (.ret r), hr₂ =>
      obtain ⟨rfl, h', tk, rfl, hf⟩ := hr₂
      repeat (any_goals (first | assumption | wp_step))
      exact h _ _ hf
end
end PM

set_option maxHeartbeats 2000000
/-! PM: dicts of pairs as rules; sorted(dict of pairs), sorted(set(list of pairs)), sorted(tuple of whole numbers). -/
namespace PM
open PySem PySem.Spec PyProof.Rows L2
def tupI (k : List Int) : PV := .tup (k.map .int)
section
variable {K : PySem.W.Frag} {S : Wd}
theorem Rp.tupI {k : List Int} {v : V} (h : Rp K S (tupI k) v) : ∃ a, v = .ref a ∧ TupAt K S a (k.map V.int) := by
  unfold PM.tupI Rp at h
  obtain ⟨a, vs, e, t, r⟩ := h
  rw [Rps.ints.mp r] at t
  exact ⟨a, e, t⟩
theorem Rp.tupI' {k : List Int} {a : Addr} (h : TupAt K S a (k.map V.int)) : Rp K S (PM.tupI k) (.ref a) := by
  unfold PM.tupI Rp
  exact ⟨a, _, rfl, h, Rps.ints.mpr rfl⟩
theorem Rps.tupI : ∀ {ks : List (List Int)} {vs : List V}, Rps K S (ks.map PM.tupI) vs → ∃ L : List (Addr × List Int), vs = L.map (fun p => V.ref p.1) ∧ L.map (·.2) = ks ∧ ∀ p ∈ L, TupAt K S p.1 (p.2.map V.int)
  | [], vs, h => ⟨[], by unfold Rps at h; exact h, rfl, fun p hp => by cases hp⟩
  | k :: ks, vs, h => by
    rw [List.map_cons] at h
    unfold Rps at h
    obtain ⟨v, r, e, h1, h2⟩ := h
    obtain ⟨a, e1, t⟩ := h1.tupI
    obtain ⟨L, e2, e3, e4⟩ := Rps.tupI h2
    refine ⟨(a, k) :: L, by rw [e, e1, e2]; rfl, by rw [List.map_cons, e3], fun p hp => ?_⟩
    rcases List.mem_cons.mp hp with z | z
    · rw [z]; exact t
    · exact e4 p z
theorem Rps.tupI' : ∀ {L : List (Addr × List Int)}, (∀ p ∈ L, TupAt K S p.1 (p.2.map V.int)) → Rps K S ((L.map (·.2)).map PM.tupI) (L.map fun p => V.ref p.1)
  | [], _ => Rps.nil
  | p :: L, h => Rps.cons (Rp.tupI' (h p List.mem_cons_self)) (Rps.tupI' fun q hq => h q (List.mem_cons_of_mem _ hq))
end
/-! ### a dict of pairs -/
section
variable {X : Cx} {f : Fx} {c : List Ow} {e : Expr} {te : TEm} {pos : Pos}
theorem em_dnewP : PEm X c .fr (.Dict [] [] pos) (mC (.pdic [])) := ⟨pe_dnewP.weak fun σ H Q h p n => by
  obtain ⟨G, A, W, env, P, R, h, k⟩ := h
  exact k (.pdic []) (.ref p) _ (Grow.new R.src n) ⟨p, rfl, n, ⟨[], upd_same, rfl, fun q hq => by cases hq⟩⟩ h⟩
def addK (ks : List (List Int)) (k : List Int) : List (List Int) := if k ∈ ks then ks else ks ++ [k]
/-- d[k] = True for a dict of one's own -/
def sDPutT (i : Nat) (ti te : TEm) : TSm := fun M env => te env fun p => p = .bl true ∧ ∃ ks, env[i]? = some (some (.pdic ks)) ∧ ti env fun q => ∃ k, q = tupI k ∧ ks.length < sizeLine ∧ M.nx (env.set i (some (.pdic (addK ks k))))
theorem sm_dputT (i : Nat) {x : Str} {p1 p3 : Pos} {ei : Expr} {ti : TEm} (hu : X.A.units + 1 < cLine) (he : PEm X c .cl e te) (hk : PEm X c .cl ei ti) (hN : X.N[i]? = some x := by rfl) (hc : cO c i = .ow := by rfl) (hv : Vis X.env.scope x := by first | exact Or.inl rfl | exact Or.inr (Or.inl rfl) | exact Or.inr (Or.inr rfl)) (hd : (x == ("__debug__" : Str)) = false := by decide)
    (hcd : (x == ("__classdict__" : Str)) = false := by decide) (hs : swapsWith e (some (.Subscript (.Name x p1) ei p3)) pos.line X.env = pure false := by rfl) :
    PSm X f c c (.Assign [.Subscript (.Name x p1) ei p3] e pos) (sDPutT i ti te) := ⟨(ps_dputP hu (pe_var hN hv hd hcd) hk.run he.run hs).weak fun D σ H h => by
  obtain ⟨G, A, W, env, M, hg, R, h, k⟩ := h
  refine ⟨G, A, W, env, _, R, h, fun p v H1 g rv ⟨ep, ks, e0, h1⟩ => ?_⟩
  subst ep
  have R1 := R.grow g
  obtain ⟨a, hA⟩ := R1.Aset i _ (by rw [hc]; decide) e0
  obtain ⟨v0, hσ, hh⟩ := R1.slots i _ e0
  rw [hA] at hh
  obtain ⟨rfl, _⟩ := hh
  refine ⟨.ref a, hσ, G, A, W, env, _, R1, h1, fun q w H2 g2 rq ⟨key, hkq, hsz, h2⟩ => ?_⟩
  subst hkq
  have R2 := R1.grow g2
  obtain ⟨v2, _, hh2⟩ := R2.slots i _ e0
  rw [hA] at hh2
  obtain ⟨_, L, hH2, hl, r2⟩ := hh2
  obtain ⟨b, rfl, tb⟩ := (show Rp X.K _ (tupI key) w from rq).tupI
  have rv : v = .bl true := by have r := rv.c; unfold Rp at r; exact r
  refine ⟨a, L, b, key, rv, rfl, hH2, rfl, tb.sq, fun p hp => (r2 p hp).sq, by rw [← hl, List.length_map] at hsz; exact hsz, ?_⟩
  refine k.nx A W _ σ _ (R2.mut e0 hA hc ?_) h2
  have za : Zt G A W a := .inr (.inr ⟨i, hA⟩)
  have x : ∀ o, Ext ⟨Zt G A W, W, H2⟩ ⟨Zt G A W, W, upd H2 a o⟩ := fun o => ⟨fun b w hz e => ⟨hz, by show upd H2 a o b = some w; rw [upd_ne (fun z => hz (by rw [z]; exact za))]; exact e⟩, fun _ h => h⟩
  refine ⟨putP L key b, upd_same, by rw [putP_keys, hl]; rfl, fun p hp => ?_⟩
  have hp' : p ∈ L ∨ p = (b, key) := by
    unfold putP at hp
    split at hp
    · exact .inl hp
    · rcases List.mem_append.mp hp with z | z
      · exact .inl z
      · exact .inr (List.mem_singleton.mp z)
  rcases hp' with z | z
  · exact (r2 p z).ext (x _)
  · rw [z]; exact tb.ext (x _)⟩
end
/-! ### sorted -/
/-- d whole numbers in [0, B) each -/
def KOk (d : Nat) (B : Int) (ks : List (List Int)) : Prop := 1 ≤ d ∧ ∀ k ∈ ks, k.length = d ∧ TS.Bd B k
def oSortPD : POn := fun xs P => ∃ ks d B, xs = [.pdic ks] ∧ KOk d B ks ∧ ks.length < 64 ∧ ∀ ys : List (List Int), ys.Nodup → (∀ k, k ∈ ys ↔ k ∈ ks) → ys.Pairwise (fun k l => TS.code B k ≤ TS.code B l) → P (.lst (ys.map tupI))
theorem lift_sortPD {K : PySem.W.Frag} : LiftN K (rSortedPD K) oSortPD .fr := by
  rintro Z W H ps vs P Q S r ⟨ks, d, B, rfl, hk, h64, hp⟩ k
  obtain ⟨v, rfl, rv⟩ := r.one
  obtain ⟨a, L, rfl, _, e, el, r1⟩ := rv
  subst el
  rw [List.length_map] at h64
  refine ⟨a, L, d, B, rfl, e, fun p hp => (r1 p hp).sq, hk.1, fun p hp => hk.2 p.2 (List.mem_map_of_mem hp), h64, fun L' p pm nd pw n => ?_⟩
  have x : Ext ⟨Z, W, H⟩ ⟨fun b => Z b ∨ b = p, W, upd H p (.lst (L'.map fun q => V.ref q.1))⟩ := ⟨fun b o hz e => ⟨fun z => z.elim hz (ne_of_none e n), by show upd H p _ b = _; rw [upd_ne (ne_of_none e n)]; exact e⟩, fun _ h => h⟩
  refine k (.lst ((L'.map (·.2)).map tupI)) (.ref p) _ (Grow.new S.src n) ⟨p, rfl, n, ⟨_, upd_same, Rps.tupI' fun q hq => (r1 q (pm.mem_iff.mp hq)).ext x⟩⟩ (hp _ nd (fun k => ?_) (List.pairwise_map.mpr pw))
  rw [(pm.map (·.2)).mem_iff]
def FewK (ks : List (List Int)) : Prop := ∀ l : List (List Int), (∀ k ∈ l, k ∈ ks) → l.Nodup → l.length < 63
def rSetF (K : PySem.W.Frag) (P : Program) (w : World) : List V → Hp → VK → Prop := fun xs H Q => ∃ (l : Addr) (ks : List (Addr × List Int)), xs = [V.ref l] ∧ SqL K H l (ks.map fun p => V.ref p.1) ∧ (∀ p ∈ ks, SqT K H p.1 (p.2.map V.int)) ∧ Few ks ∧
  ∀ a L, H a = none → (∀ p ∈ L, p ∈ ks) → (∀ p ∈ ks, p.2 ∈ L.map (·.2)) → Q (.ref a) (upd H a (SetTO P w a L))
theorem cr_setF {X : Cx} (hc : X.calm = true) (hu : X.A.units + 64 < cLine) : CallR X (.type "set") (rSetF X.K X.prog X.w) := by
  intro pins s σ H xs us Q I r h
  obtain ⟨l, ks, rfl, hl, hk, hf, q⟩ := h
  rw [Vals.ref1 r]
  obtain ⟨its, rv, pl, hz⟩ := I.list hl
  have hn : H s.heap.objs.size = none := I.hok.fresh (Nat.le_refl _)
  refine call_setF (P := X.prog) (w := X.w) (ks := ks) (I.ok.hd hc) pl.isList (by simpa using refs_of_vals rv) (fun p hp => I.isT (hk p hp)) hf (by omega) fun h' tk hh => ?_
  obtain ⟨L, es, ep, t, R, g⟩ := hh.got
  refine ⟨.ref s.heap.objs.size, upd H s.heap.objs.size (SetTO X.prog X.w s.heap.objs.size L), I.laid (t' := tk) hh.old (Nat.le_refl _) (setTO_new R.t0), rfl, q _ L hn (fun p hp => ?_) fun p hp => ?_⟩
  · exact List.mem_of_mem_take (g.sub p hp)
  · exact g.all p (by rw [List.take_length]; exact hp)
def rSetSort (K : PySem.W.Frag) (P : Program) (w : World) : List V → Hp → VK → Prop := fun xs H Q => rSetF K P w xs H fun x H1 => rSortedT K P w [x] H1 Q
/-- sorted(set(xs)), xs a list of tuples of whole numbers -/
def oSortSet : POn := fun xs P => ∃ ks d B, xs = [.lst (ks.map tupI)] ∧ KOk d B ks ∧ FewK ks ∧ ∀ ys : List (List Int), ys.Nodup → (∀ k, k ∈ ys ↔ k ∈ ks) → ys.Pairwise (fun k l => TS.code B k ≤ TS.code B l) → P (.lst (ys.map tupI))
theorem lift_sortSet {K : PySem.W.Frag} {P0 : Program} {w0 : World} : LiftN K (rSetSort K P0 w0) oSortSet .fr := by
  rintro Z W H ps vs P Q S r ⟨ks, d, B, rfl, hk, hf, hp⟩ k
  obtain ⟨v, rfl, rv⟩ := r.one
  obtain ⟨l, ws, rfl, e, r1⟩ := rv.lst
  obtain ⟨L, rfl, el, r2⟩ := Rps.tupI r1
  subst el
  refine ⟨l, L, rfl, .inl (.inl e.2), fun p hp => (r2 p hp).sq, fun M hM nd => ?_, fun a L1 n s1 s2 => ?_⟩
  · have := hf (M.map (·.2)) (fun k hk => by obtain ⟨p, hp, rfl⟩ := List.mem_map.mp hk; exact List.mem_map_of_mem (hM p hp)) nd
    rwa [List.length_map] at this
  · have g1 : Grow W H (upd H a (SetTO P0 w0 a L1)) := Grow.new S.src n
    have x1 : Ext ⟨Z, W, H⟩ ⟨Z, W, upd H a (SetTO P0 w0 a L1)⟩ := g1.ext S.wz
    have r3 : ∀ p ∈ L1, TupAt K ⟨Z, W, upd H a (SetTO P0 w0 a L1)⟩ p.1 (p.2.map V.int) := fun p hp => (r2 p (s1 p hp)).ext x1
    refine ⟨a, L1, d, B, rfl, upd_same, fun p hp => (r3 p hp).sq, hk.1, fun p hp => hk.2 p.2 (List.mem_map_of_mem (s1 p hp)), fun L' p pm nd h64 pw n2 => ?_⟩
    have S2 : ∀ q ∈ W, SA (upd H a (SetTO P0 w0 a L1)) q := g1.src
    have x : Ext ⟨Z, W, upd H a (SetTO P0 w0 a L1)⟩ ⟨fun b => Z b ∨ b = p, W, upd (upd H a (SetTO P0 w0 a L1)) p (.lst (L'.map fun q => V.ref q.1))⟩ := ⟨fun b o hz e => ⟨fun z => z.elim hz (ne_of_none e n2), by show upd _ p _ b = _; rw [upd_ne (ne_of_none e n2)]; exact e⟩, fun _ h => h⟩
    refine k (.lst ((L'.map (·.2)).map tupI)) (.ref p) _ (g1.trans (Grow.new S2 n2)) ⟨p, rfl, g1.free n2, ⟨_, upd_same, Rps.tupI' fun q hq => (r3 q (pm.mem_iff.mp hq)).ext x⟩⟩ (hp _ nd (fun k => ?_) (List.pairwise_map.mpr pw))
    rw [(pm.map (·.2)).mem_iff]
    constructor
    · intro h
      obtain ⟨p, hp, rfl⟩ := List.mem_map.mp h
      exact List.mem_map_of_mem (s1 p hp)
    · intro h
      obtain ⟨p, hp, rfl⟩ := List.mem_map.mp h
      exact s2 p hp
/-- f(T(e)), f a built-in function, T a built-in class -/
theorem em_callBT {X : Cx} {c : List Ow} {md : Md} {id T : String} {x y : Str} {p q pos pos2 : Pos} {r r2 : List V → Hp → VK → Prop} {o : POn} {e : Expr} {es : List Expr} {t : TAm} (hc : CallR X (.builtin id) r) (hc2 : CallR X (.type T) r2) (L : LiftN X.K (fun xs H Q => r2 xs H fun v H1 => r [v] H1 Q) o md)
    (hg : Gl X x) (hm : X.mg x = none) (hv : bootBuiltins x = some (.builtin id)) (hg2 : Gl X y) (hm2 : X.mg y = none) (hv2 : bootBuiltins y = some (.type T)) (ha : PAm X c .ow (e :: es) t) (hn : x ≠ "__name__" := by decide) (hdb : (x == ("__debug__" : Str)) = false := by decide) (hn2 : y ≠ "__name__" := by decide) (hdb2 : (y == ("__debug__" : Str)) = false := by decide)
    (he : starEach [.Call (.Name y q) (e :: es) [] pos2] X.env = (false, eval (.Call (.Name y q) (e :: es) [] pos2) X.env) :: starEach [] X.env := by rfl) (hpl : (backTo pos (starEach [] X.env)).any (·.1) = false := by rfl)
    (he2 : starEach (e :: es) X.env = (false, eval e X.env) :: starEach es X.env := by rfl) (hpl2 : (backTo pos2 (starEach es X.env)).any (·.1) = false := by rfl) :
    PEm X c md (.Call (.Name x p) [.Call (.Name y q) (e :: es) [] pos2] [] pos) (mB o t) :=
  ⟨(pe_callB hc hg hm hv (pa_cons (pe_callTy hc2 hg2 hm2 hv2 ha.run hn2 hdb2 he2 hpl2) pa_nil he) hn hdb he hpl).weak fun σ H Q h => tmN L σ H Q h⟩
/-- sorted(xs), xs a tuple of fewer than 64 whole numbers -/
def rSortedTI (K : PySem.W.Frag) : List V → Hp → VK → Prop := fun vs H Q => ∃ (a : Addr) (ns : List Int), vs = [V.ref a] ∧ SqT K H a (ns.map V.int) ∧ ns.length < 64 ∧
  ∀ (ys : List Int) (p : Addr), ys.Perm ns → ys.Pairwise (· ≤ ·) → H p = none → Q (.ref p) (upd H p (.lst (ys.map V.int)))
theorem cr_sortedTI {X : Cx} : CallR X (.builtin "sorted") (rSortedTI X.K) := by
  intro pins s σ H vs us Q I r h
  obtain ⟨a, ns, rfl, hs, h64, q⟩ := h
  obtain ⟨its, rv, ⟨o, ho, hcl, n, hd⟩, hz⟩ := I.tuple hs
  rw [Vals.ref1 r]
  have hS : IntsAre its ns := rv.ints
  have hal : its.length = ns.length := by rw [← rv.length, List.length_map]
  refine Calls.call_function_entry kind_sorted plain_sorted entry_sorted (args_sorted1 _) ?_
  unfold Builtin.«sorted»
  refine wpAny_bind (m := checkCount "sorted" 1 1 _) (wpAny_pure ?_)
  refine wpAny_bind (wpAny_collect_seq (A := X.A.in1) a (.inr rfl) ho hcl hd (hsz := by rw [List.size_toArray, hal, sizeLine_eq]; omega) fun h' hk2 => ?_)
  rw [show its.toArray.toList = its from rfl]
  have I1 : Inv X pins σ H { s with heap := h', toks := s.toks } := I.kept hk2
  refine wpAny_bind (wpAny_newList ?_ (by rw [hal, sizeLine_eq]; omega))
  have hoL : (h'.push (seqObj "list" its.toArray 0)).get? h'.objs.size = some (seqObj "list" its.toArray 0) := Heap.get?_push_size _ rfl
  show wpAny _ _ _ _ _ { s with heap := h'.push (seqObj "list" its.toArray 0) }
  refine wpAny_bind (wpAny_holding (wpAny_call_entry slot_list_sort ⟨_, hoL, rfl⟩ entry_list_sort
    (list_sort_tree (s := { s with heap := h'.push (seqObj "list" its.toArray 0) }) hoL hS (by rw [hal]; exact h64) fun out ys g1 g2 g3 => ⟨_, rfl, ?_⟩) (args_list_sort _)))
  obtain ⟨e', he'⟩ := sortedHeap_at (vs := its) (out := out) hoL
  have hlen : (ys.map V.int).length ≤ sizeLine := by
    rw [List.length_map, g2.length_eq]
    exact Nat.le_trans (Nat.le_of_lt h64) (by decide)
  refine wpAny_pure ⟨_, rfl, .ref h'.objs.size, upd H h'.objs.size (.lst (ys.map V.int)), I1.laid (t' := s.toks) (fun b u e => ?_) (Nat.le_refl _)
    (show ObjOk X.prog X.w _ _ _ (.lst (ys.map V.int)) from ⟨hlen, out.toList, e', vals_of_ints g1, by rw [Array.toArray_toList]; exact he'⟩), rfl, q ys _ g2 g3 (I1.hok.fresh (Nat.le_refl _))⟩
  have hb : b < h'.objs.size := Heap.lt_size e
  rw [sortedHeap_old (Nat.ne_of_lt hb) (by rw [size_push']; exact Nat.lt_succ_of_lt hb)]
  exact Heap.get?_push_of_some _ e
/-- sorted(xs), xs a list or a tuple of whole numbers -/
def oSortTI : POn := fun xs P => ∃ ns : List Int, xs = [.tup (ns.map .int)] ∧ ns.length < 64 ∧ P (.lst ((isort ns).map .int))
theorem lift_sortTI {K : PySem.W.Frag} : LiftN K (rSortedTI K) oSortTI .fr := by
  rintro Z W H ps vs P Q S r ⟨ns, rfl, h64, hp⟩ k
  obtain ⟨v, rfl, rv⟩ := r.one
  obtain ⟨a, ws, rfl, e, r1⟩ := rv.tup
  have ew := Rps.ints.mp r1
  subst ew
  refine ⟨a, ns, rfl, e.sq, h64, fun ys p hy hs n => ?_⟩
  rw [isort_eq hy hs]
  exact k _ _ _ (Grow.new S.src n) ⟨p, rfl, n, OwnAt.newLst n (Rps.ints.mpr rfl)⟩ hp
theorem hu64_of {A : Around} {k : Nat} (hr : Room k A) : A.units + 64 < cLine := by have := hu65_of hr; omega
end PM

set_option maxHeartbeats 1000000
namespace K24
open PySem PySem.Spec PyProof.Rows L2 PM
/-! ### the text -/
def topS (i : Nat) : Stmt := PySem.Challenge.pw_keysapart_k24_whole_papers_out_of_notes.main.body.getD i (.Pass ⟨0, 0, 0, 0⟩)
abbrev s_holders : Stmt := topS 1
abbrev n_holders : List Str := ["course", "notes", "i", "giving", "signed", "note", "house"]
abbrev p_holders : List Str := ["course", "notes", "i", "giving"]
theorem S_holders : FnScope n_holders p_holders (defScope s_holders) := ⟨rfl, rfl, rfl, by decide +kernel, rfl, by decide +kernel, by decide +kernel⟩
abbrev s_is_complete : Stmt := topS 2
abbrev n_is_complete : List Str := ["numbers", "course", "notes", "i", "giving", "gone", "signed", "house"]
abbrev p_is_complete : List Str := ["numbers", "course", "notes", "i", "giving", "gone"]
theorem S_is_complete : FnScope n_is_complete p_is_complete (defScope s_is_complete) := ⟨rfl, rfl, rfl, by decide +kernel, rfl, by decide +kernel, by decide +kernel⟩
abbrev s_dealings_named : Stmt := topS 3
abbrev n_dealings_named : List Str := ["course", "notes", "i", "found", "note", "pair"]
abbrev p_dealings_named : List Str := ["course", "notes", "i"]
theorem S_dealings_named : FnScope n_dealings_named p_dealings_named (defScope s_dealings_named) := ⟨rfl, rfl, rfl, by decide +kernel, rfl, by decide +kernel, by decide +kernel⟩
abbrev s_complete_dealings : Stmt := topS 4
abbrev n_complete_dealings : List Str := ["numbers", "course", "notes", "i", "gone", "named", "pair"]
abbrev p_complete_dealings : List Str := ["numbers", "course", "notes", "i", "gone"]
theorem S_complete_dealings : FnScope n_complete_dealings p_complete_dealings (defScope s_complete_dealings) := ⟨rfl, rfl, rfl, by decide +kernel, rfl, by decide +kernel, by decide +kernel⟩
abbrev s_fillable : Stmt := topS 5
abbrev n_fillable : List Str := ["numbers", "course", "notes", "i", "liars", "gone", "lies", "pair", "house"]
abbrev p_fillable : List Str := ["numbers", "course", "notes", "i", "liars", "gone"]
theorem S_fillable : FnScope n_fillable p_fillable (defScope s_fillable) := ⟨rfl, rfl, rfl, by decide +kernel, rfl, by decide +kernel, by decide +kernel⟩
abbrev s_is_integer : Stmt := topS 10
abbrev n_is_integer : List Str := ["value"]
abbrev p_is_integer : List Str := ["value"]
theorem S_is_integer : FnScope n_is_integer p_is_integer (defScope s_is_integer) := ⟨rfl, rfl, rfl, by decide +kernel, rfl, by decide +kernel, by decide +kernel⟩
abbrev s_is_number : Stmt := topS 11
abbrev n_is_number : List Str := ["value", "most"]
abbrev p_is_number : List Str := ["value", "most"]
theorem S_is_number : FnScope n_is_number p_is_number (defScope s_is_number) := ⟨rfl, rfl, rfl, by decide +kernel, rfl, by decide +kernel, by decide +kernel⟩
abbrev s_Numbers : Stmt := inClass (topS 16) 0
abbrev n_Numbers : List Str := ["self", "k", "f", "l", "d", "t", "w"]
abbrev p_Numbers : List Str := ["self", "k", "f", "l", "d", "t", "w"]
theorem S_Numbers : FnScope n_Numbers p_Numbers (defScope s_Numbers) := ⟨rfl, rfl, rfl, by decide +kernel, rfl, by decide +kernel, by decide +kernel⟩
abbrev s_wiped_by : Stmt := topS 18
abbrev n_wiped_by : List Str := ["course", "notes", "i", "signed", "note", "house"]
abbrev p_wiped_by : List Str := ["course", "notes", "i"]
theorem S_wiped_by : FnScope n_wiped_by p_wiped_by (defScope s_wiped_by) := ⟨rfl, rfl, rfl, by decide +kernel, rfl, by decide +kernel, by decide +kernel⟩
abbrev s_most_keepers : Stmt := topS 19
abbrev n_most_keepers : List Str := ["numbers", "course", "notes", "i", "signed"]
abbrev p_most_keepers : List Str := ["numbers", "course", "notes", "i"]
theorem S_most_keepers : FnScope n_most_keepers p_most_keepers (defScope s_most_keepers) := ⟨rfl, rfl, rfl, by decide +kernel, rfl, by decide +kernel, by decide +kernel⟩
abbrev s_is_laid_down : Stmt := topS 20
abbrev n_is_laid_down : List Str := ["numbers", "course", "notes", "i"]
abbrev p_is_laid_down : List Str := ["numbers", "course", "notes", "i"]
theorem S_is_laid_down : FnScope n_is_laid_down p_is_laid_down (defScope s_is_laid_down) := ⟨rfl, rfl, rfl, by decide +kernel, rfl, by decide +kernel, by decide +kernel⟩
abbrev s_l_heap : Stmt := topS 22
abbrev n_l_heap : List Str := ["script", "great", "cell", "cells", "stir"]
abbrev p_l_heap : List Str := ["script"]
theorem S_l_heap : FnScope n_l_heap p_l_heap (defScope s_l_heap) := ⟨rfl, rfl, rfl, by decide +kernel, rfl, by decide +kernel, by decide +kernel⟩
abbrev s_l_draw : Stmt := topS 23
abbrev n_l_draw : List Str := ["heap", "many", "rest"]
abbrev p_l_draw : List Str := ["heap", "many"]
theorem S_l_draw : FnScope n_l_draw p_l_draw (defScope s_l_draw) := ⟨rfl, rfl, rfl, by decide +kernel, rfl, by decide +kernel, by decide +kernel⟩
abbrev s_l_pick : Stmt := topS 24
abbrev n_l_pick : List Str := ["heap", "some"]
abbrev p_l_pick : List Str := ["heap", "some"]
theorem S_l_pick : FnScope n_l_pick p_l_pick (defScope s_l_pick) := ⟨rfl, rfl, rfl, by decide +kernel, rfl, by decide +kernel, by decide +kernel⟩
abbrev s_l_like : Stmt := topS 25
abbrev n_l_like : List Str := ["told", "due", "one", "other"]
abbrev p_l_like : List Str := ["told", "due"]
theorem S_l_like : FnScope n_l_like p_l_like (defScope s_l_like) := ⟨rfl, rfl, rfl, by decide +kernel, rfl, by decide +kernel, by decide +kernel⟩
abbrev s_l_some : Stmt := topS 26
abbrev n_l_some : List Str := ["heap", "pool", "many", "turn", "left", "found", "place"]
abbrev p_l_some : List Str := ["heap", "pool", "many"]
theorem S_l_some : FnScope n_l_some p_l_some (defScope s_l_some) := ⟨rfl, rfl, rfl, by decide +kernel, rfl, by decide +kernel, by decide +kernel⟩
abbrev s_l_course : Stmt := topS 27
abbrev n_l_course : List Str := ["heap", "pool", "k", "maps", "lots", "out", "fresh", "house"]
abbrev p_l_course : List Str := ["heap", "pool", "k", "maps"]
theorem S_l_course : FnScope n_l_course p_l_course (defScope s_l_course) := ⟨rfl, rfl, rfl, by decide +kernel, rfl, by decide +kernel, by decide +kernel⟩
abbrev s_l_notes : Stmt := topS 28
abbrev n_l_notes : List Str := ["heap", "course", "pool", "dealings", "turn", "i", "found", "main", "who", "which", "dealer", "seal", "other", "number", "note"]
abbrev p_l_notes : List Str := ["heap", "course", "pool", "dealings"]
theorem S_l_notes : FnScope n_l_notes p_l_notes (defScope s_l_notes) := ⟨rfl, rfl, rfl, by decide +kernel, rfl, by decide +kernel, by decide +kernel⟩
abbrev s_l_holders : Stmt := topS 29
abbrev n_l_holders : List Str := ["course", "notes", "i", "giving", "found", "house"]
abbrev p_l_holders : List Str := ["course", "notes", "i", "giving"]
theorem S_l_holders : FnScope n_l_holders p_l_holders (defScope s_l_holders) := ⟨rfl, rfl, rfl, by decide +kernel, rfl, by decide +kernel, by decide +kernel⟩
abbrev s_l_is_complete : Stmt := topS 30
abbrev n_l_is_complete : List Str := ["w", "course", "notes", "i", "giving", "gone", "signed", "house"]
abbrev p_l_is_complete : List Str := ["w", "course", "notes", "i", "giving", "gone"]
theorem S_l_is_complete : FnScope n_l_is_complete p_l_is_complete (defScope s_l_is_complete) := ⟨rfl, rfl, rfl, by decide +kernel, rfl, by decide +kernel, by decide +kernel⟩
abbrev s_l_named : Stmt := topS 31
abbrev n_l_named : List Str := ["course", "notes", "i", "found", "note", "pair"]
abbrev p_l_named : List Str := ["course", "notes", "i"]
theorem S_l_named : FnScope n_l_named p_l_named (defScope s_l_named) := ⟨rfl, rfl, rfl, by decide +kernel, rfl, by decide +kernel, by decide +kernel⟩
abbrev s_l_wipes : Stmt := topS 32
abbrev n_l_wipes : List Str := ["numbers", "course", "notes", "i", "lot", "signed", "most", "house", "lies"]
abbrev p_l_wipes : List Str := ["numbers", "course", "notes"]
theorem S_l_wipes : FnScope n_l_wipes p_l_wipes (defScope s_l_wipes) := ⟨rfl, rfl, rfl, by decide +kernel, rfl, by decide +kernel, by decide +kernel⟩
abbrev s_law : Stmt := topS 33
abbrev n_law : List Str := "script" :: "heap" :: "pool" :: "course" :: "dealings" :: "sizes" :: "w" :: "numbers" :: "gone" :: "liars" :: "giving" :: "named" :: "due" :: "lies" :: "pair" :: "k" :: "maps" :: "i" :: "notes" :: "turn" :: "house" :: []
abbrev p_law : List Str := ["script"]
theorem S_law : FnScope n_law p_law (defScope s_law) := ⟨rfl, rfl, rfl, by decide +kernel, rfl, by decide +kernel, by decide +kernel⟩
/-- what the top has written -/
structure Tx (K : PySem.W.Frag) (mg : Str → Option Value) : Type where
  a_holders : Addr
  d_holders : FuncData
  f_holders : FunD K "holders" "holders" (defArgs s_holders) (defBody s_holders) (defScope s_holders) [] [] a_holders d_holders
  m_holders : mg "holders" = some (.ref a_holders)
  b_holders : Binds K d_holders p_holders []
  e_is_complete : Addr
  et_is_complete : KTup K e_is_complete []
  a_is_complete : Addr
  d_is_complete : FuncData
  f_is_complete : FunD K "is_complete" "is_complete" (defArgs s_is_complete) (defBody s_is_complete) (defScope s_is_complete) [V.ref e_is_complete] [] a_is_complete d_is_complete
  m_is_complete : mg "is_complete" = some (.ref a_is_complete)
  b_is_complete : Binds K d_is_complete p_is_complete []
  u_is_complete1 : List Value
  b_is_complete1 : Binds K d_is_complete p_is_complete u_is_complete1
  v_is_complete1 : Vals [V.ref e_is_complete] u_is_complete1
  a_dealings_named : Addr
  d_dealings_named : FuncData
  f_dealings_named : FunD K "dealings_named" "dealings_named" (defArgs s_dealings_named) (defBody s_dealings_named) (defScope s_dealings_named) [] [] a_dealings_named d_dealings_named
  m_dealings_named : mg "dealings_named" = some (.ref a_dealings_named)
  b_dealings_named : Binds K d_dealings_named p_dealings_named []
  e_complete_dealings : Addr
  et_complete_dealings : KTup K e_complete_dealings []
  a_complete_dealings : Addr
  d_complete_dealings : FuncData
  f_complete_dealings : FunD K "complete_dealings" "complete_dealings" (defArgs s_complete_dealings) (defBody s_complete_dealings) (defScope s_complete_dealings) [V.ref e_complete_dealings] [] a_complete_dealings d_complete_dealings
  m_complete_dealings : mg "complete_dealings" = some (.ref a_complete_dealings)
  b_complete_dealings : Binds K d_complete_dealings p_complete_dealings []
  u_complete_dealings1 : List Value
  b_complete_dealings1 : Binds K d_complete_dealings p_complete_dealings u_complete_dealings1
  v_complete_dealings1 : Vals [V.ref e_complete_dealings] u_complete_dealings1
  e_fillable : Addr
  et_fillable : KTup K e_fillable []
  a_fillable : Addr
  d_fillable : FuncData
  f_fillable : FunD K "fillable" "fillable" (defArgs s_fillable) (defBody s_fillable) (defScope s_fillable) [V.ref e_fillable] [] a_fillable d_fillable
  m_fillable : mg "fillable" = some (.ref a_fillable)
  b_fillable : Binds K d_fillable p_fillable []
  a_is_integer : Addr
  d_is_integer : FuncData
  f_is_integer : FunD K "is_integer" "is_integer" (defArgs s_is_integer) (defBody s_is_integer) (defScope s_is_integer) [] [] a_is_integer d_is_integer
  m_is_integer : mg "is_integer" = some (.ref a_is_integer)
  b_is_integer : Binds K d_is_integer p_is_integer []
  a_is_number : Addr
  d_is_number : FuncData
  f_is_number : FunD K "is_number" "is_number" (defArgs s_is_number) (defBody s_is_number) (defScope s_is_number) [V.non] [] a_is_number d_is_number
  m_is_number : mg "is_number" = some (.ref a_is_number)
  b_is_number : Binds K d_is_number p_is_number []
  c_Numbers : Addr
  a_Numbers : Addr
  d_Numbers : FuncData
  f_Numbers : FunD K "__init__" "Numbers.__init__" (defArgs s_Numbers) (defBody s_Numbers) (defScope s_Numbers) [] [] a_Numbers d_Numbers
  m_Numbers : mg "Numbers" = some (.ref c_Numbers)
  cl_Numbers : Cls K c_Numbers
  mk_Numbers : Mk K c_Numbers a_Numbers
  na_Numbers_k : NoAttr K c_Numbers "k"
  na_Numbers_f : NoAttr K c_Numbers "f"
  na_Numbers_l : NoAttr K c_Numbers "l"
  na_Numbers_d : NoAttr K c_Numbers "d"
  na_Numbers_t : NoAttr K c_Numbers "t"
  na_Numbers_w : NoAttr K c_Numbers "w"
  b_Numbers : Binds K d_Numbers p_Numbers []
  a_wiped_by : Addr
  d_wiped_by : FuncData
  f_wiped_by : FunD K "wiped_by" "wiped_by" (defArgs s_wiped_by) (defBody s_wiped_by) (defScope s_wiped_by) [] [] a_wiped_by d_wiped_by
  m_wiped_by : mg "wiped_by" = some (.ref a_wiped_by)
  b_wiped_by : Binds K d_wiped_by p_wiped_by []
  a_most_keepers : Addr
  d_most_keepers : FuncData
  f_most_keepers : FunD K "most_keepers" "most_keepers" (defArgs s_most_keepers) (defBody s_most_keepers) (defScope s_most_keepers) [] [] a_most_keepers d_most_keepers
  m_most_keepers : mg "most_keepers" = some (.ref a_most_keepers)
  b_most_keepers : Binds K d_most_keepers p_most_keepers []
  a_is_laid_down : Addr
  d_is_laid_down : FuncData
  f_is_laid_down : FunD K "is_laid_down" "is_laid_down" (defArgs s_is_laid_down) (defBody s_is_laid_down) (defScope s_is_laid_down) [] [] a_is_laid_down d_is_laid_down
  m_is_laid_down : mg "is_laid_down" = some (.ref a_is_laid_down)
  b_is_laid_down : Binds K d_is_laid_down p_is_laid_down []
  a_l_heap : Addr
  d_l_heap : FuncData
  f_l_heap : FunD K "_law_heap" "_law_heap" (defArgs s_l_heap) (defBody s_l_heap) (defScope s_l_heap) [] [] a_l_heap d_l_heap
  m_l_heap : mg "_law_heap" = some (.ref a_l_heap)
  b_l_heap : Binds K d_l_heap p_l_heap []
  a_l_draw : Addr
  d_l_draw : FuncData
  f_l_draw : FunD K "_law_draw" "_law_draw" (defArgs s_l_draw) (defBody s_l_draw) (defScope s_l_draw) [] [] a_l_draw d_l_draw
  m_l_draw : mg "_law_draw" = some (.ref a_l_draw)
  b_l_draw : Binds K d_l_draw p_l_draw []
  a_l_pick : Addr
  d_l_pick : FuncData
  f_l_pick : FunD K "_law_pick" "_law_pick" (defArgs s_l_pick) (defBody s_l_pick) (defScope s_l_pick) [] [] a_l_pick d_l_pick
  m_l_pick : mg "_law_pick" = some (.ref a_l_pick)
  b_l_pick : Binds K d_l_pick p_l_pick []
  a_l_like : Addr
  d_l_like : FuncData
  f_l_like : FunD K "_law_like" "_law_like" (defArgs s_l_like) (defBody s_l_like) (defScope s_l_like) [] [] a_l_like d_l_like
  m_l_like : mg "_law_like" = some (.ref a_l_like)
  b_l_like : Binds K d_l_like p_l_like []
  a_l_some : Addr
  d_l_some : FuncData
  f_l_some : FunD K "_law_some" "_law_some" (defArgs s_l_some) (defBody s_l_some) (defScope s_l_some) [] [] a_l_some d_l_some
  m_l_some : mg "_law_some" = some (.ref a_l_some)
  b_l_some : Binds K d_l_some p_l_some []
  a_l_course : Addr
  d_l_course : FuncData
  f_l_course : FunD K "_law_course" "_law_course" (defArgs s_l_course) (defBody s_l_course) (defScope s_l_course) [] [] a_l_course d_l_course
  m_l_course : mg "_law_course" = some (.ref a_l_course)
  b_l_course : Binds K d_l_course p_l_course []
  a_l_notes : Addr
  d_l_notes : FuncData
  f_l_notes : FunD K "_law_notes" "_law_notes" (defArgs s_l_notes) (defBody s_l_notes) (defScope s_l_notes) [] [] a_l_notes d_l_notes
  m_l_notes : mg "_law_notes" = some (.ref a_l_notes)
  b_l_notes : Binds K d_l_notes p_l_notes []
  a_l_holders : Addr
  d_l_holders : FuncData
  f_l_holders : FunD K "_law_holders" "_law_holders" (defArgs s_l_holders) (defBody s_l_holders) (defScope s_l_holders) [] [] a_l_holders d_l_holders
  m_l_holders : mg "_law_holders" = some (.ref a_l_holders)
  b_l_holders : Binds K d_l_holders p_l_holders []
  a_l_is_complete : Addr
  d_l_is_complete : FuncData
  f_l_is_complete : FunD K "_law_is_complete" "_law_is_complete" (defArgs s_l_is_complete) (defBody s_l_is_complete) (defScope s_l_is_complete) [] [] a_l_is_complete d_l_is_complete
  m_l_is_complete : mg "_law_is_complete" = some (.ref a_l_is_complete)
  b_l_is_complete : Binds K d_l_is_complete p_l_is_complete []
  a_l_named : Addr
  d_l_named : FuncData
  f_l_named : FunD K "_law_named" "_law_named" (defArgs s_l_named) (defBody s_l_named) (defScope s_l_named) [] [] a_l_named d_l_named
  m_l_named : mg "_law_named" = some (.ref a_l_named)
  b_l_named : Binds K d_l_named p_l_named []
  a_l_wipes : Addr
  d_l_wipes : FuncData
  f_l_wipes : FunD K "_law_wipes" "_law_wipes" (defArgs s_l_wipes) (defBody s_l_wipes) (defScope s_l_wipes) [] [] a_l_wipes d_l_wipes
  m_l_wipes : mg "_law_wipes" = some (.ref a_l_wipes)
  b_l_wipes : Binds K d_l_wipes p_l_wipes []
  a_law : Addr
  d_law : FuncData
  f_law : FunD K "law" "law" (defArgs s_law) (defBody s_law) (defScope s_law) [] [] a_law d_law
  m_law : mg "law" = some (.ref a_law)
  gt_MOST_COPIES : Tok
  g_MOST_COPIES : mg "MOST_COPIES" = some (.int 12 gt_MOST_COPIES)
  gt_MOST_DEGREE : Tok
  g_MOST_DEGREE : mg "MOST_DEGREE" = some (.int 6 gt_MOST_DEGREE)
  gt_MOST_PATIENCE : Tok
  g_MOST_PATIENCE : mg "MOST_PATIENCE" = some (.int 200 gt_MOST_PATIENCE)
  z_abs : mg "abs" = none
  z_all : mg "all" = none
  z_bool : mg "bool" = none
  z_enumerate : mg "enumerate" = none
  z_int : mg "int" = none
  z_isinstance : mg "isinstance" = none
  z_len : mg "len" = none
  z_max : mg "max" = none
  z_min : mg "min" = none
  z_range : mg "range" = none
  z_set : mg "set" = none
  z_sorted : mg "sorted" = none
  z_str : mg "str" = none
  z_tuple : mg "tuple" = none
  z_zip : mg "zip" = none
section
variable {P : Program} {w : World} {K : PySem.W.Frag} {mg : Str → Option Value} {base : Heap}
def t_holders : TSm :=
  (sSeq (sSet 4 (mSc (mItems (mVar 1)) [5] (gmN 5) (mTB (mOp oEq (mSl oSl (mVar 5) (mPart (mC (.int 1))) mNo) (mOp oAdd (mTup (mCons (mC (.str (PySem.Str.ofString "hold"))) (mCons (mVar 2) mNil))) (mVar 3)))) (mOp oIx (mVar 5) (mC (.int 0))))) (sRet (mB oTuple (mCons (mLc (mItems (mOp oIx (mVar 0) (mOp oAdd (mVar 2) (mC (.int 1))))) [6] (gmN 6) (mTB (mOp (oInS false) (mVar 6) (mVar 4))) (mVar 6)) mNil))))
theorem w_holders (T : Tx K mg) (cdv : Value) (A : Around) (outer : List PySem.Env) (s : Shared) (H : Hp) (E : XK)
    (hr : Room 0 (A.deeper (PyProof.Rows.envOfC "holders" (defScope s_holders) s.heap.objs.size T.a_holders cdv))) :
    ∃ c', PSsm (bodyX P w K mg base n_holders "holders" s_holders T.a_holders cdv A outer s H E) ⟨.cl, false, []⟩ (shs 7) c' (defBody s_holders) (t_holders) :=
  ⟨[.sh, .sh, .sh, .sh, .sh, .sh, .sh], (sm_cons (sm_set 4 S_holders.nd (em_sk (own := [("note", 5)]) rfl S_holders.nd (im_seq (em_var 1)) (blkOk_by (N := n_holders) (sc := defScope s_holders) (by decide +kernel)) (fun _ _ _ _ _ => (gm_name 5 S_holders.nd)) (fun _ _ _ _ _ => (tsm_one (tm_cmp (op_eqD hr.units) lift_eq (PEm.ow (em_sl (PEm.ow (em_var 5)) (om_some (PEm.ow em_int)) om_none)) (PEm.ow (em_op op_plus lift_plus (PEm.ow (em_tup (am_consC em_str (am_consC (em_var 2) am_nil)))) (PEm.ow (em_var 3)))) (nomark _)))) (fun _ _ _ _ _ => (em_ix (PEm.ow (em_var 5)) (PEm.ow em_int) (fun _ _ => rfl)))))
    (sm_one (sm_ret (em_callTy call_tuple_of lift_tuple (by rfl) T.z_tuple PyProof.Rows.boot_tuple (am_cons (PEm.ow (em_lc (own := [("house", 6)]) rfl S_holders.nd (im_seq (em_ix (PEm.ow (em_var 0)) (PEm.ow (em_op op_plus lift_plus (PEm.ow (em_var 2)) (PEm.ow em_int))) (fun _ _ => rfl))) (blkOk_by (N := n_holders) (sc := defScope s_holders) (by decide +kernel)) (fun _ _ _ _ _ => (gm_name 6 S_holders.nd)) (fun _ _ _ _ _ => (tsm_one (tm_cmp or_sinI (lift_inS (neg := false)) (PEm.ow (em_var 6)) (PEm.ow (em_var 4)) (by with_unfolding_all rfl)))) (fun _ _ _ _ _ => (em_var 6)))) am_nil)))))⟩
def t_is_complete (sp_holders : PM.Spec) : TSm :=
  (sSeq (sIf (mAnd (mTB (mOp oNe (mVar 4) (mTup mNil))) (mTB (mOp (oIn true) (mOp oIx (mVar 4) (mC (.int 0))) (mOp oIx (mVar 1) (mVar 3))))) (sRet (mC (.bl false))) sNext) (sSeq (sSet 6 (mCall sp_holders [] (mCons (mVar 1) (mCons (mVar 2) (mCons (mVar 3) (mCons (mVar 4) mNil)))))) (sRet (mOp oGe (mOp oAdd (mB oLen (mCons (mVar 6) mNil)) (mB oLen (mCons (mLc (mItems (mOp oIx (mVar 1) (mOp oAdd (mVar 3) (mC (.int 1))))) [7] (gmN 7) (mAnd (mTB (mOp (oIn false) (mVar 7) (mVar 5))) (mTB (mOp (oIn true) (mVar 7) (mVar 6)))) (mVar 7)) mNil))) (mFld "w" (mVar 0))))))
theorem w_is_complete (T : Tx K mg) (sp_holders : PM.Spec)
    (F_holders : FnOk P w K mg base CX0 1 T.a_holders T.d_holders p_holders (spM K .cl sp_holders)) (cdv : Value) (A : Around) (outer : List PySem.Env) (s : Shared) (H : Hp) (E : XK)
    (hr : Room 1 (A.deeper (PyProof.Rows.envOfC "is_complete" (defScope s_is_complete) s.heap.objs.size T.a_is_complete cdv))) :
    ∃ c', PSsm (bodyX P w K mg base n_is_complete "is_complete" s_is_complete T.a_is_complete cdv A outer s H E) ⟨.cl, false, []⟩ (shs 8) c' (defBody s_is_complete) (t_is_complete sp_holders) :=
  ⟨[.sh, .sh, .sh, .sh, .sh, .sh, .sh, .sh], (sm_cons (sm_if (c' := [.sh, .sh, .sh, .sh, .sh, .sh, .sh, .sh]) (PWm.pt (wm_and (tm_cmp (op_neD hr.units) lift_ne (PEm.ow (em_var 4)) (PEm.ow (em_tup am_nil)) (nomark _)) (wm_and1 (tm_cmp op_notIn_seq lift_in (PEm.ow (em_ix (PEm.ow (em_var 4)) (PEm.ow em_int) (fun _ _ => rfl))) (PEm.ow (em_ix (PEm.ow (em_var 1)) (PEm.ow (em_var 3)) (fun _ _ => rfl))) (by with_unfolding_all rfl))))) (sm_one (sm_ret em_bl)) sm_nil)
    (sm_cons (sm_set 6 S_is_complete.nd (em_call F_holders (hr.mono (by decide)) T.m_holders T.f_holders.kp T.b_holders .nil (fun _ => Rps.nil) (am_consC (em_var 1) (am_consC (em_var 2) (am_consC (em_var 3) (am_consC (em_var 4) am_nil))))))
    (sm_one (sm_ret (em_cmp op_ge lift_ge (PEm.ow (em_op op_plus lift_plus (PEm.ow (em_callB call_lenA lift_len (by rfl) T.z_len PySem.boot_len (am_cons (PEm.ow (em_var 6)) am_nil))) (PEm.ow (em_callB call_lenA lift_len (by rfl) T.z_len PySem.boot_len (am_cons (PEm.ow (em_lc (own := [("house", 7)]) rfl S_is_complete.nd (im_seq (em_ix (PEm.ow (em_var 1)) (PEm.ow (em_op op_plus lift_plus (PEm.ow (em_var 3)) (PEm.ow em_int))) (fun _ _ => rfl))) (blkOk_by (N := n_is_complete) (sc := defScope s_is_complete) (by decide +kernel)) (fun _ _ _ _ _ => (gm_name 7 S_is_complete.nd)) (fun _ _ _ _ _ => (tsm_one (PWm.pt (wm_and (tm_cmp op_in_seq lift_in (PEm.ow (em_var 7)) (PEm.ow (em_var 5)) (by with_unfolding_all rfl)) (wm_and1 (tm_cmp op_notIn_seq lift_in (PEm.ow (em_var 7)) (PEm.ow (em_var 6)) (by with_unfolding_all rfl))))))) (fun _ _ _ _ _ => (em_var 7)))) am_nil))))) (PEm.ow (em_fld (em_var 0))) (nomark _))))))⟩
def t_dealings_named : TSm :=
  (sSeq (sSet 3 (mC (.pdic []))) (sSeq (sFor (mItems (mVar 1)) (gmN 4) (sSeq (sIf (mAnd (mTB (mOp oEq (mOp oIx (mVar 4) (mC (.int 1))) (mC (.str (PySem.Str.ofString "deal"))))) (mTB (mOp oEq (mOp oIx (mVar 4) (mC (.int 2))) (mVar 2)))) (sDPutT 3 (mTup (mCons (mOp oIx (mVar 4) (mC (.int 0))) (mCons (mOp oIx (mVar 4) (mC (.int 3))) mNil))) (mC (.bl true))) sNext) (sIf (mAnd (mTB (mOp oEq (mOp oIx (mVar 4) (mC (.int 1))) (mC (.str (PySem.Str.ofString "hold"))))) (mAnd (mTB (mOp oEq (mOp oIx (mVar 4) (mC (.int 2))) (mVar 2))) (mTB (mOp oEq (mB oLen (mCons (mVar 4) mNil)) (mC (.int 5)))))) (sDPutT 3 (mTup (mCons (mOp oIx (mVar 4) (mC (.int 3))) (mCons (mOp oIx (mVar 4) (mC (.int 4))) mNil))) (mC (.bl true))) sNext))) (sRet (mB oTuple (mCons (mLc (mItems (mB oSortPD (mCons (mVarO 3) mNil))) [5] (gmN 5) (mTB (mOp (oIn false) (mOp oIx (mVar 5) (mC (.int 0))) (mOp oIx (mVar 0) (mVar 2)))) (mVar 5)) mNil)))))
theorem w_dealings_named (T : Tx K mg) (cdv : Value) (A : Around) (outer : List PySem.Env) (s : Shared) (H : Hp) (E : XK)
    (hr : Room 0 (A.deeper (PyProof.Rows.envOfC "dealings_named" (defScope s_dealings_named) s.heap.objs.size T.a_dealings_named cdv))) :
    ∃ c', PSsm (bodyX P w K mg base n_dealings_named "dealings_named" s_dealings_named T.a_dealings_named cdv A outer s H E) ⟨.cl, false, []⟩ (shs 6) c' (defBody s_dealings_named) (t_dealings_named) :=
  ⟨[.sh, .sh, .sh, .sh, .sh, .sh], (sm_cons (sm_setF 3 S_dealings_named.nd em_dnewP)
    (sm_cons (sm_for (c := [.sh, .sh, .sh, .ow, .sh, .sh]) .never rfl (im_seq (em_var 1)) (gm_name 4 S_dealings_named.nd) (sm_cons (sm_if (c' := [.sh, .sh, .sh, .ow, .sh, .sh]) (PWm.pt (wm_and (tm_cmp (op_eqD hr.units) lift_eq (PEm.ow (em_ix (PEm.ow (em_var 4)) (PEm.ow em_int) (fun _ _ => rfl))) (PEm.ow em_str) (nomark _)) (wm_and1 (tm_cmp (op_eqD hr.units) lift_eq (PEm.ow (em_ix (PEm.ow (em_var 4)) (PEm.ow em_int) (fun _ _ => rfl))) (PEm.ow (em_var 2)) (nomark _))))) (sm_one (sm_dputT 3 (hu_of hr) em_bl (em_tup (am_consC (em_ix (PEm.ow (em_var 4)) (PEm.ow em_int) (fun _ _ => rfl)) (am_consC (em_ix (PEm.ow (em_var 4)) (PEm.ow em_int) (fun _ _ => rfl)) am_nil))))) sm_nil)
    (sm_one (sm_if (c' := [.sh, .sh, .sh, .ow, .sh, .sh]) (PWm.pt (wm_and (tm_cmp (op_eqD hr.units) lift_eq (PEm.ow (em_ix (PEm.ow (em_var 4)) (PEm.ow em_int) (fun _ _ => rfl))) (PEm.ow em_str) (nomark _)) (wm_and (tm_cmp (op_eqD hr.units) lift_eq (PEm.ow (em_ix (PEm.ow (em_var 4)) (PEm.ow em_int) (fun _ _ => rfl))) (PEm.ow (em_var 2)) (nomark _)) (wm_and1 (tm_cmp (op_eqD hr.units) lift_eq (PEm.ow (em_callB call_lenA lift_len (by rfl) T.z_len PySem.boot_len (am_cons (PEm.ow (em_var 4)) am_nil))) (PEm.ow em_int) (nomark _)))))) (sm_one (sm_dputT 3 (hu_of hr) em_bl (em_tup (am_consC (em_ix (PEm.ow (em_var 4)) (PEm.ow em_int) (fun _ _ => rfl)) (am_consC (em_ix (PEm.ow (em_var 4)) (PEm.ow em_int) (fun _ _ => rfl)) am_nil))))) sm_nil))) (fun _ e => by cases e))
    (sm_one (sm_ret (em_callTy call_tuple_of lift_tuple (by rfl) T.z_tuple PyProof.Rows.boot_tuple (am_cons (PEm.ow (em_lc (own := [("pair", 5)]) rfl S_dealings_named.nd (im_seq (PEm.cl (em_callB (cr_sortedPD rfl) lift_sortPD (by rfl) T.z_sorted PyProof.Rows.boot_sorted (am_cons (em_varO 3) am_nil)))) (blkOk_by (N := n_dealings_named) (sc := defScope s_dealings_named) (by decide +kernel)) (fun _ _ _ _ _ => (gm_name 5 S_dealings_named.nd)) (fun _ _ _ _ _ => (tsm_one (tm_cmp op_in_seq lift_in (PEm.ow (em_ix (PEm.ow (em_var 5)) (PEm.ow em_int) (fun _ _ => rfl))) (PEm.ow (em_ix (PEm.ow (em_var 0)) (PEm.ow (em_var 2)) (fun _ _ => rfl))) (by with_unfolding_all rfl)))) (fun _ _ _ _ _ => (em_var 5)))) am_nil))))))⟩
def t_complete_dealings (sp_dealings_named : PM.Spec) (sp_is_complete : PM.Spec) : TSm :=
  (sSeq (sSet 5 (mCall sp_dealings_named [] (mCons (mVar 1) (mCons (mVar 2) (mCons (mVar 3) mNil))))) (sRet (mB oTuple (mCons (mLc (mItems (mVar 5)) [6] (gmN 6) (mTB (mCall sp_is_complete [] (mCons (mVar 0) (mCons (mVar 1) (mCons (mVar 2) (mCons (mVar 3) (mCons (mVar 6) (mCons (mVar 4) mNil)))))))) (mVar 6)) mNil))))
theorem w_complete_dealings (T : Tx K mg) (sp_dealings_named : PM.Spec) (sp_is_complete : PM.Spec)
    (F_dealings_named : FnOk P w K mg base CX0 1 T.a_dealings_named T.d_dealings_named p_dealings_named (spM K .cl sp_dealings_named))
    (F_is_complete : FnOk P w K mg base CX0 2 T.a_is_complete T.d_is_complete p_is_complete (spM K .cl sp_is_complete)) (cdv : Value) (A : Around) (outer : List PySem.Env) (s : Shared) (H : Hp) (E : XK)
    (hr : Room 2 (A.deeper (PyProof.Rows.envOfC "complete_dealings" (defScope s_complete_dealings) s.heap.objs.size T.a_complete_dealings cdv))) :
    ∃ c', PSsm (bodyX P w K mg base n_complete_dealings "complete_dealings" s_complete_dealings T.a_complete_dealings cdv A outer s H E) ⟨.cl, false, []⟩ (shs 7) c' (defBody s_complete_dealings) (t_complete_dealings sp_dealings_named sp_is_complete) :=
  ⟨[.sh, .sh, .sh, .sh, .sh, .sh, .sh], (sm_cons (sm_set 5 S_complete_dealings.nd (em_call F_dealings_named (hr.mono (by decide)) T.m_dealings_named T.f_dealings_named.kp T.b_dealings_named .nil (fun _ => Rps.nil) (am_consC (em_var 1) (am_consC (em_var 2) (am_consC (em_var 3) am_nil)))))
    (sm_one (sm_ret (em_callTy call_tuple_of lift_tuple (by rfl) T.z_tuple PyProof.Rows.boot_tuple (am_cons (PEm.ow (em_lc (own := [("pair", 6)]) rfl S_complete_dealings.nd (im_seq (em_var 5)) (blkOk_by (N := n_complete_dealings) (sc := defScope s_complete_dealings) (by decide +kernel)) (fun _ _ _ _ _ => (gm_name 6 S_complete_dealings.nd)) (fun _ _ _ _ _ => (tsm_one (tm_val (PEm.ow (em_call F_is_complete (hr.mono (by decide)) T.m_is_complete T.f_is_complete.kp T.b_is_complete .nil (fun _ => Rps.nil) (am_consC (em_var 0) (am_consC (em_var 1) (am_consC (em_var 2) (am_consC (em_var 3) (am_consC (em_var 6) (am_consC (em_var 4) am_nil))))))))))) (fun _ _ _ _ _ => (em_var 6)))) am_nil)))))⟩
def t_fillable (sp_complete_dealings : PM.Spec) (sp_dealings_named : PM.Spec) : TSm :=
  (sSeq (sSet 6 (mLc2 (mItems (mCall sp_dealings_named [] (mCons (mVar 1) (mCons (mVar 2) (mCons (mVar 3) mNil))))) [7, 8] [8] (gmN 7) mYes (mItems (mVar 4)) (gmN 8) mYes (mOp oAdd (mTup (mCons (mVar 8) (mCons (mC (.str (PySem.Str.ofString "hold"))) (mCons (mVar 3) mNil)))) (mVar 7)))) (sRet (mCall sp_complete_dealings [] (mCons (mVar 0) (mCons (mVar 1) (mCons (mOp oAdd (mB oTuple (mCons (mVar 2) mNil)) (mB oTuple (mCons (mVarO 6) mNil))) (mCons (mVar 3) (mCons (mVar 5) mNil))))))))
theorem w_fillable (T : Tx K mg) (sp_complete_dealings : PM.Spec) (sp_dealings_named : PM.Spec)
    (F_complete_dealings : FnOk P w K mg base CX0 3 T.a_complete_dealings T.d_complete_dealings p_complete_dealings (spM K .cl sp_complete_dealings))
    (F_dealings_named : FnOk P w K mg base CX0 1 T.a_dealings_named T.d_dealings_named p_dealings_named (spM K .cl sp_dealings_named)) (cdv : Value) (A : Around) (outer : List PySem.Env) (s : Shared) (H : Hp) (E : XK)
    (hr : Room 3 (A.deeper (PyProof.Rows.envOfC "fillable" (defScope s_fillable) s.heap.objs.size T.a_fillable cdv))) :
    ∃ c', PSsm (bodyX P w K mg base n_fillable "fillable" s_fillable T.a_fillable cdv A outer s H E) ⟨.cl, false, []⟩ (shs 9) c' (defBody s_fillable) (t_fillable sp_complete_dealings sp_dealings_named) :=
  ⟨[.sh, .sh, .sh, .sh, .sh, .sh, .sh, .sh, .sh], (sm_cons (sm_setLc2 6 (hsw := sw_true rfl rfl rfl (by decide +kernel)) [8] (own := [("pair", 7), ("house", 8)]) (ws := [7]) (ws1 := [8]) rfl S_fillable.nd (im_seq (em_call F_dealings_named (hr.mono (by decide)) T.m_dealings_named T.f_dealings_named.kp T.b_dealings_named .nil (fun _ => Rps.nil) (am_consC (em_var 1) (am_consC (em_var 2) (am_consC (em_var 3) am_nil))))) (blkOk_by (N := n_fillable) (sc := defScope s_fillable) (by decide +kernel)) (fun _ _ _ _ _ => (gm_name 7 S_fillable.nd)) (fun _ _ _ _ _ => tsm_nil) (fun _ _ _ _ _ => (im_seq (em_var 4))) (fun _ _ _ _ _ => (gm_name 8 S_fillable.nd)) (fun _ _ _ _ _ => tsm_nil) (fun _ _ _ _ _ => (em_op op_plus lift_plus (PEm.ow (em_tup (am_consC (em_var 8) (am_consC em_str (am_consC (em_var 3) am_nil))))) (PEm.ow (em_var 7)))))
    (sm_one (sm_ret (em_call F_complete_dealings (hr.mono (by decide)) T.m_complete_dealings T.f_complete_dealings.kp T.b_complete_dealings .nil (fun _ => Rps.nil) (am_consC (em_var 0) (am_consC (em_var 1) (am_consC (em_op op_plus lift_plus (PEm.ow (em_callTy call_tuple_of lift_tuple (by rfl) T.z_tuple PyProof.Rows.boot_tuple (am_cons (PEm.ow (em_var 2)) am_nil))) (PEm.ow (em_callTy call_tuple_of lift_tuple (by rfl) T.z_tuple PyProof.Rows.boot_tuple (am_cons (em_varO 6) am_nil)))) (am_consC (em_var 3) (am_consC (em_var 5) am_nil)))))))))⟩
def t_is_integer : TSm :=
  (sRet (mAndV (mOp1 (oIsi "int") (mVar 0)) (mOp1 oNot (mOp1 (oIsi "bool") (mVar 0)))))
theorem w_is_integer (T : Tx K mg) (cdv : Value) (A : Around) (outer : List PySem.Env) (s : Shared) (H : Hp) (E : XK)
    (hr : Room 0 (A.deeper (PyProof.Rows.envOfC "is_integer" (defScope s_is_integer) s.heap.objs.size T.a_is_integer cdv))) :
    ∃ c', PSsm (bodyX P w K mg base n_is_integer "is_integer" s_is_integer T.a_is_integer cdv A outer s H E) ⟨.cl, false, []⟩ (shs 1) c' (defBody s_is_integer) (t_is_integer) :=
  ⟨[.sh], (sm_one (sm_ret (em_and (PEm.ow (em_isi "int" (PEm.ow (em_var 0)) (by rfl) T.z_isinstance (by rfl) T.z_int PyProof.Rows.boot_int)) (em_one (em_not (PEm.ow (em_isi "bool" (PEm.ow (em_var 0)) (by rfl) T.z_isinstance (by rfl) T.z_bool PyProof.Rows.boot_bool)))))))⟩
def t_is_number (sp_is_integer : PM.Spec) : TSm :=
  (sRet (mAndV (mCall sp_is_integer [] (mCons (mVar 0) mNil)) (mAndV (mOp oGe (mVar 0) (mC (.int 0))) (mOrV (mOp oIsN (mVar 1) (mC (.non))) (mOp oLe (mVar 0) (mVar 1))))))
theorem w_is_number (T : Tx K mg) (sp_is_integer : PM.Spec)
    (F_is_integer : FnOk P w K mg base CX0 1 T.a_is_integer T.d_is_integer p_is_integer (spM K .cl sp_is_integer)) (cdv : Value) (A : Around) (outer : List PySem.Env) (s : Shared) (H : Hp) (E : XK)
    (hr : Room 1 (A.deeper (PyProof.Rows.envOfC "is_number" (defScope s_is_number) s.heap.objs.size T.a_is_number cdv))) :
    ∃ c', PSsm (bodyX P w K mg base n_is_number "is_number" s_is_number T.a_is_number cdv A outer s H E) ⟨.cl, false, []⟩ (shs 2) c' (defBody s_is_number) (t_is_number sp_is_integer) :=
  ⟨[.sh, .sh], (sm_one (sm_ret (em_and (PEm.ow (em_call F_is_integer (hr.mono (by decide)) T.m_is_integer T.f_is_integer.kp T.b_is_integer .nil (fun _ => Rps.nil) (am_consC (em_var 0) am_nil))) (em_and (PEm.ow (em_cmp op_ge lift_ge (PEm.ow (em_var 0)) (PEm.ow em_int) (nomark _))) (em_one (em_or (PEm.ow (em_cmp op_isN lift_isN (PEm.ow (em_var 1)) (PEm.ow em_non) (nomark _))) (em_one (em_cmp op_le lift_le (PEm.ow (em_var 0)) (PEm.ow (em_var 1)) (nomark _)))))))))⟩
def t_Numbers (C : Addr) (sp_is_number : PM.Spec) : TSm :=
  (sSeq (sIf (mOr (mNot (mTB (mCall sp_is_number [] (mCons (mVar 1) (mCons (mC (.int 12)) mNil))))) (mTB (mOp oLt (mVar 1) (mC (.int 2))))) sNo sNext) (sSeq (sIf (mNot (mTB (mCall sp_is_number [] (mCons (mVar 2) (mCons (mOp oSub (mVar 1) (mC (.int 1))) mNil))))) sNo sNext) (sSeq (sIf (mNot (mTB (mCall sp_is_number [] (mCons (mVar 3) (mCons (mVar 1) mNil))))) sNo sNext) (sSeq (sIf (mOr (mNot (mTB (mCall sp_is_number [] (mCons (mVar 4) (mCons (mC (.int 200)) mNil))))) (mTB (mOp oEq (mVar 4) (mC (.int 0))))) sNo sNext) (sSeq (sIf (mOr (mNot (mTB (mCall sp_is_number [] (mCons (mVar 5) (mCons (mB oMin2 (mCons (mOp oSub (mVar 1) (mC (.int 1))) (mCons (mC (.int 6)) mNil))) mNil))))) (mTB (mOp oEq (mVar 5) (mC (.int 0))))) sNo sNext) (sSeq (sIf (mOr (mNot (mTB (mCall sp_is_number [] (mCons (mVar 6) (mCons (mVar 1) mNil))))) (mTB (mOp oEq (mVar 6) (mC (.int 0))))) sNo sNext) (sSeq (sFldP C "k" 0 (mVar 1)) (sSeq (sFldP C "f" 0 (mVar 2)) (sSeq (sFldP C "l" 0 (mVar 3)) (sSeq (sFldP C "d" 0 (mVar 4)) (sSeq (sFldP C "t" 0 (mVar 5)) (sFldP C "w" 0 (mVar 6)))))))))))))
theorem w_Numbers (T : Tx K mg) (sp_is_number : PM.Spec)
    (F_is_number : FnOk P w K mg base CX0 2 T.a_is_number T.d_is_number p_is_number (spM K .cl sp_is_number)) (cdv : Value) (A : Around) (outer : List PySem.Env) (s : Shared) (H : Hp) (E : XK)
    (hr : Room 2 (A.deeper (PyProof.Rows.envOfC "Numbers.__init__" (defScope s_Numbers) s.heap.objs.size T.a_Numbers cdv))) :
    ∃ c', cO c' 0 = .ow ∧ PSsm (bodyX P w K mg base n_Numbers "Numbers.__init__" s_Numbers T.a_Numbers cdv A outer s H E) ⟨.cl, false, []⟩ ((shs 7).set 0 .ow) c' (defBody s_Numbers) (t_Numbers T.c_Numbers sp_is_number) :=
  ⟨[.ow, .sh, .sh, .sh, .sh, .sh, .sh], rfl, (sm_cons (sm_if (c' := [.ow, .sh, .sh, .sh, .sh, .sh, .sh]) (PWm.pt (wm_or (tm_not (tm_val (PEm.ow (em_call F_is_number (hr.mono (by decide)) T.m_is_number T.f_is_number.kp T.b_is_number .nil (fun _ => Rps.nil) (am_consC (em_var 1) (am_consC (em_gint T.g_MOST_COPIES ⟨_, rfl⟩) am_nil)))))) (wm_or1 (tm_cmp op_lt lift_lt (PEm.ow (em_var 1)) (PEm.ow em_int) (nomark _))))) (sm_one sm_no) sm_nil)
    (sm_cons (sm_if (c' := [.ow, .sh, .sh, .sh, .sh, .sh, .sh]) (tm_not (tm_val (PEm.ow (em_call F_is_number (hr.mono (by decide)) T.m_is_number T.f_is_number.kp T.b_is_number .nil (fun _ => Rps.nil) (am_consC (em_var 2) (am_consC (em_op op_sub lift_sub (PEm.ow (em_var 1)) (PEm.ow em_int)) am_nil)))))) (sm_one sm_no) sm_nil)
    (sm_cons (sm_if (c' := [.ow, .sh, .sh, .sh, .sh, .sh, .sh]) (tm_not (tm_val (PEm.ow (em_call F_is_number (hr.mono (by decide)) T.m_is_number T.f_is_number.kp T.b_is_number .nil (fun _ => Rps.nil) (am_consC (em_var 3) (am_consC (em_var 1) am_nil)))))) (sm_one sm_no) sm_nil)
    (sm_cons (sm_if (c' := [.ow, .sh, .sh, .sh, .sh, .sh, .sh]) (PWm.pt (wm_or (tm_not (tm_val (PEm.ow (em_call F_is_number (hr.mono (by decide)) T.m_is_number T.f_is_number.kp T.b_is_number .nil (fun _ => Rps.nil) (am_consC (em_var 4) (am_consC (em_gint T.g_MOST_PATIENCE ⟨_, rfl⟩) am_nil)))))) (wm_or1 (tm_cmp (op_eqD hr.units) lift_eq (PEm.ow (em_var 4)) (PEm.ow em_int) (nomark _))))) (sm_one sm_no) sm_nil)
    (sm_cons (sm_if (c' := [.ow, .sh, .sh, .sh, .sh, .sh, .sh]) (PWm.pt (wm_or (tm_not (tm_val (PEm.ow (em_call F_is_number (hr.mono (by decide)) T.m_is_number T.f_is_number.kp T.b_is_number .nil (fun _ => Rps.nil) (am_consC (em_var 5) (am_consC (em_callB (call_min2 rfl) lift_min2 (by rfl) T.z_min PyProof.Rows.boot_min (am_cons (PEm.ow (em_op op_sub lift_sub (PEm.ow (em_var 1)) (PEm.ow em_int))) (am_cons (PEm.ow (em_gint T.g_MOST_DEGREE ⟨_, rfl⟩)) am_nil))) am_nil)))))) (wm_or1 (tm_cmp (op_eqD hr.units) lift_eq (PEm.ow (em_var 5)) (PEm.ow em_int) (nomark _))))) (sm_one sm_no) sm_nil)
    (sm_cons (sm_if (c' := [.ow, .sh, .sh, .sh, .sh, .sh, .sh]) (PWm.pt (wm_or (tm_not (tm_val (PEm.ow (em_call F_is_number (hr.mono (by decide)) T.m_is_number T.f_is_number.kp T.b_is_number .nil (fun _ => Rps.nil) (am_consC (em_var 6) (am_consC (em_var 1) am_nil)))))) (wm_or1 (tm_cmp (op_eqD hr.units) lift_eq (PEm.ow (em_var 6)) (PEm.ow em_int) (nomark _))))) (sm_one sm_no) sm_nil)
    (sm_cons (sm_fldP T.c_Numbers 0 T.cl_Numbers T.na_Numbers_k (em_var 1))
    (sm_cons (sm_fldP T.c_Numbers 0 T.cl_Numbers T.na_Numbers_f (em_var 2))
    (sm_cons (sm_fldP T.c_Numbers 0 T.cl_Numbers T.na_Numbers_l (em_var 3))
    (sm_cons (sm_fldP T.c_Numbers 0 T.cl_Numbers T.na_Numbers_d (em_var 4))
    (sm_cons (sm_fldP T.c_Numbers 0 T.cl_Numbers T.na_Numbers_t (em_var 5))
    (sm_one (sm_fldP T.c_Numbers 0 T.cl_Numbers T.na_Numbers_w (em_var 6))))))))))))))⟩
def t_wiped_by : TSm :=
  (sSeq (sSet 3 (mSc (mItems (mVar 1)) [4] (gmN 4) (mTB (mOp oEq (mSl oSl (mVar 4) (mPart (mC (.int 1))) mNo) (mTup (mCons (mC (.str (PySem.Str.ofString "wiped"))) (mCons (mVar 2) mNil))))) (mOp oIx (mVar 4) (mC (.int 0))))) (sRet (mB oTuple (mCons (mLc (mItems (mOp oIx (mVar 0) (mVar 2))) [5] (gmN 5) (mTB (mOp (oInS false) (mVar 5) (mVar 3))) (mVar 5)) mNil))))
theorem w_wiped_by (T : Tx K mg) (cdv : Value) (A : Around) (outer : List PySem.Env) (s : Shared) (H : Hp) (E : XK)
    (hr : Room 0 (A.deeper (PyProof.Rows.envOfC "wiped_by" (defScope s_wiped_by) s.heap.objs.size T.a_wiped_by cdv))) :
    ∃ c', PSsm (bodyX P w K mg base n_wiped_by "wiped_by" s_wiped_by T.a_wiped_by cdv A outer s H E) ⟨.cl, false, []⟩ (shs 6) c' (defBody s_wiped_by) (t_wiped_by) :=
  ⟨[.sh, .sh, .sh, .sh, .sh, .sh], (sm_cons (sm_set 3 S_wiped_by.nd (em_sk (own := [("note", 4)]) rfl S_wiped_by.nd (im_seq (em_var 1)) (blkOk_by (N := n_wiped_by) (sc := defScope s_wiped_by) (by decide +kernel)) (fun _ _ _ _ _ => (gm_name 4 S_wiped_by.nd)) (fun _ _ _ _ _ => (tsm_one (tm_cmp (op_eqD hr.units) lift_eq (PEm.ow (em_sl (PEm.ow (em_var 4)) (om_some (PEm.ow em_int)) om_none)) (PEm.ow (em_tup (am_consC em_str (am_consC (em_var 2) am_nil)))) (nomark _)))) (fun _ _ _ _ _ => (em_ix (PEm.ow (em_var 4)) (PEm.ow em_int) (fun _ _ => rfl)))))
    (sm_one (sm_ret (em_callTy call_tuple_of lift_tuple (by rfl) T.z_tuple PyProof.Rows.boot_tuple (am_cons (PEm.ow (em_lc (own := [("house", 5)]) rfl S_wiped_by.nd (im_seq (em_ix (PEm.ow (em_var 0)) (PEm.ow (em_var 2)) (fun _ _ => rfl))) (blkOk_by (N := n_wiped_by) (sc := defScope s_wiped_by) (by decide +kernel)) (fun _ _ _ _ _ => (gm_name 5 S_wiped_by.nd)) (fun _ _ _ _ _ => (tsm_one (tm_cmp or_sinI (lift_inS (neg := false)) (PEm.ow (em_var 5)) (PEm.ow (em_var 3)) (by with_unfolding_all rfl)))) (fun _ _ _ _ _ => (em_var 5)))) am_nil)))))⟩
def t_most_keepers (sp_wiped_by : PM.Spec) : TSm :=
  (sSeq (sSet 4 (mB oLen (mCons (mCall sp_wiped_by [] (mCons (mVar 1) (mCons (mVar 2) (mCons (mVar 3) mNil)))) mNil))) (sRet (mOp oAdd (mOp oSub (mFld "k" (mVar 0)) (mVar 4)) (mB oMin2 (mCons (mFld "f" (mVar 0)) (mCons (mVar 4) mNil))))))
theorem w_most_keepers (T : Tx K mg) (sp_wiped_by : PM.Spec)
    (F_wiped_by : FnOk P w K mg base CX0 1 T.a_wiped_by T.d_wiped_by p_wiped_by (spM K .cl sp_wiped_by)) (cdv : Value) (A : Around) (outer : List PySem.Env) (s : Shared) (H : Hp) (E : XK)
    (hr : Room 1 (A.deeper (PyProof.Rows.envOfC "most_keepers" (defScope s_most_keepers) s.heap.objs.size T.a_most_keepers cdv))) :
    ∃ c', PSsm (bodyX P w K mg base n_most_keepers "most_keepers" s_most_keepers T.a_most_keepers cdv A outer s H E) ⟨.cl, false, []⟩ (shs 5) c' (defBody s_most_keepers) (t_most_keepers sp_wiped_by) :=
  ⟨[.sh, .sh, .sh, .sh, .sh], (sm_cons (sm_set 4 S_most_keepers.nd (em_callB call_lenA lift_len (by rfl) T.z_len PySem.boot_len (am_cons (PEm.ow (em_call F_wiped_by (hr.mono (by decide)) T.m_wiped_by T.f_wiped_by.kp T.b_wiped_by .nil (fun _ => Rps.nil) (am_consC (em_var 1) (am_consC (em_var 2) (am_consC (em_var 3) am_nil))))) am_nil)))
    (sm_one (sm_ret (em_op op_plus lift_plus (PEm.ow (em_op op_sub lift_sub (PEm.ow (em_fld (em_var 0))) (PEm.ow (em_var 4)))) (PEm.ow (em_callB (call_min2 rfl) lift_min2 (by rfl) T.z_min PyProof.Rows.boot_min (am_cons (PEm.ow (em_fld (em_var 0))) (am_cons (PEm.ow (em_var 4)) am_nil))))))))⟩
def t_is_laid_down (sp_wiped_by : PM.Spec) : TSm :=
  (sRet (mOp oGe (mB oLen (mCons (mCall sp_wiped_by [] (mCons (mVar 1) (mCons (mVar 2) (mCons (mVar 3) mNil)))) mNil)) (mOp oSub (mFld "k" (mVar 0)) (mFld "f" (mVar 0)))))
theorem w_is_laid_down (T : Tx K mg) (sp_wiped_by : PM.Spec)
    (F_wiped_by : FnOk P w K mg base CX0 1 T.a_wiped_by T.d_wiped_by p_wiped_by (spM K .cl sp_wiped_by)) (cdv : Value) (A : Around) (outer : List PySem.Env) (s : Shared) (H : Hp) (E : XK)
    (hr : Room 1 (A.deeper (PyProof.Rows.envOfC "is_laid_down" (defScope s_is_laid_down) s.heap.objs.size T.a_is_laid_down cdv))) :
    ∃ c', PSsm (bodyX P w K mg base n_is_laid_down "is_laid_down" s_is_laid_down T.a_is_laid_down cdv A outer s H E) ⟨.cl, false, []⟩ (shs 4) c' (defBody s_is_laid_down) (t_is_laid_down sp_wiped_by) :=
  ⟨[.sh, .sh, .sh, .sh], (sm_one (sm_ret (em_cmp op_ge lift_ge (PEm.ow (em_callB call_lenA lift_len (by rfl) T.z_len PySem.boot_len (am_cons (PEm.ow (em_call F_wiped_by (hr.mono (by decide)) T.m_wiped_by T.f_wiped_by.kp T.b_wiped_by .nil (fun _ => Rps.nil) (am_consC (em_var 1) (am_consC (em_var 2) (am_consC (em_var 3) am_nil))))) am_nil))) (PEm.ow (em_op op_sub lift_sub (PEm.ow (em_fld (em_var 0))) (PEm.ow (em_fld (em_var 0))))) (nomark _))))⟩
def t_l_heap : TSm :=
  (sSeq (sSet 1 (mOp oMulW (mOp oMulW (mOp oPow (mC (.int 10)) (mC (.int 60))) (mOp oPow (mC (.int 10)) (mC (.int 60)))) (mOp oPow (mC (.int 10)) (mC (.int 60))))) (sSeq (sPar [3, 4] (mCons (mLc (mItems (mSl oSlS (mVar 0) mNo (mPart (mC (.int 60))))) [2] (gmN 2) mYes (mOp oMod (mB oInt (mCons (mOp oAdd (mOp oMul (mC (.int 2)) (mB oAbs (mCons (mVar 2) mNil))) (mB oInt (mCons (mOp oLt (mVar 2) (mC (.int 0))) mNil))) mNil)) (mVar 1))) (mCons (mC (.int 20043)) mNil))) (sSeq (sFor (mItems (mVar 3)) (gmN 2) (sSet 4 (mOp oMod (mB oInt (mCons (mOp oAdd (mOp oAdd (mOp oMul (mVar 4) (mC (.int 69621))) (mOp oMod (mB oInt (mCons (mVar 2) mNil)) (mC (.int 2147483563)))) (mC (.int 71))) mNil)) (mC (.int 2147483647))))) (sRet (mLst (mCons (mOp1 oRev (mLc (mItems (mVar 3)) [2] (gmN 2) (mTB (mOp oGe (mVar 2) (mOp oPow (mC (.int 10)) (mC (.int 18))))) (mVar 2))) (mCons (mVar 4) mNil)))))))
theorem w_l_heap (T : Tx K mg) (cdv : Value) (A : Around) (outer : List PySem.Env) (s : Shared) (H : Hp) (E : XK)
    (hr : Room 0 (A.deeper (PyProof.Rows.envOfC "_law_heap" (defScope s_l_heap) s.heap.objs.size T.a_l_heap cdv))) :
    ∃ c', PSsm (bodyX P w K mg base n_l_heap "_law_heap" s_l_heap T.a_l_heap cdv A outer s H E) ⟨.cl, false, []⟩ (shs 5) c' (defBody s_l_heap) (t_l_heap) :=
  ⟨[.sh, .sh, .sh, .sh, .sh], (sm_cons (sm_set 1 S_l_heap.nd (em_op op_mulW lift_mulW (PEm.ow (em_op op_mulW lift_mulW (PEm.ow (em_op op_pow lift_pow (PEm.ow em_int) (PEm.ow em_int))) (PEm.ow (em_op op_pow lift_pow (PEm.ow em_int) (PEm.ow em_int))))) (PEm.ow (em_op op_pow lift_pow (PEm.ow em_int) (PEm.ow em_int)))))
    (sm_cons (sm_par [3, 4] rfl S_l_heap.nd (xm_cl (PEm.cl (em_lc (own := [("cell", 2)]) rfl S_l_heap.nd (im_seq (PEm.cl (em_slS (PEm.ow (em_var 0)) om_none (om_some (PEm.ow em_int))))) (blkOk_by (N := n_l_heap) (sc := defScope s_l_heap) (by decide +kernel)) (fun _ _ _ _ _ => (gm_name 2 S_l_heap.nd)) (fun _ _ _ _ _ => tsm_nil) (fun _ _ _ _ _ => (em_op op_mod lift_mod (PEm.ow (em_callTy call_int1 lift_int (by rfl) T.z_int PyProof.Rows.boot_int (am_cons (PEm.ow (em_op op_plus lift_plus (PEm.ow (em_op op_mul lift_mul (PEm.ow em_int) (PEm.ow (em_callB call_abs lift_abs (by rfl) T.z_abs PyProof.Rows.boot_abs (am_cons (PEm.ow (em_var 2)) am_nil))))) (PEm.ow (em_callTy call_int1 lift_int (by rfl) T.z_int PyProof.Rows.boot_int (am_cons (PEm.ow (em_cmp op_lt lift_lt (PEm.ow (em_var 2)) (PEm.ow em_int) (nomark _))) am_nil))))) am_nil))) (PEm.ow (em_var 1)))))) (xm_cl em_int xm_nil)))
    (sm_cons (sm_for (c := [.sh, .sh, .sh, .sh, .sh]) .never rfl (im_seq (em_var 3)) (gm_name 2 S_l_heap.nd) (sm_one (sm_set 4 S_l_heap.nd (em_op op_mod lift_mod (PEm.ow (em_callTy call_int1 lift_int (by rfl) T.z_int PyProof.Rows.boot_int (am_cons (PEm.ow (em_op op_plus lift_plus (PEm.ow (em_op op_plus lift_plus (PEm.ow (em_op op_mul lift_mul (PEm.ow (em_var 4)) (PEm.ow em_int))) (PEm.ow (em_op op_mod lift_mod (PEm.ow (em_callTy call_int1 lift_int (by rfl) T.z_int PyProof.Rows.boot_int (am_cons (PEm.ow (em_var 2)) am_nil))) (PEm.ow em_int))))) (PEm.ow em_int))) am_nil))) (PEm.ow em_int)))) (fun _ e => by cases e))
    (sm_one (sm_ret (PEm.cl (em_lst (am_consC (em_rev (PEm.ow (em_lc (own := [("cell", 2)]) rfl S_l_heap.nd (im_seq (em_var 3)) (blkOk_by (N := n_l_heap) (sc := defScope s_l_heap) (by decide +kernel)) (fun _ _ _ _ _ => (gm_name 2 S_l_heap.nd)) (fun _ _ _ _ _ => (tsm_one (tm_cmp op_ge lift_ge (PEm.ow (em_var 2)) (PEm.ow (em_op op_pow lift_pow (PEm.ow em_int) (PEm.ow em_int))) (nomark _)))) (fun _ _ _ _ _ => (em_var 2))))) (am_consC (em_var 4) am_nil)))))))))⟩
def t_l_pick (sp_l_draw : PM.Spec) : TSm :=
  (sRet (mOp oIx (mVar 1) (mCall sp_l_draw [] (mCons (mVar 0) (mCons (mB oLen (mCons (mVar 1) mNil)) mNil)))))
theorem w_l_pick (T : Tx K mg) (sp_l_draw : PM.Spec)
    (F_l_draw : FnOk P w K mg base CX0 1 T.a_l_draw T.d_l_draw p_l_draw (spM K .cl sp_l_draw)) (cdv : Value) (A : Around) (outer : List PySem.Env) (s : Shared) (H : Hp) (E : XK)
    (hr : Room 1 (A.deeper (PyProof.Rows.envOfC "_law_pick" (defScope s_l_pick) s.heap.objs.size T.a_l_pick cdv))) :
    ∃ c', PSsm (bodyX P w K mg base n_l_pick "_law_pick" s_l_pick T.a_l_pick cdv A outer s H E) ⟨.cl, false, []⟩ (shs 2) c' (defBody s_l_pick) (t_l_pick sp_l_draw) :=
  ⟨[.sh, .sh], (sm_one (sm_ret (em_ix (PEm.ow (em_var 1)) (PEm.ow (em_call F_l_draw (hr.mono (by decide)) T.m_l_draw T.f_l_draw.kp T.b_l_draw .nil (fun _ => Rps.nil) (am_consC (em_var 0) (am_consC (em_callB call_lenA lift_len (by rfl) T.z_len PySem.boot_len (am_cons (PEm.ow (em_var 1)) am_nil)) am_nil)))) (fun _ _ => rfl))))⟩
def t_l_like (sp_l_like : PM.Spec) : TSm :=
  (sSeq (sIf (mTB (mOp1 (oIsi "tuple") (mVar 1))) (sRet (mAndV (mOp1 (oIsi "tuple") (mVar 0)) (mAndV (mOp oEq (mB oLen (mCons (mVar 0) mNil)) (mB oLen (mCons (mVar 1) mNil))) (mB oAll (mCons (mLc (mZip (mVar 0) (mVar 1)) [2, 3] (gmT 2 (gmCons (gmN 2) (gmCons (gmN 3) gmNil))) mYes (mCall sp_l_like [] (mCons (mVar 2) (mCons (mVar 3) mNil)))) mNil))))) sNext) (sSeq (sIf (mTB (mOp oIsN (mVar 1) (mC (.non)))) (sRet (mOp oIsN (mVar 0) (mC (.non)))) sNext) (sSeq (sIf (mTB (mOp1 (oIsi "bool") (mVar 1))) (sRet (mIf (mTB (mVar 1)) (mOp oIsB (mVar 0) (mC (.bl true))) (mOp oIsB (mVar 0) (mC (.bl false))))) sNext) (sSeq (sIf (mTB (mOp1 (oIsi "int") (mVar 1))) (sRet (mAndV (mOp1 (oIsi "int") (mVar 0)) (mAndV (mOp1 oNot (mOp1 (oIsi "bool") (mVar 0))) (mOp oEq (mVar 0) (mVar 1))))) sNext) (sRet (mAndV (mOp1 (oIsi "str") (mVar 0)) (mAndV (mOp1 (oIsi "str") (mVar 1)) (mOp oEq (mVar 0) (mVar 1)))))))))
theorem w_l_like (T : Tx K mg) {kr : Nat} (sp_l_like : PM.Spec)
    (F_l_like : FnOk P w K mg base CX0 kr T.a_l_like T.d_l_like p_l_like (spM K .cl sp_l_like)) (hk : 0 ≤ kr) (cdv : Value) (A : Around) (outer : List PySem.Env) (s : Shared) (H : Hp) (E : XK)
    (hr : Room kr (A.deeper (PyProof.Rows.envOfC "_law_like" (defScope s_l_like) s.heap.objs.size T.a_l_like cdv))) :
    ∃ c', PSsm (bodyX P w K mg base n_l_like "_law_like" s_l_like T.a_l_like cdv A outer s H E) ⟨.cl, false, []⟩ (shs 4) c' (defBody s_l_like) (t_l_like sp_l_like) :=
  ⟨[.sh, .sh, .sh, .sh], (sm_cons (sm_if (c' := [.sh, .sh, .sh, .sh]) (tm_val (PEm.ow (em_isi "tuple" (PEm.ow (em_var 1)) (by rfl) T.z_isinstance (by rfl) T.z_tuple PyProof.Rows.boot_tuple))) (sm_one (sm_ret (em_and (PEm.ow (em_isi "tuple" (PEm.ow (em_var 0)) (by rfl) T.z_isinstance (by rfl) T.z_tuple PyProof.Rows.boot_tuple)) (em_and (PEm.ow (em_cmp (op_eqD hr.units) lift_eq (PEm.ow (em_callB call_lenA lift_len (by rfl) T.z_len PySem.boot_len (am_cons (PEm.ow (em_var 0)) am_nil))) (PEm.ow (em_callB call_lenA lift_len (by rfl) T.z_len PySem.boot_len (am_cons (PEm.ow (em_var 1)) am_nil))) (nomark _))) (em_one (em_callB (cr_all rfl) lift_all (by rfl) T.z_all PyProof.Rows.boot_all (am_cons (PEm.ow (em_lc (own := [("one", 2), ("other", 3)]) rfl S_l_like.nd (im_zip T.z_zip (em_var 0) (em_var 1)) (blkOk_by (N := n_l_like) (sc := defScope s_l_like) (by decide +kernel)) (fun _ _ _ _ _ => (gm_tup rfl (gsm_cons (gm_name 2 S_l_like.nd) (gsm_cons (gm_name 3 S_l_like.nd) gsm_nil)))) (fun _ _ _ _ _ => tsm_nil) (fun _ _ _ _ _ => (em_call F_l_like hr T.m_l_like T.f_l_like.kp T.b_l_like .nil (fun _ => Rps.nil) (am_consC (em_var 2) (am_consC (em_var 3) am_nil)))))) am_nil))))))) sm_nil)
    (sm_cons (sm_if (c' := [.sh, .sh, .sh, .sh]) (tm_cmp op_isN lift_isN (PEm.ow (em_var 1)) (PEm.ow em_non) (nomark _)) (sm_one (sm_ret (em_cmp op_isN lift_isN (PEm.ow (em_var 0)) (PEm.ow em_non) (nomark _)))) sm_nil)
    (sm_cons (sm_if (c' := [.sh, .sh, .sh, .sh]) (tm_val (PEm.ow (em_isi "bool" (PEm.ow (em_var 1)) (by rfl) T.z_isinstance (by rfl) T.z_bool PyProof.Rows.boot_bool))) (sm_one (sm_ret (em_if (tm_val (PEm.ow (em_var 1))) (em_cmp op_isBl lift_isB (PEm.ow (em_var 0)) (PEm.ow em_bl) (nomark _)) (em_cmp op_isBl lift_isB (PEm.ow (em_var 0)) (PEm.ow em_bl) (nomark _))))) sm_nil)
    (sm_cons (sm_if (c' := [.sh, .sh, .sh, .sh]) (tm_val (PEm.ow (em_isi "int" (PEm.ow (em_var 1)) (by rfl) T.z_isinstance (by rfl) T.z_int PyProof.Rows.boot_int))) (sm_one (sm_ret (em_and (PEm.ow (em_isi "int" (PEm.ow (em_var 0)) (by rfl) T.z_isinstance (by rfl) T.z_int PyProof.Rows.boot_int)) (em_and (PEm.ow (em_not (PEm.ow (em_isi "bool" (PEm.ow (em_var 0)) (by rfl) T.z_isinstance (by rfl) T.z_bool PyProof.Rows.boot_bool)))) (em_one (em_cmp (op_eqD hr.units) lift_eq (PEm.ow (em_var 0)) (PEm.ow (em_var 1)) (nomark _))))))) sm_nil)
    (sm_one (sm_ret (em_and (PEm.ow (em_isi "str" (PEm.ow (em_var 0)) (by rfl) T.z_isinstance (by rfl) T.z_str PyProof.Rows.boot_str)) (em_and (PEm.ow (em_isi "str" (PEm.ow (em_var 1)) (by rfl) T.z_isinstance (by rfl) T.z_str PyProof.Rows.boot_str)) (em_one (em_cmp (op_eqD hr.units) lift_eq (PEm.ow (em_var 0)) (PEm.ow (em_var 1)) (nomark _)))))))))))⟩
def t_l_some (sp_l_draw : PM.Spec) : TSm :=
  (sSeq (sPar [4, 5] (mCons (mLc (mRng1 (mB oLen (mCons (mVar 1) mNil))) [6] (gmN 6) mYes (mVar 6)) (mCons (mLst mNil) mNil))) (sSeq (sFor (mRng1 (mVar 2)) (gmN 3) (sAppPop 5 4 (mCall sp_l_draw [] (mCons (mVar 0) (mCons (mB oLen (mCons (mVarO 4) mNil)) mNil))))) (sRet (mB oTuple (mCons (mLc (mItems (mB oSorted (mCons (mVarO 5) mNil))) [6] (gmN 6) mYes (mOp oIx (mVar 1) (mVar 6))) mNil)))))
theorem w_l_some (T : Tx K mg) (sp_l_draw : PM.Spec)
    (F_l_draw : FnOk P w K mg base CX0 1 T.a_l_draw T.d_l_draw p_l_draw (spM K .cl sp_l_draw)) (cdv : Value) (A : Around) (outer : List PySem.Env) (s : Shared) (H : Hp) (E : XK)
    (hr : Room 1 (A.deeper (PyProof.Rows.envOfC "_law_some" (defScope s_l_some) s.heap.objs.size T.a_l_some cdv))) :
    ∃ c', PSsm (bodyX P w K mg base n_l_some "_law_some" s_l_some T.a_l_some cdv A outer s H E) ⟨.cl, false, []⟩ (shs 7) c' (defBody s_l_some) (t_l_some sp_l_draw) :=
  ⟨[.sh, .sh, .sh, .sh, .sh, .sh, .sh], (sm_cons (sm_par [4, 5] rfl S_l_some.nd (xm_fr (em_lc (own := [("place", 6)]) rfl S_l_some.nd (im_rng1 T.z_range (PEm.ow (em_callB call_lenA lift_len (by rfl) T.z_len PySem.boot_len (am_cons (PEm.ow (em_var 1)) am_nil)))) (blkOk_by (N := n_l_some) (sc := defScope s_l_some) (by decide +kernel)) (fun _ _ _ _ _ => (gm_name 6 S_l_some.nd)) (fun _ _ _ _ _ => tsm_nil) (fun _ _ _ _ _ => (em_var 6))) (xm_fr (em_lst am_nil) xm_nil)))
    (sm_cons (sm_for (c := [.sh, .sh, .sh, .sh, .ow, .ow, .sh]) .never rfl (im_rng1 T.z_range (PEm.ow (em_var 2))) (gm_name 3 S_l_some.nd) (sm_one (sm_appPop 5 4 (by decide) (PEm.ow (em_call F_l_draw (hr.mono (by decide)) T.m_l_draw T.f_l_draw.kp T.b_l_draw .nil (fun _ => Rps.nil) (am_consC (em_var 0) (am_consC (em_callB call_lenA lift_len (by rfl) T.z_len PySem.boot_len (am_cons (em_varO 4) am_nil)) am_nil)))))) (fun _ e => by cases e))
    (sm_one (sm_ret (em_callTy call_tuple_of lift_tuple (by rfl) T.z_tuple PyProof.Rows.boot_tuple (am_cons (PEm.ow (em_lc (own := [("place", 6)]) rfl S_l_some.nd (im_seq (PEm.cl (em_callB (call_sortedA rfl) lift_sorted (by rfl) T.z_sorted PyProof.Rows.boot_sorted (am_cons (em_varO 5) am_nil)))) (blkOk_by (N := n_l_some) (sc := defScope s_l_some) (by decide +kernel)) (fun _ _ _ _ _ => (gm_name 6 S_l_some.nd)) (fun _ _ _ _ _ => tsm_nil) (fun _ _ _ _ _ => (em_ix (PEm.ow (em_var 1)) (PEm.ow (em_var 6)) (fun _ _ => rfl))))) am_nil))))))⟩
def t_l_course (sp_l_some : PM.Spec) (sp_l_draw : PM.Spec) : TSm :=
  (sSeq (sSet 4 (mLst (mCons (mCall sp_l_some [] (mCons (mVar 0) (mCons (mVar 1) (mCons (mVar 2) mNil)))) mNil))) (sSeq (sWhile (mTB (mOp oLt (mB oLen (mCons (mVarO 4) mNil)) (mVar 3))) (sSeq (sSet 5 (mLc (mItems (mVar 1)) [7] (gmN 7) (mTB (mOp (oIn true) (mVar 7) (mOp oIx (mVarO 4) (mOp1 oNeg (mC (.int 1)))))) (mVar 7))) (sSeq (sSet 6 (mCall sp_l_some [] (mCons (mVar 0) (mCons (mVar 5) (mCons (mB oMin2 (mCons (mB oLen (mCons (mVar 5) mNil)) (mCons (mCall sp_l_draw [] (mCons (mVar 0) (mCons (mOp oAdd (mVar 2) (mC (.int 1))) mNil))) mNil))) mNil))))) (sApp 4 (mB oTuple (mCons (mB oSortTI (mCons (mOp oAdd (mVar 6) (mCall sp_l_some [] (mCons (mVar 0) (mCons (mOp oIx (mVarO 4) (mOp1 oNeg (mC (.int 1)))) (mCons (mOp oSub (mVar 2) (mB oLen (mCons (mVar 6) mNil))) mNil))))) mNil)) mNil)))))) (sRet (mB oTuple (mCons (mVarO 4) mNil)))))
theorem w_l_course (T : Tx K mg) (sp_l_some : PM.Spec) (sp_l_draw : PM.Spec)
    (F_l_some : FnOk P w K mg base CX0 2 T.a_l_some T.d_l_some p_l_some (spM K .cl sp_l_some))
    (F_l_draw : FnOk P w K mg base CX0 1 T.a_l_draw T.d_l_draw p_l_draw (spM K .cl sp_l_draw)) (cdv : Value) (A : Around) (outer : List PySem.Env) (s : Shared) (H : Hp) (E : XK)
    (hr : Room 2 (A.deeper (PyProof.Rows.envOfC "_law_course" (defScope s_l_course) s.heap.objs.size T.a_l_course cdv))) :
    ∃ c', PSsm (bodyX P w K mg base n_l_course "_law_course" s_l_course T.a_l_course cdv A outer s H E) ⟨.cl, false, []⟩ (shs 8) c' (defBody s_l_course) (t_l_course sp_l_some sp_l_draw) :=
  ⟨[.sh, .sh, .sh, .sh, .sh, .sh, .sh, .sh], (sm_cons (sm_setF 4 S_l_course.nd (em_lst (am_consC (em_call F_l_some (hr.mono (by decide)) T.m_l_some T.f_l_some.kp T.b_l_some .nil (fun _ => Rps.nil) (am_consC (em_var 0) (am_consC (em_var 1) (am_consC (em_var 2) am_nil)))) am_nil)))
    (sm_cons (sm_while (c := [.sh, .sh, .sh, .sh, .ow, .sh, .sh, .sh]) .never (tm_cmp op_lt lift_lt (PEm.ow (em_callB call_lenA lift_len (by rfl) T.z_len PySem.boot_len (am_cons (em_varO 4) am_nil))) (PEm.ow (em_var 3)) (nomark _)) (sm_cons (sm_setLc 5 (hsw := sw_true rfl rfl rfl (by decide +kernel)) (own := [("house", 7)]) rfl S_l_course.nd (im_seq (em_var 1)) (blkOk_by (N := n_l_course) (sc := defScope s_l_course) (by decide +kernel)) (fun _ _ _ _ _ => (gm_name 7 S_l_course.nd)) (fun _ _ _ _ _ => (tsm_one (tm_cmp op_notIn_seq lift_in (PEm.ow (em_var 7)) (PEm.ow (em_ix (em_varO 4) (PEm.ow (em_un un_neg lift_neg (PEm.ow em_int))) (fun _ _ => rfl))) (by with_unfolding_all rfl)))) (fun _ _ _ _ _ => (em_var 7)))
    (sm_cons (sm_pre1 (c := [.sh, .sh, .sh, .sh, .ow, .ow, .sh, .sh]) (c1 := [.sh, .sh, .sh, .sh, .ow, .sh, .sh, .sh]) (by decide) (sm_set 6 S_l_course.nd (em_call F_l_some (hr.mono (by decide)) T.m_l_some T.f_l_some.kp T.b_l_some .nil (fun _ => Rps.nil) (am_consC (em_var 0) (am_consC (em_var 5) (am_consC (em_callB (call_min2 rfl) lift_min2 (by rfl) T.z_min PyProof.Rows.boot_min (am_cons (PEm.ow (em_callB call_lenA lift_len (by rfl) T.z_len PySem.boot_len (am_cons (PEm.ow (em_var 5)) am_nil))) (am_cons (PEm.ow (em_call F_l_draw (hr.mono (by decide)) T.m_l_draw T.f_l_draw.kp T.b_l_draw .nil (fun _ => Rps.nil) (am_consC (em_var 0) (am_consC (em_op op_plus lift_plus (PEm.ow (em_var 2)) (PEm.ow em_int)) am_nil)))) am_nil))) am_nil))))))
    (sm_one (sm_app 4 (em_callTy call_tuple_of lift_tuple (by rfl) T.z_tuple PyProof.Rows.boot_tuple (am_cons (PEm.ow (em_callB cr_sortedTI lift_sortTI (by rfl) T.z_sorted PyProof.Rows.boot_sorted (am_cons (PEm.ow (em_op op_plus lift_plus (PEm.ow (em_var 6)) (PEm.ow (em_call F_l_some (hr.mono (by decide)) T.m_l_some T.f_l_some.kp T.b_l_some .nil (fun _ => Rps.nil) (am_consC (em_var 0) (am_consC (em_ix (em_varO 4) (PEm.ow (em_un un_neg lift_neg (PEm.ow em_int))) (fun _ _ => rfl)) (am_consC (em_op op_sub lift_sub (PEm.ow (em_var 2)) (PEm.ow (em_callB call_lenA lift_len (by rfl) T.z_len PySem.boot_len (am_cons (PEm.ow (em_var 6)) am_nil)))) am_nil))))))) am_nil))) am_nil)))))))
    (sm_one (sm_ret (em_callTy call_tuple_of lift_tuple (by rfl) T.z_tuple PyProof.Rows.boot_tuple (am_cons (em_varO 4) am_nil))))))⟩
def t_l_notes (sp_l_draw : PM.Spec) (sp_l_pick : PM.Spec) (sp_l_some : PM.Spec) : TSm :=
  (sSeq (sPar [6, 7] (mCons (mLst mNil) (mCons (mCall sp_l_draw [] (mCons (mVar 0) (mCons (mB oMax2 (mCons (mC (.int 1)) (mCons (mOp oSub (mB oLen (mCons (mVar 1) mNil)) (mC (.int 1))) mNil))) mNil))) mNil))) (sSeq (sFor (mRng1 (mCall sp_l_pick [] (mCons (mVar 0) (mCons (mLst (mCons (mC (.int 0)) (mCons (mC (.int 4)) (mCons (mC (.int 12)) (mCons (mC (.int 30)) (mCons (mC (.int 60)) mNil)))))) mNil)))) (gmN 4) (sSeq (sSet 5 (mIf (mTB (mOp oGt (mCall sp_l_draw [] (mCons (mVar 0) (mCons (mC (.int 4)) mNil))) (mC (.int 0)))) (mVar 7) (mCall sp_l_draw [] (mCons (mVar 0) (mCons (mB oLen (mCons (mVar 1) mNil)) mNil))))) (sSeq (sSet 8 (mIf (mTB (mOp oGt (mCall sp_l_draw [] (mCons (mVar 0) (mCons (mC (.int 5)) mNil))) (mC (.int 0)))) (mCall sp_l_pick [] (mCons (mVar 0) (mCons (mOp oIx (mVar 1) (mB oMin2 (mCons (mOp oAdd (mVar 5) (mC (.int 1))) (mCons (mOp oSub (mB oLen (mCons (mVar 1) mNil)) (mC (.int 1))) mNil)))) mNil))) (mCall sp_l_pick [] (mCons (mVar 0) (mCons (mVar 2) mNil))))) (sSeq (sAsg (mCall sp_l_pick [] (mCons (mVar 0) (mCons (mVar 3) mNil))) (gmT 2 (gmCons (gmN 10) (gmCons (gmN 11) gmNil)))) (sSeq (sPar [12, 13] (mCons (mCall sp_l_pick [] (mCons (mVar 0) (mCons (mVar 2) mNil))) (mCons (mCall sp_l_draw [] (mCons (mVar 0) (mCons (mC (.int 11)) mNil))) mNil))) (sSeq (sSet 9 (mCall sp_l_draw [] (mCons (mVar 0) (mCons (mC (.int 14)) mNil)))) (sSeq (sIf (mTB (mOp oLt (mVar 9) (mC (.int 8)))) (sSet 14 (mTup (mCons (mVar 8) (mCons (mC (.str (PySem.Str.ofString "hold"))) (mCons (mVar 5) (mCons (mVar 10) (mCons (mVar 11) mNil))))))) (sIf (mTB (mOp oLt (mVar 9) (mC (.int 10)))) (sSet 14 (mTup (mCons (mVar 8) (mCons (mC (.str (PySem.Str.ofString "hold"))) (mCons (mVar 5) mNil))))) (sIf (mTB (mOp oEq (mVar 9) (mC (.int 10)))) (sSet 14 (mTup (mCons (mVar 10) (mCons (mC (.str (PySem.Str.ofString "deal"))) (mCons (mVar 5) (mCons (mVar 11) mNil)))))) (sIf (mTB (mOp oEq (mVar 9) (mC (.int 11)))) (sSet 14 (mTup (mCons (mCall sp_l_pick [] (mCons (mVar 0) (mCons (mOp oIx (mVar 1) (mVar 5)) mNil))) (mCons (mC (.str (PySem.Str.ofString "wiped"))) (mCons (mVar 5) mNil))))) (sSet 14 (mIf (mTB (mOp oEq (mVar 9) (mC (.int 12)))) (mTup (mCons (mVar 8) (mCons (mC (.str (PySem.Str.ofString "help"))) (mCons (mVar 5) (mCons (mVar 10) (mCons (mVar 11) (mCons (mVar 12) (mCons (mVar 13) mNil)))))))) (mTup (mCons (mVar 8) (mCons (mC (.str (PySem.Str.ofString "help"))) (mCons (mVar 5) (mCons (mVar 12) (mCons (mVar 13) mNil)))))))))))) (sApp 6 (mVar 14))))))))) (sSeq (sFor (mRng1 (mB oLen (mCons (mVar 1) mNil))) (gmN 5) (sIf (mTB (mOp oEq (mCall sp_l_draw [] (mCons (mVar 0) (mCons (mC (.int 2)) mNil))) (mC (.int 0)))) (sSet 6 (mOp oCat (mVarO 6) (mLc (mItems (mCall sp_l_some [] (mCons (mVar 0) (mCons (mOp oIx (mVar 1) (mVar 5)) (mCons (mCall sp_l_draw [] (mCons (mVar 0) (mCons (mOp oAdd (mB oLen (mCons (mOp oIx (mVar 1) (mVar 5)) mNil)) (mC (.int 1))) mNil))) mNil))))) [8] (gmN 8) mYes (mTup (mCons (mVar 8) (mCons (mC (.str (PySem.Str.ofString "wiped"))) (mCons (mVar 5) mNil))))))) sNext)) (sRet (mTup (mCons (mVar 7) (mCons (mOp oAdd (mB oTuple (mCons (mVar 6) mNil)) (mB oTuple (mCons (mCall sp_l_some [] (mCons (mVar 0) (mCons (mVar 6) (mCons (mB oMin2 (mCons (mB oLen (mCons (mVar 6) mNil)) (mCons (mCall sp_l_draw [] (mCons (mVar 0) (mCons (mC (.int 5)) mNil))) mNil))) mNil)))) mNil))) mNil)))))))
theorem w_l_notes (T : Tx K mg) (sp_l_draw : PM.Spec) (sp_l_pick : PM.Spec) (sp_l_some : PM.Spec)
    (F_l_draw : FnOk P w K mg base CX0 1 T.a_l_draw T.d_l_draw p_l_draw (spM K .cl sp_l_draw))
    (F_l_pick : FnOk P w K mg base CX0 2 T.a_l_pick T.d_l_pick p_l_pick (spM K .cl sp_l_pick))
    (F_l_some : FnOk P w K mg base CX0 2 T.a_l_some T.d_l_some p_l_some (spM K .cl sp_l_some)) (cdv : Value) (A : Around) (outer : List PySem.Env) (s : Shared) (H : Hp) (E : XK)
    (hr : Room 2 (A.deeper (PyProof.Rows.envOfC "_law_notes" (defScope s_l_notes) s.heap.objs.size T.a_l_notes cdv))) :
    ∃ c', PSsm (bodyX P w K mg base n_l_notes "_law_notes" s_l_notes T.a_l_notes cdv A outer s H E) ⟨.cl, false, []⟩ (shs 15) c' (defBody s_l_notes) (t_l_notes sp_l_draw sp_l_pick sp_l_some) :=
  ⟨[.sh, .sh, .sh, .sh, .sh, .sh, .sh, .sh, .sh, .sh, .sh, .sh, .sh, .sh, .sh], (sm_cons (sm_par [6, 7] rfl S_l_notes.nd (xm_fr (em_lst am_nil) (xm_cl (em_call F_l_draw (hr.mono (by decide)) T.m_l_draw T.f_l_draw.kp T.b_l_draw .nil (fun _ => Rps.nil) (am_consC (em_var 0) (am_consC (em_callB (call_max2 rfl) lift_max2 (by rfl) T.z_max PyProof.Rows.boot_max (am_cons (PEm.ow em_int) (am_cons (PEm.ow (em_op op_sub lift_sub (PEm.ow (em_callB call_lenA lift_len (by rfl) T.z_len PySem.boot_len (am_cons (PEm.ow (em_var 1)) am_nil))) (PEm.ow em_int))) am_nil))) am_nil))) xm_nil)))
    (sm_cons (sm_for (c := [.sh, .sh, .sh, .sh, .sh, .sh, .ow, .sh, .sh, .sh, .sh, .sh, .sh, .sh, .sh]) .never rfl (im_rng1 T.z_range (PEm.ow (em_call F_l_pick (hr.mono (by decide)) T.m_l_pick T.f_l_pick.kp T.b_l_pick .nil (fun _ => Rps.nil) (am_consC (em_var 0) (am_consC (PEm.cl (em_lst (am_consC em_int (am_consC em_int (am_consC em_int (am_consC em_int (am_consC em_int am_nil))))))) am_nil))))) (gm_name 4 S_l_notes.nd) (sm_cons (sm_set 5 S_l_notes.nd (em_if (tm_cmp op_gt lift_gt (PEm.ow (em_call F_l_draw (hr.mono (by decide)) T.m_l_draw T.f_l_draw.kp T.b_l_draw .nil (fun _ => Rps.nil) (am_consC (em_var 0) (am_consC em_int am_nil)))) (PEm.ow em_int) (nomark _)) (em_var 7) (em_call F_l_draw (hr.mono (by decide)) T.m_l_draw T.f_l_draw.kp T.b_l_draw .nil (fun _ => Rps.nil) (am_consC (em_var 0) (am_consC (em_callB call_lenA lift_len (by rfl) T.z_len PySem.boot_len (am_cons (PEm.ow (em_var 1)) am_nil)) am_nil)))))
    (sm_cons (sm_set 8 S_l_notes.nd (em_if (tm_cmp op_gt lift_gt (PEm.ow (em_call F_l_draw (hr.mono (by decide)) T.m_l_draw T.f_l_draw.kp T.b_l_draw .nil (fun _ => Rps.nil) (am_consC (em_var 0) (am_consC em_int am_nil)))) (PEm.ow em_int) (nomark _)) (em_call F_l_pick (hr.mono (by decide)) T.m_l_pick T.f_l_pick.kp T.b_l_pick .nil (fun _ => Rps.nil) (am_consC (em_var 0) (am_consC (em_ix (PEm.ow (em_var 1)) (PEm.ow (em_callB (call_min2 rfl) lift_min2 (by rfl) T.z_min PyProof.Rows.boot_min (am_cons (PEm.ow (em_op op_plus lift_plus (PEm.ow (em_var 5)) (PEm.ow em_int))) (am_cons (PEm.ow (em_op op_sub lift_sub (PEm.ow (em_callB call_lenA lift_len (by rfl) T.z_len PySem.boot_len (am_cons (PEm.ow (em_var 1)) am_nil))) (PEm.ow em_int))) am_nil)))) (fun _ _ => rfl)) am_nil))) (em_call F_l_pick (hr.mono (by decide)) T.m_l_pick T.f_l_pick.kp T.b_l_pick .nil (fun _ => Rps.nil) (am_consC (em_var 0) (am_consC (em_var 2) am_nil)))))
    (sm_cons (sm_asg (em_call F_l_pick (hr.mono (by decide)) T.m_l_pick T.f_l_pick.kp T.b_l_pick .nil (fun _ => Rps.nil) (am_consC (em_var 0) (am_consC (em_var 3) am_nil))) (gm_tup rfl (gsm_cons (gm_name 10 S_l_notes.nd) (gsm_cons (gm_name 11 S_l_notes.nd) gsm_nil))))
    (sm_cons (sm_par [12, 13] rfl S_l_notes.nd (xm_cl (em_call F_l_pick (hr.mono (by decide)) T.m_l_pick T.f_l_pick.kp T.b_l_pick .nil (fun _ => Rps.nil) (am_consC (em_var 0) (am_consC (em_var 2) am_nil))) (xm_cl (em_call F_l_draw (hr.mono (by decide)) T.m_l_draw T.f_l_draw.kp T.b_l_draw .nil (fun _ => Rps.nil) (am_consC (em_var 0) (am_consC em_int am_nil))) xm_nil)))
    (sm_cons (sm_set 9 S_l_notes.nd (em_call F_l_draw (hr.mono (by decide)) T.m_l_draw T.f_l_draw.kp T.b_l_draw .nil (fun _ => Rps.nil) (am_consC (em_var 0) (am_consC em_int am_nil))))
    (sm_cons (sm_if (c' := [.sh, .sh, .sh, .sh, .sh, .sh, .ow, .sh, .sh, .sh, .sh, .sh, .sh, .sh, .sh]) (tm_cmp op_lt lift_lt (PEm.ow (em_var 9)) (PEm.ow em_int) (nomark _)) (sm_one (sm_set 14 S_l_notes.nd (em_tup (am_consC (em_var 8) (am_consC em_str (am_consC (em_var 5) (am_consC (em_var 10) (am_consC (em_var 11) am_nil)))))))) (sm_one (sm_if (c' := [.sh, .sh, .sh, .sh, .sh, .sh, .ow, .sh, .sh, .sh, .sh, .sh, .sh, .sh, .sh]) (tm_cmp op_lt lift_lt (PEm.ow (em_var 9)) (PEm.ow em_int) (nomark _)) (sm_one (sm_set 14 S_l_notes.nd (em_tup (am_consC (em_var 8) (am_consC em_str (am_consC (em_var 5) am_nil)))))) (sm_one (sm_if (c' := [.sh, .sh, .sh, .sh, .sh, .sh, .ow, .sh, .sh, .sh, .sh, .sh, .sh, .sh, .sh]) (tm_cmp (op_eqD hr.units) lift_eq (PEm.ow (em_var 9)) (PEm.ow em_int) (nomark _)) (sm_one (sm_set 14 S_l_notes.nd (em_tup (am_consC (em_var 10) (am_consC em_str (am_consC (em_var 5) (am_consC (em_var 11) am_nil))))))) (sm_one (sm_if (c' := [.sh, .sh, .sh, .sh, .sh, .sh, .ow, .sh, .sh, .sh, .sh, .sh, .sh, .sh, .sh]) (tm_cmp (op_eqD hr.units) lift_eq (PEm.ow (em_var 9)) (PEm.ow em_int) (nomark _)) (sm_one (sm_set 14 S_l_notes.nd (em_tup (am_consC (em_call F_l_pick (hr.mono (by decide)) T.m_l_pick T.f_l_pick.kp T.b_l_pick .nil (fun _ => Rps.nil) (am_consC (em_var 0) (am_consC (em_ix (PEm.ow (em_var 1)) (PEm.ow (em_var 5)) (fun _ _ => rfl)) am_nil))) (am_consC em_str (am_consC (em_var 5) am_nil)))))) (sm_one (sm_set 14 S_l_notes.nd (em_if (tm_cmp (op_eqD hr.units) lift_eq (PEm.ow (em_var 9)) (PEm.ow em_int) (nomark _)) (em_tup (am_consC (em_var 8) (am_consC em_str (am_consC (em_var 5) (am_consC (em_var 10) (am_consC (em_var 11) (am_consC (em_var 12) (am_consC (em_var 13) am_nil)))))))) (em_tup (am_consC (em_var 8) (am_consC em_str (am_consC (em_var 5) (am_consC (em_var 12) (am_consC (em_var 13) am_nil))))))))))))))))
    (sm_one (sm_app 6 (em_var 14))))))))) (fun _ e => by cases e))
    (sm_cons (sm_for (c := [.sh, .sh, .sh, .sh, .sh, .sh, .ow, .sh, .sh, .sh, .sh, .sh, .sh, .sh, .sh]) .never rfl (im_rng1 T.z_range (PEm.ow (em_callB call_lenA lift_len (by rfl) T.z_len PySem.boot_len (am_cons (PEm.ow (em_var 1)) am_nil)))) (gm_name 5 S_l_notes.nd) (sm_one (sm_if (c' := [.sh, .sh, .sh, .sh, .sh, .sh, .ow, .sh, .sh, .sh, .sh, .sh, .sh, .sh, .sh]) (tm_cmp (op_eqD hr.units) lift_eq (PEm.ow (em_call F_l_draw (hr.mono (by decide)) T.m_l_draw T.f_l_draw.kp T.b_l_draw .nil (fun _ => Rps.nil) (am_consC (em_var 0) (am_consC em_int am_nil)))) (PEm.ow em_int) (nomark _)) (sm_one (sm_setF 6 S_l_notes.nd (em_op op_cat lift_catF (em_varO 6) (PEm.ow (em_lc (own := [("who", 8)]) rfl S_l_notes.nd (im_seq (em_call F_l_some (hr.mono (by decide)) T.m_l_some T.f_l_some.kp T.b_l_some .nil (fun _ => Rps.nil) (am_consC (em_var 0) (am_consC (em_ix (PEm.ow (em_var 1)) (PEm.ow (em_var 5)) (fun _ _ => rfl)) (am_consC (em_call F_l_draw (hr.mono (by decide)) T.m_l_draw T.f_l_draw.kp T.b_l_draw .nil (fun _ => Rps.nil) (am_consC (em_var 0) (am_consC (em_op op_plus lift_plus (PEm.ow (em_callB call_lenA lift_len (by rfl) T.z_len PySem.boot_len (am_cons (PEm.ow (em_ix (PEm.ow (em_var 1)) (PEm.ow (em_var 5)) (fun _ _ => rfl))) am_nil))) (PEm.ow em_int)) am_nil))) am_nil))))) (blkOk_by (N := n_l_notes) (sc := defScope s_l_notes) (by decide +kernel)) (fun _ _ _ _ _ => (gm_name 8 S_l_notes.nd)) (fun _ _ _ _ _ => tsm_nil) (fun _ _ _ _ _ => (em_tup (am_consC (em_var 8) (am_consC em_str (am_consC (em_var 5) am_nil)))))))))) sm_nil)) (fun _ e => by cases e))
    (sm_one (sm_pre1 (c := [.sh, .sh, .sh, .sh, .sh, .sh, .ow, .sh, .sh, .sh, .sh, .sh, .sh, .sh, .sh]) (c1 := [.sh, .sh, .sh, .sh, .sh, .sh, .sh, .sh, .sh, .sh, .sh, .sh, .sh, .sh, .sh]) (by decide) (sm_ret (em_tup (am_consC (em_var 7) (am_consC (em_op op_plus lift_plus (PEm.ow (em_callTy call_tuple_of lift_tuple (by rfl) T.z_tuple PyProof.Rows.boot_tuple (am_cons (PEm.ow (em_var 6)) am_nil))) (PEm.ow (em_callTy call_tuple_of lift_tuple (by rfl) T.z_tuple PyProof.Rows.boot_tuple (am_cons (PEm.ow (em_call F_l_some (hr.mono (by decide)) T.m_l_some T.f_l_some.kp T.b_l_some .nil (fun _ => Rps.nil) (am_consC (em_var 0) (am_consC (em_var 6) (am_consC (em_callB (call_min2 rfl) lift_min2 (by rfl) T.z_min PyProof.Rows.boot_min (am_cons (PEm.ow (em_callB call_lenA lift_len (by rfl) T.z_len PySem.boot_len (am_cons (PEm.ow (em_var 6)) am_nil))) (am_cons (PEm.ow (em_call F_l_draw (hr.mono (by decide)) T.m_l_draw T.f_l_draw.kp T.b_l_draw .nil (fun _ => Rps.nil) (am_consC (em_var 0) (am_consC em_int am_nil)))) am_nil))) am_nil))))) am_nil)))) am_nil)))))))))⟩
def t_l_holders : TSm :=
  (sSeq (sSet 4 (mLst mNil)) (sSeq (sFor (mItems (mOp oIx (mVar 0) (mOp oAdd (mVar 2) (mC (.int 1))))) (gmN 5) (sIf (mTB (mOp (oInA false) (mOp oAdd (mTup (mCons (mVar 5) (mCons (mC (.str (PySem.Str.ofString "hold"))) (mCons (mVar 2) mNil)))) (mVar 3)) (mVar 1))) (sApp 4 (mVar 5)) sNext)) (sRet (mB oTuple (mCons (mVarO 4) mNil)))))
theorem w_l_holders (T : Tx K mg) (cdv : Value) (A : Around) (outer : List PySem.Env) (s : Shared) (H : Hp) (E : XK)
    (hr : Room 0 (A.deeper (PyProof.Rows.envOfC "_law_holders" (defScope s_l_holders) s.heap.objs.size T.a_l_holders cdv))) :
    ∃ c', PSsm (bodyX P w K mg base n_l_holders "_law_holders" s_l_holders T.a_l_holders cdv A outer s H E) ⟨.cl, false, []⟩ (shs 6) c' (defBody s_l_holders) (t_l_holders) :=
  ⟨[.sh, .sh, .sh, .sh, .sh, .sh], (sm_cons (sm_setF 4 S_l_holders.nd (em_lst am_nil))
    (sm_cons (sm_for (c := [.sh, .sh, .sh, .sh, .ow, .sh]) .never rfl (im_seq (em_ix (PEm.ow (em_var 0)) (PEm.ow (em_op op_plus lift_plus (PEm.ow (em_var 2)) (PEm.ow em_int))) (fun _ _ => rfl))) (gm_name 5 S_l_holders.nd) (sm_one (sm_if (c' := [.sh, .sh, .sh, .sh, .ow, .sh]) (tm_cmp (op_inA (hu65_of hr)) lift_inA (PEm.ow (em_op op_plus lift_plus (PEm.ow (em_tup (am_consC (em_var 5) (am_consC em_str (am_consC (em_var 2) am_nil))))) (PEm.ow (em_var 3)))) (PEm.ow (em_var 1)) (by with_unfolding_all rfl)) (sm_one (sm_app 4 (em_var 5))) sm_nil)) (fun _ e => by cases e))
    (sm_one (sm_ret (em_callTy call_tuple_of lift_tuple (by rfl) T.z_tuple PyProof.Rows.boot_tuple (am_cons (em_varO 4) am_nil))))))⟩
def t_l_is_complete (sp_l_holders : PM.Spec) : TSm :=
  (sSeq (sIf (mAnd (mTB (mOp oGt (mB oLen (mCons (mVar 4) mNil)) (mC (.int 0)))) (mTB (mOp (oIn true) (mOp oIx (mVar 4) (mC (.int 0))) (mOp oIx (mVar 1) (mVar 3))))) (sRet (mC (.bl false))) sNext) (sSeq (sSet 6 (mCall sp_l_holders [] (mCons (mVar 1) (mCons (mVar 2) (mCons (mVar 3) (mCons (mVar 4) mNil)))))) (sRet (mOp oGe (mB oLen (mCons (mLc (mItems (mOp oIx (mVar 1) (mOp oAdd (mVar 3) (mC (.int 1))))) [7] (gmN 7) (mOr (mTB (mOp (oIn false) (mVar 7) (mVar 6))) (mTB (mOp (oIn false) (mVar 7) (mVar 5)))) (mVar 7)) mNil)) (mVar 0)))))
theorem w_l_is_complete (T : Tx K mg) (sp_l_holders : PM.Spec)
    (F_l_holders : FnOk P w K mg base CX0 1 T.a_l_holders T.d_l_holders p_l_holders (spM K .cl sp_l_holders)) (cdv : Value) (A : Around) (outer : List PySem.Env) (s : Shared) (H : Hp) (E : XK)
    (hr : Room 1 (A.deeper (PyProof.Rows.envOfC "_law_is_complete" (defScope s_l_is_complete) s.heap.objs.size T.a_l_is_complete cdv))) :
    ∃ c', PSsm (bodyX P w K mg base n_l_is_complete "_law_is_complete" s_l_is_complete T.a_l_is_complete cdv A outer s H E) ⟨.cl, false, []⟩ (shs 8) c' (defBody s_l_is_complete) (t_l_is_complete sp_l_holders) :=
  ⟨[.sh, .sh, .sh, .sh, .sh, .sh, .sh, .sh], (sm_cons (sm_if (c' := [.sh, .sh, .sh, .sh, .sh, .sh, .sh, .sh]) (PWm.pt (wm_and (tm_cmp op_gt lift_gt (PEm.ow (em_callB call_lenA lift_len (by rfl) T.z_len PySem.boot_len (am_cons (PEm.ow (em_var 4)) am_nil))) (PEm.ow em_int) (nomark _)) (wm_and1 (tm_cmp op_notIn_seq lift_in (PEm.ow (em_ix (PEm.ow (em_var 4)) (PEm.ow em_int) (fun _ _ => rfl))) (PEm.ow (em_ix (PEm.ow (em_var 1)) (PEm.ow (em_var 3)) (fun _ _ => rfl))) (by with_unfolding_all rfl))))) (sm_one (sm_ret em_bl)) sm_nil)
    (sm_cons (sm_set 6 S_l_is_complete.nd (em_call F_l_holders (hr.mono (by decide)) T.m_l_holders T.f_l_holders.kp T.b_l_holders .nil (fun _ => Rps.nil) (am_consC (em_var 1) (am_consC (em_var 2) (am_consC (em_var 3) (am_consC (em_var 4) am_nil))))))
    (sm_one (sm_ret (em_cmp op_ge lift_ge (PEm.ow (em_callB call_lenA lift_len (by rfl) T.z_len PySem.boot_len (am_cons (PEm.ow (em_lc (own := [("house", 7)]) rfl S_l_is_complete.nd (im_seq (em_ix (PEm.ow (em_var 1)) (PEm.ow (em_op op_plus lift_plus (PEm.ow (em_var 3)) (PEm.ow em_int))) (fun _ _ => rfl))) (blkOk_by (N := n_l_is_complete) (sc := defScope s_l_is_complete) (by decide +kernel)) (fun _ _ _ _ _ => (gm_name 7 S_l_is_complete.nd)) (fun _ _ _ _ _ => (tsm_one (PWm.pt (wm_or (tm_cmp op_in_seq lift_in (PEm.ow (em_var 7)) (PEm.ow (em_var 6)) (by with_unfolding_all rfl)) (wm_or1 (tm_cmp op_in_seq lift_in (PEm.ow (em_var 7)) (PEm.ow (em_var 5)) (by with_unfolding_all rfl))))))) (fun _ _ _ _ _ => (em_var 7)))) am_nil))) (PEm.ow (em_var 0)) (nomark _))))))⟩
def t_l_named : TSm :=
  (sSeq (sSet 3 (mLst mNil)) (sSeq (sFor (mItems (mVar 1)) (gmN 4) (sSeq (sIf (mAnd (mTB (mOp oEq (mOp oIx (mVar 4) (mC (.int 1))) (mC (.str (PySem.Str.ofString "deal"))))) (mTB (mOp oEq (mOp oIx (mVar 4) (mC (.int 2))) (mVar 2)))) (sApp 3 (mTup (mCons (mOp oIx (mVar 4) (mC (.int 0))) (mCons (mOp oIx (mVar 4) (mC (.int 3))) mNil)))) sNext) (sIf (mAnd (mTB (mOp oEq (mOp oIx (mVar 4) (mC (.int 1))) (mC (.str (PySem.Str.ofString "hold"))))) (mAnd (mTB (mOp oEq (mOp oIx (mVar 4) (mC (.int 2))) (mVar 2))) (mTB (mOp oGt (mB oLen (mCons (mVar 4) mNil)) (mC (.int 3)))))) (sApp 3 (mTup (mCons (mOp oIx (mVar 4) (mC (.int 3))) (mCons (mOp oIx (mVar 4) (mC (.int 4))) mNil)))) sNext))) (sRet (mLc (mItems (mB oSortSet (mCons (mVarO 3) mNil))) [5] (gmN 5) (mTB (mOp (oIn false) (mOp oIx (mVar 5) (mC (.int 0))) (mOp oIx (mVar 0) (mVar 2)))) (mVar 5)))))
theorem w_l_named (T : Tx K mg) (cdv : Value) (A : Around) (outer : List PySem.Env) (s : Shared) (H : Hp) (E : XK)
    (hr : Room 0 (A.deeper (PyProof.Rows.envOfC "_law_named" (defScope s_l_named) s.heap.objs.size T.a_l_named cdv))) :
    ∃ c', PSsm (bodyX P w K mg base n_l_named "_law_named" s_l_named T.a_l_named cdv A outer s H E) ⟨.cl, false, []⟩ (shs 6) c' (defBody s_l_named) (t_l_named) :=
  ⟨[.sh, .sh, .sh, .sh, .sh, .sh], (sm_cons (sm_setF 3 S_l_named.nd (em_lst am_nil))
    (sm_cons (sm_for (c := [.sh, .sh, .sh, .ow, .sh, .sh]) .never rfl (im_seq (em_var 1)) (gm_name 4 S_l_named.nd) (sm_cons (sm_if (c' := [.sh, .sh, .sh, .ow, .sh, .sh]) (PWm.pt (wm_and (tm_cmp (op_eqD hr.units) lift_eq (PEm.ow (em_ix (PEm.ow (em_var 4)) (PEm.ow em_int) (fun _ _ => rfl))) (PEm.ow em_str) (nomark _)) (wm_and1 (tm_cmp (op_eqD hr.units) lift_eq (PEm.ow (em_ix (PEm.ow (em_var 4)) (PEm.ow em_int) (fun _ _ => rfl))) (PEm.ow (em_var 2)) (nomark _))))) (sm_one (sm_app 3 (em_tup (am_consC (em_ix (PEm.ow (em_var 4)) (PEm.ow em_int) (fun _ _ => rfl)) (am_consC (em_ix (PEm.ow (em_var 4)) (PEm.ow em_int) (fun _ _ => rfl)) am_nil))))) sm_nil)
    (sm_one (sm_if (c' := [.sh, .sh, .sh, .ow, .sh, .sh]) (PWm.pt (wm_and (tm_cmp (op_eqD hr.units) lift_eq (PEm.ow (em_ix (PEm.ow (em_var 4)) (PEm.ow em_int) (fun _ _ => rfl))) (PEm.ow em_str) (nomark _)) (wm_and (tm_cmp (op_eqD hr.units) lift_eq (PEm.ow (em_ix (PEm.ow (em_var 4)) (PEm.ow em_int) (fun _ _ => rfl))) (PEm.ow (em_var 2)) (nomark _)) (wm_and1 (tm_cmp op_gt lift_gt (PEm.ow (em_callB call_lenA lift_len (by rfl) T.z_len PySem.boot_len (am_cons (PEm.ow (em_var 4)) am_nil))) (PEm.ow em_int) (nomark _)))))) (sm_one (sm_app 3 (em_tup (am_consC (em_ix (PEm.ow (em_var 4)) (PEm.ow em_int) (fun _ _ => rfl)) (am_consC (em_ix (PEm.ow (em_var 4)) (PEm.ow em_int) (fun _ _ => rfl)) am_nil))))) sm_nil))) (fun _ e => by cases e))
    (sm_one (sm_ret (PEm.cl (em_lc (own := [("pair", 5)]) rfl S_l_named.nd (im_seq (PEm.cl (em_callBT (cr_sortedT rfl) (cr_setF rfl (hu64_of hr)) lift_sortSet (by rfl) T.z_sorted PyProof.Rows.boot_sorted (by rfl) T.z_set PyProof.Rows.boot_set (am_cons (em_varO 3) am_nil)))) (blkOk_by (N := n_l_named) (sc := defScope s_l_named) (by decide +kernel)) (fun _ _ _ _ _ => (gm_name 5 S_l_named.nd)) (fun _ _ _ _ _ => (tsm_one (tm_cmp op_in_seq lift_in (PEm.ow (em_ix (PEm.ow (em_var 5)) (PEm.ow em_int) (fun _ _ => rfl))) (PEm.ow (em_ix (PEm.ow (em_var 0)) (PEm.ow (em_var 2)) (fun _ _ => rfl))) (by with_unfolding_all rfl)))) (fun _ _ _ _ _ => (em_var 5))))))))⟩
def t_l_wipes (sp_l_like : PM.Spec) (sp_is_laid_down : PM.Spec) (sp_wiped_by : PM.Spec) (sp_most_keepers : PM.Spec) : TSm :=
  (sSeq (sFor (mEnum (mVar 1)) (gmT 2 (gmCons (gmN 3) (gmCons (gmN 4) gmNil))) (sSeq (sSet 5 (mB oTuple (mCons (mLc (mItems (mVar 4)) [7] (gmN 7) (mTB (mOp (oInA false) (mTup (mCons (mVar 7) (mCons (mC (.str (PySem.Str.ofString "wiped"))) (mCons (mVar 3) mNil)))) (mVar 2))) (mVar 7)) mNil))) (sSeq (sSet 6 (mB oMaxL (mCons (mLc (mRng1 (mOp oAdd (mB oMin2 (mCons (mFld "f" (mVar 0)) (mCons (mB oLen (mCons (mVar 5) mNil)) mNil))) (mC (.int 1)))) [8] (gmN 8) mYes (mOp oAdd (mOp oSub (mB oLen (mCons (mVar 4) mNil)) (mB oLen (mCons (mVar 5) mNil))) (mVar 8))) mNil))) (sSeq (sIf (mOr (mNot (mTB (mCall sp_l_like [] (mCons (mCall sp_wiped_by [] (mCons (mVar 1) (mCons (mVar 2) (mCons (mVar 3) mNil)))) (mCons (mVar 5) mNil))))) (mNot (mTB (mCall sp_l_like [] (mCons (mCall sp_most_keepers [] (mCons (mVar 0) (mCons (mVar 1) (mCons (mVar 2) (mCons (mVar 3) mNil))))) (mCons (mVar 6) mNil)))))) (sRet (mC (.bl false))) sNext) (sIf (mNot (mTB (mCall sp_l_like [] (mCons (mCall sp_is_laid_down [] (mCons (mVar 0) (mCons (mVar 1) (mCons (mVar 2) (mCons (mVar 3) mNil))))) (mCons (mOp oGe (mOp oAdd (mB oLen (mCons (mVar 5) mNil)) (mFld "f" (mVar 0))) (mB oLen (mCons (mVar 4) mNil))) mNil))))) (sRet (mC (.bl false))) sNext))))) (sRet (mC (.bl true))))
theorem w_l_wipes (T : Tx K mg) (sp_l_like : PM.Spec) (sp_is_laid_down : PM.Spec) (sp_wiped_by : PM.Spec) (sp_most_keepers : PM.Spec)
    (F_l_like : FnOk P w K mg base CX0 3 T.a_l_like T.d_l_like p_l_like (spM K .cl sp_l_like))
    (F_is_laid_down : FnOk P w K mg base CX0 2 T.a_is_laid_down T.d_is_laid_down p_is_laid_down (spM K .cl sp_is_laid_down))
    (F_wiped_by : FnOk P w K mg base CX0 1 T.a_wiped_by T.d_wiped_by p_wiped_by (spM K .cl sp_wiped_by))
    (F_most_keepers : FnOk P w K mg base CX0 2 T.a_most_keepers T.d_most_keepers p_most_keepers (spM K .cl sp_most_keepers)) (cdv : Value) (A : Around) (outer : List PySem.Env) (s : Shared) (H : Hp) (E : XK)
    (hr : Room 3 (A.deeper (PyProof.Rows.envOfC "_law_wipes" (defScope s_l_wipes) s.heap.objs.size T.a_l_wipes cdv))) :
    ∃ c', PSsm (bodyX P w K mg base n_l_wipes "_law_wipes" s_l_wipes T.a_l_wipes cdv A outer s H E) ⟨.cl, false, []⟩ (shs 9) c' (defBody s_l_wipes) (t_l_wipes sp_l_like sp_is_laid_down sp_wiped_by sp_most_keepers) :=
  ⟨[.sh, .sh, .sh, .sh, .sh, .sh, .sh, .sh, .sh], (sm_cons (sm_for (c := [.sh, .sh, .sh, .sh, .sh, .sh, .sh, .sh, .sh]) .never rfl (im_enum T.z_enumerate (em_var 1)) (gm_tup rfl (gsm_cons (gm_name 3 S_l_wipes.nd) (gsm_cons (gm_name 4 S_l_wipes.nd) gsm_nil))) (sm_cons (sm_set 5 S_l_wipes.nd (em_callTy call_tuple_of lift_tuple (by rfl) T.z_tuple PyProof.Rows.boot_tuple (am_cons (PEm.ow (em_lc (own := [("house", 7)]) rfl S_l_wipes.nd (im_seq (em_var 4)) (blkOk_by (N := n_l_wipes) (sc := defScope s_l_wipes) (by decide +kernel)) (fun _ _ _ _ _ => (gm_name 7 S_l_wipes.nd)) (fun _ _ _ _ _ => (tsm_one (tm_cmp (op_inA (hu65_of hr)) lift_inA (PEm.ow (em_tup (am_consC (em_var 7) (am_consC em_str (am_consC (em_var 3) am_nil))))) (PEm.ow (em_var 2)) (by with_unfolding_all rfl)))) (fun _ _ _ _ _ => (em_var 7)))) am_nil)))
    (sm_cons (sm_set 6 S_l_wipes.nd (em_callB (cr_max rfl) lift_maxL (by rfl) T.z_max PyProof.Rows.boot_max (am_cons (PEm.ow (em_lc (own := [("lies", 8)]) rfl S_l_wipes.nd (im_rng1 T.z_range (PEm.ow (em_op op_plus lift_plus (PEm.ow (em_callB (call_min2 rfl) lift_min2 (by rfl) T.z_min PyProof.Rows.boot_min (am_cons (PEm.ow (em_fld (em_var 0))) (am_cons (PEm.ow (em_callB call_lenA lift_len (by rfl) T.z_len PySem.boot_len (am_cons (PEm.ow (em_var 5)) am_nil))) am_nil)))) (PEm.ow em_int)))) (blkOk_by (N := n_l_wipes) (sc := defScope s_l_wipes) (by decide +kernel)) (fun _ _ _ _ _ => (gm_name 8 S_l_wipes.nd)) (fun _ _ _ _ _ => tsm_nil) (fun _ _ _ _ _ => (em_op op_plus lift_plus (PEm.ow (em_op op_sub lift_sub (PEm.ow (em_callB call_lenA lift_len (by rfl) T.z_len PySem.boot_len (am_cons (PEm.ow (em_var 4)) am_nil))) (PEm.ow (em_callB call_lenA lift_len (by rfl) T.z_len PySem.boot_len (am_cons (PEm.ow (em_var 5)) am_nil))))) (PEm.ow (em_var 8)))))) am_nil)))
    (sm_cons (sm_if (c' := [.sh, .sh, .sh, .sh, .sh, .sh, .sh, .sh, .sh]) (PWm.pt (wm_or (tm_not (tm_val (PEm.ow (em_call F_l_like (hr.mono (by decide)) T.m_l_like T.f_l_like.kp T.b_l_like .nil (fun _ => Rps.nil) (am_consC (em_call F_wiped_by (hr.mono (by decide)) T.m_wiped_by T.f_wiped_by.kp T.b_wiped_by .nil (fun _ => Rps.nil) (am_consC (em_var 1) (am_consC (em_var 2) (am_consC (em_var 3) am_nil)))) (am_consC (em_var 5) am_nil)))))) (wm_or1 (tm_not (tm_val (PEm.ow (em_call F_l_like (hr.mono (by decide)) T.m_l_like T.f_l_like.kp T.b_l_like .nil (fun _ => Rps.nil) (am_consC (em_call F_most_keepers (hr.mono (by decide)) T.m_most_keepers T.f_most_keepers.kp T.b_most_keepers .nil (fun _ => Rps.nil) (am_consC (em_var 0) (am_consC (em_var 1) (am_consC (em_var 2) (am_consC (em_var 3) am_nil))))) (am_consC (em_var 6) am_nil))))))))) (sm_one (sm_ret em_bl)) sm_nil)
    (sm_one (sm_if (c' := [.sh, .sh, .sh, .sh, .sh, .sh, .sh, .sh, .sh]) (tm_not (tm_val (PEm.ow (em_call F_l_like (hr.mono (by decide)) T.m_l_like T.f_l_like.kp T.b_l_like .nil (fun _ => Rps.nil) (am_consC (em_call F_is_laid_down (hr.mono (by decide)) T.m_is_laid_down T.f_is_laid_down.kp T.b_is_laid_down .nil (fun _ => Rps.nil) (am_consC (em_var 0) (am_consC (em_var 1) (am_consC (em_var 2) (am_consC (em_var 3) am_nil))))) (am_consC (em_cmp op_ge lift_ge (PEm.ow (em_op op_plus lift_plus (PEm.ow (em_callB call_lenA lift_len (by rfl) T.z_len PySem.boot_len (am_cons (PEm.ow (em_var 5)) am_nil))) (PEm.ow (em_fld (em_var 0))))) (PEm.ow (em_callB call_lenA lift_len (by rfl) T.z_len PySem.boot_len (am_cons (PEm.ow (em_var 4)) am_nil))) (nomark _)) am_nil)))))) (sm_one (sm_ret em_bl)) sm_nil))))) (fun _ e => by cases e))
    (sm_one (sm_ret em_bl)))⟩
def t_law (ok_l_heap : List PV → Prop) (sp_l_some : PM.Spec) (sp_l_course : PM.Spec) (sp_l_notes : PM.Spec) (sp_Numbers : PM.Spec) (sp_l_named : PM.Spec) (sp_l_wipes : PM.Spec) (sp_l_pick : PM.Spec) (sp_l_draw : PM.Spec) (sp_l_is_complete : PM.Spec) (sp_l_like : PM.Spec) (sp_l_holders : PM.Spec) (sp_dealings_named : PM.Spec) (sp_complete_dealings : PM.Spec) (sp_fillable : PM.Spec) (sp_holders : PM.Spec) (sp_is_complete : PM.Spec) : TSm :=
  (sSeq (sSrc 1 ok_l_heap (mCons (mVar 0) mNil)) (sSeq (sPar [15, 16] (mCons (mOp oAdd (mC (.int 2)) (mCall sp_l_draw [] (mCons (mVar 1) (mCons (mCall sp_l_pick [] (mCons (mVar 1) (mCons (mLst (mCons (mC (.int 2)) (mCons (mC (.int 4)) (mCons (mC (.int 7)) mNil)))) mNil))) mNil)))) (mCons (mCall sp_l_pick [] (mCons (mVar 1) (mCons (mLst (mCons (mC (.int 2)) (mCons (mC (.int 2)) (mCons (mC (.int 3)) (mCons (mC (.int 4)) mNil))))) mNil))) mNil))) (sSeq (sSet 2 (mCall sp_l_some [] (mCons (mVar 1) (mCons (mLc (mRng1 (mC (.int 24))) [20] (gmN 20) mYes (mVar 20)) (mCons (mOp oAdd (mVar 15) (mCall sp_l_draw [] (mCons (mVar 1) (mCons (mC (.int 4)) mNil)))) mNil))))) (sSeq (sSet 3 (mCall sp_l_course [] (mCons (mVar 1) (mCons (mVar 2) (mCons (mVar 15) (mCons (mVar 16) mNil)))))) (sSeq (sSet 4 (mLc (mRng1 (mCall sp_l_pick [] (mCons (mVar 1) (mCons (mLst (mCons (mC (.int 1)) (mCons (mC (.int 2)) (mCons (mC (.int 4)) mNil)))) mNil)))) [19] (gmN 19) mYes (mTup (mCons (mCall sp_l_pick [] (mCons (mVar 1) (mCons (mVar 2) mNil))) (mCons (mCall sp_l_pick [] (mCons (mVar 1) (mCons (mLst (mCons (mC (.int 0)) (mCons (mC (.int 1)) (mCons (mC (.int 2)) (mCons (mC (.int 5)) (mCons (mC (.int 777)) mNil)))))) mNil))) mNil))))) (sSeq (sAsg (mCall sp_l_notes [] (mCons (mVar 1) (mCons (mVar 3) (mCons (mVar 2) (mCons (mVar 4) mNil))))) (gmT 2 (gmCons (gmN 17) (gmCons (gmN 18) gmNil)))) (sSeq (sSet 5 (mLc (mItems (mVar 4)) [14] (gmN 14) mYes (mB oLen (mCons (mCall sp_l_holders [] (mCons (mVar 3) (mCons (mVar 18) (mCons (mVar 17) (mCons (mVar 14) mNil))))) mNil)))) (sSeq (sSet 6 (mB oMax2 (mCons (mC (.int 1)) (mCons (mB oMin2 (mCons (mVar 15) (mCons (mOp oAdd (mCall sp_l_pick [] (mCons (mVar 1) (mCons (mVar 5) mNil))) (mCall sp_l_pick [] (mCons (mVar 1) (mCons (mLst (mCons (mOp1 oNeg (mC (.int 1))) (mCons (mC (.int 0)) (mCons (mC (.int 0)) (mCons (mC (.int 1)) (mCons (mC (.int 2)) mNil)))))) mNil)))) mNil))) mNil)))) (sSeq (sSet 7 (mMake sp_Numbers (mCons (mVar 15) (mCons (mCall sp_l_draw [] (mCons (mVar 1) (mCons (mVar 15) mNil))) (mCons (mC (.int 0)) (mCons (mC (.int 1)) (mCons (mC (.int 1)) (mCons (mVar 6) mNil)))))))) (sSeq (sSet 8 (mIf (mTB (mOp oEq (mCall sp_l_draw [] (mCons (mVar 1) (mCons (mC (.int 2)) mNil))) (mC (.int 0)))) (mTup mNil) (mCall sp_l_some [] (mCons (mVar 1) (mCons (mVar 2) (mCons (mCall sp_l_draw [] (mCons (mVar 1) (mCons (mC (.int 3)) mNil))) mNil)))))) (sSeq (sSet 9 (mCall sp_l_some [] (mCons (mVar 1) (mCons (mVar 2) (mCons (mCall sp_l_draw [] (mCons (mVar 1) (mCons (mOp oAdd (mB oMin2 (mCons (mB oLen (mCons (mVar 2) mNil)) (mCons (mC (.int 3)) mNil))) (mC (.int 1))) mNil))) mNil))))) (sSeq (sFor (mItems (mOp oAdd (mOp oAdd (mVar 4) (mLst (mCons (mTup mNil) mNil))) (mLst (mCons (mTup (mCons (mCall sp_l_pick [] (mCons (mVar 1) (mCons (mVar 2) mNil))) (mCons (mC (.int 3)) mNil))) mNil)))) (gmN 10) (sSeq (sIf (mNot (mTB (mCall sp_l_like [] (mCons (mCall sp_holders [] (mCons (mVar 3) (mCons (mVar 18) (mCons (mVar 17) (mCons (mVar 10) mNil))))) (mCons (mCall sp_l_holders [] (mCons (mVar 3) (mCons (mVar 18) (mCons (mVar 17) (mCons (mVar 10) mNil))))) mNil))))) (sRet (mC (.bl false))) sNext) (sSeq (sSet 12 (mCall sp_l_is_complete [] (mCons (mVar 6) (mCons (mVar 3) (mCons (mVar 18) (mCons (mVar 17) (mCons (mVar 10) (mCons (mVar 8) mNil)))))))) (sSeq (sIf (mNot (mTB (mCall sp_l_like [] (mCons (mCall sp_is_complete [] (mCons (mVar 7) (mCons (mVar 3) (mCons (mVar 18) (mCons (mVar 17) (mCons (mVar 10) (mCons (mVar 8) mNil))))))) (mCons (mVar 12) mNil))))) (sRet (mC (.bl false))) sNext) (sSeq (sSet 12 (mCall sp_l_is_complete [] (mCons (mVar 6) (mCons (mVar 3) (mCons (mVar 18) (mCons (mVar 17) (mCons (mVar 10) (mCons (mTup mNil) mNil)))))))) (sIf (mNot (mTB (mCall sp_l_like [] (mCons (mCall sp_is_complete [.tup []] (mCons (mVar 7) (mCons (mVar 3) (mCons (mVar 18) (mCons (mVar 17) (mCons (mVar 10) mNil)))))) (mCons (mVar 12) mNil))))) (sRet (mC (.bl false))) sNext)))))) (sSeq (sSet 11 (mCall sp_l_named [] (mCons (mVar 3) (mCons (mVar 18) (mCons (mVar 17) mNil))))) (sSeq (sIf (mNot (mTB (mCall sp_l_like [] (mCons (mCall sp_dealings_named [] (mCons (mVar 3) (mCons (mVar 18) (mCons (mVar 17) mNil)))) (mCons (mB oTuple (mCons (mVar 11) mNil)) mNil))))) (sRet (mC (.bl false))) sNext) (sSeq (sSet 12 (mB oTuple (mCons (mLc (mItems (mVar 11)) [14] (gmN 14) (mTB (mCall sp_l_is_complete [] (mCons (mVar 6) (mCons (mVar 3) (mCons (mVar 18) (mCons (mVar 17) (mCons (mVar 14) (mCons (mVar 8) mNil)))))))) (mVar 14)) mNil))) (sSeq (sIf (mNot (mTB (mCall sp_l_like [] (mCons (mCall sp_complete_dealings [] (mCons (mVar 7) (mCons (mVar 3) (mCons (mVar 18) (mCons (mVar 17) (mCons (mVar 8) mNil)))))) (mCons (mVar 12) mNil))))) (sRet (mC (.bl false))) sNext) (sSeq (sSet 12 (mB oTuple (mCons (mLc (mItems (mVar 11)) [14] (gmN 14) (mTB (mCall sp_l_is_complete [] (mCons (mVar 6) (mCons (mVar 3) (mCons (mVar 18) (mCons (mVar 17) (mCons (mVar 14) (mCons (mTup mNil) mNil)))))))) (mVar 14)) mNil))) (sSeq (sIf (mNot (mTB (mCall sp_l_like [] (mCons (mCall sp_complete_dealings [.tup []] (mCons (mVar 7) (mCons (mVar 3) (mCons (mVar 18) (mCons (mVar 17) mNil))))) (mCons (mVar 12) mNil))))) (sRet (mC (.bl false))) sNext) (sSeq (sSet 12 (mB oTuple (mCons (mLc (mItems (mVar 11)) [14] (gmN 14) (mTB (mCall sp_l_is_complete [] (mCons (mVar 6) (mCons (mVar 3) (mCons (mVar 18) (mCons (mVar 17) (mCons (mVar 14) (mCons (mOp oAdd (mVar 8) (mVar 9)) mNil)))))))) (mVar 14)) mNil))) (sSeq (sIf (mNot (mTB (mCall sp_l_like [] (mCons (mCall sp_fillable [] (mCons (mVar 7) (mCons (mVar 3) (mCons (mVar 18) (mCons (mVar 17) (mCons (mVar 9) (mCons (mVar 8) mNil))))))) (mCons (mVar 12) mNil))))) (sRet (mC (.bl false))) sNext) (sSeq (sSet 13 (mVar 18)) (sSeq (sFor (mItems (mVar 12)) (gmN 14) (sSet 13 (mOp oAdd (mVar 13) (mB oTuple (mCons (mLc (mItems (mVar 9)) [20] (gmN 20) mYes (mOp oAdd (mTup (mCons (mVar 20) (mCons (mC (.str (PySem.Str.ofString "hold"))) (mCons (mVar 17) mNil)))) (mVar 14))) mNil))))) (sSeq (sIf (mNot (mTB (mB oAll (mCons (mLc (mItems (mVar 12)) [14] (gmN 14) mYes (mOp oIsB (mCall sp_is_complete [] (mCons (mVar 7) (mCons (mVar 3) (mCons (mVar 13) (mCons (mVar 17) (mCons (mVar 14) (mCons (mVar 8) mNil))))))) (mC (.bl true)))) mNil)))) (sRet (mC (.bl false))) sNext) (sRet (mCall sp_l_wipes [] (mCons (mVar 7) (mCons (mVar 3) (mCons (mVar 18) mNil))))))))))))))))))))))))))))
theorem w_law (T : Tx K mg) (ok_l_heap : List PV → Prop) (sp_l_some : PM.Spec) (sp_l_course : PM.Spec) (sp_l_notes : PM.Spec) (sp_Numbers : PM.Spec) (sp_l_named : PM.Spec) (sp_l_wipes : PM.Spec) (sp_l_pick : PM.Spec) (sp_l_draw : PM.Spec) (sp_l_is_complete : PM.Spec) (sp_l_like : PM.Spec) (sp_l_holders : PM.Spec) (sp_dealings_named : PM.Spec) (sp_complete_dealings : PM.Spec) (sp_fillable : PM.Spec) (sp_holders : PM.Spec) (sp_is_complete : PM.Spec)
    (F_l_heap : FnOk P w K mg base CX0 1 T.a_l_heap T.d_l_heap p_l_heap (spSrc K ok_l_heap))
    (F_l_some : FnOk P w K mg base CX0 2 T.a_l_some T.d_l_some p_l_some (spM K .cl sp_l_some))
    (F_l_course : FnOk P w K mg base CX0 3 T.a_l_course T.d_l_course p_l_course (spM K .cl sp_l_course))
    (F_l_notes : FnOk P w K mg base CX0 3 T.a_l_notes T.d_l_notes p_l_notes (spM K .cl sp_l_notes))
    (F_Numbers : FnOk P w K mg base CX0 3 T.a_Numbers T.d_Numbers p_Numbers (spMkM K T.c_Numbers sp_Numbers))
    (F_l_named : FnOk P w K mg base CX0 1 T.a_l_named T.d_l_named p_l_named (spM K .cl sp_l_named))
    (F_l_wipes : FnOk P w K mg base CX0 4 T.a_l_wipes T.d_l_wipes p_l_wipes (spM K .cl sp_l_wipes))
    (F_l_pick : FnOk P w K mg base CX0 2 T.a_l_pick T.d_l_pick p_l_pick (spM K .cl sp_l_pick))
    (F_l_draw : FnOk P w K mg base CX0 1 T.a_l_draw T.d_l_draw p_l_draw (spM K .cl sp_l_draw))
    (F_l_is_complete : FnOk P w K mg base CX0 2 T.a_l_is_complete T.d_l_is_complete p_l_is_complete (spM K .cl sp_l_is_complete))
    (F_l_like : FnOk P w K mg base CX0 3 T.a_l_like T.d_l_like p_l_like (spM K .cl sp_l_like))
    (F_l_holders : FnOk P w K mg base CX0 1 T.a_l_holders T.d_l_holders p_l_holders (spM K .cl sp_l_holders))
    (F_dealings_named : FnOk P w K mg base CX0 1 T.a_dealings_named T.d_dealings_named p_dealings_named (spM K .cl sp_dealings_named))
    (F_complete_dealings : FnOk P w K mg base CX0 3 T.a_complete_dealings T.d_complete_dealings p_complete_dealings (spM K .cl sp_complete_dealings))
    (F_fillable : FnOk P w K mg base CX0 4 T.a_fillable T.d_fillable p_fillable (spM K .cl sp_fillable))
    (F_holders : FnOk P w K mg base CX0 1 T.a_holders T.d_holders p_holders (spM K .cl sp_holders))
    (F_is_complete : FnOk P w K mg base CX0 2 T.a_is_complete T.d_is_complete p_is_complete (spM K .cl sp_is_complete)) (cdv : Value) (A : Around) (outer : List PySem.Env) (s : Shared) (H : Hp) (E : XK)
    (hr : Room 4 (A.deeper (PyProof.Rows.envOfC "law" (defScope s_law) s.heap.objs.size T.a_law cdv))) :
    ∃ c', PSsm (bodyX P w K mg base n_law "law" s_law T.a_law cdv A outer s H E) ⟨.cl, true, []⟩ (shs 21) c' (defBody s_law) (t_law ok_l_heap sp_l_some sp_l_course sp_l_notes sp_Numbers sp_l_named sp_l_wipes sp_l_pick sp_l_draw sp_l_is_complete sp_l_like sp_l_holders sp_dealings_named sp_complete_dealings sp_fillable sp_holders sp_is_complete) :=
  ⟨[.sh, .sh, .sh, .sh, .sh, .sh, .sh, .sh, .sh, .sh, .sh, .sh, .sh, .sh, .sh, .sh, .sh, .sh, .sh, .sh, .sh], (sm_cons (sm_src 1 F_l_heap (hr.mono (by decide)) T.m_l_heap T.f_l_heap.kp T.b_l_heap rfl S_law.nd (am_consC (em_var 0) am_nil))
    (sm_cons (sm_par [15, 16] rfl S_law.nd (xm_cl (em_op op_plus lift_plus (PEm.ow em_int) (PEm.ow (em_call F_l_draw (hr.mono (by decide)) T.m_l_draw T.f_l_draw.kp T.b_l_draw .nil (fun _ => Rps.nil) (am_consC (em_var 1) (am_consC (em_call F_l_pick (hr.mono (by decide)) T.m_l_pick T.f_l_pick.kp T.b_l_pick .nil (fun _ => Rps.nil) (am_consC (em_var 1) (am_consC (PEm.cl (em_lst (am_consC em_int (am_consC em_int (am_consC em_int am_nil))))) am_nil))) am_nil))))) (xm_cl (em_call F_l_pick (hr.mono (by decide)) T.m_l_pick T.f_l_pick.kp T.b_l_pick .nil (fun _ => Rps.nil) (am_consC (em_var 1) (am_consC (PEm.cl (em_lst (am_consC em_int (am_consC em_int (am_consC em_int (am_consC em_int am_nil)))))) am_nil))) xm_nil)))
    (sm_cons (sm_set 2 S_law.nd (em_call F_l_some (hr.mono (by decide)) T.m_l_some T.f_l_some.kp T.b_l_some .nil (fun _ => Rps.nil) (am_consC (em_var 1) (am_consC (PEm.cl (em_lc (own := [("house", 20)]) rfl S_law.nd (im_rng1 T.z_range (PEm.ow em_int)) (blkOk_by (N := n_law) (sc := defScope s_law) (by decide +kernel)) (fun _ _ _ _ _ => (gm_name 20 S_law.nd)) (fun _ _ _ _ _ => tsm_nil) (fun _ _ _ _ _ => (em_var 20)))) (am_consC (em_op op_plus lift_plus (PEm.ow (em_var 15)) (PEm.ow (em_call F_l_draw (hr.mono (by decide)) T.m_l_draw T.f_l_draw.kp T.b_l_draw .nil (fun _ => Rps.nil) (am_consC (em_var 1) (am_consC em_int am_nil))))) am_nil)))))
    (sm_cons (sm_set 3 S_law.nd (em_call F_l_course (hr.mono (by decide)) T.m_l_course T.f_l_course.kp T.b_l_course .nil (fun _ => Rps.nil) (am_consC (em_var 1) (am_consC (em_var 2) (am_consC (em_var 15) (am_consC (em_var 16) am_nil))))))
    (sm_cons (sm_setLc 4 (hsw := sw_true rfl rfl rfl (by decide +kernel)) (own := [("turn", 19)]) rfl S_law.nd (im_rng1 T.z_range (PEm.ow (em_call F_l_pick (hr.mono (by decide)) T.m_l_pick T.f_l_pick.kp T.b_l_pick .nil (fun _ => Rps.nil) (am_consC (em_var 1) (am_consC (PEm.cl (em_lst (am_consC em_int (am_consC em_int (am_consC em_int am_nil))))) am_nil))))) (blkOk_by (N := n_law) (sc := defScope s_law) (by decide +kernel)) (fun _ _ _ _ _ => (gm_name 19 S_law.nd)) (fun _ _ _ _ _ => tsm_nil) (fun _ _ _ _ _ => (em_tup (am_consC (em_call F_l_pick (hr.mono (by decide)) T.m_l_pick T.f_l_pick.kp T.b_l_pick .nil (fun _ => Rps.nil) (am_consC (em_var 1) (am_consC (em_var 2) am_nil))) (am_consC (em_call F_l_pick (hr.mono (by decide)) T.m_l_pick T.f_l_pick.kp T.b_l_pick .nil (fun _ => Rps.nil) (am_consC (em_var 1) (am_consC (PEm.cl (em_lst (am_consC em_int (am_consC em_int (am_consC em_int (am_consC em_int (am_consC em_int am_nil))))))) am_nil))) am_nil)))))
    (sm_cons (sm_pre1 (c := [.sh, .sh, .sh, .sh, .ow, .sh, .sh, .sh, .sh, .sh, .sh, .sh, .sh, .sh, .sh, .sh, .sh, .sh, .sh, .sh, .sh]) (c1 := [.sh, .sh, .sh, .sh, .sh, .sh, .sh, .sh, .sh, .sh, .sh, .sh, .sh, .sh, .sh, .sh, .sh, .sh, .sh, .sh, .sh]) (by decide) (sm_asg (em_call F_l_notes (hr.mono (by decide)) T.m_l_notes T.f_l_notes.kp T.b_l_notes .nil (fun _ => Rps.nil) (am_consC (em_var 1) (am_consC (em_var 3) (am_consC (em_var 2) (am_consC (em_var 4) am_nil))))) (gm_tup rfl (gsm_cons (gm_name 17 S_law.nd) (gsm_cons (gm_name 18 S_law.nd) gsm_nil)))))
    (sm_cons (sm_setLc 5 (hsw := sw_true rfl rfl rfl (by decide +kernel)) (own := [("pair", 14)]) rfl S_law.nd (im_seq (em_var 4)) (blkOk_by (N := n_law) (sc := defScope s_law) (by decide +kernel)) (fun _ _ _ _ _ => (gm_name 14 S_law.nd)) (fun _ _ _ _ _ => tsm_nil) (fun _ _ _ _ _ => (em_callB call_lenA lift_len (by rfl) T.z_len PySem.boot_len (am_cons (PEm.ow (em_call F_l_holders (hr.mono (by decide)) T.m_l_holders T.f_l_holders.kp T.b_l_holders .nil (fun _ => Rps.nil) (am_consC (em_var 3) (am_consC (em_var 18) (am_consC (em_var 17) (am_consC (em_var 14) am_nil)))))) am_nil))))
    (sm_cons (sm_pre1 (c := [.sh, .sh, .sh, .sh, .sh, .ow, .sh, .sh, .sh, .sh, .sh, .sh, .sh, .sh, .sh, .sh, .sh, .sh, .sh, .sh, .sh]) (c1 := [.sh, .sh, .sh, .sh, .sh, .sh, .sh, .sh, .sh, .sh, .sh, .sh, .sh, .sh, .sh, .sh, .sh, .sh, .sh, .sh, .sh]) (by decide) (sm_set 6 S_law.nd (em_callB (call_max2 rfl) lift_max2 (by rfl) T.z_max PyProof.Rows.boot_max (am_cons (PEm.ow em_int) (am_cons (PEm.ow (em_callB (call_min2 rfl) lift_min2 (by rfl) T.z_min PyProof.Rows.boot_min (am_cons (PEm.ow (em_var 15)) (am_cons (PEm.ow (em_op op_plus lift_plus (PEm.ow (em_call F_l_pick (hr.mono (by decide)) T.m_l_pick T.f_l_pick.kp T.b_l_pick .nil (fun _ => Rps.nil) (am_consC (em_var 1) (am_consC (em_var 5) am_nil)))) (PEm.ow (em_call F_l_pick (hr.mono (by decide)) T.m_l_pick T.f_l_pick.kp T.b_l_pick .nil (fun _ => Rps.nil) (am_consC (em_var 1) (am_consC (PEm.cl (em_lst (am_consC (em_un un_neg lift_neg (PEm.ow em_int)) (am_consC em_int (am_consC em_int (am_consC em_int (am_consC em_int am_nil))))))) am_nil)))))) am_nil)))) am_nil)))))
    (sm_cons (sm_set 7 S_law.nd (PEm.cl (em_make T.mk_Numbers F_Numbers (hr.mono (by decide)) T.m_Numbers T.b_Numbers (am_consC (em_var 15) (am_consC (em_call F_l_draw (hr.mono (by decide)) T.m_l_draw T.f_l_draw.kp T.b_l_draw .nil (fun _ => Rps.nil) (am_consC (em_var 1) (am_consC (em_var 15) am_nil))) (am_consC em_int (am_consC em_int (am_consC em_int (am_consC (em_var 6) am_nil)))))))))
    (sm_cons (sm_set 8 S_law.nd (em_if (tm_cmp (op_eqD hr.units) lift_eq (PEm.ow (em_call F_l_draw (hr.mono (by decide)) T.m_l_draw T.f_l_draw.kp T.b_l_draw .nil (fun _ => Rps.nil) (am_consC (em_var 1) (am_consC em_int am_nil)))) (PEm.ow em_int) (nomark _)) (em_tup am_nil) (em_call F_l_some (hr.mono (by decide)) T.m_l_some T.f_l_some.kp T.b_l_some .nil (fun _ => Rps.nil) (am_consC (em_var 1) (am_consC (em_var 2) (am_consC (em_call F_l_draw (hr.mono (by decide)) T.m_l_draw T.f_l_draw.kp T.b_l_draw .nil (fun _ => Rps.nil) (am_consC (em_var 1) (am_consC em_int am_nil))) am_nil))))))
    (sm_cons (sm_set 9 S_law.nd (em_call F_l_some (hr.mono (by decide)) T.m_l_some T.f_l_some.kp T.b_l_some .nil (fun _ => Rps.nil) (am_consC (em_var 1) (am_consC (em_var 2) (am_consC (em_call F_l_draw (hr.mono (by decide)) T.m_l_draw T.f_l_draw.kp T.b_l_draw .nil (fun _ => Rps.nil) (am_consC (em_var 1) (am_consC (em_op op_plus lift_plus (PEm.ow (em_callB (call_min2 rfl) lift_min2 (by rfl) T.z_min PyProof.Rows.boot_min (am_cons (PEm.ow (em_callB call_lenA lift_len (by rfl) T.z_len PySem.boot_len (am_cons (PEm.ow (em_var 2)) am_nil))) (am_cons (PEm.ow em_int) am_nil)))) (PEm.ow em_int)) am_nil))) am_nil)))))
    (sm_cons (sm_for (c := [.sh, .sh, .sh, .sh, .sh, .sh, .sh, .sh, .sh, .sh, .sh, .sh, .sh, .sh, .sh, .sh, .sh, .sh, .sh, .sh, .sh]) .never rfl (im_seq (em_op op_plus lift_plus (PEm.ow (em_op op_plus lift_plus (PEm.ow (em_var 4)) (PEm.ow (em_lst (am_consC (em_tup am_nil) am_nil))))) (PEm.ow (em_lst (am_consC (em_tup (am_consC (em_call F_l_pick (hr.mono (by decide)) T.m_l_pick T.f_l_pick.kp T.b_l_pick .nil (fun _ => Rps.nil) (am_consC (em_var 1) (am_consC (em_var 2) am_nil))) (am_consC em_int am_nil))) am_nil))))) (gm_name 10 S_law.nd) (sm_cons (sm_if (c' := [.sh, .sh, .sh, .sh, .sh, .sh, .sh, .sh, .sh, .sh, .sh, .sh, .sh, .sh, .sh, .sh, .sh, .sh, .sh, .sh, .sh]) (tm_not (tm_val (PEm.ow (em_call F_l_like (hr.mono (by decide)) T.m_l_like T.f_l_like.kp T.b_l_like .nil (fun _ => Rps.nil) (am_consC (em_call F_holders (hr.mono (by decide)) T.m_holders T.f_holders.kp T.b_holders .nil (fun _ => Rps.nil) (am_consC (em_var 3) (am_consC (em_var 18) (am_consC (em_var 17) (am_consC (em_var 10) am_nil))))) (am_consC (em_call F_l_holders (hr.mono (by decide)) T.m_l_holders T.f_l_holders.kp T.b_l_holders .nil (fun _ => Rps.nil) (am_consC (em_var 3) (am_consC (em_var 18) (am_consC (em_var 17) (am_consC (em_var 10) am_nil))))) am_nil)))))) (sm_one (sm_ret em_bl)) sm_nil)
    (sm_cons (sm_set 12 S_law.nd (em_call F_l_is_complete (hr.mono (by decide)) T.m_l_is_complete T.f_l_is_complete.kp T.b_l_is_complete .nil (fun _ => Rps.nil) (am_consC (em_var 6) (am_consC (em_var 3) (am_consC (em_var 18) (am_consC (em_var 17) (am_consC (em_var 10) (am_consC (em_var 8) am_nil))))))))
    (sm_cons (sm_if (c' := [.sh, .sh, .sh, .sh, .sh, .sh, .sh, .sh, .sh, .sh, .sh, .sh, .sh, .sh, .sh, .sh, .sh, .sh, .sh, .sh, .sh]) (tm_not (tm_val (PEm.ow (em_call F_l_like (hr.mono (by decide)) T.m_l_like T.f_l_like.kp T.b_l_like .nil (fun _ => Rps.nil) (am_consC (em_call F_is_complete (hr.mono (by decide)) T.m_is_complete T.f_is_complete.kp T.b_is_complete .nil (fun _ => Rps.nil) (am_consC (em_var 7) (am_consC (em_var 3) (am_consC (em_var 18) (am_consC (em_var 17) (am_consC (em_var 10) (am_consC (em_var 8) am_nil))))))) (am_consC (em_var 12) am_nil)))))) (sm_one (sm_ret em_bl)) sm_nil)
    (sm_cons (sm_set 12 S_law.nd (em_call F_l_is_complete (hr.mono (by decide)) T.m_l_is_complete T.f_l_is_complete.kp T.b_l_is_complete .nil (fun _ => Rps.nil) (am_consC (em_var 6) (am_consC (em_var 3) (am_consC (em_var 18) (am_consC (em_var 17) (am_consC (em_var 10) (am_consC (em_tup am_nil) am_nil))))))))
    (sm_one (sm_if (c' := [.sh, .sh, .sh, .sh, .sh, .sh, .sh, .sh, .sh, .sh, .sh, .sh, .sh, .sh, .sh, .sh, .sh, .sh, .sh, .sh, .sh]) (tm_not (tm_val (PEm.ow (em_call F_l_like (hr.mono (by decide)) T.m_l_like T.f_l_like.kp T.b_l_like .nil (fun _ => Rps.nil) (am_consC (em_call F_is_complete (hr.mono (by decide)) T.m_is_complete T.f_is_complete.kp T.b_is_complete1 T.v_is_complete1 (cst_unit T.et_is_complete) (am_consC (em_var 7) (am_consC (em_var 3) (am_consC (em_var 18) (am_consC (em_var 17) (am_consC (em_var 10) am_nil)))))) (am_consC (em_var 12) am_nil)))))) (sm_one (sm_ret em_bl)) sm_nil)))))) (fun _ e => by cases e))
    (sm_cons (sm_set 11 S_law.nd (em_call F_l_named (hr.mono (by decide)) T.m_l_named T.f_l_named.kp T.b_l_named .nil (fun _ => Rps.nil) (am_consC (em_var 3) (am_consC (em_var 18) (am_consC (em_var 17) am_nil)))))
    (sm_cons (sm_if (c' := [.sh, .sh, .sh, .sh, .sh, .sh, .sh, .sh, .sh, .sh, .sh, .sh, .sh, .sh, .sh, .sh, .sh, .sh, .sh, .sh, .sh]) (tm_not (tm_val (PEm.ow (em_call F_l_like (hr.mono (by decide)) T.m_l_like T.f_l_like.kp T.b_l_like .nil (fun _ => Rps.nil) (am_consC (em_call F_dealings_named (hr.mono (by decide)) T.m_dealings_named T.f_dealings_named.kp T.b_dealings_named .nil (fun _ => Rps.nil) (am_consC (em_var 3) (am_consC (em_var 18) (am_consC (em_var 17) am_nil)))) (am_consC (em_callTy call_tuple_of lift_tuple (by rfl) T.z_tuple PyProof.Rows.boot_tuple (am_cons (PEm.ow (em_var 11)) am_nil)) am_nil)))))) (sm_one (sm_ret em_bl)) sm_nil)
    (sm_cons (sm_set 12 S_law.nd (em_callTy call_tuple_of lift_tuple (by rfl) T.z_tuple PyProof.Rows.boot_tuple (am_cons (PEm.ow (em_lc (own := [("pair", 14)]) rfl S_law.nd (im_seq (em_var 11)) (blkOk_by (N := n_law) (sc := defScope s_law) (by decide +kernel)) (fun _ _ _ _ _ => (gm_name 14 S_law.nd)) (fun _ _ _ _ _ => (tsm_one (tm_val (PEm.ow (em_call F_l_is_complete (hr.mono (by decide)) T.m_l_is_complete T.f_l_is_complete.kp T.b_l_is_complete .nil (fun _ => Rps.nil) (am_consC (em_var 6) (am_consC (em_var 3) (am_consC (em_var 18) (am_consC (em_var 17) (am_consC (em_var 14) (am_consC (em_var 8) am_nil))))))))))) (fun _ _ _ _ _ => (em_var 14)))) am_nil)))
    (sm_cons (sm_if (c' := [.sh, .sh, .sh, .sh, .sh, .sh, .sh, .sh, .sh, .sh, .sh, .sh, .sh, .sh, .sh, .sh, .sh, .sh, .sh, .sh, .sh]) (tm_not (tm_val (PEm.ow (em_call F_l_like (hr.mono (by decide)) T.m_l_like T.f_l_like.kp T.b_l_like .nil (fun _ => Rps.nil) (am_consC (em_call F_complete_dealings (hr.mono (by decide)) T.m_complete_dealings T.f_complete_dealings.kp T.b_complete_dealings .nil (fun _ => Rps.nil) (am_consC (em_var 7) (am_consC (em_var 3) (am_consC (em_var 18) (am_consC (em_var 17) (am_consC (em_var 8) am_nil)))))) (am_consC (em_var 12) am_nil)))))) (sm_one (sm_ret em_bl)) sm_nil)
    (sm_cons (sm_set 12 S_law.nd (em_callTy call_tuple_of lift_tuple (by rfl) T.z_tuple PyProof.Rows.boot_tuple (am_cons (PEm.ow (em_lc (own := [("pair", 14)]) rfl S_law.nd (im_seq (em_var 11)) (blkOk_by (N := n_law) (sc := defScope s_law) (by decide +kernel)) (fun _ _ _ _ _ => (gm_name 14 S_law.nd)) (fun _ _ _ _ _ => (tsm_one (tm_val (PEm.ow (em_call F_l_is_complete (hr.mono (by decide)) T.m_l_is_complete T.f_l_is_complete.kp T.b_l_is_complete .nil (fun _ => Rps.nil) (am_consC (em_var 6) (am_consC (em_var 3) (am_consC (em_var 18) (am_consC (em_var 17) (am_consC (em_var 14) (am_consC (em_tup am_nil) am_nil))))))))))) (fun _ _ _ _ _ => (em_var 14)))) am_nil)))
    (sm_cons (sm_if (c' := [.sh, .sh, .sh, .sh, .sh, .sh, .sh, .sh, .sh, .sh, .sh, .sh, .sh, .sh, .sh, .sh, .sh, .sh, .sh, .sh, .sh]) (tm_not (tm_val (PEm.ow (em_call F_l_like (hr.mono (by decide)) T.m_l_like T.f_l_like.kp T.b_l_like .nil (fun _ => Rps.nil) (am_consC (em_call F_complete_dealings (hr.mono (by decide)) T.m_complete_dealings T.f_complete_dealings.kp T.b_complete_dealings1 T.v_complete_dealings1 (cst_unit T.et_complete_dealings) (am_consC (em_var 7) (am_consC (em_var 3) (am_consC (em_var 18) (am_consC (em_var 17) am_nil))))) (am_consC (em_var 12) am_nil)))))) (sm_one (sm_ret em_bl)) sm_nil)
    (sm_cons (sm_set 12 S_law.nd (em_callTy call_tuple_of lift_tuple (by rfl) T.z_tuple PyProof.Rows.boot_tuple (am_cons (PEm.ow (em_lc (own := [("pair", 14)]) rfl S_law.nd (im_seq (em_var 11)) (blkOk_by (N := n_law) (sc := defScope s_law) (by decide +kernel)) (fun _ _ _ _ _ => (gm_name 14 S_law.nd)) (fun _ _ _ _ _ => (tsm_one (tm_val (PEm.ow (em_call F_l_is_complete (hr.mono (by decide)) T.m_l_is_complete T.f_l_is_complete.kp T.b_l_is_complete .nil (fun _ => Rps.nil) (am_consC (em_var 6) (am_consC (em_var 3) (am_consC (em_var 18) (am_consC (em_var 17) (am_consC (em_var 14) (am_consC (em_op op_plus lift_plus (PEm.ow (em_var 8)) (PEm.ow (em_var 9))) am_nil))))))))))) (fun _ _ _ _ _ => (em_var 14)))) am_nil)))
    (sm_cons (sm_if (c' := [.sh, .sh, .sh, .sh, .sh, .sh, .sh, .sh, .sh, .sh, .sh, .sh, .sh, .sh, .sh, .sh, .sh, .sh, .sh, .sh, .sh]) (tm_not (tm_val (PEm.ow (em_call F_l_like (hr.mono (by decide)) T.m_l_like T.f_l_like.kp T.b_l_like .nil (fun _ => Rps.nil) (am_consC (em_call F_fillable (hr.mono (by decide)) T.m_fillable T.f_fillable.kp T.b_fillable .nil (fun _ => Rps.nil) (am_consC (em_var 7) (am_consC (em_var 3) (am_consC (em_var 18) (am_consC (em_var 17) (am_consC (em_var 9) (am_consC (em_var 8) am_nil))))))) (am_consC (em_var 12) am_nil)))))) (sm_one (sm_ret em_bl)) sm_nil)
    (sm_cons (sm_set 13 S_law.nd (em_var 18))
    (sm_cons (sm_for (c := [.sh, .sh, .sh, .sh, .sh, .sh, .sh, .sh, .sh, .sh, .sh, .sh, .sh, .sh, .sh, .sh, .sh, .sh, .sh, .sh, .sh]) .never rfl (im_seq (em_var 12)) (gm_name 14 S_law.nd) (sm_one (sm_set 13 S_law.nd (em_op op_plus lift_plus (PEm.ow (em_var 13)) (PEm.ow (em_callTy call_tuple_of lift_tuple (by rfl) T.z_tuple PyProof.Rows.boot_tuple (am_cons (PEm.ow (em_lc (own := [("house", 20)]) rfl S_law.nd (im_seq (em_var 9)) (blkOk_by (N := n_law) (sc := defScope s_law) (by decide +kernel)) (fun _ _ _ _ _ => (gm_name 20 S_law.nd)) (fun _ _ _ _ _ => tsm_nil) (fun _ _ _ _ _ => (em_op op_plus lift_plus (PEm.ow (em_tup (am_consC (em_var 20) (am_consC em_str (am_consC (em_var 17) am_nil))))) (PEm.ow (em_var 14)))))) am_nil)))))) (fun _ e => by cases e))
    (sm_cons (sm_if (c' := [.sh, .sh, .sh, .sh, .sh, .sh, .sh, .sh, .sh, .sh, .sh, .sh, .sh, .sh, .sh, .sh, .sh, .sh, .sh, .sh, .sh]) (tm_not (tm_val (PEm.ow (em_callB (cr_all rfl) lift_all (by rfl) T.z_all PyProof.Rows.boot_all (am_cons (PEm.ow (em_lc (own := [("pair", 14)]) rfl S_law.nd (im_seq (em_var 12)) (blkOk_by (N := n_law) (sc := defScope s_law) (by decide +kernel)) (fun _ _ _ _ _ => (gm_name 14 S_law.nd)) (fun _ _ _ _ _ => tsm_nil) (fun _ _ _ _ _ => (em_cmp op_isBl lift_isB (PEm.ow (em_call F_is_complete (hr.mono (by decide)) T.m_is_complete T.f_is_complete.kp T.b_is_complete .nil (fun _ => Rps.nil) (am_consC (em_var 7) (am_consC (em_var 3) (am_consC (em_var 13) (am_consC (em_var 17) (am_consC (em_var 14) (am_consC (em_var 8) am_nil)))))))) (PEm.ow em_bl) (nomark _))))) am_nil))))) (sm_one (sm_ret em_bl)) sm_nil)
    (sm_one (sm_ret (em_call F_l_wipes (hr.mono (by decide)) T.m_l_wipes T.f_l_wipes.kp T.b_l_wipes .nil (fun _ => Rps.nil) (am_consC (em_var 7) (am_consC (em_var 3) (am_consC (em_var 18) am_nil)))))))))))))))))))))))))))))⟩
end
end K24

set_option maxHeartbeats 2000000
namespace K24
open PySem L2 PM
theorem line {n : Nat} (h : n ≤ 1000000) : n ≤ sizeLine := Nat.le_of_lt (small_line h)
theorem isort_len (ns : List Int) : (isort ns).length = ns.length := (isort_perm ns).length_eq
def sp_pick : PM.Spec := fun ps P => ∃ (pool : PV) (xs : List PV), ps = [.src, pool] ∧ (pool = .lst xs ∨ pool = .tup xs) ∧ 0 < xs.length ∧ xs.length ≤ 1000 ∧ ∀ x ∈ xs, P x
/-- as in DrawA -/
def sp_drw : PM.Spec := fun ps P => ∃ many : Int, ps = [.src, .int many] ∧ 0 < many ∧ many < 1073741824 ∧ ∀ r, 0 ≤ r → r < many → P (.int r)
theorem h_l_pick (ps : List PV) (Q : PV → Prop) (h : sp_pick ps Q) : t_l_pick sp_drw { nx := fun _ => nxOf .cl Q, rt := Q } (startE n_l_pick.length ps) := by
  obtain ⟨pool, xs, rfl, hpool, h0, hl, h⟩ := h
  have hlen : plen pool = some xs.length := by rcases hpool with rfl | rfl <;> rfl
  show t_l_pick _ _ [some .src, some pool]
  unfold t_l_pick
  try simp only [s_mVar0, s_mVarS, s_mVarO0, s_mVarOS, s_isObj_lst, s_isObj_dic, s_mC, s_mOp, s_mOp1, s_mB, s_mNil, s_mCons, s_mTup, s_mLst, s_mCall, s_mTB, s_mNot, s_mAnd, s_mOr, s_mAndV, s_mOrV, s_mIf, s_mYes, s_mSl, s_mNo, s_mPart, s_mLc, s_mItems, s_mRng1, s_mRng2, s_mEnum, s_mChain, s_seqT, s_seqL, s_sNext, s_sSeq, s_sIf, s_sSet, s_sRet, s_sRetN, s_sBreak, s_sCont, s_sDrop, s_sPar, s_setN0, s_setNS, s_sAsg, s_sApp, s_sAug, s_sFor, s_sSrc, s_gmN, s_gmT, s_gmCons, s_gmNil, s_wipe0, s_wipeS, s_oSub, s_oAddI, s_oAdd, s_oLt, s_oLe, s_oGt, s_oGe, s_oNeg, s_oNot, s_oMul, s_oMulW, s_oMod, s_oFdiv, s_oPow, s_oIsN, s_oNotN, s_oIsB, s_oNotB, s_isNon_int, s_isNon_non, s_isNon_bl, s_isNon_str, s_isNon_tup, s_isNon_lst, s_isNon_dic, s_oEqI, s_oNeI, s_oIxT, s_oIxL, s_oSlT, s_oSlL, s_oRevT, s_oRevL, s_oInt, s_oIntB, s_oAbs, s_oMax2, s_oMin2, s_oLen, s_plenT, s_plenL, s_plenD, s_plenS, s_oTupleL, s_oTupleT, s_oListL, s_oListT, List.set_cons_succ, List.set_cons_zero, List.append_nil, true_and]
  refine ⟨_, hlen, _, rfl, by omega, by omega, fun r hr hr2 => ?_⟩
  have l : r.toNat < xs.length := by omega
  have hg : atI xs r = some xs[r.toNat] := by rw [atI_nn hr hr2, List.getElem?_eq_getElem l]
  rcases hpool with rfl | rfl
  · exact s_oIxL.mpr ⟨_, hg, h _ (List.getElem_mem l)⟩
  · exact s_oIxT.mpr ⟨_, hg, h _ (List.getElem_mem l)⟩
def Lk : Nat → PV → Prop
  | _, .non => True
  | _, .bl _ => True
  | _, .int _ => True
  | n + 1, .tup xs => xs.length ≤ 1000 ∧ ∀ x ∈ xs, Lk n x
  | _, _ => False
def spk : Nat → PM.Spec
  | 0 => fun _ _ => False
  | n + 1 => fun ps P => ∃ v, ps = [v, v] ∧ Lk n v ∧ P (.bl true)
theorem h_l_like (n : Nat) (ps : List PV) (Q : PV → Prop) (h : spk (n + 1) ps Q) : t_l_like (spk n) { nx := fun _ => nxOf .cl Q, rt := Q } (startE n_l_like.length ps) := by
  obtain ⟨v, rfl, hv, h⟩ := h
  show t_l_like _ _ [some v, some v, none, none]
  unfold t_l_like
  try simp only [s_mVar0, s_mVarS, s_mVarO0, s_mVarOS, s_isObj_lst, s_isObj_dic, s_mC, s_mOp, s_mOp1, s_mB, s_mNil, s_mCons, s_mTup, s_mLst, s_mCall, s_mTB, s_mNot, s_mAnd, s_mOr, s_mAndV, s_mOrV, s_mIf, s_mYes, s_mSl, s_mNo, s_mPart, s_mLc, s_mItems, s_mRng1, s_mRng2, s_mEnum, s_mChain, s_seqT, s_seqL, s_sNext, s_sSeq, s_sIf, s_sSet, s_sRet, s_sRetN, s_sBreak, s_sCont, s_sDrop, s_sPar, s_setN0, s_setNS, s_sAsg, s_sApp, s_sAug, s_sFor, s_sSrc, s_gmN, s_gmT, s_gmCons, s_gmNil, s_wipe0, s_wipeS, s_oSub, s_oAddI, s_oAdd, s_oLt, s_oLe, s_oGt, s_oGe, s_oNeg, s_oNot, s_oMul, s_oMulW, s_oMod, s_oFdiv, s_oPow, s_oIsN, s_oNotN, s_oIsB, s_oNotB, s_isNon_int, s_isNon_non, s_isNon_bl, s_isNon_str, s_isNon_tup, s_isNon_lst, s_isNon_dic, s_oEqI, s_oNeI, s_oIxT, s_oIxL, s_oSlT, s_oSlL, s_oRevT, s_oRevL, s_oInt, s_oIntB, s_oAbs, s_oMax2, s_oMin2, s_oLen, s_plenT, s_plenL, s_plenD, s_plenS, s_oTupleL, s_oTupleT, s_oListL, s_oListT, List.set_cons_succ, List.set_cons_zero, List.append_nil, true_and]
  cases v with
  | tup xs =>
    cases n with
    | zero => exact hv.elim
    | succ n =>
      obtain ⟨hl, hx⟩ := hv
      refine oIsi_of (b := true) rfl rfl ⟨_, rfl, ?_⟩
      rw [if_pos rfl]
      refine oIsi_of (b := true) rfl rfl ⟨_, rfl, ?_⟩
      rw [if_pos rfl]
      try simp only [s_mVar0, s_mVarS, s_mVarO0, s_mVarOS, s_isObj_lst, s_isObj_dic, s_mC, s_mOp, s_mOp1, s_mB, s_mNil, s_mCons, s_mTup, s_mLst, s_mCall, s_mTB, s_mNot, s_mAnd, s_mOr, s_mAndV, s_mOrV, s_mIf, s_mYes, s_mSl, s_mNo, s_mPart, s_mLc, s_mItems, s_mRng1, s_mRng2, s_mEnum, s_mChain, s_seqT, s_seqL, s_sNext, s_sSeq, s_sIf, s_sSet, s_sRet, s_sRetN, s_sBreak, s_sCont, s_sDrop, s_sPar, s_setN0, s_setNS, s_sAsg, s_sApp, s_sAug, s_sFor, s_sSrc, s_gmN, s_gmT, s_gmCons, s_gmNil, s_wipe0, s_wipeS, s_oSub, s_oAddI, s_oAdd, s_oLt, s_oLe, s_oGt, s_oGe, s_oNeg, s_oNot, s_oMul, s_oMulW, s_oMod, s_oFdiv, s_oPow, s_oIsN, s_oNotN, s_oIsB, s_oNotB, s_isNon_int, s_isNon_non, s_isNon_bl, s_isNon_str, s_isNon_tup, s_isNon_lst, s_isNon_dic, s_oEqI, s_oNeI, s_oIxT, s_oIxL, s_oSlT, s_oSlL, s_oRevT, s_oRevL, s_oInt, s_oIntB, s_oAbs, s_oMax2, s_oMin2, s_oLen, s_plenT, s_plenL, s_plenD, s_plenS, s_oTupleL, s_oTupleT, s_oListL, s_oListT, List.set_cons_succ, List.set_cons_zero, List.append_nil, true_and]
      refine ⟨_, rfl, _, rfl, _, rfl, ?_⟩
      rw [decide_eq_true rfl, if_pos rfl]
      unfold mZip
      try simp only [s_mVar0, s_mVarS, s_mVarO0, s_mVarOS, s_isObj_lst, s_isObj_dic, s_mC, s_mOp, s_mOp1, s_mB, s_mNil, s_mCons, s_mTup, s_mLst, s_mCall, s_mTB, s_mNot, s_mAnd, s_mOr, s_mAndV, s_mOrV, s_mIf, s_mYes, s_mSl, s_mNo, s_mPart, s_mLc, s_mItems, s_mRng1, s_mRng2, s_mEnum, s_mChain, s_seqT, s_seqL, s_sNext, s_sSeq, s_sIf, s_sSet, s_sRet, s_sRetN, s_sBreak, s_sCont, s_sDrop, s_sPar, s_setN0, s_setNS, s_sAsg, s_sApp, s_sAug, s_sFor, s_sSrc, s_gmN, s_gmT, s_gmCons, s_gmNil, s_wipe0, s_wipeS, s_oSub, s_oAddI, s_oAdd, s_oLt, s_oLe, s_oGt, s_oGe, s_oNeg, s_oNot, s_oMul, s_oMulW, s_oMod, s_oFdiv, s_oPow, s_oIsN, s_oNotN, s_oIsB, s_oNotB, s_isNon_int, s_isNon_non, s_isNon_bl, s_isNon_str, s_isNon_tup, s_isNon_lst, s_isNon_dic, s_oEqI, s_oNeI, s_oIxT, s_oIxL, s_oSlT, s_oSlL, s_oRevT, s_oRevL, s_oInt, s_oIntB, s_oAbs, s_oMax2, s_oMin2, s_oLen, s_plenT, s_plenL, s_plenD, s_plenS, s_oTupleL, s_oTupleT, s_oListL, s_oListT, List.set_cons_succ, List.set_cons_zero, List.append_nil, true_and]
      have e : xs = xs.map id := (List.map_id xs).symm
      show mCompGo _ _ _ _ _ (zipP xs xs) []
      rw [show zipP xs xs = (xs.zip xs).map (fun p => .tup [p.1, p.2]) from by
        conv => lhs; rw [e]
        rw [zipP_map]; rfl]
      refine comp_map (f := fun _ => .bl true) (fun p hp => ⟨[some (.tup xs), some (.tup xs), some p.1, some p.2], fun k hk => ?_, fun Q hQ => hQ, fun Q hQ => ?_⟩) ?_ (oAll_map ?_)
      · exact s_gmT.mpr ⟨rfl, s_gmCons.mpr (s_gmN.mpr (s_gmCons.mpr (s_gmN.mpr (s_gmNil.mpr hk))))⟩
      · try simp only [s_mVar0, s_mVarS, s_mVarO0, s_mVarOS, s_isObj_lst, s_isObj_dic, s_mC, s_mOp, s_mOp1, s_mB, s_mNil, s_mCons, s_mTup, s_mLst, s_mCall, s_mTB, s_mNot, s_mAnd, s_mOr, s_mAndV, s_mOrV, s_mIf, s_mYes, s_mSl, s_mNo, s_mPart, s_mLc, s_mItems, s_mRng1, s_mRng2, s_mEnum, s_mChain, s_seqT, s_seqL, s_sNext, s_sSeq, s_sIf, s_sSet, s_sRet, s_sRetN, s_sBreak, s_sCont, s_sDrop, s_sPar, s_setN0, s_setNS, s_sAsg, s_sApp, s_sAug, s_sFor, s_sSrc, s_gmN, s_gmT, s_gmCons, s_gmNil, s_wipe0, s_wipeS, s_oSub, s_oAddI, s_oAdd, s_oLt, s_oLe, s_oGt, s_oGe, s_oNeg, s_oNot, s_oMul, s_oMulW, s_oMod, s_oFdiv, s_oPow, s_oIsN, s_oNotN, s_oIsB, s_oNotB, s_isNon_int, s_isNon_non, s_isNon_bl, s_isNon_str, s_isNon_tup, s_isNon_lst, s_isNon_dic, s_oEqI, s_oNeI, s_oIxT, s_oIxL, s_oSlT, s_oSlL, s_oRevT, s_oRevL, s_oInt, s_oIntB, s_oAbs, s_oMax2, s_oMin2, s_oLen, s_plenT, s_plenL, s_plenD, s_plenS, s_oTupleL, s_oTupleT, s_oListL, s_oListT, List.set_cons_succ, List.set_cons_zero, List.append_nil, true_and]
        obtain ⟨i, hi, rfl⟩ := List.mem_iff_getElem.mp hp
        rw [List.getElem_zip]
        refine ⟨_, rfl, hx _ (List.getElem_mem _), hQ⟩
      · rw [List.length_zip]; exact line (by omega)
      · rw [List.all_eq_true.mpr fun _ _ => rfl]; exact h
  | non =>
    refine oIsi_of (b := false) rfl rfl ⟨_, rfl, ?_⟩
    rw [if_neg Bool.false_ne_true]
    try simp only [s_mVar0, s_mVarS, s_mVarO0, s_mVarOS, s_isObj_lst, s_isObj_dic, s_mC, s_mOp, s_mOp1, s_mB, s_mNil, s_mCons, s_mTup, s_mLst, s_mCall, s_mTB, s_mNot, s_mAnd, s_mOr, s_mAndV, s_mOrV, s_mIf, s_mYes, s_mSl, s_mNo, s_mPart, s_mLc, s_mItems, s_mRng1, s_mRng2, s_mEnum, s_mChain, s_seqT, s_seqL, s_sNext, s_sSeq, s_sIf, s_sSet, s_sRet, s_sRetN, s_sBreak, s_sCont, s_sDrop, s_sPar, s_setN0, s_setNS, s_sAsg, s_sApp, s_sAug, s_sFor, s_sSrc, s_gmN, s_gmT, s_gmCons, s_gmNil, s_wipe0, s_wipeS, s_oSub, s_oAddI, s_oAdd, s_oLt, s_oLe, s_oGt, s_oGe, s_oNeg, s_oNot, s_oMul, s_oMulW, s_oMod, s_oFdiv, s_oPow, s_oIsN, s_oNotN, s_oIsB, s_oNotB, s_isNon_int, s_isNon_non, s_isNon_bl, s_isNon_str, s_isNon_tup, s_isNon_lst, s_isNon_dic, s_oEqI, s_oNeI, s_oIxT, s_oIxL, s_oSlT, s_oSlL, s_oRevT, s_oRevL, s_oInt, s_oIntB, s_oAbs, s_oMax2, s_oMin2, s_oLen, s_plenT, s_plenL, s_plenD, s_plenS, s_oTupleL, s_oTupleT, s_oListL, s_oListT, List.set_cons_succ, List.set_cons_zero, List.append_nil, true_and]
    exact ⟨_, rfl, h⟩
  | bl b =>
    refine oIsi_of (b := false) rfl rfl ⟨_, rfl, ?_⟩
    rw [if_neg Bool.false_ne_true]
    try simp only [s_mVar0, s_mVarS, s_mVarO0, s_mVarOS, s_isObj_lst, s_isObj_dic, s_mC, s_mOp, s_mOp1, s_mB, s_mNil, s_mCons, s_mTup, s_mLst, s_mCall, s_mTB, s_mNot, s_mAnd, s_mOr, s_mAndV, s_mOrV, s_mIf, s_mYes, s_mSl, s_mNo, s_mPart, s_mLc, s_mItems, s_mRng1, s_mRng2, s_mEnum, s_mChain, s_seqT, s_seqL, s_sNext, s_sSeq, s_sIf, s_sSet, s_sRet, s_sRetN, s_sBreak, s_sCont, s_sDrop, s_sPar, s_setN0, s_setNS, s_sAsg, s_sApp, s_sAug, s_sFor, s_sSrc, s_gmN, s_gmT, s_gmCons, s_gmNil, s_wipe0, s_wipeS, s_oSub, s_oAddI, s_oAdd, s_oLt, s_oLe, s_oGt, s_oGe, s_oNeg, s_oNot, s_oMul, s_oMulW, s_oMod, s_oFdiv, s_oPow, s_oIsN, s_oNotN, s_oIsB, s_oNotB, s_isNon_int, s_isNon_non, s_isNon_bl, s_isNon_str, s_isNon_tup, s_isNon_lst, s_isNon_dic, s_oEqI, s_oNeI, s_oIxT, s_oIxL, s_oSlT, s_oSlL, s_oRevT, s_oRevL, s_oInt, s_oIntB, s_oAbs, s_oMax2, s_oMin2, s_oLen, s_plenT, s_plenL, s_plenD, s_plenS, s_oTupleL, s_oTupleT, s_oListL, s_oListT, List.set_cons_succ, List.set_cons_zero, List.append_nil, true_and]
    refine ⟨_, rfl, ?_⟩
    rw [if_neg Bool.false_ne_true]
    refine oIsi_of (b := true) rfl rfl ⟨_, rfl, ?_⟩
    rw [if_pos rfl]
    refine ⟨b, rfl, ?_⟩
    cases b
    · exact h
    · exact h
  | int i =>
    refine oIsi_of (b := false) rfl rfl ⟨_, rfl, ?_⟩
    rw [if_neg Bool.false_ne_true]
    try simp only [s_mVar0, s_mVarS, s_mVarO0, s_mVarOS, s_isObj_lst, s_isObj_dic, s_mC, s_mOp, s_mOp1, s_mB, s_mNil, s_mCons, s_mTup, s_mLst, s_mCall, s_mTB, s_mNot, s_mAnd, s_mOr, s_mAndV, s_mOrV, s_mIf, s_mYes, s_mSl, s_mNo, s_mPart, s_mLc, s_mItems, s_mRng1, s_mRng2, s_mEnum, s_mChain, s_seqT, s_seqL, s_sNext, s_sSeq, s_sIf, s_sSet, s_sRet, s_sRetN, s_sBreak, s_sCont, s_sDrop, s_sPar, s_setN0, s_setNS, s_sAsg, s_sApp, s_sAug, s_sFor, s_sSrc, s_gmN, s_gmT, s_gmCons, s_gmNil, s_wipe0, s_wipeS, s_oSub, s_oAddI, s_oAdd, s_oLt, s_oLe, s_oGt, s_oGe, s_oNeg, s_oNot, s_oMul, s_oMulW, s_oMod, s_oFdiv, s_oPow, s_oIsN, s_oNotN, s_oIsB, s_oNotB, s_isNon_int, s_isNon_non, s_isNon_bl, s_isNon_str, s_isNon_tup, s_isNon_lst, s_isNon_dic, s_oEqI, s_oNeI, s_oIxT, s_oIxL, s_oSlT, s_oSlL, s_oRevT, s_oRevL, s_oInt, s_oIntB, s_oAbs, s_oMax2, s_oMin2, s_oLen, s_plenT, s_plenL, s_plenD, s_plenS, s_oTupleL, s_oTupleT, s_oListL, s_oListT, List.set_cons_succ, List.set_cons_zero, List.append_nil, true_and]
    refine ⟨_, rfl, ?_⟩
    rw [if_neg Bool.false_ne_true]
    refine oIsi_of (b := false) rfl rfl ⟨_, rfl, ?_⟩
    rw [if_neg Bool.false_ne_true]
    refine oIsi_of (b := true) rfl rfl ⟨_, rfl, ?_⟩
    rw [if_pos rfl]
    refine oIsi_of (b := true) rfl rfl ⟨_, rfl, ?_⟩
    rw [if_pos rfl]
    refine oIsi_of (b := false) (P := fun x => oNot x _) rfl rfl (s_oNot.mpr ⟨_, rfl, ?_⟩)
    simpa using h
  | _ => cases n <;> exact hv.elim
def rng (k : Nat) : List Int := (List.range k).map fun (i : Nat) => (i : Int)
theorem rng_len {k : Nat} : (rng k).length = k := by unfold rng; rw [List.length_map, List.length_range]
theorem mem_rng {k : Nat} {x : Int} : x ∈ rng k ↔ 0 ≤ x ∧ x < k := by
  unfold rng
  rw [List.mem_map]
  constructor
  · rintro ⟨i, hi, rfl⟩
    rw [List.mem_range] at hi
    omega
  · rintro ⟨h0, h1⟩
    exact ⟨x.toNat, List.mem_range.mpr (by omega), by omega⟩
theorem rng_nodup {k : Nat} : (rng k).Nodup := by
  unfold rng
  have : (List.range k).Nodup := List.nodup_range
  rw [List.Nodup, List.pairwise_map]
  exact this.imp fun h z => h (by omega)
theorem rng_get {k i : Nat} (h : i < k) : (rng k)[i]? = some (i : Int) := by
  unfold rng
  rw [List.getElem?_map, List.getElem?_range h]; rfl
theorem rngP_rng {k : Nat} : rngP 0 k = (rng k).map PV.int := by
  unfold rng
  rw [rngP_map, List.map_map]
  exact List.map_congr_left fun i _ => by show PV.int (0 + (i : Int)) = PV.int (i : Int); rw [Int.zero_add]
theorem perm_pop {α : Type} {l m : List α} {n : Nat} (h : n < l.length) : (l.eraseIdx n ++ (m ++ [l[n]])).Perm (l ++ m) := by
  have e : l = l.take n ++ l[n] :: l.drop (n + 1) := by
    rw [← List.drop_eq_getElem_cons h, List.take_append_drop]
  have e2 : l.eraseIdx n = l.take n ++ l.drop (n + 1) := List.eraseIdx_eq_take_drop_succ ..
  rw [e2]
  generalize l[n] = x at e ⊢
  have p1 : (l.take n ++ l.drop (n + 1) ++ (m ++ [x])).Perm (l.take n ++ l.drop (n + 1) ++ (x :: m)) := List.Perm.append_left _ (List.perm_append_singleton x m)
  refine p1.trans ?_
  conv => rhs; rw [e]
  rw [List.append_assoc, List.append_assoc]
  refine List.Perm.append_left _ ?_
  exact List.perm_middle
theorem erase_map {α β : Type} {f : α → β} {l : List α} {n : Nat} : (l.map f).eraseIdx n = (l.eraseIdx n).map f := by
  rw [List.eraseIdx_eq_take_drop_succ, List.eraseIdx_eq_take_drop_succ, List.map_append, List.map_take, List.map_drop]
theorem strict_of {xs : List Int} (h : xs.Pairwise (· ≤ ·)) (n : xs.Nodup) : xs.Pairwise (· < ·) :=
  (h.and n).imp fun ⟨a, b⟩ => by omega
def rng1 (m : Nat) : List Int := (List.range m).map fun (i : Nat) => 1 + (i : Int)
theorem mem_rng1 {m : Nat} {x : Int} : x ∈ rng1 m ↔ 1 ≤ x ∧ x ≤ m := by
  unfold rng1
  rw [List.mem_map]
  constructor
  · rintro ⟨i, hi, rfl⟩
    have := List.mem_range.mp hi
    omega
  · intro ⟨h1, h2⟩
    exact ⟨(x - 1).toNat, List.mem_range.mpr (by omega), by omega⟩
theorem rngP_rng1 {m : Nat} : rngP 1 m = (rng1 m).map PV.int := by
  unfold rngP rng1
  rw [List.map_map]; rfl
theorem take_succ {α : Type} {xs : List α} {i : Nat} {x : α} {S : Type} {st : S → α → S} {s0 : S} (h : xs[i]? = some x) : (xs.take (i + 1)).foldl st s0 = st ((xs.take i).foldl st s0) x := by
  rw [List.take_add_one, h, List.foldl_append]; rfl
theorem for_self {xs : List PV} {g tb M env} (I : Nat → PM.Env → Prop) (h0 : I 0 env) (hs : ∀ (i : Nat) (x : PV) (e : PM.Env) (N : PM.Env → Prop), xs[i]? = some x → I i e → (∀ e', I (i + 1) e' → N e') → g x e fun e1 => tb { M with nx := N, ct := N, bk := M.nx } e1)
    (hn : ∀ e, I xs.length e → M.nx e) : mForGo g tb M xs env := by
  have := for_inv (emb := id) (xs := xs) (g := g) (tb := tb) (M := M) (env := env) I h0 hs hn
  rwa [List.map_id] at this
theorem comp_self {f : PV → PV} {xs : List PV} {g tt te env P} (h : ∀ x ∈ xs, ∃ e1, (∀ k : PM.Env → Prop, k e1 → g x env k) ∧ (∀ Q : Bool → Prop, Q true → tt e1 Q) ∧ (∀ Q : PV → Prop, Q (f x) → te e1 Q))
    (hl : xs.length ≤ sizeLine) (hp : P (.lst (xs.map f))) : mCompGo g tt te env P xs [] := by
  have := comp_map (emb := id) (xs := xs) (g := g) (tt := tt) (te := te) (env := env) (P := P) h hl hp
  rwa [List.map_id] at this
def ok_heap : List PV → Prop := fun ps => ∃ ns : List Int, ps = [.scr ns] ∧ ns.length ≤ 63
theorem lk_int {n : Nat} {i : Int} : Lk n (.int i) := by cases n <;> trivial
theorem lk_ints {n : Nat} {ns : List Int} (h : ns.length ≤ 1000) : Lk (n + 1) (tI ns) := ⟨by rw [List.length_map]; exact h, fun x hx => by
  obtain ⟨i, _, rfl⟩ := List.mem_map.mp hx
  exact lk_int⟩
theorem pick_ints {xs : List Int} {P : PV → Prop} (h0 : 0 < xs.length) (h1 : xs.length ≤ 1000) (h : ∀ x ∈ xs, P (.int x)) : sp_pick [.src, .lst (xs.map PV.int)] P := ⟨_, _, rfl, .inl rfl, by rw [List.length_map]; exact h0, by rw [List.length_map]; exact h1, fun x hx => by
  obtain ⟨i, hi, rfl⟩ := List.mem_map.mp hx
  exact h i hi⟩
theorem pick_dr {xs : List Int} {P : PV → Prop} {m : Int} (h0 : 0 < xs.length) (h1 : xs.length ≤ 1000) (hb : ∀ x ∈ xs, 0 < x ∧ x ≤ m) (hm : m ≤ 1000000) (h : ∀ r, 0 ≤ r → r < m → P (.int r)) : sp_pick [.src, .lst (xs.map PV.int)] fun y => sp_drw [.src, y] P := pick_ints h0 h1 fun x hx => by
  obtain ⟨a, b⟩ := hb x hx
  exact ⟨x, rfl, a, by omega, fun r r0 r1 => h r r0 (by omega)⟩
theorem pick_sub {α : Type} {xs : List α} {d : α} : ∀ {ns : List Int} {k : Nat}, ns.Pairwise (· < ·) → (∀ n ∈ ns, (k : Int) ≤ n ∧ n < xs.length) → (ns.map fun j => xs.getD j.toNat d).Sublist (xs.drop k)
  | [], _, _, _ => List.nil_sublist _
  | n :: ns, k, hp, hb => by
    obtain ⟨h1, h2⟩ := hb n (List.mem_cons_self ..)
    rw [List.pairwise_cons] at hp
    have hn : n.toNat < xs.length := by omega
    have ih := pick_sub (xs := xs) (d := d) (k := n.toNat + 1) hp.2 fun m hm => ⟨by have := hp.1 m hm; omega, (hb m (List.mem_cons_of_mem _ hm)).2⟩
    have e : xs.getD n.toNat d = xs[n.toNat] := by rw [List.getD_eq_getElem?_getD, List.getElem?_eq_getElem hn]; rfl
    rw [List.map_cons, e]
    have s1 : (xs[n.toNat] :: xs.drop (n.toNat + 1)).Sublist (xs.drop k) := by
      rw [← List.drop_eq_getElem_cons hn, show n.toNat = k + (n.toNat - k) by omega, ← List.drop_drop]
      exact List.drop_sublist _ _
    exact (List.Sublist.cons_cons _ ih).trans s1
def sp_some : PM.Spec := fun ps P => ∃ (pool : PV) (xs : List PV) (m : Nat), ps = [.src, pool, .int m] ∧ (pool = .lst xs ∨ pool = .tup xs) ∧ m ≤ xs.length ∧ xs.length ≤ 1000 ∧ ∀ ys : List PV, ys.Sublist xs → ys.length = m → P (.tup ys)
theorem h_l_some (ps : List PV) (Q : PV → Prop) (h : sp_some ps Q) : t_l_some sp_drw { nx := fun _ => nxOf .cl Q, rt := Q } (startE n_l_some.length ps) := by
  obtain ⟨pool, xs, m, rfl, hpool, hm, hk, h⟩ := h
  show t_l_some _ _ [some .src, some pool, some (.int m), none, none, none, none]
  unfold t_l_some
  try simp only [s_mVar0, s_mVarS, s_mVarO0, s_mVarOS, s_isObj_lst, s_isObj_dic, s_mC, s_mOp, s_mOp1, s_mB, s_mNil, s_mCons, s_mTup, s_mLst, s_mCall, s_mTB, s_mNot, s_mAnd, s_mOr, s_mAndV, s_mOrV, s_mIf, s_mYes, s_mSl, s_mNo, s_mPart, s_mLc, s_mItems, s_mRng1, s_mRng2, s_mEnum, s_mChain, s_seqT, s_seqL, s_sNext, s_sSeq, s_sIf, s_sSet, s_sRet, s_sRetN, s_sBreak, s_sCont, s_sDrop, s_sPar, s_setN0, s_setNS, s_sAsg, s_sApp, s_sAug, s_sFor, s_sSrc, s_gmN, s_gmT, s_gmCons, s_gmNil, s_wipe0, s_wipeS, s_oSub, s_oAddI, s_oAdd, s_oLt, s_oLe, s_oGt, s_oGe, s_oNeg, s_oNot, s_oMul, s_oMulW, s_oMod, s_oFdiv, s_oPow, s_oIsN, s_oNotN, s_oIsB, s_oNotB, s_isNon_int, s_isNon_non, s_isNon_bl, s_isNon_str, s_isNon_tup, s_isNon_lst, s_isNon_dic, s_oEqI, s_oNeI, s_oIxT, s_oIxL, s_oSlT, s_oSlL, s_oRevT, s_oRevL, s_oInt, s_oIntB, s_oAbs, s_oMax2, s_oMin2, s_oLen, s_plenT, s_plenL, s_plenD, s_plenS, s_oTupleL, s_oTupleT, s_oListL, s_oListT, List.set_cons_succ, List.set_cons_zero, List.append_nil, true_and]
  have hlen : plen pool = some xs.length := by rcases hpool with rfl | rfl <;> rfl
  refine ⟨_, hlen, _, rfl, by omega, ?_⟩
  rw [Int.toNat_natCast, rngP_rng]
  refine comp_map (f := .int) (fun x hx => ⟨_, fun k hk => s_gmN.mpr hk, fun Q hQ => hQ, fun Q hQ => ?_⟩) (by rw [rng_len]; exact line (by omega)) ?_
  · try simp only [s_mVar0, s_mVarS, s_mVarO0, s_mVarOS, s_isObj_lst, s_isObj_dic, s_mC, s_mOp, s_mOp1, s_mB, s_mNil, s_mCons, s_mTup, s_mLst, s_mCall, s_mTB, s_mNot, s_mAnd, s_mOr, s_mAndV, s_mOrV, s_mIf, s_mYes, s_mSl, s_mNo, s_mPart, s_mLc, s_mItems, s_mRng1, s_mRng2, s_mEnum, s_mChain, s_seqT, s_seqL, s_sNext, s_sSeq, s_sIf, s_sSet, s_sRet, s_sRetN, s_sBreak, s_sCont, s_sDrop, s_sPar, s_setN0, s_setNS, s_sAsg, s_sApp, s_sAug, s_sFor, s_sSrc, s_gmN, s_gmT, s_gmCons, s_gmNil, s_wipe0, s_wipeS, s_oSub, s_oAddI, s_oAdd, s_oLt, s_oLe, s_oGt, s_oGe, s_oNeg, s_oNot, s_oMul, s_oMulW, s_oMod, s_oFdiv, s_oPow, s_oIsN, s_oNotN, s_oIsB, s_oNotB, s_isNon_int, s_isNon_non, s_isNon_bl, s_isNon_str, s_isNon_tup, s_isNon_lst, s_isNon_dic, s_oEqI, s_oNeI, s_oIxT, s_oIxL, s_oSlT, s_oSlL, s_oRevT, s_oRevL, s_oInt, s_oIntB, s_oAbs, s_oMax2, s_oMin2, s_oLen, s_plenT, s_plenL, s_plenD, s_plenS, s_oTupleL, s_oTupleT, s_oListL, s_oListT, List.set_cons_succ, List.set_cons_zero, List.append_nil, true_and]; exact hQ
  refine ⟨Nat.zero_le _, _, rfl, by omega, ?_⟩
  rw [Int.toNat_natCast, rngP_rng]
  refine for_inv (fun i e => i ≤ m ∧ ∃ (left found : List Int) (y3 y6 : Option PV), (left ++ found).Perm (rng xs.length) ∧ found.length = i ∧ e = [some .src, some pool, some (.int m), y3, some (lI left), some (lI found), y6]) ⟨Nat.zero_le _, rng xs.length, [], none, none, by rw [List.append_nil], rfl, rfl⟩ (fun i x e N hx hE hN => ?_) (fun e hE => ?_)
  · obtain ⟨hi, left, found, y3, y6, hp, hf, rfl⟩ := hE
    have him : i < m := by have := (List.getElem?_eq_some_iff.mp hx).1; rw [rng_len] at this; exact this
    have hlen2 : left.length + found.length = xs.length := by rw [← List.length_append, hp.length_eq, rng_len]
    rw [s_gmN]
    refine ⟨_, _, rfl, rfl, ?_⟩
    try simp only [s_mVar0, s_mVarS, s_mVarO0, s_mVarOS, s_isObj_lst, s_isObj_dic, s_mC, s_mOp, s_mOp1, s_mB, s_mNil, s_mCons, s_mTup, s_mLst, s_mCall, s_mTB, s_mNot, s_mAnd, s_mOr, s_mAndV, s_mOrV, s_mIf, s_mYes, s_mSl, s_mNo, s_mPart, s_mLc, s_mItems, s_mRng1, s_mRng2, s_mEnum, s_mChain, s_seqT, s_seqL, s_sNext, s_sSeq, s_sIf, s_sSet, s_sRet, s_sRetN, s_sBreak, s_sCont, s_sDrop, s_sPar, s_setN0, s_setNS, s_sAsg, s_sApp, s_sAug, s_sFor, s_sSrc, s_gmN, s_gmT, s_gmCons, s_gmNil, s_wipe0, s_wipeS, s_oSub, s_oAddI, s_oAdd, s_oLt, s_oLe, s_oGt, s_oGe, s_oNeg, s_oNot, s_oMul, s_oMulW, s_oMod, s_oFdiv, s_oPow, s_oIsN, s_oNotN, s_oIsB, s_oNotB, s_isNon_int, s_isNon_non, s_isNon_bl, s_isNon_str, s_isNon_tup, s_isNon_lst, s_isNon_dic, s_oEqI, s_oNeI, s_oIxT, s_oIxL, s_oSlT, s_oSlL, s_oRevT, s_oRevL, s_oInt, s_oIntB, s_oAbs, s_oMax2, s_oMin2, s_oLen, s_plenT, s_plenL, s_plenD, s_plenS, s_oTupleL, s_oTupleT, s_oListL, s_oListT, List.set_cons_succ, List.set_cons_zero, List.append_nil, true_and]
    refine ⟨_, rfl, _, rfl, ?_, ?_, fun r hr hr2 => ?_⟩
    · rw [List.length_map]; omega
    · rw [List.length_map]; omega
    rw [List.length_map] at hr2
    have hn : r.toNat < left.length := by omega
    refine ⟨r, r.toNat, .int left[r.toNat], rfl, by omega, ?_, ?_, ?_, ?_⟩
    · rw [List.length_map]; unfold ixN; rw [if_pos hr, if_pos hr2]
    · rw [List.getElem?_map, List.getElem?_eq_getElem hn]; rfl
    · rw [List.length_map]; exact small_line (by omega)
    · refine hN _ ⟨him, left.eraseIdx r.toNat, found ++ [left[r.toNat]], some (.int x), y6, (perm_pop hn).trans hp, by rw [List.length_append, hf]; rfl, ?_⟩
      try simp only [List.set_cons_succ, List.set_cons_zero]
      rw [erase_map, show List.map PV.int found ++ [PV.int left[r.toNat]] = List.map PV.int (found ++ [left[r.toNat]]) from by rw [List.map_append]; rfl]
  · obtain ⟨hi, left, found, y3, y6, hp, hf, rfl⟩ := hE
    rw [rng_len] at hf
    try simp only [s_mVar0, s_mVarS, s_mVarO0, s_mVarOS, s_isObj_lst, s_isObj_dic, s_mC, s_mOp, s_mOp1, s_mB, s_mNil, s_mCons, s_mTup, s_mLst, s_mCall, s_mTB, s_mNot, s_mAnd, s_mOr, s_mAndV, s_mOrV, s_mIf, s_mYes, s_mSl, s_mNo, s_mPart, s_mLc, s_mItems, s_mRng1, s_mRng2, s_mEnum, s_mChain, s_seqT, s_seqL, s_sNext, s_sSeq, s_sIf, s_sSet, s_sRet, s_sRetN, s_sBreak, s_sCont, s_sDrop, s_sPar, s_setN0, s_setNS, s_sAsg, s_sApp, s_sAug, s_sFor, s_sSrc, s_gmN, s_gmT, s_gmCons, s_gmNil, s_wipe0, s_wipeS, s_oSub, s_oAddI, s_oAdd, s_oLt, s_oLe, s_oGt, s_oGe, s_oNeg, s_oNot, s_oMul, s_oMulW, s_oMod, s_oFdiv, s_oPow, s_oIsN, s_oNotN, s_oIsB, s_oNotB, s_isNon_int, s_isNon_non, s_isNon_bl, s_isNon_str, s_isNon_tup, s_isNon_lst, s_isNon_dic, s_oEqI, s_oNeI, s_oIxT, s_oIxL, s_oSlT, s_oSlL, s_oRevT, s_oRevL, s_oInt, s_oIntB, s_oAbs, s_oMax2, s_oMin2, s_oLen, s_plenT, s_plenL, s_plenD, s_plenS, s_oTupleL, s_oTupleT, s_oListL, s_oListT, List.set_cons_succ, List.set_cons_zero, List.append_nil, true_and]
    have hnd : (left ++ found).Nodup := hp.nodup_iff.mpr rng_nodup
    have hfn : found.Nodup := (List.nodup_append.mp hnd).2.1
    have hsn : (isort found).Nodup := (isort_perm found).nodup_iff.mpr hfn
    have hmem : ∀ x ∈ isort found, 0 ≤ x ∧ x < xs.length := fun x hx => mem_rng.mp (hp.mem_iff.mp (List.mem_append_right _ ((isort_perm found).mem_iff.mp hx)))
    refine ⟨found, .inl rfl, _, rfl, ?_⟩
    refine comp_map (f := fun j => xs.getD j.toNat .non) (fun x hx => ⟨_, fun k hk => s_gmN.mpr hk, fun Q hQ => hQ, fun Q hQ => ?_⟩) (by rw [isort_len, hf]; exact line (by omega)) ?_
    · obtain ⟨h0, h1⟩ := hmem x hx
      try simp only [s_mVar0, s_mVarS, s_mVarO0, s_mVarOS, s_isObj_lst, s_isObj_dic, s_mC, s_mOp, s_mOp1, s_mB, s_mNil, s_mCons, s_mTup, s_mLst, s_mCall, s_mTB, s_mNot, s_mAnd, s_mOr, s_mAndV, s_mOrV, s_mIf, s_mYes, s_mSl, s_mNo, s_mPart, s_mLc, s_mItems, s_mRng1, s_mRng2, s_mEnum, s_mChain, s_seqT, s_seqL, s_sNext, s_sSeq, s_sIf, s_sSet, s_sRet, s_sRetN, s_sBreak, s_sCont, s_sDrop, s_sPar, s_setN0, s_setNS, s_sAsg, s_sApp, s_sAug, s_sFor, s_sSrc, s_gmN, s_gmT, s_gmCons, s_gmNil, s_wipe0, s_wipeS, s_oSub, s_oAddI, s_oAdd, s_oLt, s_oLe, s_oGt, s_oGe, s_oNeg, s_oNot, s_oMul, s_oMulW, s_oMod, s_oFdiv, s_oPow, s_oIsN, s_oNotN, s_oIsB, s_oNotB, s_isNon_int, s_isNon_non, s_isNon_bl, s_isNon_str, s_isNon_tup, s_isNon_lst, s_isNon_dic, s_oEqI, s_oNeI, s_oIxT, s_oIxL, s_oSlT, s_oSlL, s_oRevT, s_oRevL, s_oInt, s_oIntB, s_oAbs, s_oMax2, s_oMin2, s_oLen, s_plenT, s_plenL, s_plenD, s_plenS, s_oTupleL, s_oTupleT, s_oListL, s_oListT, List.set_cons_succ, List.set_cons_zero, List.append_nil, true_and]
      have hg : atI xs x = some (xs.getD x.toNat .non) := by
        rw [atI_nn h0 h1, List.getD_eq_getElem?_getD, List.getElem?_eq_getElem (by omega)]; rfl
      rcases hpool with rfl | rfl
      · exact s_oIxL.mpr ⟨_, hg, hQ⟩
      · exact s_oIxT.mpr ⟨_, hg, hQ⟩
    · refine s_oTupleL.mpr (h _ (by have := pick_sub (xs := xs) (d := .non) (k := 0) (strict_of (isort_sorted found) hsn) hmem; rwa [List.drop_zero] at this) (by rw [List.length_map, isort_len, hf]))
end K24

set_option maxHeartbeats 2000000
namespace K24
open PySem L2 PM
abbrev Nt := Int × Str × List Int
def hold : Str := PySem.Str.ofString "hold"
def deal : Str := PySem.Str.ofString "deal"
def wiped : Str := PySem.Str.ofString "wiped"
def help : Str := PySem.Str.ofString "help"
def ntP (n : Nt) : PV := .tup (.int n.1 :: .str n.2.1 :: n.2.2.map PV.int)
/-- a note of one of the forms -/
def Kd (n : Nt) : Prop := (n.2.1 = hold ∧ ((∃ i, n.2.2 = [i]) ∨ ∃ i a b, n.2.2 = [i, a, b])) ∨ (n.2.1 = deal ∧ ∃ i b, n.2.2 = [i, b]) ∨ (n.2.1 = wiped ∧ ∃ i, n.2.2 = [i]) ∨ (n.2.1 = help ∧ ∃ i r, n.2.2 = i :: r)
/-! ### the notes as data -/
theorem toDs_ints (l : List Int) : toDs (l.map PV.int) = some (l.map PyData.int) := toDs_map (fun _ => rfl) l
theorem eqv_ints : ∀ l m : List Int, PyData.eqvAll (l.map PyData.int) (m.map PyData.int) = decide (l = m)
  | [], [] => rfl
  | [], _ :: _ => rfl
  | _ :: _, [] => rfl
  | a :: l, b :: m => by
    have ih := eqv_ints l m
    show ((a == b) && PyData.eqvAll (l.map PyData.int) (m.map PyData.int)) = _
    rw [ih]
    by_cases h : a = b <;> by_cases h2 : l = m <;> simp [h, h2]
def dn (s : Str) (l : List Int) : PyData := .tuple (.str s :: l.map PyData.int)
def nd (n : Nt) : PyData := .tuple (.int n.1 :: .str n.2.1 :: n.2.2.map PyData.int)
theorem eqv_dn {s r : Str} {l m : List Int} : PyData.eqv (dn s l) (dn r m) = decide (s = r ∧ l = m) := by
  show ((s == r) && PyData.eqvAll (l.map PyData.int) (m.map PyData.int)) = _
  rw [eqv_ints]
  by_cases h : s = r <;> by_cases h2 : l = m <;> simp [h, h2]
theorem eqv_nd {n m : Nt} : PyData.eqv (nd n) (nd m) = decide (n = m) := by
  obtain ⟨a, s, l⟩ := n
  obtain ⟨b, r, m⟩ := m
  show ((a == b) && ((s == r) && PyData.eqvAll (l.map PyData.int) (m.map PyData.int))) = _
  rw [eqv_ints]
  by_cases h : a = b <;> by_cases h1 : s = r <;> by_cases h2 : l = m <;> simp [h, h1, h2]
theorem lay_ints : ∀ l : List Int, PyData.canLayAll0 (l.map PyData.int) = true
  | [] => rfl
  | _ :: l => by
    show (true && PyData.canLayAll0 (l.map PyData.int)) = true
    rw [lay_ints l]; rfl
theorem dep_ints : ∀ l : List Int, PyData.depthAll (l.map PyData.int) = 0
  | [] => rfl
  | _ :: l => by
    show max 0 (PyData.depthAll (l.map PyData.int)) = 0
    rw [dep_ints l]; rfl
theorem ok_hold : PyData.strOk hold = true := by decide +kernel
theorem ok_deal : PyData.strOk deal = true := by decide +kernel
theorem ok_wiped : PyData.strOk wiped = true := by decide +kernel
theorem ok_help : PyData.strOk help = true := by decide +kernel
theorem Kd.ok {n : Nt} (h : Kd n) : PyData.strOk n.2.1 = true := by
  rcases h with ⟨e, _⟩ | ⟨e, _⟩ | ⟨e, _⟩ | ⟨e, _⟩ <;> rw [e]
  · exact ok_hold
  · exact ok_deal
  · exact ok_wiped
  · exact ok_help
theorem shaped_dn {s : Str} {l : List Int} (h : PyData.strOk s = true) : SeqAt.shaped (dn s l) = true := by
  unfold SeqAt.shaped
  rw [Bool.and_eq_true]
  refine ⟨?_, decide_eq_true ?_⟩
  · show (PyData.strOk s && PyData.canLayAll0 (l.map PyData.int)) = true
    rw [h, lay_ints]; rfl
  · show max 0 (PyData.depthAll (l.map PyData.int)) + 1 ≤ 64
    rw [dep_ints]; decide
theorem lay_nd {n : Nt} (h : PyData.strOk n.2.1 = true) : PyData.canLay0 (nd n) = true := by
  show (true && (PyData.strOk n.2.1 && PyData.canLayAll0 (n.2.2.map PyData.int))) = true
  rw [h, lay_ints]; rfl
theorem dep_nd {n : Nt} : PyData.depth (nd n) = 1 := by
  show max 0 (max 0 (PyData.depthAll (n.2.2.map PyData.int))) + 1 = 1
  rw [dep_ints]; rfl
theorem shaped_nd {n : Nt} (h : PyData.strOk n.2.1 = true) : SeqAt.shaped (nd n) = true := by
  unfold SeqAt.shaped
  rw [lay_nd h, dep_nd]; rfl
theorem shaped_nds : ∀ {ns : List Nt}, (∀ n ∈ ns, Kd n) → PyData.canLayAll0 (ns.map nd) = true ∧ PyData.depthAll (ns.map nd) ≤ 1
  | [], _ => ⟨rfl, by decide⟩
  | n :: ns, h => by
    obtain ⟨h1, h2⟩ := shaped_nds (ns := ns) fun m hm => h m (List.mem_cons_of_mem _ hm)
    refine ⟨?_, ?_⟩
    · show (PyData.canLay0 (nd n) && PyData.canLayAll0 (ns.map nd)) = true
      rw [lay_nd (h n (List.mem_cons_self ..)).ok, h1]; rfl
    · show max (PyData.depth (nd n)) (PyData.depthAll (ns.map nd)) ≤ 1
      rw [dep_nd]; omega
theorem shaped_all {ns : List Nt} (h : ∀ n ∈ ns, Kd n) : SeqAt.shaped (.list (ns.map nd)) = true := by
  obtain ⟨h1, h2⟩ := shaped_nds h
  unfold SeqAt.shaped
  rw [Bool.and_eq_true]
  refine ⟨h1, decide_eq_true ?_⟩
  show PyData.depthAll (ns.map nd) + 1 ≤ 64
  omega
theorem toD_nt (n : Nt) : toD (ntP n) = some (nd n) := by
  show (toDs (.int n.1 :: .str n.2.1 :: n.2.2.map PV.int)).map PyData.tuple = _
  unfold toDs toDs
  rw [toDs_ints]; rfl
theorem toD_dn {s : Str} {l : List Int} : toD (.tup (.str s :: l.map PV.int)) = some (dn s l) := by
  show (toDs (.str s :: l.map PV.int)).map PyData.tuple = _
  unfold toDs
  rw [toDs_ints]; rfl
/-- n in notes -/
theorem oInA_nt {n : Nt} {ns : List Nt} {P : PV → Prop} (hn : PyData.strOk n.2.1 = true) (hk : ∀ n ∈ ns, Kd n) (h : P (.bl (decide (n ∈ ns)))) : oInA false (ntP n) (.tup (ns.map ntP)) P := by
  refine ⟨_, nd n, ns.map nd, rfl, toD_nt n, toDs_map toD_nt ns, shaped_nd hn, shaped_all hk, ?_⟩
  have e : ((ns.map nd).any fun z => PyData.eqv z (nd n)) = decide (n ∈ ns) := by
    rw [List.any_map]
    apply Bool.eq_iff_iff.mpr
    rw [List.any_eq_true, decide_eq_true_eq]
    constructor
    · rintro ⟨m, hm, e⟩
      have e : PyData.eqv (nd m) (nd n) = true := e
      rw [eqv_nd, decide_eq_true_eq] at e
      rw [← e]; exact hm
    · intro hm
      exact ⟨n, hm, by show PyData.eqv (nd n) (nd n) = true; rw [eqv_nd]; exact decide_eq_true rfl⟩
  rw [e, Bool.false_xor]
  exact h
theorem cut_nt {n : Nt} : cutP (.int n.1 :: .str n.2.1 :: n.2.2.map PV.int) (some 1) none = .str n.2.1 :: n.2.2.map PV.int := by
  unfold cutP
  rw [show (1 : Int) = ((1 : Nat) : Int) from rfl, HT.sIx_none, HT.sIx_nat]
  rw [Nat.min_eq_left (by simp)]
  simp only [List.drop_succ_cons, List.drop_zero]
  exact List.take_of_length_le (by simp)
theorem at_of {xs : List PV} (j : Nat) {p : PV} (h : xs[j]? = some p) : atI xs (j : Int) = some p := by
  have hl := (List.getElem?_eq_some_iff.mp h).1
  rw [atI_nn (Int.natCast_nonneg _) (by omega), Int.toNat_natCast, h]
theorem nt0 {n : Nt} : atI (.int n.1 :: .str n.2.1 :: n.2.2.map PV.int) 0 = some (.int n.1) := at_of 0 rfl
theorem nt1 {n : Nt} : atI (.int n.1 :: .str n.2.1 :: n.2.2.map PV.int) 1 = some (.str n.2.1) := at_of 1 rfl
/-! ### holders -/
abbrev Crs := List (List Int)
def lot (cs : Crs) (i : Int) : List Int := cs.getD i.toNat []
/-- what is given: a course, notes, a map's number -/
structure Gv (cs : Crs) (ns : List Nt) : Prop where
  small : ∀ l ∈ cs, l.length ≤ 100
  few : ns.length ≤ 1000
  kd : ∀ n ∈ ns, Kd n
theorem lot_at {cs : Crs} {i : Int} (h0 : 0 ≤ i) (h1 : i < cs.length) : atI (cs.map tI) i = some (tI (lot cs i)) := by
  rw [atI_nn h0 (by rw [List.length_map]; exact h1), List.getElem?_map, lot, List.getD_eq_getElem?_getD, List.getElem?_eq_getElem (by omega)]; rfl
theorem lot_mem {cs : Crs} {i : Int} (h0 : 0 ≤ i) (h1 : i < cs.length) : lot cs i ∈ cs := by
  unfold lot
  rw [List.getD_eq_getElem?_getD, List.getElem?_eq_getElem (by omega)]
  exact List.getElem_mem _
def sgn (ns : List Nt) (k : Str) (r : List Int) : List Int := (ns.filter fun n => decide (n.2.1 = k ∧ n.2.2 = r)).map fun n => n.1
theorem mem_sgn {ns : List Nt} {k : Str} {r : List Int} {h : Int} : h ∈ sgn ns k r ↔ (h, k, r) ∈ ns := by
  unfold sgn
  rw [List.mem_map]
  constructor
  · rintro ⟨n, hn, rfl⟩
    rw [List.mem_filter, decide_eq_true_eq] at hn
    obtain ⟨h1, h2, h3⟩ := hn
    rw [← h2, ← h3]; exact h1
  · intro h
    exact ⟨_, List.mem_filter.mpr ⟨h, decide_eq_true ⟨rfl, rfl⟩⟩, rfl⟩
def hld (cs : Crs) (ns : List Nt) (i : Int) (g : List Int) : List Int := (lot cs (i + 1)).filter fun h => decide (h ∈ sgn ns hold (i :: g))
theorem mem_hld {cs : Crs} {ns : List Nt} {i : Int} {g : List Int} {x : Int} : x ∈ hld cs ns i g ↔ x ∈ lot cs (i + 1) ∧ x ∈ sgn ns hold (i :: g) := by
  unfold hld; rw [List.mem_filter, decide_eq_true_eq]
theorem hld_len {cs : Crs} {ns : List Nt} {i : Int} {g : List Int} : (hld cs ns i g).length ≤ (lot cs (i + 1)).length := List.length_filter_le _ _
def sp_holders : PM.Spec := fun ps P => ∃ (cs : Crs) (ns : List Nt) (i : Int) (g : List Int), ps = [.tup (cs.map tI), .tup (ns.map ntP), .int i, tI g] ∧ Gv cs ns ∧ 0 ≤ i ∧ i + 1 < cs.length ∧ g.length ≤ 2 ∧ P (tI (hld cs ns i g))
abbrev sp_l_holders : PM.Spec := sp_holders
/-- the set of who signed just this -/
theorem sgn_sk {ns : List Nt} {k : Str} {r : List Int} {env : PM.Env} {P : PV → Prop} {tt : TTm} {te : TEm} {j : Nat} (hf : ns.length ≤ 1000) (ht : ∀ n ∈ ns, ∀ Q : Bool → Prop, Q (decide (n.2.1 = k ∧ n.2.2 = r)) → tt (env.set j (some (ntP n))) Q) (he : ∀ n ∈ ns, ∀ Q : PV → Prop, Q (.int n.1) → te (env.set j (some (ntP n))) Q) (h : P (.iset (sgn ns k r))) :
    mScGo (gmN j) tt te env P (ns.map ntP) [] :=
  sk_emb (emb := ntP) (xs := ns) (tst := fun n => decide (n.2.1 = k ∧ n.2.2 = r)) (f := fun n => n.1) (fun n hn => ⟨_, fun k hk => s_gmN.mpr hk, fun Q hQ => ht n hn Q hQ, fun _ Q hQ => he n hn Q hQ⟩) (by rw [List.length_nil]; omega) h
theorem h_holders (ps : List PV) (Q : PV → Prop) (h : sp_holders ps Q) : t_holders { nx := fun _ => nxOf .cl Q, rt := Q } (startE n_holders.length ps) := by
  obtain ⟨cs, ns, i, g, rfl, G, i0, i1, hg, h⟩ := h
  show t_holders _ [some (.tup (cs.map tI)), some (.tup (ns.map ntP)), some (.int i), some (tI g), none, none, none]
  unfold t_holders
  try simp only [s_mVar0, s_mVarS, s_mVarO0, s_mVarOS, s_isObj_lst, s_isObj_dic, s_mC, s_mOp, s_mOp1, s_mB, s_mNil, s_mCons, s_mTup, s_mLst, s_mCall, s_mTB, s_mNot, s_mAnd, s_mOr, s_mAndV, s_mOrV, s_mIf, s_mYes, s_mSl, s_mNo, s_mPart, s_mLc, s_mItems, s_mRng1, s_mRng2, s_mEnum, s_mChain, s_seqT, s_seqL, s_sNext, s_sSeq, s_sIf, s_sSet, s_sRet, s_sRetN, s_sBreak, s_sCont, s_sDrop, s_sPar, s_setN0, s_setNS, s_sAsg, s_sApp, s_sAug, s_sFor, s_sSrc, s_gmN, s_gmT, s_gmCons, s_gmNil, s_wipe0, s_wipeS, s_oSub, s_oAddI, s_oAdd, s_oLt, s_oLe, s_oGt, s_oGe, s_oNeg, s_oNot, s_oMul, s_oMulW, s_oMod, s_oFdiv, s_oPow, s_oIsN, s_oNotN, s_oIsB, s_oNotB, s_isNon_int, s_isNon_non, s_isNon_bl, s_isNon_str, s_isNon_tup, s_isNon_lst, s_isNon_dic, s_oEqI, s_oNeI, s_oIxT, s_oIxL, s_oSlT, s_oSlL, s_oRevT, s_oRevL, s_oInt, s_oIntB, s_oAbs, s_oMax2, s_oMin2, s_oLen, s_plenT, s_plenL, s_plenD, s_plenS, s_oTupleL, s_oTupleT, s_oListL, s_oListT, List.set_cons_succ, List.set_cons_zero, List.append_nil, true_and, x_bl, x_int, x_some, x_addT, x_addL, x_true, x_false]
  simp only [s_mSc]
  try simp only [s_mVar0, s_mVarS, s_mVarO0, s_mVarOS, s_isObj_lst, s_isObj_dic, s_mC, s_mOp, s_mOp1, s_mB, s_mNil, s_mCons, s_mTup, s_mLst, s_mCall, s_mTB, s_mNot, s_mAnd, s_mOr, s_mAndV, s_mOrV, s_mIf, s_mYes, s_mSl, s_mNo, s_mPart, s_mLc, s_mItems, s_mRng1, s_mRng2, s_mEnum, s_mChain, s_seqT, s_seqL, s_sNext, s_sSeq, s_sIf, s_sSet, s_sRet, s_sRetN, s_sBreak, s_sCont, s_sDrop, s_sPar, s_setN0, s_setNS, s_sAsg, s_sApp, s_sAug, s_sFor, s_sSrc, s_gmN, s_gmT, s_gmCons, s_gmNil, s_wipe0, s_wipeS, s_oSub, s_oAddI, s_oAdd, s_oLt, s_oLe, s_oGt, s_oGe, s_oNeg, s_oNot, s_oMul, s_oMulW, s_oMod, s_oFdiv, s_oPow, s_oIsN, s_oNotN, s_oIsB, s_oNotB, s_isNon_int, s_isNon_non, s_isNon_bl, s_isNon_str, s_isNon_tup, s_isNon_lst, s_isNon_dic, s_oEqI, s_oNeI, s_oIxT, s_oIxL, s_oSlT, s_oSlL, s_oRevT, s_oRevL, s_oInt, s_oIntB, s_oAbs, s_oMax2, s_oMin2, s_oLen, s_plenT, s_plenL, s_plenD, s_plenS, s_oTupleL, s_oTupleT, s_oListL, s_oListT, List.set_cons_succ, List.set_cons_zero, List.append_nil, true_and, x_bl, x_int, x_some, x_addT, x_addL, x_true, x_false]
  have h1 := G.few
  have h2 := G.small _ (lot_mem (cs := cs) (i := i + 1) (by omega) (by omega))
  refine sgn_sk (k := hold) (r := i :: g) h1 (fun n hn Q hQ => ?_) (fun n hn Q hQ => ?_) ?_
  · unfold ntP
    try simp only [s_mVar0, s_mVarS, s_mVarO0, s_mVarOS, s_isObj_lst, s_isObj_dic, s_mC, s_mOp, s_mOp1, s_mB, s_mNil, s_mCons, s_mTup, s_mLst, s_mCall, s_mTB, s_mNot, s_mAnd, s_mOr, s_mAndV, s_mOrV, s_mIf, s_mYes, s_mSl, s_mNo, s_mPart, s_mLc, s_mItems, s_mRng1, s_mRng2, s_mEnum, s_mChain, s_seqT, s_seqL, s_sNext, s_sSeq, s_sIf, s_sSet, s_sRet, s_sRetN, s_sBreak, s_sCont, s_sDrop, s_sPar, s_setN0, s_setNS, s_sAsg, s_sApp, s_sAug, s_sFor, s_sSrc, s_gmN, s_gmT, s_gmCons, s_gmNil, s_wipe0, s_wipeS, s_oSub, s_oAddI, s_oAdd, s_oLt, s_oLe, s_oGt, s_oGe, s_oNeg, s_oNot, s_oMul, s_oMulW, s_oMod, s_oFdiv, s_oPow, s_oIsN, s_oNotN, s_oIsB, s_oNotB, s_isNon_int, s_isNon_non, s_isNon_bl, s_isNon_str, s_isNon_tup, s_isNon_lst, s_isNon_dic, s_oEqI, s_oNeI, s_oIxT, s_oIxL, s_oSlT, s_oSlL, s_oRevT, s_oRevL, s_oInt, s_oIntB, s_oAbs, s_oMax2, s_oMin2, s_oLen, s_plenT, s_plenL, s_plenD, s_plenS, s_oTupleL, s_oTupleT, s_oListL, s_oListT, List.set_cons_succ, List.set_cons_zero, List.append_nil, true_and, x_bl, x_int, x_some, x_addT, x_addL, x_true, x_false]
    rw [cut_nt]
    refine ⟨line (by simp), line (by simp; omega), ⟨dn n.2.1 n.2.2, dn hold (i :: g), toD_dn (s := n.2.1) (l := n.2.2), toD_dn (s := hold) (l := i :: g), shaped_dn (G.kd n hn).ok, shaped_dn ok_hold, _, rfl, ?_⟩⟩
    rw [eqv_dn]
    exact hQ
  · unfold ntP
    try simp only [s_mVar0, s_mVarS, s_mVarO0, s_mVarOS, s_isObj_lst, s_isObj_dic, s_mC, s_mOp, s_mOp1, s_mB, s_mNil, s_mCons, s_mTup, s_mLst, s_mCall, s_mTB, s_mNot, s_mAnd, s_mOr, s_mAndV, s_mOrV, s_mIf, s_mYes, s_mSl, s_mNo, s_mPart, s_mLc, s_mItems, s_mRng1, s_mRng2, s_mEnum, s_mChain, s_seqT, s_seqL, s_sNext, s_sSeq, s_sIf, s_sSet, s_sRet, s_sRetN, s_sBreak, s_sCont, s_sDrop, s_sPar, s_setN0, s_setNS, s_sAsg, s_sApp, s_sAug, s_sFor, s_sSrc, s_gmN, s_gmT, s_gmCons, s_gmNil, s_wipe0, s_wipeS, s_oSub, s_oAddI, s_oAdd, s_oLt, s_oLe, s_oGt, s_oGe, s_oNeg, s_oNot, s_oMul, s_oMulW, s_oMod, s_oFdiv, s_oPow, s_oIsN, s_oNotN, s_oIsB, s_oNotB, s_isNon_int, s_isNon_non, s_isNon_bl, s_isNon_str, s_isNon_tup, s_isNon_lst, s_isNon_dic, s_oEqI, s_oNeI, s_oIxT, s_oIxL, s_oSlT, s_oSlL, s_oRevT, s_oRevL, s_oInt, s_oIntB, s_oAbs, s_oMax2, s_oMin2, s_oLen, s_plenT, s_plenL, s_plenD, s_plenS, s_oTupleL, s_oTupleT, s_oListL, s_oListT, List.set_cons_succ, List.set_cons_zero, List.append_nil, true_and, x_bl, x_int, x_some, x_addT, x_addL, x_true, x_false]
    exact ⟨_, nt0, hQ⟩
  try simp only [s_mVar0, s_mVarS, s_mVarO0, s_mVarOS, s_isObj_lst, s_isObj_dic, s_mC, s_mOp, s_mOp1, s_mB, s_mNil, s_mCons, s_mTup, s_mLst, s_mCall, s_mTB, s_mNot, s_mAnd, s_mOr, s_mAndV, s_mOrV, s_mIf, s_mYes, s_mSl, s_mNo, s_mPart, s_mLc, s_mItems, s_mRng1, s_mRng2, s_mEnum, s_mChain, s_seqT, s_seqL, s_sNext, s_sSeq, s_sIf, s_sSet, s_sRet, s_sRetN, s_sBreak, s_sCont, s_sDrop, s_sPar, s_setN0, s_setNS, s_sAsg, s_sApp, s_sAug, s_sFor, s_sSrc, s_gmN, s_gmT, s_gmCons, s_gmNil, s_wipe0, s_wipeS, s_oSub, s_oAddI, s_oAdd, s_oLt, s_oLe, s_oGt, s_oGe, s_oNeg, s_oNot, s_oMul, s_oMulW, s_oMod, s_oFdiv, s_oPow, s_oIsN, s_oNotN, s_oIsB, s_oNotB, s_isNon_int, s_isNon_non, s_isNon_bl, s_isNon_str, s_isNon_tup, s_isNon_lst, s_isNon_dic, s_oEqI, s_oNeI, s_oIxT, s_oIxL, s_oSlT, s_oSlL, s_oRevT, s_oRevL, s_oInt, s_oIntB, s_oAbs, s_oMax2, s_oMin2, s_oLen, s_plenT, s_plenL, s_plenD, s_plenS, s_oTupleL, s_oTupleT, s_oListL, s_oListT, List.set_cons_succ, List.set_cons_zero, List.append_nil, true_and, x_bl, x_int, x_some, x_addT, x_addL, x_true, x_false]
  refine ⟨_, lot_at (by omega) (by omega), _, rfl, ?_⟩
  refine comp_emb (emb := PV.int) (xs := lot cs (i + 1)) (tst := fun x => decide (x ∈ sgn ns hold (i :: g))) (f := PV.int) (fun x hx => ⟨_, fun k hk => s_gmN.mpr hk, fun Q hQ => ?_, fun _ Q hQ => ?_⟩) (by rw [List.length_nil]; exact line (by omega)) ?_
  · try simp only [s_mVar0, s_mVarS, s_mVarO0, s_mVarOS, s_isObj_lst, s_isObj_dic, s_mC, s_mOp, s_mOp1, s_mB, s_mNil, s_mCons, s_mTup, s_mLst, s_mCall, s_mTB, s_mNot, s_mAnd, s_mOr, s_mAndV, s_mOrV, s_mIf, s_mYes, s_mSl, s_mNo, s_mPart, s_mLc, s_mItems, s_mRng1, s_mRng2, s_mEnum, s_mChain, s_seqT, s_seqL, s_sNext, s_sSeq, s_sIf, s_sSet, s_sRet, s_sRetN, s_sBreak, s_sCont, s_sDrop, s_sPar, s_setN0, s_setNS, s_sAsg, s_sApp, s_sAug, s_sFor, s_sSrc, s_gmN, s_gmT, s_gmCons, s_gmNil, s_wipe0, s_wipeS, s_oSub, s_oAddI, s_oAdd, s_oLt, s_oLe, s_oGt, s_oGe, s_oNeg, s_oNot, s_oMul, s_oMulW, s_oMod, s_oFdiv, s_oPow, s_oIsN, s_oNotN, s_oIsB, s_oNotB, s_isNon_int, s_isNon_non, s_isNon_bl, s_isNon_str, s_isNon_tup, s_isNon_lst, s_isNon_dic, s_oEqI, s_oNeI, s_oIxT, s_oIxL, s_oSlT, s_oSlL, s_oRevT, s_oRevL, s_oInt, s_oIntB, s_oAbs, s_oMax2, s_oMin2, s_oLen, s_plenT, s_plenL, s_plenD, s_plenS, s_oTupleL, s_oTupleT, s_oListL, s_oListT, List.set_cons_succ, List.set_cons_zero, List.append_nil, true_and, x_bl, x_int, x_some, x_addT, x_addL, x_true, x_false]
    simp only [s_oInS]
    exact ⟨_, rfl, hQ⟩
  · try simp only [s_mVar0, s_mVarS, s_mVarO0, s_mVarOS, s_isObj_lst, s_isObj_dic, s_mC, s_mOp, s_mOp1, s_mB, s_mNil, s_mCons, s_mTup, s_mLst, s_mCall, s_mTB, s_mNot, s_mAnd, s_mOr, s_mAndV, s_mOrV, s_mIf, s_mYes, s_mSl, s_mNo, s_mPart, s_mLc, s_mItems, s_mRng1, s_mRng2, s_mEnum, s_mChain, s_seqT, s_seqL, s_sNext, s_sSeq, s_sIf, s_sSet, s_sRet, s_sRetN, s_sBreak, s_sCont, s_sDrop, s_sPar, s_setN0, s_setNS, s_sAsg, s_sApp, s_sAug, s_sFor, s_sSrc, s_gmN, s_gmT, s_gmCons, s_gmNil, s_wipe0, s_wipeS, s_oSub, s_oAddI, s_oAdd, s_oLt, s_oLe, s_oGt, s_oGe, s_oNeg, s_oNot, s_oMul, s_oMulW, s_oMod, s_oFdiv, s_oPow, s_oIsN, s_oNotN, s_oIsB, s_oNotB, s_isNon_int, s_isNon_non, s_isNon_bl, s_isNon_str, s_isNon_tup, s_isNon_lst, s_isNon_dic, s_oEqI, s_oNeI, s_oIxT, s_oIxL, s_oSlT, s_oSlL, s_oRevT, s_oRevL, s_oInt, s_oIntB, s_oAbs, s_oMax2, s_oMin2, s_oLen, s_plenT, s_plenL, s_plenD, s_plenS, s_oTupleL, s_oTupleT, s_oListL, s_oListT, List.set_cons_succ, List.set_cons_zero, List.append_nil, true_and, x_bl, x_int, x_some, x_addT, x_addL, x_true, x_false]
    exact hQ
  rw [List.nil_append]
  try simp only [s_mVar0, s_mVarS, s_mVarO0, s_mVarOS, s_isObj_lst, s_isObj_dic, s_mC, s_mOp, s_mOp1, s_mB, s_mNil, s_mCons, s_mTup, s_mLst, s_mCall, s_mTB, s_mNot, s_mAnd, s_mOr, s_mAndV, s_mOrV, s_mIf, s_mYes, s_mSl, s_mNo, s_mPart, s_mLc, s_mItems, s_mRng1, s_mRng2, s_mEnum, s_mChain, s_seqT, s_seqL, s_sNext, s_sSeq, s_sIf, s_sSet, s_sRet, s_sRetN, s_sBreak, s_sCont, s_sDrop, s_sPar, s_setN0, s_setNS, s_sAsg, s_sApp, s_sAug, s_sFor, s_sSrc, s_gmN, s_gmT, s_gmCons, s_gmNil, s_wipe0, s_wipeS, s_oSub, s_oAddI, s_oAdd, s_oLt, s_oLe, s_oGt, s_oGe, s_oNeg, s_oNot, s_oMul, s_oMulW, s_oMod, s_oFdiv, s_oPow, s_oIsN, s_oNotN, s_oIsB, s_oNotB, s_isNon_int, s_isNon_non, s_isNon_bl, s_isNon_str, s_isNon_tup, s_isNon_lst, s_isNon_dic, s_oEqI, s_oNeI, s_oIxT, s_oIxL, s_oSlT, s_oSlL, s_oRevT, s_oRevL, s_oInt, s_oIntB, s_oAbs, s_oMax2, s_oMin2, s_oLen, s_plenT, s_plenL, s_plenD, s_plenS, s_oTupleL, s_oTupleT, s_oListL, s_oListT, List.set_cons_succ, List.set_cons_zero, List.append_nil, true_and, x_bl, x_int, x_some, x_addT, x_addL, x_true, x_false]
  exact h
theorem h_l_holders (ps : List PV) (Q : PV → Prop) (h : sp_l_holders ps Q) : t_l_holders { nx := fun _ => nxOf .cl Q, rt := Q } (startE n_l_holders.length ps) := by
  obtain ⟨cs, ns, i, g, rfl, G, i0, i1, hg, h⟩ := h
  show t_l_holders _ [some (.tup (cs.map tI)), some (.tup (ns.map ntP)), some (.int i), some (tI g), none, none]
  unfold t_l_holders
  try simp only [s_mVar0, s_mVarS, s_mVarO0, s_mVarOS, s_isObj_lst, s_isObj_dic, s_mC, s_mOp, s_mOp1, s_mB, s_mNil, s_mCons, s_mTup, s_mLst, s_mCall, s_mTB, s_mNot, s_mAnd, s_mOr, s_mAndV, s_mOrV, s_mIf, s_mYes, s_mSl, s_mNo, s_mPart, s_mLc, s_mItems, s_mRng1, s_mRng2, s_mEnum, s_mChain, s_seqT, s_seqL, s_sNext, s_sSeq, s_sIf, s_sSet, s_sRet, s_sRetN, s_sBreak, s_sCont, s_sDrop, s_sPar, s_setN0, s_setNS, s_sAsg, s_sApp, s_sAug, s_sFor, s_sSrc, s_gmN, s_gmT, s_gmCons, s_gmNil, s_wipe0, s_wipeS, s_oSub, s_oAddI, s_oAdd, s_oLt, s_oLe, s_oGt, s_oGe, s_oNeg, s_oNot, s_oMul, s_oMulW, s_oMod, s_oFdiv, s_oPow, s_oIsN, s_oNotN, s_oIsB, s_oNotB, s_isNon_int, s_isNon_non, s_isNon_bl, s_isNon_str, s_isNon_tup, s_isNon_lst, s_isNon_dic, s_oEqI, s_oNeI, s_oIxT, s_oIxL, s_oSlT, s_oSlL, s_oRevT, s_oRevL, s_oInt, s_oIntB, s_oAbs, s_oMax2, s_oMin2, s_oLen, s_plenT, s_plenL, s_plenD, s_plenS, s_oTupleL, s_oTupleT, s_oListL, s_oListT, List.set_cons_succ, List.set_cons_zero, List.append_nil, true_and, x_bl, x_int, x_some, x_addT, x_addL, x_true, x_false]
  have h2 := G.small _ (lot_mem (cs := cs) (i := i + 1) (by omega) (by omega))
  refine ⟨Nat.zero_le _, _, lot_at (by omega) (by omega), _, rfl, ?_⟩
  refine for_inv (fun j e => j ≤ (lot cs (i + 1)).length ∧ ∃ y5, e = [some (.tup (cs.map tI)), some (.tup (ns.map ntP)), some (.int i), some (tI g), some (lI (((lot cs (i + 1)).take j).filter fun h => decide (h ∈ sgn ns hold (i :: g)))), y5]) ⟨Nat.zero_le _, none, rfl⟩ (fun j x e N hx hE hN => ?_) (fun e hE => ?_)
  · obtain ⟨hj, y5, rfl⟩ := hE
    have hjl := (List.getElem?_eq_some_iff.mp hx).1
    rw [s_gmN]
    try simp only [s_mVar0, s_mVarS, s_mVarO0, s_mVarOS, s_isObj_lst, s_isObj_dic, s_mC, s_mOp, s_mOp1, s_mB, s_mNil, s_mCons, s_mTup, s_mLst, s_mCall, s_mTB, s_mNot, s_mAnd, s_mOr, s_mAndV, s_mOrV, s_mIf, s_mYes, s_mSl, s_mNo, s_mPart, s_mLc, s_mItems, s_mRng1, s_mRng2, s_mEnum, s_mChain, s_seqT, s_seqL, s_sNext, s_sSeq, s_sIf, s_sSet, s_sRet, s_sRetN, s_sBreak, s_sCont, s_sDrop, s_sPar, s_setN0, s_setNS, s_sAsg, s_sApp, s_sAug, s_sFor, s_sSrc, s_gmN, s_gmT, s_gmCons, s_gmNil, s_wipe0, s_wipeS, s_oSub, s_oAddI, s_oAdd, s_oLt, s_oLe, s_oGt, s_oGe, s_oNeg, s_oNot, s_oMul, s_oMulW, s_oMod, s_oFdiv, s_oPow, s_oIsN, s_oNotN, s_oIsB, s_oNotB, s_isNon_int, s_isNon_non, s_isNon_bl, s_isNon_str, s_isNon_tup, s_isNon_lst, s_isNon_dic, s_oEqI, s_oNeI, s_oIxT, s_oIxL, s_oSlT, s_oSlL, s_oRevT, s_oRevL, s_oInt, s_oIntB, s_oAbs, s_oMax2, s_oMin2, s_oLen, s_plenT, s_plenL, s_plenD, s_plenS, s_oTupleL, s_oTupleT, s_oListL, s_oListT, List.set_cons_succ, List.set_cons_zero, List.append_nil, true_and, x_bl, x_int, x_some, x_addT, x_addL, x_true, x_false]
    refine ⟨line (by simp), line (by simp; omega), ?_⟩
    refine oInA_nt (n := (x, hold, i :: g)) ok_hold G.kd ⟨_, rfl, ?_⟩
    have ef : ((lot cs (i + 1)).take (j + 1)).filter (fun h => decide (h ∈ sgn ns hold (i :: g))) = ((lot cs (i + 1)).take j).filter (fun h => decide (h ∈ sgn ns hold (i :: g))) ++ (if (x, hold, i :: g) ∈ ns then [x] else []) := by
      rw [List.take_add_one, hx, List.filter_append]
      congr 1
      by_cases c : (x, hold, i :: g) ∈ ns
      · rw [if_pos c]; simp [mem_sgn, c]
      · rw [if_neg c]; simp [mem_sgn, c]
    by_cases c : (x, hold, i :: g) ∈ ns
    · refine ite_t (decide_eq_true c) ⟨_, rfl, ?_, hN _ ⟨by omega, some (.int x), ?_⟩⟩
      · rw [List.length_map]
        have : (((lot cs (i + 1)).take j).filter fun h => decide (h ∈ sgn ns hold (i :: g))).length ≤ j := Nat.le_trans (List.length_filter_le _ _) (by rw [List.length_take]; omega)
        exact small_line (by omega)
      · rw [ef, if_pos c]; simp [lI]
    · refine ite_f (by rw [decide_eq_false c]; decide) (hN _ ⟨by omega, some (.int x), ?_⟩)
      rw [ef, if_neg c, List.append_nil]
  · obtain ⟨hj, y5, rfl⟩ := hE
    try simp only [s_mVar0, s_mVarS, s_mVarO0, s_mVarOS, s_isObj_lst, s_isObj_dic, s_mC, s_mOp, s_mOp1, s_mB, s_mNil, s_mCons, s_mTup, s_mLst, s_mCall, s_mTB, s_mNot, s_mAnd, s_mOr, s_mAndV, s_mOrV, s_mIf, s_mYes, s_mSl, s_mNo, s_mPart, s_mLc, s_mItems, s_mRng1, s_mRng2, s_mEnum, s_mChain, s_seqT, s_seqL, s_sNext, s_sSeq, s_sIf, s_sSet, s_sRet, s_sRetN, s_sBreak, s_sCont, s_sDrop, s_sPar, s_setN0, s_setNS, s_sAsg, s_sApp, s_sAug, s_sFor, s_sSrc, s_gmN, s_gmT, s_gmCons, s_gmNil, s_wipe0, s_wipeS, s_oSub, s_oAddI, s_oAdd, s_oLt, s_oLe, s_oGt, s_oGe, s_oNeg, s_oNot, s_oMul, s_oMulW, s_oMod, s_oFdiv, s_oPow, s_oIsN, s_oNotN, s_oIsB, s_oNotB, s_isNon_int, s_isNon_non, s_isNon_bl, s_isNon_str, s_isNon_tup, s_isNon_lst, s_isNon_dic, s_oEqI, s_oNeI, s_oIxT, s_oIxL, s_oSlT, s_oSlL, s_oRevT, s_oRevL, s_oInt, s_oIntB, s_oAbs, s_oMax2, s_oMin2, s_oLen, s_plenT, s_plenL, s_plenD, s_plenS, s_oTupleL, s_oTupleT, s_oListL, s_oListT, List.set_cons_succ, List.set_cons_zero, List.append_nil, true_and, x_bl, x_int, x_some, x_addT, x_addL, x_true, x_false]
    rw [List.take_length]
    exact h
end K24

namespace K24
open PySem L2 PM
def t_is_complete_c2 (sp_holders : PM.Spec) : TSm :=
  (sSeq (sSet 6 (mCall sp_holders [] (mCons (mVar 1) (mCons (mVar 2) (mCons (mVar 3) (mCons (mVar 4) mNil)))))) (sRet (mOp oGe (mOp oAdd (mB oLen (mCons (mVar 6) mNil)) (mB oLen (mCons (mLc (mItems (mOp oIx (mVar 1) (mOp oAdd (mVar 3) (mC (.int 1))))) [7] (gmN 7) (mAnd (mTB (mOp (oIn false) (mVar 7) (mVar 5))) (mTB (mOp (oIn true) (mVar 7) (mVar 6)))) (mVar 7)) mNil))) (mFld "w" (mVar 0)))))
def t_is_complete_a (sp_holders : PM.Spec) : TSm :=
  (sSeq (sIf (mAnd (mTB (mOp oNe (mVar 4) (mTup mNil))) (mTB (mOp (oIn true) (mOp oIx (mVar 4) (mC (.int 0))) (mOp oIx (mVar 1) (mVar 3))))) (sRet (mC (.bl false))) sNext) (t_is_complete_c2 sp_holders))
theorem t_is_complete_eq (sp_holders : PM.Spec) : t_is_complete sp_holders = t_is_complete_a sp_holders := rfl
def t_l_is_complete_c2 (sp_l_holders : PM.Spec) : TSm :=
  (sSeq (sSet 6 (mCall sp_l_holders [] (mCons (mVar 1) (mCons (mVar 2) (mCons (mVar 3) (mCons (mVar 4) mNil)))))) (sRet (mOp oGe (mB oLen (mCons (mLc (mItems (mOp oIx (mVar 1) (mOp oAdd (mVar 3) (mC (.int 1))))) [7] (gmN 7) (mOr (mTB (mOp (oIn false) (mVar 7) (mVar 6))) (mTB (mOp (oIn false) (mVar 7) (mVar 5)))) (mVar 7)) mNil)) (mVar 0))))
def t_l_is_complete_a (sp_l_holders : PM.Spec) : TSm :=
  (sSeq (sIf (mAnd (mTB (mOp oGt (mB oLen (mCons (mVar 4) mNil)) (mC (.int 0)))) (mTB (mOp (oIn true) (mOp oIx (mVar 4) (mC (.int 0))) (mOp oIx (mVar 1) (mVar 3))))) (sRet (mC (.bl false))) sNext) (t_l_is_complete_c2 sp_l_holders))
theorem t_l_is_complete_eq (sp_l_holders : PM.Spec) : t_l_is_complete sp_l_holders = t_l_is_complete_a sp_l_holders := rfl
end K24

set_option maxHeartbeats 2000000
namespace K24
open PySem L2 PM
def cnt (cs : Crs) (ns : List Nt) (i : Int) (g gone : List Int) : Nat := ((lot cs (i + 1)).filter fun x => decide (x ∈ sgn ns hold (i :: g)) || decide (x ∈ gone)).length
def cmpl (w : Int) (cs : Crs) (ns : List Nt) (i : Int) (g gone : List Int) : Bool := (decide (g = []) || decide (g.headD 0 ∈ lot cs i)) && decide (w ≤ (cnt cs ns i g gone : Int))
/-- numbers -/
abbrev nmf : List Str := ["k", "f", "l", "d", "t", "w"]
def isNb (k f w : Int) (p : PV) : Prop := ∃ C dx, p = .obj C dx nmf [.int k, .int f, .int 0, .int 1, .int 1, .int w]
theorem oIn_intsT {neg : Bool} {x : Int} {ns : List Int} {P : PV → Prop} (h : P (.bl (if neg then !decide (x ∈ ns) else decide (x ∈ ns)))) : oIn neg (.int x) (tI ns) P := by
  refine ⟨_, .inr rfl, rfl, ?_, ?_⟩
  · rw [List.all_eq_true]
    intro y hy
    obtain ⟨z, _, rfl⟩ := List.mem_map.mp hy
    rfl
  · rw [inP_ints]; exact h
theorem oNe_unit {g : List Int} {P : PV → Prop} (h : P (.bl (!decide (g = [])))) : oNe (tI g) (.tup []) P := by
  refine ⟨.tuple (g.map .int), .tuple [], ?_, rfl, ?_, rfl, ?_⟩
  · show (toDs (g.map PV.int)).map PyData.tuple = _
    rw [toDs_ints]; rfl
  · unfold SeqAt.shaped
    rw [Bool.and_eq_true]
    refine ⟨lay_ints g, decide_eq_true ?_⟩
    show PyData.depthAll (g.map PyData.int) + 1 ≤ 64
    rw [dep_ints]; decide
  · have e : PyData.eqv (.tuple (g.map .int)) (.tuple []) = decide (g = []) := eqv_ints g []
    rw [e]; exact h
theorem tI_at0 {a : Int} {r : List Int} : atI ((a :: r).map PV.int) 0 = some (.int a) := at_of 0 rfl
theorem cnt_split {cs : Crs} {ns : List Nt} {i : Int} {g gone : List Int} : (hld cs ns i g).length + ((lot cs (i + 1)).filter fun x => decide (x ∈ gone) && !decide (x ∈ hld cs ns i g)).length = cnt cs ns i g gone := by
  unfold cnt
  have e : (lot cs (i + 1)).filter (fun x => decide (x ∈ gone) && !decide (x ∈ hld cs ns i g)) = (lot cs (i + 1)).filter fun x => decide (x ∈ gone) && !decide (x ∈ sgn ns hold (i :: g)) := List.filter_congr fun x hx => by
    have : (x ∈ hld cs ns i g) ↔ x ∈ sgn ns hold (i :: g) := by rw [mem_hld]; exact ⟨fun z => z.2, fun z => ⟨hx, z⟩⟩
    rw [decide_eq_decide.mpr this]
  rw [e]
  unfold hld
  induction lot cs (i + 1) with
  | nil => rfl
  | cons x l ih =>
    rw [List.filter_cons, List.filter_cons, List.filter_cons]
    by_cases h1 : x ∈ sgn ns hold (i :: g) <;> by_cases h2 : x ∈ gone <;> simp [h1, h2] at ih ⊢ <;> omega
theorem cnt_law {cs : Crs} {ns : List Nt} {i : Int} {g gone : List Int} : ((lot cs (i + 1)).filter fun x => decide (x ∈ hld cs ns i g) || decide (x ∈ gone)).length = cnt cs ns i g gone := by
  unfold cnt
  congr 1
  refine List.filter_congr fun x hx => ?_
  have : (x ∈ hld cs ns i g) ↔ x ∈ sgn ns hold (i :: g) := by rw [mem_hld]; exact ⟨fun z => z.2, fun z => ⟨hx, z⟩⟩
  rw [decide_eq_decide.mpr this]
def Pre (cs : Crs) (ns : List Nt) (i : Int) (g gone : List Int) : Prop := Gv cs ns ∧ 0 ≤ i ∧ i + 1 < cs.length ∧ g.length ≤ 2
def sp_is_complete : PM.Spec := fun ps P => ∃ (nb : PV) (k f w : Int) (cs : Crs) (ns : List Nt) (i : Int) (g gone : List Int), ps = [nb, .tup (cs.map tI), .tup (ns.map ntP), .int i, tI g, tI gone] ∧ isNb k f w nb ∧ Pre cs ns i g gone ∧ P (.bl (cmpl w cs ns i g gone))
def sp_l_is_complete : PM.Spec := fun ps P => ∃ (w : Int) (cs : Crs) (ns : List Nt) (i : Int) (g gone : List Int), ps = [.int w, .tup (cs.map tI), .tup (ns.map ntP), .int i, tI g, tI gone] ∧ Pre cs ns i g gone ∧ P (.bl (cmpl w cs ns i g gone))
theorem h_is_complete (ps : List PV) (Q : PV → Prop) (h : sp_is_complete ps Q) : t_is_complete sp_holders { nx := fun _ => nxOf .cl Q, rt := Q } (startE n_is_complete.length ps) := by
  obtain ⟨nb, k, f, w, cs, ns, i, g, gone, rfl, hnb, ⟨G, i0, i1, hg⟩, h⟩ := h
  show t_is_complete _ _ [some nb, some (.tup (cs.map tI)), some (.tup (ns.map ntP)), some (.int i), some (tI g), some (tI gone), none, none]
  rw [t_is_complete_eq]
  unfold t_is_complete_a
  have hl := G.small _ (lot_mem (cs := cs) (i := i + 1) (by omega) (by omega))
  have tail : (decide (g = []) || decide (g.headD 0 ∈ lot cs i)) = true → t_is_complete_c2 sp_holders { nx := fun _ => nxOf .cl Q, rt := Q } [some nb, some (.tup (cs.map tI)), some (.tup (ns.map ntP)), some (.int i), some (tI g), some (tI gone), none, none] := fun hc => by
    unfold t_is_complete_c2
    try simp only [s_mVar0, s_mVarS, s_mVarO0, s_mVarOS, s_isObj_lst, s_isObj_dic, s_mC, s_mOp, s_mOp1, s_mB, s_mNil, s_mCons, s_mTup, s_mLst, s_mCall, s_mTB, s_mNot, s_mAnd, s_mOr, s_mAndV, s_mOrV, s_mIf, s_mYes, s_mSl, s_mNo, s_mPart, s_mLc, s_mItems, s_mRng1, s_mRng2, s_mEnum, s_mChain, s_seqT, s_seqL, s_sNext, s_sSeq, s_sIf, s_sSet, s_sRet, s_sRetN, s_sBreak, s_sCont, s_sDrop, s_sPar, s_setN0, s_setNS, s_sAsg, s_sApp, s_sAug, s_sFor, s_sSrc, s_gmN, s_gmT, s_gmCons, s_gmNil, s_wipe0, s_wipeS, s_oSub, s_oAddI, s_oAdd, s_oLt, s_oLe, s_oGt, s_oGe, s_oNeg, s_oNot, s_oMul, s_oMulW, s_oMod, s_oFdiv, s_oPow, s_oIsN, s_oNotN, s_oIsB, s_oNotB, s_isNon_int, s_isNon_non, s_isNon_bl, s_isNon_str, s_isNon_tup, s_isNon_lst, s_isNon_dic, s_oEqI, s_oNeI, s_oIxT, s_oIxL, s_oSlT, s_oSlL, s_oRevT, s_oRevL, s_oInt, s_oIntB, s_oAbs, s_oMax2, s_oMin2, s_oLen, s_plenT, s_plenL, s_plenD, s_plenS, s_oTupleL, s_oTupleT, s_oListL, s_oListT, List.set_cons_succ, List.set_cons_zero, List.append_nil, true_and, x_bl, x_int, x_some, x_addT, x_addL, x_true, x_false]
    refine ⟨cs, ns, i, g, rfl, G, i0, i1, hg, ?_⟩
    try simp only [s_mVar0, s_mVarS, s_mVarO0, s_mVarOS, s_isObj_lst, s_isObj_dic, s_mC, s_mOp, s_mOp1, s_mB, s_mNil, s_mCons, s_mTup, s_mLst, s_mCall, s_mTB, s_mNot, s_mAnd, s_mOr, s_mAndV, s_mOrV, s_mIf, s_mYes, s_mSl, s_mNo, s_mPart, s_mLc, s_mItems, s_mRng1, s_mRng2, s_mEnum, s_mChain, s_seqT, s_seqL, s_sNext, s_sSeq, s_sIf, s_sSet, s_sRet, s_sRetN, s_sBreak, s_sCont, s_sDrop, s_sPar, s_setN0, s_setNS, s_sAsg, s_sApp, s_sAug, s_sFor, s_sSrc, s_gmN, s_gmT, s_gmCons, s_gmNil, s_wipe0, s_wipeS, s_oSub, s_oAddI, s_oAdd, s_oLt, s_oLe, s_oGt, s_oGe, s_oNeg, s_oNot, s_oMul, s_oMulW, s_oMod, s_oFdiv, s_oPow, s_oIsN, s_oNotN, s_oIsB, s_oNotB, s_isNon_int, s_isNon_non, s_isNon_bl, s_isNon_str, s_isNon_tup, s_isNon_lst, s_isNon_dic, s_oEqI, s_oNeI, s_oIxT, s_oIxL, s_oSlT, s_oSlL, s_oRevT, s_oRevL, s_oInt, s_oIntB, s_oAbs, s_oMax2, s_oMin2, s_oLen, s_plenT, s_plenL, s_plenD, s_plenS, s_oTupleL, s_oTupleT, s_oListL, s_oListT, List.set_cons_succ, List.set_cons_zero, List.append_nil, true_and, x_bl, x_int, x_some, x_addT, x_addL, x_true, x_false]
    refine ⟨_, lot_at (by omega) (by omega), _, rfl, ?_⟩
    refine comp_emb (emb := PV.int) (xs := lot cs (i + 1)) (tst := fun x => decide (x ∈ gone) && !decide (x ∈ hld cs ns i g)) (f := PV.int) (fun x hx => ⟨_, fun k hk => s_gmN.mpr hk, fun Q hQ => ?_, fun _ Q hQ => ?_⟩) (by rw [List.length_nil]; exact line (by omega)) ?_
    · try simp only [s_mVar0, s_mVarS, s_mVarO0, s_mVarOS, s_isObj_lst, s_isObj_dic, s_mC, s_mOp, s_mOp1, s_mB, s_mNil, s_mCons, s_mTup, s_mLst, s_mCall, s_mTB, s_mNot, s_mAnd, s_mOr, s_mAndV, s_mOrV, s_mIf, s_mYes, s_mSl, s_mNo, s_mPart, s_mLc, s_mItems, s_mRng1, s_mRng2, s_mEnum, s_mChain, s_seqT, s_seqL, s_sNext, s_sSeq, s_sIf, s_sSet, s_sRet, s_sRetN, s_sBreak, s_sCont, s_sDrop, s_sPar, s_setN0, s_setNS, s_sAsg, s_sApp, s_sAug, s_sFor, s_sSrc, s_gmN, s_gmT, s_gmCons, s_gmNil, s_wipe0, s_wipeS, s_oSub, s_oAddI, s_oAdd, s_oLt, s_oLe, s_oGt, s_oGe, s_oNeg, s_oNot, s_oMul, s_oMulW, s_oMod, s_oFdiv, s_oPow, s_oIsN, s_oNotN, s_oIsB, s_oNotB, s_isNon_int, s_isNon_non, s_isNon_bl, s_isNon_str, s_isNon_tup, s_isNon_lst, s_isNon_dic, s_oEqI, s_oNeI, s_oIxT, s_oIxL, s_oSlT, s_oSlL, s_oRevT, s_oRevL, s_oInt, s_oIntB, s_oAbs, s_oMax2, s_oMin2, s_oLen, s_plenT, s_plenL, s_plenD, s_plenS, s_oTupleL, s_oTupleT, s_oListL, s_oListT, List.set_cons_succ, List.set_cons_zero, List.append_nil, true_and, x_bl, x_int, x_some, x_addT, x_addL, x_true, x_false]
      refine oIn_intsT ⟨_, rfl, ?_⟩
      by_cases c : x ∈ gone
      · refine ite_t (decide_eq_true c) ?_
        refine oIn_intsT ⟨_, rfl, ?_⟩
        rw [decide_eq_true c] at hQ
        exact hQ
      · refine ite_f (by rw [decide_eq_false c]; decide) ?_
        rw [decide_eq_false c] at hQ
        exact hQ
    · try simp only [s_mVar0, s_mVarS, s_mVarO0, s_mVarOS, s_isObj_lst, s_isObj_dic, s_mC, s_mOp, s_mOp1, s_mB, s_mNil, s_mCons, s_mTup, s_mLst, s_mCall, s_mTB, s_mNot, s_mAnd, s_mOr, s_mAndV, s_mOrV, s_mIf, s_mYes, s_mSl, s_mNo, s_mPart, s_mLc, s_mItems, s_mRng1, s_mRng2, s_mEnum, s_mChain, s_seqT, s_seqL, s_sNext, s_sSeq, s_sIf, s_sSet, s_sRet, s_sRetN, s_sBreak, s_sCont, s_sDrop, s_sPar, s_setN0, s_setNS, s_sAsg, s_sApp, s_sAug, s_sFor, s_sSrc, s_gmN, s_gmT, s_gmCons, s_gmNil, s_wipe0, s_wipeS, s_oSub, s_oAddI, s_oAdd, s_oLt, s_oLe, s_oGt, s_oGe, s_oNeg, s_oNot, s_oMul, s_oMulW, s_oMod, s_oFdiv, s_oPow, s_oIsN, s_oNotN, s_oIsB, s_oNotB, s_isNon_int, s_isNon_non, s_isNon_bl, s_isNon_str, s_isNon_tup, s_isNon_lst, s_isNon_dic, s_oEqI, s_oNeI, s_oIxT, s_oIxL, s_oSlT, s_oSlL, s_oRevT, s_oRevL, s_oInt, s_oIntB, s_oAbs, s_oMax2, s_oMin2, s_oLen, s_plenT, s_plenL, s_plenD, s_plenS, s_oTupleL, s_oTupleT, s_oListL, s_oListT, List.set_cons_succ, List.set_cons_zero, List.append_nil, true_and, x_bl, x_int, x_some, x_addT, x_addL, x_true, x_false]
      exact hQ
    · rw [List.nil_append]
      try simp only [s_mVar0, s_mVarS, s_mVarO0, s_mVarOS, s_isObj_lst, s_isObj_dic, s_mC, s_mOp, s_mOp1, s_mB, s_mNil, s_mCons, s_mTup, s_mLst, s_mCall, s_mTB, s_mNot, s_mAnd, s_mOr, s_mAndV, s_mOrV, s_mIf, s_mYes, s_mSl, s_mNo, s_mPart, s_mLc, s_mItems, s_mRng1, s_mRng2, s_mEnum, s_mChain, s_seqT, s_seqL, s_sNext, s_sSeq, s_sIf, s_sSet, s_sRet, s_sRetN, s_sBreak, s_sCont, s_sDrop, s_sPar, s_setN0, s_setNS, s_sAsg, s_sApp, s_sAug, s_sFor, s_sSrc, s_gmN, s_gmT, s_gmCons, s_gmNil, s_wipe0, s_wipeS, s_oSub, s_oAddI, s_oAdd, s_oLt, s_oLe, s_oGt, s_oGe, s_oNeg, s_oNot, s_oMul, s_oMulW, s_oMod, s_oFdiv, s_oPow, s_oIsN, s_oNotN, s_oIsB, s_oNotB, s_isNon_int, s_isNon_non, s_isNon_bl, s_isNon_str, s_isNon_tup, s_isNon_lst, s_isNon_dic, s_oEqI, s_oNeI, s_oIxT, s_oIxL, s_oSlT, s_oSlL, s_oRevT, s_oRevL, s_oInt, s_oIntB, s_oAbs, s_oMax2, s_oMin2, s_oLen, s_plenT, s_plenL, s_plenD, s_plenS, s_oTupleL, s_oTupleT, s_oListL, s_oListT, List.set_cons_succ, List.set_cons_zero, List.append_nil, true_and, x_bl, x_int, x_some, x_addT, x_addL, x_true, x_false]
      simp only [s_mFld]
      try simp only [s_mVar0, s_mVarS, s_mVarO0, s_mVarOS, s_isObj_lst, s_isObj_dic, s_mC, s_mOp, s_mOp1, s_mB, s_mNil, s_mCons, s_mTup, s_mLst, s_mCall, s_mTB, s_mNot, s_mAnd, s_mOr, s_mAndV, s_mOrV, s_mIf, s_mYes, s_mSl, s_mNo, s_mPart, s_mLc, s_mItems, s_mRng1, s_mRng2, s_mEnum, s_mChain, s_seqT, s_seqL, s_sNext, s_sSeq, s_sIf, s_sSet, s_sRet, s_sRetN, s_sBreak, s_sCont, s_sDrop, s_sPar, s_setN0, s_setNS, s_sAsg, s_sApp, s_sAug, s_sFor, s_sSrc, s_gmN, s_gmT, s_gmCons, s_gmNil, s_wipe0, s_wipeS, s_oSub, s_oAddI, s_oAdd, s_oLt, s_oLe, s_oGt, s_oGe, s_oNeg, s_oNot, s_oMul, s_oMulW, s_oMod, s_oFdiv, s_oPow, s_oIsN, s_oNotN, s_oIsB, s_oNotB, s_isNon_int, s_isNon_non, s_isNon_bl, s_isNon_str, s_isNon_tup, s_isNon_lst, s_isNon_dic, s_oEqI, s_oNeI, s_oIxT, s_oIxL, s_oSlT, s_oSlL, s_oRevT, s_oRevL, s_oInt, s_oIntB, s_oAbs, s_oMax2, s_oMin2, s_oLen, s_plenT, s_plenL, s_plenD, s_plenS, s_oTupleL, s_oTupleT, s_oListL, s_oListT, List.set_cons_succ, List.set_cons_zero, List.append_nil, true_and, x_bl, x_int, x_some, x_addT, x_addL, x_true, x_false]
      obtain ⟨C, dx, rfl⟩ := hnb
      refine ⟨C, dx, _, _, _, rfl, rfl, ?_⟩
      try simp only [s_mVar0, s_mVarS, s_mVarO0, s_mVarOS, s_isObj_lst, s_isObj_dic, s_mC, s_mOp, s_mOp1, s_mB, s_mNil, s_mCons, s_mTup, s_mLst, s_mCall, s_mTB, s_mNot, s_mAnd, s_mOr, s_mAndV, s_mOrV, s_mIf, s_mYes, s_mSl, s_mNo, s_mPart, s_mLc, s_mItems, s_mRng1, s_mRng2, s_mEnum, s_mChain, s_seqT, s_seqL, s_sNext, s_sSeq, s_sIf, s_sSet, s_sRet, s_sRetN, s_sBreak, s_sCont, s_sDrop, s_sPar, s_setN0, s_setNS, s_sAsg, s_sApp, s_sAug, s_sFor, s_sSrc, s_gmN, s_gmT, s_gmCons, s_gmNil, s_wipe0, s_wipeS, s_oSub, s_oAddI, s_oAdd, s_oLt, s_oLe, s_oGt, s_oGe, s_oNeg, s_oNot, s_oMul, s_oMulW, s_oMod, s_oFdiv, s_oPow, s_oIsN, s_oNotN, s_oIsB, s_oNotB, s_isNon_int, s_isNon_non, s_isNon_bl, s_isNon_str, s_isNon_tup, s_isNon_lst, s_isNon_dic, s_oEqI, s_oNeI, s_oIxT, s_oIxL, s_oSlT, s_oSlL, s_oRevT, s_oRevL, s_oInt, s_oIntB, s_oAbs, s_oMax2, s_oMin2, s_oLen, s_plenT, s_plenL, s_plenD, s_plenS, s_oTupleL, s_oTupleT, s_oListL, s_oListT, List.set_cons_succ, List.set_cons_zero, List.append_nil, true_and, x_bl, x_int, x_some, x_addT, x_addL, x_true, x_false]
      unfold cmpl at h
      rw [hc, Bool.true_and] at h
      have e := cnt_split (cs := cs) (ns := ns) (i := i) (g := g) (gone := gone)
      rw [List.length_map, List.length_map, ← Int.natCast_add, e]
      exact h
  try simp only [s_mVar0, s_mVarS, s_mVarO0, s_mVarOS, s_isObj_lst, s_isObj_dic, s_mC, s_mOp, s_mOp1, s_mB, s_mNil, s_mCons, s_mTup, s_mLst, s_mCall, s_mTB, s_mNot, s_mAnd, s_mOr, s_mAndV, s_mOrV, s_mIf, s_mYes, s_mSl, s_mNo, s_mPart, s_mLc, s_mItems, s_mRng1, s_mRng2, s_mEnum, s_mChain, s_seqT, s_seqL, s_sNext, s_sSeq, s_sIf, s_sSet, s_sRet, s_sRetN, s_sBreak, s_sCont, s_sDrop, s_sPar, s_setN0, s_setNS, s_sAsg, s_sApp, s_sAug, s_sFor, s_sSrc, s_gmN, s_gmT, s_gmCons, s_gmNil, s_wipe0, s_wipeS, s_oSub, s_oAddI, s_oAdd, s_oLt, s_oLe, s_oGt, s_oGe, s_oNeg, s_oNot, s_oMul, s_oMulW, s_oMod, s_oFdiv, s_oPow, s_oIsN, s_oNotN, s_oIsB, s_oNotB, s_isNon_int, s_isNon_non, s_isNon_bl, s_isNon_str, s_isNon_tup, s_isNon_lst, s_isNon_dic, s_oEqI, s_oNeI, s_oIxT, s_oIxL, s_oSlT, s_oSlL, s_oRevT, s_oRevL, s_oInt, s_oIntB, s_oAbs, s_oMax2, s_oMin2, s_oLen, s_plenT, s_plenL, s_plenD, s_plenS, s_oTupleL, s_oTupleT, s_oListL, s_oListT, List.set_cons_succ, List.set_cons_zero, List.append_nil, true_and, x_bl, x_int, x_some, x_addT, x_addL, x_true, x_false]
  refine ⟨Nat.zero_le _, oNe_unit ⟨_, rfl, ?_⟩⟩
  cases g with
  | nil => exact tail rfl
  | cons a r =>
    refine ite_t rfl ?_
    refine ⟨_, tI_at0, _, lot_at (by omega) (by omega), ?_⟩
    refine oIn_intsT ⟨_, rfl, ?_⟩
    by_cases c : a ∈ lot cs i
    · refine ite_f (by simp [c]) ?_
      exact tail (by simp [c])
    · refine ite_t (by simp [c]) ?_
      have : cmpl w cs ns i (a :: r) gone = false := by unfold cmpl; simp [c]
      rw [this] at h
      exact h
theorem h_l_is_complete (ps : List PV) (Q : PV → Prop) (h : sp_l_is_complete ps Q) : t_l_is_complete sp_l_holders { nx := fun _ => nxOf .cl Q, rt := Q } (startE n_l_is_complete.length ps) := by
  obtain ⟨w, cs, ns, i, g, gone, rfl, ⟨G, i0, i1, hg⟩, h⟩ := h
  show t_l_is_complete _ _ [some (.int w), some (.tup (cs.map tI)), some (.tup (ns.map ntP)), some (.int i), some (tI g), some (tI gone), none, none]
  rw [t_l_is_complete_eq]
  unfold t_l_is_complete_a
  have hl := G.small _ (lot_mem (cs := cs) (i := i + 1) (by omega) (by omega))
  have tail : (decide (g = []) || decide (g.headD 0 ∈ lot cs i)) = true → t_l_is_complete_c2 sp_holders { nx := fun _ => nxOf .cl Q, rt := Q } [some (.int w), some (.tup (cs.map tI)), some (.tup (ns.map ntP)), some (.int i), some (tI g), some (tI gone), none, none] := fun hc => by
    unfold t_l_is_complete_c2
    try simp only [s_mVar0, s_mVarS, s_mVarO0, s_mVarOS, s_isObj_lst, s_isObj_dic, s_mC, s_mOp, s_mOp1, s_mB, s_mNil, s_mCons, s_mTup, s_mLst, s_mCall, s_mTB, s_mNot, s_mAnd, s_mOr, s_mAndV, s_mOrV, s_mIf, s_mYes, s_mSl, s_mNo, s_mPart, s_mLc, s_mItems, s_mRng1, s_mRng2, s_mEnum, s_mChain, s_seqT, s_seqL, s_sNext, s_sSeq, s_sIf, s_sSet, s_sRet, s_sRetN, s_sBreak, s_sCont, s_sDrop, s_sPar, s_setN0, s_setNS, s_sAsg, s_sApp, s_sAug, s_sFor, s_sSrc, s_gmN, s_gmT, s_gmCons, s_gmNil, s_wipe0, s_wipeS, s_oSub, s_oAddI, s_oAdd, s_oLt, s_oLe, s_oGt, s_oGe, s_oNeg, s_oNot, s_oMul, s_oMulW, s_oMod, s_oFdiv, s_oPow, s_oIsN, s_oNotN, s_oIsB, s_oNotB, s_isNon_int, s_isNon_non, s_isNon_bl, s_isNon_str, s_isNon_tup, s_isNon_lst, s_isNon_dic, s_oEqI, s_oNeI, s_oIxT, s_oIxL, s_oSlT, s_oSlL, s_oRevT, s_oRevL, s_oInt, s_oIntB, s_oAbs, s_oMax2, s_oMin2, s_oLen, s_plenT, s_plenL, s_plenD, s_plenS, s_oTupleL, s_oTupleT, s_oListL, s_oListT, List.set_cons_succ, List.set_cons_zero, List.append_nil, true_and, x_bl, x_int, x_some, x_addT, x_addL, x_true, x_false]
    refine ⟨cs, ns, i, g, rfl, G, i0, i1, hg, ?_⟩
    try simp only [s_mVar0, s_mVarS, s_mVarO0, s_mVarOS, s_isObj_lst, s_isObj_dic, s_mC, s_mOp, s_mOp1, s_mB, s_mNil, s_mCons, s_mTup, s_mLst, s_mCall, s_mTB, s_mNot, s_mAnd, s_mOr, s_mAndV, s_mOrV, s_mIf, s_mYes, s_mSl, s_mNo, s_mPart, s_mLc, s_mItems, s_mRng1, s_mRng2, s_mEnum, s_mChain, s_seqT, s_seqL, s_sNext, s_sSeq, s_sIf, s_sSet, s_sRet, s_sRetN, s_sBreak, s_sCont, s_sDrop, s_sPar, s_setN0, s_setNS, s_sAsg, s_sApp, s_sAug, s_sFor, s_sSrc, s_gmN, s_gmT, s_gmCons, s_gmNil, s_wipe0, s_wipeS, s_oSub, s_oAddI, s_oAdd, s_oLt, s_oLe, s_oGt, s_oGe, s_oNeg, s_oNot, s_oMul, s_oMulW, s_oMod, s_oFdiv, s_oPow, s_oIsN, s_oNotN, s_oIsB, s_oNotB, s_isNon_int, s_isNon_non, s_isNon_bl, s_isNon_str, s_isNon_tup, s_isNon_lst, s_isNon_dic, s_oEqI, s_oNeI, s_oIxT, s_oIxL, s_oSlT, s_oSlL, s_oRevT, s_oRevL, s_oInt, s_oIntB, s_oAbs, s_oMax2, s_oMin2, s_oLen, s_plenT, s_plenL, s_plenD, s_plenS, s_oTupleL, s_oTupleT, s_oListL, s_oListT, List.set_cons_succ, List.set_cons_zero, List.append_nil, true_and, x_bl, x_int, x_some, x_addT, x_addL, x_true, x_false]
    refine ⟨_, lot_at (by omega) (by omega), _, rfl, ?_⟩
    refine comp_emb (emb := PV.int) (xs := lot cs (i + 1)) (tst := fun x => decide (x ∈ hld cs ns i g) || decide (x ∈ gone)) (f := PV.int) (fun x hx => ⟨_, fun k hk => s_gmN.mpr hk, fun Q hQ => ?_, fun _ Q hQ => ?_⟩) (by rw [List.length_nil]; exact line (by omega)) ?_
    · try simp only [s_mVar0, s_mVarS, s_mVarO0, s_mVarOS, s_isObj_lst, s_isObj_dic, s_mC, s_mOp, s_mOp1, s_mB, s_mNil, s_mCons, s_mTup, s_mLst, s_mCall, s_mTB, s_mNot, s_mAnd, s_mOr, s_mAndV, s_mOrV, s_mIf, s_mYes, s_mSl, s_mNo, s_mPart, s_mLc, s_mItems, s_mRng1, s_mRng2, s_mEnum, s_mChain, s_seqT, s_seqL, s_sNext, s_sSeq, s_sIf, s_sSet, s_sRet, s_sRetN, s_sBreak, s_sCont, s_sDrop, s_sPar, s_setN0, s_setNS, s_sAsg, s_sApp, s_sAug, s_sFor, s_sSrc, s_gmN, s_gmT, s_gmCons, s_gmNil, s_wipe0, s_wipeS, s_oSub, s_oAddI, s_oAdd, s_oLt, s_oLe, s_oGt, s_oGe, s_oNeg, s_oNot, s_oMul, s_oMulW, s_oMod, s_oFdiv, s_oPow, s_oIsN, s_oNotN, s_oIsB, s_oNotB, s_isNon_int, s_isNon_non, s_isNon_bl, s_isNon_str, s_isNon_tup, s_isNon_lst, s_isNon_dic, s_oEqI, s_oNeI, s_oIxT, s_oIxL, s_oSlT, s_oSlL, s_oRevT, s_oRevL, s_oInt, s_oIntB, s_oAbs, s_oMax2, s_oMin2, s_oLen, s_plenT, s_plenL, s_plenD, s_plenS, s_oTupleL, s_oTupleT, s_oListL, s_oListT, List.set_cons_succ, List.set_cons_zero, List.append_nil, true_and, x_bl, x_int, x_some, x_addT, x_addL, x_true, x_false]
      refine oIn_intsT ⟨_, rfl, ?_⟩
      by_cases c : x ∈ hld cs ns i g
      · refine ite_t (decide_eq_true c) ?_
        rw [decide_eq_true c] at hQ
        exact hQ
      · refine ite_f (by rw [decide_eq_false c]; decide) ?_
        refine oIn_intsT ⟨_, rfl, ?_⟩
        rw [decide_eq_false c] at hQ
        exact hQ
    · try simp only [s_mVar0, s_mVarS, s_mVarO0, s_mVarOS, s_isObj_lst, s_isObj_dic, s_mC, s_mOp, s_mOp1, s_mB, s_mNil, s_mCons, s_mTup, s_mLst, s_mCall, s_mTB, s_mNot, s_mAnd, s_mOr, s_mAndV, s_mOrV, s_mIf, s_mYes, s_mSl, s_mNo, s_mPart, s_mLc, s_mItems, s_mRng1, s_mRng2, s_mEnum, s_mChain, s_seqT, s_seqL, s_sNext, s_sSeq, s_sIf, s_sSet, s_sRet, s_sRetN, s_sBreak, s_sCont, s_sDrop, s_sPar, s_setN0, s_setNS, s_sAsg, s_sApp, s_sAug, s_sFor, s_sSrc, s_gmN, s_gmT, s_gmCons, s_gmNil, s_wipe0, s_wipeS, s_oSub, s_oAddI, s_oAdd, s_oLt, s_oLe, s_oGt, s_oGe, s_oNeg, s_oNot, s_oMul, s_oMulW, s_oMod, s_oFdiv, s_oPow, s_oIsN, s_oNotN, s_oIsB, s_oNotB, s_isNon_int, s_isNon_non, s_isNon_bl, s_isNon_str, s_isNon_tup, s_isNon_lst, s_isNon_dic, s_oEqI, s_oNeI, s_oIxT, s_oIxL, s_oSlT, s_oSlL, s_oRevT, s_oRevL, s_oInt, s_oIntB, s_oAbs, s_oMax2, s_oMin2, s_oLen, s_plenT, s_plenL, s_plenD, s_plenS, s_oTupleL, s_oTupleT, s_oListL, s_oListT, List.set_cons_succ, List.set_cons_zero, List.append_nil, true_and, x_bl, x_int, x_some, x_addT, x_addL, x_true, x_false]
      exact hQ
    · rw [List.nil_append]
      try simp only [s_mVar0, s_mVarS, s_mVarO0, s_mVarOS, s_isObj_lst, s_isObj_dic, s_mC, s_mOp, s_mOp1, s_mB, s_mNil, s_mCons, s_mTup, s_mLst, s_mCall, s_mTB, s_mNot, s_mAnd, s_mOr, s_mAndV, s_mOrV, s_mIf, s_mYes, s_mSl, s_mNo, s_mPart, s_mLc, s_mItems, s_mRng1, s_mRng2, s_mEnum, s_mChain, s_seqT, s_seqL, s_sNext, s_sSeq, s_sIf, s_sSet, s_sRet, s_sRetN, s_sBreak, s_sCont, s_sDrop, s_sPar, s_setN0, s_setNS, s_sAsg, s_sApp, s_sAug, s_sFor, s_sSrc, s_gmN, s_gmT, s_gmCons, s_gmNil, s_wipe0, s_wipeS, s_oSub, s_oAddI, s_oAdd, s_oLt, s_oLe, s_oGt, s_oGe, s_oNeg, s_oNot, s_oMul, s_oMulW, s_oMod, s_oFdiv, s_oPow, s_oIsN, s_oNotN, s_oIsB, s_oNotB, s_isNon_int, s_isNon_non, s_isNon_bl, s_isNon_str, s_isNon_tup, s_isNon_lst, s_isNon_dic, s_oEqI, s_oNeI, s_oIxT, s_oIxL, s_oSlT, s_oSlL, s_oRevT, s_oRevL, s_oInt, s_oIntB, s_oAbs, s_oMax2, s_oMin2, s_oLen, s_plenT, s_plenL, s_plenD, s_plenS, s_oTupleL, s_oTupleT, s_oListL, s_oListT, List.set_cons_succ, List.set_cons_zero, List.append_nil, true_and, x_bl, x_int, x_some, x_addT, x_addL, x_true, x_false]
      unfold cmpl at h
      rw [hc, Bool.true_and, ← cnt_law] at h
      rw [List.length_map]
      exact h
  try simp only [s_mVar0, s_mVarS, s_mVarO0, s_mVarOS, s_isObj_lst, s_isObj_dic, s_mC, s_mOp, s_mOp1, s_mB, s_mNil, s_mCons, s_mTup, s_mLst, s_mCall, s_mTB, s_mNot, s_mAnd, s_mOr, s_mAndV, s_mOrV, s_mIf, s_mYes, s_mSl, s_mNo, s_mPart, s_mLc, s_mItems, s_mRng1, s_mRng2, s_mEnum, s_mChain, s_seqT, s_seqL, s_sNext, s_sSeq, s_sIf, s_sSet, s_sRet, s_sRetN, s_sBreak, s_sCont, s_sDrop, s_sPar, s_setN0, s_setNS, s_sAsg, s_sApp, s_sAug, s_sFor, s_sSrc, s_gmN, s_gmT, s_gmCons, s_gmNil, s_wipe0, s_wipeS, s_oSub, s_oAddI, s_oAdd, s_oLt, s_oLe, s_oGt, s_oGe, s_oNeg, s_oNot, s_oMul, s_oMulW, s_oMod, s_oFdiv, s_oPow, s_oIsN, s_oNotN, s_oIsB, s_oNotB, s_isNon_int, s_isNon_non, s_isNon_bl, s_isNon_str, s_isNon_tup, s_isNon_lst, s_isNon_dic, s_oEqI, s_oNeI, s_oIxT, s_oIxL, s_oSlT, s_oSlL, s_oRevT, s_oRevL, s_oInt, s_oIntB, s_oAbs, s_oMax2, s_oMin2, s_oLen, s_plenT, s_plenL, s_plenD, s_plenS, s_oTupleL, s_oTupleT, s_oListL, s_oListT, List.set_cons_succ, List.set_cons_zero, List.append_nil, true_and, x_bl, x_int, x_some, x_addT, x_addL, x_true, x_false]
  rw [List.length_map]
  cases g with
  | nil => exact tail rfl
  | cons a r =>
    refine ite_t (decide_eq_true (by simp)) ?_
    refine ⟨_, tI_at0, _, lot_at (by omega) (by omega), ?_⟩
    refine oIn_intsT ⟨_, rfl, ?_⟩
    by_cases c : a ∈ lot cs i
    · refine ite_f (by simp [c]) ?_
      exact tail (by simp [c])
    · refine ite_t (by simp [c]) ?_
      have : cmpl w cs ns i (a :: r) gone = false := by unfold cmpl; simp [c]
      rw [this] at h
      exact h
/-! ### wiped -/
def wpd (cs : Crs) (ns : List Nt) (i : Int) : List Int := (lot cs i).filter fun h => decide (h ∈ sgn ns wiped [i])
def sp_wiped_by : PM.Spec := fun ps P => ∃ (cs : Crs) (ns : List Nt) (i : Int), ps = [.tup (cs.map tI), .tup (ns.map ntP), .int i] ∧ Gv cs ns ∧ 0 ≤ i ∧ i < cs.length ∧ P (tI (wpd cs ns i))
theorem h_wiped_by (ps : List PV) (Q : PV → Prop) (h : sp_wiped_by ps Q) : t_wiped_by { nx := fun _ => nxOf .cl Q, rt := Q } (startE n_wiped_by.length ps) := by
  obtain ⟨cs, ns, i, rfl, G, i0, i1, h⟩ := h
  show t_wiped_by _ [some (.tup (cs.map tI)), some (.tup (ns.map ntP)), some (.int i), none, none, none]
  unfold t_wiped_by
  try simp only [s_mVar0, s_mVarS, s_mVarO0, s_mVarOS, s_isObj_lst, s_isObj_dic, s_mC, s_mOp, s_mOp1, s_mB, s_mNil, s_mCons, s_mTup, s_mLst, s_mCall, s_mTB, s_mNot, s_mAnd, s_mOr, s_mAndV, s_mOrV, s_mIf, s_mYes, s_mSl, s_mNo, s_mPart, s_mLc, s_mItems, s_mRng1, s_mRng2, s_mEnum, s_mChain, s_seqT, s_seqL, s_sNext, s_sSeq, s_sIf, s_sSet, s_sRet, s_sRetN, s_sBreak, s_sCont, s_sDrop, s_sPar, s_setN0, s_setNS, s_sAsg, s_sApp, s_sAug, s_sFor, s_sSrc, s_gmN, s_gmT, s_gmCons, s_gmNil, s_wipe0, s_wipeS, s_oSub, s_oAddI, s_oAdd, s_oLt, s_oLe, s_oGt, s_oGe, s_oNeg, s_oNot, s_oMul, s_oMulW, s_oMod, s_oFdiv, s_oPow, s_oIsN, s_oNotN, s_oIsB, s_oNotB, s_isNon_int, s_isNon_non, s_isNon_bl, s_isNon_str, s_isNon_tup, s_isNon_lst, s_isNon_dic, s_oEqI, s_oNeI, s_oIxT, s_oIxL, s_oSlT, s_oSlL, s_oRevT, s_oRevL, s_oInt, s_oIntB, s_oAbs, s_oMax2, s_oMin2, s_oLen, s_plenT, s_plenL, s_plenD, s_plenS, s_oTupleL, s_oTupleT, s_oListL, s_oListT, List.set_cons_succ, List.set_cons_zero, List.append_nil, true_and, x_bl, x_int, x_some, x_addT, x_addL, x_true, x_false]
  simp only [s_mSc]
  try simp only [s_mVar0, s_mVarS, s_mVarO0, s_mVarOS, s_isObj_lst, s_isObj_dic, s_mC, s_mOp, s_mOp1, s_mB, s_mNil, s_mCons, s_mTup, s_mLst, s_mCall, s_mTB, s_mNot, s_mAnd, s_mOr, s_mAndV, s_mOrV, s_mIf, s_mYes, s_mSl, s_mNo, s_mPart, s_mLc, s_mItems, s_mRng1, s_mRng2, s_mEnum, s_mChain, s_seqT, s_seqL, s_sNext, s_sSeq, s_sIf, s_sSet, s_sRet, s_sRetN, s_sBreak, s_sCont, s_sDrop, s_sPar, s_setN0, s_setNS, s_sAsg, s_sApp, s_sAug, s_sFor, s_sSrc, s_gmN, s_gmT, s_gmCons, s_gmNil, s_wipe0, s_wipeS, s_oSub, s_oAddI, s_oAdd, s_oLt, s_oLe, s_oGt, s_oGe, s_oNeg, s_oNot, s_oMul, s_oMulW, s_oMod, s_oFdiv, s_oPow, s_oIsN, s_oNotN, s_oIsB, s_oNotB, s_isNon_int, s_isNon_non, s_isNon_bl, s_isNon_str, s_isNon_tup, s_isNon_lst, s_isNon_dic, s_oEqI, s_oNeI, s_oIxT, s_oIxL, s_oSlT, s_oSlL, s_oRevT, s_oRevL, s_oInt, s_oIntB, s_oAbs, s_oMax2, s_oMin2, s_oLen, s_plenT, s_plenL, s_plenD, s_plenS, s_oTupleL, s_oTupleT, s_oListL, s_oListT, List.set_cons_succ, List.set_cons_zero, List.append_nil, true_and, x_bl, x_int, x_some, x_addT, x_addL, x_true, x_false]
  have h1 := G.few
  have h2 := G.small _ (lot_mem (cs := cs) (i := i) (by omega) (by omega))
  refine sgn_sk (k := wiped) (r := [i]) h1 (fun n hn Q hQ => ?_) (fun n hn Q hQ => ?_) ?_
  · unfold ntP
    try simp only [s_mVar0, s_mVarS, s_mVarO0, s_mVarOS, s_isObj_lst, s_isObj_dic, s_mC, s_mOp, s_mOp1, s_mB, s_mNil, s_mCons, s_mTup, s_mLst, s_mCall, s_mTB, s_mNot, s_mAnd, s_mOr, s_mAndV, s_mOrV, s_mIf, s_mYes, s_mSl, s_mNo, s_mPart, s_mLc, s_mItems, s_mRng1, s_mRng2, s_mEnum, s_mChain, s_seqT, s_seqL, s_sNext, s_sSeq, s_sIf, s_sSet, s_sRet, s_sRetN, s_sBreak, s_sCont, s_sDrop, s_sPar, s_setN0, s_setNS, s_sAsg, s_sApp, s_sAug, s_sFor, s_sSrc, s_gmN, s_gmT, s_gmCons, s_gmNil, s_wipe0, s_wipeS, s_oSub, s_oAddI, s_oAdd, s_oLt, s_oLe, s_oGt, s_oGe, s_oNeg, s_oNot, s_oMul, s_oMulW, s_oMod, s_oFdiv, s_oPow, s_oIsN, s_oNotN, s_oIsB, s_oNotB, s_isNon_int, s_isNon_non, s_isNon_bl, s_isNon_str, s_isNon_tup, s_isNon_lst, s_isNon_dic, s_oEqI, s_oNeI, s_oIxT, s_oIxL, s_oSlT, s_oSlL, s_oRevT, s_oRevL, s_oInt, s_oIntB, s_oAbs, s_oMax2, s_oMin2, s_oLen, s_plenT, s_plenL, s_plenD, s_plenS, s_oTupleL, s_oTupleT, s_oListL, s_oListT, List.set_cons_succ, List.set_cons_zero, List.append_nil, true_and, x_bl, x_int, x_some, x_addT, x_addL, x_true, x_false]
    rw [cut_nt]
    refine ⟨line (by simp), ⟨dn n.2.1 n.2.2, dn wiped [i], toD_dn (s := n.2.1) (l := n.2.2), toD_dn (s := wiped) (l := [i]), shaped_dn (G.kd n hn).ok, shaped_dn ok_wiped, _, rfl, ?_⟩⟩
    rw [eqv_dn]
    exact hQ
  · unfold ntP
    try simp only [s_mVar0, s_mVarS, s_mVarO0, s_mVarOS, s_isObj_lst, s_isObj_dic, s_mC, s_mOp, s_mOp1, s_mB, s_mNil, s_mCons, s_mTup, s_mLst, s_mCall, s_mTB, s_mNot, s_mAnd, s_mOr, s_mAndV, s_mOrV, s_mIf, s_mYes, s_mSl, s_mNo, s_mPart, s_mLc, s_mItems, s_mRng1, s_mRng2, s_mEnum, s_mChain, s_seqT, s_seqL, s_sNext, s_sSeq, s_sIf, s_sSet, s_sRet, s_sRetN, s_sBreak, s_sCont, s_sDrop, s_sPar, s_setN0, s_setNS, s_sAsg, s_sApp, s_sAug, s_sFor, s_sSrc, s_gmN, s_gmT, s_gmCons, s_gmNil, s_wipe0, s_wipeS, s_oSub, s_oAddI, s_oAdd, s_oLt, s_oLe, s_oGt, s_oGe, s_oNeg, s_oNot, s_oMul, s_oMulW, s_oMod, s_oFdiv, s_oPow, s_oIsN, s_oNotN, s_oIsB, s_oNotB, s_isNon_int, s_isNon_non, s_isNon_bl, s_isNon_str, s_isNon_tup, s_isNon_lst, s_isNon_dic, s_oEqI, s_oNeI, s_oIxT, s_oIxL, s_oSlT, s_oSlL, s_oRevT, s_oRevL, s_oInt, s_oIntB, s_oAbs, s_oMax2, s_oMin2, s_oLen, s_plenT, s_plenL, s_plenD, s_plenS, s_oTupleL, s_oTupleT, s_oListL, s_oListT, List.set_cons_succ, List.set_cons_zero, List.append_nil, true_and, x_bl, x_int, x_some, x_addT, x_addL, x_true, x_false]
    exact ⟨_, nt0, hQ⟩
  try simp only [s_mVar0, s_mVarS, s_mVarO0, s_mVarOS, s_isObj_lst, s_isObj_dic, s_mC, s_mOp, s_mOp1, s_mB, s_mNil, s_mCons, s_mTup, s_mLst, s_mCall, s_mTB, s_mNot, s_mAnd, s_mOr, s_mAndV, s_mOrV, s_mIf, s_mYes, s_mSl, s_mNo, s_mPart, s_mLc, s_mItems, s_mRng1, s_mRng2, s_mEnum, s_mChain, s_seqT, s_seqL, s_sNext, s_sSeq, s_sIf, s_sSet, s_sRet, s_sRetN, s_sBreak, s_sCont, s_sDrop, s_sPar, s_setN0, s_setNS, s_sAsg, s_sApp, s_sAug, s_sFor, s_sSrc, s_gmN, s_gmT, s_gmCons, s_gmNil, s_wipe0, s_wipeS, s_oSub, s_oAddI, s_oAdd, s_oLt, s_oLe, s_oGt, s_oGe, s_oNeg, s_oNot, s_oMul, s_oMulW, s_oMod, s_oFdiv, s_oPow, s_oIsN, s_oNotN, s_oIsB, s_oNotB, s_isNon_int, s_isNon_non, s_isNon_bl, s_isNon_str, s_isNon_tup, s_isNon_lst, s_isNon_dic, s_oEqI, s_oNeI, s_oIxT, s_oIxL, s_oSlT, s_oSlL, s_oRevT, s_oRevL, s_oInt, s_oIntB, s_oAbs, s_oMax2, s_oMin2, s_oLen, s_plenT, s_plenL, s_plenD, s_plenS, s_oTupleL, s_oTupleT, s_oListL, s_oListT, List.set_cons_succ, List.set_cons_zero, List.append_nil, true_and, x_bl, x_int, x_some, x_addT, x_addL, x_true, x_false]
  refine ⟨_, lot_at (by omega) (by omega), _, rfl, ?_⟩
  refine comp_emb (emb := PV.int) (xs := lot cs i) (tst := fun x => decide (x ∈ sgn ns wiped [i])) (f := PV.int) (fun x hx => ⟨_, fun k hk => s_gmN.mpr hk, fun Q hQ => ?_, fun _ Q hQ => ?_⟩) (by rw [List.length_nil]; exact line (by omega)) ?_
  · try simp only [s_mVar0, s_mVarS, s_mVarO0, s_mVarOS, s_isObj_lst, s_isObj_dic, s_mC, s_mOp, s_mOp1, s_mB, s_mNil, s_mCons, s_mTup, s_mLst, s_mCall, s_mTB, s_mNot, s_mAnd, s_mOr, s_mAndV, s_mOrV, s_mIf, s_mYes, s_mSl, s_mNo, s_mPart, s_mLc, s_mItems, s_mRng1, s_mRng2, s_mEnum, s_mChain, s_seqT, s_seqL, s_sNext, s_sSeq, s_sIf, s_sSet, s_sRet, s_sRetN, s_sBreak, s_sCont, s_sDrop, s_sPar, s_setN0, s_setNS, s_sAsg, s_sApp, s_sAug, s_sFor, s_sSrc, s_gmN, s_gmT, s_gmCons, s_gmNil, s_wipe0, s_wipeS, s_oSub, s_oAddI, s_oAdd, s_oLt, s_oLe, s_oGt, s_oGe, s_oNeg, s_oNot, s_oMul, s_oMulW, s_oMod, s_oFdiv, s_oPow, s_oIsN, s_oNotN, s_oIsB, s_oNotB, s_isNon_int, s_isNon_non, s_isNon_bl, s_isNon_str, s_isNon_tup, s_isNon_lst, s_isNon_dic, s_oEqI, s_oNeI, s_oIxT, s_oIxL, s_oSlT, s_oSlL, s_oRevT, s_oRevL, s_oInt, s_oIntB, s_oAbs, s_oMax2, s_oMin2, s_oLen, s_plenT, s_plenL, s_plenD, s_plenS, s_oTupleL, s_oTupleT, s_oListL, s_oListT, List.set_cons_succ, List.set_cons_zero, List.append_nil, true_and, x_bl, x_int, x_some, x_addT, x_addL, x_true, x_false]
    simp only [s_oInS]
    exact ⟨_, rfl, hQ⟩
  · try simp only [s_mVar0, s_mVarS, s_mVarO0, s_mVarOS, s_isObj_lst, s_isObj_dic, s_mC, s_mOp, s_mOp1, s_mB, s_mNil, s_mCons, s_mTup, s_mLst, s_mCall, s_mTB, s_mNot, s_mAnd, s_mOr, s_mAndV, s_mOrV, s_mIf, s_mYes, s_mSl, s_mNo, s_mPart, s_mLc, s_mItems, s_mRng1, s_mRng2, s_mEnum, s_mChain, s_seqT, s_seqL, s_sNext, s_sSeq, s_sIf, s_sSet, s_sRet, s_sRetN, s_sBreak, s_sCont, s_sDrop, s_sPar, s_setN0, s_setNS, s_sAsg, s_sApp, s_sAug, s_sFor, s_sSrc, s_gmN, s_gmT, s_gmCons, s_gmNil, s_wipe0, s_wipeS, s_oSub, s_oAddI, s_oAdd, s_oLt, s_oLe, s_oGt, s_oGe, s_oNeg, s_oNot, s_oMul, s_oMulW, s_oMod, s_oFdiv, s_oPow, s_oIsN, s_oNotN, s_oIsB, s_oNotB, s_isNon_int, s_isNon_non, s_isNon_bl, s_isNon_str, s_isNon_tup, s_isNon_lst, s_isNon_dic, s_oEqI, s_oNeI, s_oIxT, s_oIxL, s_oSlT, s_oSlL, s_oRevT, s_oRevL, s_oInt, s_oIntB, s_oAbs, s_oMax2, s_oMin2, s_oLen, s_plenT, s_plenL, s_plenD, s_plenS, s_oTupleL, s_oTupleT, s_oListL, s_oListT, List.set_cons_succ, List.set_cons_zero, List.append_nil, true_and, x_bl, x_int, x_some, x_addT, x_addL, x_true, x_false]
    exact hQ
  rw [List.nil_append]
  try simp only [s_mVar0, s_mVarS, s_mVarO0, s_mVarOS, s_isObj_lst, s_isObj_dic, s_mC, s_mOp, s_mOp1, s_mB, s_mNil, s_mCons, s_mTup, s_mLst, s_mCall, s_mTB, s_mNot, s_mAnd, s_mOr, s_mAndV, s_mOrV, s_mIf, s_mYes, s_mSl, s_mNo, s_mPart, s_mLc, s_mItems, s_mRng1, s_mRng2, s_mEnum, s_mChain, s_seqT, s_seqL, s_sNext, s_sSeq, s_sIf, s_sSet, s_sRet, s_sRetN, s_sBreak, s_sCont, s_sDrop, s_sPar, s_setN0, s_setNS, s_sAsg, s_sApp, s_sAug, s_sFor, s_sSrc, s_gmN, s_gmT, s_gmCons, s_gmNil, s_wipe0, s_wipeS, s_oSub, s_oAddI, s_oAdd, s_oLt, s_oLe, s_oGt, s_oGe, s_oNeg, s_oNot, s_oMul, s_oMulW, s_oMod, s_oFdiv, s_oPow, s_oIsN, s_oNotN, s_oIsB, s_oNotB, s_isNon_int, s_isNon_non, s_isNon_bl, s_isNon_str, s_isNon_tup, s_isNon_lst, s_isNon_dic, s_oEqI, s_oNeI, s_oIxT, s_oIxL, s_oSlT, s_oSlL, s_oRevT, s_oRevL, s_oInt, s_oIntB, s_oAbs, s_oMax2, s_oMin2, s_oLen, s_plenT, s_plenL, s_plenD, s_plenS, s_oTupleL, s_oTupleT, s_oListL, s_oListT, List.set_cons_succ, List.set_cons_zero, List.append_nil, true_and, x_bl, x_int, x_some, x_addT, x_addL, x_true, x_false]
  exact h
def minI (a b : Int) : Int := if b < a then b else a
def sp_most_keepers : PM.Spec := fun ps P => ∃ (nb : PV) (k f w : Int) (cs : Crs) (ns : List Nt) (i : Int), ps = [nb, .tup (cs.map tI), .tup (ns.map ntP), .int i] ∧ isNb k f w nb ∧ Gv cs ns ∧ 0 ≤ i ∧ i < cs.length ∧ P (.int (k - (wpd cs ns i).length + minI f (wpd cs ns i).length))
theorem h_most_keepers (ps : List PV) (Q : PV → Prop) (h : sp_most_keepers ps Q) : t_most_keepers sp_wiped_by { nx := fun _ => nxOf .cl Q, rt := Q } (startE n_most_keepers.length ps) := by
  obtain ⟨nb, k, f, w, cs, ns, i, rfl, ⟨C, dx, rfl⟩, G, i0, i1, h⟩ := h
  show t_most_keepers _ _ [some (.obj C dx nmf [.int k, .int f, .int 0, .int 1, .int 1, .int w]), some (.tup (cs.map tI)), some (.tup (ns.map ntP)), some (.int i), none]
  unfold t_most_keepers
  try simp only [s_mVar0, s_mVarS, s_mVarO0, s_mVarOS, s_isObj_lst, s_isObj_dic, s_mC, s_mOp, s_mOp1, s_mB, s_mNil, s_mCons, s_mTup, s_mLst, s_mCall, s_mTB, s_mNot, s_mAnd, s_mOr, s_mAndV, s_mOrV, s_mIf, s_mYes, s_mSl, s_mNo, s_mPart, s_mLc, s_mItems, s_mRng1, s_mRng2, s_mEnum, s_mChain, s_seqT, s_seqL, s_sNext, s_sSeq, s_sIf, s_sSet, s_sRet, s_sRetN, s_sBreak, s_sCont, s_sDrop, s_sPar, s_setN0, s_setNS, s_sAsg, s_sApp, s_sAug, s_sFor, s_sSrc, s_gmN, s_gmT, s_gmCons, s_gmNil, s_wipe0, s_wipeS, s_oSub, s_oAddI, s_oAdd, s_oLt, s_oLe, s_oGt, s_oGe, s_oNeg, s_oNot, s_oMul, s_oMulW, s_oMod, s_oFdiv, s_oPow, s_oIsN, s_oNotN, s_oIsB, s_oNotB, s_isNon_int, s_isNon_non, s_isNon_bl, s_isNon_str, s_isNon_tup, s_isNon_lst, s_isNon_dic, s_oEqI, s_oNeI, s_oIxT, s_oIxL, s_oSlT, s_oSlL, s_oRevT, s_oRevL, s_oInt, s_oIntB, s_oAbs, s_oMax2, s_oMin2, s_oLen, s_plenT, s_plenL, s_plenD, s_plenS, s_oTupleL, s_oTupleT, s_oListL, s_oListT, List.set_cons_succ, List.set_cons_zero, List.append_nil, true_and, x_bl, x_int, x_some, x_addT, x_addL, x_true, x_false]
  refine ⟨cs, ns, i, rfl, G, i0, i1, ?_⟩
  try simp only [s_mVar0, s_mVarS, s_mVarO0, s_mVarOS, s_isObj_lst, s_isObj_dic, s_mC, s_mOp, s_mOp1, s_mB, s_mNil, s_mCons, s_mTup, s_mLst, s_mCall, s_mTB, s_mNot, s_mAnd, s_mOr, s_mAndV, s_mOrV, s_mIf, s_mYes, s_mSl, s_mNo, s_mPart, s_mLc, s_mItems, s_mRng1, s_mRng2, s_mEnum, s_mChain, s_seqT, s_seqL, s_sNext, s_sSeq, s_sIf, s_sSet, s_sRet, s_sRetN, s_sBreak, s_sCont, s_sDrop, s_sPar, s_setN0, s_setNS, s_sAsg, s_sApp, s_sAug, s_sFor, s_sSrc, s_gmN, s_gmT, s_gmCons, s_gmNil, s_wipe0, s_wipeS, s_oSub, s_oAddI, s_oAdd, s_oLt, s_oLe, s_oGt, s_oGe, s_oNeg, s_oNot, s_oMul, s_oMulW, s_oMod, s_oFdiv, s_oPow, s_oIsN, s_oNotN, s_oIsB, s_oNotB, s_isNon_int, s_isNon_non, s_isNon_bl, s_isNon_str, s_isNon_tup, s_isNon_lst, s_isNon_dic, s_oEqI, s_oNeI, s_oIxT, s_oIxL, s_oSlT, s_oSlL, s_oRevT, s_oRevL, s_oInt, s_oIntB, s_oAbs, s_oMax2, s_oMin2, s_oLen, s_plenT, s_plenL, s_plenD, s_plenS, s_oTupleL, s_oTupleT, s_oListL, s_oListT, List.set_cons_succ, List.set_cons_zero, List.append_nil, true_and, x_bl, x_int, x_some, x_addT, x_addL, x_true, x_false]
  simp only [s_mFld]
  try simp only [s_mVar0, s_mVarS, s_mVarO0, s_mVarOS, s_isObj_lst, s_isObj_dic, s_mC, s_mOp, s_mOp1, s_mB, s_mNil, s_mCons, s_mTup, s_mLst, s_mCall, s_mTB, s_mNot, s_mAnd, s_mOr, s_mAndV, s_mOrV, s_mIf, s_mYes, s_mSl, s_mNo, s_mPart, s_mLc, s_mItems, s_mRng1, s_mRng2, s_mEnum, s_mChain, s_seqT, s_seqL, s_sNext, s_sSeq, s_sIf, s_sSet, s_sRet, s_sRetN, s_sBreak, s_sCont, s_sDrop, s_sPar, s_setN0, s_setNS, s_sAsg, s_sApp, s_sAug, s_sFor, s_sSrc, s_gmN, s_gmT, s_gmCons, s_gmNil, s_wipe0, s_wipeS, s_oSub, s_oAddI, s_oAdd, s_oLt, s_oLe, s_oGt, s_oGe, s_oNeg, s_oNot, s_oMul, s_oMulW, s_oMod, s_oFdiv, s_oPow, s_oIsN, s_oNotN, s_oIsB, s_oNotB, s_isNon_int, s_isNon_non, s_isNon_bl, s_isNon_str, s_isNon_tup, s_isNon_lst, s_isNon_dic, s_oEqI, s_oNeI, s_oIxT, s_oIxL, s_oSlT, s_oSlL, s_oRevT, s_oRevL, s_oInt, s_oIntB, s_oAbs, s_oMax2, s_oMin2, s_oLen, s_plenT, s_plenL, s_plenD, s_plenS, s_oTupleL, s_oTupleT, s_oListL, s_oListT, List.set_cons_succ, List.set_cons_zero, List.append_nil, true_and, x_bl, x_int, x_some, x_addT, x_addL, x_true, x_false]
  refine ⟨C, dx, _, _, _, rfl, rfl, ?_⟩
  try simp only [s_mVar0, s_mVarS, s_mVarO0, s_mVarOS, s_isObj_lst, s_isObj_dic, s_mC, s_mOp, s_mOp1, s_mB, s_mNil, s_mCons, s_mTup, s_mLst, s_mCall, s_mTB, s_mNot, s_mAnd, s_mOr, s_mAndV, s_mOrV, s_mIf, s_mYes, s_mSl, s_mNo, s_mPart, s_mLc, s_mItems, s_mRng1, s_mRng2, s_mEnum, s_mChain, s_seqT, s_seqL, s_sNext, s_sSeq, s_sIf, s_sSet, s_sRet, s_sRetN, s_sBreak, s_sCont, s_sDrop, s_sPar, s_setN0, s_setNS, s_sAsg, s_sApp, s_sAug, s_sFor, s_sSrc, s_gmN, s_gmT, s_gmCons, s_gmNil, s_wipe0, s_wipeS, s_oSub, s_oAddI, s_oAdd, s_oLt, s_oLe, s_oGt, s_oGe, s_oNeg, s_oNot, s_oMul, s_oMulW, s_oMod, s_oFdiv, s_oPow, s_oIsN, s_oNotN, s_oIsB, s_oNotB, s_isNon_int, s_isNon_non, s_isNon_bl, s_isNon_str, s_isNon_tup, s_isNon_lst, s_isNon_dic, s_oEqI, s_oNeI, s_oIxT, s_oIxL, s_oSlT, s_oSlL, s_oRevT, s_oRevL, s_oInt, s_oIntB, s_oAbs, s_oMax2, s_oMin2, s_oLen, s_plenT, s_plenL, s_plenD, s_plenS, s_oTupleL, s_oTupleT, s_oListL, s_oListT, List.set_cons_succ, List.set_cons_zero, List.append_nil, true_and, x_bl, x_int, x_some, x_addT, x_addL, x_true, x_false]
  refine ⟨C, dx, _, _, _, rfl, rfl, ?_⟩
  rw [List.length_map]
  try simp only [s_mVar0, s_mVarS, s_mVarO0, s_mVarOS, s_isObj_lst, s_isObj_dic, s_mC, s_mOp, s_mOp1, s_mB, s_mNil, s_mCons, s_mTup, s_mLst, s_mCall, s_mTB, s_mNot, s_mAnd, s_mOr, s_mAndV, s_mOrV, s_mIf, s_mYes, s_mSl, s_mNo, s_mPart, s_mLc, s_mItems, s_mRng1, s_mRng2, s_mEnum, s_mChain, s_seqT, s_seqL, s_sNext, s_sSeq, s_sIf, s_sSet, s_sRet, s_sRetN, s_sBreak, s_sCont, s_sDrop, s_sPar, s_setN0, s_setNS, s_sAsg, s_sApp, s_sAug, s_sFor, s_sSrc, s_gmN, s_gmT, s_gmCons, s_gmNil, s_wipe0, s_wipeS, s_oSub, s_oAddI, s_oAdd, s_oLt, s_oLe, s_oGt, s_oGe, s_oNeg, s_oNot, s_oMul, s_oMulW, s_oMod, s_oFdiv, s_oPow, s_oIsN, s_oNotN, s_oIsB, s_oNotB, s_isNon_int, s_isNon_non, s_isNon_bl, s_isNon_str, s_isNon_tup, s_isNon_lst, s_isNon_dic, s_oEqI, s_oNeI, s_oIxT, s_oIxL, s_oSlT, s_oSlL, s_oRevT, s_oRevL, s_oInt, s_oIntB, s_oAbs, s_oMax2, s_oMin2, s_oLen, s_plenT, s_plenL, s_plenD, s_plenS, s_oTupleL, s_oTupleT, s_oListL, s_oListT, List.set_cons_succ, List.set_cons_zero, List.append_nil, true_and, x_bl, x_int, x_some, x_addT, x_addL, x_true, x_false]
  exact h
def sp_is_laid_down : PM.Spec := fun ps P => ∃ (nb : PV) (k f w : Int) (cs : Crs) (ns : List Nt) (i : Int), ps = [nb, .tup (cs.map tI), .tup (ns.map ntP), .int i] ∧ isNb k f w nb ∧ Gv cs ns ∧ 0 ≤ i ∧ i < cs.length ∧ P (.bl (decide (k - f ≤ (wpd cs ns i).length)))
theorem h_is_laid_down (ps : List PV) (Q : PV → Prop) (h : sp_is_laid_down ps Q) : t_is_laid_down sp_wiped_by { nx := fun _ => nxOf .cl Q, rt := Q } (startE n_is_laid_down.length ps) := by
  obtain ⟨nb, k, f, w, cs, ns, i, rfl, ⟨C, dx, rfl⟩, G, i0, i1, h⟩ := h
  show t_is_laid_down _ _ [some (.obj C dx nmf [.int k, .int f, .int 0, .int 1, .int 1, .int w]), some (.tup (cs.map tI)), some (.tup (ns.map ntP)), some (.int i)]
  unfold t_is_laid_down
  try simp only [s_mVar0, s_mVarS, s_mVarO0, s_mVarOS, s_isObj_lst, s_isObj_dic, s_mC, s_mOp, s_mOp1, s_mB, s_mNil, s_mCons, s_mTup, s_mLst, s_mCall, s_mTB, s_mNot, s_mAnd, s_mOr, s_mAndV, s_mOrV, s_mIf, s_mYes, s_mSl, s_mNo, s_mPart, s_mLc, s_mItems, s_mRng1, s_mRng2, s_mEnum, s_mChain, s_seqT, s_seqL, s_sNext, s_sSeq, s_sIf, s_sSet, s_sRet, s_sRetN, s_sBreak, s_sCont, s_sDrop, s_sPar, s_setN0, s_setNS, s_sAsg, s_sApp, s_sAug, s_sFor, s_sSrc, s_gmN, s_gmT, s_gmCons, s_gmNil, s_wipe0, s_wipeS, s_oSub, s_oAddI, s_oAdd, s_oLt, s_oLe, s_oGt, s_oGe, s_oNeg, s_oNot, s_oMul, s_oMulW, s_oMod, s_oFdiv, s_oPow, s_oIsN, s_oNotN, s_oIsB, s_oNotB, s_isNon_int, s_isNon_non, s_isNon_bl, s_isNon_str, s_isNon_tup, s_isNon_lst, s_isNon_dic, s_oEqI, s_oNeI, s_oIxT, s_oIxL, s_oSlT, s_oSlL, s_oRevT, s_oRevL, s_oInt, s_oIntB, s_oAbs, s_oMax2, s_oMin2, s_oLen, s_plenT, s_plenL, s_plenD, s_plenS, s_oTupleL, s_oTupleT, s_oListL, s_oListT, List.set_cons_succ, List.set_cons_zero, List.append_nil, true_and, x_bl, x_int, x_some, x_addT, x_addL, x_true, x_false]
  refine ⟨cs, ns, i, rfl, G, i0, i1, ?_⟩
  try simp only [s_mVar0, s_mVarS, s_mVarO0, s_mVarOS, s_isObj_lst, s_isObj_dic, s_mC, s_mOp, s_mOp1, s_mB, s_mNil, s_mCons, s_mTup, s_mLst, s_mCall, s_mTB, s_mNot, s_mAnd, s_mOr, s_mAndV, s_mOrV, s_mIf, s_mYes, s_mSl, s_mNo, s_mPart, s_mLc, s_mItems, s_mRng1, s_mRng2, s_mEnum, s_mChain, s_seqT, s_seqL, s_sNext, s_sSeq, s_sIf, s_sSet, s_sRet, s_sRetN, s_sBreak, s_sCont, s_sDrop, s_sPar, s_setN0, s_setNS, s_sAsg, s_sApp, s_sAug, s_sFor, s_sSrc, s_gmN, s_gmT, s_gmCons, s_gmNil, s_wipe0, s_wipeS, s_oSub, s_oAddI, s_oAdd, s_oLt, s_oLe, s_oGt, s_oGe, s_oNeg, s_oNot, s_oMul, s_oMulW, s_oMod, s_oFdiv, s_oPow, s_oIsN, s_oNotN, s_oIsB, s_oNotB, s_isNon_int, s_isNon_non, s_isNon_bl, s_isNon_str, s_isNon_tup, s_isNon_lst, s_isNon_dic, s_oEqI, s_oNeI, s_oIxT, s_oIxL, s_oSlT, s_oSlL, s_oRevT, s_oRevL, s_oInt, s_oIntB, s_oAbs, s_oMax2, s_oMin2, s_oLen, s_plenT, s_plenL, s_plenD, s_plenS, s_oTupleL, s_oTupleT, s_oListL, s_oListT, List.set_cons_succ, List.set_cons_zero, List.append_nil, true_and, x_bl, x_int, x_some, x_addT, x_addL, x_true, x_false]
  simp only [s_mFld]
  try simp only [s_mVar0, s_mVarS, s_mVarO0, s_mVarOS, s_isObj_lst, s_isObj_dic, s_mC, s_mOp, s_mOp1, s_mB, s_mNil, s_mCons, s_mTup, s_mLst, s_mCall, s_mTB, s_mNot, s_mAnd, s_mOr, s_mAndV, s_mOrV, s_mIf, s_mYes, s_mSl, s_mNo, s_mPart, s_mLc, s_mItems, s_mRng1, s_mRng2, s_mEnum, s_mChain, s_seqT, s_seqL, s_sNext, s_sSeq, s_sIf, s_sSet, s_sRet, s_sRetN, s_sBreak, s_sCont, s_sDrop, s_sPar, s_setN0, s_setNS, s_sAsg, s_sApp, s_sAug, s_sFor, s_sSrc, s_gmN, s_gmT, s_gmCons, s_gmNil, s_wipe0, s_wipeS, s_oSub, s_oAddI, s_oAdd, s_oLt, s_oLe, s_oGt, s_oGe, s_oNeg, s_oNot, s_oMul, s_oMulW, s_oMod, s_oFdiv, s_oPow, s_oIsN, s_oNotN, s_oIsB, s_oNotB, s_isNon_int, s_isNon_non, s_isNon_bl, s_isNon_str, s_isNon_tup, s_isNon_lst, s_isNon_dic, s_oEqI, s_oNeI, s_oIxT, s_oIxL, s_oSlT, s_oSlL, s_oRevT, s_oRevL, s_oInt, s_oIntB, s_oAbs, s_oMax2, s_oMin2, s_oLen, s_plenT, s_plenL, s_plenD, s_plenS, s_oTupleL, s_oTupleT, s_oListL, s_oListT, List.set_cons_succ, List.set_cons_zero, List.append_nil, true_and, x_bl, x_int, x_some, x_addT, x_addL, x_true, x_false]
  refine ⟨C, dx, _, _, _, rfl, rfl, C, dx, _, _, _, rfl, rfl, ?_⟩
  rw [List.length_map]
  try simp only [s_mVar0, s_mVarS, s_mVarO0, s_mVarOS, s_isObj_lst, s_isObj_dic, s_mC, s_mOp, s_mOp1, s_mB, s_mNil, s_mCons, s_mTup, s_mLst, s_mCall, s_mTB, s_mNot, s_mAnd, s_mOr, s_mAndV, s_mOrV, s_mIf, s_mYes, s_mSl, s_mNo, s_mPart, s_mLc, s_mItems, s_mRng1, s_mRng2, s_mEnum, s_mChain, s_seqT, s_seqL, s_sNext, s_sSeq, s_sIf, s_sSet, s_sRet, s_sRetN, s_sBreak, s_sCont, s_sDrop, s_sPar, s_setN0, s_setNS, s_sAsg, s_sApp, s_sAug, s_sFor, s_sSrc, s_gmN, s_gmT, s_gmCons, s_gmNil, s_wipe0, s_wipeS, s_oSub, s_oAddI, s_oAdd, s_oLt, s_oLe, s_oGt, s_oGe, s_oNeg, s_oNot, s_oMul, s_oMulW, s_oMod, s_oFdiv, s_oPow, s_oIsN, s_oNotN, s_oIsB, s_oNotB, s_isNon_int, s_isNon_non, s_isNon_bl, s_isNon_str, s_isNon_tup, s_isNon_lst, s_isNon_dic, s_oEqI, s_oNeI, s_oIxT, s_oIxL, s_oSlT, s_oSlL, s_oRevT, s_oRevL, s_oInt, s_oIntB, s_oAbs, s_oMax2, s_oMin2, s_oLen, s_plenT, s_plenL, s_plenD, s_plenS, s_oTupleL, s_oTupleT, s_oListL, s_oListT, List.set_cons_succ, List.set_cons_zero, List.append_nil, true_and, x_bl, x_int, x_some, x_addT, x_addL, x_true, x_false]
  exact h
/-! ### numbers -/
def sp_is_integer : PM.Spec := fun ps P => ∃ x : Int, ps = [.int x] ∧ P (.bl true)
theorem h_is_integer (ps : List PV) (Q : PV → Prop) (h : sp_is_integer ps Q) : t_is_integer { nx := fun _ => nxOf .cl Q, rt := Q } (startE n_is_integer.length ps) := by
  obtain ⟨x, rfl, h⟩ := h
  show t_is_integer _ [some (.int x)]
  unfold t_is_integer
  try simp only [s_mVar0, s_mVarS, s_mVarO0, s_mVarOS, s_isObj_lst, s_isObj_dic, s_mC, s_mOp, s_mOp1, s_mB, s_mNil, s_mCons, s_mTup, s_mLst, s_mCall, s_mTB, s_mNot, s_mAnd, s_mOr, s_mAndV, s_mOrV, s_mIf, s_mYes, s_mSl, s_mNo, s_mPart, s_mLc, s_mItems, s_mRng1, s_mRng2, s_mEnum, s_mChain, s_seqT, s_seqL, s_sNext, s_sSeq, s_sIf, s_sSet, s_sRet, s_sRetN, s_sBreak, s_sCont, s_sDrop, s_sPar, s_setN0, s_setNS, s_sAsg, s_sApp, s_sAug, s_sFor, s_sSrc, s_gmN, s_gmT, s_gmCons, s_gmNil, s_wipe0, s_wipeS, s_oSub, s_oAddI, s_oAdd, s_oLt, s_oLe, s_oGt, s_oGe, s_oNeg, s_oNot, s_oMul, s_oMulW, s_oMod, s_oFdiv, s_oPow, s_oIsN, s_oNotN, s_oIsB, s_oNotB, s_isNon_int, s_isNon_non, s_isNon_bl, s_isNon_str, s_isNon_tup, s_isNon_lst, s_isNon_dic, s_oEqI, s_oNeI, s_oIxT, s_oIxL, s_oSlT, s_oSlL, s_oRevT, s_oRevL, s_oInt, s_oIntB, s_oAbs, s_oMax2, s_oMin2, s_oLen, s_plenT, s_plenL, s_plenD, s_plenS, s_oTupleL, s_oTupleT, s_oListL, s_oListT, List.set_cons_succ, List.set_cons_zero, List.append_nil, true_and, x_bl, x_int, x_some, x_addT, x_addL, x_true, x_false]
  refine oIsi_of (b := true) rfl rfl ?_
  try simp only [s_mVar0, s_mVarS, s_mVarO0, s_mVarOS, s_isObj_lst, s_isObj_dic, s_mC, s_mOp, s_mOp1, s_mB, s_mNil, s_mCons, s_mTup, s_mLst, s_mCall, s_mTB, s_mNot, s_mAnd, s_mOr, s_mAndV, s_mOrV, s_mIf, s_mYes, s_mSl, s_mNo, s_mPart, s_mLc, s_mItems, s_mRng1, s_mRng2, s_mEnum, s_mChain, s_seqT, s_seqL, s_sNext, s_sSeq, s_sIf, s_sSet, s_sRet, s_sRetN, s_sBreak, s_sCont, s_sDrop, s_sPar, s_setN0, s_setNS, s_sAsg, s_sApp, s_sAug, s_sFor, s_sSrc, s_gmN, s_gmT, s_gmCons, s_gmNil, s_wipe0, s_wipeS, s_oSub, s_oAddI, s_oAdd, s_oLt, s_oLe, s_oGt, s_oGe, s_oNeg, s_oNot, s_oMul, s_oMulW, s_oMod, s_oFdiv, s_oPow, s_oIsN, s_oNotN, s_oIsB, s_oNotB, s_isNon_int, s_isNon_non, s_isNon_bl, s_isNon_str, s_isNon_tup, s_isNon_lst, s_isNon_dic, s_oEqI, s_oNeI, s_oIxT, s_oIxL, s_oSlT, s_oSlL, s_oRevT, s_oRevL, s_oInt, s_oIntB, s_oAbs, s_oMax2, s_oMin2, s_oLen, s_plenT, s_plenL, s_plenD, s_plenS, s_oTupleL, s_oTupleT, s_oListL, s_oListT, List.set_cons_succ, List.set_cons_zero, List.append_nil, true_and, x_bl, x_int, x_some, x_addT, x_addL, x_true, x_false]
  refine ite_t trivial (oIsi_of (b := false) (P := fun x => oNot x _) rfl rfl (s_oNot.mpr ?_))
  exact h
def sp_is_number : PM.Spec := fun ps P => ∃ x m : Int, ps = [.int x, .int m] ∧ 0 ≤ x ∧ P (.bl (decide (x ≤ m)))
theorem h_is_number (ps : List PV) (Q : PV → Prop) (h : sp_is_number ps Q) : t_is_number sp_is_integer { nx := fun _ => nxOf .cl Q, rt := Q } (startE n_is_number.length ps) := by
  obtain ⟨x, m, rfl, x0, h⟩ := h
  show t_is_number _ _ [some (.int x), some (.int m)]
  unfold t_is_number
  try simp only [s_mVar0, s_mVarS, s_mVarO0, s_mVarOS, s_isObj_lst, s_isObj_dic, s_mC, s_mOp, s_mOp1, s_mB, s_mNil, s_mCons, s_mTup, s_mLst, s_mCall, s_mTB, s_mNot, s_mAnd, s_mOr, s_mAndV, s_mOrV, s_mIf, s_mYes, s_mSl, s_mNo, s_mPart, s_mLc, s_mItems, s_mRng1, s_mRng2, s_mEnum, s_mChain, s_seqT, s_seqL, s_sNext, s_sSeq, s_sIf, s_sSet, s_sRet, s_sRetN, s_sBreak, s_sCont, s_sDrop, s_sPar, s_setN0, s_setNS, s_sAsg, s_sApp, s_sAug, s_sFor, s_sSrc, s_gmN, s_gmT, s_gmCons, s_gmNil, s_wipe0, s_wipeS, s_oSub, s_oAddI, s_oAdd, s_oLt, s_oLe, s_oGt, s_oGe, s_oNeg, s_oNot, s_oMul, s_oMulW, s_oMod, s_oFdiv, s_oPow, s_oIsN, s_oNotN, s_oIsB, s_oNotB, s_isNon_int, s_isNon_non, s_isNon_bl, s_isNon_str, s_isNon_tup, s_isNon_lst, s_isNon_dic, s_oEqI, s_oNeI, s_oIxT, s_oIxL, s_oSlT, s_oSlL, s_oRevT, s_oRevL, s_oInt, s_oIntB, s_oAbs, s_oMax2, s_oMin2, s_oLen, s_plenT, s_plenL, s_plenD, s_plenS, s_oTupleL, s_oTupleT, s_oListL, s_oListT, List.set_cons_succ, List.set_cons_zero, List.append_nil, true_and, x_bl, x_int, x_some, x_addT, x_addL, x_true, x_false]
  refine ⟨x, rfl, ?_⟩
  try simp only [s_mVar0, s_mVarS, s_mVarO0, s_mVarOS, s_isObj_lst, s_isObj_dic, s_mC, s_mOp, s_mOp1, s_mB, s_mNil, s_mCons, s_mTup, s_mLst, s_mCall, s_mTB, s_mNot, s_mAnd, s_mOr, s_mAndV, s_mOrV, s_mIf, s_mYes, s_mSl, s_mNo, s_mPart, s_mLc, s_mItems, s_mRng1, s_mRng2, s_mEnum, s_mChain, s_seqT, s_seqL, s_sNext, s_sSeq, s_sIf, s_sSet, s_sRet, s_sRetN, s_sBreak, s_sCont, s_sDrop, s_sPar, s_setN0, s_setNS, s_sAsg, s_sApp, s_sAug, s_sFor, s_sSrc, s_gmN, s_gmT, s_gmCons, s_gmNil, s_wipe0, s_wipeS, s_oSub, s_oAddI, s_oAdd, s_oLt, s_oLe, s_oGt, s_oGe, s_oNeg, s_oNot, s_oMul, s_oMulW, s_oMod, s_oFdiv, s_oPow, s_oIsN, s_oNotN, s_oIsB, s_oNotB, s_isNon_int, s_isNon_non, s_isNon_bl, s_isNon_str, s_isNon_tup, s_isNon_lst, s_isNon_dic, s_oEqI, s_oNeI, s_oIxT, s_oIxL, s_oSlT, s_oSlL, s_oRevT, s_oRevL, s_oInt, s_oIntB, s_oAbs, s_oMax2, s_oMin2, s_oLen, s_plenT, s_plenL, s_plenD, s_plenS, s_oTupleL, s_oTupleT, s_oListL, s_oListT, List.set_cons_succ, List.set_cons_zero, List.append_nil, true_and, x_bl, x_int, x_some, x_addT, x_addL, x_true, x_false]
  exact ite_t trivial (ite_t (decide_eq_true x0) (ite_f Bool.false_ne_true h))
def sp_Numbers : PM.Spec := fun ps P => ∃ k f w : Int, ps = [.int k, .int f, .int 0, .int 1, .int 1, .int w] ∧ 2 ≤ k ∧ k ≤ 12 ∧ 0 ≤ f ∧ f < k ∧ 1 ≤ w ∧ w ≤ k ∧ ∀ p, isNb k f w p → P p
theorem h_Numbers (C : Addr) (dx : Addr) (ps : List PV) (Q : PV → Prop) (h : sp_Numbers ps Q) : t_Numbers C sp_is_number { nx := fun e => ∃ ns vs, e[0]? = some (some (.obj C dx ns vs)) ∧ Q (.obj C dx ns vs), rt := fun _ => False } (startE n_Numbers.length (.obj C dx [] [] :: ps)) := by
  obtain ⟨k, f, w, rfl, k0, k1, f0, f1, w0, w1, h⟩ := h
  show t_Numbers _ _ _ [some (.obj C dx [] []), some (.int k), some (.int f), some (.int 0), some (.int 1), some (.int 1), some (.int w)]
  unfold t_Numbers
  try simp only [s_mVar0, s_mVarS, s_mVarO0, s_mVarOS, s_isObj_lst, s_isObj_dic, s_mC, s_mOp, s_mOp1, s_mB, s_mNil, s_mCons, s_mTup, s_mLst, s_mCall, s_mTB, s_mNot, s_mAnd, s_mOr, s_mAndV, s_mOrV, s_mIf, s_mYes, s_mSl, s_mNo, s_mPart, s_mLc, s_mItems, s_mRng1, s_mRng2, s_mEnum, s_mChain, s_seqT, s_seqL, s_sNext, s_sSeq, s_sIf, s_sSet, s_sRet, s_sRetN, s_sBreak, s_sCont, s_sDrop, s_sPar, s_setN0, s_setNS, s_sAsg, s_sApp, s_sAug, s_sFor, s_sSrc, s_gmN, s_gmT, s_gmCons, s_gmNil, s_wipe0, s_wipeS, s_oSub, s_oAddI, s_oAdd, s_oLt, s_oLe, s_oGt, s_oGe, s_oNeg, s_oNot, s_oMul, s_oMulW, s_oMod, s_oFdiv, s_oPow, s_oIsN, s_oNotN, s_oIsB, s_oNotB, s_isNon_int, s_isNon_non, s_isNon_bl, s_isNon_str, s_isNon_tup, s_isNon_lst, s_isNon_dic, s_oEqI, s_oNeI, s_oIxT, s_oIxL, s_oSlT, s_oSlL, s_oRevT, s_oRevL, s_oInt, s_oIntB, s_oAbs, s_oMax2, s_oMin2, s_oLen, s_plenT, s_plenL, s_plenD, s_plenS, s_oTupleL, s_oTupleT, s_oListL, s_oListT, List.set_cons_succ, List.set_cons_zero, List.append_nil, true_and, x_bl, x_int, x_some, x_addT, x_addL, x_true, x_false]
  refine ⟨k, 12, rfl, by omega, _, rfl, ite_f (by simp; omega) (ite_f (by simp; omega) ?_)⟩
  refine ⟨f, k - 1, rfl, by omega, _, rfl, ite_f (by simp; omega) ?_⟩
  refine ⟨0, k, rfl, by omega, _, rfl, ite_f (by simp; omega) ?_⟩
  refine ⟨1, 200, rfl, by omega, _, rfl, ite_f (by simp) (ite_f (by simp) ?_)⟩
  refine ⟨1, _, rfl, by omega, _, rfl, ite_f (by simp; split <;> omega) (ite_f (by simp) ?_)⟩
  refine ⟨w, k, rfl, by omega, _, rfl, ite_f (by simp; omega) (ite_f (by simp; omega) ?_)⟩
  try simp only [s_mVar0, s_mVarS, s_mVarO0, s_mVarOS, s_isObj_lst, s_isObj_dic, s_mC, s_mOp, s_mOp1, s_mB, s_mNil, s_mCons, s_mTup, s_mLst, s_mCall, s_mTB, s_mNot, s_mAnd, s_mOr, s_mAndV, s_mOrV, s_mIf, s_mYes, s_mSl, s_mNo, s_mPart, s_mLc, s_mItems, s_mRng1, s_mRng2, s_mEnum, s_mChain, s_seqT, s_seqL, s_sNext, s_sSeq, s_sIf, s_sSet, s_sRet, s_sRetN, s_sBreak, s_sCont, s_sDrop, s_sPar, s_setN0, s_setNS, s_sAsg, s_sApp, s_sAug, s_sFor, s_sSrc, s_gmN, s_gmT, s_gmCons, s_gmNil, s_wipe0, s_wipeS, s_oSub, s_oAddI, s_oAdd, s_oLt, s_oLe, s_oGt, s_oGe, s_oNeg, s_oNot, s_oMul, s_oMulW, s_oMod, s_oFdiv, s_oPow, s_oIsN, s_oNotN, s_oIsB, s_oNotB, s_isNon_int, s_isNon_non, s_isNon_bl, s_isNon_str, s_isNon_tup, s_isNon_lst, s_isNon_dic, s_oEqI, s_oNeI, s_oIxT, s_oIxL, s_oSlT, s_oSlL, s_oRevT, s_oRevL, s_oInt, s_oIntB, s_oAbs, s_oMax2, s_oMin2, s_oLen, s_plenT, s_plenL, s_plenD, s_plenS, s_oTupleL, s_oTupleT, s_oListL, s_oListT, List.set_cons_succ, List.set_cons_zero, List.append_nil, true_and, x_bl, x_int, x_some, x_addT, x_addL, x_true, x_false]
  try simp only [s_sFldP]
  try simp only [s_mVar0, s_mVarS, s_mVarO0, s_mVarOS, s_isObj_lst, s_isObj_dic, s_mC, s_mOp, s_mOp1, s_mB, s_mNil, s_mCons, s_mTup, s_mLst, s_mCall, s_mTB, s_mNot, s_mAnd, s_mOr, s_mAndV, s_mOrV, s_mIf, s_mYes, s_mSl, s_mNo, s_mPart, s_mLc, s_mItems, s_mRng1, s_mRng2, s_mEnum, s_mChain, s_seqT, s_seqL, s_sNext, s_sSeq, s_sIf, s_sSet, s_sRet, s_sRetN, s_sBreak, s_sCont, s_sDrop, s_sPar, s_setN0, s_setNS, s_sAsg, s_sApp, s_sAug, s_sFor, s_sSrc, s_gmN, s_gmT, s_gmCons, s_gmNil, s_wipe0, s_wipeS, s_oSub, s_oAddI, s_oAdd, s_oLt, s_oLe, s_oGt, s_oGe, s_oNeg, s_oNot, s_oMul, s_oMulW, s_oMod, s_oFdiv, s_oPow, s_oIsN, s_oNotN, s_oIsB, s_oNotB, s_isNon_int, s_isNon_non, s_isNon_bl, s_isNon_str, s_isNon_tup, s_isNon_lst, s_isNon_dic, s_oEqI, s_oNeI, s_oIxT, s_oIxL, s_oSlT, s_oSlL, s_oRevT, s_oRevL, s_oInt, s_oIntB, s_oAbs, s_oMax2, s_oMin2, s_oLen, s_plenT, s_plenL, s_plenD, s_plenS, s_oTupleL, s_oTupleT, s_oListL, s_oListT, List.set_cons_succ, List.set_cons_zero, List.append_nil, true_and, x_bl, x_int, x_some, x_addT, x_addL, x_true, x_false]
  refine ⟨dx, _, _, rfl, by decide, by decide, ?_⟩
  try simp only [s_mVar0, s_mVarS, s_mVarO0, s_mVarOS, s_isObj_lst, s_isObj_dic, s_mC, s_mOp, s_mOp1, s_mB, s_mNil, s_mCons, s_mTup, s_mLst, s_mCall, s_mTB, s_mNot, s_mAnd, s_mOr, s_mAndV, s_mOrV, s_mIf, s_mYes, s_mSl, s_mNo, s_mPart, s_mLc, s_mItems, s_mRng1, s_mRng2, s_mEnum, s_mChain, s_seqT, s_seqL, s_sNext, s_sSeq, s_sIf, s_sSet, s_sRet, s_sRetN, s_sBreak, s_sCont, s_sDrop, s_sPar, s_setN0, s_setNS, s_sAsg, s_sApp, s_sAug, s_sFor, s_sSrc, s_gmN, s_gmT, s_gmCons, s_gmNil, s_wipe0, s_wipeS, s_oSub, s_oAddI, s_oAdd, s_oLt, s_oLe, s_oGt, s_oGe, s_oNeg, s_oNot, s_oMul, s_oMulW, s_oMod, s_oFdiv, s_oPow, s_oIsN, s_oNotN, s_oIsB, s_oNotB, s_isNon_int, s_isNon_non, s_isNon_bl, s_isNon_str, s_isNon_tup, s_isNon_lst, s_isNon_dic, s_oEqI, s_oNeI, s_oIxT, s_oIxL, s_oSlT, s_oSlL, s_oRevT, s_oRevL, s_oInt, s_oIntB, s_oAbs, s_oMax2, s_oMin2, s_oLen, s_plenT, s_plenL, s_plenD, s_plenS, s_oTupleL, s_oTupleT, s_oListL, s_oListT, List.set_cons_succ, List.set_cons_zero, List.append_nil, true_and, x_bl, x_int, x_some, x_addT, x_addL, x_true, x_false]
  try simp only [s_sFldP]
  try simp only [s_mVar0, s_mVarS, s_mVarO0, s_mVarOS, s_isObj_lst, s_isObj_dic, s_mC, s_mOp, s_mOp1, s_mB, s_mNil, s_mCons, s_mTup, s_mLst, s_mCall, s_mTB, s_mNot, s_mAnd, s_mOr, s_mAndV, s_mOrV, s_mIf, s_mYes, s_mSl, s_mNo, s_mPart, s_mLc, s_mItems, s_mRng1, s_mRng2, s_mEnum, s_mChain, s_seqT, s_seqL, s_sNext, s_sSeq, s_sIf, s_sSet, s_sRet, s_sRetN, s_sBreak, s_sCont, s_sDrop, s_sPar, s_setN0, s_setNS, s_sAsg, s_sApp, s_sAug, s_sFor, s_sSrc, s_gmN, s_gmT, s_gmCons, s_gmNil, s_wipe0, s_wipeS, s_oSub, s_oAddI, s_oAdd, s_oLt, s_oLe, s_oGt, s_oGe, s_oNeg, s_oNot, s_oMul, s_oMulW, s_oMod, s_oFdiv, s_oPow, s_oIsN, s_oNotN, s_oIsB, s_oNotB, s_isNon_int, s_isNon_non, s_isNon_bl, s_isNon_str, s_isNon_tup, s_isNon_lst, s_isNon_dic, s_oEqI, s_oNeI, s_oIxT, s_oIxL, s_oSlT, s_oSlL, s_oRevT, s_oRevL, s_oInt, s_oIntB, s_oAbs, s_oMax2, s_oMin2, s_oLen, s_plenT, s_plenL, s_plenD, s_plenS, s_oTupleL, s_oTupleT, s_oListL, s_oListT, List.set_cons_succ, List.set_cons_zero, List.append_nil, true_and, x_bl, x_int, x_some, x_addT, x_addL, x_true, x_false]
  refine ⟨dx, _, _, rfl, by decide, by decide, ?_⟩
  try simp only [s_mVar0, s_mVarS, s_mVarO0, s_mVarOS, s_isObj_lst, s_isObj_dic, s_mC, s_mOp, s_mOp1, s_mB, s_mNil, s_mCons, s_mTup, s_mLst, s_mCall, s_mTB, s_mNot, s_mAnd, s_mOr, s_mAndV, s_mOrV, s_mIf, s_mYes, s_mSl, s_mNo, s_mPart, s_mLc, s_mItems, s_mRng1, s_mRng2, s_mEnum, s_mChain, s_seqT, s_seqL, s_sNext, s_sSeq, s_sIf, s_sSet, s_sRet, s_sRetN, s_sBreak, s_sCont, s_sDrop, s_sPar, s_setN0, s_setNS, s_sAsg, s_sApp, s_sAug, s_sFor, s_sSrc, s_gmN, s_gmT, s_gmCons, s_gmNil, s_wipe0, s_wipeS, s_oSub, s_oAddI, s_oAdd, s_oLt, s_oLe, s_oGt, s_oGe, s_oNeg, s_oNot, s_oMul, s_oMulW, s_oMod, s_oFdiv, s_oPow, s_oIsN, s_oNotN, s_oIsB, s_oNotB, s_isNon_int, s_isNon_non, s_isNon_bl, s_isNon_str, s_isNon_tup, s_isNon_lst, s_isNon_dic, s_oEqI, s_oNeI, s_oIxT, s_oIxL, s_oSlT, s_oSlL, s_oRevT, s_oRevL, s_oInt, s_oIntB, s_oAbs, s_oMax2, s_oMin2, s_oLen, s_plenT, s_plenL, s_plenD, s_plenS, s_oTupleL, s_oTupleT, s_oListL, s_oListT, List.set_cons_succ, List.set_cons_zero, List.append_nil, true_and, x_bl, x_int, x_some, x_addT, x_addL, x_true, x_false]
  try simp only [s_sFldP]
  try simp only [s_mVar0, s_mVarS, s_mVarO0, s_mVarOS, s_isObj_lst, s_isObj_dic, s_mC, s_mOp, s_mOp1, s_mB, s_mNil, s_mCons, s_mTup, s_mLst, s_mCall, s_mTB, s_mNot, s_mAnd, s_mOr, s_mAndV, s_mOrV, s_mIf, s_mYes, s_mSl, s_mNo, s_mPart, s_mLc, s_mItems, s_mRng1, s_mRng2, s_mEnum, s_mChain, s_seqT, s_seqL, s_sNext, s_sSeq, s_sIf, s_sSet, s_sRet, s_sRetN, s_sBreak, s_sCont, s_sDrop, s_sPar, s_setN0, s_setNS, s_sAsg, s_sApp, s_sAug, s_sFor, s_sSrc, s_gmN, s_gmT, s_gmCons, s_gmNil, s_wipe0, s_wipeS, s_oSub, s_oAddI, s_oAdd, s_oLt, s_oLe, s_oGt, s_oGe, s_oNeg, s_oNot, s_oMul, s_oMulW, s_oMod, s_oFdiv, s_oPow, s_oIsN, s_oNotN, s_oIsB, s_oNotB, s_isNon_int, s_isNon_non, s_isNon_bl, s_isNon_str, s_isNon_tup, s_isNon_lst, s_isNon_dic, s_oEqI, s_oNeI, s_oIxT, s_oIxL, s_oSlT, s_oSlL, s_oRevT, s_oRevL, s_oInt, s_oIntB, s_oAbs, s_oMax2, s_oMin2, s_oLen, s_plenT, s_plenL, s_plenD, s_plenS, s_oTupleL, s_oTupleT, s_oListL, s_oListT, List.set_cons_succ, List.set_cons_zero, List.append_nil, true_and, x_bl, x_int, x_some, x_addT, x_addL, x_true, x_false]
  refine ⟨dx, _, _, rfl, by decide, by decide, ?_⟩
  try simp only [s_mVar0, s_mVarS, s_mVarO0, s_mVarOS, s_isObj_lst, s_isObj_dic, s_mC, s_mOp, s_mOp1, s_mB, s_mNil, s_mCons, s_mTup, s_mLst, s_mCall, s_mTB, s_mNot, s_mAnd, s_mOr, s_mAndV, s_mOrV, s_mIf, s_mYes, s_mSl, s_mNo, s_mPart, s_mLc, s_mItems, s_mRng1, s_mRng2, s_mEnum, s_mChain, s_seqT, s_seqL, s_sNext, s_sSeq, s_sIf, s_sSet, s_sRet, s_sRetN, s_sBreak, s_sCont, s_sDrop, s_sPar, s_setN0, s_setNS, s_sAsg, s_sApp, s_sAug, s_sFor, s_sSrc, s_gmN, s_gmT, s_gmCons, s_gmNil, s_wipe0, s_wipeS, s_oSub, s_oAddI, s_oAdd, s_oLt, s_oLe, s_oGt, s_oGe, s_oNeg, s_oNot, s_oMul, s_oMulW, s_oMod, s_oFdiv, s_oPow, s_oIsN, s_oNotN, s_oIsB, s_oNotB, s_isNon_int, s_isNon_non, s_isNon_bl, s_isNon_str, s_isNon_tup, s_isNon_lst, s_isNon_dic, s_oEqI, s_oNeI, s_oIxT, s_oIxL, s_oSlT, s_oSlL, s_oRevT, s_oRevL, s_oInt, s_oIntB, s_oAbs, s_oMax2, s_oMin2, s_oLen, s_plenT, s_plenL, s_plenD, s_plenS, s_oTupleL, s_oTupleT, s_oListL, s_oListT, List.set_cons_succ, List.set_cons_zero, List.append_nil, true_and, x_bl, x_int, x_some, x_addT, x_addL, x_true, x_false]
  try simp only [s_sFldP]
  try simp only [s_mVar0, s_mVarS, s_mVarO0, s_mVarOS, s_isObj_lst, s_isObj_dic, s_mC, s_mOp, s_mOp1, s_mB, s_mNil, s_mCons, s_mTup, s_mLst, s_mCall, s_mTB, s_mNot, s_mAnd, s_mOr, s_mAndV, s_mOrV, s_mIf, s_mYes, s_mSl, s_mNo, s_mPart, s_mLc, s_mItems, s_mRng1, s_mRng2, s_mEnum, s_mChain, s_seqT, s_seqL, s_sNext, s_sSeq, s_sIf, s_sSet, s_sRet, s_sRetN, s_sBreak, s_sCont, s_sDrop, s_sPar, s_setN0, s_setNS, s_sAsg, s_sApp, s_sAug, s_sFor, s_sSrc, s_gmN, s_gmT, s_gmCons, s_gmNil, s_wipe0, s_wipeS, s_oSub, s_oAddI, s_oAdd, s_oLt, s_oLe, s_oGt, s_oGe, s_oNeg, s_oNot, s_oMul, s_oMulW, s_oMod, s_oFdiv, s_oPow, s_oIsN, s_oNotN, s_oIsB, s_oNotB, s_isNon_int, s_isNon_non, s_isNon_bl, s_isNon_str, s_isNon_tup, s_isNon_lst, s_isNon_dic, s_oEqI, s_oNeI, s_oIxT, s_oIxL, s_oSlT, s_oSlL, s_oRevT, s_oRevL, s_oInt, s_oIntB, s_oAbs, s_oMax2, s_oMin2, s_oLen, s_plenT, s_plenL, s_plenD, s_plenS, s_oTupleL, s_oTupleT, s_oListL, s_oListT, List.set_cons_succ, List.set_cons_zero, List.append_nil, true_and, x_bl, x_int, x_some, x_addT, x_addL, x_true, x_false]
  refine ⟨dx, _, _, rfl, by decide, by decide, ?_⟩
  try simp only [s_mVar0, s_mVarS, s_mVarO0, s_mVarOS, s_isObj_lst, s_isObj_dic, s_mC, s_mOp, s_mOp1, s_mB, s_mNil, s_mCons, s_mTup, s_mLst, s_mCall, s_mTB, s_mNot, s_mAnd, s_mOr, s_mAndV, s_mOrV, s_mIf, s_mYes, s_mSl, s_mNo, s_mPart, s_mLc, s_mItems, s_mRng1, s_mRng2, s_mEnum, s_mChain, s_seqT, s_seqL, s_sNext, s_sSeq, s_sIf, s_sSet, s_sRet, s_sRetN, s_sBreak, s_sCont, s_sDrop, s_sPar, s_setN0, s_setNS, s_sAsg, s_sApp, s_sAug, s_sFor, s_sSrc, s_gmN, s_gmT, s_gmCons, s_gmNil, s_wipe0, s_wipeS, s_oSub, s_oAddI, s_oAdd, s_oLt, s_oLe, s_oGt, s_oGe, s_oNeg, s_oNot, s_oMul, s_oMulW, s_oMod, s_oFdiv, s_oPow, s_oIsN, s_oNotN, s_oIsB, s_oNotB, s_isNon_int, s_isNon_non, s_isNon_bl, s_isNon_str, s_isNon_tup, s_isNon_lst, s_isNon_dic, s_oEqI, s_oNeI, s_oIxT, s_oIxL, s_oSlT, s_oSlL, s_oRevT, s_oRevL, s_oInt, s_oIntB, s_oAbs, s_oMax2, s_oMin2, s_oLen, s_plenT, s_plenL, s_plenD, s_plenS, s_oTupleL, s_oTupleT, s_oListL, s_oListT, List.set_cons_succ, List.set_cons_zero, List.append_nil, true_and, x_bl, x_int, x_some, x_addT, x_addL, x_true, x_false]
  try simp only [s_sFldP]
  try simp only [s_mVar0, s_mVarS, s_mVarO0, s_mVarOS, s_isObj_lst, s_isObj_dic, s_mC, s_mOp, s_mOp1, s_mB, s_mNil, s_mCons, s_mTup, s_mLst, s_mCall, s_mTB, s_mNot, s_mAnd, s_mOr, s_mAndV, s_mOrV, s_mIf, s_mYes, s_mSl, s_mNo, s_mPart, s_mLc, s_mItems, s_mRng1, s_mRng2, s_mEnum, s_mChain, s_seqT, s_seqL, s_sNext, s_sSeq, s_sIf, s_sSet, s_sRet, s_sRetN, s_sBreak, s_sCont, s_sDrop, s_sPar, s_setN0, s_setNS, s_sAsg, s_sApp, s_sAug, s_sFor, s_sSrc, s_gmN, s_gmT, s_gmCons, s_gmNil, s_wipe0, s_wipeS, s_oSub, s_oAddI, s_oAdd, s_oLt, s_oLe, s_oGt, s_oGe, s_oNeg, s_oNot, s_oMul, s_oMulW, s_oMod, s_oFdiv, s_oPow, s_oIsN, s_oNotN, s_oIsB, s_oNotB, s_isNon_int, s_isNon_non, s_isNon_bl, s_isNon_str, s_isNon_tup, s_isNon_lst, s_isNon_dic, s_oEqI, s_oNeI, s_oIxT, s_oIxL, s_oSlT, s_oSlL, s_oRevT, s_oRevL, s_oInt, s_oIntB, s_oAbs, s_oMax2, s_oMin2, s_oLen, s_plenT, s_plenL, s_plenD, s_plenS, s_oTupleL, s_oTupleT, s_oListL, s_oListT, List.set_cons_succ, List.set_cons_zero, List.append_nil, true_and, x_bl, x_int, x_some, x_addT, x_addL, x_true, x_false]
  refine ⟨dx, _, _, rfl, by decide, by decide, ?_⟩
  try simp only [s_mVar0, s_mVarS, s_mVarO0, s_mVarOS, s_isObj_lst, s_isObj_dic, s_mC, s_mOp, s_mOp1, s_mB, s_mNil, s_mCons, s_mTup, s_mLst, s_mCall, s_mTB, s_mNot, s_mAnd, s_mOr, s_mAndV, s_mOrV, s_mIf, s_mYes, s_mSl, s_mNo, s_mPart, s_mLc, s_mItems, s_mRng1, s_mRng2, s_mEnum, s_mChain, s_seqT, s_seqL, s_sNext, s_sSeq, s_sIf, s_sSet, s_sRet, s_sRetN, s_sBreak, s_sCont, s_sDrop, s_sPar, s_setN0, s_setNS, s_sAsg, s_sApp, s_sAug, s_sFor, s_sSrc, s_gmN, s_gmT, s_gmCons, s_gmNil, s_wipe0, s_wipeS, s_oSub, s_oAddI, s_oAdd, s_oLt, s_oLe, s_oGt, s_oGe, s_oNeg, s_oNot, s_oMul, s_oMulW, s_oMod, s_oFdiv, s_oPow, s_oIsN, s_oNotN, s_oIsB, s_oNotB, s_isNon_int, s_isNon_non, s_isNon_bl, s_isNon_str, s_isNon_tup, s_isNon_lst, s_isNon_dic, s_oEqI, s_oNeI, s_oIxT, s_oIxL, s_oSlT, s_oSlL, s_oRevT, s_oRevL, s_oInt, s_oIntB, s_oAbs, s_oMax2, s_oMin2, s_oLen, s_plenT, s_plenL, s_plenD, s_plenS, s_oTupleL, s_oTupleT, s_oListL, s_oListT, List.set_cons_succ, List.set_cons_zero, List.append_nil, true_and, x_bl, x_int, x_some, x_addT, x_addL, x_true, x_false]
  try simp only [s_sFldP]
  try simp only [s_mVar0, s_mVarS, s_mVarO0, s_mVarOS, s_isObj_lst, s_isObj_dic, s_mC, s_mOp, s_mOp1, s_mB, s_mNil, s_mCons, s_mTup, s_mLst, s_mCall, s_mTB, s_mNot, s_mAnd, s_mOr, s_mAndV, s_mOrV, s_mIf, s_mYes, s_mSl, s_mNo, s_mPart, s_mLc, s_mItems, s_mRng1, s_mRng2, s_mEnum, s_mChain, s_seqT, s_seqL, s_sNext, s_sSeq, s_sIf, s_sSet, s_sRet, s_sRetN, s_sBreak, s_sCont, s_sDrop, s_sPar, s_setN0, s_setNS, s_sAsg, s_sApp, s_sAug, s_sFor, s_sSrc, s_gmN, s_gmT, s_gmCons, s_gmNil, s_wipe0, s_wipeS, s_oSub, s_oAddI, s_oAdd, s_oLt, s_oLe, s_oGt, s_oGe, s_oNeg, s_oNot, s_oMul, s_oMulW, s_oMod, s_oFdiv, s_oPow, s_oIsN, s_oNotN, s_oIsB, s_oNotB, s_isNon_int, s_isNon_non, s_isNon_bl, s_isNon_str, s_isNon_tup, s_isNon_lst, s_isNon_dic, s_oEqI, s_oNeI, s_oIxT, s_oIxL, s_oSlT, s_oSlL, s_oRevT, s_oRevL, s_oInt, s_oIntB, s_oAbs, s_oMax2, s_oMin2, s_oLen, s_plenT, s_plenL, s_plenD, s_plenS, s_oTupleL, s_oTupleT, s_oListL, s_oListT, List.set_cons_succ, List.set_cons_zero, List.append_nil, true_and, x_bl, x_int, x_some, x_addT, x_addL, x_true, x_false]
  refine ⟨dx, _, _, rfl, by decide, by decide, ?_⟩
  exact ⟨_, _, rfl, h _ ⟨C, dx, rfl⟩⟩
end K24

set_option maxHeartbeats 2000000
namespace K24
open PySem L2 PM
theorem code_inj {B : Int} : ∀ {k l : List Int}, k.length = l.length → TS.Bd B k → TS.Bd B l → TS.code B k = TS.code B l → k = l
  | [], [], _, _, _, _ => rfl
  | [], _ :: _, h, _, _, _ => by cases h
  | _ :: _, [], h, _, _, _ => by cases h
  | d :: r, e :: q, h, hk, hl, c => by
    have hlen : r.length = q.length := by simpa using h
    rcases Int.lt_trichotomy d e with z | z | z
    · have := TS.code_lt hlen hk.tail hl.tail z; omega
    · subst z
      have c2 : TS.code B r = TS.code B q := by
        have e1 : d * B ^ r.length + TS.code B r = d * B ^ q.length + TS.code B q := c
        rw [hlen] at e1; omega
      rw [code_inj hlen hk.tail hl.tail c2]
    · have := TS.code_lt hlen.symm hl.tail hk.tail z; omega
@[simp] theorem s_sDPutT {i : Nat} {ti te : TEm} {M : Em} {env : PM.Env} : sDPutT i ti te M env ↔ te env fun p => p = .bl true ∧ ∃ ks, env[i]? = some (some (.pdic ks)) ∧ ti env fun q => ∃ k, q = tupI k ∧ ks.length < sizeLine ∧ M.nx (env.set i (some (.pdic (addK ks k)))) := .rfl
/-- the sorted list of these -/
def IsS (ks ys : List (List Int)) : Prop := ys.Nodup ∧ (∀ k, k ∈ ys ↔ k ∈ ks) ∧ ys.Pairwise fun k l => TS.code 1000 k ≤ TS.code 1000 l
open Classical in
noncomputable def srt (ks : List (List Int)) : List (List Int) := if h : ∃ ys, IsS ks ys then choose h else []
/-- pairs of small numbers -/
def Prs (ks : List (List Int)) : Prop := ∀ k ∈ ks, k.length = 2 ∧ TS.Bd 1000 k
theorem IsS.uniq {ks ys zs : List (List Int)} (hp : Prs ks) (h1 : IsS ks ys) (h2 : IsS ks zs) : ys = zs := by
  have p : ys.Perm zs := (List.perm_ext_iff_of_nodup h1.1 h2.1).mpr fun k => (h1.2.1 k).trans (h2.2.1 k).symm
  refine p.eq_of_pairwise (fun a b ha hb c1 c2 => ?_) h1.2.2 h2.2.2
  have ka := hp a ((h1.2.1 a).mp ha)
  have kb := hp b ((h2.2.1 b).mp hb)
  exact code_inj (ka.1.trans kb.1.symm) ka.2 kb.2 (Int.le_antisymm c1 c2)
theorem srt_is {ks ys : List (List Int)} (h : IsS ks ys) : IsS ks (srt ks) := by
  unfold srt
  have he : ∃ ys, IsS ks ys := ⟨ys, h⟩
  rw [dif_pos he]
  exact Classical.choose_spec he
theorem srt_eq {ks ys : List (List Int)} (hp : Prs ks) (h : IsS ks ys) : ys = srt ks := h.uniq hp (srt_is h)
theorem srt_same {ks ls : List (List Int)} (h : ∀ k, k ∈ ks ↔ k ∈ ls) : srt ks = srt ls := by
  have e : IsS ks = IsS ls := by
    funext ys
    unfold IsS
    rw [show (∀ k, k ∈ ys ↔ k ∈ ks) = ∀ k, k ∈ ys ↔ k ∈ ls from propext ⟨fun z k => (z k).trans (h k), fun z k => (z k).trans (h k).symm⟩]
  unfold srt
  rw [e]
/-- the dealing that a note names -/
def key (i : Int) (n : Nt) : Option (List Int) :=
  if n.2.1 = deal then (match n.2.2 with | [j, b] => if j = i then some [n.1, b] else none | _ => none)
  else if n.2.1 = hold then (match n.2.2 with | [j, a, b] => if j = i then some [a, b] else none | _ => none) else none
def keys (ns : List Nt) (i : Int) : List (List Int) := ns.filterMap (key i)
theorem deal_hold : deal ≠ hold := by decide +kernel
theorem wiped_deal : wiped ≠ deal := by decide +kernel
theorem wiped_hold : wiped ≠ hold := by decide +kernel
theorem help_deal : help ≠ deal := by decide +kernel
theorem help_hold : help ≠ hold := by decide +kernel
/-- the named dealings are among few -/
def Nm (ns : List Nt) (i : Int) : Prop := ∃ dl : List (List Int), dl.length ≤ 10 ∧ Prs dl ∧ ∀ k ∈ keys ns i, k ∈ dl
theorem Nm.prs {ns : List Nt} {i : Int} (h : Nm ns i) : Prs (keys ns i) := fun k hk => by
  obtain ⟨dl, _, hp, hs⟩ := h
  exact hp k (hs k hk)
theorem nodup_le : ∀ {a b : List (List Int)}, a.Nodup → (∀ x ∈ a, x ∈ b) → a.length ≤ b.length
  | [], _, _, _ => Nat.zero_le _
  | x :: a, b, h, hs => by
    rw [List.nodup_cons] at h
    have hx := hs x (List.mem_cons_self ..)
    have := nodup_le (b := b.erase x) h.2 fun y hy => by
      have ne : y ≠ x := fun z => h.1 (z ▸ hy)
      exact (List.mem_erase_of_ne ne).mpr (hs y (List.mem_cons_of_mem _ hy))
    rw [List.length_erase_of_mem hx] at this
    have : 0 < b.length := List.length_pos_of_mem hx
    rw [List.length_cons]
    omega
theorem Nm.few {ns : List Nt} {i : Int} (h : Nm ns i) {l : List (List Int)} (hl : ∀ k ∈ l, k ∈ keys ns i) (nd : l.Nodup) : l.length ≤ 10 := by
  obtain ⟨dl, h1, _, hs⟩ := h
  exact Nat.le_trans (nodup_le nd fun k hk => hs k (hl k hk)) h1
theorem addK_mem {ks : List (List Int)} {k l : List Int} : l ∈ addK ks k ↔ l ∈ ks ∨ l = k := by
  unfold addK
  split
  · rename_i h
    exact ⟨.inl, fun z => z.elim id fun e => e ▸ h⟩
  · rw [List.mem_append, List.mem_singleton]
theorem addK_nodup {ks : List (List Int)} {k : List Int} (h : ks.Nodup) : (addK ks k).Nodup := by
  unfold addK
  split
  · exact h
  · rename_i hn
    rw [List.nodup_append]
    exact ⟨h, by simp, fun a ha b hb e => hn (by rw [List.mem_singleton.mp hb] at e; exact e ▸ ha)⟩
def addO (ks : List (List Int)) : Option (List Int) → List (List Int)
  | some k => addK ks k
  | none => ks
noncomputable def named (cs : Crs) (ns : List Nt) (i : Int) : List (List Int) := (srt (keys ns i)).filter fun k => decide (k.headD 0 ∈ lot cs i)
def PreN (cs : Crs) (ns : List Nt) (i : Int) : Prop := Gv cs ns ∧ 0 ≤ i ∧ i + 1 < cs.length ∧ Nm ns i
def sp_dealings_named : PM.Spec := fun ps P => ∃ (cs : Crs) (ns : List Nt) (i : Int), ps = [.tup (cs.map tI), .tup (ns.map ntP), .int i] ∧ PreN cs ns i ∧ (IsS (keys ns i) (srt (keys ns i)) → P (.tup ((named cs ns i).map tupI)))
def sp_l_named : PM.Spec := fun ps P => ∃ (cs : Crs) (ns : List Nt) (i : Int), ps = [.tup (cs.map tI), .tup (ns.map ntP), .int i] ∧ PreN cs ns i ∧ (IsS (keys ns i) (srt (keys ns i)) → P (.lst ((named cs ns i).map tupI)))
theorem oEq_strs {a b : Str} {P : PV → Prop} (ha : PyData.strOk a = true) (hb : PyData.strOk b = true) (h : P (.bl (decide (a = b)))) : oEq (.str a) (.str b) P := by
  refine ⟨.str a, .str b, rfl, rfl, ?_, ?_, ?_⟩
  · unfold SeqAt.shaped
    rw [Bool.and_eq_true]; exact ⟨ha, rfl⟩
  · unfold SeqAt.shaped
    rw [Bool.and_eq_true]; exact ⟨hb, rfl⟩
  · have e : PyData.eqv (.str a) (.str b) = decide (a = b) := by
      show (a == b) = _
      by_cases h : a = b <;> simp [h]
    rw [e]; exact h
theorem pair_filter {cs : Crs} {i : Int} {ys : List (List Int)} (hp : ∀ k ∈ ys, k.length = 2) (h0 : 0 ≤ i) (h1 : i < cs.length) {v0 : PM.Env} {P : PV → Prop} {tt : TTm} {te : TEm} {j : Nat}
    (ht : ∀ a b, [a, b] ∈ ys → ∀ Q : Bool → Prop, Q (decide (a ∈ lot cs i)) → tt (v0.set j (some (tupI [a, b]))) Q) (he : ∀ k ∈ ys, ∀ Q : PV → Prop, Q (tupI k) → te (v0.set j (some (tupI k))) Q) (hl : ys.length ≤ 1000)
    (h : P (.lst ((ys.filter fun k => decide (k.headD 0 ∈ lot cs i)).map tupI))) : mCompGo (gmN j) tt te v0 P (ys.map tupI) [] := by
  refine comp_emb (emb := tupI) (xs := ys) (tst := fun k => decide (k.headD 0 ∈ lot cs i)) (f := tupI) (fun k hk => ⟨_, fun K hK => s_gmN.mpr hK, fun Q hQ => ?_, fun _ Q hQ => he k hk Q hQ⟩) (by rw [List.length_nil]; exact line (by omega)) ?_
  · have hlen := hp k hk
    match k, hlen with
    | [a, b], _ => exact ht a b hk Q hQ
  · rw [List.nil_append]; exact h
theorem h_dealings_named (ps : List PV) (Q : PV → Prop) (h : sp_dealings_named ps Q) : t_dealings_named { nx := fun _ => nxOf .cl Q, rt := Q } (startE n_dealings_named.length ps) := by
  obtain ⟨cs, ns, i, rfl, ⟨G, i0, i1, hm⟩, h⟩ := h
  show t_dealings_named _ [some (.tup (cs.map tI)), some (.tup (ns.map ntP)), some (.int i), none, none, none]
  unfold t_dealings_named
  try simp only [s_mVar0, s_mVarS, s_mVarO0, s_mVarOS, s_isObj_lst, s_isObj_dic, s_mC, s_mOp, s_mOp1, s_mB, s_mNil, s_mCons, s_mTup, s_mLst, s_mCall, s_mTB, s_mNot, s_mAnd, s_mOr, s_mAndV, s_mOrV, s_mIf, s_mYes, s_mSl, s_mNo, s_mPart, s_mLc, s_mItems, s_mRng1, s_mRng2, s_mEnum, s_mChain, s_seqT, s_seqL, s_sNext, s_sSeq, s_sIf, s_sSet, s_sRet, s_sRetN, s_sBreak, s_sCont, s_sDrop, s_sPar, s_setN0, s_setNS, s_sAsg, s_sApp, s_sAug, s_sFor, s_sSrc, s_gmN, s_gmT, s_gmCons, s_gmNil, s_wipe0, s_wipeS, s_oSub, s_oAddI, s_oAdd, s_oLt, s_oLe, s_oGt, s_oGe, s_oNeg, s_oNot, s_oMul, s_oMulW, s_oMod, s_oFdiv, s_oPow, s_oIsN, s_oNotN, s_oIsB, s_oNotB, s_isNon_int, s_isNon_non, s_isNon_bl, s_isNon_str, s_isNon_tup, s_isNon_lst, s_isNon_dic, s_oEqI, s_oNeI, s_oIxT, s_oIxL, s_oSlT, s_oSlL, s_oRevT, s_oRevL, s_oInt, s_oIntB, s_oAbs, s_oMax2, s_oMin2, s_oLen, s_plenT, s_plenL, s_plenD, s_plenS, s_oTupleL, s_oTupleT, s_oListL, s_oListT, List.set_cons_succ, List.set_cons_zero, List.append_nil, true_and, x_bl, x_int, x_some, x_addT, x_addL, x_true, x_false]
  refine for_inv (emb := ntP) (fun j e => j ≤ ns.length ∧ ∃ ks y4, ks.Nodup ∧ (∀ k, k ∈ ks ↔ k ∈ keys (ns.take j) i) ∧ e = [some (.tup (cs.map tI)), some (.tup (ns.map ntP)), some (.int i), some (.pdic ks), y4, none]) ⟨Nat.zero_le _, [], none, List.nodup_nil, fun k => by simp [keys], rfl⟩ (fun j n e N hx hE hN => ?_) (fun e hE => ?_)
  · obtain ⟨hj, ks, y4, nd, hk, rfl⟩ := hE
    have hjl := (List.getElem?_eq_some_iff.mp hx).1
    have hn := List.mem_of_getElem? hx
    have hkl : ks.length < sizeLine := by
      refine small_line (Nat.le_trans (hm.few (l := ks) (fun k hk2 => ?_) nd) (by decide))
      have := (hk k).mp hk2
      unfold keys at this ⊢
      rw [List.mem_filterMap] at this ⊢
      obtain ⟨m, hm1, hm2⟩ := this
      exact ⟨m, List.mem_of_mem_take hm1, hm2⟩
    have fin : N [some (.tup (cs.map tI)), some (.tup (ns.map ntP)), some (.int i), some (.pdic (addO ks (key i n))), some (ntP n), none] := by
      refine hN _ ⟨by omega, addO ks (key i n), some (ntP n), ?_, fun k => ?_, rfl⟩
      · unfold addO; split
        · exact addK_nodup nd
        · exact nd
      · have : keys (ns.take (j + 1)) i = keys (ns.take j) i ++ (key i n).toList := by
          unfold keys
          rw [List.take_add_one, hx, List.filterMap_append]
          congr 1
        rw [this, List.mem_append]
        unfold addO
        cases key i n with
        | none => simp [hk k]
        | some k2 =>
          rw [addK_mem, hk k]
          simp
    rw [s_gmN]
    have K := G.kd n hn
    obtain ⟨a, s, r⟩ := n
    rcases K with ⟨e, ⟨j2, e2⟩ | ⟨j2, a1, b1, e2⟩⟩ | ⟨e, j2, b1, e2⟩ | ⟨e, j2, e2⟩ | ⟨e, j2, r2, e2⟩
    · have e : s = hold := e
      have e2 : r = [j2] := e2
      subst e e2
      have ek : key i (a, hold, [j2]) = none := by unfold key; rw [if_neg (fun z => deal_hold z.symm), if_pos rfl]
      rw [ek] at fin
      unfold ntP at fin ⊢
      try simp only [s_mVar0, s_mVarS, s_mVarO0, s_mVarOS, s_isObj_lst, s_isObj_dic, s_mC, s_mOp, s_mOp1, s_mB, s_mNil, s_mCons, s_mTup, s_mLst, s_mCall, s_mTB, s_mNot, s_mAnd, s_mOr, s_mAndV, s_mOrV, s_mIf, s_mYes, s_mSl, s_mNo, s_mPart, s_mLc, s_mItems, s_mRng1, s_mRng2, s_mEnum, s_mChain, s_seqT, s_seqL, s_sNext, s_sSeq, s_sIf, s_sSet, s_sRet, s_sRetN, s_sBreak, s_sCont, s_sDrop, s_sPar, s_setN0, s_setNS, s_sAsg, s_sApp, s_sAug, s_sFor, s_sSrc, s_gmN, s_gmT, s_gmCons, s_gmNil, s_wipe0, s_wipeS, s_oSub, s_oAddI, s_oAdd, s_oLt, s_oLe, s_oGt, s_oGe, s_oNeg, s_oNot, s_oMul, s_oMulW, s_oMod, s_oFdiv, s_oPow, s_oIsN, s_oNotN, s_oIsB, s_oNotB, s_isNon_int, s_isNon_non, s_isNon_bl, s_isNon_str, s_isNon_tup, s_isNon_lst, s_isNon_dic, s_oEqI, s_oNeI, s_oIxT, s_oIxL, s_oSlT, s_oSlL, s_oRevT, s_oRevL, s_oInt, s_oIntB, s_oAbs, s_oMax2, s_oMin2, s_oLen, s_plenT, s_plenL, s_plenD, s_plenS, s_oTupleL, s_oTupleT, s_oListL, s_oListT, List.set_cons_succ, List.set_cons_zero, List.append_nil, true_and, x_bl, x_int, x_some, x_addT, x_addL, x_true, x_false]
      refine ⟨_, rfl, oEq_strs ok_hold ok_deal ⟨_, rfl, ite_f (fun z => deal_hold (of_decide_eq_true z).symm) ⟨_, rfl, oEq_strs ok_hold ok_hold ⟨_, rfl, ite_t (decide_eq_true rfl) ⟨_, rfl, ?_⟩⟩⟩⟩⟩
      try simp only [s_mVar0, s_mVarS, s_mVarO0, s_mVarOS, s_isObj_lst, s_isObj_dic, s_mC, s_mOp, s_mOp1, s_mB, s_mNil, s_mCons, s_mTup, s_mLst, s_mCall, s_mTB, s_mNot, s_mAnd, s_mOr, s_mAndV, s_mOrV, s_mIf, s_mYes, s_mSl, s_mNo, s_mPart, s_mLc, s_mItems, s_mRng1, s_mRng2, s_mEnum, s_mChain, s_seqT, s_seqL, s_sNext, s_sSeq, s_sIf, s_sSet, s_sRet, s_sRetN, s_sBreak, s_sCont, s_sDrop, s_sPar, s_setN0, s_setNS, s_sAsg, s_sApp, s_sAug, s_sFor, s_sSrc, s_gmN, s_gmT, s_gmCons, s_gmNil, s_wipe0, s_wipeS, s_oSub, s_oAddI, s_oAdd, s_oLt, s_oLe, s_oGt, s_oGe, s_oNeg, s_oNot, s_oMul, s_oMulW, s_oMod, s_oFdiv, s_oPow, s_oIsN, s_oNotN, s_oIsB, s_oNotB, s_isNon_int, s_isNon_non, s_isNon_bl, s_isNon_str, s_isNon_tup, s_isNon_lst, s_isNon_dic, s_oEqI, s_oNeI, s_oIxT, s_oIxL, s_oSlT, s_oSlL, s_oRevT, s_oRevL, s_oInt, s_oIntB, s_oAbs, s_oMax2, s_oMin2, s_oLen, s_plenT, s_plenL, s_plenD, s_plenS, s_oTupleL, s_oTupleT, s_oListL, s_oListT, List.set_cons_succ, List.set_cons_zero, List.append_nil, true_and, x_bl, x_int, x_some, x_addT, x_addL, x_true, x_false]
      by_cases c : j2 = i
      · exact ite_t (decide_eq_true c) (ite_f (by simp) fin)
      · exact ite_f (by simp [c]) fin
    · have e : s = hold := e
      have e2 : r = [j2, a1, b1] := e2
      subst e e2
      have ek : key i (a, hold, [j2, a1, b1]) = if j2 = i then some [a1, b1] else none := by unfold key; rw [if_neg (fun z => deal_hold z.symm), if_pos rfl]
      rw [ek] at fin
      unfold ntP at fin ⊢
      try simp only [s_mVar0, s_mVarS, s_mVarO0, s_mVarOS, s_isObj_lst, s_isObj_dic, s_mC, s_mOp, s_mOp1, s_mB, s_mNil, s_mCons, s_mTup, s_mLst, s_mCall, s_mTB, s_mNot, s_mAnd, s_mOr, s_mAndV, s_mOrV, s_mIf, s_mYes, s_mSl, s_mNo, s_mPart, s_mLc, s_mItems, s_mRng1, s_mRng2, s_mEnum, s_mChain, s_seqT, s_seqL, s_sNext, s_sSeq, s_sIf, s_sSet, s_sRet, s_sRetN, s_sBreak, s_sCont, s_sDrop, s_sPar, s_setN0, s_setNS, s_sAsg, s_sApp, s_sAug, s_sFor, s_sSrc, s_gmN, s_gmT, s_gmCons, s_gmNil, s_wipe0, s_wipeS, s_oSub, s_oAddI, s_oAdd, s_oLt, s_oLe, s_oGt, s_oGe, s_oNeg, s_oNot, s_oMul, s_oMulW, s_oMod, s_oFdiv, s_oPow, s_oIsN, s_oNotN, s_oIsB, s_oNotB, s_isNon_int, s_isNon_non, s_isNon_bl, s_isNon_str, s_isNon_tup, s_isNon_lst, s_isNon_dic, s_oEqI, s_oNeI, s_oIxT, s_oIxL, s_oSlT, s_oSlL, s_oRevT, s_oRevL, s_oInt, s_oIntB, s_oAbs, s_oMax2, s_oMin2, s_oLen, s_plenT, s_plenL, s_plenD, s_plenS, s_oTupleL, s_oTupleT, s_oListL, s_oListT, List.set_cons_succ, List.set_cons_zero, List.append_nil, true_and, x_bl, x_int, x_some, x_addT, x_addL, x_true, x_false]
      refine ⟨_, rfl, oEq_strs ok_hold ok_deal ⟨_, rfl, ite_f (fun z => deal_hold (of_decide_eq_true z).symm) ⟨_, rfl, oEq_strs ok_hold ok_hold ⟨_, rfl, ite_t (decide_eq_true rfl) ⟨_, rfl, ?_⟩⟩⟩⟩⟩
      try simp only [s_mVar0, s_mVarS, s_mVarO0, s_mVarOS, s_isObj_lst, s_isObj_dic, s_mC, s_mOp, s_mOp1, s_mB, s_mNil, s_mCons, s_mTup, s_mLst, s_mCall, s_mTB, s_mNot, s_mAnd, s_mOr, s_mAndV, s_mOrV, s_mIf, s_mYes, s_mSl, s_mNo, s_mPart, s_mLc, s_mItems, s_mRng1, s_mRng2, s_mEnum, s_mChain, s_seqT, s_seqL, s_sNext, s_sSeq, s_sIf, s_sSet, s_sRet, s_sRetN, s_sBreak, s_sCont, s_sDrop, s_sPar, s_setN0, s_setNS, s_sAsg, s_sApp, s_sAug, s_sFor, s_sSrc, s_gmN, s_gmT, s_gmCons, s_gmNil, s_wipe0, s_wipeS, s_oSub, s_oAddI, s_oAdd, s_oLt, s_oLe, s_oGt, s_oGe, s_oNeg, s_oNot, s_oMul, s_oMulW, s_oMod, s_oFdiv, s_oPow, s_oIsN, s_oNotN, s_oIsB, s_oNotB, s_isNon_int, s_isNon_non, s_isNon_bl, s_isNon_str, s_isNon_tup, s_isNon_lst, s_isNon_dic, s_oEqI, s_oNeI, s_oIxT, s_oIxL, s_oSlT, s_oSlL, s_oRevT, s_oRevL, s_oInt, s_oIntB, s_oAbs, s_oMax2, s_oMin2, s_oLen, s_plenT, s_plenL, s_plenD, s_plenS, s_oTupleL, s_oTupleT, s_oListL, s_oListT, List.set_cons_succ, List.set_cons_zero, List.append_nil, true_and, x_bl, x_int, x_some, x_addT, x_addL, x_true, x_false]
      by_cases c : j2 = i
      · rw [if_pos c] at fin
        refine ite_t (decide_eq_true c) (ite_t (by simp) ?_)
        simp only [s_sDPutT]
        try simp only [s_mVar0, s_mVarS, s_mVarO0, s_mVarOS, s_isObj_lst, s_isObj_dic, s_mC, s_mOp, s_mOp1, s_mB, s_mNil, s_mCons, s_mTup, s_mLst, s_mCall, s_mTB, s_mNot, s_mAnd, s_mOr, s_mAndV, s_mOrV, s_mIf, s_mYes, s_mSl, s_mNo, s_mPart, s_mLc, s_mItems, s_mRng1, s_mRng2, s_mEnum, s_mChain, s_seqT, s_seqL, s_sNext, s_sSeq, s_sIf, s_sSet, s_sRet, s_sRetN, s_sBreak, s_sCont, s_sDrop, s_sPar, s_setN0, s_setNS, s_sAsg, s_sApp, s_sAug, s_sFor, s_sSrc, s_gmN, s_gmT, s_gmCons, s_gmNil, s_wipe0, s_wipeS, s_oSub, s_oAddI, s_oAdd, s_oLt, s_oLe, s_oGt, s_oGe, s_oNeg, s_oNot, s_oMul, s_oMulW, s_oMod, s_oFdiv, s_oPow, s_oIsN, s_oNotN, s_oIsB, s_oNotB, s_isNon_int, s_isNon_non, s_isNon_bl, s_isNon_str, s_isNon_tup, s_isNon_lst, s_isNon_dic, s_oEqI, s_oNeI, s_oIxT, s_oIxL, s_oSlT, s_oSlL, s_oRevT, s_oRevL, s_oInt, s_oIntB, s_oAbs, s_oMax2, s_oMin2, s_oLen, s_plenT, s_plenL, s_plenD, s_plenS, s_oTupleL, s_oTupleT, s_oListL, s_oListT, List.set_cons_succ, List.set_cons_zero, List.append_nil, true_and, x_bl, x_int, x_some, x_addT, x_addL, x_true, x_false]
        refine ⟨ks, rfl, _, rfl, _, rfl, line (by simp), [a1, b1], rfl, hkl, fin⟩
      · rw [if_neg c] at fin
        exact ite_f (by simp [c]) fin
    · have e : s = deal := e
      have e2 : r = [j2, b1] := e2
      subst e e2
      have ek : key i (a, deal, [j2, b1]) = if j2 = i then some [a, b1] else none := by unfold key; rw [if_pos rfl]
      rw [ek] at fin
      unfold ntP at fin ⊢
      try simp only [s_mVar0, s_mVarS, s_mVarO0, s_mVarOS, s_isObj_lst, s_isObj_dic, s_mC, s_mOp, s_mOp1, s_mB, s_mNil, s_mCons, s_mTup, s_mLst, s_mCall, s_mTB, s_mNot, s_mAnd, s_mOr, s_mAndV, s_mOrV, s_mIf, s_mYes, s_mSl, s_mNo, s_mPart, s_mLc, s_mItems, s_mRng1, s_mRng2, s_mEnum, s_mChain, s_seqT, s_seqL, s_sNext, s_sSeq, s_sIf, s_sSet, s_sRet, s_sRetN, s_sBreak, s_sCont, s_sDrop, s_sPar, s_setN0, s_setNS, s_sAsg, s_sApp, s_sAug, s_sFor, s_sSrc, s_gmN, s_gmT, s_gmCons, s_gmNil, s_wipe0, s_wipeS, s_oSub, s_oAddI, s_oAdd, s_oLt, s_oLe, s_oGt, s_oGe, s_oNeg, s_oNot, s_oMul, s_oMulW, s_oMod, s_oFdiv, s_oPow, s_oIsN, s_oNotN, s_oIsB, s_oNotB, s_isNon_int, s_isNon_non, s_isNon_bl, s_isNon_str, s_isNon_tup, s_isNon_lst, s_isNon_dic, s_oEqI, s_oNeI, s_oIxT, s_oIxL, s_oSlT, s_oSlL, s_oRevT, s_oRevL, s_oInt, s_oIntB, s_oAbs, s_oMax2, s_oMin2, s_oLen, s_plenT, s_plenL, s_plenD, s_plenS, s_oTupleL, s_oTupleT, s_oListL, s_oListT, List.set_cons_succ, List.set_cons_zero, List.append_nil, true_and, x_bl, x_int, x_some, x_addT, x_addL, x_true, x_false]
      refine ⟨_, rfl, oEq_strs ok_deal ok_deal ⟨_, rfl, ite_t (decide_eq_true rfl) ⟨_, rfl, ?_⟩⟩⟩
      try simp only [s_mVar0, s_mVarS, s_mVarO0, s_mVarOS, s_isObj_lst, s_isObj_dic, s_mC, s_mOp, s_mOp1, s_mB, s_mNil, s_mCons, s_mTup, s_mLst, s_mCall, s_mTB, s_mNot, s_mAnd, s_mOr, s_mAndV, s_mOrV, s_mIf, s_mYes, s_mSl, s_mNo, s_mPart, s_mLc, s_mItems, s_mRng1, s_mRng2, s_mEnum, s_mChain, s_seqT, s_seqL, s_sNext, s_sSeq, s_sIf, s_sSet, s_sRet, s_sRetN, s_sBreak, s_sCont, s_sDrop, s_sPar, s_setN0, s_setNS, s_sAsg, s_sApp, s_sAug, s_sFor, s_sSrc, s_gmN, s_gmT, s_gmCons, s_gmNil, s_wipe0, s_wipeS, s_oSub, s_oAddI, s_oAdd, s_oLt, s_oLe, s_oGt, s_oGe, s_oNeg, s_oNot, s_oMul, s_oMulW, s_oMod, s_oFdiv, s_oPow, s_oIsN, s_oNotN, s_oIsB, s_oNotB, s_isNon_int, s_isNon_non, s_isNon_bl, s_isNon_str, s_isNon_tup, s_isNon_lst, s_isNon_dic, s_oEqI, s_oNeI, s_oIxT, s_oIxL, s_oSlT, s_oSlL, s_oRevT, s_oRevL, s_oInt, s_oIntB, s_oAbs, s_oMax2, s_oMin2, s_oLen, s_plenT, s_plenL, s_plenD, s_plenS, s_oTupleL, s_oTupleT, s_oListL, s_oListT, List.set_cons_succ, List.set_cons_zero, List.append_nil, true_and, x_bl, x_int, x_some, x_addT, x_addL, x_true, x_false]
      by_cases c : j2 = i
      · rw [if_pos c] at fin
        refine ite_t (decide_eq_true c) ?_
        simp only [s_sDPutT]
        try simp only [s_mVar0, s_mVarS, s_mVarO0, s_mVarOS, s_isObj_lst, s_isObj_dic, s_mC, s_mOp, s_mOp1, s_mB, s_mNil, s_mCons, s_mTup, s_mLst, s_mCall, s_mTB, s_mNot, s_mAnd, s_mOr, s_mAndV, s_mOrV, s_mIf, s_mYes, s_mSl, s_mNo, s_mPart, s_mLc, s_mItems, s_mRng1, s_mRng2, s_mEnum, s_mChain, s_seqT, s_seqL, s_sNext, s_sSeq, s_sIf, s_sSet, s_sRet, s_sRetN, s_sBreak, s_sCont, s_sDrop, s_sPar, s_setN0, s_setNS, s_sAsg, s_sApp, s_sAug, s_sFor, s_sSrc, s_gmN, s_gmT, s_gmCons, s_gmNil, s_wipe0, s_wipeS, s_oSub, s_oAddI, s_oAdd, s_oLt, s_oLe, s_oGt, s_oGe, s_oNeg, s_oNot, s_oMul, s_oMulW, s_oMod, s_oFdiv, s_oPow, s_oIsN, s_oNotN, s_oIsB, s_oNotB, s_isNon_int, s_isNon_non, s_isNon_bl, s_isNon_str, s_isNon_tup, s_isNon_lst, s_isNon_dic, s_oEqI, s_oNeI, s_oIxT, s_oIxL, s_oSlT, s_oSlL, s_oRevT, s_oRevL, s_oInt, s_oIntB, s_oAbs, s_oMax2, s_oMin2, s_oLen, s_plenT, s_plenL, s_plenD, s_plenS, s_oTupleL, s_oTupleT, s_oListL, s_oListT, List.set_cons_succ, List.set_cons_zero, List.append_nil, true_and, x_bl, x_int, x_some, x_addT, x_addL, x_true, x_false]
        refine ⟨ks, rfl, _, rfl, _, rfl, line (by simp), [a, b1], rfl, hkl, ?_⟩
        try simp only [s_mVar0, s_mVarS, s_mVarO0, s_mVarOS, s_isObj_lst, s_isObj_dic, s_mC, s_mOp, s_mOp1, s_mB, s_mNil, s_mCons, s_mTup, s_mLst, s_mCall, s_mTB, s_mNot, s_mAnd, s_mOr, s_mAndV, s_mOrV, s_mIf, s_mYes, s_mSl, s_mNo, s_mPart, s_mLc, s_mItems, s_mRng1, s_mRng2, s_mEnum, s_mChain, s_seqT, s_seqL, s_sNext, s_sSeq, s_sIf, s_sSet, s_sRet, s_sRetN, s_sBreak, s_sCont, s_sDrop, s_sPar, s_setN0, s_setNS, s_sAsg, s_sApp, s_sAug, s_sFor, s_sSrc, s_gmN, s_gmT, s_gmCons, s_gmNil, s_wipe0, s_wipeS, s_oSub, s_oAddI, s_oAdd, s_oLt, s_oLe, s_oGt, s_oGe, s_oNeg, s_oNot, s_oMul, s_oMulW, s_oMod, s_oFdiv, s_oPow, s_oIsN, s_oNotN, s_oIsB, s_oNotB, s_isNon_int, s_isNon_non, s_isNon_bl, s_isNon_str, s_isNon_tup, s_isNon_lst, s_isNon_dic, s_oEqI, s_oNeI, s_oIxT, s_oIxL, s_oSlT, s_oSlL, s_oRevT, s_oRevL, s_oInt, s_oIntB, s_oAbs, s_oMax2, s_oMin2, s_oLen, s_plenT, s_plenL, s_plenD, s_plenS, s_oTupleL, s_oTupleT, s_oListL, s_oListT, List.set_cons_succ, List.set_cons_zero, List.append_nil, true_and, x_bl, x_int, x_some, x_addT, x_addL, x_true, x_false]
        exact ⟨_, rfl, oEq_strs ok_deal ok_hold ⟨_, rfl, ite_f (fun z => deal_hold (of_decide_eq_true z)) fin⟩⟩
      · rw [if_neg c] at fin
        refine ite_f (by simp [c]) ?_
        exact ⟨_, rfl, oEq_strs ok_deal ok_hold ⟨_, rfl, ite_f (fun z => deal_hold (of_decide_eq_true z)) fin⟩⟩
    · have e : s = wiped := e
      have e2 : r = [j2] := e2
      subst e e2
      have ek : key i (a, wiped, [j2]) = none := by unfold key; rw [if_neg wiped_deal, if_neg wiped_hold]
      rw [ek] at fin
      unfold ntP at fin ⊢
      try simp only [s_mVar0, s_mVarS, s_mVarO0, s_mVarOS, s_isObj_lst, s_isObj_dic, s_mC, s_mOp, s_mOp1, s_mB, s_mNil, s_mCons, s_mTup, s_mLst, s_mCall, s_mTB, s_mNot, s_mAnd, s_mOr, s_mAndV, s_mOrV, s_mIf, s_mYes, s_mSl, s_mNo, s_mPart, s_mLc, s_mItems, s_mRng1, s_mRng2, s_mEnum, s_mChain, s_seqT, s_seqL, s_sNext, s_sSeq, s_sIf, s_sSet, s_sRet, s_sRetN, s_sBreak, s_sCont, s_sDrop, s_sPar, s_setN0, s_setNS, s_sAsg, s_sApp, s_sAug, s_sFor, s_sSrc, s_gmN, s_gmT, s_gmCons, s_gmNil, s_wipe0, s_wipeS, s_oSub, s_oAddI, s_oAdd, s_oLt, s_oLe, s_oGt, s_oGe, s_oNeg, s_oNot, s_oMul, s_oMulW, s_oMod, s_oFdiv, s_oPow, s_oIsN, s_oNotN, s_oIsB, s_oNotB, s_isNon_int, s_isNon_non, s_isNon_bl, s_isNon_str, s_isNon_tup, s_isNon_lst, s_isNon_dic, s_oEqI, s_oNeI, s_oIxT, s_oIxL, s_oSlT, s_oSlL, s_oRevT, s_oRevL, s_oInt, s_oIntB, s_oAbs, s_oMax2, s_oMin2, s_oLen, s_plenT, s_plenL, s_plenD, s_plenS, s_oTupleL, s_oTupleT, s_oListL, s_oListT, List.set_cons_succ, List.set_cons_zero, List.append_nil, true_and, x_bl, x_int, x_some, x_addT, x_addL, x_true, x_false]
      refine ⟨_, at_of 1 rfl, oEq_strs ok_wiped ok_deal ⟨_, rfl, ite_f (fun z => wiped_deal (of_decide_eq_true z)) ⟨_, at_of 1 rfl, oEq_strs ok_wiped ok_hold ⟨_, rfl, ite_f (fun z => wiped_hold (of_decide_eq_true z)) fin⟩⟩⟩⟩
    · have e : s = help := e
      have e2 : r = j2 :: r2 := e2
      subst e e2
      have ek : key i (a, help, j2 :: r2) = none := by unfold key; rw [if_neg help_deal, if_neg help_hold]
      rw [ek] at fin
      unfold ntP at fin ⊢
      try simp only [s_mVar0, s_mVarS, s_mVarO0, s_mVarOS, s_isObj_lst, s_isObj_dic, s_mC, s_mOp, s_mOp1, s_mB, s_mNil, s_mCons, s_mTup, s_mLst, s_mCall, s_mTB, s_mNot, s_mAnd, s_mOr, s_mAndV, s_mOrV, s_mIf, s_mYes, s_mSl, s_mNo, s_mPart, s_mLc, s_mItems, s_mRng1, s_mRng2, s_mEnum, s_mChain, s_seqT, s_seqL, s_sNext, s_sSeq, s_sIf, s_sSet, s_sRet, s_sRetN, s_sBreak, s_sCont, s_sDrop, s_sPar, s_setN0, s_setNS, s_sAsg, s_sApp, s_sAug, s_sFor, s_sSrc, s_gmN, s_gmT, s_gmCons, s_gmNil, s_wipe0, s_wipeS, s_oSub, s_oAddI, s_oAdd, s_oLt, s_oLe, s_oGt, s_oGe, s_oNeg, s_oNot, s_oMul, s_oMulW, s_oMod, s_oFdiv, s_oPow, s_oIsN, s_oNotN, s_oIsB, s_oNotB, s_isNon_int, s_isNon_non, s_isNon_bl, s_isNon_str, s_isNon_tup, s_isNon_lst, s_isNon_dic, s_oEqI, s_oNeI, s_oIxT, s_oIxL, s_oSlT, s_oSlL, s_oRevT, s_oRevL, s_oInt, s_oIntB, s_oAbs, s_oMax2, s_oMin2, s_oLen, s_plenT, s_plenL, s_plenD, s_plenS, s_oTupleL, s_oTupleT, s_oListL, s_oListT, List.set_cons_succ, List.set_cons_zero, List.append_nil, true_and, x_bl, x_int, x_some, x_addT, x_addL, x_true, x_false]
      refine ⟨_, at_of 1 rfl, oEq_strs ok_help ok_deal ⟨_, rfl, ite_f (fun z => help_deal (of_decide_eq_true z)) ⟨_, at_of 1 rfl, oEq_strs ok_help ok_hold ⟨_, rfl, ite_f (fun z => help_hold (of_decide_eq_true z)) fin⟩⟩⟩⟩
  · obtain ⟨hj, ks, y4, nd, hk, rfl⟩ := hE
    rw [List.take_length] at hk
    try simp only [s_mVar0, s_mVarS, s_mVarO0, s_mVarOS, s_isObj_lst, s_isObj_dic, s_mC, s_mOp, s_mOp1, s_mB, s_mNil, s_mCons, s_mTup, s_mLst, s_mCall, s_mTB, s_mNot, s_mAnd, s_mOr, s_mAndV, s_mOrV, s_mIf, s_mYes, s_mSl, s_mNo, s_mPart, s_mLc, s_mItems, s_mRng1, s_mRng2, s_mEnum, s_mChain, s_seqT, s_seqL, s_sNext, s_sSeq, s_sIf, s_sSet, s_sRet, s_sRetN, s_sBreak, s_sCont, s_sDrop, s_sPar, s_setN0, s_setNS, s_sAsg, s_sApp, s_sAug, s_sFor, s_sSrc, s_gmN, s_gmT, s_gmCons, s_gmNil, s_wipe0, s_wipeS, s_oSub, s_oAddI, s_oAdd, s_oLt, s_oLe, s_oGt, s_oGe, s_oNeg, s_oNot, s_oMul, s_oMulW, s_oMod, s_oFdiv, s_oPow, s_oIsN, s_oNotN, s_oIsB, s_oNotB, s_isNon_int, s_isNon_non, s_isNon_bl, s_isNon_str, s_isNon_tup, s_isNon_lst, s_isNon_dic, s_oEqI, s_oNeI, s_oIxT, s_oIxL, s_oSlT, s_oSlL, s_oRevT, s_oRevL, s_oInt, s_oIntB, s_oAbs, s_oMax2, s_oMin2, s_oLen, s_plenT, s_plenL, s_plenD, s_plenS, s_oTupleL, s_oTupleT, s_oListL, s_oListT, List.set_cons_succ, List.set_cons_zero, List.append_nil, true_and, x_bl, x_int, x_some, x_addT, x_addL, x_true, x_false]
    have hks : ∀ k ∈ ks, k ∈ keys ns i := fun k h => (hk k).mp h
    have hp := hm.prs
    refine ⟨rfl, ⟨ks, 2, 1000, rfl, ⟨by decide, fun k h => hp k (hks k h)⟩, Nat.lt_of_le_of_lt (hm.few hks nd) (show 10 < 64 by decide), fun ys h1 h2 h3 => ?_⟩⟩
    have hS : IsS (keys ns i) ys := ⟨h1, fun k => (h2 k).trans (hk k), h3⟩
    have hy : ∀ k ∈ ys, k ∈ keys ns i := fun k h => (hS.2.1 k).mp h
    refine ⟨_, rfl, ?_⟩
    refine pair_filter (cs := cs) (i := i) (fun k hk => (hp k (hy k hk)).1) i0 (by omega) (fun a b hab Q hQ => ?_) (fun k hk Q hQ => ?_) (Nat.le_trans (hm.few hy h1) (by decide)) ?_
    · try simp only [s_mVar0, s_mVarS, s_mVarO0, s_mVarOS, s_isObj_lst, s_isObj_dic, s_mC, s_mOp, s_mOp1, s_mB, s_mNil, s_mCons, s_mTup, s_mLst, s_mCall, s_mTB, s_mNot, s_mAnd, s_mOr, s_mAndV, s_mOrV, s_mIf, s_mYes, s_mSl, s_mNo, s_mPart, s_mLc, s_mItems, s_mRng1, s_mRng2, s_mEnum, s_mChain, s_seqT, s_seqL, s_sNext, s_sSeq, s_sIf, s_sSet, s_sRet, s_sRetN, s_sBreak, s_sCont, s_sDrop, s_sPar, s_setN0, s_setNS, s_sAsg, s_sApp, s_sAug, s_sFor, s_sSrc, s_gmN, s_gmT, s_gmCons, s_gmNil, s_wipe0, s_wipeS, s_oSub, s_oAddI, s_oAdd, s_oLt, s_oLe, s_oGt, s_oGe, s_oNeg, s_oNot, s_oMul, s_oMulW, s_oMod, s_oFdiv, s_oPow, s_oIsN, s_oNotN, s_oIsB, s_oNotB, s_isNon_int, s_isNon_non, s_isNon_bl, s_isNon_str, s_isNon_tup, s_isNon_lst, s_isNon_dic, s_oEqI, s_oNeI, s_oIxT, s_oIxL, s_oSlT, s_oSlL, s_oRevT, s_oRevL, s_oInt, s_oIntB, s_oAbs, s_oMax2, s_oMin2, s_oLen, s_plenT, s_plenL, s_plenD, s_plenS, s_oTupleL, s_oTupleT, s_oListL, s_oListT, List.set_cons_succ, List.set_cons_zero, List.append_nil, true_and, x_bl, x_int, x_some, x_addT, x_addL, x_true, x_false]
      unfold tupI
      try simp only [s_mVar0, s_mVarS, s_mVarO0, s_mVarOS, s_isObj_lst, s_isObj_dic, s_mC, s_mOp, s_mOp1, s_mB, s_mNil, s_mCons, s_mTup, s_mLst, s_mCall, s_mTB, s_mNot, s_mAnd, s_mOr, s_mAndV, s_mOrV, s_mIf, s_mYes, s_mSl, s_mNo, s_mPart, s_mLc, s_mItems, s_mRng1, s_mRng2, s_mEnum, s_mChain, s_seqT, s_seqL, s_sNext, s_sSeq, s_sIf, s_sSet, s_sRet, s_sRetN, s_sBreak, s_sCont, s_sDrop, s_sPar, s_setN0, s_setNS, s_sAsg, s_sApp, s_sAug, s_sFor, s_sSrc, s_gmN, s_gmT, s_gmCons, s_gmNil, s_wipe0, s_wipeS, s_oSub, s_oAddI, s_oAdd, s_oLt, s_oLe, s_oGt, s_oGe, s_oNeg, s_oNot, s_oMul, s_oMulW, s_oMod, s_oFdiv, s_oPow, s_oIsN, s_oNotN, s_oIsB, s_oNotB, s_isNon_int, s_isNon_non, s_isNon_bl, s_isNon_str, s_isNon_tup, s_isNon_lst, s_isNon_dic, s_oEqI, s_oNeI, s_oIxT, s_oIxL, s_oSlT, s_oSlL, s_oRevT, s_oRevL, s_oInt, s_oIntB, s_oAbs, s_oMax2, s_oMin2, s_oLen, s_plenT, s_plenL, s_plenD, s_plenS, s_oTupleL, s_oTupleT, s_oListL, s_oListT, List.set_cons_succ, List.set_cons_zero, List.append_nil, true_and, x_bl, x_int, x_some, x_addT, x_addL, x_true, x_false]
      refine ⟨_, tI_at0, _, lot_at i0 (by omega), oIn_intsT ⟨_, rfl, hQ⟩⟩
    · try simp only [s_mVar0, s_mVarS, s_mVarO0, s_mVarOS, s_isObj_lst, s_isObj_dic, s_mC, s_mOp, s_mOp1, s_mB, s_mNil, s_mCons, s_mTup, s_mLst, s_mCall, s_mTB, s_mNot, s_mAnd, s_mOr, s_mAndV, s_mOrV, s_mIf, s_mYes, s_mSl, s_mNo, s_mPart, s_mLc, s_mItems, s_mRng1, s_mRng2, s_mEnum, s_mChain, s_seqT, s_seqL, s_sNext, s_sSeq, s_sIf, s_sSet, s_sRet, s_sRetN, s_sBreak, s_sCont, s_sDrop, s_sPar, s_setN0, s_setNS, s_sAsg, s_sApp, s_sAug, s_sFor, s_sSrc, s_gmN, s_gmT, s_gmCons, s_gmNil, s_wipe0, s_wipeS, s_oSub, s_oAddI, s_oAdd, s_oLt, s_oLe, s_oGt, s_oGe, s_oNeg, s_oNot, s_oMul, s_oMulW, s_oMod, s_oFdiv, s_oPow, s_oIsN, s_oNotN, s_oIsB, s_oNotB, s_isNon_int, s_isNon_non, s_isNon_bl, s_isNon_str, s_isNon_tup, s_isNon_lst, s_isNon_dic, s_oEqI, s_oNeI, s_oIxT, s_oIxL, s_oSlT, s_oSlL, s_oRevT, s_oRevL, s_oInt, s_oIntB, s_oAbs, s_oMax2, s_oMin2, s_oLen, s_plenT, s_plenL, s_plenD, s_plenS, s_oTupleL, s_oTupleT, s_oListL, s_oListT, List.set_cons_succ, List.set_cons_zero, List.append_nil, true_and, x_bl, x_int, x_some, x_addT, x_addL, x_true, x_false]
      exact hQ
    · try simp only [s_mVar0, s_mVarS, s_mVarO0, s_mVarOS, s_isObj_lst, s_isObj_dic, s_mC, s_mOp, s_mOp1, s_mB, s_mNil, s_mCons, s_mTup, s_mLst, s_mCall, s_mTB, s_mNot, s_mAnd, s_mOr, s_mAndV, s_mOrV, s_mIf, s_mYes, s_mSl, s_mNo, s_mPart, s_mLc, s_mItems, s_mRng1, s_mRng2, s_mEnum, s_mChain, s_seqT, s_seqL, s_sNext, s_sSeq, s_sIf, s_sSet, s_sRet, s_sRetN, s_sBreak, s_sCont, s_sDrop, s_sPar, s_setN0, s_setNS, s_sAsg, s_sApp, s_sAug, s_sFor, s_sSrc, s_gmN, s_gmT, s_gmCons, s_gmNil, s_wipe0, s_wipeS, s_oSub, s_oAddI, s_oAdd, s_oLt, s_oLe, s_oGt, s_oGe, s_oNeg, s_oNot, s_oMul, s_oMulW, s_oMod, s_oFdiv, s_oPow, s_oIsN, s_oNotN, s_oIsB, s_oNotB, s_isNon_int, s_isNon_non, s_isNon_bl, s_isNon_str, s_isNon_tup, s_isNon_lst, s_isNon_dic, s_oEqI, s_oNeI, s_oIxT, s_oIxL, s_oSlT, s_oSlL, s_oRevT, s_oRevL, s_oInt, s_oIntB, s_oAbs, s_oMax2, s_oMin2, s_oLen, s_plenT, s_plenL, s_plenD, s_plenS, s_oTupleL, s_oTupleT, s_oListL, s_oListT, List.set_cons_succ, List.set_cons_zero, List.append_nil, true_and, x_bl, x_int, x_some, x_addT, x_addL, x_true, x_false]
      have e := srt_eq hp hS
      subst e
      exact h hS
theorem h_l_named (ps : List PV) (Q : PV → Prop) (h : sp_l_named ps Q) : t_l_named { nx := fun _ => nxOf .fr Q, rt := Q } (startE n_l_named.length ps) := by
  obtain ⟨cs, ns, i, rfl, ⟨G, i0, i1, hm⟩, h⟩ := h
  show t_l_named _ [some (.tup (cs.map tI)), some (.tup (ns.map ntP)), some (.int i), none, none, none]
  unfold t_l_named
  try simp only [s_mVar0, s_mVarS, s_mVarO0, s_mVarOS, s_isObj_lst, s_isObj_dic, s_mC, s_mOp, s_mOp1, s_mB, s_mNil, s_mCons, s_mTup, s_mLst, s_mCall, s_mTB, s_mNot, s_mAnd, s_mOr, s_mAndV, s_mOrV, s_mIf, s_mYes, s_mSl, s_mNo, s_mPart, s_mLc, s_mItems, s_mRng1, s_mRng2, s_mEnum, s_mChain, s_seqT, s_seqL, s_sNext, s_sSeq, s_sIf, s_sSet, s_sRet, s_sRetN, s_sBreak, s_sCont, s_sDrop, s_sPar, s_setN0, s_setNS, s_sAsg, s_sApp, s_sAug, s_sFor, s_sSrc, s_gmN, s_gmT, s_gmCons, s_gmNil, s_wipe0, s_wipeS, s_oSub, s_oAddI, s_oAdd, s_oLt, s_oLe, s_oGt, s_oGe, s_oNeg, s_oNot, s_oMul, s_oMulW, s_oMod, s_oFdiv, s_oPow, s_oIsN, s_oNotN, s_oIsB, s_oNotB, s_isNon_int, s_isNon_non, s_isNon_bl, s_isNon_str, s_isNon_tup, s_isNon_lst, s_isNon_dic, s_oEqI, s_oNeI, s_oIxT, s_oIxL, s_oSlT, s_oSlL, s_oRevT, s_oRevL, s_oInt, s_oIntB, s_oAbs, s_oMax2, s_oMin2, s_oLen, s_plenT, s_plenL, s_plenD, s_plenS, s_oTupleL, s_oTupleT, s_oListL, s_oListT, List.set_cons_succ, List.set_cons_zero, List.append_nil, true_and, x_bl, x_int, x_some, x_addT, x_addL, x_true, x_false]
  refine ⟨Nat.zero_le _, ?_⟩
  have hp := hm.prs
  have hf := G.few
  refine for_inv (emb := ntP) (fun j e => j ≤ ns.length ∧ ∃ y4, e = [some (.tup (cs.map tI)), some (.tup (ns.map ntP)), some (.int i), some (.lst ((keys (ns.take j) i).map tupI)), y4, none]) ⟨Nat.zero_le _, none, rfl⟩ (fun j n e N hx hE hN => ?_) (fun e hE => ?_)
  · obtain ⟨hj, y4, rfl⟩ := hE
    have hjl := (List.getElem?_eq_some_iff.mp hx).1
    have hn := List.mem_of_getElem? hx
    have hkl : ((keys (ns.take j) i).map tupI).length < sizeLine := by
      rw [List.length_map]
      have : (keys (ns.take j) i).length ≤ (ns.take j).length := List.length_filterMap_le _ _
      rw [List.length_take] at this
      exact small_line (by omega)
    have fin : N [some (.tup (cs.map tI)), some (.tup (ns.map ntP)), some (.int i), some (.lst ((keys (ns.take j) i).map tupI ++ ((key i n).toList.map tupI))), some (ntP n), none] := by
      refine hN _ ⟨by omega, some (ntP n), ?_⟩
      have : keys (ns.take (j + 1)) i = keys (ns.take j) i ++ (key i n).toList := by
        unfold keys
        rw [List.take_add_one, hx, List.filterMap_append]
        congr 1
      rw [this, List.map_append]
    rw [s_gmN]
    have K := G.kd n hn
    obtain ⟨a, s, r⟩ := n
    rcases K with ⟨e, ⟨j2, e2⟩ | ⟨j2, a1, b1, e2⟩⟩ | ⟨e, j2, b1, e2⟩ | ⟨e, j2, e2⟩ | ⟨e, j2, r2, e2⟩
    · have e : s = hold := e
      have e2 : r = [j2] := e2
      subst e e2
      have ek : key i (a, hold, [j2]) = none := by unfold key; rw [if_neg (fun z => deal_hold z.symm), if_pos rfl]
      rw [ek] at fin
      try rw [show ((none : Option (List Int)).toList.map tupI) = [] from rfl, List.append_nil] at fin
      unfold ntP at fin ⊢
      try simp only [s_mVar0, s_mVarS, s_mVarO0, s_mVarOS, s_isObj_lst, s_isObj_dic, s_mC, s_mOp, s_mOp1, s_mB, s_mNil, s_mCons, s_mTup, s_mLst, s_mCall, s_mTB, s_mNot, s_mAnd, s_mOr, s_mAndV, s_mOrV, s_mIf, s_mYes, s_mSl, s_mNo, s_mPart, s_mLc, s_mItems, s_mRng1, s_mRng2, s_mEnum, s_mChain, s_seqT, s_seqL, s_sNext, s_sSeq, s_sIf, s_sSet, s_sRet, s_sRetN, s_sBreak, s_sCont, s_sDrop, s_sPar, s_setN0, s_setNS, s_sAsg, s_sApp, s_sAug, s_sFor, s_sSrc, s_gmN, s_gmT, s_gmCons, s_gmNil, s_wipe0, s_wipeS, s_oSub, s_oAddI, s_oAdd, s_oLt, s_oLe, s_oGt, s_oGe, s_oNeg, s_oNot, s_oMul, s_oMulW, s_oMod, s_oFdiv, s_oPow, s_oIsN, s_oNotN, s_oIsB, s_oNotB, s_isNon_int, s_isNon_non, s_isNon_bl, s_isNon_str, s_isNon_tup, s_isNon_lst, s_isNon_dic, s_oEqI, s_oNeI, s_oIxT, s_oIxL, s_oSlT, s_oSlL, s_oRevT, s_oRevL, s_oInt, s_oIntB, s_oAbs, s_oMax2, s_oMin2, s_oLen, s_plenT, s_plenL, s_plenD, s_plenS, s_oTupleL, s_oTupleT, s_oListL, s_oListT, List.set_cons_succ, List.set_cons_zero, List.append_nil, true_and, x_bl, x_int, x_some, x_addT, x_addL, x_true, x_false]
      refine ⟨_, rfl, oEq_strs ok_hold ok_deal ⟨_, rfl, ite_f (fun z => deal_hold (of_decide_eq_true z).symm) ⟨_, rfl, oEq_strs ok_hold ok_hold ⟨_, rfl, ite_t (decide_eq_true rfl) ⟨_, rfl, ?_⟩⟩⟩⟩⟩
      try simp only [s_mVar0, s_mVarS, s_mVarO0, s_mVarOS, s_isObj_lst, s_isObj_dic, s_mC, s_mOp, s_mOp1, s_mB, s_mNil, s_mCons, s_mTup, s_mLst, s_mCall, s_mTB, s_mNot, s_mAnd, s_mOr, s_mAndV, s_mOrV, s_mIf, s_mYes, s_mSl, s_mNo, s_mPart, s_mLc, s_mItems, s_mRng1, s_mRng2, s_mEnum, s_mChain, s_seqT, s_seqL, s_sNext, s_sSeq, s_sIf, s_sSet, s_sRet, s_sRetN, s_sBreak, s_sCont, s_sDrop, s_sPar, s_setN0, s_setNS, s_sAsg, s_sApp, s_sAug, s_sFor, s_sSrc, s_gmN, s_gmT, s_gmCons, s_gmNil, s_wipe0, s_wipeS, s_oSub, s_oAddI, s_oAdd, s_oLt, s_oLe, s_oGt, s_oGe, s_oNeg, s_oNot, s_oMul, s_oMulW, s_oMod, s_oFdiv, s_oPow, s_oIsN, s_oNotN, s_oIsB, s_oNotB, s_isNon_int, s_isNon_non, s_isNon_bl, s_isNon_str, s_isNon_tup, s_isNon_lst, s_isNon_dic, s_oEqI, s_oNeI, s_oIxT, s_oIxL, s_oSlT, s_oSlL, s_oRevT, s_oRevL, s_oInt, s_oIntB, s_oAbs, s_oMax2, s_oMin2, s_oLen, s_plenT, s_plenL, s_plenD, s_plenS, s_oTupleL, s_oTupleT, s_oListL, s_oListT, List.set_cons_succ, List.set_cons_zero, List.append_nil, true_and, x_bl, x_int, x_some, x_addT, x_addL, x_true, x_false]
      by_cases c : j2 = i
      · exact ite_t (decide_eq_true c) (ite_f (by simp) fin)
      · exact ite_f (by simp [c]) fin
    · have e : s = hold := e
      have e2 : r = [j2, a1, b1] := e2
      subst e e2
      have ek : key i (a, hold, [j2, a1, b1]) = if j2 = i then some [a1, b1] else none := by unfold key; rw [if_neg (fun z => deal_hold z.symm), if_pos rfl]
      rw [ek] at fin
      try rw [show ((none : Option (List Int)).toList.map tupI) = [] from rfl, List.append_nil] at fin
      unfold ntP at fin ⊢
      try simp only [s_mVar0, s_mVarS, s_mVarO0, s_mVarOS, s_isObj_lst, s_isObj_dic, s_mC, s_mOp, s_mOp1, s_mB, s_mNil, s_mCons, s_mTup, s_mLst, s_mCall, s_mTB, s_mNot, s_mAnd, s_mOr, s_mAndV, s_mOrV, s_mIf, s_mYes, s_mSl, s_mNo, s_mPart, s_mLc, s_mItems, s_mRng1, s_mRng2, s_mEnum, s_mChain, s_seqT, s_seqL, s_sNext, s_sSeq, s_sIf, s_sSet, s_sRet, s_sRetN, s_sBreak, s_sCont, s_sDrop, s_sPar, s_setN0, s_setNS, s_sAsg, s_sApp, s_sAug, s_sFor, s_sSrc, s_gmN, s_gmT, s_gmCons, s_gmNil, s_wipe0, s_wipeS, s_oSub, s_oAddI, s_oAdd, s_oLt, s_oLe, s_oGt, s_oGe, s_oNeg, s_oNot, s_oMul, s_oMulW, s_oMod, s_oFdiv, s_oPow, s_oIsN, s_oNotN, s_oIsB, s_oNotB, s_isNon_int, s_isNon_non, s_isNon_bl, s_isNon_str, s_isNon_tup, s_isNon_lst, s_isNon_dic, s_oEqI, s_oNeI, s_oIxT, s_oIxL, s_oSlT, s_oSlL, s_oRevT, s_oRevL, s_oInt, s_oIntB, s_oAbs, s_oMax2, s_oMin2, s_oLen, s_plenT, s_plenL, s_plenD, s_plenS, s_oTupleL, s_oTupleT, s_oListL, s_oListT, List.set_cons_succ, List.set_cons_zero, List.append_nil, true_and, x_bl, x_int, x_some, x_addT, x_addL, x_true, x_false]
      refine ⟨_, rfl, oEq_strs ok_hold ok_deal ⟨_, rfl, ite_f (fun z => deal_hold (of_decide_eq_true z).symm) ⟨_, rfl, oEq_strs ok_hold ok_hold ⟨_, rfl, ite_t (decide_eq_true rfl) ⟨_, rfl, ?_⟩⟩⟩⟩⟩
      try simp only [s_mVar0, s_mVarS, s_mVarO0, s_mVarOS, s_isObj_lst, s_isObj_dic, s_mC, s_mOp, s_mOp1, s_mB, s_mNil, s_mCons, s_mTup, s_mLst, s_mCall, s_mTB, s_mNot, s_mAnd, s_mOr, s_mAndV, s_mOrV, s_mIf, s_mYes, s_mSl, s_mNo, s_mPart, s_mLc, s_mItems, s_mRng1, s_mRng2, s_mEnum, s_mChain, s_seqT, s_seqL, s_sNext, s_sSeq, s_sIf, s_sSet, s_sRet, s_sRetN, s_sBreak, s_sCont, s_sDrop, s_sPar, s_setN0, s_setNS, s_sAsg, s_sApp, s_sAug, s_sFor, s_sSrc, s_gmN, s_gmT, s_gmCons, s_gmNil, s_wipe0, s_wipeS, s_oSub, s_oAddI, s_oAdd, s_oLt, s_oLe, s_oGt, s_oGe, s_oNeg, s_oNot, s_oMul, s_oMulW, s_oMod, s_oFdiv, s_oPow, s_oIsN, s_oNotN, s_oIsB, s_oNotB, s_isNon_int, s_isNon_non, s_isNon_bl, s_isNon_str, s_isNon_tup, s_isNon_lst, s_isNon_dic, s_oEqI, s_oNeI, s_oIxT, s_oIxL, s_oSlT, s_oSlL, s_oRevT, s_oRevL, s_oInt, s_oIntB, s_oAbs, s_oMax2, s_oMin2, s_oLen, s_plenT, s_plenL, s_plenD, s_plenS, s_oTupleL, s_oTupleT, s_oListL, s_oListT, List.set_cons_succ, List.set_cons_zero, List.append_nil, true_and, x_bl, x_int, x_some, x_addT, x_addL, x_true, x_false]
      by_cases c : j2 = i
      · rw [if_pos c] at fin
        refine ite_t (decide_eq_true c) (ite_t (by simp) ?_)
        refine ⟨_, rfl, _, rfl, _, rfl, line (by simp), hkl, ?_⟩
        exact fin
      · rw [if_neg c, show ((none : Option (List Int)).toList.map tupI) = [] from rfl, List.append_nil] at fin
        exact ite_f (by simp [c]) fin
    · have e : s = deal := e
      have e2 : r = [j2, b1] := e2
      subst e e2
      have ek : key i (a, deal, [j2, b1]) = if j2 = i then some [a, b1] else none := by unfold key; rw [if_pos rfl]
      rw [ek] at fin
      try rw [show ((none : Option (List Int)).toList.map tupI) = [] from rfl, List.append_nil] at fin
      unfold ntP at fin ⊢
      try simp only [s_mVar0, s_mVarS, s_mVarO0, s_mVarOS, s_isObj_lst, s_isObj_dic, s_mC, s_mOp, s_mOp1, s_mB, s_mNil, s_mCons, s_mTup, s_mLst, s_mCall, s_mTB, s_mNot, s_mAnd, s_mOr, s_mAndV, s_mOrV, s_mIf, s_mYes, s_mSl, s_mNo, s_mPart, s_mLc, s_mItems, s_mRng1, s_mRng2, s_mEnum, s_mChain, s_seqT, s_seqL, s_sNext, s_sSeq, s_sIf, s_sSet, s_sRet, s_sRetN, s_sBreak, s_sCont, s_sDrop, s_sPar, s_setN0, s_setNS, s_sAsg, s_sApp, s_sAug, s_sFor, s_sSrc, s_gmN, s_gmT, s_gmCons, s_gmNil, s_wipe0, s_wipeS, s_oSub, s_oAddI, s_oAdd, s_oLt, s_oLe, s_oGt, s_oGe, s_oNeg, s_oNot, s_oMul, s_oMulW, s_oMod, s_oFdiv, s_oPow, s_oIsN, s_oNotN, s_oIsB, s_oNotB, s_isNon_int, s_isNon_non, s_isNon_bl, s_isNon_str, s_isNon_tup, s_isNon_lst, s_isNon_dic, s_oEqI, s_oNeI, s_oIxT, s_oIxL, s_oSlT, s_oSlL, s_oRevT, s_oRevL, s_oInt, s_oIntB, s_oAbs, s_oMax2, s_oMin2, s_oLen, s_plenT, s_plenL, s_plenD, s_plenS, s_oTupleL, s_oTupleT, s_oListL, s_oListT, List.set_cons_succ, List.set_cons_zero, List.append_nil, true_and, x_bl, x_int, x_some, x_addT, x_addL, x_true, x_false]
      refine ⟨_, rfl, oEq_strs ok_deal ok_deal ⟨_, rfl, ite_t (decide_eq_true rfl) ⟨_, rfl, ?_⟩⟩⟩
      try simp only [s_mVar0, s_mVarS, s_mVarO0, s_mVarOS, s_isObj_lst, s_isObj_dic, s_mC, s_mOp, s_mOp1, s_mB, s_mNil, s_mCons, s_mTup, s_mLst, s_mCall, s_mTB, s_mNot, s_mAnd, s_mOr, s_mAndV, s_mOrV, s_mIf, s_mYes, s_mSl, s_mNo, s_mPart, s_mLc, s_mItems, s_mRng1, s_mRng2, s_mEnum, s_mChain, s_seqT, s_seqL, s_sNext, s_sSeq, s_sIf, s_sSet, s_sRet, s_sRetN, s_sBreak, s_sCont, s_sDrop, s_sPar, s_setN0, s_setNS, s_sAsg, s_sApp, s_sAug, s_sFor, s_sSrc, s_gmN, s_gmT, s_gmCons, s_gmNil, s_wipe0, s_wipeS, s_oSub, s_oAddI, s_oAdd, s_oLt, s_oLe, s_oGt, s_oGe, s_oNeg, s_oNot, s_oMul, s_oMulW, s_oMod, s_oFdiv, s_oPow, s_oIsN, s_oNotN, s_oIsB, s_oNotB, s_isNon_int, s_isNon_non, s_isNon_bl, s_isNon_str, s_isNon_tup, s_isNon_lst, s_isNon_dic, s_oEqI, s_oNeI, s_oIxT, s_oIxL, s_oSlT, s_oSlL, s_oRevT, s_oRevL, s_oInt, s_oIntB, s_oAbs, s_oMax2, s_oMin2, s_oLen, s_plenT, s_plenL, s_plenD, s_plenS, s_oTupleL, s_oTupleT, s_oListL, s_oListT, List.set_cons_succ, List.set_cons_zero, List.append_nil, true_and, x_bl, x_int, x_some, x_addT, x_addL, x_true, x_false]
      by_cases c : j2 = i
      · rw [if_pos c] at fin
        refine ite_t (decide_eq_true c) ?_
        refine ⟨_, rfl, _, rfl, _, rfl, line (by simp), hkl, ?_⟩
        try simp only [s_mVar0, s_mVarS, s_mVarO0, s_mVarOS, s_isObj_lst, s_isObj_dic, s_mC, s_mOp, s_mOp1, s_mB, s_mNil, s_mCons, s_mTup, s_mLst, s_mCall, s_mTB, s_mNot, s_mAnd, s_mOr, s_mAndV, s_mOrV, s_mIf, s_mYes, s_mSl, s_mNo, s_mPart, s_mLc, s_mItems, s_mRng1, s_mRng2, s_mEnum, s_mChain, s_seqT, s_seqL, s_sNext, s_sSeq, s_sIf, s_sSet, s_sRet, s_sRetN, s_sBreak, s_sCont, s_sDrop, s_sPar, s_setN0, s_setNS, s_sAsg, s_sApp, s_sAug, s_sFor, s_sSrc, s_gmN, s_gmT, s_gmCons, s_gmNil, s_wipe0, s_wipeS, s_oSub, s_oAddI, s_oAdd, s_oLt, s_oLe, s_oGt, s_oGe, s_oNeg, s_oNot, s_oMul, s_oMulW, s_oMod, s_oFdiv, s_oPow, s_oIsN, s_oNotN, s_oIsB, s_oNotB, s_isNon_int, s_isNon_non, s_isNon_bl, s_isNon_str, s_isNon_tup, s_isNon_lst, s_isNon_dic, s_oEqI, s_oNeI, s_oIxT, s_oIxL, s_oSlT, s_oSlL, s_oRevT, s_oRevL, s_oInt, s_oIntB, s_oAbs, s_oMax2, s_oMin2, s_oLen, s_plenT, s_plenL, s_plenD, s_plenS, s_oTupleL, s_oTupleT, s_oListL, s_oListT, List.set_cons_succ, List.set_cons_zero, List.append_nil, true_and, x_bl, x_int, x_some, x_addT, x_addL, x_true, x_false]
        exact ⟨_, rfl, oEq_strs ok_deal ok_hold ⟨_, rfl, ite_f (fun z => deal_hold (of_decide_eq_true z)) fin⟩⟩
      · rw [if_neg c, show ((none : Option (List Int)).toList.map tupI) = [] from rfl, List.append_nil] at fin
        refine ite_f (by simp [c]) ?_
        exact ⟨_, rfl, oEq_strs ok_deal ok_hold ⟨_, rfl, ite_f (fun z => deal_hold (of_decide_eq_true z)) fin⟩⟩
    · have e : s = wiped := e
      have e2 : r = [j2] := e2
      subst e e2
      have ek : key i (a, wiped, [j2]) = none := by unfold key; rw [if_neg wiped_deal, if_neg wiped_hold]
      rw [ek] at fin
      try rw [show ((none : Option (List Int)).toList.map tupI) = [] from rfl, List.append_nil] at fin
      unfold ntP at fin ⊢
      try simp only [s_mVar0, s_mVarS, s_mVarO0, s_mVarOS, s_isObj_lst, s_isObj_dic, s_mC, s_mOp, s_mOp1, s_mB, s_mNil, s_mCons, s_mTup, s_mLst, s_mCall, s_mTB, s_mNot, s_mAnd, s_mOr, s_mAndV, s_mOrV, s_mIf, s_mYes, s_mSl, s_mNo, s_mPart, s_mLc, s_mItems, s_mRng1, s_mRng2, s_mEnum, s_mChain, s_seqT, s_seqL, s_sNext, s_sSeq, s_sIf, s_sSet, s_sRet, s_sRetN, s_sBreak, s_sCont, s_sDrop, s_sPar, s_setN0, s_setNS, s_sAsg, s_sApp, s_sAug, s_sFor, s_sSrc, s_gmN, s_gmT, s_gmCons, s_gmNil, s_wipe0, s_wipeS, s_oSub, s_oAddI, s_oAdd, s_oLt, s_oLe, s_oGt, s_oGe, s_oNeg, s_oNot, s_oMul, s_oMulW, s_oMod, s_oFdiv, s_oPow, s_oIsN, s_oNotN, s_oIsB, s_oNotB, s_isNon_int, s_isNon_non, s_isNon_bl, s_isNon_str, s_isNon_tup, s_isNon_lst, s_isNon_dic, s_oEqI, s_oNeI, s_oIxT, s_oIxL, s_oSlT, s_oSlL, s_oRevT, s_oRevL, s_oInt, s_oIntB, s_oAbs, s_oMax2, s_oMin2, s_oLen, s_plenT, s_plenL, s_plenD, s_plenS, s_oTupleL, s_oTupleT, s_oListL, s_oListT, List.set_cons_succ, List.set_cons_zero, List.append_nil, true_and, x_bl, x_int, x_some, x_addT, x_addL, x_true, x_false]
      refine ⟨_, at_of 1 rfl, oEq_strs ok_wiped ok_deal ⟨_, rfl, ite_f (fun z => wiped_deal (of_decide_eq_true z)) ⟨_, at_of 1 rfl, oEq_strs ok_wiped ok_hold ⟨_, rfl, ite_f (fun z => wiped_hold (of_decide_eq_true z)) fin⟩⟩⟩⟩
    · have e : s = help := e
      have e2 : r = j2 :: r2 := e2
      subst e e2
      have ek : key i (a, help, j2 :: r2) = none := by unfold key; rw [if_neg help_deal, if_neg help_hold]
      rw [ek] at fin
      try rw [show ((none : Option (List Int)).toList.map tupI) = [] from rfl, List.append_nil] at fin
      unfold ntP at fin ⊢
      try simp only [s_mVar0, s_mVarS, s_mVarO0, s_mVarOS, s_isObj_lst, s_isObj_dic, s_mC, s_mOp, s_mOp1, s_mB, s_mNil, s_mCons, s_mTup, s_mLst, s_mCall, s_mTB, s_mNot, s_mAnd, s_mOr, s_mAndV, s_mOrV, s_mIf, s_mYes, s_mSl, s_mNo, s_mPart, s_mLc, s_mItems, s_mRng1, s_mRng2, s_mEnum, s_mChain, s_seqT, s_seqL, s_sNext, s_sSeq, s_sIf, s_sSet, s_sRet, s_sRetN, s_sBreak, s_sCont, s_sDrop, s_sPar, s_setN0, s_setNS, s_sAsg, s_sApp, s_sAug, s_sFor, s_sSrc, s_gmN, s_gmT, s_gmCons, s_gmNil, s_wipe0, s_wipeS, s_oSub, s_oAddI, s_oAdd, s_oLt, s_oLe, s_oGt, s_oGe, s_oNeg, s_oNot, s_oMul, s_oMulW, s_oMod, s_oFdiv, s_oPow, s_oIsN, s_oNotN, s_oIsB, s_oNotB, s_isNon_int, s_isNon_non, s_isNon_bl, s_isNon_str, s_isNon_tup, s_isNon_lst, s_isNon_dic, s_oEqI, s_oNeI, s_oIxT, s_oIxL, s_oSlT, s_oSlL, s_oRevT, s_oRevL, s_oInt, s_oIntB, s_oAbs, s_oMax2, s_oMin2, s_oLen, s_plenT, s_plenL, s_plenD, s_plenS, s_oTupleL, s_oTupleT, s_oListL, s_oListT, List.set_cons_succ, List.set_cons_zero, List.append_nil, true_and, x_bl, x_int, x_some, x_addT, x_addL, x_true, x_false]
      refine ⟨_, at_of 1 rfl, oEq_strs ok_help ok_deal ⟨_, rfl, ite_f (fun z => help_deal (of_decide_eq_true z)) ⟨_, at_of 1 rfl, oEq_strs ok_help ok_hold ⟨_, rfl, ite_f (fun z => help_hold (of_decide_eq_true z)) fin⟩⟩⟩⟩
  · obtain ⟨hj, y4, rfl⟩ := hE
    rw [List.take_length]
    try simp only [s_mVar0, s_mVarS, s_mVarO0, s_mVarOS, s_isObj_lst, s_isObj_dic, s_mC, s_mOp, s_mOp1, s_mB, s_mNil, s_mCons, s_mTup, s_mLst, s_mCall, s_mTB, s_mNot, s_mAnd, s_mOr, s_mAndV, s_mOrV, s_mIf, s_mYes, s_mSl, s_mNo, s_mPart, s_mLc, s_mItems, s_mRng1, s_mRng2, s_mEnum, s_mChain, s_seqT, s_seqL, s_sNext, s_sSeq, s_sIf, s_sSet, s_sRet, s_sRetN, s_sBreak, s_sCont, s_sDrop, s_sPar, s_setN0, s_setNS, s_sAsg, s_sApp, s_sAug, s_sFor, s_sSrc, s_gmN, s_gmT, s_gmCons, s_gmNil, s_wipe0, s_wipeS, s_oSub, s_oAddI, s_oAdd, s_oLt, s_oLe, s_oGt, s_oGe, s_oNeg, s_oNot, s_oMul, s_oMulW, s_oMod, s_oFdiv, s_oPow, s_oIsN, s_oNotN, s_oIsB, s_oNotB, s_isNon_int, s_isNon_non, s_isNon_bl, s_isNon_str, s_isNon_tup, s_isNon_lst, s_isNon_dic, s_oEqI, s_oNeI, s_oIxT, s_oIxL, s_oSlT, s_oSlL, s_oRevT, s_oRevL, s_oInt, s_oIntB, s_oAbs, s_oMax2, s_oMin2, s_oLen, s_plenT, s_plenL, s_plenD, s_plenS, s_oTupleL, s_oTupleT, s_oListL, s_oListT, List.set_cons_succ, List.set_cons_zero, List.append_nil, true_and, x_bl, x_int, x_some, x_addT, x_addL, x_true, x_false]
    refine ⟨keys ns i, 2, 1000, rfl, ⟨by decide, hp⟩, fun l hl nd => Nat.lt_of_le_of_lt (hm.few hl nd) (show 10 < 63 by decide), fun ys h1 h2 h3 => ?_⟩
    have hS : IsS (keys ns i) ys := ⟨h1, h2, h3⟩
    have hy : ∀ k ∈ ys, k ∈ keys ns i := fun k h => (hS.2.1 k).mp h
    refine ⟨_, rfl, ?_⟩
    refine pair_filter (cs := cs) (i := i) (fun k hk => (hp k (hy k hk)).1) i0 (by omega) (fun a b hab Q hQ => ?_) (fun k hk Q hQ => ?_) (Nat.le_trans (hm.few hy h1) (by decide)) ?_
    · try simp only [s_mVar0, s_mVarS, s_mVarO0, s_mVarOS, s_isObj_lst, s_isObj_dic, s_mC, s_mOp, s_mOp1, s_mB, s_mNil, s_mCons, s_mTup, s_mLst, s_mCall, s_mTB, s_mNot, s_mAnd, s_mOr, s_mAndV, s_mOrV, s_mIf, s_mYes, s_mSl, s_mNo, s_mPart, s_mLc, s_mItems, s_mRng1, s_mRng2, s_mEnum, s_mChain, s_seqT, s_seqL, s_sNext, s_sSeq, s_sIf, s_sSet, s_sRet, s_sRetN, s_sBreak, s_sCont, s_sDrop, s_sPar, s_setN0, s_setNS, s_sAsg, s_sApp, s_sAug, s_sFor, s_sSrc, s_gmN, s_gmT, s_gmCons, s_gmNil, s_wipe0, s_wipeS, s_oSub, s_oAddI, s_oAdd, s_oLt, s_oLe, s_oGt, s_oGe, s_oNeg, s_oNot, s_oMul, s_oMulW, s_oMod, s_oFdiv, s_oPow, s_oIsN, s_oNotN, s_oIsB, s_oNotB, s_isNon_int, s_isNon_non, s_isNon_bl, s_isNon_str, s_isNon_tup, s_isNon_lst, s_isNon_dic, s_oEqI, s_oNeI, s_oIxT, s_oIxL, s_oSlT, s_oSlL, s_oRevT, s_oRevL, s_oInt, s_oIntB, s_oAbs, s_oMax2, s_oMin2, s_oLen, s_plenT, s_plenL, s_plenD, s_plenS, s_oTupleL, s_oTupleT, s_oListL, s_oListT, List.set_cons_succ, List.set_cons_zero, List.append_nil, true_and, x_bl, x_int, x_some, x_addT, x_addL, x_true, x_false]
      unfold tupI
      try simp only [s_mVar0, s_mVarS, s_mVarO0, s_mVarOS, s_isObj_lst, s_isObj_dic, s_mC, s_mOp, s_mOp1, s_mB, s_mNil, s_mCons, s_mTup, s_mLst, s_mCall, s_mTB, s_mNot, s_mAnd, s_mOr, s_mAndV, s_mOrV, s_mIf, s_mYes, s_mSl, s_mNo, s_mPart, s_mLc, s_mItems, s_mRng1, s_mRng2, s_mEnum, s_mChain, s_seqT, s_seqL, s_sNext, s_sSeq, s_sIf, s_sSet, s_sRet, s_sRetN, s_sBreak, s_sCont, s_sDrop, s_sPar, s_setN0, s_setNS, s_sAsg, s_sApp, s_sAug, s_sFor, s_sSrc, s_gmN, s_gmT, s_gmCons, s_gmNil, s_wipe0, s_wipeS, s_oSub, s_oAddI, s_oAdd, s_oLt, s_oLe, s_oGt, s_oGe, s_oNeg, s_oNot, s_oMul, s_oMulW, s_oMod, s_oFdiv, s_oPow, s_oIsN, s_oNotN, s_oIsB, s_oNotB, s_isNon_int, s_isNon_non, s_isNon_bl, s_isNon_str, s_isNon_tup, s_isNon_lst, s_isNon_dic, s_oEqI, s_oNeI, s_oIxT, s_oIxL, s_oSlT, s_oSlL, s_oRevT, s_oRevL, s_oInt, s_oIntB, s_oAbs, s_oMax2, s_oMin2, s_oLen, s_plenT, s_plenL, s_plenD, s_plenS, s_oTupleL, s_oTupleT, s_oListL, s_oListT, List.set_cons_succ, List.set_cons_zero, List.append_nil, true_and, x_bl, x_int, x_some, x_addT, x_addL, x_true, x_false]
      refine ⟨_, tI_at0, _, lot_at i0 (by omega), oIn_intsT ⟨_, rfl, hQ⟩⟩
    · try simp only [s_mVar0, s_mVarS, s_mVarO0, s_mVarOS, s_isObj_lst, s_isObj_dic, s_mC, s_mOp, s_mOp1, s_mB, s_mNil, s_mCons, s_mTup, s_mLst, s_mCall, s_mTB, s_mNot, s_mAnd, s_mOr, s_mAndV, s_mOrV, s_mIf, s_mYes, s_mSl, s_mNo, s_mPart, s_mLc, s_mItems, s_mRng1, s_mRng2, s_mEnum, s_mChain, s_seqT, s_seqL, s_sNext, s_sSeq, s_sIf, s_sSet, s_sRet, s_sRetN, s_sBreak, s_sCont, s_sDrop, s_sPar, s_setN0, s_setNS, s_sAsg, s_sApp, s_sAug, s_sFor, s_sSrc, s_gmN, s_gmT, s_gmCons, s_gmNil, s_wipe0, s_wipeS, s_oSub, s_oAddI, s_oAdd, s_oLt, s_oLe, s_oGt, s_oGe, s_oNeg, s_oNot, s_oMul, s_oMulW, s_oMod, s_oFdiv, s_oPow, s_oIsN, s_oNotN, s_oIsB, s_oNotB, s_isNon_int, s_isNon_non, s_isNon_bl, s_isNon_str, s_isNon_tup, s_isNon_lst, s_isNon_dic, s_oEqI, s_oNeI, s_oIxT, s_oIxL, s_oSlT, s_oSlL, s_oRevT, s_oRevL, s_oInt, s_oIntB, s_oAbs, s_oMax2, s_oMin2, s_oLen, s_plenT, s_plenL, s_plenD, s_plenS, s_oTupleL, s_oTupleT, s_oListL, s_oListT, List.set_cons_succ, List.set_cons_zero, List.append_nil, true_and, x_bl, x_int, x_some, x_addT, x_addL, x_true, x_false]
      exact hQ
    · have e := srt_eq hp hS
      subst e
      exact h hS
end K24

set_option maxHeartbeats 2000000
namespace K24
open PySem L2 PM
section
variable {α β : Type} {emb : α → PV} {emb1 : β → PV} {f : α → β → PV} {g g1 : TGm} {tt tt1 : TTm} {wi1 : TIm} {te : TEm} {vs1 : List Nat} {env : PM.Env} {P : PV → Prop} {ys : List β}
theorem in_map {e0 : PM.Env} {Kn : List PV → Prop} {x : α} : ∀ {zs : List β} {acc : List PV}, (∀ y ∈ zs, ∃ e2, (∀ k : PM.Env → Prop, k e2 → g1 (emb1 y) e0 k) ∧ (∀ Q : Bool → Prop, Q true → tt1 e2 Q) ∧ (∀ Q : PV → Prop, Q (f x y) → te e2 Q)) →
    acc.length + zs.length ≤ 1000000 → Kn (acc ++ zs.map (f x)) → mIn g1 tt1 te e0 Kn (zs.map emb1) acc
  | [], acc, _, _, hk => by simpa [mIn] using hk
  | y :: zs, acc, h, hl, hk => by
    obtain ⟨e2, h1, h2, h3⟩ := h y (List.mem_cons_self ..)
    rw [List.length_cons] at hl
    refine h1 _ (h2 _ (ite_t rfl (h3 _ ⟨small_line (by omega), in_map (fun z hz => h z (List.mem_cons_of_mem _ hz)) (by rw [List.length_append]; simp; omega) (by simpa using hk)⟩)))
theorem two_map : ∀ {xs : List α} {acc : List PV}, (∀ x ∈ xs, ∃ e1, (∀ k : PM.Env → Prop, k e1 → g (emb x) env k) ∧ (∀ Q : Bool → Prop, Q true → tt e1 Q) ∧ (∀ R : List PV → Prop, R (ys.map emb1) → wi1 e1 R) ∧
      ∀ y ∈ ys, ∃ e2, (∀ k : PM.Env → Prop, k e2 → g1 (emb1 y) (wipeE e1 vs1) k) ∧ (∀ Q : Bool → Prop, Q true → tt1 e2 Q) ∧ (∀ Q : PV → Prop, Q (f x y) → te e2 Q)) →
    acc.length + xs.length * ys.length ≤ 1000000 → P (.lst (acc ++ xs.flatMap fun x => ys.map (f x))) → mTwo g tt wi1 g1 tt1 te vs1 env P (xs.map emb) acc
  | [], acc, _, _, hp => by simpa [mTwo] using hp
  | x :: xs, acc, h, hl, hp => by
    obtain ⟨e1, h1, h2, h3, h4⟩ := h x (List.mem_cons_self ..)
    rw [List.length_cons, Nat.succ_mul] at hl
    refine h1 _ (h2 _ (ite_t rfl (h3 _ (in_map h4 (by omega) (two_map (fun z hz => h z (List.mem_cons_of_mem _ hz)) (by rw [List.length_append, List.length_map]; omega) (by simpa using hp))))))
end
theorem named_mem {cs : Crs} {ns : List Nt} {i : Int} (hS : IsS (keys ns i) (srt (keys ns i))) {g : List Int} : g ∈ named cs ns i ↔ g ∈ keys ns i ∧ g.headD 0 ∈ lot cs i := by
  unfold named
  rw [List.mem_filter, decide_eq_true_eq, hS.2.1]
theorem named_len {cs : Crs} {ns : List Nt} {i : Int} (hm : Nm ns i) (hS : IsS (keys ns i) (srt (keys ns i))) : (named cs ns i).length ≤ 10 := by
  unfold named
  exact Nat.le_trans (List.length_filter_le _ _) (hm.few (fun k h => (hS.2.1 k).mp h) hS.1)
noncomputable def full (w : Int) (cs : Crs) (ns : List Nt) (i : Int) (gone : List Int) : List (List Int) := (named cs ns i).filter fun g => cmpl w cs ns i g gone
def sp_complete_dealings : PM.Spec := fun ps P => ∃ (nb : PV) (k f w : Int) (cs : Crs) (ns : List Nt) (i : Int) (gone : List Int), ps = [nb, .tup (cs.map tI), .tup (ns.map ntP), .int i, tI gone] ∧ isNb k f w nb ∧ PreN cs ns i ∧ (IsS (keys ns i) (srt (keys ns i)) → P (.tup ((full w cs ns i gone).map tupI)))
theorem h_complete_dealings (ps : List PV) (Q : PV → Prop) (h : sp_complete_dealings ps Q) : t_complete_dealings sp_dealings_named sp_is_complete { nx := fun _ => nxOf .cl Q, rt := Q } (startE n_complete_dealings.length ps) := by
  obtain ⟨nb, k, f, w, cs, ns, i, gone, rfl, hnb, ⟨G, i0, i1, hm⟩, h⟩ := h
  show t_complete_dealings _ _ _ [some nb, some (.tup (cs.map tI)), some (.tup (ns.map ntP)), some (.int i), some (tI gone), none, none]
  unfold t_complete_dealings
  try simp only [s_mVar0, s_mVarS, s_mVarO0, s_mVarOS, s_isObj_lst, s_isObj_dic, s_mC, s_mOp, s_mOp1, s_mB, s_mNil, s_mCons, s_mTup, s_mLst, s_mCall, s_mTB, s_mNot, s_mAnd, s_mOr, s_mAndV, s_mOrV, s_mIf, s_mYes, s_mSl, s_mNo, s_mPart, s_mLc, s_mItems, s_mRng1, s_mRng2, s_mEnum, s_mChain, s_seqT, s_seqL, s_sNext, s_sSeq, s_sIf, s_sSet, s_sRet, s_sRetN, s_sBreak, s_sCont, s_sDrop, s_sPar, s_setN0, s_setNS, s_sAsg, s_sApp, s_sAug, s_sFor, s_sSrc, s_gmN, s_gmT, s_gmCons, s_gmNil, s_wipe0, s_wipeS, s_oSub, s_oAddI, s_oAdd, s_oLt, s_oLe, s_oGt, s_oGe, s_oNeg, s_oNot, s_oMul, s_oMulW, s_oMod, s_oFdiv, s_oPow, s_oIsN, s_oNotN, s_oIsB, s_oNotB, s_isNon_int, s_isNon_non, s_isNon_bl, s_isNon_str, s_isNon_tup, s_isNon_lst, s_isNon_dic, s_oEqI, s_oNeI, s_oIxT, s_oIxL, s_oSlT, s_oSlL, s_oRevT, s_oRevL, s_oInt, s_oIntB, s_oAbs, s_oMax2, s_oMin2, s_oLen, s_plenT, s_plenL, s_plenD, s_plenS, s_oTupleL, s_oTupleT, s_oListL, s_oListT, List.set_cons_succ, List.set_cons_zero, List.append_nil, true_and, x_bl, x_int, x_some, x_addT, x_addL, x_true, x_false]
  refine ⟨cs, ns, i, rfl, ⟨G, i0, i1, hm⟩, fun hS => ?_⟩
  try simp only [s_mVar0, s_mVarS, s_mVarO0, s_mVarOS, s_isObj_lst, s_isObj_dic, s_mC, s_mOp, s_mOp1, s_mB, s_mNil, s_mCons, s_mTup, s_mLst, s_mCall, s_mTB, s_mNot, s_mAnd, s_mOr, s_mAndV, s_mOrV, s_mIf, s_mYes, s_mSl, s_mNo, s_mPart, s_mLc, s_mItems, s_mRng1, s_mRng2, s_mEnum, s_mChain, s_seqT, s_seqL, s_sNext, s_sSeq, s_sIf, s_sSet, s_sRet, s_sRetN, s_sBreak, s_sCont, s_sDrop, s_sPar, s_setN0, s_setNS, s_sAsg, s_sApp, s_sAug, s_sFor, s_sSrc, s_gmN, s_gmT, s_gmCons, s_gmNil, s_wipe0, s_wipeS, s_oSub, s_oAddI, s_oAdd, s_oLt, s_oLe, s_oGt, s_oGe, s_oNeg, s_oNot, s_oMul, s_oMulW, s_oMod, s_oFdiv, s_oPow, s_oIsN, s_oNotN, s_oIsB, s_oNotB, s_isNon_int, s_isNon_non, s_isNon_bl, s_isNon_str, s_isNon_tup, s_isNon_lst, s_isNon_dic, s_oEqI, s_oNeI, s_oIxT, s_oIxL, s_oSlT, s_oSlL, s_oRevT, s_oRevL, s_oInt, s_oIntB, s_oAbs, s_oMax2, s_oMin2, s_oLen, s_plenT, s_plenL, s_plenD, s_plenS, s_oTupleL, s_oTupleT, s_oListL, s_oListT, List.set_cons_succ, List.set_cons_zero, List.append_nil, true_and, x_bl, x_int, x_some, x_addT, x_addL, x_true, x_false]
  refine comp_emb (emb := tupI) (xs := named cs ns i) (tst := fun g => cmpl w cs ns i g gone) (f := tupI) (fun g hg => ⟨_, fun k hk => s_gmN.mpr hk, fun Q hQ => ?_, fun _ Q hQ => ?_⟩) (by rw [List.length_nil]; have := named_len (cs := cs) hm hS; exact line (by omega)) ?_
  · try simp only [s_mVar0, s_mVarS, s_mVarO0, s_mVarOS, s_isObj_lst, s_isObj_dic, s_mC, s_mOp, s_mOp1, s_mB, s_mNil, s_mCons, s_mTup, s_mLst, s_mCall, s_mTB, s_mNot, s_mAnd, s_mOr, s_mAndV, s_mOrV, s_mIf, s_mYes, s_mSl, s_mNo, s_mPart, s_mLc, s_mItems, s_mRng1, s_mRng2, s_mEnum, s_mChain, s_seqT, s_seqL, s_sNext, s_sSeq, s_sIf, s_sSet, s_sRet, s_sRetN, s_sBreak, s_sCont, s_sDrop, s_sPar, s_setN0, s_setNS, s_sAsg, s_sApp, s_sAug, s_sFor, s_sSrc, s_gmN, s_gmT, s_gmCons, s_gmNil, s_wipe0, s_wipeS, s_oSub, s_oAddI, s_oAdd, s_oLt, s_oLe, s_oGt, s_oGe, s_oNeg, s_oNot, s_oMul, s_oMulW, s_oMod, s_oFdiv, s_oPow, s_oIsN, s_oNotN, s_oIsB, s_oNotB, s_isNon_int, s_isNon_non, s_isNon_bl, s_isNon_str, s_isNon_tup, s_isNon_lst, s_isNon_dic, s_oEqI, s_oNeI, s_oIxT, s_oIxL, s_oSlT, s_oSlL, s_oRevT, s_oRevL, s_oInt, s_oIntB, s_oAbs, s_oMax2, s_oMin2, s_oLen, s_plenT, s_plenL, s_plenD, s_plenS, s_oTupleL, s_oTupleT, s_oListL, s_oListT, List.set_cons_succ, List.set_cons_zero, List.append_nil, true_and, x_bl, x_int, x_some, x_addT, x_addL, x_true, x_false]
    have hk := (named_mem hS).mp hg
    exact ⟨nb, k, f, w, cs, ns, i, g, gone, rfl, hnb, ⟨G, i0, i1, by rw [(hm.prs g hk.1).1]; decide⟩, _, rfl, hQ⟩
  · try simp only [s_mVar0, s_mVarS, s_mVarO0, s_mVarOS, s_isObj_lst, s_isObj_dic, s_mC, s_mOp, s_mOp1, s_mB, s_mNil, s_mCons, s_mTup, s_mLst, s_mCall, s_mTB, s_mNot, s_mAnd, s_mOr, s_mAndV, s_mOrV, s_mIf, s_mYes, s_mSl, s_mNo, s_mPart, s_mLc, s_mItems, s_mRng1, s_mRng2, s_mEnum, s_mChain, s_seqT, s_seqL, s_sNext, s_sSeq, s_sIf, s_sSet, s_sRet, s_sRetN, s_sBreak, s_sCont, s_sDrop, s_sPar, s_setN0, s_setNS, s_sAsg, s_sApp, s_sAug, s_sFor, s_sSrc, s_gmN, s_gmT, s_gmCons, s_gmNil, s_wipe0, s_wipeS, s_oSub, s_oAddI, s_oAdd, s_oLt, s_oLe, s_oGt, s_oGe, s_oNeg, s_oNot, s_oMul, s_oMulW, s_oMod, s_oFdiv, s_oPow, s_oIsN, s_oNotN, s_oIsB, s_oNotB, s_isNon_int, s_isNon_non, s_isNon_bl, s_isNon_str, s_isNon_tup, s_isNon_lst, s_isNon_dic, s_oEqI, s_oNeI, s_oIxT, s_oIxL, s_oSlT, s_oSlL, s_oRevT, s_oRevL, s_oInt, s_oIntB, s_oAbs, s_oMax2, s_oMin2, s_oLen, s_plenT, s_plenL, s_plenD, s_plenS, s_oTupleL, s_oTupleT, s_oListL, s_oListT, List.set_cons_succ, List.set_cons_zero, List.append_nil, true_and, x_bl, x_int, x_some, x_addT, x_addL, x_true, x_false]
    exact hQ
  · rw [List.nil_append]
    try simp only [s_mVar0, s_mVarS, s_mVarO0, s_mVarOS, s_isObj_lst, s_isObj_dic, s_mC, s_mOp, s_mOp1, s_mB, s_mNil, s_mCons, s_mTup, s_mLst, s_mCall, s_mTB, s_mNot, s_mAnd, s_mOr, s_mAndV, s_mOrV, s_mIf, s_mYes, s_mSl, s_mNo, s_mPart, s_mLc, s_mItems, s_mRng1, s_mRng2, s_mEnum, s_mChain, s_seqT, s_seqL, s_sNext, s_sSeq, s_sIf, s_sSet, s_sRet, s_sRetN, s_sBreak, s_sCont, s_sDrop, s_sPar, s_setN0, s_setNS, s_sAsg, s_sApp, s_sAug, s_sFor, s_sSrc, s_gmN, s_gmT, s_gmCons, s_gmNil, s_wipe0, s_wipeS, s_oSub, s_oAddI, s_oAdd, s_oLt, s_oLe, s_oGt, s_oGe, s_oNeg, s_oNot, s_oMul, s_oMulW, s_oMod, s_oFdiv, s_oPow, s_oIsN, s_oNotN, s_oIsB, s_oNotB, s_isNon_int, s_isNon_non, s_isNon_bl, s_isNon_str, s_isNon_tup, s_isNon_lst, s_isNon_dic, s_oEqI, s_oNeI, s_oIxT, s_oIxL, s_oSlT, s_oSlL, s_oRevT, s_oRevL, s_oInt, s_oIntB, s_oAbs, s_oMax2, s_oMin2, s_oLen, s_plenT, s_plenL, s_plenD, s_plenS, s_oTupleL, s_oTupleT, s_oListL, s_oListT, List.set_cons_succ, List.set_cons_zero, List.append_nil, true_and, x_bl, x_int, x_some, x_addT, x_addL, x_true, x_false]
    exact h hS
/-! ### notes that liars add -/
def lieN (i : Int) (l : List Int) (gs : List (List Int)) : List Nt := gs.flatMap fun g => l.map fun h => (h, hold, i :: g)
theorem mem_lie {i : Int} {l : List Int} {gs : List (List Int)} {n : Nt} : n ∈ lieN i l gs ↔ ∃ g ∈ gs, ∃ h ∈ l, n = (h, hold, i :: g) := by
  unfold lieN
  rw [List.mem_flatMap]
  constructor
  · rintro ⟨g, hg, hn⟩
    obtain ⟨h, hh, rfl⟩ := List.mem_map.mp hn
    exact ⟨g, hg, h, hh, rfl⟩
  · rintro ⟨g, hg, h, hh, rfl⟩
    exact ⟨g, hg, List.mem_map.mpr ⟨h, hh, rfl⟩⟩
theorem lie_len {i : Int} {l : List Int} : ∀ {gs : List (List Int)}, (lieN i l gs).length = gs.length * l.length
  | [] => by unfold lieN; simp
  | g :: gs => by
    have := lie_len (i := i) (l := l) (gs := gs)
    unfold lieN at this ⊢
    rw [List.flatMap_cons, List.length_append, List.length_map, this, List.length_cons, Nat.succ_mul]; omega
theorem two_of {g : List Int} (h : g.length = 2) : ∃ a b, g = [a, b] := by
  match g, h with
  | [a, b], _ => exact ⟨a, b, rfl⟩
theorem keys_app {ns ms : List Nt} {i : Int} : keys (ns ++ ms) i = keys ns i ++ keys ms i := by unfold keys; rw [List.filterMap_append]
theorem keys_lie {i : Int} {l : List Int} {gs : List (List Int)} (hg : ∀ g ∈ gs, g.length = 2) {k : List Int} (h : k ∈ keys (lieN i l gs) i) : k ∈ gs := by
  unfold keys at h
  rw [List.mem_filterMap] at h
  obtain ⟨n, hn, hk⟩ := h
  obtain ⟨g, h1, x, hx, rfl⟩ := mem_lie.mp hn
  obtain ⟨a, b, rfl⟩ := two_of (hg g h1)
  unfold key at hk
  rw [if_neg (fun z => deal_hold z.symm), if_pos rfl] at hk
  have hk : (if i = i then some [a, b] else none) = some k := hk
  rw [if_pos rfl] at hk
  cases hk
  exact h1
/-- what is added names nothing new -/
structure Lie (cs : Crs) (ns : List Nt) (i : Int) (l : List Int) (gs : List (List Int)) : Prop where
  pre : PreN cs ns i
  len : ∀ g ∈ gs, g.length = 2
  sub : ∀ g ∈ gs, g ∈ keys ns i
  few : ns.length + gs.length * l.length ≤ 1000
theorem Lie.gv {cs : Crs} {ns : List Nt} {i : Int} {l : List Int} {gs : List (List Int)} (L : Lie cs ns i l gs) : Gv cs (ns ++ lieN i l gs) := by
  obtain ⟨G, _, _, _⟩ := L.pre
  refine ⟨G.small, by rw [List.length_append, lie_len]; exact L.few, fun n hn => ?_⟩
  rcases List.mem_append.mp hn with z | z
  · exact G.kd n z
  · obtain ⟨g, h1, x, hx, rfl⟩ := mem_lie.mp z
    obtain ⟨a, b, rfl⟩ := two_of (L.len g h1)
    exact .inl ⟨rfl, .inr ⟨i, a, b, rfl⟩⟩
theorem Lie.keys {cs : Crs} {ns : List Nt} {i : Int} {l : List Int} {gs : List (List Int)} (L : Lie cs ns i l gs) (k : List Int) : k ∈ keys (ns ++ lieN i l gs) i ↔ k ∈ keys ns i := by
  rw [keys_app, List.mem_append]
  exact ⟨fun z => z.elim id fun z => L.sub k (keys_lie L.len z), .inl⟩
theorem Lie.preN {cs : Crs} {ns : List Nt} {i : Int} {l : List Int} {gs : List (List Int)} (L : Lie cs ns i l gs) : PreN cs (ns ++ lieN i l gs) i := by
  obtain ⟨_, i0, i1, dl, h1, h2, h3⟩ := L.pre
  exact ⟨L.gv, i0, i1, dl, h1, h2, fun k hk => h3 k ((L.keys k).mp hk)⟩
theorem Lie.named {cs : Crs} {ns : List Nt} {i : Int} {l : List Int} {gs : List (List Int)} (L : Lie cs ns i l gs) : named cs (ns ++ lieN i l gs) i = named cs ns i := by
  unfold K24.named
  rw [srt_same L.keys]
theorem cnt_lie {cs : Crs} {ns : List Nt} {i : Int} {l gone : List Int} {gs : List (List Int)} {g : List Int} (hg : g ∈ gs) : cnt cs (ns ++ lieN i l gs) i g gone = cnt cs ns i g (gone ++ l) := by
  unfold cnt
  congr 1
  refine List.filter_congr fun x _ => ?_
  apply Bool.eq_iff_iff.mpr
  rw [Bool.or_eq_true, Bool.or_eq_true, decide_eq_true_eq, decide_eq_true_eq, decide_eq_true_eq, decide_eq_true_eq, mem_sgn, mem_sgn, List.mem_append, List.mem_append, mem_lie]
  constructor
  · rintro ((h | ⟨g', h1, y, hy, e⟩) | h)
    · exact .inl h
    · cases e; exact .inr (.inr hy)
    · exact .inr (.inl h)
  · rintro (h | h | h)
    · exact .inl (.inl h)
    · exact .inr h
    · exact .inl (.inr ⟨g, hg, x, h, rfl⟩)
theorem cmpl_lie {w : Int} {cs : Crs} {ns : List Nt} {i : Int} {l gone : List Int} {gs : List (List Int)} {g : List Int} (hg : g ∈ gs) : cmpl w cs (ns ++ lieN i l gs) i g gone = cmpl w cs ns i g (gone ++ l) := by
  unfold cmpl
  rw [cnt_lie hg]
def sp_fillable : PM.Spec := fun ps P => ∃ (nb : PV) (k f w : Int) (cs : Crs) (ns : List Nt) (i : Int) (l gone : List Int), ps = [nb, .tup (cs.map tI), .tup (ns.map ntP), .int i, tI l, tI gone] ∧ isNb k f w nb ∧ PreN cs ns i ∧ ns.length ≤ 800 ∧ l.length ≤ 10 ∧ (IsS (keys ns i) (srt (keys ns i)) → P (.tup ((full w cs ns i (gone ++ l)).map tupI)))
theorem h_fillable (ps : List PV) (Q : PV → Prop) (h : sp_fillable ps Q) : t_fillable sp_complete_dealings sp_dealings_named { nx := fun _ => nxOf .cl Q, rt := Q } (startE n_fillable.length ps) := by
  obtain ⟨nb, k, f, w, cs, ns, i, l, gone, rfl, hnb, hpre, hn8, hl10, h⟩ := h
  obtain ⟨G, i0, i1, hm⟩ := id hpre
  show t_fillable _ _ _ [some nb, some (.tup (cs.map tI)), some (.tup (ns.map ntP)), some (.int i), some (tI l), some (tI gone), none, none, none]
  unfold t_fillable
  try simp only [s_mVar0, s_mVarS, s_mVarO0, s_mVarOS, s_isObj_lst, s_isObj_dic, s_mC, s_mOp, s_mOp1, s_mB, s_mNil, s_mCons, s_mTup, s_mLst, s_mCall, s_mTB, s_mNot, s_mAnd, s_mOr, s_mAndV, s_mOrV, s_mIf, s_mYes, s_mSl, s_mNo, s_mPart, s_mLc, s_mItems, s_mRng1, s_mRng2, s_mEnum, s_mChain, s_seqT, s_seqL, s_sNext, s_sSeq, s_sIf, s_sSet, s_sRet, s_sRetN, s_sBreak, s_sCont, s_sDrop, s_sPar, s_setN0, s_setNS, s_sAsg, s_sApp, s_sAug, s_sFor, s_sSrc, s_gmN, s_gmT, s_gmCons, s_gmNil, s_wipe0, s_wipeS, s_oSub, s_oAddI, s_oAdd, s_oLt, s_oLe, s_oGt, s_oGe, s_oNeg, s_oNot, s_oMul, s_oMulW, s_oMod, s_oFdiv, s_oPow, s_oIsN, s_oNotN, s_oIsB, s_oNotB, s_isNon_int, s_isNon_non, s_isNon_bl, s_isNon_str, s_isNon_tup, s_isNon_lst, s_isNon_dic, s_oEqI, s_oNeI, s_oIxT, s_oIxL, s_oSlT, s_oSlL, s_oRevT, s_oRevL, s_oInt, s_oIntB, s_oAbs, s_oMax2, s_oMin2, s_oLen, s_plenT, s_plenL, s_plenD, s_plenS, s_oTupleL, s_oTupleT, s_oListL, s_oListT, List.set_cons_succ, List.set_cons_zero, List.append_nil, true_and, x_bl, x_int, x_some, x_addT, x_addL, x_true, x_false]
  simp only [s_mLc2]
  try simp only [s_mVar0, s_mVarS, s_mVarO0, s_mVarOS, s_isObj_lst, s_isObj_dic, s_mC, s_mOp, s_mOp1, s_mB, s_mNil, s_mCons, s_mTup, s_mLst, s_mCall, s_mTB, s_mNot, s_mAnd, s_mOr, s_mAndV, s_mOrV, s_mIf, s_mYes, s_mSl, s_mNo, s_mPart, s_mLc, s_mItems, s_mRng1, s_mRng2, s_mEnum, s_mChain, s_seqT, s_seqL, s_sNext, s_sSeq, s_sIf, s_sSet, s_sRet, s_sRetN, s_sBreak, s_sCont, s_sDrop, s_sPar, s_setN0, s_setNS, s_sAsg, s_sApp, s_sAug, s_sFor, s_sSrc, s_gmN, s_gmT, s_gmCons, s_gmNil, s_wipe0, s_wipeS, s_oSub, s_oAddI, s_oAdd, s_oLt, s_oLe, s_oGt, s_oGe, s_oNeg, s_oNot, s_oMul, s_oMulW, s_oMod, s_oFdiv, s_oPow, s_oIsN, s_oNotN, s_oIsB, s_oNotB, s_isNon_int, s_isNon_non, s_isNon_bl, s_isNon_str, s_isNon_tup, s_isNon_lst, s_isNon_dic, s_oEqI, s_oNeI, s_oIxT, s_oIxL, s_oSlT, s_oSlL, s_oRevT, s_oRevL, s_oInt, s_oIntB, s_oAbs, s_oMax2, s_oMin2, s_oLen, s_plenT, s_plenL, s_plenD, s_plenS, s_oTupleL, s_oTupleT, s_oListL, s_oListT, List.set_cons_succ, List.set_cons_zero, List.append_nil, true_and, x_bl, x_int, x_some, x_addT, x_addL, x_true, x_false]
  refine ⟨cs, ns, i, rfl, hpre, fun hS => ?_⟩
  try simp only [s_mVar0, s_mVarS, s_mVarO0, s_mVarOS, s_isObj_lst, s_isObj_dic, s_mC, s_mOp, s_mOp1, s_mB, s_mNil, s_mCons, s_mTup, s_mLst, s_mCall, s_mTB, s_mNot, s_mAnd, s_mOr, s_mAndV, s_mOrV, s_mIf, s_mYes, s_mSl, s_mNo, s_mPart, s_mLc, s_mItems, s_mRng1, s_mRng2, s_mEnum, s_mChain, s_seqT, s_seqL, s_sNext, s_sSeq, s_sIf, s_sSet, s_sRet, s_sRetN, s_sBreak, s_sCont, s_sDrop, s_sPar, s_setN0, s_setNS, s_sAsg, s_sApp, s_sAug, s_sFor, s_sSrc, s_gmN, s_gmT, s_gmCons, s_gmNil, s_wipe0, s_wipeS, s_oSub, s_oAddI, s_oAdd, s_oLt, s_oLe, s_oGt, s_oGe, s_oNeg, s_oNot, s_oMul, s_oMulW, s_oMod, s_oFdiv, s_oPow, s_oIsN, s_oNotN, s_oIsB, s_oNotB, s_isNon_int, s_isNon_non, s_isNon_bl, s_isNon_str, s_isNon_tup, s_isNon_lst, s_isNon_dic, s_oEqI, s_oNeI, s_oIxT, s_oIxL, s_oSlT, s_oSlL, s_oRevT, s_oRevL, s_oInt, s_oIntB, s_oAbs, s_oMax2, s_oMin2, s_oLen, s_plenT, s_plenL, s_plenD, s_plenS, s_oTupleL, s_oTupleT, s_oListL, s_oListT, List.set_cons_succ, List.set_cons_zero, List.append_nil, true_and, x_bl, x_int, x_some, x_addT, x_addL, x_true, x_false]
  have hnl := named_len (cs := cs) hm hS
  have hg2 : ∀ g ∈ named cs ns i, g.length = 2 := fun g hg => (hm.prs g ((named_mem hS).mp hg).1).1
  have hmul : (named cs ns i).length * l.length ≤ 10 * 10 := Nat.mul_le_mul hnl hl10
  have L : Lie cs ns i l (named cs ns i) := ⟨hpre, hg2, fun g hg => ((named_mem hS).mp hg).1, by omega⟩
  refine two_map (emb := tupI) (emb1 := PV.int) (xs := named cs ns i) (ys := l) (f := fun g x => ntP (x, hold, i :: g)) (fun g hg => ⟨_, fun k hk => s_gmN.mpr hk, fun Q hQ => hQ, fun R hR => ?_, fun x hx => ⟨_, fun k hk => s_gmN.mpr hk, fun Q hQ => hQ, fun Q hQ => ?_⟩⟩) (by rw [List.length_nil]; omega) ?_
  · try simp only [s_mVar0, s_mVarS, s_mVarO0, s_mVarOS, s_isObj_lst, s_isObj_dic, s_mC, s_mOp, s_mOp1, s_mB, s_mNil, s_mCons, s_mTup, s_mLst, s_mCall, s_mTB, s_mNot, s_mAnd, s_mOr, s_mAndV, s_mOrV, s_mIf, s_mYes, s_mSl, s_mNo, s_mPart, s_mLc, s_mItems, s_mRng1, s_mRng2, s_mEnum, s_mChain, s_seqT, s_seqL, s_sNext, s_sSeq, s_sIf, s_sSet, s_sRet, s_sRetN, s_sBreak, s_sCont, s_sDrop, s_sPar, s_setN0, s_setNS, s_sAsg, s_sApp, s_sAug, s_sFor, s_sSrc, s_gmN, s_gmT, s_gmCons, s_gmNil, s_wipe0, s_wipeS, s_oSub, s_oAddI, s_oAdd, s_oLt, s_oLe, s_oGt, s_oGe, s_oNeg, s_oNot, s_oMul, s_oMulW, s_oMod, s_oFdiv, s_oPow, s_oIsN, s_oNotN, s_oIsB, s_oNotB, s_isNon_int, s_isNon_non, s_isNon_bl, s_isNon_str, s_isNon_tup, s_isNon_lst, s_isNon_dic, s_oEqI, s_oNeI, s_oIxT, s_oIxL, s_oSlT, s_oSlL, s_oRevT, s_oRevL, s_oInt, s_oIntB, s_oAbs, s_oMax2, s_oMin2, s_oLen, s_plenT, s_plenL, s_plenD, s_plenS, s_oTupleL, s_oTupleT, s_oListL, s_oListT, List.set_cons_succ, List.set_cons_zero, List.append_nil, true_and, x_bl, x_int, x_some, x_addT, x_addL, x_true, x_false]
    exact hR
  · try simp only [s_mVar0, s_mVarS, s_mVarO0, s_mVarOS, s_isObj_lst, s_isObj_dic, s_mC, s_mOp, s_mOp1, s_mB, s_mNil, s_mCons, s_mTup, s_mLst, s_mCall, s_mTB, s_mNot, s_mAnd, s_mOr, s_mAndV, s_mOrV, s_mIf, s_mYes, s_mSl, s_mNo, s_mPart, s_mLc, s_mItems, s_mRng1, s_mRng2, s_mEnum, s_mChain, s_seqT, s_seqL, s_sNext, s_sSeq, s_sIf, s_sSet, s_sRet, s_sRetN, s_sBreak, s_sCont, s_sDrop, s_sPar, s_setN0, s_setNS, s_sAsg, s_sApp, s_sAug, s_sFor, s_sSrc, s_gmN, s_gmT, s_gmCons, s_gmNil, s_wipe0, s_wipeS, s_oSub, s_oAddI, s_oAdd, s_oLt, s_oLe, s_oGt, s_oGe, s_oNeg, s_oNot, s_oMul, s_oMulW, s_oMod, s_oFdiv, s_oPow, s_oIsN, s_oNotN, s_oIsB, s_oNotB, s_isNon_int, s_isNon_non, s_isNon_bl, s_isNon_str, s_isNon_tup, s_isNon_lst, s_isNon_dic, s_oEqI, s_oNeI, s_oIxT, s_oIxL, s_oSlT, s_oSlL, s_oRevT, s_oRevL, s_oInt, s_oIntB, s_oAbs, s_oMax2, s_oMin2, s_oLen, s_plenT, s_plenL, s_plenD, s_plenS, s_oTupleL, s_oTupleT, s_oListL, s_oListT, List.set_cons_succ, List.set_cons_zero, List.append_nil, true_and, x_bl, x_int, x_some, x_addT, x_addL, x_true, x_false]
    unfold tupI
    have hl2 := hg2 g hg
    try simp only [s_mVar0, s_mVarS, s_mVarO0, s_mVarOS, s_isObj_lst, s_isObj_dic, s_mC, s_mOp, s_mOp1, s_mB, s_mNil, s_mCons, s_mTup, s_mLst, s_mCall, s_mTB, s_mNot, s_mAnd, s_mOr, s_mAndV, s_mOrV, s_mIf, s_mYes, s_mSl, s_mNo, s_mPart, s_mLc, s_mItems, s_mRng1, s_mRng2, s_mEnum, s_mChain, s_seqT, s_seqL, s_sNext, s_sSeq, s_sIf, s_sSet, s_sRet, s_sRetN, s_sBreak, s_sCont, s_sDrop, s_sPar, s_setN0, s_setNS, s_sAsg, s_sApp, s_sAug, s_sFor, s_sSrc, s_gmN, s_gmT, s_gmCons, s_gmNil, s_wipe0, s_wipeS, s_oSub, s_oAddI, s_oAdd, s_oLt, s_oLe, s_oGt, s_oGe, s_oNeg, s_oNot, s_oMul, s_oMulW, s_oMod, s_oFdiv, s_oPow, s_oIsN, s_oNotN, s_oIsB, s_oNotB, s_isNon_int, s_isNon_non, s_isNon_bl, s_isNon_str, s_isNon_tup, s_isNon_lst, s_isNon_dic, s_oEqI, s_oNeI, s_oIxT, s_oIxL, s_oSlT, s_oSlL, s_oRevT, s_oRevL, s_oInt, s_oIntB, s_oAbs, s_oMax2, s_oMin2, s_oLen, s_plenT, s_plenL, s_plenD, s_plenS, s_oTupleL, s_oTupleT, s_oListL, s_oListT, List.set_cons_succ, List.set_cons_zero, List.append_nil, true_and, x_bl, x_int, x_some, x_addT, x_addL, x_true, x_false]
    exact ⟨line (by simp), line (by simp; omega), hQ⟩
  · rw [List.nil_append]
    have e : ((named cs ns i).flatMap fun g => l.map fun x => ntP (x, hold, i :: g)) = (lieN i l (named cs ns i)).map ntP := by
      unfold lieN
      rw [List.map_flatMap]
      congr 1
      funext g
      rw [List.map_map]
      rfl
    rw [e]
    try simp only [s_mVar0, s_mVarS, s_mVarO0, s_mVarOS, s_isObj_lst, s_isObj_dic, s_mC, s_mOp, s_mOp1, s_mB, s_mNil, s_mCons, s_mTup, s_mLst, s_mCall, s_mTB, s_mNot, s_mAnd, s_mOr, s_mAndV, s_mOrV, s_mIf, s_mYes, s_mSl, s_mNo, s_mPart, s_mLc, s_mItems, s_mRng1, s_mRng2, s_mEnum, s_mChain, s_seqT, s_seqL, s_sNext, s_sSeq, s_sIf, s_sSet, s_sRet, s_sRetN, s_sBreak, s_sCont, s_sDrop, s_sPar, s_setN0, s_setNS, s_sAsg, s_sApp, s_sAug, s_sFor, s_sSrc, s_gmN, s_gmT, s_gmCons, s_gmNil, s_wipe0, s_wipeS, s_oSub, s_oAddI, s_oAdd, s_oLt, s_oLe, s_oGt, s_oGe, s_oNeg, s_oNot, s_oMul, s_oMulW, s_oMod, s_oFdiv, s_oPow, s_oIsN, s_oNotN, s_oIsB, s_oNotB, s_isNon_int, s_isNon_non, s_isNon_bl, s_isNon_str, s_isNon_tup, s_isNon_lst, s_isNon_dic, s_oEqI, s_oNeI, s_oIxT, s_oIxL, s_oSlT, s_oSlL, s_oRevT, s_oRevL, s_oInt, s_oIntB, s_oAbs, s_oMax2, s_oMin2, s_oLen, s_plenT, s_plenL, s_plenD, s_plenS, s_oTupleL, s_oTupleT, s_oListL, s_oListT, List.set_cons_succ, List.set_cons_zero, List.append_nil, true_and, x_bl, x_int, x_some, x_addT, x_addL, x_true, x_false]
    refine ⟨by rw [List.length_map, List.length_map, lie_len]; exact line (by omega), nb, k, f, w, cs, ns ++ lieN i l (named cs ns i), i, gone, by rw [List.map_append], hnb, L.preN, fun hS2 => ?_⟩
    have ef : full w cs (ns ++ lieN i l (named cs ns i)) i gone = full w cs ns i (gone ++ l) := by
      unfold full
      rw [L.named]
      exact List.filter_congr fun g hg => cmpl_lie hg
    rw [ef]
    exact h hS
end K24

set_option maxHeartbeats 2000000
namespace K24
open PySem L2 PM
theorem wpd_len {cs : Crs} {ns : List Nt} {i : Int} : (wpd cs ns i).length ≤ (lot cs i).length := List.length_filter_le _ _
def sp_l_wipes : PM.Spec := fun ps P => ∃ (nb : PV) (k f w : Int) (cs : Crs) (ns : List Nt), ps = [nb, .tup (cs.map tI), .tup (ns.map ntP)] ∧ isNb k f w nb ∧ Gv cs ns ∧ (∀ l ∈ cs, (l.length : Int) = k) ∧ 0 ≤ f ∧ cs.length ≤ 100 ∧ P (.bl true)
theorem h_l_wipes (ps : List PV) (Q : PV → Prop) (h : sp_l_wipes ps Q) : t_l_wipes (spk 3) sp_is_laid_down sp_wiped_by sp_most_keepers { nx := fun _ => nxOf .cl Q, rt := Q } (startE n_l_wipes.length ps) := by
  obtain ⟨nb, k, f, w, cs, ns, rfl, hnb, G, hk, f0, hc, h⟩ := h
  obtain ⟨C, dx, enb⟩ := id hnb
  show t_l_wipes _ _ _ _ _ [some nb, some (.tup (cs.map tI)), some (.tup (ns.map ntP)), none, none, none, none, none, none]
  unfold t_l_wipes
  try simp only [s_mVar0, s_mVarS, s_mVarO0, s_mVarOS, s_isObj_lst, s_isObj_dic, s_mC, s_mOp, s_mOp1, s_mB, s_mNil, s_mCons, s_mTup, s_mLst, s_mCall, s_mTB, s_mNot, s_mAnd, s_mOr, s_mAndV, s_mOrV, s_mIf, s_mYes, s_mSl, s_mNo, s_mPart, s_mLc, s_mItems, s_mRng1, s_mRng2, s_mEnum, s_mChain, s_seqT, s_seqL, s_sNext, s_sSeq, s_sIf, s_sSet, s_sRet, s_sRetN, s_sBreak, s_sCont, s_sDrop, s_sPar, s_setN0, s_setNS, s_sAsg, s_sApp, s_sAug, s_sFor, s_sSrc, s_gmN, s_gmT, s_gmCons, s_gmNil, s_wipe0, s_wipeS, s_oSub, s_oAddI, s_oAdd, s_oLt, s_oLe, s_oGt, s_oGe, s_oNeg, s_oNot, s_oMul, s_oMulW, s_oMod, s_oFdiv, s_oPow, s_oIsN, s_oNotN, s_oIsB, s_oNotB, s_isNon_int, s_isNon_non, s_isNon_bl, s_isNon_str, s_isNon_tup, s_isNon_lst, s_isNon_dic, s_oEqI, s_oNeI, s_oIxT, s_oIxL, s_oSlT, s_oSlL, s_oRevT, s_oRevL, s_oInt, s_oIntB, s_oAbs, s_oMax2, s_oMin2, s_oLen, s_plenT, s_plenL, s_plenD, s_plenS, s_oTupleL, s_oTupleT, s_oListL, s_oListT, List.set_cons_succ, List.set_cons_zero, List.append_nil, true_and, x_bl, x_int, x_some, x_addT, x_addL, x_true, x_false]
  rw [enumP_map]
  refine for_inv (fun j e => ∃ y3 y4 y5 y6 y7 y8, e = [some nb, some (.tup (cs.map tI)), some (.tup (ns.map ntP)), y3, y4, y5, y6, y7, y8]) ⟨none, none, none, none, none, none, rfl⟩ (fun j x e N hx hE hN => ?_) (fun e hE => ?_)
  · obtain ⟨y3, y4, y5, y6, y7, y8, rfl⟩ := hE
    have hlt : j < cs.length := by have := (List.getElem?_eq_some_iff.mp hx).1; rw [List.length_range] at this; exact this
    have ex : x = j := by rw [List.getElem?_range hlt] at hx; exact (Option.some.inj hx).symm
    subst ex
    have el : lot cs (x : Int) = cs[x] := by unfold lot; rw [Int.toNat_natCast, List.getD_eq_getElem?_getD, List.getElem?_eq_getElem hlt]; rfl
    have eg : (cs.map tI).getD x .non = tI (lot cs (x : Int)) := by rw [el, List.getD_eq_getElem?_getD, List.getElem?_map, List.getElem?_eq_getElem hlt]; rfl
    have hlm : lot cs (x : Int) ∈ cs := by rw [el]; exact List.getElem_mem _
    have hls := G.small _ hlm
    have hlk := hk _ hlm
    have x0 : (0 : Int) ≤ x := Int.natCast_nonneg _
    have x1 : (x : Int) < cs.length := by omega
    have hwl := wpd_len (cs := cs) (ns := ns) (i := x)
    rw [eg]
    refine s_gmT.mpr ⟨rfl, s_gmCons.mpr (s_gmN.mpr (s_gmCons.mpr (s_gmN.mpr (s_gmNil.mpr ?_))))⟩
    try simp only [s_mVar0, s_mVarS, s_mVarO0, s_mVarOS, s_isObj_lst, s_isObj_dic, s_mC, s_mOp, s_mOp1, s_mB, s_mNil, s_mCons, s_mTup, s_mLst, s_mCall, s_mTB, s_mNot, s_mAnd, s_mOr, s_mAndV, s_mOrV, s_mIf, s_mYes, s_mSl, s_mNo, s_mPart, s_mLc, s_mItems, s_mRng1, s_mRng2, s_mEnum, s_mChain, s_seqT, s_seqL, s_sNext, s_sSeq, s_sIf, s_sSet, s_sRet, s_sRetN, s_sBreak, s_sCont, s_sDrop, s_sPar, s_setN0, s_setNS, s_sAsg, s_sApp, s_sAug, s_sFor, s_sSrc, s_gmN, s_gmT, s_gmCons, s_gmNil, s_wipe0, s_wipeS, s_oSub, s_oAddI, s_oAdd, s_oLt, s_oLe, s_oGt, s_oGe, s_oNeg, s_oNot, s_oMul, s_oMulW, s_oMod, s_oFdiv, s_oPow, s_oIsN, s_oNotN, s_oIsB, s_oNotB, s_isNon_int, s_isNon_non, s_isNon_bl, s_isNon_str, s_isNon_tup, s_isNon_lst, s_isNon_dic, s_oEqI, s_oNeI, s_oIxT, s_oIxL, s_oSlT, s_oSlL, s_oRevT, s_oRevL, s_oInt, s_oIntB, s_oAbs, s_oMax2, s_oMin2, s_oLen, s_plenT, s_plenL, s_plenD, s_plenS, s_oTupleL, s_oTupleT, s_oListL, s_oListT, List.set_cons_succ, List.set_cons_zero, List.append_nil, true_and, x_bl, x_int, x_some, x_addT, x_addL, x_true, x_false]
    refine comp_emb (emb := PV.int) (xs := lot cs (x : Int)) (tst := fun y => decide (y ∈ sgn ns wiped [(x : Int)])) (f := PV.int) (fun y hy => ⟨_, fun k hk => s_gmN.mpr hk, fun Q hQ => ?_, fun _ Q hQ => ?_⟩) (by rw [List.length_nil]; exact line (by omega)) ?_
    · try simp only [s_mVar0, s_mVarS, s_mVarO0, s_mVarOS, s_isObj_lst, s_isObj_dic, s_mC, s_mOp, s_mOp1, s_mB, s_mNil, s_mCons, s_mTup, s_mLst, s_mCall, s_mTB, s_mNot, s_mAnd, s_mOr, s_mAndV, s_mOrV, s_mIf, s_mYes, s_mSl, s_mNo, s_mPart, s_mLc, s_mItems, s_mRng1, s_mRng2, s_mEnum, s_mChain, s_seqT, s_seqL, s_sNext, s_sSeq, s_sIf, s_sSet, s_sRet, s_sRetN, s_sBreak, s_sCont, s_sDrop, s_sPar, s_setN0, s_setNS, s_sAsg, s_sApp, s_sAug, s_sFor, s_sSrc, s_gmN, s_gmT, s_gmCons, s_gmNil, s_wipe0, s_wipeS, s_oSub, s_oAddI, s_oAdd, s_oLt, s_oLe, s_oGt, s_oGe, s_oNeg, s_oNot, s_oMul, s_oMulW, s_oMod, s_oFdiv, s_oPow, s_oIsN, s_oNotN, s_oIsB, s_oNotB, s_isNon_int, s_isNon_non, s_isNon_bl, s_isNon_str, s_isNon_tup, s_isNon_lst, s_isNon_dic, s_oEqI, s_oNeI, s_oIxT, s_oIxL, s_oSlT, s_oSlL, s_oRevT, s_oRevL, s_oInt, s_oIntB, s_oAbs, s_oMax2, s_oMin2, s_oLen, s_plenT, s_plenL, s_plenD, s_plenS, s_oTupleL, s_oTupleT, s_oListL, s_oListT, List.set_cons_succ, List.set_cons_zero, List.append_nil, true_and, x_bl, x_int, x_some, x_addT, x_addL, x_true, x_false]
      refine ⟨line (by simp), oInA_nt (n := (y, wiped, [(x : Int)])) ok_wiped G.kd ⟨_, rfl, ?_⟩⟩
      rw [← decide_eq_decide.mpr (mem_sgn (ns := ns) (k := wiped) (r := [(x : Int)]) (h := y))]
      exact hQ
    · try simp only [s_mVar0, s_mVarS, s_mVarO0, s_mVarOS, s_isObj_lst, s_isObj_dic, s_mC, s_mOp, s_mOp1, s_mB, s_mNil, s_mCons, s_mTup, s_mLst, s_mCall, s_mTB, s_mNot, s_mAnd, s_mOr, s_mAndV, s_mOrV, s_mIf, s_mYes, s_mSl, s_mNo, s_mPart, s_mLc, s_mItems, s_mRng1, s_mRng2, s_mEnum, s_mChain, s_seqT, s_seqL, s_sNext, s_sSeq, s_sIf, s_sSet, s_sRet, s_sRetN, s_sBreak, s_sCont, s_sDrop, s_sPar, s_setN0, s_setNS, s_sAsg, s_sApp, s_sAug, s_sFor, s_sSrc, s_gmN, s_gmT, s_gmCons, s_gmNil, s_wipe0, s_wipeS, s_oSub, s_oAddI, s_oAdd, s_oLt, s_oLe, s_oGt, s_oGe, s_oNeg, s_oNot, s_oMul, s_oMulW, s_oMod, s_oFdiv, s_oPow, s_oIsN, s_oNotN, s_oIsB, s_oNotB, s_isNon_int, s_isNon_non, s_isNon_bl, s_isNon_str, s_isNon_tup, s_isNon_lst, s_isNon_dic, s_oEqI, s_oNeI, s_oIxT, s_oIxL, s_oSlT, s_oSlL, s_oRevT, s_oRevL, s_oInt, s_oIntB, s_oAbs, s_oMax2, s_oMin2, s_oLen, s_plenT, s_plenL, s_plenD, s_plenS, s_oTupleL, s_oTupleT, s_oListL, s_oListT, List.set_cons_succ, List.set_cons_zero, List.append_nil, true_and, x_bl, x_int, x_some, x_addT, x_addL, x_true, x_false]
      exact hQ
    rw [List.nil_append]
    try simp only [s_mVar0, s_mVarS, s_mVarO0, s_mVarOS, s_isObj_lst, s_isObj_dic, s_mC, s_mOp, s_mOp1, s_mB, s_mNil, s_mCons, s_mTup, s_mLst, s_mCall, s_mTB, s_mNot, s_mAnd, s_mOr, s_mAndV, s_mOrV, s_mIf, s_mYes, s_mSl, s_mNo, s_mPart, s_mLc, s_mItems, s_mRng1, s_mRng2, s_mEnum, s_mChain, s_seqT, s_seqL, s_sNext, s_sSeq, s_sIf, s_sSet, s_sRet, s_sRetN, s_sBreak, s_sCont, s_sDrop, s_sPar, s_setN0, s_setNS, s_sAsg, s_sApp, s_sAug, s_sFor, s_sSrc, s_gmN, s_gmT, s_gmCons, s_gmNil, s_wipe0, s_wipeS, s_oSub, s_oAddI, s_oAdd, s_oLt, s_oLe, s_oGt, s_oGe, s_oNeg, s_oNot, s_oMul, s_oMulW, s_oMod, s_oFdiv, s_oPow, s_oIsN, s_oNotN, s_oIsB, s_oNotB, s_isNon_int, s_isNon_non, s_isNon_bl, s_isNon_str, s_isNon_tup, s_isNon_lst, s_isNon_dic, s_oEqI, s_oNeI, s_oIxT, s_oIxL, s_oSlT, s_oSlL, s_oRevT, s_oRevL, s_oInt, s_oIntB, s_oAbs, s_oMax2, s_oMin2, s_oLen, s_plenT, s_plenL, s_plenD, s_plenS, s_oTupleL, s_oTupleT, s_oListL, s_oListT, List.set_cons_succ, List.set_cons_zero, List.append_nil, true_and, x_bl, x_int, x_some, x_addT, x_addL, x_true, x_false]
    have ew : (lot cs (x : Int)).filter (fun y => decide (y ∈ sgn ns wiped [(x : Int)])) = wpd cs ns x := rfl
    rw [ew]
    simp only [s_mFld]
    try simp only [s_mVar0, s_mVarS, s_mVarO0, s_mVarOS, s_isObj_lst, s_isObj_dic, s_mC, s_mOp, s_mOp1, s_mB, s_mNil, s_mCons, s_mTup, s_mLst, s_mCall, s_mTB, s_mNot, s_mAnd, s_mOr, s_mAndV, s_mOrV, s_mIf, s_mYes, s_mSl, s_mNo, s_mPart, s_mLc, s_mItems, s_mRng1, s_mRng2, s_mEnum, s_mChain, s_seqT, s_seqL, s_sNext, s_sSeq, s_sIf, s_sSet, s_sRet, s_sRetN, s_sBreak, s_sCont, s_sDrop, s_sPar, s_setN0, s_setNS, s_sAsg, s_sApp, s_sAug, s_sFor, s_sSrc, s_gmN, s_gmT, s_gmCons, s_gmNil, s_wipe0, s_wipeS, s_oSub, s_oAddI, s_oAdd, s_oLt, s_oLe, s_oGt, s_oGe, s_oNeg, s_oNot, s_oMul, s_oMulW, s_oMod, s_oFdiv, s_oPow, s_oIsN, s_oNotN, s_oIsB, s_oNotB, s_isNon_int, s_isNon_non, s_isNon_bl, s_isNon_str, s_isNon_tup, s_isNon_lst, s_isNon_dic, s_oEqI, s_oNeI, s_oIxT, s_oIxL, s_oSlT, s_oSlL, s_oRevT, s_oRevL, s_oInt, s_oIntB, s_oAbs, s_oMax2, s_oMin2, s_oLen, s_plenT, s_plenL, s_plenD, s_plenS, s_oTupleL, s_oTupleT, s_oListL, s_oListT, List.set_cons_succ, List.set_cons_zero, List.append_nil, true_and, x_bl, x_int, x_some, x_addT, x_addL, x_true, x_false]
    refine ⟨C, dx, _, _, _, enb, rfl, ?_⟩
    try simp only [s_mVar0, s_mVarS, s_mVarO0, s_mVarOS, s_isObj_lst, s_isObj_dic, s_mC, s_mOp, s_mOp1, s_mB, s_mNil, s_mCons, s_mTup, s_mLst, s_mCall, s_mTB, s_mNot, s_mAnd, s_mOr, s_mAndV, s_mOrV, s_mIf, s_mYes, s_mSl, s_mNo, s_mPart, s_mLc, s_mItems, s_mRng1, s_mRng2, s_mEnum, s_mChain, s_seqT, s_seqL, s_sNext, s_sSeq, s_sIf, s_sSet, s_sRet, s_sRetN, s_sBreak, s_sCont, s_sDrop, s_sPar, s_setN0, s_setNS, s_sAsg, s_sApp, s_sAug, s_sFor, s_sSrc, s_gmN, s_gmT, s_gmCons, s_gmNil, s_wipe0, s_wipeS, s_oSub, s_oAddI, s_oAdd, s_oLt, s_oLe, s_oGt, s_oGe, s_oNeg, s_oNot, s_oMul, s_oMulW, s_oMod, s_oFdiv, s_oPow, s_oIsN, s_oNotN, s_oIsB, s_oNotB, s_isNon_int, s_isNon_non, s_isNon_bl, s_isNon_str, s_isNon_tup, s_isNon_lst, s_isNon_dic, s_oEqI, s_oNeI, s_oIxT, s_oIxL, s_oSlT, s_oSlL, s_oRevT, s_oRevL, s_oInt, s_oIntB, s_oAbs, s_oMax2, s_oMin2, s_oLen, s_plenT, s_plenL, s_plenD, s_plenS, s_oTupleL, s_oTupleT, s_oListL, s_oListT, List.set_cons_succ, List.set_cons_zero, List.append_nil, true_and, x_bl, x_int, x_some, x_addT, x_addL, x_true, x_false]
    rw [List.length_map]
    have m0 : 0 ≤ minI f (wpd cs ns x).length := by unfold minI; split <;> omega
    have m1 : minI f (wpd cs ns x).length ≤ (wpd cs ns x).length := by unfold minI; split <;> omega
    have em : (if ((wpd cs ns x).length : Int) < f then ((wpd cs ns x).length : Int) else f) = minI f (wpd cs ns x).length := rfl
    rw [em]
    obtain ⟨m, hm⟩ : ∃ m : Nat, minI f (wpd cs ns x).length = m := ⟨_, (Int.toNat_of_nonneg m0).symm⟩
    rw [hm] at m1 ⊢
    rw [show ((m : Int) + 1).toNat = m + 1 by omega, rngP_rng]
    refine ⟨⟨by omega, by omega⟩, ?_⟩
    refine comp_map (f := fun y => .int (((lot cs (x : Int)).length : Int) - (wpd cs ns x).length + y)) (fun y hy => ⟨_, fun k hk => s_gmN.mpr hk, fun Q hQ => hQ, fun Q hQ => ?_⟩) (by rw [rng_len]; exact line (by omega)) ?_
    · try simp only [s_mVar0, s_mVarS, s_mVarO0, s_mVarOS, s_isObj_lst, s_isObj_dic, s_mC, s_mOp, s_mOp1, s_mB, s_mNil, s_mCons, s_mTup, s_mLst, s_mCall, s_mTB, s_mNot, s_mAnd, s_mOr, s_mAndV, s_mOrV, s_mIf, s_mYes, s_mSl, s_mNo, s_mPart, s_mLc, s_mItems, s_mRng1, s_mRng2, s_mEnum, s_mChain, s_seqT, s_seqL, s_sNext, s_sSeq, s_sIf, s_sSet, s_sRet, s_sRetN, s_sBreak, s_sCont, s_sDrop, s_sPar, s_setN0, s_setNS, s_sAsg, s_sApp, s_sAug, s_sFor, s_sSrc, s_gmN, s_gmT, s_gmCons, s_gmNil, s_wipe0, s_wipeS, s_oSub, s_oAddI, s_oAdd, s_oLt, s_oLe, s_oGt, s_oGe, s_oNeg, s_oNot, s_oMul, s_oMulW, s_oMod, s_oFdiv, s_oPow, s_oIsN, s_oNotN, s_oIsB, s_oNotB, s_isNon_int, s_isNon_non, s_isNon_bl, s_isNon_str, s_isNon_tup, s_isNon_lst, s_isNon_dic, s_oEqI, s_oNeI, s_oIxT, s_oIxL, s_oSlT, s_oSlL, s_oRevT, s_oRevL, s_oInt, s_oIntB, s_oAbs, s_oMax2, s_oMin2, s_oLen, s_plenT, s_plenL, s_plenD, s_plenS, s_oTupleL, s_oTupleT, s_oListL, s_oListT, List.set_cons_succ, List.set_cons_zero, List.append_nil, true_and, x_bl, x_int, x_some, x_addT, x_addL, x_true, x_false]
      rw [List.length_map, List.length_map]
      exact hQ
    refine ⟨(rng (m + 1)).map fun y => ((lot cs (x : Int)).length : Int) - (wpd cs ns x).length + y, by rw [List.map_map]; rfl, by rw [List.length_map, rng_len]; omega, fun v hv hmax => ?_⟩
    have ev : v = k - (wpd cs ns x).length + m := by
      obtain ⟨y, hy, rfl⟩ := List.mem_map.mp hv
      have h1 := mem_rng.mp hy
      have h2 := hmax (((lot cs (x : Int)).length : Int) - (wpd cs ns x).length + m) (List.mem_map.mpr ⟨(m : Int), mem_rng.mpr ⟨by omega, by omega⟩, rfl⟩)
      have h2 : ((lot cs (x : Int)).length : Int) - (wpd cs ns x).length + m ≤ ((lot cs (x : Int)).length : Int) - (wpd cs ns x).length + y := h2
      show ((lot cs (x : Int)).length : Int) - (wpd cs ns x).length + y = _
      omega
    subst ev
    try simp only [s_mVar0, s_mVarS, s_mVarO0, s_mVarOS, s_isObj_lst, s_isObj_dic, s_mC, s_mOp, s_mOp1, s_mB, s_mNil, s_mCons, s_mTup, s_mLst, s_mCall, s_mTB, s_mNot, s_mAnd, s_mOr, s_mAndV, s_mOrV, s_mIf, s_mYes, s_mSl, s_mNo, s_mPart, s_mLc, s_mItems, s_mRng1, s_mRng2, s_mEnum, s_mChain, s_seqT, s_seqL, s_sNext, s_sSeq, s_sIf, s_sSet, s_sRet, s_sRetN, s_sBreak, s_sCont, s_sDrop, s_sPar, s_setN0, s_setNS, s_sAsg, s_sApp, s_sAug, s_sFor, s_sSrc, s_gmN, s_gmT, s_gmCons, s_gmNil, s_wipe0, s_wipeS, s_oSub, s_oAddI, s_oAdd, s_oLt, s_oLe, s_oGt, s_oGe, s_oNeg, s_oNot, s_oMul, s_oMulW, s_oMod, s_oFdiv, s_oPow, s_oIsN, s_oNotN, s_oIsB, s_oNotB, s_isNon_int, s_isNon_non, s_isNon_bl, s_isNon_str, s_isNon_tup, s_isNon_lst, s_isNon_dic, s_oEqI, s_oNeI, s_oIxT, s_oIxL, s_oSlT, s_oSlL, s_oRevT, s_oRevL, s_oInt, s_oIntB, s_oAbs, s_oMax2, s_oMin2, s_oLen, s_plenT, s_plenL, s_plenD, s_plenS, s_oTupleL, s_oTupleT, s_oListL, s_oListT, List.set_cons_succ, List.set_cons_zero, List.append_nil, true_and, x_bl, x_int, x_some, x_addT, x_addL, x_true, x_false]
    refine ⟨cs, ns, x, rfl, G, x0, x1, tI (wpd cs ns x), rfl, lk_ints (by omega), ?_⟩
    refine ⟨_, rfl, ite_f (by decide) ?_⟩
    refine ⟨nb, k, f, w, cs, ns, x, rfl, hnb, G, x0, x1, .int (k - (wpd cs ns x).length + m), by rw [hm], lk_int, ?_⟩
    refine ⟨_, rfl, ite_f (by decide) ?_⟩
    refine ⟨nb, k, f, w, cs, ns, x, rfl, hnb, G, x0, x1, ?_⟩
    refine ⟨C, dx, _, _, _, enb, rfl, ?_⟩
    try simp only [s_mVar0, s_mVarS, s_mVarO0, s_mVarOS, s_isObj_lst, s_isObj_dic, s_mC, s_mOp, s_mOp1, s_mB, s_mNil, s_mCons, s_mTup, s_mLst, s_mCall, s_mTB, s_mNot, s_mAnd, s_mOr, s_mAndV, s_mOrV, s_mIf, s_mYes, s_mSl, s_mNo, s_mPart, s_mLc, s_mItems, s_mRng1, s_mRng2, s_mEnum, s_mChain, s_seqT, s_seqL, s_sNext, s_sSeq, s_sIf, s_sSet, s_sRet, s_sRetN, s_sBreak, s_sCont, s_sDrop, s_sPar, s_setN0, s_setNS, s_sAsg, s_sApp, s_sAug, s_sFor, s_sSrc, s_gmN, s_gmT, s_gmCons, s_gmNil, s_wipe0, s_wipeS, s_oSub, s_oAddI, s_oAdd, s_oLt, s_oLe, s_oGt, s_oGe, s_oNeg, s_oNot, s_oMul, s_oMulW, s_oMod, s_oFdiv, s_oPow, s_oIsN, s_oNotN, s_oIsB, s_oNotB, s_isNon_int, s_isNon_non, s_isNon_bl, s_isNon_str, s_isNon_tup, s_isNon_lst, s_isNon_dic, s_oEqI, s_oNeI, s_oIxT, s_oIxL, s_oSlT, s_oSlL, s_oRevT, s_oRevL, s_oInt, s_oIntB, s_oAbs, s_oMax2, s_oMin2, s_oLen, s_plenT, s_plenL, s_plenD, s_plenS, s_oTupleL, s_oTupleT, s_oListL, s_oListT, List.set_cons_succ, List.set_cons_zero, List.append_nil, true_and, x_bl, x_int, x_some, x_addT, x_addL, x_true, x_false]
    refine ⟨.bl (decide (k - f ≤ (wpd cs ns x).length)), ?_, trivial, ?_⟩
    · have : decide (((lot cs (x : Int)).length : Int) ≤ ((wpd cs ns x).length : Int) + f) = decide (k - f ≤ ((wpd cs ns x).length : Int)) := decide_eq_decide.mpr (by omega)
      rw [List.length_map, this]
    · refine ⟨_, rfl, ite_f (by decide) (hN _ ⟨_, _, _, _, _, _, rfl⟩)⟩
  · obtain ⟨y3, y4, y5, y6, y7, y8, rfl⟩ := hE
    try simp only [s_mVar0, s_mVarS, s_mVarO0, s_mVarOS, s_isObj_lst, s_isObj_dic, s_mC, s_mOp, s_mOp1, s_mB, s_mNil, s_mCons, s_mTup, s_mLst, s_mCall, s_mTB, s_mNot, s_mAnd, s_mOr, s_mAndV, s_mOrV, s_mIf, s_mYes, s_mSl, s_mNo, s_mPart, s_mLc, s_mItems, s_mRng1, s_mRng2, s_mEnum, s_mChain, s_seqT, s_seqL, s_sNext, s_sSeq, s_sIf, s_sSet, s_sRet, s_sRetN, s_sBreak, s_sCont, s_sDrop, s_sPar, s_setN0, s_setNS, s_sAsg, s_sApp, s_sAug, s_sFor, s_sSrc, s_gmN, s_gmT, s_gmCons, s_gmNil, s_wipe0, s_wipeS, s_oSub, s_oAddI, s_oAdd, s_oLt, s_oLe, s_oGt, s_oGe, s_oNeg, s_oNot, s_oMul, s_oMulW, s_oMod, s_oFdiv, s_oPow, s_oIsN, s_oNotN, s_oIsB, s_oNotB, s_isNon_int, s_isNon_non, s_isNon_bl, s_isNon_str, s_isNon_tup, s_isNon_lst, s_isNon_dic, s_oEqI, s_oNeI, s_oIxT, s_oIxL, s_oSlT, s_oSlL, s_oRevT, s_oRevL, s_oInt, s_oIntB, s_oAbs, s_oMax2, s_oMin2, s_oLen, s_plenT, s_plenL, s_plenD, s_plenS, s_oTupleL, s_oTupleT, s_oListL, s_oListT, List.set_cons_succ, List.set_cons_zero, List.append_nil, true_and, x_bl, x_int, x_some, x_addT, x_addL, x_true, x_false]
    exact h
/-! ### a course -/
structure Lt (pool : List Int) (k : Nat) (l : List Int) : Prop where
  nd : l.Nodup
  sub : ∀ x ∈ l, x ∈ pool
  len : l.length = k
theorem at_last {xs : List PV} {p : PV} : atI (xs ++ [p]) (-1) = some p := atI_last xs p
def sp_l_course : PM.Spec := fun ps P => ∃ (pool : List Int) (k maps : Nat), ps = [.src, tI pool, .int (k : Int), .int (maps : Int)] ∧ pool.Nodup ∧ pool.length ≤ 60 ∧ k ≤ pool.length ∧ 1 ≤ maps ∧ maps ≤ 100 ∧ ∀ cs : Crs, cs.length = maps → (∀ l ∈ cs, Lt pool k l) → P (.tup (cs.map tI))
theorem sub_ints {xs : List Int} {ys : List PV} (h : ys.Sublist (xs.map PV.int)) : ∃ zs : List Int, zs.Sublist xs ∧ ys = zs.map PV.int := by
  obtain ⟨d, h1, h2⟩ := List.sublist_map_iff.mp h
  exact ⟨d, h1, h2⟩
theorem h_l_course (ps : List PV) (Q : PV → Prop) (h : sp_l_course ps Q) : t_l_course sp_some sp_drw { nx := fun _ => nxOf .cl Q, rt := Q } (startE n_l_course.length ps) := by
  obtain ⟨pool, k, maps, rfl, hnd, hpl, hkp, m1, m2, h⟩ := h
  show t_l_course _ _ _ [some .src, some (tI pool), some (.int (k : Int)), some (.int (maps : Int)), none, none, none, none]
  unfold t_l_course
  try simp only [s_mVar0, s_mVarS, s_mVarO0, s_mVarOS, s_isObj_lst, s_isObj_dic, s_mC, s_mOp, s_mOp1, s_mB, s_mNil, s_mCons, s_mTup, s_mLst, s_mCall, s_mTB, s_mNot, s_mAnd, s_mOr, s_mAndV, s_mOrV, s_mIf, s_mYes, s_mSl, s_mNo, s_mPart, s_mLc, s_mItems, s_mRng1, s_mRng2, s_mEnum, s_mChain, s_seqT, s_seqL, s_sNext, s_sSeq, s_sIf, s_sSet, s_sRet, s_sRetN, s_sBreak, s_sCont, s_sDrop, s_sPar, s_setN0, s_setNS, s_sAsg, s_sApp, s_sAug, s_sFor, s_sSrc, s_gmN, s_gmT, s_gmCons, s_gmNil, s_wipe0, s_wipeS, s_oSub, s_oAddI, s_oAdd, s_oLt, s_oLe, s_oGt, s_oGe, s_oNeg, s_oNot, s_oMul, s_oMulW, s_oMod, s_oFdiv, s_oPow, s_oIsN, s_oNotN, s_oIsB, s_oNotB, s_isNon_int, s_isNon_non, s_isNon_bl, s_isNon_str, s_isNon_tup, s_isNon_lst, s_isNon_dic, s_oEqI, s_oNeI, s_oIxT, s_oIxL, s_oSlT, s_oSlL, s_oRevT, s_oRevL, s_oInt, s_oIntB, s_oAbs, s_oMax2, s_oMin2, s_oLen, s_plenT, s_plenL, s_plenD, s_plenS, s_oTupleL, s_oTupleT, s_oListL, s_oListT, List.set_cons_succ, List.set_cons_zero, List.append_nil, true_and, x_bl, x_int, x_some, x_addT, x_addL, x_true, x_false]
  refine ⟨_, _, k, rfl, .inr rfl, by rw [List.length_map]; exact hkp, by rw [List.length_map]; omega, fun ys hs hl => ?_⟩
  obtain ⟨l0, hl0, rfl⟩ := sub_ints hs
  rw [List.length_map] at hl
  have L0 : Lt pool k l0 := ⟨hl0.nodup hnd, fun x hx => hl0.subset hx, hl⟩
  try simp only [s_mVar0, s_mVarS, s_mVarO0, s_mVarOS, s_isObj_lst, s_isObj_dic, s_mC, s_mOp, s_mOp1, s_mB, s_mNil, s_mCons, s_mTup, s_mLst, s_mCall, s_mTB, s_mNot, s_mAnd, s_mOr, s_mAndV, s_mOrV, s_mIf, s_mYes, s_mSl, s_mNo, s_mPart, s_mLc, s_mItems, s_mRng1, s_mRng2, s_mEnum, s_mChain, s_seqT, s_seqL, s_sNext, s_sSeq, s_sIf, s_sSet, s_sRet, s_sRetN, s_sBreak, s_sCont, s_sDrop, s_sPar, s_setN0, s_setNS, s_sAsg, s_sApp, s_sAug, s_sFor, s_sSrc, s_gmN, s_gmT, s_gmCons, s_gmNil, s_wipe0, s_wipeS, s_oSub, s_oAddI, s_oAdd, s_oLt, s_oLe, s_oGt, s_oGe, s_oNeg, s_oNot, s_oMul, s_oMulW, s_oMod, s_oFdiv, s_oPow, s_oIsN, s_oNotN, s_oIsB, s_oNotB, s_isNon_int, s_isNon_non, s_isNon_bl, s_isNon_str, s_isNon_tup, s_isNon_lst, s_isNon_dic, s_oEqI, s_oNeI, s_oIxT, s_oIxL, s_oSlT, s_oSlL, s_oRevT, s_oRevL, s_oInt, s_oIntB, s_oAbs, s_oMax2, s_oMin2, s_oLen, s_plenT, s_plenL, s_plenD, s_plenS, s_oTupleL, s_oTupleT, s_oListL, s_oListT, List.set_cons_succ, List.set_cons_zero, List.append_nil, true_and, x_bl, x_int, x_some, x_addT, x_addL, x_true, x_false]
  refine ⟨line (by simp), ?_⟩
  refine ⟨fun m e => ∃ (cs : Crs) (last : List Int) (y5 y6 : Option PV), m + (cs.length + 1) = maps ∧ (∀ l ∈ cs, Lt pool k l) ∧ Lt pool k last ∧ e = [some .src, some (tI pool), some (.int (k : Int)), some (.int (maps : Int)), some (.lst (cs.map tI ++ [tI last])), y5, y6, none], ⟨maps - 1, [], l0, none, none, by simp; omega, (fun l h => by simp at h), L0, rfl⟩, ?_⟩
  rintro m e ⟨cs, last, y5, y6, hm, hcs, hla, rfl⟩
  try simp only [s_mVar0, s_mVarS, s_mVarO0, s_mVarOS, s_isObj_lst, s_isObj_dic, s_mC, s_mOp, s_mOp1, s_mB, s_mNil, s_mCons, s_mTup, s_mLst, s_mCall, s_mTB, s_mNot, s_mAnd, s_mOr, s_mAndV, s_mOrV, s_mIf, s_mYes, s_mSl, s_mNo, s_mPart, s_mLc, s_mItems, s_mRng1, s_mRng2, s_mEnum, s_mChain, s_seqT, s_seqL, s_sNext, s_sSeq, s_sIf, s_sSet, s_sRet, s_sRetN, s_sBreak, s_sCont, s_sDrop, s_sPar, s_setN0, s_setNS, s_sAsg, s_sApp, s_sAug, s_sFor, s_sSrc, s_gmN, s_gmT, s_gmCons, s_gmNil, s_wipe0, s_wipeS, s_oSub, s_oAddI, s_oAdd, s_oLt, s_oLe, s_oGt, s_oGe, s_oNeg, s_oNot, s_oMul, s_oMulW, s_oMod, s_oFdiv, s_oPow, s_oIsN, s_oNotN, s_oIsB, s_oNotB, s_isNon_int, s_isNon_non, s_isNon_bl, s_isNon_str, s_isNon_tup, s_isNon_lst, s_isNon_dic, s_oEqI, s_oNeI, s_oIxT, s_oIxL, s_oSlT, s_oSlL, s_oRevT, s_oRevL, s_oInt, s_oIntB, s_oAbs, s_oMax2, s_oMin2, s_oLen, s_plenT, s_plenL, s_plenD, s_plenS, s_oTupleL, s_oTupleT, s_oListL, s_oListT, List.set_cons_succ, List.set_cons_zero, List.append_nil, true_and, x_bl, x_int, x_some, x_addT, x_addL, x_true, x_false]
  rw [show ((cs.map tI ++ [tI last]).length : Int) = (cs.length : Int) + 1 by simp]
  cases m with
  | zero =>
    refine ite_f (by rw [decide_eq_false (by omega)]; decide) ?_
    have e : cs.map tI ++ [tI last] = (cs ++ [last]).map tI := by rw [List.map_append]; rfl
    rw [e]
    try simp only [s_mVar0, s_mVarS, s_mVarO0, s_mVarOS, s_isObj_lst, s_isObj_dic, s_mC, s_mOp, s_mOp1, s_mB, s_mNil, s_mCons, s_mTup, s_mLst, s_mCall, s_mTB, s_mNot, s_mAnd, s_mOr, s_mAndV, s_mOrV, s_mIf, s_mYes, s_mSl, s_mNo, s_mPart, s_mLc, s_mItems, s_mRng1, s_mRng2, s_mEnum, s_mChain, s_seqT, s_seqL, s_sNext, s_sSeq, s_sIf, s_sSet, s_sRet, s_sRetN, s_sBreak, s_sCont, s_sDrop, s_sPar, s_setN0, s_setNS, s_sAsg, s_sApp, s_sAug, s_sFor, s_sSrc, s_gmN, s_gmT, s_gmCons, s_gmNil, s_wipe0, s_wipeS, s_oSub, s_oAddI, s_oAdd, s_oLt, s_oLe, s_oGt, s_oGe, s_oNeg, s_oNot, s_oMul, s_oMulW, s_oMod, s_oFdiv, s_oPow, s_oIsN, s_oNotN, s_oIsB, s_oNotB, s_isNon_int, s_isNon_non, s_isNon_bl, s_isNon_str, s_isNon_tup, s_isNon_lst, s_isNon_dic, s_oEqI, s_oNeI, s_oIxT, s_oIxL, s_oSlT, s_oSlL, s_oRevT, s_oRevL, s_oInt, s_oIntB, s_oAbs, s_oMax2, s_oMin2, s_oLen, s_plenT, s_plenL, s_plenD, s_plenS, s_oTupleL, s_oTupleT, s_oListL, s_oListT, List.set_cons_succ, List.set_cons_zero, List.append_nil, true_and, x_bl, x_int, x_some, x_addT, x_addL, x_true, x_false]
    refine h _ (by rw [List.length_append]; simp; omega) fun l hl => ?_
    rcases List.mem_append.mp hl with z | z
    · exact hcs l z
    · rw [List.mem_singleton.mp z]; exact hla
  | succ m =>
    refine ite_t (decide_eq_true (by omega)) ?_
    refine comp_emb (emb := PV.int) (xs := pool) (tst := fun y => !decide (y ∈ last)) (f := PV.int) (fun y hy => ⟨_, fun k hk => s_gmN.mpr hk, fun Q hQ => ?_, fun _ Q hQ => ?_⟩) (by rw [List.length_nil]; exact line (by omega)) ?_
    · try simp only [s_mVar0, s_mVarS, s_mVarO0, s_mVarOS, s_isObj_lst, s_isObj_dic, s_mC, s_mOp, s_mOp1, s_mB, s_mNil, s_mCons, s_mTup, s_mLst, s_mCall, s_mTB, s_mNot, s_mAnd, s_mOr, s_mAndV, s_mOrV, s_mIf, s_mYes, s_mSl, s_mNo, s_mPart, s_mLc, s_mItems, s_mRng1, s_mRng2, s_mEnum, s_mChain, s_seqT, s_seqL, s_sNext, s_sSeq, s_sIf, s_sSet, s_sRet, s_sRetN, s_sBreak, s_sCont, s_sDrop, s_sPar, s_setN0, s_setNS, s_sAsg, s_sApp, s_sAug, s_sFor, s_sSrc, s_gmN, s_gmT, s_gmCons, s_gmNil, s_wipe0, s_wipeS, s_oSub, s_oAddI, s_oAdd, s_oLt, s_oLe, s_oGt, s_oGe, s_oNeg, s_oNot, s_oMul, s_oMulW, s_oMod, s_oFdiv, s_oPow, s_oIsN, s_oNotN, s_oIsB, s_oNotB, s_isNon_int, s_isNon_non, s_isNon_bl, s_isNon_str, s_isNon_tup, s_isNon_lst, s_isNon_dic, s_oEqI, s_oNeI, s_oIxT, s_oIxL, s_oSlT, s_oSlL, s_oRevT, s_oRevL, s_oInt, s_oIntB, s_oAbs, s_oMax2, s_oMin2, s_oLen, s_plenT, s_plenL, s_plenD, s_plenS, s_oTupleL, s_oTupleT, s_oListL, s_oListT, List.set_cons_succ, List.set_cons_zero, List.append_nil, true_and, x_bl, x_int, x_some, x_addT, x_addL, x_true, x_false]
      refine ⟨_, at_last, oIn_intsT ⟨_, rfl, hQ⟩⟩
    · try simp only [s_mVar0, s_mVarS, s_mVarO0, s_mVarOS, s_isObj_lst, s_isObj_dic, s_mC, s_mOp, s_mOp1, s_mB, s_mNil, s_mCons, s_mTup, s_mLst, s_mCall, s_mTB, s_mNot, s_mAnd, s_mOr, s_mAndV, s_mOrV, s_mIf, s_mYes, s_mSl, s_mNo, s_mPart, s_mLc, s_mItems, s_mRng1, s_mRng2, s_mEnum, s_mChain, s_seqT, s_seqL, s_sNext, s_sSeq, s_sIf, s_sSet, s_sRet, s_sRetN, s_sBreak, s_sCont, s_sDrop, s_sPar, s_setN0, s_setNS, s_sAsg, s_sApp, s_sAug, s_sFor, s_sSrc, s_gmN, s_gmT, s_gmCons, s_gmNil, s_wipe0, s_wipeS, s_oSub, s_oAddI, s_oAdd, s_oLt, s_oLe, s_oGt, s_oGe, s_oNeg, s_oNot, s_oMul, s_oMulW, s_oMod, s_oFdiv, s_oPow, s_oIsN, s_oNotN, s_oIsB, s_oNotB, s_isNon_int, s_isNon_non, s_isNon_bl, s_isNon_str, s_isNon_tup, s_isNon_lst, s_isNon_dic, s_oEqI, s_oNeI, s_oIxT, s_oIxL, s_oSlT, s_oSlL, s_oRevT, s_oRevL, s_oInt, s_oIntB, s_oAbs, s_oMax2, s_oMin2, s_oLen, s_plenT, s_plenL, s_plenD, s_plenS, s_oTupleL, s_oTupleT, s_oListL, s_oListT, List.set_cons_succ, List.set_cons_zero, List.append_nil, true_and, x_bl, x_int, x_some, x_addT, x_addL, x_true, x_false]
      exact hQ
    rw [List.nil_append]
    try simp only [s_mVar0, s_mVarS, s_mVarO0, s_mVarOS, s_isObj_lst, s_isObj_dic, s_mC, s_mOp, s_mOp1, s_mB, s_mNil, s_mCons, s_mTup, s_mLst, s_mCall, s_mTB, s_mNot, s_mAnd, s_mOr, s_mAndV, s_mOrV, s_mIf, s_mYes, s_mSl, s_mNo, s_mPart, s_mLc, s_mItems, s_mRng1, s_mRng2, s_mEnum, s_mChain, s_seqT, s_seqL, s_sNext, s_sSeq, s_sIf, s_sSet, s_sRet, s_sRetN, s_sBreak, s_sCont, s_sDrop, s_sPar, s_setN0, s_setNS, s_sAsg, s_sApp, s_sAug, s_sFor, s_sSrc, s_gmN, s_gmT, s_gmCons, s_gmNil, s_wipe0, s_wipeS, s_oSub, s_oAddI, s_oAdd, s_oLt, s_oLe, s_oGt, s_oGe, s_oNeg, s_oNot, s_oMul, s_oMulW, s_oMod, s_oFdiv, s_oPow, s_oIsN, s_oNotN, s_oIsB, s_oNotB, s_isNon_int, s_isNon_non, s_isNon_bl, s_isNon_str, s_isNon_tup, s_isNon_lst, s_isNon_dic, s_oEqI, s_oNeI, s_oIxT, s_oIxL, s_oSlT, s_oSlL, s_oRevT, s_oRevL, s_oInt, s_oIntB, s_oAbs, s_oMax2, s_oMin2, s_oLen, s_plenT, s_plenL, s_plenD, s_plenS, s_oTupleL, s_oTupleT, s_oListL, s_oListT, List.set_cons_succ, List.set_cons_zero, List.append_nil, true_and, x_bl, x_int, x_some, x_addT, x_addL, x_true, x_false]
    obtain ⟨out, hout⟩ : ∃ out, out = pool.filter fun y => !decide (y ∈ last) := ⟨_, rfl⟩
    rw [← hout]
    have ho1 : out.Sublist pool := by rw [hout]; exact List.filter_sublist
    have ho2 : ∀ x ∈ out, x ∉ last := fun x hx => by
      rw [hout, List.mem_filter] at hx
      simpa using hx.2
    have hol : out.length ≤ 60 := Nat.le_trans ho1.length_le hpl
    refine ⟨_, rfl, by omega, by omega, fun r r0 r1 => ?_⟩
    try simp only [s_mVar0, s_mVarS, s_mVarO0, s_mVarOS, s_isObj_lst, s_isObj_dic, s_mC, s_mOp, s_mOp1, s_mB, s_mNil, s_mCons, s_mTup, s_mLst, s_mCall, s_mTB, s_mNot, s_mAnd, s_mOr, s_mAndV, s_mOrV, s_mIf, s_mYes, s_mSl, s_mNo, s_mPart, s_mLc, s_mItems, s_mRng1, s_mRng2, s_mEnum, s_mChain, s_seqT, s_seqL, s_sNext, s_sSeq, s_sIf, s_sSet, s_sRet, s_sRetN, s_sBreak, s_sCont, s_sDrop, s_sPar, s_setN0, s_setNS, s_sAsg, s_sApp, s_sAug, s_sFor, s_sSrc, s_gmN, s_gmT, s_gmCons, s_gmNil, s_wipe0, s_wipeS, s_oSub, s_oAddI, s_oAdd, s_oLt, s_oLe, s_oGt, s_oGe, s_oNeg, s_oNot, s_oMul, s_oMulW, s_oMod, s_oFdiv, s_oPow, s_oIsN, s_oNotN, s_oIsB, s_oNotB, s_isNon_int, s_isNon_non, s_isNon_bl, s_isNon_str, s_isNon_tup, s_isNon_lst, s_isNon_dic, s_oEqI, s_oNeI, s_oIxT, s_oIxL, s_oSlT, s_oSlL, s_oRevT, s_oRevL, s_oInt, s_oIntB, s_oAbs, s_oMax2, s_oMin2, s_oLen, s_plenT, s_plenL, s_plenD, s_plenS, s_oTupleL, s_oTupleT, s_oListL, s_oListT, List.set_cons_succ, List.set_cons_zero, List.append_nil, true_and, x_bl, x_int, x_some, x_addT, x_addL, x_true, x_false]
    obtain ⟨q, hq⟩ : ∃ q : Nat, (if r < (out.length : Int) then r else (out.length : Int)) = (q : Int) := ⟨(if r < (out.length : Int) then r else (out.length : Int)).toNat, by split <;> omega⟩
    have hq1 : q ≤ out.length ∧ q ≤ k := by split at hq <;> omega
    try rw [List.length_map]
    rw [hq]
    refine ⟨_, _, q, rfl, .inl rfl, by rw [List.length_map]; exact hq1.1, by rw [List.length_map]; omega, fun ys hs hl => ?_⟩
    obtain ⟨fr, hfr, rfl⟩ := sub_ints hs
    rw [List.length_map] at hl
    try simp only [s_mVar0, s_mVarS, s_mVarO0, s_mVarOS, s_isObj_lst, s_isObj_dic, s_mC, s_mOp, s_mOp1, s_mB, s_mNil, s_mCons, s_mTup, s_mLst, s_mCall, s_mTB, s_mNot, s_mAnd, s_mOr, s_mAndV, s_mOrV, s_mIf, s_mYes, s_mSl, s_mNo, s_mPart, s_mLc, s_mItems, s_mRng1, s_mRng2, s_mEnum, s_mChain, s_seqT, s_seqL, s_sNext, s_sSeq, s_sIf, s_sSet, s_sRet, s_sRetN, s_sBreak, s_sCont, s_sDrop, s_sPar, s_setN0, s_setNS, s_sAsg, s_sApp, s_sAug, s_sFor, s_sSrc, s_gmN, s_gmT, s_gmCons, s_gmNil, s_wipe0, s_wipeS, s_oSub, s_oAddI, s_oAdd, s_oLt, s_oLe, s_oGt, s_oGe, s_oNeg, s_oNot, s_oMul, s_oMulW, s_oMod, s_oFdiv, s_oPow, s_oIsN, s_oNotN, s_oIsB, s_oNotB, s_isNon_int, s_isNon_non, s_isNon_bl, s_isNon_str, s_isNon_tup, s_isNon_lst, s_isNon_dic, s_oEqI, s_oNeI, s_oIxT, s_oIxL, s_oSlT, s_oSlL, s_oRevT, s_oRevL, s_oInt, s_oIntB, s_oAbs, s_oMax2, s_oMin2, s_oLen, s_plenT, s_plenL, s_plenD, s_plenS, s_oTupleL, s_oTupleT, s_oListL, s_oListT, List.set_cons_succ, List.set_cons_zero, List.append_nil, true_and, x_bl, x_int, x_some, x_addT, x_addL, x_true, x_false]
    refine ⟨_, rfl, _, at_last, ?_⟩
    rw [List.length_map, hl, show (k : Int) - (q : Int) = ((k - q : Nat) : Int) by omega]
    refine ⟨_, _, k - q, rfl, .inr rfl, by rw [List.length_map, hla.len]; omega, by rw [List.length_map, hla.len]; omega, fun ys hs hl2 => ?_⟩
    obtain ⟨ol, hol2, rfl⟩ := sub_ints hs
    rw [List.length_map] at hl2
    try simp only [s_mVar0, s_mVarS, s_mVarO0, s_mVarOS, s_isObj_lst, s_isObj_dic, s_mC, s_mOp, s_mOp1, s_mB, s_mNil, s_mCons, s_mTup, s_mLst, s_mCall, s_mTB, s_mNot, s_mAnd, s_mOr, s_mAndV, s_mOrV, s_mIf, s_mYes, s_mSl, s_mNo, s_mPart, s_mLc, s_mItems, s_mRng1, s_mRng2, s_mEnum, s_mChain, s_seqT, s_seqL, s_sNext, s_sSeq, s_sIf, s_sSet, s_sRet, s_sRetN, s_sBreak, s_sCont, s_sDrop, s_sPar, s_setN0, s_setNS, s_sAsg, s_sApp, s_sAug, s_sFor, s_sSrc, s_gmN, s_gmT, s_gmCons, s_gmNil, s_wipe0, s_wipeS, s_oSub, s_oAddI, s_oAdd, s_oLt, s_oLe, s_oGt, s_oGe, s_oNeg, s_oNot, s_oMul, s_oMulW, s_oMod, s_oFdiv, s_oPow, s_oIsN, s_oNotN, s_oIsB, s_oNotB, s_isNon_int, s_isNon_non, s_isNon_bl, s_isNon_str, s_isNon_tup, s_isNon_lst, s_isNon_dic, s_oEqI, s_oNeI, s_oIxT, s_oIxL, s_oSlT, s_oSlL, s_oRevT, s_oRevL, s_oInt, s_oIntB, s_oAbs, s_oMax2, s_oMin2, s_oLen, s_plenT, s_plenL, s_plenD, s_plenS, s_oTupleL, s_oTupleT, s_oListL, s_oListT, List.set_cons_succ, List.set_cons_zero, List.append_nil, true_and, x_bl, x_int, x_some, x_addT, x_addL, x_true, x_false]
    have hb : (fr ++ ol).length = k := by rw [List.length_append, hl, hl2]; omega
    refine ⟨by rw [List.length_map, List.length_map]; rw [List.length_append] at hb; exact line (by omega), fr ++ ol, by rw [List.map_append], by omega, ?_⟩
    try simp only [s_mVar0, s_mVarS, s_mVarO0, s_mVarOS, s_isObj_lst, s_isObj_dic, s_mC, s_mOp, s_mOp1, s_mB, s_mNil, s_mCons, s_mTup, s_mLst, s_mCall, s_mTB, s_mNot, s_mAnd, s_mOr, s_mAndV, s_mOrV, s_mIf, s_mYes, s_mSl, s_mNo, s_mPart, s_mLc, s_mItems, s_mRng1, s_mRng2, s_mEnum, s_mChain, s_seqT, s_seqL, s_sNext, s_sSeq, s_sIf, s_sSet, s_sRet, s_sRetN, s_sBreak, s_sCont, s_sDrop, s_sPar, s_setN0, s_setNS, s_sAsg, s_sApp, s_sAug, s_sFor, s_sSrc, s_gmN, s_gmT, s_gmCons, s_gmNil, s_wipe0, s_wipeS, s_oSub, s_oAddI, s_oAdd, s_oLt, s_oLe, s_oGt, s_oGe, s_oNeg, s_oNot, s_oMul, s_oMulW, s_oMod, s_oFdiv, s_oPow, s_oIsN, s_oNotN, s_oIsB, s_oNotB, s_isNon_int, s_isNon_non, s_isNon_bl, s_isNon_str, s_isNon_tup, s_isNon_lst, s_isNon_dic, s_oEqI, s_oNeI, s_oIxT, s_oIxL, s_oSlT, s_oSlL, s_oRevT, s_oRevL, s_oInt, s_oIntB, s_oAbs, s_oMax2, s_oMin2, s_oLen, s_plenT, s_plenL, s_plenD, s_plenS, s_oTupleL, s_oTupleT, s_oListL, s_oListT, List.set_cons_succ, List.set_cons_zero, List.append_nil, true_and, x_bl, x_int, x_some, x_addT, x_addL, x_true, x_false]
    refine ⟨small_line (by simp; omega), ?_⟩
    refine ⟨m, Nat.lt_succ_self m, cs ++ [last], isort (fr ++ ol), _, _, by rw [List.length_append]; simp; omega, fun l hl => ?_, ⟨?_, fun x hx => ?_, by rw [isort_len, hb]⟩, by rw [List.map_append]; rfl⟩
    · rcases List.mem_append.mp hl with z | z
      · exact hcs l z
      · rw [List.mem_singleton.mp z]; exact hla
    · refine (isort_perm _).nodup_iff.mpr (List.nodup_append.mpr ⟨hfr.nodup (ho1.nodup hnd), hol2.nodup hla.nd, fun a ha b hb2 e => ?_⟩)
      exact ho2 a (hfr.subset ha) (e ▸ hol2.subset hb2)
    · rcases List.mem_append.mp ((isort_perm _).mem_iff.mp hx) with z | z
      · exact ho1.subset (hfr.subset z)
      · exact hla.sub x (hol2.subset z)
end K24

set_option maxHeartbeats 2000000
namespace K24
open PySem L2 PM
/-- the notes are of the forms, and name just these dealings -/
def NG (dl : List (List Int)) (ns : List Nt) : Prop := ∀ n ∈ ns, Kd n ∧ ∀ i k, key i n = some k → k ∈ dl
theorem NG.app {dl : List (List Int)} {ns ms : List Nt} (h : NG dl ns) (h2 : NG dl ms) : NG dl (ns ++ ms) := fun n hn => (List.mem_append.mp hn).elim (h n) (h2 n)
theorem NG.one {dl : List (List Int)} {n : Nt} (h : Kd n ∧ ∀ i k, key i n = some k → k ∈ dl) : NG dl [n] := fun m hm => by rw [List.mem_singleton.mp hm]; exact h
structure Sz (cs : Crs) (pool : List Int) (dl : List (List Int)) : Prop where
  c2 : 2 ≤ cs.length
  c10 : cs.length ≤ 10
  lot : ∀ l ∈ cs, 0 < l.length ∧ l.length ≤ 12
  p0 : 0 < pool.length
  p1 : pool.length ≤ 60
  d0 : 0 < dl.length
  d1 : dl.length ≤ 10
  prs : Prs dl
theorem pick_pool {xs : List Int} {P : PV → Prop} (h0 : 0 < xs.length) (h1 : xs.length ≤ 1000) (h : ∀ x ∈ xs, P (.int x)) : sp_pick [.src, tI xs] P := ⟨_, _, rfl, .inr rfl, by rw [List.length_map]; exact h0, by rw [List.length_map]; exact h1, fun x hx => by
  obtain ⟨i, hi, rfl⟩ := List.mem_map.mp hx
  exact h i hi⟩
def maxI (a b : Int) : Int := if a < b then b else a
theorem key_hold {dl : List (List Int)} {h i a b : Int} (hd : [a, b] ∈ dl) : Kd (h, hold, [i, a, b]) ∧ ∀ j k, key j (h, hold, [i, a, b]) = some k → k ∈ dl :=
  ⟨.inl ⟨rfl, .inr ⟨i, a, b, rfl⟩⟩, fun j k e => by
    unfold key at e
    rw [if_neg (fun z => deal_hold z.symm), if_pos rfl] at e
    have e : (if i = j then some [a, b] else none) = some k := e
    split at e
    · cases e; exact hd
    · cases e⟩
theorem key_hold1 {dl : List (List Int)} {h i : Int} : Kd (h, hold, [i]) ∧ ∀ j k, key j (h, hold, [i]) = some k → k ∈ dl :=
  ⟨.inl ⟨rfl, .inl ⟨i, rfl⟩⟩, fun j k e => by
    unfold key at e
    rw [if_neg (fun z => deal_hold z.symm), if_pos rfl] at e
    cases e⟩
theorem key_deal {dl : List (List Int)} {i a b : Int} (hd : [a, b] ∈ dl) : Kd (a, deal, [i, b]) ∧ ∀ j k, key j (a, deal, [i, b]) = some k → k ∈ dl :=
  ⟨.inr (.inl ⟨rfl, i, b, rfl⟩), fun j k e => by
    unfold key at e
    rw [if_pos rfl] at e
    have e : (if i = j then some [a, b] else none) = some k := e
    split at e
    · cases e; exact hd
    · cases e⟩
theorem key_wiped {dl : List (List Int)} {h i : Int} : Kd (h, wiped, [i]) ∧ ∀ j k, key j (h, wiped, [i]) = some k → k ∈ dl :=
  ⟨.inr (.inr (.inl ⟨rfl, i, rfl⟩)), fun j k e => by
    unfold key at e
    rw [if_neg wiped_deal, if_neg wiped_hold] at e
    cases e⟩
theorem key_help {dl : List (List Int)} {h i : Int} {r : List Int} : Kd (h, help, i :: r) ∧ ∀ j k, key j (h, help, i :: r) = some k → k ∈ dl :=
  ⟨.inr (.inr (.inr ⟨rfl, i, r, rfl⟩)), fun j k e => by
    unfold key at e
    rw [if_neg help_deal, if_neg help_hold] at e
    cases e⟩
theorem sub_nts {xs : List Nt} {ys : List PV} (h : ys.Sublist (xs.map ntP)) : ∃ zs : List Nt, zs.Sublist xs ∧ ys = zs.map ntP := by
  obtain ⟨d, h1, h2⟩ := List.sublist_map_iff.mp h
  exact ⟨d, h1, h2⟩
def sp_l_notes : PM.Spec := fun ps P => ∃ (cs : Crs) (pool : List Int) (dl : List (List Int)), ps = [.src, .tup (cs.map tI), tI pool, .lst (dl.map tupI)] ∧ Sz cs pool dl ∧ ∀ (main : Int) (ns : List Nt), 0 ≤ main → main + 1 < cs.length → NG dl ns → ns.length ≤ 400 → P (.tup [.int main, .tup (ns.map ntP)])
theorem h_l_notes (ps : List PV) (Q : PV → Prop) (h : sp_l_notes ps Q) : t_l_notes sp_drw sp_pick sp_some { nx := fun _ => nxOf .cl Q, rt := Q } (startE n_l_notes.length ps) := by
  obtain ⟨cs, pool, dl, rfl, S, h⟩ := h
  have hc2 := S.c2
  have hc10 := S.c10
  have hd0 := S.d0
  have hd1 := S.d1
  show t_l_notes _ _ _ _ [some .src, some (.tup (cs.map tI)), some (tI pool), some (.lst (dl.map tupI)), none, none, none, none, none, none, none, none, none, none, none]
  unfold t_l_notes
  refine s_sSeq.mpr ?_
  try simp only [s_mVar0, s_mVarS, s_mVarO0, s_mVarOS, s_isObj_lst, s_isObj_dic, s_mC, s_mOp, s_mOp1, s_mB, s_mNil, s_mCons, s_mTup, s_mLst, s_mCall, s_mTB, s_mNot, s_mAnd, s_mOr, s_mAndV, s_mOrV, s_mIf, s_mYes, s_mSl, s_mNo, s_mPart, s_mLc, s_mItems, s_mRng1, s_mRng2, s_mEnum, s_mChain, s_seqT, s_seqL, s_sNext, s_sSeq, s_sIf, s_sSet, s_sRet, s_sRetN, s_sBreak, s_sCont, s_sDrop, s_sPar, s_setN0, s_setNS, s_sAsg, s_sApp, s_sAug, s_sFor, s_sSrc, s_gmN, s_gmT, s_gmCons, s_gmNil, s_wipe0, s_wipeS, s_oSub, s_oAddI, s_oAdd, s_oLt, s_oLe, s_oGt, s_oGe, s_oNeg, s_oNot, s_oMul, s_oMulW, s_oMod, s_oFdiv, s_oPow, s_oIsN, s_oNotN, s_oIsB, s_oNotB, s_isNon_int, s_isNon_non, s_isNon_bl, s_isNon_str, s_isNon_tup, s_isNon_lst, s_isNon_dic, s_oEqI, s_oNeI, s_oIxT, s_oIxL, s_oSlT, s_oSlL, s_oRevT, s_oRevL, s_oInt, s_oIntB, s_oAbs, s_oMax2, s_oMin2, s_oLen, s_plenT, s_plenL, s_plenD, s_plenS, s_oTupleL, s_oTupleT, s_oListL, s_oListT, List.set_cons_succ, List.set_cons_zero, List.append_nil, true_and, x_bl, x_int, x_some, x_addT, x_addL, x_true, x_false]
  rw [List.length_map]
  have e1 : (if (1 : Int) < (cs.length : Int) - 1 then (cs.length : Int) - 1 else 1) = maxI 1 ((cs.length : Int) - 1) := rfl
  refine ⟨Nat.zero_le _, ⟨_, rfl, by split <;> omega, by split <;> omega, fun main r0 r1 => ?_⟩⟩
  have hm1 : main + 1 < cs.length := by split at r1 <;> omega
  have r0' : 0 ≤ main := r0
  have hm2 : main < cs.length := by omega
  refine ⟨line (by simp), ?_⟩
  refine pick_ints (xs := [0, 4, 12, 30, 60]) (by decide) (by decide) fun tn htn => ?_
  have ht : 0 ≤ tn ∧ tn ≤ 60 := by
    have : tn = 0 ∨ tn = 4 ∨ tn = 12 ∨ tn = 30 ∨ tn = 60 := by simpa using htn
    omega
  refine ⟨tn, rfl, ⟨by omega, by omega⟩, ?_⟩
  obtain ⟨tm, rfl⟩ : ∃ tm : Nat, tn = tm := ⟨tn.toNat, by omega⟩
  rw [Int.toNat_natCast, rngP_rng]
  refine for_inv (fun j e => j ≤ tm ∧ ∃ (ns : List Nt) (y4 y5 y8 y9 y10 y11 y12 y13 y14 : Option PV), NG dl ns ∧ ns.length ≤ j ∧ e = [some .src, some (.tup (cs.map tI)), some (tI pool), some (.lst (dl.map tupI)), y4, y5, some (.lst (ns.map ntP)), some (.int main), y8, y9, y10, y11, y12, y13, y14]) ⟨Nat.zero_le _, [], none, none, none, none, none, none, none, none, none, (fun n h => by cases h), Nat.le_refl _, rfl⟩ (fun j x e N hx hE hN => ?_) (fun e hE => ?_)
  · obtain ⟨hj, ns, y4, y5, y8, y9, y10, y11, y12, y13, y14, hng, hnl, rfl⟩ := hE
    have hjt : j < tm := by have := (List.getElem?_eq_some_iff.mp hx).1; rw [rng_len] at this; exact this
    rw [s_gmN]
    refine s_sSeq.mpr (s_sSet.mpr ?_)
    refine (fun (hyp : ∀ K : PV → Prop, (∀ i : Int, 0 ≤ i → i < cs.length → K (.int i)) → mIf _ _ _ _ K) => hyp _ fun i i0 i1 => ?cc1) ?ff1
    case ff1 =>
      intro K hK
      try simp only [s_mVar0, s_mVarS, s_mVarO0, s_mVarOS, s_isObj_lst, s_isObj_dic, s_mC, s_mOp, s_mOp1, s_mB, s_mNil, s_mCons, s_mTup, s_mLst, s_mCall, s_mTB, s_mNot, s_mAnd, s_mOr, s_mAndV, s_mOrV, s_mIf, s_mYes, s_mSl, s_mNo, s_mPart, s_mLc, s_mItems, s_mRng1, s_mRng2, s_mEnum, s_mChain, s_seqT, s_seqL, s_sNext, s_sSeq, s_sIf, s_sSet, s_sRet, s_sRetN, s_sBreak, s_sCont, s_sDrop, s_sPar, s_setN0, s_setNS, s_sAsg, s_sApp, s_sAug, s_sFor, s_sSrc, s_gmN, s_gmT, s_gmCons, s_gmNil, s_wipe0, s_wipeS, s_oSub, s_oAddI, s_oAdd, s_oLt, s_oLe, s_oGt, s_oGe, s_oNeg, s_oNot, s_oMul, s_oMulW, s_oMod, s_oFdiv, s_oPow, s_oIsN, s_oNotN, s_oIsB, s_oNotB, s_isNon_int, s_isNon_non, s_isNon_bl, s_isNon_str, s_isNon_tup, s_isNon_lst, s_isNon_dic, s_oEqI, s_oNeI, s_oIxT, s_oIxL, s_oSlT, s_oSlL, s_oRevT, s_oRevL, s_oInt, s_oIntB, s_oAbs, s_oMax2, s_oMin2, s_oLen, s_plenT, s_plenL, s_plenD, s_plenS, s_oTupleL, s_oTupleT, s_oListL, s_oListT, List.set_cons_succ, List.set_cons_zero, List.append_nil, true_and, x_bl, x_int, x_some, x_addT, x_addL, x_true, x_false]
      refine ⟨4, rfl, by omega, by omega, fun r r0 r1 => ?_⟩
      try simp only [s_mVar0, s_mVarS, s_mVarO0, s_mVarOS, s_isObj_lst, s_isObj_dic, s_mC, s_mOp, s_mOp1, s_mB, s_mNil, s_mCons, s_mTup, s_mLst, s_mCall, s_mTB, s_mNot, s_mAnd, s_mOr, s_mAndV, s_mOrV, s_mIf, s_mYes, s_mSl, s_mNo, s_mPart, s_mLc, s_mItems, s_mRng1, s_mRng2, s_mEnum, s_mChain, s_seqT, s_seqL, s_sNext, s_sSeq, s_sIf, s_sSet, s_sRet, s_sRetN, s_sBreak, s_sCont, s_sDrop, s_sPar, s_setN0, s_setNS, s_sAsg, s_sApp, s_sAug, s_sFor, s_sSrc, s_gmN, s_gmT, s_gmCons, s_gmNil, s_wipe0, s_wipeS, s_oSub, s_oAddI, s_oAdd, s_oLt, s_oLe, s_oGt, s_oGe, s_oNeg, s_oNot, s_oMul, s_oMulW, s_oMod, s_oFdiv, s_oPow, s_oIsN, s_oNotN, s_oIsB, s_oNotB, s_isNon_int, s_isNon_non, s_isNon_bl, s_isNon_str, s_isNon_tup, s_isNon_lst, s_isNon_dic, s_oEqI, s_oNeI, s_oIxT, s_oIxL, s_oSlT, s_oSlL, s_oRevT, s_oRevL, s_oInt, s_oIntB, s_oAbs, s_oMax2, s_oMin2, s_oLen, s_plenT, s_plenL, s_plenD, s_plenS, s_oTupleL, s_oTupleT, s_oListL, s_oListT, List.set_cons_succ, List.set_cons_zero, List.append_nil, true_and, x_bl, x_int, x_some, x_addT, x_addL, x_true, x_false]
      by_cases c : (0 : Int) < r
      · exact ite_t (decide_eq_true c) (hK main r0' hm2)
      · refine ite_f (by simp; omega) ?_
        exact ⟨cs.length, by rw [List.length_map], by omega, by omega, fun r r0 r1 => hK r r0 r1⟩
    dsimp only
    refine s_sSeq.mpr (s_sSet.mpr ?_)
    refine (fun (hyp : ∀ K : PV → Prop, (∀ i : Int, K (.int i)) → mIf _ _ _ _ K) => hyp _ fun who => ?cc2) ?ff2
    case ff2 =>
      intro K hK
      try simp only [s_mVar0, s_mVarS, s_mVarO0, s_mVarOS, s_isObj_lst, s_isObj_dic, s_mC, s_mOp, s_mOp1, s_mB, s_mNil, s_mCons, s_mTup, s_mLst, s_mCall, s_mTB, s_mNot, s_mAnd, s_mOr, s_mAndV, s_mOrV, s_mIf, s_mYes, s_mSl, s_mNo, s_mPart, s_mLc, s_mItems, s_mRng1, s_mRng2, s_mEnum, s_mChain, s_seqT, s_seqL, s_sNext, s_sSeq, s_sIf, s_sSet, s_sRet, s_sRetN, s_sBreak, s_sCont, s_sDrop, s_sPar, s_setN0, s_setNS, s_sAsg, s_sApp, s_sAug, s_sFor, s_sSrc, s_gmN, s_gmT, s_gmCons, s_gmNil, s_wipe0, s_wipeS, s_oSub, s_oAddI, s_oAdd, s_oLt, s_oLe, s_oGt, s_oGe, s_oNeg, s_oNot, s_oMul, s_oMulW, s_oMod, s_oFdiv, s_oPow, s_oIsN, s_oNotN, s_oIsB, s_oNotB, s_isNon_int, s_isNon_non, s_isNon_bl, s_isNon_str, s_isNon_tup, s_isNon_lst, s_isNon_dic, s_oEqI, s_oNeI, s_oIxT, s_oIxL, s_oSlT, s_oSlL, s_oRevT, s_oRevL, s_oInt, s_oIntB, s_oAbs, s_oMax2, s_oMin2, s_oLen, s_plenT, s_plenL, s_plenD, s_plenS, s_oTupleL, s_oTupleT, s_oListL, s_oListT, List.set_cons_succ, List.set_cons_zero, List.append_nil, true_and, x_bl, x_int, x_some, x_addT, x_addL, x_true, x_false]
      refine ⟨5, rfl, by omega, by omega, fun r r0 r1 => ?_⟩
      try simp only [s_mVar0, s_mVarS, s_mVarO0, s_mVarOS, s_isObj_lst, s_isObj_dic, s_mC, s_mOp, s_mOp1, s_mB, s_mNil, s_mCons, s_mTup, s_mLst, s_mCall, s_mTB, s_mNot, s_mAnd, s_mOr, s_mAndV, s_mOrV, s_mIf, s_mYes, s_mSl, s_mNo, s_mPart, s_mLc, s_mItems, s_mRng1, s_mRng2, s_mEnum, s_mChain, s_seqT, s_seqL, s_sNext, s_sSeq, s_sIf, s_sSet, s_sRet, s_sRetN, s_sBreak, s_sCont, s_sDrop, s_sPar, s_setN0, s_setNS, s_sAsg, s_sApp, s_sAug, s_sFor, s_sSrc, s_gmN, s_gmT, s_gmCons, s_gmNil, s_wipe0, s_wipeS, s_oSub, s_oAddI, s_oAdd, s_oLt, s_oLe, s_oGt, s_oGe, s_oNeg, s_oNot, s_oMul, s_oMulW, s_oMod, s_oFdiv, s_oPow, s_oIsN, s_oNotN, s_oIsB, s_oNotB, s_isNon_int, s_isNon_non, s_isNon_bl, s_isNon_str, s_isNon_tup, s_isNon_lst, s_isNon_dic, s_oEqI, s_oNeI, s_oIxT, s_oIxL, s_oSlT, s_oSlL, s_oRevT, s_oRevL, s_oInt, s_oIntB, s_oAbs, s_oMax2, s_oMin2, s_oLen, s_plenT, s_plenL, s_plenD, s_plenS, s_oTupleL, s_oTupleT, s_oListL, s_oListT, List.set_cons_succ, List.set_cons_zero, List.append_nil, true_and, x_bl, x_int, x_some, x_addT, x_addL, x_true, x_false]
      by_cases c : (0 : Int) < r
      · refine ite_t (decide_eq_true c) ?_
        try rw [List.length_map]
        obtain ⟨q, hq⟩ : ∃ q, (if (cs.length : Int) - 1 < i + 1 then (cs.length : Int) - 1 else i + 1) = q := ⟨_, rfl⟩
        have hq1 : 0 ≤ q ∧ q < cs.length := by split at hq <;> omega
        rw [hq]
        refine ⟨_, lot_at hq1.1 hq1.2, ?_⟩
        have hl := S.lot _ (lot_mem hq1.1 hq1.2)
        exact pick_pool hl.1 (by omega) fun x _ => hK x
      · refine ite_f (by simp; omega) ?_
        exact pick_pool S.p0 (Nat.le_trans S.p1 (by decide)) fun x _ => hK x
    dsimp only
    refine s_sSeq.mpr (s_sAsg.mpr ?_)
    refine (fun (hyp : ∀ K : PV → Prop, (∀ a b : Int, [a, b] ∈ dl → K (tupI [a, b])) → mCall _ _ _ _ K) => hyp _ fun a b hab => ?cc3) ?ff3
    case ff3 =>
      intro K hK
      try simp only [s_mVar0, s_mVarS, s_mVarO0, s_mVarOS, s_isObj_lst, s_isObj_dic, s_mC, s_mOp, s_mOp1, s_mB, s_mNil, s_mCons, s_mTup, s_mLst, s_mCall, s_mTB, s_mNot, s_mAnd, s_mOr, s_mAndV, s_mOrV, s_mIf, s_mYes, s_mSl, s_mNo, s_mPart, s_mLc, s_mItems, s_mRng1, s_mRng2, s_mEnum, s_mChain, s_seqT, s_seqL, s_sNext, s_sSeq, s_sIf, s_sSet, s_sRet, s_sRetN, s_sBreak, s_sCont, s_sDrop, s_sPar, s_setN0, s_setNS, s_sAsg, s_sApp, s_sAug, s_sFor, s_sSrc, s_gmN, s_gmT, s_gmCons, s_gmNil, s_wipe0, s_wipeS, s_oSub, s_oAddI, s_oAdd, s_oLt, s_oLe, s_oGt, s_oGe, s_oNeg, s_oNot, s_oMul, s_oMulW, s_oMod, s_oFdiv, s_oPow, s_oIsN, s_oNotN, s_oIsB, s_oNotB, s_isNon_int, s_isNon_non, s_isNon_bl, s_isNon_str, s_isNon_tup, s_isNon_lst, s_isNon_dic, s_oEqI, s_oNeI, s_oIxT, s_oIxL, s_oSlT, s_oSlL, s_oRevT, s_oRevL, s_oInt, s_oIntB, s_oAbs, s_oMax2, s_oMin2, s_oLen, s_plenT, s_plenL, s_plenD, s_plenS, s_oTupleL, s_oTupleT, s_oListL, s_oListT, List.set_cons_succ, List.set_cons_zero, List.append_nil, true_and, x_bl, x_int, x_some, x_addT, x_addL, x_true, x_false]
      refine ⟨_, _, rfl, .inl rfl, by rw [List.length_map]; exact hd0, by rw [List.length_map]; omega, fun x hx => ?_⟩
      obtain ⟨k, hk, rfl⟩ := List.mem_map.mp hx
      obtain ⟨a, b, rfl⟩ := two_of (S.prs k hk).1
      exact hK a b hk
    refine s_gmT.mpr ⟨rfl, s_gmCons.mpr (s_gmN.mpr (s_gmCons.mpr (s_gmN.mpr (s_gmNil.mpr ?_))))⟩
    dsimp only
    refine s_sSeq.mpr (s_sPar.mpr ?_)
    refine (fun (hyp : ∀ K : List PV → Prop, (∀ o n : Int, K [.int o, .int n]) → mCons _ _ _ K) => hyp _ fun o nu => ?cc4) ?ff4
    case ff4 =>
      intro K hK
      try simp only [s_mVar0, s_mVarS, s_mVarO0, s_mVarOS, s_isObj_lst, s_isObj_dic, s_mC, s_mOp, s_mOp1, s_mB, s_mNil, s_mCons, s_mTup, s_mLst, s_mCall, s_mTB, s_mNot, s_mAnd, s_mOr, s_mAndV, s_mOrV, s_mIf, s_mYes, s_mSl, s_mNo, s_mPart, s_mLc, s_mItems, s_mRng1, s_mRng2, s_mEnum, s_mChain, s_seqT, s_seqL, s_sNext, s_sSeq, s_sIf, s_sSet, s_sRet, s_sRetN, s_sBreak, s_sCont, s_sDrop, s_sPar, s_setN0, s_setNS, s_sAsg, s_sApp, s_sAug, s_sFor, s_sSrc, s_gmN, s_gmT, s_gmCons, s_gmNil, s_wipe0, s_wipeS, s_oSub, s_oAddI, s_oAdd, s_oLt, s_oLe, s_oGt, s_oGe, s_oNeg, s_oNot, s_oMul, s_oMulW, s_oMod, s_oFdiv, s_oPow, s_oIsN, s_oNotN, s_oIsB, s_oNotB, s_isNon_int, s_isNon_non, s_isNon_bl, s_isNon_str, s_isNon_tup, s_isNon_lst, s_isNon_dic, s_oEqI, s_oNeI, s_oIxT, s_oIxL, s_oSlT, s_oSlL, s_oRevT, s_oRevL, s_oInt, s_oIntB, s_oAbs, s_oMax2, s_oMin2, s_oLen, s_plenT, s_plenL, s_plenD, s_plenS, s_oTupleL, s_oTupleT, s_oListL, s_oListT, List.set_cons_succ, List.set_cons_zero, List.append_nil, true_and, x_bl, x_int, x_some, x_addT, x_addL, x_true, x_false]
      refine pick_pool S.p0 (Nat.le_trans S.p1 (by decide)) fun o _ => ?_
      exact ⟨11, rfl, by omega, by omega, fun r r0 r1 => hK o r⟩
    dsimp only
    refine s_sSeq.mpr (s_sSet.mpr ?_)
    refine (fun (hyp : ∀ K : PV → Prop, (∀ r : Int, K (.int r)) → mCall _ _ _ _ K) => hyp _ fun wh => ?cc5) ?ff5
    case ff5 =>
      intro K hK
      try simp only [s_mVar0, s_mVarS, s_mVarO0, s_mVarOS, s_isObj_lst, s_isObj_dic, s_mC, s_mOp, s_mOp1, s_mB, s_mNil, s_mCons, s_mTup, s_mLst, s_mCall, s_mTB, s_mNot, s_mAnd, s_mOr, s_mAndV, s_mOrV, s_mIf, s_mYes, s_mSl, s_mNo, s_mPart, s_mLc, s_mItems, s_mRng1, s_mRng2, s_mEnum, s_mChain, s_seqT, s_seqL, s_sNext, s_sSeq, s_sIf, s_sSet, s_sRet, s_sRetN, s_sBreak, s_sCont, s_sDrop, s_sPar, s_setN0, s_setNS, s_sAsg, s_sApp, s_sAug, s_sFor, s_sSrc, s_gmN, s_gmT, s_gmCons, s_gmNil, s_wipe0, s_wipeS, s_oSub, s_oAddI, s_oAdd, s_oLt, s_oLe, s_oGt, s_oGe, s_oNeg, s_oNot, s_oMul, s_oMulW, s_oMod, s_oFdiv, s_oPow, s_oIsN, s_oNotN, s_oIsB, s_oNotB, s_isNon_int, s_isNon_non, s_isNon_bl, s_isNon_str, s_isNon_tup, s_isNon_lst, s_isNon_dic, s_oEqI, s_oNeI, s_oIxT, s_oIxL, s_oSlT, s_oSlL, s_oRevT, s_oRevL, s_oInt, s_oIntB, s_oAbs, s_oMax2, s_oMin2, s_oLen, s_plenT, s_plenL, s_plenD, s_plenS, s_oTupleL, s_oTupleT, s_oListL, s_oListT, List.set_cons_succ, List.set_cons_zero, List.append_nil, true_and, x_bl, x_int, x_some, x_addT, x_addL, x_true, x_false]
      exact ⟨14, rfl, by omega, by omega, fun r r0 r1 => hK r⟩
    dsimp only
    refine s_sSeq.mpr ?_
    try simp only [s_setN0, s_setNS, List.set_cons_succ, List.set_cons_zero]
    refine (fun (hyp : ∀ N2 : PM.Env → Prop, (∀ n : Nt, (Kd n ∧ ∀ i k, key i n = some k → k ∈ dl) → N2 [some .src, some (.tup (cs.map tI)), some (tI pool), some (.lst (dl.map tupI)), some (.int x), some (.int i), some (.lst (ns.map ntP)), some (.int main), some (.int who), some (.int wh), some (.int a), some (.int b), some (.int o), some (.int nu), some (ntP n)]) → sIf _ _ _ { nx := N2, rt := _, bk := _, ct := _ } _) => hyp _ fun n hn => ?cc6) ?ff6
    case ff6 =>
      intro N2 hN2
      try simp only [s_mVar0, s_mVarS, s_mVarO0, s_mVarOS, s_isObj_lst, s_isObj_dic, s_mC, s_mOp, s_mOp1, s_mB, s_mNil, s_mCons, s_mTup, s_mLst, s_mCall, s_mTB, s_mNot, s_mAnd, s_mOr, s_mAndV, s_mOrV, s_mIf, s_mYes, s_mSl, s_mNo, s_mPart, s_mLc, s_mItems, s_mRng1, s_mRng2, s_mEnum, s_mChain, s_seqT, s_seqL, s_sNext, s_sSeq, s_sIf, s_sSet, s_sRet, s_sRetN, s_sBreak, s_sCont, s_sDrop, s_sPar, s_setN0, s_setNS, s_sAsg, s_sApp, s_sAug, s_sFor, s_sSrc, s_gmN, s_gmT, s_gmCons, s_gmNil, s_wipe0, s_wipeS, s_oSub, s_oAddI, s_oAdd, s_oLt, s_oLe, s_oGt, s_oGe, s_oNeg, s_oNot, s_oMul, s_oMulW, s_oMod, s_oFdiv, s_oPow, s_oIsN, s_oNotN, s_oIsB, s_oNotB, s_isNon_int, s_isNon_non, s_isNon_bl, s_isNon_str, s_isNon_tup, s_isNon_lst, s_isNon_dic, s_oEqI, s_oNeI, s_oIxT, s_oIxL, s_oSlT, s_oSlL, s_oRevT, s_oRevL, s_oInt, s_oIntB, s_oAbs, s_oMax2, s_oMin2, s_oLen, s_plenT, s_plenL, s_plenD, s_plenS, s_oTupleL, s_oTupleT, s_oListL, s_oListT, List.set_cons_succ, List.set_cons_zero, List.append_nil, true_and, x_bl, x_int, x_some, x_addT, x_addL, x_true, x_false]
      by_cases c1 : wh < 8
      · exact ite_t (decide_eq_true c1) ⟨line (by simp), hN2 (who, hold, [i, a, b]) (key_hold hab)⟩
      refine ite_f (by simp; omega) ?_
      by_cases c2 : wh < 10
      · exact ite_t (decide_eq_true c2) ⟨line (by simp), hN2 (who, hold, [i]) key_hold1⟩
      refine ite_f (by simp; omega) ?_
      by_cases c3 : wh = 10
      · exact ite_t (decide_eq_true c3) ⟨line (by simp), hN2 (a, deal, [i, b]) (key_deal hab)⟩
      refine ite_f (by simp; omega) ?_
      by_cases c4 : wh = 11
      · refine ite_t (decide_eq_true c4) ⟨_, lot_at i0 i1, ?_⟩
        have hl := S.lot _ (lot_mem i0 i1)
        exact pick_pool hl.1 (by omega) fun x _ => ⟨line (by simp), hN2 (x, wiped, [i]) key_wiped⟩
      refine ite_f (by simp; omega) ?_
      by_cases c5 : wh = 12
      · exact ite_t (decide_eq_true c5) ⟨line (by simp), hN2 (who, help, [i, a, b, o, nu]) key_help⟩
      · exact ite_f (by simp; omega) ⟨line (by simp), hN2 (who, help, [i, o, nu]) key_help⟩
    try simp only [s_mVar0, s_mVarS, s_mVarO0, s_mVarOS, s_isObj_lst, s_isObj_dic, s_mC, s_mOp, s_mOp1, s_mB, s_mNil, s_mCons, s_mTup, s_mLst, s_mCall, s_mTB, s_mNot, s_mAnd, s_mOr, s_mAndV, s_mOrV, s_mIf, s_mYes, s_mSl, s_mNo, s_mPart, s_mLc, s_mItems, s_mRng1, s_mRng2, s_mEnum, s_mChain, s_seqT, s_seqL, s_sNext, s_sSeq, s_sIf, s_sSet, s_sRet, s_sRetN, s_sBreak, s_sCont, s_sDrop, s_sPar, s_setN0, s_setNS, s_sAsg, s_sApp, s_sAug, s_sFor, s_sSrc, s_gmN, s_gmT, s_gmCons, s_gmNil, s_wipe0, s_wipeS, s_oSub, s_oAddI, s_oAdd, s_oLt, s_oLe, s_oGt, s_oGe, s_oNeg, s_oNot, s_oMul, s_oMulW, s_oMod, s_oFdiv, s_oPow, s_oIsN, s_oNotN, s_oIsB, s_oNotB, s_isNon_int, s_isNon_non, s_isNon_bl, s_isNon_str, s_isNon_tup, s_isNon_lst, s_isNon_dic, s_oEqI, s_oNeI, s_oIxT, s_oIxL, s_oSlT, s_oSlL, s_oRevT, s_oRevL, s_oInt, s_oIntB, s_oAbs, s_oMax2, s_oMin2, s_oLen, s_plenT, s_plenL, s_plenD, s_plenS, s_oTupleL, s_oTupleT, s_oListL, s_oListT, List.set_cons_succ, List.set_cons_zero, List.append_nil, true_and, x_bl, x_int, x_some, x_addT, x_addL, x_true, x_false]
    refine ⟨_, rfl, small_line (by rw [List.length_map]; omega), hN _ ⟨by omega, ns ++ [n], _, _, _, _, _, _, _, _, _, hng.app (NG.one hn), by rw [List.length_append]; simp; omega, by rw [List.map_append]; rfl⟩⟩
  · obtain ⟨hj, ns, y4, y5, y8, y9, y10, y11, y12, y13, y14, hng, hnl, rfl⟩ := hE
    rw [rng_len] at hnl
    refine s_sSeq.mpr ?_
    try simp only [s_mVar0, s_mVarS, s_mVarO0, s_mVarOS, s_isObj_lst, s_isObj_dic, s_mC, s_mOp, s_mOp1, s_mB, s_mNil, s_mCons, s_mTup, s_mLst, s_mCall, s_mTB, s_mNot, s_mAnd, s_mOr, s_mAndV, s_mOrV, s_mIf, s_mYes, s_mSl, s_mNo, s_mPart, s_mLc, s_mItems, s_mRng1, s_mRng2, s_mEnum, s_mChain, s_seqT, s_seqL, s_sNext, s_sSeq, s_sIf, s_sSet, s_sRet, s_sRetN, s_sBreak, s_sCont, s_sDrop, s_sPar, s_setN0, s_setNS, s_sAsg, s_sApp, s_sAug, s_sFor, s_sSrc, s_gmN, s_gmT, s_gmCons, s_gmNil, s_wipe0, s_wipeS, s_oSub, s_oAddI, s_oAdd, s_oLt, s_oLe, s_oGt, s_oGe, s_oNeg, s_oNot, s_oMul, s_oMulW, s_oMod, s_oFdiv, s_oPow, s_oIsN, s_oNotN, s_oIsB, s_oNotB, s_isNon_int, s_isNon_non, s_isNon_bl, s_isNon_str, s_isNon_tup, s_isNon_lst, s_isNon_dic, s_oEqI, s_oNeI, s_oIxT, s_oIxL, s_oSlT, s_oSlL, s_oRevT, s_oRevL, s_oInt, s_oIntB, s_oAbs, s_oMax2, s_oMin2, s_oLen, s_plenT, s_plenL, s_plenD, s_plenS, s_oTupleL, s_oTupleT, s_oListL, s_oListT, List.set_cons_succ, List.set_cons_zero, List.append_nil, true_and, x_bl, x_int, x_some, x_addT, x_addL, x_true, x_false]
    rw [List.length_map]
    refine ⟨⟨by omega, by omega⟩, ?_⟩
    rw [Int.toNat_natCast, rngP_rng]
    refine for_inv (fun j e => j ≤ cs.length ∧ ∃ (ns : List Nt) (y4 y5 y8 y9 y10 y11 y12 y13 y14 : Option PV), NG dl ns ∧ ns.length ≤ 60 + 12 * j ∧ e = [some .src, some (.tup (cs.map tI)), some (tI pool), some (.lst (dl.map tupI)), y4, y5, some (.lst (ns.map ntP)), some (.int main), y8, y9, y10, y11, y12, y13, y14]) ⟨Nat.zero_le _, ns, y4, y5, y8, y9, y10, y11, y12, y13, y14, hng, by omega, rfl⟩ (fun j x e N hx hE hN => ?_) (fun e hE => ?_)
    · obtain ⟨hj, ns, y4, y5, y8, y9, y10, y11, y12, y13, y14, hng, hnl, rfl⟩ := hE
      obtain ⟨hx0, hx1⟩ : x = (j : Int) ∧ j < cs.length := by
        have hl := (List.getElem?_eq_some_iff.mp hx).1
        rw [rng_len] at hl
        rw [rng_get hl] at hx
        exact ⟨(Option.some.inj hx).symm, hl⟩
      subst hx0
      have hlj := S.lot _ (lot_mem (cs := cs) (i := (j : Int)) (by omega) (by omega))
      rw [s_gmN]
      try simp only [s_mVar0, s_mVarS, s_mVarO0, s_mVarOS, s_isObj_lst, s_isObj_dic, s_mC, s_mOp, s_mOp1, s_mB, s_mNil, s_mCons, s_mTup, s_mLst, s_mCall, s_mTB, s_mNot, s_mAnd, s_mOr, s_mAndV, s_mOrV, s_mIf, s_mYes, s_mSl, s_mNo, s_mPart, s_mLc, s_mItems, s_mRng1, s_mRng2, s_mEnum, s_mChain, s_seqT, s_seqL, s_sNext, s_sSeq, s_sIf, s_sSet, s_sRet, s_sRetN, s_sBreak, s_sCont, s_sDrop, s_sPar, s_setN0, s_setNS, s_sAsg, s_sApp, s_sAug, s_sFor, s_sSrc, s_gmN, s_gmT, s_gmCons, s_gmNil, s_wipe0, s_wipeS, s_oSub, s_oAddI, s_oAdd, s_oLt, s_oLe, s_oGt, s_oGe, s_oNeg, s_oNot, s_oMul, s_oMulW, s_oMod, s_oFdiv, s_oPow, s_oIsN, s_oNotN, s_oIsB, s_oNotB, s_isNon_int, s_isNon_non, s_isNon_bl, s_isNon_str, s_isNon_tup, s_isNon_lst, s_isNon_dic, s_oEqI, s_oNeI, s_oIxT, s_oIxL, s_oSlT, s_oSlL, s_oRevT, s_oRevL, s_oInt, s_oIntB, s_oAbs, s_oMax2, s_oMin2, s_oLen, s_plenT, s_plenL, s_plenD, s_plenS, s_oTupleL, s_oTupleT, s_oListL, s_oListT, List.set_cons_succ, List.set_cons_zero, List.append_nil, true_and, x_bl, x_int, x_some, x_addT, x_addL, x_true, x_false]
      refine ⟨2, rfl, by omega, by omega, fun r r0 r1 => ?_⟩
      try simp only [s_mVar0, s_mVarS, s_mVarO0, s_mVarOS, s_isObj_lst, s_isObj_dic, s_mC, s_mOp, s_mOp1, s_mB, s_mNil, s_mCons, s_mTup, s_mLst, s_mCall, s_mTB, s_mNot, s_mAnd, s_mOr, s_mAndV, s_mOrV, s_mIf, s_mYes, s_mSl, s_mNo, s_mPart, s_mLc, s_mItems, s_mRng1, s_mRng2, s_mEnum, s_mChain, s_seqT, s_seqL, s_sNext, s_sSeq, s_sIf, s_sSet, s_sRet, s_sRetN, s_sBreak, s_sCont, s_sDrop, s_sPar, s_setN0, s_setNS, s_sAsg, s_sApp, s_sAug, s_sFor, s_sSrc, s_gmN, s_gmT, s_gmCons, s_gmNil, s_wipe0, s_wipeS, s_oSub, s_oAddI, s_oAdd, s_oLt, s_oLe, s_oGt, s_oGe, s_oNeg, s_oNot, s_oMul, s_oMulW, s_oMod, s_oFdiv, s_oPow, s_oIsN, s_oNotN, s_oIsB, s_oNotB, s_isNon_int, s_isNon_non, s_isNon_bl, s_isNon_str, s_isNon_tup, s_isNon_lst, s_isNon_dic, s_oEqI, s_oNeI, s_oIxT, s_oIxL, s_oSlT, s_oSlL, s_oRevT, s_oRevL, s_oInt, s_oIntB, s_oAbs, s_oMax2, s_oMin2, s_oLen, s_plenT, s_plenL, s_plenD, s_plenS, s_oTupleL, s_oTupleT, s_oListL, s_oListT, List.set_cons_succ, List.set_cons_zero, List.append_nil, true_and, x_bl, x_int, x_some, x_addT, x_addL, x_true, x_false]
      by_cases c : r = 0
      · refine ite_t (decide_eq_true c) ⟨_, lot_at (by omega) (by omega), ?_⟩
        refine ⟨_, lot_at (by omega) (by omega), ?_⟩
        try simp only [s_mVar0, s_mVarS, s_mVarO0, s_mVarOS, s_isObj_lst, s_isObj_dic, s_mC, s_mOp, s_mOp1, s_mB, s_mNil, s_mCons, s_mTup, s_mLst, s_mCall, s_mTB, s_mNot, s_mAnd, s_mOr, s_mAndV, s_mOrV, s_mIf, s_mYes, s_mSl, s_mNo, s_mPart, s_mLc, s_mItems, s_mRng1, s_mRng2, s_mEnum, s_mChain, s_seqT, s_seqL, s_sNext, s_sSeq, s_sIf, s_sSet, s_sRet, s_sRetN, s_sBreak, s_sCont, s_sDrop, s_sPar, s_setN0, s_setNS, s_sAsg, s_sApp, s_sAug, s_sFor, s_sSrc, s_gmN, s_gmT, s_gmCons, s_gmNil, s_wipe0, s_wipeS, s_oSub, s_oAddI, s_oAdd, s_oLt, s_oLe, s_oGt, s_oGe, s_oNeg, s_oNot, s_oMul, s_oMulW, s_oMod, s_oFdiv, s_oPow, s_oIsN, s_oNotN, s_oIsB, s_oNotB, s_isNon_int, s_isNon_non, s_isNon_bl, s_isNon_str, s_isNon_tup, s_isNon_lst, s_isNon_dic, s_oEqI, s_oNeI, s_oIxT, s_oIxL, s_oSlT, s_oSlL, s_oRevT, s_oRevL, s_oInt, s_oIntB, s_oAbs, s_oMax2, s_oMin2, s_oLen, s_plenT, s_plenL, s_plenD, s_plenS, s_oTupleL, s_oTupleT, s_oListL, s_oListT, List.set_cons_succ, List.set_cons_zero, List.append_nil, true_and, x_bl, x_int, x_some, x_addT, x_addL, x_true, x_false]
        rw [List.length_map]
        refine ⟨_, rfl, by omega, by omega, fun q q0 q1 => ?_⟩
        obtain ⟨qn, rfl⟩ : ∃ qn : Nat, q = qn := ⟨q.toNat, by omega⟩
        refine ⟨_, _, qn, rfl, .inr rfl, by rw [List.length_map]; omega, by rw [List.length_map]; omega, fun ys hs hl => ?_⟩
        obtain ⟨ws, hws, rfl⟩ := sub_ints hs
        rw [List.length_map] at hl
        try simp only [s_mVar0, s_mVarS, s_mVarO0, s_mVarOS, s_isObj_lst, s_isObj_dic, s_mC, s_mOp, s_mOp1, s_mB, s_mNil, s_mCons, s_mTup, s_mLst, s_mCall, s_mTB, s_mNot, s_mAnd, s_mOr, s_mAndV, s_mOrV, s_mIf, s_mYes, s_mSl, s_mNo, s_mPart, s_mLc, s_mItems, s_mRng1, s_mRng2, s_mEnum, s_mChain, s_seqT, s_seqL, s_sNext, s_sSeq, s_sIf, s_sSet, s_sRet, s_sRetN, s_sBreak, s_sCont, s_sDrop, s_sPar, s_setN0, s_setNS, s_sAsg, s_sApp, s_sAug, s_sFor, s_sSrc, s_gmN, s_gmT, s_gmCons, s_gmNil, s_wipe0, s_wipeS, s_oSub, s_oAddI, s_oAdd, s_oLt, s_oLe, s_oGt, s_oGe, s_oNeg, s_oNot, s_oMul, s_oMulW, s_oMod, s_oFdiv, s_oPow, s_oIsN, s_oNotN, s_oIsB, s_oNotB, s_isNon_int, s_isNon_non, s_isNon_bl, s_isNon_str, s_isNon_tup, s_isNon_lst, s_isNon_dic, s_oEqI, s_oNeI, s_oIxT, s_oIxL, s_oSlT, s_oSlL, s_oRevT, s_oRevL, s_oInt, s_oIntB, s_oAbs, s_oMax2, s_oMin2, s_oLen, s_plenT, s_plenL, s_plenD, s_plenS, s_oTupleL, s_oTupleT, s_oListL, s_oListT, List.set_cons_succ, List.set_cons_zero, List.append_nil, true_and, x_bl, x_int, x_some, x_addT, x_addL, x_true, x_false]
        refine comp_map (emb := PV.int) (xs := ws) (f := fun y => ntP (y, wiped, [(j : Int)])) (fun y hy => ⟨_, fun k hk => s_gmN.mpr hk, fun Q hQ => hQ, fun Q hQ => ?_⟩) (line (by omega)) ?_
        · try simp only [s_mVar0, s_mVarS, s_mVarO0, s_mVarOS, s_isObj_lst, s_isObj_dic, s_mC, s_mOp, s_mOp1, s_mB, s_mNil, s_mCons, s_mTup, s_mLst, s_mCall, s_mTB, s_mNot, s_mAnd, s_mOr, s_mAndV, s_mOrV, s_mIf, s_mYes, s_mSl, s_mNo, s_mPart, s_mLc, s_mItems, s_mRng1, s_mRng2, s_mEnum, s_mChain, s_seqT, s_seqL, s_sNext, s_sSeq, s_sIf, s_sSet, s_sRet, s_sRetN, s_sBreak, s_sCont, s_sDrop, s_sPar, s_setN0, s_setNS, s_sAsg, s_sApp, s_sAug, s_sFor, s_sSrc, s_gmN, s_gmT, s_gmCons, s_gmNil, s_wipe0, s_wipeS, s_oSub, s_oAddI, s_oAdd, s_oLt, s_oLe, s_oGt, s_oGe, s_oNeg, s_oNot, s_oMul, s_oMulW, s_oMod, s_oFdiv, s_oPow, s_oIsN, s_oNotN, s_oIsB, s_oNotB, s_isNon_int, s_isNon_non, s_isNon_bl, s_isNon_str, s_isNon_tup, s_isNon_lst, s_isNon_dic, s_oEqI, s_oNeI, s_oIxT, s_oIxL, s_oSlT, s_oSlL, s_oRevT, s_oRevL, s_oInt, s_oIntB, s_oAbs, s_oMax2, s_oMin2, s_oLen, s_plenT, s_plenL, s_plenD, s_plenS, s_oTupleL, s_oTupleT, s_oListL, s_oListT, List.set_cons_succ, List.set_cons_zero, List.append_nil, true_and, x_bl, x_int, x_some, x_addT, x_addL, x_true, x_false]
          exact ⟨line (by simp), hQ⟩
        · refine ⟨_, _, rfl, rfl, by rw [List.length_map, List.length_map]; exact line (by omega), ?_⟩
          have em : ws.map (fun y => ntP (y, wiped, [(j : Int)])) = (ws.map fun y => ((y, wiped, [(j : Int)]) : Nt)).map ntP := by rw [List.map_map]; rfl
          rw [em, ← List.map_append]
          refine hN _ ⟨by omega, ns ++ ws.map fun y => (y, wiped, [(j : Int)]), _, _, _, _, _, _, _, _, _, hng.app fun n hn => ?_, by rw [List.length_append, List.length_map]; omega, rfl⟩
          obtain ⟨y, _, rfl⟩ := List.mem_map.mp hn
          exact key_wiped
      · exact ite_f (by simp [c]) (hN _ ⟨by omega, ns, _, _, _, _, _, _, _, _, _, hng, by omega, rfl⟩)
    · obtain ⟨hj, ns, y4, y5, y8, y9, y10, y11, y12, y13, y14, hng, hnl, rfl⟩ := hE
      rw [rng_len] at hnl
      try simp only [s_mVar0, s_mVarS, s_mVarO0, s_mVarOS, s_isObj_lst, s_isObj_dic, s_mC, s_mOp, s_mOp1, s_mB, s_mNil, s_mCons, s_mTup, s_mLst, s_mCall, s_mTB, s_mNot, s_mAnd, s_mOr, s_mAndV, s_mOrV, s_mIf, s_mYes, s_mSl, s_mNo, s_mPart, s_mLc, s_mItems, s_mRng1, s_mRng2, s_mEnum, s_mChain, s_seqT, s_seqL, s_sNext, s_sSeq, s_sIf, s_sSet, s_sRet, s_sRetN, s_sBreak, s_sCont, s_sDrop, s_sPar, s_setN0, s_setNS, s_sAsg, s_sApp, s_sAug, s_sFor, s_sSrc, s_gmN, s_gmT, s_gmCons, s_gmNil, s_wipe0, s_wipeS, s_oSub, s_oAddI, s_oAdd, s_oLt, s_oLe, s_oGt, s_oGe, s_oNeg, s_oNot, s_oMul, s_oMulW, s_oMod, s_oFdiv, s_oPow, s_oIsN, s_oNotN, s_oIsB, s_oNotB, s_isNon_int, s_isNon_non, s_isNon_bl, s_isNon_str, s_isNon_tup, s_isNon_lst, s_isNon_dic, s_oEqI, s_oNeI, s_oIxT, s_oIxL, s_oSlT, s_oSlL, s_oRevT, s_oRevL, s_oInt, s_oIntB, s_oAbs, s_oMax2, s_oMin2, s_oLen, s_plenT, s_plenL, s_plenD, s_plenS, s_oTupleL, s_oTupleT, s_oListL, s_oListT, List.set_cons_succ, List.set_cons_zero, List.append_nil, true_and, x_bl, x_int, x_some, x_addT, x_addL, x_true, x_false]
      rw [List.length_map]
      refine ⟨5, rfl, by omega, by omega, fun q q0 q1 => ?_⟩
      try simp only [s_mVar0, s_mVarS, s_mVarO0, s_mVarOS, s_isObj_lst, s_isObj_dic, s_mC, s_mOp, s_mOp1, s_mB, s_mNil, s_mCons, s_mTup, s_mLst, s_mCall, s_mTB, s_mNot, s_mAnd, s_mOr, s_mAndV, s_mOrV, s_mIf, s_mYes, s_mSl, s_mNo, s_mPart, s_mLc, s_mItems, s_mRng1, s_mRng2, s_mEnum, s_mChain, s_seqT, s_seqL, s_sNext, s_sSeq, s_sIf, s_sSet, s_sRet, s_sRetN, s_sBreak, s_sCont, s_sDrop, s_sPar, s_setN0, s_setNS, s_sAsg, s_sApp, s_sAug, s_sFor, s_sSrc, s_gmN, s_gmT, s_gmCons, s_gmNil, s_wipe0, s_wipeS, s_oSub, s_oAddI, s_oAdd, s_oLt, s_oLe, s_oGt, s_oGe, s_oNeg, s_oNot, s_oMul, s_oMulW, s_oMod, s_oFdiv, s_oPow, s_oIsN, s_oNotN, s_oIsB, s_oNotB, s_isNon_int, s_isNon_non, s_isNon_bl, s_isNon_str, s_isNon_tup, s_isNon_lst, s_isNon_dic, s_oEqI, s_oNeI, s_oIxT, s_oIxL, s_oSlT, s_oSlL, s_oRevT, s_oRevL, s_oInt, s_oIntB, s_oAbs, s_oMax2, s_oMin2, s_oLen, s_plenT, s_plenL, s_plenD, s_plenS, s_oTupleL, s_oTupleT, s_oListL, s_oListT, List.set_cons_succ, List.set_cons_zero, List.append_nil, true_and, x_bl, x_int, x_some, x_addT, x_addL, x_true, x_false]
      obtain ⟨qn, hq⟩ : ∃ qn : Nat, (if q < (ns.length : Int) then q else (ns.length : Int)) = (qn : Int) := ⟨(if q < (ns.length : Int) then q else (ns.length : Int)).toNat, by split <;> omega⟩
      have hq1 : qn ≤ ns.length ∧ qn ≤ 5 := by split at hq <;> omega
      rw [hq]
      refine ⟨_, _, qn, rfl, .inl rfl, by rw [List.length_map]; exact hq1.1, by rw [List.length_map]; omega, fun ys hs hl => ?_⟩
      obtain ⟨ws, hws, rfl⟩ := sub_nts hs
      rw [List.length_map] at hl
      try simp only [s_mVar0, s_mVarS, s_mVarO0, s_mVarOS, s_isObj_lst, s_isObj_dic, s_mC, s_mOp, s_mOp1, s_mB, s_mNil, s_mCons, s_mTup, s_mLst, s_mCall, s_mTB, s_mNot, s_mAnd, s_mOr, s_mAndV, s_mOrV, s_mIf, s_mYes, s_mSl, s_mNo, s_mPart, s_mLc, s_mItems, s_mRng1, s_mRng2, s_mEnum, s_mChain, s_seqT, s_seqL, s_sNext, s_sSeq, s_sIf, s_sSet, s_sRet, s_sRetN, s_sBreak, s_sCont, s_sDrop, s_sPar, s_setN0, s_setNS, s_sAsg, s_sApp, s_sAug, s_sFor, s_sSrc, s_gmN, s_gmT, s_gmCons, s_gmNil, s_wipe0, s_wipeS, s_oSub, s_oAddI, s_oAdd, s_oLt, s_oLe, s_oGt, s_oGe, s_oNeg, s_oNot, s_oMul, s_oMulW, s_oMod, s_oFdiv, s_oPow, s_oIsN, s_oNotN, s_oIsB, s_oNotB, s_isNon_int, s_isNon_non, s_isNon_bl, s_isNon_str, s_isNon_tup, s_isNon_lst, s_isNon_dic, s_oEqI, s_oNeI, s_oIxT, s_oIxL, s_oSlT, s_oSlL, s_oRevT, s_oRevL, s_oInt, s_oIntB, s_oAbs, s_oMax2, s_oMin2, s_oLen, s_plenT, s_plenL, s_plenD, s_plenS, s_oTupleL, s_oTupleT, s_oListL, s_oListT, List.set_cons_succ, List.set_cons_zero, List.append_nil, true_and, x_bl, x_int, x_some, x_addT, x_addL, x_true, x_false]
      rw [← List.map_append]
      refine ⟨by rw [List.length_map, List.length_map]; exact line (by omega), line (by simp), ?_⟩
      exact h main (ns ++ ws) r0' hm1 (hng.app fun n hn => hng n (hws.subset hn)) (by rw [List.length_append]; omega)
end K24

set_option maxHeartbeats 4000000
namespace K24
open PySem L2 PM
/-! ### the maker of a heap -/
section
variable {P : Program} {w : World} {K : PySem.W.Frag} {mg : Str → Option Value} {base : Heap}
theorem src_m {x qual : Str} {st : Stmt} {f : Addr} {fd : FuncData} {N pns : List Str} {k : Nat} {t : TSm} {dvs : List V} (F : FunD K x qual (defArgs st) (defBody st) (defScope st) dvs [] f fd) (S : FnScope N pns (defScope st)) (h1 : pns.length = 1)
    (hbody : ∀ (cdv : Value) (A : Around) (outer : List PySem.Env) (s : Shared) (H : Hp) (E : XK), Room k (A.deeper (PyProof.Rows.envOfC qual (defScope st) s.heap.objs.size f cdv)) → ∃ c', PSsm (bodyX P w K mg base N qual st f cdv A outer s H E) ⟨.cl, false, []⟩ (shs N.length) c' (defBody st) t)
    (hok : ∀ ns : List Int, ns.length ≤ 63 → t { nx := fun _ => False, rt := fun p => ∃ (cs : List Nat) (s : Nat), p = .lst [.lst (cs.map fun (c : Nat) => PV.int (c : Int)), .int (s : Int)] ∧ cs.length ≤ 63 ∧ s < 2147483647 } (startE N.length [.scr ns])) : FnOk P w K mg base CX0 (k + 1) f fd pns (spSrc K ok_heap) := by
  refine F.ok S (fun vs H Q E h => ?_) (fun cdv A outer s H vs Q E hr h => ?_)
  · obtain ⟨Z, W, ps, _, _, _, r, ⟨ns, e, _⟩, _⟩ := h
    rw [← r.len, e]; exact h1.symm
  · obtain ⟨Z, W, ps, hz, hs, hwz, r, ⟨ns, e, hl⟩, q⟩ := h
    subst e
    obtain ⟨a, rfl, ha⟩ : ∃ a, vs = [.ref a] ∧ ((¬ Z a ∧ ∃ o, H a = some (.frz o (.lst (ns.map V.int)))) ∨ KLst K a (ns.map V.int)) := by
      unfold Rps at r
      obtain ⟨v, r', rfl, h1, h2⟩ := r
      unfold Rps at h2
      subst h2
      unfold Rp at h1
      obtain ⟨a, rfl, h⟩ := h1
      exact ⟨a, rfl, h⟩
    have r2 : Rps K ⟨fun b => (fun b => ∃ o, H b = some o ∧ ∀ o' u, o ≠ .frz o' u) b ∨ inW [] b, [], H⟩ [.scr ns] [.ref a] := by
      refine Rps.cons ?_ Rps.nil
      unfold Rp
      refine ⟨a, rfl, ?_⟩
      rcases ha with ⟨_, o, ho⟩ | hk
      · exact .inl ⟨fun z => z.elim (fun ⟨o', h1, h2⟩ => by rw [ho] at h1; cases h1; exact h2 _ _ rfl) (fun ⟨p, hp, _⟩ => by cases hp), o, ho⟩
      · exact .inr hk
    have hsr : SR K ⟨false, fun b => ∃ o, H b = some o ∧ ∀ o' u, o ≠ .frz o' u, [], H, fun _ => none, [], []⟩ (shs N.length) (fun _ => none) [] (startE N.length [.scr ns]) (L2.start N [.ref a]) H := SR.start (fun _ ⟨o, h1, _⟩ => ⟨o, h1⟩) (fun _ z => by cases z) r2
    obtain ⟨c', hb⟩ := hbody cdv A outer s H E hr
    refine ⟨_, hb.run.nox, ⟨false, fun b => ∃ o, H b = some o ∧ ∀ o' u, o ≠ .frz o' u, [], H, fun _ => none, [], []⟩, fun _ => none, [], startE N.length [.scr ns], _, rfl, hsr, hok ns hl, ⟨fun _ _ _ _ _ _ z => z.elim, fun p v H' hr hp => ?_, fun _ _ _ _ _ _ z => z.elim, fun _ _ _ _ _ _ z => z.elim⟩⟩
    obtain ⟨cs, s', rfl, hc, hs'⟩ := hp
    obtain ⟨W', _, hW, _, keep, rv⟩ := hr
    have eW : W' = [] := hW rfl
    subst eW
    have rv' := rv.c
    unfold Rp at rv'
    obtain ⟨a1, vs, rfl, l1, rs⟩ := rv'
    unfold Rps at rs
    obtain ⟨v1, r1, rfl, h2, rs⟩ := rs
    unfold Rps at rs
    obtain ⟨v2, r2, rfl, h3, rs⟩ := rs
    unfold Rps at rs
    subst rs
    unfold Rp at h2 h3
    obtain ⟨b1, ws, rfl, l2, rs⟩ := h2
    subst h3
    have ew : ws = cs.map fun (c : Nat) => V.int (c : Int) := by
      have e : (cs.map fun (c : Nat) => PV.int (c : Int)) = (cs.map fun (c : Nat) => (c : Int)).map PV.int := by rw [List.map_map]; rfl
      rw [e] at rs
      rw [Rps.ints.mp rs, List.map_map]; rfl
    have gr : ∀ b o, H b = some o → H' b = some o := fun b o e => keep b o (fun ⟨p, hp, _⟩ => by cases hp) e
    have fresh : ∀ b xs, ¬ ((fun b => ∃ o, H b = some o ∧ ∀ o' u, o ≠ .frz o' u) b ∨ inW [] b) → H' b = some (.lst xs) → H b = none := fun b xs nz hb => by
      cases e : H b with
      | none => rfl
      | some o =>
        refine absurd (.inl ⟨o, e, fun o' u z => ?_⟩) nz
        rw [gr _ _ e, z] at hb
        cases hb
    have n1 := fresh a1 _ l1.1 l1.2
    have n2 := fresh b1 _ l2.1 l2.2
    refine q H' (a1, b1) gr n1 n2 ⟨fun z => ?_, cs, s', hc, hs', l1.2, by rw [← ew]; exact l2.2⟩
    have e1 : H' a1 = some (.lst [.ref b1, .int (s' : Int)]) := l1.2
    have e2 : H' b1 = some (.lst ws) := l2.2
    have z' : a1 = b1 := z
    rw [z', e2, ew] at e1
    cases cs with
    | nil => cases e1
    | cons c cs => cases e1
theorem h_l_heap (ns : List Int) (hl : ns.length ≤ 63) : t_l_heap { nx := fun _ => False, rt := fun p => ∃ (cs : List Nat) (s : Nat), p = .lst [.lst (cs.map fun (c : Nat) => PV.int (c : Int)), .int (s : Int)] ∧ cs.length ≤ 63 ∧ s < 2147483647 } (startE n_l_heap.length [.scr ns]) := by
  show t_l_heap _ [some (.scr ns), none, none, none, none]
  unfold t_l_heap
  try simp only [s_mVar0, s_mVarS, s_mVarO0, s_mVarOS, s_isObj_lst, s_isObj_dic, s_mC, s_mOp, s_mOp1, s_mB, s_mNil, s_mCons, s_mTup, s_mLst, s_mCall, s_mTB, s_mNot, s_mAnd, s_mOr, s_mAndV, s_mOrV, s_mIf, s_mYes, s_mSl, s_mNo, s_mPart, s_mLc, s_mItems, s_mRng1, s_mRng2, s_mEnum, s_mChain, s_seqT, s_seqL, s_sNext, s_sSeq, s_sIf, s_sSet, s_sRet, s_sRetN, s_sBreak, s_sCont, s_sDrop, s_sPar, s_setN0, s_setNS, s_sAsg, s_sApp, s_sAug, s_sFor, s_sSrc, s_gmN, s_gmT, s_gmCons, s_gmNil, s_wipe0, s_wipeS, s_oSub, s_oAddI, s_oAdd, s_oLt, s_oLe, s_oGt, s_oGe, s_oNeg, s_oNot, s_oMul, s_oMulW, s_oMod, s_oFdiv, s_oPow, s_oIsN, s_oNotN, s_oIsB, s_oNotB, s_isNon_int, s_isNon_non, s_isNon_bl, s_isNon_str, s_isNon_tup, s_isNon_lst, s_isNon_dic, s_oEqI, s_oNeI, s_oIxT, s_oIxL, s_oSlT, s_oSlL, s_oRevT, s_oRevL, s_oInt, s_oIntB, s_oAbs, s_oMax2, s_oMin2, s_oLen, s_plenT, s_plenL, s_plenD, s_plenS, s_oTupleL, s_oTupleT, s_oListL, s_oListT, List.set_cons_succ, List.set_cons_zero, List.append_nil, true_and, x_bl, x_int, x_some, x_addT, x_addL, x_true, x_false]
  refine ⟨⟨by decide, by decide, by decide⟩, ⟨by decide, by decide, by decide⟩, by unfold CMulW; decide +kernel, ⟨by decide, by decide, by decide⟩, by unfold CMulW; decide +kernel, ?_⟩
  generalize hgt : ((10 : Int) ^ (60 : Int).toNat * 10 ^ (60 : Int).toNat * 10 ^ (60 : Int).toNat) = great
  have hg0 : 0 < great := by rw [← hgt]; decide +kernel
  refine ⟨ns, rfl, ?_⟩
  refine ⟨_, rfl, ?_⟩
  rw [cutP_map]
  obtain ⟨xs, hxs, hxl⟩ : ∃ xs : List Int, (ns.drop (HT.sIx ns.length 0 none)).take (HT.sIx ns.length ns.length (some 60) - HT.sIx ns.length 0 none) = xs ∧ xs.length ≤ 63 := ⟨_, rfl, by rw [List.length_take, List.length_drop]; omega⟩
  rw [hxs]
  obtain ⟨fc, hfc⟩ : ∃ fc : Int → Int, fc = fun x => (2 * (if x < 0 then -x else x) + (if decide (x < 0) = true then 1 else 0)) % great := ⟨_, rfl⟩
  have fc0 : ∀ x, 0 ≤ fc x := fun x => by rw [hfc]; exact Int.emod_nonneg _ (by omega)
  refine comp_map (emb := PV.int) (xs := xs) (f := fun x => .int (fc x)) (fun x hx => ⟨_, fun k hk => s_gmN.mpr hk, fun Q hQ => hQ, fun Q hQ => ?_⟩) (line (by omega)) ?_
  · show mOp oMod _ (mVar 1) [some (.scr ns), some (.int great), some (.int x), none, none] Q
    try simp only [s_mVar0, s_mVarS, s_mVarO0, s_mVarOS, s_isObj_lst, s_isObj_dic, s_mC, s_mOp, s_mOp1, s_mB, s_mNil, s_mCons, s_mTup, s_mLst, s_mCall, s_mTB, s_mNot, s_mAnd, s_mOr, s_mAndV, s_mOrV, s_mIf, s_mYes, s_mSl, s_mNo, s_mPart, s_mLc, s_mItems, s_mRng1, s_mRng2, s_mEnum, s_mChain, s_seqT, s_seqL, s_sNext, s_sSeq, s_sIf, s_sSet, s_sRet, s_sRetN, s_sBreak, s_sCont, s_sDrop, s_sPar, s_setN0, s_setNS, s_sAsg, s_sApp, s_sAug, s_sFor, s_sSrc, s_gmN, s_gmT, s_gmCons, s_gmNil, s_wipe0, s_wipeS, s_oSub, s_oAddI, s_oAdd, s_oLt, s_oLe, s_oGt, s_oGe, s_oNeg, s_oNot, s_oMul, s_oMulW, s_oMod, s_oFdiv, s_oPow, s_oIsN, s_oNotN, s_oIsB, s_oNotB, s_isNon_int, s_isNon_non, s_isNon_bl, s_isNon_str, s_isNon_tup, s_isNon_lst, s_isNon_dic, s_oEqI, s_oNeI, s_oIxT, s_oIxL, s_oSlT, s_oSlL, s_oRevT, s_oRevL, s_oInt, s_oIntB, s_oAbs, s_oMax2, s_oMin2, s_oLen, s_plenT, s_plenL, s_plenD, s_plenS, s_oTupleL, s_oTupleT, s_oListL, s_oListT, List.set_cons_succ, List.set_cons_zero, List.append_nil, true_and, x_bl, x_int, x_some, x_addT, x_addL, x_true, x_false]
    refine ⟨.inl ⟨by decide, by decide⟩, hg0, ?_⟩
    rw [hfc] at hQ
    exact hQ
  refine ⟨_, rfl, ?_⟩
  refine for_inv (emb := fun x => PV.int (fc x)) (fun i e => ∃ (s : Int) (y2 : Option PV), 0 ≤ s ∧ s < 2147483647 ∧ e = [some (.scr ns), some (.int great), y2, some (.lst (xs.map fun x => .int (fc x))), some (.int s)]) ⟨20043, none, by decide, by decide, rfl⟩ (fun i x e N hx hE hN => ?_) (fun e hE => ?_)
  · obtain ⟨s, y2, s0, s1, rfl⟩ := hE
    rw [s_gmN]
    try simp only [s_mVar0, s_mVarS, s_mVarO0, s_mVarOS, s_isObj_lst, s_isObj_dic, s_mC, s_mOp, s_mOp1, s_mB, s_mNil, s_mCons, s_mTup, s_mLst, s_mCall, s_mTB, s_mNot, s_mAnd, s_mOr, s_mAndV, s_mOrV, s_mIf, s_mYes, s_mSl, s_mNo, s_mPart, s_mLc, s_mItems, s_mRng1, s_mRng2, s_mEnum, s_mChain, s_seqT, s_seqL, s_sNext, s_sSeq, s_sIf, s_sSet, s_sRet, s_sRetN, s_sBreak, s_sCont, s_sDrop, s_sPar, s_setN0, s_setNS, s_sAsg, s_sApp, s_sAug, s_sFor, s_sSrc, s_gmN, s_gmT, s_gmCons, s_gmNil, s_wipe0, s_wipeS, s_oSub, s_oAddI, s_oAdd, s_oLt, s_oLe, s_oGt, s_oGe, s_oNeg, s_oNot, s_oMul, s_oMulW, s_oMod, s_oFdiv, s_oPow, s_oIsN, s_oNotN, s_oIsB, s_oNotB, s_isNon_int, s_isNon_non, s_isNon_bl, s_isNon_str, s_isNon_tup, s_isNon_lst, s_isNon_dic, s_oEqI, s_oNeI, s_oIxT, s_oIxL, s_oSlT, s_oSlL, s_oRevT, s_oRevL, s_oInt, s_oIntB, s_oAbs, s_oMax2, s_oMin2, s_oLen, s_plenT, s_plenL, s_plenD, s_plenS, s_oTupleL, s_oTupleT, s_oListL, s_oListT, List.set_cons_succ, List.set_cons_zero, List.append_nil, true_and, x_bl, x_int, x_some, x_addT, x_addL, x_true, x_false]
    refine ⟨.inr ⟨by decide, by decide⟩, by decide, by decide, hN _ ⟨_, _, ?_, ?_, rfl⟩⟩
    · exact Int.emod_nonneg _ (by decide)
    · exact Int.emod_lt_of_pos _ (by decide)
  · obtain ⟨s, y2, s0, s1, rfl⟩ := hE
    try simp only [s_mVar0, s_mVarS, s_mVarO0, s_mVarOS, s_isObj_lst, s_isObj_dic, s_mC, s_mOp, s_mOp1, s_mB, s_mNil, s_mCons, s_mTup, s_mLst, s_mCall, s_mTB, s_mNot, s_mAnd, s_mOr, s_mAndV, s_mOrV, s_mIf, s_mYes, s_mSl, s_mNo, s_mPart, s_mLc, s_mItems, s_mRng1, s_mRng2, s_mEnum, s_mChain, s_seqT, s_seqL, s_sNext, s_sSeq, s_sIf, s_sSet, s_sRet, s_sRetN, s_sBreak, s_sCont, s_sDrop, s_sPar, s_setN0, s_setNS, s_sAsg, s_sApp, s_sAug, s_sFor, s_sSrc, s_gmN, s_gmT, s_gmCons, s_gmNil, s_wipe0, s_wipeS, s_oSub, s_oAddI, s_oAdd, s_oLt, s_oLe, s_oGt, s_oGe, s_oNeg, s_oNot, s_oMul, s_oMulW, s_oMod, s_oFdiv, s_oPow, s_oIsN, s_oNotN, s_oIsB, s_oNotB, s_isNon_int, s_isNon_non, s_isNon_bl, s_isNon_str, s_isNon_tup, s_isNon_lst, s_isNon_dic, s_oEqI, s_oNeI, s_oIxT, s_oIxL, s_oSlT, s_oSlL, s_oRevT, s_oRevL, s_oInt, s_oIntB, s_oAbs, s_oMax2, s_oMin2, s_oLen, s_plenT, s_plenL, s_plenD, s_plenS, s_oTupleL, s_oTupleT, s_oListL, s_oListT, List.set_cons_succ, List.set_cons_zero, List.append_nil, true_and, x_bl, x_int, x_some, x_addT, x_addL, x_true, x_false]
    refine comp_emb (emb := fun x => PV.int (fc x)) (xs := xs) (tst := fun x => decide ((10 : Int) ^ 18 ≤ fc x)) (f := fun x => .int (fc x)) (fun x hx => ⟨_, fun k hk => s_gmN.mpr hk, fun Q hQ => ?_, fun _ Q hQ => ?_⟩) (by rw [List.length_nil, Nat.zero_add]; exact line (by omega)) ?_
    · show mTB _ [some (.scr ns), some (.int great), some (.int (fc x)), some (.lst (xs.map fun x => .int (fc x))), some (.int s)] Q
      try simp only [s_mVar0, s_mVarS, s_mVarO0, s_mVarOS, s_isObj_lst, s_isObj_dic, s_mC, s_mOp, s_mOp1, s_mB, s_mNil, s_mCons, s_mTup, s_mLst, s_mCall, s_mTB, s_mNot, s_mAnd, s_mOr, s_mAndV, s_mOrV, s_mIf, s_mYes, s_mSl, s_mNo, s_mPart, s_mLc, s_mItems, s_mRng1, s_mRng2, s_mEnum, s_mChain, s_seqT, s_seqL, s_sNext, s_sSeq, s_sIf, s_sSet, s_sRet, s_sRetN, s_sBreak, s_sCont, s_sDrop, s_sPar, s_setN0, s_setNS, s_sAsg, s_sApp, s_sAug, s_sFor, s_sSrc, s_gmN, s_gmT, s_gmCons, s_gmNil, s_wipe0, s_wipeS, s_oSub, s_oAddI, s_oAdd, s_oLt, s_oLe, s_oGt, s_oGe, s_oNeg, s_oNot, s_oMul, s_oMulW, s_oMod, s_oFdiv, s_oPow, s_oIsN, s_oNotN, s_oIsB, s_oNotB, s_isNon_int, s_isNon_non, s_isNon_bl, s_isNon_str, s_isNon_tup, s_isNon_lst, s_isNon_dic, s_oEqI, s_oNeI, s_oIxT, s_oIxL, s_oSlT, s_oSlL, s_oRevT, s_oRevL, s_oInt, s_oIntB, s_oAbs, s_oMax2, s_oMin2, s_oLen, s_plenT, s_plenL, s_plenD, s_plenS, s_oTupleL, s_oTupleT, s_oListL, s_oListT, List.set_cons_succ, List.set_cons_zero, List.append_nil, true_and, x_bl, x_int, x_some, x_addT, x_addL, x_true, x_false]
      exact ⟨⟨by decide, by decide, by decide⟩, hQ⟩
    · show mVar 2 [some (.scr ns), some (.int great), some (.int (fc x)), some (.lst (xs.map fun x => .int (fc x))), some (.int s)] Q
      try simp only [s_mVar0, s_mVarS, s_mVarO0, s_mVarOS, s_isObj_lst, s_isObj_dic, s_mC, s_mOp, s_mOp1, s_mB, s_mNil, s_mCons, s_mTup, s_mLst, s_mCall, s_mTB, s_mNot, s_mAnd, s_mOr, s_mAndV, s_mOrV, s_mIf, s_mYes, s_mSl, s_mNo, s_mPart, s_mLc, s_mItems, s_mRng1, s_mRng2, s_mEnum, s_mChain, s_seqT, s_seqL, s_sNext, s_sSeq, s_sIf, s_sSet, s_sRet, s_sRetN, s_sBreak, s_sCont, s_sDrop, s_sPar, s_setN0, s_setNS, s_sAsg, s_sApp, s_sAug, s_sFor, s_sSrc, s_gmN, s_gmT, s_gmCons, s_gmNil, s_wipe0, s_wipeS, s_oSub, s_oAddI, s_oAdd, s_oLt, s_oLe, s_oGt, s_oGe, s_oNeg, s_oNot, s_oMul, s_oMulW, s_oMod, s_oFdiv, s_oPow, s_oIsN, s_oNotN, s_oIsB, s_oNotB, s_isNon_int, s_isNon_non, s_isNon_bl, s_isNon_str, s_isNon_tup, s_isNon_lst, s_isNon_dic, s_oEqI, s_oNeI, s_oIxT, s_oIxL, s_oSlT, s_oSlL, s_oRevT, s_oRevL, s_oInt, s_oIntB, s_oAbs, s_oMax2, s_oMin2, s_oLen, s_plenT, s_plenL, s_plenD, s_plenS, s_oTupleL, s_oTupleT, s_oListL, s_oListT, List.set_cons_succ, List.set_cons_zero, List.append_nil, true_and, x_bl, x_int, x_some, x_addT, x_addL, x_true, x_false]
      exact hQ
    rw [List.nil_append]
    refine s_oRevL.mpr ⟨line (by simp), ((xs.filter fun x => decide ((10 : Int) ^ 18 ≤ fc x)).reverse.map fun x => (fc x).toNat), s.toNat, ?_, ?_, by omega⟩
    · rw [List.map_map, ← List.map_reverse, Int.toNat_of_nonneg s0]
      congr 3
      exact List.map_congr_left fun x _ => by show PV.int (fc x) = PV.int ((fc x).toNat : Int); rw [Int.toNat_of_nonneg (fc0 x)]
    · rw [List.length_map, List.length_reverse]
      exact Nat.le_trans (List.length_filter_le _ _) hxl
end
end K24

set_option maxHeartbeats 2000000
namespace K24
open PySem L2 PM
def t_law_c21 (ok_l_heap : List PV → Prop) (sp_l_some : PM.Spec) (sp_l_course : PM.Spec) (sp_l_notes : PM.Spec) (sp_Numbers : PM.Spec) (sp_l_named : PM.Spec) (sp_l_wipes : PM.Spec) (sp_l_pick : PM.Spec) (sp_l_draw : PM.Spec) (sp_l_is_complete : PM.Spec) (sp_l_like : PM.Spec) (sp_l_holders : PM.Spec) (sp_dealings_named : PM.Spec) (sp_complete_dealings : PM.Spec) (sp_fillable : PM.Spec) (sp_holders : PM.Spec) (sp_is_complete : PM.Spec) : TSm :=
  (sSeq (sSet 13 (mVar 18)) (sSeq (sFor (mItems (mVar 12)) (gmN 14) (sSet 13 (mOp oAdd (mVar 13) (mB oTuple (mCons (mLc (mItems (mVar 9)) [20] (gmN 20) mYes (mOp oAdd (mTup (mCons (mVar 20) (mCons (mC (.str (PySem.Str.ofString "hold"))) (mCons (mVar 17) mNil)))) (mVar 14))) mNil))))) (sSeq (sIf (mNot (mTB (mB oAll (mCons (mLc (mItems (mVar 12)) [14] (gmN 14) mYes (mOp oIsB (mCall sp_is_complete [] (mCons (mVar 7) (mCons (mVar 3) (mCons (mVar 13) (mCons (mVar 17) (mCons (mVar 14) (mCons (mVar 8) mNil))))))) (mC (.bl true)))) mNil)))) (sRet (mC (.bl false))) sNext) (sRet (mCall sp_l_wipes [] (mCons (mVar 7) (mCons (mVar 3) (mCons (mVar 18) mNil))))))))
def t_law_c13 (ok_l_heap : List PV → Prop) (sp_l_some : PM.Spec) (sp_l_course : PM.Spec) (sp_l_notes : PM.Spec) (sp_Numbers : PM.Spec) (sp_l_named : PM.Spec) (sp_l_wipes : PM.Spec) (sp_l_pick : PM.Spec) (sp_l_draw : PM.Spec) (sp_l_is_complete : PM.Spec) (sp_l_like : PM.Spec) (sp_l_holders : PM.Spec) (sp_dealings_named : PM.Spec) (sp_complete_dealings : PM.Spec) (sp_fillable : PM.Spec) (sp_holders : PM.Spec) (sp_is_complete : PM.Spec) : TSm :=
  (sSeq (sSet 11 (mCall sp_l_named [] (mCons (mVar 3) (mCons (mVar 18) (mCons (mVar 17) mNil))))) (sSeq (sIf (mNot (mTB (mCall sp_l_like [] (mCons (mCall sp_dealings_named [] (mCons (mVar 3) (mCons (mVar 18) (mCons (mVar 17) mNil)))) (mCons (mB oTuple (mCons (mVar 11) mNil)) mNil))))) (sRet (mC (.bl false))) sNext) (sSeq (sSet 12 (mB oTuple (mCons (mLc (mItems (mVar 11)) [14] (gmN 14) (mTB (mCall sp_l_is_complete [] (mCons (mVar 6) (mCons (mVar 3) (mCons (mVar 18) (mCons (mVar 17) (mCons (mVar 14) (mCons (mVar 8) mNil)))))))) (mVar 14)) mNil))) (sSeq (sIf (mNot (mTB (mCall sp_l_like [] (mCons (mCall sp_complete_dealings [] (mCons (mVar 7) (mCons (mVar 3) (mCons (mVar 18) (mCons (mVar 17) (mCons (mVar 8) mNil)))))) (mCons (mVar 12) mNil))))) (sRet (mC (.bl false))) sNext) (sSeq (sSet 12 (mB oTuple (mCons (mLc (mItems (mVar 11)) [14] (gmN 14) (mTB (mCall sp_l_is_complete [] (mCons (mVar 6) (mCons (mVar 3) (mCons (mVar 18) (mCons (mVar 17) (mCons (mVar 14) (mCons (mTup mNil) mNil)))))))) (mVar 14)) mNil))) (sSeq (sIf (mNot (mTB (mCall sp_l_like [] (mCons (mCall sp_complete_dealings [.tup []] (mCons (mVar 7) (mCons (mVar 3) (mCons (mVar 18) (mCons (mVar 17) mNil))))) (mCons (mVar 12) mNil))))) (sRet (mC (.bl false))) sNext) (sSeq (sSet 12 (mB oTuple (mCons (mLc (mItems (mVar 11)) [14] (gmN 14) (mTB (mCall sp_l_is_complete [] (mCons (mVar 6) (mCons (mVar 3) (mCons (mVar 18) (mCons (mVar 17) (mCons (mVar 14) (mCons (mOp oAdd (mVar 8) (mVar 9)) mNil)))))))) (mVar 14)) mNil))) (sSeq (sIf (mNot (mTB (mCall sp_l_like [] (mCons (mCall sp_fillable [] (mCons (mVar 7) (mCons (mVar 3) (mCons (mVar 18) (mCons (mVar 17) (mCons (mVar 9) (mCons (mVar 8) mNil))))))) (mCons (mVar 12) mNil))))) (sRet (mC (.bl false))) sNext) (t_law_c21 ok_l_heap sp_l_some sp_l_course sp_l_notes sp_Numbers sp_l_named sp_l_wipes sp_l_pick sp_l_draw sp_l_is_complete sp_l_like sp_l_holders sp_dealings_named sp_complete_dealings sp_fillable sp_holders sp_is_complete)))))))))
def t_law_c12 (ok_l_heap : List PV → Prop) (sp_l_some : PM.Spec) (sp_l_course : PM.Spec) (sp_l_notes : PM.Spec) (sp_Numbers : PM.Spec) (sp_l_named : PM.Spec) (sp_l_wipes : PM.Spec) (sp_l_pick : PM.Spec) (sp_l_draw : PM.Spec) (sp_l_is_complete : PM.Spec) (sp_l_like : PM.Spec) (sp_l_holders : PM.Spec) (sp_dealings_named : PM.Spec) (sp_complete_dealings : PM.Spec) (sp_fillable : PM.Spec) (sp_holders : PM.Spec) (sp_is_complete : PM.Spec) : TSm :=
  (sSeq (sFor (mItems (mOp oAdd (mOp oAdd (mVar 4) (mLst (mCons (mTup mNil) mNil))) (mLst (mCons (mTup (mCons (mCall sp_l_pick [] (mCons (mVar 1) (mCons (mVar 2) mNil))) (mCons (mC (.int 3)) mNil))) mNil)))) (gmN 10) (sSeq (sIf (mNot (mTB (mCall sp_l_like [] (mCons (mCall sp_holders [] (mCons (mVar 3) (mCons (mVar 18) (mCons (mVar 17) (mCons (mVar 10) mNil))))) (mCons (mCall sp_l_holders [] (mCons (mVar 3) (mCons (mVar 18) (mCons (mVar 17) (mCons (mVar 10) mNil))))) mNil))))) (sRet (mC (.bl false))) sNext) (sSeq (sSet 12 (mCall sp_l_is_complete [] (mCons (mVar 6) (mCons (mVar 3) (mCons (mVar 18) (mCons (mVar 17) (mCons (mVar 10) (mCons (mVar 8) mNil)))))))) (sSeq (sIf (mNot (mTB (mCall sp_l_like [] (mCons (mCall sp_is_complete [] (mCons (mVar 7) (mCons (mVar 3) (mCons (mVar 18) (mCons (mVar 17) (mCons (mVar 10) (mCons (mVar 8) mNil))))))) (mCons (mVar 12) mNil))))) (sRet (mC (.bl false))) sNext) (sSeq (sSet 12 (mCall sp_l_is_complete [] (mCons (mVar 6) (mCons (mVar 3) (mCons (mVar 18) (mCons (mVar 17) (mCons (mVar 10) (mCons (mTup mNil) mNil)))))))) (sIf (mNot (mTB (mCall sp_l_like [] (mCons (mCall sp_is_complete [.tup []] (mCons (mVar 7) (mCons (mVar 3) (mCons (mVar 18) (mCons (mVar 17) (mCons (mVar 10) mNil)))))) (mCons (mVar 12) mNil))))) (sRet (mC (.bl false))) sNext)))))) (t_law_c13 ok_l_heap sp_l_some sp_l_course sp_l_notes sp_Numbers sp_l_named sp_l_wipes sp_l_pick sp_l_draw sp_l_is_complete sp_l_like sp_l_holders sp_dealings_named sp_complete_dealings sp_fillable sp_holders sp_is_complete))
def t_law_c10 (ok_l_heap : List PV → Prop) (sp_l_some : PM.Spec) (sp_l_course : PM.Spec) (sp_l_notes : PM.Spec) (sp_Numbers : PM.Spec) (sp_l_named : PM.Spec) (sp_l_wipes : PM.Spec) (sp_l_pick : PM.Spec) (sp_l_draw : PM.Spec) (sp_l_is_complete : PM.Spec) (sp_l_like : PM.Spec) (sp_l_holders : PM.Spec) (sp_dealings_named : PM.Spec) (sp_complete_dealings : PM.Spec) (sp_fillable : PM.Spec) (sp_holders : PM.Spec) (sp_is_complete : PM.Spec) : TSm :=
  (sSeq (sSet 8 (mIf (mTB (mOp oEq (mCall sp_l_draw [] (mCons (mVar 1) (mCons (mC (.int 2)) mNil))) (mC (.int 0)))) (mTup mNil) (mCall sp_l_some [] (mCons (mVar 1) (mCons (mVar 2) (mCons (mCall sp_l_draw [] (mCons (mVar 1) (mCons (mC (.int 3)) mNil))) mNil)))))) (sSeq (sSet 9 (mCall sp_l_some [] (mCons (mVar 1) (mCons (mVar 2) (mCons (mCall sp_l_draw [] (mCons (mVar 1) (mCons (mOp oAdd (mB oMin2 (mCons (mB oLen (mCons (mVar 2) mNil)) (mCons (mC (.int 3)) mNil))) (mC (.int 1))) mNil))) mNil))))) (t_law_c12 ok_l_heap sp_l_some sp_l_course sp_l_notes sp_Numbers sp_l_named sp_l_wipes sp_l_pick sp_l_draw sp_l_is_complete sp_l_like sp_l_holders sp_dealings_named sp_complete_dealings sp_fillable sp_holders sp_is_complete)))
def t_law_c7 (ok_l_heap : List PV → Prop) (sp_l_some : PM.Spec) (sp_l_course : PM.Spec) (sp_l_notes : PM.Spec) (sp_Numbers : PM.Spec) (sp_l_named : PM.Spec) (sp_l_wipes : PM.Spec) (sp_l_pick : PM.Spec) (sp_l_draw : PM.Spec) (sp_l_is_complete : PM.Spec) (sp_l_like : PM.Spec) (sp_l_holders : PM.Spec) (sp_dealings_named : PM.Spec) (sp_complete_dealings : PM.Spec) (sp_fillable : PM.Spec) (sp_holders : PM.Spec) (sp_is_complete : PM.Spec) : TSm :=
  (sSeq (sSet 5 (mLc (mItems (mVar 4)) [14] (gmN 14) mYes (mB oLen (mCons (mCall sp_l_holders [] (mCons (mVar 3) (mCons (mVar 18) (mCons (mVar 17) (mCons (mVar 14) mNil))))) mNil)))) (sSeq (sSet 6 (mB oMax2 (mCons (mC (.int 1)) (mCons (mB oMin2 (mCons (mVar 15) (mCons (mOp oAdd (mCall sp_l_pick [] (mCons (mVar 1) (mCons (mVar 5) mNil))) (mCall sp_l_pick [] (mCons (mVar 1) (mCons (mLst (mCons (mOp1 oNeg (mC (.int 1))) (mCons (mC (.int 0)) (mCons (mC (.int 0)) (mCons (mC (.int 1)) (mCons (mC (.int 2)) mNil)))))) mNil)))) mNil))) mNil)))) (sSeq (sSet 7 (mMake sp_Numbers (mCons (mVar 15) (mCons (mCall sp_l_draw [] (mCons (mVar 1) (mCons (mVar 15) mNil))) (mCons (mC (.int 0)) (mCons (mC (.int 1)) (mCons (mC (.int 1)) (mCons (mVar 6) mNil)))))))) (t_law_c10 ok_l_heap sp_l_some sp_l_course sp_l_notes sp_Numbers sp_l_named sp_l_wipes sp_l_pick sp_l_draw sp_l_is_complete sp_l_like sp_l_holders sp_dealings_named sp_complete_dealings sp_fillable sp_holders sp_is_complete))))
def t_law_a (ok_l_heap : List PV → Prop) (sp_l_some : PM.Spec) (sp_l_course : PM.Spec) (sp_l_notes : PM.Spec) (sp_Numbers : PM.Spec) (sp_l_named : PM.Spec) (sp_l_wipes : PM.Spec) (sp_l_pick : PM.Spec) (sp_l_draw : PM.Spec) (sp_l_is_complete : PM.Spec) (sp_l_like : PM.Spec) (sp_l_holders : PM.Spec) (sp_dealings_named : PM.Spec) (sp_complete_dealings : PM.Spec) (sp_fillable : PM.Spec) (sp_holders : PM.Spec) (sp_is_complete : PM.Spec) : TSm :=
  (sSeq (sSrc 1 ok_l_heap (mCons (mVar 0) mNil)) (sSeq (sPar [15, 16] (mCons (mOp oAdd (mC (.int 2)) (mCall sp_l_draw [] (mCons (mVar 1) (mCons (mCall sp_l_pick [] (mCons (mVar 1) (mCons (mLst (mCons (mC (.int 2)) (mCons (mC (.int 4)) (mCons (mC (.int 7)) mNil)))) mNil))) mNil)))) (mCons (mCall sp_l_pick [] (mCons (mVar 1) (mCons (mLst (mCons (mC (.int 2)) (mCons (mC (.int 2)) (mCons (mC (.int 3)) (mCons (mC (.int 4)) mNil))))) mNil))) mNil))) (sSeq (sSet 2 (mCall sp_l_some [] (mCons (mVar 1) (mCons (mLc (mRng1 (mC (.int 24))) [20] (gmN 20) mYes (mVar 20)) (mCons (mOp oAdd (mVar 15) (mCall sp_l_draw [] (mCons (mVar 1) (mCons (mC (.int 4)) mNil)))) mNil))))) (sSeq (sSet 3 (mCall sp_l_course [] (mCons (mVar 1) (mCons (mVar 2) (mCons (mVar 15) (mCons (mVar 16) mNil)))))) (sSeq (sSet 4 (mLc (mRng1 (mCall sp_l_pick [] (mCons (mVar 1) (mCons (mLst (mCons (mC (.int 1)) (mCons (mC (.int 2)) (mCons (mC (.int 4)) mNil)))) mNil)))) [19] (gmN 19) mYes (mTup (mCons (mCall sp_l_pick [] (mCons (mVar 1) (mCons (mVar 2) mNil))) (mCons (mCall sp_l_pick [] (mCons (mVar 1) (mCons (mLst (mCons (mC (.int 0)) (mCons (mC (.int 1)) (mCons (mC (.int 2)) (mCons (mC (.int 5)) (mCons (mC (.int 777)) mNil)))))) mNil))) mNil))))) (sSeq (sAsg (mCall sp_l_notes [] (mCons (mVar 1) (mCons (mVar 3) (mCons (mVar 2) (mCons (mVar 4) mNil))))) (gmT 2 (gmCons (gmN 17) (gmCons (gmN 18) gmNil)))) (t_law_c7 ok_l_heap sp_l_some sp_l_course sp_l_notes sp_Numbers sp_l_named sp_l_wipes sp_l_pick sp_l_draw sp_l_is_complete sp_l_like sp_l_holders sp_dealings_named sp_complete_dealings sp_fillable sp_holders sp_is_complete)))))))
theorem t_law_eq (ok_l_heap : List PV → Prop) (sp_l_some : PM.Spec) (sp_l_course : PM.Spec) (sp_l_notes : PM.Spec) (sp_Numbers : PM.Spec) (sp_l_named : PM.Spec) (sp_l_wipes : PM.Spec) (sp_l_pick : PM.Spec) (sp_l_draw : PM.Spec) (sp_l_is_complete : PM.Spec) (sp_l_like : PM.Spec) (sp_l_holders : PM.Spec) (sp_dealings_named : PM.Spec) (sp_complete_dealings : PM.Spec) (sp_fillable : PM.Spec) (sp_holders : PM.Spec) (sp_is_complete : PM.Spec) : t_law ok_l_heap sp_l_some sp_l_course sp_l_notes sp_Numbers sp_l_named sp_l_wipes sp_l_pick sp_l_draw sp_l_is_complete sp_l_like sp_l_holders sp_dealings_named sp_complete_dealings sp_fillable sp_holders sp_is_complete = t_law_a ok_l_heap sp_l_some sp_l_course sp_l_notes sp_Numbers sp_l_named sp_l_wipes sp_l_pick sp_l_draw sp_l_is_complete sp_l_like sp_l_holders sp_dealings_named sp_complete_dealings sp_fillable sp_holders sp_is_complete := rfl
end K24

set_option maxHeartbeats 4000000
namespace K24
open PySem L2 PM
abbrev LM : Em := { nx := fun _ => False, rt := fun p => p = .bl true }
/-- what has been drawn -/
structure Dl (cs : Crs) (pool : List Int) (dl : List (List Int)) (k : Nat) (i : Int) (ns : List Nt) : Prop where
  S : Sz cs pool dl
  lotk : ∀ l ∈ cs, Lt pool k l
  k2 : 2 ≤ k
  k8 : k ≤ 8
  i0 : 0 ≤ i
  i1 : i + 1 < cs.length
  ng : NG dl ns
  few : ns.length ≤ 400
variable {cs : Crs} {pool : List Int} {dl : List (List Int)} {k : Nat} {i : Int} {ns : List Nt}
theorem Dl.gv (D : Dl cs pool dl k i ns) : Gv cs ns := ⟨fun l hl => by have := D.S.lot l hl; omega, by have := D.few; omega, fun n hn => (D.ng n hn).1⟩
theorem Dl.nm (D : Dl cs pool dl k i ns) : Nm ns i := ⟨dl, D.S.d1, D.S.prs, fun g hg => by
  unfold keys at hg
  rw [List.mem_filterMap] at hg
  obtain ⟨n, hn, e⟩ := hg
  exact (D.ng n hn).2 i g e⟩
theorem Dl.pre (D : Dl cs pool dl k i ns) : PreN cs ns i := ⟨D.gv, D.i0, D.i1, D.nm⟩
theorem Dl.p (D : Dl cs pool dl k i ns) {g gone : List Int} (hg : g.length ≤ 2) : Pre cs ns i g gone := ⟨D.gv, D.i0, D.i1, hg⟩
theorem lk_pairs {ks : List (List Int)} (h : ks.length ≤ 1000) (h2 : ∀ k ∈ ks, k.length = 2) : Lk 2 (.tup (ks.map tupI)) := ⟨by rw [List.length_map]; exact h, fun x hx => by
  obtain ⟨q, hq, rfl⟩ := List.mem_map.mp hx
  exact lk_ints (by rw [h2 q hq]; decide)⟩
theorem full_mem {w : Int} {gone : List Int} {g : List Int} (hS : IsS (keys ns i) (srt (keys ns i))) (h : g ∈ full w cs ns i gone) : g ∈ keys ns i ∧ cmpl w cs ns i g gone = true := by
  unfold full at h
  rw [List.mem_filter] at h
  exact ⟨((named_mem hS).mp h.1).1, h.2⟩
theorem h_c21 (D : Dl cs pool dl k i ns) (f w : Int) (nb : PV) (hnb : isNb k f w nb) (f0 : 0 ≤ f) (gone liars : List Int) (hl : liars.length ≤ 10) (hS : IsS (keys ns i) (srt (keys ns i))) (v0 v2 v4 v5 v10 v11 v13 v14 v15 v16 v19 v20 : Option PV) :
    t_law_c21 ok_heap sp_some sp_l_course sp_l_notes sp_Numbers sp_l_named sp_l_wipes sp_pick sp_drw sp_l_is_complete (spk 3) sp_l_holders sp_dealings_named sp_complete_dealings sp_fillable sp_holders sp_is_complete LM
      [v0, some .src, v2, some (.tup (cs.map tI)), v4, v5, some (.int w), some nb, some (tI gone), some (tI liars), v10, v11, some (.tup ((full w cs ns i (gone ++ liars)).map tupI)), v13, v14, v15, v16, some (.int i), some (.tup (ns.map ntP)), v19, v20] := by
  have hm := D.nm
  have hfew := D.few
  obtain ⟨due, hdue⟩ : ∃ due, due = full w cs ns i (gone ++ liars) := ⟨_, rfl⟩
  rw [← hdue]
  have hmem : ∀ g ∈ due, g ∈ keys ns i ∧ cmpl w cs ns i g (gone ++ liars) = true := fun g hg => full_mem hS (hdue ▸ hg)
  have hdl : due.length ≤ 10 := by
    rw [hdue]; unfold full
    exact Nat.le_trans (List.length_filter_le _ _) (named_len hm hS)
  have h2 : ∀ g ∈ due, g.length = 2 := fun g hg => (hm.prs g (hmem g hg).1).1
  have hmul : due.length * liars.length ≤ 10 * 10 := Nat.mul_le_mul hdl hl
  unfold t_law_c21
  try simp only [s_mVar0, s_mVarS, s_mVarO0, s_mVarOS, s_isObj_lst, s_isObj_dic, s_mC, s_mOp, s_mOp1, s_mB, s_mNil, s_mCons, s_mTup, s_mLst, s_mCall, s_mTB, s_mNot, s_mAnd, s_mOr, s_mAndV, s_mOrV, s_mIf, s_mYes, s_mSl, s_mNo, s_mPart, s_mLc, s_mItems, s_mRng1, s_mRng2, s_mEnum, s_mChain, s_seqT, s_seqL, s_sNext, s_sSeq, s_sIf, s_sSet, s_sRet, s_sRetN, s_sBreak, s_sCont, s_sDrop, s_sPar, s_setN0, s_setNS, s_sAsg, s_sApp, s_sAug, s_sFor, s_sSrc, s_gmN, s_gmT, s_gmCons, s_gmNil, s_wipe0, s_wipeS, s_oSub, s_oAddI, s_oAdd, s_oLt, s_oLe, s_oGt, s_oGe, s_oNeg, s_oNot, s_oMul, s_oMulW, s_oMod, s_oFdiv, s_oPow, s_oIsN, s_oNotN, s_oIsB, s_oNotB, s_isNon_int, s_isNon_non, s_isNon_bl, s_isNon_str, s_isNon_tup, s_isNon_lst, s_isNon_dic, s_oEqI, s_oNeI, s_oIxT, s_oIxL, s_oSlT, s_oSlL, s_oRevT, s_oRevL, s_oInt, s_oIntB, s_oAbs, s_oMax2, s_oMin2, s_oLen, s_plenT, s_plenL, s_plenD, s_plenS, s_oTupleL, s_oTupleT, s_oListL, s_oListT, List.set_cons_succ, List.set_cons_zero, List.append_nil, true_and, x_bl, x_int, x_some, x_addT, x_addL, x_true, x_false]
  refine for_inv (emb := tupI) (fun j e => j ≤ due.length ∧ ∃ y14 y20, e = [v0, some .src, v2, some (.tup (cs.map tI)), v4, v5, some (.int w), some nb, some (tI gone), some (tI liars), v10, v11, some (.tup (due.map tupI)), some (.tup ((ns ++ lieN i liars (due.take j)).map ntP)), y14, v15, v16, some (.int i), some (.tup (ns.map ntP)), v19, y20]) ⟨Nat.zero_le _, v14, v20, by simp [lieN]⟩ (fun j g e N hx hE hN => ?_) (fun e hE => ?_)
  · obtain ⟨hj, y14, y20, rfl⟩ := hE
    have hjl := (List.getElem?_eq_some_iff.mp hx).1
    have hg := List.mem_of_getElem? hx
    rw [s_gmN]
    try simp only [s_mVar0, s_mVarS, s_mVarO0, s_mVarOS, s_isObj_lst, s_isObj_dic, s_mC, s_mOp, s_mOp1, s_mB, s_mNil, s_mCons, s_mTup, s_mLst, s_mCall, s_mTB, s_mNot, s_mAnd, s_mOr, s_mAndV, s_mOrV, s_mIf, s_mYes, s_mSl, s_mNo, s_mPart, s_mLc, s_mItems, s_mRng1, s_mRng2, s_mEnum, s_mChain, s_seqT, s_seqL, s_sNext, s_sSeq, s_sIf, s_sSet, s_sRet, s_sRetN, s_sBreak, s_sCont, s_sDrop, s_sPar, s_setN0, s_setNS, s_sAsg, s_sApp, s_sAug, s_sFor, s_sSrc, s_gmN, s_gmT, s_gmCons, s_gmNil, s_wipe0, s_wipeS, s_oSub, s_oAddI, s_oAdd, s_oLt, s_oLe, s_oGt, s_oGe, s_oNeg, s_oNot, s_oMul, s_oMulW, s_oMod, s_oFdiv, s_oPow, s_oIsN, s_oNotN, s_oIsB, s_oNotB, s_isNon_int, s_isNon_non, s_isNon_bl, s_isNon_str, s_isNon_tup, s_isNon_lst, s_isNon_dic, s_oEqI, s_oNeI, s_oIxT, s_oIxL, s_oSlT, s_oSlL, s_oRevT, s_oRevL, s_oInt, s_oIntB, s_oAbs, s_oMax2, s_oMin2, s_oLen, s_plenT, s_plenL, s_plenD, s_plenS, s_oTupleL, s_oTupleT, s_oListL, s_oListT, List.set_cons_succ, List.set_cons_zero, List.append_nil, true_and, x_bl, x_int, x_some, x_addT, x_addL, x_true, x_false]
    refine comp_map (emb := PV.int) (xs := liars) (f := fun x => ntP (x, hold, i :: g)) (fun x hx => ⟨_, fun k hk => s_gmN.mpr hk, fun Q hQ => hQ, fun Q hQ => ?_⟩) (line (by omega)) ?_
    · unfold tupI
      try simp only [s_mVar0, s_mVarS, s_mVarO0, s_mVarOS, s_isObj_lst, s_isObj_dic, s_mC, s_mOp, s_mOp1, s_mB, s_mNil, s_mCons, s_mTup, s_mLst, s_mCall, s_mTB, s_mNot, s_mAnd, s_mOr, s_mAndV, s_mOrV, s_mIf, s_mYes, s_mSl, s_mNo, s_mPart, s_mLc, s_mItems, s_mRng1, s_mRng2, s_mEnum, s_mChain, s_seqT, s_seqL, s_sNext, s_sSeq, s_sIf, s_sSet, s_sRet, s_sRetN, s_sBreak, s_sCont, s_sDrop, s_sPar, s_setN0, s_setNS, s_sAsg, s_sApp, s_sAug, s_sFor, s_sSrc, s_gmN, s_gmT, s_gmCons, s_gmNil, s_wipe0, s_wipeS, s_oSub, s_oAddI, s_oAdd, s_oLt, s_oLe, s_oGt, s_oGe, s_oNeg, s_oNot, s_oMul, s_oMulW, s_oMod, s_oFdiv, s_oPow, s_oIsN, s_oNotN, s_oIsB, s_oNotB, s_isNon_int, s_isNon_non, s_isNon_bl, s_isNon_str, s_isNon_tup, s_isNon_lst, s_isNon_dic, s_oEqI, s_oNeI, s_oIxT, s_oIxL, s_oSlT, s_oSlL, s_oRevT, s_oRevL, s_oInt, s_oIntB, s_oAbs, s_oMax2, s_oMin2, s_oLen, s_plenT, s_plenL, s_plenD, s_plenS, s_oTupleL, s_oTupleT, s_oListL, s_oListT, List.set_cons_succ, List.set_cons_zero, List.append_nil, true_and, x_bl, x_int, x_some, x_addT, x_addL, x_true, x_false]
      have := h2 g hg
      exact ⟨line (by simp), line (by simp; omega), hQ⟩
    · try simp only [s_mVar0, s_mVarS, s_mVarO0, s_mVarOS, s_isObj_lst, s_isObj_dic, s_mC, s_mOp, s_mOp1, s_mB, s_mNil, s_mCons, s_mTup, s_mLst, s_mCall, s_mTB, s_mNot, s_mAnd, s_mOr, s_mAndV, s_mOrV, s_mIf, s_mYes, s_mSl, s_mNo, s_mPart, s_mLc, s_mItems, s_mRng1, s_mRng2, s_mEnum, s_mChain, s_seqT, s_seqL, s_sNext, s_sSeq, s_sIf, s_sSet, s_sRet, s_sRetN, s_sBreak, s_sCont, s_sDrop, s_sPar, s_setN0, s_setNS, s_sAsg, s_sApp, s_sAug, s_sFor, s_sSrc, s_gmN, s_gmT, s_gmCons, s_gmNil, s_wipe0, s_wipeS, s_oSub, s_oAddI, s_oAdd, s_oLt, s_oLe, s_oGt, s_oGe, s_oNeg, s_oNot, s_oMul, s_oMulW, s_oMod, s_oFdiv, s_oPow, s_oIsN, s_oNotN, s_oIsB, s_oNotB, s_isNon_int, s_isNon_non, s_isNon_bl, s_isNon_str, s_isNon_tup, s_isNon_lst, s_isNon_dic, s_oEqI, s_oNeI, s_oIxT, s_oIxL, s_oSlT, s_oSlL, s_oRevT, s_oRevL, s_oInt, s_oIntB, s_oAbs, s_oMax2, s_oMin2, s_oLen, s_plenT, s_plenL, s_plenD, s_plenS, s_oTupleL, s_oTupleT, s_oListL, s_oListT, List.set_cons_succ, List.set_cons_zero, List.append_nil, true_and, x_bl, x_int, x_some, x_addT, x_addL, x_true, x_false]
      have em : liars.map (fun x => ntP (x, hold, i :: g)) = (liars.map fun x => ((x, hold, i :: g) : Nt)).map ntP := by rw [List.map_map]; rfl
      have el : ns ++ lieN i liars (due.take (j + 1)) = (ns ++ lieN i liars (due.take j)) ++ liars.map fun x => ((x, hold, i :: g) : Nt) := by
        rw [List.append_assoc]
        congr 1
        rw [List.take_add_one, hx]
        unfold lieN
        rw [List.flatMap_append]
        simp
      have hle : (lieN i liars (due.take j)).length ≤ 100 := by
        rw [lie_len]
        exact Nat.le_trans (Nat.mul_le_mul (by rw [List.length_take]; omega) hl) (by decide : 10 * 10 ≤ 100)
      rw [em]
      refine ⟨by rw [List.length_map, List.length_map, List.length_map, List.length_append]; exact line (by omega), ?_⟩
      rw [← List.map_append, ← el]
      exact hN _ ⟨by omega, _, _, rfl⟩
  · obtain ⟨hj, y14, y20, rfl⟩ := hE
    rw [List.take_length]
    have L : Lie cs ns i liars due := ⟨D.pre, h2, fun g hg => (hmem g hg).1, by omega⟩
    try simp only [s_mVar0, s_mVarS, s_mVarO0, s_mVarOS, s_isObj_lst, s_isObj_dic, s_mC, s_mOp, s_mOp1, s_mB, s_mNil, s_mCons, s_mTup, s_mLst, s_mCall, s_mTB, s_mNot, s_mAnd, s_mOr, s_mAndV, s_mOrV, s_mIf, s_mYes, s_mSl, s_mNo, s_mPart, s_mLc, s_mItems, s_mRng1, s_mRng2, s_mEnum, s_mChain, s_seqT, s_seqL, s_sNext, s_sSeq, s_sIf, s_sSet, s_sRet, s_sRetN, s_sBreak, s_sCont, s_sDrop, s_sPar, s_setN0, s_setNS, s_sAsg, s_sApp, s_sAug, s_sFor, s_sSrc, s_gmN, s_gmT, s_gmCons, s_gmNil, s_wipe0, s_wipeS, s_oSub, s_oAddI, s_oAdd, s_oLt, s_oLe, s_oGt, s_oGe, s_oNeg, s_oNot, s_oMul, s_oMulW, s_oMod, s_oFdiv, s_oPow, s_oIsN, s_oNotN, s_oIsB, s_oNotB, s_isNon_int, s_isNon_non, s_isNon_bl, s_isNon_str, s_isNon_tup, s_isNon_lst, s_isNon_dic, s_oEqI, s_oNeI, s_oIxT, s_oIxL, s_oSlT, s_oSlL, s_oRevT, s_oRevL, s_oInt, s_oIntB, s_oAbs, s_oMax2, s_oMin2, s_oLen, s_plenT, s_plenL, s_plenD, s_plenS, s_oTupleL, s_oTupleT, s_oListL, s_oListT, List.set_cons_succ, List.set_cons_zero, List.append_nil, true_and, x_bl, x_int, x_some, x_addT, x_addL, x_true, x_false]
    refine comp_map (emb := tupI) (f := fun g => .bl true) (fun g hg => ⟨_, fun k hk => s_gmN.mpr hk, fun Q hQ => hQ, fun Q hQ => ?_⟩) (line (by omega)) (oAll_map (b := fun _ => true) ?_)
    · try simp only [s_mVar0, s_mVarS, s_mVarO0, s_mVarOS, s_isObj_lst, s_isObj_dic, s_mC, s_mOp, s_mOp1, s_mB, s_mNil, s_mCons, s_mTup, s_mLst, s_mCall, s_mTB, s_mNot, s_mAnd, s_mOr, s_mAndV, s_mOrV, s_mIf, s_mYes, s_mSl, s_mNo, s_mPart, s_mLc, s_mItems, s_mRng1, s_mRng2, s_mEnum, s_mChain, s_seqT, s_seqL, s_sNext, s_sSeq, s_sIf, s_sSet, s_sRet, s_sRetN, s_sBreak, s_sCont, s_sDrop, s_sPar, s_setN0, s_setNS, s_sAsg, s_sApp, s_sAug, s_sFor, s_sSrc, s_gmN, s_gmT, s_gmCons, s_gmNil, s_wipe0, s_wipeS, s_oSub, s_oAddI, s_oAdd, s_oLt, s_oLe, s_oGt, s_oGe, s_oNeg, s_oNot, s_oMul, s_oMulW, s_oMod, s_oFdiv, s_oPow, s_oIsN, s_oNotN, s_oIsB, s_oNotB, s_isNon_int, s_isNon_non, s_isNon_bl, s_isNon_str, s_isNon_tup, s_isNon_lst, s_isNon_dic, s_oEqI, s_oNeI, s_oIxT, s_oIxL, s_oSlT, s_oSlL, s_oRevT, s_oRevL, s_oInt, s_oIntB, s_oAbs, s_oMax2, s_oMin2, s_oLen, s_plenT, s_plenL, s_plenD, s_plenS, s_oTupleL, s_oTupleT, s_oListL, s_oListT, List.set_cons_succ, List.set_cons_zero, List.append_nil, true_and, x_bl, x_int, x_some, x_addT, x_addL, x_true, x_false]
      refine ⟨nb, k, f, w, cs, _, i, g, gone, rfl, hnb, ⟨L.gv, D.i0, D.i1, by rw [h2 g hg]; decide⟩, ?_⟩
      rw [cmpl_lie hg, (hmem g hg).2]
      try simp only [s_mVar0, s_mVarS, s_mVarO0, s_mVarOS, s_isObj_lst, s_isObj_dic, s_mC, s_mOp, s_mOp1, s_mB, s_mNil, s_mCons, s_mTup, s_mLst, s_mCall, s_mTB, s_mNot, s_mAnd, s_mOr, s_mAndV, s_mOrV, s_mIf, s_mYes, s_mSl, s_mNo, s_mPart, s_mLc, s_mItems, s_mRng1, s_mRng2, s_mEnum, s_mChain, s_seqT, s_seqL, s_sNext, s_sSeq, s_sIf, s_sSet, s_sRet, s_sRetN, s_sBreak, s_sCont, s_sDrop, s_sPar, s_setN0, s_setNS, s_sAsg, s_sApp, s_sAug, s_sFor, s_sSrc, s_gmN, s_gmT, s_gmCons, s_gmNil, s_wipe0, s_wipeS, s_oSub, s_oAddI, s_oAdd, s_oLt, s_oLe, s_oGt, s_oGe, s_oNeg, s_oNot, s_oMul, s_oMulW, s_oMod, s_oFdiv, s_oPow, s_oIsN, s_oNotN, s_oIsB, s_oNotB, s_isNon_int, s_isNon_non, s_isNon_bl, s_isNon_str, s_isNon_tup, s_isNon_lst, s_isNon_dic, s_oEqI, s_oNeI, s_oIxT, s_oIxL, s_oSlT, s_oSlL, s_oRevT, s_oRevL, s_oInt, s_oIntB, s_oAbs, s_oMax2, s_oMin2, s_oLen, s_plenT, s_plenL, s_plenD, s_plenS, s_oTupleL, s_oTupleT, s_oListL, s_oListT, List.set_cons_succ, List.set_cons_zero, List.append_nil, true_and, x_bl, x_int, x_some, x_addT, x_addL, x_true, x_false]
      exact hQ
    · try simp only [s_mVar0, s_mVarS, s_mVarO0, s_mVarOS, s_isObj_lst, s_isObj_dic, s_mC, s_mOp, s_mOp1, s_mB, s_mNil, s_mCons, s_mTup, s_mLst, s_mCall, s_mTB, s_mNot, s_mAnd, s_mOr, s_mAndV, s_mOrV, s_mIf, s_mYes, s_mSl, s_mNo, s_mPart, s_mLc, s_mItems, s_mRng1, s_mRng2, s_mEnum, s_mChain, s_seqT, s_seqL, s_sNext, s_sSeq, s_sIf, s_sSet, s_sRet, s_sRetN, s_sBreak, s_sCont, s_sDrop, s_sPar, s_setN0, s_setNS, s_sAsg, s_sApp, s_sAug, s_sFor, s_sSrc, s_gmN, s_gmT, s_gmCons, s_gmNil, s_wipe0, s_wipeS, s_oSub, s_oAddI, s_oAdd, s_oLt, s_oLe, s_oGt, s_oGe, s_oNeg, s_oNot, s_oMul, s_oMulW, s_oMod, s_oFdiv, s_oPow, s_oIsN, s_oNotN, s_oIsB, s_oNotB, s_isNon_int, s_isNon_non, s_isNon_bl, s_isNon_str, s_isNon_tup, s_isNon_lst, s_isNon_dic, s_oEqI, s_oNeI, s_oIxT, s_oIxL, s_oSlT, s_oSlL, s_oRevT, s_oRevL, s_oInt, s_oIntB, s_oAbs, s_oMax2, s_oMin2, s_oLen, s_plenT, s_plenL, s_plenD, s_plenS, s_oTupleL, s_oTupleT, s_oListL, s_oListT, List.set_cons_succ, List.set_cons_zero, List.append_nil, true_and, x_bl, x_int, x_some, x_addT, x_addL, x_true, x_false]
      refine ite_f (by simp) ?_
      exact ⟨nb, k, f, w, cs, ns, rfl, hnb, D.gv, fun l hl => by rw [(D.lotk l hl).len], f0, Nat.le_trans D.S.c10 (by decide), rfl⟩
theorem due_comp (D : Dl cs pool dl k i ns) (w : Int) (gone : List Int) (hS : IsS (keys ns i) (srt (keys ns i))) {env : PM.Env} {P : PV → Prop} {tt : TTm} {te : TEm} {j : Nat}
    (ht : ∀ g ∈ named cs ns i, ∀ Q : Bool → Prop, Q (cmpl w cs ns i g gone) → tt (env.set j (some (tupI g))) Q) (he : ∀ g ∈ named cs ns i, ∀ Q : PV → Prop, Q (tupI g) → te (env.set j (some (tupI g))) Q)
    (h : P (.lst ((full w cs ns i gone).map tupI))) : mCompGo (gmN j) tt te env P ((named cs ns i).map tupI) [] := by
  have := named_len (cs := cs) D.nm hS
  refine comp_emb (emb := tupI) (xs := named cs ns i) (tst := fun g => cmpl w cs ns i g gone) (f := tupI) (fun g hg => ⟨_, fun k hk => s_gmN.mpr hk, fun Q hQ => ht g hg Q hQ, fun _ Q hQ => he g hg Q hQ⟩) (by rw [List.length_nil]; exact line (by omega)) ?_
  rw [List.nil_append]
  exact h
theorem h_c13 (D : Dl cs pool dl k i ns) (f w : Int) (nb : PV) (hnb : isNb k f w nb) (f0 : 0 ≤ f) (gone liars : List Int) (hgo : gone.length ≤ 100) (hl : liars.length ≤ 10) (v0 v2 v4 v5 v10 v11 v12 v13 v14 v15 v16 v19 v20 : Option PV) :
    t_law_c13 ok_heap sp_some sp_l_course sp_l_notes sp_Numbers sp_l_named sp_l_wipes sp_pick sp_drw sp_l_is_complete (spk 3) sp_l_holders sp_dealings_named sp_complete_dealings sp_fillable sp_holders sp_is_complete LM
      [v0, some .src, v2, some (.tup (cs.map tI)), v4, v5, some (.int w), some nb, some (tI gone), some (tI liars), v10, v11, v12, v13, v14, v15, v16, some (.int i), some (.tup (ns.map ntP)), v19, v20] := by
  have hfew := D.few
  unfold t_law_c13
  try simp only [s_mVar0, s_mVarS, s_mVarO0, s_mVarOS, s_isObj_lst, s_isObj_dic, s_mC, s_mOp, s_mOp1, s_mB, s_mNil, s_mCons, s_mTup, s_mLst, s_mCall, s_mTB, s_mNot, s_mAnd, s_mOr, s_mAndV, s_mOrV, s_mIf, s_mYes, s_mSl, s_mNo, s_mPart, s_mLc, s_mItems, s_mRng1, s_mRng2, s_mEnum, s_mChain, s_seqT, s_seqL, s_sNext, s_sSeq, s_sIf, s_sSet, s_sRet, s_sRetN, s_sBreak, s_sCont, s_sDrop, s_sPar, s_setN0, s_setNS, s_sAsg, s_sApp, s_sAug, s_sFor, s_sSrc, s_gmN, s_gmT, s_gmCons, s_gmNil, s_wipe0, s_wipeS, s_oSub, s_oAddI, s_oAdd, s_oLt, s_oLe, s_oGt, s_oGe, s_oNeg, s_oNot, s_oMul, s_oMulW, s_oMod, s_oFdiv, s_oPow, s_oIsN, s_oNotN, s_oIsB, s_oNotB, s_isNon_int, s_isNon_non, s_isNon_bl, s_isNon_str, s_isNon_tup, s_isNon_lst, s_isNon_dic, s_oEqI, s_oNeI, s_oIxT, s_oIxL, s_oSlT, s_oSlL, s_oRevT, s_oRevL, s_oInt, s_oIntB, s_oAbs, s_oMax2, s_oMin2, s_oLen, s_plenT, s_plenL, s_plenD, s_plenS, s_oTupleL, s_oTupleT, s_oListL, s_oListT, List.set_cons_succ, List.set_cons_zero, List.append_nil, true_and, x_bl, x_int, x_some, x_addT, x_addL, x_true, x_false]
  refine ⟨cs, ns, i, rfl, D.pre, fun hS => ?_⟩
  have hnl := named_len (cs := cs) D.nm hS
  have h2 : ∀ g ∈ named cs ns i, g.length = 2 := fun g hg => (D.nm.prs g ((named_mem hS).mp hg).1).1
  have lkf : ∀ go, Lk 2 (.tup ((full w cs ns i go).map tupI)) := fun go => lk_pairs (Nat.le_trans (List.length_filter_le _ _) (by omega)) fun g hg => h2 g (List.mem_filter.mp hg).1
  try simp only [s_mVar0, s_mVarS, s_mVarO0, s_mVarOS, s_isObj_lst, s_isObj_dic, s_mC, s_mOp, s_mOp1, s_mB, s_mNil, s_mCons, s_mTup, s_mLst, s_mCall, s_mTB, s_mNot, s_mAnd, s_mOr, s_mAndV, s_mOrV, s_mIf, s_mYes, s_mSl, s_mNo, s_mPart, s_mLc, s_mItems, s_mRng1, s_mRng2, s_mEnum, s_mChain, s_seqT, s_seqL, s_sNext, s_sSeq, s_sIf, s_sSet, s_sRet, s_sRetN, s_sBreak, s_sCont, s_sDrop, s_sPar, s_setN0, s_setNS, s_sAsg, s_sApp, s_sAug, s_sFor, s_sSrc, s_gmN, s_gmT, s_gmCons, s_gmNil, s_wipe0, s_wipeS, s_oSub, s_oAddI, s_oAdd, s_oLt, s_oLe, s_oGt, s_oGe, s_oNeg, s_oNot, s_oMul, s_oMulW, s_oMod, s_oFdiv, s_oPow, s_oIsN, s_oNotN, s_oIsB, s_oNotB, s_isNon_int, s_isNon_non, s_isNon_bl, s_isNon_str, s_isNon_tup, s_isNon_lst, s_isNon_dic, s_oEqI, s_oNeI, s_oIxT, s_oIxL, s_oSlT, s_oSlL, s_oRevT, s_oRevL, s_oInt, s_oIntB, s_oAbs, s_oMax2, s_oMin2, s_oLen, s_plenT, s_plenL, s_plenD, s_plenS, s_oTupleL, s_oTupleT, s_oListL, s_oListT, List.set_cons_succ, List.set_cons_zero, List.append_nil, true_and, x_bl, x_int, x_some, x_addT, x_addL, x_true, x_false]
  refine ⟨cs, ns, i, rfl, D.pre, fun _ => ⟨_, rfl, lk_pairs (by omega) h2, ?_⟩⟩
  refine ⟨_, rfl, ite_f (by decide) ?_⟩
  have ht : ∀ (go : List Int) (g : List Int), g ∈ named cs ns i → ∀ Q : Bool → Prop, Q (cmpl w cs ns i g go) → sp_l_is_complete [.int w, .tup (cs.map tI), .tup (ns.map ntP), .int i, tupI g, tI go] fun x => ∃ b, x = .bl b ∧ Q b := fun go g hg Q hQ =>
    ⟨w, cs, ns, i, g, go, rfl, D.p (by rw [h2 g hg]; decide), _, rfl, hQ⟩
  refine due_comp D w gone hS (fun g hg Q hQ => ?_) (fun g hg Q hQ => ?_) ?_
  · try simp only [s_mVar0, s_mVarS, s_mVarO0, s_mVarOS, s_isObj_lst, s_isObj_dic, s_mC, s_mOp, s_mOp1, s_mB, s_mNil, s_mCons, s_mTup, s_mLst, s_mCall, s_mTB, s_mNot, s_mAnd, s_mOr, s_mAndV, s_mOrV, s_mIf, s_mYes, s_mSl, s_mNo, s_mPart, s_mLc, s_mItems, s_mRng1, s_mRng2, s_mEnum, s_mChain, s_seqT, s_seqL, s_sNext, s_sSeq, s_sIf, s_sSet, s_sRet, s_sRetN, s_sBreak, s_sCont, s_sDrop, s_sPar, s_setN0, s_setNS, s_sAsg, s_sApp, s_sAug, s_sFor, s_sSrc, s_gmN, s_gmT, s_gmCons, s_gmNil, s_wipe0, s_wipeS, s_oSub, s_oAddI, s_oAdd, s_oLt, s_oLe, s_oGt, s_oGe, s_oNeg, s_oNot, s_oMul, s_oMulW, s_oMod, s_oFdiv, s_oPow, s_oIsN, s_oNotN, s_oIsB, s_oNotB, s_isNon_int, s_isNon_non, s_isNon_bl, s_isNon_str, s_isNon_tup, s_isNon_lst, s_isNon_dic, s_oEqI, s_oNeI, s_oIxT, s_oIxL, s_oSlT, s_oSlL, s_oRevT, s_oRevL, s_oInt, s_oIntB, s_oAbs, s_oMax2, s_oMin2, s_oLen, s_plenT, s_plenL, s_plenD, s_plenS, s_oTupleL, s_oTupleT, s_oListL, s_oListT, List.set_cons_succ, List.set_cons_zero, List.append_nil, true_and, x_bl, x_int, x_some, x_addT, x_addL, x_true, x_false]
    exact ht gone g hg Q hQ
  · try simp only [s_mVar0, s_mVarS, s_mVarO0, s_mVarOS, s_isObj_lst, s_isObj_dic, s_mC, s_mOp, s_mOp1, s_mB, s_mNil, s_mCons, s_mTup, s_mLst, s_mCall, s_mTB, s_mNot, s_mAnd, s_mOr, s_mAndV, s_mOrV, s_mIf, s_mYes, s_mSl, s_mNo, s_mPart, s_mLc, s_mItems, s_mRng1, s_mRng2, s_mEnum, s_mChain, s_seqT, s_seqL, s_sNext, s_sSeq, s_sIf, s_sSet, s_sRet, s_sRetN, s_sBreak, s_sCont, s_sDrop, s_sPar, s_setN0, s_setNS, s_sAsg, s_sApp, s_sAug, s_sFor, s_sSrc, s_gmN, s_gmT, s_gmCons, s_gmNil, s_wipe0, s_wipeS, s_oSub, s_oAddI, s_oAdd, s_oLt, s_oLe, s_oGt, s_oGe, s_oNeg, s_oNot, s_oMul, s_oMulW, s_oMod, s_oFdiv, s_oPow, s_oIsN, s_oNotN, s_oIsB, s_oNotB, s_isNon_int, s_isNon_non, s_isNon_bl, s_isNon_str, s_isNon_tup, s_isNon_lst, s_isNon_dic, s_oEqI, s_oNeI, s_oIxT, s_oIxL, s_oSlT, s_oSlL, s_oRevT, s_oRevL, s_oInt, s_oIntB, s_oAbs, s_oMax2, s_oMin2, s_oLen, s_plenT, s_plenL, s_plenD, s_plenS, s_oTupleL, s_oTupleT, s_oListL, s_oListT, List.set_cons_succ, List.set_cons_zero, List.append_nil, true_and, x_bl, x_int, x_some, x_addT, x_addL, x_true, x_false]
    exact hQ
  try simp only [s_mVar0, s_mVarS, s_mVarO0, s_mVarOS, s_isObj_lst, s_isObj_dic, s_mC, s_mOp, s_mOp1, s_mB, s_mNil, s_mCons, s_mTup, s_mLst, s_mCall, s_mTB, s_mNot, s_mAnd, s_mOr, s_mAndV, s_mOrV, s_mIf, s_mYes, s_mSl, s_mNo, s_mPart, s_mLc, s_mItems, s_mRng1, s_mRng2, s_mEnum, s_mChain, s_seqT, s_seqL, s_sNext, s_sSeq, s_sIf, s_sSet, s_sRet, s_sRetN, s_sBreak, s_sCont, s_sDrop, s_sPar, s_setN0, s_setNS, s_sAsg, s_sApp, s_sAug, s_sFor, s_sSrc, s_gmN, s_gmT, s_gmCons, s_gmNil, s_wipe0, s_wipeS, s_oSub, s_oAddI, s_oAdd, s_oLt, s_oLe, s_oGt, s_oGe, s_oNeg, s_oNot, s_oMul, s_oMulW, s_oMod, s_oFdiv, s_oPow, s_oIsN, s_oNotN, s_oIsB, s_oNotB, s_isNon_int, s_isNon_non, s_isNon_bl, s_isNon_str, s_isNon_tup, s_isNon_lst, s_isNon_dic, s_oEqI, s_oNeI, s_oIxT, s_oIxL, s_oSlT, s_oSlL, s_oRevT, s_oRevL, s_oInt, s_oIntB, s_oAbs, s_oMax2, s_oMin2, s_oLen, s_plenT, s_plenL, s_plenD, s_plenS, s_oTupleL, s_oTupleT, s_oListL, s_oListT, List.set_cons_succ, List.set_cons_zero, List.append_nil, true_and, x_bl, x_int, x_some, x_addT, x_addL, x_true, x_false]
  refine ⟨nb, k, f, w, cs, ns, i, gone, rfl, hnb, D.pre, fun _ => ⟨_, rfl, lkf gone, ?_⟩⟩
  refine ⟨_, rfl, ite_f (by decide) ?_⟩
  refine due_comp D w [] hS (fun g hg Q hQ => ?_) (fun g hg Q hQ => ?_) ?_
  · try simp only [s_mVar0, s_mVarS, s_mVarO0, s_mVarOS, s_isObj_lst, s_isObj_dic, s_mC, s_mOp, s_mOp1, s_mB, s_mNil, s_mCons, s_mTup, s_mLst, s_mCall, s_mTB, s_mNot, s_mAnd, s_mOr, s_mAndV, s_mOrV, s_mIf, s_mYes, s_mSl, s_mNo, s_mPart, s_mLc, s_mItems, s_mRng1, s_mRng2, s_mEnum, s_mChain, s_seqT, s_seqL, s_sNext, s_sSeq, s_sIf, s_sSet, s_sRet, s_sRetN, s_sBreak, s_sCont, s_sDrop, s_sPar, s_setN0, s_setNS, s_sAsg, s_sApp, s_sAug, s_sFor, s_sSrc, s_gmN, s_gmT, s_gmCons, s_gmNil, s_wipe0, s_wipeS, s_oSub, s_oAddI, s_oAdd, s_oLt, s_oLe, s_oGt, s_oGe, s_oNeg, s_oNot, s_oMul, s_oMulW, s_oMod, s_oFdiv, s_oPow, s_oIsN, s_oNotN, s_oIsB, s_oNotB, s_isNon_int, s_isNon_non, s_isNon_bl, s_isNon_str, s_isNon_tup, s_isNon_lst, s_isNon_dic, s_oEqI, s_oNeI, s_oIxT, s_oIxL, s_oSlT, s_oSlL, s_oRevT, s_oRevL, s_oInt, s_oIntB, s_oAbs, s_oMax2, s_oMin2, s_oLen, s_plenT, s_plenL, s_plenD, s_plenS, s_oTupleL, s_oTupleT, s_oListL, s_oListT, List.set_cons_succ, List.set_cons_zero, List.append_nil, true_and, x_bl, x_int, x_some, x_addT, x_addL, x_true, x_false]
    exact ⟨Nat.zero_le _, ht [] g hg Q hQ⟩
  · try simp only [s_mVar0, s_mVarS, s_mVarO0, s_mVarOS, s_isObj_lst, s_isObj_dic, s_mC, s_mOp, s_mOp1, s_mB, s_mNil, s_mCons, s_mTup, s_mLst, s_mCall, s_mTB, s_mNot, s_mAnd, s_mOr, s_mAndV, s_mOrV, s_mIf, s_mYes, s_mSl, s_mNo, s_mPart, s_mLc, s_mItems, s_mRng1, s_mRng2, s_mEnum, s_mChain, s_seqT, s_seqL, s_sNext, s_sSeq, s_sIf, s_sSet, s_sRet, s_sRetN, s_sBreak, s_sCont, s_sDrop, s_sPar, s_setN0, s_setNS, s_sAsg, s_sApp, s_sAug, s_sFor, s_sSrc, s_gmN, s_gmT, s_gmCons, s_gmNil, s_wipe0, s_wipeS, s_oSub, s_oAddI, s_oAdd, s_oLt, s_oLe, s_oGt, s_oGe, s_oNeg, s_oNot, s_oMul, s_oMulW, s_oMod, s_oFdiv, s_oPow, s_oIsN, s_oNotN, s_oIsB, s_oNotB, s_isNon_int, s_isNon_non, s_isNon_bl, s_isNon_str, s_isNon_tup, s_isNon_lst, s_isNon_dic, s_oEqI, s_oNeI, s_oIxT, s_oIxL, s_oSlT, s_oSlL, s_oRevT, s_oRevL, s_oInt, s_oIntB, s_oAbs, s_oMax2, s_oMin2, s_oLen, s_plenT, s_plenL, s_plenD, s_plenS, s_oTupleL, s_oTupleT, s_oListL, s_oListT, List.set_cons_succ, List.set_cons_zero, List.append_nil, true_and, x_bl, x_int, x_some, x_addT, x_addL, x_true, x_false]
    exact hQ
  try simp only [s_mVar0, s_mVarS, s_mVarO0, s_mVarOS, s_isObj_lst, s_isObj_dic, s_mC, s_mOp, s_mOp1, s_mB, s_mNil, s_mCons, s_mTup, s_mLst, s_mCall, s_mTB, s_mNot, s_mAnd, s_mOr, s_mAndV, s_mOrV, s_mIf, s_mYes, s_mSl, s_mNo, s_mPart, s_mLc, s_mItems, s_mRng1, s_mRng2, s_mEnum, s_mChain, s_seqT, s_seqL, s_sNext, s_sSeq, s_sIf, s_sSet, s_sRet, s_sRetN, s_sBreak, s_sCont, s_sDrop, s_sPar, s_setN0, s_setNS, s_sAsg, s_sApp, s_sAug, s_sFor, s_sSrc, s_gmN, s_gmT, s_gmCons, s_gmNil, s_wipe0, s_wipeS, s_oSub, s_oAddI, s_oAdd, s_oLt, s_oLe, s_oGt, s_oGe, s_oNeg, s_oNot, s_oMul, s_oMulW, s_oMod, s_oFdiv, s_oPow, s_oIsN, s_oNotN, s_oIsB, s_oNotB, s_isNon_int, s_isNon_non, s_isNon_bl, s_isNon_str, s_isNon_tup, s_isNon_lst, s_isNon_dic, s_oEqI, s_oNeI, s_oIxT, s_oIxL, s_oSlT, s_oSlL, s_oRevT, s_oRevL, s_oInt, s_oIntB, s_oAbs, s_oMax2, s_oMin2, s_oLen, s_plenT, s_plenL, s_plenD, s_plenS, s_oTupleL, s_oTupleT, s_oListL, s_oListT, List.set_cons_succ, List.set_cons_zero, List.append_nil, true_and, x_bl, x_int, x_some, x_addT, x_addL, x_true, x_false]
  refine ⟨nb, k, f, w, cs, ns, i, [], rfl, hnb, D.pre, fun _ => ⟨_, rfl, lkf [], ?_⟩⟩
  refine ⟨_, rfl, ite_f (by decide) ?_⟩
  refine due_comp D w (gone ++ liars) hS (fun g hg Q hQ => ?_) (fun g hg Q hQ => ?_) ?_
  · try simp only [s_mVar0, s_mVarS, s_mVarO0, s_mVarOS, s_isObj_lst, s_isObj_dic, s_mC, s_mOp, s_mOp1, s_mB, s_mNil, s_mCons, s_mTup, s_mLst, s_mCall, s_mTB, s_mNot, s_mAnd, s_mOr, s_mAndV, s_mOrV, s_mIf, s_mYes, s_mSl, s_mNo, s_mPart, s_mLc, s_mItems, s_mRng1, s_mRng2, s_mEnum, s_mChain, s_seqT, s_seqL, s_sNext, s_sSeq, s_sIf, s_sSet, s_sRet, s_sRetN, s_sBreak, s_sCont, s_sDrop, s_sPar, s_setN0, s_setNS, s_sAsg, s_sApp, s_sAug, s_sFor, s_sSrc, s_gmN, s_gmT, s_gmCons, s_gmNil, s_wipe0, s_wipeS, s_oSub, s_oAddI, s_oAdd, s_oLt, s_oLe, s_oGt, s_oGe, s_oNeg, s_oNot, s_oMul, s_oMulW, s_oMod, s_oFdiv, s_oPow, s_oIsN, s_oNotN, s_oIsB, s_oNotB, s_isNon_int, s_isNon_non, s_isNon_bl, s_isNon_str, s_isNon_tup, s_isNon_lst, s_isNon_dic, s_oEqI, s_oNeI, s_oIxT, s_oIxL, s_oSlT, s_oSlL, s_oRevT, s_oRevL, s_oInt, s_oIntB, s_oAbs, s_oMax2, s_oMin2, s_oLen, s_plenT, s_plenL, s_plenD, s_plenS, s_oTupleL, s_oTupleT, s_oListL, s_oListT, List.set_cons_succ, List.set_cons_zero, List.append_nil, true_and, x_bl, x_int, x_some, x_addT, x_addL, x_true, x_false]
    refine ⟨by rw [List.length_map, List.length_map]; exact line (by omega), ?_⟩
    rw [← List.map_append]
    exact ht (gone ++ liars) g hg Q hQ
  · try simp only [s_mVar0, s_mVarS, s_mVarO0, s_mVarOS, s_isObj_lst, s_isObj_dic, s_mC, s_mOp, s_mOp1, s_mB, s_mNil, s_mCons, s_mTup, s_mLst, s_mCall, s_mTB, s_mNot, s_mAnd, s_mOr, s_mAndV, s_mOrV, s_mIf, s_mYes, s_mSl, s_mNo, s_mPart, s_mLc, s_mItems, s_mRng1, s_mRng2, s_mEnum, s_mChain, s_seqT, s_seqL, s_sNext, s_sSeq, s_sIf, s_sSet, s_sRet, s_sRetN, s_sBreak, s_sCont, s_sDrop, s_sPar, s_setN0, s_setNS, s_sAsg, s_sApp, s_sAug, s_sFor, s_sSrc, s_gmN, s_gmT, s_gmCons, s_gmNil, s_wipe0, s_wipeS, s_oSub, s_oAddI, s_oAdd, s_oLt, s_oLe, s_oGt, s_oGe, s_oNeg, s_oNot, s_oMul, s_oMulW, s_oMod, s_oFdiv, s_oPow, s_oIsN, s_oNotN, s_oIsB, s_oNotB, s_isNon_int, s_isNon_non, s_isNon_bl, s_isNon_str, s_isNon_tup, s_isNon_lst, s_isNon_dic, s_oEqI, s_oNeI, s_oIxT, s_oIxL, s_oSlT, s_oSlL, s_oRevT, s_oRevL, s_oInt, s_oIntB, s_oAbs, s_oMax2, s_oMin2, s_oLen, s_plenT, s_plenL, s_plenD, s_plenS, s_oTupleL, s_oTupleT, s_oListL, s_oListT, List.set_cons_succ, List.set_cons_zero, List.append_nil, true_and, x_bl, x_int, x_some, x_addT, x_addL, x_true, x_false]
    exact hQ
  try simp only [s_mVar0, s_mVarS, s_mVarO0, s_mVarOS, s_isObj_lst, s_isObj_dic, s_mC, s_mOp, s_mOp1, s_mB, s_mNil, s_mCons, s_mTup, s_mLst, s_mCall, s_mTB, s_mNot, s_mAnd, s_mOr, s_mAndV, s_mOrV, s_mIf, s_mYes, s_mSl, s_mNo, s_mPart, s_mLc, s_mItems, s_mRng1, s_mRng2, s_mEnum, s_mChain, s_seqT, s_seqL, s_sNext, s_sSeq, s_sIf, s_sSet, s_sRet, s_sRetN, s_sBreak, s_sCont, s_sDrop, s_sPar, s_setN0, s_setNS, s_sAsg, s_sApp, s_sAug, s_sFor, s_sSrc, s_gmN, s_gmT, s_gmCons, s_gmNil, s_wipe0, s_wipeS, s_oSub, s_oAddI, s_oAdd, s_oLt, s_oLe, s_oGt, s_oGe, s_oNeg, s_oNot, s_oMul, s_oMulW, s_oMod, s_oFdiv, s_oPow, s_oIsN, s_oNotN, s_oIsB, s_oNotB, s_isNon_int, s_isNon_non, s_isNon_bl, s_isNon_str, s_isNon_tup, s_isNon_lst, s_isNon_dic, s_oEqI, s_oNeI, s_oIxT, s_oIxL, s_oSlT, s_oSlL, s_oRevT, s_oRevL, s_oInt, s_oIntB, s_oAbs, s_oMax2, s_oMin2, s_oLen, s_plenT, s_plenL, s_plenD, s_plenS, s_oTupleL, s_oTupleT, s_oListL, s_oListT, List.set_cons_succ, List.set_cons_zero, List.append_nil, true_and, x_bl, x_int, x_some, x_addT, x_addL, x_true, x_false]
  refine ⟨nb, k, f, w, cs, ns, i, liars, gone, rfl, hnb, D.pre, by omega, hl, fun _ => ⟨_, rfl, lkf _, ?_⟩⟩
  refine ⟨_, rfl, ite_f (by decide) ?_⟩
  exact h_c21 D f w nb hnb f0 gone liars hl hS _ _ _ _ _ _ _ _ _ _ _ _
theorem h_c12 (D : Dl cs pool dl k i ns) (f w : Int) (nb : PV) (hnb : isNb k f w nb) (f0 : 0 ≤ f) (gone liars : List Int) (hgo : gone.length ≤ 100) (hl : liars.length ≤ 10) (v0 v5 v10 v11 v12 v13 v14 v15 v16 v19 v20 : Option PV) :
    t_law_c12 ok_heap sp_some sp_l_course sp_l_notes sp_Numbers sp_l_named sp_l_wipes sp_pick sp_drw sp_l_is_complete (spk 3) sp_l_holders sp_dealings_named sp_complete_dealings sp_fillable sp_holders sp_is_complete LM
      [v0, some .src, some (tI pool), some (.tup (cs.map tI)), some (.lst (dl.map tupI)), v5, some (.int w), some nb, some (tI gone), some (tI liars), v10, v11, v12, v13, v14, v15, v16, some (.int i), some (.tup (ns.map ntP)), v19, v20] := by
  have hd1 := D.S.d1
  have hlot := D.gv.small _ (lot_mem (cs := cs) (i := i + 1) (by have := D.i0; omega) D.i1)
  unfold t_law_c12
  refine s_sSeq.mpr ?_
  try simp only [s_mVar0, s_mVarS, s_mVarO0, s_mVarOS, s_isObj_lst, s_isObj_dic, s_mC, s_mOp, s_mOp1, s_mB, s_mNil, s_mCons, s_mTup, s_mLst, s_mCall, s_mTB, s_mNot, s_mAnd, s_mOr, s_mAndV, s_mOrV, s_mIf, s_mYes, s_mSl, s_mNo, s_mPart, s_mLc, s_mItems, s_mRng1, s_mRng2, s_mEnum, s_mChain, s_seqT, s_seqL, s_sNext, s_sSeq, s_sIf, s_sSet, s_sRet, s_sRetN, s_sBreak, s_sCont, s_sDrop, s_sPar, s_setN0, s_setNS, s_sAsg, s_sApp, s_sAug, s_sFor, s_sSrc, s_gmN, s_gmT, s_gmCons, s_gmNil, s_wipe0, s_wipeS, s_oSub, s_oAddI, s_oAdd, s_oLt, s_oLe, s_oGt, s_oGe, s_oNeg, s_oNot, s_oMul, s_oMulW, s_oMod, s_oFdiv, s_oPow, s_oIsN, s_oNotN, s_oIsB, s_oNotB, s_isNon_int, s_isNon_non, s_isNon_bl, s_isNon_str, s_isNon_tup, s_isNon_lst, s_isNon_dic, s_oEqI, s_oNeI, s_oIxT, s_oIxL, s_oSlT, s_oSlL, s_oRevT, s_oRevL, s_oInt, s_oIntB, s_oAbs, s_oMax2, s_oMin2, s_oLen, s_plenT, s_plenL, s_plenD, s_plenS, s_oTupleL, s_oTupleT, s_oListL, s_oListT, List.set_cons_succ, List.set_cons_zero, List.append_nil, true_and, x_bl, x_int, x_some, x_addT, x_addL, x_true, x_false]
  refine ⟨Nat.zero_le _, line (by simp), by rw [List.length_map]; exact line (by simp; omega), pick_pool D.S.p0 (Nat.le_trans D.S.p1 (by decide)) fun h0 _ => ?_⟩
  refine ⟨line (by simp), line (by simp), by simp only [List.length_append, List.length_map, List.length_cons, List.length_nil]; exact line (by omega), ?_⟩
  have el : dl.map tupI ++ [PV.tup []] ++ [PV.tup [.int h0, .int 3]] = (dl ++ [[]] ++ [[h0, 3]]).map tupI := by rw [List.map_append, List.map_append]; rfl
  rw [el]
  refine for_inv (emb := tupI) (fun j e => ∃ y10 y12, e = [v0, some .src, some (tI pool), some (.tup (cs.map tI)), some (.lst (dl.map tupI)), v5, some (.int w), some nb, some (tI gone), some (tI liars), y10, v11, y12, v13, v14, v15, v16, some (.int i), some (.tup (ns.map ntP)), v19, v20]) ⟨_, _, rfl⟩ (fun j g e N hx hE hN => ?_) (fun e hE => ?_)
  · obtain ⟨y10, y12, rfl⟩ := hE
    have hg := List.mem_of_getElem? hx
    have hg2 : g.length ≤ 2 := by
      rcases List.mem_append.mp hg with z | z
      · rcases List.mem_append.mp z with z | z
        · rw [(D.S.prs g z).1]; decide
        · rw [List.mem_singleton.mp z]; decide
      · rw [List.mem_singleton.mp z]; simp
    have hp := fun go => D.p (gone := go) hg2
    rw [s_gmN]
    try simp only [s_mVar0, s_mVarS, s_mVarO0, s_mVarOS, s_isObj_lst, s_isObj_dic, s_mC, s_mOp, s_mOp1, s_mB, s_mNil, s_mCons, s_mTup, s_mLst, s_mCall, s_mTB, s_mNot, s_mAnd, s_mOr, s_mAndV, s_mOrV, s_mIf, s_mYes, s_mSl, s_mNo, s_mPart, s_mLc, s_mItems, s_mRng1, s_mRng2, s_mEnum, s_mChain, s_seqT, s_seqL, s_sNext, s_sSeq, s_sIf, s_sSet, s_sRet, s_sRetN, s_sBreak, s_sCont, s_sDrop, s_sPar, s_setN0, s_setNS, s_sAsg, s_sApp, s_sAug, s_sFor, s_sSrc, s_gmN, s_gmT, s_gmCons, s_gmNil, s_wipe0, s_wipeS, s_oSub, s_oAddI, s_oAdd, s_oLt, s_oLe, s_oGt, s_oGe, s_oNeg, s_oNot, s_oMul, s_oMulW, s_oMod, s_oFdiv, s_oPow, s_oIsN, s_oNotN, s_oIsB, s_oNotB, s_isNon_int, s_isNon_non, s_isNon_bl, s_isNon_str, s_isNon_tup, s_isNon_lst, s_isNon_dic, s_oEqI, s_oNeI, s_oIxT, s_oIxL, s_oSlT, s_oSlL, s_oRevT, s_oRevL, s_oInt, s_oIntB, s_oAbs, s_oMax2, s_oMin2, s_oLen, s_plenT, s_plenL, s_plenD, s_plenS, s_oTupleL, s_oTupleT, s_oListL, s_oListT, List.set_cons_succ, List.set_cons_zero, List.append_nil, true_and, x_bl, x_int, x_some, x_addT, x_addL, x_true, x_false]
    refine ⟨cs, ns, i, g, rfl, D.gv, D.i0, D.i1, hg2, cs, ns, i, g, rfl, D.gv, D.i0, D.i1, hg2, _, rfl, lk_ints (Nat.le_trans hld_len (by omega)), ?_⟩
    refine ⟨_, rfl, ite_f (by decide) ?_⟩
    refine ⟨w, cs, ns, i, g, gone, rfl, hp gone, ?_⟩
    try simp only [s_mVar0, s_mVarS, s_mVarO0, s_mVarOS, s_isObj_lst, s_isObj_dic, s_mC, s_mOp, s_mOp1, s_mB, s_mNil, s_mCons, s_mTup, s_mLst, s_mCall, s_mTB, s_mNot, s_mAnd, s_mOr, s_mAndV, s_mOrV, s_mIf, s_mYes, s_mSl, s_mNo, s_mPart, s_mLc, s_mItems, s_mRng1, s_mRng2, s_mEnum, s_mChain, s_seqT, s_seqL, s_sNext, s_sSeq, s_sIf, s_sSet, s_sRet, s_sRetN, s_sBreak, s_sCont, s_sDrop, s_sPar, s_setN0, s_setNS, s_sAsg, s_sApp, s_sAug, s_sFor, s_sSrc, s_gmN, s_gmT, s_gmCons, s_gmNil, s_wipe0, s_wipeS, s_oSub, s_oAddI, s_oAdd, s_oLt, s_oLe, s_oGt, s_oGe, s_oNeg, s_oNot, s_oMul, s_oMulW, s_oMod, s_oFdiv, s_oPow, s_oIsN, s_oNotN, s_oIsB, s_oNotB, s_isNon_int, s_isNon_non, s_isNon_bl, s_isNon_str, s_isNon_tup, s_isNon_lst, s_isNon_dic, s_oEqI, s_oNeI, s_oIxT, s_oIxL, s_oSlT, s_oSlL, s_oRevT, s_oRevL, s_oInt, s_oIntB, s_oAbs, s_oMax2, s_oMin2, s_oLen, s_plenT, s_plenL, s_plenD, s_plenS, s_oTupleL, s_oTupleT, s_oListL, s_oListT, List.set_cons_succ, List.set_cons_zero, List.append_nil, true_and, x_bl, x_int, x_some, x_addT, x_addL, x_true, x_false]
    refine ⟨nb, k, f, w, cs, ns, i, g, gone, rfl, hnb, hp gone, _, rfl, trivial, ?_⟩
    refine ⟨_, rfl, ite_f (by decide) ?_⟩
    refine ⟨Nat.zero_le _, w, cs, ns, i, g, [], rfl, hp [], ?_⟩
    try simp only [s_mVar0, s_mVarS, s_mVarO0, s_mVarOS, s_isObj_lst, s_isObj_dic, s_mC, s_mOp, s_mOp1, s_mB, s_mNil, s_mCons, s_mTup, s_mLst, s_mCall, s_mTB, s_mNot, s_mAnd, s_mOr, s_mAndV, s_mOrV, s_mIf, s_mYes, s_mSl, s_mNo, s_mPart, s_mLc, s_mItems, s_mRng1, s_mRng2, s_mEnum, s_mChain, s_seqT, s_seqL, s_sNext, s_sSeq, s_sIf, s_sSet, s_sRet, s_sRetN, s_sBreak, s_sCont, s_sDrop, s_sPar, s_setN0, s_setNS, s_sAsg, s_sApp, s_sAug, s_sFor, s_sSrc, s_gmN, s_gmT, s_gmCons, s_gmNil, s_wipe0, s_wipeS, s_oSub, s_oAddI, s_oAdd, s_oLt, s_oLe, s_oGt, s_oGe, s_oNeg, s_oNot, s_oMul, s_oMulW, s_oMod, s_oFdiv, s_oPow, s_oIsN, s_oNotN, s_oIsB, s_oNotB, s_isNon_int, s_isNon_non, s_isNon_bl, s_isNon_str, s_isNon_tup, s_isNon_lst, s_isNon_dic, s_oEqI, s_oNeI, s_oIxT, s_oIxL, s_oSlT, s_oSlL, s_oRevT, s_oRevL, s_oInt, s_oIntB, s_oAbs, s_oMax2, s_oMin2, s_oLen, s_plenT, s_plenL, s_plenD, s_plenS, s_oTupleL, s_oTupleT, s_oListL, s_oListT, List.set_cons_succ, List.set_cons_zero, List.append_nil, true_and, x_bl, x_int, x_some, x_addT, x_addL, x_true, x_false]
    refine ⟨nb, k, f, w, cs, ns, i, g, [], rfl, hnb, hp [], _, rfl, trivial, ?_⟩
    refine ⟨_, rfl, ite_f (by decide) ?_⟩
    exact hN _ ⟨_, _, rfl⟩
  · obtain ⟨y10, y12, rfl⟩ := hE
    exact h_c13 D f w nb hnb f0 gone liars hgo hl _ _ _ _ _ _ _ _ _ _ _ _ _
end K24

set_option maxHeartbeats 4000000
namespace K24
open PySem L2 PM
variable {cs : Crs} {pool : List Int} {dl : List (List Int)} {k : Nat} {i : Int} {ns : List Nt}
theorem h_c10 (D : Dl cs pool dl k i ns) (hkp : k ≤ pool.length) (f w : Int) (nb : PV) (hnb : isNb k f w nb) (f0 : 0 ≤ f) (v0 v5 v8 v9 v10 v11 v12 v13 v14 v15 v16 v19 v20 : Option PV) :
    t_law_c10 ok_heap sp_some sp_l_course sp_l_notes sp_Numbers sp_l_named sp_l_wipes sp_pick sp_drw sp_l_is_complete (spk 3) sp_l_holders sp_dealings_named sp_complete_dealings sp_fillable sp_holders sp_is_complete LM
      [v0, some .src, some (tI pool), some (.tup (cs.map tI)), some (.lst (dl.map tupI)), v5, some (.int w), some nb, v8, v9, v10, v11, v12, v13, v14, v15, v16, some (.int i), some (.tup (ns.map ntP)), v19, v20] := by
  have hk2 := D.k2
  have hp1 := D.S.p1
  unfold t_law_c10
  have rest : ∀ gone : List Int, gone.length ≤ 100 → sp_drw [.src, .int ((if (3 : Int) < (pool.length : Int) then 3 else (pool.length : Int)) + 1)] fun r => sp_some [.src, tI pool, r] fun x => t_law_c12 ok_heap sp_some sp_l_course sp_l_notes sp_Numbers sp_l_named sp_l_wipes sp_pick sp_drw sp_l_is_complete (spk 3) sp_l_holders sp_dealings_named sp_complete_dealings sp_fillable sp_holders sp_is_complete LM
      [v0, some .src, some (tI pool), some (.tup (cs.map tI)), some (.lst (dl.map tupI)), v5, some (.int w), some nb, some (tI gone), some x, v10, v11, v12, v13, v14, v15, v16, some (.int i), some (.tup (ns.map ntP)), v19, v20] := fun gone hg => by
    refine ⟨_, rfl, by split <;> omega, by split <;> omega, fun r r0 r1 => ?_⟩
    obtain ⟨q, rfl⟩ : ∃ q : Nat, r = q := ⟨r.toNat, by omega⟩
    have hq : q ≤ pool.length ∧ q ≤ 3 := by split at r1 <;> omega
    refine ⟨_, _, q, rfl, .inr rfl, by rw [List.length_map]; exact hq.1, by rw [List.length_map]; omega, fun ys hs hl => ?_⟩
    obtain ⟨li, _, rfl⟩ := sub_ints hs
    rw [List.length_map] at hl
    exact h_c12 D f w nb hnb f0 gone li hg (by omega) _ _ _ _ _ _ _ _ _ _ _
  try simp only [s_mVar0, s_mVarS, s_mVarO0, s_mVarOS, s_isObj_lst, s_isObj_dic, s_mC, s_mOp, s_mOp1, s_mB, s_mNil, s_mCons, s_mTup, s_mLst, s_mCall, s_mTB, s_mNot, s_mAnd, s_mOr, s_mAndV, s_mOrV, s_mIf, s_mYes, s_mSl, s_mNo, s_mPart, s_mLc, s_mItems, s_mRng1, s_mRng2, s_mEnum, s_mChain, s_seqT, s_seqL, s_sNext, s_sSeq, s_sIf, s_sSet, s_sRet, s_sRetN, s_sBreak, s_sCont, s_sDrop, s_sPar, s_setN0, s_setNS, s_sAsg, s_sApp, s_sAug, s_sFor, s_sSrc, s_gmN, s_gmT, s_gmCons, s_gmNil, s_wipe0, s_wipeS, s_oSub, s_oAddI, s_oAdd, s_oLt, s_oLe, s_oGt, s_oGe, s_oNeg, s_oNot, s_oMul, s_oMulW, s_oMod, s_oFdiv, s_oPow, s_oIsN, s_oNotN, s_oIsB, s_oNotB, s_isNon_int, s_isNon_non, s_isNon_bl, s_isNon_str, s_isNon_tup, s_isNon_lst, s_isNon_dic, s_oEqI, s_oNeI, s_oIxT, s_oIxL, s_oSlT, s_oSlL, s_oRevT, s_oRevL, s_oInt, s_oIntB, s_oAbs, s_oMax2, s_oMin2, s_oLen, s_plenT, s_plenL, s_plenD, s_plenS, s_oTupleL, s_oTupleT, s_oListL, s_oListT, List.set_cons_succ, List.set_cons_zero, List.append_nil, true_and, x_bl, x_int, x_some, x_addT, x_addL, x_true, x_false]
  refine ⟨2, rfl, by omega, by omega, fun r r0 r1 => ?_⟩
  try simp only [s_mVar0, s_mVarS, s_mVarO0, s_mVarOS, s_isObj_lst, s_isObj_dic, s_mC, s_mOp, s_mOp1, s_mB, s_mNil, s_mCons, s_mTup, s_mLst, s_mCall, s_mTB, s_mNot, s_mAnd, s_mOr, s_mAndV, s_mOrV, s_mIf, s_mYes, s_mSl, s_mNo, s_mPart, s_mLc, s_mItems, s_mRng1, s_mRng2, s_mEnum, s_mChain, s_seqT, s_seqL, s_sNext, s_sSeq, s_sIf, s_sSet, s_sRet, s_sRetN, s_sBreak, s_sCont, s_sDrop, s_sPar, s_setN0, s_setNS, s_sAsg, s_sApp, s_sAug, s_sFor, s_sSrc, s_gmN, s_gmT, s_gmCons, s_gmNil, s_wipe0, s_wipeS, s_oSub, s_oAddI, s_oAdd, s_oLt, s_oLe, s_oGt, s_oGe, s_oNeg, s_oNot, s_oMul, s_oMulW, s_oMod, s_oFdiv, s_oPow, s_oIsN, s_oNotN, s_oIsB, s_oNotB, s_isNon_int, s_isNon_non, s_isNon_bl, s_isNon_str, s_isNon_tup, s_isNon_lst, s_isNon_dic, s_oEqI, s_oNeI, s_oIxT, s_oIxL, s_oSlT, s_oSlL, s_oRevT, s_oRevL, s_oInt, s_oIntB, s_oAbs, s_oMax2, s_oMin2, s_oLen, s_plenT, s_plenL, s_plenD, s_plenS, s_oTupleL, s_oTupleT, s_oListL, s_oListT, List.set_cons_succ, List.set_cons_zero, List.append_nil, true_and, x_bl, x_int, x_some, x_addT, x_addL, x_true, x_false]
  rw [List.length_map]
  by_cases c : r = 0
  · exact ite_t (decide_eq_true c) ⟨Nat.zero_le _, rest [] (by simp)⟩
  · refine ite_f (by simp [c]) ⟨3, rfl, by omega, by omega, fun q q0 q1 => ?_⟩
    obtain ⟨qn, rfl⟩ : ∃ qn : Nat, q = qn := ⟨q.toNat, by omega⟩
    refine ⟨_, _, qn, rfl, .inr rfl, by rw [List.length_map]; omega, by rw [List.length_map]; omega, fun ys hs hl => ?_⟩
    obtain ⟨go, _, rfl⟩ := sub_ints hs
    rw [List.length_map] at hl
    exact rest go (by omega)
theorem h_c7 (D : Dl cs pool dl k i ns) (hkp : k ≤ pool.length) (v0 v5 v6 v7 v8 v9 v10 v11 v12 v13 v14 v16 v19 v20 : Option PV) :
    t_law_c7 ok_heap sp_some sp_l_course sp_l_notes sp_Numbers sp_l_named sp_l_wipes sp_pick sp_drw sp_l_is_complete (spk 3) sp_l_holders sp_dealings_named sp_complete_dealings sp_fillable sp_holders sp_is_complete LM
      [v0, some .src, some (tI pool), some (.tup (cs.map tI)), some (.lst (dl.map tupI)), v5, v6, v7, v8, v9, v10, v11, v12, v13, v14, some (.int (k : Int)), v16, some (.int i), some (.tup (ns.map ntP)), v19, v20] := by
  have hk2 := D.k2
  have hk8 := D.k8
  have hd1 := D.S.d1
  have hd0 := D.S.d0
  unfold t_law_c7
  try simp only [s_mVar0, s_mVarS, s_mVarO0, s_mVarOS, s_isObj_lst, s_isObj_dic, s_mC, s_mOp, s_mOp1, s_mB, s_mNil, s_mCons, s_mTup, s_mLst, s_mCall, s_mTB, s_mNot, s_mAnd, s_mOr, s_mAndV, s_mOrV, s_mIf, s_mYes, s_mSl, s_mNo, s_mPart, s_mLc, s_mItems, s_mRng1, s_mRng2, s_mEnum, s_mChain, s_seqT, s_seqL, s_sNext, s_sSeq, s_sIf, s_sSet, s_sRet, s_sRetN, s_sBreak, s_sCont, s_sDrop, s_sPar, s_setN0, s_setNS, s_sAsg, s_sApp, s_sAug, s_sFor, s_sSrc, s_gmN, s_gmT, s_gmCons, s_gmNil, s_wipe0, s_wipeS, s_oSub, s_oAddI, s_oAdd, s_oLt, s_oLe, s_oGt, s_oGe, s_oNeg, s_oNot, s_oMul, s_oMulW, s_oMod, s_oFdiv, s_oPow, s_oIsN, s_oNotN, s_oIsB, s_oNotB, s_isNon_int, s_isNon_non, s_isNon_bl, s_isNon_str, s_isNon_tup, s_isNon_lst, s_isNon_dic, s_oEqI, s_oNeI, s_oIxT, s_oIxL, s_oSlT, s_oSlL, s_oRevT, s_oRevL, s_oInt, s_oIntB, s_oAbs, s_oMax2, s_oMin2, s_oLen, s_plenT, s_plenL, s_plenD, s_plenS, s_oTupleL, s_oTupleT, s_oListL, s_oListT, List.set_cons_succ, List.set_cons_zero, List.append_nil, true_and, x_bl, x_int, x_some, x_addT, x_addL, x_true, x_false]
  refine comp_map (emb := tupI) (f := fun g => .int ((hld cs ns i g).length : Int)) (fun g hg => ⟨_, fun k hk => s_gmN.mpr hk, fun Q hQ => hQ, fun Q hQ => ?_⟩) (line (by omega)) ?_
  · try simp only [s_mVar0, s_mVarS, s_mVarO0, s_mVarOS, s_isObj_lst, s_isObj_dic, s_mC, s_mOp, s_mOp1, s_mB, s_mNil, s_mCons, s_mTup, s_mLst, s_mCall, s_mTB, s_mNot, s_mAnd, s_mOr, s_mAndV, s_mOrV, s_mIf, s_mYes, s_mSl, s_mNo, s_mPart, s_mLc, s_mItems, s_mRng1, s_mRng2, s_mEnum, s_mChain, s_seqT, s_seqL, s_sNext, s_sSeq, s_sIf, s_sSet, s_sRet, s_sRetN, s_sBreak, s_sCont, s_sDrop, s_sPar, s_setN0, s_setNS, s_sAsg, s_sApp, s_sAug, s_sFor, s_sSrc, s_gmN, s_gmT, s_gmCons, s_gmNil, s_wipe0, s_wipeS, s_oSub, s_oAddI, s_oAdd, s_oLt, s_oLe, s_oGt, s_oGe, s_oNeg, s_oNot, s_oMul, s_oMulW, s_oMod, s_oFdiv, s_oPow, s_oIsN, s_oNotN, s_oIsB, s_oNotB, s_isNon_int, s_isNon_non, s_isNon_bl, s_isNon_str, s_isNon_tup, s_isNon_lst, s_isNon_dic, s_oEqI, s_oNeI, s_oIxT, s_oIxL, s_oSlT, s_oSlL, s_oRevT, s_oRevL, s_oInt, s_oIntB, s_oAbs, s_oMax2, s_oMin2, s_oLen, s_plenT, s_plenL, s_plenD, s_plenS, s_oTupleL, s_oTupleT, s_oListL, s_oListT, List.set_cons_succ, List.set_cons_zero, List.append_nil, true_and, x_bl, x_int, x_some, x_addT, x_addL, x_true, x_false]
    refine ⟨cs, ns, i, g, rfl, D.gv, D.i0, D.i1, by rw [(D.S.prs g hg).1]; decide, ?_⟩
    try simp only [s_mVar0, s_mVarS, s_mVarO0, s_mVarOS, s_isObj_lst, s_isObj_dic, s_mC, s_mOp, s_mOp1, s_mB, s_mNil, s_mCons, s_mTup, s_mLst, s_mCall, s_mTB, s_mNot, s_mAnd, s_mOr, s_mAndV, s_mOrV, s_mIf, s_mYes, s_mSl, s_mNo, s_mPart, s_mLc, s_mItems, s_mRng1, s_mRng2, s_mEnum, s_mChain, s_seqT, s_seqL, s_sNext, s_sSeq, s_sIf, s_sSet, s_sRet, s_sRetN, s_sBreak, s_sCont, s_sDrop, s_sPar, s_setN0, s_setNS, s_sAsg, s_sApp, s_sAug, s_sFor, s_sSrc, s_gmN, s_gmT, s_gmCons, s_gmNil, s_wipe0, s_wipeS, s_oSub, s_oAddI, s_oAdd, s_oLt, s_oLe, s_oGt, s_oGe, s_oNeg, s_oNot, s_oMul, s_oMulW, s_oMod, s_oFdiv, s_oPow, s_oIsN, s_oNotN, s_oIsB, s_oNotB, s_isNon_int, s_isNon_non, s_isNon_bl, s_isNon_str, s_isNon_tup, s_isNon_lst, s_isNon_dic, s_oEqI, s_oNeI, s_oIxT, s_oIxL, s_oSlT, s_oSlL, s_oRevT, s_oRevL, s_oInt, s_oIntB, s_oAbs, s_oMax2, s_oMin2, s_oLen, s_plenT, s_plenL, s_plenD, s_plenS, s_oTupleL, s_oTupleT, s_oListL, s_oListT, List.set_cons_succ, List.set_cons_zero, List.append_nil, true_and, x_bl, x_int, x_some, x_addT, x_addL, x_true, x_false]
    rw [List.length_map]
    exact hQ
  have el : dl.map (fun g => PV.int ((hld cs ns i g).length : Int)) = (dl.map fun g => ((hld cs ns i g).length : Int)).map PV.int := by rw [List.map_map]; rfl
  rw [el]
  refine pick_ints (by rw [List.length_map]; exact hd0) (by rw [List.length_map]; omega) fun sz hsz => ?_
  refine ⟨line (by simp), pick_ints (xs := [-1, 0, 0, 1, 2]) (by decide) (by decide) fun p hp => ?_⟩
  have hp : -1 ≤ p ∧ p ≤ 2 := by
    have : p = -1 ∨ p = 0 ∨ p = 0 ∨ p = 1 ∨ p = 2 := by simpa using hp
    omega
  try simp only [s_mVar0, s_mVarS, s_mVarO0, s_mVarOS, s_isObj_lst, s_isObj_dic, s_mC, s_mOp, s_mOp1, s_mB, s_mNil, s_mCons, s_mTup, s_mLst, s_mCall, s_mTB, s_mNot, s_mAnd, s_mOr, s_mAndV, s_mOrV, s_mIf, s_mYes, s_mSl, s_mNo, s_mPart, s_mLc, s_mItems, s_mRng1, s_mRng2, s_mEnum, s_mChain, s_seqT, s_seqL, s_sNext, s_sSeq, s_sIf, s_sSet, s_sRet, s_sRetN, s_sBreak, s_sCont, s_sDrop, s_sPar, s_setN0, s_setNS, s_sAsg, s_sApp, s_sAug, s_sFor, s_sSrc, s_gmN, s_gmT, s_gmCons, s_gmNil, s_wipe0, s_wipeS, s_oSub, s_oAddI, s_oAdd, s_oLt, s_oLe, s_oGt, s_oGe, s_oNeg, s_oNot, s_oMul, s_oMulW, s_oMod, s_oFdiv, s_oPow, s_oIsN, s_oNotN, s_oIsB, s_oNotB, s_isNon_int, s_isNon_non, s_isNon_bl, s_isNon_str, s_isNon_tup, s_isNon_lst, s_isNon_dic, s_oEqI, s_oNeI, s_oIxT, s_oIxL, s_oSlT, s_oSlL, s_oRevT, s_oRevL, s_oInt, s_oIntB, s_oAbs, s_oMax2, s_oMin2, s_oLen, s_plenT, s_plenL, s_plenD, s_plenS, s_oTupleL, s_oTupleT, s_oListL, s_oListT, List.set_cons_succ, List.set_cons_zero, List.append_nil, true_and, x_bl, x_int, x_some, x_addT, x_addL, x_true, x_false]
  obtain ⟨w, hw⟩ : ∃ w, (if (if sz + p < (k : Int) then sz + p else (k : Int)) > 1 then (if sz + p < (k : Int) then sz + p else (k : Int)) else 1) = w := ⟨_, rfl⟩
  have hw1 : 1 ≤ w ∧ w ≤ k := by split at hw <;> split at hw <;> omega
  rw [hw]
  simp only [s_mMake]
  try simp only [s_mVar0, s_mVarS, s_mVarO0, s_mVarOS, s_isObj_lst, s_isObj_dic, s_mC, s_mOp, s_mOp1, s_mB, s_mNil, s_mCons, s_mTup, s_mLst, s_mCall, s_mTB, s_mNot, s_mAnd, s_mOr, s_mAndV, s_mOrV, s_mIf, s_mYes, s_mSl, s_mNo, s_mPart, s_mLc, s_mItems, s_mRng1, s_mRng2, s_mEnum, s_mChain, s_seqT, s_seqL, s_sNext, s_sSeq, s_sIf, s_sSet, s_sRet, s_sRetN, s_sBreak, s_sCont, s_sDrop, s_sPar, s_setN0, s_setNS, s_sAsg, s_sApp, s_sAug, s_sFor, s_sSrc, s_gmN, s_gmT, s_gmCons, s_gmNil, s_wipe0, s_wipeS, s_oSub, s_oAddI, s_oAdd, s_oLt, s_oLe, s_oGt, s_oGe, s_oNeg, s_oNot, s_oMul, s_oMulW, s_oMod, s_oFdiv, s_oPow, s_oIsN, s_oNotN, s_oIsB, s_oNotB, s_isNon_int, s_isNon_non, s_isNon_bl, s_isNon_str, s_isNon_tup, s_isNon_lst, s_isNon_dic, s_oEqI, s_oNeI, s_oIxT, s_oIxL, s_oSlT, s_oSlL, s_oRevT, s_oRevL, s_oInt, s_oIntB, s_oAbs, s_oMax2, s_oMin2, s_oLen, s_plenT, s_plenL, s_plenD, s_plenS, s_oTupleL, s_oTupleT, s_oListL, s_oListT, List.set_cons_succ, List.set_cons_zero, List.append_nil, true_and, x_bl, x_int, x_some, x_addT, x_addL, x_true, x_false]
  refine ⟨_, rfl, by omega, by omega, fun f f0 f1 => ?_⟩
  refine ⟨(k : Int), f, w, rfl, by omega, by omega, f0, f1, hw1.1, hw1.2, fun nb hnb => ?_⟩
  exact h_c10 D hkp f w nb hnb f0 _ _ _ _ _ _ _ _ _ _ _ _ _
theorem paired_dl {m : List Int} : ∀ {ys : List PV}, Paired (fun (_ : Int) y => ∃ a b : Int, y = tupI [a, b] ∧ 0 ≤ a ∧ a < 1000 ∧ 0 ≤ b ∧ b < 1000) m ys → ∃ dl : List (List Int), ys = dl.map tupI ∧ Prs dl ∧ dl.length = m.length := by
  induction m with
  | nil => intro ys h; cases h; exact ⟨[], rfl, (fun k hk => by simp at hk), rfl⟩
  | cons x m ih =>
    intro ys h
    cases h with
    | cons h1 h2 =>
      obtain ⟨a, b, rfl, a0, a1, b0, b1⟩ := h1
      obtain ⟨dl, rfl, hp, hl⟩ := ih h2
      refine ⟨[a, b] :: dl, rfl, fun k hk => ?_, by rw [List.length_cons, List.length_cons, hl]⟩
      rcases List.mem_cons.mp hk with z | z
      · rw [z]
        refine ⟨rfl, fun x hx => ?_⟩
        have : x = a ∨ x = b := by simpa using hx
        rcases this with rfl | rfl
        · exact ⟨a0, a1⟩
        · exact ⟨b0, b1⟩
      · exact hp k z
theorem h_law (sc : List Int) (hl : sc.length ≤ 63) : t_law ok_heap sp_some sp_l_course sp_l_notes sp_Numbers sp_l_named sp_l_wipes sp_pick sp_drw sp_l_is_complete (spk 3) sp_l_holders sp_dealings_named sp_complete_dealings sp_fillable sp_holders sp_is_complete { nx := fun _ => False, rt := fun p => p = .bl true } (startE n_law.length [.scr sc]) := by
  rw [t_law_eq]
  show t_law_a _ _ _ _ _ _ _ _ _ _ _ _ _ _ _ _ _ _ [some (.scr sc), none, none, none, none, none, none, none, none, none, none, none, none, none, none, none, none, none, none, none, none]
  unfold t_law_a
  try simp only [s_mVar0, s_mVarS, s_mVarO0, s_mVarOS, s_isObj_lst, s_isObj_dic, s_mC, s_mOp, s_mOp1, s_mB, s_mNil, s_mCons, s_mTup, s_mLst, s_mCall, s_mTB, s_mNot, s_mAnd, s_mOr, s_mAndV, s_mOrV, s_mIf, s_mYes, s_mSl, s_mNo, s_mPart, s_mLc, s_mItems, s_mRng1, s_mRng2, s_mEnum, s_mChain, s_seqT, s_seqL, s_sNext, s_sSeq, s_sIf, s_sSet, s_sRet, s_sRetN, s_sBreak, s_sCont, s_sDrop, s_sPar, s_setN0, s_setNS, s_sAsg, s_sApp, s_sAug, s_sFor, s_sSrc, s_gmN, s_gmT, s_gmCons, s_gmNil, s_wipe0, s_wipeS, s_oSub, s_oAddI, s_oAdd, s_oLt, s_oLe, s_oGt, s_oGe, s_oNeg, s_oNot, s_oMul, s_oMulW, s_oMod, s_oFdiv, s_oPow, s_oIsN, s_oNotN, s_oIsB, s_oNotB, s_isNon_int, s_isNon_non, s_isNon_bl, s_isNon_str, s_isNon_tup, s_isNon_lst, s_isNon_dic, s_oEqI, s_oNeI, s_oIxT, s_oIxL, s_oSlT, s_oSlL, s_oRevT, s_oRevL, s_oInt, s_oIntB, s_oAbs, s_oMax2, s_oMin2, s_oLen, s_plenT, s_plenL, s_plenD, s_plenS, s_oTupleL, s_oTupleT, s_oListL, s_oListT, List.set_cons_succ, List.set_cons_zero, List.append_nil, true_and, x_bl, x_int, x_some, x_addT, x_addL, x_true, x_false]
  refine ⟨⟨sc, rfl, hl⟩, line (by simp), pick_dr (xs := [2, 4, 7]) (m := 7) (by decide) (by decide) (by decide) (by decide) fun r r0 r1 => ?_⟩
  try simp only [s_mVar0, s_mVarS, s_mVarO0, s_mVarOS, s_isObj_lst, s_isObj_dic, s_mC, s_mOp, s_mOp1, s_mB, s_mNil, s_mCons, s_mTup, s_mLst, s_mCall, s_mTB, s_mNot, s_mAnd, s_mOr, s_mAndV, s_mOrV, s_mIf, s_mYes, s_mSl, s_mNo, s_mPart, s_mLc, s_mItems, s_mRng1, s_mRng2, s_mEnum, s_mChain, s_seqT, s_seqL, s_sNext, s_sSeq, s_sIf, s_sSet, s_sRet, s_sRetN, s_sBreak, s_sCont, s_sDrop, s_sPar, s_setN0, s_setNS, s_sAsg, s_sApp, s_sAug, s_sFor, s_sSrc, s_gmN, s_gmT, s_gmCons, s_gmNil, s_wipe0, s_wipeS, s_oSub, s_oAddI, s_oAdd, s_oLt, s_oLe, s_oGt, s_oGe, s_oNeg, s_oNot, s_oMul, s_oMulW, s_oMod, s_oFdiv, s_oPow, s_oIsN, s_oNotN, s_oIsB, s_oNotB, s_isNon_int, s_isNon_non, s_isNon_bl, s_isNon_str, s_isNon_tup, s_isNon_lst, s_isNon_dic, s_oEqI, s_oNeI, s_oIxT, s_oIxL, s_oSlT, s_oSlL, s_oRevT, s_oRevL, s_oInt, s_oIntB, s_oAbs, s_oMax2, s_oMin2, s_oLen, s_plenT, s_plenL, s_plenD, s_plenS, s_oTupleL, s_oTupleT, s_oListL, s_oListT, List.set_cons_succ, List.set_cons_zero, List.append_nil, true_and, x_bl, x_int, x_some, x_addT, x_addL, x_true, x_false]
  obtain ⟨k, hk, k2, k8⟩ : ∃ k : Nat, 2 + r = k ∧ 2 ≤ k ∧ k ≤ 8 := ⟨(2 + r).toNat, by omega, by omega, by omega⟩
  rw [hk]
  refine ⟨line (by simp), pick_ints (xs := [2, 2, 3, 4]) (by decide) (by decide) fun mp hmp => ?_⟩
  obtain ⟨maps, rfl, m2, m4⟩ : ∃ m : Nat, mp = m ∧ 2 ≤ m ∧ m ≤ 4 := by
    have : mp = 2 ∨ mp = 3 ∨ mp = 4 := by simpa using hmp
    exact ⟨mp.toNat, by omega, by omega, by omega⟩
  refine ⟨by decide, ?_⟩
  rw [show Int.toNat 24 = 24 from rfl, rngP_rng]
  refine comp_map (f := .int) (fun x hx => ⟨_, fun k hk => s_gmN.mpr hk, fun Q hQ => hQ, fun Q hQ => ?_⟩) (by rw [rng_len]; exact line (by omega)) ?_
  · try simp only [s_mVar0, s_mVarS, s_mVarO0, s_mVarOS, s_isObj_lst, s_isObj_dic, s_mC, s_mOp, s_mOp1, s_mB, s_mNil, s_mCons, s_mTup, s_mLst, s_mCall, s_mTB, s_mNot, s_mAnd, s_mOr, s_mAndV, s_mOrV, s_mIf, s_mYes, s_mSl, s_mNo, s_mPart, s_mLc, s_mItems, s_mRng1, s_mRng2, s_mEnum, s_mChain, s_seqT, s_seqL, s_sNext, s_sSeq, s_sIf, s_sSet, s_sRet, s_sRetN, s_sBreak, s_sCont, s_sDrop, s_sPar, s_setN0, s_setNS, s_sAsg, s_sApp, s_sAug, s_sFor, s_sSrc, s_gmN, s_gmT, s_gmCons, s_gmNil, s_wipe0, s_wipeS, s_oSub, s_oAddI, s_oAdd, s_oLt, s_oLe, s_oGt, s_oGe, s_oNeg, s_oNot, s_oMul, s_oMulW, s_oMod, s_oFdiv, s_oPow, s_oIsN, s_oNotN, s_oIsB, s_oNotB, s_isNon_int, s_isNon_non, s_isNon_bl, s_isNon_str, s_isNon_tup, s_isNon_lst, s_isNon_dic, s_oEqI, s_oNeI, s_oIxT, s_oIxL, s_oSlT, s_oSlL, s_oRevT, s_oRevL, s_oInt, s_oIntB, s_oAbs, s_oMax2, s_oMin2, s_oLen, s_plenT, s_plenL, s_plenD, s_plenS, s_oTupleL, s_oTupleT, s_oListL, s_oListT, List.set_cons_succ, List.set_cons_zero, List.append_nil, true_and, x_bl, x_int, x_some, x_addT, x_addL, x_true, x_false]; exact hQ
  refine ⟨4, rfl, by omega, by omega, fun r2 r20 r21 => ?_⟩
  try simp only [s_mVar0, s_mVarS, s_mVarO0, s_mVarOS, s_isObj_lst, s_isObj_dic, s_mC, s_mOp, s_mOp1, s_mB, s_mNil, s_mCons, s_mTup, s_mLst, s_mCall, s_mTB, s_mNot, s_mAnd, s_mOr, s_mAndV, s_mOrV, s_mIf, s_mYes, s_mSl, s_mNo, s_mPart, s_mLc, s_mItems, s_mRng1, s_mRng2, s_mEnum, s_mChain, s_seqT, s_seqL, s_sNext, s_sSeq, s_sIf, s_sSet, s_sRet, s_sRetN, s_sBreak, s_sCont, s_sDrop, s_sPar, s_setN0, s_setNS, s_sAsg, s_sApp, s_sAug, s_sFor, s_sSrc, s_gmN, s_gmT, s_gmCons, s_gmNil, s_wipe0, s_wipeS, s_oSub, s_oAddI, s_oAdd, s_oLt, s_oLe, s_oGt, s_oGe, s_oNeg, s_oNot, s_oMul, s_oMulW, s_oMod, s_oFdiv, s_oPow, s_oIsN, s_oNotN, s_oIsB, s_oNotB, s_isNon_int, s_isNon_non, s_isNon_bl, s_isNon_str, s_isNon_tup, s_isNon_lst, s_isNon_dic, s_oEqI, s_oNeI, s_oIxT, s_oIxL, s_oSlT, s_oSlL, s_oRevT, s_oRevL, s_oInt, s_oIntB, s_oAbs, s_oMax2, s_oMin2, s_oLen, s_plenT, s_plenL, s_plenD, s_plenS, s_oTupleL, s_oTupleT, s_oListL, s_oListT, List.set_cons_succ, List.set_cons_zero, List.append_nil, true_and, x_bl, x_int, x_some, x_addT, x_addL, x_true, x_false]
  obtain ⟨pn, hpn, pn1, pn2⟩ : ∃ q : Nat, (k : Int) + r2 = q ∧ k ≤ q ∧ q ≤ k + 3 := ⟨((k : Int) + r2).toNat, by omega, by omega, by omega⟩
  rw [hpn]
  refine ⟨_, _, pn, rfl, .inl rfl, by rw [List.length_map, rng_len]; omega, by rw [List.length_map, rng_len]; omega, fun ys hs hl2 => ?_⟩
  obtain ⟨pool, hpool, rfl⟩ := sub_ints hs
  rw [List.length_map] at hl2
  have hpn : pool.Nodup := hpool.nodup rng_nodup
  have hpr : ∀ x ∈ pool, 0 ≤ x ∧ x < 24 := fun x hx => mem_rng.mp (hpool.subset hx)
  refine ⟨pool, k, maps, rfl, hpn, by omega, by omega, by omega, by omega, fun cs hcl hcs => ?_⟩
  try simp only [s_mVar0, s_mVarS, s_mVarO0, s_mVarOS, s_isObj_lst, s_isObj_dic, s_mC, s_mOp, s_mOp1, s_mB, s_mNil, s_mCons, s_mTup, s_mLst, s_mCall, s_mTB, s_mNot, s_mAnd, s_mOr, s_mAndV, s_mOrV, s_mIf, s_mYes, s_mSl, s_mNo, s_mPart, s_mLc, s_mItems, s_mRng1, s_mRng2, s_mEnum, s_mChain, s_seqT, s_seqL, s_sNext, s_sSeq, s_sIf, s_sSet, s_sRet, s_sRetN, s_sBreak, s_sCont, s_sDrop, s_sPar, s_setN0, s_setNS, s_sAsg, s_sApp, s_sAug, s_sFor, s_sSrc, s_gmN, s_gmT, s_gmCons, s_gmNil, s_wipe0, s_wipeS, s_oSub, s_oAddI, s_oAdd, s_oLt, s_oLe, s_oGt, s_oGe, s_oNeg, s_oNot, s_oMul, s_oMulW, s_oMod, s_oFdiv, s_oPow, s_oIsN, s_oNotN, s_oIsB, s_oNotB, s_isNon_int, s_isNon_non, s_isNon_bl, s_isNon_str, s_isNon_tup, s_isNon_lst, s_isNon_dic, s_oEqI, s_oNeI, s_oIxT, s_oIxL, s_oSlT, s_oSlL, s_oRevT, s_oRevL, s_oInt, s_oIntB, s_oAbs, s_oMax2, s_oMin2, s_oLen, s_plenT, s_plenL, s_plenD, s_plenS, s_oTupleL, s_oTupleT, s_oListL, s_oListT, List.set_cons_succ, List.set_cons_zero, List.append_nil, true_and, x_bl, x_int, x_some, x_addT, x_addL, x_true, x_false]
  refine ⟨line (by simp), pick_ints (xs := [1, 2, 4]) (by decide) (by decide) fun tn htn => ?_⟩
  obtain ⟨tm, rfl, t1, t4⟩ : ∃ m : Nat, tn = m ∧ 1 ≤ m ∧ m ≤ 4 := by
    have : tn = 1 ∨ tn = 2 ∨ tn = 4 := by simpa using htn
    exact ⟨tn.toNat, by omega, by omega, by omega⟩
  refine ⟨_, rfl, ⟨by omega, by omega⟩, ?_⟩
  rw [Int.toNat_natCast, rngP_rng]
  refine comp_rel (R := fun (_ : Int) y => ∃ a b : Int, y = tupI [a, b] ∧ 0 ≤ a ∧ a < 1000 ∧ 0 ≤ b ∧ b < 1000) (fun x hx => ⟨_, fun k hk => s_gmN.mpr hk, fun Q hQ => hQ, fun Q hQ => ?_⟩) (by rw [List.length_nil, rng_len]; exact line (by omega)) fun ys hys => ?_
  · try simp only [s_mVar0, s_mVarS, s_mVarO0, s_mVarOS, s_isObj_lst, s_isObj_dic, s_mC, s_mOp, s_mOp1, s_mB, s_mNil, s_mCons, s_mTup, s_mLst, s_mCall, s_mTB, s_mNot, s_mAnd, s_mOr, s_mAndV, s_mOrV, s_mIf, s_mYes, s_mSl, s_mNo, s_mPart, s_mLc, s_mItems, s_mRng1, s_mRng2, s_mEnum, s_mChain, s_seqT, s_seqL, s_sNext, s_sSeq, s_sIf, s_sSet, s_sRet, s_sRetN, s_sBreak, s_sCont, s_sDrop, s_sPar, s_setN0, s_setNS, s_sAsg, s_sApp, s_sAug, s_sFor, s_sSrc, s_gmN, s_gmT, s_gmCons, s_gmNil, s_wipe0, s_wipeS, s_oSub, s_oAddI, s_oAdd, s_oLt, s_oLe, s_oGt, s_oGe, s_oNeg, s_oNot, s_oMul, s_oMulW, s_oMod, s_oFdiv, s_oPow, s_oIsN, s_oNotN, s_oIsB, s_oNotB, s_isNon_int, s_isNon_non, s_isNon_bl, s_isNon_str, s_isNon_tup, s_isNon_lst, s_isNon_dic, s_oEqI, s_oNeI, s_oIxT, s_oIxL, s_oSlT, s_oSlL, s_oRevT, s_oRevL, s_oInt, s_oIntB, s_oAbs, s_oMax2, s_oMin2, s_oLen, s_plenT, s_plenL, s_plenD, s_plenS, s_oTupleL, s_oTupleT, s_oListL, s_oListT, List.set_cons_succ, List.set_cons_zero, List.append_nil, true_and, x_bl, x_int, x_some, x_addT, x_addL, x_true, x_false]
    refine pick_pool (by omega) (by omega) fun a ha => ⟨line (by simp), pick_ints (xs := [0, 1, 2, 5, 777]) (by decide) (by decide) fun b hb => ⟨line (by simp), hQ _ ?_⟩⟩
    have h1 := hpr a ha
    have h2 : b = 0 ∨ b = 1 ∨ b = 2 ∨ b = 5 ∨ b = 777 := by simpa using hb
    exact ⟨a, b, rfl, by omega, by omega, by omega, by omega⟩
  obtain ⟨dl, rfl, hprs, hdl⟩ := paired_dl hys
  rw [rng_len] at hdl
  rw [List.nil_append]
  have S : Sz cs pool dl := ⟨by omega, by omega, fun l hl => by rw [(hcs l hl).len]; omega, by omega, by omega, by omega, by omega, hprs⟩
  refine ⟨cs, pool, dl, rfl, S, fun i ns i0 i1 hng hnl => ?_⟩
  refine s_gmT.mpr ⟨rfl, s_gmCons.mpr (s_gmN.mpr (s_gmCons.mpr (s_gmN.mpr (s_gmNil.mpr ?_))))⟩
  have D : Dl cs pool dl k i ns := ⟨S, hcs, k2, k8, i0, i1, hng, hnl⟩
  exact h_c7 D (by omega) _ _ _ _ _ _ _ _ _ _ _ _ _ _
end K24

set_option maxHeartbeats 1000000
/-! The draw of a heap [cells, stir], by hand. -/
namespace PM
open PySem L2
theorem SA.cells {W : Ws} {H : Hp} {p : Addr × Addr} (hs : ∀ q ∈ W, SA H q) (hp : p ∈ W) {cs : List Nat} (l : cs.length ≤ 63) : ∀ q ∈ W, SA (upd H p.2 (.lst (cs.map fun (c : Nat) => V.int (c : Int)))) q := fun q hq => by
  obtain ⟨np, csp, sp, lp, bp, ap, cp⟩ := hs p hp
  obtain ⟨n, c0, s0, l0, b0, a, b⟩ := hs q hq
  have h1 : q.1 ≠ p.2 := fun z => by
    rw [z, cp] at a
    cases csp with
    | nil => cases a
    | cons x xs => cases a
  by_cases h2 : q.2 = p.2
  · exact ⟨n, cs, s0, l, b0, by rw [upd_ne h1]; exact a, by rw [h2, upd_same]⟩
  · exact ⟨n, c0, s0, l0, b0, by rw [upd_ne h1]; exact a, by rw [upd_ne h2]; exact b⟩
theorem SA.stir {W : Ws} {H : Hp} {p : Addr × Addr} (hs : ∀ q ∈ W, SA H q) (hp : p ∈ W) {s : Nat} (l : s < 2147483647) : ∀ q ∈ W, SA (upd H p.1 (.lst [.ref p.2, .int (s : Int)])) q := fun q hq => by
  obtain ⟨np, csp, sp, lp, bp, ap, cp⟩ := hs p hp
  obtain ⟨n, c0, s0, l0, b0, a, b⟩ := hs q hq
  have h1 : q.2 ≠ p.1 := fun z => by
    rw [z, ap] at b
    cases c0 with
    | nil => cases b
    | cons x xs => cases b
  by_cases h2 : q.1 = p.1
  · have e : q.2 = p.2 := by rw [h2, ap] at a; simp at a; exact a.1.symm
    exact ⟨n, c0, s, l0, l, by rw [h2, upd_same, e], by rw [upd_ne h1]; exact b⟩
  · exact ⟨n, c0, s0, l0, b0, by rw [upd_ne h2]; exact a, by rw [upd_ne h1]; exact b⟩
theorem Grow.cells {W : Ws} {H H' : Hp} (g : Grow W H H') {p : Addr × Addr} (hp : p ∈ W) {cs : List Nat} (l : cs.length ≤ 63) : Grow W H (upd H' p.2 (.lst (cs.map fun (c : Nat) => V.int (c : Int)))) :=
  ⟨fun b o n e => by rw [upd_ne (fun z => n ⟨p, hp, .inr z⟩)]; exact g.keep b o n e, SA.cells g.src hp l⟩
theorem Grow.stir {W : Ws} {H H' : Hp} (g : Grow W H H') {p : Addr × Addr} (hp : p ∈ W) {s : Nat} (l : s < 2147483647) : Grow W H (upd H' p.1 (.lst [.ref p.2, .int (s : Int)])) :=
  ⟨fun b o n e => by rw [upd_ne (fun z => n ⟨p, hp, .inl z⟩)]; exact g.keep b o n e, SA.stir g.src hp l⟩
theorem dp_ints {K : PySem.W.Frag} {H : Hp} : ∀ cs : List Nat, DpAll K H (cs.map fun (c : Nat) => V.int (c : Int)) (cs.map fun (c : Nat) => PyData.int (c : Int))
  | [] => .nil
  | c :: cs => .cons (.int _) (dp_ints cs)
theorem lay_ints : ∀ cs : List Nat, PyData.canLayAll0 (cs.map fun (c : Nat) => PyData.int (c : Int)) = true ∧ PyData.depthAll (cs.map fun (c : Nat) => PyData.int (c : Int)) = 0
  | [] => ⟨rfl, rfl⟩
  | c :: cs => by
    obtain ⟨h1, h2⟩ := lay_ints cs
    constructor
    · show (PyData.canLay0 (.int (c : Int)) && PyData.canLayAll0 _) = true
      rw [h1]; rfl
    · show max (PyData.depth (.int (c : Int))) (PyData.depthAll _) = 0
      rw [h2]; rfl
theorem shaped_ints (cs : List Nat) : SeqAt.shaped (.list (cs.map fun (c : Nat) => PyData.int (c : Int))) = true := by
  unfold SeqAt.shaped
  rw [show PyData.canLay0 (.list (cs.map fun (c : Nat) => PyData.int (c : Int))) = true from (lay_ints cs).1]
  rw [show PyData.depth (.list (cs.map fun (c : Nat) => PyData.int (c : Int))) = PyData.depthAll (cs.map fun (c : Nat) => PyData.int (c : Int)) + 1 from rfl, (lay_ints cs).2]
  rfl
theorem eqv_ints_nil (cs : List Nat) : PyData.eqv (.list (cs.map fun (c : Nat) => PyData.int (c : Int))) (.list []) = cs.isEmpty := by
  cases cs with
  | nil => rfl
  | cons c cs => rfl
def sp_draw : PM.Spec := fun ps P => ∃ many : Int, ps = [.src, .int many] ∧ 0 < many ∧ many < 1073741824 ∧ ∀ r, 0 ≤ r → r < many → P (.int r)
/-- heap[0] != [] -/
theorem draw_ne {K : PySem.W.Frag} {W : Ws} {H H' : Hp} {p : Addr × Addr} {m : Int} {y : Option V} (g : Grow W H H') (hp : p ∈ W) {Q : VK}
    (h : ∀ (cs : List Nat) (s : Nat) H2, H' p.2 = some (.lst (cs.map fun (c : Nat) => V.int (c : Int))) → Grow W H H2 → cs.length ≤ 63 → s < 2147483647 → H2 p.1 = some (.lst [.ref p.2, .int (s : Int)]) → H2 p.2 = some (.lst (cs.map fun (c : Nat) => V.int (c : Int))) → Q (.bl (!cs.isEmpty)) H2) :
    tOp (rNeD K) (tOp (rIx K) (tVar 0) (tC (.int 0))) (tLst tNil) [some (.ref p.1), some (.int m), y] H' Q := by
  obtain ⟨n, cs, s, l, b, e1, e2⟩ := g.src p hp
  refine ⟨.ref p.1, rfl, .inl ⟨p.1, _, 0, .ref p.2, rfl, rfl, .inl (.inl e1), rfl, Nat.zero_le _, fun c nc => ?_⟩⟩
  have g2 := g.trans (Grow.new (o := .lst []) g.src nc)
  have f1 : upd H' c (.lst []) p.1 = some (.lst [.ref p.2, .int (s : Int)]) := by rw [upd_ne (ne_of_none e1 nc)]; exact e1
  have f2 : upd H' c (.lst []) p.2 = some (.lst (cs.map fun (c : Nat) => V.int (c : Int))) := by rw [upd_ne (ne_of_none e2 nc)]; exact e2
  refine ⟨.list (cs.map fun (c : Nat) => PyData.int (c : Int)), .list [], .lst (.inl (.inl f2)) (dp_ints cs), .lst (.inl (.inl upd_same)) .nil, shaped_ints cs, rfl, ?_⟩
  rw [eqv_ints_nil]
  exact h cs s _ e2 g2 l b f1 f2
theorem map_int_inj : ∀ {xs ys : List Nat}, (xs.map fun (c : Nat) => V.int (c : Int)) = (ys.map fun (c : Nat) => V.int (c : Int)) → xs = ys
  | [], [], _ => rfl
  | [], _ :: _, h => by cases h
  | _ :: _, [], h => by cases h
  | x :: xs, y :: ys, h => by
    rw [List.map_cons, List.map_cons] at h
    injection h with h1 h2
    have e : x = y := by
      have e : (x : Int) = (y : Int) := V.int.inj h1
      omega
    rw [e, map_int_inj h2]
theorem rev_end {cs : List Nat} (h : cs ≠ []) : ∃ r c, cs = r ++ [c] := ⟨cs.dropLast, cs.getLast h, (List.dropLast_concat_getLast h).symm⟩
theorem at_end (r : List Nat) (c : Nat) : atI ((r ++ [c]).map fun (c : Nat) => V.int (c : Int)) (-1) = some (.int (c : Int)) := by
  unfold atI ixN
  rw [List.length_map, List.length_append, List.length_singleton, if_neg (by decide), if_pos (by omega)]
  show ((r ++ [c]).map fun (c : Nat) => V.int (c : Int))[((-1 : Int) + ((r.length + 1 : Nat) : Int)).toNat]? = _
  rw [show ((-1 : Int) + ((r.length + 1 : Nat) : Int)).toNat = r.length by omega, List.map_append, List.getElem?_append_right (by rw [List.length_map]; exact Nat.le_refl _), List.length_map, Nat.sub_self]
  rfl
theorem draw_loop {K : PySem.W.Frag} {W : Ws} {H : Hp} {p : Addr × Addr} {m : Int} {D : Ends} (hs : ∀ q ∈ W, SA H q) (hp : p ∈ W) (hnx : ∀ H2, Grow W H H2 → D.nx [some (.ref p.1), some (.int m), none] H2) :
    tWhile (tAnd (tTest (tOp (rNeD K) (tOp (rIx K) (tVar 0) (tC (.int 0))) (tLst tNil))) (tTest (tOp (rEqD K) (tOp (rIx K) (tOp (rIx K) (tVar 0) (tC (.int 0))) (tUn (rU fun i => V.int (-i)) (tC (V.int 1)))) (tC (V.int 0)))))
      (tDrop (tBM0 K "list" rPop (tOp (rIx K) (tVar 0) (tC (.int 0))))) D [some (.ref p.1), some (.int m), none] H := by
  refine ⟨fun i σ H1 => σ = [some (.ref p.1), some (.int m), none] ∧ Grow W H H1 ∧ ∃ cs : List Nat, cs.length = i ∧ H1 p.2 = some (.lst (cs.map fun (c : Nat) => V.int (c : Int))), ?_, fun i σ H1 hW => ?_⟩
  · obtain ⟨n, cs, s, l, b, e1, e2⟩ := hs p hp
    exact ⟨cs.length, rfl, Grow.refl hs, cs, rfl, e2⟩
  · obtain ⟨rfl, g1, cs0, hl0, e0⟩ := hW
    refine draw_ne g1 hp fun cs s H2 e3 g2 l b e1 e2 => ⟨_, rfl, ?_⟩
    have ec : cs = cs0 := map_int_inj (by rw [e0] at e3; simpa using e3.symm)
    subst ec
    by_cases hc : cs = []
    · subst hc
      exact hnx H2 g2
    · obtain ⟨r, c, rfl⟩ := rev_end hc
      have hb : (!(r ++ [c]).isEmpty) = true := by simp
      rw [hb]
      refine iteT ⟨.ref p.1, rfl, .inl ⟨p.1, _, 0, .ref p.2, rfl, rfl, .inl (.inl e1), rfl, 1, rfl, .inl ⟨p.2, _, -1, .int (c : Int), rfl, rfl, .inl (.inl e2), at_end r c, ?_⟩⟩⟩
      refine ⟨.int (c : Int), .int 0, .int _, .int _, rfl, rfl, _, rfl, ?_⟩
      cases PyData.eqv (.int (c : Int)) (.int 0) with
      | true =>
        refine iteT ⟨fun σ' H' => σ' = [some (.ref p.1), some (.int m), none] ∧ Grow W H H' ∧ H' p.2 = some (.lst (r.map fun (c : Nat) => V.int (c : Int))), fun σ' H' ⟨h1, h2, h3⟩ => ⟨r.length, by rw [← hl0, List.length_append]; exact Nat.lt_succ_self _, h1, h2, r, rfl, h3⟩, ?_⟩
        refine ⟨.ref p.1, rfl, .inl ⟨p.1, _, 0, .ref p.2, rfl, rfl, .inl (.inl e1), rfl, .inl ⟨rfl, _, .inl (.inl e2)⟩, p.2, _, .int (c : Int), rfl, rfl, e2, ?_, rfl, ?_⟩⟩
        · rw [List.length_map, List.length_append, List.length_singleton, Nat.add_sub_cancel, List.map_append, List.getElem?_append_right (by rw [List.length_map]; exact Nat.le_refl _), List.length_map, Nat.sub_self]
          rfl
        · have e5 : ((r ++ [c]).map fun (c : Nat) => V.int (c : Int)).dropLast = r.map fun (c : Nat) => V.int (c : Int) := by
            rw [List.map_append]; exact List.dropLast_concat
          rw [e5]
          refine ⟨g2.cells hp ?_, upd_same⟩
          rw [List.length_append] at l
          exact Nat.le_trans (Nat.le_add_right _ _) l
      | false => exact iteF (hnx H2 g2)
end PM
namespace K24
open PySem PySem.Spec PyProof.Rows L2 PM
section
variable {P : Program} {w : World} {K : PySem.W.Frag} {mg : Str → Option Value} {base : Heap}
theorem ok_l_draw (T : Tx K mg) : FnOk P w K mg base CX0 1 T.a_l_draw T.d_l_draw p_l_draw (spM K .cl sp_draw) := by
  have zi : mg "int" = none := T.z_int
  refine T.f_l_draw.ok S_l_draw (fun vs H Q E h => ?_) (fun cdv A outer s H vs Q E hr h => ?_)
  · obtain ⟨zb, W, ps, P', _, _, r, ⟨m, e, _⟩, _⟩ := h
    rw [← r.len, e]; rfl
  · obtain ⟨zb, W, ps, P', hz, hs, r, ⟨m, e, m0, m1, hp⟩, k⟩ := h
    subst e
    obtain ⟨p, hpw, rfl⟩ : ∃ p ∈ W, vs = [.ref p.1, .int m] := by
      unfold Rps at r
      obtain ⟨v, r', rfl, h1, h2⟩ := r
      unfold Rps at h2
      obtain ⟨v2, r2, rfl, h3, h4⟩ := h2
      unfold Rps at h4
      unfold Rp at h1 h3
      obtain ⟨p, hp, rfl⟩ := h1
      exact ⟨p, hp, by rw [h3, h4]⟩
    have fin : ∀ r H', Grow W H H' → 0 ≤ r → r < m → Q (.int r) H' := fun r H' g h1 h2 => k (.int r) (.int r) H' g (VK1.ofRp Rp.int') (hp r h1 h2)
    refine ⟨_, PSs.nox (pss_cons (ps_while .never (pw_and (pt_cmpR (op_neD hr.units) (pe_ix ix_seq (pv 0) pe_int (fun _ _ => rfl)) (pe_lst pa_nil) (nomark _)) (pw_and1 (pt_cmpR (op_eqD hr.units) (pe_ix ix_seq (pe_ix ix_seq (pv 0) pe_int (fun _ _ => rfl)) (pe_un un_neg pe_int) (fun _ _ => rfl)) pe_int (nomark _)))).pt
        (pss_one (ps_expr (pe_bm0 PySem.F.plainAttrs_list PySem.F.slot_list_pop PySem.F.type_list_pop mt_pop (pe_ix ix_seq (pv 0) pe_int (fun _ _ => rfl))))))
      (pss_cons (ps_if (pt_cmpR (op_neD hr.units) (pe_ix ix_seq (pv 0) pe_int (fun _ _ => rfl)) (pe_lst pa_nil) (nomark _))
        (pss_cons (ps_set (i := 2) S_l_draw.nd rfl (.inl rfl) (pe_bm0 PySem.F.plainAttrs_list PySem.F.slot_list_pop PySem.F.type_list_pop mt_pop (pe_ix ix_seq (pv 0) pe_int (fun _ _ => rfl))))
        (pss_cons (ps_expr (pe_bm PySem.F.plainAttrs_list PySem.F.slot_list_append PySem.F.type_list_append mt_append (pe_ix ix_seq (pv 0) pe_int (fun _ _ => rfl)) (pa_cons (pe_op op_fdiv (pv 2) (pv 1)) pa_nil)))
        (pss_one (ps_ret (pe_op op_mod (pe_callTy call_int1 (by rfl) zi PyProof.Rows.boot_int (pa_cons (pv 2) pa_nil)) (pv 1))))))
        pss_nil)
      (pss_cons (ps_asg (pe_op op_mod (pe_callTy call_int1 (by rfl) zi PyProof.Rows.boot_int (pa_cons (pe_op op_add (pe_op op_mul (pe_ix ix_seq (pv 0) pe_int (fun _ _ => rfl)) pe_int) pe_int) pa_nil)) pe_int) (pg_sub (pv 0) pe_int set_list (by intro _; rfl)))
      (pss_one (ps_ret (pe_op op_mod (pe_callTy call_int1 (by rfl) zi PyProof.Rows.boot_int (pa_cons (pe_op op_fdiv (pe_ix ix_seq (pv 0) pe_int (fun _ _ => rfl)) pe_int) pa_nil)) (pv 1))))))), ?_⟩
    refine draw_loop hs hpw fun H2 g2 => ?_
    refine draw_ne g2 hpw fun cs s H3 _ g3 l b e1 e2 => ⟨_, rfl, ?_⟩
    by_cases hc : cs = []
    · subst hc
      refine iteF ⟨.ref p.1, rfl, .inl ⟨p.1, _, 1, .int (s : Int), rfl, rfl, .inl (.inl e1), rfl, s, 48271, rfl, rfl, .inl ⟨by omega, by omega⟩, _, 83, rfl, rfl, .inl ⟨_, rfl, _, 2147483647, rfl, rfl, (by decide : (0 : Int) < 2147483647), .ref p.1, rfl, ?_⟩⟩⟩
      obtain ⟨s', hs', e'⟩ : ∃ s' : Nat, s' < 2147483647 ∧ ((s : Int) * 48271 + 83) % 2147483647 = (s' : Int) := ⟨(((s : Int) * 48271 + 83) % 2147483647).toNat, by omega, by omega⟩
      have g4 := g3.stir hpw hs'
      rw [← e'] at g4
      refine ⟨p.1, _, 1, 1, rfl, rfl, e1, rfl, ?_⟩
      refine ⟨.ref p.1, rfl, .inl ⟨p.1, _, 1, _, rfl, rfl, .inl (.inl upd_same), rfl, _, 32, rfl, rfl, ⟨by decide, by decide⟩, .inl ⟨_, rfl, .int m, rfl, _, m, rfl, rfl, m0, ?_⟩⟩⟩
      exact fin _ _ g4 (Int.emod_nonneg _ (by omega)) (Int.emod_lt_of_pos _ m0)
    · obtain ⟨r, c, rfl⟩ := rev_end hc
      have hb : (!(r ++ [c]).isEmpty) = true := by simp
      rw [hb]
      refine iteT ⟨.ref p.1, rfl, .inl ⟨p.1, _, 0, .ref p.2, rfl, rfl, .inl (.inl e1), rfl, .inl ⟨rfl, _, .inl (.inl e2)⟩, p.2, _, .int (c : Int), rfl, rfl, e2, ?_, ?_⟩⟩
      · rw [List.length_map, List.length_append, List.length_singleton, Nat.add_sub_cancel, List.map_append, List.getElem?_append_right (by rw [List.length_map]; exact Nat.le_refl _), List.length_map, Nat.sub_self]
        rfl
      have e5 : ((r ++ [c]).map fun (c : Nat) => V.int (c : Int)).dropLast = r.map fun (c : Nat) => V.int (c : Int) := by
        rw [List.map_append]; exact List.dropLast_concat
      rw [e5]
      have lr : r.length + 1 ≤ 63 := by rw [List.length_append, List.length_singleton] at l; exact l
      have g4 := g3.cells hpw (cs := r) (by omega)
      obtain ⟨q, hq⟩ : ∃ q : Nat, (c : Int) / m = (q : Int) := ⟨((c : Int) / m).toNat, by have := Int.ediv_nonneg (a := (c : Int)) (b := m) (by omega) (by omega); omega⟩
      have n12 : p.1 ≠ p.2 := (hs p hpw).1
      have f1 : upd H3 p.2 (.lst (r.map fun (c : Nat) => V.int (c : Int))) p.1 = some (.lst [.ref p.2, .int (s : Int)]) := by rw [upd_ne n12]; exact e1
      refine ⟨.ref p.1, rfl, .inl ⟨p.1, _, 0, .ref p.2, rfl, rfl, .inl (.inl f1), rfl, .inl ⟨rfl, _, .inl (.inl upd_same)⟩, .int (c : Int), rfl, .int m, rfl, c, m, rfl, rfl, ⟨m0, m1⟩, p.2, _, _, rfl, rfl, upd_same, ?_, ?_⟩⟩
      · rw [List.length_map]
        exact Nat.lt_of_lt_of_le (by omega : r.length < 64) (by decide)
      have e6 : (r.map fun (c : Nat) => V.int (c : Int)) ++ [V.int (q : Int)] = (r ++ [q]).map fun (c : Nat) => V.int (c : Int) := by rw [List.map_append]; rfl
      have g5 := g4.cells hpw (cs := r ++ [q]) (by rw [List.length_append, List.length_singleton]; exact lr)
      rw [← e6, ← hq] at g5
      refine ⟨.int (c : Int), rfl, .inl ⟨_, rfl, .int m, rfl, c, m, rfl, rfl, m0, ?_⟩⟩
      exact fin _ _ g5 (Int.emod_nonneg _ (by omega)) (Int.emod_lt_of_pos _ m0)
end
end K24

set_option maxHeartbeats 1000000
namespace K24
open PySem PySem.Spec PyProof.Rows L2 PM
section
variable {P : Program} {w : World} {K : PySem.W.Frag} {mg : Str → Option Value} {base : Heap}
theorem ok_holders (T : Tx K mg) : FnOk P w K mg base CX0 1 T.a_holders T.d_holders p_holders (spM K .cl sp_holders) := fn_m T.f_holders S_holders (by intro ps Q h; repeat (first | (have e := h.1; subst e; rfl) | (obtain ⟨_, h⟩ := h))) (fun cdv A outer s H E hr => w_holders T   cdv A outer s H E hr) h_holders
theorem ok_is_complete (T : Tx K mg) : FnOk P w K mg base CX0 2 T.a_is_complete T.d_is_complete p_is_complete (spM K .cl sp_is_complete) := fn_m T.f_is_complete S_is_complete (by intro ps Q h; repeat (first | (have e := h.1; subst e; rfl) | (obtain ⟨_, h⟩ := h))) (fun cdv A outer s H E hr => w_is_complete T sp_holders (ok_holders T) cdv A outer s H E hr) h_is_complete
theorem ok_dealings_named (T : Tx K mg) : FnOk P w K mg base CX0 1 T.a_dealings_named T.d_dealings_named p_dealings_named (spM K .cl sp_dealings_named) := fn_m T.f_dealings_named S_dealings_named (by intro ps Q h; repeat (first | (have e := h.1; subst e; rfl) | (obtain ⟨_, h⟩ := h))) (fun cdv A outer s H E hr => w_dealings_named T   cdv A outer s H E hr) h_dealings_named
theorem ok_complete_dealings (T : Tx K mg) : FnOk P w K mg base CX0 3 T.a_complete_dealings T.d_complete_dealings p_complete_dealings (spM K .cl sp_complete_dealings) := fn_m T.f_complete_dealings S_complete_dealings (by intro ps Q h; repeat (first | (have e := h.1; subst e; rfl) | (obtain ⟨_, h⟩ := h))) (fun cdv A outer s H E hr => w_complete_dealings T sp_dealings_named sp_is_complete (ok_dealings_named T) (ok_is_complete T) cdv A outer s H E hr) h_complete_dealings
theorem ok_fillable (T : Tx K mg) : FnOk P w K mg base CX0 4 T.a_fillable T.d_fillable p_fillable (spM K .cl sp_fillable) := fn_m T.f_fillable S_fillable (by intro ps Q h; repeat (first | (have e := h.1; subst e; rfl) | (obtain ⟨_, h⟩ := h))) (fun cdv A outer s H E hr => w_fillable T sp_complete_dealings sp_dealings_named (ok_complete_dealings T) (ok_dealings_named T) cdv A outer s H E hr) h_fillable
theorem ok_is_integer (T : Tx K mg) : FnOk P w K mg base CX0 1 T.a_is_integer T.d_is_integer p_is_integer (spM K .cl sp_is_integer) := fn_m T.f_is_integer S_is_integer (by intro ps Q h; repeat (first | (have e := h.1; subst e; rfl) | (obtain ⟨_, h⟩ := h))) (fun cdv A outer s H E hr => w_is_integer T   cdv A outer s H E hr) h_is_integer
theorem ok_is_number (T : Tx K mg) : FnOk P w K mg base CX0 2 T.a_is_number T.d_is_number p_is_number (spM K .cl sp_is_number) := fn_m T.f_is_number S_is_number (by intro ps Q h; repeat (first | (have e := h.1; subst e; rfl) | (obtain ⟨_, h⟩ := h))) (fun cdv A outer s H E hr => w_is_number T sp_is_integer (ok_is_integer T) cdv A outer s H E hr) h_is_number
theorem ok_Numbers (T : Tx K mg) : FnOk P w K mg base CX0 3 T.a_Numbers T.d_Numbers p_Numbers (spMkM K T.c_Numbers sp_Numbers) := fn_init T.f_Numbers S_Numbers T.cl_Numbers (by intro ps Q h; repeat (first | (have e := h.1; subst e; rfl) | (obtain ⟨_, h⟩ := h))) (by decide) (fun cdv A outer s H E hr => w_Numbers T sp_is_number (ok_is_number T) cdv A outer s H E hr) (h_Numbers T.c_Numbers)
theorem ok_wiped_by (T : Tx K mg) : FnOk P w K mg base CX0 1 T.a_wiped_by T.d_wiped_by p_wiped_by (spM K .cl sp_wiped_by) := fn_m T.f_wiped_by S_wiped_by (by intro ps Q h; repeat (first | (have e := h.1; subst e; rfl) | (obtain ⟨_, h⟩ := h))) (fun cdv A outer s H E hr => w_wiped_by T   cdv A outer s H E hr) h_wiped_by
theorem ok_most_keepers (T : Tx K mg) : FnOk P w K mg base CX0 2 T.a_most_keepers T.d_most_keepers p_most_keepers (spM K .cl sp_most_keepers) := fn_m T.f_most_keepers S_most_keepers (by intro ps Q h; repeat (first | (have e := h.1; subst e; rfl) | (obtain ⟨_, h⟩ := h))) (fun cdv A outer s H E hr => w_most_keepers T sp_wiped_by (ok_wiped_by T) cdv A outer s H E hr) h_most_keepers
theorem ok_is_laid_down (T : Tx K mg) : FnOk P w K mg base CX0 2 T.a_is_laid_down T.d_is_laid_down p_is_laid_down (spM K .cl sp_is_laid_down) := fn_m T.f_is_laid_down S_is_laid_down (by intro ps Q h; repeat (first | (have e := h.1; subst e; rfl) | (obtain ⟨_, h⟩ := h))) (fun cdv A outer s H E hr => w_is_laid_down T sp_wiped_by (ok_wiped_by T) cdv A outer s H E hr) h_is_laid_down
theorem ok_l_heap (T : Tx K mg) : FnOk P w K mg base CX0 1 T.a_l_heap T.d_l_heap p_l_heap (spSrc K ok_heap) := src_m T.f_l_heap S_l_heap rfl (fun cdv A outer s H E hr => w_l_heap T   cdv A outer s H E hr) h_l_heap
theorem ok_l_pick (T : Tx K mg) : FnOk P w K mg base CX0 2 T.a_l_pick T.d_l_pick p_l_pick (spM K .cl sp_pick) := fn_m T.f_l_pick S_l_pick (by intro ps Q h; repeat (first | (have e := h.1; subst e; rfl) | (obtain ⟨_, h⟩ := h))) (fun cdv A outer s H E hr => w_l_pick T sp_drw (ok_l_draw T) cdv A outer s H E hr) h_l_pick
theorem okn_l_like (T : Tx K mg) : ∀ n, FnOk P w K mg base CX0 n T.a_l_like T.d_l_like p_l_like (spM K .cl (spk n))
  | 0 => fn_none fun _ _ h => h
  | n + 1 => fn_m T.f_l_like S_l_like (by intro ps Q h; repeat (first | (have e := h.1; subst e; rfl) | (obtain ⟨_, h⟩ := h))) (fun cdv A outer s H E hr => w_l_like T (spk n) (okn_l_like T n) (Nat.zero_le _) cdv A outer s H E hr) (h_l_like n)
theorem ok_l_like (T : Tx K mg) : FnOk P w K mg base CX0 3 T.a_l_like T.d_l_like p_l_like (spM K .cl (spk 3)) := okn_l_like T 3
theorem ok_l_some (T : Tx K mg) : FnOk P w K mg base CX0 2 T.a_l_some T.d_l_some p_l_some (spM K .cl sp_some) := fn_m T.f_l_some S_l_some (by intro ps Q h; repeat (first | (have e := h.1; subst e; rfl) | (obtain ⟨_, h⟩ := h))) (fun cdv A outer s H E hr => w_l_some T sp_drw (ok_l_draw T) cdv A outer s H E hr) h_l_some
theorem ok_l_course (T : Tx K mg) : FnOk P w K mg base CX0 3 T.a_l_course T.d_l_course p_l_course (spM K .cl sp_l_course) := fn_m T.f_l_course S_l_course (by intro ps Q h; repeat (first | (have e := h.1; subst e; rfl) | (obtain ⟨_, h⟩ := h))) (fun cdv A outer s H E hr => w_l_course T sp_some sp_drw (ok_l_some T) (ok_l_draw T) cdv A outer s H E hr) h_l_course
theorem ok_l_notes (T : Tx K mg) : FnOk P w K mg base CX0 3 T.a_l_notes T.d_l_notes p_l_notes (spM K .cl sp_l_notes) := fn_m T.f_l_notes S_l_notes (by intro ps Q h; repeat (first | (have e := h.1; subst e; rfl) | (obtain ⟨_, h⟩ := h))) (fun cdv A outer s H E hr => w_l_notes T sp_drw sp_pick sp_some (ok_l_draw T) (ok_l_pick T) (ok_l_some T) cdv A outer s H E hr) h_l_notes
theorem ok_l_holders (T : Tx K mg) : FnOk P w K mg base CX0 1 T.a_l_holders T.d_l_holders p_l_holders (spM K .cl sp_l_holders) := fn_m T.f_l_holders S_l_holders (by intro ps Q h; repeat (first | (have e := h.1; subst e; rfl) | (obtain ⟨_, h⟩ := h))) (fun cdv A outer s H E hr => w_l_holders T   cdv A outer s H E hr) h_l_holders
theorem ok_l_is_complete (T : Tx K mg) : FnOk P w K mg base CX0 2 T.a_l_is_complete T.d_l_is_complete p_l_is_complete (spM K .cl sp_l_is_complete) := fn_m T.f_l_is_complete S_l_is_complete (by intro ps Q h; repeat (first | (have e := h.1; subst e; rfl) | (obtain ⟨_, h⟩ := h))) (fun cdv A outer s H E hr => w_l_is_complete T sp_l_holders (ok_l_holders T) cdv A outer s H E hr) h_l_is_complete
theorem ok_l_named (T : Tx K mg) : FnOk P w K mg base CX0 1 T.a_l_named T.d_l_named p_l_named (spM K .cl sp_l_named) := fn_m T.f_l_named S_l_named (by intro ps Q h; repeat (first | (have e := h.1; subst e; rfl) | (obtain ⟨_, h⟩ := h))) (fun cdv A outer s H E hr => w_l_named T   cdv A outer s H E hr) h_l_named
theorem ok_l_wipes (T : Tx K mg) : FnOk P w K mg base CX0 4 T.a_l_wipes T.d_l_wipes p_l_wipes (spM K .cl sp_l_wipes) := fn_m T.f_l_wipes S_l_wipes (by intro ps Q h; repeat (first | (have e := h.1; subst e; rfl) | (obtain ⟨_, h⟩ := h))) (fun cdv A outer s H E hr => w_l_wipes T (spk 3) sp_is_laid_down sp_wiped_by sp_most_keepers (ok_l_like T) (ok_is_laid_down T) (ok_wiped_by T) (ok_most_keepers T) cdv A outer s H E hr) h_l_wipes
theorem ok_law (T : Tx K mg) : FnOk P w K mg base CX0 5 T.a_law T.d_law p_law (spLawM K) := law_m T.f_law S_law rfl (fun cdv A outer s H E hr => w_law T ok_heap sp_some sp_l_course sp_l_notes sp_Numbers sp_l_named sp_l_wipes sp_pick sp_drw sp_l_is_complete (spk 3) sp_l_holders sp_dealings_named sp_complete_dealings sp_fillable sp_holders sp_is_complete (ok_l_heap T) (ok_l_some T) (ok_l_course T) (ok_l_notes T) (ok_Numbers T) (ok_l_named T) (ok_l_wipes T) (ok_l_pick T) (ok_l_draw T) (ok_l_is_complete T) (ok_l_like T) (ok_l_holders T) (ok_dealings_named T) (ok_complete_dealings T) (ok_fillable T) (ok_holders T) (ok_is_complete T) cdv A outer s H E hr) h_law
end
theorem all_mk {l : PySem.W.OpenLaw} {w : World} {K : PySem.W.Frag} {h : Heap} {mg : Str → Option Value} {fa f1 f2 f3 f4 f5 f6 f7 f8 f9 f10 f11 f12 f13 f14 f15 f16 f17 f18 f19 f20 f21 f22 f23 : Addr} (X : K.In h) (G : h.Ns mainGlobals mg) (hfa : mg "law" = some (.ref fa))
    {od1 an1 : Option Addr} {sl1 : Array (Option Value)} {oc1 kV1 dc1 pm1 cd1 ct1 : Value}
    {od2 an2 : Option Addr} {sl2 : Array (Option Value)} {oc2 kV2 dc2 pm2 cd2 ct2 : Value}
    {od3 an3 : Option Addr} {sl3 : Array (Option Value)} {oc3 kV3 dc3 pm3 cd3 ct3 : Value}
    {od4 an4 : Option Addr} {sl4 : Array (Option Value)} {oc4 kV4 dc4 pm4 cd4 ct4 : Value}
    {od5 an5 : Option Addr} {sl5 : Array (Option Value)} {oc5 kV5 dc5 pm5 cd5 ct5 : Value}
    {od6 an6 : Option Addr} {sl6 : Array (Option Value)} {oc6 kV6 dc6 pm6 cd6 ct6 : Value}
    {od7 an7 : Option Addr} {sl7 : Array (Option Value)} {oc7 kV7 dc7 pm7 cd7 ct7 : Value}
    {od8 an8 : Option Addr} {sl8 : Array (Option Value)} {oc8 kV8 dc8 pm8 cd8 ct8 : Value}
    {od9 an9 : Option Addr} {sl9 : Array (Option Value)} {oc9 kV9 dc9 pm9 cd9 ct9 : Value}
    {od10 an10 : Option Addr} {sl10 : Array (Option Value)} {oc10 kV10 dc10 pm10 cd10 ct10 : Value}
    {od11 an11 : Option Addr} {sl11 : Array (Option Value)} {oc11 kV11 dc11 pm11 cd11 ct11 : Value}
    {od12 an12 : Option Addr} {sl12 : Array (Option Value)} {oc12 kV12 dc12 pm12 cd12 ct12 : Value}
    {od13 an13 : Option Addr} {sl13 : Array (Option Value)} {oc13 kV13 dc13 pm13 cd13 ct13 : Value}
    {od14 an14 : Option Addr} {sl14 : Array (Option Value)} {oc14 kV14 dc14 pm14 cd14 ct14 : Value}
    {od15 an15 : Option Addr} {sl15 : Array (Option Value)} {oc15 kV15 dc15 pm15 cd15 ct15 : Value}
    {od16 an16 : Option Addr} {sl16 : Array (Option Value)} {oc16 kV16 dc16 pm16 cd16 ct16 : Value}
    {od17 an17 : Option Addr} {sl17 : Array (Option Value)} {oc17 kV17 dc17 pm17 cd17 ct17 : Value}
    {od18 an18 : Option Addr} {sl18 : Array (Option Value)} {oc18 kV18 dc18 pm18 cd18 ct18 : Value}
    {od19 an19 : Option Addr} {sl19 : Array (Option Value)} {oc19 kV19 dc19 pm19 cd19 ct19 : Value}
    {od20 an20 : Option Addr} {sl20 : Array (Option Value)} {oc20 kV20 dc20 pm20 cd20 ct20 : Value}
    {od21 an21 : Option Addr} {sl21 : Array (Option Value)} {oc21 kV21 dc21 pm21 cd21 ct21 : Value}
    {od22 an22 : Option Addr} {sl22 : Array (Option Value)} {oc22 kV22 dc22 pm22 cd22 ct22 : Value}
    {od23 an23 : Option Addr} {sl23 : Array (Option Value)} {oc23 kV23 dc23 pm23 cd23 ct23 : Value}
    {T2 E2 : Addr} {tc2 : Value} {td2 qd2 : Option Addr} {tn2 qn2 : Nat} {ts2 qs2 : Array (Option Value)}
    {T4 E4 : Addr} {tc4 : Value} {td4 qd4 : Option Addr} {tn4 qn4 : Nat} {ts4 qs4 : Array (Option Value)}
    {T5 E5 : Addr} {tc5 : Value} {td5 qd5 : Option Addr} {tn5 qn5 : Nat} {ts5 qs5 : Array (Option Value)}
    {T7 : Addr} {tc7 : Value} {td7 : Option Addr} {tn7 : Nat} {ts7 : Array (Option Value)}
    {C8 : Addr}
    {gt0 : Tok}
    {gt1 : Tok}
    {gt2 : Tok}
    (a1 : PySem.W.nsIn K mainGlobals "holders" = some (some (.ref f1))) (l1 : K.lookup f1 = some ⟨oc1, od1, .func (PySem.W.fnOf "holders" "holders" (defArgs s_holders) (defBody s_holders) (defScope s_holders) .none kV1 dc1 pm1 an1 cd1 ct1), sl1⟩) (c1 : PySem.W.codeIn K cd1 "holders" = true) (k1 : PySem.W.keepIn K (.ref f1) = true)
    (a2 : PySem.W.nsIn K mainGlobals "is_complete" = some (some (.ref f2))) (l2 : K.lookup f2 = some ⟨oc2, od2, .func (PySem.W.fnOf "is_complete" "is_complete" (defArgs s_is_complete) (defBody s_is_complete) (defScope s_is_complete) (.ref T2) kV2 dc2 pm2 an2 cd2 ct2), sl2⟩) (c2 : PySem.W.codeIn K cd2 "is_complete" = true) (k2 : PySem.W.keepIn K (.ref f2) = true)
    (t2 : K.lookup T2 = some ⟨tc2, td2, .seq [Value.ref E2].toArray tn2, ts2⟩)
    (q2 : K.lookup E2 = some ⟨.type "tuple", qd2, .seq #[] qn2, qs2⟩)
    (a3 : PySem.W.nsIn K mainGlobals "dealings_named" = some (some (.ref f3))) (l3 : K.lookup f3 = some ⟨oc3, od3, .func (PySem.W.fnOf "dealings_named" "dealings_named" (defArgs s_dealings_named) (defBody s_dealings_named) (defScope s_dealings_named) .none kV3 dc3 pm3 an3 cd3 ct3), sl3⟩) (c3 : PySem.W.codeIn K cd3 "dealings_named" = true) (k3 : PySem.W.keepIn K (.ref f3) = true)
    (a4 : PySem.W.nsIn K mainGlobals "complete_dealings" = some (some (.ref f4))) (l4 : K.lookup f4 = some ⟨oc4, od4, .func (PySem.W.fnOf "complete_dealings" "complete_dealings" (defArgs s_complete_dealings) (defBody s_complete_dealings) (defScope s_complete_dealings) (.ref T4) kV4 dc4 pm4 an4 cd4 ct4), sl4⟩) (c4 : PySem.W.codeIn K cd4 "complete_dealings" = true) (k4 : PySem.W.keepIn K (.ref f4) = true)
    (t4 : K.lookup T4 = some ⟨tc4, td4, .seq [Value.ref E4].toArray tn4, ts4⟩)
    (q4 : K.lookup E4 = some ⟨.type "tuple", qd4, .seq #[] qn4, qs4⟩)
    (a5 : PySem.W.nsIn K mainGlobals "fillable" = some (some (.ref f5))) (l5 : K.lookup f5 = some ⟨oc5, od5, .func (PySem.W.fnOf "fillable" "fillable" (defArgs s_fillable) (defBody s_fillable) (defScope s_fillable) (.ref T5) kV5 dc5 pm5 an5 cd5 ct5), sl5⟩) (c5 : PySem.W.codeIn K cd5 "fillable" = true) (k5 : PySem.W.keepIn K (.ref f5) = true)
    (t5 : K.lookup T5 = some ⟨tc5, td5, .seq [Value.ref E5].toArray tn5, ts5⟩)
    (q5 : K.lookup E5 = some ⟨.type "tuple", qd5, .seq #[] qn5, qs5⟩)
    (a6 : PySem.W.nsIn K mainGlobals "is_integer" = some (some (.ref f6))) (l6 : K.lookup f6 = some ⟨oc6, od6, .func (PySem.W.fnOf "is_integer" "is_integer" (defArgs s_is_integer) (defBody s_is_integer) (defScope s_is_integer) .none kV6 dc6 pm6 an6 cd6 ct6), sl6⟩) (c6 : PySem.W.codeIn K cd6 "is_integer" = true) (k6 : PySem.W.keepIn K (.ref f6) = true)
    (a7 : PySem.W.nsIn K mainGlobals "is_number" = some (some (.ref f7))) (l7 : K.lookup f7 = some ⟨oc7, od7, .func (PySem.W.fnOf "is_number" "is_number" (defArgs s_is_number) (defBody s_is_number) (defScope s_is_number) (.ref T7) kV7 dc7 pm7 an7 cd7 ct7), sl7⟩) (c7 : PySem.W.codeIn K cd7 "is_number" = true) (k7 : PySem.W.keepIn K (.ref f7) = true)
    (t7 : K.lookup T7 = some ⟨tc7, td7, .seq [Value.none].toArray tn7, ts7⟩)
    (aC8 : PySem.W.nsIn K mainGlobals "Numbers" = some (some (.ref C8))) (a8 : PySem.W.findIn K (.ref C8) "__init__" = some (some (.ref f8))) (i8 : PySem.W.isFn K (.ref f8) = true) (l8 : K.lookup f8 = some ⟨oc8, od8, .func (PySem.W.fnOf "__init__" "Numbers.__init__" (defArgs s_Numbers) (defBody s_Numbers) (defScope s_Numbers) .none kV8 dc8 pm8 an8 cd8 ct8), sl8⟩) (c8 : PySem.W.codeIn K cd8 "Numbers.__init__" = true) (k8 : PySem.W.keepIn K (.ref f8) = true)
    (pg8 : PySem.W.plainGet K C8 Str.empty = true) (hd8 : PySem.W.hasDictIn K C8 = true) (po8 : PySem.W.plainOver K C8 = true) (sa8 : PySem.W.findIn K (.ref C8) "__setattr__" = some (some (.builtin "object.__setattr__"))) (mk8 : PySem.W.makesIn K C8 = true) (kc8 : PySem.W.keepIn K (.ref C8) = true) (n8_0 : PySem.W.findIn K (.ref C8) "k" = some none) (n8_1 : PySem.W.findIn K (.ref C8) "f" = some none) (n8_2 : PySem.W.findIn K (.ref C8) "l" = some none) (n8_3 : PySem.W.findIn K (.ref C8) "d" = some none) (n8_4 : PySem.W.findIn K (.ref C8) "t" = some none) (n8_5 : PySem.W.findIn K (.ref C8) "w" = some none)
    (a9 : PySem.W.nsIn K mainGlobals "wiped_by" = some (some (.ref f9))) (l9 : K.lookup f9 = some ⟨oc9, od9, .func (PySem.W.fnOf "wiped_by" "wiped_by" (defArgs s_wiped_by) (defBody s_wiped_by) (defScope s_wiped_by) .none kV9 dc9 pm9 an9 cd9 ct9), sl9⟩) (c9 : PySem.W.codeIn K cd9 "wiped_by" = true) (k9 : PySem.W.keepIn K (.ref f9) = true)
    (a10 : PySem.W.nsIn K mainGlobals "most_keepers" = some (some (.ref f10))) (l10 : K.lookup f10 = some ⟨oc10, od10, .func (PySem.W.fnOf "most_keepers" "most_keepers" (defArgs s_most_keepers) (defBody s_most_keepers) (defScope s_most_keepers) .none kV10 dc10 pm10 an10 cd10 ct10), sl10⟩) (c10 : PySem.W.codeIn K cd10 "most_keepers" = true) (k10 : PySem.W.keepIn K (.ref f10) = true)
    (a11 : PySem.W.nsIn K mainGlobals "is_laid_down" = some (some (.ref f11))) (l11 : K.lookup f11 = some ⟨oc11, od11, .func (PySem.W.fnOf "is_laid_down" "is_laid_down" (defArgs s_is_laid_down) (defBody s_is_laid_down) (defScope s_is_laid_down) .none kV11 dc11 pm11 an11 cd11 ct11), sl11⟩) (c11 : PySem.W.codeIn K cd11 "is_laid_down" = true) (k11 : PySem.W.keepIn K (.ref f11) = true)
    (a12 : PySem.W.nsIn K mainGlobals "_law_heap" = some (some (.ref f12))) (l12 : K.lookup f12 = some ⟨oc12, od12, .func (PySem.W.fnOf "_law_heap" "_law_heap" (defArgs s_l_heap) (defBody s_l_heap) (defScope s_l_heap) .none kV12 dc12 pm12 an12 cd12 ct12), sl12⟩) (c12 : PySem.W.codeIn K cd12 "_law_heap" = true) (k12 : PySem.W.keepIn K (.ref f12) = true)
    (a13 : PySem.W.nsIn K mainGlobals "_law_draw" = some (some (.ref f13))) (l13 : K.lookup f13 = some ⟨oc13, od13, .func (PySem.W.fnOf "_law_draw" "_law_draw" (defArgs s_l_draw) (defBody s_l_draw) (defScope s_l_draw) .none kV13 dc13 pm13 an13 cd13 ct13), sl13⟩) (c13 : PySem.W.codeIn K cd13 "_law_draw" = true) (k13 : PySem.W.keepIn K (.ref f13) = true)
    (a14 : PySem.W.nsIn K mainGlobals "_law_pick" = some (some (.ref f14))) (l14 : K.lookup f14 = some ⟨oc14, od14, .func (PySem.W.fnOf "_law_pick" "_law_pick" (defArgs s_l_pick) (defBody s_l_pick) (defScope s_l_pick) .none kV14 dc14 pm14 an14 cd14 ct14), sl14⟩) (c14 : PySem.W.codeIn K cd14 "_law_pick" = true) (k14 : PySem.W.keepIn K (.ref f14) = true)
    (a15 : PySem.W.nsIn K mainGlobals "_law_like" = some (some (.ref f15))) (l15 : K.lookup f15 = some ⟨oc15, od15, .func (PySem.W.fnOf "_law_like" "_law_like" (defArgs s_l_like) (defBody s_l_like) (defScope s_l_like) .none kV15 dc15 pm15 an15 cd15 ct15), sl15⟩) (c15 : PySem.W.codeIn K cd15 "_law_like" = true) (k15 : PySem.W.keepIn K (.ref f15) = true)
    (a16 : PySem.W.nsIn K mainGlobals "_law_some" = some (some (.ref f16))) (l16 : K.lookup f16 = some ⟨oc16, od16, .func (PySem.W.fnOf "_law_some" "_law_some" (defArgs s_l_some) (defBody s_l_some) (defScope s_l_some) .none kV16 dc16 pm16 an16 cd16 ct16), sl16⟩) (c16 : PySem.W.codeIn K cd16 "_law_some" = true) (k16 : PySem.W.keepIn K (.ref f16) = true)
    (a17 : PySem.W.nsIn K mainGlobals "_law_course" = some (some (.ref f17))) (l17 : K.lookup f17 = some ⟨oc17, od17, .func (PySem.W.fnOf "_law_course" "_law_course" (defArgs s_l_course) (defBody s_l_course) (defScope s_l_course) .none kV17 dc17 pm17 an17 cd17 ct17), sl17⟩) (c17 : PySem.W.codeIn K cd17 "_law_course" = true) (k17 : PySem.W.keepIn K (.ref f17) = true)
    (a18 : PySem.W.nsIn K mainGlobals "_law_notes" = some (some (.ref f18))) (l18 : K.lookup f18 = some ⟨oc18, od18, .func (PySem.W.fnOf "_law_notes" "_law_notes" (defArgs s_l_notes) (defBody s_l_notes) (defScope s_l_notes) .none kV18 dc18 pm18 an18 cd18 ct18), sl18⟩) (c18 : PySem.W.codeIn K cd18 "_law_notes" = true) (k18 : PySem.W.keepIn K (.ref f18) = true)
    (a19 : PySem.W.nsIn K mainGlobals "_law_holders" = some (some (.ref f19))) (l19 : K.lookup f19 = some ⟨oc19, od19, .func (PySem.W.fnOf "_law_holders" "_law_holders" (defArgs s_l_holders) (defBody s_l_holders) (defScope s_l_holders) .none kV19 dc19 pm19 an19 cd19 ct19), sl19⟩) (c19 : PySem.W.codeIn K cd19 "_law_holders" = true) (k19 : PySem.W.keepIn K (.ref f19) = true)
    (a20 : PySem.W.nsIn K mainGlobals "_law_is_complete" = some (some (.ref f20))) (l20 : K.lookup f20 = some ⟨oc20, od20, .func (PySem.W.fnOf "_law_is_complete" "_law_is_complete" (defArgs s_l_is_complete) (defBody s_l_is_complete) (defScope s_l_is_complete) .none kV20 dc20 pm20 an20 cd20 ct20), sl20⟩) (c20 : PySem.W.codeIn K cd20 "_law_is_complete" = true) (k20 : PySem.W.keepIn K (.ref f20) = true)
    (a21 : PySem.W.nsIn K mainGlobals "_law_named" = some (some (.ref f21))) (l21 : K.lookup f21 = some ⟨oc21, od21, .func (PySem.W.fnOf "_law_named" "_law_named" (defArgs s_l_named) (defBody s_l_named) (defScope s_l_named) .none kV21 dc21 pm21 an21 cd21 ct21), sl21⟩) (c21 : PySem.W.codeIn K cd21 "_law_named" = true) (k21 : PySem.W.keepIn K (.ref f21) = true)
    (a22 : PySem.W.nsIn K mainGlobals "_law_wipes" = some (some (.ref f22))) (l22 : K.lookup f22 = some ⟨oc22, od22, .func (PySem.W.fnOf "_law_wipes" "_law_wipes" (defArgs s_l_wipes) (defBody s_l_wipes) (defScope s_l_wipes) .none kV22 dc22 pm22 an22 cd22 ct22), sl22⟩) (c22 : PySem.W.codeIn K cd22 "_law_wipes" = true) (k22 : PySem.W.keepIn K (.ref f22) = true)
    (a23 : PySem.W.nsIn K mainGlobals "law" = some (some (.ref f23))) (l23 : K.lookup f23 = some ⟨oc23, od23, .func (PySem.W.fnOf "law" "law" (defArgs s_law) (defBody s_law) (defScope s_law) .none kV23 dc23 pm23 an23 cd23 ct23), sl23⟩) (c23 : PySem.W.codeIn K cd23 "law" = true) (k23 : PySem.W.keepIn K (.ref f23) = true)
    (gcon0 : PySem.W.nsIn K mainGlobals "MOST_COPIES" = some (some (.int 12 gt0)))
    (gcon1 : PySem.W.nsIn K mainGlobals "MOST_DEGREE" = some (some (.int 6 gt1)))
    (gcon2 : PySem.W.nsIn K mainGlobals "MOST_PATIENCE" = some (some (.int 200 gt2)))
    (z0 : PySem.W.nsIn K mainGlobals "abs" = some none)
    (z1 : PySem.W.nsIn K mainGlobals "all" = some none)
    (z2 : PySem.W.nsIn K mainGlobals "bool" = some none)
    (z3 : PySem.W.nsIn K mainGlobals "enumerate" = some none)
    (z4 : PySem.W.nsIn K mainGlobals "int" = some none)
    (z5 : PySem.W.nsIn K mainGlobals "isinstance" = some none)
    (z6 : PySem.W.nsIn K mainGlobals "len" = some none)
    (z7 : PySem.W.nsIn K mainGlobals "max" = some none)
    (z8 : PySem.W.nsIn K mainGlobals "min" = some none)
    (z9 : PySem.W.nsIn K mainGlobals "range" = some none)
    (z10 : PySem.W.nsIn K mainGlobals "set" = some none)
    (z11 : PySem.W.nsIn K mainGlobals "sorted" = some none)
    (z12 : PySem.W.nsIn K mainGlobals "str" = some none)
    (z13 : PySem.W.nsIn K mainGlobals "tuple" = some none)
    (z14 : PySem.W.nsIn K mainGlobals "zip" = some none) :
    ∃ fd : FuncData, (∀ (s : Shared) (v : Value), BindsTo s fd ⟨[v], []⟩ [("script", v)]) ∧ ∀ base : Heap, K.In base → base.Ns mainGlobals mg → FnOk l.prog w K mg base CX0 5 fa fd ["script"] (spLawM K) := by
  have e := hfa.symm.trans (PySem.W.mg_of X G a23)
  cases e
  have F1 : FunD K "holders" "holders" (defArgs s_holders) (defBody s_holders) (defScope s_holders) [] [] f1 _ := ⟨⟨oc1, od1, .none, kV1, dc1, pm1, an1, cd1, ct1, sl1, rfl, l1, c1, .inl ⟨rfl, rfl⟩, .inl rfl⟩, k1⟩
  have B1 := binds0 (ps := p_holders) F1 fun _ _ _ _ _ _ us hl => match us, hl with | [_, _, _, _], _ => rfl
  have F2 : FunD K "is_complete" "is_complete" (defArgs s_is_complete) (defBody s_is_complete) (defScope s_is_complete) [V.ref E2] [] f2 _ := ⟨⟨oc2, od2, (.ref T2), kV2, dc2, pm2, an2, cd2, ct2, sl2, rfl, l2, c2, .inr ⟨by simp, T2, _, [Value.ref E2], tn2, rfl, t2, rfl, .cons rfl (.nil)⟩, .inl rfl⟩, k2⟩
  obtain ⟨u2_0, v2_0, B2_0⟩ := FunD.binds1 (ps := p_is_complete) F2 6 1 (by simp) rfl fun T kV doc pm an cdv ct us its hu hi => match us, its, hu, hi with | [_, _, _, _, _, _], [_], _, _ => ⟨_, rfl, rfl⟩
  obtain ⟨u2_1, v2_1, B2_1⟩ := FunD.binds1 (ps := p_is_complete) F2 5 0 (by simp) rfl fun T kV doc pm an cdv ct us its hu hi => match us, its, hu, hi with | [_, _, _, _, _], [_], _, _ => ⟨_, rfl, rfl⟩
  have F3 : FunD K "dealings_named" "dealings_named" (defArgs s_dealings_named) (defBody s_dealings_named) (defScope s_dealings_named) [] [] f3 _ := ⟨⟨oc3, od3, .none, kV3, dc3, pm3, an3, cd3, ct3, sl3, rfl, l3, c3, .inl ⟨rfl, rfl⟩, .inl rfl⟩, k3⟩
  have B3 := binds0 (ps := p_dealings_named) F3 fun _ _ _ _ _ _ us hl => match us, hl with | [_, _, _], _ => rfl
  have F4 : FunD K "complete_dealings" "complete_dealings" (defArgs s_complete_dealings) (defBody s_complete_dealings) (defScope s_complete_dealings) [V.ref E4] [] f4 _ := ⟨⟨oc4, od4, (.ref T4), kV4, dc4, pm4, an4, cd4, ct4, sl4, rfl, l4, c4, .inr ⟨by simp, T4, _, [Value.ref E4], tn4, rfl, t4, rfl, .cons rfl (.nil)⟩, .inl rfl⟩, k4⟩
  obtain ⟨u4_0, v4_0, B4_0⟩ := FunD.binds1 (ps := p_complete_dealings) F4 5 1 (by simp) rfl fun T kV doc pm an cdv ct us its hu hi => match us, its, hu, hi with | [_, _, _, _, _], [_], _, _ => ⟨_, rfl, rfl⟩
  obtain ⟨u4_1, v4_1, B4_1⟩ := FunD.binds1 (ps := p_complete_dealings) F4 4 0 (by simp) rfl fun T kV doc pm an cdv ct us its hu hi => match us, its, hu, hi with | [_, _, _, _], [_], _, _ => ⟨_, rfl, rfl⟩
  have F5 : FunD K "fillable" "fillable" (defArgs s_fillable) (defBody s_fillable) (defScope s_fillable) [V.ref E5] [] f5 _ := ⟨⟨oc5, od5, (.ref T5), kV5, dc5, pm5, an5, cd5, ct5, sl5, rfl, l5, c5, .inr ⟨by simp, T5, _, [Value.ref E5], tn5, rfl, t5, rfl, .cons rfl (.nil)⟩, .inl rfl⟩, k5⟩
  obtain ⟨u5_0, v5_0, B5_0⟩ := FunD.binds1 (ps := p_fillable) F5 6 1 (by simp) rfl fun T kV doc pm an cdv ct us its hu hi => match us, its, hu, hi with | [_, _, _, _, _, _], [_], _, _ => ⟨_, rfl, rfl⟩
  have F6 : FunD K "is_integer" "is_integer" (defArgs s_is_integer) (defBody s_is_integer) (defScope s_is_integer) [] [] f6 _ := ⟨⟨oc6, od6, .none, kV6, dc6, pm6, an6, cd6, ct6, sl6, rfl, l6, c6, .inl ⟨rfl, rfl⟩, .inl rfl⟩, k6⟩
  have B6 := binds0 (ps := p_is_integer) F6 fun _ _ _ _ _ _ us hl => match us, hl with | [_], _ => rfl
  have F7 : FunD K "is_number" "is_number" (defArgs s_is_number) (defBody s_is_number) (defScope s_is_number) [V.non] [] f7 _ := ⟨⟨oc7, od7, (.ref T7), kV7, dc7, pm7, an7, cd7, ct7, sl7, rfl, l7, c7, .inr ⟨by simp, T7, _, [Value.none], tn7, rfl, t7, rfl, .cons rfl (.nil)⟩, .inl rfl⟩, k7⟩
  obtain ⟨u7_0, v7_0, B7_0⟩ := FunD.binds1 (ps := p_is_number) F7 2 1 (by simp) rfl fun T kV doc pm an cdv ct us its hu hi => match us, its, hu, hi with | [_, _], [_], _, _ => ⟨_, rfl, rfl⟩
  have F8 : FunD K "__init__" "Numbers.__init__" (defArgs s_Numbers) (defBody s_Numbers) (defScope s_Numbers) [] [] f8 _ := ⟨⟨oc8, od8, .none, kV8, dc8, pm8, an8, cd8, ct8, sl8, rfl, l8, c8, .inl ⟨rfl, rfl⟩, .inl rfl⟩, k8⟩
  have B8 := binds0 (ps := p_Numbers) F8 fun _ _ _ _ _ _ us hl => match us, hl with | [_, _, _, _, _, _, _], _ => rfl
  have F9 : FunD K "wiped_by" "wiped_by" (defArgs s_wiped_by) (defBody s_wiped_by) (defScope s_wiped_by) [] [] f9 _ := ⟨⟨oc9, od9, .none, kV9, dc9, pm9, an9, cd9, ct9, sl9, rfl, l9, c9, .inl ⟨rfl, rfl⟩, .inl rfl⟩, k9⟩
  have B9 := binds0 (ps := p_wiped_by) F9 fun _ _ _ _ _ _ us hl => match us, hl with | [_, _, _], _ => rfl
  have F10 : FunD K "most_keepers" "most_keepers" (defArgs s_most_keepers) (defBody s_most_keepers) (defScope s_most_keepers) [] [] f10 _ := ⟨⟨oc10, od10, .none, kV10, dc10, pm10, an10, cd10, ct10, sl10, rfl, l10, c10, .inl ⟨rfl, rfl⟩, .inl rfl⟩, k10⟩
  have B10 := binds0 (ps := p_most_keepers) F10 fun _ _ _ _ _ _ us hl => match us, hl with | [_, _, _, _], _ => rfl
  have F11 : FunD K "is_laid_down" "is_laid_down" (defArgs s_is_laid_down) (defBody s_is_laid_down) (defScope s_is_laid_down) [] [] f11 _ := ⟨⟨oc11, od11, .none, kV11, dc11, pm11, an11, cd11, ct11, sl11, rfl, l11, c11, .inl ⟨rfl, rfl⟩, .inl rfl⟩, k11⟩
  have B11 := binds0 (ps := p_is_laid_down) F11 fun _ _ _ _ _ _ us hl => match us, hl with | [_, _, _, _], _ => rfl
  have F12 : FunD K "_law_heap" "_law_heap" (defArgs s_l_heap) (defBody s_l_heap) (defScope s_l_heap) [] [] f12 _ := ⟨⟨oc12, od12, .none, kV12, dc12, pm12, an12, cd12, ct12, sl12, rfl, l12, c12, .inl ⟨rfl, rfl⟩, .inl rfl⟩, k12⟩
  have B12 := binds0 (ps := p_l_heap) F12 fun _ _ _ _ _ _ us hl => match us, hl with | [_], _ => rfl
  have F13 : FunD K "_law_draw" "_law_draw" (defArgs s_l_draw) (defBody s_l_draw) (defScope s_l_draw) [] [] f13 _ := ⟨⟨oc13, od13, .none, kV13, dc13, pm13, an13, cd13, ct13, sl13, rfl, l13, c13, .inl ⟨rfl, rfl⟩, .inl rfl⟩, k13⟩
  have B13 := binds0 (ps := p_l_draw) F13 fun _ _ _ _ _ _ us hl => match us, hl with | [_, _], _ => rfl
  have F14 : FunD K "_law_pick" "_law_pick" (defArgs s_l_pick) (defBody s_l_pick) (defScope s_l_pick) [] [] f14 _ := ⟨⟨oc14, od14, .none, kV14, dc14, pm14, an14, cd14, ct14, sl14, rfl, l14, c14, .inl ⟨rfl, rfl⟩, .inl rfl⟩, k14⟩
  have B14 := binds0 (ps := p_l_pick) F14 fun _ _ _ _ _ _ us hl => match us, hl with | [_, _], _ => rfl
  have F15 : FunD K "_law_like" "_law_like" (defArgs s_l_like) (defBody s_l_like) (defScope s_l_like) [] [] f15 _ := ⟨⟨oc15, od15, .none, kV15, dc15, pm15, an15, cd15, ct15, sl15, rfl, l15, c15, .inl ⟨rfl, rfl⟩, .inl rfl⟩, k15⟩
  have B15 := binds0 (ps := p_l_like) F15 fun _ _ _ _ _ _ us hl => match us, hl with | [_, _], _ => rfl
  have F16 : FunD K "_law_some" "_law_some" (defArgs s_l_some) (defBody s_l_some) (defScope s_l_some) [] [] f16 _ := ⟨⟨oc16, od16, .none, kV16, dc16, pm16, an16, cd16, ct16, sl16, rfl, l16, c16, .inl ⟨rfl, rfl⟩, .inl rfl⟩, k16⟩
  have B16 := binds0 (ps := p_l_some) F16 fun _ _ _ _ _ _ us hl => match us, hl with | [_, _, _], _ => rfl
  have F17 : FunD K "_law_course" "_law_course" (defArgs s_l_course) (defBody s_l_course) (defScope s_l_course) [] [] f17 _ := ⟨⟨oc17, od17, .none, kV17, dc17, pm17, an17, cd17, ct17, sl17, rfl, l17, c17, .inl ⟨rfl, rfl⟩, .inl rfl⟩, k17⟩
  have B17 := binds0 (ps := p_l_course) F17 fun _ _ _ _ _ _ us hl => match us, hl with | [_, _, _, _], _ => rfl
  have F18 : FunD K "_law_notes" "_law_notes" (defArgs s_l_notes) (defBody s_l_notes) (defScope s_l_notes) [] [] f18 _ := ⟨⟨oc18, od18, .none, kV18, dc18, pm18, an18, cd18, ct18, sl18, rfl, l18, c18, .inl ⟨rfl, rfl⟩, .inl rfl⟩, k18⟩
  have B18 := binds0 (ps := p_l_notes) F18 fun _ _ _ _ _ _ us hl => match us, hl with | [_, _, _, _], _ => rfl
  have F19 : FunD K "_law_holders" "_law_holders" (defArgs s_l_holders) (defBody s_l_holders) (defScope s_l_holders) [] [] f19 _ := ⟨⟨oc19, od19, .none, kV19, dc19, pm19, an19, cd19, ct19, sl19, rfl, l19, c19, .inl ⟨rfl, rfl⟩, .inl rfl⟩, k19⟩
  have B19 := binds0 (ps := p_l_holders) F19 fun _ _ _ _ _ _ us hl => match us, hl with | [_, _, _, _], _ => rfl
  have F20 : FunD K "_law_is_complete" "_law_is_complete" (defArgs s_l_is_complete) (defBody s_l_is_complete) (defScope s_l_is_complete) [] [] f20 _ := ⟨⟨oc20, od20, .none, kV20, dc20, pm20, an20, cd20, ct20, sl20, rfl, l20, c20, .inl ⟨rfl, rfl⟩, .inl rfl⟩, k20⟩
  have B20 := binds0 (ps := p_l_is_complete) F20 fun _ _ _ _ _ _ us hl => match us, hl with | [_, _, _, _, _, _], _ => rfl
  have F21 : FunD K "_law_named" "_law_named" (defArgs s_l_named) (defBody s_l_named) (defScope s_l_named) [] [] f21 _ := ⟨⟨oc21, od21, .none, kV21, dc21, pm21, an21, cd21, ct21, sl21, rfl, l21, c21, .inl ⟨rfl, rfl⟩, .inl rfl⟩, k21⟩
  have B21 := binds0 (ps := p_l_named) F21 fun _ _ _ _ _ _ us hl => match us, hl with | [_, _, _], _ => rfl
  have F22 : FunD K "_law_wipes" "_law_wipes" (defArgs s_l_wipes) (defBody s_l_wipes) (defScope s_l_wipes) [] [] f22 _ := ⟨⟨oc22, od22, .none, kV22, dc22, pm22, an22, cd22, ct22, sl22, rfl, l22, c22, .inl ⟨rfl, rfl⟩, .inl rfl⟩, k22⟩
  have B22 := binds0 (ps := p_l_wipes) F22 fun _ _ _ _ _ _ us hl => match us, hl with | [_, _, _], _ => rfl
  have F23 : FunD K "law" "law" (defArgs s_law) (defBody s_law) (defScope s_law) [] [] _ _ := ⟨⟨oc23, od23, .none, kV23, dc23, pm23, an23, cd23, ct23, sl23, rfl, l23, c23, .inl ⟨rfl, rfl⟩, .inl rfl⟩, k23⟩
  exact ⟨_, fun s v => .of_eq rfl, fun base _ _ => ok_law ⟨f1, _, F1, (PySem.W.mg_of X G a1), B1, E2, ⟨_, #[], qn2, q2, rfl, rfl, by decide, .nil⟩, f2, _, F2, (PySem.W.mg_of X G a2), (by cases v2_0; exact B2_0), u2_1, B2_1, v2_1, f3, _, F3, (PySem.W.mg_of X G a3), B3, E4, ⟨_, #[], qn4, q4, rfl, rfl, by decide, .nil⟩, f4, _, F4, (PySem.W.mg_of X G a4), (by cases v4_0; exact B4_0), u4_1, B4_1, v4_1, E5, ⟨_, #[], qn5, q5, rfl, rfl, by decide, .nil⟩, f5, _, F5, (PySem.W.mg_of X G a5), (by cases v5_0; exact B5_0), f6, _, F6, (PySem.W.mg_of X G a6), B6, f7, _, F7, (PySem.W.mg_of X G a7), (by cases v7_0; exact B7_0), C8, f8, _, F8, (PySem.W.mg_of X G aC8), ⟨pg8, hd8, po8, sa8⟩, ⟨mk8, a8, i8, kc8⟩, n8_0, n8_1, n8_2, n8_3, n8_4, n8_5, B8, f9, _, F9, (PySem.W.mg_of X G a9), B9, f10, _, F10, (PySem.W.mg_of X G a10), B10, f11, _, F11, (PySem.W.mg_of X G a11), B11, f12, _, F12, (PySem.W.mg_of X G a12), B12, f13, _, F13, (PySem.W.mg_of X G a13), B13, f14, _, F14, (PySem.W.mg_of X G a14), B14, f15, _, F15, (PySem.W.mg_of X G a15), B15, f16, _, F16, (PySem.W.mg_of X G a16), B16, f17, _, F17, (PySem.W.mg_of X G a17), B17, f18, _, F18, (PySem.W.mg_of X G a18), B18, f19, _, F19, (PySem.W.mg_of X G a19), B19, f20, _, F20, (PySem.W.mg_of X G a20), B20, f21, _, F21, (PySem.W.mg_of X G a21), B21, f22, _, F22, (PySem.W.mg_of X G a22), B22, _, _, F23, (PySem.W.mg_of X G a23), gt0, (PySem.W.mg_of X G gcon0), gt1, (PySem.W.mg_of X G gcon1), gt2, (PySem.W.mg_of X G gcon2), (PySem.W.mg_none_of X G z0), (PySem.W.mg_none_of X G z1), (PySem.W.mg_none_of X G z2), (PySem.W.mg_none_of X G z3), (PySem.W.mg_none_of X G z4), (PySem.W.mg_none_of X G z5), (PySem.W.mg_none_of X G z6), (PySem.W.mg_none_of X G z7), (PySem.W.mg_none_of X G z8), (PySem.W.mg_none_of X G z9), (PySem.W.mg_none_of X G z10), (PySem.W.mg_none_of X G z11), (PySem.W.mg_none_of X G z12), (PySem.W.mg_none_of X G z13), (PySem.W.mg_none_of X G z14)⟩⟩
end K24
open PySem PySem.W PyProof.Rows
set_option maxHeartbeats 0 in
theorem PySem.Challenge.cw_keysapart_k24_whole_papers_out_of_notes_holds : PySem.Challenge.rw_keysapart_k24_whole_papers_out_of_notes.Holds := by
  w_on; o_law; k_head; (case hw => w_witness2)
  k_fill
  refine L2.walk_of (l := PySem.Challenge.rw_keysapart_k24_whole_papers_out_of_notes) (n := 63) (k := 5) (x := "script") (CX := fun _ => L2.CX0) (sp := fun w => PM.spLawM _) rfl (by decide) rfl ⟨rfl, by decide, by decide⟩ (fun w h Y => PySem.W.kIn_of Y) ?F (fun _ _ a ns hl hO hS => ⟨a, ns, rfl, hO, hS, hl, fun _ => rfl⟩) (fun _ _ _ _ _ h => h)
  case F =>
    intro w mg fa h KX G hmg
    refine' K24.all_mk KX G hmg ?a1 ?l1 ?c1 ?k1 ?a2 ?l2 ?c2 ?k2 ?t2 ?q2 ?a3 ?l3 ?c3 ?k3 ?a4 ?l4 ?c4 ?k4 ?t4 ?q4 ?a5 ?l5 ?c5 ?k5 ?t5 ?q5 ?a6 ?l6 ?c6 ?k6 ?a7 ?l7 ?c7 ?k7 ?t7 ?aC8 ?a8 ?i8 ?l8 ?c8 ?k8 ?pg8 ?hd8 ?po8 ?sa8 ?mk8 ?kc8 ?n8_0 ?n8_1 ?n8_2 ?n8_3 ?n8_4 ?n8_5 ?a9 ?l9 ?c9 ?k9 ?a10 ?l10 ?c10 ?k10 ?a11 ?l11 ?c11 ?k11 ?a12 ?l12 ?c12 ?k12 ?a13 ?l13 ?c13 ?k13 ?a14 ?l14 ?c14 ?k14 ?a15 ?l15 ?c15 ?k15 ?a16 ?l16 ?c16 ?k16 ?a17 ?l17 ?c17 ?k17 ?a18 ?l18 ?c18 ?k18 ?a19 ?l19 ?c19 ?k19 ?a20 ?l20 ?c20 ?k20 ?a21 ?l21 ?c21 ?k21 ?a22 ?l22 ?c22 ?k22 ?a23 ?l23 ?c23 ?k23 ?gcon0 ?gcon1 ?gcon2 ?z0 ?z1 ?z2 ?z3 ?z4 ?z5 ?z6 ?z7 ?z8 ?z9 ?z10 ?z11 ?z12 ?z13 ?z14
    (case a1 => k_is); (case l1 => k_is); (case c1 => k_is); (case k1 => k_is); (case a2 => k_is); (case l2 => k_is); (case c2 => k_is); (case k2 => k_is); (case t2 => k_is); (case q2 => k_is); (case a3 => k_is); (case l3 => k_is); (case c3 => k_is); (case k3 => k_is); (case a4 => k_is); (case l4 => k_is); (case c4 => k_is); (case k4 => k_is); (case t4 => k_is); (case q4 => k_is); (case a5 => k_is); (case l5 => k_is); (case c5 => k_is); (case k5 => k_is); (case t5 => k_is); (case q5 => k_is); (case a6 => k_is); (case l6 => k_is); (case c6 => k_is); (case k6 => k_is); (case a7 => k_is); (case l7 => k_is); (case c7 => k_is); (case k7 => k_is); (case t7 => k_is); (case aC8 => k_is); (case a8 => k_is); (case i8 => k_is); (case l8 => k_is); (case c8 => k_is); (case k8 => k_is); (case pg8 => k_is); (case hd8 => k_is); (case po8 => k_is); (case sa8 => k_is); (case mk8 => k_is); (case kc8 => k_is); (case n8_0 => k_is); (case n8_1 => k_is); (case n8_2 => k_is); (case n8_3 => k_is); (case n8_4 => k_is); (case n8_5 => k_is); (case a9 => k_is); (case l9 => k_is); (case c9 => k_is); (case k9 => k_is); (case a10 => k_is); (case l10 => k_is); (case c10 => k_is); (case k10 => k_is); (case a11 => k_is); (case l11 => k_is); (case c11 => k_is); (case k11 => k_is); (case a12 => k_is); (case l12 => k_is); (case c12 => k_is); (case k12 => k_is); (case a13 => k_is); (case l13 => k_is); (case c13 => k_is); (case k13 => k_is); (case a14 => k_is); (case l14 => k_is); (case c14 => k_is); (case k14 => k_is); (case a15 => k_is); (case l15 => k_is); (case c15 => k_is); (case k15 => k_is); (case a16 => k_is); (case l16 => k_is); (case c16 => k_is); (case k16 => k_is); (case a17 => k_is); (case l17 => k_is); (case c17 => k_is); (case k17 => k_is); (case a18 => k_is); (case l18 => k_is); (case c18 => k_is); (case k18 => k_is); (case a19 => k_is); (case l19 => k_is); (case c19 => k_is); (case k19 => k_is); (case a20 => k_is); (case l20 => k_is); (case c20 => k_is); (case k20 => k_is); (case a21 => k_is); (case l21 => k_is); (case c21 => k_is); (case k21 => k_is); (case a22 => k_is); (case l22 => k_is); (case c22 => k_is); (case k22 => k_is); (case a23 => k_is); (case l23 => k_is); (case c23 => k_is); (case k23 => k_is); (case gcon0 => k_is); (case gcon1 => k_is); (case gcon2 => k_is); (case z0 => k_is); (case z1 => k_is); (case z2 => k_is); (case z3 => k_is); (case z4 => k_is); (case z5 => k_is); (case z6 => k_is); (case z7 => k_is); (case z8 => k_is); (case z9 => k_is); (case z10 => k_is); (case z11 => k_is); (case z12 => k_is); (case z13 => k_is); (case z14 => k_is)

