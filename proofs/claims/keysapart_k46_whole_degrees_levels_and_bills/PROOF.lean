import PyProof.Rows.All
import Wide.All
import OpenK.AllK
import Wide.FinOn
import HandS.ForMost
import HandS.Walk
import HandS.SortInts
import HandS.TupAny
import HandS.Style
import HandS.IsInst
import HandS.WordsDict
import HandS.More
import HandS.ListItems
import HandS.Zip
import HandS.Defaults
import HandS.Deep
import HandS.Wide
import PyProof.Draws
import KE.GoesMore
import KE.GoesEnum
import KE.DataMinMax
import HandS.Conv
import PySem.Challenge.RW_keysapart_k46_whole_degrees_levels_and_b
set_option Elab.async false
set_option linter.all false
set_option maxRecDepth 100000
set_option maxHeartbeats 1000000
/-! PM: values as trees; what stands for them in the heap. -/
namespace PM
open PySem L2

inductive PV where
  | non | bl (b : Bool) | int (i : Int) | str (x : Str)
  | tup (xs : List PV) | lst (xs : List PV) | dic (ks : List Key) (vs : List PV)
  | obj (C : Addr) (ns : List Str) (vs : List PV)
  | ref (a : Addr) | src | scr (ns : List Int)

/-- sources of draws, in pairs of places -/
abbrev Ws := List (Addr × Addr)
def inW (W : Ws) (b : Addr) : Prop := ∃ p ∈ W, b = p.1 ∨ b = p.2
-- SOURCE FORM
/-- what stands at a source -/
def SA (H : Hp) (p : Addr × Addr) : Prop :=
  p.1 ≠ p.2 ∧ ∃ (cs : List Nat) (s : Nat), cs.length ≤ 63 ∧ s < 2147483647 ∧ H p.1 = some (.lst [.ref p.2, .int (s : Int)]) ∧ H p.2 = some (.lst (cs.map fun (c : Nat) => V.int (c : Int)))
theorem SA.at {H H' : Hp} {p : Addr × Addr} (h1 : H' p.1 = H p.1) (h2 : H' p.2 = H p.2) (h : SA H p) : SA H' p := by
  obtain ⟨n, cs, s, hl, hs, a, b⟩ := h
  exact ⟨n, cs, s, hl, hs, by rw [h1]; exact a, by rw [h2]; exact b⟩
theorem SA.some {H : Hp} {p : Addr × Addr} (h : SA H p) : (∃ o, H p.1 = some o) ∧ ∃ o, H p.2 = some o := by
  obtain ⟨n, cs, s, hl, hs, a, b⟩ := h
  exact ⟨⟨_, a⟩, _, b⟩
-- SOURCE FORM ENDS
theorem inW_some {H : Hp} {W : Ws} (h : ∀ p ∈ W, SA H p) {b : Addr} (hb : inW W b) : ∃ o, H b = some o := by
  obtain ⟨p, hp, e | e⟩ := hb
  · rw [e]; exact (h p hp).some.1
  · rw [e]; exact (h p hp).some.2

/-- a heap with what is to be avoided -/
structure Wd where
  Z : Addr → Prop
  W : Ws
  H : Hp
def KTup (K : PySem.W.Frag) (a : Addr) (xs : List V) : Prop := ∃ (o : Obj) (its : Array Value) (n : Nat), K.lookup a = some o ∧ o.cls = .type "tuple" ∧ o.data = .seq its n ∧ its.size ≤ sizeLine ∧ Vals xs its.toList
def KLst (K : PySem.W.Frag) (a : Addr) (xs : List V) : Prop := ∃ (o : Obj) (its : Array Value) (n : Nat), K.lookup a = some o ∧ o.cls = .type "list" ∧ o.dict = none ∧ o.data = .seq its n ∧ its.size ≤ sizeLine ∧ Vals xs its.toList
def TupAt (K : PySem.W.Frag) (S : Wd) (a : Addr) (xs : List V) : Prop := (¬ S.Z a ∧ S.H a = some (.tup xs)) ∨ KTup K a xs
def LstAt (S : Wd) (a : Addr) (xs : List V) : Prop := ¬ S.Z a ∧ S.H a = some (.lst xs)
theorem TupAt.sq {K : PySem.W.Frag} {S : Wd} {a : Addr} {xs : List V} (h : TupAt K S a xs) : SqT K S.H a xs := h.elim (fun x => .inl (.inl x.2)) .inr
theorem LstAt.sq {K : PySem.W.Frag} {S : Wd} {a : Addr} {xs : List V} (h : LstAt S a xs) : SqL K S.H a xs := .inl (.inl h.2)

mutual
def Rp (K : PySem.W.Frag) (S : Wd) : PV → V → Prop
  | .non, v => v = .non
  | .bl b, v => v = .bl b
  | .int i, v => v = .int i
  | .str x, v => v = .str x
  | .ref a, v => v = .ref a
  | .src, v => ∃ p ∈ S.W, v = .ref p.1
  | .scr ns, v => ∃ a, v = .ref a ∧ ((¬ S.Z a ∧ ∃ o, S.H a = some (.frz o (.lst (ns.map V.int)))) ∨ KLst K a (ns.map V.int))
  | .tup ps, v => ∃ a vs, v = .ref a ∧ TupAt K S a vs ∧ Rps K S ps vs
  | .lst ps, v => ∃ a vs, v = .ref a ∧ LstAt S a vs ∧ Rps K S ps vs
  | .dic ks ps, v => ∃ a vs, v = .ref a ∧ ¬ S.Z a ∧ S.H a = some (.dK (ks.zip vs)) ∧ ks.length = vs.length ∧ Rps K S ps vs
  | .obj C ns ps, v => ∃ a dx vs, v = .ref a ∧ ¬ S.Z a ∧ S.H a = some (.ins C dx (ns.zip vs)) ∧ ns.length = vs.length ∧ Rps K S ps vs
def Rps (K : PySem.W.Frag) (S : Wd) : List PV → List V → Prop
  | [], vs => vs = []
  | p :: ps, vs => ∃ v r, vs = v :: r ∧ Rp K S p v ∧ Rps K S ps r
end

structure Ext (S S' : Wd) : Prop where
  keep : ∀ b o, ¬ S.Z b → S.H b = some o → ¬ S'.Z b ∧ S'.H b = some o
  srcs : ∀ p ∈ S.W, p ∈ S'.W
theorem Ext.trans {S S' S'' : Wd} (x : Ext S S') (y : Ext S' S'') : Ext S S'' :=
  ⟨fun b o h e => let ⟨h1, e1⟩ := x.keep b o h e; y.keep b o h1 e1, fun p hp => y.srcs p (x.srcs p hp)⟩
section
variable {K : PySem.W.Frag} {S S' : Wd}
theorem TupAt.ext (x : Ext S S') {a : Addr} {xs : List V} (h : TupAt K S a xs) : TupAt K S' a xs := h.elim (fun y => .inl (x.keep a _ y.1 y.2)) .inr
theorem LstAt.ext (x : Ext S S') {a : Addr} {xs : List V} (h : LstAt S a xs) : LstAt S' a xs := x.keep a _ h.1 h.2
mutual
theorem Rp.ext (x : Ext S S') : ∀ {p : PV} {v : V}, Rp K S p v → Rp K S' p v
  | .non, _, h => h
  | .bl _, _, h => h
  | .int _, _, h => h
  | .str _, _, h => h
  | .ref _, _, h => h
  | .src, _, h => by
    unfold Rp at h ⊢
    obtain ⟨p, hp, e⟩ := h
    exact ⟨p, x.srcs p hp, e⟩
  | .scr ns, _, h => by
    unfold Rp at h ⊢
    obtain ⟨a, e, h⟩ := h
    rcases h with ⟨h1, o, h2⟩ | h
    · exact ⟨a, e, .inl ⟨(x.keep a _ h1 h2).1, o, (x.keep a _ h1 h2).2⟩⟩
    · exact ⟨a, e, .inr h⟩
  | .tup ps, _, h => by
    unfold Rp at h ⊢
    obtain ⟨a, vs, e, h1, h2⟩ := h
    exact ⟨a, vs, e, h1.ext x, Rps.ext x h2⟩
  | .lst ps, _, h => by
    unfold Rp at h ⊢
    obtain ⟨a, vs, e, h1, h2⟩ := h
    exact ⟨a, vs, e, h1.ext x, Rps.ext x h2⟩
  | .dic ks ps, _, h => by
    unfold Rp at h ⊢
    obtain ⟨a, vs, e, h0, h1, hl, h2⟩ := h
    exact ⟨a, vs, e, (x.keep a _ h0 h1).1, (x.keep a _ h0 h1).2, hl, Rps.ext x h2⟩
  | .obj C ns ps, _, h => by
    unfold Rp at h ⊢
    obtain ⟨a, dx, vs, e, h0, h1, hl, h2⟩ := h
    exact ⟨a, dx, vs, e, (x.keep a _ h0 h1).1, (x.keep a _ h0 h1).2, hl, Rps.ext x h2⟩
theorem Rps.ext (x : Ext S S') : ∀ {ps : List PV} {vs : List V}, Rps K S ps vs → Rps K S' ps vs
  | [], _, h => h
  | p :: ps, _, h => by
    unfold Rps at h ⊢
    obtain ⟨v, r, e, h1, h2⟩ := h
    exact ⟨v, r, e, Rp.ext x h1, Rps.ext x h2⟩
end
theorem Rps.len : ∀ {ps : List PV} {vs : List V}, Rps K S ps vs → ps.length = vs.length
  | [], _, h => by unfold Rps at h; rw [h]; rfl
  | p :: ps, _, h => by
    unfold Rps at h
    obtain ⟨v, r, e, h1, h2⟩ := h
    rw [e, List.length_cons, List.length_cons, Rps.len h2]
theorem Rps.nil : Rps K S [] [] := by unfold Rps; rfl
theorem Rps.cons {p : PV} {ps : List PV} {v : V} {vs : List V} (h : Rp K S p v) (t : Rps K S ps vs) : Rps K S (p :: ps) (v :: vs) := by unfold Rps; exact ⟨v, vs, rfl, h, t⟩
theorem Rps.cons_inv {p : PV} {ps : List PV} {v : V} {vs : List V} (h : Rps K S (p :: ps) (v :: vs)) : Rp K S p v ∧ Rps K S ps vs := by
  unfold Rps at h
  obtain ⟨_, _, e, h1, h2⟩ := h
  cases e
  exact ⟨h1, h2⟩
theorem Rps.get : ∀ {ps : List PV} {vs : List V} {i : Nat} {p : PV}, Rps K S ps vs → ps[i]? = some p → ∃ v, vs[i]? = some v ∧ Rp K S p v
  | [], _, _, _, _, e => by simp at e
  | q :: ps, _, 0, p, h, e => by
    unfold Rps at h
    obtain ⟨v, r, e1, h1, h2⟩ := h
    subst e1
    simp at e
    subst e
    exact ⟨v, by simp, h1⟩
  | q :: ps, _, i + 1, p, h, e => by
    unfold Rps at h
    obtain ⟨v, r, e1, h1, h2⟩ := h
    subst e1
    obtain ⟨w, e2, h3⟩ := Rps.get (i := i) (p := p) h2 (by simpa using e)
    exact ⟨w, by simpa using e2, h3⟩
theorem Rps.append : ∀ {ps qs : List PV} {vs ws : List V}, Rps K S ps vs → Rps K S qs ws → Rps K S (ps ++ qs) (vs ++ ws)
  | [], _, _, _, h, h' => by unfold Rps at h; subst h; exact h'
  | p :: ps, _, _, _, h, h' => by
    unfold Rps at h
    obtain ⟨v, r, e, h1, h2⟩ := h
    subst e
    exact Rps.cons h1 (Rps.append h2 h')
theorem Rps.take : ∀ {ps : List PV} {vs : List V} (n : Nat), Rps K S ps vs → Rps K S (ps.take n) (vs.take n)
  | [], _, _, h => by unfold Rps at h; subst h; simp; exact Rps.nil
  | p :: ps, _, 0, h => by simp; exact Rps.nil
  | p :: ps, _, n + 1, h => by
    unfold Rps at h
    obtain ⟨v, r, e, h1, h2⟩ := h
    subst e
    exact Rps.cons h1 (Rps.take n h2)
theorem Rps.drop : ∀ {ps : List PV} {vs : List V} (n : Nat), Rps K S ps vs → Rps K S (ps.drop n) (vs.drop n)
  | [], _, _, h => by unfold Rps at h; subst h; simp; exact Rps.nil
  | p :: ps, _, 0, h => h
  | p :: ps, _, n + 1, h => by
    unfold Rps at h
    obtain ⟨v, r, e, h1, h2⟩ := h
    subst e
    exact Rps.drop n h2
theorem Rps.set {p : PV} {v : V} (hp : Rp K S p v) : ∀ {ps : List PV} {vs : List V} (n : Nat), Rps K S ps vs → Rps K S (ps.set n p) (vs.set n v)
  | [], _, _, h => by unfold Rps at h; subst h; exact Rps.nil
  | q :: ps, _, 0, h => by
    unfold Rps at h
    obtain ⟨w, r, e, h1, h2⟩ := h
    subst e
    exact Rps.cons hp h2
  | q :: ps, _, n + 1, h => by
    unfold Rps at h
    obtain ⟨w, r, e, h1, h2⟩ := h
    subst e
    exact Rps.cons h1 (Rps.set hp n h2)
theorem Rps.reverse : ∀ {ps : List PV} {vs : List V}, Rps K S ps vs → Rps K S ps.reverse vs.reverse
  | [], _, h => by unfold Rps at h; subst h; exact Rps.nil
  | p :: ps, _, h => by
    unfold Rps at h
    obtain ⟨v, r, e, h1, h2⟩ := h
    subst e
    rw [List.reverse_cons, List.reverse_cons]
    exact Rps.append (Rps.reverse h2) (Rps.cons h1 Rps.nil)
theorem Rps.eraseIdx : ∀ {ps : List PV} {vs : List V} (n : Nat), Rps K S ps vs → Rps K S (ps.eraseIdx n) (vs.eraseIdx n)
  | [], _, _, h => by unfold Rps at h; subst h; exact Rps.nil
  | q :: ps, _, 0, h => by
    unfold Rps at h
    obtain ⟨w, r, e, h1, h2⟩ := h
    subst e
    exact h2
  | q :: ps, _, n + 1, h => by
    unfold Rps at h
    obtain ⟨w, r, e, h1, h2⟩ := h
    subst e
    exact Rps.cons h1 (Rps.eraseIdx n h2)
theorem Rps.ints : ∀ {ns : List Int} {vs : List V}, Rps K S (ns.map PV.int) vs ↔ vs = ns.map V.int
  | [], _ => by unfold Rps; rfl
  | n :: ns, vs => by
    constructor
    · intro h
      rw [List.map_cons] at h
      unfold Rps at h
      obtain ⟨v, r, e, h1, h2⟩ := h
      unfold Rp at h1
      rw [e, h1, Rps.ints.mp h2]
      rfl
    · intro h
      rw [h, List.map_cons, List.map_cons]
      exact Rps.cons (by unfold Rp; rfl) (Rps.ints.mpr rfl)
theorem Rps.strs : ∀ {ns : List Str} {vs : List V}, Rps K S (ns.map PV.str) vs ↔ vs = ns.map V.str
  | [], _ => by unfold Rps; rfl
  | n :: ns, vs => by
    constructor
    · intro h
      rw [List.map_cons] at h
      unfold Rps at h
      obtain ⟨v, r, e, h1, h2⟩ := h
      unfold Rp at h1
      rw [e, h1, Rps.strs.mp h2]
      rfl
    · intro h
      rw [h, List.map_cons, List.map_cons]
      exact Rps.cons (by unfold Rp; rfl) (Rps.strs.mpr rfl)
theorem Rps.bls : ∀ {ns : List Bool} {vs : List V}, Rps K S (ns.map PV.bl) vs ↔ vs = ns.map V.bl
  | [], _ => by unfold Rps; rfl
  | n :: ns, vs => by
    constructor
    · intro h
      rw [List.map_cons] at h
      unfold Rps at h
      obtain ⟨v, r, e, h1, h2⟩ := h
      unfold Rp at h1
      rw [e, h1, Rps.bls.mp h2]
      rfl
    · intro h
      rw [h, List.map_cons, List.map_cons]
      exact Rps.cons (by unfold Rp; rfl) (Rps.bls.mpr rfl)
end

/-- as Rp, but the list at the root may be one's own -/
def RpO (K : PySem.W.Frag) (S : Wd) : PV → V → Prop
  | .lst ps, v => ∃ a vs, v = .ref a ∧ (¬ inW S.W a ∧ S.H a = some (.lst vs)) ∧ Rps K S ps vs
  | .dic ks ps, v => ∃ a vs, v = .ref a ∧ ¬ inW S.W a ∧ S.H a = some (.dK (ks.zip vs)) ∧ ks.length = vs.length ∧ Rps K S ps vs
  | p, v => Rp K S p v
/-- what stands at a, its parts clean -/
def OwnAt (K : PySem.W.Frag) (S : Wd) (a : Addr) : PV → Prop
  | .lst ps => ∃ vs, S.H a = some (.lst vs) ∧ Rps K S ps vs
  | .dic ks ps => ∃ vs, S.H a = some (.dK (ks.zip vs)) ∧ ks.length = vs.length ∧ Rps K S ps vs
  | .obj C ns ps => ∃ dx vs, S.H a = some (.ins C dx (ns.zip vs)) ∧ ns.length = vs.length ∧ Rps K S ps vs
  | _ => False

/-! ### what an expression's value is: clean, its root perhaps one's own, newly made -/
inductive Md where | cl | ow | fr deriving DecidableEq
/-- all that was tracked stays, but the sources; these keep their form -/
structure Grow (W : Ws) (H H' : Hp) : Prop where
  keep : ∀ b o, ¬ inW W b → H b = some o → H' b = some o
  src : ∀ p ∈ W, SA H' p
theorem Grow.trans {W : Ws} {H H1 H2 : Hp} (a : Grow W H H1) (b : Grow W H1 H2) : Grow W H H2 := ⟨fun c o n e => b.keep c o n (a.keep c o n e), b.src⟩
theorem Grow.refl {W : Ws} {H : Hp} (h : ∀ p ∈ W, SA H p) : Grow W H H := ⟨fun _ _ _ e => e, h⟩
theorem Grow.free {W : Ws} {H H1 : Hp} (g : Grow W H H1) {a : Addr} (h : H1 a = none) : H a = none := by
  cases e : H a with
  | none => rfl
  | some o =>
    by_cases w : inW W a
    · obtain ⟨u, e1⟩ := inW_some g.src w
      rw [h] at e1; cases e1
    · rw [g.keep a o w e] at h; cases h
theorem Grow.ext {Z : Addr → Prop} {W : Ws} {H H' : Hp} (g : Grow W H H') (hz : ∀ b, inW W b → Z b) : Ext ⟨Z, W, H⟩ ⟨Z, W, H'⟩ := ⟨fun b o h e => ⟨h, g.keep b o (fun w => h (hz b w)) e⟩, fun _ h => h⟩
/-- a new object -/
theorem Grow.new {W : Ws} {H : Hp} (h : ∀ p ∈ W, SA H p) {a : Addr} {o : HO} (n : H a = none) : Grow W H (upd H a o) := by
  have k : ∀ b u, H b = some u → upd H a o b = some u := fun b u e => by rw [upd_ne (ne_of_none e n)]; exact e
  refine ⟨fun b u _ e => k b u e, fun p hp => ?_⟩
  obtain ⟨⟨_, e1⟩, _, e2⟩ := (h p hp).some
  exact SA.at (by rw [k _ _ e1, e1]) (by rw [k _ _ e2, e2]) (h p hp)
def VK1 (K : PySem.W.Frag) (md : Md) (Z : Addr → Prop) (W : Ws) (H H' : Hp) (p : PV) (v : V) : Prop :=
  match md with
  | .cl => Rp K ⟨Z, W, H'⟩ p v
  | .ow => RpO K ⟨Z, W, H'⟩ p v
  | .fr => ∃ a, v = .ref a ∧ H a = none ∧ OwnAt K ⟨fun b => Z b ∨ b = a, W, H'⟩ a p
section
variable {K : PySem.W.Frag} {Z Z' : Addr → Prop} {W : Ws} {H H1 H' : Hp} {p : PV} {v : V}
theorem Rp.ow (hz : ∀ b, inW W b → Z b) (h : Rp K ⟨Z, W, H⟩ p v) : RpO K ⟨Z, W, H⟩ p v := by
  cases p with
  | lst ps =>
    unfold Rp at h
    obtain ⟨a, vs, e, h1, h2⟩ := h
    exact ⟨a, vs, e, ⟨fun w => h1.1 (hz a w), h1.2⟩, h2⟩
  | dic ks ps =>
    unfold Rp at h
    obtain ⟨a, vs, e, h0, h1⟩ := h
    exact ⟨a, vs, e, fun w => h0 (hz a w), h1⟩
  | _ => exact h
theorem ext_less (h : ∀ b, Z' b → Z b) : Ext ⟨Z, W, H⟩ ⟨Z', W, H⟩ := ⟨fun b o n e => ⟨fun z => n (h b z), e⟩, fun _ h => h⟩
/-- newly made is clean -/
theorem OwnAt.cl {a : Addr} (hz : ¬ Z a) (h : OwnAt K ⟨fun b => Z b ∨ b = a, W, H⟩ a p) : Rp K ⟨Z, W, H⟩ p (.ref a) := by
  have x : Ext ⟨fun b => Z b ∨ b = a, W, H⟩ ⟨Z, W, H⟩ := ext_less fun b => .inl
  cases p with
  | lst ps =>
    obtain ⟨vs, e, r⟩ := h
    unfold Rp
    exact ⟨a, vs, rfl, ⟨hz, e⟩, Rps.ext x r⟩
  | dic ks ps =>
    obtain ⟨vs, e, l, r⟩ := h
    unfold Rp
    exact ⟨a, vs, rfl, hz, e, l, Rps.ext x r⟩
  | obj C ns ps =>
    obtain ⟨dx, vs, e, l, r⟩ := h
    unfold Rp
    exact ⟨a, dx, vs, rfl, hz, e, l, Rps.ext x r⟩
  | _ => exact h.elim
theorem VK1.cl (hd : ∀ b, Z b → ∃ o, H b = some o) (h : VK1 K .fr Z W H H' p v) : VK1 K .cl Z W H H' p v := by
  obtain ⟨a, rfl, n, o⟩ := h
  exact o.cl fun z => by
    obtain ⟨u, e⟩ := hd a z
    rw [n] at e; cases e
theorem RpO.grow (hz : ∀ b, inW W b → Z b) (g : Grow W H H') (h : RpO K ⟨Z, W, H⟩ p v) : RpO K ⟨Z, W, H'⟩ p v := by
  cases p with
  | lst ps =>
    obtain ⟨a, vs, e, h1, h2⟩ := h
    exact ⟨a, vs, e, ⟨h1.1, g.keep a _ h1.1 h1.2⟩, Rps.ext (g.ext hz) h2⟩
  | dic ks ps =>
    obtain ⟨a, vs, e, h0, h1, l, h2⟩ := h
    exact ⟨a, vs, e, h0, g.keep a _ h0 h1, l, Rps.ext (g.ext hz) h2⟩
  | non => exact Rp.ext (g.ext hz) h
  | bl _ => exact Rp.ext (g.ext hz) h
  | int _ => exact Rp.ext (g.ext hz) h
  | str _ => exact Rp.ext (g.ext hz) h
  | ref _ => exact Rp.ext (g.ext hz) h
  | src => exact Rp.ext (g.ext hz) h
  | scr _ => exact Rp.ext (g.ext hz) h
  | tup _ => exact Rp.ext (g.ext hz) h
  | obj _ _ _ => exact Rp.ext (g.ext hz) h
end

/-! ### a def's state -/
/-- how a name holds its list: shared, its own, its own and locked -/
inductive Ow where | sh | ow | lk deriving DecidableEq
abbrev Env := List (Option PV)
/-- what is fixed while a def runs -/
structure Gh where
  gw : Bool
  zb : Addr → Prop
  W0 : Ws
  H0 : Hp
  fz : Hp
  Wm : Ws
  pins : List (Nat × Addr × HO)
def cO (c : List Ow) (i : Nat) : Ow := c.getD i .sh
def Zt (G : Gh) (A : Nat → Option Addr) (W : Ws) : Addr → Prop := fun b => G.zb b ∨ inW W b ∨ ∃ i, A i = some b
structure SR (K : PySem.W.Frag) (G : Gh) (c : List Ow) (A : Nat → Option Addr) (W : Ws) (env : Env) (σ : St) (H : Hp) : Prop where
  len : env.length = σ.length
  W0in : ∀ p ∈ G.W0, p ∈ W
  Wmin : ∀ p ∈ G.Wm, p ∈ W
  Wnew : ∀ p ∈ W, p ∈ G.W0 ∨ (G.H0 p.1 = none ∧ G.H0 p.2 = none)
  Wfix : G.gw = false → W = G.W0
  src : ∀ p ∈ W, SA H p
  keep : ∀ b o, ¬ inW G.W0 b → G.H0 b = some o → H b = some o
  zbt : ∀ b, G.zb b → ∃ o, H b = some o
  Asep : ∀ i a, A i = some a → G.H0 a = none ∧ ¬ inW W a ∧ ¬ G.zb a ∧ cO c i ≠ .sh ∧ ∃ o, H a = some o
  Ainj : ∀ i j a, A i = some a → A j = some a → i = j
  Aset : ∀ i p, cO c i ≠ .sh → env[i]? = some (some p) → ∃ a, A i = some a
  slots : ∀ i p, env[i]? = some (some p) → ∃ v, σ[i]? = some (some v) ∧
    match A i with
    | none => Rp K ⟨Zt G A W, W, H⟩ p v
    | some a => v = .ref a ∧ OwnAt K ⟨Zt G A W, W, H⟩ a p
  pins : ∀ q ∈ G.pins, H q.2.1 = some q.2.2 ∧ ¬ inW W q.2.1 ∧ A q.1 = some q.2.1 ∧ cO c q.1 = .lk
  fz : ∀ b o, G.fz b = some o → H b = some o ∧ ¬ Zt G A W b
section
variable {K : PySem.W.Frag} {G : Gh} {c : List Ow} {A : Nat → Option Addr} {W : Ws} {env : Env} {σ : St} {H H' : Hp}
theorem Zt.w {b : Addr} (h : inW W b) : Zt G A W b := .inr (.inl h)
theorem SR.zt (R : SR K G c A W env σ H) {b : Addr} (h : Zt G A W b) : ∃ o, H b = some o := by
  rcases h with h | h | ⟨i, h⟩
  · exact R.zbt b h
  · exact inW_some R.src h
  · exact (R.Asep i b h).2.2.2.2
theorem OwnAt.ext {S S' : Wd} (x : Ext S S') {a : Addr} (e : S'.H a = S.H a) {p : PV} (h : OwnAt K S a p) : OwnAt K S' a p := by
  cases p with
  | lst ps => obtain ⟨vs, h1, h2⟩ := h; exact ⟨vs, by rw [e]; exact h1, Rps.ext x h2⟩
  | dic ks ps => obtain ⟨vs, h1, l, h2⟩ := h; exact ⟨vs, by rw [e]; exact h1, l, Rps.ext x h2⟩
  | obj C ns ps => obtain ⟨dx, vs, h1, l, h2⟩ := h; exact ⟨dx, vs, by rw [e]; exact h1, l, Rps.ext x h2⟩
  | _ => exact h.elim
theorem SR.grow (R : SR K G c A W env σ H) (g : Grow W H H') : SR K G c A W env σ H' := by
  have x : Ext ⟨Zt G A W, W, H⟩ ⟨Zt G A W, W, H'⟩ := g.ext fun b => Zt.w
  have kA : ∀ i a, A i = some a → H' a = H a := fun i a e => by
    obtain ⟨_, n, _, _, o, ho⟩ := R.Asep i a e
    rw [ho, g.keep a o n ho]
  refine ⟨R.len, R.W0in, R.Wmin, R.Wnew, R.Wfix, g.src, fun b o n e => ?_, fun b hb => ?_, fun i a e => ?_, R.Ainj, R.Aset, fun i p e => ?_, fun q hq => ?_, fun b o e => ?_⟩
  · refine g.keep b o (fun w => ?_) (R.keep b o n e)
    obtain ⟨p, hp, hb⟩ := w
    rcases R.Wnew p hp with z | ⟨z1, z2⟩
    · exact n ⟨p, z, hb⟩
    · rcases hb with hb | hb
      · rw [hb, z1] at e; cases e
      · rw [hb, z2] at e; cases e
  · obtain ⟨o, e⟩ := R.zbt b hb
    by_cases w : inW W b
    · exact inW_some g.src w
    · exact ⟨o, g.keep b o w e⟩
  · obtain ⟨h1, h2, h3, h4, o, h5⟩ := R.Asep i a e
    exact ⟨h1, h2, h3, h4, o, g.keep a o h2 h5⟩
  · obtain ⟨v, h1, h2⟩ := R.slots i p e
    refine ⟨v, h1, ?_⟩
    cases hA : A i with
    | none => rw [hA] at h2; exact Rp.ext x h2
    | some a => rw [hA] at h2; exact ⟨h2.1, h2.2.ext x (kA i a hA)⟩
  · obtain ⟨h1, h2, h3⟩ := R.pins q hq
    exact ⟨g.keep _ _ h2 h1, h2, h3⟩
  · obtain ⟨h1, h2⟩ := R.fz b o e
    exact ⟨g.keep b o (fun w => h2 (Zt.w w)) h1, h2⟩
end
end PM

set_option maxHeartbeats 1000000
/-! PM: expressions. -/
namespace PM
open PySem L2

abbrev TEm := Env → (PV → Prop) → Prop
abbrev TAm := Env → (List PV → Prop) → Prop
abbrev TTm := Env → (Bool → Prop) → Prop
def tmE (K : PySem.W.Frag) (c : List Ow) (md : Md) (t : TEm) : TE := fun σ H Q => ∃ G A W env P, SR K G c A W env σ H ∧ t env P ∧ ∀ p v H', Grow W H H' → VK1 K md (Zt G A W) W H H' p v → P p → Q v H'
def tmT (K : PySem.W.Frag) (c : List Ow) (t : TTm) : TT := fun σ H Q => ∃ G A W env P, SR K G c A W env σ H ∧ t env P ∧ ∀ b H', Grow W H H' → P b → Q b H'
def VKs (K : PySem.W.Frag) (md : Md) (Z : Addr → Prop) (W : Ws) (H : Hp) : List PV → List V → Prop := Paired (match md with
  | .ow => RpO K ⟨Z, W, H⟩
  | _ => Rp K ⟨Z, W, H⟩)
def tmA (K : PySem.W.Frag) (c : List Ow) (md : Md) (t : TAm) : TA := fun σ H Q => ∃ G A W env P, SR K G c A W env σ H ∧ t env P ∧ ∀ ps vs H', Grow W H H' → VKs K md (Zt G A W) W H' ps vs → P ps → Q vs H'
structure PEm (X : Cx) (c : List Ow) (md : Md) (e : Expr) (t : TEm) : Prop where
  run : PE X e (tmE X.K c md t)
structure PTm (X : Cx) (c : List Ow) (e : Expr) (t : TTm) : Prop where
  run : PT X e (tmT X.K c t)
structure PWm (X : Cx) (c : List Ow) (e : Expr) (t : TTm) : Prop where
  run : PW X e (tmT X.K c t)
structure PAm (X : Cx) (c : List Ow) (md : Md) (es : List Expr) (t : TAm) : Prop where
  run : PA X es (tmA X.K c md t)
theorem _root_.L2.PE.weak {X : Cx} {e : Expr} {t t' : TE} (h : PE X e t) (k : ∀ σ H Q, t' σ H Q → t σ H Q) : PE X e t' := ⟨fun pins s σ H Q I x => h.run pins s σ H Q I (k σ H Q x)⟩
theorem _root_.L2.PT.weak {X : Cx} {e : Expr} {t t' : TT} (h : PT X e t) (k : ∀ σ H Q, t' σ H Q → t σ H Q) : PT X e t' := ⟨fun pins s σ H Q I x => h.run pins s σ H Q I (k σ H Q x)⟩
theorem _root_.L2.PW.weak {X : Cx} {e : Expr} {t t' : TT} (h : PW X e t) (k : ∀ σ H Q, t' σ H Q → t σ H Q) : PW X e t' := ⟨fun wh pins s σ H Q I x => h.run wh pins s σ H Q I (k σ H Q x)⟩
theorem _root_.L2.PA.weak {X : Cx} {e : List Expr} {t t' : TA} (h : PA X e t) (k : ∀ σ H Q, t' σ H Q → t σ H Q) : PA X e t' := ⟨fun pos pins s σ H Q I x => h.run pos pins s σ H Q I (k σ H Q x)⟩

section
variable {K : PySem.W.Frag} {Z Z' : Addr → Prop} {W : Ws} {H H1 H' : Hp} {p : PV} {v : V} {md : Md}
/-- any value may be taken as one whose root is perhaps one's own -/
theorem VK1.ow (hz : ∀ b, inW W b → Z b) (hd : ∀ b, Z b → ∃ o, H b = some o) (h : VK1 K md Z W H H' p v) : RpO K ⟨Z, W, H'⟩ p v := by
  cases md with
  | cl => exact Rp.ow hz h
  | ow => exact h
  | fr => exact Rp.ow hz (VK1.cl hd h)
theorem VK1.back {H0 : Hp} (g : Grow W H0 H) (h : VK1 K md Z W H H' p v) : VK1 K md Z W H0 H' p v := by
  cases md with
  | cl => exact h
  | ow => exact h
  | fr =>
    obtain ⟨a, e, n, o⟩ := h
    exact ⟨a, e, g.free n, o⟩
/-- what has no list is clean -/
theorem RpO.cl (hp : ∀ ps, p ≠ .lst ps) (hq : ∀ ks ps, p ≠ .dic ks ps) (h : RpO K ⟨Z, W, H⟩ p v) : Rp K ⟨Z, W, H⟩ p v := by
  cases p with
  | lst ps => exact absurd rfl (hp ps)
  | dic ks ps => exact absurd rfl (hq ks ps)
  | _ => exact h
theorem RpO.int {i : Int} (h : RpO K ⟨Z, W, H⟩ (.int i) v) : v = .int i := by unfold RpO Rp at h; exact h
theorem RpO.bl {i : Bool} (h : RpO K ⟨Z, W, H⟩ (.bl i) v) : v = .bl i := by unfold RpO Rp at h; exact h
theorem RpO.str {i : Str} (h : RpO K ⟨Z, W, H⟩ (.str i) v) : v = .str i := by unfold RpO Rp at h; exact h
theorem RpO.non (h : RpO K ⟨Z, W, H⟩ .non v) : v = .non := by unfold RpO Rp at h; exact h
theorem RpO.tup {ps : List PV} (h : RpO K ⟨Z, W, H⟩ (.tup ps) v) : ∃ a vs, v = .ref a ∧ TupAt K ⟨Z, W, H⟩ a vs ∧ Rps K ⟨Z, W, H⟩ ps vs := by unfold RpO Rp at h; exact h
theorem RpO.lst {ps : List PV} (h : RpO K ⟨Z, W, H⟩ (.lst ps) v) : ∃ a vs, v = .ref a ∧ (¬ inW W a ∧ H a = some (.lst vs)) ∧ Rps K ⟨Z, W, H⟩ ps vs := by unfold RpO at h; exact h
theorem Rp.int' {i : Int} : Rp K ⟨Z, W, H⟩ (.int i) (.int i) := by unfold Rp; rfl
theorem Rp.bl' {i : Bool} : Rp K ⟨Z, W, H⟩ (.bl i) (.bl i) := by unfold Rp; rfl
theorem Rp.str' {i : Str} : Rp K ⟨Z, W, H⟩ (.str i) (.str i) := by unfold Rp; rfl
theorem Rp.non' : Rp K ⟨Z, W, H⟩ .non .non := by unfold Rp; rfl
/-- a new tuple -/
theorem Rp.newTup {ps : List PV} {vs : List V} {a : Addr} (hz : ¬ Z a) (n : H a = none) (hs : ∀ p ∈ W, SA H p) (hw : ∀ b, inW W b → Z b) (h : Rps K ⟨Z, W, H⟩ ps vs) : Rp K ⟨Z, W, upd H a (.tup vs)⟩ (.tup ps) (.ref a) := by
  unfold Rp
  exact ⟨a, vs, rfl, .inl ⟨hz, upd_same⟩, Rps.ext ((Grow.new hs n).ext hw) h⟩
/-- a new list -/
theorem OwnAt.newLst {ps : List PV} {vs : List V} {a : Addr} (n : H a = none) (h : Rps K ⟨Z, W, H⟩ ps vs) : OwnAt K ⟨fun b => Z b ∨ b = a, W, upd H a (.lst vs)⟩ a (.lst ps) :=
by
  have x : Ext ⟨Z, W, H⟩ ⟨fun b => Z b ∨ b = a, W, upd H a (.lst vs)⟩ := by
    refine ⟨fun b o z e => ⟨fun y => ?_, ?_⟩, fun _ h => h⟩
    · have e' : H b = some o := e
      rcases y with y | y
      · exact z y
      · rw [y, n] at e'; cases e'
    · have e' : H b = some o := e
      show upd H a (.lst vs) b = some o
      rw [upd_ne (ne_of_none e' n)]; exact e'
  exact ⟨vs, upd_same, Rps.ext x h⟩
theorem VK1.ofRp (h : Rp K ⟨Z, W, H'⟩ p v) : VK1 K .cl Z W H H' p v := h
theorem VK1.o (h : VK1 K .ow Z W H H' p v) : RpO K ⟨Z, W, H'⟩ p v := h
theorem VK1.c (h : VK1 K .cl Z W H H' p v) : Rp K ⟨Z, W, H'⟩ p v := h
theorem VK1.bl {b : Bool} (h : VK1 K md Z W H H' (.bl b) v) : v = .bl b := by
  cases md with
  | cl => unfold VK1 Rp at h; exact h
  | ow => unfold VK1 RpO Rp at h; exact h
  | fr => obtain ⟨a, _, _, h⟩ := h; exact h.elim
end
theorem SR.dz {K : PySem.W.Frag} {G : Gh} {c : List Ow} {A : Nat → Option Addr} {W : Ws} {env : Env} {σ : St} {H : Hp} (R : SR K G c A W env σ H) : ∀ b, Zt G A W b → ∃ o, H b = some o := fun _ h => R.zt h
theorem SR.nz {K : PySem.W.Frag} {G : Gh} {c : List Ow} {A : Nat → Option Addr} {W : Ws} {env : Env} {σ : St} {H : Hp} (R : SR K G c A W env σ H) {a : Addr} (n : H a = none) : ¬ Zt G A W a := fun z => by
  obtain ⟨o, e⟩ := R.zt z
  rw [n] at e; cases e
theorem SR.sz {K : PySem.W.Frag} {G : Gh} {c : List Ow} {A : Nat → Option Addr} {W : Ws} {env : Env} {σ : St} {H : Hp} (_ : SR K G c A W env σ H) : ∀ b, inW W b → Zt G A W b := fun _ => Zt.w

/-! ### coercions -/
section
variable {X : Cx} {c : List Ow} {e : Expr} {t : TEm} {md : Md}
theorem PEm.ow (h : PEm X c md e t) : PEm X c .ow e t := ⟨h.run.weak fun σ H Q ⟨G, A, W, env, P, R, ht, k⟩ => ⟨G, A, W, env, P, R, ht, fun p v H' g r hp => k p v H' g (r.ow R.sz R.dz) hp⟩⟩
theorem PEm.cl (h : PEm X c .fr e t) : PEm X c .cl e t := ⟨h.run.weak fun σ H Q ⟨G, A, W, env, P, R, ht, k⟩ => ⟨G, A, W, env, P, R, ht, fun p v H' g r hp => k p v H' g (VK1.cl R.dz r) hp⟩⟩
end

/-! ### names, constants -/
section
variable {X : Cx} {c : List Ow} {pos : Pos}
def mVar (i : Nat) : TEm := fun env P => ∃ v, env[i]? = some (some v) ∧ P v
def mC (p : PV) : TEm := fun _ P => P p
/-- a shared name -/
theorem em_var (i : Nat) {x : Str} (hN : X.N[i]? = some x := by rfl) (hc : cO c i = .sh := by rfl) (hv : Vis X.env.scope x := by first | exact Or.inl rfl | exact Or.inr (Or.inl rfl) | exact Or.inr (Or.inr rfl)) (hd : (x == ("__debug__" : Str)) = false := by decide)
    (hcd : (x == ("__classdict__" : Str)) = false := by decide) : PEm X c .cl (.Name x pos) (mVar i) := ⟨(pe_var hN hv hd hcd).weak fun σ H Q h => by
  obtain ⟨G, A, W, env, P, R, ⟨p, e, hp⟩, k⟩ := h
  obtain ⟨v, e1, h1⟩ := R.slots i p e
  cases hA : A i with
  | none =>
    rw [hA] at h1
    exact ⟨v, e1, k p v H (Grow.refl R.src) h1 hp⟩
  | some a => exact absurd hc (R.Asep i a hA).2.2.2.1⟩
def mVarO (i : Nat) : TEm := fun env P => ∃ v, env[i]? = some (some v) ∧ (∀ C ns ps, v ≠ .obj C ns ps) ∧ P v
/-- any name -/
theorem em_varO (i : Nat) {x : Str} (hN : X.N[i]? = some x := by rfl) (hv : Vis X.env.scope x := by first | exact Or.inl rfl | exact Or.inr (Or.inl rfl) | exact Or.inr (Or.inr rfl)) (hd : (x == ("__debug__" : Str)) = false := by decide)
    (hcd : (x == ("__classdict__" : Str)) = false := by decide) : PEm X c .ow (.Name x pos) (mVarO i) := ⟨(pe_var hN hv hd hcd).weak fun σ H Q h => by
  obtain ⟨G, A, W, env, P, R, ⟨p, e, no, hp⟩, k⟩ := h
  obtain ⟨v, e1, h1⟩ := R.slots i p e
  refine ⟨v, e1, k p v H (Grow.refl R.src) ?_ hp⟩
  cases hA : A i with
  | none =>
    rw [hA] at h1
    exact Rp.ow R.sz h1
  | some a =>
    rw [hA] at h1
    obtain ⟨rfl, h1⟩ := h1
    have nw := (R.Asep i a hA).2.1
    cases p with
    | lst ps => obtain ⟨vs, e2, r⟩ := h1; exact ⟨a, vs, rfl, ⟨nw, e2⟩, r⟩
    | dic ks ps => obtain ⟨vs, e2, l, r⟩ := h1; exact ⟨a, vs, rfl, nw, e2, l, r⟩
    | obj C ns ps => exact absurd rfl (no C ns ps)
    | _ => exact h1.elim⟩
theorem em_const {md : Md} {e : Expr} {p : PV} {v : V} (h : PE X e (tC v)) (r : ∀ Z W H, Rp X.K ⟨Z, W, H⟩ p v) : PEm X c .cl e (mC p) := ⟨h.weak fun σ H Q h => by
  obtain ⟨G, A, W, env, P, R, hp, k⟩ := h
  exact k p v H (Grow.refl R.src) (r _ _ _) hp⟩
theorem em_int {i : Int} {j : Nat} : PEm X c .cl (.Constant (.int i) j pos) (mC (.int i)) := em_const (md := .cl) pe_int fun _ _ _ => Rp.int'
theorem em_bl {b : Bool} {j : Nat} : PEm X c .cl (.Constant (.bool b) j pos) (mC (.bl b)) := em_const (md := .cl) pe_bl fun _ _ _ => Rp.bl'
theorem em_non {j : Nat} : PEm X c .cl (.Constant .none j pos) (mC .non) := em_const (md := .cl) pe_non fun _ _ _ => Rp.non'
theorem em_str {x : Str} {j : Nat} : PEm X c .cl (.Constant (.str x) j pos) (mC (.str x)) := em_const (md := .cl) pe_str fun _ _ _ => Rp.str'
end

/-! ### operations by values -/
abbrev PO2 := PV → PV → (PV → Prop) → Prop
abbrev PO1 := PV → (PV → Prop) → Prop
abbrev POn := List PV → (PV → Prop) → Prop
/-- what stands around an operation -/
structure Sit (Z : Addr → Prop) (W : Ws) (H : Hp) : Prop where
  wz : ∀ b, inW W b → Z b
  src : ∀ p ∈ W, SA H p
  zd : ∀ b, Z b → ∃ o, H b = some o
theorem SR.sit {K : PySem.W.Frag} {G : Gh} {c : List Ow} {A : Nat → Option Addr} {W : Ws} {env : Env} {σ : St} {H : Hp} (R : SR K G c A W env σ H) : Sit (Zt G A W) W H := ⟨R.sz, R.src, R.dz⟩
theorem Sit.nz {Z : Addr → Prop} {W : Ws} {H : Hp} (s : Sit Z W H) {a : Addr} (n : H a = none) : ¬ Z a := fun z => by
  obtain ⟨o, e⟩ := s.zd a z
  rw [n] at e; cases e
def Lift1 (K : PySem.W.Frag) (r : V → Hp → VK → Prop) (o : PO1) (md : Md) : Prop :=
  ∀ Z W H px vx P Q, Sit Z W H → RpO K ⟨Z, W, H⟩ px vx → o px P → (∀ p v H', Grow W H H' → VK1 K md Z W H H' p v → P p → Q v H') → r vx H Q
def Lift2 (K : PySem.W.Frag) (r : R2) (o : PO2) (md : Md) : Prop :=
  ∀ Z W H px py vx vy P Q, Sit Z W H → RpO K ⟨Z, W, H⟩ px vx → RpO K ⟨Z, W, H⟩ py vy → o px py P → (∀ p v H', Grow W H H' → VK1 K md Z W H H' p v → P p → Q v H') → r vx vy H Q
def LiftN (K : PySem.W.Frag) (r : List V → Hp → VK → Prop) (o : POn) (md : Md) : Prop :=
  ∀ Z W H ps vs P Q, Sit Z W H → VKs K .ow Z W H ps vs → o ps P → (∀ p v H', Grow W H H' → VK1 K md Z W H H' p v → P p → Q v H') → r vs H Q
def mOp1 (o : PO1) (ta : TEm) : TEm := fun env P => ta env fun x => o x P
def mOp (o : PO2) (ta tb : TEm) : TEm := fun env P => ta env fun x => tb env fun y => o x y P
def mB (o : POn) (t : TAm) : TEm := fun env P => t env fun xs => o xs P
section
variable {X : Cx} {c : List Ow} {a b : Expr} {ta tb : TEm} {md : Md} {pos : Pos} {r : R2} {o : PO2}
theorem tm1 {K : PySem.W.Frag} {r : V → Hp → VK → Prop} {o : PO1} (L : Lift1 K r o md) (σ : St) (H : Hp) (Q : VK) (h : tmE K c md (mOp1 o ta) σ H Q) : tmE K c .ow ta σ H fun x H1 => r x H1 Q := by
  obtain ⟨G, A, W, env, P, R, h, k⟩ := h
  exact ⟨G, A, W, env, _, R, h, fun px vx H1 g1 rx h1 => L _ W H1 px vx P Q (R.grow g1).sit rx h1 fun p v H' g r hp => k p v H' (g1.trans g) (r.back g1) hp⟩
theorem tm2 {K : PySem.W.Frag} (L : Lift2 K r o md) (σ : St) (H : Hp) (Q : VK) (h : tmE K c md (mOp o ta tb) σ H Q) : tOp r (tmE K c .ow ta) (tmE K c .ow tb) σ H Q := by
  obtain ⟨G, A, W, env, P, R, h, k⟩ := h
  refine ⟨G, A, W, env, _, R, h, fun px vx H1 g1 rx h1 => ⟨G, A, W, env, _, R.grow g1, h1, fun py vy H2 g2 ry h2 => ?_⟩⟩
  exact L _ W H2 px py vx vy P Q ((R.grow g1).grow g2).sit (RpO.grow R.sz g2 rx) ry h2 fun p v H' g r hp => k p v H' ((g1.trans g2).trans g) (r.back (g1.trans g2)) hp
theorem em_op {op : Operator} (ho : OpR X (binaryOp op) r) (L : Lift2 X.K r o md) (ha : PEm X c .ow a ta) (hb : PEm X c .ow b tb) : PEm X c md (.BinOp a op b pos) (mOp o ta tb) := ⟨(pe_op ho ha.run hb.run).weak (tm2 L)⟩
theorem em_cmp {op : CmpOp} (ho : OpR X (compareOp op) r) (L : Lift2 X.K r o md) (ha : PEm X c .ow a ta) (hb : PEm X c .ow b tb) (hm : behindInMarks op b = false) : PEm X c md (.Compare a [op] [b] pos) (mOp o ta tb) := ⟨(pe_cmpR ho ha.run hb.run hm).weak (tm2 L)⟩
theorem em_un {op : UnaryOp} {r : V → Hp → VK → Prop} {o : PO1} (ho : UnR X (unaryOp op) r) (L : Lift1 X.K r o md) (ha : PEm X c .ow a ta) : PEm X c md (.UnaryOp op a pos) (mOp1 o ta) := ⟨(pe_un ho ha.run).weak (tm1 L)⟩
/-- arguments -/
def mNil : TAm := fun _ P => P []
def mCons (t : TEm) (ts : TAm) : TAm := fun env P => t env fun x => ts env fun xs => P (x :: xs)
variable {e : Expr} {es : List Expr} {te : TEm} {t : TAm}
theorem am_nil : PAm X c md [] mNil := ⟨pa_nil.weak fun σ H Q h => by
  obtain ⟨G, A, W, env, P, R, h, k⟩ := h
  exact k [] [] H (Grow.refl R.src) .nil h⟩
theorem VKs.grow {K : PySem.W.Frag} {Z : Addr → Prop} {W : Ws} {H H' : Hp} (hz : ∀ b, inW W b → Z b) (g : Grow W H H') : ∀ {ps : List PV} {vs : List V}, VKs K md Z W H ps vs → VKs K md Z W H' ps vs
  | _, _, .nil => .nil
  | _, _, .cons h t => .cons (by cases md with
    | cl => exact Rp.ext (g.ext hz) h
    | fr => exact Rp.ext (g.ext hz) h
    | ow => exact RpO.grow hz g h) (VKs.grow hz g t)
theorem am_cons (ha : PEm X c .ow e te) (hr : PAm X c .ow es t) (hs : starEach (e :: es) X.env = (false, eval e X.env) :: starEach es X.env := by rfl) : PAm X c .ow (e :: es) (mCons te t) := ⟨(pa_cons ha.run hr.run hs).weak fun σ H Q h => by
  obtain ⟨G, A, W, env, P, R, h, k⟩ := h
  refine ⟨G, A, W, env, _, R, h, fun px vx H1 g1 rx h1 => ⟨G, A, W, env, _, R.grow g1, h1, fun ps vs H2 g2 rs h2 => ?_⟩⟩
  exact k (px :: ps) (vx :: vs) H2 (g1.trans g2) (.cons (RpO.grow R.sz g2 rx) rs) h2⟩
theorem am_consC (ha : PEm X c .cl e te) (hr : PAm X c .cl es t) (hs : starEach (e :: es) X.env = (false, eval e X.env) :: starEach es X.env := by rfl) : PAm X c .cl (e :: es) (mCons te t) := ⟨(pa_cons ha.run hr.run hs).weak fun σ H Q h => by
  obtain ⟨G, A, W, env, P, R, h, k⟩ := h
  refine ⟨G, A, W, env, _, R, h, fun px vx H1 g1 rx h1 => ⟨G, A, W, env, _, R.grow g1, h1, fun ps vs H2 g2 rs h2 => ?_⟩⟩
  exact k (px :: ps) (vx :: vs) H2 (g1.trans g2) (.cons (Rp.ext (g2.ext R.sz) rx) rs) h2⟩
theorem VKs.rps {K : PySem.W.Frag} {Z : Addr → Prop} {W : Ws} {H : Hp} : ∀ {ps : List PV} {vs : List V}, VKs K .cl Z W H ps vs → Rps K ⟨Z, W, H⟩ ps vs
  | _, _, .nil => Rps.nil
  | _, _, .cons h t => Rps.cons h (VKs.rps t)
theorem tmN {K : PySem.W.Frag} {r : List V → Hp → VK → Prop} {o : POn} (L : LiftN K r o md) (σ : St) (H : Hp) (Q : VK) (h : tmE K c md (mB o t) σ H Q) : tCB r (tmA K c .ow t) σ H Q := by
  obtain ⟨G, A, W, env, P, R, h, k⟩ := h
  exact ⟨G, A, W, env, _, R, h, fun ps vs H1 g1 rs h1 => L _ W H1 ps vs P Q (R.grow g1).sit rs h1 fun p v H' g r hp => k p v H' (g1.trans g) (r.back g1) hp⟩
/-- a built-in function, a built-in class, called -/
theorem em_callB {id : String} {x : Str} {p : Pos} {r : List V → Hp → VK → Prop} {o : POn} (hc : CallR X (.builtin id) r) (L : LiftN X.K r o md) (hg : Gl X x) (hm : X.mg x = none) (hv : bootBuiltins x = some (.builtin id)) (ha : PAm X c .ow (e :: es) t) (hn : x ≠ "__name__" := by decide) (hdb : (x == ("__debug__" : Str)) = false := by decide)
    (he : starEach (e :: es) X.env = (false, eval e X.env) :: starEach es X.env := by rfl) (hpl : (backTo pos (starEach es X.env)).any (·.1) = false := by rfl) : PEm X c md (.Call (.Name x p) (e :: es) [] pos) (mB o t) :=
  ⟨(pe_callB hc hg hm hv ha.run hn hdb he hpl).weak (tmN L)⟩
theorem em_callTy {T : String} {x : Str} {p : Pos} {r : List V → Hp → VK → Prop} {o : POn} (hc : CallR X (.type T) r) (L : LiftN X.K r o md) (hg : Gl X x) (hm : X.mg x = none) (hv : bootBuiltins x = some (.type T)) (ha : PAm X c .ow (e :: es) t) (hn : x ≠ "__name__" := by decide) (hdb : (x == ("__debug__" : Str)) = false := by decide)
    (he : starEach (e :: es) X.env = (false, eval e X.env) :: starEach es X.env := by rfl) (hpl : (backTo pos (starEach es X.env)).any (·.1) = false := by rfl) : PEm X c md (.Call (.Name x p) (e :: es) [] pos) (mB o t) :=
  ⟨(pe_callTy hc hg hm hv ha.run hn hdb he hpl).weak (tmN L)⟩
/-- displays -/
def mTup (t : TAm) : TEm := fun env P => t env fun xs => xs.length ≤ sizeLine ∧ P (.tup xs)
def mLst (t : TAm) : TEm := fun env P => t env fun xs => xs.length ≤ sizeLine ∧ P (.lst xs)
theorem Paired.len {α β : Type} {R : α → β → Prop} : ∀ {xs : List α} {ys : List β}, Paired R xs ys → xs.length = ys.length
  | _, _, .nil => rfl
  | _, _, .cons _ t => by rw [List.length_cons, List.length_cons, Paired.len t]
theorem em_tup {x1 : Nat} (h : PAm X c .cl es t) : PEm X c .cl (.Tuple es x1 pos) (mTup t) := ⟨(pe_tup h.run).weak fun σ H Q h => by
  obtain ⟨G, A, W, env, P, R, h, k⟩ := h
  refine ⟨G, A, W, env, _, R, h, fun ps vs H1 g1 rs ⟨hl, h1⟩ => ⟨by rw [← Paired.len rs]; exact hl, fun a n => ?_⟩⟩
  have R1 := R.grow g1
  exact k (.tup ps) (.ref a) _ (g1.trans (Grow.new R1.src n)) (Rp.newTup (R1.nz n) n R1.src R.sz rs.rps) h1⟩
theorem em_lst (h : PAm X c .cl es t) : PEm X c .fr (.List es pos) (mLst t) := ⟨(pe_lst h.run).weak fun σ H Q h => by
  obtain ⟨G, A, W, env, P, R, h, k⟩ := h
  refine ⟨G, A, W, env, _, R, h, fun ps vs H1 g1 rs ⟨hl, h1⟩ => ⟨by rw [← Paired.len rs]; exact hl, fun a n => ?_⟩⟩
  have R1 := R.grow g1
  exact k (.lst ps) (.ref a) _ (g1.trans (Grow.new R1.src n)) ⟨a, rfl, g1.free n, OwnAt.newLst n rs.rps⟩ h1⟩
end

/-! ### tests -/
section
variable {X : Cx} {c : List Ow} {a b : Expr} {ta tb : TEm} {tA tB : TTm} {pos : Pos} {rest : List Expr} {md : Md}
/-- a value that is True or False, as a test -/
def mTB (t : TEm) : TTm := fun env P => t env fun x => ∃ k, x = .bl k ∧ P k
theorem tm_val (h : PEm X c .ow a ta) (he : ∀ whole, isTrue a X.env whole = (do let v ← whole; standAt a.pos; holding [v] (truthy v)) := by intro _; rfl) : PTm X c a (mTB ta) := ⟨(pt_val h.run he).weak fun σ H Q h => by
  obtain ⟨G, A, W, env, P, R, h, k⟩ := h
  exact ⟨G, A, W, env, _, R, h, fun p v H1 g1 r ⟨j, e, h1⟩ => ⟨j, by subst e; exact VK1.bl r, k j H1 g1 h1⟩⟩⟩
theorem tm_cmp {op : CmpOp} {r : R2} {o : PO2} (ho : OpR X (compareOp op) r) (L : Lift2 X.K r o .cl) (ha : PEm X c .ow a ta) (hb : PEm X c .ow b tb) (hm : behindInMarks op b = false) : PTm X c (.Compare a [op] [b] pos) (mTB (mOp o ta tb)) := ⟨(pt_cmpR ho ha.run hb.run hm).weak fun σ H Q h => by
  obtain ⟨G, A, W, env, P, R, h, k⟩ := h
  refine tm2 L σ H _ ⟨G, A, W, env, _, R, h, fun p v H1 g1 r ⟨j, e, h1⟩ => ⟨j, ?_, k j H1 g1 h1⟩⟩
  subst e
  exact VK1.bl r⟩
def mAnd (t u : TTm) : TTm := fun env P => t env fun b => if b = true then u env P else P false
def mOr (t u : TTm) : TTm := fun env P => t env fun b => if b = true then P true else u env P
def mNot (t : TTm) : TTm := fun env P => t env fun b => P (!b)
theorem tm_not (h : PTm X c a tA) : PTm X c (.UnaryOp .Not a pos) (mNot tA) := ⟨(pt_not h.run).weak fun σ H Q h => by
  obtain ⟨G, A, W, env, P, R, h, k⟩ := h
  exact ⟨G, A, W, env, _, R, h, fun b H1 g1 h1 => k _ H1 g1 h1⟩⟩
theorem wm_and1 (h : PTm X c a tA) : PWm X c (.BoolOp .And [a] pos) tA := ⟨pw_and1 h.run⟩
theorem wm_or1 (h : PTm X c a tA) : PWm X c (.BoolOp .Or [a] pos) tA := ⟨pw_or1 h.run⟩
theorem wm_and (ha : PTm X c a tA) (hb : PWm X c (.BoolOp .And (b :: rest) pos) tB) : PWm X c (.BoolOp .And (a :: b :: rest) pos) (mAnd tA tB) := ⟨(pw_and ha.run hb.run).weak fun σ H Q h => by
  obtain ⟨G, A, W, env, P, R, h, k⟩ := h
  refine ⟨G, A, W, env, _, R, h, fun b H1 g1 h1 => ?_⟩
  cases b with
  | true => rw [if_pos rfl] at h1 ⊢; exact ⟨G, A, W, env, _, R.grow g1, h1, fun b H2 g2 h2 => k b H2 (g1.trans g2) h2⟩
  | false => rw [if_neg Bool.false_ne_true] at h1 ⊢; exact k _ H1 g1 h1⟩
theorem wm_or (ha : PTm X c a tA) (hb : PWm X c (.BoolOp .Or (b :: rest) pos) tB) : PWm X c (.BoolOp .Or (a :: b :: rest) pos) (mOr tA tB) := ⟨(pw_or ha.run hb.run).weak fun σ H Q h => by
  obtain ⟨G, A, W, env, P, R, h, k⟩ := h
  refine ⟨G, A, W, env, _, R, h, fun b H1 g1 h1 => ?_⟩
  cases b with
  | false => rw [if_neg Bool.false_ne_true] at h1 ⊢; exact ⟨G, A, W, env, _, R.grow g1, h1, fun b H2 g2 h2 => k b H2 (g1.trans g2) h2⟩
  | true => rw [if_pos rfl] at h1 ⊢; exact k _ H1 g1 h1⟩
theorem PWm.pt (h : PWm X c a tA) : PTm X c a tA := ⟨h.run.pt⟩
/-- and, or, not as values that are True or False -/
def mAndV (t u : TEm) : TEm := fun env P => t env fun x => ∃ k, x = .bl k ∧ if k = true then u env P else P (.bl false)
def mOrV (t u : TEm) : TEm := fun env P => t env fun x => ∃ k, x = .bl k ∧ if k = true then P (.bl true) else u env P
def oNot : PO1 := fun x P => ∃ k, x = .bl k ∧ P (.bl (!k))
theorem em_one {op : BoolOp} (h : PEm X c md a ta) : PEm X c md (.BoolOp op [a] pos) ta := ⟨pe_one h.run⟩
theorem em_and (ha : PEm X c .ow a ta) (hb : PEm X c .cl (.BoolOp .And (b :: rest) pos) tb) : PEm X c .cl (.BoolOp .And (a :: b :: rest) pos) (mAndV ta tb) := ⟨(pe_and ha.run hb.run).weak fun σ H Q h => by
  obtain ⟨G, A, W, env, P, R, h, k⟩ := h
  refine ⟨G, A, W, env, _, R, h, fun p v H1 g1 r ⟨j, e, h1⟩ => ⟨j, by subst e; exact VK1.bl r, ?_⟩⟩
  cases j with
  | true => rw [if_pos rfl] at h1 ⊢; exact ⟨G, A, W, env, _, R.grow g1, h1, fun p v H2 g2 r2 h2 => k p v H2 (g1.trans g2) r2 h2⟩
  | false => rw [if_neg Bool.false_ne_true] at h1 ⊢; exact k _ _ H1 g1 (VK1.ofRp Rp.bl') h1⟩
theorem em_or (ha : PEm X c .ow a ta) (hb : PEm X c .cl (.BoolOp .Or (b :: rest) pos) tb) : PEm X c .cl (.BoolOp .Or (a :: b :: rest) pos) (mOrV ta tb) := ⟨(pe_or ha.run hb.run).weak fun σ H Q h => by
  obtain ⟨G, A, W, env, P, R, h, k⟩ := h
  refine ⟨G, A, W, env, _, R, h, fun p v H1 g1 r ⟨j, e, h1⟩ => ⟨j, by subst e; exact VK1.bl r, ?_⟩⟩
  cases j with
  | false => rw [if_neg Bool.false_ne_true] at h1 ⊢; exact ⟨G, A, W, env, _, R.grow g1, h1, fun p v H2 g2 r2 h2 => k p v H2 (g1.trans g2) r2 h2⟩
  | true => rw [if_pos rfl] at h1 ⊢; exact k _ _ H1 g1 (VK1.ofRp Rp.bl') h1⟩
theorem em_not (ha : PEm X c .ow a ta) : PEm X c .cl (.UnaryOp .Not a pos) (mOp1 oNot ta) := ⟨(pe_not ha.run).weak fun σ H Q h => by
  obtain ⟨G, A, W, env, P, R, h, k⟩ := h
  exact ⟨G, A, W, env, _, R, h, fun p v H1 g1 r ⟨j, e, h1⟩ => ⟨j, by subst e; exact VK1.bl r, k _ _ H1 g1 (VK1.ofRp Rp.bl') h1⟩⟩⟩
def mIf (t : TTm) (ta tb : TEm) : TEm := fun env P => t env fun b => if b = true then ta env P else tb env P
theorem em_if {cnd : Expr} (hc : PTm X c cnd tA) (ha : PEm X c md a ta) (hb : PEm X c md b tb) : PEm X c md (.IfExp cnd a b pos) (mIf tA ta tb) := ⟨(pe_ifExp hc.run ha.run hb.run).weak fun σ H Q h => by
  obtain ⟨G, A, W, env, P, R, h, k⟩ := h
  refine ⟨G, A, W, env, _, R, h, fun b H1 g1 h1 => ?_⟩
  cases b with
  | true => rw [if_pos rfl] at h1 ⊢; exact ⟨G, A, W, env, _, R.grow g1, h1, fun p v H2 g2 r2 h2 => k p v H2 (g1.trans g2) (r2.back g1) h2⟩
  | false => rw [if_neg Bool.false_ne_true] at h1 ⊢; exact ⟨G, A, W, env, _, R.grow g1, h1, fun p v H2 g2 r2 h2 => k p v H2 (g1.trans g2) (r2.back g1) h2⟩⟩
end
end PM

set_option maxHeartbeats 1000000
/-! PM: operations by values. -/
namespace PM
open PySem L2

theorem OpR.or {X : Cx} {f : Value → Value → Sem Value} {r r' : R2} (h : OpR X f r) (h' : OpR X f r') : OpR X f (fun x y H Q => r x y H Q ∨ r' x y H Q) := by
  intro pins s σ H x y v u Q I rx ry q
  rcases q with q | q
  · exact h pins s σ H x y v u Q I rx ry q
  · exact h' pins s σ H x y v u Q I rx ry q
theorem CallR.or {X : Cx} {f : Value} {r r' : List V → Hp → VK → Prop} (h : CallR X f r) (h' : CallR X f r') : CallR X f (fun x H Q => r x H Q ∨ r' x H Q) := by
  intro pins s σ H x us Q I rx q
  rcases q with q | q
  · exact h pins s σ H x us Q I rx q
  · exact h' pins s σ H x us Q I rx q
section
variable {K : PySem.W.Frag}
theorem Sit.fin {Z : Addr → Prop} {W : Ws} {H : Hp} {P : PV → Prop} {Q : VK} {p : PV} {v : V} (S : Sit Z W H) (k : ∀ p v H', Grow W H H' → VK1 K .cl Z W H H' p v → P p → Q v H') (r : Rp K ⟨Z, W, H⟩ p v) (hp : P p) : Q v H := k p v H (Grow.refl S.src) (VK1.ofRp r) hp
/-! ### whole numbers -/
/-- two ints under a condition -/
def oI (C : Int → Int → Prop) (g : Int → Int → PV) : PO2 := fun x y P => ∃ i j, x = .int i ∧ y = .int j ∧ C i j ∧ P (g i j)
theorem lift_I {C C' : Int → Int → Prop} {g : Int → Int → PV} {g' : Int → Int → V} (hc : ∀ i j, C i j → C' i j) (hg : ∀ i j, C i j → ∀ Z W H, Rp K ⟨Z, W, H⟩ (g i j) (g' i j)) : Lift2 K (rI C' g') (oI C g) .cl := by
  rintro Z W H px py vx vy P Q S rx ry ⟨i, j, rfl, rfl, c, hp⟩ k
  exact ⟨i, j, rx.int, ry.int, hc i j c, S.fin k (hg i j c _ _ _) hp⟩
theorem lift_I0 {g : Int → Int → PV} {g' : Int → Int → V} (hg : ∀ i j Z W H, Rp K ⟨Z, W, H⟩ (g i j) (g' i j)) : Lift2 K (rI0 g') (oI (fun _ _ => True) g) .cl := by
  rintro Z W H px py vx vy P Q S rx ry ⟨i, j, rfl, rfl, c, hp⟩ k
  exact ⟨i, j, rx.int, ry.int, S.fin k (hg i j _ _ _) hp⟩
def oSub : PO2 := fun x y P => ∃ i j, x = .int i ∧ y = .int j ∧ P (.int (i - j))
theorem lift_sub : Lift2 K (rI0 fun i j => .int (i - j)) oSub .cl := by
  rintro Z W H px py vx vy P Q S rx ry ⟨i, j, rfl, rfl, hp⟩ k
  exact ⟨i, j, rx.int, ry.int, S.fin k Rp.int' hp⟩
def oFdiv : PO2 := fun x y P => ∃ i j, x = .int i ∧ y = .int j ∧ (0 < j ∧ j < 1073741824) ∧ P (.int (i / j))
theorem lift_fdiv : Lift2 K (rI CDiv fun i j => .int (i / j)) oFdiv .cl := by
  rintro Z W H px py vx vy P Q S rx ry ⟨i, j, rfl, rfl, c, hp⟩ k
  exact ⟨i, j, rx.int, ry.int, c, S.fin k Rp.int' hp⟩
def oMod : PO2 := fun x y P => ∃ i j, x = .int i ∧ y = .int j ∧ 0 < j ∧ P (.int (i % j))
theorem lift_mod : Lift2 K (rI (fun _ j => 0 < j) fun i j => .int (i % j)) oMod .cl := by
  rintro Z W H px py vx vy P Q S rx ry ⟨i, j, rfl, rfl, c, hp⟩ k
  exact ⟨i, j, rx.int, ry.int, c, S.fin k Rp.int' hp⟩
def oPow : PO2 := fun x y P => ∃ i j, x = .int i ∧ y = .int j ∧ (0 ≤ j ∧ j ≤ 1000000 ∧ i.natAbs < 2 ^ 64) ∧ P (.int (i ^ j.toNat))
theorem lift_pow : Lift2 K (rI CPow fun i j => .int (i ^ j.toNat)) oPow .cl := by
  rintro Z W H px py vx vy P Q S rx ry ⟨i, j, rfl, rfl, c, hp⟩ k
  exact ⟨i, j, rx.int, ry.int, c, S.fin k Rp.int' hp⟩
def oNeg : PO1 := fun x P => ∃ i, x = .int i ∧ P (.int (-i))
theorem lift_neg : Lift1 K (rU fun i => .int (-i)) oNeg .cl := by
  rintro Z W H px vx P Q S rx ⟨i, rfl, hp⟩ k
  exact ⟨i, rx.int, S.fin k Rp.int' hp⟩
def oLt : PO2 := fun x y P => ∃ i j, x = .int i ∧ y = .int j ∧ P (.bl (decide (i < j)))
def oLe : PO2 := fun x y P => ∃ i j, x = .int i ∧ y = .int j ∧ P (.bl (decide (i ≤ j)))
def oGt : PO2 := fun x y P => ∃ i j, x = .int i ∧ y = .int j ∧ P (.bl (decide (j < i)))
def oGe : PO2 := fun x y P => ∃ i j, x = .int i ∧ y = .int j ∧ P (.bl (decide (j ≤ i)))
theorem lift_lt : Lift2 K (rI0 fun i j => .bl (decide (i < j))) oLt .cl := by
  rintro Z W H px py vx vy P Q S rx ry ⟨i, j, rfl, rfl, hp⟩ k
  exact ⟨i, j, rx.int, ry.int, S.fin k Rp.bl' hp⟩
theorem lift_le : Lift2 K (rI0 fun i j => .bl (decide (i ≤ j))) oLe .cl := by
  rintro Z W H px py vx vy P Q S rx ry ⟨i, j, rfl, rfl, hp⟩ k
  exact ⟨i, j, rx.int, ry.int, S.fin k Rp.bl' hp⟩
theorem lift_gt : Lift2 K (rI0 fun i j => .bl (decide (j < i))) oGt .cl := by
  rintro Z W H px py vx vy P Q S rx ry ⟨i, j, rfl, rfl, hp⟩ k
  exact ⟨i, j, rx.int, ry.int, S.fin k Rp.bl' hp⟩
theorem lift_ge : Lift2 K (rI0 fun i j => .bl (decide (j ≤ i))) oGe .cl := by
  rintro Z W H px py vx vy P Q S rx ry ⟨i, j, rfl, rfl, hp⟩ k
  exact ⟨i, j, rx.int, ry.int, S.fin k Rp.bl' hp⟩

/-! ### +, * -/
def oAdd : PO2 := fun x y P => match x, y with
  | .int i, .int j => P (.int (i + j))
  | .tup a, .tup b => a.length + b.length ≤ sizeLine ∧ P (.tup (a ++ b))
  | .str a, .str b => a.length + b.length ≤ sizeLine ∧ P (.str (a ++ b))
  | .lst a, .lst b => a.length + b.length ≤ sizeLine ∧ P (.lst (a ++ b))
  | _, _ => False
def rStr : R2 := fun x y H Q => ∃ i j, x = .str i ∧ y = .str j ∧ i.length + j.length ≤ sizeLine ∧ Q (.str (i ++ j)) H
abbrev rPlus (K : PySem.W.Frag) : R2 := fun x y H Q => (rI0 (fun i j => .int (i + j)) x y H Q ∨ rCatA K x y H Q) ∨ (rStr x y H Q ∨ rCat x y H Q)
theorem op_plus {X : Cx} : OpR X (binaryOp .Add) (rPlus X.K) := OpR.or (OpR.or op_add op_catA) (OpR.or op_add_str op_cat)
theorem Rps.isNil {S : Wd} {ps : List PV} {vs : List V} (h : Rps K S ps vs) : ps = [] ↔ vs = [] := by
  have l := h.len
  constructor
  · intro e; rw [e] at l; exact List.eq_nil_of_length_eq_zero l.symm
  · intro e; rw [e] at l; exact List.eq_nil_of_length_eq_zero l
theorem lift_cat {P : PV → Prop} {Q : VK} {Z : Addr → Prop} {W : Ws} {H : Hp} {a b : List PV} {vx vy : V} (S : Sit Z W H) (rx : RpO K ⟨Z, W, H⟩ (.lst a) vx) (ry : RpO K ⟨Z, W, H⟩ (.lst b) vy) (hl : a.length + b.length ≤ sizeLine) (hp : P (.lst (a ++ b)))
    (k : ∀ p v H', Grow W H H' → VK1 K .fr Z W H H' p v → P p → Q v H') : rCat vx vy H Q := by
  obtain ⟨l1, vs, rfl, ⟨_, e1⟩, r1⟩ := rx.lst
  obtain ⟨l2, ws, rfl, ⟨_, e2⟩, r2⟩ := ry.lst
  refine ⟨l1, l2, vs, ws, rfl, rfl, e1, e2, by rw [← r1.len, ← r2.len]; exact hl, fun p n => ?_⟩
  exact k _ _ _ (Grow.new S.src n) ⟨p, rfl, n, OwnAt.newLst n (r1.append r2)⟩ hp
theorem lift_plus : Lift2 K (rPlus K) oAdd .cl := by
  intro Z W H px py vx vy P Q S rx ry h k
  cases px with
  | int i =>
    cases py with
    | int j => exact .inl (.inl ⟨i, j, rx.int, ry.int, S.fin k Rp.int' h⟩)
    | _ => exact h.elim
  | str i =>
    cases py with
    | str j => exact .inr (.inl ⟨i, j, rx.str, ry.str, h.1, S.fin k Rp.str' h.2⟩)
    | _ => exact h.elim
  | tup a =>
    cases py with
    | tup b =>
      obtain ⟨hl, hp⟩ := h
      have rx' : Rp K ⟨Z, W, H⟩ (.tup a) vx := rx
      have ry' : Rp K ⟨Z, W, H⟩ (.tup b) vy := ry
      obtain ⟨l1, vs, rfl, e1, r1⟩ := rx.tup
      obtain ⟨l2, ws, rfl, e2, r2⟩ := ry.tup
      refine .inl (.inr ⟨l1, l2, vs, ws, rfl, rfl, e1.sq, e2.sq, by rw [← r1.len, ← r2.len]; exact hl, fun z => ?_, fun _ z => ?_, fun _ _ p n => ?_⟩)
      · rw [r1.isNil.mpr z, List.nil_append] at hp
        exact S.fin k ry' hp
      · rw [r2.isNil.mpr z, List.append_nil] at hp
        exact S.fin k rx' hp
      · exact k _ _ _ (Grow.new S.src n) (VK1.ofRp (Rp.newTup (S.nz n) n S.src S.wz (r1.append r2))) hp
    | _ => exact h.elim
  | lst a =>
    cases py with
    | lst b => exact .inr (.inr (lift_cat S rx ry h.1 h.2 fun p v H' g r hp => k p v H' g (VK1.cl S.zd r) hp))
    | _ => exact h.elim
  | _ => exact h.elim
/-- lists, the sum a new one -/
def oCat : PO2 := fun x y P => ∃ a b, x = .lst a ∧ y = .lst b ∧ a.length + b.length ≤ sizeLine ∧ P (.lst (a ++ b))
theorem lift_catF : Lift2 K rCat oCat .fr := by
  rintro Z W H px py vx vy P Q S rx ry ⟨a, b, rfl, rfl, hl, hp⟩ k
  exact lift_cat S rx ry hl hp k
def oMul : PO2 := fun x y P => ∃ i j, x = .int i ∧ y = .int j ∧ CMul i j ∧ P (.int (i * j))
theorem lift_mul : Lift2 K (rI CMul fun i j => .int (i * j)) oMul .cl := by
  rintro Z W H px py vx vy P Q S rx ry ⟨i, j, rfl, rfl, c, hp⟩ k
  exact ⟨i, j, rx.int, ry.int, c, S.fin k Rp.int' hp⟩
theorem Rps.rep {S : Wd} {ps : List PV} {vs : List V} (h : Rps K S ps vs) : ∀ n : Nat, Rps K S (List.replicate n ps).flatten (List.replicate n vs).flatten
  | 0 => Rps.nil
  | n + 1 => by
    rw [List.replicate_succ, List.replicate_succ, List.flatten_cons, List.flatten_cons]
    exact h.append (Rps.rep h n)
def oRep : PO2 := fun x y P => ∃ a k, x = .lst a ∧ y = .int k ∧ (-(2 ^ 63) ≤ k ∧ k < 2 ^ 63) ∧ a.length * k.toNat ≤ sizeLine ∧ P (.lst (List.replicate k.toNat a).flatten)
theorem lift_rep : Lift2 K rRep oRep .fr := by
  rintro Z W H px py vx vy P Q S rx ry ⟨a, i, rfl, rfl, ⟨h1, h2⟩, hl, hp⟩ k
  obtain ⟨l1, vs, rfl, ⟨_, e1⟩, r1⟩ := rx.lst
  refine ⟨l1, i, vs, rfl, ry.int, e1, h1, h2, by rw [← r1.len]; exact hl, fun p n => ?_⟩
  exact k _ _ _ (Grow.new S.src n) ⟨p, rfl, n, OwnAt.newLst n (r1.rep _)⟩ hp

/-! ### == of data -/
mutual
def toD : PV → Option PyData
  | .non => some .none
  | .bl b => some (.bool b)
  | .int i => some (.int i)
  | .str x => some (.str x)
  | .tup ps => (toDs ps).map .tuple
  | .lst ps => (toDs ps).map .list
  | _ => none
def toDs : List PV → Option (List PyData)
  | [] => some []
  | p :: ps => (toD p).bind fun d => (toDs ps).map fun ds => d :: ds
end
mutual
theorem toD_dp {S : Wd} : ∀ {p : PV} {v : V} {d : PyData}, Rp K S p v → toD p = some d → Dp K S.H v d
  | .non, _, _, h, e => by unfold Rp at h; subst h; unfold toD at e; cases e; exact .non
  | .bl b, _, _, h, e => by unfold Rp at h; subst h; unfold toD at e; cases e; exact .bl b
  | .int b, _, _, h, e => by unfold Rp at h; subst h; unfold toD at e; cases e; exact .int b
  | .str b, _, _, h, e => by unfold Rp at h; subst h; unfold toD at e; cases e; exact .str b
  | .tup ps, _, _, h, e => by
    unfold Rp at h
    obtain ⟨a, vs, rfl, h1, h2⟩ := h
    unfold toD at e
    cases q : toDs ps with
    | none => rw [q] at e; cases e
    | some ds => rw [q] at e; cases e; exact .tup h1.sq (toDs_dp h2 q)
  | .lst ps, _, _, h, e => by
    unfold Rp at h
    obtain ⟨a, vs, rfl, h1, h2⟩ := h
    unfold toD at e
    cases q : toDs ps with
    | none => rw [q] at e; cases e
    | some ds => rw [q] at e; cases e; exact .lst h1.sq (toDs_dp h2 q)
  | .dic _ _, _, _, _, e => by unfold toD at e; cases e
  | .obj _ _ _, _, _, _, e => by unfold toD at e; cases e
  | .ref _, _, _, _, e => by unfold toD at e; cases e
  | .src, _, _, _, e => by unfold toD at e; cases e
  | .scr _, _, _, _, e => by unfold toD at e; cases e
theorem toDs_dp {S : Wd} : ∀ {ps : List PV} {vs : List V} {ds : List PyData}, Rps K S ps vs → toDs ps = some ds → DpAll K S.H vs ds
  | [], _, _, h, e => by unfold Rps at h; subst h; unfold toDs at e; cases e; exact .nil
  | p :: ps, _, _, h, e => by
    unfold Rps at h
    obtain ⟨v, r, rfl, h1, h2⟩ := h
    unfold toDs at e
    cases q : toD p with
    | none => rw [q] at e; cases e
    | some d =>
      rw [q] at e
      cases q2 : toDs ps with
      | none => rw [q2] at e; cases e
      | some ds => rw [q2] at e; cases e; exact .cons (toD_dp h1 q) (toDs_dp h2 q2)
end
theorem toD_dpO {Z : Addr → Prop} {W : Ws} {H : Hp} {p : PV} {v : V} {d : PyData} (h : RpO K ⟨Z, W, H⟩ p v) (e : toD p = some d) : Dp K H v d := by
  cases p with
  | lst ps =>
    obtain ⟨a, vs, rfl, h1, h2⟩ := h.lst
    unfold toD at e
    cases q : toDs ps with
    | none => rw [q] at e; cases e
    | some ds => rw [q] at e; cases e; exact .lst (.inl (.inl h1.2)) (toDs_dp h2 q)
  | dic _ _ => unfold toD at e; cases e
  | non => exact toD_dp (S := ⟨Z, W, H⟩) h e
  | bl _ => exact toD_dp (S := ⟨Z, W, H⟩) h e
  | int _ => exact toD_dp (S := ⟨Z, W, H⟩) h e
  | str _ => exact toD_dp (S := ⟨Z, W, H⟩) h e
  | tup _ => exact toD_dp (S := ⟨Z, W, H⟩) h e
  | obj _ _ _ => unfold toD at e; cases e
  | ref _ => unfold toD at e; cases e
  | src => unfold toD at e; cases e
  | scr _ => unfold toD at e; cases e
def oEq : PO2 := fun x y P => ∃ d e, toD x = some d ∧ toD y = some e ∧ SeqAt.shaped d = true ∧ SeqAt.shaped e = true ∧ P (.bl (PyData.eqv d e))
def oNe : PO2 := fun x y P => ∃ d e, toD x = some d ∧ toD y = some e ∧ SeqAt.shaped d = true ∧ SeqAt.shaped e = true ∧ P (.bl (!PyData.eqv d e))
theorem lift_eq : Lift2 K (rEqD K) oEq .cl := by
  rintro Z W H px py vx vy P Q S rx ry ⟨d, e, h1, h2, s1, s2, hp⟩ k
  exact ⟨d, e, toD_dpO rx h1, toD_dpO ry h2, s1, s2, S.fin k Rp.bl' hp⟩
theorem lift_ne : Lift2 K (rNeD K) oNe .cl := by
  rintro Z W H px py vx vy P Q S rx ry ⟨d, e, h1, h2, s1, s2, hp⟩ k
  exact ⟨d, e, toD_dpO rx h1, toD_dpO ry h2, s1, s2, S.fin k Rp.bl' hp⟩
/-- == of scalars, short -/
def oEqS : PO2 := fun x y P => match x, y with
  | .int i, .int j => P (.bl (decide (i = j)))
  | .str i, .str j => P (.bl (decide (i = j)))
  | .bl i, .bl j => P (.bl (decide (i = j)))
  | _, _ => False
def oNeS : PO2 := fun x y P => match x, y with
  | .int i, .int j => P (.bl (!decide (i = j)))
  | .str i, .str j => P (.bl (!decide (i = j)))
  | .bl i, .bl j => P (.bl (!decide (i = j)))
  | _, _ => False

/-! ### is -/
def isNon : PV → Bool
  | .non => true
  | _ => false
theorem RpO.isNon {Z : Addr → Prop} {W : Ws} {H : Hp} {p : PV} {v : V} (h : RpO K ⟨Z, W, H⟩ p v) : decide (v = .non) = isNon p := by
  cases p with
  | non => rw [h.non]; rfl
  | bl b => rw [h.bl]; rfl
  | int b => rw [h.int]; rfl
  | str b => rw [h.str]; rfl
  | tup b => obtain ⟨a, vs, rfl, _⟩ := h.tup; rfl
  | lst b => obtain ⟨a, vs, rfl, _⟩ := h.lst; rfl
  | dic _ _ => obtain ⟨a, vs, rfl, _⟩ := h; rfl
  | obj _ _ _ => unfold RpO Rp at h; obtain ⟨a, dx, vs, rfl, _⟩ := h; rfl
  | ref _ => unfold RpO Rp at h; subst h; rfl
  | src => unfold RpO Rp at h; obtain ⟨p, _, rfl⟩ := h; rfl
  | scr _ => unfold RpO Rp at h; obtain ⟨p, rfl, _⟩ := h; rfl
def oIsN : PO2 := fun x y P => y = .non ∧ P (.bl (isNon x))
def oNotN : PO2 := fun x y P => y = .non ∧ P (.bl (!isNon x))
theorem lift_isN : Lift2 K (fun x y H Q => y = .non ∧ Q (.bl (decide (x = .non))) H) oIsN .cl := by
  rintro Z W H px py vx vy P Q S rx ry ⟨rfl, hp⟩ k
  refine ⟨ry.non, ?_⟩
  rw [rx.isNon]
  exact S.fin k Rp.bl' hp
theorem lift_notN : Lift2 K (fun x y H Q => y = .non ∧ Q (.bl (!decide (x = .non))) H) oNotN .cl := by
  rintro Z W H px py vx vy P Q S rx ry ⟨rfl, hp⟩ k
  refine ⟨ry.non, ?_⟩
  rw [rx.isNon]
  exact S.fin k Rp.bl' hp
def oIsB : PO2 := fun x y P => ∃ a b, x = .bl a ∧ y = .bl b ∧ P (.bl (decide (a = b)))
def oNotB : PO2 := fun x y P => ∃ a b, x = .bl a ∧ y = .bl b ∧ P (.bl (!decide (a = b)))
theorem lift_isB : Lift2 K rIsB oIsB .cl := by
  rintro Z W H px py vx vy P Q S rx ry ⟨a, b, rfl, rfl, hp⟩ k
  exact ⟨a, b, rx.bl, ry.bl, S.fin k Rp.bl' hp⟩
theorem lift_notB : Lift2 K rNotB oNotB .cl := by
  rintro Z W H px py vx vy P Q S rx ry ⟨a, b, rfl, rfl, hp⟩ k
  exact ⟨a, b, rx.bl, ry.bl, S.fin k Rp.bl' hp⟩

/-! ### in, of flat things -/
def flatP : PV → Bool
  | .non => true
  | .bl _ => true
  | .int _ => true
  | .str _ => true
  | _ => false
def eqP : PV → PV → Bool
  | .non, .non => true
  | .bl a, .bl b => a == b
  | .bl a, .int b => (if a then 1 else 0) == b
  | .int a, .bl b => a == (if b then 1 else 0)
  | .int a, .int b => a == b
  | .str a, .str b => a == b
  | _, _ => false
def flV : PV → V
  | .bl b => .bl b
  | .int i => .int i
  | .str x => .str x
  | _ => .non
theorem RpO.flat {Z : Addr → Prop} {W : Ws} {H : Hp} {p : PV} {v : V} (h : RpO K ⟨Z, W, H⟩ p v) (f : flatP p = true) : v = flV p := by
  cases p with
  | non => exact h.non
  | bl b => exact h.bl
  | int b => exact h.int
  | str b => exact h.str
  | _ => exact absurd f (by simp [flatP])
theorem flV_flat {p : PV} (f : flatP p = true) : flatV (flV p) = true := by cases p <;> first | rfl | exact absurd f (by simp [flatP])
theorem flV_eq {p q : PV} (f : flatP p = true) (g : flatP q = true) : eqV (flV p) (flV q) = eqP p q := by
  cases p <;> cases q <;> first | rfl | (simp [flatP] at f; done) | (simp [flatP] at g; done)
theorem Rps.flat {S : Wd} : ∀ {ps : List PV} {vs : List V}, Rps K S ps vs → ps.all flatP = true → vs = ps.map flV
  | [], _, h, _ => by unfold Rps at h; exact h
  | p :: ps, _, h, f => by
    unfold Rps at h
    obtain ⟨v, r, rfl, h1, h2⟩ := h
    rw [List.all_cons, Bool.and_eq_true] at f
    rw [List.map_cons, Rps.flat h2 f.2]
    obtain ⟨Z, W, H⟩ := S
    have e : v = flV p := by
      cases p with
      | non => unfold Rp at h1; exact h1
      | bl b => unfold Rp at h1; exact h1
      | int b => unfold Rp at h1; exact h1
      | str b => unfold Rp at h1; exact h1
      | _ => exact absurd f.1 (by simp [flatP])
    rw [e]
def inP (x : PV) (ps : List PV) : Bool := ps.any fun y => eqP y x
theorem inV_flat {x : PV} (f : flatP x = true) : ∀ {ps : List PV}, ps.all flatP = true → inV (flV x) (ps.map flV) = inP x ps
  | [], _ => rfl
  | p :: ps, h => by
    rw [List.all_cons, Bool.and_eq_true] at h
    have e := inV_flat f h.2
    unfold inV inP at e ⊢
    rw [List.map_cons, List.any_cons, List.any_cons, flV_eq h.1 f, e]
def oIn (neg : Bool) : PO2 := fun x y P => ∃ ps, (y = .lst ps ∨ y = .tup ps) ∧ flatP x = true ∧ ps.all flatP = true ∧ P (.bl (if neg then !inP x ps else inP x ps))
theorem lift_in {neg : Bool} : Lift2 K (rIn K neg) (oIn neg) .cl := by
  rintro Z W H px py vx vy P Q S rx ry ⟨ps, hy, fx, fs, hp⟩ k
  have ex := rx.flat fx
  subst ex
  rcases hy with rfl | rfl
  · obtain ⟨a, vs, rfl, e, r⟩ := ry.lst
    have ev := r.flat fs
    subst ev
    refine ⟨a, _, rfl, .inl (.inl (.inl e.2)), flV_flat fx, ?_, ?_⟩
    · rw [List.all_eq_true] at fs ⊢
      intro v hv
      obtain ⟨p, hp, rfl⟩ := List.mem_map.mp hv
      exact flV_flat (fs p hp)
    · rw [inV_flat fx fs]
      exact S.fin k Rp.bl' hp
  · obtain ⟨a, vs, rfl, e, r⟩ := ry.tup
    have ev := r.flat fs
    subst ev
    refine ⟨a, _, rfl, .inr e.sq, flV_flat fx, ?_, ?_⟩
    · rw [List.all_eq_true] at fs ⊢
      intro v hv
      obtain ⟨p, hp, rfl⟩ := List.mem_map.mp hv
      exact flV_flat (fs p hp)
    · rw [inV_flat fx fs]
      exact S.fin k Rp.bl' hp

/-! ### subscripts -/
def oIx : PO2 := fun x y P => match x, y with
  | .lst ps, .int i => ∃ p, atI ps i = some p ∧ P p
  | .tup ps, .int i => ∃ p, atI ps i = some p ∧ P p
  | .str z, .int i => z.length ≤ sizeLine ∧ ∃ c, atI z.cps.toList i = some c ∧ P (.str ⟨#[c]⟩)
  | _, _ => False
theorem Rps.atI {S : Wd} {ps : List PV} {vs : List V} {i : Int} {p : PV} (h : Rps K S ps vs) (e : L2.atI ps i = some p) : ∃ v, L2.atI vs i = some v ∧ Rp K S p v := by
  unfold L2.atI at e ⊢
  rw [← h.len]
  cases q : ixN ps.length i with
  | none => rw [q] at e; cases e
  | some j =>
    rw [q] at e
    exact h.get (i := j) e
theorem lift_ix : Lift2 K (rIx K) oIx .cl := by
  intro Z W H px py vx vy P Q S rx ry h k
  cases px with
  | lst ps =>
    cases py with
    | int i =>
      obtain ⟨p, e, hp⟩ := h
      obtain ⟨a, vs, rfl, e1, r⟩ := rx.lst
      obtain ⟨v, e2, r2⟩ := r.atI e
      exact .inl ⟨a, vs, i, v, rfl, ry.int, .inl (.inl e1.2), e2, S.fin k r2 hp⟩
    | _ => exact h.elim
  | tup ps =>
    cases py with
    | int i =>
      obtain ⟨p, e, hp⟩ := h
      obtain ⟨a, vs, rfl, e1, r⟩ := rx.tup
      obtain ⟨v, e2, r2⟩ := r.atI e
      exact .inr (.inl ⟨a, vs, i, v, rfl, ry.int, e1.sq, e2, S.fin k r2 hp⟩)
    | _ => exact h.elim
  | str z =>
    cases py with
    | int i =>
      obtain ⟨hl, c, e, hp⟩ := h
      exact .inr (.inr ⟨z, i, c, rx.str, ry.int, hl, e, S.fin k Rp.str' hp⟩)
    | _ => exact h.elim
  | _ => exact h.elim
theorem em_ix {X : Cx} {c : List Ow} {a b : Expr} {ta tb : TEm} {pos : Pos} (ha : PEm X c .ow a ta) (hb : PEm X c .ow b tb) (hs : PlainIx b) : PEm X c .cl (.Subscript a b pos) (mOp oIx ta tb) := ⟨(pe_ix ix_seq ha.run hb.run hs).weak (tm2 lift_ix)⟩
end
end PM

set_option maxHeartbeats 1000000
/-! PM: slices, built-ins. -/
namespace PM
open PySem L2
/-! ### sorting -/
def ins (x : Int) : List Int → List Int
  | [] => [x]
  | y :: ys => if x ≤ y then x :: y :: ys else y :: ins x ys
def isort : List Int → List Int
  | [] => []
  | x :: xs => ins x (isort xs)
theorem ins_perm (x : Int) : ∀ ys, (ins x ys).Perm (x :: ys)
  | [] => List.Perm.refl _
  | y :: ys => by
    unfold ins
    split
    · exact List.Perm.refl _
    · exact ((ins_perm x ys).cons y).trans (List.Perm.swap x y ys)
theorem isort_perm : ∀ xs, (isort xs).Perm xs
  | [] => List.Perm.refl _
  | x :: xs => (ins_perm x (isort xs)).trans ((isort_perm xs).cons x)
theorem ins_sorted (x : Int) : ∀ ys : List Int, ys.Pairwise (· ≤ ·) → (ins x ys).Pairwise (· ≤ ·)
  | [], _ => by unfold ins; exact List.pairwise_singleton _ _
  | y :: ys, h => by
    unfold ins
    rw [List.pairwise_cons] at h
    split
    · rename_i hxy
      refine List.pairwise_cons.mpr ⟨fun z hz => ?_, List.pairwise_cons.mpr h⟩
      rcases List.mem_cons.mp hz with rfl | hz
      · exact hxy
      · exact Int.le_trans hxy (h.1 z hz)
    · rename_i hxy
      refine List.pairwise_cons.mpr ⟨fun z hz => ?_, ins_sorted x ys h.2⟩
      rcases List.mem_cons.mp ((ins_perm x ys).mem_iff.mp hz) with rfl | hz
      · omega
      · exact h.1 z hz
theorem isort_sorted : ∀ xs, (isort xs).Pairwise (· ≤ ·)
  | [] => List.Pairwise.nil
  | x :: xs => ins_sorted x _ (isort_sorted xs)
theorem sorted_unique {xs ys : List Int} (p : xs.Perm ys) (hx : xs.Pairwise (· ≤ ·)) (hy : ys.Pairwise (· ≤ ·)) : xs = ys :=
  p.eq_of_pairwise (fun a b _ _ h1 h2 => Int.le_antisymm h1 h2) hx hy
theorem isort_eq {xs ys : List Int} (p : ys.Perm xs) (h : ys.Pairwise (· ≤ ·)) : ys = isort xs := sorted_unique (p.trans (isort_perm xs).symm) h (isort_sorted xs)

section
variable {K : PySem.W.Frag}
theorem VKs.nil_inv {Z : Addr → Prop} {W : Ws} {H : Hp} {vs : List V} (h : VKs K .ow Z W H [] vs) : vs = [] := by cases h; rfl
theorem VKs.one {Z : Addr → Prop} {W : Ws} {H : Hp} {p : PV} {vs : List V} (h : VKs K .ow Z W H [p] vs) : ∃ v, vs = [v] ∧ RpO K ⟨Z, W, H⟩ p v := by
  cases h with
  | cons h t => cases t; exact ⟨_, rfl, h⟩
theorem VKs.two {Z : Addr → Prop} {W : Ws} {H : Hp} {p q : PV} {vs : List V} (h : VKs K .ow Z W H [p, q] vs) : ∃ v w, vs = [v, w] ∧ RpO K ⟨Z, W, H⟩ p v ∧ RpO K ⟨Z, W, H⟩ q w := by
  cases h with
  | cons h t => cases t with
    | cons h' t' => cases t'; exact ⟨_, _, rfl, h, h'⟩
/-! ### numbers -/
def oAbs : POn := fun xs P => ∃ i, xs = [.int i] ∧ P (.int (if i < 0 then -i else i))
theorem lift_abs : LiftN K (fun xs H Q => ∃ i, xs = [.int i] ∧ Q (.int (if i < 0 then -i else i)) H) oAbs .cl := by
  rintro Z W H ps vs P Q S r ⟨i, rfl, hp⟩ k
  obtain ⟨v, rfl, rv⟩ := r.one
  exact ⟨i, by rw [rv.int], S.fin k Rp.int' hp⟩
def oMax2 : POn := fun xs P => ∃ i j, xs = [.int i, .int j] ∧ P (.int (if j > i then j else i))
def oMin2 : POn := fun xs P => ∃ i j, xs = [.int i, .int j] ∧ P (.int (if j < i then j else i))
theorem lift_max2 : LiftN K (fun xs H Q => ∃ i j, xs = [.int i, .int j] ∧ Q (.int (if j > i then j else i)) H) oMax2 .cl := by
  rintro Z W H ps vs P Q S r ⟨i, j, rfl, hp⟩ k
  obtain ⟨v, w, rfl, rv, rw'⟩ := r.two
  exact ⟨i, j, by rw [rv.int, rw'.int], S.fin k Rp.int' hp⟩
theorem lift_min2 : LiftN K (fun xs H Q => ∃ i j, xs = [.int i, .int j] ∧ Q (.int (if j < i then j else i)) H) oMin2 .cl := by
  rintro Z W H ps vs P Q S r ⟨i, j, rfl, hp⟩ k
  obtain ⟨v, w, rfl, rv, rw'⟩ := r.two
  exact ⟨i, j, by rw [rv.int, rw'.int], S.fin k Rp.int' hp⟩
def oInt : POn := fun xs P => match xs with
  | [.int i] => P (.int i)
  | [.bl b] => P (.int (if b then 1 else 0))
  | _ => False
theorem lift_int : LiftN K (fun xs H Q => (∃ i, xs = [.int i] ∧ Q (.int i) H) ∨ ∃ k, xs = [.bl k] ∧ Q (.int (if k then 1 else 0)) H) oInt .cl := by
  intro Z W H ps vs P Q S r h k
  match ps, h with
  | [.int i], h =>
    obtain ⟨v, rfl, rv⟩ := r.one
    exact .inl ⟨i, by rw [rv.int], S.fin k Rp.int' h⟩
  | [.bl i], h =>
    obtain ⟨v, rfl, rv⟩ := r.one
    exact .inr ⟨i, by rw [rv.bl], S.fin k Rp.int' h⟩
/-! ### len, list, tuple, sorted, sum .. -/
def plen : PV → Option Nat
  | .lst ps => some ps.length
  | .tup ps => some ps.length
  | .dic ks _ => some ks.length
  | .str x => if x.length ≤ sizeLine then some x.length else none
  | .scr ns => some ns.length
  | _ => none
def oLen : POn := fun xs P => ∃ x n, xs = [x] ∧ plen x = some n ∧ P (.int (n : Int))
abbrev rLen (K : PySem.W.Frag) : List V → Hp → VK → Prop := fun xs H Q => (∃ x n, xs = [x] ∧ LenV K x H n ∧ Q (.int n) H) ∨ (∃ a kvs, xs = [V.ref a] ∧ H a = some (.dK kvs) ∧ Q (.int kvs.length) H)
theorem call_lenA {X : Cx} : CallR X (.builtin "len") (rLen X.K) := CallR.or call_len call_lenD
theorem lift_len : LiftN K (rLen K) oLen .cl := by
  rintro Z W H ps vs P Q S r ⟨x, n, rfl, hn, hp⟩ k
  obtain ⟨v, rfl, rv⟩ := r.one
  cases x with
  | lst ps =>
    obtain ⟨a, ws, rfl, e, r1⟩ := rv.lst
    obtain rfl : ps.length = n := Option.some.inj hn
    exact .inl ⟨_, ps.length, rfl, .inl ⟨ws, .inl (.inl e.2), r1.len⟩, S.fin k Rp.int' hp⟩
  | tup ps =>
    obtain ⟨a, ws, rfl, e, r1⟩ := rv.tup
    obtain rfl : ps.length = n := Option.some.inj hn
    exact .inl ⟨_, ps.length, rfl, .inr ⟨ws, e.sq, r1.len⟩, S.fin k Rp.int' hp⟩
  | dic ks ps =>
    obtain ⟨a, ws, rfl, _, e, l, r1⟩ := rv
    obtain rfl : ks.length = n := Option.some.inj hn
    have el : (ks.zip ws).length = ks.length := by rw [List.length_zip, ← l, Nat.min_self]
    refine .inr ⟨a, _, rfl, e, ?_⟩
    rw [el]
    exact S.fin k Rp.int' hp
  | str x =>
    rw [rv.str]
    have hn' : (if x.length ≤ sizeLine then some x.length else none) = some n := hn
    by_cases hl : x.length ≤ sizeLine
    · rw [if_pos hl] at hn'
      obtain rfl : x.length = n := Option.some.inj hn'
      exact .inl ⟨_, x.length, rfl, ⟨hl, rfl⟩, S.fin k Rp.int' hp⟩
    · rw [if_neg hl] at hn'; cases hn'
  | scr ns =>
    unfold RpO Rp at rv
    obtain ⟨a, rfl, e⟩ := rv
    obtain rfl : ns.length = n := Option.some.inj hn
    have e' : SqL K H a (ns.map V.int) := e.elim (fun z => let ⟨o, w⟩ := z.2; .inl (.inr ⟨o, w⟩)) .inr
    exact .inl ⟨_, ns.length, rfl, .inl ⟨ns.map V.int, e', by rw [List.length_map]⟩, S.fin k Rp.int' hp⟩
  | _ => cases hn
/-- the items of a list or tuple -/
def seqP : PV → Option (List PV)
  | .lst ps => some ps
  | .tup ps => some ps
  | _ => none
theorem RpO.seq {Z : Addr → Prop} {W : Ws} {H : Hp} {p : PV} {ps : List PV} {v : V} (h : RpO K ⟨Z, W, H⟩ p v) (e : seqP p = some ps) : ∃ a vs, v = .ref a ∧ (SqL K H a vs ∨ SqT K H a vs) ∧ Rps K ⟨Z, W, H⟩ ps vs := by
  cases p with
  | lst qs =>
    obtain rfl : qs = ps := Option.some.inj e
    obtain ⟨a, ws, rfl, e, r1⟩ := h.lst
    exact ⟨a, ws, rfl, .inl (.inl (.inl e.2)), r1⟩
  | tup qs =>
    obtain rfl : qs = ps := Option.some.inj e
    obtain ⟨a, ws, rfl, e, r1⟩ := h.tup
    exact ⟨a, ws, rfl, .inr e.sq, r1⟩
  | _ => cases e
def oList : POn := fun xs P => ∃ x ps, xs = [x] ∧ seqP x = some ps ∧ P (.lst ps)
theorem lift_list : LiftN K (fun xs H Q => ∃ p ys, xs = [.ref p] ∧ (SqL K H p ys ∨ SqT K H p ys) ∧ ∀ l, H l = none → Q (.ref l) (upd H l (.lst ys))) oList .fr := by
  rintro Z W H ps vs P Q S r ⟨x, qs, rfl, hn, hp⟩ k
  obtain ⟨v, rfl, rv⟩ := r.one
  obtain ⟨a, ws, rfl, e, r1⟩ := rv.seq hn
  exact ⟨a, ws, rfl, e, fun l n => k _ _ _ (Grow.new S.src n) ⟨l, rfl, n, OwnAt.newLst n r1⟩ hp⟩
def oTuple : POn := fun xs P => ∃ x ps, xs = [x] ∧ seqP x = some ps ∧ P (.tup ps)
theorem lift_tuple : LiftN K (fun xs H Q => ∃ p ys, xs = [.ref p] ∧ ((SqL K H p ys ∧ ∀ l, H l = none → Q (.ref l) (upd H l (.tup ys))) ∨ (SqT K H p ys ∧ Q (.ref p) H))) oTuple .cl := by
  rintro Z W H ps vs P Q S r ⟨x, qs, rfl, hn, hp⟩ k
  obtain ⟨v, rfl, rv⟩ := r.one
  cases x with
  | lst ps =>
    obtain rfl : ps = qs := Option.some.inj hn
    obtain ⟨a, ws, rfl, e, r1⟩ := rv.lst
    exact ⟨a, ws, rfl, .inl ⟨.inl (.inl e.2), fun l n => k _ _ _ (Grow.new S.src n) (VK1.ofRp (Rp.newTup (S.nz n) n S.src S.wz r1)) hp⟩⟩
  | tup ps =>
    obtain rfl : ps = qs := Option.some.inj hn
    have rv' : Rp K ⟨Z, W, H⟩ (.tup ps) v := rv
    obtain ⟨a, ws, rfl, e, r1⟩ := rv.tup
    exact ⟨a, ws, rfl, .inr ⟨e.sq, S.fin k rv' hp⟩⟩
  | _ => cases hn
def intKey (i : Int) : Key := Sum.inl i
def oSorted : POn := fun xs P => ∃ ns : List Int, (xs = [.lst (ns.map .int)] ∨ ((∃ vs, xs = [.dic (ns.map intKey) vs]) ∧ ns.length < 64)) ∧ P (.lst ((isort ns).map .int))
abbrev rSortedA (K : PySem.W.Frag) : List V → Hp → VK → Prop := fun xs H Q => rSortedI K xs H Q ∨ (∃ (a : Addr) (kvs : List (Key × V)) (ks : List Int), xs = [.ref a] ∧ Rd H a (.dK kvs) ∧ kvs.map (·.1) = ks.map Sum.inl ∧ ks.length < 64 ∧
    ∀ (ys : List Int) (p : Addr), ys.Perm ks → ys.Pairwise (· ≤ ·) → H p = none → Q (.ref p) (upd H p (.lst (ys.map V.int))))
theorem call_sortedA {X : Cx} (hc : X.calm = true) : CallR X (.builtin "sorted") (rSortedA X.K) := CallR.or cr_sortedI (call_sortedDI hc)
theorem lift_sorted : LiftN K (rSortedA K) oSorted .fr := by
  rintro Z W H ps vs P Q S r ⟨ns, h, hp⟩ k
  have fin : ∀ (ys : List Int) (p : Addr), ys.Perm ns → ys.Pairwise (· ≤ ·) → H p = none → Q (.ref p) (upd H p (.lst (ys.map V.int))) := fun ys p hy hs n => by
    rw [isort_eq hy hs]
    exact k _ _ _ (Grow.new S.src n) ⟨p, rfl, n, OwnAt.newLst n (Rps.ints.mpr rfl)⟩ hp
  rcases h with rfl | ⟨⟨vals, rfl⟩, h64⟩
  · obtain ⟨v, rfl, rv⟩ := r.one
    obtain ⟨a, ws, rfl, e, r1⟩ := rv.lst
    have ew := Rps.ints.mp r1
    subst ew
    exact .inl ⟨a, ns, rfl, .inl (.inl e.2), fin⟩
  · obtain ⟨v, rfl, rv⟩ := r.one
    obtain ⟨a, ws, rfl, _, e, l, r1⟩ := rv
    refine .inr ⟨a, _, ns, rfl, .inl e, ?_, h64, fin⟩
    exact List.map_fst_zip (Nat.le_of_eq l)
def oSum : POn := fun xs P => ∃ ns : List Int, xs = [.lst (ns.map .int)] ∧ P (.int ns.sum)
theorem lift_sum : LiftN K (rSum K) oSum .cl := by
  rintro Z W H ps vs P Q S r ⟨ns, rfl, hp⟩ k
  obtain ⟨v, rfl, rv⟩ := r.one
  obtain ⟨a, ws, rfl, e, r1⟩ := rv.lst
  have ew := Rps.ints.mp r1
  subst ew
  exact ⟨a, ns, rfl, .inl (.inl e.2), S.fin k Rp.int' hp⟩
def oMaxL : POn := fun xs P => ∃ ns : List Int, xs = [.lst (ns.map .int)] ∧ 0 < ns.length ∧ ∀ m, m ∈ ns → (∀ y, y ∈ ns → y ≤ m) → P (.int m)
def oMinL : POn := fun xs P => ∃ ns : List Int, xs = [.lst (ns.map .int)] ∧ 0 < ns.length ∧ ∀ m, m ∈ ns → (∀ y, y ∈ ns → m ≤ y) → P (.int m)
theorem lift_maxL : LiftN K (rMax K) oMaxL .cl := by
  rintro Z W H ps vs P Q S r ⟨ns, rfl, h0, hp⟩ k
  obtain ⟨v, rfl, rv⟩ := r.one
  obtain ⟨a, ws, rfl, e, r1⟩ := rv.lst
  have ew := Rps.ints.mp r1
  subst ew
  exact ⟨a, ns, rfl, .inl (.inl e.2), h0, fun m h1 h2 => S.fin k Rp.int' (hp m h1 h2)⟩
theorem lift_minL : LiftN K (rMin K) oMinL .cl := by
  rintro Z W H ps vs P Q S r ⟨ns, rfl, h0, hp⟩ k
  obtain ⟨v, rfl, rv⟩ := r.one
  obtain ⟨a, ws, rfl, e, r1⟩ := rv.lst
  have ew := Rps.ints.mp r1
  subst ew
  exact ⟨a, ns, rfl, .inl (.inl e.2), h0, fun m h1 h2 => S.fin k Rp.int' (hp m h1 h2)⟩
def oAll : POn := fun xs P => ∃ bs : List Bool, xs = [.lst (bs.map .bl)] ∧ P (.bl (bs.all id))
def oAny : POn := fun xs P => ∃ bs : List Bool, xs = [.lst (bs.map .bl)] ∧ P (.bl (bs.any id))
theorem lift_all : LiftN K (rAll K) oAll .cl := by
  rintro Z W H ps vs P Q S r ⟨ns, rfl, hp⟩ k
  obtain ⟨v, rfl, rv⟩ := r.one
  obtain ⟨a, ws, rfl, e, r1⟩ := rv.lst
  have ew := Rps.bls.mp r1
  subst ew
  exact ⟨a, ns, rfl, .inl (.inl e.2), S.fin k Rp.bl' hp⟩
theorem lift_any : LiftN K (rAny K) oAny .cl := by
  rintro Z W H ps vs P Q S r ⟨ns, rfl, hp⟩ k
  obtain ⟨v, rfl, rv⟩ := r.one
  obtain ⟨a, ws, rfl, e, r1⟩ := rv.lst
  have ew := Rps.bls.mp r1
  subst ew
  exact ⟨a, ns, rfl, .inl (.inl e.2), S.fin k Rp.bl' hp⟩

/-! ### isinstance -/
def pty : PV → Option String
  | .non => some "NoneType"
  | .bl _ => some "bool"
  | .int _ => some "int"
  | .str _ => some "str"
  | .tup _ => some "tuple"
  | .lst _ => some "list"
  | .dic _ _ => some "dict"
  | _ => none
theorem RpO.tyx {Z : Addr → Prop} {W : Ws} {H : Hp} {p : PV} {v : V} {T : String} (h : RpO K ⟨Z, W, H⟩ p v) (e : pty p = some T) : TyX K H v (.type T) := by
  cases p with
  | non => cases e; rw [h.non]; exact .base .non
  | bl _ => cases e; rw [h.bl]; exact .base (.bl _)
  | int _ => cases e; rw [h.int]; exact .base (.int _)
  | str _ => cases e; rw [h.str]; exact .base (.str _)
  | tup ps =>
    cases e
    obtain ⟨a, ws, rfl, e, r1⟩ := h.tup
    rcases e with e | ⟨o, its, n, h1, h2, _⟩
    · exact .base (.tup e.2)
    · exact .kTuple h1 h2
  | lst ps => cases e; obtain ⟨a, ws, rfl, e, r1⟩ := h.lst; exact .base (.lst e.2)
  | dic ks ps => cases e; obtain ⟨a, ws, rfl, _, e, _⟩ := h; exact .base (.dK e)
  | _ => cases e
def oIsi (T : String) : PO1 := fun x P => ∃ U b, pty x = some U ∧ kitB U T = some b ∧ P (.bl b)
theorem em_isi (T : String) {X : Cx} {c : List Ow} {a : Expr} {ta : TEm} {p p2 pos : Pos} {nm : Str} (ha : PEm X c .ow a ta) (hg : Gl X "isinstance") (hm : X.mg "isinstance" = none) (hgT : Gl X nm) (hmT : X.mg nm = none) (hT : bootBuiltins nm = some (.type T))
    (hn : nm ≠ "__name__" := by decide) (hd : (nm == ("__debug__" : Str)) = false := by decide)
    (he : starEach [a, .Name nm p2] X.env = (false, eval a X.env) :: starEach [.Name nm p2] X.env := by rfl) (he2 : starEach [.Name nm p2] X.env = (false, eval (.Name nm p2) X.env) :: starEach [] X.env := by rfl) (hpl : (backTo pos (starEach [.Name nm p2] X.env)).any (·.1) = false := by rfl) :
    PEm X c .cl (.Call (.Name "isinstance" p) [a, .Name nm p2] [] pos) (mOp1 (oIsi T) ta) := ⟨(pe_callB (r := rIsi X.K) call_isi hg hm PyProof.Rows.boot_isinstance (pa_cons ha.run (pa_cons (pe_bltn (v := .ty T) hgT hmT hT rfl hn hd) pa_nil he2) he) (by decide) (by decide) he hpl).weak fun σ H Q h => by
  obtain ⟨G, A, W, env, P, R, h, k⟩ := h
  refine ⟨G, A, W, env, _, R, h, fun px vx H1 g1 rx ⟨U, b, hU, hb, h1⟩ => ?_⟩
  exact ⟨vx, .ty T, .type U, .type T, b, rfl, .ty T, rx.tyx hU, kit_ty hb, k _ _ H1 g1 (VK1.ofRp Rp.bl') h1⟩⟩

/-! ### slices -/
structure POm (X : Cx) (c : List Ow) (e : Option Expr) (t : Env → (Option Int → Prop) → Prop) : Prop where
  run : PO X e (fun σ H Q => ∃ G A W env P, SR X.K G c A W env σ H ∧ t env P ∧ ∀ o H', Grow W H H' → P o → Q o H')
def mNo : Env → (Option Int → Prop) → Prop := fun _ P => P none
def mPart (t : TEm) : Env → (Option Int → Prop) → Prop := fun env P => t env fun x => ∃ i, x = .int i ∧ P (some i)
theorem om_none {X : Cx} {c : List Ow} : POm X c none mNo := ⟨⟨fun pins s σ H Q I h => po_none.run pins s σ H Q I (by
  obtain ⟨G, A, W, env, P, R, h, k⟩ := h
  exact k none H (Grow.refl R.src) h)⟩⟩
theorem om_some {X : Cx} {c : List Ow} {e : Expr} {t : TEm} (h : PEm X c .ow e t) : POm X c (some e) (mPart t) := ⟨⟨fun pins s σ H Q I x => (po_some h.run).run pins s σ H Q I (by
  obtain ⟨G, A, W, env, P, R, x, k⟩ := x
  refine ⟨G, A, W, env, _, R, x, fun p v H1 g1 r ⟨i, e, h1⟩ => ?_⟩
  subst e
  exact ⟨i, r.o.int, k _ H1 g1 h1⟩)⟩⟩
def cutP (xs : List PV) (lo hi : Option Int) : List PV := (xs.drop (HT.sIx xs.length 0 lo)).take (HT.sIx xs.length xs.length hi - HT.sIx xs.length 0 lo)
theorem Rps.cut {S : Wd} {ps : List PV} {vs : List V} (h : Rps K S ps vs) (lo hi : Option Int) : Rps K S (cutP ps lo hi) (cutV vs lo hi) := by
  unfold cutP cutV
  rw [h.len]
  exact Rps.take _ (Rps.drop _ h)
def mSl (o : PV → Option Int → Option Int → (PV → Prop) → Prop) (t : TEm) (tl th : Env → (Option Int → Prop) → Prop) : TEm := fun env P => t env fun x => tl env fun l => th env fun u => o x l u P
def oSlL : PV → Option Int → Option Int → (PV → Prop) → Prop := fun x l u P => ∃ ps, x = .lst ps ∧ P (.lst (cutP ps l u))
def oSlT : PV → Option Int → Option Int → (PV → Prop) → Prop := fun x l u P => ∃ ps, x = .tup ps ∧ P (.tup (cutP ps l u))
theorem cut_whole {xs : List PV} {lo hi : Option Int} (h : HT.sIx xs.length 0 lo = 0 ∧ HT.sIx xs.length xs.length hi = xs.length) : cutP xs lo hi = xs := by
  unfold cutP
  rw [h.1, h.2]
  simp
section
variable {X : Cx} {c : List Ow} {e : Expr} {lo hi : Option Expr} {te : TEm} {tl th : Env → (Option Int → Prop) → Prop} {pos p2 : Pos}
theorem em_slL (he : PEm X c .ow e te) (hl : POm X c lo tl) (hu : POm X c hi th) : PEm X c .fr (.Subscript e (.Slice lo hi none p2) pos) (mSl oSlL te tl th) := ⟨(pe_slice sl_list he.run hl.run hu.run).weak fun σ H Q h => by
  obtain ⟨G, A, W, env, P, R, h, k⟩ := h
  refine ⟨G, A, W, env, _, R, h, fun px vx H1 g1 rx h1 => ⟨G, A, W, env, _, R.grow g1, h1, fun l H2 g2 h2 => ⟨G, A, W, env, _, (R.grow g1).grow g2, h2, fun u H3 g3 h3 => ?_⟩⟩⟩
  have R3 := ((R.grow g1).grow g2).grow g3
  obtain ⟨ps, rfl, hp⟩ := h3
  obtain ⟨a, vs, rfl, e, r⟩ := RpO.lst (RpO.grow R.sz (g2.trans g3) rx.o)
  exact ⟨a, vs, rfl, .inl (.inl e.2), fun p n => k _ _ _ (((g1.trans g2).trans g3).trans (Grow.new R3.src n)) ⟨p, rfl, ((g1.trans g2).trans g3).free n, OwnAt.newLst n (r.cut l u)⟩ hp⟩⟩
theorem em_slT (he : PEm X c .ow e te) (hl : POm X c lo tl) (hu : POm X c hi th) : PEm X c .cl (.Subscript e (.Slice lo hi none p2) pos) (mSl oSlT te tl th) := ⟨(pe_slice sl_tupA he.run hl.run hu.run).weak fun σ H Q h => by
  obtain ⟨G, A, W, env, P, R, h, k⟩ := h
  refine ⟨G, A, W, env, _, R, h, fun px vx H1 g1 rx h1 => ⟨G, A, W, env, _, R.grow g1, h1, fun l H2 g2 h2 => ⟨G, A, W, env, _, (R.grow g1).grow g2, h2, fun u H3 g3 h3 => ?_⟩⟩⟩
  have R3 := ((R.grow g1).grow g2).grow g3
  obtain ⟨ps, rfl, hp⟩ := h3
  have rx3 := RpO.grow R.sz (g2.trans g3) rx.o
  have rx4 : Rp X.K ⟨Zt G A W, W, H3⟩ (.tup ps) vx := rx3
  obtain ⟨a, vs, rfl, e, r⟩ := RpO.tup rx3
  refine ⟨a, vs, rfl, e.sq, fun w => ?_, fun _ p n => ?_⟩
  · rw [← r.len] at w
    rw [cut_whole w] at hp
    exact k _ _ H3 ((g1.trans g2).trans g3) (VK1.ofRp rx4) hp
  · exact k _ _ _ (((g1.trans g2).trans g3).trans (Grow.new R3.src n)) (VK1.ofRp (Rp.newTup (R3.nz n) n R3.src R.sz (r.cut l u))) hp⟩
end
end
end PM

set_option maxHeartbeats 1000000
/-! PM: statements. -/
namespace PM
open PySem L2

theorem cO_set {c : List Ow} {i j : Nat} {o : Ow} : cO (c.set i o) j = if j = i ∧ i < c.length then o else cO c j := by
  unfold cO
  rw [List.getD_eq_getElem?_getD, List.getD_eq_getElem?_getD, List.getElem?_set]
  by_cases h : i = j
  · subst h
    by_cases h2 : i < c.length
    · rw [if_pos rfl, if_pos h2, if_pos (And.intro rfl h2)]; rfl
    · rw [if_pos rfl, if_neg h2, if_neg (fun z => h2 z.2), List.getElem?_eq_none (by omega)]
  · rw [if_neg h, if_neg (fun z => h z.1.symm)]
theorem cO_sh {c : List Ow} {i : Nat} : cO (c.set i .sh) i = .sh := by
  rw [cO_set]
  by_cases h : i < c.length
  · rw [if_pos ⟨rfl, h⟩]
  · rw [if_neg (fun z => h z.2)]
    unfold cO
    rw [List.getD_eq_getElem?_getD, List.getElem?_eq_none (by omega)]; rfl
theorem cO_ne {c : List Ow} {i j : Nat} {o : Ow} (h : j ≠ i) : cO (c.set i o) j = cO c j := by rw [cO_set, if_neg (fun z => h z.1)]
theorem env_set_get {α : Type} {env : List (Option α)} {i j : Nat} {x p : α} (e : (env.set i (some x))[j]? = some (some p)) : (j = i ∧ i < env.length ∧ p = x) ∨ (j ≠ i ∧ env[j]? = some (some p)) := by
  rw [List.getElem?_set] at e
  by_cases h : i = j
  · subst h
    rw [if_pos rfl] at e
    by_cases h2 : i < env.length
    · rw [if_pos h2] at e
      exact .inl ⟨rfl, h2, (Option.some.inj (Option.some.inj e)).symm⟩
    · rw [if_neg h2] at e; cases e
  · rw [if_neg h] at e
    exact .inr ⟨fun z => h z.symm, e⟩
section
variable {K : PySem.W.Frag} {G G' : Gh} {c c' : List Ow} {A : Nat → Option Addr} {W : Ws} {env : Env} {σ : St} {H H' : Hp}
def dropA (A : Nat → Option Addr) (i : Nat) : Nat → Option Addr := fun j => if j = i then none else A j
def putA (A : Nat → Option Addr) (i : Nat) (a : Addr) : Nat → Option Addr := fun j => if j = i then some a else A j
theorem dropA_some {i j : Nat} {a : Addr} (e : dropA A i j = some a) : j ≠ i ∧ A j = some a := by
  unfold dropA at e
  by_cases h : j = i
  · rw [if_pos h] at e; cases e
  · rw [if_neg h] at e; exact ⟨h, e⟩
theorem dropA_ne {i j : Nat} (h : j ≠ i) : dropA A i j = A j := if_neg h
theorem dropA_eq {i : Nat} : dropA A i i = none := if_pos rfl
theorem putA_ne {i j : Nat} {a : Addr} (h : j ≠ i) : putA A i a j = A j := if_neg h
theorem putA_eq {i : Nat} {a : Addr} : putA A i a i = some a := if_pos rfl
theorem zt_drop {i : Nat} {b : Addr} (h : Zt G (dropA A i) W b) : Zt G A W b := by
  rcases h with h | h | ⟨j, h⟩
  · exact .inl h
  · exact .inr (.inl h)
  · exact .inr (.inr ⟨j, (dropA_some h).2⟩)
/-- a name takes a clean value -/
theorem SR.set_sh {i : Nat} {p : PV} {v : V} (R : SR K G c A W env σ H) (hl : cO c i ≠ .lk) (r : Rp K ⟨Zt G A W, W, H⟩ p v) : SR K G (c.set i .sh) (dropA A i) W (env.set i (some p)) (σ.set i (some v)) H := by
  have x : Ext ⟨Zt G A W, W, H⟩ ⟨Zt G (dropA A i) W, W, H⟩ := ext_less fun b => zt_drop
  refine ⟨by rw [List.length_set, List.length_set]; exact R.len, R.W0in, R.Wmin, R.Wnew, R.Wfix, R.src, R.keep, R.zbt, fun j a e => ?_, fun j k a e1 e2 => ?_, fun j q hc e => ?_, fun j q e => ?_, fun q hq => ?_, fun b o e => ?_⟩
  · obtain ⟨n, e⟩ := dropA_some e
    obtain ⟨h1, h2, h3, h4, h5⟩ := R.Asep j a e
    exact ⟨h1, h2, h3, by rw [cO_ne n]; exact h4, h5⟩
  · exact R.Ainj j k a (dropA_some e1).2 (dropA_some e2).2
  · rcases env_set_get e with ⟨rfl, _, _⟩ | ⟨n, e⟩
    · exact absurd cO_sh hc
    · rw [cO_ne n] at hc
      obtain ⟨a, ha⟩ := R.Aset j q hc e
      exact ⟨a, by rw [dropA_ne n]; exact ha⟩
  · rcases env_set_get e with ⟨rfl, hi, rfl⟩ | ⟨n, e⟩
    · refine ⟨v, by rw [List.getElem?_set_self (by rw [← R.len]; exact hi)], ?_⟩
      rw [dropA_eq]
      exact Rp.ext x r
    · obtain ⟨w, h1, h2⟩ := R.slots j q e
      refine ⟨w, by rw [List.getElem?_set_ne (Ne.symm n)]; exact h1, ?_⟩
      rw [dropA_ne n]
      cases hA : A j with
      | none => rw [hA] at h2; exact Rp.ext x h2
      | some a => rw [hA] at h2; exact ⟨h2.1, h2.2.ext x rfl⟩
  · obtain ⟨h1, h2, h3, h4⟩ := R.pins q hq
    have n : q.1 ≠ i := fun z => hl (z ▸ h4)
    exact ⟨h1, h2, by rw [dropA_ne n]; exact h3, by rw [cO_ne n]; exact h4⟩
  · obtain ⟨h1, h2⟩ := R.fz b o e
    exact ⟨h1, fun z => h2 (zt_drop z)⟩
theorem SR.h0 (R : SR K G c A W env σ H) {a : Addr} (n : H a = none) : G.H0 a = none := by
  cases e : G.H0 a with
  | none => rfl
  | some o =>
    by_cases w : inW G.W0 a
    · obtain ⟨p, hp, hb⟩ := w
      obtain ⟨u, e1⟩ := inW_some R.src (b := a) ⟨p, R.W0in p hp, hb⟩
      rw [n] at e1; cases e1
    · rw [R.keep a o w e] at n; cases n
/-- a name takes a new list -/
theorem SR.set_ow {i : Nat} {p : PV} {a : Addr} (R : SR K G c A W env σ H) (hi' : i < c.length) (hl : cO c i ≠ .lk) (g : Grow W H H') (n : H a = none) (r : OwnAt K ⟨fun b => Zt G A W b ∨ b = a, W, H'⟩ a p) :
    SR K G (c.set i .ow) (putA A i a) W (env.set i (some p)) (σ.set i (some (.ref a))) H' := by
  have R' := R.grow g
  have ta : ∃ o, H' a = some o := by
    cases p with
    | lst ps => obtain ⟨vs, e, _⟩ := r; exact ⟨_, e⟩
    | dic ks ps => obtain ⟨vs, e, _⟩ := r; exact ⟨_, e⟩
    | obj C ns ps => obtain ⟨dx, vs, e, _⟩ := r; exact ⟨_, e⟩
    | _ => exact r.elim
  have nt : ∀ b o, H b = some o → b ≠ a := fun b o e z => by rw [z, n] at e; cases e
  have nw : ¬ inW W a := fun w => by obtain ⟨o, e⟩ := inW_some R.src w; rw [n] at e; cases e
  have nz : ¬ G.zb a := fun z => by obtain ⟨o, e⟩ := R.zbt a z; rw [n] at e; cases e
  have zt : ∀ b, Zt G (putA A i a) W b → Zt G A W b ∨ b = a := fun b z => by
    rcases z with z | z | ⟨j, z⟩
    · exact .inl (.inl z)
    · exact .inl (.inr (.inl z))
    · by_cases hj : j = i
      · subst hj; rw [putA_eq] at z; cases z; exact .inr rfl
      · rw [putA_ne hj] at z; exact .inl (.inr (.inr ⟨j, z⟩))
  have x : Ext ⟨Zt G A W, W, H⟩ ⟨Zt G (putA A i a) W, W, H'⟩ := ⟨fun b o hz e => ⟨fun z => (zt b z).elim hz (nt b o e), g.keep b o (fun w => hz (Zt.w w)) e⟩, fun _ h => h⟩
  have y : Ext ⟨fun b => Zt G A W b ∨ b = a, W, H'⟩ ⟨Zt G (putA A i a) W, W, H'⟩ := ext_less zt
  have own : ∀ j b, A j = some b → H' b = H b ∧ b ≠ a := fun j b e => by
    obtain ⟨_, n2, _, _, o, ho⟩ := R.Asep j b e
    exact ⟨by rw [ho, g.keep b o n2 ho], nt b o ho⟩
  refine ⟨by rw [List.length_set, List.length_set]; exact R.len, R.W0in, R.Wmin, R.Wnew, R.Wfix, R'.src, R'.keep, R'.zbt, fun j b e => ?_, fun j k b e1 e2 => ?_, fun j q hc e => ?_, fun j q e => ?_, fun q hq => ?_, fun b o e => ?_⟩
  · by_cases hj : j = i
    · subst hj
      rw [putA_eq] at e; cases e
      exact ⟨R.h0 n, nw, nz, by rw [cO_set, if_pos ⟨rfl, hi'⟩]; decide, ta⟩
    · rw [putA_ne hj] at e
      obtain ⟨h1, h2, h3, h4, h5⟩ := R'.Asep j b e
      exact ⟨h1, h2, h3, by rw [cO_ne hj]; exact h4, h5⟩
  · by_cases hj : j = i
    · by_cases hk : k = i
      · rw [hj, hk]
      · subst hj; rw [putA_eq] at e1; cases e1; rw [putA_ne hk] at e2; exact absurd rfl (own k a e2).2
    · by_cases hk : k = i
      · subst hk; rw [putA_eq] at e2; cases e2; rw [putA_ne hj] at e1; exact absurd rfl (own j a e1).2
      · rw [putA_ne hj] at e1; rw [putA_ne hk] at e2; exact R.Ainj j k b e1 e2
  · by_cases hj : j = i
    · subst hj; exact ⟨a, putA_eq⟩
    · rcases env_set_get e with ⟨z, _, _⟩ | ⟨_, e⟩
      · exact absurd z hj
      · rw [cO_ne hj] at hc
        obtain ⟨b, hb⟩ := R.Aset j q hc e
        exact ⟨b, by rw [putA_ne hj]; exact hb⟩
  · rcases env_set_get e with ⟨rfl, hi, rfl⟩ | ⟨hj, e⟩
    · refine ⟨.ref a, by rw [List.getElem?_set_self (by rw [← R.len]; exact hi)], ?_⟩
      rw [putA_eq]
      exact ⟨rfl, r.ext y rfl⟩
    · obtain ⟨w, h1, h2⟩ := R.slots j q e
      refine ⟨w, by rw [List.getElem?_set_ne (Ne.symm hj)]; exact h1, ?_⟩
      rw [putA_ne hj]
      cases hA : A j with
      | none => rw [hA] at h2; exact Rp.ext x h2
      | some b => rw [hA] at h2; exact ⟨h2.1, h2.2.ext x (own j b hA).1⟩
  · obtain ⟨h1, h2, h3, h4⟩ := R'.pins q hq
    have nj : q.1 ≠ i := fun z => hl (z ▸ h4)
    exact ⟨h1, h2, by rw [putA_ne nj]; exact h3, by rw [cO_ne nj]; exact h4⟩
  · obtain ⟨h1, h2⟩ := R.fz b o e
    obtain ⟨h3, _⟩ := R'.fz b o e
    exact ⟨h3, fun z => (zt b z).elim h2 (nt b o h1)⟩
/-- one's own list is changed -/
theorem SR.mut {j : Nat} {a : Addr} {o : HO} {p p0 : PV} (e0 : env[j]? = some (some p0)) (R : SR K G c A W env σ H) (hA : A j = some a) (hc : cO c j = .ow) (r : OwnAt K ⟨Zt G A W, W, upd H a o⟩ a p) :
    SR K G c A W (env.set j (some p)) σ (upd H a o) := by
  obtain ⟨a1, a2, a3, a4, u, a5⟩ := R.Asep j a hA
  have za : Zt G A W a := .inr (.inr ⟨j, hA⟩)
  have x : Ext ⟨Zt G A W, W, H⟩ ⟨Zt G A W, W, upd H a o⟩ := ⟨fun b w hz e => ⟨hz, by show upd H a o b = some w; rw [upd_ne (fun z => hz (by rw [z]; exact za))]; exact e⟩, fun _ h => h⟩
  have tr : ∀ b, (∃ w, H b = some w) → ∃ w, upd H a o b = some w := fun b ⟨w, e⟩ => by
    by_cases z : b = a
    · subst z; exact ⟨o, upd_same⟩
    · exact ⟨w, by rw [upd_ne z]; exact e⟩
  have ne_w : ∀ q ∈ W, q.1 ≠ a ∧ q.2 ≠ a := fun q hq => ⟨fun z => a2 ⟨q, hq, .inl z.symm⟩, fun z => a2 ⟨q, hq, .inr z.symm⟩⟩
  refine ⟨by rw [List.length_set]; exact R.len, R.W0in, R.Wmin, R.Wnew, R.Wfix, fun q hq => ?_, fun b w hw e => ?_, fun b hb => tr b (R.zbt b hb), fun k b e => ?_, R.Ainj, fun k q hk e => ?_, fun k q e => ?_, fun q hq => ?_, fun b w e => ?_⟩
  · exact SA.at (upd_ne (ne_w q hq).1) (upd_ne (ne_w q hq).2) (R.src q hq)
  · rw [upd_ne (fun z => by rw [z, a1] at e; cases e)]
    exact R.keep b w hw e
  · obtain ⟨h1, h2, h3, h4, h5⟩ := R.Asep k b e
    exact ⟨h1, h2, h3, h4, tr b h5⟩
  · rcases env_set_get e with ⟨z, _, _⟩ | ⟨_, e⟩
    · rw [z]; exact ⟨a, hA⟩
    · exact R.Aset k q hk e
  · rcases env_set_get e with ⟨z, hl, z2⟩ | ⟨n, e⟩
    · subst z z2
      obtain ⟨v, h1, h2⟩ := R.slots k p0 e0
      rw [hA] at h2
      refine ⟨v, h1, ?_⟩
      rw [hA]
      exact ⟨h2.1, r⟩
    · obtain ⟨v, h1, h2⟩ := R.slots k q e
      refine ⟨v, h1, ?_⟩
      cases hk : A k with
      | none => rw [hk] at h2; exact Rp.ext x h2
      | some b =>
        rw [hk] at h2
        refine ⟨h2.1, h2.2.ext x ?_⟩
        have : b ≠ a := fun z => n (R.Ainj k j a (z ▸ hk) hA)
        exact upd_ne this
  · obtain ⟨h1, h2, h3, h4⟩ := R.pins q hq
    have : q.2.1 ≠ a := fun z => by
      have := R.Ainj q.1 j a (z ▸ h3) hA
      rw [this, hc] at h4; cases h4
    exact ⟨by rw [upd_ne this]; exact h1, h2, h3, h4⟩
  · obtain ⟨h1, h2⟩ := R.fz b w e
    exact ⟨by rw [upd_ne (fun z => h2 (by rw [z]; exact za))]; exact h1, h2⟩
end

section
variable {K : PySem.W.Frag} {G G' : Gh} {c c' : List Ow} {A : Nat → Option Addr} {W : Ws} {env : Env} {σ : St} {H H' : Hp}
theorem OwnAt.less {Z Z' : Addr → Prop} {a : Addr} {p : PV} (r : OwnAt K ⟨Z, W, H⟩ a p) (h : ∀ b, Z' b → Z b) : OwnAt K ⟨Z', W, H⟩ a p := r.ext (ext_less h) rfl
/-- what is one's own may become shared -/
def FrzOk : List Ow → List Ow → Bool
  | [], [] => true
  | x :: xs, y :: ys => (decide (x = y) || (decide (x = .ow) && decide (y = .sh))) && FrzOk xs ys
  | _, _ => false
theorem FrzOk.at : ∀ {c c' : List Ow} (i : Nat), FrzOk c c' = true → cO c' i = cO c i ∨ (cO c i = .ow ∧ cO c' i = .sh)
  | [], [], _, _ => .inl rfl
  | x :: xs, y :: ys, 0, h => by
    unfold FrzOk at h
    rw [Bool.and_eq_true, Bool.or_eq_true, Bool.and_eq_true, decide_eq_true_eq, decide_eq_true_eq, decide_eq_true_eq] at h
    rcases h.1 with e | e
    · subst e; exact .inl rfl
    · exact .inr ⟨e.1, e.2⟩
  | x :: xs, y :: ys, i + 1, h => by
    unfold FrzOk at h
    rw [Bool.and_eq_true] at h
    exact FrzOk.at (c := xs) (c' := ys) i h.2
theorem SR.frz (R : SR K G c A W env σ H) (h : FrzOk c c' = true) : ∃ A', SR K G c' A' W env σ H := by
  have hat := fun i => FrzOk.at (c := c) (c' := c') i h
  let A' : Nat → Option Addr := fun i => if cO c' i = .sh then none else A i
  have d1 : ∀ i a, A' i = some a → A i = some a ∧ cO c' i ≠ .sh := fun i a e => by
    have e' : (if cO c' i = .sh then none else A i) = some a := e
    by_cases z : cO c' i = .sh
    · rw [if_pos z] at e'; cases e'
    · rw [if_neg z] at e'; exact ⟨e', z⟩
  have d2 : ∀ i, cO c' i ≠ .sh → A' i = A i := fun i z => if_neg z
  have d3 : ∀ i, cO c' i = .sh → A' i = none := fun i z => if_pos z
  have zt : ∀ b, Zt G A' W b → Zt G A W b := fun b z => by
    rcases z with z | z | ⟨i, z⟩
    · exact .inl z
    · exact .inr (.inl z)
    · exact .inr (.inr ⟨i, (d1 i b z).1⟩)
  have x : Ext ⟨Zt G A W, W, H⟩ ⟨Zt G A' W, W, H⟩ := ext_less zt
  refine ⟨A', R.len, R.W0in, R.Wmin, R.Wnew, R.Wfix, R.src, R.keep, R.zbt, fun i a e => ?_, fun i j a e1 e2 => R.Ainj i j a (d1 i a e1).1 (d1 j a e2).1, fun i p hc e => ?_, fun i p e => ?_, fun q hq => ?_, fun b o e => ?_⟩
  · obtain ⟨h1, h2, h3, _, h5⟩ := R.Asep i a (d1 i a e).1
    exact ⟨h1, h2, h3, (d1 i a e).2, h5⟩
  · rw [d2 i hc]
    exact R.Aset i p (fun z => by
      rcases hat i with w | w
      · exact hc (w.trans z)
      · exact hc w.2) e
  · obtain ⟨v, h1, h2⟩ := R.slots i p e
    refine ⟨v, h1, ?_⟩
    by_cases z : cO c' i = .sh
    · rw [d3 i z]
      cases hA : A i with
      | none => rw [hA] at h2; exact Rp.ext x h2
      | some a =>
        rw [hA] at h2
        obtain ⟨rfl, h2⟩ := h2
        obtain ⟨_, a2, a3, _, _⟩ := R.Asep i a hA
        refine OwnAt.cl (Z := Zt G A' W) (fun w => ?_) (h2.less (Z' := fun b => Zt G A' W b ∨ b = a) fun b w => ?_)
        · rcases w with w | w | ⟨j, w⟩
          · exact a3 w
          · exact a2 w
          · obtain ⟨w1, w2⟩ := d1 j a w
            have := R.Ainj j i a w1 hA
            exact w2 (this ▸ z)
        · rcases w with w | w
          · exact zt b w
          · rw [w]; exact .inr (.inr ⟨i, hA⟩)
    · rw [d2 i z]
      cases hA : A i with
      | none => rw [hA] at h2; exact Rp.ext x h2
      | some a => rw [hA] at h2; exact ⟨h2.1, h2.2.ext x rfl⟩
  · obtain ⟨h1, h2, h3, h4⟩ := R.pins q hq
    have e : cO c' q.1 = .lk := by
      rcases hat q.1 with w | w
      · rw [w]; exact h4
      · rw [h4] at w; cases w.1
    exact ⟨h1, h2, by rw [d2 q.1 (by rw [e]; decide)]; exact h3, e⟩
  · obtain ⟨h1, h2⟩ := R.fz b o e
    exact ⟨h1, fun z => h2 (zt b z)⟩

/-! ### statements -/
structure Em where
  nx : Env → Prop
  rt : PV → Prop
  bk : Env → Prop := fun _ => False
  ct : Env → Prop := fun _ => False
abbrev TSm := Em → Env → Prop
/-- what a def gives back -/
def RetOk (K : PySem.W.Frag) (rm : Md) (G : Gh) (p : PV) (v : V) (H : Hp) : Prop :=
  ∃ W, (∀ q ∈ G.W0, q ∈ W) ∧ (G.gw = false → W = G.W0) ∧ (∀ q ∈ W, SA H q) ∧ (∀ b o, ¬ inW G.W0 b → G.H0 b = some o → H b = some o) ∧ VK1 K rm (fun b => G.zb b ∨ inW W b) W G.H0 H p v
structure Kont (K : PySem.W.Frag) (rm : Md) (cL c' : List Ow) (G : Gh) (M : Em) (D : Ends) : Prop where
  nx : ∀ A W env σ H, SR K G c' A W env σ H → M.nx env → D.nx σ H
  rt : ∀ p v H, RetOk K rm G p v H → M.rt p → D.rt v H
  bk : ∀ A W env σ H, SR K G cL A W env σ H → M.bk env → D.bk σ H
  ct : ∀ A W env σ H, SR K G cL A W env σ H → M.ct env → D.ct σ H
structure Fx where
  rm : Md
  gw : Bool
  cL : List Ow
def tmS (K : PySem.W.Frag) (f : Fx) (c c' : List Ow) (t : TSm) : TS := fun D σ H => ∃ G A W env M, G.gw = f.gw ∧ SR K G c A W env σ H ∧ t M env ∧ Kont K f.rm f.cL c' G M D
structure PSm (X : Cx) (f : Fx) (c c' : List Ow) (st : Stmt) (t : TSm) : Prop where
  run : PS X st (tmS X.K f c c' t)
structure PSsm (X : Cx) (f : Fx) (c c' : List Ow) (st : List Stmt) (t : TSm) : Prop where
  run : PSs X st (tmS X.K f c c' t)
theorem _root_.L2.PS.weak {X : Cx} {e : Stmt} {t t' : TS} (h : PS X e t) (k : ∀ D σ H, t' D σ H → t D σ H) : PS X e t' := ⟨fun pins s σ H D I x => h.run pins s σ H D I (k D σ H x)⟩
theorem _root_.L2.PSs.weak {X : Cx} {e : List Stmt} {t t' : TS} (h : PSs X e t) (k : ∀ D σ H, t' D σ H → t D σ H) : PSs X e t' := ⟨fun pins s σ H D I x => h.run pins s σ H D I (k D σ H x)⟩
end
section
variable {X : Cx} {f : Fx} {c c1 c' : List Ow} {st : Stmt} {rest : List Stmt} {t u : TSm} {e : Expr} {te : TEm} {pos : Pos}
def sNext : TSm := fun M env => M.nx env
def sSeq (t u : TSm) : TSm := fun M env => t { M with nx := u M } env
theorem sm_nil : PSsm X f c c [] sNext := ⟨pss_nil.weak fun D σ H h => by
  obtain ⟨G, A, W, env, M, hg, R, h, k⟩ := h
  exact k.nx A W env σ H R h⟩
theorem sm_cons (h1 : PSm X f c c1 st t) (h2 : PSsm X f c1 c' rest u) : PSsm X f c c' (st :: rest) (sSeq t u) := ⟨(pss_cons h1.run h2.run).weak fun D σ H h => by
  obtain ⟨G, A, W, env, M, hg, R, h, k⟩ := h
  exact ⟨G, A, W, env, _, hg, R, h, ⟨fun A W env σ H R' h' => ⟨G, A, W, env, M, hg, R', h', k⟩, k.rt, k.bk, k.ct⟩⟩⟩
theorem sm_one (h1 : PSm X f c c' st t) : PSsm X f c c' [st] t := ⟨pss_one h1.run⟩
/-- ownership may be let go ahead of a block, behind it -/
theorem sm_pre (h : FrzOk c c1 = true) (h1 : PSsm X f c1 c' rest t) : PSsm X f c c' rest t := ⟨h1.run.weak fun D σ H h' => by
  obtain ⟨G, A, W, env, M, hg, R, h', k⟩ := h'
  obtain ⟨A', R'⟩ := R.frz h
  exact ⟨G, A', W, env, M, hg, R', h', k⟩⟩
theorem sm_post (h : FrzOk c1 c' = true) (h1 : PSsm X f c c1 rest t) : PSsm X f c c' rest t := ⟨h1.run.weak fun D σ H h' => by
  obtain ⟨G, A, W, env, M, hg, R, h', k⟩ := h'
  exact ⟨G, A, W, env, M, hg, R, h', ⟨fun A W env σ H R' h2 => by
    obtain ⟨A', R2⟩ := R'.frz h
    exact k.nx A' W env σ H R2 h2, k.rt, k.bk, k.ct⟩⟩⟩
theorem sm_pre1 (h : FrzOk c c1 = true) (h1 : PSm X f c1 c' st t) : PSm X f c c' st t := ⟨h1.run.weak fun D σ H h' => by
  obtain ⟨G, A, W, env, M, hg, R, h', k⟩ := h'
  obtain ⟨A', R'⟩ := R.frz h
  exact ⟨G, A', W, env, M, hg, R', h', k⟩⟩
theorem sm_pass : PSm X f c c (.Pass pos) sNext := ⟨ps_pass.weak fun D σ H h => by
  obtain ⟨G, A, W, env, M, hg, R, h, k⟩ := h
  exact k.nx A W env σ H R h⟩
def sBreak : TSm := fun M env => M.bk env
def sCont : TSm := fun M env => M.ct env
theorem sm_break (h : FrzOk c f.cL = true) : PSm X f c c' (.Break pos) sBreak := ⟨ps_break.weak fun D σ H h' => by
  obtain ⟨G, A, W, env, M, hg, R, h', k⟩ := h'
  obtain ⟨A', R'⟩ := R.frz h
  exact k.bk A' W env σ H R' h'⟩
theorem sm_cont (h : FrzOk c f.cL = true) : PSm X f c c' (.Continue pos) sCont := ⟨ps_continue.weak fun D σ H h' => by
  obtain ⟨G, A, W, env, M, hg, R, h', k⟩ := h'
  obtain ⟨A', R'⟩ := R.frz h
  exact k.ct A' W env σ H R' h'⟩
def sDrop (te : TEm) : TSm := fun M env => te env fun _ => M.nx env
theorem sm_expr {md : Md} (he : PEm X c md e te) (hs : swapsWith e none pos.line X.env = pure false := by rfl) : PSm X f c c (.Expr e pos) (sDrop te) := ⟨(ps_expr he.run hs).weak fun D σ H h => by
  obtain ⟨G, A, W, env, M, hg, R, h, k⟩ := h
  exact ⟨G, A, W, env, _, R, h, fun p v H1 g r h1 => k.nx A W env σ H1 (R.grow g) h1⟩⟩
def sRet (te : TEm) : TSm := fun M env => te env M.rt
theorem SR.ret {K : PySem.W.Frag} {G : Gh} {A : Nat → Option Addr} {W : Ws} {env : Env} {σ : St} {H H1 : Hp} {rm : Md} {p : PV} {v : V} (R : SR K G c A W env σ H) (g : Grow W H H1) (hm : rm ≠ .ow) (r : VK1 K rm (Zt G A W) W H H1 p v) : RetOk K rm G p v H1 := by
  have R1 := R.grow g
  refine ⟨W, R.W0in, R.Wfix, R1.src, R1.keep, ?_⟩
  have less : ∀ b, (G.zb b ∨ inW W b) → Zt G A W b := fun b z => z.elim .inl fun z => .inr (.inl z)
  cases rm with
  | cl => exact VK1.ofRp (Rp.ext (ext_less less) r.c)
  | ow => exact absurd rfl hm
  | fr =>
    obtain ⟨a, e, n, o⟩ := r
    exact ⟨a, e, R.h0 n, o.less fun b z => z.elim (fun z => .inl (less b z)) .inr⟩
theorem sm_ret (he : PEm X c f.rm e te) (hm : f.rm ≠ .ow := by decide) : PSm X f c c' (.Return (some e) pos) (sRet te) := ⟨(ps_ret he.run).weak fun D σ H h => by
  obtain ⟨G, A, W, env, M, hg, R, h, k⟩ := h
  exact ⟨G, A, W, env, _, R, h, fun p v H1 g r h1 => k.rt p v H1 (R.ret g hm r) h1⟩⟩
/-- a list of one's own given back -/
theorem sm_retO (i : Nat) {x : Str} {pos' : Pos} (hN : X.N[i]? = some x := by rfl) (hc : cO c i ≠ .sh := by decide) (hm : f.rm ≠ .ow := by decide) (hv : Vis X.env.scope x := by first | exact Or.inl rfl | exact Or.inr (Or.inl rfl) | exact Or.inr (Or.inr rfl)) (hd : (x == ("__debug__" : Str)) = false := by decide)
    (hcd : (x == ("__classdict__" : Str)) = false := by decide) : PSm X f c c' (.Return (some (.Name x pos')) pos) (sRet (mVar i)) := ⟨(ps_ret (pe_var hN hv hd hcd)).weak fun D σ H h => by
  obtain ⟨G, A, W, env, M, hg, R, ⟨p, e, hp⟩, k⟩ := h
  obtain ⟨v, h1, h2⟩ := R.slots i p e
  obtain ⟨a, hA⟩ := R.Aset i p hc e
  rw [hA] at h2
  obtain ⟨rfl, h2⟩ := h2
  obtain ⟨a1, a2, a3, _, _⟩ := R.Asep i a hA
  refine ⟨.ref a, h1, k.rt p _ H ⟨W, R.W0in, R.Wfix, R.src, R.keep, ?_⟩ hp⟩
  have o : OwnAt X.K ⟨fun b => (G.zb b ∨ inW W b) ∨ b = a, W, H⟩ a p := h2.less fun b z => by
    rcases z with z | z
    · exact z.elim .inl fun z => .inr (.inl z)
    · rw [z]; exact .inr (.inr ⟨i, hA⟩)
  cases hr : f.rm with
  | ow => exact absurd hr hm
  | cl => exact VK1.ofRp (o.cl fun z => z.elim a3 a2)
  | fr => exact ⟨a, rfl, a1, o⟩⟩
def sRetN : TSm := fun M _ => M.rt .non
theorem sm_retN (hm : f.rm = .cl := by rfl) : PSm X f c c' (.Return none pos) sRetN := ⟨ps_retN.weak fun D σ H h => by
  obtain ⟨G, A, W, env, M, hg, R, h, k⟩ := h
  refine k.rt _ _ H ⟨W, R.W0in, R.Wfix, R.src, R.keep, ?_⟩ h
  rw [hm]
  exact VK1.ofRp Rp.non'⟩
def sIf (tc : TTm) (t u : TSm) : TSm := fun M env => tc env fun b => if b = true then t M env else u M env
theorem sm_if {cnd : Expr} {a b : List Stmt} {tc : TTm} (hc : PTm X c cnd tc) (ha : PSsm X f c c' a t) (hb : PSsm X f c c' b u) : PSm X f c c' (.If cnd a b pos) (sIf tc t u) := ⟨(ps_if hc.run ha.run hb.run).weak fun D σ H h => by
  obtain ⟨G, A, W, env, M, hg, R, h, k⟩ := h
  refine ⟨G, A, W, env, _, R, h, fun b H1 g h1 => ?_⟩
  cases b with
  | true => rw [if_pos rfl] at h1 ⊢; exact ⟨G, A, W, env, M, hg, R.grow g, h1, k⟩
  | false => rw [if_neg Bool.false_ne_true] at h1 ⊢; exact ⟨G, A, W, env, M, hg, R.grow g, h1, k⟩⟩
/-- x = e -/
def sSet (i : Nat) (te : TEm) : TSm := fun M env => te env fun p => M.nx (env.set i (some p))
theorem sm_set (i : Nat) {x : Str} {pos' : Pos} (hN : X.N.Nodup) (he : PEm X c .cl e te) (hi : X.N[i]? = some x := by rfl) (hx : Loc X.env.scope x := by first | exact Or.inl rfl | exact Or.inr rfl) (hl : cO c i ≠ .lk := by decide) (hs : swapsWith e (some (.Name x pos')) pos.line X.env = pure false := by rfl) (hf : X.fn x = true ∨ X.env.scope.names.lookup x = some .local := by first | exact .inl rfl | exact .inr rfl | assumption) :
    PSm X f c (c.set i .sh) (.Assign [.Name x pos'] e pos) (sSet i te) := ⟨(ps_set hN hi hx he.run hs hf).weak fun D σ H h => by
  obtain ⟨G, A, W, env, M, hg, R, h, k⟩ := h
  exact ⟨G, A, W, env, _, R, h, fun p v H1 g r h1 => k.nx _ W _ _ H1 ((R.grow g).set_sh hl r.c) h1⟩⟩
theorem sm_setF (i : Nat) {x : Str} {pos' : Pos} (hN : X.N.Nodup) (he : PEm X c .fr e te) (hi : X.N[i]? = some x := by rfl) (hx : Loc X.env.scope x := by first | exact Or.inl rfl | exact Or.inr rfl) (hlen : i < c.length := by decide) (hl : cO c i ≠ .lk := by decide) (hs : swapsWith e (some (.Name x pos')) pos.line X.env = pure false := by rfl) (hf : X.fn x = true ∨ X.env.scope.names.lookup x = some .local := by first | exact .inl rfl | exact .inr rfl | assumption) :
    PSm X f c (c.set i .ow) (.Assign [.Name x pos'] e pos) (sSet i te) := ⟨(ps_set hN hi hx he.run hs hf).weak fun D σ H h => by
  obtain ⟨G, A, W, env, M, hg, R, h, k⟩ := h
  refine ⟨G, A, W, env, _, R, h, fun p v H1 g r h1 => ?_⟩
  obtain ⟨a, rfl, n, o⟩ := r
  exact k.nx _ W _ _ H1 (R.set_ow hlen hl g n o) h1⟩
/-- x += e, whole numbers -/
def sAug (i : Nat) (o : PO2) (te : TEm) : TSm := fun M env => ∃ x, env[i]? = some (some x) ∧ te env fun y => o x y fun z => M.nx (env.set i (some z))
theorem sm_aug (i : Nat) {x : Str} {pos' : Pos} {op : Operator} {r : R2} {o : PO2} (ho : OpR X (inplaceOp op) r) (L : Lift2 X.K r o .cl) (hN : X.N.Nodup) (he : PEm X c .ow e te) (hi : X.N[i]? = some x := by rfl) (hx : Loc X.env.scope x := by first | exact Or.inl rfl | exact Or.inr rfl) (hc : cO c i = .sh := by rfl) (hf : X.fn x = true ∨ X.env.scope.names.lookup x = some .local := by first | exact .inl rfl | exact .inr rfl | assumption) :
    PSm X f c (c.set i .sh) (.AugAssign (.Name x pos') op e pos) (sAug i o te) := ⟨(ps_aug hN hi hx he.run (ti := r) (fun pins s σ H x y v u Q I rx ry h => ho pins s σ H x y v u Q I rx ry h) hf).weak fun D σ H h => by
  obtain ⟨G, A, W, env, M, hg, R, ⟨p, ep, h⟩, k⟩ := h
  obtain ⟨v, h1, h2⟩ := R.slots i p ep
  have hA : A i = none := by
    cases hA : A i with
    | none => rfl
    | some a => exact absurd hc (R.Asep i a hA).2.2.2.1
  rw [hA] at h2
  refine ⟨v, h1, G, A, W, env, _, R, h, fun q w H1 g r h3 => ?_⟩
  refine L _ W H1 p q v w _ _ (R.grow g).sit (RpO.grow R.sz g (Rp.ow R.sz h2)) r.o h3 fun z u H2 g2 r2 h4 => ?_
  exact k.nx _ W _ _ H2 (((R.grow g).grow g2).set_sh (by rw [hc]; decide) r2.c) h4⟩
end
end PM

set_option maxHeartbeats 1000000
/-! PM: lists changed, targets, loops. -/
namespace PM
open PySem L2
section
variable {X : Cx} {f : Fx} {c c1 c' : List Ow} {st : Stmt} {rest : List Stmt} {t u : TSm} {e ei : Expr} {te ti : TEm} {pos : Pos}
/-- one's own list, as it stands -/
theorem SR.mine {K : PySem.W.Frag} {G : Gh} {A : Nat → Option Addr} {W : Ws} {env : Env} {σ : St} {H : Hp} {i : Nat} {p : PV} (R : SR K G c A W env σ H) (hc : cO c i = .ow) (e : env[i]? = some (some p)) : ∃ a, A i = some a ∧ σ[i]? = some (some (.ref a)) ∧ OwnAt K ⟨Zt G A W, W, H⟩ a p := by
  obtain ⟨v, h1, h2⟩ := R.slots i p e
  obtain ⟨a, hA⟩ := R.Aset i p (by rw [hc]; decide) e
  rw [hA] at h2
  exact ⟨a, hA, by rw [h1, h2.1], h2.2⟩
theorem OwnAt.mutL {K : PySem.W.Frag} {Z : Addr → Prop} {W : Ws} {H : Hp} {a : Addr} {ps : List PV} {vs : List V} (hz : Z a) (r : Rps K ⟨Z, W, H⟩ ps vs) : OwnAt K ⟨Z, W, upd H a (.lst vs)⟩ a (.lst ps) :=
by
  have x : Ext ⟨Z, W, H⟩ ⟨Z, W, upd H a (.lst vs)⟩ := ⟨fun b w h e => ⟨h, by show upd H a (.lst vs) b = some w; rw [upd_ne (fun z => h (by rw [z]; exact hz))]; exact e⟩, fun _ h => h⟩
  exact ⟨vs, upd_same, Rps.ext x r⟩
/-- x.append(e) -/
def sApp (i : Nat) (te : TEm) : TSm := fun M env => ∃ ps, env[i]? = some (some (.lst ps)) ∧ te env fun p => ps.length < sizeLine ∧ M.nx (env.set i (some (.lst (ps ++ [p]))))
theorem sm_app (i : Nat) {x : Str} {p1 p2 cpos : Pos} (he : PEm X c .cl e te) (hN : X.N[i]? = some x := by rfl) (hc : cO c i = .ow := by rfl) (hv : Vis X.env.scope x := by first | exact Or.inl rfl | exact Or.inr (Or.inl rfl) | exact Or.inr (Or.inr rfl)) (hd : (x == ("__debug__" : Str)) = false := by decide)
    (hcd : (x == ("__classdict__" : Str)) = false := by decide)
    (hbase : attributeBase (.Name x p1) "append" X.env (eval (.Name x p1) X.env) = eval (.Name x p1) X.env := by rfl)
    (hfew : ((backTo cpos (starEach [e] X.env)).all (fun x => !x.1) && (backToKw cpos (keywordEach [] X.env)).all (fun x => x.1.isSome)
      && decide (([e] : List Expr).length + ([] : List Keyword).length + (if ([] : List Keyword).isEmpty then 0 else 1) < 30)) = true := by rfl)
    (hline : (p2.endLine == cpos.line) = true := by rfl) (hs : starEach [e] X.env = (false, eval e X.env) :: starEach [] X.env := by rfl) (hplain : (backTo cpos (starEach [] X.env)).any (·.1) = false := by rfl)
    (hsw : swapsWith (.Call (.Attribute (.Name x p1) "append" p2) [e] [] cpos) none pos.line X.env = pure false := by rfl) :
    PSm X f c c (.Expr (.Call (.Attribute (.Name x p1) "append" p2) [e] [] cpos) pos) (sApp i te) := ⟨(ps_expr (pe_bm PySem.F.plainAttrs_list PySem.F.slot_list_append PySem.F.type_list_append mt_append (pe_var hN hv hd hcd) (pa_cons he.run pa_nil hs) hbase hfew hline hs hplain) hsw).weak fun D σ H h => by
  obtain ⟨G, A, W, env, M, hg, R, ⟨ps, e0, h⟩, k⟩ := h
  obtain ⟨a, hA, hσ, vs, hH, r⟩ := R.mine hc e0
  refine ⟨.ref a, hσ, .inl ⟨rfl, vs, .inl (.inl hH)⟩, G, A, W, env, _, R, h, fun p v H1 g rv ⟨hl, h1⟩ => ?_⟩
  have R1 := R.grow g
  obtain ⟨a', hA', _, ws, hH1, r1⟩ := R1.mine hc e0
  rw [hA] at hA'; cases hA'
  refine ⟨a, ws, v, rfl, rfl, hH1, by rw [← r1.len]; exact hl, ?_⟩
  exact k.nx A W _ σ _ (R1.mut e0 hA hc (OwnAt.mutL (.inr (.inr ⟨i, hA⟩)) (r1.append (Rps.cons rv.c Rps.nil)))) h1⟩
/-- x.extend(e), e a list -/
def sExt (i : Nat) (te : TEm) : TSm := fun M env => ∃ ps, env[i]? = some (some (.lst ps)) ∧ te env fun p => ∃ qs, p = .lst qs ∧ ps.length + qs.length ≤ sizeLine ∧ M.nx (env.set i (some (.lst (ps ++ qs))))
theorem sm_ext (i : Nat) {x : Str} {p1 p2 cpos : Pos} (he : PEm X c .cl e te) (hN : X.N[i]? = some x := by rfl) (hc : cO c i = .ow := by rfl) (hv : Vis X.env.scope x := by first | exact Or.inl rfl | exact Or.inr (Or.inl rfl) | exact Or.inr (Or.inr rfl)) (hd : (x == ("__debug__" : Str)) = false := by decide)
    (hcd : (x == ("__classdict__" : Str)) = false := by decide)
    (hbase : attributeBase (.Name x p1) "extend" X.env (eval (.Name x p1) X.env) = eval (.Name x p1) X.env := by rfl)
    (hfew : ((backTo cpos (starEach [e] X.env)).all (fun x => !x.1) && (backToKw cpos (keywordEach [] X.env)).all (fun x => x.1.isSome)
      && decide (([e] : List Expr).length + ([] : List Keyword).length + (if ([] : List Keyword).isEmpty then 0 else 1) < 30)) = true := by rfl)
    (hline : (p2.endLine == cpos.line) = true := by rfl) (hs : starEach [e] X.env = (false, eval e X.env) :: starEach [] X.env := by rfl) (hplain : (backTo cpos (starEach [] X.env)).any (·.1) = false := by rfl)
    (hsw : swapsWith (.Call (.Attribute (.Name x p1) "extend" p2) [e] [] cpos) none pos.line X.env = pure false := by rfl) :
    PSm X f c c (.Expr (.Call (.Attribute (.Name x p1) "extend" p2) [e] [] cpos) pos) (sExt i te) := ⟨(ps_expr (pe_bm PySem.F.plainAttrs_list PySem.F.slot_list_extend PySem.F.type_list_extend mt_extend (pe_var hN hv hd hcd) (pa_cons he.run pa_nil hs) hbase hfew hline hs hplain) hsw).weak fun D σ H h => by
  obtain ⟨G, A, W, env, M, hg, R, ⟨ps, e0, h⟩, k⟩ := h
  obtain ⟨a, hA, hσ, vs, hH, r⟩ := R.mine hc e0
  refine ⟨.ref a, hσ, .inl ⟨rfl, vs, .inl (.inl hH)⟩, G, A, W, env, _, R, h, fun p v H1 g rv ⟨qs, eq, hl, h1⟩ => ?_⟩
  subst eq
  have R1 := R.grow g
  obtain ⟨a', hA', _, ws, hH1, r1⟩ := R1.mine hc e0
  rw [hA] at hA'; cases hA'
  obtain ⟨b, us, rfl, e2, r2⟩ := (Rp.ow R1.sz rv.c).lst
  refine ⟨a, b, ws, us, rfl, rfl, hH1, e2.2, by rw [← r1.len, ← r2.len]; exact hl, ?_⟩
  exact k.nx A W _ σ _ (R1.mut e0 hA hc (OwnAt.mutL (.inr (.inr ⟨i, hA⟩)) (r1.append r2))) h1⟩
/-- y = x.pop(), y = x.pop(e) -/
def sPop (j i : Nat) : TSm := fun M env => ∃ ps p, env[i]? = some (some (.lst ps)) ∧ ps[ps.length - 1]? = some p ∧ M.nx ((env.set i (some (.lst ps.dropLast))).set j (some p))
theorem Rps.dropLast {K : PySem.W.Frag} {S : Wd} {ps : List PV} {vs : List V} (h : Rps K S ps vs) : Rps K S ps.dropLast vs.dropLast := by
  rw [List.dropLast_eq_take, List.dropLast_eq_take, h.len]
  exact h.take _
theorem sm_pop (j i : Nat) {x y : Str} {py p1 p2 cpos : Pos} (hNd : X.N.Nodup) (hi : X.N[j]? = some y := by rfl) (hy : Loc X.env.scope y := by first | exact Or.inl rfl | exact Or.inr rfl) (hl : cO c j ≠ .lk := by decide) (hN : X.N[i]? = some x := by rfl) (hc : cO c i = .ow := by rfl) (hv : Vis X.env.scope x := by first | exact Or.inl rfl | exact Or.inr (Or.inl rfl) | exact Or.inr (Or.inr rfl)) (hd : (x == ("__debug__" : Str)) = false := by decide)
    (hcd : (x == ("__classdict__" : Str)) = false := by decide) (hbase : attributeBase (.Name x p1) "pop" X.env (eval (.Name x p1) X.env) = eval (.Name x p1) X.env := by rfl) (hline : (p2.endLine == cpos.line) = true := by rfl)
    (hsw : swapsWith (.Call (.Attribute (.Name x p1) "pop" p2) [] [] cpos) (some (.Name y py)) pos.line X.env = pure false := by rfl) (hf : X.fn y = true ∨ X.env.scope.names.lookup y = some .local := by first | exact .inl rfl | exact .inr rfl | assumption) :
    PSm X f c (c.set j .sh) (.Assign [.Name y py] (.Call (.Attribute (.Name x p1) "pop" p2) [] [] cpos) pos) (sPop j i) := ⟨(ps_set hNd hi hy (pe_bm0 PySem.F.plainAttrs_list PySem.F.slot_list_pop PySem.F.type_list_pop mt_pop (pe_var hN hv hd hcd) hbase hline) hsw hf).weak fun D σ H h => by
  obtain ⟨G, A, W, env, M, hg, R, ⟨ps, p, e0, ep, h⟩, k⟩ := h
  obtain ⟨a, hA, hσ, vs, hH, r⟩ := R.mine hc e0
  obtain ⟨v, ev, rv⟩ := r.get ep
  refine ⟨.ref a, hσ, .inl ⟨rfl, vs, .inl (.inl hH)⟩, a, vs, v, rfl, rfl, hH, by rw [← r.len]; exact ev, ?_⟩
  have za : Zt G A W a := .inr (.inr ⟨i, hA⟩)
  have R1 := R.mut e0 hA hc (OwnAt.mutL za r.dropLast)
  have x : Ext ⟨Zt G A W, W, H⟩ ⟨Zt G A W, W, upd H a (.lst vs.dropLast)⟩ := ⟨fun b w hz e => ⟨hz, by show upd H a _ b = some w; rw [upd_ne (fun z => hz (by rw [z]; exact za))]; exact e⟩, fun _ h => h⟩
  exact k.nx _ W _ _ _ (R1.set_sh hl (Rp.ext x rv)) h⟩
def sPopAt (j i : Nat) (te : TEm) : TSm := fun M env => ∃ ps, env[i]? = some (some (.lst ps)) ∧ te env fun q => ∃ (m : Int) (n : Nat) (p : PV), q = .int m ∧ (-(2 ^ 63) ≤ m ∧ m < 2 ^ 63) ∧ ixN ps.length m = some n ∧ ps[n]? = some p ∧ M.nx ((env.set i (some (.lst (ps.eraseIdx n)))).set j (some p))
theorem sm_popAt (j i : Nat) {x y : Str} {py p1 p2 cpos : Pos} (hNd : X.N.Nodup) (he : PEm X c .ow e te) (hi : X.N[j]? = some y := by rfl) (hy : Loc X.env.scope y := by first | exact Or.inl rfl | exact Or.inr rfl) (hl : cO c j ≠ .lk := by decide) (hN : X.N[i]? = some x := by rfl) (hc : cO c i = .ow := by rfl) (hv : Vis X.env.scope x := by first | exact Or.inl rfl | exact Or.inr (Or.inl rfl) | exact Or.inr (Or.inr rfl)) (hd : (x == ("__debug__" : Str)) = false := by decide)
    (hcd : (x == ("__classdict__" : Str)) = false := by decide) (hbase : attributeBase (.Name x p1) "pop" X.env (eval (.Name x p1) X.env) = eval (.Name x p1) X.env := by rfl)
    (hfew : ((backTo cpos (starEach [e] X.env)).all (fun x => !x.1) && (backToKw cpos (keywordEach [] X.env)).all (fun x => x.1.isSome)
      && decide (([e] : List Expr).length + ([] : List Keyword).length + (if ([] : List Keyword).isEmpty then 0 else 1) < 30)) = true := by rfl) (hline : (p2.endLine == cpos.line) = true := by rfl) (hs : starEach [e] X.env = (false, eval e X.env) :: starEach [] X.env := by rfl) (hplain : (backTo cpos (starEach [] X.env)).any (·.1) = false := by rfl)
    (hsw : swapsWith (.Call (.Attribute (.Name x p1) "pop" p2) [e] [] cpos) (some (.Name y py)) pos.line X.env = pure false := by rfl) (hf : X.fn y = true ∨ X.env.scope.names.lookup y = some .local := by first | exact .inl rfl | exact .inr rfl | assumption) :
    PSm X f c (c.set j .sh) (.Assign [.Name y py] (.Call (.Attribute (.Name x p1) "pop" p2) [e] [] cpos) pos) (sPopAt j i te) := ⟨(ps_set hNd hi hy (pe_bm PySem.F.plainAttrs_list PySem.F.slot_list_pop PySem.F.type_list_pop mt_popAt (pe_var hN hv hd hcd) (pa_cons he.run pa_nil hs) hbase hfew hline hs hplain) hsw hf).weak fun D σ H h => by
  obtain ⟨G, A, W, env, M, hg, R, ⟨ps, e0, h⟩, k⟩ := h
  obtain ⟨a, hA, hσ, vs, hH, r⟩ := R.mine hc e0
  refine ⟨.ref a, hσ, .inl ⟨rfl, vs, .inl (.inl hH)⟩, G, A, W, env, _, R, h, fun q w H1 g rq ⟨m, n, p, eq, ⟨hm1, hm2⟩, hix, hp, h1⟩ => ?_⟩
  subst eq
  have R1 := R.grow g
  obtain ⟨a', hA', _, ws, hH1, r1⟩ := R1.mine hc e0
  rw [hA] at hA'; cases hA'
  obtain ⟨v, ev, rv⟩ := r1.get hp
  rw [r1.len] at hix
  refine ⟨a, ws, m, n, v, rfl, by rw [rq.o.int], hH1, hm1, hm2, (ixN_seq hix).1, ev, ?_⟩
  have za : Zt G A W a := .inr (.inr ⟨i, hA⟩)
  have R2 := R1.mut e0 hA hc (OwnAt.mutL za (r1.eraseIdx n))
  have x : Ext ⟨Zt G A W, W, H1⟩ ⟨Zt G A W, W, upd H1 a (.lst (ws.eraseIdx n))⟩ := ⟨fun b w hz e => ⟨hz, by show upd H1 a _ b = some w; rw [upd_ne (fun z => hz (by rw [z]; exact za))]; exact e⟩, fun _ h => h⟩
  exact k.nx _ W _ _ _ (R2.set_sh hl (Rp.ext x rv)) h1⟩
/-- x[k] = e, x a list of one's own -/
def sPut (i : Nat) (ti te : TEm) : TSm := fun M env => te env fun p => ∃ ps, env[i]? = some (some (.lst ps)) ∧ ti env fun q => ∃ (m : Int) (n : Nat), q = .int m ∧ ixN ps.length m = some n ∧ M.nx (env.set i (some (.lst (ps.set n p))))
theorem sm_put (i : Nat) {x : Str} {p1 p2 : Pos} (he : PEm X c .cl e te) (hk : PEm X c .ow ei ti) (hN : X.N[i]? = some x := by rfl) (hc : cO c i = .ow := by rfl) (hv : Vis X.env.scope x := by first | exact Or.inl rfl | exact Or.inr (Or.inl rfl) | exact Or.inr (Or.inr rfl)) (hd : (x == ("__debug__" : Str)) = false := by decide)
    (hcd : (x == ("__classdict__" : Str)) = false := by decide)
    (ha : ∀ v, assign (.Subscript (.Name x p1) ei p2) X.env v = (do
      let ov ← holding [v] (eval (.Name x p1) X.env)
      let iv ← holding [v, ov] (eval ei X.env)
      standAt p2
      holding [v, ov, iv] (setItem ov iv v)
      release [v, ov, iv] []) := by intro _; rfl)
    (hs : swapsWithSole [.Subscript (.Name x p1) ei p2] e pos.line X.env = pure false := by rfl) (hw : swappedStores [.Subscript (.Name x p1) ei p2] e X.env = pure none := by rfl)
    (h1 : (assignEach [.Subscript (.Name x p1) ei p2] X.env).map (·.2) = [assign (.Subscript (.Name x p1) ei p2) X.env] := by rfl) :
    PSm X f c c (.Assign [.Subscript (.Name x p1) ei p2] e pos) (sPut i ti te) := ⟨(ps_asg he.run (pg_sub (pe_var hN hv hd hcd) hk.run set_list ha) hs hw h1).weak fun D σ H h => by
  obtain ⟨G, A, W, env, M, hg, R, h, k⟩ := h
  refine ⟨G, A, W, env, _, R, h, fun p v H1 g rv ⟨ps, e0, h1⟩ => ?_⟩
  have R1 := R.grow g
  obtain ⟨a, hA, hσ, vs, hH, r⟩ := R1.mine hc e0
  refine ⟨.ref a, hσ, G, A, W, env, _, R1, h1, fun q w H2 g2 rq ⟨m, n, eq, hix, h2⟩ => ?_⟩
  subst eq
  have R2 := R1.grow g2
  obtain ⟨a', hA', _, ws, hH2, r2⟩ := R2.mine hc e0
  rw [hA] at hA'; cases hA'
  rw [r2.len] at hix
  refine ⟨a, ws, m, n, rfl, rq.o.int, hH2, hix, ?_⟩
  exact k.nx A W _ σ _ (R2.mut e0 hA hc (OwnAt.mutL (.inr (.inr ⟨i, hA⟩)) (Rps.set (Rp.ext (g2.ext R.sz) rv.c) n r2))) h2⟩

/-! ### targets -/
abbrev TGm := PV → Env → (Env → Prop) → Prop
/-- only the slots vs are touched -/
def Touch (vs : List Nat) (σ σ' : St) : Prop := σ'.length = σ.length ∧ ∀ j, j ∉ vs → σ'[j]? = σ[j]?
def tgM (K : PySem.W.Frag) (c : List Ow) (vs : List Nat) (t : TGm) : TG := fun v σ H Q => ∃ G A W env p k, SR K G c A W env σ H ∧ Rp K ⟨Zt G A W, W, H⟩ p v ∧ t p env k ∧ ∀ env' σ', SR K G c A W env' σ' H → Touch vs σ σ' → k env' → Q σ' H
structure PGm (X : Cx) (c : List Ow) (vs : List Nat) (tg : Expr) (t : TGm) : Prop where
  run : PG X tg (tgM X.K c vs t)
def gmN (i : Nat) : TGm := fun p env k => k (env.set i (some p))
theorem c_same {c : List Ow} {i : Nat} (h : cO c i = .sh) : c.set i .sh = c := by
  apply List.ext_getElem?
  intro j
  rw [List.getElem?_set]
  by_cases e : i = j
  · subst e
    rw [if_pos rfl]
    by_cases h2 : i < c.length
    · rw [if_pos h2]
      unfold cO at h
      rw [List.getD_eq_getElem?_getD, List.getElem?_eq_getElem h2] at h
      rw [List.getElem?_eq_getElem h2]
      exact congrArg some h.symm
    · rw [if_neg h2, List.getElem?_eq_none (by omega)]
  · rw [if_neg e]
theorem SR.noA {K : PySem.W.Frag} {G : Gh} {A : Nat → Option Addr} {W : Ws} {env : Env} {σ : St} {H : Hp} {i : Nat} (R : SR K G c A W env σ H) (hc : cO c i = .sh) : A i = none := by
  cases hA : A i with
  | none => rfl
  | some a => exact absurd hc (R.Asep i a hA).2.2.2.1
theorem SR.set_cl {K : PySem.W.Frag} {G : Gh} {A : Nat → Option Addr} {W : Ws} {env : Env} {σ : St} {H : Hp} {i : Nat} {p : PV} {v : V} (R : SR K G c A W env σ H) (hc : cO c i = .sh) (r : Rp K ⟨Zt G A W, W, H⟩ p v) : SR K G c A W (env.set i (some p)) (σ.set i (some v)) H := by
  have h := R.set_sh (i := i) (by rw [hc]; decide) r
  rw [c_same hc] at h
  have e : dropA A i = A := by
    funext j
    by_cases z : j = i
    · rw [z, dropA_eq, R.noA hc]
    · exact dropA_ne z
  rw [e] at h
  exact h
theorem gm_name (i : Nat) {x : Str} {pos : Pos} (hN : X.N.Nodup) (hi : X.N[i]? = some x := by rfl) (hc : cO c i = .sh := by rfl) (hx : Loc X.env.scope x := by first | exact Or.inl rfl | exact Or.inr rfl) (hf : X.fn x = true ∨ X.env.scope.names.lookup x = some .local := by first | exact .inl rfl | exact .inr rfl | assumption) : PGm X c [i] (.Name x pos) (gmN i) :=
  ⟨⟨fun pins s σ H v u Q I r h => (pg_name hN hi hx hf).run pins s σ H v u Q I r (by
    obtain ⟨G, A, W, env, p, k, R, rp, h, q⟩ := h
    exact q _ _ (R.set_cl hc rp) ⟨List.length_set .., fun j hj => List.getElem?_set_ne (fun z => hj (by rw [← z]; exact List.mem_singleton.mpr rfl))⟩ h)⟩⟩
abbrev TGsm := List PV → Env → (Env → Prop) → Prop
def tgsM (K : PySem.W.Frag) (c : List Ow) (vs : List Nat) (t : TGsm) : TGs := fun ws σ H Q => ∃ G A W env ps k, SR K G c A W env σ H ∧ Rps K ⟨Zt G A W, W, H⟩ ps ws ∧ t ps env k ∧ ∀ env' σ', SR K G c A W env' σ' H → Touch vs σ σ' → k env' → Q σ' H
structure PGsm (X : Cx) (c : List Ow) (vs : List Nat) (tg : List Expr) (t : TGsm) : Prop where
  run : PGs X tg (tgsM X.K c vs t)
theorem Touch.refl {vs : List Nat} {σ : St} : Touch vs σ σ := ⟨rfl, fun _ _ => rfl⟩
theorem Touch.trans {vs ws : List Nat} {σ σ1 σ2 : St} (a : Touch vs σ σ1) (b : Touch ws σ1 σ2) : Touch (vs ++ ws) σ σ2 :=
  ⟨b.1.trans a.1, fun j hj => (b.2 j fun z => hj (List.mem_append_right _ z)).trans (a.2 j fun z => hj (List.mem_append_left _ z))⟩
def gmNil : TGsm := fun ps env k => ps = [] ∧ k env
def gmCons (g : TGm) (r : TGsm) : TGsm := fun ps env k => ∃ p qs, ps = p :: qs ∧ g p env fun env' => r qs env' k
theorem gsm_nil : PGsm X c [] [] gmNil := ⟨⟨fun pins s σ H vs us Q I r h => pgs_nil.run pins s σ H vs us Q I r (by
  obtain ⟨G, A, W, env, ps, k, R, rp, ⟨e, h⟩, q⟩ := h
  subst e
  exact ⟨by unfold Rps at rp; exact rp, q _ _ R Touch.refl h⟩)⟩⟩
theorem gsm_cons {tg : Expr} {tgs : List Expr} {g : TGm} {r : TGsm} {vs ws : List Nat} (h1 : PGm X c vs tg g) (h2 : PGsm X c ws tgs r) (hs : (assignEach (tg :: tgs) X.env).map (·.2) = assign tg X.env :: (assignEach tgs X.env).map (·.2) := by rfl) : PGsm X c (vs ++ ws) (tg :: tgs) (gmCons g r) :=
  ⟨⟨fun pins s σ H vs us Q I r' h => (pgs_cons h1.run h2.run hs).run pins s σ H vs us Q I r' (by
    obtain ⟨G, A, W, env, ps, k, R, rp, ⟨p, qs, e, h⟩, q⟩ := h
    subst e
    unfold Rps at rp
    obtain ⟨v, ws, e2, r1, r2⟩ := rp
    exact ⟨v, ws, e2, G, A, W, env, p, _, R, r1, h, fun env' σ' R' t1 h' => ⟨G, A, W, env', qs, k, R', r2, h', fun env2 σ2 R2 t2 h2 => q env2 σ2 R2 (t1.trans t2) h2⟩⟩)⟩⟩
def gmT (n : Nat) (r : TGsm) : TGm := fun p env k => ∃ ps, p = .tup ps ∧ ps.length = n ∧ r ps env k
theorem gm_tup {es : List Expr} {kk : Nat} {r : TGsm} {n : Nat} {pos : Pos} {vs : List Nat} (hc : X.calm = true) (h : PGsm X c vs es r) (hn : (assignEach es X.env).length = n := by rfl) (hst : (assignEach es X.env).findIdx? (·.1) = none := by rfl) : PGm X c vs (.Tuple es kk pos) (gmT n r) :=
  ⟨⟨fun pins s σ H v u Q I r' h' => (pg_tup hc h.run hn hst).run pins s σ H v u Q I r' (by
    obtain ⟨G, A, W, env, p, k, R, rp, ⟨ps, e, hl, h⟩, q⟩ := h'
    subst e
    unfold Rp at rp
    obtain ⟨a, vs, rfl, h1, h2⟩ := rp
    exact ⟨a, vs, rfl, h1.sq, by rw [← h2.len]; exact hl, G, A, W, env, ps, k, R, h2, h, q⟩)⟩⟩
/-- (a, b) = e -/
def sAsg (te : TEm) (g : TGm) : TSm := fun M env => te env fun p => g p env M.nx
theorem sm_asg {tg : Expr} {g : TGm} {vs : List Nat} (he : PEm X c .cl e te) (hg : PGm X c vs tg g) (hs : swapsWithSole [tg] e pos.line X.env = pure false := by rfl) (hw : swappedStores [tg] e X.env = pure none := by rfl)
    (h1 : (assignEach [tg] X.env).map (·.2) = [assign tg X.env] := by rfl) : PSm X f c c (.Assign [tg] e pos) (sAsg te g) := ⟨(ps_asg he.run hg.run hs hw h1).weak fun D σ H h => by
  obtain ⟨G, A, W, env, M, hg, R, h, k⟩ := h
  exact ⟨G, A, W, env, _, R, h, fun p v H1 g rv h1 => ⟨G, A, W, env, p, M.nx, R.grow g, rv.c, h1, fun env' σ' R' _ h' => k.nx A W env' σ' H1 R' h'⟩⟩⟩
end
end PM

set_option maxHeartbeats 1000000
/-! PM: what is walked, for, while, comprehensions. -/
namespace PM
open PySem L2
/-- all that was tracked is as it was -/
def GrowA (H H' : Hp) : Prop := ∀ b o, H b = some o → H' b = some o
theorem GrowA.grow {W : Ws} {H H' : Hp} (g : GrowA H H') (h : ∀ p ∈ W, SA H p) : Grow W H H' := ⟨fun b o _ e => g b o e, fun p hp => by
  obtain ⟨⟨_, e1⟩, _, e2⟩ := (h p hp).some
  exact SA.at (by rw [g _ _ e1, e1]) (by rw [g _ _ e2, e2]) (h p hp)⟩
theorem GrowA.refl {H : Hp} : GrowA H H := fun _ _ e => e
theorem GrowA.new {H : Hp} {a : Addr} {o : HO} (n : H a = none) : GrowA H (upd H a o) := fun b u e => by rw [upd_ne (ne_of_none e n)]; exact e
/-- the items of a walk: pl are places that must stand as they are -/
def ItOk (K : PySem.W.Frag) (Z : Addr → Prop) (W : Ws) (H : Hp) (pl : List (Addr × HO)) (J : It) (items : List PV) : Prop :=
  ∃ (Gd : Hp → Prop) (Y : Nat → Hp → V → Hp → Prop), Walk J items.length Gd Y ∧ ∀ Z2 W2 H2, Ext ⟨Z, W, H⟩ ⟨Z2, W2, H2⟩ → (∀ b, Z2 b → ∃ o, H2 b = some o) → (∀ q ∈ pl, H2 q.1 = some q.2) →
    Gd H2 ∧ ∀ i x H3 p, items[i]? = some p → Y i H2 x H3 → GrowA H2 H3 ∧ Rp K ⟨Z2, W2, H3⟩ p x
abbrev TIm := Env → (List PV → Prop) → Prop
/-- lk: the slot whose own list is walked -/
structure PIm (X : Cx) (c : List Ow) (lk : Option Nat) (tg iter : Expr) (t : TIm) : Prop where
  run : PI X tg iter (fun σ H R => ∃ G A W env P, SR X.K G c A W env σ H ∧ t env P ∧ ∀ J items H' pl, Grow W H H' → (match lk with | none => pl = [] | some j => ∃ a o, pl = [(a, o)] ∧ A j = some a ∧ H' a = some o) → ItOk X.K (Zt G A W) W H' pl J items → P items → R J H')
section
variable {X : Cx} {c : List Ow} {tg e : Expr} {te : TEm} {pos : Pos}
def iSeq (K : PySem.W.Frag) (tl : TE) : TI := fun σ H R => tl σ H fun x H1 => ∃ a, x = .ref a ∧ (((∃ xs, SqL K H1 a xs) ∧ R (Itl K a) H1) ∨ ((∃ xs, SqT K H1 a xs) ∧ R (Itt K a) H1))
theorem pi_seq {l : Expr} {tl : TE} (hl : PE X l tl) : PI X tg l (iSeq X.K tl) := by
  refine ⟨fun pins s σ H R I h => ?_⟩
  refine thn (hl.run pins s σ H _ I h) fun v s1 ⟨x, H1, I1, r1, q1⟩ => ?_
  obtain ⟨a, e, q1⟩ := q1
  subst e
  cases r1
  rcases q1 with ⟨⟨xs, hq⟩, q⟩ | ⟨⟨xs, hq⟩, q⟩
  · obtain ⟨its, rv, p, hz⟩ := I1.list hq
    refine wpAny_pyIter_list p.isList ?_
    refine ⟨s1.heap.objs.size, [s1.heap.objs.size], _, _, H1, rfl, I1.kept (t' := s1.toks) fun b o e => Heap.get?_push_of_some _ e, turn_list a _, ⟨_, Heap.get?_push_size _ rfl, rfl, rfl⟩, fun b hb => ?_, q⟩
    have e : b = s1.heap.objs.size := by simpa using hb
    subst e
    exact I1.fpOk (Nat.le_refl _) (I1.hok.fresh (Nat.le_refl _))
  · obtain ⟨its, rv, p, hz⟩ := I1.tuple hq
    refine wpAny_pyIter_tuple (show s1.heap.IsTuple a its.toArray from p) ?_
    refine ⟨s1.heap.objs.size, [s1.heap.objs.size], _, _, H1, rfl, I1.kept (t' := s1.toks) fun b o e => Heap.get?_push_of_some _ e, turn_tuple a _, ⟨_, Heap.get?_push_size _ rfl, rfl, rfl⟩, fun b hb => ?_, q⟩
    have e : b = s1.heap.objs.size := by simpa using hb
    subst e
    exact I1.fpOk (Nat.le_refl _) (I1.hok.fresh (Nat.le_refl _))
/-- a list or tuple -/
def mItems (te : TEm) : TIm := fun env P => te env fun p => ∃ ps, seqP p = some ps ∧ P ps
theorem itok_list {K : PySem.W.Frag} {Z : Addr → Prop} {W : Ws} {H : Hp} {a : Addr} {vs : List V} {ps : List PV} (h : ¬ Z a) (e : H a = some (.lst vs)) (r : Rps K ⟨Z, W, H⟩ ps vs) : ItOk K Z W H [] (Itl K a) ps := by
  refine ⟨_, _, by rw [r.len]; exact walk_list, fun Z2 W2 H2 x hz _ => ?_⟩
  have e2 := (x.keep a _ h e).2
  refine ⟨.inl (.inl e2), fun i v H3 p hp y => ?_⟩
  obtain ⟨rfl, hv⟩ := y
  obtain ⟨w, hw, rw'⟩ := r.get hp
  rw [hv] at hw; cases hw
  exact ⟨GrowA.refl, Rp.ext x rw'⟩
theorem itok_own {K : PySem.W.Frag} {Z : Addr → Prop} {W : Ws} {H : Hp} {a : Addr} {vs : List V} {ps : List PV} (e : H a = some (.lst vs)) (r : Rps K ⟨Z, W, H⟩ ps vs) : ItOk K Z W H [(a, .lst vs)] (Itl K a) ps := by
  refine ⟨_, _, by rw [r.len]; exact walk_list, fun Z2 W2 H2 x hz hpl => ?_⟩
  have e2 : H2 a = some (.lst vs) := hpl (a, .lst vs) (by simp)
  refine ⟨.inl (.inl e2), fun i v H3 p hp y => ?_⟩
  obtain ⟨rfl, hv⟩ := y
  obtain ⟨w, hw, rw'⟩ := r.get hp
  rw [hv] at hw; cases hw
  exact ⟨GrowA.refl, Rp.ext x rw'⟩
theorem itok_tup {K : PySem.W.Frag} {Z : Addr → Prop} {W : Ws} {H : Hp} {a : Addr} {vs : List V} {ps : List PV} (e : TupAt K ⟨Z, W, H⟩ a vs) (r : Rps K ⟨Z, W, H⟩ ps vs) : ItOk K Z W H [] (Itt K a) ps := by
  refine ⟨_, _, by rw [r.len]; exact walk_tup, fun Z2 W2 H2 x hz _ => ?_⟩
  refine ⟨(e.ext x).sq, fun i v H3 p hp y => ?_⟩
  obtain ⟨rfl, hv⟩ := y
  obtain ⟨w, hw, rw'⟩ := r.get hp
  rw [hv] at hw; cases hw
  exact ⟨GrowA.refl, Rp.ext x rw'⟩
theorem im_seq (he : PEm X c .cl e te) : PIm X c none tg e (mItems te) := ⟨⟨fun pins s σ H R I h => (pi_seq he.run).run pins s σ H R I (by
  obtain ⟨G, A, W, env, P, R, h, k⟩ := h
  refine ⟨G, A, W, env, _, R, h, fun p v H1 g rv ⟨ps, hp, h1⟩ => ?_⟩
  cases p with
  | lst qs =>
    obtain rfl : qs = ps := Option.some.inj hp
    have rv' := rv.c
    unfold Rp at rv'
    obtain ⟨a, vs, rfl, e, r⟩ := rv'
    exact ⟨a, rfl, .inl ⟨⟨vs, e.sq⟩, k _ qs H1 [] g rfl (itok_list e.1 e.2 r) h1⟩⟩
  | tup qs =>
    obtain rfl : qs = ps := Option.some.inj hp
    have rv' := rv.c
    unfold Rp at rv'
    obtain ⟨a, vs, rfl, e, r⟩ := rv'
    exact ⟨a, rfl, .inr ⟨⟨vs, e.sq⟩, k _ qs H1 [] g rfl (itok_tup e r) h1⟩⟩
  | _ => cases hp)⟩⟩
/-- one's own list -/
theorem im_own (j : Nat) {x : Str} (hN : X.N[j]? = some x := by rfl) (hc : cO c j ≠ .sh := by decide) (hv : Vis X.env.scope x := by first | exact Or.inl rfl | exact Or.inr (Or.inl rfl) | exact Or.inr (Or.inr rfl)) (hd : (x == ("__debug__" : Str)) = false := by decide)
    (hcd : (x == ("__classdict__" : Str)) = false := by decide) : PIm X c (some j) tg (.Name x pos) (fun env P => ∃ ps, env[j]? = some (some (.lst ps)) ∧ P ps) := ⟨⟨fun pins s σ H R I h => (pi_seq (pe_var hN hv hd hcd)).run pins s σ H R I (by
  obtain ⟨G, A, W, env, P, R, ⟨ps, e, h⟩, k⟩ := h
  obtain ⟨v, h1, h2⟩ := R.slots j _ e
  obtain ⟨a, hA⟩ := R.Aset j _ hc e
  rw [hA] at h2
  obtain ⟨rfl, vs, hH, r⟩ := h2
  exact ⟨_, h1, a, rfl, .inl ⟨⟨vs, .inl (.inl hH)⟩, k _ ps H [(a, .lst vs)] (Grow.refl R.src) ⟨a, _, rfl, hA, hH⟩ (itok_own hH r) h⟩⟩)⟩⟩
/-- ranges -/
def rngP (lo : Int) (n : Nat) : List PV := (List.range n).map fun i => PV.int (lo + (i : Nat))
theorem itok_range {K : PySem.W.Frag} {Z : Addr → Prop} {W : Ws} {H : Hp} {lo : Int} {n : Nat} : ItOk K Z W H [] (Itr lo n) (rngP lo n) := by
  refine ⟨_, _, by unfold rngP; rw [List.length_map, List.length_range]; exact walk_range, fun Z2 W2 H2 x hz _ => ⟨trivial, fun i v H3 p hp y => ?_⟩⟩
  obtain ⟨rfl, rfl⟩ := y
  unfold rngP at hp
  obtain ⟨hi, e⟩ := List.getElem?_eq_some_iff.mp hp
  rw [List.length_map, List.length_range] at hi
  rw [List.getElem_map, List.getElem_range] at e
  subst e
  exact ⟨GrowA.refl, Rp.int'⟩
def mRng1 (t : TEm) : TIm := fun env P => t env fun x => ∃ n, x = .int n ∧ (-(2 ^ 62) ≤ n ∧ n < 2 ^ 62) ∧ P (rngP 0 n.toNat)
def mRng2 (t u : TEm) : TIm := fun env P => t env fun x => u env fun y => ∃ a b, x = .int a ∧ y = .int b ∧ (-(2 ^ 62) ≤ a ∧ a < 2 ^ 62 ∧ -(2 ^ 62) ≤ b ∧ b < 2 ^ 62) ∧ P (rngP a (b - a).toNat)
variable {a b : Expr} {ta tb : TEm}
theorem im_rng1 {p : Pos} (hm : X.mg "range" = none) (ha : PEm X c .ow a ta) (hg : Gl X "range" := by rfl) (hs0 : starEach [a] X.env = (false, eval a X.env) :: starEach [] X.env := by rfl) (hs : starEach [a] X.env = [(false, eval a X.env)] := by rfl) : PIm X c none tg (.Call (.Name "range" p) [a] [] pos) (mRng1 ta) := ⟨⟨fun pins s σ H R I h => (pi_range1 hg hm (pa_cons ha.run pa_nil hs0) hs).run pins s σ H R I (by
  obtain ⟨G, A, W, env, P, R, h, k⟩ := h
  refine ⟨G, A, W, env, _, R, h, fun q v H1 g rv ⟨n, e, ⟨h1, h2⟩, h3⟩ => ?_⟩
  subst e
  exact ⟨n, by rw [rv.o.int], h1, h2, k _ _ H1 [] g rfl itok_range h3⟩)⟩⟩
theorem im_rng2 {p : Pos} (hm : X.mg "range" = none) (ha : PEm X c .ow a ta) (hb : PEm X c .ow b tb) (hg : Gl X "range" := by rfl) (hs0 : starEach [a, b] X.env = (false, eval a X.env) :: starEach [b] X.env := by rfl) (hs1 : starEach [b] X.env = (false, eval b X.env) :: starEach [] X.env := by rfl)
    (hs : starEach [a, b] X.env = [(false, eval a X.env), (false, eval b X.env)] := by rfl) (hs2 : starEach [b] X.env = [(false, eval b X.env)] := by rfl) : PIm X c none tg (.Call (.Name "range" p) [a, b] [] pos) (mRng2 ta tb) := ⟨⟨fun pins s σ H R I h => (pi_range2 hg hm (pa_cons ha.run (pa_cons hb.run pa_nil hs1) hs0) hs hs2).run pins s σ H R I (by
  obtain ⟨G, A, W, env, P, R, h, k⟩ := h
  refine ⟨G, A, W, env, _, R, h, fun q v H1 g rv h1 => ⟨G, A, W, env, _, R.grow g, h1, fun q2 v2 H2 g2 rv2 ⟨n, m, e, e2, ⟨b1, b2, b3, b4⟩, h5⟩ => ?_⟩⟩
  subst e e2
  exact ⟨n, m, by rw [rv.o.int, rv2.o.int], ⟨b1, b2, b3, b4⟩, k _ _ H2 [] (g.trans g2) rfl itok_range h5⟩)⟩⟩
end

/-! ### for -/
def mForGo (g : TGm) (tb : TSm) (M : Em) : List PV → Env → Prop
  | [], env => M.nx env
  | x :: xs, env => g x env fun env1 => tb { M with nx := mForGo g tb M xs, ct := mForGo g tb M xs, bk := M.nx } env1
def sFor (wi : TIm) (g : TGm) (tb : TSm) : TSm := fun M env => wi env fun items => mForGo g tb M items env
section
variable {K : PySem.W.Frag} {G : Gh} {c : List Ow} {A : Nat → Option Addr} {W : Ws} {env : Env} {σ : St} {H : Hp}
/-- into a loop: what is clean now stays so -/
noncomputable def inLoop (G : Gh) (Z : Addr → Prop) (W : Ws) (H : Hp) (more : List (Nat × Addr × HO)) : Gh :=
  { G with fz := fun b => open Classical in if Z b then none else H b, Wm := W, pins := more ++ G.pins }
def lkC (c : List Ow) : Option Nat → List Ow
  | none => c
  | some j => c.set j .lk
theorem cO_lk {c : List Ow} {j i : Nat} (hj : cO c j ≠ .sh) : cO (c.set j .lk) i = if i = j then .lk else cO c i := by
  rw [cO_set]
  by_cases h : i = j
  · have hl : j < c.length := by
      cases Nat.lt_or_ge j c.length with
      | inl z => exact z
      | inr z =>
        exact absurd (by unfold cO; rw [List.getD_eq_getElem?_getD, List.getElem?_eq_none z]; rfl) hj
    rw [if_pos ⟨h, hl⟩, if_pos h]
  · rw [if_neg (fun z => h z.1), if_neg h]
theorem SR.loop (R : SR K G c A W env σ H) : SR K (inLoop G (Zt G A W) W H []) c A W env σ H := by
  refine ⟨R.len, R.W0in, fun _ h => h, R.Wnew, R.Wfix, R.src, R.keep, R.zbt, R.Asep, R.Ainj, R.Aset, R.slots, R.pins, fun b o e => ?_⟩
  have e' : (open Classical in if Zt G A W b then none else H b) = some o := e
  by_cases z : Zt G A W b
  · rw [if_pos z] at e'; cases e'
  · rw [if_neg z] at e'; exact ⟨e', z⟩
theorem SR.lock {j : Nat} {a : Addr} {o : HO} (R : SR K G c A W env σ H) (hc : cO c j = .ow) (hA : A j = some a) (e : H a = some o) : SR K (inLoop G (Zt G A W) W H [(j, a, o)]) (c.set j .lk) A W env σ H := by
  have hj : cO c j ≠ .sh := by rw [hc]; decide
  have R' := R.loop
  refine ⟨R.len, R.W0in, fun _ h => h, R.Wnew, R.Wfix, R.src, R.keep, R.zbt, fun i b e => ?_, R.Ainj, fun i p hi e => ?_, R.slots, fun q hq => ?_, R'.fz⟩
  · obtain ⟨h1, h2, h3, h4, h5⟩ := R.Asep i b e
    refine ⟨h1, h2, h3, ?_, h5⟩
    rw [cO_lk hj]
    by_cases z : i = j
    · rw [if_pos z]; decide
    · rw [if_neg z]; exact h4
  · rw [cO_lk hj] at hi
    by_cases z : i = j
    · exact ⟨a, z ▸ hA⟩
    · rw [if_neg z] at hi; exact R.Aset i p hi e
  · rcases List.mem_append.mp hq with hq | hq
    · have : q = (j, a, o) := by simpa using hq
      subst this
      exact ⟨e, (R.Asep j a hA).2.1, hA, by rw [cO_lk hj, if_pos rfl]⟩
    · obtain ⟨h1, h2, h3, h4⟩ := R.pins q hq
      refine ⟨h1, h2, h3, ?_⟩
      rw [cO_lk hj]
      by_cases z : q.1 = j
      · rw [if_pos z]
      · rw [if_neg z]; exact h4
theorem SR.unloop {Z0 : Addr → Prop} {W0 : Ws} {H0 : Hp} {more : List (Nat × Addr × HO)} (R : SR K (inLoop G Z0 W0 H0 more) c A W env σ H) (hf : ∀ b o, G.fz b = some o → H0 b = some o ∧ ¬ Z0 b) (hw : ∀ p ∈ G.Wm, p ∈ W0) : SR K G c A W env σ H := by
  refine ⟨R.len, R.W0in, fun p h => R.Wmin p (hw p h), R.Wnew, R.Wfix, R.src, R.keep, R.zbt, R.Asep, R.Ainj, R.Aset, R.slots, fun q hq => R.pins q (List.mem_append_right _ hq), fun b o e => R.fz b o ?_⟩
  obtain ⟨h1, h2⟩ := hf b o e
  show (open Classical in if Z0 b then none else H0 b) = some o
  rw [if_neg h2]; exact h1
theorem SR.unlock {j : Nat} (R : SR K G (c.set j .lk) A W env σ H) (hc : cO c j = .ow) (hp : ∀ q ∈ G.pins, cO c q.1 = .lk) : SR K G c A W env σ H := by
  have hj : cO c j ≠ .sh := by rw [hc]; decide
  have eq : ∀ i, cO (c.set j .lk) i ≠ .sh ↔ cO c i ≠ .sh := fun i => by
    rw [cO_lk hj]
    by_cases z : i = j
    · rw [if_pos z, z]; exact ⟨fun _ => hj, fun _ => by decide⟩
    · rw [if_neg z]
  refine ⟨R.len, R.W0in, R.Wmin, R.Wnew, R.Wfix, R.src, R.keep, R.zbt, fun i b e => ?_, R.Ainj, fun i p hi e => R.Aset i p ((eq i).mpr hi) e, R.slots, fun q hq => ?_, R.fz⟩
  · obtain ⟨h1, h2, h3, h4, h5⟩ := R.Asep i b e
    exact ⟨h1, h2, h3, (eq i).mp h4, h5⟩
  · obtain ⟨h1, h2, h3, _⟩ := R.pins q hq
    exact ⟨h1, h2, h3, hp q hq⟩
/-- the state in a loop sees all that was clean -/
theorem SR.ext {Z0 : Addr → Prop} {W0 : Ws} {H0 : Hp} {more : List (Nat × Addr × HO)} (R : SR K (inLoop G Z0 W0 H0 more) c A W env σ H) : Ext ⟨Z0, W0, H0⟩ ⟨Zt (inLoop G Z0 W0 H0 more) A W, W, H⟩ :=
  ⟨fun b o n e => by
    obtain ⟨h1, h2⟩ := R.fz b o (by
      show (open Classical in if Z0 b then none else H0 b) = some o
      rw [if_neg n]; exact e)
    exact ⟨h2, h1⟩, fun p hp => R.Wmin p hp⟩
end
section
variable {X : Cx} {f : Fx} {c : List Ow} {tg iter : Expr} {body : List Stmt} {wi : TIm} {g : TGm} {tb : TSm} {pos : Pos}
theorem sm_for {lk : Option Nat} {vs : List Nat} (hp : PassesOwn (model X.prog X.w) X.A X.env X.xe) (hc : X.calm = true) (hi : PIm X c lk tg iter wi) (hg : PGm X (lkC c lk) vs tg g) (hb : PSsm X { f with cL := lkC c lk } (lkC c lk) (lkC c lk) body tb) (hlk : ∀ j, lk = some j → cO c j = .ow)
    (hs : ∀ x, foldedSetIterable iter X.env x = pure x := by intro _; rfl) : PSm X f c c (.For tg iter body [] pos) (sFor wi g tb) := ⟨(ps_for hp hc hi.run hg.run hb.run hs).weak fun D σ H h => by
  obtain ⟨G, A, W, env, M, hgw, R, h, k⟩ := h
  refine ⟨G, A, W, env, _, R, h, fun J items H1 pl g1 hpl ⟨Gd, Y, wk, hit⟩ h1 => ?_⟩
  have R1 := R.grow g1
  -- into the loop
  obtain ⟨more, hmore, R2, hnx⟩ : ∃ more, (∀ q ∈ pl, ∃ j, (j, q.1, q.2) ∈ more) ∧ SR X.K (inLoop G (Zt G A W) W H1 more) (lkC c lk) A W env σ H1 ∧
      ∀ A' W' env' σ' H', SR X.K (inLoop G (Zt G A W) W H1 more) (lkC c lk) A' W' env' σ' H' → SR X.K G c A' W' env' σ' H' := by
    cases lk with
    | none =>
      have hpl' : pl = [] := hpl
      subst hpl'
      exact ⟨[], (fun q hq => by cases hq), R1.loop, fun A' W' env' σ' H' R' => R'.unloop R1.fz R1.Wmin⟩
    | some j =>
      obtain ⟨a, o, rfl, hA, ho⟩ := hpl
      have hj := hlk j rfl
      refine ⟨[(j, a, o)], (fun q hq => ⟨j, by rw [List.mem_singleton] at hq; rw [hq]; exact List.mem_singleton.mpr rfl⟩), R1.lock hj hA ho, fun A' W' env' σ' H' R' => ?_⟩
      exact (R'.unloop R1.fz R1.Wmin).unlock hj fun q hq => (R1.pins q hq).2.2.2
  have K2 : Kont X.K f.rm (lkC c lk) (lkC c lk) (inLoop G (Zt G A W) W H1 more) M ⟨fun σ H => D.nx σ H, D.rt, fun _ _ => True, fun _ _ => True⟩ :=
    ⟨fun A' W' env' σ' H' R' h' => k.nx _ _ _ _ _ (hnx _ _ _ _ _ R') h', fun p v H' r h' => k.rt p v H' r h', fun _ _ _ _ _ _ _ => trivial, fun _ _ _ _ _ _ _ => trivial⟩
  refine for_it (D := D) (g := tgM X.K (lkC c lk) vs g) (tb := tmS X.K { f with cL := lkC c lk } (lkC c lk) (lkC c lk) tb) wk (fun i σ H => ∃ A' W' env', SR X.K (inLoop G (Zt G A W) W H1 more) (lkC c lk) A' W' env' σ H ∧ mForGo g tb M (items.drop i) env') ⟨A, W, env, R2, h1⟩ (fun i σ H _ hP => ?_) (fun i x σ H H' hi hP y => ?_) (fun σ H hP => ?_)
  · obtain ⟨A', W', env', R', _⟩ := hP
    exact (hit _ W' H R'.ext R'.dz fun q hq => by
      obtain ⟨j, hj⟩ := hmore q hq
      exact (R'.pins (j, q.1, q.2) (List.mem_append_left _ hj)).1).1
  · obtain ⟨A', W', env', R', h'⟩ := hP
    have hd : items.drop i = items[i] :: items.drop (i + 1) := List.drop_eq_getElem_cons hi
    rw [hd] at h'
    obtain ⟨ga, rp⟩ := (hit _ W' H R'.ext R'.dz fun q hq => by
      obtain ⟨j, hj⟩ := hmore q hq
      exact (R'.pins (j, q.1, q.2) (List.mem_append_left _ hj)).1).2 i x H' items[i] (List.getElem?_eq_getElem hi) y
    refine ⟨_, A', W', env', items[i], _, R'.grow (ga.grow R'.src), rp, h', fun env2 σ2 R2 _ h2 => ?_⟩
    refine ⟨inLoop G (Zt G A W) W H1 more, A', W', env2, _, hgw, R2, h2, ⟨fun A3 W3 env3 σ3 H3 R3 h3 => ⟨A3, W3, env3, R3, h3⟩, fun p v H3 r3 h3 => k.rt p v H3 r3 h3, fun A3 W3 env3 σ3 H3 R3 h3 => k.nx _ _ _ _ _ (hnx _ _ _ _ _ R3) h3, fun A3 W3 env3 σ3 H3 R3 h3 => ⟨A3, W3, env3, R3, h3⟩⟩⟩
  · obtain ⟨A', W', env', R', h'⟩ := hP
    rw [List.drop_length] at h'
    exact k.nx _ _ _ _ _ (hnx _ _ _ _ _ R') h'⟩
/-- while -/
def sWhile (tc : TTm) (tb : TSm) : TSm := fun M env => ∃ Wv : Nat → Env → Prop, (∃ m, Wv m env) ∧ ∀ m env, Wv m env →
  tc env fun b => if b = true then tb { M with nx := fun env' => ∃ m', m' < m ∧ Wv m' env', ct := fun env' => ∃ m', m' < m ∧ Wv m' env', bk := M.nx } env else M.nx env
theorem sm_while {cnd : Expr} {tc : TTm} (hp : PassesOwn (model X.prog X.w) X.A X.env X.xe) (hc : PTm X c cnd tc) (hb : PSsm X { f with cL := c } c c body tb) : PSm X f c c (.While cnd body [] pos) (sWhile tc tb) := ⟨(ps_while hp hc.run hb.run).weak fun D σ H h => by
  obtain ⟨G, A, W, env, M, hgw, R, ⟨Wv, ⟨m, w0⟩, turn⟩, k⟩ := h
  refine ⟨fun m σ H => ∃ A W env, SR X.K G c A W env σ H ∧ Wv m env, ⟨m, A, W, env, R, w0⟩, ?_⟩
  rintro m σ H ⟨A, W, env, R, w⟩
  refine ⟨G, A, W, env, _, R, turn m env w, fun b H1 g h1 => ?_⟩
  cases b with
  | true =>
    rw [if_pos rfl] at h1 ⊢
    refine ⟨fun σ' H' => ∃ m' A W env, m' < m ∧ SR X.K G c A W env σ' H' ∧ Wv m' env, fun σ' H' ⟨m', A, W, env, hm, R', w'⟩ => ⟨m', hm, A, W, env, R', w'⟩, ?_⟩
    exact ⟨G, A, W, env, _, hgw, R.grow g, h1, ⟨fun A W env σ H R' ⟨m', hm, w'⟩ => ⟨m', A, W, env, hm, R', w'⟩, k.rt, fun A W env σ H R' h' => k.nx A W env σ H R' h', fun A W env σ H R' ⟨m', hm, w'⟩ => ⟨m', A, W, env, hm, R', w'⟩⟩⟩
  | false =>
    rw [if_neg Bool.false_ne_true] at h1 ⊢
    exact k.nx A W env σ H1 (R.grow g) h1⟩
end
end PM

set_option maxHeartbeats 1000000
/-! PM: comprehensions. -/
namespace PM
open PySem L2
def wipeE (env : Env) : List Nat → Env
  | [] => env
  | v :: vs => (wipeE env vs).set v none
theorem wipeE_length (env : Env) : ∀ vs : List Nat, (wipeE env vs).length = env.length
  | [] => rfl
  | v :: vs => by unfold wipeE; rw [List.length_set, wipeE_length env vs]
theorem wipeE_some {env : Env} {i : Nat} {p : PV} : ∀ {vs : List Nat}, (wipeE env vs)[i]? = some (some p) → env[i]? = some (some p) ∧ i ∉ vs
  | [], h => ⟨h, by simp⟩
  | v :: vs, h => by
    unfold wipeE at h
    rw [List.getElem?_set] at h
    by_cases e : v = i
    · rw [if_pos e] at h
      split at h <;> cases h
    · rw [if_neg e] at h
      obtain ⟨h1, h2⟩ := wipeE_some h
      refine ⟨h1, fun z => ?_⟩
      rcases List.mem_cons.mp z with z | z
      · exact e z.symm
      · exact h2 z
theorem wipe_out {σ : St} {j : Nat} : ∀ {vs : List Nat}, j ∉ vs → (wipe σ vs)[j]? = σ[j]?
  | [], _ => rfl
  | v :: vs, h => by
    unfold wipe
    rw [List.getElem?_set_ne (fun z => h (by rw [z]; exact List.mem_cons_self)), wipe_out (fun z => h (List.mem_cons_of_mem _ z))]
theorem wipe_in {σ : St} {j : Nat} : ∀ {vs : List Nat}, j ∈ vs → j < σ.length → (wipe σ vs)[j]? = some none
  | [], h, _ => by cases h
  | v :: vs, h, hl => by
    unfold wipe
    by_cases e : v = j
    · subst e
      rw [List.getElem?_set_self (by rw [wipe_length]; exact hl)]
    · rw [List.getElem?_set_ne e]
      rcases List.mem_cons.mp h with z | z
      · exact absurd z.symm e
      · exact wipe_in z hl
theorem Touch.wipe {vs ws : List Nat} {σ σ' : St} (t : Touch ws σ σ') (h : ∀ j ∈ ws, j ∈ vs) : wipe σ' vs = wipe σ vs := by
  apply List.ext_getElem?
  intro j
  by_cases hj : j ∈ vs
  · by_cases hl : j < σ.length
    · rw [wipe_in hj hl, wipe_in hj (by rw [t.1]; exact hl)]
    · rw [List.getElem?_eq_none (by rw [wipe_length, t.1]; omega), List.getElem?_eq_none (by rw [wipe_length]; omega)]
  · rw [wipe_out hj, wipe_out hj]
    exact t.2 j fun z => hj (h j z)
theorem wipe_wipe {σ : St} {vs : List Nat} : wipe (wipe σ vs) vs = wipe σ vs := by
  apply List.ext_getElem?
  intro j
  by_cases hj : j ∈ vs
  · by_cases hl : j < σ.length
    · rw [wipe_in hj (by rw [wipe_length]; exact hl), wipe_in hj hl]
    · rw [List.getElem?_eq_none (by rw [wipe_length, wipe_length]; omega), List.getElem?_eq_none (by rw [wipe_length]; omega)]
  · rw [wipe_out hj]
section
variable {K : PySem.W.Frag} {G : Gh} {c : List Ow} {A : Nat → Option Addr} {W : Ws} {env : Env} {σ : St} {H : Hp}
theorem SR.wipe (vs : List Nat) (R : SR K G c A W env σ H) : SR K G c A W (wipeE env vs) (L2.wipe σ vs) H := by
  refine ⟨by rw [wipeE_length, wipe_length]; exact R.len, R.W0in, R.Wmin, R.Wnew, R.Wfix, R.src, R.keep, R.zbt, R.Asep, R.Ainj, fun i p hc e => R.Aset i p hc (wipeE_some e).1, fun i p e => ?_, R.pins, R.fz⟩
  obtain ⟨e1, n⟩ := wipeE_some e
  obtain ⟨v, h1, h2⟩ := R.slots i p e1
  exact ⟨v, by rw [wipe_out n]; exact h1, h2⟩
/-- one more place to be avoided -/
def Gh.and (G : Gh) (D : Addr) : Gh := { G with zb := fun b => G.zb b ∨ b = D }
theorem zt_and {D : Addr} {b : Addr} : Zt (G.and D) A W b ↔ (Zt G A W b ∨ b = D) := by
  constructor
  · rintro ((h | h) | h | h)
    · exact .inl (.inl h)
    · exact .inr h
    · exact .inl (.inr (.inl h))
    · exact .inl (.inr (.inr h))
  · rintro ((h | h | h) | h)
    · exact .inl (.inl h)
    · exact .inr (.inl h)
    · exact .inr (.inr h)
    · exact .inl (.inr h)
theorem SR.and {D : Addr} {o : HO} (R : SR K G c A W env σ H) (n : H D = none) : SR K (G.and D) c A W env σ (upd H D o) := by
  have g : Grow W H (upd H D o) := Grow.new R.src n
  have R' := R.grow g
  have nt : ∀ b u, H b = some u → b ≠ D := fun b u e z => by rw [z, n] at e; cases e
  have x : Ext ⟨Zt G A W, W, H⟩ ⟨Zt (G.and D) A W, W, upd H D o⟩ := ⟨fun b u hz e => ⟨fun z => (zt_and.mp z).elim hz (nt b u e), by show upd H D o b = some u; rw [upd_ne (nt b u e)]; exact e⟩, fun _ h => h⟩
  refine ⟨R'.len, R'.W0in, R'.Wmin, R'.Wnew, R'.Wfix, R'.src, R'.keep, fun b hb => ?_, fun i a e => ?_, R'.Ainj, R'.Aset, fun i p e => ?_, R'.pins, fun b u e => ?_⟩
  · rcases hb with hb | hb
    · exact R'.zbt b hb
    · rw [hb]; exact ⟨o, upd_same⟩
  · obtain ⟨h1, h2, h3, h4, h5⟩ := R'.Asep i a e
    obtain ⟨_, _, _, _, u, hu⟩ := R.Asep i a e
    exact ⟨h1, h2, fun z => z.elim h3 (nt a u hu), h4, h5⟩
  · obtain ⟨v, h1, h2⟩ := R.slots i p e
    refine ⟨v, h1, ?_⟩
    cases hA : A i with
    | none => rw [hA] at h2; exact Rp.ext x h2
    | some a =>
      rw [hA] at h2
      obtain ⟨_, _, _, _, u, hu⟩ := R.Asep i a hA
      exact ⟨h2.1, h2.2.ext x (upd_ne (nt a u hu))⟩
  · obtain ⟨h1, h2⟩ := R.fz b u e
    exact ⟨by rw [upd_ne (nt b u h1)]; exact h1, fun z => (zt_and.mp z).elim h2 (nt b u h1)⟩
theorem SR.upZ {D : Addr} {o : HO} (R : SR K G c A W env σ H) (hz : G.zb D) (h0 : G.H0 D = none) (nw : ¬ inW W D) : SR K G c A W env σ (upd H D o) := by
  have za : Zt G A W D := .inl hz
  have x : Ext ⟨Zt G A W, W, H⟩ ⟨Zt G A W, W, upd H D o⟩ := ⟨fun b w hn e => ⟨hn, by show upd H D o b = some w; rw [upd_ne (fun z => hn (by rw [z]; exact za))]; exact e⟩, fun _ h => h⟩
  have tr : ∀ b, (∃ w, H b = some w) → ∃ w, upd H D o b = some w := fun b ⟨w, e⟩ => by
    by_cases z : b = D
    · subst z; exact ⟨o, upd_same⟩
    · exact ⟨w, by rw [upd_ne z]; exact e⟩
  have neA : ∀ i a, A i = some a → a ≠ D := fun i a e z => (R.Asep i a e).2.2.1 (by rw [z]; exact hz)
  refine ⟨R.len, R.W0in, R.Wmin, R.Wnew, R.Wfix, fun q hq => ?_, fun b w hw e => ?_, fun b hb => tr b (R.zbt b hb), fun i a e => ?_, R.Ainj, R.Aset, fun i p e => ?_, fun q hq => ?_, fun b w e => ?_⟩
  · exact SA.at (upd_ne (fun z => nw ⟨q, hq, .inl z.symm⟩)) (upd_ne (fun z => nw ⟨q, hq, .inr z.symm⟩)) (R.src q hq)
  · rw [upd_ne (fun z => by rw [z, h0] at e; cases e)]; exact R.keep b w hw e
  · obtain ⟨h1, h2, h3, h4, h5⟩ := R.Asep i a e
    exact ⟨h1, h2, h3, h4, tr a h5⟩
  · obtain ⟨v, h1, h2⟩ := R.slots i p e
    refine ⟨v, h1, ?_⟩
    cases hA : A i with
    | none => rw [hA] at h2; exact Rp.ext x h2
    | some a => rw [hA] at h2; exact ⟨h2.1, h2.2.ext x (upd_ne (neA i a hA))⟩
  · obtain ⟨h1, h2, h3, h4⟩ := R.pins q hq
    exact ⟨by rw [upd_ne (neA q.1 _ h3)]; exact h1, h2, h3, h4⟩
  · obtain ⟨h1, h2⟩ := R.fz b w e
    exact ⟨by rw [upd_ne (fun z => h2 (by rw [z]; exact za))]; exact h1, h2⟩
end
structure PTsm (X : Cx) (c : List Ow) (es : List Expr) (t : TTm) : Prop where
  run : PTs X es (tmT X.K c t)
def mYes : TTm := fun _ P => P true
theorem tsm_nil {X : Cx} {c : List Ow} : PTsm X c [] mYes := ⟨⟨fun pins s σ H Q I h => pts_nil.run pins s σ H Q I (by
  obtain ⟨G, A, W, env, P, R, h, k⟩ := h
  exact k true H (Grow.refl R.src) h)⟩⟩
theorem tsm_one {X : Cx} {c : List Ow} {e : Expr} {t : TTm} (h : PTm X c e t) : PTsm X c [e] t := ⟨pts_one h.run⟩
/-- the turns of a comprehension -/
def mCompGo (g : TGm) (tt : TTm) (te : TEm) (env : Env) (P : PV → Prop) : List PV → List PV → Prop
  | [], acc => P (.lst acc)
  | x :: xs, acc => g x env fun env1 => tt env1 fun b => if b = true then te env1 fun y => acc.length < sizeLine ∧ mCompGo g tt te env P xs (acc ++ [y]) else mCompGo g tt te env P xs acc
def mLc (wi : TIm) (vs : List Nat) (g : TGm) (tt : TTm) (te : TEm) : TEm := fun env P => wi env fun items => mCompGo g tt te (wipeE env vs) P items []
def tiM (K : PySem.W.Frag) (c : List Ow) (lk : Option Nat) (t : TIm) : TI := fun σ H R => ∃ G A W env P, SR K G c A W env σ H ∧ t env P ∧ ∀ J items H' pl, Grow W H H' → (match lk with | none => pl = [] | some j => ∃ a o, pl = [(a, o)] ∧ A j = some a ∧ H' a = some o) → ItOk K (Zt G A W) W H' pl J items → P items → R J H'
theorem tm_lc {K : PySem.W.Frag} {c : List Ow} {lk : Option Nat} {wi : TIm} {vs ws : List Nat} {g : TGm} {tt : TTm} {te : TEm} (hw : ∀ j ∈ ws, j ∈ vs) (σ : St) (H : Hp) (Q : VK) (h : tmE K c .fr (mLc wi vs g tt te) σ H Q) :
    tLc (tiM K c lk wi) (tgM K c ws g) (tmT K c tt) (tmE K c .cl te) vs σ H Q := by
  obtain ⟨G, A, W, env, P, R, h, k⟩ := h
  refine ⟨G, A, W, env, _, R, h, fun J items H1 pl g1 hpl ⟨Gd, Y, wk, hit⟩ h1 D nD => ?_⟩
  have R1 := R.grow g1
  have nW : ¬ inW W D := fun w => by obtain ⟨o, e⟩ := inW_some R1.src w; rw [nD] at e; cases e
  have plD : ∀ q ∈ pl, H1 q.1 = some q.2 ∧ ¬ inW W q.1 := fun q hq => by
    cases lk with
    | none => have e : pl = [] := hpl; rw [e] at hq; cases hq
    | some j =>
      obtain ⟨a, o, e, hA, ho⟩ := hpl
      rw [e, List.mem_singleton] at hq
      rw [hq]
      exact ⟨ho, (R1.Asep j a hA).2.1⟩
  have RD : SR K (G.and D) c A W (wipeE env vs) (wipe σ vs) (upd H1 D (.lst [])) := (R1.wipe vs).and nD
  refine lc_it (g := tgM K c ws g) (tt := tmT K c tt) (te := tmE K c .cl te) wk
    (fun i H2 => ∃ acc wacc, SR K (G.and D) c A W (wipeE env vs) (wipe σ vs) H2 ∧ Grow W H1 H2 ∧ H2 D = some (.lst wacc) ∧ Rps K ⟨Zt (G.and D) A W, W, H2⟩ acc wacc ∧ mCompGo g tt te (wipeE env vs) P (items.drop i) acc)
    ⟨[], [], RD, Grow.new R1.src nD, upd_same, Rps.nil, h1⟩ (fun i H2 _ hP => ?_) (fun i x H2 H3 hi hP y => ?_) (fun H2 hP => ?_)
  · obtain ⟨acc, wacc, R2, g2, hD, ra, hq⟩ := hP
    refine (hit _ W H2 ⟨fun b o hz e => ?_, fun _ h => h⟩ R2.dz fun q hq => g2.keep _ _ (plD q hq).2 (plD q hq).1).1
    exact ⟨fun z => (zt_and.mp z).elim hz (fun z => by have e' : H1 b = some o := e; rw [z, nD] at e'; cases e'), g2.keep b o (fun w => hz (Zt.w w)) e⟩
  · obtain ⟨acc, wacc, R2, g2, hD, ra, hq⟩ := hP
    have x12 : Ext ⟨Zt G A W, W, H1⟩ ⟨Zt (G.and D) A W, W, H2⟩ := ⟨fun b o hz e => ⟨fun z => (zt_and.mp z).elim hz (fun z => by have e' : H1 b = some o := e; rw [z, nD] at e'; cases e'), g2.keep b o (fun w => hz (Zt.w w)) e⟩, fun _ h => h⟩
    have hd : items.drop i = items[i] :: items.drop (i + 1) := List.drop_eq_getElem_cons hi
    rw [hd] at hq
    obtain ⟨ga, rp⟩ := (hit _ W H2 x12 R2.dz fun q hq => g2.keep _ _ (plD q hq).2 (plD q hq).1).2 i x H3 items[i] (List.getElem?_eq_getElem hi) y
    have g23 := ga.grow R2.src
    have R3 := R2.grow g23
    refine ⟨G.and D, A, W, wipeE env vs, items[i], _, R3, rp, hq, fun env1 σ1 R4 t4 h4 => ?_⟩
    refine ⟨(t4.wipe hw).trans wipe_wipe, G.and D, A, W, env1, _, R4, h4, fun b H4 g4 h5 => ?_⟩
    cases b with
    | true =>
      rw [if_pos rfl] at h5 ⊢
      refine ⟨G.and D, A, W, env1, _, R4.grow g4, h5, fun p v H5 g5 rv ⟨hl, h6⟩ => ?_⟩
      have g25 : Grow W H2 H5 := (g23.trans g4).trans g5
      have hD5 : H5 D = some (.lst wacc) := g25.keep D _ nW hD
      have R5 := R2.grow g25
      have ra5 : Rps K ⟨Zt (G.and D) A W, W, H5⟩ acc wacc := Rps.ext (g25.ext R2.sz) ra
      have zD : Zt (G.and D) A W D := zt_and.mpr (.inr rfl)
      have xD : ∀ o, Ext ⟨Zt (G.and D) A W, W, H5⟩ ⟨Zt (G.and D) A W, W, upd H5 D o⟩ := fun o => ⟨fun b w hn e => ⟨hn, by show upd H5 D o b = some w; rw [upd_ne (fun z => hn (by rw [z]; exact zD))]; exact e⟩, fun _ h => h⟩
      refine ⟨wacc, hD5, by rw [← ra.len]; exact hl, acc ++ [p], wacc ++ [v], R5.upZ (.inr rfl) (R1.h0 nD) nW, ?_, upd_same, Rps.ext (xD _) (ra5.append (Rps.cons rv.c Rps.nil)), h6⟩
      have g15 := g2.trans g25
      exact ⟨fun b o hw e => by rw [upd_ne (fun z => by rw [z, nD] at e; cases e)]; exact g15.keep b o hw e, (R5.upZ (o := .lst (wacc ++ [v])) (.inr rfl) (R1.h0 nD) nW).src⟩
    | false =>
      rw [if_neg Bool.false_ne_true] at h5 ⊢
      have g24 : Grow W H2 H4 := g23.trans g4
      exact ⟨acc, wacc, R2.grow g24, g2.trans g24, g24.keep D _ nW hD, Rps.ext (g24.ext R2.sz) ra, h5⟩
  · obtain ⟨acc, wacc, R2, g2, hD, ra, hq⟩ := hP
    rw [List.drop_length] at hq
    exact k (.lst acc) (.ref D) H2 (g1.trans g2) ⟨D, rfl, g1.free nD, wacc, hD, Rps.ext (ext_less fun b z => zt_and.mpr z) ra⟩ hq
section
variable {X : Cx} {f : Fx} {c : List Ow} {lk : Option Nat} {elt tg iter : Expr} {ifs : List Expr} {scope : Scope} {own : List (Str × Nat)} {pos spos : Pos} {wi : TIm} {ws : List Nat} {g : TGm} {tt : TTm} {te : TEm}
theorem em_lc (hc : X.calm = true) (hN : X.N.Nodup) (hi : PIm X c lk tg iter wi) (ok : BlkOk X.N X.env.scope scope own)
    (hg : ∀ (s : Shared) (H : Hp) (C : Addr) (cl : List (Str × Addr)) (fp : List Addr), PGm (X.blk s H scope (compEnvC scope cl C X.env) fp) c ws tg g) (ht : ∀ (s : Shared) (H : Hp) (C : Addr) (cl : List (Str × Addr)) (fp : List Addr), PTsm (X.blk s H scope (compEnvC scope cl C X.env) fp) c ifs tt)
    (he : ∀ (s : Shared) (H : Hp) (C : Addr) (cl : List (Str × Addr)) (fp : List Addr), PEm (X.blk s H scope (compEnvC scope cl C X.env) fp) c .cl elt te) (hw : ∀ j ∈ ws, j ∈ own.map (·.2) := by decide) (hs : ∀ x, foldedSetIterable iter X.env x = pure x := by intro _; rfl) :
    PEm X c .fr (.ListComp elt [⟨tg, iter, ifs, 0⟩] scope pos) (mLc wi (own.map (·.2)) g tt te) :=
  ⟨(pe_lc hc hN hi.run ok (fun s H C cl fp => (hg s H C cl fp).run) (fun s H C cl fp => (ht s H C cl fp).run) (fun s H C cl fp => (he s H C cl fp).run) hs).weak fun σ H Q h => tm_lc hw σ H Q h⟩
theorem sm_setLc (i : Nat) {y : Str} {py : Pos} (hc : X.calm = true) (hN : X.N.Nodup) (hi : PIm X c lk tg iter wi) (ok : BlkOk X.N X.env.scope scope own)
    (hg : ∀ (s : Shared) (H : Hp) (C : Addr) (cl : List (Str × Addr)) (fp : List Addr), PGm (X.blk s H scope (compEnvC scope cl C X.env) fp) c ws tg g) (ht : ∀ (s : Shared) (H : Hp) (C : Addr) (cl : List (Str × Addr)) (fp : List Addr), PTsm (X.blk s H scope (compEnvC scope cl C X.env) fp) c ifs tt)
    (he : ∀ (s : Shared) (H : Hp) (C : Addr) (cl : List (Str × Addr)) (fp : List Addr), PEm (X.blk s H scope (compEnvC scope cl C X.env) fp) c .cl elt te)
    (hsw : swapsWith (.ListComp elt [⟨tg, iter, ifs, 0⟩] scope pos) (some (.Name y py)) spos.line X.env = pure true) (hy : X.N[i]? = some y := by rfl) (hyl : X.env.scope.names.lookup y = some .local := by rfl) (hlen : i < c.length := by decide) (hl : cO c i ≠ .lk := by decide) (hw : ∀ j ∈ ws, j ∈ own.map (·.2) := by decide) (hs : ∀ x, foldedSetIterable iter X.env x = pure x := by intro _; rfl) :
    PSm X f c (c.set i .ow) (.Assign [.Name y py] (.ListComp elt [⟨tg, iter, ifs, 0⟩] scope pos) spos) (sSet i (mLc wi (own.map (·.2)) g tt te)) :=
  ⟨(ps_setLc hc hN hy hyl hsw hi.run ok (fun s H C cl fp => (hg s H C cl fp).run) (fun s H C cl fp => (ht s H C cl fp).run) (fun s H C cl fp => (he s H C cl fp).run) hs).weak fun D σ H h => by
    obtain ⟨G, A, W, env, M, hgw, R, h, k⟩ := h
    refine tm_lc hw σ H _ ⟨G, A, W, env, _, R, h, fun p v H1 g r h1 => ?_⟩
    obtain ⟨a, rfl, n, o⟩ := r
    exact k.nx _ W _ _ H1 (R.set_ow hlen hl g n o) h1⟩
end
end PM

set_option maxHeartbeats 1000000
/-! PM: defs and their calls. -/
namespace PM
open PySem L2
abbrev Spec := List PV → (PV → Prop) → Prop
/-- what a def promises -/
def spM (K : PySem.W.Frag) (rm : Md) (spec : Spec) : Sp := fun vs H Q _ => ∃ (zb : Addr → Prop) (W : Ws) (ps : List PV) (P : PV → Prop), (∀ b, zb b → ∃ o, H b = some o) ∧ (∀ q ∈ W, SA H q) ∧ Rps K ⟨fun b => zb b ∨ inW W b, W, H⟩ ps vs ∧ spec ps P ∧
  ∀ p v H', Grow W H H' → VK1 K rm (fun b => zb b ∨ inW W b) W H H' p v → P p → Q v H'
def mCall (spec : Spec) (ds : List PV) (t : TAm) : TEm := fun env P => t env fun ps => spec (ps ++ ds) P
theorem VK1.less {K : PySem.W.Frag} {Z Z' : Addr → Prop} {W : Ws} {H H' : Hp} {p : PV} {v : V} {md : Md} (hm : md ≠ .ow) (h : ∀ b, Z' b → Z b) (r : VK1 K md Z W H H' p v) : VK1 K md Z' W H H' p v := by
  cases md with
  | cl => exact VK1.ofRp (Rp.ext (ext_less h) r.c)
  | ow => exact absurd rfl hm
  | fr =>
    obtain ⟨a, e, n, o⟩ := r
    exact ⟨a, e, n, o.less fun b z => z.elim (fun z => .inl (h b z)) .inr⟩
/-- defaults: constants -/
def Cst (K : PySem.W.Frag) (ds : List PV) (vs : List V) : Prop := ∀ S, Rps K S ds vs
section
variable {X : Cx} {c : List Ow} {k : Nat} {fa : Addr} {fd : FuncData} {pns : List Str} {spec : Spec} {rm : Md} {x : Str} {p pos : Pos} {e : Expr} {es : List Expr} {t : TAm} {ds : List PV} {dvs : List V} {dus : List Value}
theorem tm_call {K : PySem.W.Frag} (hm : rm ≠ .ow) (hds : Cst K ds dvs) (σ : St) (H : Hp) (Q : VK) (h : tmE K c rm (mCall spec ds t) σ H Q) : tCall (spM K rm spec) dvs E0 (tmA K c .cl t) σ H Q := by
  obtain ⟨G, A, W, env, P, R, h, k⟩ := h
  refine ⟨G, A, W, env, _, R, h, fun ps vs H1 g1 rs h1 => ?_⟩
  have R1 := R.grow g1
  have l1 : ∀ b, (Zt G A W b ∨ inW W b) → Zt G A W b := fun b z => z.elim id Zt.w
  refine ⟨Zt G A W, W, ps ++ ds, P, R1.dz, R1.src, (Rps.ext (ext_less l1) rs.rps).append (hds _), h1, fun p v H' g r hp => k p v H' (g1.trans g) ?_ hp⟩
  exact (r.less hm fun b z => .inl z).back g1
theorem em_call (F : FnOk X.prog X.w X.K X.mg X.base CX0 k fa fd pns (spM X.K rm spec)) (hr : Room k X.A) (hm : X.mg x = some (.ref fa)) (hk : PySem.W.keepIn X.K (.ref fa) = true) (hb : Binds X.K fd pns dus) (hd : Vals dvs dus) (hds : Cst X.K ds dvs)
    (ha : PAm X c .cl (e :: es) t) (hrm : rm ≠ .ow := by decide) (hg : Gl X x := by rfl) (hdb : (x == ("__debug__" : Str)) = false := by decide) (he : starEach (e :: es) X.env = (false, eval e X.env) :: starEach es X.env := by rfl) (hpl : (backTo pos (starEach es X.env)).any (·.1) = false := by rfl) :
    PEm X c rm (.Call (.Name x p) (e :: es) [] pos) (mCall spec ds t) := ⟨(pe_call F hr hg hm hk hb hd pass0 ha.run hdb he hpl).weak fun σ H Q h => tm_call hrm hds σ H Q h⟩
/-- a def's own lists handed on for a look: what comes back is no list -/
def mCallO (spec : Spec) (ds : List PV) (t : TAm) : TEm := fun env P => t env fun ps => spec (ps ++ ds) fun r => flatP r = true ∧ P r
theorem VKs.look {K : PySem.W.Frag} {Z : Addr → Prop} {W : Ws} {H : Hp} (hz : ∀ b, inW W b → Z b) : ∀ {ps : List PV} {vs : List V}, VKs K .ow Z W H ps vs → Rps K ⟨fun b => (fun _ => False) b ∨ inW W b, W, H⟩ ps vs
  | _, _, .nil => Rps.nil
  | p :: _, v :: _, .cons h t => Rps.cons (by
    have x : Ext ⟨Z, W, H⟩ ⟨fun b => (fun _ => False) b ∨ inW W b, W, H⟩ := ext_less fun b z => z.elim False.elim (hz b)
    have h' : RpO K ⟨Z, W, H⟩ p v := h
    cases p with
    | lst ps =>
      obtain ⟨a, ws, e, h1, h2⟩ := h'
      unfold Rp
      exact ⟨a, ws, e, ⟨fun z => z.elim False.elim h1.1, h1.2⟩, Rps.ext x h2⟩
    | dic ks ps =>
      obtain ⟨a, ws, e, h0, h1, l, h2⟩ := h'
      unfold Rp
      exact ⟨a, ws, e, fun z => z.elim False.elim h0, h1, l, Rps.ext x h2⟩
    | non => exact Rp.ext x h'
    | bl _ => exact Rp.ext x h'
    | int _ => exact Rp.ext x h'
    | str _ => exact Rp.ext x h'
    | tup _ => exact Rp.ext x h'
    | obj _ _ _ => exact Rp.ext x h'
    | ref _ => exact Rp.ext x h'
    | src => exact Rp.ext x h'
    | scr _ => exact Rp.ext x h') (VKs.look hz t)
theorem Rp.flat {K : PySem.W.Frag} {S S' : Wd} {p : PV} {v : V} (f : flatP p = true) (h : Rp K S p v) : Rp K S' p v := by
  cases p with
  | non => unfold Rp at h ⊢; exact h
  | bl _ => unfold Rp at h ⊢; exact h
  | int _ => unfold Rp at h ⊢; exact h
  | str _ => unfold Rp at h ⊢; exact h
  | _ => exact absurd f (by simp [flatP])
theorem em_callO (F : FnOk X.prog X.w X.K X.mg X.base CX0 k fa fd pns (spM X.K .cl spec)) (hr : Room k X.A) (hm : X.mg x = some (.ref fa)) (hk : PySem.W.keepIn X.K (.ref fa) = true) (hb : Binds X.K fd pns dus) (hd : Vals dvs dus) (hds : Cst X.K ds dvs)
    (ha : PAm X c .ow (e :: es) t) (hg : Gl X x := by rfl) (hdb : (x == ("__debug__" : Str)) = false := by decide) (he : starEach (e :: es) X.env = (false, eval e X.env) :: starEach es X.env := by rfl) (hpl : (backTo pos (starEach es X.env)).any (·.1) = false := by rfl) :
    PEm X c .cl (.Call (.Name x p) (e :: es) [] pos) (mCallO spec ds t) := ⟨(pe_call F hr hg hm hk hb hd pass0 ha.run hdb he hpl).weak fun σ H Q h => by
  obtain ⟨G, A, W, env, P, R, h, k⟩ := h
  refine ⟨G, A, W, env, _, R, h, fun ps vs H1 g1 rs h1 => ?_⟩
  refine ⟨fun _ => False, W, ps ++ ds, _, fun b z => z.elim, (R.grow g1).src, (VKs.look R.sz rs).append (hds _), h1, fun p v H' g r ⟨hf, hp⟩ => k p v H' (g1.trans g) (VK1.ofRp (Rp.flat hf r.c)) hp⟩⟩
end
/-- where a def begins -/
def startE (n : Nat) (args : List PV) : Env := args.map some ++ List.replicate (n - args.length) none
def shs (n : Nat) : List Ow := List.replicate n .sh
theorem cO_shs {n i : Nat} : cO (shs n) i = .sh := by
  unfold cO shs
  rw [List.getD_eq_getElem?_getD, List.getElem?_replicate]
  split <;> rfl
theorem SR.start {K : PySem.W.Frag} {N : List Str} {zb : Addr → Prop} {W : Ws} {ps : List PV} {vs : List V} {H : Hp} {gw : Bool} (hz : ∀ b, zb b → ∃ o, H b = some o) (hs : ∀ q ∈ W, SA H q) (r : Rps K ⟨fun b => zb b ∨ inW W b, W, H⟩ ps vs) :
    SR K ⟨gw, zb, W, H, fun _ => none, W, []⟩ (shs N.length) (fun _ => none) W (startE N.length ps) (L2.start N vs) H := by
  have less : ∀ b, Zt ⟨gw, zb, W, H, fun _ => none, W, []⟩ (fun _ => none) W b → (zb b ∨ inW W b) := fun b z => by
    rcases z with z | z | ⟨i, z⟩
    · exact .inl z
    · exact .inr z
    · cases z
  refine ⟨?_, fun _ h => h, fun _ h => h, fun _ h => .inl h, fun _ => rfl, hs, fun _ _ _ e => e, hz, fun i a e => (by cases e), fun i j a e => (by cases e), fun i p hc => absurd cO_shs hc, fun i p e => ?_, fun q hq => (by cases hq), fun b o e => (by cases e)⟩
  · unfold startE L2.start
    rw [List.length_append, List.length_append, List.length_map, List.length_map, List.length_replicate, List.length_replicate, r.len]
  · have hi : i < ps.length := by
      unfold startE at e
      cases Nat.lt_or_ge i ps.length with
      | inl h => exact h
      | inr h =>
        rw [List.getElem?_append_right (by rw [List.length_map]; exact h), List.getElem?_replicate] at e
        split at e <;> cases e
    have hp : ps[i]? = some p := by
      unfold startE at e
      rw [List.getElem?_append_left (by rw [List.length_map]; exact hi), List.getElem?_map] at e
      cases q : ps[i]? with
      | none => rw [q] at e; cases e
      | some u => rw [q] at e; cases e; rfl
    obtain ⟨v, hv, rv⟩ := r.get hp
    refine ⟨v, ?_, Rp.ext (ext_less less) rv⟩
    unfold L2.start
    rw [List.getElem?_append_left (by rw [List.length_map, ← r.len]; exact hi), List.getElem?_map, hv]
    rfl
section
variable {P : Program} {w : World} {K : PySem.W.Frag} {mg : Str → Option Value} {base : Heap}
/-- the context of a def's body -/
abbrev bodyX (P : Program) (w : World) (K : PySem.W.Frag) (mg : Str → Option Value) (base : Heap) (N : List Str) (qual : Str) (st : Stmt) (f : Addr) (cdv : Value) (A : Around) (outer : List PySem.Env) (s : Shared) (H : Hp) (E : XK) : Cx :=
  (cxOf CX0 P w K mg base N qual (defScope st) f cdv A outer s H E).nox
def nxOf (rm : Md) (Q : PV → Prop) : Prop := match rm with
  | .cl => Q .non
  | _ => False
/-- THE RULE for a def -/
theorem fn_m {x qual : Str} {st : Stmt} {f : Addr} {fd : FuncData} {N pns : List Str} {k : Nat} {rm : Md} {spec : Spec} {t : TSm} {dvs : List V} (F : FunD K x qual (defArgs st) (defBody st) (defScope st) dvs [] f fd) (S : FnScope N pns (defScope st))
    (hlen : ∀ ps Q, spec ps Q → ps.length = pns.length)
    (hbody : ∀ (cdv : Value) (A : Around) (outer : List PySem.Env) (s : Shared) (H : Hp) (E : XK), Room k (A.deeper (PyProof.Rows.envOfC qual (defScope st) s.heap.objs.size f cdv)) → ∃ c', PSsm (bodyX P w K mg base N qual st f cdv A outer s H E) ⟨rm, false, []⟩ (shs N.length) c' (defBody st) t)
    (hok : ∀ ps Q, spec ps Q → t { nx := fun _ => nxOf rm Q, rt := Q } (startE N.length ps)) : FnOk P w K mg base CX0 (k + 1) f fd pns (spM K rm spec) := by
  refine F.ok S (fun vs H Q E h => ?_) (fun cdv A outer s H vs Q E hr h => ?_)
  · obtain ⟨zb, W, ps, P, _, _, r, hs, _⟩ := h
    rw [← r.len]; exact hlen ps P hs
  · obtain ⟨zb, W, ps, P, hz, hsrc, r, hs, kk⟩ := h
    have hret : ∀ p v H', RetOk K rm ⟨false, zb, W, H, fun _ => none, W, []⟩ p v H' → P p → Q v H' := fun p v H' hr hp => by
      obtain ⟨W', h1, h2, h3, h4, h5⟩ := hr
      have e : W' = W := h2 rfl
      subst e
      exact kk p v H' ⟨fun b o n e => h4 b o n e, h3⟩ h5 hp
    have hsr : SR K ⟨false, zb, W, H, fun _ => none, W, []⟩ (shs N.length) (fun _ => none) W (startE N.length ps) (L2.start N vs) H := SR.start hz hsrc r
    obtain ⟨c', hb⟩ := hbody cdv A outer s H E hr
    refine ⟨_, hb.run.nox, ⟨false, zb, W, H, fun _ => none, W, []⟩, fun _ => none, W, startE N.length ps, { nx := fun _ => nxOf rm P, rt := P }, rfl, hsr, hok ps P hs, ⟨fun A' W' env' σ' H' R' hp => ?_, hret, fun _ _ _ _ _ _ z => z.elim, fun _ _ _ _ _ _ z => z.elim⟩⟩
    cases rm with
    | cl => exact hret .non .non H' (R'.ret (Grow.refl R'.src) (by decide) (VK1.ofRp Rp.non')) hp
    | ow => exact hp.elim
    | fr => exact hp.elim
end
end PM

set_option maxHeartbeats 1000000
/-! PM: more rules of the layer beneath: t[::-1], enumerate(t). -/
namespace HT
open PySem PySem.Spec PyProof.Rows
section
variable {prog : Program} {w : World} {A : Around} {E : Value → Shared → Prop} {s : Shared}
theorem sliceApplied_rev {sl : Addr} {n : Nat} {t : Tok} {Q : Int × Int × Nat → Shared → Prop} (hs : s.heap.IsSliceOf sl .none .none (.int (-1) t))
    (h : Q ((n : Int) - 1, -1, n) s) : wpAny (model prog w) A (Builtin.Slice.sliceApplied (.ref sl) (pure (n : Int))) Q E s := by
  obtain ⟨os, hos, hcs, hds⟩ := id hs
  unfold Builtin.Slice.sliceApplied Builtin.Slice.sliceFields
  refine wpAny_bind (wpAny_bind (wpAny_field hos hds (x := .none) rfl (wpAny_bind (wpAny_field hos hds (x := .none) rfl (wpAny_bind (wpAny_field hos hds (x := .int (-1) t) rfl (wpAny_pure ?_)))))))
  refine wpAny_bind (slicePart_int ?_)
  show wpAny _ _ (if ((-1 : Int) == 0) = true then _ else _) _ _ s
  rw [if_neg (by decide)]
  refine wpAny_bind (slicePart_none (wpAny_bind (slicePart_none (wpAny_bind (wpAny_pure ?_)))))
  show wpAny _ _ (match Builtin.Slice.sliceAdjust none none (-1) (n : Int) with | (lo, hi) => pure (lo, (-1 : Int), Builtin.Slice.slicePlaces lo hi (-1))) _ _ s
  have e1 : Builtin.Slice.sliceAdjust none none (-1) (n : Int) = ((n : Int) - 1, -1) := by
    unfold Builtin.Slice.sliceAdjust
    simp
  rw [e1]
  show wpAny _ _ (pure ((n : Int) - 1, (-1 : Int), Builtin.Slice.slicePlaces ((n : Int) - 1) (-1) (-1))) _ _ s
  have e2 : Builtin.Slice.slicePlaces ((n : Int) - 1) (-1) (-1) = n := by
    unfold Builtin.Slice.slicePlaces
    have h1 : ¬ ((-1 : Int) > 0) := by omega
    simp only [h1, if_false]
    have h3 : (- -1 : Int) = 1 := by decide
    rw [h3, Int.ediv_one]
    split <;> omega
  rw [e2]
  exact wpAny_pure h
theorem filterMap_same {α β : Type} {f g : α → Option β} : ∀ {l : List α}, (∀ a ∈ l, f a = g a) → l.filterMap f = l.filterMap g
  | [], _ => rfl
  | a :: l, h => by
    rw [List.filterMap_cons, List.filterMap_cons, h a List.mem_cons_self, filterMap_same fun b hb => h b (List.mem_cons_of_mem _ hb)]
theorem pick_rev (xs : Array Value) : ((List.range xs.size).filterMap fun (m : Nat) => xs[(((xs.size : Int) - 1) + (m : Int) * (-1)).toNat]?).toArray = xs.toList.reverse.toArray := by
  have e : ∀ m ∈ List.range xs.size, xs[(((xs.size : Int) - 1) + (m : Int) * (-1)).toNat]? = xs[xs.size - 1 - m]? := fun m hm => by
    have := List.mem_range.mp hm
    have : (((xs.size : Int) - 1) + (m : Int) * (-1)).toNat = xs.size - 1 - m := by omega
    rw [this]
  rw [filterMap_same e]
  have e2 := PySem.W.krv_all xs
  have e3 := PySem.W.krv_range xs.size
  rw [← e2, ← List.filterMap_reverse, ← e3, List.filterMap_map]
  rfl
theorem getItem_tuple_rev {t sl : Addr} {items : Array Value} {tk : Tok} {Q : Value → Shared → Prop} (ht : IsTup s.heap t items) (hs : s.heap.IsSliceOf sl .none .none (.int (-1) tk))
    (h : Q (.ref s.heap.objs.size) { s with heap := s.heap.push { cls := .type "tuple", data := .seq items.toList.reverse.toArray } })
    (hsz : items.size ≤ sizeLine) : wpAny (model prog w) A (getItem (.ref t) (.ref sl)) Q E s := by
  have htake : sizeOk (.seq items.toList.reverse.toArray) := by
    show items.toList.reverse.toArray.size ≤ sizeLine
    rw [List.size_toArray, List.length_reverse, Array.length_toList]
    omega
  obtain ⟨os, hos, hcs, hds⟩ := id hs
  have hTs : s.TypeIs (.ref sl) "slice" := ⟨os, hos, hcs⟩
  unfold getItem
  try with_reducible refine wpAny_holding ?_
  first | refine wpAny_bind (wpAny_pure ?_) | skip
  refine wpAny_bind (wpAny_sequenceKey ht.typeIs (by decide) ?_)
  refine wpAny_bind (wpAny_callSpecial?_slot (name := Str.ofString "__getitem__") ht.typeIs PyProof.Rows.slot_tuple_getitem
    (wpAny_call_entry PyProof.Rows.slot_tuple_getitem ht.typeIs entry_tuple_getitem ?_ (args_tuple_getitem _ _)))
  show wpAny _ _ (Builtin.Tuple.tupleItemsOf (.ref t) >>= _) _ _ s
  refine wpAny_bind (tupleItemsOf_ ht ?_)
  refine wpAny_bind (wpAny_typeOf hTs ?_)
  rw [if_pos (by decide)]
  refine wpAny_bind (sliceApplied_rev hs ?_)
  have hno : ¬ (((((items.size : Nat) : Int) - 1) == 0 && (-1 : Int) == 1 && items.size == items.size) = true) := by
    intro q
    rw [Bool.and_eq_true, Bool.and_eq_true] at q
    exact absurd q.1.2 (by decide)
  show wpAny _ _ (if ((((items.size : Nat) : Int) - 1) == 0 && (-1 : Int) == 1 && items.size == items.size) = true then _ else _) _ _ s
  rw [if_neg hno, pick_rev]
  first
    | exact wpAny_bind (m := Builtin.Tuple.tupleExact _) (wpAny_newObj_type (wpAny_pure ⟨_, rfl, wpAny_pure h⟩) htake)
    | exact wpAny_bind (m := Builtin.Tuple.tupleExact _) (wpAny_newObj_type (wpAny_bind (wpAny_pure (wpAny_pure ⟨_, rfl, wpAny_pure h⟩))) htake)
    | exact wpAny_bind (wpAny_bind (m := Builtin.Tuple.tupleExact _) (wpAny_newObj_type (wpAny_pure (wpAny_pure ⟨_, rfl, wpAny_pure h⟩)) htake))
    | exact wpAny_bind (wpAny_bind (m := Builtin.Tuple.tupleExact _) (wpAny_newObj_type (wpAny_pure ⟨_, rfl, wpAny_pure h⟩) htake))
end
end HT
namespace L2
open PySem PySem.Spec PyProof.Rows
section
variable {X : Cx}
/-- x[::-1], a list or a tuple -/
def tRevA (K : PySem.W.Frag) (te : TE) : TE := fun σ H Q => te σ H fun x H1 => ∃ a xs, x = .ref a ∧ ((SqL K H1 a xs ∧ ∀ p, H1 p = none → Q (.ref p) (upd H1 p (.lst xs.reverse))) ∨ (SqT K H1 a xs ∧ ∀ p, H1 p = none → Q (.ref p) (upd H1 p (.tup xs.reverse))))
theorem pe_revA {e : Expr} {te : TE} {k : Nat} {p1 p2 p3 pos : Pos} (he : PE X e te) : PE X (.Subscript e (.Slice none none (some (.UnaryOp .USub (.Constant (.int 1) k p1) p2)) p3) pos) (tRevA X.K te) := by
  refine ⟨fun pins s σ H Q I h => ?_⟩
  refine Subscript_ (thn (he.run pins s σ H _ I h) fun v s1 ⟨x, H1, I1, r1, q1⟩ => ?_)
  obtain ⟨a, xs, ex, q1⟩ := q1
  subst ex
  cases r1
  have hst : PO X (some (.UnaryOp .USub (.Constant (.int 1) k p1) p2)) (tPart (tUn (rU fun i => .int (-i)) (tC (.int 1)))) := po_some (pe_un un_neg pe_int)
  refine wpAny_Slice (thn (po_none.run pins s1 σ H1 (fun o H2 => o = none ∧ H2 = H1) I1 ⟨rfl, rfl⟩) fun vl s2 ⟨l, H2, I2, pl, el, e2⟩ => ?_)
  subst el e2
  refine thn (po_none.run pins s2 σ H2 (fun o H3 => o = none ∧ H3 = H2) I2 ⟨rfl, rfl⟩) fun vu s3 ⟨u, H3, I3, pu, eu, e3⟩ => ?_
  subst eu e3
  refine thn (hst.run pins s3 σ H3 (fun o H4 => o = some (-1) ∧ H4 = H3) I3 ⟨1, rfl, -1, rfl, rfl, rfl⟩) fun vs s4 ⟨o, H4, I4, ps, eo, e4⟩ => ?_
  subst eo e4
  have I5 : Inv X pins σ H4 { s4 with heap := s4.heap.push { cls := .type "slice", data := .fields #[vl, vu, vs] } } := I4.kept (t' := s4.toks) fun b ob q => Heap.get?_push_of_some _ q
  show wpAny (model X.prog X.w) X.A (subscriptTail e (.Slice none none (some (.UnaryOp .USub (.Constant (.int 1) k p1) p2)) p3) (.ref a) (.ref s4.heap.objs.size)) (EP X pins σ Q) X.xe { s4 with heap := s4.heap.push { cls := .type "slice", data := .fields #[vl, vu, vs] } }
  rcases q1 with ⟨hx, q⟩ | ⟨hx, q⟩
  · obtain ⟨its, r, ht, hz⟩ := I5.list hx
    have hlen := r.length
    refine tail_any (ops := [.ref a, .ref s4.heap.objs.size]) ht.isList.typeIs (PySem.slot_list_getitem.lookup) ?_ (by with_unfolding_all rfl)
    refine wpAny_getItem_list_slice ht.isList (Heap.IsSliceOf.new _ vl vu vs) pl pu ps (by decide) ?_ (by rw [List.size_toArray]; omega)
    rw [PySem.W.krv_pick]
    refine ⟨.ref _, _, I5.laid (t' := s4.toks) (o := .lst xs.reverse) (fun b ob q => Heap.get?_push_of_some _ q) (Nat.le_refl _) ?_, rfl, q _ (I5.hok.fresh (Nat.le_refl _))⟩
    exact ⟨by rw [List.length_reverse]; exact hz, _, 0, r.reverse, Heap.get?_push_size _ rfl⟩
  · obtain ⟨its, r, ht, hz⟩ := I5.tuple hx
    have hlen := r.length
    refine tail_any (ops := [.ref a, .ref s4.heap.objs.size]) ht.typeIs PyProof.Rows.slot_tuple_getitem.lookup ?_ (by with_unfolding_all rfl)
    have hsl : ({ s4 with heap := s4.heap.push { cls := .type "slice", data := .fields #[vl, vu, vs] } } : Shared).heap.IsSliceOf s4.heap.objs.size vl vu vs := Heap.IsSliceOf.new _ vl vu vs
    cases pl
    cases pu
    cases ps
    refine HT.getItem_tuple_rev ht hsl ?_ (by rw [List.size_toArray]; omega)
    refine ⟨.ref _, _, I5.laid (t' := s4.toks) (o := .tup xs.reverse) (fun b ob q => Heap.get?_push_of_some _ q) (Nat.le_refl _) ?_, rfl, q _ (I5.hok.fresh (Nat.le_refl _))⟩
    exact ⟨by rw [List.length_reverse]; exact hz, _, r.reverse, IsTup.new _ _⟩
end
/-! ### enumerate(t) of a tuple -/
open Sem (wp) in
theorem meets_enumerate_new1 {v : Value} {o : Obj} {H : Heap → Prop} (B : Begins v o H) :
    Meets (Builtin.«enumerate.__new__» ⟨[.type "enumerate", v], []⟩) (fun _ R s => H s.heap ∧
      R (.ok (.ret (.ref (s.heap.push o).objs.size))) { s with heap := (s.heap.push o).push { cls := .type "enumerate", data := .fields #[.none, .bool false, .ref s.heap.objs.size, rawInt 0, .none, .none] } }) :=
  .of_wp fun prog w A R s h => by
    obtain ⟨hp, g, d, tk, os⟩ := s; obtain ⟨h1, h⟩ := h
    have hsub := sub_enumerate
    have q1 : ∀ {A' : Around} {E : Value → Shared → Prop} {Q : Value → Shared → Prop}, Q (.ref hp.objs.size) ⟨hp.push o, g, d, tk, os⟩ → wpAny (model prog w) A' (pyIter v) Q E ⟨hp, g, d, tk, os⟩ :=
      fun q => B.iter prog w _ _ ⟨hp, g, d, tk, os⟩ _ h1 q
    wp_walk using q1
    refine wpAny_stack_any fun st => wpAny_pure ?_
    split
    · rename_i c _ _ _ _ _
      cases (c == Value.type "enumerate")
      · wp_walk using q1
        exact ⟨_, rfl, h⟩
      · wp_walk using q1
        exact ⟨_, rfl, h⟩
    · wp_walk using q1
      exact ⟨_, rfl, h⟩
theorem call_enumerate_tuple {prog : Program} {w : World} {A : Around} {E : Value → Shared → Prop} {s : Shared} {l : Addr} {items : Array Value} {Q : Value → Shared → Prop} (hL : s.heap.IsTuple l items)
    (h : ∀ h', IsEnum h' (s.heap.objs.size + 1) s.heap.objs.size 0 .none → h'.IsTupleIter s.heap.objs.size l 0 → h'.objs.size = s.heap.objs.size + 2 →
      (∀ b o, s.heap.get? b = some o → h'.get? b = some o) → Q (.ref (s.heap.objs.size + 1)) { s with heap := h' }) :
    wpAny (model prog w) A (call (.type "enumerate") [.ref l]) Q E s := by
  have B := begins_tuple (t := l) (items := items)
  refine callType_new F.called_enumerate (by decide) (F.typeCall_enumerate_1 _) (F.newCall_enumerate_1 _) (fun obj => F.args_object_init_2 obj _) F.entry_enumerate_new
    (meets_enumerate_new1 B) ⟨hL, ?_⟩
  have hz : (s.heap.push { cls := .type "tuple_iterator", data := .fields #[.ref l, .int 0 0] }).objs.size = s.heap.objs.size + 1 := Heap.size_push ..
  show _ ∧ _
  rw [hz]
  have he : IsEnum ((s.heap.push { cls := .type "tuple_iterator", data := .fields #[.ref l, .int 0 0] }).push
      { cls := .type "enumerate", data := .fields #[.none, .bool false, .ref s.heap.objs.size, rawInt 0, .none, .none] }) (s.heap.objs.size + 1) s.heap.objs.size 0 .none := by
    have := Heap.get?_push_size (s.heap.push { cls := .type "tuple_iterator", data := .fields #[.ref l, .int 0 0] })
      (o := { cls := .type "enumerate", data := .fields #[.none, .bool false, .ref s.heap.objs.size, rawInt 0, .none, .none] }) rfl
    rw [hz] at this; exact this
  refine ⟨⟨_, he, rfl⟩, h _ he ⟨_, Heap.get?_push_of_some _ (Heap.get?_push_size _ rfl), rfl, rfl⟩ (by rw [Heap.size_push, hz]) fun b o x => Heap.get?_push_of_some _ (Heap.get?_push_of_some _ x)⟩
end L2

set_option maxHeartbeats 1000000
/-! PM: enumerate, zip. -/
namespace L2
open PySem PySem.Spec PyProof.Rows
section
/-- the tuple at a, each item in a new pair -/
def IteT (K : PySem.W.Frag) (a : Addr) : It :=
  ⟨fun i H => ∃ (xs : List V) (x : V), SqT K H a xs ∧ xs[i]? = some x, fun i H v H' => ∃ T x, v = .ref T ∧ H T = none ∧ H' = upd H T (.tup [.int (i : Nat), x]) ∧ ∀ xs, SqT K H a xs → xs[i]? = some x, fun i H => ∃ xs : List V, SqT K H a xs ∧ xs.length ≤ i⟩
theorem turn_enumT {P : Program} {w : World} {K : PySem.W.Frag} {elts : List Expr} {kk : Nat} {tpos : Pos} (a e it : Addr) (hai : a ≠ it) (hae : a ≠ e) :
    Turn P w K (.Tuple elts kk tpos) (IteT K a) [e, it] e (fun i h => (∃ old, IsEnum h e it ((i : Nat) : Int) old) ∧ h.IsTupleIter it a i ∧ e ≠ it) where
  mem := by simp
  obj := fun i h st b hb => by
    obtain ⟨⟨old, he⟩, ⟨o, ho, hc, hd⟩, _⟩ := st
    have e' : b = e ∨ b = it := by simpa using hb
    rcases e' with z | z
    · rw [z]; exact ⟨_, he, fun v q => nomatch q⟩
    · rw [z]; exact ⟨o, ho, fun v q => by rw [hd] at q; cases q⟩
  keep := fun i h h' st k => let ⟨⟨old, he⟩, hi, hne⟩ := st; ⟨⟨old, k e (by simp) _ he⟩, hi.at fun o q => k it (by simp) o q, hne⟩
  item := by
    intro X hP hw hK hc i pins s σ H E I hf st hg
    subst hP hw hK
    obtain ⟨⟨old, he⟩, hit, hne⟩ := st
    obtain ⟨xs, x, hq, hx⟩ := hg
    obtain ⟨its, rv, p, hz⟩ := I.tuple hq
    obtain ⟨u, hu, ru⟩ := rv.get hx
    have hel : e < s.heap.objs.size := Heap.lt_size he
    have hil : it < s.heap.objs.size := by obtain ⟨_, q, _⟩ := hit; exact Heap.lt_size q
    have D := Draws.tuple (prog := X.prog) (w := X.w) (A := X.A.in1) (I.ok.hd hc) it a hai its.toArray
    have hi : i < its.toArray.size := by
      rw [List.size_toArray]
      exact (List.getElem?_eq_some_iff.mp hu).1
    refine wpAny_pyNext_enum_itemD D he ⟨hit, (show s.heap.IsTuple a its.toArray from p)⟩ hi hne (by simp [hne, Ne.symm hae]) fun x2 h' tk hP ho hst hT hsz hk => ?_
    have ex2 : x2 = u := by
      have := hP
      rw [List.getElem?_toArray, hu] at this
      exact (Option.some.inj this).symm
    subst ex2
    obtain ⟨hit', _⟩ := hst
    refine ⟨_, rfl, wpAny_letOwnedTupleGo_enum (s := { s with heap := h', toks := tk + 1 }) ho fun h'' he' sb => ?_⟩
    have hT2 : h''.get? s.heap.objs.size = some { cls := .type "tuple", data := .seq #[.int i tk, x2] } := (sb.2 _ (Nat.ne_of_gt hel)).trans hT
    have new : ObjOk X.prog X.w (upd H s.heap.objs.size (.tup [.int (i : Nat), x])) h'' s.heap.objs.size (.tup [.int (i : Nat), x]) :=
      ⟨by show 2 ≤ sizeLine; decide, [.int i tk, x2], .cons ⟨_, rfl⟩ (.cons ru .nil), ⟨_, hT2, rfl, _, rfl⟩⟩
    have I1 : Inv X pins σ (upd H s.heap.objs.size (.tup [.int (i : Nat), x])) { s with heap := h'', toks := tk + 1 } :=
      I.turnedNew (ch := [e, it]) (fun b ob hb q => (sb.2 b (fun z => hb (by simp [z]))).trans (hk b ob (fun z => hb (by simp [z])) (fun z => hb (by simp [z])) q)) hf (Nat.le_refl _) new
    refine ⟨.ref s.heap.objs.size, _, I1, rfl, ⟨_, x, rfl, I.hok.fresh (Nat.le_refl _), rfl, fun ys hy => by rw [I.tuple_inj hy hq]; exact hx⟩, ⟨⟨x2, ?_⟩, hit'.at fun o q => (sb.2 it (Ne.symm hne)).trans q, hne⟩, fun b hb => ?_⟩
    · have e1 : ((i + 1 : Nat) : Int) = (i : Int) + 1 := by omega
      rw [e1]; exact he'
    · have hb' : b < s.heap.objs.size := by
        have e' : b = e ∨ b = it := by simpa using hb
        rcases e' with z | z
        · rw [z]; exact hel
        · rw [z]; exact hil
      rw [upd_ne (Nat.ne_of_lt hb')]
      exact (hf b hb).1
  done := by
    intro X hP hw hK hc i pins s σ H E I hf st hg
    subst hP hw hK
    obtain ⟨⟨old, he⟩, hit, hne⟩ := st
    obtain ⟨xs, hq, hx⟩ := hg
    obtain ⟨its, rv, p, hz⟩ := I.tuple hq
    obtain ⟨f0, f1, f2, f3, f4, f5⟩ := hf it (by simp)
    have hl := rv.length
    have fin : ∀ h', Heap.ExtBut it s.heap h' → (none : Option Value) = none ∧ Inv X pins σ H { s with heap := h' } := fun h' eb => ⟨rfl, I.turned (t' := s.toks) (fun b o hb q => eb b o hb q) f0 f1 f3 f4 f5⟩
    -- the tuple's iterator stands at its end, or behind it
    have hTy : s.TypeIs (.ref e) "enumerate" := ⟨_, he, rfl⟩
    unfold pyNext
    refine wpAny_bind (wpAny_attempt (wpAny_callSpecial?_slot (name := Str.ofString "__next__") hTy F.slot_enumerate_next
      (wpAny_call_entry F.slot_enumerate_next hTy F.entry_enumerate_next ?_ (F.args_enumerate_next_1 _))))
    show wpAny _ _ (field (.ref e) 2 >>= _) _ _ _
    refine wpAny_bind (wpAny_field he rfl (x := .ref it) rfl ?_)
    refine wpAny_bind (wpAny_nextOf_tuple_end (I.ok.hd hc) hit (show s.heap.IsTuple a its.toArray from p) (by simp; omega) fun h' x he' hx' => ?_)
    obtain ⟨o, ho, hc'⟩ := hx'
    refine wpAny_bind (wpAny_isInstance (T := "StopIteration") (b := true) ⟨o, ho, hc'⟩ isSubtype_stop ?_)
    exact wpAny_pure (fin _ he')
  self := fun A i s Q E st h => let ⟨⟨_, he⟩, _⟩ := st; wpAny_pyIter_enum he h
def iEnumA (K : PySem.W.Frag) (ta : TA) : TI := fun σ H R => ta σ H fun vs H1 => ∃ a xs, vs = [.ref a] ∧ ((SqL K H1 a xs ∧ R (Ite K a) H1) ∨ (SqT K H1 a xs ∧ R (IteT K a) H1))
theorem pi_enumA {X : Cx} {e : Expr} {ta : TA} {p pos tpos : Pos} {elts : List Expr} {kk : Nat} (hg : Gl X "enumerate") (hm : X.mg "enumerate" = none) (ha : PA X [e] ta) (hs : starEach [e] X.env = [(false, eval e X.env)] := by rfl) :
    PI X (.Tuple elts kk tpos) (.Call (.Name "enumerate" p) [e] [] pos) (iEnumA X.K ta) := by
  refine ⟨fun pins s σ H R I h => ?_⟩
  refine Call_ (ld_blt I hg hm boot_enumerate (PyProof.Rows.callWith_type1 (thn (ha.run pos pins s σ H _ I h) fun us s1 ⟨vs, H1, I1, r1, q1⟩ => ?_) hs rfl))
  obtain ⟨a, xs, ex, q⟩ := q1
  subst ex
  have fp : ∀ b ∈ [s1.heap.objs.size + 1, s1.heap.objs.size], FpOk X pins H1 b := fun b hb => by
    have e' : b = s1.heap.objs.size + 1 ∨ b = s1.heap.objs.size := by simpa using hb
    have hle : s1.heap.objs.size ≤ b := by
      rcases e' with z | z
      · rw [z]; exact Nat.le_add_right _ _
      · rw [z]; exact Nat.le_refl _
    exact I1.fpOk hle (I1.hok.fresh hle)
  cases r1 with
  | cons r rr =>
    cases rr
    cases r
    rcases q with ⟨hq, q⟩ | ⟨hq, q⟩
    · obtain ⟨its, rv, p', hz⟩ := I1.list hq
      refine call_enumerate_list p'.isList fun h' he hit hsz hk => wpAny_pyIter_enum he ?_
      have I2 : Inv X pins σ H1 { s1 with heap := h' } := I1.kept (t' := s1.toks) hk
      exact ⟨s1.heap.objs.size + 1, [s1.heap.objs.size + 1, s1.heap.objs.size], _, _, H1, rfl, I2, turn_enum a (s1.heap.objs.size + 1) s1.heap.objs.size, ⟨⟨.none, he⟩, hit, Nat.succ_ne_self _⟩, fp, q⟩
    · obtain ⟨its, rv, p', hz⟩ := I1.tuple hq
      have hal : a < s1.heap.objs.size := p'.lt
      refine call_enumerate_tuple (show s1.heap.IsTuple a its.toArray from p') fun h' he hit hsz hk => wpAny_pyIter_enum he ?_
      have I2 : Inv X pins σ H1 { s1 with heap := h' } := I1.kept (t' := s1.toks) hk
      exact ⟨s1.heap.objs.size + 1, [s1.heap.objs.size + 1, s1.heap.objs.size], _, _, H1, rfl, I2, turn_enumT a (s1.heap.objs.size + 1) s1.heap.objs.size (Nat.ne_of_lt hal) (Nat.ne_of_lt (Nat.lt_succ_of_lt hal)), ⟨⟨.none, he⟩, hit, Nat.succ_ne_self _⟩, fp, q⟩
theorem walk_enumT {K : PySem.W.Frag} {a : Addr} {xs : List V} : Walk (IteT K a) xs.length (fun H => SqT K H a xs) (YPair (fun i => some (.int (i : Nat))) (fun i => xs[i]?)) := by
  refine ⟨fun i _ hi q => ⟨xs, xs[i], q, by simp [hi]⟩, fun _ q => ⟨xs, q, Nat.le_refl _⟩, fun i H v H' _ q y => ?_⟩
  obtain ⟨T, x, h1, h2, h3, h4⟩ := y
  exact ⟨T, .int (i : Nat), x, h1, h2, h3, rfl, h4 xs q⟩
theorem walk_zipT {K : PySem.W.Frag} {a b : Addr} {xs ys : List V} {n : Nat} (hn : n = min xs.length ys.length) : Walk (RZ.ItzT K a b) n (fun H => SqT K H a xs ∧ SqT K H b ys) (YPair (fun i => xs[i]?) (fun i => ys[i]?)) := by
  subst hn
  refine ⟨fun i _ hi q => ?_, fun _ q => ⟨xs, ys, q.1, q.2, by omega⟩, fun i H v H' _ q y => ?_⟩
  · have h1 : i < xs.length := by omega
    have h2 : i < ys.length := by omega
    exact ⟨xs, ys, xs[i], ys[i], q.1, q.2, by simp [h1], by simp [h2]⟩
  · obtain ⟨T, x, z, h1, h2, h3, h4, h5⟩ := y
    exact ⟨T, x, z, h1, h2, h3, h4 xs q.1, h5 ys q.2⟩
end
end L2
namespace PM
open PySem L2
/-- items that come in new pairs -/
theorem itok_pair {K : PySem.W.Frag} {Z : Addr → Prop} {W : Ws} {H : Hp} {J : It} {n : Nat} {Gd : Hp → Prop} {xs ys : Nat → Option V} {items : List PV} (hn : items.length = n) (wk : Walk J n Gd (YPair xs ys))
    (hst : ∀ Z2 W2 H2, Ext ⟨Z, W, H⟩ ⟨Z2, W2, H2⟩ → Gd H2 ∧ ∀ (i : Nat) (p : PV) (x y : V), items[i]? = some p → xs i = some x → ys i = some y → ∃ a b, p = .tup [a, b] ∧ Rp K ⟨Z2, W2, H2⟩ a x ∧ Rp K ⟨Z2, W2, H2⟩ b y) : ItOk K Z W H [] J items := by
  refine ⟨Gd, YPair xs ys, by rw [hn]; exact wk, fun Z2 W2 H2 x hz _ => ?_⟩
  obtain ⟨g, k⟩ := hst Z2 W2 H2 x
  refine ⟨g, fun i v H3 p hp y => ?_⟩
  obtain ⟨T, u, w, rfl, nT, rfl, h1, h2⟩ := y
  obtain ⟨a, b, rfl, ra, rb⟩ := k i p u w hp h1 h2
  have ga : GrowA H2 (upd H2 T (.tup [u, w])) := GrowA.new nT
  have nz : ¬ Z2 T := fun z => by obtain ⟨o, e⟩ := hz T z; rw [nT] at e; cases e
  have x2 : Ext ⟨Z2, W2, H2⟩ ⟨Z2, W2, upd H2 T (.tup [u, w])⟩ := ⟨fun b o hb e => ⟨hb, ga b o e⟩, fun _ h => h⟩
  refine ⟨ga, ?_⟩
  unfold Rp
  exact ⟨T, [u, w], rfl, .inl ⟨nz, upd_same⟩, Rps.cons (Rp.ext x2 ra) (Rps.cons (Rp.ext x2 rb) Rps.nil)⟩
def enumP (ps : List PV) : List PV := (List.range ps.length).map fun i => .tup [.int (i : Nat), ps.getD i .non]
def zipP (ps qs : List PV) : List PV := List.zipWith (fun a b => .tup [a, b]) ps qs
theorem enumP_get {ps : List PV} {i : Nat} {p : PV} (h : (enumP ps)[i]? = some p) : ∃ q, ps[i]? = some q ∧ p = .tup [.int (i : Nat), q] := by
  unfold enumP at h
  obtain ⟨hi, e⟩ := List.getElem?_eq_some_iff.mp h
  rw [List.length_map, List.length_range] at hi
  rw [List.getElem_map, List.getElem_range] at e
  refine ⟨ps[i], List.getElem?_eq_getElem hi, ?_⟩
  rw [← e, List.getD_eq_getElem?_getD, List.getElem?_eq_getElem hi]
  rfl
section
variable {X : Cx} {c : List Ow} {e e2 : Expr} {te te2 : TEm} {p pos tpos : Pos} {elts : List Expr} {kk : Nat}
def mEnum (te : TEm) : TIm := fun env P => te env fun p => ∃ ps, seqP p = some ps ∧ P (enumP ps)
theorem im_enum (hm : X.mg "enumerate" = none) (he : PEm X c .cl e te) (hg : Gl X "enumerate" := by rfl) (hs0 : starEach [e] X.env = (false, eval e X.env) :: starEach [] X.env := by rfl) (hs : starEach [e] X.env = [(false, eval e X.env)] := by rfl) :
    PIm X c none (.Tuple elts kk tpos) (.Call (.Name "enumerate" p) [e] [] pos) (mEnum te) := ⟨⟨fun pins s σ H R I h => (pi_enumA hg hm (pa_cons he.run pa_nil hs0) hs).run pins s σ H R I (by
  obtain ⟨G, A, W, env, P, R, h, k⟩ := h
  refine ⟨G, A, W, env, _, R, h, fun p v H1 g rv ⟨ps, hp, h1⟩ => ?_⟩
  have hl : (enumP ps).length = ps.length := by unfold enumP; rw [List.length_map, List.length_range]
  have rv' := rv.c
  cases p with
  | lst qs =>
    obtain rfl : qs = ps := Option.some.inj hp
    unfold Rp at rv'
    obtain ⟨a, vs, rfl, e, r⟩ := rv'
    refine ⟨a, vs, rfl, .inl ⟨e.sq, k _ _ H1 [] g rfl (itok_pair (hl.trans r.len) walk_enum fun Z2 W2 H2 x => ⟨(e.ext x).sq, fun i q u w hq h2 h3 => ?_⟩) h1⟩⟩
    obtain ⟨q0, hq0, rfl⟩ := enumP_get hq
    obtain ⟨w', hw', rw'⟩ := r.get hq0
    rw [h3] at hw'; cases hw'
    cases h2
    exact ⟨_, _, rfl, Rp.int', Rp.ext x rw'⟩
  | tup qs =>
    obtain rfl : qs = ps := Option.some.inj hp
    unfold Rp at rv'
    obtain ⟨a, vs, rfl, e, r⟩ := rv'
    refine ⟨a, vs, rfl, .inr ⟨e.sq, k _ _ H1 [] g rfl (itok_pair (hl.trans r.len) walk_enumT fun Z2 W2 H2 x => ⟨(e.ext x).sq, fun i q u w hq h2 h3 => ?_⟩) h1⟩⟩
    obtain ⟨q0, hq0, rfl⟩ := enumP_get hq
    obtain ⟨w', hw', rw'⟩ := r.get hq0
    rw [h3] at hw'; cases hw'
    cases h2
    exact ⟨_, _, rfl, Rp.int', Rp.ext x rw'⟩
  | _ => cases hp)⟩⟩
/-- zip of two lists, or of two tuples -/
def mZip (te te2 : TEm) : TIm := fun env P => te env fun x => te2 env fun y => match x, y with
  | .lst ps, .lst qs => P (zipP ps qs)
  | .tup ps, .tup qs => P (zipP ps qs)
  | _, _ => False
theorem zipP_get {ps qs : List PV} {i : Nat} {p : PV} (h : (zipP ps qs)[i]? = some p) : ∃ a b, ps[i]? = some a ∧ qs[i]? = some b ∧ p = .tup [a, b] := by
  unfold zipP at h
  rw [List.getElem?_zipWith] at h
  cases h1 : ps[i]? with
  | none => rw [h1] at h; cases h
  | some a =>
    cases h2 : qs[i]? with
    | none => rw [h1, h2] at h; cases h
    | some b => rw [h1, h2] at h; cases h; exact ⟨a, b, rfl, rfl, rfl⟩
theorem im_zip (hm : X.mg "zip" = none) (he : PEm X c .cl e te) (he2 : PEm X c .cl e2 te2) (hg : Gl X "zip" := by rfl) (hs0 : starEach [e, e2] X.env = (false, eval e X.env) :: starEach [e2] X.env := by rfl) (hs1 : starEach [e2] X.env = (false, eval e2 X.env) :: starEach [] X.env := by rfl)
    (hs2 : (backTo pos (starEach [e2] X.env)).any (·.1) = false := by rfl) :
    PIm X c none (.Tuple elts kk tpos) (.Call (.Name "zip" p) [e, e2] [] pos) (mZip te te2) := ⟨⟨fun pins s σ H R I h => (RZ.pi_zipA hg hm (pa_cons he.run (pa_cons he2.run pa_nil hs1) hs0) hs0 hs2).run pins s σ H R I (by
  obtain ⟨G, A, W, env, P, R, h, k⟩ := h
  refine ⟨G, A, W, env, _, R, h, fun p v H1 g rv h1 => ⟨G, A, W, env, _, R.grow g, h1, fun q w H2 g2 rw2 h2 => ?_⟩⟩
  have rv' := Rp.ext (g2.ext R.sz) rv.c
  have rw' := rw2.c
  cases p with
  | lst ps =>
    cases q with
    | lst qs =>
      unfold Rp at rv' rw'
      obtain ⟨a, vs, rfl, e, r⟩ := rv'
      obtain ⟨b, ws, rfl, e', r'⟩ := rw'
      have hl : (zipP ps qs).length = min vs.length ws.length := by unfold zipP; rw [List.length_zipWith, r.len, r'.len]
      refine ⟨a, b, vs, ws, rfl, .inl ⟨e.sq, e'.sq, k _ _ H2 [] (g.trans g2) rfl (itok_pair hl (walk_zip rfl) fun Z2 W2 H3 x => ⟨⟨(e.ext x).sq, (e'.ext x).sq⟩, fun i q u w hq h3 h4 => ?_⟩) h2⟩⟩
      obtain ⟨a0, b0, ha, hb, rfl⟩ := zipP_get hq
      obtain ⟨u', hu', ru'⟩ := r.get ha
      obtain ⟨w', hw', rw'⟩ := r'.get hb
      rw [h3] at hu'; cases hu'
      rw [h4] at hw'; cases hw'
      exact ⟨_, _, rfl, Rp.ext x ru', Rp.ext x rw'⟩
    | _ => exact h2.elim
  | tup ps =>
    cases q with
    | tup qs =>
      unfold Rp at rv' rw'
      obtain ⟨a, vs, rfl, e, r⟩ := rv'
      obtain ⟨b, ws, rfl, e', r'⟩ := rw'
      have hl : (zipP ps qs).length = min vs.length ws.length := by unfold zipP; rw [List.length_zipWith, r.len, r'.len]
      refine ⟨a, b, vs, ws, rfl, .inr ⟨e.sq, e'.sq, k _ _ H2 [] (g.trans g2) rfl (itok_pair hl (walk_zipT rfl) fun Z2 W2 H3 x => ⟨⟨(e.ext x).sq, (e'.ext x).sq⟩, fun i q u w hq h3 h4 => ?_⟩) h2⟩⟩
      obtain ⟨a0, b0, ha, hb, rfl⟩ := zipP_get hq
      obtain ⟨u', hu', ru'⟩ := r.get ha
      obtain ⟨w', hw', rw'⟩ := r'.get hb
      rw [h3] at hu'; cases hu'
      rw [h4] at hw'; cases hw'
      exact ⟨_, _, rfl, Rp.ext x ru', Rp.ext x rw'⟩
    | _ => exact h2.elim
  | _ => exact h2.elim)⟩⟩
end
end PM

set_option maxHeartbeats 1000000
/-! PM: several names at once, views of any line, dicts. -/
namespace PM
open PySem L2

/-! ### several names at once -/
def Gh.shun (G : Gh) (a : Addr) : Gh := { G with zb := fun b => G.zb b ∨ b = a }
section
variable {K : PySem.W.Frag} {G : Gh} {c : List Ow} {A : Nat → Option Addr} {W : Ws} {env : Env} {σ : St} {H H1 H' : Hp}
theorem zt_shun {a b : Addr} (h : Zt (G.shun a) A W b) : Zt G A W b ∨ b = a := by
  rcases h with (h | h) | h | h
  · exact .inl (.inl h)
  · exact .inr h
  · exact .inl (.inr (.inl h))
  · exact .inl (.inr (.inr h))
/-- a new thing that is to be left alone -/
theorem SR.shun (R : SR K G c A W env σ H) (g : Grow W H H1) {a : Addr} (n : H a = none) (t : ∃ o, H1 a = some o) : SR K (G.shun a) c A W env σ H1 := by
  have R1 := R.grow g
  have nt : ∀ b o, H b = some o → b ≠ a := fun b o e z => by rw [z, n] at e; cases e
  have x : Ext ⟨Zt G A W, W, H⟩ ⟨Zt (G.shun a) A W, W, H1⟩ := ⟨fun b o hz e => ⟨fun z => (zt_shun z).elim hz (nt b o e), g.keep b o (fun w => hz (Zt.w w)) e⟩, fun _ h => h⟩
  refine ⟨R1.len, R1.W0in, R1.Wmin, R1.Wnew, R1.Wfix, R1.src, R1.keep, fun b hb => ?_, fun i b e => ?_, R1.Ainj, R1.Aset, fun i p e => ?_, R1.pins, fun b o e => ?_⟩
  · rcases hb with hb | hb
    · exact R1.zbt b hb
    · rw [hb]; exact t
  · obtain ⟨h1, h2, h3, h4, h5⟩ := R1.Asep i b e
    obtain ⟨o, e2⟩ := (R.Asep i b e).2.2.2.2
    exact ⟨h1, h2, fun z => z.elim h3 (nt b o e2), h4, h5⟩
  · obtain ⟨v, h1, h2⟩ := R.slots i p e
    refine ⟨v, h1, ?_⟩
    cases hA : A i with
    | none => rw [hA] at h2; exact Rp.ext x h2
    | some b =>
      rw [hA] at h2
      obtain ⟨_, n2, _, _, o, ho⟩ := R.Asep i b hA
      exact ⟨h2.1, h2.2.ext x (by show H1 b = H b; rw [ho, g.keep b o n2 ho])⟩
  · obtain ⟨h1, h2⟩ := R.fz b o e
    exact ⟨(R1.fz b o e).1, fun z => (zt_shun z).elim h2 (nt b o h1)⟩
/-- values made one behind the other, the new ones each apart -/
inductive Chn (K : PySem.W.Frag) (W : Ws) : (Addr → Prop) → Hp → List Md → List PV → List V → Hp → Prop
  | nil {Z : Addr → Prop} {H : Hp} : Chn K W Z H [] [] [] H
  | cl {Z : Addr → Prop} {H H1 H' : Hp} {ms : List Md} {p : PV} {ps : List PV} {v : V} {vs : List V} : Grow W H H1 → VK1 K .cl Z W H H1 p v → Chn K W Z H1 ms ps vs H' → Chn K W Z H (.cl :: ms) (p :: ps) (v :: vs) H'
  | fr {Z : Addr → Prop} {H H1 H' : Hp} {ms : List Md} {p : PV} {ps : List PV} {a : Addr} {vs : List V} : Grow W H H1 → H a = none → OwnAt K ⟨fun b => Z b ∨ b = a, W, H1⟩ a p → Chn K W (fun b => Z b ∨ b = a) H1 ms ps vs H' → Chn K W Z H (.fr :: ms) (p :: ps) (.ref a :: vs) H'
theorem Chn.less {Z Z' : Addr → Prop} {ms : List Md} {ps : List PV} {vs : List V} (h : Chn K W Z H ms ps vs H') (k : ∀ b, Z' b → Z b) : Chn K W Z' H ms ps vs H' := by
  induction h generalizing Z' with
  | nil => exact .nil
  | cl g r _ ih => exact .cl g (VK1.ofRp (Rp.ext (ext_less k) r.c)) (ih k)
  | fr g n o _ ih =>
    exact .fr g n (o.less fun b z => z.imp (k b) id) (ih fun b z => z.imp (k b) id)
theorem Chn.grow {Z : Addr → Prop} {ms : List Md} {ps : List PV} {vs : List V} (h : Chn K W Z H ms ps vs H') (hs : ∀ p ∈ W, SA H p) : Grow W H H' := by
  induction h with
  | nil => exact Grow.refl hs
  | cl g r _ ih => exact g.trans (ih g.src)
  | fr g n o _ ih => exact g.trans (ih g.src)
def tmX (K : PySem.W.Frag) (c : List Ow) (ms : List Md) (t : TAm) : TA := fun σ H Q => ∃ G A W env P, SR K G c A W env σ H ∧ t env P ∧ ∀ ps vs H', Chn K W (Zt G A W) H ms ps vs H' → P ps → Q vs H'
structure PXm (X : Cx) (c : List Ow) (ms : List Md) (es : List Expr) (t : TAm) : Prop where
  run : PA X es (tmX X.K c ms t)
theorem OwnAt.tr {S : Wd} {a : Addr} {p : PV} (h : OwnAt K S a p) : ∃ o, S.H a = some o := by
  cases p with
  | lst ps => obtain ⟨vs, e, _⟩ := h; exact ⟨_, e⟩
  | dic ks ps => obtain ⟨vs, e, _⟩ := h; exact ⟨_, e⟩
  | obj C ns ps => obtain ⟨dx, vs, e, _⟩ := h; exact ⟨_, e⟩
  | _ => exact h.elim
variable {X : Cx} {e : Expr} {es : List Expr} {te : TEm} {t : TAm} {ms : List Md}
theorem xm_nil : PXm X c [] [] mNil := ⟨pa_nil.weak fun σ H Q h => by
  obtain ⟨G, A, W, env, P, R, h, k⟩ := h
  exact k [] [] H .nil h⟩
theorem xm_cl (ha : PEm X c .cl e te) (hr : PXm X c ms es t) (hs : starEach (e :: es) X.env = (false, eval e X.env) :: starEach es X.env := by rfl) : PXm X c (.cl :: ms) (e :: es) (mCons te t) := ⟨(pa_cons ha.run hr.run hs).weak fun σ H Q h => by
  obtain ⟨G, A, W, env, P, R, h, k⟩ := h
  exact ⟨G, A, W, env, _, R, h, fun px vx H1 g1 rx h1 => ⟨G, A, W, env, _, R.grow g1, h1, fun ps vs H2 ch h2 => k _ _ H2 (.cl g1 rx ch) h2⟩⟩⟩
theorem xm_fr (ha : PEm X c .fr e te) (hr : PXm X c ms es t) (hs : starEach (e :: es) X.env = (false, eval e X.env) :: starEach es X.env := by rfl) : PXm X c (.fr :: ms) (e :: es) (mCons te t) := ⟨(pa_cons ha.run hr.run hs).weak fun σ H Q h => by
  obtain ⟨G, A, W, env, P, R, h, k⟩ := h
  refine ⟨G, A, W, env, _, R, h, fun px vx H1 g1 rx h1 => ?_⟩
  obtain ⟨a, rfl, n, o⟩ := rx
  exact ⟨G.shun a, A, W, env, _, R.shun g1 n o.tr, h1, fun ps vs H2 ch h2 => k _ _ H2 (.fr g1 n o (ch.less fun b z => by
    rcases z with z | z
    · rcases z with z | z | z
      · exact .inl (.inl z)
      · exact .inr (.inl z)
      · exact .inr (.inr z)
    · exact .inl (.inr z))) h2⟩⟩
def mdO : Md → Ow
  | .fr => .ow
  | _ => .sh
/-- one name takes the first of them -/
theorem SR.chn {md : Md} {i : Nat} {p : PV} {v : V} {ps : List PV} {vs : List V} (R : SR K G c A W env σ H) (h : Chn K W (Zt G A W) H (md :: ms) (p :: ps) (v :: vs) H') (hi : i < c.length) (hl : cO c i ≠ .lk) :
    ∃ A1 H1, SR K G (c.set i (mdO md)) A1 W (env.set i (some p)) (σ.set i (some v)) H1 ∧ Chn K W (Zt G A1 W) H1 ms ps vs H' := by
  cases h with
  | cl g r ch => exact ⟨_, _, (R.grow g).set_sh hl r.c, ch.less fun b z => zt_drop z⟩
  | fr g n o ch =>
    refine ⟨_, _, R.set_ow hi hl g n o, ch.less fun b z => ?_⟩
    rcases z with z | z | ⟨j, z⟩
    · exact .inl (.inl z)
    · exact .inl (.inr (.inl z))
    · by_cases hj : j = i
      · subst hj; rw [putA_eq] at z; cases z; exact .inr rfl
      · rw [putA_ne hj] at z; exact .inl (.inr (.inr ⟨j, z⟩))
variable {f : Fx}
def setN {α : Type} (env : List (Option α)) : List Nat → List α → List (Option α)
  | i :: is, p :: ps => setN (env.set i (some p)) is ps
  | _, _ => env
def putMs (c : List Ow) : List Nat → List Md → List Ow
  | i :: is, m :: ms => putMs (c.set i (mdO m)) is ms
  | _, _ => c
def okPut (c : List Ow) : List Nat → List Md → Bool
  | i :: is, m :: ms => decide (i < c.length) && !decide (cO c i = .lk) && okPut (c.set i (mdO m)) is ms
  | [], [] => true
  | _, _ => false
theorem Chn.len {Z : Addr → Prop} {ps : List PV} {vs : List V} (h : Chn K W Z H ms ps vs H') : ms.length = ps.length ∧ ms.length = vs.length := by
  induction h with
  | nil => exact ⟨rfl, rfl⟩
  | cl _ _ _ ih => exact ⟨by rw [List.length_cons, List.length_cons, ih.1], by rw [List.length_cons, List.length_cons, ih.2]⟩
  | fr _ _ _ _ ih => exact ⟨by rw [List.length_cons, List.length_cons, ih.1], by rw [List.length_cons, List.length_cons, ih.2]⟩
theorem SR.chnN : ∀ {is : List Nat} {ms : List Md} {c : List Ow} {A : Nat → Option Addr} {env : Env} {σ : St} {H : Hp} {ps : List PV} {vs : List V}, SR K G c A W env σ H → Chn K W (Zt G A W) H ms ps vs H' → okPut c is ms = true → ∃ A', SR K G (putMs c is ms) A' W (setN env is ps) (setN σ is vs) H'
  | [], [], _, _, _, _, _, _, _, R, h, _ => by cases h; exact ⟨_, R⟩
  | [], _ :: _, _, _, _, _, _, _, _, _, _, ok => by cases ok
  | _ :: _, [], _, _, _, _, _, _, _, _, _, ok => by cases ok
  | i :: is, m :: ms, c, A, env, σ, H, ps, vs, R, h, ok => by
    have ok' : (decide (i < c.length) && !decide (cO c i = .lk) && okPut (c.set i (mdO m)) is ms) = true := ok
    rw [Bool.and_eq_true, Bool.and_eq_true] at ok'
    obtain ⟨⟨h1, h2⟩, h3⟩ := ok'
    have h2' : cO c i ≠ .lk := fun z => by rw [decide_eq_true z] at h2; cases h2
    cases ps with
    | nil => cases h
    | cons p ps =>
      cases vs with
      | nil => cases h
      | cons v vs =>
        obtain ⟨A1, H1, R1, ch⟩ := R.chn h (of_decide_eq_true h1) h2'
        have q := SR.chnN R1 ch h3
        exact q
def sPar (is : List Nat) (t : TAm) : TSm := fun M env => t env fun ps => M.nx (setN env is ps)
theorem sm_par {i j : Nat} {x y : Str} {a b : Expr} {px py pt pos : Pos} {kt k2 : Nat} {pt2 : Pos} (is : List Nat) (hc : X.calm = true) (hN : X.N.Nodup) (ha : PXm X c ms [a, b] t) (he : is = [i, j] := by rfl) (hi : X.N[i]? = some x := by rfl) (hj : X.N[j]? = some y := by rfl) (hij : i ≠ j := by decide)
    (hx : X.env.scope.names.lookup x = some .local := by rfl) (hy : X.env.scope.names.lookup y = some .local := by rfl) (ok : okPut c is ms = true := by decide)
    (hw : swappedStores [.Tuple [.Name x px, .Name y py] kt pt] (.Tuple [a, b] k2 pt2) X.env = pure (some [x, y]) := by rfl)
    (hs : swapsWithSole [.Tuple [.Name x px, .Name y py] kt pt] (.Tuple [a, b] k2 pt2) pos.line X.env = pure false := by rfl) :
    PSm X f c (putMs c is ms) (.Assign [.Tuple [.Name x px, .Name y py] kt pt] (.Tuple [a, b] k2 pt2) pos) (sPar is t) := ⟨(ps_par hc hN hi hj hij hx hy ha.run hw hs).weak fun D σ H h => by
  subst he
  obtain ⟨G, A, W, env, M, hg, R, h, k⟩ := h
  refine ⟨G, A, W, env, _, R, h, fun ps vs H2 ch h2 => ?_⟩
  obtain ⟨A', R'⟩ := R.chnN ch ok
  obtain ⟨v, w, rfl⟩ : ∃ v w, vs = [v, w] := by
    cases ms with
    | nil => cases ok
    | cons m1 ms =>
      cases ms with
      | nil => unfold okPut okPut at ok; rw [Bool.and_false] at ok; cases ok
      | cons m2 ms =>
        cases ms with
        | cons m3 ms => unfold okPut okPut okPut at ok; rw [Bool.and_false, Bool.and_false] at ok; cases ok
        | nil =>
          have hl := ch.len.2
          cases vs with
          | nil => cases hl
          | cons v vs =>
            cases vs with
            | nil => cases hl
            | cons w vs =>
              cases vs with
              | nil => exact ⟨v, w, rfl⟩
              | cons _ _ => cases hl
  exact ⟨v, w, rfl, k.nx _ _ _ _ _ R' h2⟩⟩
theorem sm_par3 {i j l : Nat} {x y z : Str} {a b d : Expr} {px py pz pt pos : Pos} {kt k2 : Nat} {pt2 : Pos} (is : List Nat) (hc : X.calm = true) (hN : X.N.Nodup) (ha : PXm X c ms [a, b, d] t) (he : is = [i, j, l] := by rfl) (hi : X.N[i]? = some x := by rfl) (hj : X.N[j]? = some y := by rfl) (hl : X.N[l]? = some z := by rfl) (hij : i ≠ j := by decide) (hil : i ≠ l := by decide) (hjl : j ≠ l := by decide)
    (hx : X.env.scope.names.lookup x = some .local := by rfl) (hy : X.env.scope.names.lookup y = some .local := by rfl) (hz : X.env.scope.names.lookup z = some .local := by rfl) (ok : okPut c is ms = true := by decide)
    (hw : swappedStores [.Tuple [.Name x px, .Name y py, .Name z pz] kt pt] (.Tuple [a, b, d] k2 pt2) X.env = pure (some [x, y, z]) := by rfl)
    (hs : swapsWithSole [.Tuple [.Name x px, .Name y py, .Name z pz] kt pt] (.Tuple [a, b, d] k2 pt2) pos.line X.env = pure false := by rfl) :
    PSm X f c (putMs c is ms) (.Assign [.Tuple [.Name x px, .Name y py, .Name z pz] kt pt] (.Tuple [a, b, d] k2 pt2) pos) (sPar is t) := ⟨(ps_par3 hc hN hi hj hl hij hil hjl hx hy hz ha.run hw hs).weak fun D σ H h => by
  subst he
  obtain ⟨G, A, W, env, M, hg, R, h, k⟩ := h
  refine ⟨G, A, W, env, _, R, h, fun ps vs H2 ch h2 => ?_⟩
  obtain ⟨A', R'⟩ := R.chnN ch ok
  obtain ⟨v, w, u, rfl⟩ : ∃ v w u, vs = [v, w, u] := by
    cases ms with
    | nil => cases ok
    | cons m1 ms =>
      cases ms with
      | nil => unfold okPut okPut at ok; rw [Bool.and_false] at ok; cases ok
      | cons m2 ms =>
        cases ms with
        | nil => unfold okPut okPut okPut at ok; rw [Bool.and_false, Bool.and_false] at ok; cases ok
        | cons m3 ms =>
          cases ms with
          | cons m4 ms => unfold okPut okPut okPut okPut at ok; rw [Bool.and_false, Bool.and_false, Bool.and_false] at ok; cases ok
          | nil =>
            have hl := ch.len.2
            cases vs with
            | nil => cases hl
            | cons v vs =>
              cases vs with
              | nil => cases hl
              | cons w vs =>
                cases vs with
                | nil => cases hl
                | cons u vs =>
                  cases vs with
                  | nil => exact ⟨v, w, u, rfl⟩
                  | cons _ _ => cases hl
  exact ⟨v, w, u, rfl, k.nx _ _ _ _ _ R' h2⟩⟩
/-- the same by way of a tuple -/
def gNs (is : List Nat) : TGs := fun vs σ H Q => vs.length = is.length ∧ Q (setN σ is vs) H
theorem pgs_n0 : PGs X [] (gNs []) := ⟨fun pins s σ H vs us Q I r h => pgs_nil.run pins s σ H vs us Q I r (by
  obtain ⟨e, h⟩ := h
  cases vs with
  | nil => exact ⟨rfl, h⟩
  | cons _ _ => cases e)⟩
theorem pgs_n {i : Nat} {is : List Nat} {x : Str} {p : Pos} (hN : X.N.Nodup) (h2 : PGs X es (gNs is)) (hi : X.N[i]? = some x := by rfl) (hx : Loc X.env.scope x := by first | exact Or.inl rfl | exact Or.inr rfl) (hf : X.fn x = true ∨ X.env.scope.names.lookup x = some .local := by first | exact .inl rfl | exact .inr rfl | assumption)
    (hs : (assignEach (.Name x p :: es) X.env).map (·.2) = assign (.Name x p) X.env :: (assignEach es X.env).map (·.2) := by rfl) : PGs X (.Name x p :: es) (gNs (i :: is)) := ⟨fun pins s σ H vs us Q I r h => (pgs_cons (pg_name hN hi hx hf) h2 hs).run pins s σ H vs us Q I r (by
  obtain ⟨e, h⟩ := h
  cases vs with
  | nil => cases e
  | cons v vs => exact ⟨v, vs, rfl, Nat.succ.inj e, h⟩)⟩
theorem okPut_len : ∀ {is : List Nat} {ms : List Md} {c : List Ow}, okPut c is ms = true → is.length = ms.length
  | [], [], _, _ => rfl
  | [], _ :: _, _, h => by cases h
  | _ :: _, [], _, h => by cases h
  | i :: is, m :: ms, c, h => by
    unfold okPut at h
    rw [Bool.and_eq_true] at h
    rw [List.length_cons, List.length_cons, okPut_len h.2]
theorem sm_parG {tgs : List Expr} {pt pos : Pos} {kt k2 n : Nat} {pt2 : Pos} (is : List Nat) (hc : X.calm = true) (hg : PGs X tgs (gNs is)) (ha : PXm X c ms es t) (ok : okPut c is ms = true := by decide) (hl : is.length ≤ sizeLine := by decide)
    (hs : swapsWithSole [.Tuple tgs kt pt] (.Tuple es k2 pt2) pos.line X.env = pure false := by rfl) (hw : swappedStores [.Tuple tgs kt pt] (.Tuple es k2 pt2) X.env = pure none := by rfl)
    (h1 : (assignEach [.Tuple tgs kt pt] X.env).map (·.2) = [assign (.Tuple tgs kt pt) X.env] := by rfl) (hn : (assignEach tgs X.env).length = n := by rfl) (hnl : is.length = n := by rfl) (hst : (assignEach tgs X.env).findIdx? (·.1) = none := by rfl) :
    PSm X f c (putMs c is ms) (.Assign [.Tuple tgs kt pt] (.Tuple es k2 pt2) pos) (sPar is t) := ⟨(ps_asg (pe_tup ha.run) (pg_tup hc hg hn hst) hs hw h1).weak fun D σ H h => by
  obtain ⟨G, A, W, env, M, hgw, R, h, k⟩ := h
  refine ⟨G, A, W, env, _, R, h, fun ps vs H2 ch h2 => ?_⟩
  obtain ⟨A', R'⟩ := R.chnN ch ok
  have hl2 : vs.length = is.length := ch.len.2.symm.trans (okPut_len ok).symm
  refine ⟨by rw [hl2]; exact hl, fun T nT => ⟨T, vs, rfl, .inl (.inl upd_same), hl2.trans hnl, hl2, ?_⟩⟩
  exact k.nx _ _ _ _ _ (R'.grow (Grow.new R'.src nT)) h2⟩
end

/-! ### a part of any line, a line turned round -/
def oSl : PV → Option Int → Option Int → (PV → Prop) → Prop := fun x l u P => match x with
  | .lst ps => P (.lst (cutP ps l u))
  | .tup ps => P (.tup (cutP ps l u))
  | _ => False
def oRev : PO1 := fun x P => match x with
  | .lst ps => P (.lst ps.reverse)
  | .tup ps => P (.tup ps.reverse)
  | _ => False
section
variable {X : Cx} {c : List Ow} {e : Expr} {lo hi : Option Expr} {te : TEm} {tl th : Env → (Option Int → Prop) → Prop} {pos p2 : Pos}
theorem em_sl (he : PEm X c .ow e te) (hl : POm X c lo tl) (hu : POm X c hi th) : PEm X c .cl (.Subscript e (.Slice lo hi none p2) pos) (mSl oSl te tl th) := ⟨(pe_slice (SlR.or sl_list sl_tupA) he.run hl.run hu.run).weak fun σ H Q h => by
  obtain ⟨G, A, W, env, P, R, h, k⟩ := h
  refine ⟨G, A, W, env, _, R, h, fun px vx H1 g1 rx h1 => ⟨G, A, W, env, _, R.grow g1, h1, fun l H2 g2 h2 => ⟨G, A, W, env, _, (R.grow g1).grow g2, h2, fun u H3 g3 h3 => ?_⟩⟩⟩
  have R3 := ((R.grow g1).grow g2).grow g3
  have rx3 := RpO.grow R.sz (g2.trans g3) rx.o
  cases px with
  | lst ps =>
    have h3' : P (.lst (cutP ps l u)) := h3
    obtain ⟨a, vs, rfl, e, r⟩ := RpO.lst rx3
    refine .inl ⟨a, vs, rfl, .inl (.inl e.2), fun p n => k _ _ _ (((g1.trans g2).trans g3).trans (Grow.new R3.src n)) (VK1.ofRp (OwnAt.cl (R3.nz n) (OwnAt.newLst n (r.cut l u)))) h3'⟩
  | tup ps =>
    have h3' : P (.tup (cutP ps l u)) := h3
    have rx4 : Rp X.K ⟨Zt G A W, W, H3⟩ (.tup ps) vx := rx3
    obtain ⟨a, vs, rfl, e, r⟩ := RpO.tup rx3
    refine .inr ⟨a, vs, rfl, e.sq, fun w => ?_, fun _ p n => ?_⟩
    · rw [← r.len] at w
      rw [cut_whole w] at h3'
      exact k _ _ H3 ((g1.trans g2).trans g3) (VK1.ofRp rx4) h3'
    · exact k _ _ _ (((g1.trans g2).trans g3).trans (Grow.new R3.src n)) (VK1.ofRp (Rp.newTup (R3.nz n) n R3.src R.sz (r.cut l u))) h3'
  | _ => exact h3.elim⟩
theorem em_rev {k : Nat} {p1 p3 p4 : Pos} (he : PEm X c .ow e te) : PEm X c .cl (.Subscript e (.Slice none none (some (.UnaryOp .USub (.Constant (.int 1) k p1) p4)) p3) pos) (mOp1 oRev te) := ⟨(pe_revA he.run).weak fun σ H Q h => by
  obtain ⟨G, A, W, env, P, R, h, kk⟩ := h
  refine ⟨G, A, W, env, _, R, h, fun px vx H1 g1 rx h1 => ?_⟩
  have R1 := R.grow g1
  have rx3 := rx.o
  cases px with
  | lst ps =>
    have h3' : P (.lst ps.reverse) := h1
    obtain ⟨a, vs, rfl, e, r⟩ := RpO.lst rx3
    exact ⟨a, vs, rfl, .inl ⟨.inl (.inl e.2), fun p n => kk _ _ _ (g1.trans (Grow.new R1.src n)) (VK1.ofRp (OwnAt.cl (R1.nz n) (OwnAt.newLst n r.reverse))) h3'⟩⟩
  | tup ps =>
    have h3' : P (.tup ps.reverse) := h1
    obtain ⟨a, vs, rfl, e, r⟩ := RpO.tup rx3
    exact ⟨a, vs, rfl, .inr ⟨e.sq, fun p n => kk _ _ _ (g1.trans (Grow.new R1.src n)) (VK1.ofRp (Rp.newTup (R1.nz n) n R1.src R.sz r.reverse)) h3'⟩⟩
  | _ => exact h1.elim⟩
end

/-! ### dicts -/
def pkey : PV → Option Key
  | .int i => some (.inl i)
  | .str x => some (.inr x)
  | _ => none
theorem pkey_v {K : PySem.W.Frag} {Z : Addr → Prop} {W : Ws} {H : Hp} {p : PV} {v : V} {k : Key} (h : pkey p = some k) (r : RpO K ⟨Z, W, H⟩ p v) : v = kV k := by
  cases p with
  | int i => cases h; exact r.int
  | str x => cases h; exact r.str
  | _ => cases h
/-- the place of a key -/
def kAt (ks : List Key) (k : Key) : Option Nat := ks.findIdx? (fun j => decide (j = k))
def kPut (ks : List Key) (vs : List PV) (k : Key) (v : PV) : PV := match kAt ks k with
  | some i => .dic ks (vs.set i v)
  | none => .dic (ks ++ [k]) (vs ++ [v])
theorem valV_zip {k : Key} : ∀ {ks : List Key} {vs : List V}, ks.length = vs.length → valV (ks.zip vs) k = (kAt ks k).bind (vs[·]?)
  | [], [], _ => rfl
  | j :: ks, v :: vs, h => by
    have ih := valV_zip (k := k) (ks := ks) (vs := vs) (by simpa using h)
    unfold kAt at ih ⊢
    rw [List.zip_cons_cons, List.findIdx?_cons]
    by_cases e : j = k
    · rw [valV_pos (p := (j, v)) e, if_pos (decide_eq_true e)]; rfl
    · rw [valV_neg (p := (j, v)) e, ih, if_neg (by simpa using e)]
      cases ks.findIdx? (fun j => decide (j = k)) with
      | none => rfl
      | some i => rfl
theorem kAt_none {ks : List Key} {k : Key} (h : kAt ks k = none) : ∀ j ∈ ks, j ≠ k := fun j hj => by
  unfold kAt at h
  rw [List.findIdx?_eq_none_iff] at h
  exact of_decide_eq_false (h j hj)
theorem map_same {k : Key} {v : V} : ∀ {ks : List Key} {vs : List V}, (∀ j ∈ ks, j ≠ k) → (ks.zip vs).map (fun kv => if kv.1 = k then (kv.1, v) else kv) = ks.zip vs
  | [], _, _ => rfl
  | _ :: _, [], _ => rfl
  | j :: ks, w :: vs, h => by
    rw [List.zip_cons_cons, List.map_cons, map_same (fun i hi => h i (List.mem_cons_of_mem _ hi)), if_neg (h j (List.mem_cons_self ..))]
theorem map_put {k : Key} {v : V} : ∀ {ks : List Key} {vs : List V} {i : Nat}, ks.Nodup → kAt ks k = some i → (ks.zip vs).map (fun kv => if kv.1 = k then (kv.1, v) else kv) = ks.zip (vs.set i v)
  | [], _, _, _, h => by cases h
  | _ :: _, [], i, _, _ => by simp
  | j :: ks, w :: vs, i, hn, h => by
    rw [List.nodup_cons] at hn
    unfold kAt at h
    rw [List.findIdx?_cons] at h
    by_cases e : j = k
    · rw [if_pos (decide_eq_true e)] at h
      cases h
      subst e
      rw [List.zip_cons_cons, List.map_cons, map_same (fun i hi z => hn.1 (by rw [← z]; exact hi)), if_pos rfl, List.set_cons_zero, List.zip_cons_cons]
    · rw [if_neg (by simpa using e)] at h
      cases q : ks.findIdx? (fun j => decide (j = k)) with
      | none => rw [q] at h; cases h
      | some m =>
        rw [q] at h
        cases h
        rw [List.zip_cons_cons, List.map_cons, map_put hn.2 q, if_neg e, List.set_cons_succ, List.zip_cons_cons]
theorem putK_zip {k : Key} {v : V} {ks : List Key} {vs : List V} (hn : ks.Nodup) (hl : ks.length = vs.length) : putK (ks.zip vs) k v = match kAt ks k with
    | some i => ks.zip (vs.set i v)
    | none => (ks ++ [k]).zip (vs ++ [v]) := by
  cases q : kAt ks k with
  | none =>
    have : valV (ks.zip vs) k = none := by rw [valV_zip hl, q]; rfl
    rw [putK_new v this]
    show _ = (ks ++ [k]).zip (vs ++ [v])
    rw [List.zip_append hl]
    rfl
  | some i =>
    have hi : i < vs.length := by
      unfold kAt at q
      obtain ⟨h, _⟩ := List.findIdx?_eq_some_iff_getElem.mp q
      rw [← hl]; exact h
    have : (valV (ks.zip vs) k).isSome = true := by rw [valV_zip hl, q]; simp [hi]
    unfold putK
    rw [valV_any, if_pos this]
    exact map_put hn q
section
variable {X : Cx} {c : List Ow} {e d : Expr} {te td : TEm} {pos p2 : Pos} {md : Md} {f : Fx}
theorem em_dnew : PEm X c .fr (.Dict [] [] pos) (mC (.dic [] [])) := ⟨pe_dnewK.weak fun σ H Q h p n => by
  obtain ⟨G, A, W, env, P, R, h, k⟩ := h
  exact k (.dic [] []) (.ref p) _ (Grow.new R.src n) ⟨p, rfl, n, ⟨[], upd_same, rfl, Rps.nil⟩⟩ h⟩
/-- d[y] -/
def oDGet : PO2 := fun d y P => ∃ ks vs k i v, d = .dic ks vs ∧ pkey y = some k ∧ kAt ks k = some i ∧ vs[i]? = some v ∧ P v
theorem em_dget (hu : X.A.units + 1 < cLine) (hd : PEm X c .ow d td) (he : PEm X c .ow e te) (hs : NoSl e) : PEm X c .cl (.Subscript d e pos) (mOp oDGet td te) := ⟨(pe_dget hu hd.run he.run hs).weak fun σ H Q h => by
  obtain ⟨G, A, W, env, P, R, h, k⟩ := h
  refine ⟨G, A, W, env, _, R, h, fun px vx H1 g1 rx h1 => ⟨G, A, W, env, _, R.grow g1, h1, fun py vy H2 g2 ry h2 => ?_⟩⟩
  obtain ⟨ks, vs, key, i, v, rfl, hk, hi, hv, hp⟩ := h2
  have rx2 := RpO.grow R.sz g2 rx.o
  obtain ⟨a, ws, rfl, hw, hH, hl, r⟩ := rx2
  obtain ⟨w, h3, rw3⟩ := r.get hv
  refine ⟨a, w, rfl, ?_, k v w H2 (g1.trans g2) (VK1.ofRp rw3) hp⟩
  rw [pkey_v hk ry.o]
  have : valV (ks.zip ws) key = some w := by rw [valV_zip hl, hi]; exact h3
  rw [← this]
  exact DGet.k hH⟩
/-- d[k] = e for a dict of one's own -/
def sDPutm (i : Nat) (ti te : TEm) : TSm := fun M env => te env fun p => ∃ ks ps, env[i]? = some (some (.dic ks ps)) ∧ ti env fun q => ∃ k, pkey q = some k ∧ ks.Nodup ∧ ks.length < sizeLine ∧ M.nx (env.set i (some (kPut ks ps k p)))
theorem sm_dput (i : Nat) {x : Str} {p1 p3 : Pos} {ei : Expr} {ti : TEm} (hu : X.A.units + 1 < cLine) (he : PEm X c .cl e te) (hk : PEm X c .ow ei ti) (hN : X.N[i]? = some x := by rfl) (hc : cO c i = .ow := by rfl) (hv : Vis X.env.scope x := by first | exact Or.inl rfl | exact Or.inr (Or.inl rfl) | exact Or.inr (Or.inr rfl)) (hd : (x == ("__debug__" : Str)) = false := by decide)
    (hcd : (x == ("__classdict__" : Str)) = false := by decide) (hs : swapsWith e (some (.Subscript (.Name x p1) ei p3)) pos.line X.env = pure false := by rfl) :
    PSm X f c c (.Assign [.Subscript (.Name x p1) ei p3] e pos) (sDPutm i ti te) := ⟨(ps_dput hu (pe_var hN hv hd hcd) hk.run he.run hs).weak fun D σ H h => by
  obtain ⟨G, A, W, env, M, hg, R, h, k⟩ := h
  refine ⟨G, A, W, env, _, R, h, fun p v H1 g rv ⟨ks, ps, e0, h1⟩ => ?_⟩
  have R1 := R.grow g
  obtain ⟨a, hA⟩ := R1.Aset i _ (by rw [hc]; decide) e0
  obtain ⟨v0, hσ, hh⟩ := R1.slots i _ e0
  rw [hA] at hh
  obtain ⟨rfl, _⟩ := hh
  refine ⟨.ref a, hσ, G, A, W, env, _, R1, h1, fun q w H2 g2 rq ⟨key, hkq, hnd, hsz, h2⟩ => ?_⟩
  have R2 := R1.grow g2
  obtain ⟨v2, _, hh2⟩ := R2.slots i _ e0
  rw [hA] at hh2
  obtain ⟨_, ws, hH2, hl, r2⟩ := hh2
  have rv2 : Rp X.K ⟨Zt G A W, W, H2⟩ p v := Rp.ext (g2.ext R.sz) rv.c
  have hzl : (ks.zip ws).length < sizeLine := by rw [List.length_zip, ← hl, Nat.min_self]; exact hsz
  refine ⟨a, upd H2 a (.dK (putK (ks.zip ws) key v)), rfl, ?_, ?_⟩
  · rw [pkey_v hkq rq.o]
    exact DPut.k hH2 hzl
  · refine k.nx A W _ σ _ (R2.mut e0 hA hc ?_) h2
    have za : Zt G A W a := .inr (.inr ⟨i, hA⟩)
    have x : ∀ o, Ext ⟨Zt G A W, W, H2⟩ ⟨Zt G A W, W, upd H2 a o⟩ := fun o => ⟨fun b w hz e => ⟨hz, by show upd H2 a o b = some w; rw [upd_ne (fun z => hz (by rw [z]; exact za))]; exact e⟩, fun _ h => h⟩
    rw [putK_zip hnd hl]
    unfold kPut
    cases hq : kAt ks key with
    | none => exact ⟨ws ++ [v], upd_same, by rw [List.length_append, List.length_append, hl]; rfl, Rps.ext (x _) (r2.append (Rps.cons rv2 Rps.nil))⟩
    | some j => exact ⟨ws.set j v, upd_same, by rw [List.length_set, hl], Rps.ext (x _) (Rps.set rv2 j r2)⟩⟩
/-- y in d -/
def oDIn (neg : Bool) : PO2 := fun y d P => ∃ ks vs k, d = .dic ks vs ∧ pkey y = some k ∧ P (.bl (xor neg (kAt ks k).isSome))
def rDIn (neg : Bool) : R2 := fun y x H Q => ∃ a o, x = .ref a ∧ DGet H a y o ∧ Q (.bl (xor neg o.isSome)) H
theorem op_din (hu : X.A.units + 1 < cLine) : OpR X (compareOp .In) (rDIn false) := fun pins s σ H x y v u Q I rx ry ⟨a, o, e, g, q⟩ => by
  subst e
  obtain rfl : u = Value.ref a := ry
  refine d_in hu I g rx fun s3 I3 => ⟨_, H, I3, ?_, q⟩
  rw [Bool.false_xor]; rfl
theorem op_dnin (hu : X.A.units + 1 < cLine) : OpR X (compareOp .NotIn) (rDIn true) := fun pins s σ H x y v u Q I rx ry ⟨a, o, e, g, q⟩ => by
  subst e
  obtain rfl : u = Value.ref a := ry
  refine d_notIn hu I g rx fun s3 I3 => ⟨_, H, I3, ?_, q⟩
  rw [Bool.true_xor]; rfl
theorem lift_din {K : PySem.W.Frag} {neg : Bool} : Lift2 K (rDIn neg) (oDIn neg) .cl := by
  rintro Z W H px py vx vy P Q S rx ry ⟨ks, vs, k, rfl, hk, hp⟩ kk
  obtain ⟨a, ws, rfl, hw, hH, hl, r⟩ := ry
  refine ⟨a, valV (ks.zip ws) k, rfl, by rw [pkey_v hk rx]; exact DGet.k hH, ?_⟩
  have : (valV (ks.zip ws) k).isSome = (kAt ks k).isSome := by
    rw [valV_zip hl]
    cases q : kAt ks k with
    | none => rfl
    | some i =>
      have hi : i < ws.length := by
        unfold kAt at q
        obtain ⟨h, _⟩ := List.findIdx?_eq_some_iff_getElem.mp q
        rw [← hl]; exact h
      simp [hi]
  rw [this]
  exact kk _ _ H (Grow.refl S.src) (VK1.ofRp Rp.bl') hp
end

/-! ### a chain of two comparisons -/
def mChain (o o' : PO2) (ta tb tc : TEm) : TEm := fun env P => ta env fun x => tb env fun y => o x y fun z => ∃ k, z = .bl k ∧ if k = true then tc env fun w => o' y w P else P (.bl false)
section
variable {X : Cx} {c : List Ow} {a b d : Expr} {ta tb td : TEm} {pos : Pos} {op op' : CmpOp} {r r' : R2} {o o' : PO2}
theorem tmChain {K : PySem.W.Frag} (L : Lift2 K r o .cl) (L' : Lift2 K r' o' .cl) (σ : St) (H : Hp) (Q : VK) (h : tmE K c .cl (mChain o o' ta tb td) σ H Q) : tChain r r' (tmE K c .ow ta) (tmE K c .ow tb) (tmE K c .ow td) σ H Q := by
  obtain ⟨G, A, W, env, P, R, h, k⟩ := h
  refine ⟨G, A, W, env, _, R, h, fun px vx H1 g1 rx h1 => ⟨G, A, W, env, _, R.grow g1, h1, fun py vy H2 g2 ry h2 => ?_⟩⟩
  have R2 := (R.grow g1).grow g2
  refine L _ W H2 px py vx vy _ _ R2.sit (RpO.grow R.sz g2 rx.o) ry.o h2 fun pz vz H3 g3 rz ⟨j, e, h3⟩ => ⟨j, by subst e; exact VK1.bl rz, ?_⟩
  have R3 := R2.grow g3
  cases j with
  | false => rw [if_neg Bool.false_ne_true] at h3 ⊢; exact k _ _ H3 ((g1.trans g2).trans g3) (VK1.ofRp Rp.bl') h3
  | true =>
    rw [if_pos rfl] at h3 ⊢
    refine ⟨G, A, W, env, _, R3, h3, fun pw vw H4 g4 rw4 h4 => ?_⟩
    exact L' _ W H4 py pw vy vw P Q (R3.grow g4).sit (RpO.grow R.sz (g3.trans g4) ry.o) rw4.o h4 fun p v H5 g5 r5 hp => k p v H5 ((((g1.trans g2).trans g3).trans g4).trans g5) (r5.back (((g1.trans g2).trans g3).trans g4)) hp
theorem em_chain (ho : OpR X (compareOp op) r) (L : Lift2 X.K r o .cl) (ho' : OpR X (compareOp op') r') (L' : Lift2 X.K r' o' .cl) (ha : PEm X c .ow a ta) (hb : PEm X c .ow b tb) (hd : PEm X c .ow d td) (hm : lastMarks [op, op'] [b, d] = false := by with_unfolding_all rfl) :
    PEm X c .cl (.Compare a [op, op'] [b, d] pos) (mChain o o' ta tb td) := ⟨(pe_chain ho ho' ha.run hb.run hd.run hm).weak fun σ H Q h => tmChain L L' σ H Q h⟩
theorem tm_chain (ho : OpR X (compareOp op) r) (L : Lift2 X.K r o .cl) (ho' : OpR X (compareOp op') r') (L' : Lift2 X.K r' o' .cl) (ha : PEm X c .ow a ta) (hb : PEm X c .ow b tb) (hd : PEm X c .ow d td) (hm : lastMarks [op, op'] [b, d] = false := by with_unfolding_all rfl) :
    PTm X c (.Compare a [op, op'] [b, d] pos) (mTB (mChain o o' ta tb td)) := ⟨(pt_chain ho ho' ha.run hb.run hd.run hm).weak fun σ H Q h => by
  obtain ⟨G, A, W, env, P, R, h, k⟩ := h
  refine tmChain L L' σ H _ ⟨G, A, W, env, _, R, h, fun p v H1 g1 r ⟨j, e, h1⟩ => ⟨j, ?_, k j H1 g1 h1⟩⟩
  subst e
  exact VK1.bl r⟩
end
end PM

set_option maxHeartbeats 1000000
/-! PM: great products, the script's parts, x.append(y.pop(e)), sources, the law's def. -/
namespace PM
open PySem L2
section
variable {K : PySem.W.Frag}
def oMulW : PO2 := fun x y P => ∃ i j, x = .int i ∧ y = .int j ∧ CMulW i j ∧ P (.int (i * j))
theorem lift_mulW : Lift2 K (rI CMulW fun i j => .int (i * j)) oMulW .cl := by
  rintro Z W H px py vx vy P Q S rx ry ⟨i, j, rfl, rfl, hc, hp⟩ k
  exact ⟨i, j, rx.int, ry.int, hc, S.fin k Rp.int' hp⟩
end
section
variable {K : PySem.W.Frag}
def oAddI : PO2 := fun x y P => ∃ i j, x = .int i ∧ y = .int j ∧ P (.int (i + j))
theorem lift_addI : Lift2 K (rI0 fun i j => .int (i + j)) oAddI .cl := by
  rintro Z W H px py vx vy P Q S rx ry ⟨i, j, rfl, rfl, hp⟩ k
  exact ⟨i, j, rx.int, ry.int, S.fin k Rp.int' hp⟩
end
def oSlS : PV → Option Int → Option Int → (PV → Prop) → Prop := fun x l u P => ∃ ns : List Int, x = .scr ns ∧ P (.lst (cutP (ns.map .int) l u))
section
variable {X : Cx} {c : List Ow} {e : Expr} {lo hi : Option Expr} {te : TEm} {tl th : Env → (Option Int → Prop) → Prop} {pos p2 : Pos}
theorem em_slS (he : PEm X c .ow e te) (hl : POm X c lo tl) (hu : POm X c hi th) : PEm X c .fr (.Subscript e (.Slice lo hi none p2) pos) (mSl oSlS te tl th) := ⟨(pe_slice sl_list he.run hl.run hu.run).weak fun σ H Q h => by
  obtain ⟨G, A, W, env, P, R, h, k⟩ := h
  refine ⟨G, A, W, env, _, R, h, fun px vx H1 g1 rx h1 => ⟨G, A, W, env, _, R.grow g1, h1, fun l H2 g2 h2 => ⟨G, A, W, env, _, (R.grow g1).grow g2, h2, fun u H3 g3 h3 => ?_⟩⟩⟩
  have R3 := ((R.grow g1).grow g2).grow g3
  obtain ⟨ns, rfl, hp⟩ := h3
  have rx3 := RpO.grow R.sz (g2.trans g3) rx.o
  unfold RpO Rp at rx3
  obtain ⟨a, rfl, e⟩ := rx3
  have e' : SqL X.K H3 a (ns.map V.int) := e.elim (fun z => let ⟨o, w⟩ := z.2; .inl (.inr ⟨o, w⟩)) .inr
  have r : Rps X.K ⟨Zt G A W, W, H3⟩ (ns.map PV.int) (ns.map V.int) := Rps.ints.mpr rfl
  exact ⟨a, _, rfl, e', fun p n => k _ _ _ (((g1.trans g2).trans g3).trans (Grow.new R3.src n)) ⟨p, rfl, ((g1.trans g2).trans g3).free n, OwnAt.newLst n (r.cut l u)⟩ hp⟩⟩
end
/-! ### x.append(y.pop(e)) -/
def sAppPop (i j : Nat) (te : TEm) : TSm := fun M env => ∃ ps qs, env[i]? = some (some (.lst ps)) ∧ env[j]? = some (some (.lst qs)) ∧ te env fun q => ∃ (m : Int) (n : Nat) (p : PV), q = .int m ∧ (-(2 ^ 63) ≤ m ∧ m < 2 ^ 63) ∧ ixN qs.length m = some n ∧ qs[n]? = some p ∧ ps.length < sizeLine ∧
  M.nx ((env.set j (some (.lst (qs.eraseIdx n)))).set i (some (.lst (ps ++ [p]))))
section
variable {X : Cx} {f : Fx} {c : List Ow} {e : Expr} {te : TEm} {pos : Pos}
theorem sm_appPop (i j : Nat) {x y : Str} {p1 p2 cpos p3 p4 cpos2 : Pos} (hij : i ≠ j := by decide) (he : PEm X c .ow e te) (hN : X.N[i]? = some x := by rfl) (hM : X.N[j]? = some y := by rfl) (hc : cO c i = .ow := by rfl) (hc2 : cO c j = .ow := by rfl)
    (hv : Vis X.env.scope x := by first | exact Or.inl rfl | exact Or.inr (Or.inl rfl) | exact Or.inr (Or.inr rfl)) (hd : (x == ("__debug__" : Str)) = false := by decide) (hcd : (x == ("__classdict__" : Str)) = false := by decide)
    (hv2 : Vis X.env.scope y := by first | exact Or.inl rfl | exact Or.inr (Or.inl rfl) | exact Or.inr (Or.inr rfl)) (hd2 : (y == ("__debug__" : Str)) = false := by decide) (hcd2 : (y == ("__classdict__" : Str)) = false := by decide)
    (hbase : attributeBase (.Name x p1) "append" X.env (eval (.Name x p1) X.env) = eval (.Name x p1) X.env := by rfl)
    (hbase2 : attributeBase (.Name y p3) "pop" X.env (eval (.Name y p3) X.env) = eval (.Name y p3) X.env := by rfl)
    (hfew : ((backTo cpos (starEach [.Call (.Attribute (.Name y p3) "pop" p4) [e] [] cpos2] X.env)).all (fun x => !x.1) && (backToKw cpos (keywordEach [] X.env)).all (fun x => x.1.isSome)
      && decide (([.Call (.Attribute (.Name y p3) "pop" p4) [e] [] cpos2] : List Expr).length + ([] : List Keyword).length + (if ([] : List Keyword).isEmpty then 0 else 1) < 30)) = true := by rfl)
    (hfew2 : ((backTo cpos2 (starEach [e] X.env)).all (fun x => !x.1) && (backToKw cpos2 (keywordEach [] X.env)).all (fun x => x.1.isSome)
      && decide (([e] : List Expr).length + ([] : List Keyword).length + (if ([] : List Keyword).isEmpty then 0 else 1) < 30)) = true := by rfl)
    (hline : (p2.endLine == cpos.line) = true := by rfl) (hline2 : (p4.endLine == cpos2.line) = true := by rfl)
    (hs : starEach [.Call (.Attribute (.Name y p3) "pop" p4) [e] [] cpos2] X.env = (false, eval (.Call (.Attribute (.Name y p3) "pop" p4) [e] [] cpos2) X.env) :: starEach [] X.env := by rfl) (hplain : (backTo cpos (starEach [] X.env)).any (·.1) = false := by rfl)
    (hs2 : starEach [e] X.env = (false, eval e X.env) :: starEach [] X.env := by rfl) (hplain2 : (backTo cpos2 (starEach [] X.env)).any (·.1) = false := by rfl)
    (hsw : swapsWith (.Call (.Attribute (.Name x p1) "append" p2) [.Call (.Attribute (.Name y p3) "pop" p4) [e] [] cpos2] [] cpos) none pos.line X.env = pure false := by rfl) :
    PSm X f c c (.Expr (.Call (.Attribute (.Name x p1) "append" p2) [.Call (.Attribute (.Name y p3) "pop" p4) [e] [] cpos2] [] cpos) pos) (sAppPop i j te) :=
  ⟨(ps_expr (pe_bm PySem.F.plainAttrs_list PySem.F.slot_list_append PySem.F.type_list_append mt_append (pe_var hN hv hd hcd)
      (pa_cons (pe_bm PySem.F.plainAttrs_list PySem.F.slot_list_pop PySem.F.type_list_pop mt_popAt (pe_var hM hv2 hd2 hcd2) (pa_cons he.run pa_nil hs2) hbase2 hfew2 hline2 hs2 hplain2) pa_nil hs) hbase hfew hline hs hplain) hsw).weak fun D σ H h => by
  obtain ⟨G, A, W, env, M, hg, R, ⟨ps, qs, e0, e1, h⟩, k⟩ := h
  obtain ⟨a, hA, hσ, vs, hH, r⟩ := R.mine hc e0
  obtain ⟨b, hB, hτ, ws, hHb, rb⟩ := R.mine hc2 e1
  refine ⟨.ref a, hσ, .inl ⟨rfl, vs, .inl (.inl hH)⟩, .ref b, hτ, .inl ⟨rfl, ws, .inl (.inl hHb)⟩, G, A, W, env, _, R, h, fun q w H1 g rq ⟨m, n, p, eq, ⟨hm1, hm2⟩, hix, hp, hl, h1⟩ => ?_⟩
  subst eq
  have R1 := R.grow g
  obtain ⟨b', hB', _, ws1, hH1, r1⟩ := R1.mine hc2 e1
  rw [hB] at hB'; cases hB'
  obtain ⟨v, ev, rv⟩ := r1.get hp
  rw [r1.len] at hix
  refine ⟨b, ws1, m, n, v, rfl, by rw [rq.o.int], hH1, hm1, hm2, (ixN_seq hix).1, ev, ?_⟩
  have zb : Zt G A W b := .inr (.inr ⟨j, hB⟩)
  have R2 := R1.mut e1 hB hc2 (OwnAt.mutL zb (r1.eraseIdx n))
  have xx : Ext ⟨Zt G A W, W, H1⟩ ⟨Zt G A W, W, upd H1 b (.lst (ws1.eraseIdx n))⟩ := ⟨fun u o hz e => ⟨hz, by show upd H1 b _ u = some o; rw [upd_ne (fun z => hz (by rw [z]; exact zb))]; exact e⟩, fun _ h => h⟩
  have e0' : (env.set j (some (.lst (qs.eraseIdx n))))[i]? = some (some (.lst ps)) := by rw [List.getElem?_set_ne (Ne.symm hij)]; exact e0
  obtain ⟨a', hA', _, us, hH2, r2⟩ := R2.mine hc e0'
  rw [hA] at hA'; cases hA'
  refine ⟨a, us, v, rfl, rfl, hH2, by rw [← r2.len]; exact hl, ?_⟩
  exact k.nx A W _ σ _ (R2.mut e0' hA hc (OwnAt.mutL (.inr (.inr ⟨i, hA⟩)) (r2.append (Rps.cons (Rp.ext xx rv) Rps.nil)))) h1⟩
end

/-! ### sources of draws -/
/-- what the maker of a source promises -/
def spSrc (K : PySem.W.Frag) (ok : List PV → Prop) : Sp := fun vs H Q _ => ∃ (Z : Addr → Prop) (W : Ws) (ps : List PV), (∀ b, Z b → ∃ o, H b = some o) ∧ (∀ q ∈ W, SA H q) ∧ (∀ b, inW W b → Z b) ∧ Rps K ⟨Z, W, H⟩ ps vs ∧ ok ps ∧ ∀ H' q, GrowA H H' → H q.1 = none → H q.2 = none → SA H' q → Q (.ref q.1) H'
section
variable {K : PySem.W.Frag} {G : Gh} {c : List Ow} {A : Nat → Option Addr} {W : Ws} {env : Env} {σ : St} {H H' : Hp}
theorem SR.addW {q : Addr × Addr} (R : SR K G c A W env σ H) (hg : G.gw = true) (g : GrowA H H') (n1 : H q.1 = none) (n2 : H q.2 = none) (s : SA H' q) : SR K G c A (q :: W) env σ H' := by
  have R1 := R.grow (g.grow R.src)
  have nt : ∀ b o, H b = some o → ¬ (b = q.1 ∨ b = q.2) := fun b o e z => by
    rcases z with z | z
    · rw [z, n1] at e; cases e
    · rw [z, n2] at e; cases e
  have iw : ∀ b, inW (q :: W) b → inW W b ∨ (b = q.1 ∨ b = q.2) := fun b ⟨p, hp, e⟩ => by
    rcases List.mem_cons.mp hp with z | z
    · rw [z] at e; exact .inr e
    · exact .inl ⟨p, z, e⟩
  have zt : ∀ b, Zt G A (q :: W) b → Zt G A W b ∨ (b = q.1 ∨ b = q.2) := fun b z => by
    rcases z with z | z | z
    · exact .inl (.inl z)
    · exact (iw b z).imp (fun z => .inr (.inl z)) id
    · exact .inl (.inr (.inr z))
  have x : Ext ⟨Zt G A W, W, H⟩ ⟨Zt G A (q :: W), q :: W, H'⟩ := ⟨fun b o hz e => ⟨fun z => (zt b z).elim hz (nt b o e), g b o e⟩, fun p hp => List.mem_cons_of_mem _ hp⟩
  refine ⟨R.len, fun p hp => List.mem_cons_of_mem _ (R.W0in p hp), fun p hp => List.mem_cons_of_mem _ (R.Wmin p hp), fun p hp => ?_, (fun z => by rw [hg] at z; cases z), fun p hp => ?_, R1.keep, R1.zbt, fun i a e => ?_, R.Ainj, R.Aset, fun i p e => ?_, fun u hu => ?_, fun b o e => ?_⟩
  · rcases List.mem_cons.mp hp with z | z
    · rw [z]; exact .inr ⟨R.h0 n1, R.h0 n2⟩
    · exact R.Wnew p z
  · rcases List.mem_cons.mp hp with z | z
    · rw [z]; exact s
    · exact R1.src p z
  · obtain ⟨h1, h2, h3, h4, h5⟩ := R1.Asep i a e
    obtain ⟨o, e5⟩ := (R.Asep i a e).2.2.2.2
    exact ⟨h1, fun z => (iw a z).elim h2 (nt a o e5), h3, h4, h5⟩
  · obtain ⟨v, h1, h2⟩ := R.slots i p e
    refine ⟨v, h1, ?_⟩
    cases hA : A i with
    | none => rw [hA] at h2; exact Rp.ext x h2
    | some a =>
      rw [hA] at h2
      obtain ⟨_, _, _, _, o, e5⟩ := R.Asep i a hA
      exact ⟨h2.1, h2.2.ext x (by show H' a = H a; rw [e5, g a o e5])⟩
  · obtain ⟨h1, h2, h3, h4⟩ := R1.pins u hu
    obtain ⟨h1', _, _, _⟩ := R.pins u hu
    exact ⟨h1, fun z => (iw _ z).elim h2 (nt _ _ h1'), h3, h4⟩
  · obtain ⟨h1, h2⟩ := R.fz b o e
    exact ⟨g b o h1, fun z => (zt b z).elim h2 (nt b o h1)⟩
end
def sSrc (i : Nat) (ok : List PV → Prop) (t : TAm) : TSm := fun M env => t env fun ps => ok ps ∧ M.nx (env.set i (some .src))
section
variable {X : Cx} {f : Fx} {c : List Ow} {k : Nat} {fa : Addr} {fd : FuncData} {pns : List Str} {ok : List PV → Prop} {x y : Str} {p pos pos' cpos : Pos} {e : Expr} {es : List Expr} {t : TAm}
/-- x = maker(..) -/
theorem sm_src (i : Nat) (F : FnOk X.prog X.w X.K X.mg X.base CX0 k fa fd pns (spSrc X.K ok)) (hr : Room k X.A) (hm : X.mg x = some (.ref fa)) (hk : PySem.W.keepIn X.K (.ref fa) = true) (hb : Binds X.K fd pns []) (hgw : f.gw = true) (hN : X.N.Nodup)
    (ha : PAm X c .cl (e :: es) t) (hi : X.N[i]? = some y := by rfl) (hx : Loc X.env.scope y := by first | exact Or.inl rfl | exact Or.inr rfl) (hl : cO c i ≠ .lk := by decide) (hg : Gl X x := by rfl) (hdb : (x == ("__debug__" : Str)) = false := by decide) (he : starEach (e :: es) X.env = (false, eval e X.env) :: starEach es X.env := by rfl) (hpl : (backTo cpos (starEach es X.env)).any (·.1) = false := by rfl)
    (hs : swapsWith (.Call (.Name x p) (e :: es) [] cpos) (some (.Name y pos')) pos.line X.env = pure false := by rfl) (hf : X.fn y = true ∨ X.env.scope.names.lookup y = some .local := by first | exact .inl rfl | exact .inr rfl | assumption) :
    PSm X f c (c.set i .sh) (.Assign [.Name y pos'] (.Call (.Name x p) (e :: es) [] cpos) pos) (sSrc i ok t) := ⟨(ps_set hN hi hx (pe_call F hr hg hm hk hb .nil pass0 ha.run hdb he hpl) hs hf).weak fun D σ H h => by
  obtain ⟨G, A, W, env, M, hg, R, h, kk⟩ := h
  refine ⟨G, A, W, env, _, R, h, fun ps vs H1 g1 rs ⟨hok, h1⟩ => ?_⟩
  have R1 := R.grow g1
  refine ⟨Zt G A W, W, ps, R1.dz, R1.src, R1.sz, by rw [List.append_nil]; exact rs.rps, hok, fun H2 q g n1 n2 s => ?_⟩
  have R2 := R1.addW (hg.trans hgw) g n1 n2 s
  refine kk.nx _ _ _ _ _ (R2.set_sh hl ?_) h1
  unfold Rp
  exact ⟨q, List.mem_cons_self .., rfl⟩⟩
end

theorem rp_flV {K : PySem.W.Frag} {S : Wd} {p : PV} (f : flatP p = true) : Rp K S p (flV p) := by
  cases p with
  | non => unfold Rp; rfl
  | bl _ => unfold Rp; rfl
  | int _ => unfold Rp; rfl
  | str _ => unfold Rp; rfl
  | _ => exact absurd f (by simp [flatP])
theorem cst_ok {K : PySem.W.Frag} : ∀ (ds : List PV), ds.all flatP = true → Cst K ds (ds.map flV)
  | [], _ => fun _ => Rps.nil
  | d :: ds, h => fun S => by
    rw [List.all_cons, Bool.and_eq_true] at h
    exact Rps.cons (rp_flV h.1) (cst_ok ds h.2 S)
theorem binds0 {K : PySem.W.Frag} {x qual : Str} {params : Arguments} {body : List Stmt} {scope : Scope} {f : Addr} {fd : FuncData} {ps : List Str} (F : FunD K x qual params body scope [] [] f fd)
    (h : ∀ (kV doc pm : Value) (an : Option Addr) (cdv ct : Value) (us : List Value), us.length = ps.length → bindArgs (PySem.W.fnOf x qual params body scope .none kV doc pm an cdv ct) ⟨us, []⟩ = pure (ps.zip us)) : Binds K fd ps [] := fun s us _ hl => by
  rw [List.append_nil] at hl ⊢
  exact F.bindsA h s us hl
theorem fn_none {P : Program} {w : World} {K : PySem.W.Frag} {mg : Str → Option Value} {base : Heap} {k : Nat} {f : Addr} {fd : FuncData} {ps : List Str} {rm : Md} {spec : Spec} (h : ∀ ps Q, spec ps Q → False) : FnOk P w K mg base CX0 k f fd ps (spM K rm spec) :=
  ⟨fun vs H Q E z => by obtain ⟨_, _, _, _, _, _, _, z, _⟩ := z; exact (h _ _ z).elim, fun A outer s H args us vs Q E _ _ _ _ z => by obtain ⟨_, _, _, _, _, _, _, z, _⟩ := z; exact (h _ _ z).elim⟩
/-! ### the law's def -/
def spLawM (K : PySem.W.Frag) : Sp := fun vs H Q _ => ∃ (a : Addr) (ns : List Int), vs = [.ref a] ∧ Only H ∧ SqL K H a (ns.map V.int) ∧ ns.length ≤ 63 ∧ ∀ H', Q (.bl true) H'
theorem law_m {P : Program} {w : World} {K : PySem.W.Frag} {mg : Str → Option Value} {base : Heap} {x qual : Str} {st : Stmt} {f : Addr} {fd : FuncData} {N pns : List Str} {k : Nat} {t : TSm} {dvs : List V} (F : FunD K x qual (defArgs st) (defBody st) (defScope st) dvs [] f fd) (S : FnScope N pns (defScope st)) (h1 : pns.length = 1)
    (hbody : ∀ (cdv : Value) (A : Around) (outer : List PySem.Env) (s : Shared) (H : Hp) (E : XK), Room k (A.deeper (PyProof.Rows.envOfC qual (defScope st) s.heap.objs.size f cdv)) → ∃ c', PSsm (bodyX P w K mg base N qual st f cdv A outer s H E) ⟨.cl, true, []⟩ (shs N.length) c' (defBody st) t)
    (hok : ∀ ns : List Int, ns.length ≤ 63 → t { nx := fun _ => False, rt := fun p => p = .bl true } (startE N.length [.scr ns])) : FnOk P w K mg base CX0 (k + 1) f fd pns (spLawM K) := by
  refine F.ok S (fun vs H Q E h => ?_) (fun cdv A outer s H vs Q E hr h => ?_)
  · obtain ⟨a, ns, rfl, _⟩ := h
    exact h1.symm
  · obtain ⟨a, ns, rfl, hO, hS, hl, q⟩ := h
    have r : Rps K ⟨fun b => (fun _ => False) b ∨ inW [] b, [], H⟩ [.scr ns] [.ref a] := by
      refine Rps.cons ?_ Rps.nil
      unfold Rp
      refine ⟨a, rfl, ?_⟩
      rcases hS with hS | hS
      · refine .inl ⟨fun z => z.elim id fun ⟨p, hp, _⟩ => (by cases hp), ?_⟩
        rcases hS with hS | hS
        · rcases hO a with z | ⟨o, xs, z⟩
          · rw [hS] at z; cases z
          · rw [hS] at z; cases z
        · exact hS
      · exact .inr hS
    have hsr : SR K ⟨true, fun _ => False, [], H, fun _ => none, [], []⟩ (shs N.length) (fun _ => none) [] (startE N.length [.scr ns]) (L2.start N [.ref a]) H := SR.start (fun _ z => z.elim) (fun _ z => by cases z) r
    obtain ⟨c', hb⟩ := hbody cdv A outer s H E hr
    refine ⟨_, hb.run.nox, ⟨true, fun _ => False, [], H, fun _ => none, [], []⟩, fun _ => none, [], startE N.length [.scr ns], _, rfl, hsr, hok ns hl, ⟨fun _ _ _ _ _ _ z => z.elim, fun p v H' hr hp => ?_, fun _ _ _ _ _ _ z => z.elim, fun _ _ _ _ _ _ z => z.elim⟩⟩
    subst hp
    obtain ⟨W', _, _, _, _, h5⟩ := hr
    rw [VK1.bl h5]
    exact q H'
end PM

set_option maxHeartbeats 1000000
/-! PM: the plain side: what the transformers say, in rows for simp; loops and comprehensions by what they do. -/
namespace PM
open PySem L2
section
variable {env : Env} {P : PV → Prop} {i j : Nat} {M : Em} {t u : TSm} {te ta tb tc : TEm} {ts : TAm} {tt : TTm}
@[simp] theorem s_mVar0 {o : PV} : mVar 0 (some o :: env) P ↔ P o := ⟨fun ⟨v, e, h⟩ => by cases e; exact h, fun h => ⟨o, rfl, h⟩⟩
@[simp] theorem s_mVarS {o : Option PV} : mVar (i + 1) (o :: env) P ↔ mVar i env P := by
  unfold mVar; rw [List.getElem?_cons_succ]
def isObj : PV → Bool
  | .obj _ _ _ => true
  | _ => false
@[simp] theorem s_mVarO0 {o : PV} : mVarO 0 (some o :: env) P ↔ isObj o = false ∧ P o := by
  constructor
  · rintro ⟨v, e, n, h⟩
    cases e
    refine ⟨?_, h⟩
    cases o with
    | obj C ns ps => exact absurd rfl (n C ns ps)
    | _ => rfl
  · rintro ⟨n, h⟩
    exact ⟨o, rfl, (fun C ns ps z => by rw [z] at n; cases n), h⟩
@[simp] theorem s_mVarOS {o : Option PV} : mVarO (i + 1) (o :: env) P ↔ mVarO i env P := by
  unfold mVarO; rw [List.getElem?_cons_succ]
@[simp] theorem s_isObj_lst {ps : List PV} : isObj (.lst ps) = false := rfl
@[simp] theorem s_isObj_dic {ks : List Key} {ps : List PV} : isObj (.dic ks ps) = false := rfl
@[simp] theorem s_mC {p : PV} : mC p env P ↔ P p := .rfl
@[simp] theorem s_mOp {o : PO2} : mOp o ta tb env P ↔ ta env fun x => tb env fun y => o x y P := .rfl
@[simp] theorem s_mOp1 {o : PO1} : mOp1 o ta env P ↔ ta env fun x => o x P := .rfl
@[simp] theorem s_mB {o : POn} : mB o ts env P ↔ ts env fun xs => o xs P := .rfl
@[simp] theorem s_mNil {Q : List PV → Prop} : mNil env Q ↔ Q [] := .rfl
@[simp] theorem s_mCons {Q : List PV → Prop} : mCons te ts env Q ↔ te env fun x => ts env fun xs => Q (x :: xs) := .rfl
@[simp] theorem s_mTup : mTup ts env P ↔ ts env fun xs => xs.length ≤ sizeLine ∧ P (.tup xs) := .rfl
@[simp] theorem s_mLst : mLst ts env P ↔ ts env fun xs => xs.length ≤ sizeLine ∧ P (.lst xs) := .rfl
@[simp] theorem s_mCall {sp : Spec} {ds : List PV} : mCall sp ds ts env P ↔ ts env fun ps => sp (ps ++ ds) P := .rfl
@[simp] theorem s_mTB {Q : Bool → Prop} : mTB te env Q ↔ te env fun x => ∃ k, x = .bl k ∧ Q k := .rfl
@[simp] theorem s_mNot {Q : Bool → Prop} : mNot tt env Q ↔ tt env fun b => Q (!b) := .rfl
@[simp] theorem s_mAnd {tu : TTm} {Q : Bool → Prop} : mAnd tt tu env Q ↔ tt env fun b => if b = true then tu env Q else Q false := .rfl
@[simp] theorem s_mOr {tu : TTm} {Q : Bool → Prop} : mOr tt tu env Q ↔ tt env fun b => if b = true then Q true else tu env Q := .rfl
@[simp] theorem s_mAndV : mAndV ta tb env P ↔ ta env fun x => ∃ k, x = .bl k ∧ if k = true then tb env P else P (.bl false) := .rfl
@[simp] theorem s_mOrV : mOrV ta tb env P ↔ ta env fun x => ∃ k, x = .bl k ∧ if k = true then P (.bl true) else tb env P := .rfl
@[simp] theorem s_mIf : mIf tt ta tb env P ↔ tt env fun b => if b = true then ta env P else tb env P := .rfl
@[simp] theorem s_mYes {Q : Bool → Prop} : mYes env Q ↔ Q true := .rfl
@[simp] theorem s_mSl {o : PV → Option Int → Option Int → (PV → Prop) → Prop} {tl th : Env → (Option Int → Prop) → Prop} : mSl o te tl th env P ↔ te env fun x => tl env fun l => th env fun u => o x l u P := .rfl
@[simp] theorem s_mNo {Q : Option Int → Prop} : mNo env Q ↔ Q none := .rfl
@[simp] theorem s_mPart {Q : Option Int → Prop} : mPart te env Q ↔ te env fun x => ∃ i, x = .int i ∧ Q (some i) := .rfl
@[simp] theorem s_mLc {wi : TIm} {vs : List Nat} {g : TGm} : mLc wi vs g tt te env P ↔ wi env fun items => mCompGo g tt te (wipeE env vs) P items [] := .rfl
@[simp] theorem s_mItems {Q : List PV → Prop} : mItems te env Q ↔ te env fun p => ∃ ps, seqP p = some ps ∧ Q ps := .rfl
@[simp] theorem s_mRng1 {Q : List PV → Prop} : mRng1 te env Q ↔ te env fun x => ∃ n, x = .int n ∧ (-(2 ^ 62) ≤ n ∧ n < 2 ^ 62) ∧ Q (rngP 0 n.toNat) := .rfl
@[simp] theorem s_mRng2 {Q : List PV → Prop} : mRng2 ta tb env Q ↔ ta env fun x => tb env fun y => ∃ a b, x = .int a ∧ y = .int b ∧ (-(2 ^ 62) ≤ a ∧ a < 2 ^ 62 ∧ -(2 ^ 62) ≤ b ∧ b < 2 ^ 62) ∧ Q (rngP a (b - a).toNat) := .rfl
@[simp] theorem s_mEnum {Q : List PV → Prop} : mEnum te env Q ↔ te env fun p => ∃ ps, seqP p = some ps ∧ Q (enumP ps) := .rfl
@[simp] theorem s_mChain {o o' : PO2} : mChain o o' ta tb tc env P ↔ ta env fun x => tb env fun y => o x y fun z => ∃ k, z = .bl k ∧ if k = true then tc env fun w => o' y w P else P (.bl false) := .rfl
@[simp] theorem s_seqT {ps : List PV} : seqP (.tup ps) = some ps := rfl
@[simp] theorem s_seqL {ps : List PV} : seqP (.lst ps) = some ps := rfl
-- statements
@[simp] theorem s_sNext : sNext M env ↔ M.nx env := .rfl
@[simp] theorem s_sSeq : sSeq t u M env ↔ t { M with nx := u M } env := .rfl
@[simp] theorem s_sIf : sIf tt t u M env ↔ tt env fun b => if b = true then t M env else u M env := .rfl
@[simp] theorem s_sSet : sSet i te M env ↔ te env fun p => M.nx (env.set i (some p)) := .rfl
@[simp] theorem s_sRet : sRet te M env ↔ te env M.rt := .rfl
@[simp] theorem s_sRetN : sRetN M env ↔ M.rt .non := .rfl
@[simp] theorem s_sBreak : sBreak M env ↔ M.bk env := .rfl
@[simp] theorem s_sCont : sCont M env ↔ M.ct env := .rfl
@[simp] theorem s_sDrop : sDrop te M env ↔ te env fun _ => M.nx env := .rfl
@[simp] theorem s_sPar {is : List Nat} : sPar is ts M env ↔ ts env fun ps => M.nx (setN env is ps) := .rfl
@[simp] theorem s_setN0 {ps : List PV} : setN env [] ps = env := by cases ps <;> rfl
@[simp] theorem s_setNS {is : List Nat} {p : PV} {ps : List PV} : setN env (i :: is) (p :: ps) = setN (env.set i (some p)) is ps := rfl
@[simp] theorem s_sAsg {g : TGm} : sAsg te g M env ↔ te env fun p => g p env M.nx := .rfl
@[simp] theorem s_sApp : sApp i te M env ↔ ∃ ps, env[i]? = some (some (.lst ps)) ∧ te env fun p => ps.length < sizeLine ∧ M.nx (env.set i (some (.lst (ps ++ [p])))) := .rfl
@[simp] theorem s_sAug {o : PO2} : sAug i o te M env ↔ ∃ x, env[i]? = some (some x) ∧ te env fun y => o x y fun z => M.nx (env.set i (some z)) := .rfl
@[simp] theorem s_sFor {wi : TIm} {g : TGm} : sFor wi g t M env ↔ wi env fun items => mForGo g t M items env := .rfl
@[simp] theorem s_sSrc {ok : List PV → Prop} : sSrc i ok ts M env ↔ ts env fun ps => ok ps ∧ M.nx (env.set i (some .src)) := .rfl
-- targets
@[simp] theorem s_gmN {p : PV} {k : Env → Prop} : gmN i p env k ↔ k (env.set i (some p)) := .rfl
@[simp] theorem s_gmT {n : Nat} {r : TGsm} {ps : List PV} {k : Env → Prop} : gmT n r (.tup ps) env k ↔ ps.length = n ∧ r ps env k := ⟨fun ⟨qs, e, h⟩ => by cases e; exact h, fun h => ⟨ps, rfl, h⟩⟩
@[simp] theorem s_gmCons {g : TGm} {r : TGsm} {p : PV} {ps : List PV} {k : Env → Prop} : gmCons g r (p :: ps) env k ↔ g p env fun env' => r ps env' k := ⟨fun ⟨q, qs, e, h⟩ => by cases e; exact h, fun h => ⟨p, ps, rfl, h⟩⟩
@[simp] theorem s_gmNil {k : Env → Prop} : gmNil [] env k ↔ k env := ⟨fun h => h.2, fun h => ⟨rfl, h⟩⟩
@[simp] theorem s_wipe0 : wipeE env [] = env := rfl
@[simp] theorem s_wipeS {vs : List Nat} : wipeE env (i :: vs) = (wipeE env vs).set i none := rfl
-- operations
variable {a b : Int} {x y : PV}
@[simp] theorem s_oSub : oSub (.int a) (.int b) P ↔ P (.int (a - b)) := ⟨fun ⟨_, _, e, f, h⟩ => by cases e; cases f; exact h, fun h => ⟨a, b, rfl, rfl, h⟩⟩
@[simp] theorem s_oAddI : oAddI (.int a) (.int b) P ↔ P (.int (a + b)) := ⟨fun ⟨_, _, e, f, h⟩ => by cases e; cases f; exact h, fun h => ⟨a, b, rfl, rfl, h⟩⟩
@[simp] theorem s_oAdd : oAdd (.int a) (.int b) P ↔ P (.int (a + b)) := .rfl
@[simp] theorem s_oLt : oLt (.int a) (.int b) P ↔ P (.bl (decide (a < b))) := ⟨fun ⟨_, _, e, f, h⟩ => by cases e; cases f; exact h, fun h => ⟨a, b, rfl, rfl, h⟩⟩
@[simp] theorem s_oLe : oLe (.int a) (.int b) P ↔ P (.bl (decide (a ≤ b))) := ⟨fun ⟨_, _, e, f, h⟩ => by cases e; cases f; exact h, fun h => ⟨a, b, rfl, rfl, h⟩⟩
@[simp] theorem s_oGt : oGt (.int a) (.int b) P ↔ P (.bl (decide (b < a))) := ⟨fun ⟨_, _, e, f, h⟩ => by cases e; cases f; exact h, fun h => ⟨a, b, rfl, rfl, h⟩⟩
@[simp] theorem s_oGe : oGe (.int a) (.int b) P ↔ P (.bl (decide (b ≤ a))) := ⟨fun ⟨_, _, e, f, h⟩ => by cases e; cases f; exact h, fun h => ⟨a, b, rfl, rfl, h⟩⟩
@[simp] theorem s_oNeg : oNeg (.int a) P ↔ P (.int (-a)) := ⟨fun ⟨_, e, h⟩ => by cases e; exact h, fun h => ⟨a, rfl, h⟩⟩
@[simp] theorem s_oNot {k : Bool} : oNot (.bl k) P ↔ P (.bl (!k)) := ⟨fun ⟨_, e, h⟩ => by cases e; exact h, fun h => ⟨k, rfl, h⟩⟩
@[simp] theorem s_oMul : oMul (.int a) (.int b) P ↔ CMul a b ∧ P (.int (a * b)) := ⟨fun ⟨_, _, e, f, h⟩ => by cases e; cases f; exact h, fun h => ⟨a, b, rfl, rfl, h⟩⟩
@[simp] theorem s_oMulW : oMulW (.int a) (.int b) P ↔ CMulW a b ∧ P (.int (a * b)) := ⟨fun ⟨_, _, e, f, h⟩ => by cases e; cases f; exact h, fun h => ⟨a, b, rfl, rfl, h⟩⟩
@[simp] theorem s_oMod : oMod (.int a) (.int b) P ↔ 0 < b ∧ P (.int (a % b)) := ⟨fun ⟨_, _, e, f, h⟩ => by cases e; cases f; exact h, fun h => ⟨a, b, rfl, rfl, h⟩⟩
@[simp] theorem s_oFdiv : oFdiv (.int a) (.int b) P ↔ (0 < b ∧ b < 1073741824) ∧ P (.int (a / b)) := ⟨fun ⟨_, _, e, f, h⟩ => by cases e; cases f; exact h, fun h => ⟨a, b, rfl, rfl, h⟩⟩
@[simp] theorem s_oPow : oPow (.int a) (.int b) P ↔ (0 ≤ b ∧ b ≤ 1000000 ∧ a.natAbs < 2 ^ 64) ∧ P (.int (a ^ b.toNat)) := ⟨fun ⟨_, _, e, f, h⟩ => by cases e; cases f; exact h, fun h => ⟨a, b, rfl, rfl, h⟩⟩
@[simp] theorem s_oIsN : oIsN x .non P ↔ P (.bl (isNon x)) := ⟨fun h => h.2, fun h => ⟨rfl, h⟩⟩
@[simp] theorem s_oNotN : oNotN x .non P ↔ P (.bl (!isNon x)) := ⟨fun h => h.2, fun h => ⟨rfl, h⟩⟩
@[simp] theorem s_oIsB {k l : Bool} : oIsB (.bl k) (.bl l) P ↔ P (.bl (decide (k = l))) := ⟨fun ⟨_, _, e, f, h⟩ => by cases e; cases f; exact h, fun h => ⟨k, l, rfl, rfl, h⟩⟩
@[simp] theorem s_oNotB {k l : Bool} : oNotB (.bl k) (.bl l) P ↔ P (.bl (!decide (k = l))) := ⟨fun ⟨_, _, e, f, h⟩ => by cases e; cases f; exact h, fun h => ⟨k, l, rfl, rfl, h⟩⟩
@[simp] theorem s_isNon_int : isNon (.int a) = false := rfl
@[simp] theorem s_isNon_non : isNon .non = true := rfl
@[simp] theorem s_isNon_bl {k : Bool} : isNon (.bl k) = false := rfl
@[simp] theorem s_isNon_str {k : Str} : isNon (.str k) = false := rfl
@[simp] theorem s_isNon_tup {k : List PV} : isNon (.tup k) = false := rfl
@[simp] theorem s_isNon_lst {k : List PV} : isNon (.lst k) = false := rfl
@[simp] theorem s_isNon_dic {k : List Key} {l : List PV} : isNon (.dic k l) = false := rfl
@[simp] theorem s_oEqI : oEq (.int a) (.int b) P ↔ P (.bl (decide (a = b))) := by
  have e : PyData.eqv (.int a) (.int b) = decide (a = b) := rfl
  constructor
  · rintro ⟨_, _, f, g, _, _, h⟩
    cases f; cases g
    rw [e] at h; exact h
  · intro h
    exact ⟨_, _, rfl, rfl, rfl, rfl, by rw [e]; exact h⟩
@[simp] theorem s_oNeI : oNe (.int a) (.int b) P ↔ P (.bl (!decide (a = b))) := by
  have e : PyData.eqv (.int a) (.int b) = decide (a = b) := rfl
  constructor
  · rintro ⟨_, _, f, g, _, _, h⟩
    cases f; cases g
    rw [e] at h; exact h
  · intro h
    exact ⟨_, _, rfl, rfl, rfl, rfl, by rw [e]; exact h⟩
@[simp] theorem s_oIxT {ps : List PV} : oIx (.tup ps) (.int a) P ↔ ∃ p, atI ps a = some p ∧ P p := .rfl
@[simp] theorem s_oIxL {ps : List PV} : oIx (.lst ps) (.int a) P ↔ ∃ p, atI ps a = some p ∧ P p := .rfl
@[simp] theorem s_oSlT {ps : List PV} {l u : Option Int} : oSl (.tup ps) l u P ↔ P (.tup (cutP ps l u)) := .rfl
@[simp] theorem s_oSlL {ps : List PV} {l u : Option Int} : oSl (.lst ps) l u P ↔ P (.lst (cutP ps l u)) := .rfl
@[simp] theorem s_oRevT {ps : List PV} : oRev (.tup ps) P ↔ P (.tup ps.reverse) := .rfl
@[simp] theorem s_oRevL {ps : List PV} : oRev (.lst ps) P ↔ P (.lst ps.reverse) := .rfl
@[simp] theorem s_oInt : oInt [.int a] P ↔ P (.int a) := .rfl
@[simp] theorem s_oIntB {k : Bool} : oInt [.bl k] P ↔ P (.int (if k then 1 else 0)) := .rfl
@[simp] theorem s_oAbs : oAbs [.int a] P ↔ P (.int (if a < 0 then -a else a)) := ⟨fun ⟨_, e, h⟩ => by cases e; exact h, fun h => ⟨a, rfl, h⟩⟩
@[simp] theorem s_oMax2 : oMax2 [.int a, .int b] P ↔ P (.int (if b > a then b else a)) := ⟨fun ⟨_, _, e, h⟩ => by cases e; exact h, fun h => ⟨a, b, rfl, h⟩⟩
@[simp] theorem s_oMin2 : oMin2 [.int a, .int b] P ↔ P (.int (if b < a then b else a)) := ⟨fun ⟨_, _, e, h⟩ => by cases e; exact h, fun h => ⟨a, b, rfl, h⟩⟩
@[simp] theorem s_oLen : oLen [x] P ↔ ∃ n, plen x = some n ∧ P (.int (n : Int)) := ⟨fun ⟨_, n, e, f, h⟩ => by cases e; exact ⟨n, f, h⟩, fun ⟨n, f, h⟩ => ⟨x, n, rfl, f, h⟩⟩
@[simp] theorem s_plenT {ps : List PV} : plen (.tup ps) = some ps.length := rfl
@[simp] theorem s_plenL {ps : List PV} : plen (.lst ps) = some ps.length := rfl
@[simp] theorem s_plenD {ks : List Key} {ps : List PV} : plen (.dic ks ps) = some ks.length := rfl
@[simp] theorem s_plenS {ns : List Int} : plen (.scr ns) = some ns.length := rfl
@[simp] theorem s_oTupleL {ps : List PV} : oTuple [.lst ps] P ↔ P (.tup ps) := ⟨fun ⟨_, _, e, f, h⟩ => by cases e; cases f; exact h, fun h => ⟨_, ps, rfl, rfl, h⟩⟩
@[simp] theorem s_oTupleT {ps : List PV} : oTuple [.tup ps] P ↔ P (.tup ps) := ⟨fun ⟨_, _, e, f, h⟩ => by cases e; cases f; exact h, fun h => ⟨_, ps, rfl, rfl, h⟩⟩
@[simp] theorem s_oListL {ps : List PV} : oList [.lst ps] P ↔ P (.lst ps) := ⟨fun ⟨_, _, e, f, h⟩ => by cases e; cases f; exact h, fun h => ⟨_, ps, rfl, rfl, h⟩⟩
@[simp] theorem s_oListT {ps : List PV} : oList [.tup ps] P ↔ P (.lst ps) := ⟨fun ⟨_, _, e, f, h⟩ => by cases e; cases f; exact h, fun h => ⟨_, ps, rfl, rfl, h⟩⟩
end
theorem x_bl {b : Bool} {p : Bool → Prop} : (∃ k, PV.bl b = PV.bl k ∧ p k) ↔ p b := ⟨fun ⟨_, e, h⟩ => by cases e; exact h, fun h => ⟨b, rfl, h⟩⟩
theorem x_int {b : Int} {p : Int → Prop} : (∃ k, PV.int b = PV.int k ∧ p k) ↔ p b := ⟨fun ⟨_, e, h⟩ => by cases e; exact h, fun h => ⟨b, rfl, h⟩⟩
theorem x_some {α : Type} {b : α} {p : α → Prop} : (∃ k, some b = some k ∧ p k) ↔ p b := ⟨fun ⟨_, e, h⟩ => by cases e; exact h, fun h => ⟨b, rfl, h⟩⟩
theorem x_addT {a b : List PV} {P : PV → Prop} : oAdd (.tup a) (.tup b) P ↔ a.length + b.length ≤ sizeLine ∧ P (.tup (a ++ b)) := .rfl
theorem x_addL {a b : List PV} {P : PV → Prop} : oAdd (.lst a) (.lst b) P ↔ a.length + b.length ≤ sizeLine ∧ P (.lst (a ++ b)) := .rfl
theorem x_true {p q : Prop} : (if true = true then p else q) ↔ p := by rw [if_pos rfl]
theorem x_false {p q : Prop} : (if false = true then p else q) ↔ q := by rw [if_neg Bool.false_ne_true]
/-! ### of a type -/
def isiB (T : String) (p : PV) : Bool := match pty p with
  | some U => (kitB U T).getD false
  | none => false
theorem oIsi_of {T : String} {p : PV} {P : PV → Prop} {U : String} {b : Bool} (h : pty p = some U) (hb : kitB U T = some b) (hp : P (.bl b)) : oIsi T p P := ⟨U, b, h, hb, hp⟩
abbrev Known (T : String) : Prop := ∀ U ∈ ["NoneType", "bool", "int", "str", "tuple", "list", "dict"], (kitB U T).isSome = true
theorem pty_mem {p : PV} {U : String} (h : pty p = some U) : U ∈ ["NoneType", "bool", "int", "str", "tuple", "list", "dict"] := by
  cases p <;> cases h <;> decide
theorem oIsi_b {T : String} {p : PV} {P : PV → Prop} (k : Known T) (h : (pty p).isSome = true) (hp : P (.bl (isiB T p))) : oIsi T p P := by
  obtain ⟨U, hU⟩ := Option.isSome_iff_exists.mp h
  obtain ⟨b, hb⟩ := Option.isSome_iff_exists.mp (k U (pty_mem hU))
  refine ⟨U, b, hU, hb, ?_⟩
  unfold isiB at hp
  rw [hU] at hp
  have e : (kitB U T).getD false = b := by rw [hb]; rfl
  rw [← e]; exact hp
theorem known_int : Known "int" := by decide
theorem known_bool : Known "bool" := by decide
theorem known_str : Known "str" := by decide
theorem known_tuple : Known "tuple" := by decide
theorem known_list : Known "list" := by decide
theorem known_dict : Known "dict" := by decide
/-! ### loops and comprehensions -/
section
variable {g : TGm} {tt : TTm} {te : TEm} {tb : TSm} {env : Env} {P : PV → Prop} {M : Em}
/-- a loop by what stands ahead of each turn -/
theorem for_inv {α : Type} {emb : α → PV} {xs : List α} (I : Nat → Env → Prop) (h0 : I 0 env) (hs : ∀ (i : Nat) (x : α) (e : Env) (N : Env → Prop), xs[i]? = some x → I i e → (∀ e', I (i + 1) e' → N e') → g (emb x) e fun e1 => tb { M with nx := N, ct := N, bk := M.nx } e1)
    (hn : ∀ e, I xs.length e → M.nx e) : mForGo g tb M (xs.map emb) env := by
  have go : ∀ (ys : List α) (i : Nat) (e : Env), xs.drop i = ys → I i e → i ≤ xs.length → mForGo g tb M (ys.map emb) e := by
    intro ys
    induction ys with
    | nil =>
      intro i e hd hi hl
      have : i = xs.length := by
        have := List.drop_eq_nil_iff.mp hd
        omega
      subst this
      exact hn e hi
    | cons y ys ih =>
      intro i e hd hi hl
      have hx : xs[i]? = some y := by
        have : (xs.drop i)[0]? = some y := by rw [hd]; rfl
        rw [List.getElem?_drop] at this
        exact this
      have hlt : i < xs.length := (List.getElem?_eq_some_iff.mp hx).1
      have hd2 : xs.drop (i + 1) = ys := by
        rw [← List.drop_drop, hd]; rfl
      exact hs i y e _ hx hi fun e' he' => ih (i + 1) e' hd2 he' hlt
  exact go xs 0 env rfl h0 (Nat.zero_le _)
theorem foldl_take {α S : Type} {xs : List α} {f : S → α → S} {s : S} {i : Nat} {x : α} (h : xs[i]? = some x) : (xs.take (i + 1)).foldl f s = f ((xs.take i).foldl f s) x := by
  rw [List.take_add_one, h, List.foldl_append]
  rfl
/-- a loop as a fold -/
theorem for_fold {α S : Type} {emb : α → PV} {xs : List α} (step : S → α → S) (E : S → Env → Prop) (s0 : S) (h0 : E s0 env) (hs : ∀ (x : α) (s : S) (e : Env) (N : Env → Prop), x ∈ xs → E s e → (∀ e', E (step s x) e' → N e') → g (emb x) e fun e1 => tb { M with nx := N, ct := N, bk := M.nx } e1)
    (hn : ∀ e, E (xs.foldl step s0) e → M.nx e) : mForGo g tb M (xs.map emb) env := by
  refine for_inv (fun i e => E ((xs.take i).foldl step s0) e) h0 (fun i x e N hx hE hN => hs x _ e N (List.mem_of_getElem? hx) hE fun e' he' => hN e' ?_) (fun e he => hn e ?_)
  · rw [List.take_add_one, hx, List.foldl_append]
    exact he'
  · rw [List.take_length] at he
    exact he
/-- a comprehension that has one answer at each item -/
theorem comp_emb {α : Type} {emb : α → PV} {tst : α → Bool} {f : α → PV} : ∀ {xs : List α} {acc : List PV}, (∀ x ∈ xs, ∃ e1, (∀ k : Env → Prop, k e1 → g (emb x) env k) ∧ (∀ Q : Bool → Prop, Q (tst x) → tt e1 Q) ∧ (tst x = true → ∀ Q : PV → Prop, Q (f x) → te e1 Q)) →
    acc.length + xs.length ≤ sizeLine → P (.lst (acc ++ (xs.filter tst).map f)) → mCompGo g tt te env P (xs.map emb) acc
  | [], acc, _, _, hp => by
    rw [List.filter_nil, List.map_nil, List.append_nil] at hp
    exact hp
  | x :: xs, acc, h, hl, hp => by
    obtain ⟨e1, h1, h2, h3⟩ := h x (List.mem_cons_self ..)
    rw [List.length_cons] at hl
    rw [List.map_cons]
    unfold mCompGo
    refine h1 _ (h2 _ ?_)
    cases ht : tst x with
    | true =>
      rw [if_pos rfl]
      refine h3 ht _ ⟨by omega, comp_emb (fun y hy => h y (List.mem_cons_of_mem _ hy)) (by rw [List.length_append, List.length_singleton]; omega) ?_⟩
      rw [List.filter_cons, ht, if_pos rfl, List.map_cons] at hp
      rw [List.append_assoc]
      exact hp
    | false =>
      rw [if_neg Bool.false_ne_true]
      refine comp_emb (fun y hy => h y (List.mem_cons_of_mem _ hy)) (by omega) ?_
      rw [List.filter_cons, ht, if_neg Bool.false_ne_true] at hp
      exact hp
/-- a comprehension without test -/
theorem comp_map {α : Type} {emb : α → PV} {f : α → PV} {xs : List α} (h : ∀ x ∈ xs, ∃ e1, (∀ k : Env → Prop, k e1 → g (emb x) env k) ∧ (∀ Q : Bool → Prop, Q true → tt e1 Q) ∧ (∀ Q : PV → Prop, Q (f x) → te e1 Q))
    (hl : xs.length ≤ sizeLine) (hp : P (.lst (xs.map f))) : mCompGo g tt te env P (xs.map emb) [] := by
  refine comp_emb (tst := fun _ => true) (f := f) (fun x hx => ?_) (by rw [List.length_nil, Nat.zero_add]; exact hl) ?_
  · obtain ⟨e1, h1, h2, h3⟩ := h x hx
    exact ⟨e1, h1, h2, fun _ => h3⟩
  · rw [List.filter_eq_self.mpr (fun _ _ => rfl)]
    exact hp
/-- .. whose answers are one of several -/
theorem comp_rel {α : Type} {emb : α → PV} {R : α → PV → Prop} : ∀ {xs : List α} {acc : List PV}, (∀ x ∈ xs, ∃ e1, (∀ k : Env → Prop, k e1 → g (emb x) env k) ∧ (∀ Q : Bool → Prop, Q true → tt e1 Q) ∧ (∀ Q : PV → Prop, (∀ y, R x y → Q y) → te e1 Q)) →
    acc.length + xs.length ≤ sizeLine → (∀ ys, Paired R xs ys → P (.lst (acc ++ ys))) → mCompGo g tt te env P (xs.map emb) acc
  | [], acc, _, _, hp => by
    have := hp [] .nil
    rw [List.append_nil] at this
    exact this
  | x :: xs, acc, h, hl, hp => by
    obtain ⟨e1, h1, h2, h3⟩ := h x (List.mem_cons_self ..)
    rw [List.length_cons] at hl
    rw [List.map_cons]
    unfold mCompGo
    refine h1 _ (h2 _ ?_)
    rw [if_pos rfl]
    refine h3 _ fun y hy => ⟨by omega, comp_rel (fun z hz => h z (List.mem_cons_of_mem _ hz)) (by rw [List.length_append, List.length_singleton]; omega) fun ys hys => ?_⟩
    have := hp (y :: ys) (.cons hy hys)
    rw [List.append_assoc]
    exact this
end
/-! ### data in rows -/
theorem small_line {n : Nat} (h : n ≤ 1000000) : n < sizeLine := Nat.lt_of_le_of_lt h (by decide)
abbrev lI (ns : List Int) : PV := .lst (ns.map .int)
abbrev tI (ns : List Int) : PV := .tup (ns.map .int)
theorem inP_ints {x : Int} : ∀ {ns : List Int}, inP (.int x) (ns.map .int) = decide (x ∈ ns)
  | [] => rfl
  | n :: ns => by
    have ih := inP_ints (x := x) (ns := ns)
    unfold inP at ih ⊢
    rw [List.map_cons, List.any_cons, ih]
    show (n == x || decide (x ∈ ns)) = decide (x ∈ n :: ns)
    by_cases e : n = x
    · subst e; simp
    · have e' : ¬ x = n := fun z => e z.symm
      simp [e, e']
theorem oIn_ints {neg : Bool} {x : Int} {ns : List Int} {P : PV → Prop} (h : P (.bl (if neg then !decide (x ∈ ns) else decide (x ∈ ns)))) : oIn neg (.int x) (lI ns) P := by
  refine ⟨_, .inl rfl, rfl, ?_, ?_⟩
  · rw [List.all_eq_true]
    intro y hy
    obtain ⟨z, _, rfl⟩ := List.mem_map.mp hy
    rfl
  · rw [inP_ints]; exact h
theorem toDs_map {α : Type} {emb : α → PV} {f : α → PyData} (h : ∀ x, toD (emb x) = some (f x)) : ∀ xs : List α, toDs (xs.map emb) = some (xs.map f)
  | [] => by unfold toDs; rfl
  | x :: xs => by
    rw [List.map_cons, List.map_cons]
    unfold toDs
    rw [h x, toDs_map h xs]
    rfl
theorem lay_map {α : Type} {f : α → PyData} {n : Nat} (h : ∀ x, PyData.canLay0 (f x) = true ∧ PyData.depth (f x) ≤ n) : ∀ xs : List α, PyData.canLayAll0 (xs.map f) = true ∧ PyData.depthAll (xs.map f) ≤ n
  | [] => ⟨rfl, Nat.zero_le _⟩
  | x :: xs => by
    obtain ⟨h1, h2⟩ := lay_map h xs
    obtain ⟨g1, g2⟩ := h x
    constructor
    · show (PyData.canLay0 (f x) && PyData.canLayAll0 _) = true
      rw [h1, g1]; rfl
    · show max (PyData.depth (f x)) (PyData.depthAll _) ≤ n
      exact Nat.max_le.mpr ⟨g2, h2⟩
theorem shaped_map {α : Type} {f : α → PyData} {n : Nat} (h : ∀ x, PyData.canLay0 (f x) = true ∧ PyData.depth (f x) ≤ n) (hn : n < 64) (xs : List α) : SeqAt.shaped (.list (xs.map f)) = true := by
  obtain ⟨h1, h2⟩ := lay_map h xs
  unfold SeqAt.shaped
  rw [show PyData.canLay0 (.list (xs.map f)) = true from h1]
  have : PyData.depth (.list (xs.map f)) ≤ 64 := by
    show PyData.depthAll (xs.map f) + 1 ≤ 64
    omega
  rw [decide_eq_true this]; rfl
theorem eqv_nil (ds : List PyData) : PyData.eqv (.list ds) (.list []) = ds.isEmpty := by cases ds <;> rfl
theorem oEq_nil {α : Type} {emb : α → PV} {f : α → PyData} {n : Nat} {xs : List α} {P : PV → Prop} (h : ∀ x, toD (emb x) = some (f x)) (hs : ∀ x, PyData.canLay0 (f x) = true ∧ PyData.depth (f x) ≤ n) (hn : n < 64) (hp : P (.bl xs.isEmpty)) : oEq (.lst (xs.map emb)) (.lst []) P := by
  refine ⟨.list (xs.map f), .list [], ?_, by unfold toD toDs; rfl, shaped_map hs hn xs, rfl, ?_⟩
  · unfold toD; rw [toDs_map h]; rfl
  · rw [eqv_nil, List.isEmpty_map]; exact hp
theorem oNe_nil {α : Type} {emb : α → PV} {f : α → PyData} {n : Nat} {xs : List α} {P : PV → Prop} (h : ∀ x, toD (emb x) = some (f x)) (hs : ∀ x, PyData.canLay0 (f x) = true ∧ PyData.depth (f x) ≤ n) (hn : n < 64) (hp : P (.bl (!xs.isEmpty))) : oNe (.lst (xs.map emb)) (.lst []) P := by
  refine ⟨.list (xs.map f), .list [], ?_, by unfold toD toDs; rfl, shaped_map hs hn xs, rfl, ?_⟩
  · unfold toD; rw [toDs_map h]; rfl
  · rw [eqv_nil, List.isEmpty_map]; exact hp
theorem oEqI_nil {ns : List Int} {P : PV → Prop} (hp : P (.bl ns.isEmpty)) : oEq (lI ns) (.lst []) P := oEq_nil (f := .int) (n := 0) (fun _ => rfl) (fun _ => ⟨rfl, Nat.le_refl _⟩) (by decide) hp
theorem oNeI_nil {ns : List Int} {P : PV → Prop} (hp : P (.bl (!ns.isEmpty))) : oNe (lI ns) (.lst []) P := oNe_nil (f := .int) (n := 0) (fun _ => rfl) (fun _ => ⟨rfl, Nat.le_refl _⟩) (by decide) hp
theorem oAll_map {α : Type} {xs : List α} {b : α → Bool} {P : PV → Prop} (h : P (.bl (xs.all b))) : oAll [.lst (xs.map fun x => .bl (b x))] P := by
  refine ⟨xs.map b, by rw [List.map_map]; rfl, ?_⟩
  rw [List.all_map]
  exact h
theorem oAny_map {α : Type} {xs : List α} {b : α → Bool} {P : PV → Prop} (h : P (.bl (xs.any b))) : oAny [.lst (xs.map fun x => .bl (b x))] P := by
  refine ⟨xs.map b, by rw [List.map_map]; rfl, ?_⟩
  rw [List.any_map]
  exact h
theorem oSum_map {α : Type} {xs : List α} {b : α → Int} {P : PV → Prop} (h : P (.int (xs.map b).sum)) : oSum [.lst (xs.map fun x => .int (b x))] P := ⟨xs.map b, by rw [List.map_map]; rfl, h⟩
theorem rngP_map {a : Int} {n : Nat} : rngP a n = (List.range n).map fun (i : Nat) => PV.int (a + (i : Int)) := rfl
theorem enumP_map {α : Type} {xs : List α} {emb : α → PV} : enumP (xs.map emb) = (List.range xs.length).map fun i => .tup [.int (i : Nat), (xs.map emb).getD i .non] := by
  unfold enumP; rw [List.length_map]
theorem zipP_map {α β : Type} {xs : List α} {ys : List β} {ea : α → PV} {eb : β → PV} : zipP (xs.map ea) (ys.map eb) = (xs.zip ys).map fun p => .tup [ea p.1, eb p.2] := by
  unfold zipP
  rw [List.zipWith_map, List.zip, List.map_zipWith]
theorem atI_map {α : Type} {xs : List α} {emb : α → PV} {i : Int} : atI (xs.map emb) i = (atI xs i).map emb := by
  unfold atI
  rw [List.length_map]
  cases ixN xs.length i with
  | none => rfl
  | some j => exact List.getElem?_map ..
theorem atI_pos {α : Type} {xs : List α} {i : Nat} (h : i < xs.length) : atI xs (i : Int) = xs[i]? := by
  unfold atI ixN
  rw [if_pos (by omega), if_pos (by omega), Int.toNat_natCast]
  rfl
theorem atI_nn {α : Type} {xs : List α} {i : Int} (h0 : 0 ≤ i) (h : i < xs.length) : atI xs i = xs[i.toNat]? := by
  have e : i = (i.toNat : Int) := by omega
  have l : i.toNat < xs.length := by omega
  have := atI_pos l
  rw [← e] at this
  exact this
theorem atI_last1 {α : Type} {xs : List α} (h : 0 < xs.length) : atI xs (-1) = xs[xs.length - 1]? := by
  unfold atI ixN
  rw [if_neg (by omega), if_pos (by omega)]
  show xs[((-1 : Int) + (xs.length : Int)).toNat]? = _
  rw [show ((-1 : Int) + (xs.length : Int)).toNat = xs.length - 1 by omega]
theorem cutP_map {α : Type} {xs : List α} {emb : α → PV} {a b : Option Int} : cutP (xs.map emb) a b = ((xs.drop (HT.sIx xs.length 0 a)).take (HT.sIx xs.length xs.length b - HT.sIx xs.length 0 a)).map emb := by
  unfold cutP
  rw [List.length_map, List.map_take, List.map_drop]
end PM

set_option maxHeartbeats 1000000
/-! PM: the least and the greatest of data, ranges made into lines. -/
namespace L2
open PySem PySem.Spec PyProof.Rows
/-- the place of the first of the least, of the greatest -/
def bestLt (ds : List PyData) : Nat := argBest (fun i j => PySem.W.dataLt (ds.getD i .none) (ds.getD j .none)) (ds.length - 1)
def bestGt (ds : List PyData) : Nat := argBest (fun i j => PySem.W.dataLt (ds.getD j .none) (ds.getD i .none)) (ds.length - 1)
def rBest (K : PySem.W.Frag) (best : List PyData → Nat) : List V → Hp → VK → Prop := fun vs H Q => ∃ (a : Addr) (xs : List V) (ds : List PyData), vs = [V.ref a] ∧ (SqL K H a xs ∨ SqT K H a xs) ∧ DpAll K H xs ds ∧ PySem.W.AlikeAll ds ∧ PyData.depthAll ds ≤ 60 ∧ 0 < ds.length ∧ ∀ v, xs[best ds]? = some v → Q v H
theorem cr_minDa {X : Cx} (hc : X.calm = true) (hu : X.A.units + 64 < cLine) : CallR X (.builtin "min") (rBest X.K bestLt) := by
  intro pins s σ H vs us Q I r h
  obtain ⟨a, xs, ds, rfl, hs, hd, hal, hdp, hne, q⟩ := h
  rw [Vals.ref1 r]
  rcases hs with hs | hs
  · obtain ⟨its, rv, hl, _⟩ := I.list hs
    obtain ⟨as, hr⟩ := Dp.readsAll I ds xs its hd rv
    have hsz : its.length = ds.length := readsAll_len _ hr
    have hr' : ReadsAll s.heap its.toArray.toList ds as := hr
    refine call_min_walkH (PySem.W.iter_listW (A := X.A.in1) (I.ok.hd hc) hl.isList fun s₂ e W st hfp hw hk => ?_)
    refine ⟨_, _, _, _, _, _, _, s.heap, _, rfl, W, st, hfp, by rw [List.size_toArray]; omega, hw, hk, PySem.W.cmpIn_lt (A := X.A.in1) hr' hal (by show X.A.units + 1 + _ < _; omega), fun v s' hP m => ?_⟩
    obtain ⟨h', tk, rfl, hk'⟩ := PySem.W.moved_old e rfl m
    have hP' : its[bestLt ds]? = some v := by
      have : its.toArray[argBest (fun i j => PySem.W.dataLt (ds.getD i .none) (ds.getD j .none)) (its.toArray.size - 1)]? = some v := hP
      rw [List.size_toArray, hsz] at this
      rw [← this, List.getElem?_toArray]; rfl
    have hlen : bestLt ds < its.length := (List.getElem?_eq_some_iff.mp hP').1
    have hx : xs[bestLt ds]? = some (xs[bestLt ds]'(by rw [rv.length]; exact hlen)) := List.getElem?_eq_getElem _
    obtain ⟨u, hu2, ru⟩ := rv.get hx
    rw [hP'] at hu2; cases hu2
    exact ⟨_, H, I.kept hk', ru, q _ hx⟩
  · obtain ⟨its, rv, hl, _⟩ := I.tuple hs
    obtain ⟨as, hr⟩ := Dp.readsAll I ds xs its hd rv
    have hsz : its.length = ds.length := readsAll_len _ hr
    have hr' : ReadsAll s.heap its.toArray.toList ds as := hr
    refine call_min_walkH (PySem.W.iter_tupleW (A := X.A.in1) (I.ok.hd hc) (show s.heap.IsTuple a its.toArray from hl) fun s₂ e W st hfp hw hk => ?_)
    refine ⟨_, _, _, _, _, _, _, s.heap, _, rfl, W, st, hfp, by rw [List.size_toArray]; omega, hw, hk, PySem.W.cmpIn_lt (A := X.A.in1) hr' hal (by show X.A.units + 1 + _ < _; omega), fun v s' hP m => ?_⟩
    obtain ⟨h', tk, rfl, hk'⟩ := PySem.W.moved_old e rfl m
    have hP' : its[bestLt ds]? = some v := by
      have : its.toArray[argBest (fun i j => PySem.W.dataLt (ds.getD i .none) (ds.getD j .none)) (its.toArray.size - 1)]? = some v := hP
      rw [List.size_toArray, hsz] at this
      rw [← this, List.getElem?_toArray]; rfl
    have hlen : bestLt ds < its.length := (List.getElem?_eq_some_iff.mp hP').1
    have hx : xs[bestLt ds]? = some (xs[bestLt ds]'(by rw [rv.length]; exact hlen)) := List.getElem?_eq_getElem _
    obtain ⟨u, hu2, ru⟩ := rv.get hx
    rw [hP'] at hu2; cases hu2
    exact ⟨_, H, I.kept hk', ru, q _ hx⟩
theorem cr_maxDa {X : Cx} (hc : X.calm = true) (hu : X.A.units + 64 < cLine) : CallR X (.builtin "max") (rBest X.K bestGt) := by
  intro pins s σ H vs us Q I r h
  obtain ⟨a, xs, ds, rfl, hs, hd, hal, hdp, hne, q⟩ := h
  rw [Vals.ref1 r]
  rcases hs with hs | hs
  · obtain ⟨its, rv, hl, _⟩ := I.list hs
    obtain ⟨as, hr⟩ := Dp.readsAll I ds xs its hd rv
    have hsz : its.length = ds.length := readsAll_len _ hr
    have hr' : ReadsAll s.heap its.toArray.toList ds as := hr
    refine call_max_walkH (PySem.W.iter_listW (A := X.A.in1) (I.ok.hd hc) hl.isList fun s₂ e W st hfp hw hk => ?_)
    refine ⟨_, _, _, _, _, _, _, s.heap, _, rfl, W, st, hfp, by rw [List.size_toArray]; omega, hw, hk, PySem.W.cmpIn_gt (A := X.A.in1) hr' hal (by show X.A.units + 1 + _ < _; omega), fun v s' hP m => ?_⟩
    obtain ⟨h', tk, rfl, hk'⟩ := PySem.W.moved_old e rfl m
    have hP' : its[bestGt ds]? = some v := by
      have : its.toArray[argBest (fun i j => PySem.W.dataLt (ds.getD j .none) (ds.getD i .none)) (its.toArray.size - 1)]? = some v := hP
      rw [List.size_toArray, hsz] at this
      rw [← this, List.getElem?_toArray]; rfl
    have hlen : bestGt ds < its.length := (List.getElem?_eq_some_iff.mp hP').1
    have hx : xs[bestGt ds]? = some (xs[bestGt ds]'(by rw [rv.length]; exact hlen)) := List.getElem?_eq_getElem _
    obtain ⟨u, hu2, ru⟩ := rv.get hx
    rw [hP'] at hu2; cases hu2
    exact ⟨_, H, I.kept hk', ru, q _ hx⟩
  · obtain ⟨its, rv, hl, _⟩ := I.tuple hs
    obtain ⟨as, hr⟩ := Dp.readsAll I ds xs its hd rv
    have hsz : its.length = ds.length := readsAll_len _ hr
    have hr' : ReadsAll s.heap its.toArray.toList ds as := hr
    refine call_max_walkH (PySem.W.iter_tupleW (A := X.A.in1) (I.ok.hd hc) (show s.heap.IsTuple a its.toArray from hl) fun s₂ e W st hfp hw hk => ?_)
    refine ⟨_, _, _, _, _, _, _, s.heap, _, rfl, W, st, hfp, by rw [List.size_toArray]; omega, hw, hk, PySem.W.cmpIn_gt (A := X.A.in1) hr' hal (by show X.A.units + 1 + _ < _; omega), fun v s' hP m => ?_⟩
    obtain ⟨h', tk, rfl, hk'⟩ := PySem.W.moved_old e rfl m
    have hP' : its[bestGt ds]? = some v := by
      have : its.toArray[argBest (fun i j => PySem.W.dataLt (ds.getD j .none) (ds.getD i .none)) (its.toArray.size - 1)]? = some v := hP
      rw [List.size_toArray, hsz] at this
      rw [← this, List.getElem?_toArray]; rfl
    have hlen : bestGt ds < its.length := (List.getElem?_eq_some_iff.mp hP').1
    have hx : xs[bestGt ds]? = some (xs[bestGt ds]'(by rw [rv.length]; exact hlen)) := List.getElem?_eq_getElem _
    obtain ⟨u, hu2, ru⟩ := rv.get hx
    rw [hP'] at hu2; cases hu2
    exact ⟨_, H, I.kept hk', ru, q _ hx⟩
/-! ### tuple(range(a, b, c)) -/
section
variable {X : Cx} {a b c : Expr} {ta tb tc : TE}
def rg3V (i c : Int) (n : Nat) : List V := (List.range n).map fun k => V.int (i + (k : Nat) * c)
def tTup3 (ta tb tc : TE) : TE := fun σ H Q => ta σ H fun x H1 => tb σ H1 fun y H2 => tc σ H2 fun z H3 => ∃ (i j c : Int) (n : Nat), x = .int i ∧ y = .int j ∧ z = .int c ∧ RgC i j c n ∧ n ≤ 16777216 ∧ ∀ q, H3 q = none → Q (.ref q) (upd H3 q (.tup (rg3V i c n)))
theorem pe_tup3 {p p2 pos pos2 : Pos} (hc : X.calm = true) (hg : Gl X "tuple") (hm : X.mg "tuple" = none) (hg2 : Gl X "range") (hm2 : X.mg "range" = none) (ha : PE X a ta) (hb : PE X b tb) (hcc : PE X c tc)
    (na : starEach [a, b, c] X.env = (false, eval a X.env) :: starEach [b, c] X.env := by rfl) (nb : starEach [b, c] X.env = (false, eval b X.env) :: starEach [c] X.env := by rfl) (nc : starEach [c] X.env = (false, eval c X.env) :: starEach [] X.env := by rfl)
    (hp : (backTo pos2 (starEach [b, c] X.env)).any (·.1) = false := by rfl) (nr : starEach [.Call (.Name "range" p2) [a, b, c] [] pos2] X.env = (false, eval (.Call (.Name "range" p2) [a, b, c] [] pos2) X.env) :: starEach [] X.env := by rfl) :
    PE X (.Call (.Name "tuple" p) [.Call (.Name "range" p2) [a, b, c] [] pos2] [] pos) (tTup3 ta tb tc) := by
  refine ⟨fun pins s σ H Q I h => ?_⟩
  refine Call_ (ld_blt I hg hm boot_tuple (PyProof.Rows.callWith_type1 (args_cons ?_ nr) nr))
  refine Call_ (ld_blt I hg2 hm2 boot_range (PyProof.Rows.callWith_type1 (args_cons (thn (ha.run pins s σ H _ I h) fun v s1 ⟨x, H1, I1, r1, q1⟩ => args_cons (thn (hb.run pins s1 σ H1 _ I1 q1) fun u s2 ⟨y, H2, I2, r2, q2⟩ => one_arg hcc I2 q2 (fun w s3 z H3 I3 r3 q => ?_) nc) nb) na) na hp))
  obtain ⟨i, j, k, n, rfl, rfl, rfl, ⟨c0, c1, c2, c3⟩, hn, q⟩ := q
  obtain ⟨t, rfl⟩ := r1
  obtain ⟨t', rfl⟩ := r2
  obtain ⟨t'', rfl⟩ := r3
  refine call_range_3 c0 (args_nil ?_) (.inl (PyProof.noPylong_small c1))
  have I4 : Inv X pins σ H3 { s3 with heap := s3.heap.push { cls := .type "range", data := .fields #[.int i t, .int j t', .int k t''] } } := I3.kept (t' := s3.toks) fun b o e => Heap.get?_push_of_some _ e
  refine call_tuple_range (n := n) (I4.ok.hd hc) (IsRange.new _ _ _ _ _ _ _) c2 c3 hn fun h' tk acc hk hi => ?_
  have I5 : Inv X pins σ H3 { s3 with heap := h', toks := tk } := I4.kept hk
  have hv : Vals (rg3V i k n) acc.toList := by
    have e : acc.toList.length = n := by rw [Array.length_toList]; exact hi.1
    unfold rg3V
    rw [← e]
    refine vals_of_get acc.toList _ fun j u hj => ?_
    obtain ⟨t, rfl⟩ := hi.2 j u (by rw [← hj, Array.getElem?_toList])
    exact ⟨t, rfl⟩
  refine ⟨.ref h'.objs.size, upd H3 h'.objs.size (.tup (rg3V i k n)), I5.laid (t' := tk) (fun c o e => Heap.get?_push_of_some _ e) (Nat.le_refl _) (show ObjOk X.prog X.w _ _ _ (.tup (rg3V i k n)) from ⟨?_, acc.toList, hv, ?_⟩), rfl, q _ (I5.hok.fresh (Nat.le_refl _))⟩
  · unfold rg3V; rw [List.length_map, List.length_range, sizeLine_eq]; omega
  · rw [Array.toArray_toList]; exact IsTup.new _ _
end
end L2
namespace PM
open PySem L2
def oBest (best : List PyData → Nat) : POn := fun xs P => ∃ x ps ds, xs = [x] ∧ seqP x = some ps ∧ toDs ps = some ds ∧ PySem.W.AlikeAll ds ∧ PyData.depthAll ds ≤ 60 ∧ 0 < ps.length ∧ ∀ p, ps[best ds]? = some p → P p
theorem toDs_len : ∀ {ps : List PV} {ds : List PyData}, toDs ps = some ds → ds.length = ps.length
  | [], _, h => by unfold toDs at h; cases h; rfl
  | p :: ps, _, h => by
    unfold toDs at h
    cases q : toD p with
    | none => rw [q] at h; cases h
    | some d =>
      rw [q] at h
      cases q2 : toDs ps with
      | none => rw [q2] at h; cases h
      | some ds => rw [q2] at h; cases h; rw [List.length_cons, List.length_cons, toDs_len q2]
theorem lift_best {K : PySem.W.Frag} {best : List PyData → Nat} (hb : ∀ ds, 0 < ds.length → best ds < ds.length) : LiftN K (rBest K best) (oBest best) .cl := by
  rintro Z W H ps vs P Q S r ⟨x, qs, ds, rfl, hx, hd, hal, hdp, hne, hp⟩ k
  obtain ⟨v, rfl, rv⟩ := r.one
  obtain ⟨a, ws, rfl, hs, rs⟩ := rv.seq hx
  have hl := toDs_len hd
  refine ⟨a, ws, ds, rfl, hs, toDs_dp rs hd, hal, hdp, by omega, fun v hv => ?_⟩
  have hlt := hb ds (by omega)
  have hq : qs[best ds]? = some (qs[best ds]'(by omega)) := List.getElem?_eq_getElem _
  obtain ⟨v', hv', rv'⟩ := rs.get hq
  rw [hv] at hv'; cases hv'
  exact S.fin k rv' (hp _ hq)
theorem argBest_le (bt : Nat → Nat → Bool) : ∀ n, argBest bt n ≤ n
  | 0 => Nat.le_refl _
  | n + 1 => by
    unfold argBest
    split
    · exact Nat.le_refl _
    · exact Nat.le_succ_of_le (argBest_le bt n)
theorem bestLt_lt (ds : List PyData) (h : 0 < ds.length) : bestLt ds < ds.length := by
  have := argBest_le (fun i j => PySem.W.dataLt (ds.getD i .none) (ds.getD j .none)) (ds.length - 1)
  unfold bestLt
  omega
theorem bestGt_lt (ds : List PyData) (h : 0 < ds.length) : bestGt ds < ds.length := by
  have := argBest_le (fun i j => PySem.W.dataLt (ds.getD j .none) (ds.getD i .none)) (ds.length - 1)
  unfold bestGt
  omega
section
variable {X : Cx} {c : List Ow} {a b d e : Expr} {ta tb td : TEm} {p p2 pos pos2 : Pos}
def rg3P (i k : Int) (n : Nat) : List PV := (List.range n).map fun j => PV.int (i + (j : Nat) * k)
def mTup3 (ta tb td : TEm) : TEm := fun env P => ta env fun x => tb env fun y => td env fun z => ∃ (i j k : Int) (n : Nat), x = .int i ∧ y = .int j ∧ z = .int k ∧ RgC i j k n ∧ n ≤ 16777216 ∧ P (.tup (rg3P i k n))
theorem em_tup3 (hc : X.calm = true) (hm : X.mg "tuple" = none) (hm2 : X.mg "range" = none) (ha : PEm X c .ow a ta) (hb : PEm X c .ow b tb) (hd : PEm X c .ow d td) (hg : Gl X "tuple" := by rfl) (hg2 : Gl X "range" := by rfl)
    (na : starEach [a, b, d] X.env = (false, eval a X.env) :: starEach [b, d] X.env := by rfl) (nb : starEach [b, d] X.env = (false, eval b X.env) :: starEach [d] X.env := by rfl) (nc : starEach [d] X.env = (false, eval d X.env) :: starEach [] X.env := by rfl)
    (hp : (backTo pos2 (starEach [b, d] X.env)).any (·.1) = false := by rfl) (nr : starEach [.Call (.Name "range" p2) [a, b, d] [] pos2] X.env = (false, eval (.Call (.Name "range" p2) [a, b, d] [] pos2) X.env) :: starEach [] X.env := by rfl) :
    PEm X c .cl (.Call (.Name "tuple" p) [.Call (.Name "range" p2) [a, b, d] [] pos2] [] pos) (mTup3 ta tb td) := ⟨(pe_tup3 hc hg hm hg2 hm2 ha.run hb.run hd.run na nb nc hp nr).weak fun σ H Q h => by
  obtain ⟨G, A, W, env, P, R, h, k⟩ := h
  refine ⟨G, A, W, env, _, R, h, fun px vx H1 g1 rx h1 => ⟨G, A, W, env, _, R.grow g1, h1, fun py vy H2 g2 ry h2 => ⟨G, A, W, env, _, (R.grow g1).grow g2, h2, fun pz vz H3 g3 rz h3 => ?_⟩⟩⟩
  obtain ⟨i, j, m, n, rfl, rfl, rfl, hr, hn, hp⟩ := h3
  have R3 := ((R.grow g1).grow g2).grow g3
  refine ⟨i, j, m, n, rx.o.int, ry.o.int, rz.o.int, hr, hn, fun q nq => ?_⟩
  have rs : Rps X.K ⟨Zt G A W, W, H3⟩ (rg3P i m n) (rg3V i m n) := by
    have e1 : rg3P i m n = ((List.range n).map fun j => i + (j : Nat) * m).map PV.int := by unfold rg3P; rw [List.map_map]; rfl
    have e2 : rg3V i m n = ((List.range n).map fun j => i + (j : Nat) * m).map V.int := by unfold rg3V; rw [List.map_map]; rfl
    rw [e1, e2]
    exact Rps.ints.mpr rfl
  exact k _ _ _ (((g1.trans g2).trans g3).trans (Grow.new R3.src nq)) (VK1.ofRp (Rp.newTup (R3.nz nq) nq R3.src R.sz rs)) hp⟩
/-- list(range(..)), tuple(range(..)) -/
def mRgL1 (t : TEm) : TEm := fun env P => t env fun x => ∃ n, x = .int n ∧ RgOk 0 n ∧ P (.lst (rngP 0 n.toNat))
def mRgT1 (t : TEm) : TEm := fun env P => t env fun x => ∃ n, x = .int n ∧ RgOk 0 n ∧ P (.tup (rngP 0 n.toNat))
def mRgL2 (t u : TEm) : TEm := fun env P => t env fun x => u env fun y => ∃ i j, x = .int i ∧ y = .int j ∧ RgOk i j ∧ P (.lst (rngP i (j - i).toNat))
def mRgT2 (t u : TEm) : TEm := fun env P => t env fun x => u env fun y => ∃ i j, x = .int i ∧ y = .int j ∧ RgOk i j ∧ P (.tup (rngP i (j - i).toNat))
theorem rg_rps {K : PySem.W.Frag} {S : Wd} {i j : Int} : Rps K S (rngP i (j - i).toNat) (rgV i j) := by
  have e1 : rngP i (j - i).toNat = ((List.range (j - i).toNat).map fun (k : Nat) => i + (k : Int)).map PV.int := by unfold rngP; rw [List.map_map]; rfl
  have e2 : rgV i j = ((List.range (j - i).toNat).map fun (k : Nat) => i + (k : Int)).map V.int := by unfold rgV; rw [List.map_map]; rfl
  rw [e1, e2]
  exact Rps.ints.mpr rfl
theorem em_rgL1 (hc : X.calm = true) (hm : X.mg "list" = none) (hm2 : X.mg "range" = none) (ha : PEm X c .ow a ta) (hg : Gl X "list" := by rfl) (hg2 : Gl X "range" := by rfl) (na : starEach [a] X.env = (false, eval a X.env) :: starEach [] X.env := by rfl)
    (nr : starEach [.Call (.Name "range" p2) [a] [] pos2] X.env = (false, eval (.Call (.Name "range" p2) [a] [] pos2) X.env) :: starEach [] X.env := by rfl) : PEm X c .fr (.Call (.Name "list" p) [.Call (.Name "range" p2) [a] [] pos2] [] pos) (mRgL1 ta) := ⟨(pe_listRg hc hg hm (prg_1 hg2 hm2 ha.run na) nr).weak fun σ H Q h => by
  obtain ⟨G, A, W, env, P, R, h, k⟩ := h
  refine ⟨G, A, W, env, _, R, h, fun px vx H1 g1 rx ⟨n, e, hr, hp⟩ => ⟨n, by subst e; exact rx.o.int, hr, fun q nq => ?_⟩⟩
  have R1 := R.grow g1
  have rs : Rps X.K ⟨Zt G A W, W, H1⟩ (rngP 0 (n - 0).toNat) (rgV 0 n) := rg_rps
  rw [Int.sub_zero] at rs
  exact k _ _ _ (g1.trans (Grow.new R1.src nq)) ⟨q, rfl, g1.free nq, OwnAt.newLst nq rs⟩ hp⟩
theorem em_rgT1 (hc : X.calm = true) (hm : X.mg "tuple" = none) (hm2 : X.mg "range" = none) (ha : PEm X c .ow a ta) (hg : Gl X "tuple" := by rfl) (hg2 : Gl X "range" := by rfl) (na : starEach [a] X.env = (false, eval a X.env) :: starEach [] X.env := by rfl)
    (nr : starEach [.Call (.Name "range" p2) [a] [] pos2] X.env = (false, eval (.Call (.Name "range" p2) [a] [] pos2) X.env) :: starEach [] X.env := by rfl) : PEm X c .cl (.Call (.Name "tuple" p) [.Call (.Name "range" p2) [a] [] pos2] [] pos) (mRgT1 ta) := ⟨(pe_tupRg hc hg hm (prg_1 hg2 hm2 ha.run na) nr).weak fun σ H Q h => by
  obtain ⟨G, A, W, env, P, R, h, k⟩ := h
  refine ⟨G, A, W, env, _, R, h, fun px vx H1 g1 rx ⟨n, e, hr, hp⟩ => ⟨n, by subst e; exact rx.o.int, hr, fun q nq => ?_⟩⟩
  have R1 := R.grow g1
  have rs : Rps X.K ⟨Zt G A W, W, H1⟩ (rngP 0 (n - 0).toNat) (rgV 0 n) := rg_rps
  rw [Int.sub_zero] at rs
  exact k _ _ _ (g1.trans (Grow.new R1.src nq)) (VK1.ofRp (Rp.newTup (R1.nz nq) nq R1.src R.sz rs)) hp⟩
theorem em_rgL2 (hc : X.calm = true) (hm : X.mg "list" = none) (hm2 : X.mg "range" = none) (ha : PEm X c .ow a ta) (hb : PEm X c .ow b tb) (hg : Gl X "list" := by rfl) (hg2 : Gl X "range" := by rfl) (na : starEach [a, b] X.env = (false, eval a X.env) :: starEach [b] X.env := by rfl) (nb : starEach [b] X.env = (false, eval b X.env) :: starEach [] X.env := by rfl)
    (hp : (backTo pos2 (starEach [b] X.env)).any (·.1) = false := by rfl) (nr : starEach [.Call (.Name "range" p2) [a, b] [] pos2] X.env = (false, eval (.Call (.Name "range" p2) [a, b] [] pos2) X.env) :: starEach [] X.env := by rfl) : PEm X c .fr (.Call (.Name "list" p) [.Call (.Name "range" p2) [a, b] [] pos2] [] pos) (mRgL2 ta tb) := ⟨(pe_listRg hc hg hm (prg_2 hg2 hm2 ha.run hb.run na nb hp) nr).weak fun σ H Q h => by
  obtain ⟨G, A, W, env, P, R, h, k⟩ := h
  refine ⟨G, A, W, env, _, R, h, fun px vx H1 g1 rx h1 => ⟨G, A, W, env, _, R.grow g1, h1, fun py vy H2 g2 ry ⟨i, j, e, e2, hr, hp⟩ => ⟨i, j, by subst e; exact rx.o.int, by subst e2; exact ry.o.int, hr, fun q nq => ?_⟩⟩⟩
  have R2 := (R.grow g1).grow g2
  exact k _ _ _ ((g1.trans g2).trans (Grow.new R2.src nq)) ⟨q, rfl, (g1.trans g2).free nq, OwnAt.newLst nq rg_rps⟩ hp⟩
theorem em_rgT2 (hc : X.calm = true) (hm : X.mg "tuple" = none) (hm2 : X.mg "range" = none) (ha : PEm X c .ow a ta) (hb : PEm X c .ow b tb) (hg : Gl X "tuple" := by rfl) (hg2 : Gl X "range" := by rfl) (na : starEach [a, b] X.env = (false, eval a X.env) :: starEach [b] X.env := by rfl) (nb : starEach [b] X.env = (false, eval b X.env) :: starEach [] X.env := by rfl)
    (hp : (backTo pos2 (starEach [b] X.env)).any (·.1) = false := by rfl) (nr : starEach [.Call (.Name "range" p2) [a, b] [] pos2] X.env = (false, eval (.Call (.Name "range" p2) [a, b] [] pos2) X.env) :: starEach [] X.env := by rfl) : PEm X c .cl (.Call (.Name "tuple" p) [.Call (.Name "range" p2) [a, b] [] pos2] [] pos) (mRgT2 ta tb) := ⟨(pe_tupRg hc hg hm (prg_2 hg2 hm2 ha.run hb.run na nb hp) nr).weak fun σ H Q h => by
  obtain ⟨G, A, W, env, P, R, h, k⟩ := h
  refine ⟨G, A, W, env, _, R, h, fun px vx H1 g1 rx h1 => ⟨G, A, W, env, _, R.grow g1, h1, fun py vy H2 g2 ry ⟨i, j, e, e2, hr, hp⟩ => ⟨i, j, by subst e; exact rx.o.int, by subst e2; exact ry.o.int, hr, fun q nq => ?_⟩⟩⟩
  have R2 := (R.grow g1).grow g2
  exact k _ _ _ ((g1.trans g2).trans (Grow.new R2.src nq)) (VK1.ofRp (Rp.newTup (R2.nz nq) nq R2.src R.sz rg_rps)) hp⟩
end
theorem hu65_of {A : Around} {k : Nat} (hr : Room k A) : A.units + 65 < cLine := by have := hr.un; omega
/-! ### x in a line of data -/
def rInA (K : PySem.W.Frag) (neg : Bool) : R2 := fun x y H Q => ∃ d ds, Dp K H x d ∧ (Dp K H y (.list ds) ∨ Dp K H y (.tuple ds)) ∧ SeqAt.shaped d = true ∧ SeqAt.shaped (.list ds) = true ∧ Q (.bl (xor neg (ds.any fun z => PyData.eqv z d))) H
theorem op_inA {X : Cx} (hu : X.A.units + 65 < cLine) : OpR X (compareOp .In) (rInA X.K false) := by
  intro pins s σ H x y v u Q I rx ry h
  obtain ⟨d, ds, hd, he, sd, se, q⟩ := h
  rw [Bool.false_xor] at q
  obtain ⟨as, r1⟩ := Dp.reads I d x v hd rx
  rcases he with he | he
  · obtain ⟨bs, r2⟩ := Dp.reads I (.list ds) y u he ry
    exact SeqAt.in_list_reads r2 r1 (SeqAt.canLay_of_shaped se) (SeqAt.canLay_of_shaped sd) (PyProof.Rows.room_in_shaped sd hu) ⟨.bl _, H, I, rfl, q⟩
  · obtain ⟨bs, r2⟩ := Dp.reads I (.tuple ds) y u he ry
    exact SeqAt.in_tuple_reads r2 r1 (SeqAt.canLay_of_shaped se) (SeqAt.canLay_of_shaped sd) (PyProof.Rows.room_in_shaped sd hu) ⟨.bl _, H, I, rfl, q⟩
theorem op_ninA {X : Cx} (hu : X.A.units + 65 < cLine) : OpR X (compareOp .NotIn) (rInA X.K true) := by
  intro pins s σ H x y v u Q I rx ry h
  obtain ⟨d, ds, hd, he, sd, se, q⟩ := h
  rw [Bool.true_xor] at q
  obtain ⟨as, r1⟩ := Dp.reads I d x v hd rx
  rcases he with he | he
  · obtain ⟨bs, r2⟩ := Dp.reads I (.list ds) y u he ry
    exact SeqAt.notIn_list_reads r2 r1 (SeqAt.canLay_of_shaped se) (SeqAt.canLay_of_shaped sd) (PyProof.Rows.room_in_shaped sd hu) ⟨.bl _, H, I, rfl, q⟩
  · obtain ⟨bs, r2⟩ := Dp.reads I (.tuple ds) y u he ry
    exact SeqAt.notIn_tuple_reads r2 r1 (SeqAt.canLay_of_shaped se) (SeqAt.canLay_of_shaped sd) (PyProof.Rows.room_in_shaped sd hu) ⟨.bl _, H, I, rfl, q⟩
def oInA (neg : Bool) : PO2 := fun x y P => ∃ ps d ds, seqP y = some ps ∧ toD x = some d ∧ toDs ps = some ds ∧ SeqAt.shaped d = true ∧ SeqAt.shaped (.list ds) = true ∧ P (.bl (xor neg (ds.any fun z => PyData.eqv z d)))
theorem lift_inA {K : PySem.W.Frag} {neg : Bool} : Lift2 K (rInA K neg) (oInA neg) .cl := by
  rintro Z W H px py vx vy P Q S rx ry ⟨ps, d, ds, hy, hd, hds, sd, se, hp⟩ k
  refine ⟨d, ds, toD_dpO rx hd, ?_, sd, se, S.fin k Rp.bl' hp⟩
  cases py with
  | lst qs =>
    cases hy
    obtain ⟨a, ws, rfl, e, r⟩ := ry.lst
    exact .inl (.lst (.inl (.inl e.2)) (toDs_dp r hds))
  | tup qs =>
    cases hy
    obtain ⟨a, ws, rfl, e, r⟩ := ry.tup
    exact .inr (.tup e.sq (toDs_dp r hds))
  | _ => cases hy
/-! ### what min and max find -/
theorem argBest_min' {k : Nat → Int} {bt : Nat → Nat → Bool} : ∀ {n : Nat}, (∀ i j, i ≤ n → j ≤ n → k i < k j → bt i j = true) → (∀ i j, i ≤ n → j ≤ n → k j < k i → bt i j = false) → ∀ j, j ≤ n → k (argBest bt n) ≤ k j
  | 0, _, _, j, h => by rw [Nat.le_zero.mp h]; exact Int.le_refl _
  | n + 1, h1, h2, j, h => by
    have ih := argBest_min' (n := n) (fun i j a b => h1 i j (by omega) (by omega)) (fun i j a b => h2 i j (by omega) (by omega))
    have hb := argBest_le bt n
    unfold argBest
    cases e : bt (n + 1) (argBest bt n) with
    | true =>
      rw [if_pos rfl]
      have hle : k (n + 1) ≤ k (argBest bt n) := Int.not_lt.mp fun z => by rw [h2 _ _ (by omega) (by omega) z] at e; cases e
      rcases Nat.lt_or_ge n j with z | z
      · have : j = n + 1 := by omega
        rw [this]; exact Int.le_refl _
      · exact Int.le_trans hle (ih j z)
    | false =>
      rw [if_neg Bool.false_ne_true]
      have hle : k (argBest bt n) ≤ k (n + 1) := Int.not_lt.mp fun z => by rw [h1 _ _ (by omega) (by omega) z] at e; cases e
      rcases Nat.lt_or_ge n j with z | z
      · have : j = n + 1 := by omega
        rw [this]; exact hle
      · exact ih j z
theorem dataLt_hd {a b : Int} {r s : List PyData} (h : a ≠ b) : PySem.W.dataLt (.tuple (.int a :: r)) (.tuple (.int b :: s)) = decide (a < b) := by
  rw [PySem.W.dataLt_tuple, PySem.W.dataLt_all_no (by rfl) (by show (a == b) = false; simpa using h), PySem.W.dataLt_int]
/-- the least by the first part, a whole number -/
theorem bestLt_key {α : Type} {xs : List α} {f : α → PyData} {k : α → Int} (h1 : ∀ x y, k x < k y → PySem.W.dataLt (f x) (f y) = true) (h2 : ∀ x y, k y < k x → PySem.W.dataLt (f x) (f y) = false) (hp : 0 < xs.length) :
    ∃ x, xs[bestLt (xs.map f)]? = some x ∧ x ∈ xs ∧ ∀ y ∈ xs, k x ≤ k y := by
  have hl := bestLt_lt (xs.map f) (by rw [List.length_map]; exact hp)
  rw [List.length_map] at hl
  refine ⟨xs[bestLt (xs.map f)], List.getElem?_eq_getElem hl, List.getElem_mem hl, fun y hy => ?_⟩
  obtain ⟨j, hj, rfl⟩ := List.mem_iff_getElem.mp hy
  have d : α := xs[0]
  have gd : ∀ i (hi : i < xs.length), (xs.map f).getD i .none = f xs[i] := fun i hi => by
    rw [List.getD_eq_getElem?_getD, List.getElem?_map, List.getElem?_eq_getElem hi]; rfl
  have kk : ∀ i (hi : i < xs.length), (xs[i]?.map k).getD 0 = k xs[i] := fun i hi => by rw [List.getElem?_eq_getElem hi]; rfl
  -- beyond the end nothing is asked: the order is made total there
  have main := argBest_min' (n := xs.length - 1) (k := fun i => (xs[i]?.map k).getD 0) (bt := fun i j => PySem.W.dataLt ((xs.map f).getD i .none) ((xs.map f).getD j .none))
    (fun i j hi hj z => by rw [gd i (by omega), gd j (by omega)]; rw [kk i (by omega), kk j (by omega)] at z; exact h1 _ _ z)
    (fun i j hi hj z => by rw [gd i (by omega), gd j (by omega)]; rw [kk i (by omega), kk j (by omega)] at z; exact h2 _ _ z) j (by omega)
  have e : bestLt (xs.map f) = argBest (fun i j => PySem.W.dataLt ((xs.map f).getD i .none) ((xs.map f).getD j .none)) (xs.length - 1) := by unfold bestLt; rw [List.length_map]
  rw [kk j hj, ← e, kk _ hl] at main
  exact main
theorem ite_f {c p q : Prop} {inst : Decidable c} (h : ¬ c) (hq : q) : @ite Prop c inst p q := by rw [if_neg h]; exact hq
theorem ite_t {c p q : Prop} {inst : Decidable c} (h : c) (hp : p) : @ite Prop c inst p q := by rw [if_pos h]; exact hp
end PM

set_option maxHeartbeats 1000000
/-! zip of any two walkers: what is walked may be a list here and a tuple there. -/
namespace L2
open PySem PySem.Spec PyProof.Rows RZ
/-- a walker: its iterator at i over the thing at l -/
structure Wkr (i l : Addr) (It : Nat → Heap → Prop) (Co : Array Value → Heap → Prop) : Prop where
  keepI : ∀ {h g : Heap} {k : Nat}, It k h → (∀ o, h.get? i = some o → g.get? i = some o) → It k g
  keepC : ∀ {h g : Heap} {xs : Array Value}, Co xs h → (∀ o, h.get? l = some o → g.get? l = some o) → Co xs g
  obj : ∀ {h : Heap} {k : Nat}, It k h → ∃ o, h.get? i = some o ∧ ∀ v, o.data ≠ .cell v
  item : ∀ {prog : Program} {w : World} {A : Around} {E : Value → Shared → Prop} {s : Shared} {k : Nat} {x : Value} {xs : Array Value} {Q : Value → Shared → Prop}, It k s.heap → Co xs s.heap → xs[k]? = some x →
    (∀ g, It (k + 1) g → Heap.SameBut i s.heap g → Q x { s with heap := g }) → wpAny (model prog w) A (Builtin.SmallTypes.nextOf (.ref i)) Q E s
  fin : ∀ {prog : Program} {w : World} {A : Around} {E : Value → Shared → Prop} {s : Shared} {k : Nat} {xs : Array Value} {Q : Value → Shared → Prop}, A.handled = none → It k s.heap → Co xs s.heap → xs[k]? = none →
    (∀ g e, Heap.ExtBut i s.heap g → (∃ o, g.get? e = some o ∧ o.cls = .type "StopIteration") → E (.ref e) { s with heap := g }) → wpAny (model prog w) A (Builtin.SmallTypes.nextOf (.ref i)) Q E s
theorem wkr_list {i l : Addr} : Wkr i l (fun k h => h.IsListIter i l k) (fun xs h => h.IsList l xs) where
  keepI := fun a f => a.at f
  keepC := fun ⟨o, ho, r⟩ g => ⟨o, g _ ho, r⟩
  obj := fun ⟨o, e, _, d⟩ => ⟨o, e, fun v q => by rw [d] at q; cases q⟩
  item := fun a b hx hq => wpAny_nextOf_list_item a b hx hq
  fin := fun hh a b hx hq => wpAny_nextOf_list_end hh a b hx hq
theorem wkr_tup {i l : Addr} : Wkr i l (fun k h => h.IsTupleIter i l k) (fun xs h => h.IsTuple l xs) where
  keepI := fun a f => a.at f
  keepC := fun ⟨o, ho, r⟩ g => ⟨o, g _ ho, r⟩
  obj := fun ⟨o, e, _, d⟩ => ⟨o, e, fun v q => by rw [d] at q; cases q⟩
  item := fun a b hx hq => nextOf_tuple_item a b hx hq
  fin := fun hh a b hx hq => nextOf_tuple_end hh a b hx hq
section
variable {prog : Program} {w : World} {A : Around} {E : Value → Shared → Prop} {s : Shared} {z TI TO i j l m : Addr} {I J : Nat → Heap → Prop} {C D : Array Value → Heap → Prop} {k n : Nat} {xs ys : Array Value} {a b : Value}
theorem zipW_item {x y : Value} {Q : Value → Shared → Prop} (P : ZipApart z TI TO i j l m) (U : Wkr i l I C) (V : Wkr j m J D) (fz : IsZip s.heap z TI TO .none) (fI : IsPair s.heap TI (.ref i) (.ref j)) (fO : IsPair s.heap TO a b)
    (st1 : I k s.heap) (st2 : J n s.heap) (co1 : C xs s.heap) (co2 : D ys s.heap) (ex : xs[k]? = some x) (ey : ys[n]? = some y)
    (K : ∀ g, IsZip g z TI TO (rawInt s.heap.objs.size) → IsPair g TO x y → I (k + 1) g → J (n + 1) g → IsPair g s.heap.objs.size x y → g.objs.size = s.heap.objs.size + 1 → (∀ c o, c ≠ z → c ≠ TO → c ≠ i → c ≠ j → s.heap.get? c = some o → g.get? c = some o) → Q (.ref s.heap.objs.size) { s with heap := g }) :
    wpAny (model prog w) A (Builtin.«zip.__next__» ⟨[.ref z], []⟩) (fun r t => ∃ v, r = .done (.ret v) ∧ Q v t) E s := by
  show wpAny _ A (field (.ref z) 2 >>= _) _ E s
  refine wpAny_bind (wpAny_field fz rfl (x := .bool false) rfl ?_)
  show wpAny _ A (field (.ref z) 3 >>= _) _ E s
  refine wpAny_bind (wpAny_field fz rfl (x := .ref TI) rfl (wpAny_bind (wpAny_seqItems fI rfl ?_)))
  show wpAny _ A (Builtin.SmallTypes.ownedTupleIsFree (.ref z) >>= _) _ E s
  unfold Builtin.SmallTypes.ownedTupleIsFree
  refine wpAny_bind (wpAny_bind (wpAny_field fz rfl (x := .none) rfl (wpAny_pure ?_)))
  simp only [if_true]
  refine wpAny_bind (wpAny_rule (wpAny_bind (wpAny_field fz rfl (x := .ref TO) rfl (wpAny_bind (wpAny_setField_rec fz (by simp) fun g1 gz1 b1 => ?_)))))
  replace gz1 : IsZip g1 z TI TO .ellipsis := gz1
  refine wpAny_bind ?_
  simp only [List.zipIdx_cons, List.zipIdx_nil, List.forIn_cons, List.forIn_nil]
  refine wpAny_bind (wpAny_bind (wpAny_onRaise ?_))
  show wpAny _ A (Builtin.SmallTypes.nextOf (.ref i) >>= _) _ _ _
  have k1 : ∀ c o, c ≠ z → s.heap.get? c = some o → g1.get? c = some o := fun c o h e => b1.extBut _ _ h e
  refine wpAny_bind (U.item (U.keepI st1 fun o => k1 _ o P.i1z) (U.keepC co1 fun o => k1 _ o P.l1z) ex fun g2 st1' b2 => wpAny_pure ?_)
  have k2 : ∀ c o, c ≠ i → g1.get? c = some o → g2.get? c = some o := fun c o h e => b2.extBut _ _ h e
  have fO2 : IsPair g2 TO a b := k2 _ _ P.TOi1 (k1 _ _ P.TOz fO)
  refine wpAny_bind (wpAny_seqItems fO2 rfl (wpAny_bind (wpAny_updateSeq_pair fO2 fun g3 fO3 b3 => ?_)))
  replace fO3 : IsPair g3 TO x b := fO3
  have k3 : ∀ c o, c ≠ TO → g2.get? c = some o → g3.get? c = some o := fun c o h e => b3.extBut _ _ h e
  refine wpAny_bind (wpAny_letGo (wpAny_pure (wpAny_bind (wpAny_bind (wpAny_onRaise ?_)))))
  show wpAny _ A (Builtin.SmallTypes.nextOf (.ref j) >>= _) _ _ _
  refine wpAny_bind (V.item (V.keepI st2 fun o e => k3 _ o P.TOi2.symm (k2 _ o P.i12.symm (k1 _ o P.i2z e))) (V.keepC co2 fun o e => k3 _ o P.l2TO (k2 _ o P.l2i1 (k1 _ o P.l2z e))) ey fun g4 st2' b4 => wpAny_pure ?_)
  have k4 : ∀ c o, c ≠ j → g3.get? c = some o → g4.get? c = some o := fun c o h e => b4.extBut _ _ h e
  have fO4 : IsPair g4 TO x b := k4 _ _ P.TOi2 fO3
  refine wpAny_bind (wpAny_seqItems fO4 rfl (wpAny_bind (wpAny_updateSeq_pair fO4 fun g5 fO5 b5 => ?_)))
  replace fO5 : IsPair g5 TO x y := fO5
  have k5 : ∀ c o, c ≠ TO → g4.get? c = some o → g5.get? c = some o := fun c o h e => b5.extBut _ _ h e
  refine wpAny_bind (wpAny_letGo (wpAny_pure (wpAny_pure (wpAny_bind (wpAny_seqItems fO5 rfl (wpAny_bind (wpAny_newTuple ?_)))))))
  have sz : g5.objs.size = s.heap.objs.size := by rw [b5.1, b4.1, b3.1, b2.1, b1.1]
  have gz5 : IsZip g5 z TI TO .ellipsis := k5 _ _ P.TOz.symm (k4 _ _ P.i2z.symm (k3 _ _ P.TOz.symm (k2 _ _ P.i1z.symm gz1)))
  have zl : z < g5.objs.size := Heap.lt_size gz5
  show wpAny _ A (Builtin.SmallTypes.ownedTupleHandOut (.ref z) (.ref g5.objs.size) >>= _) _ E _
  unfold Builtin.SmallTypes.ownedTupleHandOut
  refine wpAny_bind ?_
  have gz6 : IsZip (g5.push { cls := .type "tuple", data := .seq #[x, y] }) z TI TO .ellipsis := Heap.get?_push_of_some _ gz5
  refine wpAny_bind (wpAny_setField_rec gz6 (by simp) fun g7 gz7 b7 => ?_)
  replace gz7 : IsZip g7 z TI TO (rawInt g5.objs.size) := gz7
  refine wpAny_setField_rec gz7 (by simp) fun g8 gz8 b8 => ?_
  replace gz8 : IsZip g8 z TI TO (rawInt g5.objs.size) := gz8
  have k8 : ∀ c o, c ≠ z → g5.get? c = some o → g8.get? c = some o := fun c o h e => b8.extBut _ _ h (b7.extBut _ _ h (Heap.get?_push_of_some _ e))
  have nw : IsPair g8 g5.objs.size x y := b8.extBut _ _ (Nat.ne_of_gt zl) (b7.extBut _ _ (Nat.ne_of_gt zl) (Heap.get?_push_size _ rfl))
  have sz8 : g8.objs.size = g5.objs.size + 1 := by rw [b8.1, b7.1, Heap.size_push]
  rw [sz] at gz8 nw sz8
  refine wpAny_pure ⟨_, rfl, ?_⟩
  show Q (.ref g5.objs.size) { s with heap := g8 }
  rw [sz]
  refine K g8 gz8 (k8 _ _ P.TOz fO5) (U.keepI st1' fun o e => k8 _ o P.i1z (k5 _ o P.TOi1.symm (k4 _ o P.i12 (k3 _ o P.TOi1.symm e)))) (V.keepI st2' fun o e => k8 _ o P.i2z (k5 _ o P.TOi2.symm e)) nw sz8 fun c o n1 n2 n3 n4 e => ?_
  exact k8 _ o n1 (k5 _ o n2 (k4 _ o n4 (k3 _ o n2 (k2 _ o n3 (k1 _ o n1 e)))))
theorem zipW_fin {Q : Fin → Shared → Prop} (hh : A.handled = none) (P : ZipApart z TI TO i j l m) (U : Wkr i l I C) (V : Wkr j m J D) (fz : IsZip s.heap z TI TO .none) (fI : IsPair s.heap TI (.ref i) (.ref j)) (fO : IsPair s.heap TO a b)
    (st1 : I k s.heap) (st2 : J n s.heap) (co1 : C xs s.heap) (co2 : D ys s.heap) (en : xs[k]? = none ∨ ys[n]? = none)
    (K : ∀ g e, (∀ c o, c ≠ z → c ≠ TO → c ≠ i → c ≠ j → s.heap.get? c = some o → g.get? c = some o) → (∃ o, g.get? e = some o ∧ o.cls = .type "StopIteration") → E (.ref e) { s with heap := g }) :
    wpAny (model prog w) A (Builtin.«zip.__next__» ⟨[.ref z], []⟩) Q E s := by
  show wpAny _ A (field (.ref z) 2 >>= _) _ E s
  refine wpAny_bind (wpAny_field fz rfl (x := .bool false) rfl ?_)
  show wpAny _ A (field (.ref z) 3 >>= _) _ E s
  refine wpAny_bind (wpAny_field fz rfl (x := .ref TI) rfl (wpAny_bind (wpAny_seqItems fI rfl ?_)))
  show wpAny _ A (Builtin.SmallTypes.ownedTupleIsFree (.ref z) >>= _) _ E s
  unfold Builtin.SmallTypes.ownedTupleIsFree
  refine wpAny_bind (wpAny_bind (wpAny_field fz rfl (x := .none) rfl (wpAny_pure ?_)))
  simp only [if_true]
  refine wpAny_bind (wpAny_rule (wpAny_bind (wpAny_field fz rfl (x := .ref TO) rfl (wpAny_bind (wpAny_setField_rec fz (by simp) fun g1 gz1 b1 => ?_)))))
  replace gz1 : IsZip g1 z TI TO .ellipsis := gz1
  refine wpAny_bind ?_
  simp only [List.zipIdx_cons, List.zipIdx_nil, List.forIn_cons, List.forIn_nil]
  refine wpAny_bind (wpAny_bind (wpAny_onRaise ?_))
  show wpAny _ A (Builtin.SmallTypes.nextOf (.ref i) >>= _) _ _ _
  have k1 : ∀ c o, c ≠ z → s.heap.get? c = some o → g1.get? c = some o := fun c o h e => b1.extBut _ _ h e
  cases ex : xs[k]? with
  | none =>
    refine wpAny_bind (U.fin hh (U.keepI st1 fun o => k1 _ o P.i1z) (U.keepC co1 fun o => k1 _ o P.l1z) ex fun g2 e b2 he => ?_)
    obtain ⟨oe, e1, e2⟩ := he
    have gz2 : IsZip g2 z TI TO .ellipsis := b2 _ _ P.i1z.symm gz1
    have ne : e ≠ z := fun q => by subst q; rw [gz2] at e1; cases e1; simp at e2
    exact wpAny_setField_rec gz2 (by simp) fun g3 _ b3 => K g3 e (fun c o n1 _ n3 _ h => b3.extBut _ _ n1 (b2 _ _ n3 (k1 _ o n1 h))) ⟨oe, b3.extBut _ _ ne e1, e2⟩
  | some x =>
    have ey : ys[n]? = none := en.elim (fun q => by rw [ex] at q; cases q) id
    refine wpAny_bind (U.item (U.keepI st1 fun o => k1 _ o P.i1z) (U.keepC co1 fun o => k1 _ o P.l1z) ex fun g2 st1' b2 => wpAny_pure ?_)
    have k2 : ∀ c o, c ≠ i → g1.get? c = some o → g2.get? c = some o := fun c o h e => b2.extBut _ _ h e
    have fO2 : IsPair g2 TO a b := k2 _ _ P.TOi1 (k1 _ _ P.TOz fO)
    refine wpAny_bind (wpAny_seqItems fO2 rfl (wpAny_bind (wpAny_updateSeq_pair fO2 fun g3 fO3 b3 => ?_)))
    have k3 : ∀ c o, c ≠ TO → g2.get? c = some o → g3.get? c = some o := fun c o h e => b3.extBut _ _ h e
    refine wpAny_bind (wpAny_letGo (wpAny_pure (wpAny_bind (wpAny_bind (wpAny_onRaise ?_)))))
    show wpAny _ A (Builtin.SmallTypes.nextOf (.ref j) >>= _) _ _ _
    refine wpAny_bind (V.fin hh (V.keepI st2 fun o e => k3 _ o P.TOi2.symm (k2 _ o P.i12.symm (k1 _ o P.i2z e))) (V.keepC co2 fun o e => k3 _ o P.l2TO (k2 _ o P.l2i1 (k1 _ o P.l2z e))) ey fun g4 e b4 he => ?_)
    obtain ⟨oe, e1, e2⟩ := he
    have gz4 : IsZip g4 z TI TO .ellipsis := b4 _ _ P.i2z.symm (k3 _ _ P.TOz.symm (k2 _ _ P.i1z.symm gz1))
    have ne : e ≠ z := fun q => by subst q; rw [gz4] at e1; cases e1; simp at e2
    exact wpAny_setField_rec gz4 (by simp) fun g5 _ b5 => K g5 e (fun c o n1 n2 n3 n4 h => b5.extBut _ _ n1 (b4 _ _ n4 (k3 _ o n2 (k2 _ o n3 (k1 _ o n1 h))))) ⟨oe, b5.extBut _ _ ne e1, e2⟩
end
/-! ### a tuple and a list -/
def zM1 (h : Heap) (l : Addr) : Heap := h.push { cls := .type "tuple_iterator", data := .fields #[.ref l, .int 0 0] }
def zM2 (h : Heap) (l m : Addr) : Heap := (zM1 h l).push { cls := .type "list_iterator", data := .fields #[.ref m, .int 0 0] }
def zM3 (h : Heap) (l m : Addr) : Heap := (zM2 h l m).push { cls := .type "tuple", data := .seq #[.ref h.objs.size, .ref (zM1 h l).objs.size] }
def zM4 (h : Heap) (l m : Addr) : Heap := (zM3 h l m).push { cls := .type "tuple", data := .seq #[.none, .none] }
def zM5 (h : Heap) (l m : Addr) : Heap := (zM4 h l m).push { cls := .type "zip", data := .fields #[.none, .bool false, .bool false, .ref (zM2 h l m).objs.size, .ref (zM3 h l m).objs.size] }
theorem meets_zM (l m : Addr) (xs ys : Array Value) :
    Meets (Builtin.«zip.__new__» ⟨[.type "zip", .ref l, .ref m], []⟩) (fun _ R t => t.heap.IsTuple l xs ∧ t.heap.IsList m ys ∧ R (.ok (.ret (.ref (zM4 t.heap l m).objs.size))) { t with heap := zM5 t.heap l m }) :=
  .of_wp fun prog w A R t q => by
    obtain ⟨hp, g, d, tk, os⟩ := t
    obtain ⟨q1, q2, q⟩ := q
    have hsub := sub_zip
    have f1 : Heap.IsTuple (Shared.heap ⟨hp, g, d, tk, os⟩) l xs := q1
    have f2 : Heap.IsList (Shared.heap ⟨hp.push { cls := .type "tuple_iterator", data := .fields #[.ref l, .int 0 0] }, g, d, tk, os⟩) m ys := Heap.IsList.push q2 _
    wp_walk using wpAny_pyIter_tuple f1, wpAny_pyIter_list f2
    exact ⟨_, rfl, q⟩
section
variable {prog : Program} {w : World} {A : Around} {E : Value → Shared → Prop} {s : Shared}
theorem call_zM {l m : Addr} {xs ys : Array Value} {Q : Value → Shared → Prop} (q1 : s.heap.IsTuple l xs) (q2 : s.heap.IsList m ys)
    (K : ∀ g, IsZip g (s.heap.objs.size + 4) (s.heap.objs.size + 2) (s.heap.objs.size + 3) .none → IsPair g (s.heap.objs.size + 2) (.ref s.heap.objs.size) (.ref (s.heap.objs.size + 1)) → IsPair g (s.heap.objs.size + 3) .none .none →
      g.IsTupleIter s.heap.objs.size l 0 → g.IsListIter (s.heap.objs.size + 1) m 0 → g.objs.size = s.heap.objs.size + 5 → (∀ c o, s.heap.get? c = some o → g.get? c = some o) → Q (.ref (s.heap.objs.size + 4)) { s with heap := g }) :
    wpAny (model prog w) A (call (.type "zip") [.ref l, .ref m]) Q E s := by
  refine callType_new F.called_zip (by decide) (F.typeCall_zip_2 _ _) (F.newCall_zip_2 _ _) (fun o => F.args_object_init_3 o _ _) F.entry_zip_new (meets_zM l m xs ys) ⟨q1, q2, ?_⟩
  have n1 : (zM1 s.heap l).objs.size = s.heap.objs.size + 1 := Heap.size_push ..
  have n2 : (zM2 s.heap l m).objs.size = s.heap.objs.size + 2 := by unfold zM2; rw [Heap.size_push, n1]
  have n3 : (zM3 s.heap l m).objs.size = s.heap.objs.size + 3 := by unfold zM3; rw [Heap.size_push, n2]
  have n4 : (zM4 s.heap l m).objs.size = s.heap.objs.size + 4 := by unfold zM4; rw [Heap.size_push, n3]
  have n5 : (zM5 s.heap l m).objs.size = s.heap.objs.size + 5 := by unfold zM5; rw [Heap.size_push, n4]
  have u5 : ∀ {c o}, (zM4 s.heap l m).get? c = some o → (zM5 s.heap l m).get? c = some o := fun e => Heap.get?_push_of_some _ e
  have u4 : ∀ {c o}, (zM3 s.heap l m).get? c = some o → (zM5 s.heap l m).get? c = some o := fun e => u5 (Heap.get?_push_of_some _ e)
  have u3 : ∀ {c o}, (zM2 s.heap l m).get? c = some o → (zM5 s.heap l m).get? c = some o := fun e => u4 (Heap.get?_push_of_some _ e)
  have u2 : ∀ {c o}, (zM1 s.heap l).get? c = some o → (zM5 s.heap l m).get? c = some o := fun e => u3 (Heap.get?_push_of_some _ e)
  have u1 : ∀ {c o}, s.heap.get? c = some o → (zM5 s.heap l m).get? c = some o := fun e => u2 (Heap.get?_push_of_some _ e)
  have g5 : (zM5 s.heap l m).get? (zM4 s.heap l m).objs.size = some _ := Heap.get?_push_size _ rfl
  have g4 : (zM5 s.heap l m).get? (zM3 s.heap l m).objs.size = some _ := u5 (Heap.get?_push_size _ rfl)
  have g3 : (zM5 s.heap l m).get? (zM2 s.heap l m).objs.size = some _ := u4 (Heap.get?_push_size _ rfl)
  have g2 : (zM5 s.heap l m).get? (zM1 s.heap l).objs.size = some _ := u3 (Heap.get?_push_size _ rfl)
  have g1 : (zM5 s.heap l m).get? s.heap.objs.size = some _ := u2 (Heap.get?_push_size _ rfl)
  rw [n2, n3, n4] at g5
  rw [n1, n2] at g3
  rw [n3] at g4
  rw [n1] at g2
  rw [n4]
  exact ⟨⟨_, g5, rfl⟩, K _ g5 g3 g4 ⟨_, g1, rfl, rfl⟩ ⟨_, g2, rfl, rfl⟩ n5 fun c o e => u1 e⟩
end
/-- a zip as it stands ahead of a turn -/
def zSt (z TI TO i j : Addr) (I J : Nat → Heap → Prop) (k : Nat) (h : Heap) : Prop := IsZip h z TI TO .none ∧ IsPair h TI (.ref i) (.ref j) ∧ (∃ x y, IsPair h TO x y) ∧ I k h ∧ J k h
/-- the line at a -/
abbrev LnOf (lst : Bool) (K : PySem.W.Frag) (H : Hp) (a : Addr) (xs : List V) : Prop := match lst with
  | true => SqL K H a xs
  | false => SqT K H a xs
def ItzW (p q : Bool) (K : PySem.W.Frag) (a b : Addr) : It :=
  ⟨fun k H => ∃ (xs ys : List V) (x y : V), LnOf p K H a xs ∧ LnOf q K H b ys ∧ xs[k]? = some x ∧ ys[k]? = some y,
    fun k H v H' => ∃ T x y, v = .ref T ∧ H T = none ∧ H' = upd H T (.tup [x, y]) ∧ (∀ xs, LnOf p K H a xs → xs[k]? = some x) ∧ ∀ ys, LnOf q K H b ys → ys[k]? = some y,
    fun k H => ∃ xs ys : List V, LnOf p K H a xs ∧ LnOf q K H b ys ∧ (xs.length ≤ k ∨ ys.length ≤ k)⟩
theorem turn_zipW {P : Program} {w : World} {K : PySem.W.Frag} {elts : List Expr} {kk : Nat} {tpos : Pos} {p q : Bool} {a b z TI TO i j : Addr} {I J : Nat → Heap → Prop} {C D : Array Value → Heap → Prop} (ap : ZipApart z TI TO i j a b) (U : Wkr i a I C) (V : Wkr j b J D)
    (hC : ∀ (X : Cx) (pins : List (Addr × Obj)) (σ : St) (H : Hp) (s : Shared), Inv X pins σ H s → ∀ xs, LnOf p X.K H a xs → ∃ its : List Value, Vals xs its ∧ C its.toArray s.heap)
    (hD : ∀ (X : Cx) (pins : List (Addr × Obj)) (σ : St) (H : Hp) (s : Shared), Inv X pins σ H s → ∀ xs, LnOf q X.K H b xs → ∃ its : List Value, Vals xs its ∧ D its.toArray s.heap) :
    Turn P w K (.Tuple elts kk tpos) (ItzW p q K a b) [z, TI, TO, i, j] z (zSt z TI TO i j I J) where
  mem := List.mem_cons_self ..
  obj := fun k h ⟨fz, fI, ⟨x, y, fO⟩, s1, s2⟩ c hc => by
    rw [List.mem_cons, List.mem_cons, List.mem_cons, List.mem_cons, List.mem_singleton] at hc
    rcases hc with e | e | e | e | e
    · rw [e]; exact ⟨_, fz, fun v q => nomatch q⟩
    · rw [e]; exact ⟨_, fI, fun v q => nomatch q⟩
    · rw [e]; exact ⟨_, fO, fun v q => nomatch q⟩
    · rw [e]; exact U.obj s1
    · rw [e]; exact V.obj s2
  keep := fun k h g ⟨fz, fI, ⟨x, y, fO⟩, s1, s2⟩ f => ⟨f z (by simp) _ fz, f TI (by simp) _ fI, ⟨x, y, f TO (by simp) _ fO⟩, U.keepI s1 fun o => f i (by simp) o, V.keepI s2 fun o => f j (by simp) o⟩
  item := by
    intro X e1 e2 e3 hc k pins s σ H E Iv fp ⟨fz, fI, ⟨x0, y0, fO⟩, s1, s2⟩ ⟨xs, ys, x, y, lx, ly, gx, gy⟩
    subst e1 e2 e3
    obtain ⟨its, rv, co1⟩ := hC X pins σ H s Iv xs lx
    obtain ⟨its2, rv2, co2⟩ := hD X pins σ H s Iv ys ly
    obtain ⟨u, hu, ru⟩ := rv.get gx
    obtain ⟨u2, hu2, ru2⟩ := rv2.get gy
    have zl : z < s.heap.objs.size := Heap.lt_size fz
    have ty : s.TypeIs (.ref z) "zip" := ⟨_, fz, rfl⟩
    unfold pyNext
    refine wpAny_bind (wpAny_attempt (wpAny_callSpecial?_slot (name := Str.ofString "__next__") ty F.slot_zip_next (wpAny_call_entry F.slot_zip_next ty F.entry_zip_next
      (zipW_item ap U V fz fI fO s1 s2 co1 co2 (x := u) (y := u2) (by simpa using hu) (by simpa using hu2) fun g gz gO g1 g2 gT sz gk => wpAny_pure ?_) (F.args_zip_next_1 _))))
    refine ⟨_, rfl, wpAny_letOwnedTupleGo_zip (s := { s with heap := g }) gz fun f fz' sb => ?_⟩
    have gT2 : f.get? s.heap.objs.size = some { cls := .type "tuple", data := .seq #[u, u2] } := (sb.2 _ (Nat.ne_of_gt zl)).trans gT
    have nw : ObjOk X.prog X.w (upd H s.heap.objs.size (.tup [x, y])) f s.heap.objs.size (.tup [x, y]) := ⟨(by decide : 2 ≤ sizeLine), [u, u2], .cons ru (.cons ru2 .nil), ⟨_, gT2, rfl, _, rfl⟩⟩
    have stay : ∀ c o, c ∉ [z, TI, TO, i, j] → s.heap.get? c = some o → f.get? c = some o := fun c o hb e => by
      have n1 : c ≠ z := fun r => hb (by rw [r]; simp)
      exact (sb.2 c n1).trans (gk c o n1 (fun r => hb (by rw [r]; simp)) (fun r => hb (by rw [r]; simp)) (fun r => hb (by rw [r]; simp)) e)
    have I1 : Inv X pins σ (upd H s.heap.objs.size (.tup [x, y])) { s with heap := f } := Iv.turnedNew (t' := s.toks) (ch := [z, TI, TO, i, j]) (fun c o hb e => stay c o hb e) fp (Nat.le_refl _) nw
    have fO' : IsPair f TO u u2 := (sb.2 _ ap.TOz).trans gO
    have fI' : IsPair f TI (.ref i) (.ref j) := (sb.2 _ ap.TIz).trans (gk _ _ ap.TIz ap.TITO ap.TIi1 ap.TIi2 fI)
    have lt : ∀ c ∈ [z, TI, TO, i, j], c < s.heap.objs.size := fun c hc2 => by
      rw [List.mem_cons, List.mem_cons, List.mem_cons, List.mem_cons, List.mem_singleton] at hc2
      rcases hc2 with e | e | e | e | e
      · rw [e]; exact zl
      · rw [e]; exact Heap.lt_size fI
      · rw [e]; exact Heap.lt_size fO
      · obtain ⟨o, ho, _⟩ := U.obj s1; rw [e]; exact Heap.lt_size ho
      · obtain ⟨o, ho, _⟩ := V.obj s2; rw [e]; exact Heap.lt_size ho
    refine ⟨.ref s.heap.objs.size, _, I1, rfl, ⟨_, x, y, rfl, Iv.hok.fresh (Nat.le_refl _), rfl, fun xs' h' => ?_, fun ys' h' => ?_⟩, ⟨fz', fI', ⟨_, _, fO'⟩, U.keepI g1 fun o e => (sb.2 _ ap.i1z).trans e, V.keepI g2 fun o e => (sb.2 _ ap.i2z).trans e⟩, fun c hc2 => ?_⟩
    · cases p with
      | true => rw [Iv.list_inj h' lx]; exact gx
      | false => rw [Iv.tuple_inj h' lx]; exact gx
    · cases q with
      | true => rw [Iv.list_inj h' ly]; exact gy
      | false => rw [Iv.tuple_inj h' ly]; exact gy
    · rw [upd_ne (Nat.ne_of_lt (lt c hc2))]
      exact (fp c hc2).1
  done := by
    intro X e1 e2 e3 hc k pins s σ H E Iv fp ⟨fz, fI, ⟨x0, y0, fO⟩, s1, s2⟩ ⟨xs, ys, lx, ly, en⟩
    subst e1 e2 e3
    obtain ⟨its, rv, co1⟩ := hC X pins σ H s Iv xs lx
    obtain ⟨its2, rv2, co2⟩ := hD X pins σ H s Iv ys ly
    have l1 := rv.length
    have l2 := rv2.length
    have en' : its.toArray[k]? = none ∨ its2.toArray[k]? = none := en.imp (fun q => by simp; omega) fun q => by simp; omega
    have ty : s.TypeIs (.ref z) "zip" := ⟨_, fz, rfl⟩
    unfold pyNext
    refine wpAny_bind (wpAny_attempt (wpAny_callSpecial?_slot (name := Str.ofString "__next__") ty F.slot_zip_next (wpAny_call_entry F.slot_zip_next ty F.entry_zip_next
      (zipW_fin (Iv.ok.hd hc) ap U V fz fI fO s1 s2 co1 co2 en' fun g e gk he => ?_) (F.args_zip_next_1 _))))
    obtain ⟨o, ho, hcl⟩ := he
    refine wpAny_bind (wpAny_isInstance (T := "StopIteration") (b := true) ⟨o, ho, hcl⟩ isSubtype_stop (wpAny_pure ⟨rfl, ?_⟩))
    exact Iv.turnedL (t' := s.toks) (ch := [z, TI, TO, i, j]) (fun c o hb e => gk c o (fun r => hb (by rw [r]; simp)) (fun r => hb (by rw [r]; simp)) (fun r => hb (by rw [r]; simp)) (fun r => hb (by rw [r]; simp)) e) fp
  self := fun A k s Q E st h => wpAny_pyIter_zip st.1 h
theorem co_list {X : Cx} {pins : List (Addr × Obj)} {σ : St} {H : Hp} {s : Shared} {a : Addr} (Iv : Inv X pins σ H s) (xs : List V) (h : LnOf true X.K H a xs) : ∃ its : List Value, Vals xs its ∧ s.heap.IsList a its.toArray := by
  obtain ⟨its, rv, p, _⟩ := Iv.list h
  exact ⟨its, rv, p.isList⟩
theorem co_tup {X : Cx} {pins : List (Addr × Obj)} {σ : St} {H : Hp} {s : Shared} {a : Addr} (Iv : Inv X pins σ H s) (xs : List V) (h : LnOf false X.K H a xs) : ∃ its : List Value, Vals xs its ∧ s.heap.IsTuple a its.toArray := by
  obtain ⟨its, rv, p, _⟩ := Iv.tuple h
  exact ⟨its, rv, p⟩
/-- zip(a tuple, a list) -/
def iZipM (K : PySem.W.Frag) (ta : TA) : TI := fun σ H R => ta σ H fun vs H1 => ∃ a b xs ys, vs = [.ref a, .ref b] ∧ SqT K H1 a xs ∧ SqL K H1 b ys ∧ R (ItzW false true K a b) H1
theorem pi_zipM {X : Cx} {e e2 : Expr} {ta : TA} {p pos tpos : Pos} {elts : List Expr} {kk : Nat} (hg : Gl X "zip") (hm : X.mg "zip" = none) (ha : PA X [e, e2] ta) (hs : starEach [e, e2] X.env = (false, eval e X.env) :: starEach [e2] X.env) (hpl : (backTo pos (starEach [e2] X.env)).any (·.1) = false) :
    PI X (.Tuple elts kk tpos) (.Call (.Name "zip" p) [e, e2] [] pos) (iZipM X.K ta) := ⟨fun pins s σ H R Iv h => by
  refine Call_ (ld_blt Iv hg hm PyProof.Rows.boot_zip (PyProof.Rows.callWith_type1 (thn (ha.run pos pins s σ H _ Iv h) fun us s1 ⟨vs, H1, I1, r1, q1⟩ => ?_) hs hpl))
  obtain ⟨a, b, xs, ys, ex, lx, ly, q⟩ := q1
  subst ex
  cases r1 with
  | cons r rr => cases rr with
    | cons r' rr =>
      cases rr
      cases r
      cases r'
      obtain ⟨its, rv, p1⟩ := co_tup I1 xs lx
      obtain ⟨its2, rv2, p2⟩ := co_list I1 ys ly
      have al : a < s1.heap.objs.size := by obtain ⟨o, ho, _⟩ := id p1; exact Heap.lt_size ho
      have bl : b < s1.heap.objs.size := by obtain ⟨o, ho, _⟩ := id p2; exact Heap.lt_size ho
      have fp : ∀ c, c ∈ [s1.heap.objs.size + 4, s1.heap.objs.size + 2, s1.heap.objs.size + 3, s1.heap.objs.size, s1.heap.objs.size + 1] → FpOk X pins H1 c := fun c hc => by
        have le : s1.heap.objs.size ≤ c := by
          rw [List.mem_cons, List.mem_cons, List.mem_cons, List.mem_cons, List.mem_singleton] at hc
          rcases hc with e | e | e | e | e
          · rw [e]; exact Nat.le_add_right _ _
          · rw [e]; exact Nat.le_add_right _ _
          · rw [e]; exact Nat.le_add_right _ _
          · rw [e]; exact Nat.le_refl _
          · rw [e]; exact Nat.le_add_right _ _
        exact I1.fpOk le (I1.hok.fresh le)
      refine call_zM p1 p2 fun g gz gI gO g1 g2 sz gk => wpAny_pyIter_zip gz ?_
      have I2 : Inv X pins σ H1 { s1 with heap := g } := I1.kept (t' := s1.toks) gk
      exact ⟨s1.heap.objs.size + 4, [s1.heap.objs.size + 4, s1.heap.objs.size + 2, s1.heap.objs.size + 3, s1.heap.objs.size, s1.heap.objs.size + 1], _, _, H1, rfl, I2,
        turn_zipW (PySem.W.ktu_apart s1.heap.objs.size a b al bl) wkr_tup wkr_list (fun _ _ _ _ _ Iw => co_tup Iw) (fun _ _ _ _ _ Iw => co_list Iw), ⟨gz, gI, ⟨_, _, gO⟩, g1, g2⟩, fp, q⟩⟩
theorem walk_zipW {K : PySem.W.Frag} {a b : Addr} {xs ys : List V} {n : Nat} (hn : n = min xs.length ys.length) : Walk (ItzW false true K a b) n (fun H => SqT K H a xs ∧ SqL K H b ys) (YPair (fun i => xs[i]?) (fun i => ys[i]?)) := by
  subst hn
  refine ⟨fun i _ hi q => ?_, fun _ q => ⟨xs, ys, q.1, q.2, by omega⟩, fun i H v H' _ q y => ?_⟩
  · have u1 : i < xs.length := by omega
    have u2 : i < ys.length := by omega
    exact ⟨xs, ys, xs[i], ys[i], q.1, q.2, List.getElem?_eq_getElem u1, List.getElem?_eq_getElem u2⟩
  · obtain ⟨T, x, z, f1, f2, f3, f4, f5⟩ := y
    exact ⟨T, x, z, f1, f2, f3, f4 xs q.1, f5 ys q.2⟩
end L2
namespace PM
open PySem L2
/-- zip of a tuple and a list -/
def mZipM (te te2 : TEm) : TIm := fun env P => te env fun x => te2 env fun y => ∃ ps qs, x = .tup ps ∧ y = .lst qs ∧ P (zipP ps qs)
theorem im_zipM {X : Cx} {c : List Ow} {e e2 : Expr} {te te2 : TEm} {p pos tpos : Pos} {elts : List Expr} {kk : Nat} (hm : X.mg "zip" = none) (he : PEm X c .cl e te) (he2 : PEm X c .cl e2 te2) (hg : Gl X "zip" := by rfl) (hs0 : starEach [e, e2] X.env = (false, eval e X.env) :: starEach [e2] X.env := by rfl) (hs1 : starEach [e2] X.env = (false, eval e2 X.env) :: starEach [] X.env := by rfl)
    (hs2 : (backTo pos (starEach [e2] X.env)).any (·.1) = false := by rfl) : PIm X c none (.Tuple elts kk tpos) (.Call (.Name "zip" p) [e, e2] [] pos) (mZipM te te2) := ⟨⟨fun pins s σ H R I h => (pi_zipM hg hm (pa_cons he.run (pa_cons he2.run pa_nil hs1) hs0) hs0 hs2).run pins s σ H R I (by
  obtain ⟨G, A, W, env, P, R, h, k⟩ := h
  refine ⟨G, A, W, env, _, R, h, fun p v H1 g rv h1 => ⟨G, A, W, env, _, R.grow g, h1, fun q w H2 g2 rw2 h2 => ?_⟩⟩
  obtain ⟨ps, qs, rfl, rfl, h2⟩ := h2
  have rv' := Rp.ext (g2.ext R.sz) rv.c
  have rw' := rw2.c
  unfold Rp at rv' rw'
  obtain ⟨a, vs, rfl, f, r⟩ := rv'
  obtain ⟨b, ws, rfl, f', r'⟩ := rw'
  have hl : (zipP ps qs).length = min vs.length ws.length := by unfold zipP; rw [List.length_zipWith, r.len, r'.len]
  refine ⟨a, b, vs, ws, rfl, f.sq, f'.sq, k _ _ H2 [] (g.trans g2) rfl (itok_pair hl (walk_zipW rfl) fun Z2 W2 H3 x => ⟨⟨(f.ext x).sq, (f'.ext x).sq⟩, fun i q u w hq u1 u2 => ?_⟩) h2⟩
  obtain ⟨a0, b0, ga, gb, rfl⟩ := zipP_get hq
  obtain ⟨u', hu', ru'⟩ := r.get ga
  obtain ⟨w', hw', rw'⟩ := r'.get gb
  rw [u1] at hu'; cases hu'
  rw [u2] at hw'; cases hw'
  exact ⟨_, _, rfl, Rp.ext x ru', Rp.ext x rw'⟩)⟩⟩
end PM

set_option maxHeartbeats 1000000
namespace K46
open PySem PySem.Spec PyProof.Rows L2 PM
/-! ### the text -/
def topS (i : Nat) : Stmt := PySem.Challenge.pw_keysapart_k46_whole_degrees_levels_and_b.main.body.getD i (.Pass ⟨0, 0, 0, 0⟩)
abbrev s_is_integer : Stmt := topS 1
abbrev n_is_integer : List Str := ["value"]
abbrev p_is_integer : List Str := ["value"]
theorem S_is_integer : FnScope n_is_integer p_is_integer (defScope s_is_integer) := ⟨rfl, rfl, rfl, by decide +kernel, rfl, by decide +kernel, by decide +kernel⟩
abbrev s_is_number : Stmt := topS 2
abbrev n_is_number : List Str := ["value", "most"]
abbrev p_is_number : List Str := ["value", "most"]
theorem S_is_number : FnScope n_is_number p_is_number (defScope s_is_number) := ⟨rfl, rfl, rfl, by decide +kernel, rfl, by decide +kernel, by decide +kernel⟩
abbrev s_union_of : Stmt := topS 4
abbrev n_union_of : List Str := ["course", "first", "last", "found", "lot", "house"]
abbrev p_union_of : List Str := ["course", "first", "last"]
theorem S_union_of : FnScope n_union_of p_union_of (defScope s_union_of) := ⟨rfl, rfl, rfl, by decide +kernel, rfl, by decide +kernel, by decide +kernel⟩
abbrev s_least_price : Stmt := topS 6
abbrev n_least_price : List Str := ["counted", "prices", "first", "last", "many", "fit", "u", "price"]
abbrev p_least_price : List Str := ["counted", "prices", "first", "last"]
theorem S_least_price : FnScope n_least_price p_least_price (defScope s_least_price) := ⟨rfl, rfl, rfl, by decide +kernel, rfl, by decide +kernel, by decide +kernel⟩
abbrev s_is_epoch_row : Stmt := topS 7
abbrev n_is_epoch_row : List Str := ["counted", "prices", "value", "first", "last", "u", "one"]
abbrev p_is_epoch_row : List Str := ["counted", "prices", "value"]
theorem S_is_epoch_row : FnScope n_is_epoch_row p_is_epoch_row (defScope s_is_epoch_row) := ⟨rfl, rfl, rfl, by decide +kernel, rfl, by decide +kernel, by decide +kernel⟩
abbrev s_is_degree_plan : Stmt := topS 8
abbrev n_is_degree_plan : List Str := ["counted", "prices", "value", "ends", "first", "last", "u", "one", "row", "end"]
abbrev p_is_degree_plan : List Str := ["counted", "prices", "value"]
theorem S_is_degree_plan : FnScope n_is_degree_plan p_is_degree_plan (defScope s_is_degree_plan) := ⟨rfl, rfl, rfl, by decide +kernel, rfl, by decide +kernel, by decide +kernel⟩
abbrev s_plan_price : Stmt := topS 9
abbrev n_plan_price : List Str := ["prices", "plan", "first", "last", "u"]
abbrev p_plan_price : List Str := ["prices", "plan"]
theorem S_plan_price : FnScope n_plan_price p_plan_price (defScope s_plan_price) := ⟨rfl, rfl, rfl, by decide +kernel, rfl, by decide +kernel, by decide +kernel⟩
abbrev s_least_ways : Stmt := topS 10
abbrev n_least_ways : List Str := ["counted", "prices", "found", "last", "ways", "first", "told"]
abbrev p_least_ways : List Str := ["counted", "prices"]
theorem S_least_ways : FnScope n_least_ways p_least_ways (defScope s_least_ways) := ⟨rfl, rfl, rfl, by decide +kernel, rfl, by decide +kernel, by decide +kernel⟩
abbrev s_cheapest_plan : Stmt := topS 11
abbrev n_cheapest_plan : List Str := ["counted", "prices", "ways", "plan", "many"]
abbrev p_cheapest_plan : List Str := ["counted", "prices"]
theorem S_cheapest_plan : FnScope n_cheapest_plan p_cheapest_plan (defScope s_cheapest_plan) := ⟨rfl, rfl, rfl, by decide +kernel, rfl, by decide +kernel, by decide +kernel⟩
abbrev s_least_levels : Stmt := topS 12
abbrev n_least_levels : List Str := ["counted", "prices", "ways", "price", "row"]
abbrev p_least_levels : List Str := ["counted", "prices"]
theorem S_least_levels : FnScope n_least_levels p_least_levels (defScope s_least_levels) := ⟨rfl, rfl, rfl, by decide +kernel, rfl, by decide +kernel, by decide +kernel⟩
abbrev s_is_levels : Stmt := topS 13
abbrev n_is_levels : List Str := ["counted", "prices", "value", "last", "first", "told", "one"]
abbrev p_is_levels : List Str := ["counted", "prices", "value"]
theorem S_is_levels : FnScope n_is_levels p_is_levels (defScope s_is_levels) := ⟨rfl, rfl, rfl, by decide +kernel, rfl, by decide +kernel, by decide +kernel⟩
abbrev s_turning : Stmt := topS 15
abbrev n_turning : List Str := ["f", "c"]
abbrev p_turning : List Str := ["f", "c"]
theorem S_turning : FnScope n_turning p_turning (defScope s_turning) := ⟨rfl, rfl, rfl, by decide +kernel, rfl, by decide +kernel, by decide +kernel⟩
abbrev s_most_over_all : Stmt := topS 16
abbrev n_most_over_all : List Str := ["k", "f", "l", "d", "c", "r"]
abbrev p_most_over_all : List Str := ["k", "f", "l", "d", "c", "r"]
theorem S_most_over_all : FnScope n_most_over_all p_most_over_all (defScope s_most_over_all) := ⟨rfl, rfl, rfl, by decide +kernel, rfl, by decide +kernel, by decide +kernel⟩
abbrev s_sent_at_handing : Stmt := topS 18
abbrev n_sent_at_handing : List Str := ["k", "t"]
abbrev p_sent_at_handing : List Str := ["k", "t"]
theorem S_sent_at_handing : FnScope n_sent_at_handing p_sent_at_handing (defScope s_sent_at_handing) := ⟨rfl, rfl, rfl, by decide +kernel, rfl, by decide +kernel, by decide +kernel⟩
abbrev s_sent_to_newcomer : Stmt := topS 19
abbrev n_sent_to_newcomer : List Str := ["t"]
abbrev p_sent_to_newcomer : List Str := ["t"]
theorem S_sent_to_newcomer : FnScope n_sent_to_newcomer p_sent_to_newcomer (defScope s_sent_to_newcomer) := ⟨rfl, rfl, rfl, by decide +kernel, rfl, by decide +kernel, by decide +kernel⟩
abbrev s_rhythm_of : Stmt := topS 20
abbrev n_rhythm_of : List Str := ["maps", "r"]
abbrev p_rhythm_of : List Str := ["maps", "r"]
theorem S_rhythm_of : FnScope n_rhythm_of p_rhythm_of (defScope s_rhythm_of) := ⟨rfl, rfl, rfl, by decide +kernel, rfl, by decide +kernel, by decide +kernel⟩
abbrev s_rhythm_bill : Stmt := topS 21
abbrev n_rhythm_bill : List Str := ["k", "c", "t", "maps", "r", "many"]
abbrev p_rhythm_bill : List Str := ["k", "c", "t", "maps", "r"]
theorem S_rhythm_bill : FnScope n_rhythm_bill p_rhythm_bill (defScope s_rhythm_bill) := ⟨rfl, rfl, rfl, by decide +kernel, rfl, by decide +kernel, by decide +kernel⟩
abbrev s_rhythms : Stmt := topS 22
abbrev n_rhythms : List Str := ["k", "f", "l", "d", "c", "maps", "found", "r", "t"]
abbrev p_rhythms : List Str := ["k", "f", "l", "d", "c", "maps"]
theorem S_rhythms : FnScope n_rhythms p_rhythms (defScope s_rhythms) := ⟨rfl, rfl, rfl, by decide +kernel, rfl, by decide +kernel, by decide +kernel⟩
abbrev s_cheapest_rhythm : Stmt := topS 23
abbrev n_cheapest_rhythm : List Str := ["k", "f", "l", "d", "c", "maps", "best", "r", "t", "bill"]
abbrev p_cheapest_rhythm : List Str := ["k", "f", "l", "d", "c", "maps"]
theorem S_cheapest_rhythm : FnScope n_cheapest_rhythm p_cheapest_rhythm (defScope s_cheapest_rhythm) := ⟨rfl, rfl, rfl, by decide +kernel, rfl, by decide +kernel, by decide +kernel⟩
abbrev s_kept_schedule : Stmt := topS 24
abbrev n_kept_schedule : List Str := ["k", "f", "l", "d", "c", "maps", "best"]
abbrev p_kept_schedule : List Str := ["k", "f", "l", "d", "c", "maps"]
theorem S_kept_schedule : FnScope n_kept_schedule p_kept_schedule (defScope s_kept_schedule) := ⟨rfl, rfl, rfl, by decide +kernel, rfl, by decide +kernel, by decide +kernel⟩
abbrev s_l_heap : Stmt := topS 26
abbrev n_l_heap : List Str := ["script", "great", "cell", "cells", "stir"]
abbrev p_l_heap : List Str := ["script"]
theorem S_l_heap : FnScope n_l_heap p_l_heap (defScope s_l_heap) := ⟨rfl, rfl, rfl, by decide +kernel, rfl, by decide +kernel, by decide +kernel⟩
abbrev s_l_draw : Stmt := topS 27
abbrev n_l_draw : List Str := ["heap", "many", "rest"]
abbrev p_l_draw : List Str := ["heap", "many"]
theorem S_l_draw : FnScope n_l_draw p_l_draw (defScope s_l_draw) := ⟨rfl, rfl, rfl, by decide +kernel, rfl, by decide +kernel, by decide +kernel⟩
abbrev s_l_pick : Stmt := topS 28
abbrev n_l_pick : List Str := ["heap", "some"]
abbrev p_l_pick : List Str := ["heap", "some"]
theorem S_l_pick : FnScope n_l_pick p_l_pick (defScope s_l_pick) := ⟨rfl, rfl, rfl, by decide +kernel, rfl, by decide +kernel, by decide +kernel⟩
abbrev s_l_like : Stmt := topS 29
abbrev n_l_like : List Str := ["told", "due", "one", "other"]
abbrev p_l_like : List Str := ["told", "due"]
theorem S_l_like : FnScope n_l_like p_l_like (defScope s_l_like) := ⟨rfl, rfl, rfl, by decide +kernel, rfl, by decide +kernel, by decide +kernel⟩
abbrev s_l_some : Stmt := topS 30
abbrev n_l_some : List Str := ["heap", "pool", "many", "turn", "left", "found", "place"]
abbrev p_l_some : List Str := ["heap", "pool", "many"]
theorem S_l_some : FnScope n_l_some p_l_some (defScope s_l_some) := ⟨rfl, rfl, rfl, by decide +kernel, rfl, by decide +kernel, by decide +kernel⟩
abbrev s_l_is_number : Stmt := topS 31
abbrev n_l_is_number : List Str := ["value"]
abbrev p_l_is_number : List Str := ["value"]
theorem S_l_is_number : FnScope n_l_is_number p_l_is_number (defScope s_l_is_number) := ⟨rfl, rfl, rfl, by decide +kernel, rfl, by decide +kernel, by decide +kernel⟩
abbrev s_l_counted : Stmt := topS 32
abbrev n_l_counted : List Str := ["heap", "maps", "many", "pool", "lots", "lot", "turn", "house"]
abbrev p_l_counted : List Str := ["heap", "maps"]
theorem S_l_counted : FnScope n_l_counted p_l_counted (defScope s_l_counted) := ⟨rfl, rfl, rfl, by decide +kernel, rfl, by decide +kernel, by decide +kernel⟩
abbrev s_l_sizes : Stmt := topS 33
abbrev n_l_sizes : List Str := ["counted", "found", "first", "lot", "seen", "row", "house"]
abbrev p_l_sizes : List Str := ["counted"]
theorem S_l_sizes : FnScope n_l_sizes p_l_sizes (defScope s_l_sizes) := ⟨rfl, rfl, rfl, by decide +kernel, rfl, by decide +kernel, by decide +kernel⟩
abbrev s_l_is_plan : Stmt := topS 34
abbrev n_l_is_plan : List Str := ["sizes", "prices", "value", "ahead", "row", "one"]
abbrev p_l_is_plan : List Str := ["sizes", "prices", "value"]
theorem S_l_is_plan : FnScope n_l_is_plan p_l_is_plan (defScope s_l_is_plan) := ⟨rfl, rfl, rfl, by decide +kernel, rfl, by decide +kernel, by decide +kernel⟩
abbrev s_l_is_levels : Stmt := topS 35
abbrev n_l_is_levels : List Str := ["sizes", "prices", "value", "first", "row", "at", "size", "one"]
abbrev p_l_is_levels : List Str := ["sizes", "prices", "value"]
theorem S_l_is_levels : FnScope n_l_is_levels p_l_is_levels (defScope s_l_is_levels) := ⟨rfl, rfl, rfl, by decide +kernel, rfl, by decide +kernel, by decide +kernel⟩
abbrev s_l_own_plan : Stmt := topS 36
abbrev n_l_own_plan : List Str := ["heap", "sizes", "prices", "turn", "found", "first", "lasts", "last", "at", "size"]
abbrev p_l_own_plan : List Str := ["heap", "sizes", "prices"]
theorem S_l_own_plan : FnScope n_l_own_plan p_l_own_plan (defScope s_l_own_plan) := ⟨rfl, rfl, rfl, by decide +kernel, rfl, by decide +kernel, by decide +kernel⟩
abbrev s_l_own_levels : Stmt := topS 37
abbrev n_l_own_levels : List Str := ["heap", "sizes", "prices", "found", "last", "tops", "first", "top", "size"]
abbrev p_l_own_levels : List Str := ["heap", "sizes", "prices"]
theorem S_l_own_levels : FnScope n_l_own_levels p_l_own_levels (defScope s_l_own_levels) := ⟨rfl, rfl, rfl, by decide +kernel, rfl, by decide +kernel, by decide +kernel⟩
abbrev s_l_bent : Stmt := topS 38
abbrev n_l_bent : List Str := ["heap", "rows", "one", "at", "which", "part"]
abbrev p_l_bent : List Str := ["heap", "rows"]
theorem S_l_bent : FnScope n_l_bent p_l_bent (defScope s_l_bent) := ⟨rfl, rfl, rfl, by decide +kernel, rfl, by decide +kernel, by decide +kernel⟩
abbrev s_l_rhythms : Stmt := topS 39
abbrev n_l_rhythms : List Str := ["k", "f", "l", "d", "c", "maps", "found", "r", "t", "squares", "at"]
abbrev p_l_rhythms : List Str := ["k", "f", "l", "d", "c", "maps"]
theorem S_l_rhythms : FnScope n_l_rhythms p_l_rhythms (defScope s_l_rhythms) := ⟨rfl, rfl, rfl, by decide +kernel, rfl, by decide +kernel, by decide +kernel⟩
abbrev s_law : Stmt := topS 40
abbrev n_law : List Str := "script" :: "heap" :: "maps" :: "counted" :: "many" :: "prices" :: "turn" :: "due" :: "bills" :: "least" :: "best" :: "schedule" :: "squares" :: "sizes" :: "most" :: "top" :: "plan" :: "levels" :: "drawn" :: "own" :: "bent" :: "k" :: "long" :: "f" :: "l" :: "c" :: "d" :: "t" :: "r" :: "row" :: "u" :: "at" :: "lot" :: []
abbrev p_law : List Str := ["script"]
theorem S_law : FnScope n_law p_law (defScope s_law) := ⟨rfl, rfl, rfl, by decide +kernel, rfl, by decide +kernel, by decide +kernel⟩
/-- what the top has written -/
structure Tx (K : PySem.W.Frag) (mg : Str → Option Value) : Type where
  a_is_integer : Addr
  d_is_integer : FuncData
  f_is_integer : FunD K "is_integer" "is_integer" (defArgs s_is_integer) (defBody s_is_integer) (defScope s_is_integer) [] [] a_is_integer d_is_integer
  m_is_integer : mg "is_integer" = some (.ref a_is_integer)
  b_is_integer : Binds K d_is_integer p_is_integer []
  a_is_number : Addr
  d_is_number : FuncData
  f_is_number : FunD K "is_number" "is_number" (defArgs s_is_number) (defBody s_is_number) (defScope s_is_number) [V.non] [] a_is_number d_is_number
  m_is_number : mg "is_number" = some (.ref a_is_number)
  u_is_number1 : List Value
  b_is_number1 : Binds K d_is_number p_is_number u_is_number1
  v_is_number1 : Vals [V.non] u_is_number1
  a_union_of : Addr
  d_union_of : FuncData
  f_union_of : FunD K "union_of" "union_of" (defArgs s_union_of) (defBody s_union_of) (defScope s_union_of) [] [] a_union_of d_union_of
  m_union_of : mg "union_of" = some (.ref a_union_of)
  b_union_of : Binds K d_union_of p_union_of []
  a_least_price : Addr
  d_least_price : FuncData
  f_least_price : FunD K "least_price" "least_price" (defArgs s_least_price) (defBody s_least_price) (defScope s_least_price) [] [] a_least_price d_least_price
  m_least_price : mg "least_price" = some (.ref a_least_price)
  b_least_price : Binds K d_least_price p_least_price []
  a_is_epoch_row : Addr
  d_is_epoch_row : FuncData
  f_is_epoch_row : FunD K "is_epoch_row" "is_epoch_row" (defArgs s_is_epoch_row) (defBody s_is_epoch_row) (defScope s_is_epoch_row) [] [] a_is_epoch_row d_is_epoch_row
  m_is_epoch_row : mg "is_epoch_row" = some (.ref a_is_epoch_row)
  b_is_epoch_row : Binds K d_is_epoch_row p_is_epoch_row []
  a_is_degree_plan : Addr
  d_is_degree_plan : FuncData
  f_is_degree_plan : FunD K "is_degree_plan" "is_degree_plan" (defArgs s_is_degree_plan) (defBody s_is_degree_plan) (defScope s_is_degree_plan) [] [] a_is_degree_plan d_is_degree_plan
  m_is_degree_plan : mg "is_degree_plan" = some (.ref a_is_degree_plan)
  b_is_degree_plan : Binds K d_is_degree_plan p_is_degree_plan []
  a_plan_price : Addr
  d_plan_price : FuncData
  f_plan_price : FunD K "plan_price" "plan_price" (defArgs s_plan_price) (defBody s_plan_price) (defScope s_plan_price) [] [] a_plan_price d_plan_price
  m_plan_price : mg "plan_price" = some (.ref a_plan_price)
  b_plan_price : Binds K d_plan_price p_plan_price []
  a_least_ways : Addr
  d_least_ways : FuncData
  f_least_ways : FunD K "least_ways" "least_ways" (defArgs s_least_ways) (defBody s_least_ways) (defScope s_least_ways) [] [] a_least_ways d_least_ways
  m_least_ways : mg "least_ways" = some (.ref a_least_ways)
  b_least_ways : Binds K d_least_ways p_least_ways []
  a_cheapest_plan : Addr
  d_cheapest_plan : FuncData
  f_cheapest_plan : FunD K "cheapest_plan" "cheapest_plan" (defArgs s_cheapest_plan) (defBody s_cheapest_plan) (defScope s_cheapest_plan) [] [] a_cheapest_plan d_cheapest_plan
  m_cheapest_plan : mg "cheapest_plan" = some (.ref a_cheapest_plan)
  b_cheapest_plan : Binds K d_cheapest_plan p_cheapest_plan []
  a_least_levels : Addr
  d_least_levels : FuncData
  f_least_levels : FunD K "least_levels" "least_levels" (defArgs s_least_levels) (defBody s_least_levels) (defScope s_least_levels) [] [] a_least_levels d_least_levels
  m_least_levels : mg "least_levels" = some (.ref a_least_levels)
  b_least_levels : Binds K d_least_levels p_least_levels []
  a_is_levels : Addr
  d_is_levels : FuncData
  f_is_levels : FunD K "is_levels" "is_levels" (defArgs s_is_levels) (defBody s_is_levels) (defScope s_is_levels) [] [] a_is_levels d_is_levels
  m_is_levels : mg "is_levels" = some (.ref a_is_levels)
  b_is_levels : Binds K d_is_levels p_is_levels []
  a_turning : Addr
  d_turning : FuncData
  f_turning : FunD K "turning" "turning" (defArgs s_turning) (defBody s_turning) (defScope s_turning) [] [] a_turning d_turning
  m_turning : mg "turning" = some (.ref a_turning)
  b_turning : Binds K d_turning p_turning []
  a_most_over_all : Addr
  d_most_over_all : FuncData
  f_most_over_all : FunD K "most_over_all" "most_over_all" (defArgs s_most_over_all) (defBody s_most_over_all) (defScope s_most_over_all) [] [] a_most_over_all d_most_over_all
  m_most_over_all : mg "most_over_all" = some (.ref a_most_over_all)
  b_most_over_all : Binds K d_most_over_all p_most_over_all []
  a_sent_at_handing : Addr
  d_sent_at_handing : FuncData
  f_sent_at_handing : FunD K "sent_at_handing" "sent_at_handing" (defArgs s_sent_at_handing) (defBody s_sent_at_handing) (defScope s_sent_at_handing) [] [] a_sent_at_handing d_sent_at_handing
  m_sent_at_handing : mg "sent_at_handing" = some (.ref a_sent_at_handing)
  b_sent_at_handing : Binds K d_sent_at_handing p_sent_at_handing []
  a_sent_to_newcomer : Addr
  d_sent_to_newcomer : FuncData
  f_sent_to_newcomer : FunD K "sent_to_newcomer" "sent_to_newcomer" (defArgs s_sent_to_newcomer) (defBody s_sent_to_newcomer) (defScope s_sent_to_newcomer) [] [] a_sent_to_newcomer d_sent_to_newcomer
  m_sent_to_newcomer : mg "sent_to_newcomer" = some (.ref a_sent_to_newcomer)
  b_sent_to_newcomer : Binds K d_sent_to_newcomer p_sent_to_newcomer []
  a_rhythm_of : Addr
  d_rhythm_of : FuncData
  f_rhythm_of : FunD K "rhythm_of" "rhythm_of" (defArgs s_rhythm_of) (defBody s_rhythm_of) (defScope s_rhythm_of) [] [] a_rhythm_of d_rhythm_of
  m_rhythm_of : mg "rhythm_of" = some (.ref a_rhythm_of)
  b_rhythm_of : Binds K d_rhythm_of p_rhythm_of []
  a_rhythm_bill : Addr
  d_rhythm_bill : FuncData
  f_rhythm_bill : FunD K "rhythm_bill" "rhythm_bill" (defArgs s_rhythm_bill) (defBody s_rhythm_bill) (defScope s_rhythm_bill) [] [] a_rhythm_bill d_rhythm_bill
  m_rhythm_bill : mg "rhythm_bill" = some (.ref a_rhythm_bill)
  b_rhythm_bill : Binds K d_rhythm_bill p_rhythm_bill []
  a_rhythms : Addr
  d_rhythms : FuncData
  f_rhythms : FunD K "rhythms" "rhythms" (defArgs s_rhythms) (defBody s_rhythms) (defScope s_rhythms) [] [] a_rhythms d_rhythms
  m_rhythms : mg "rhythms" = some (.ref a_rhythms)
  b_rhythms : Binds K d_rhythms p_rhythms []
  a_cheapest_rhythm : Addr
  d_cheapest_rhythm : FuncData
  f_cheapest_rhythm : FunD K "cheapest_rhythm" "cheapest_rhythm" (defArgs s_cheapest_rhythm) (defBody s_cheapest_rhythm) (defScope s_cheapest_rhythm) [] [] a_cheapest_rhythm d_cheapest_rhythm
  m_cheapest_rhythm : mg "cheapest_rhythm" = some (.ref a_cheapest_rhythm)
  b_cheapest_rhythm : Binds K d_cheapest_rhythm p_cheapest_rhythm []
  a_kept_schedule : Addr
  d_kept_schedule : FuncData
  f_kept_schedule : FunD K "kept_schedule" "kept_schedule" (defArgs s_kept_schedule) (defBody s_kept_schedule) (defScope s_kept_schedule) [] [] a_kept_schedule d_kept_schedule
  m_kept_schedule : mg "kept_schedule" = some (.ref a_kept_schedule)
  b_kept_schedule : Binds K d_kept_schedule p_kept_schedule []
  a_l_heap : Addr
  d_l_heap : FuncData
  f_l_heap : FunD K "_law_heap" "_law_heap" (defArgs s_l_heap) (defBody s_l_heap) (defScope s_l_heap) [] [] a_l_heap d_l_heap
  m_l_heap : mg "_law_heap" = some (.ref a_l_heap)
  b_l_heap : Binds K d_l_heap p_l_heap []
  a_l_draw : Addr
  d_l_draw : FuncData
  f_l_draw : FunD K "_law_draw" "_law_draw" (defArgs s_l_draw) (defBody s_l_draw) (defScope s_l_draw) [] [] a_l_draw d_l_draw
  m_l_draw : mg "_law_draw" = some (.ref a_l_draw)
  b_l_draw : Binds K d_l_draw p_l_draw []
  a_l_pick : Addr
  d_l_pick : FuncData
  f_l_pick : FunD K "_law_pick" "_law_pick" (defArgs s_l_pick) (defBody s_l_pick) (defScope s_l_pick) [] [] a_l_pick d_l_pick
  m_l_pick : mg "_law_pick" = some (.ref a_l_pick)
  b_l_pick : Binds K d_l_pick p_l_pick []
  a_l_like : Addr
  d_l_like : FuncData
  f_l_like : FunD K "_law_like" "_law_like" (defArgs s_l_like) (defBody s_l_like) (defScope s_l_like) [] [] a_l_like d_l_like
  m_l_like : mg "_law_like" = some (.ref a_l_like)
  b_l_like : Binds K d_l_like p_l_like []
  a_l_some : Addr
  d_l_some : FuncData
  f_l_some : FunD K "_law_some" "_law_some" (defArgs s_l_some) (defBody s_l_some) (defScope s_l_some) [] [] a_l_some d_l_some
  m_l_some : mg "_law_some" = some (.ref a_l_some)
  b_l_some : Binds K d_l_some p_l_some []
  a_l_is_number : Addr
  d_l_is_number : FuncData
  f_l_is_number : FunD K "_law_is_number" "_law_is_number" (defArgs s_l_is_number) (defBody s_l_is_number) (defScope s_l_is_number) [] [] a_l_is_number d_l_is_number
  m_l_is_number : mg "_law_is_number" = some (.ref a_l_is_number)
  b_l_is_number : Binds K d_l_is_number p_l_is_number []
  a_l_counted : Addr
  d_l_counted : FuncData
  f_l_counted : FunD K "_law_counted" "_law_counted" (defArgs s_l_counted) (defBody s_l_counted) (defScope s_l_counted) [] [] a_l_counted d_l_counted
  m_l_counted : mg "_law_counted" = some (.ref a_l_counted)
  b_l_counted : Binds K d_l_counted p_l_counted []
  a_l_sizes : Addr
  d_l_sizes : FuncData
  f_l_sizes : FunD K "_law_sizes" "_law_sizes" (defArgs s_l_sizes) (defBody s_l_sizes) (defScope s_l_sizes) [] [] a_l_sizes d_l_sizes
  m_l_sizes : mg "_law_sizes" = some (.ref a_l_sizes)
  b_l_sizes : Binds K d_l_sizes p_l_sizes []
  a_l_is_plan : Addr
  d_l_is_plan : FuncData
  f_l_is_plan : FunD K "_law_is_plan" "_law_is_plan" (defArgs s_l_is_plan) (defBody s_l_is_plan) (defScope s_l_is_plan) [] [] a_l_is_plan d_l_is_plan
  m_l_is_plan : mg "_law_is_plan" = some (.ref a_l_is_plan)
  b_l_is_plan : Binds K d_l_is_plan p_l_is_plan []
  a_l_is_levels : Addr
  d_l_is_levels : FuncData
  f_l_is_levels : FunD K "_law_is_levels" "_law_is_levels" (defArgs s_l_is_levels) (defBody s_l_is_levels) (defScope s_l_is_levels) [] [] a_l_is_levels d_l_is_levels
  m_l_is_levels : mg "_law_is_levels" = some (.ref a_l_is_levels)
  b_l_is_levels : Binds K d_l_is_levels p_l_is_levels []
  a_l_own_plan : Addr
  d_l_own_plan : FuncData
  f_l_own_plan : FunD K "_law_own_plan" "_law_own_plan" (defArgs s_l_own_plan) (defBody s_l_own_plan) (defScope s_l_own_plan) [] [] a_l_own_plan d_l_own_plan
  m_l_own_plan : mg "_law_own_plan" = some (.ref a_l_own_plan)
  b_l_own_plan : Binds K d_l_own_plan p_l_own_plan []
  a_l_own_levels : Addr
  d_l_own_levels : FuncData
  f_l_own_levels : FunD K "_law_own_levels" "_law_own_levels" (defArgs s_l_own_levels) (defBody s_l_own_levels) (defScope s_l_own_levels) [] [] a_l_own_levels d_l_own_levels
  m_l_own_levels : mg "_law_own_levels" = some (.ref a_l_own_levels)
  b_l_own_levels : Binds K d_l_own_levels p_l_own_levels []
  a_l_bent : Addr
  d_l_bent : FuncData
  f_l_bent : FunD K "_law_bent" "_law_bent" (defArgs s_l_bent) (defBody s_l_bent) (defScope s_l_bent) [] [] a_l_bent d_l_bent
  m_l_bent : mg "_law_bent" = some (.ref a_l_bent)
  b_l_bent : Binds K d_l_bent p_l_bent []
  a_l_rhythms : Addr
  d_l_rhythms : FuncData
  f_l_rhythms : FunD K "_law_rhythms" "_law_rhythms" (defArgs s_l_rhythms) (defBody s_l_rhythms) (defScope s_l_rhythms) [] [] a_l_rhythms d_l_rhythms
  m_l_rhythms : mg "_law_rhythms" = some (.ref a_l_rhythms)
  b_l_rhythms : Binds K d_l_rhythms p_l_rhythms []
  a_law : Addr
  d_law : FuncData
  f_law : FunD K "law" "law" (defArgs s_law) (defBody s_law) (defScope s_law) [] [] a_law d_law
  m_law : mg "law" = some (.ref a_law)
  z_abs : mg "abs" = none
  z_all : mg "all" = none
  z_bool : mg "bool" = none
  z_enumerate : mg "enumerate" = none
  z_int : mg "int" = none
  z_isinstance : mg "isinstance" = none
  z_len : mg "len" = none
  z_list : mg "list" = none
  z_max : mg "max" = none
  z_min : mg "min" = none
  z_range : mg "range" = none
  z_sorted : mg "sorted" = none
  z_str : mg "str" = none
  z_sum : mg "sum" = none
  z_tuple : mg "tuple" = none
  z_zip : mg "zip" = none
section
variable {P : Program} {w : World} {K : PySem.W.Frag} {mg : Str → Option Value} {base : Heap}
def t_is_integer : TSm :=
  (sRet (mAndV (mOp1 (oIsi "int") (mVar 0)) (mOp1 oNot (mOp1 (oIsi "bool") (mVar 0)))))
theorem w_is_integer (T : Tx K mg) (cdv : Value) (A : Around) (outer : List PySem.Env) (s : Shared) (H : Hp) (E : XK)
    (hr : Room 0 (A.deeper (PyProof.Rows.envOfC "is_integer" (defScope s_is_integer) s.heap.objs.size T.a_is_integer cdv))) :
    ∃ c', PSsm (bodyX P w K mg base n_is_integer "is_integer" s_is_integer T.a_is_integer cdv A outer s H E) ⟨.cl, false, []⟩ (shs 1) c' (defBody s_is_integer) (t_is_integer) :=
  ⟨[.sh], (sm_one (sm_ret (em_and (PEm.ow (em_isi "int" (PEm.ow (em_var 0)) (by rfl) T.z_isinstance (by rfl) T.z_int PyProof.Rows.boot_int)) (em_one (em_not (PEm.ow (em_isi "bool" (PEm.ow (em_var 0)) (by rfl) T.z_isinstance (by rfl) T.z_bool PyProof.Rows.boot_bool)))))))⟩
def t_is_number (sp_is_integer : PM.Spec) : TSm :=
  (sRet (mAndV (mCall sp_is_integer [] (mCons (mVar 0) mNil)) (mAndV (mOp oGe (mVar 0) (mC (.int 0))) (mOrV (mOp oIsN (mVar 1) (mC (.non))) (mOp oLe (mVar 0) (mVar 1))))))
theorem w_is_number (T : Tx K mg) (sp_is_integer : PM.Spec)
    (F_is_integer : FnOk P w K mg base CX0 1 T.a_is_integer T.d_is_integer p_is_integer (spM K .cl sp_is_integer)) (cdv : Value) (A : Around) (outer : List PySem.Env) (s : Shared) (H : Hp) (E : XK)
    (hr : Room 1 (A.deeper (PyProof.Rows.envOfC "is_number" (defScope s_is_number) s.heap.objs.size T.a_is_number cdv))) :
    ∃ c', PSsm (bodyX P w K mg base n_is_number "is_number" s_is_number T.a_is_number cdv A outer s H E) ⟨.cl, false, []⟩ (shs 2) c' (defBody s_is_number) (t_is_number sp_is_integer) :=
  ⟨[.sh, .sh], (sm_one (sm_ret (em_and (PEm.ow (em_call F_is_integer (hr.mono (by decide)) T.m_is_integer T.f_is_integer.kp T.b_is_integer .nil (fun _ => Rps.nil) (am_consC (em_var 0) am_nil))) (em_and (PEm.ow (em_cmp op_ge lift_ge (PEm.ow (em_var 0)) (PEm.ow em_int) (nomark _))) (em_one (em_or (PEm.ow (em_cmp op_isN lift_isN (PEm.ow (em_var 1)) (PEm.ow em_non) (nomark _))) (em_one (em_cmp op_le lift_le (PEm.ow (em_var 0)) (PEm.ow (em_var 1)) (nomark _)))))))))⟩
def t_union_of : TSm :=
  (sSeq (sSet 3 (mC (.dic [] []))) (sSeq (sFor (mItems (mSl oSl (mVar 0) (mPart (mVar 1)) (mPart (mOp oAdd (mVar 2) (mC (.int 1)))))) (gmN 4) (sFor (mItems (mVar 4)) (gmN 5) (sDPutm 3 (mVar 5) (mC (.bl true))))) (sRet (mB oTuple (mCons (mB oSorted (mCons (mVarO 3) mNil)) mNil)))))
theorem w_union_of (T : Tx K mg) (cdv : Value) (A : Around) (outer : List PySem.Env) (s : Shared) (H : Hp) (E : XK)
    (hr : Room 0 (A.deeper (PyProof.Rows.envOfC "union_of" (defScope s_union_of) s.heap.objs.size T.a_union_of cdv))) :
    ∃ c', PSsm (bodyX P w K mg base n_union_of "union_of" s_union_of T.a_union_of cdv A outer s H E) ⟨.cl, false, []⟩ (shs 6) c' (defBody s_union_of) (t_union_of) :=
  ⟨[.sh, .sh, .sh, .sh, .sh, .sh], (sm_cons (sm_setF 3 S_union_of.nd em_dnew)
    (sm_cons (sm_for (c := [.sh, .sh, .sh, .ow, .sh, .sh]) .never rfl (im_seq (em_sl (PEm.ow (em_var 0)) (om_some (PEm.ow (em_var 1))) (om_some (PEm.ow (em_op op_plus lift_plus (PEm.ow (em_var 2)) (PEm.ow em_int)))))) (gm_name 4 S_union_of.nd) (sm_one (sm_for (c := [.sh, .sh, .sh, .ow, .sh, .sh]) .never rfl (im_seq (em_var 4)) (gm_name 5 S_union_of.nd) (sm_one (sm_dput 3 (hu_of hr) em_bl (PEm.ow (em_var 5)))) (fun _ e => by cases e))) (fun _ e => by cases e))
    (sm_one (sm_ret (em_callTy call_tuple_of lift_tuple (by rfl) T.z_tuple PyProof.Rows.boot_tuple (am_cons (PEm.ow (em_callB (call_sortedA rfl) lift_sorted (by rfl) T.z_sorted PyProof.Rows.boot_sorted (am_cons (em_varO 3) am_nil))) am_nil))))))⟩
def t_least_price (sp_union_of : PM.Spec) : TSm :=
  (sSeq (sSet 4 (mB oLen (mCons (mCall sp_union_of [] (mCons (mVar 0) (mCons (mVar 2) (mCons (mVar 3) mNil)))) mNil))) (sSeq (sSet 5 (mLc (mEnum (mVar 1)) [6, 7] (gmT 2 (gmCons (gmN 6) (gmCons (gmN 7) gmNil))) (mTB (mOp oGe (mVar 6) (mVar 4))) (mTup (mCons (mVar 7) (mCons (mVar 6) mNil))))) (sRet (mIf (mTB (mOp oEq (mVarO 5) (mLst mNil))) (mC (.non)) (mB (oBest bestLt) (mCons (mVarO 5) mNil))))))
theorem w_least_price (T : Tx K mg) (sp_union_of : PM.Spec)
    (F_union_of : FnOk P w K mg base CX0 1 T.a_union_of T.d_union_of p_union_of (spM K .cl sp_union_of)) (cdv : Value) (A : Around) (outer : List PySem.Env) (s : Shared) (H : Hp) (E : XK)
    (hr : Room 1 (A.deeper (PyProof.Rows.envOfC "least_price" (defScope s_least_price) s.heap.objs.size T.a_least_price cdv))) :
    ∃ c', PSsm (bodyX P w K mg base n_least_price "least_price" s_least_price T.a_least_price cdv A outer s H E) ⟨.cl, false, []⟩ (shs 8) c' (defBody s_least_price) (t_least_price sp_union_of) :=
  ⟨[.sh, .sh, .sh, .sh, .sh, .sh, .sh, .sh], (sm_cons (sm_set 4 S_least_price.nd (em_callB call_lenA lift_len (by rfl) T.z_len PySem.boot_len (am_cons (PEm.ow (em_call F_union_of (hr.mono (by decide)) T.m_union_of T.f_union_of.kp T.b_union_of .nil (fun _ => Rps.nil) (am_consC (em_var 0) (am_consC (em_var 2) (am_consC (em_var 3) am_nil))))) am_nil)))
    (sm_cons (sm_setLc 5 (hsw := sw_true rfl rfl rfl (by decide +kernel)) (own := [("u", 6), ("price", 7)]) rfl S_least_price.nd (im_enum T.z_enumerate (em_var 1)) (blkOk_by (N := n_least_price) (sc := defScope s_least_price) (by decide +kernel)) (fun _ _ _ _ _ => (gm_tup rfl (gsm_cons (gm_name 6 S_least_price.nd) (gsm_cons (gm_name 7 S_least_price.nd) gsm_nil)))) (fun _ _ _ _ _ => (tsm_one (tm_cmp op_ge lift_ge (PEm.ow (em_var 6)) (PEm.ow (em_var 4)) (nomark _)))) (fun _ _ _ _ _ => (em_tup (am_consC (em_var 7) (am_consC (em_var 6) am_nil)))))
    (sm_one (sm_ret (em_if (tm_cmp (op_eqD hr.units) lift_eq (em_varO 5) (PEm.ow (em_lst am_nil)) (nomark _)) em_non (em_callB (cr_minDa rfl hr.units) (lift_best bestLt_lt) (by rfl) T.z_min PyProof.Rows.boot_min (am_cons (em_varO 5) am_nil)))))))⟩
def t_is_epoch_row (sp_union_of : PM.Spec) (sp_is_number : PM.Spec) : TSm :=
  (sSeq (sIf (mOr (mNot (mTB (mOp1 (oIsi "tuple") (mVar 2)))) (mOr (mTB (mOp oNe (mB oLen (mCons (mVar 2) mNil)) (mC (.int 3)))) (mNot (mTB (mB oAll (mCons (mLc (mItems (mVar 2)) [6] (gmN 6) mYes (mCall sp_is_number [.non] (mCons (mVar 6) mNil))) mNil)))))) (sRet (mC (.bl false))) sNext) (sSeq (sAsg (mVar 2) (gmT 3 (gmCons (gmN 3) (gmCons (gmN 4) (gmCons (gmN 5) gmNil))))) (sSeq (sIf (mOr (mNot (mTB (mOp oLe (mVar 3) (mVar 4)))) (mOr (mTB (mOp oGe (mVar 4) (mB oLen (mCons (mVar 0) mNil)))) (mTB (mOp oGe (mVar 5) (mB oLen (mCons (mVar 1) mNil)))))) (sRet (mC (.bl false))) sNext) (sRet (mOp oLe (mB oLen (mCons (mCall sp_union_of [] (mCons (mVar 0) (mCons (mVar 3) (mCons (mVar 4) mNil)))) mNil)) (mVar 5))))))
theorem w_is_epoch_row (T : Tx K mg) (sp_union_of : PM.Spec) (sp_is_number : PM.Spec)
    (F_union_of : FnOk P w K mg base CX0 1 T.a_union_of T.d_union_of p_union_of (spM K .cl sp_union_of))
    (F_is_number : FnOk P w K mg base CX0 2 T.a_is_number T.d_is_number p_is_number (spM K .cl sp_is_number)) (cdv : Value) (A : Around) (outer : List PySem.Env) (s : Shared) (H : Hp) (E : XK)
    (hr : Room 2 (A.deeper (PyProof.Rows.envOfC "is_epoch_row" (defScope s_is_epoch_row) s.heap.objs.size T.a_is_epoch_row cdv))) :
    ∃ c', PSsm (bodyX P w K mg base n_is_epoch_row "is_epoch_row" s_is_epoch_row T.a_is_epoch_row cdv A outer s H E) ⟨.cl, false, []⟩ (shs 7) c' (defBody s_is_epoch_row) (t_is_epoch_row sp_union_of sp_is_number) :=
  ⟨[.sh, .sh, .sh, .sh, .sh, .sh, .sh], (sm_cons (sm_if (c' := [.sh, .sh, .sh, .sh, .sh, .sh, .sh]) (PWm.pt (wm_or (tm_not (tm_val (PEm.ow (em_isi "tuple" (PEm.ow (em_var 2)) (by rfl) T.z_isinstance (by rfl) T.z_tuple PyProof.Rows.boot_tuple)))) (wm_or (tm_cmp (op_neD hr.units) lift_ne (PEm.ow (em_callB call_lenA lift_len (by rfl) T.z_len PySem.boot_len (am_cons (PEm.ow (em_var 2)) am_nil))) (PEm.ow em_int) (nomark _)) (wm_or1 (tm_not (tm_val (PEm.ow (em_callB (cr_all rfl) lift_all (by rfl) T.z_all PyProof.Rows.boot_all (am_cons (PEm.ow (em_lc (own := [("one", 6)]) rfl S_is_epoch_row.nd (im_seq (em_var 2)) (blkOk_by (N := n_is_epoch_row) (sc := defScope s_is_epoch_row) (by decide +kernel)) (fun _ _ _ _ _ => (gm_name 6 S_is_epoch_row.nd)) (fun _ _ _ _ _ => tsm_nil) (fun _ _ _ _ _ => (em_call F_is_number (hr.mono (by decide)) T.m_is_number T.f_is_number.kp T.b_is_number1 T.v_is_number1 (cst_ok _ rfl) (am_consC (em_var 6) am_nil))))) am_nil))))))))) (sm_one (sm_ret em_bl)) sm_nil)
    (sm_cons (sm_asg (em_var 2) (gm_tup rfl (gsm_cons (gm_name 3 S_is_epoch_row.nd) (gsm_cons (gm_name 4 S_is_epoch_row.nd) (gsm_cons (gm_name 5 S_is_epoch_row.nd) gsm_nil)))))
    (sm_cons (sm_if (c' := [.sh, .sh, .sh, .sh, .sh, .sh, .sh]) (PWm.pt (wm_or (tm_not (tm_cmp op_le lift_le (PEm.ow (em_var 3)) (PEm.ow (em_var 4)) (nomark _))) (wm_or (tm_cmp op_ge lift_ge (PEm.ow (em_var 4)) (PEm.ow (em_callB call_lenA lift_len (by rfl) T.z_len PySem.boot_len (am_cons (PEm.ow (em_var 0)) am_nil))) (nomark _)) (wm_or1 (tm_cmp op_ge lift_ge (PEm.ow (em_var 5)) (PEm.ow (em_callB call_lenA lift_len (by rfl) T.z_len PySem.boot_len (am_cons (PEm.ow (em_var 1)) am_nil))) (nomark _)))))) (sm_one (sm_ret em_bl)) sm_nil)
    (sm_one (sm_ret (em_cmp op_le lift_le (PEm.ow (em_callB call_lenA lift_len (by rfl) T.z_len PySem.boot_len (am_cons (PEm.ow (em_call F_union_of (hr.mono (by decide)) T.m_union_of T.f_union_of.kp T.b_union_of .nil (fun _ => Rps.nil) (am_consC (em_var 0) (am_consC (em_var 3) (am_consC (em_var 4) am_nil))))) am_nil))) (PEm.ow (em_var 5)) (nomark _)))))))⟩
def t_is_degree_plan (sp_is_epoch_row : PM.Spec) : TSm :=
  (sSeq (sIf (mOr (mNot (mTB (mOp1 (oIsi "tuple") (mVar 2)))) (mNot (mTB (mB oAll (mCons (mLc (mItems (mVar 2)) [7] (gmN 7) mYes (mCall sp_is_epoch_row [] (mCons (mVar 0) (mCons (mVar 1) (mCons (mVar 7) mNil))))) mNil))))) (sRet (mC (.bl false))) sNext) (sSeq (sSet 3 (mOp oAdd (mLst (mCons (mOp1 oNeg (mC (.int 1))) mNil)) (mLc (mItems (mVar 2)) [4, 5, 6] (gmT 3 (gmCons (gmN 4) (gmCons (gmN 5) (gmCons (gmN 6) gmNil)))) mYes (mVar 5)))) (sRet (mAndV (mOp oEq (mOp oIx (mVar 3) (mOp1 oNeg (mC (.int 1)))) (mOp oSub (mB oLen (mCons (mVar 0) mNil)) (mC (.int 1)))) (mB oAll (mCons (mLc (mZipM (mVar 2) (mVar 3)) [8, 9] (gmT 2 (gmCons (gmN 8) (gmCons (gmN 9) gmNil))) mYes (mOp oEq (mOp oIx (mVar 8) (mC (.int 0))) (mOp oAdd (mVar 9) (mC (.int 1))))) mNil))))))
theorem w_is_degree_plan (T : Tx K mg) (sp_is_epoch_row : PM.Spec)
    (F_is_epoch_row : FnOk P w K mg base CX0 3 T.a_is_epoch_row T.d_is_epoch_row p_is_epoch_row (spM K .cl sp_is_epoch_row)) (cdv : Value) (A : Around) (outer : List PySem.Env) (s : Shared) (H : Hp) (E : XK)
    (hr : Room 3 (A.deeper (PyProof.Rows.envOfC "is_degree_plan" (defScope s_is_degree_plan) s.heap.objs.size T.a_is_degree_plan cdv))) :
    ∃ c', PSsm (bodyX P w K mg base n_is_degree_plan "is_degree_plan" s_is_degree_plan T.a_is_degree_plan cdv A outer s H E) ⟨.cl, false, []⟩ (shs 10) c' (defBody s_is_degree_plan) (t_is_degree_plan sp_is_epoch_row) :=
  ⟨[.sh, .sh, .sh, .sh, .sh, .sh, .sh, .sh, .sh, .sh], (sm_cons (sm_if (c' := [.sh, .sh, .sh, .sh, .sh, .sh, .sh, .sh, .sh, .sh]) (PWm.pt (wm_or (tm_not (tm_val (PEm.ow (em_isi "tuple" (PEm.ow (em_var 2)) (by rfl) T.z_isinstance (by rfl) T.z_tuple PyProof.Rows.boot_tuple)))) (wm_or1 (tm_not (tm_val (PEm.ow (em_callB (cr_all rfl) lift_all (by rfl) T.z_all PyProof.Rows.boot_all (am_cons (PEm.ow (em_lc (own := [("one", 7)]) rfl S_is_degree_plan.nd (im_seq (em_var 2)) (blkOk_by (N := n_is_degree_plan) (sc := defScope s_is_degree_plan) (by decide +kernel)) (fun _ _ _ _ _ => (gm_name 7 S_is_degree_plan.nd)) (fun _ _ _ _ _ => tsm_nil) (fun _ _ _ _ _ => (em_call F_is_epoch_row (hr.mono (by decide)) T.m_is_epoch_row T.f_is_epoch_row.kp T.b_is_epoch_row .nil (fun _ => Rps.nil) (am_consC (em_var 0) (am_consC (em_var 1) (am_consC (em_var 7) am_nil))))))) am_nil)))))))) (sm_one (sm_ret em_bl)) sm_nil)
    (sm_cons (sm_set 3 S_is_degree_plan.nd (em_op op_plus lift_plus (PEm.ow (em_lst (am_consC (em_un un_neg lift_neg (PEm.ow em_int)) am_nil))) (PEm.ow (em_lc (own := [("first", 4), ("last", 5), ("u", 6)]) rfl S_is_degree_plan.nd (im_seq (em_var 2)) (blkOk_by (N := n_is_degree_plan) (sc := defScope s_is_degree_plan) (by decide +kernel)) (fun _ _ _ _ _ => (gm_tup rfl (gsm_cons (gm_name 4 S_is_degree_plan.nd) (gsm_cons (gm_name 5 S_is_degree_plan.nd) (gsm_cons (gm_name 6 S_is_degree_plan.nd) gsm_nil))))) (fun _ _ _ _ _ => tsm_nil) (fun _ _ _ _ _ => (em_var 5))))))
    (sm_one (sm_ret (em_and (PEm.ow (em_cmp (op_eqD hr.units) lift_eq (PEm.ow (em_ix (PEm.ow (em_var 3)) (PEm.ow (em_un un_neg lift_neg (PEm.ow em_int))) (fun _ _ => rfl))) (PEm.ow (em_op op_sub lift_sub (PEm.ow (em_callB call_lenA lift_len (by rfl) T.z_len PySem.boot_len (am_cons (PEm.ow (em_var 0)) am_nil))) (PEm.ow em_int))) (nomark _))) (em_one (em_callB (cr_all rfl) lift_all (by rfl) T.z_all PyProof.Rows.boot_all (am_cons (PEm.ow (em_lc (own := [("row", 8), ("end", 9)]) rfl S_is_degree_plan.nd (im_zipM T.z_zip (em_var 2) (em_var 3)) (blkOk_by (N := n_is_degree_plan) (sc := defScope s_is_degree_plan) (by decide +kernel)) (fun _ _ _ _ _ => (gm_tup rfl (gsm_cons (gm_name 8 S_is_degree_plan.nd) (gsm_cons (gm_name 9 S_is_degree_plan.nd) gsm_nil)))) (fun _ _ _ _ _ => tsm_nil) (fun _ _ _ _ _ => (em_cmp (op_eqD hr.units) lift_eq (PEm.ow (em_ix (PEm.ow (em_var 8)) (PEm.ow em_int) (fun _ _ => rfl))) (PEm.ow (em_op op_plus lift_plus (PEm.ow (em_var 9)) (PEm.ow em_int))) (nomark _))))) am_nil))))))))⟩
def t_plan_price : TSm :=
  (sRet (mB oSum (mCons (mLc (mItems (mVar 1)) [2, 3, 4] (gmT 3 (gmCons (gmN 2) (gmCons (gmN 3) (gmCons (gmN 4) gmNil)))) mYes (mOp oIx (mVar 0) (mVar 4))) mNil)))
theorem w_plan_price (T : Tx K mg) (cdv : Value) (A : Around) (outer : List PySem.Env) (s : Shared) (H : Hp) (E : XK)
    (hr : Room 0 (A.deeper (PyProof.Rows.envOfC "plan_price" (defScope s_plan_price) s.heap.objs.size T.a_plan_price cdv))) :
    ∃ c', PSsm (bodyX P w K mg base n_plan_price "plan_price" s_plan_price T.a_plan_price cdv A outer s H E) ⟨.cl, false, []⟩ (shs 5) c' (defBody s_plan_price) (t_plan_price) :=
  ⟨[.sh, .sh, .sh, .sh, .sh], (sm_one (sm_ret (em_callB (cr_sum rfl) lift_sum (by rfl) T.z_sum PyProof.Rows.boot_sum (am_cons (PEm.ow (em_lc (own := [("first", 2), ("last", 3), ("u", 4)]) rfl S_plan_price.nd (im_seq (em_var 1)) (blkOk_by (N := n_plan_price) (sc := defScope s_plan_price) (by decide +kernel)) (fun _ _ _ _ _ => (gm_tup rfl (gsm_cons (gm_name 2 S_plan_price.nd) (gsm_cons (gm_name 3 S_plan_price.nd) (gsm_cons (gm_name 4 S_plan_price.nd) gsm_nil))))) (fun _ _ _ _ _ => tsm_nil) (fun _ _ _ _ _ => (em_ix (PEm.ow (em_var 0)) (PEm.ow (em_var 4)) (fun _ _ => rfl))))) am_nil))))⟩
def t_least_ways (sp_least_price : PM.Spec) : TSm :=
  (sSeq (sSet 2 (mLst (mCons (mTup (mCons (mC (.int 0)) (mCons (mC (.non)) mNil))) mNil))) (sSeq (sFor (mRng1 (mB oLen (mCons (mVar 0) mNil))) (gmN 3) (sSeq (sSet 4 (mLst mNil)) (sSeq (sFor (mRng1 (mOp oAdd (mVar 3) (mC (.int 1)))) (gmN 5) (sSeq (sSet 6 (mCall sp_least_price [] (mCons (mVar 0) (mCons (mVar 1) (mCons (mVar 5) (mCons (mVar 3) mNil)))))) (sIf (mAnd (mTB (mOp oNotN (mVar 6) (mC (.non)))) (mTB (mOp oNotN (mOp oIx (mVarO 2) (mVar 5)) (mC (.non))))) (sApp 4 (mTup (mCons (mOp oAdd (mOp oIx (mOp oIx (mVarO 2) (mVar 5)) (mC (.int 0))) (mOp oIx (mVar 6) (mC (.int 0)))) (mCons (mTup (mCons (mVar 5) (mCons (mVar 3) (mCons (mOp oIx (mVar 6) (mC (.int 1))) mNil)))) mNil)))) sNext))) (sApp 2 (mIf (mTB (mOp oEq (mVarO 4) (mLst mNil))) (mC (.non)) (mB (oBest bestLt) (mCons (mVarO 4) mNil))))))) (sRet (mB oTuple (mCons (mVarO 2) mNil)))))
theorem w_least_ways (T : Tx K mg) (sp_least_price : PM.Spec)
    (F_least_price : FnOk P w K mg base CX0 2 T.a_least_price T.d_least_price p_least_price (spM K .cl sp_least_price)) (cdv : Value) (A : Around) (outer : List PySem.Env) (s : Shared) (H : Hp) (E : XK)
    (hr : Room 2 (A.deeper (PyProof.Rows.envOfC "least_ways" (defScope s_least_ways) s.heap.objs.size T.a_least_ways cdv))) :
    ∃ c', PSsm (bodyX P w K mg base n_least_ways "least_ways" s_least_ways T.a_least_ways cdv A outer s H E) ⟨.cl, false, []⟩ (shs 7) c' (defBody s_least_ways) (t_least_ways sp_least_price) :=
  ⟨[.sh, .sh, .sh, .sh, .sh, .sh, .sh], (sm_cons (sm_setF 2 S_least_ways.nd (em_lst (am_consC (em_tup (am_consC em_int (am_consC em_non am_nil))) am_nil)))
    (sm_cons (sm_for (c := [.sh, .sh, .ow, .sh, .sh, .sh, .sh]) .never rfl (im_rng1 T.z_range (PEm.ow (em_callB call_lenA lift_len (by rfl) T.z_len PySem.boot_len (am_cons (PEm.ow (em_var 0)) am_nil)))) (gm_name 3 S_least_ways.nd) (sm_post (by decide) (sm_cons (sm_setF 4 S_least_ways.nd (em_lst am_nil))
    (sm_cons (sm_for (c := [.sh, .sh, .ow, .sh, .ow, .sh, .sh]) .never rfl (im_rng1 T.z_range (PEm.ow (em_op op_plus lift_plus (PEm.ow (em_var 3)) (PEm.ow em_int)))) (gm_name 5 S_least_ways.nd) (sm_cons (sm_set 6 S_least_ways.nd (em_call F_least_price (hr.mono (by decide)) T.m_least_price T.f_least_price.kp T.b_least_price .nil (fun _ => Rps.nil) (am_consC (em_var 0) (am_consC (em_var 1) (am_consC (em_var 5) (am_consC (em_var 3) am_nil))))))
    (sm_one (sm_if (c' := [.sh, .sh, .ow, .sh, .ow, .sh, .sh]) (PWm.pt (wm_and (tm_cmp op_notN lift_notN (PEm.ow (em_var 6)) (PEm.ow em_non) (nomark _)) (wm_and1 (tm_cmp op_notN lift_notN (PEm.ow (em_ix (em_varO 2) (PEm.ow (em_var 5)) (fun _ _ => rfl))) (PEm.ow em_non) (nomark _))))) (sm_one (sm_app 4 (em_tup (am_consC (em_op op_plus lift_plus (PEm.ow (em_ix (PEm.ow (em_ix (em_varO 2) (PEm.ow (em_var 5)) (fun _ _ => rfl))) (PEm.ow em_int) (fun _ _ => rfl))) (PEm.ow (em_ix (PEm.ow (em_var 6)) (PEm.ow em_int) (fun _ _ => rfl)))) (am_consC (em_tup (am_consC (em_var 5) (am_consC (em_var 3) (am_consC (em_ix (PEm.ow (em_var 6)) (PEm.ow em_int) (fun _ _ => rfl)) am_nil)))) am_nil))))) sm_nil))) (fun _ e => by cases e))
    (sm_one (sm_app 2 (em_if (tm_cmp (op_eqD hr.units) lift_eq (em_varO 4) (PEm.ow (em_lst am_nil)) (nomark _)) em_non (em_callB (cr_minDa rfl hr.units) (lift_best bestLt_lt) (by rfl) T.z_min PyProof.Rows.boot_min (am_cons (em_varO 4) am_nil)))))))) (fun _ e => by cases e))
    (sm_one (sm_ret (em_callTy call_tuple_of lift_tuple (by rfl) T.z_tuple PyProof.Rows.boot_tuple (am_cons (em_varO 2) am_nil))))))⟩
def t_cheapest_plan (sp_least_ways : PM.Spec) : TSm :=
  (sSeq (sSet 2 (mCall sp_least_ways [] (mCons (mVar 0) (mCons (mVar 1) mNil)))) (sSeq (sIf (mTB (mOp (oInA false) (mC (.non)) (mVar 2))) (sRet (mC (.non))) sNext) (sSeq (sPar [3, 4] (mCons (mLst mNil) (mCons (mB oLen (mCons (mVar 0) mNil)) mNil))) (sSeq (sWhile (mTB (mOp oGt (mVar 4) (mC (.int 0)))) (sSeq (sApp 3 (mOp oIx (mOp oIx (mVar 2) (mVar 4)) (mC (.int 1)))) (sSet 4 (mOp oIx (mOp oIx (mOp oIx (mVar 2) (mVar 4)) (mC (.int 1))) (mC (.int 0)))))) (sRet (mB oTuple (mCons (mOp1 oRev (mVarO 3)) mNil)))))))
theorem w_cheapest_plan (T : Tx K mg) (sp_least_ways : PM.Spec)
    (F_least_ways : FnOk P w K mg base CX0 3 T.a_least_ways T.d_least_ways p_least_ways (spM K .cl sp_least_ways)) (cdv : Value) (A : Around) (outer : List PySem.Env) (s : Shared) (H : Hp) (E : XK)
    (hr : Room 3 (A.deeper (PyProof.Rows.envOfC "cheapest_plan" (defScope s_cheapest_plan) s.heap.objs.size T.a_cheapest_plan cdv))) :
    ∃ c', PSsm (bodyX P w K mg base n_cheapest_plan "cheapest_plan" s_cheapest_plan T.a_cheapest_plan cdv A outer s H E) ⟨.cl, false, []⟩ (shs 5) c' (defBody s_cheapest_plan) (t_cheapest_plan sp_least_ways) :=
  ⟨[.sh, .sh, .sh, .sh, .sh], (sm_cons (sm_set 2 S_cheapest_plan.nd (em_call F_least_ways (hr.mono (by decide)) T.m_least_ways T.f_least_ways.kp T.b_least_ways .nil (fun _ => Rps.nil) (am_consC (em_var 0) (am_consC (em_var 1) am_nil))))
    (sm_cons (sm_if (c' := [.sh, .sh, .sh, .sh, .sh]) (tm_cmp (op_inA (hu65_of hr)) lift_inA (PEm.ow em_non) (PEm.ow (em_var 2)) (by with_unfolding_all rfl)) (sm_one (sm_ret em_non)) sm_nil)
    (sm_cons (sm_par [3, 4] rfl S_cheapest_plan.nd (xm_fr (em_lst am_nil) (xm_cl (em_callB call_lenA lift_len (by rfl) T.z_len PySem.boot_len (am_cons (PEm.ow (em_var 0)) am_nil)) xm_nil)))
    (sm_cons (sm_while (c := [.sh, .sh, .sh, .ow, .sh]) .never (tm_cmp op_gt lift_gt (PEm.ow (em_var 4)) (PEm.ow em_int) (nomark _)) (sm_cons (sm_app 3 (em_ix (PEm.ow (em_ix (PEm.ow (em_var 2)) (PEm.ow (em_var 4)) (fun _ _ => rfl))) (PEm.ow em_int) (fun _ _ => rfl)))
    (sm_one (sm_set 4 S_cheapest_plan.nd (em_ix (PEm.ow (em_ix (PEm.ow (em_ix (PEm.ow (em_var 2)) (PEm.ow (em_var 4)) (fun _ _ => rfl))) (PEm.ow em_int) (fun _ _ => rfl))) (PEm.ow em_int) (fun _ _ => rfl))))))
    (sm_one (sm_ret (em_callTy call_tuple_of lift_tuple (by rfl) T.z_tuple PyProof.Rows.boot_tuple (am_cons (PEm.ow (em_rev (em_varO 3))) am_nil))))))))⟩
def t_least_levels (sp_least_ways : PM.Spec) : TSm :=
  (sSeq (sSet 2 (mCall sp_least_ways [] (mCons (mVar 0) (mCons (mVar 1) mNil)))) (sRet (mIf (mTB (mOp (oInA false) (mC (.non)) (mVar 2))) (mC (.non)) (mB oTuple (mCons (mLc (mItems (mVar 2)) [3, 4] (gmT 2 (gmCons (gmN 3) (gmCons (gmN 4) gmNil))) mYes (mVar 3)) mNil)))))
theorem w_least_levels (T : Tx K mg) (sp_least_ways : PM.Spec)
    (F_least_ways : FnOk P w K mg base CX0 3 T.a_least_ways T.d_least_ways p_least_ways (spM K .cl sp_least_ways)) (cdv : Value) (A : Around) (outer : List PySem.Env) (s : Shared) (H : Hp) (E : XK)
    (hr : Room 3 (A.deeper (PyProof.Rows.envOfC "least_levels" (defScope s_least_levels) s.heap.objs.size T.a_least_levels cdv))) :
    ∃ c', PSsm (bodyX P w K mg base n_least_levels "least_levels" s_least_levels T.a_least_levels cdv A outer s H E) ⟨.cl, false, []⟩ (shs 5) c' (defBody s_least_levels) (t_least_levels sp_least_ways) :=
  ⟨[.sh, .sh, .sh, .sh, .sh], (sm_cons (sm_set 2 S_least_levels.nd (em_call F_least_ways (hr.mono (by decide)) T.m_least_ways T.f_least_ways.kp T.b_least_ways .nil (fun _ => Rps.nil) (am_consC (em_var 0) (am_consC (em_var 1) am_nil))))
    (sm_one (sm_ret (em_if (tm_cmp (op_inA (hu65_of hr)) lift_inA (PEm.ow em_non) (PEm.ow (em_var 2)) (by with_unfolding_all rfl)) em_non (em_callTy call_tuple_of lift_tuple (by rfl) T.z_tuple PyProof.Rows.boot_tuple (am_cons (PEm.ow (em_lc (own := [("price", 3), ("row", 4)]) rfl S_least_levels.nd (im_seq (em_var 2)) (blkOk_by (N := n_least_levels) (sc := defScope s_least_levels) (by decide +kernel)) (fun _ _ _ _ _ => (gm_tup rfl (gsm_cons (gm_name 3 S_least_levels.nd) (gsm_cons (gm_name 4 S_least_levels.nd) gsm_nil)))) (fun _ _ _ _ _ => tsm_nil) (fun _ _ _ _ _ => (em_var 3)))) am_nil))))))⟩
def t_is_levels (sp_least_price : PM.Spec) (sp_is_number : PM.Spec) : TSm :=
  (sSeq (sIf (mOr (mNot (mTB (mOp1 (oIsi "tuple") (mVar 2)))) (mTB (mOp oNe (mB oLen (mCons (mVar 2) mNil)) (mOp oAdd (mB oLen (mCons (mVar 0) mNil)) (mC (.int 1)))))) (sRet (mC (.bl false))) sNext) (sSeq (sIf (mOr (mNot (mTB (mB oAll (mCons (mLc (mItems (mVar 2)) [6] (gmN 6) mYes (mCall sp_is_number [.non] (mCons (mVar 6) mNil))) mNil)))) (mTB (mOp oNe (mOp oIx (mVar 2) (mC (.int 0))) (mC (.int 0))))) (sRet (mC (.bl false))) sNext) (sSeq (sFor (mRng1 (mB oLen (mCons (mVar 0) mNil))) (gmN 3) (sFor (mRng1 (mOp oAdd (mVar 3) (mC (.int 1)))) (gmN 4) (sSeq (sSet 5 (mCall sp_least_price [] (mCons (mVar 0) (mCons (mVar 1) (mCons (mVar 4) (mCons (mVar 3) mNil)))))) (sIf (mAnd (mTB (mOp oNotN (mVar 5) (mC (.non)))) (mTB (mOp oGt (mOp oSub (mOp oIx (mVar 2) (mOp oAdd (mVar 3) (mC (.int 1)))) (mOp oIx (mVar 2) (mVar 4))) (mOp oIx (mVar 5) (mC (.int 0)))))) (sRet (mC (.bl false))) sNext)))) (sRet (mC (.bl true))))))
theorem w_is_levels (T : Tx K mg) (sp_least_price : PM.Spec) (sp_is_number : PM.Spec)
    (F_least_price : FnOk P w K mg base CX0 2 T.a_least_price T.d_least_price p_least_price (spM K .cl sp_least_price))
    (F_is_number : FnOk P w K mg base CX0 2 T.a_is_number T.d_is_number p_is_number (spM K .cl sp_is_number)) (cdv : Value) (A : Around) (outer : List PySem.Env) (s : Shared) (H : Hp) (E : XK)
    (hr : Room 2 (A.deeper (PyProof.Rows.envOfC "is_levels" (defScope s_is_levels) s.heap.objs.size T.a_is_levels cdv))) :
    ∃ c', PSsm (bodyX P w K mg base n_is_levels "is_levels" s_is_levels T.a_is_levels cdv A outer s H E) ⟨.cl, false, []⟩ (shs 7) c' (defBody s_is_levels) (t_is_levels sp_least_price sp_is_number) :=
  ⟨[.sh, .sh, .sh, .sh, .sh, .sh, .sh], (sm_cons (sm_if (c' := [.sh, .sh, .sh, .sh, .sh, .sh, .sh]) (PWm.pt (wm_or (tm_not (tm_val (PEm.ow (em_isi "tuple" (PEm.ow (em_var 2)) (by rfl) T.z_isinstance (by rfl) T.z_tuple PyProof.Rows.boot_tuple)))) (wm_or1 (tm_cmp (op_neD hr.units) lift_ne (PEm.ow (em_callB call_lenA lift_len (by rfl) T.z_len PySem.boot_len (am_cons (PEm.ow (em_var 2)) am_nil))) (PEm.ow (em_op op_plus lift_plus (PEm.ow (em_callB call_lenA lift_len (by rfl) T.z_len PySem.boot_len (am_cons (PEm.ow (em_var 0)) am_nil))) (PEm.ow em_int))) (nomark _))))) (sm_one (sm_ret em_bl)) sm_nil)
    (sm_cons (sm_if (c' := [.sh, .sh, .sh, .sh, .sh, .sh, .sh]) (PWm.pt (wm_or (tm_not (tm_val (PEm.ow (em_callB (cr_all rfl) lift_all (by rfl) T.z_all PyProof.Rows.boot_all (am_cons (PEm.ow (em_lc (own := [("one", 6)]) rfl S_is_levels.nd (im_seq (em_var 2)) (blkOk_by (N := n_is_levels) (sc := defScope s_is_levels) (by decide +kernel)) (fun _ _ _ _ _ => (gm_name 6 S_is_levels.nd)) (fun _ _ _ _ _ => tsm_nil) (fun _ _ _ _ _ => (em_call F_is_number (hr.mono (by decide)) T.m_is_number T.f_is_number.kp T.b_is_number1 T.v_is_number1 (cst_ok _ rfl) (am_consC (em_var 6) am_nil))))) am_nil))))) (wm_or1 (tm_cmp (op_neD hr.units) lift_ne (PEm.ow (em_ix (PEm.ow (em_var 2)) (PEm.ow em_int) (fun _ _ => rfl))) (PEm.ow em_int) (nomark _))))) (sm_one (sm_ret em_bl)) sm_nil)
    (sm_cons (sm_for (c := [.sh, .sh, .sh, .sh, .sh, .sh, .sh]) .never rfl (im_rng1 T.z_range (PEm.ow (em_callB call_lenA lift_len (by rfl) T.z_len PySem.boot_len (am_cons (PEm.ow (em_var 0)) am_nil)))) (gm_name 3 S_is_levels.nd) (sm_one (sm_for (c := [.sh, .sh, .sh, .sh, .sh, .sh, .sh]) .never rfl (im_rng1 T.z_range (PEm.ow (em_op op_plus lift_plus (PEm.ow (em_var 3)) (PEm.ow em_int)))) (gm_name 4 S_is_levels.nd) (sm_cons (sm_set 5 S_is_levels.nd (em_call F_least_price (hr.mono (by decide)) T.m_least_price T.f_least_price.kp T.b_least_price .nil (fun _ => Rps.nil) (am_consC (em_var 0) (am_consC (em_var 1) (am_consC (em_var 4) (am_consC (em_var 3) am_nil))))))
    (sm_one (sm_if (c' := [.sh, .sh, .sh, .sh, .sh, .sh, .sh]) (PWm.pt (wm_and (tm_cmp op_notN lift_notN (PEm.ow (em_var 5)) (PEm.ow em_non) (nomark _)) (wm_and1 (tm_cmp op_gt lift_gt (PEm.ow (em_op op_sub lift_sub (PEm.ow (em_ix (PEm.ow (em_var 2)) (PEm.ow (em_op op_plus lift_plus (PEm.ow (em_var 3)) (PEm.ow em_int))) (fun _ _ => rfl))) (PEm.ow (em_ix (PEm.ow (em_var 2)) (PEm.ow (em_var 4)) (fun _ _ => rfl))))) (PEm.ow (em_ix (PEm.ow (em_var 5)) (PEm.ow em_int) (fun _ _ => rfl))) (nomark _))))) (sm_one (sm_ret em_bl)) sm_nil))) (fun _ e => by cases e))) (fun _ e => by cases e))
    (sm_one (sm_ret em_bl)))))⟩
def t_turning : TSm :=
  (sRet (mB oMin2 (mCons (mVar 0) (mCons (mVar 1) mNil))))
theorem w_turning (T : Tx K mg) (cdv : Value) (A : Around) (outer : List PySem.Env) (s : Shared) (H : Hp) (E : XK)
    (hr : Room 0 (A.deeper (PyProof.Rows.envOfC "turning" (defScope s_turning) s.heap.objs.size T.a_turning cdv))) :
    ∃ c', PSsm (bodyX P w K mg base n_turning "turning" s_turning T.a_turning cdv A outer s H E) ⟨.cl, false, []⟩ (shs 2) c' (defBody s_turning) (t_turning) :=
  ⟨[.sh, .sh], (sm_one (sm_ret (em_callB (call_min2 rfl) lift_min2 (by rfl) T.z_min PyProof.Rows.boot_min (am_cons (PEm.ow (em_var 0)) (am_cons (PEm.ow (em_var 1)) am_nil)))))⟩
def t_most_over_all (sp_turning : PM.Spec) : TSm :=
  (sRet (mB oMin2 (mCons (mOp oAdd (mVar 0) (mOp oMul (mVar 4) (mOp oSub (mVar 5) (mC (.int 1))))) (mCons (mOp oAdd (mOp oAdd (mVar 1) (mOp oMul (mCall sp_turning [] (mCons (mVar 1) (mCons (mVar 4) mNil))) (mOp oSub (mVar 5) (mC (.int 1))))) (mOp oMul (mVar 2) (mOp oAdd (mVar 5) (mVar 3)))) mNil))))
theorem w_most_over_all (T : Tx K mg) (sp_turning : PM.Spec)
    (F_turning : FnOk P w K mg base CX0 1 T.a_turning T.d_turning p_turning (spM K .cl sp_turning)) (cdv : Value) (A : Around) (outer : List PySem.Env) (s : Shared) (H : Hp) (E : XK)
    (hr : Room 1 (A.deeper (PyProof.Rows.envOfC "most_over_all" (defScope s_most_over_all) s.heap.objs.size T.a_most_over_all cdv))) :
    ∃ c', PSsm (bodyX P w K mg base n_most_over_all "most_over_all" s_most_over_all T.a_most_over_all cdv A outer s H E) ⟨.cl, false, []⟩ (shs 6) c' (defBody s_most_over_all) (t_most_over_all sp_turning) :=
  ⟨[.sh, .sh, .sh, .sh, .sh, .sh], (sm_one (sm_ret (em_callB (call_min2 rfl) lift_min2 (by rfl) T.z_min PyProof.Rows.boot_min (am_cons (PEm.ow (em_op op_plus lift_plus (PEm.ow (em_var 0)) (PEm.ow (em_op op_mul lift_mul (PEm.ow (em_var 4)) (PEm.ow (em_op op_sub lift_sub (PEm.ow (em_var 5)) (PEm.ow em_int))))))) (am_cons (PEm.ow (em_op op_plus lift_plus (PEm.ow (em_op op_plus lift_plus (PEm.ow (em_var 1)) (PEm.ow (em_op op_mul lift_mul (PEm.ow (em_call F_turning (hr.mono (by decide)) T.m_turning T.f_turning.kp T.b_turning .nil (fun _ => Rps.nil) (am_consC (em_var 1) (am_consC (em_var 4) am_nil)))) (PEm.ow (em_op op_sub lift_sub (PEm.ow (em_var 5)) (PEm.ow em_int))))))) (PEm.ow (em_op op_mul lift_mul (PEm.ow (em_var 2)) (PEm.ow (em_op op_plus lift_plus (PEm.ow (em_var 5)) (PEm.ow (em_var 3)))))))) am_nil)))))⟩
def t_sent_at_handing : TSm :=
  (sRet (mOp oMul (mOp oMul (mVar 0) (mVar 0)) (mOp oAdd (mVar 1) (mC (.int 1)))))
theorem w_sent_at_handing (T : Tx K mg) (cdv : Value) (A : Around) (outer : List PySem.Env) (s : Shared) (H : Hp) (E : XK)
    (hr : Room 0 (A.deeper (PyProof.Rows.envOfC "sent_at_handing" (defScope s_sent_at_handing) s.heap.objs.size T.a_sent_at_handing cdv))) :
    ∃ c', PSsm (bodyX P w K mg base n_sent_at_handing "sent_at_handing" s_sent_at_handing T.a_sent_at_handing cdv A outer s H E) ⟨.cl, false, []⟩ (shs 2) c' (defBody s_sent_at_handing) (t_sent_at_handing) :=
  ⟨[.sh, .sh], (sm_one (sm_ret (em_op op_mul lift_mul (PEm.ow (em_op op_mul lift_mul (PEm.ow (em_var 0)) (PEm.ow (em_var 0)))) (PEm.ow (em_op op_plus lift_plus (PEm.ow (em_var 1)) (PEm.ow em_int))))))⟩
def t_sent_to_newcomer : TSm :=
  (sRet (mOp oAdd (mVar 0) (mC (.int 1))))
theorem w_sent_to_newcomer (T : Tx K mg) (cdv : Value) (A : Around) (outer : List PySem.Env) (s : Shared) (H : Hp) (E : XK)
    (hr : Room 0 (A.deeper (PyProof.Rows.envOfC "sent_to_newcomer" (defScope s_sent_to_newcomer) s.heap.objs.size T.a_sent_to_newcomer cdv))) :
    ∃ c', PSsm (bodyX P w K mg base n_sent_to_newcomer "sent_to_newcomer" s_sent_to_newcomer T.a_sent_to_newcomer cdv A outer s H E) ⟨.cl, false, []⟩ (shs 1) c' (defBody s_sent_to_newcomer) (t_sent_to_newcomer) :=
  ⟨[.sh], (sm_one (sm_ret (em_op op_plus lift_plus (PEm.ow (em_var 0)) (PEm.ow em_int))))⟩
def t_rhythm_of : TSm :=
  (sRet (mOp oFdiv (mOp oSub (mVar 0) (mC (.int 1))) (mVar 1)))
theorem w_rhythm_of (T : Tx K mg) (cdv : Value) (A : Around) (outer : List PySem.Env) (s : Shared) (H : Hp) (E : XK)
    (hr : Room 0 (A.deeper (PyProof.Rows.envOfC "rhythm_of" (defScope s_rhythm_of) s.heap.objs.size T.a_rhythm_of cdv))) :
    ∃ c', PSsm (bodyX P w K mg base n_rhythm_of "rhythm_of" s_rhythm_of T.a_rhythm_of cdv A outer s H E) ⟨.cl, false, []⟩ (shs 2) c' (defBody s_rhythm_of) (t_rhythm_of) :=
  ⟨[.sh, .sh], (sm_one (sm_ret (em_op op_fdiv lift_fdiv (PEm.ow (em_op op_sub lift_sub (PEm.ow (em_var 0)) (PEm.ow em_int))) (PEm.ow (em_var 1)))))⟩
def t_rhythm_bill (sp_rhythm_of : PM.Spec) (sp_sent_at_handing : PM.Spec) (sp_sent_to_newcomer : PM.Spec) : TSm :=
  (sSeq (sSet 5 (mCall sp_rhythm_of [] (mCons (mVar 3) (mCons (mVar 4) mNil)))) (sRet (mOp oAdd (mOp oMul (mVar 5) (mCall sp_sent_at_handing [] (mCons (mVar 0) (mCons (mVar 2) mNil)))) (mOp oMul (mOp oMul (mOp oSub (mOp oSub (mVar 3) (mC (.int 1))) (mVar 5)) (mVar 1)) (mCall sp_sent_to_newcomer [] (mCons (mVar 2) mNil))))))
theorem w_rhythm_bill (T : Tx K mg) (sp_rhythm_of : PM.Spec) (sp_sent_at_handing : PM.Spec) (sp_sent_to_newcomer : PM.Spec)
    (F_rhythm_of : FnOk P w K mg base CX0 1 T.a_rhythm_of T.d_rhythm_of p_rhythm_of (spM K .cl sp_rhythm_of))
    (F_sent_at_handing : FnOk P w K mg base CX0 1 T.a_sent_at_handing T.d_sent_at_handing p_sent_at_handing (spM K .cl sp_sent_at_handing))
    (F_sent_to_newcomer : FnOk P w K mg base CX0 1 T.a_sent_to_newcomer T.d_sent_to_newcomer p_sent_to_newcomer (spM K .cl sp_sent_to_newcomer)) (cdv : Value) (A : Around) (outer : List PySem.Env) (s : Shared) (H : Hp) (E : XK)
    (hr : Room 1 (A.deeper (PyProof.Rows.envOfC "rhythm_bill" (defScope s_rhythm_bill) s.heap.objs.size T.a_rhythm_bill cdv))) :
    ∃ c', PSsm (bodyX P w K mg base n_rhythm_bill "rhythm_bill" s_rhythm_bill T.a_rhythm_bill cdv A outer s H E) ⟨.cl, false, []⟩ (shs 6) c' (defBody s_rhythm_bill) (t_rhythm_bill sp_rhythm_of sp_sent_at_handing sp_sent_to_newcomer) :=
  ⟨[.sh, .sh, .sh, .sh, .sh, .sh], (sm_cons (sm_set 5 S_rhythm_bill.nd (em_call F_rhythm_of (hr.mono (by decide)) T.m_rhythm_of T.f_rhythm_of.kp T.b_rhythm_of .nil (fun _ => Rps.nil) (am_consC (em_var 3) (am_consC (em_var 4) am_nil))))
    (sm_one (sm_ret (em_op op_plus lift_plus (PEm.ow (em_op op_mul lift_mul (PEm.ow (em_var 5)) (PEm.ow (em_call F_sent_at_handing (hr.mono (by decide)) T.m_sent_at_handing T.f_sent_at_handing.kp T.b_sent_at_handing .nil (fun _ => Rps.nil) (am_consC (em_var 0) (am_consC (em_var 2) am_nil)))))) (PEm.ow (em_op op_mul lift_mul (PEm.ow (em_op op_mul lift_mul (PEm.ow (em_op op_sub lift_sub (PEm.ow (em_op op_sub lift_sub (PEm.ow (em_var 3)) (PEm.ow em_int))) (PEm.ow (em_var 5)))) (PEm.ow (em_var 1)))) (PEm.ow (em_call F_sent_to_newcomer (hr.mono (by decide)) T.m_sent_to_newcomer T.f_sent_to_newcomer.kp T.b_sent_to_newcomer .nil (fun _ => Rps.nil) (am_consC (em_var 2) am_nil)))))))))⟩
def t_rhythms (sp_most_over_all : PM.Spec) (sp_rhythm_bill : PM.Spec) : TSm :=
  (sSeq (sSet 6 (mLst mNil)) (sSeq (sFor (mRng2 (mC (.int 1)) (mOp oAdd (mVar 5) (mC (.int 1)))) (gmN 7) (sSeq (sSet 8 (mB oMax2 (mCons (mC (.int 1)) (mCons (mCall sp_most_over_all [] (mCons (mVar 0) (mCons (mVar 1) (mCons (mVar 2) (mCons (mVar 3) (mCons (mVar 4) (mCons (mVar 7) mNil))))))) mNil)))) (sIf (mTB (mOp oGe (mVar 0) (mOp oAdd (mOp oAdd (mOp oMul (mC (.int 2)) (mVar 1)) (mVar 8)) (mC (.int 1))))) (sApp 6 (mTup (mCons (mVar 7) (mCons (mVar 8) (mCons (mCall sp_rhythm_bill [] (mCons (mVar 0) (mCons (mVar 4) (mCons (mVar 8) (mCons (mVar 5) (mCons (mVar 7) mNil)))))) mNil))))) sNext))) (sRet (mB oTuple (mCons (mVarO 6) mNil)))))
theorem w_rhythms (T : Tx K mg) (sp_most_over_all : PM.Spec) (sp_rhythm_bill : PM.Spec)
    (F_most_over_all : FnOk P w K mg base CX0 2 T.a_most_over_all T.d_most_over_all p_most_over_all (spM K .cl sp_most_over_all))
    (F_rhythm_bill : FnOk P w K mg base CX0 2 T.a_rhythm_bill T.d_rhythm_bill p_rhythm_bill (spM K .cl sp_rhythm_bill)) (cdv : Value) (A : Around) (outer : List PySem.Env) (s : Shared) (H : Hp) (E : XK)
    (hr : Room 2 (A.deeper (PyProof.Rows.envOfC "rhythms" (defScope s_rhythms) s.heap.objs.size T.a_rhythms cdv))) :
    ∃ c', PSsm (bodyX P w K mg base n_rhythms "rhythms" s_rhythms T.a_rhythms cdv A outer s H E) ⟨.cl, false, []⟩ (shs 9) c' (defBody s_rhythms) (t_rhythms sp_most_over_all sp_rhythm_bill) :=
  ⟨[.sh, .sh, .sh, .sh, .sh, .sh, .sh, .sh, .sh], (sm_cons (sm_setF 6 S_rhythms.nd (em_lst am_nil))
    (sm_cons (sm_for (c := [.sh, .sh, .sh, .sh, .sh, .sh, .ow, .sh, .sh]) .never rfl (im_rng2 T.z_range (PEm.ow em_int) (PEm.ow (em_op op_plus lift_plus (PEm.ow (em_var 5)) (PEm.ow em_int)))) (gm_name 7 S_rhythms.nd) (sm_cons (sm_set 8 S_rhythms.nd (em_callB (call_max2 rfl) lift_max2 (by rfl) T.z_max PyProof.Rows.boot_max (am_cons (PEm.ow em_int) (am_cons (PEm.ow (em_call F_most_over_all (hr.mono (by decide)) T.m_most_over_all T.f_most_over_all.kp T.b_most_over_all .nil (fun _ => Rps.nil) (am_consC (em_var 0) (am_consC (em_var 1) (am_consC (em_var 2) (am_consC (em_var 3) (am_consC (em_var 4) (am_consC (em_var 7) am_nil)))))))) am_nil))))
    (sm_one (sm_if (c' := [.sh, .sh, .sh, .sh, .sh, .sh, .ow, .sh, .sh]) (tm_cmp op_ge lift_ge (PEm.ow (em_var 0)) (PEm.ow (em_op op_plus lift_plus (PEm.ow (em_op op_plus lift_plus (PEm.ow (em_op op_mul lift_mul (PEm.ow em_int) (PEm.ow (em_var 1)))) (PEm.ow (em_var 8)))) (PEm.ow em_int))) (nomark _)) (sm_one (sm_app 6 (em_tup (am_consC (em_var 7) (am_consC (em_var 8) (am_consC (em_call F_rhythm_bill (hr.mono (by decide)) T.m_rhythm_bill T.f_rhythm_bill.kp T.b_rhythm_bill .nil (fun _ => Rps.nil) (am_consC (em_var 0) (am_consC (em_var 4) (am_consC (em_var 8) (am_consC (em_var 5) (am_consC (em_var 7) am_nil)))))) am_nil)))))) sm_nil))) (fun _ e => by cases e))
    (sm_one (sm_ret (em_callTy call_tuple_of lift_tuple (by rfl) T.z_tuple PyProof.Rows.boot_tuple (am_cons (em_varO 6) am_nil))))))⟩
def t_cheapest_rhythm (sp_rhythms : PM.Spec) : TSm :=
  (sSeq (sSet 6 (mC (.non))) (sSeq (sFor (mItems (mCall sp_rhythms [] (mCons (mVar 0) (mCons (mVar 1) (mCons (mVar 2) (mCons (mVar 3) (mCons (mVar 4) (mCons (mVar 5) mNil)))))))) (gmT 3 (gmCons (gmN 7) (gmCons (gmN 8) (gmCons (gmN 9) gmNil)))) (sIf (mOr (mTB (mOp oIsN (mVar 6) (mC (.non)))) (mTB (mOp oLt (mVar 9) (mOp oIx (mVar 6) (mC (.int 2)))))) (sSet 6 (mTup (mCons (mVar 7) (mCons (mVar 8) (mCons (mVar 9) mNil))))) sNext)) (sRet (mVar 6))))
theorem w_cheapest_rhythm (T : Tx K mg) (sp_rhythms : PM.Spec)
    (F_rhythms : FnOk P w K mg base CX0 3 T.a_rhythms T.d_rhythms p_rhythms (spM K .cl sp_rhythms)) (cdv : Value) (A : Around) (outer : List PySem.Env) (s : Shared) (H : Hp) (E : XK)
    (hr : Room 3 (A.deeper (PyProof.Rows.envOfC "cheapest_rhythm" (defScope s_cheapest_rhythm) s.heap.objs.size T.a_cheapest_rhythm cdv))) :
    ∃ c', PSsm (bodyX P w K mg base n_cheapest_rhythm "cheapest_rhythm" s_cheapest_rhythm T.a_cheapest_rhythm cdv A outer s H E) ⟨.cl, false, []⟩ (shs 10) c' (defBody s_cheapest_rhythm) (t_cheapest_rhythm sp_rhythms) :=
  ⟨[.sh, .sh, .sh, .sh, .sh, .sh, .sh, .sh, .sh, .sh], (sm_cons (sm_set 6 S_cheapest_rhythm.nd em_non)
    (sm_cons (sm_for (c := [.sh, .sh, .sh, .sh, .sh, .sh, .sh, .sh, .sh, .sh]) .never rfl (im_seq (em_call F_rhythms (hr.mono (by decide)) T.m_rhythms T.f_rhythms.kp T.b_rhythms .nil (fun _ => Rps.nil) (am_consC (em_var 0) (am_consC (em_var 1) (am_consC (em_var 2) (am_consC (em_var 3) (am_consC (em_var 4) (am_consC (em_var 5) am_nil)))))))) (gm_tup rfl (gsm_cons (gm_name 7 S_cheapest_rhythm.nd) (gsm_cons (gm_name 8 S_cheapest_rhythm.nd) (gsm_cons (gm_name 9 S_cheapest_rhythm.nd) gsm_nil)))) (sm_one (sm_if (c' := [.sh, .sh, .sh, .sh, .sh, .sh, .sh, .sh, .sh, .sh]) (PWm.pt (wm_or (tm_cmp op_isN lift_isN (PEm.ow (em_var 6)) (PEm.ow em_non) (nomark _)) (wm_or1 (tm_cmp op_lt lift_lt (PEm.ow (em_var 9)) (PEm.ow (em_ix (PEm.ow (em_var 6)) (PEm.ow em_int) (fun _ _ => rfl))) (nomark _))))) (sm_one (sm_set 6 S_cheapest_rhythm.nd (em_tup (am_consC (em_var 7) (am_consC (em_var 8) (am_consC (em_var 9) am_nil)))))) sm_nil)) (fun _ e => by cases e))
    (sm_one (sm_ret (em_var 6)))))⟩
def t_kept_schedule (sp_cheapest_rhythm : PM.Spec) : TSm :=
  (sSeq (sSet 6 (mCall sp_cheapest_rhythm [] (mCons (mVar 0) (mCons (mVar 1) (mCons (mVar 2) (mCons (mVar 3) (mCons (mVar 4) (mCons (mVar 5) mNil)))))))) (sRet (mIf (mTB (mOp oIsN (mVar 6) (mC (.non)))) (mC (.non)) (mTup3 (mOp oSub (mOp oIx (mVar 6) (mC (.int 0))) (mC (.int 1))) (mOp oSub (mVar 5) (mC (.int 1))) (mOp oIx (mVar 6) (mC (.int 0)))))))
theorem w_kept_schedule (T : Tx K mg) (sp_cheapest_rhythm : PM.Spec)
    (F_cheapest_rhythm : FnOk P w K mg base CX0 4 T.a_cheapest_rhythm T.d_cheapest_rhythm p_cheapest_rhythm (spM K .cl sp_cheapest_rhythm)) (cdv : Value) (A : Around) (outer : List PySem.Env) (s : Shared) (H : Hp) (E : XK)
    (hr : Room 4 (A.deeper (PyProof.Rows.envOfC "kept_schedule" (defScope s_kept_schedule) s.heap.objs.size T.a_kept_schedule cdv))) :
    ∃ c', PSsm (bodyX P w K mg base n_kept_schedule "kept_schedule" s_kept_schedule T.a_kept_schedule cdv A outer s H E) ⟨.cl, false, []⟩ (shs 7) c' (defBody s_kept_schedule) (t_kept_schedule sp_cheapest_rhythm) :=
  ⟨[.sh, .sh, .sh, .sh, .sh, .sh, .sh], (sm_cons (sm_set 6 S_kept_schedule.nd (em_call F_cheapest_rhythm (hr.mono (by decide)) T.m_cheapest_rhythm T.f_cheapest_rhythm.kp T.b_cheapest_rhythm .nil (fun _ => Rps.nil) (am_consC (em_var 0) (am_consC (em_var 1) (am_consC (em_var 2) (am_consC (em_var 3) (am_consC (em_var 4) (am_consC (em_var 5) am_nil))))))))
    (sm_one (sm_ret (em_if (tm_cmp op_isN lift_isN (PEm.ow (em_var 6)) (PEm.ow em_non) (nomark _)) em_non (em_tup3 rfl T.z_tuple T.z_range (PEm.ow (em_op op_sub lift_sub (PEm.ow (em_ix (PEm.ow (em_var 6)) (PEm.ow em_int) (fun _ _ => rfl))) (PEm.ow em_int))) (PEm.ow (em_op op_sub lift_sub (PEm.ow (em_var 5)) (PEm.ow em_int))) (PEm.ow (em_ix (PEm.ow (em_var 6)) (PEm.ow em_int) (fun _ _ => rfl))))))))⟩
def t_l_heap : TSm :=
  (sSeq (sSet 1 (mOp oMulW (mOp oMulW (mOp oPow (mC (.int 10)) (mC (.int 60))) (mOp oPow (mC (.int 10)) (mC (.int 60)))) (mOp oPow (mC (.int 10)) (mC (.int 60))))) (sSeq (sPar [3, 4] (mCons (mLc (mItems (mSl oSlS (mVar 0) mNo (mPart (mC (.int 60))))) [2] (gmN 2) mYes (mOp oMod (mB oInt (mCons (mOp oAdd (mOp oMul (mC (.int 2)) (mB oAbs (mCons (mVar 2) mNil))) (mB oInt (mCons (mOp oLt (mVar 2) (mC (.int 0))) mNil))) mNil)) (mVar 1))) (mCons (mC (.int 20043)) mNil))) (sSeq (sFor (mItems (mVar 3)) (gmN 2) (sSet 4 (mOp oMod (mB oInt (mCons (mOp oAdd (mOp oAdd (mOp oMul (mVar 4) (mC (.int 69621))) (mOp oMod (mB oInt (mCons (mVar 2) mNil)) (mC (.int 2147483563)))) (mC (.int 71))) mNil)) (mC (.int 2147483647))))) (sRet (mLst (mCons (mOp1 oRev (mLc (mItems (mVar 3)) [2] (gmN 2) (mTB (mOp oGe (mVar 2) (mOp oPow (mC (.int 10)) (mC (.int 18))))) (mVar 2))) (mCons (mVar 4) mNil)))))))
theorem w_l_heap (T : Tx K mg) (cdv : Value) (A : Around) (outer : List PySem.Env) (s : Shared) (H : Hp) (E : XK)
    (hr : Room 0 (A.deeper (PyProof.Rows.envOfC "_law_heap" (defScope s_l_heap) s.heap.objs.size T.a_l_heap cdv))) :
    ∃ c', PSsm (bodyX P w K mg base n_l_heap "_law_heap" s_l_heap T.a_l_heap cdv A outer s H E) ⟨.cl, false, []⟩ (shs 5) c' (defBody s_l_heap) (t_l_heap) :=
  ⟨[.sh, .sh, .sh, .sh, .sh], (sm_cons (sm_set 1 S_l_heap.nd (em_op op_mulW lift_mulW (PEm.ow (em_op op_mulW lift_mulW (PEm.ow (em_op op_pow lift_pow (PEm.ow em_int) (PEm.ow em_int))) (PEm.ow (em_op op_pow lift_pow (PEm.ow em_int) (PEm.ow em_int))))) (PEm.ow (em_op op_pow lift_pow (PEm.ow em_int) (PEm.ow em_int)))))
    (sm_cons (sm_par [3, 4] rfl S_l_heap.nd (xm_cl (PEm.cl (em_lc (own := [("cell", 2)]) rfl S_l_heap.nd (im_seq (PEm.cl (em_slS (PEm.ow (em_var 0)) om_none (om_some (PEm.ow em_int))))) (blkOk_by (N := n_l_heap) (sc := defScope s_l_heap) (by decide +kernel)) (fun _ _ _ _ _ => (gm_name 2 S_l_heap.nd)) (fun _ _ _ _ _ => tsm_nil) (fun _ _ _ _ _ => (em_op op_mod lift_mod (PEm.ow (em_callTy call_int1 lift_int (by rfl) T.z_int PyProof.Rows.boot_int (am_cons (PEm.ow (em_op op_plus lift_plus (PEm.ow (em_op op_mul lift_mul (PEm.ow em_int) (PEm.ow (em_callB call_abs lift_abs (by rfl) T.z_abs PyProof.Rows.boot_abs (am_cons (PEm.ow (em_var 2)) am_nil))))) (PEm.ow (em_callTy call_int1 lift_int (by rfl) T.z_int PyProof.Rows.boot_int (am_cons (PEm.ow (em_cmp op_lt lift_lt (PEm.ow (em_var 2)) (PEm.ow em_int) (nomark _))) am_nil))))) am_nil))) (PEm.ow (em_var 1)))))) (xm_cl em_int xm_nil)))
    (sm_cons (sm_for (c := [.sh, .sh, .sh, .sh, .sh]) .never rfl (im_seq (em_var 3)) (gm_name 2 S_l_heap.nd) (sm_one (sm_set 4 S_l_heap.nd (em_op op_mod lift_mod (PEm.ow (em_callTy call_int1 lift_int (by rfl) T.z_int PyProof.Rows.boot_int (am_cons (PEm.ow (em_op op_plus lift_plus (PEm.ow (em_op op_plus lift_plus (PEm.ow (em_op op_mul lift_mul (PEm.ow (em_var 4)) (PEm.ow em_int))) (PEm.ow (em_op op_mod lift_mod (PEm.ow (em_callTy call_int1 lift_int (by rfl) T.z_int PyProof.Rows.boot_int (am_cons (PEm.ow (em_var 2)) am_nil))) (PEm.ow em_int))))) (PEm.ow em_int))) am_nil))) (PEm.ow em_int)))) (fun _ e => by cases e))
    (sm_one (sm_ret (PEm.cl (em_lst (am_consC (em_rev (PEm.ow (em_lc (own := [("cell", 2)]) rfl S_l_heap.nd (im_seq (em_var 3)) (blkOk_by (N := n_l_heap) (sc := defScope s_l_heap) (by decide +kernel)) (fun _ _ _ _ _ => (gm_name 2 S_l_heap.nd)) (fun _ _ _ _ _ => (tsm_one (tm_cmp op_ge lift_ge (PEm.ow (em_var 2)) (PEm.ow (em_op op_pow lift_pow (PEm.ow em_int) (PEm.ow em_int))) (nomark _)))) (fun _ _ _ _ _ => (em_var 2))))) (am_consC (em_var 4) am_nil)))))))))⟩
def t_l_pick (sp_l_draw : PM.Spec) : TSm :=
  (sRet (mOp oIx (mVar 1) (mCall sp_l_draw [] (mCons (mVar 0) (mCons (mB oLen (mCons (mVar 1) mNil)) mNil)))))
theorem w_l_pick (T : Tx K mg) (sp_l_draw : PM.Spec)
    (F_l_draw : FnOk P w K mg base CX0 1 T.a_l_draw T.d_l_draw p_l_draw (spM K .cl sp_l_draw)) (cdv : Value) (A : Around) (outer : List PySem.Env) (s : Shared) (H : Hp) (E : XK)
    (hr : Room 1 (A.deeper (PyProof.Rows.envOfC "_law_pick" (defScope s_l_pick) s.heap.objs.size T.a_l_pick cdv))) :
    ∃ c', PSsm (bodyX P w K mg base n_l_pick "_law_pick" s_l_pick T.a_l_pick cdv A outer s H E) ⟨.cl, false, []⟩ (shs 2) c' (defBody s_l_pick) (t_l_pick sp_l_draw) :=
  ⟨[.sh, .sh], (sm_one (sm_ret (em_ix (PEm.ow (em_var 1)) (PEm.ow (em_call F_l_draw (hr.mono (by decide)) T.m_l_draw T.f_l_draw.kp T.b_l_draw .nil (fun _ => Rps.nil) (am_consC (em_var 0) (am_consC (em_callB call_lenA lift_len (by rfl) T.z_len PySem.boot_len (am_cons (PEm.ow (em_var 1)) am_nil)) am_nil)))) (fun _ _ => rfl))))⟩
def t_l_like (sp_l_like : PM.Spec) : TSm :=
  (sSeq (sIf (mTB (mOp1 (oIsi "tuple") (mVar 1))) (sRet (mAndV (mOp1 (oIsi "tuple") (mVar 0)) (mAndV (mOp oEq (mB oLen (mCons (mVar 0) mNil)) (mB oLen (mCons (mVar 1) mNil))) (mB oAll (mCons (mLc (mZip (mVar 0) (mVar 1)) [2, 3] (gmT 2 (gmCons (gmN 2) (gmCons (gmN 3) gmNil))) mYes (mCall sp_l_like [] (mCons (mVar 2) (mCons (mVar 3) mNil)))) mNil))))) sNext) (sSeq (sIf (mTB (mOp oIsN (mVar 1) (mC (.non)))) (sRet (mOp oIsN (mVar 0) (mC (.non)))) sNext) (sSeq (sIf (mTB (mOp1 (oIsi "bool") (mVar 1))) (sRet (mIf (mTB (mVar 1)) (mOp oIsB (mVar 0) (mC (.bl true))) (mOp oIsB (mVar 0) (mC (.bl false))))) sNext) (sSeq (sIf (mTB (mOp1 (oIsi "int") (mVar 1))) (sRet (mAndV (mOp1 (oIsi "int") (mVar 0)) (mAndV (mOp1 oNot (mOp1 (oIsi "bool") (mVar 0))) (mOp oEq (mVar 0) (mVar 1))))) sNext) (sRet (mAndV (mOp1 (oIsi "str") (mVar 0)) (mAndV (mOp1 (oIsi "str") (mVar 1)) (mOp oEq (mVar 0) (mVar 1)))))))))
theorem w_l_like (T : Tx K mg) {kr : Nat} (sp_l_like : PM.Spec)
    (F_l_like : FnOk P w K mg base CX0 kr T.a_l_like T.d_l_like p_l_like (spM K .cl sp_l_like)) (hk : 0 ≤ kr) (cdv : Value) (A : Around) (outer : List PySem.Env) (s : Shared) (H : Hp) (E : XK)
    (hr : Room kr (A.deeper (PyProof.Rows.envOfC "_law_like" (defScope s_l_like) s.heap.objs.size T.a_l_like cdv))) :
    ∃ c', PSsm (bodyX P w K mg base n_l_like "_law_like" s_l_like T.a_l_like cdv A outer s H E) ⟨.cl, false, []⟩ (shs 4) c' (defBody s_l_like) (t_l_like sp_l_like) :=
  ⟨[.sh, .sh, .sh, .sh], (sm_cons (sm_if (c' := [.sh, .sh, .sh, .sh]) (tm_val (PEm.ow (em_isi "tuple" (PEm.ow (em_var 1)) (by rfl) T.z_isinstance (by rfl) T.z_tuple PyProof.Rows.boot_tuple))) (sm_one (sm_ret (em_and (PEm.ow (em_isi "tuple" (PEm.ow (em_var 0)) (by rfl) T.z_isinstance (by rfl) T.z_tuple PyProof.Rows.boot_tuple)) (em_and (PEm.ow (em_cmp (op_eqD hr.units) lift_eq (PEm.ow (em_callB call_lenA lift_len (by rfl) T.z_len PySem.boot_len (am_cons (PEm.ow (em_var 0)) am_nil))) (PEm.ow (em_callB call_lenA lift_len (by rfl) T.z_len PySem.boot_len (am_cons (PEm.ow (em_var 1)) am_nil))) (nomark _))) (em_one (em_callB (cr_all rfl) lift_all (by rfl) T.z_all PyProof.Rows.boot_all (am_cons (PEm.ow (em_lc (own := [("one", 2), ("other", 3)]) rfl S_l_like.nd (im_zip T.z_zip (em_var 0) (em_var 1)) (blkOk_by (N := n_l_like) (sc := defScope s_l_like) (by decide +kernel)) (fun _ _ _ _ _ => (gm_tup rfl (gsm_cons (gm_name 2 S_l_like.nd) (gsm_cons (gm_name 3 S_l_like.nd) gsm_nil)))) (fun _ _ _ _ _ => tsm_nil) (fun _ _ _ _ _ => (em_call F_l_like hr T.m_l_like T.f_l_like.kp T.b_l_like .nil (fun _ => Rps.nil) (am_consC (em_var 2) (am_consC (em_var 3) am_nil)))))) am_nil))))))) sm_nil)
    (sm_cons (sm_if (c' := [.sh, .sh, .sh, .sh]) (tm_cmp op_isN lift_isN (PEm.ow (em_var 1)) (PEm.ow em_non) (nomark _)) (sm_one (sm_ret (em_cmp op_isN lift_isN (PEm.ow (em_var 0)) (PEm.ow em_non) (nomark _)))) sm_nil)
    (sm_cons (sm_if (c' := [.sh, .sh, .sh, .sh]) (tm_val (PEm.ow (em_isi "bool" (PEm.ow (em_var 1)) (by rfl) T.z_isinstance (by rfl) T.z_bool PyProof.Rows.boot_bool))) (sm_one (sm_ret (em_if (tm_val (PEm.ow (em_var 1))) (em_cmp op_isBl lift_isB (PEm.ow (em_var 0)) (PEm.ow em_bl) (nomark _)) (em_cmp op_isBl lift_isB (PEm.ow (em_var 0)) (PEm.ow em_bl) (nomark _))))) sm_nil)
    (sm_cons (sm_if (c' := [.sh, .sh, .sh, .sh]) (tm_val (PEm.ow (em_isi "int" (PEm.ow (em_var 1)) (by rfl) T.z_isinstance (by rfl) T.z_int PyProof.Rows.boot_int))) (sm_one (sm_ret (em_and (PEm.ow (em_isi "int" (PEm.ow (em_var 0)) (by rfl) T.z_isinstance (by rfl) T.z_int PyProof.Rows.boot_int)) (em_and (PEm.ow (em_not (PEm.ow (em_isi "bool" (PEm.ow (em_var 0)) (by rfl) T.z_isinstance (by rfl) T.z_bool PyProof.Rows.boot_bool)))) (em_one (em_cmp (op_eqD hr.units) lift_eq (PEm.ow (em_var 0)) (PEm.ow (em_var 1)) (nomark _))))))) sm_nil)
    (sm_one (sm_ret (em_and (PEm.ow (em_isi "str" (PEm.ow (em_var 0)) (by rfl) T.z_isinstance (by rfl) T.z_str PyProof.Rows.boot_str)) (em_and (PEm.ow (em_isi "str" (PEm.ow (em_var 1)) (by rfl) T.z_isinstance (by rfl) T.z_str PyProof.Rows.boot_str)) (em_one (em_cmp (op_eqD hr.units) lift_eq (PEm.ow (em_var 0)) (PEm.ow (em_var 1)) (nomark _)))))))))))⟩
def t_l_some (sp_l_draw : PM.Spec) : TSm :=
  (sSeq (sPar [4, 5] (mCons (mLc (mRng1 (mB oLen (mCons (mVar 1) mNil))) [6] (gmN 6) mYes (mVar 6)) (mCons (mLst mNil) mNil))) (sSeq (sFor (mRng1 (mVar 2)) (gmN 3) (sAppPop 5 4 (mCall sp_l_draw [] (mCons (mVar 0) (mCons (mB oLen (mCons (mVarO 4) mNil)) mNil))))) (sRet (mB oTuple (mCons (mLc (mItems (mB oSorted (mCons (mVarO 5) mNil))) [6] (gmN 6) mYes (mOp oIx (mVar 1) (mVar 6))) mNil)))))
theorem w_l_some (T : Tx K mg) (sp_l_draw : PM.Spec)
    (F_l_draw : FnOk P w K mg base CX0 1 T.a_l_draw T.d_l_draw p_l_draw (spM K .cl sp_l_draw)) (cdv : Value) (A : Around) (outer : List PySem.Env) (s : Shared) (H : Hp) (E : XK)
    (hr : Room 1 (A.deeper (PyProof.Rows.envOfC "_law_some" (defScope s_l_some) s.heap.objs.size T.a_l_some cdv))) :
    ∃ c', PSsm (bodyX P w K mg base n_l_some "_law_some" s_l_some T.a_l_some cdv A outer s H E) ⟨.cl, false, []⟩ (shs 7) c' (defBody s_l_some) (t_l_some sp_l_draw) :=
  ⟨[.sh, .sh, .sh, .sh, .sh, .sh, .sh], (sm_cons (sm_par [4, 5] rfl S_l_some.nd (xm_fr (em_lc (own := [("place", 6)]) rfl S_l_some.nd (im_rng1 T.z_range (PEm.ow (em_callB call_lenA lift_len (by rfl) T.z_len PySem.boot_len (am_cons (PEm.ow (em_var 1)) am_nil)))) (blkOk_by (N := n_l_some) (sc := defScope s_l_some) (by decide +kernel)) (fun _ _ _ _ _ => (gm_name 6 S_l_some.nd)) (fun _ _ _ _ _ => tsm_nil) (fun _ _ _ _ _ => (em_var 6))) (xm_fr (em_lst am_nil) xm_nil)))
    (sm_cons (sm_for (c := [.sh, .sh, .sh, .sh, .ow, .ow, .sh]) .never rfl (im_rng1 T.z_range (PEm.ow (em_var 2))) (gm_name 3 S_l_some.nd) (sm_one (sm_appPop 5 4 (by decide) (PEm.ow (em_call F_l_draw (hr.mono (by decide)) T.m_l_draw T.f_l_draw.kp T.b_l_draw .nil (fun _ => Rps.nil) (am_consC (em_var 0) (am_consC (em_callB call_lenA lift_len (by rfl) T.z_len PySem.boot_len (am_cons (em_varO 4) am_nil)) am_nil)))))) (fun _ e => by cases e))
    (sm_one (sm_ret (em_callTy call_tuple_of lift_tuple (by rfl) T.z_tuple PyProof.Rows.boot_tuple (am_cons (PEm.ow (em_lc (own := [("place", 6)]) rfl S_l_some.nd (im_seq (PEm.cl (em_callB (call_sortedA rfl) lift_sorted (by rfl) T.z_sorted PyProof.Rows.boot_sorted (am_cons (em_varO 5) am_nil)))) (blkOk_by (N := n_l_some) (sc := defScope s_l_some) (by decide +kernel)) (fun _ _ _ _ _ => (gm_name 6 S_l_some.nd)) (fun _ _ _ _ _ => tsm_nil) (fun _ _ _ _ _ => (em_ix (PEm.ow (em_var 1)) (PEm.ow (em_var 6)) (fun _ _ => rfl))))) am_nil))))))⟩
def t_l_is_number : TSm :=
  (sRet (mAndV (mOp1 (oIsi "int") (mVar 0)) (mAndV (mOp1 oNot (mOp1 (oIsi "bool") (mVar 0))) (mOp oGe (mVar 0) (mC (.int 0))))))
theorem w_l_is_number (T : Tx K mg) (cdv : Value) (A : Around) (outer : List PySem.Env) (s : Shared) (H : Hp) (E : XK)
    (hr : Room 0 (A.deeper (PyProof.Rows.envOfC "_law_is_number" (defScope s_l_is_number) s.heap.objs.size T.a_l_is_number cdv))) :
    ∃ c', PSsm (bodyX P w K mg base n_l_is_number "_law_is_number" s_l_is_number T.a_l_is_number cdv A outer s H E) ⟨.cl, false, []⟩ (shs 1) c' (defBody s_l_is_number) (t_l_is_number) :=
  ⟨[.sh], (sm_one (sm_ret (em_and (PEm.ow (em_isi "int" (PEm.ow (em_var 0)) (by rfl) T.z_isinstance (by rfl) T.z_int PyProof.Rows.boot_int)) (em_and (PEm.ow (em_not (PEm.ow (em_isi "bool" (PEm.ow (em_var 0)) (by rfl) T.z_isinstance (by rfl) T.z_bool PyProof.Rows.boot_bool)))) (em_one (em_cmp op_ge lift_ge (PEm.ow (em_var 0)) (PEm.ow em_int) (nomark _)))))))⟩
def t_l_counted (sp_l_pick : PM.Spec) (sp_l_some : PM.Spec) (sp_l_draw : PM.Spec) : TSm :=
  (sSeq (sSet 2 (mCall sp_l_pick [] (mCons (mVar 0) (mCons (mLst (mCons (mC (.int 2)) (mCons (mC (.int 4)) (mCons (mC (.int 6)) (mCons (mC (.int 12)) mNil))))) mNil)))) (sSeq (sPar [3, 4] (mCons (mLc (mRng1 (mVar 2)) [7] (gmN 7) mYes (mVar 7)) (mCons (mLst mNil) mNil))) (sSeq (sWhile (mTB (mOp oLt (mB oLen (mCons (mVarO 4) mNil)) (mVar 1))) (sSeq (sSet 5 (mCall sp_l_some [] (mCons (mVar 0) (mCons (mVar 3) (mCons (mCall sp_l_draw [] (mCons (mVar 0) (mCons (mOp oAdd (mB oMin2 (mCons (mVar 2) (mCons (mCall sp_l_pick [] (mCons (mVar 0) (mCons (mLst (mCons (mC (.int 1)) (mCons (mC (.int 2)) (mCons (mC (.int 3)) (mCons (mC (.int 5)) mNil))))) mNil))) mNil))) (mC (.int 1))) mNil))) mNil))))) (sFor (mRng1 (mCall sp_l_pick [] (mCons (mVar 0) (mCons (mLst (mCons (mC (.int 1)) (mCons (mC (.int 1)) (mCons (mC (.int 2)) (mCons (mC (.int 4)) mNil))))) mNil)))) (gmN 6) (sApp 4 (mVar 5))))) (sRet (mB oTuple (mCons (mSl oSl (mVarO 4) mNo (mPart (mVar 1))) mNil))))))
theorem w_l_counted (T : Tx K mg) (sp_l_pick : PM.Spec) (sp_l_some : PM.Spec) (sp_l_draw : PM.Spec)
    (F_l_pick : FnOk P w K mg base CX0 2 T.a_l_pick T.d_l_pick p_l_pick (spM K .cl sp_l_pick))
    (F_l_some : FnOk P w K mg base CX0 2 T.a_l_some T.d_l_some p_l_some (spM K .cl sp_l_some))
    (F_l_draw : FnOk P w K mg base CX0 1 T.a_l_draw T.d_l_draw p_l_draw (spM K .cl sp_l_draw)) (cdv : Value) (A : Around) (outer : List PySem.Env) (s : Shared) (H : Hp) (E : XK)
    (hr : Room 2 (A.deeper (PyProof.Rows.envOfC "_law_counted" (defScope s_l_counted) s.heap.objs.size T.a_l_counted cdv))) :
    ∃ c', PSsm (bodyX P w K mg base n_l_counted "_law_counted" s_l_counted T.a_l_counted cdv A outer s H E) ⟨.cl, false, []⟩ (shs 8) c' (defBody s_l_counted) (t_l_counted sp_l_pick sp_l_some sp_l_draw) :=
  ⟨[.sh, .sh, .sh, .sh, .sh, .sh, .sh, .sh], (sm_cons (sm_set 2 S_l_counted.nd (em_call F_l_pick (hr.mono (by decide)) T.m_l_pick T.f_l_pick.kp T.b_l_pick .nil (fun _ => Rps.nil) (am_consC (em_var 0) (am_consC (PEm.cl (em_lst (am_consC em_int (am_consC em_int (am_consC em_int (am_consC em_int am_nil)))))) am_nil))))
    (sm_cons (sm_par [3, 4] rfl S_l_counted.nd (xm_cl (PEm.cl (em_lc (own := [("house", 7)]) rfl S_l_counted.nd (im_rng1 T.z_range (PEm.ow (em_var 2))) (blkOk_by (N := n_l_counted) (sc := defScope s_l_counted) (by decide +kernel)) (fun _ _ _ _ _ => (gm_name 7 S_l_counted.nd)) (fun _ _ _ _ _ => tsm_nil) (fun _ _ _ _ _ => (em_var 7)))) (xm_fr (em_lst am_nil) xm_nil)))
    (sm_cons (sm_while (c := [.sh, .sh, .sh, .sh, .ow, .sh, .sh, .sh]) .never (tm_cmp op_lt lift_lt (PEm.ow (em_callB call_lenA lift_len (by rfl) T.z_len PySem.boot_len (am_cons (em_varO 4) am_nil))) (PEm.ow (em_var 1)) (nomark _)) (sm_cons (sm_set 5 S_l_counted.nd (em_call F_l_some (hr.mono (by decide)) T.m_l_some T.f_l_some.kp T.b_l_some .nil (fun _ => Rps.nil) (am_consC (em_var 0) (am_consC (em_var 3) (am_consC (em_call F_l_draw (hr.mono (by decide)) T.m_l_draw T.f_l_draw.kp T.b_l_draw .nil (fun _ => Rps.nil) (am_consC (em_var 0) (am_consC (em_op op_plus lift_plus (PEm.ow (em_callB (call_min2 rfl) lift_min2 (by rfl) T.z_min PyProof.Rows.boot_min (am_cons (PEm.ow (em_var 2)) (am_cons (PEm.ow (em_call F_l_pick (hr.mono (by decide)) T.m_l_pick T.f_l_pick.kp T.b_l_pick .nil (fun _ => Rps.nil) (am_consC (em_var 0) (am_consC (PEm.cl (em_lst (am_consC em_int (am_consC em_int (am_consC em_int (am_consC em_int am_nil)))))) am_nil)))) am_nil)))) (PEm.ow em_int)) am_nil))) am_nil)))))
    (sm_one (sm_for (c := [.sh, .sh, .sh, .sh, .ow, .sh, .sh, .sh]) .never rfl (im_rng1 T.z_range (PEm.ow (em_call F_l_pick (hr.mono (by decide)) T.m_l_pick T.f_l_pick.kp T.b_l_pick .nil (fun _ => Rps.nil) (am_consC (em_var 0) (am_consC (PEm.cl (em_lst (am_consC em_int (am_consC em_int (am_consC em_int (am_consC em_int am_nil)))))) am_nil))))) (gm_name 6 S_l_counted.nd) (sm_one (sm_app 4 (em_var 5))) (fun _ e => by cases e)))))
    (sm_one (sm_ret (em_callTy call_tuple_of lift_tuple (by rfl) T.z_tuple PyProof.Rows.boot_tuple (am_cons (PEm.ow (em_sl (em_varO 4) om_none (om_some (PEm.ow (em_var 1))))) am_nil)))))))⟩
def t_l_sizes : TSm :=
  (sSeq (sSet 1 (mLst mNil)) (sSeq (sFor (mRng1 (mB oLen (mCons (mVar 0) mNil))) (gmN 2) (sSeq (sPar [4, 5] (mCons (mLst mNil) (mCons (mLst mNil) mNil))) (sSeq (sFor (mItems (mSl oSl (mVar 0) (mPart (mVar 2)) mNo)) (gmN 3) (sSeq (sSet 4 (mOp oAdd (mVar 4) (mLc (mItems (mVar 3)) [6] (gmN 6) (mTB (mOp (oIn true) (mVar 6) (mVar 4))) (mVar 6)))) (sApp 5 (mB oLen (mCons (mVar 4) mNil))))) (sApp 1 (mVar 5))))) (sRet (mVar 1))))
theorem w_l_sizes (T : Tx K mg) (cdv : Value) (A : Around) (outer : List PySem.Env) (s : Shared) (H : Hp) (E : XK)
    (hr : Room 0 (A.deeper (PyProof.Rows.envOfC "_law_sizes" (defScope s_l_sizes) s.heap.objs.size T.a_l_sizes cdv))) :
    ∃ c', PSsm (bodyX P w K mg base n_l_sizes "_law_sizes" s_l_sizes T.a_l_sizes cdv A outer s H E) ⟨.cl, false, []⟩ (shs 7) c' (defBody s_l_sizes) (t_l_sizes) :=
  ⟨[.sh, .sh, .sh, .sh, .sh, .sh, .sh], (sm_cons (sm_setF 1 S_l_sizes.nd (em_lst am_nil))
    (sm_cons (sm_for (c := [.sh, .ow, .sh, .sh, .sh, .sh, .sh]) .never rfl (im_rng1 T.z_range (PEm.ow (em_callB call_lenA lift_len (by rfl) T.z_len PySem.boot_len (am_cons (PEm.ow (em_var 0)) am_nil)))) (gm_name 2 S_l_sizes.nd) (sm_cons (sm_parG [4, 5] rfl (pgs_n S_l_sizes.nd (pgs_n S_l_sizes.nd pgs_n0)) (xm_cl (PEm.cl (em_lst am_nil)) (xm_fr (em_lst am_nil) xm_nil)))
    (sm_cons (sm_for (c := [.sh, .ow, .sh, .sh, .sh, .ow, .sh]) .never rfl (im_seq (em_sl (PEm.ow (em_var 0)) (om_some (PEm.ow (em_var 2))) om_none)) (gm_name 3 S_l_sizes.nd) (sm_cons (sm_set 4 S_l_sizes.nd (em_op op_plus lift_plus (PEm.ow (em_var 4)) (PEm.ow (em_lc (own := [("house", 6)]) rfl S_l_sizes.nd (im_seq (em_var 3)) (blkOk_by (N := n_l_sizes) (sc := defScope s_l_sizes) (by decide +kernel)) (fun _ _ _ _ _ => (gm_name 6 S_l_sizes.nd)) (fun _ _ _ _ _ => (tsm_one (tm_cmp op_notIn_seq lift_in (PEm.ow (em_var 6)) (PEm.ow (em_var 4)) (by with_unfolding_all rfl)))) (fun _ _ _ _ _ => (em_var 6))))))
    (sm_one (sm_app 5 (em_callB call_lenA lift_len (by rfl) T.z_len PySem.boot_len (am_cons (PEm.ow (em_var 4)) am_nil))))) (fun _ e => by cases e))
    (sm_one (sm_pre1 (c := [.sh, .ow, .sh, .sh, .sh, .ow, .sh]) (c1 := [.sh, .ow, .sh, .sh, .sh, .sh, .sh]) (by decide) (sm_app 1 (em_var 5)))))) (fun _ e => by cases e))
    (sm_one (sm_retO 1))))⟩
def t_l_is_plan (sp_l_is_number : PM.Spec) : TSm :=
  (sSeq (sIf (mNot (mTB (mOp1 (oIsi "tuple") (mVar 2)))) (sRet (mC (.bl false))) sNext) (sSeq (sSet 3 (mOp1 oNeg (mC (.int 1)))) (sSeq (sFor (mItems (mVar 2)) (gmN 4) (sSeq (sIf (mOr (mNot (mTB (mOp1 (oIsi "tuple") (mVar 4)))) (mOr (mTB (mOp oNe (mB oLen (mCons (mVar 4) mNil)) (mC (.int 3)))) (mNot (mTB (mB oAll (mCons (mLc (mItems (mVar 4)) [5] (gmN 5) mYes (mCall sp_l_is_number [] (mCons (mVar 5) mNil))) mNil)))))) (sRet (mC (.bl false))) sNext) (sSeq (sIf (mOr (mTB (mOp oNe (mOp oIx (mVar 4) (mC (.int 0))) (mOp oAdd (mVar 3) (mC (.int 1))))) (mOr (mTB (mOp oLt (mOp oIx (mVar 4) (mC (.int 1))) (mOp oIx (mVar 4) (mC (.int 0))))) (mOr (mTB (mOp oGe (mOp oIx (mVar 4) (mC (.int 1))) (mB oLen (mCons (mVar 0) mNil)))) (mTB (mOp oGe (mOp oIx (mVar 4) (mC (.int 2))) (mB oLen (mCons (mVar 1) mNil))))))) (sRet (mC (.bl false))) sNext) (sSeq (sIf (mTB (mOp oGt (mOp oIx (mOp oIx (mVar 0) (mOp oIx (mVar 4) (mC (.int 0)))) (mOp oSub (mOp oIx (mVar 4) (mC (.int 1))) (mOp oIx (mVar 4) (mC (.int 0))))) (mOp oIx (mVar 4) (mC (.int 2))))) (sRet (mC (.bl false))) sNext) (sSet 3 (mOp oIx (mVar 4) (mC (.int 1)))))))) (sRet (mOp oEq (mVar 3) (mOp oSub (mB oLen (mCons (mVar 0) mNil)) (mC (.int 1))))))))
theorem w_l_is_plan (T : Tx K mg) (sp_l_is_number : PM.Spec)
    (F_l_is_number : FnOk P w K mg base CX0 1 T.a_l_is_number T.d_l_is_number p_l_is_number (spM K .cl sp_l_is_number)) (cdv : Value) (A : Around) (outer : List PySem.Env) (s : Shared) (H : Hp) (E : XK)
    (hr : Room 1 (A.deeper (PyProof.Rows.envOfC "_law_is_plan" (defScope s_l_is_plan) s.heap.objs.size T.a_l_is_plan cdv))) :
    ∃ c', PSsm (bodyX P w K mg base n_l_is_plan "_law_is_plan" s_l_is_plan T.a_l_is_plan cdv A outer s H E) ⟨.cl, false, []⟩ (shs 6) c' (defBody s_l_is_plan) (t_l_is_plan sp_l_is_number) :=
  ⟨[.sh, .sh, .sh, .sh, .sh, .sh], (sm_cons (sm_if (c' := [.sh, .sh, .sh, .sh, .sh, .sh]) (tm_not (tm_val (PEm.ow (em_isi "tuple" (PEm.ow (em_var 2)) (by rfl) T.z_isinstance (by rfl) T.z_tuple PyProof.Rows.boot_tuple)))) (sm_one (sm_ret em_bl)) sm_nil)
    (sm_cons (sm_set 3 S_l_is_plan.nd (em_un un_neg lift_neg (PEm.ow em_int)))
    (sm_cons (sm_for (c := [.sh, .sh, .sh, .sh, .sh, .sh]) .never rfl (im_seq (em_var 2)) (gm_name 4 S_l_is_plan.nd) (sm_cons (sm_if (c' := [.sh, .sh, .sh, .sh, .sh, .sh]) (PWm.pt (wm_or (tm_not (tm_val (PEm.ow (em_isi "tuple" (PEm.ow (em_var 4)) (by rfl) T.z_isinstance (by rfl) T.z_tuple PyProof.Rows.boot_tuple)))) (wm_or (tm_cmp (op_neD hr.units) lift_ne (PEm.ow (em_callB call_lenA lift_len (by rfl) T.z_len PySem.boot_len (am_cons (PEm.ow (em_var 4)) am_nil))) (PEm.ow em_int) (nomark _)) (wm_or1 (tm_not (tm_val (PEm.ow (em_callB (cr_all rfl) lift_all (by rfl) T.z_all PyProof.Rows.boot_all (am_cons (PEm.ow (em_lc (own := [("one", 5)]) rfl S_l_is_plan.nd (im_seq (em_var 4)) (blkOk_by (N := n_l_is_plan) (sc := defScope s_l_is_plan) (by decide +kernel)) (fun _ _ _ _ _ => (gm_name 5 S_l_is_plan.nd)) (fun _ _ _ _ _ => tsm_nil) (fun _ _ _ _ _ => (em_call F_l_is_number (hr.mono (by decide)) T.m_l_is_number T.f_l_is_number.kp T.b_l_is_number .nil (fun _ => Rps.nil) (am_consC (em_var 5) am_nil))))) am_nil))))))))) (sm_one (sm_ret em_bl)) sm_nil)
    (sm_cons (sm_if (c' := [.sh, .sh, .sh, .sh, .sh, .sh]) (PWm.pt (wm_or (tm_cmp (op_neD hr.units) lift_ne (PEm.ow (em_ix (PEm.ow (em_var 4)) (PEm.ow em_int) (fun _ _ => rfl))) (PEm.ow (em_op op_plus lift_plus (PEm.ow (em_var 3)) (PEm.ow em_int))) (nomark _)) (wm_or (tm_cmp op_lt lift_lt (PEm.ow (em_ix (PEm.ow (em_var 4)) (PEm.ow em_int) (fun _ _ => rfl))) (PEm.ow (em_ix (PEm.ow (em_var 4)) (PEm.ow em_int) (fun _ _ => rfl))) (nomark _)) (wm_or (tm_cmp op_ge lift_ge (PEm.ow (em_ix (PEm.ow (em_var 4)) (PEm.ow em_int) (fun _ _ => rfl))) (PEm.ow (em_callB call_lenA lift_len (by rfl) T.z_len PySem.boot_len (am_cons (PEm.ow (em_var 0)) am_nil))) (nomark _)) (wm_or1 (tm_cmp op_ge lift_ge (PEm.ow (em_ix (PEm.ow (em_var 4)) (PEm.ow em_int) (fun _ _ => rfl))) (PEm.ow (em_callB call_lenA lift_len (by rfl) T.z_len PySem.boot_len (am_cons (PEm.ow (em_var 1)) am_nil))) (nomark _))))))) (sm_one (sm_ret em_bl)) sm_nil)
    (sm_cons (sm_if (c' := [.sh, .sh, .sh, .sh, .sh, .sh]) (tm_cmp op_gt lift_gt (PEm.ow (em_ix (PEm.ow (em_ix (PEm.ow (em_var 0)) (PEm.ow (em_ix (PEm.ow (em_var 4)) (PEm.ow em_int) (fun _ _ => rfl))) (fun _ _ => rfl))) (PEm.ow (em_op op_sub lift_sub (PEm.ow (em_ix (PEm.ow (em_var 4)) (PEm.ow em_int) (fun _ _ => rfl))) (PEm.ow (em_ix (PEm.ow (em_var 4)) (PEm.ow em_int) (fun _ _ => rfl))))) (fun _ _ => rfl))) (PEm.ow (em_ix (PEm.ow (em_var 4)) (PEm.ow em_int) (fun _ _ => rfl))) (nomark _)) (sm_one (sm_ret em_bl)) sm_nil)
    (sm_one (sm_set 3 S_l_is_plan.nd (em_ix (PEm.ow (em_var 4)) (PEm.ow em_int) (fun _ _ => rfl))))))) (fun _ e => by cases e))
    (sm_one (sm_ret (em_cmp (op_eqD hr.units) lift_eq (PEm.ow (em_var 3)) (PEm.ow (em_op op_sub lift_sub (PEm.ow (em_callB call_lenA lift_len (by rfl) T.z_len PySem.boot_len (am_cons (PEm.ow (em_var 0)) am_nil))) (PEm.ow em_int))) (nomark _)))))))⟩
def t_l_is_levels (sp_l_is_number : PM.Spec) : TSm :=
  (sSeq (sIf (mOr (mNot (mTB (mOp1 (oIsi "tuple") (mVar 2)))) (mOr (mTB (mOp oNe (mB oLen (mCons (mVar 2) mNil)) (mOp oAdd (mB oLen (mCons (mVar 0) mNil)) (mC (.int 1))))) (mNot (mTB (mB oAll (mCons (mLc (mItems (mVar 2)) [7] (gmN 7) mYes (mCall sp_l_is_number [] (mCons (mVar 7) mNil))) mNil)))))) (sRet (mC (.bl false))) sNext) (sSeq (sIf (mTB (mOp oNe (mOp oIx (mVar 2) (mC (.int 0))) (mC (.int 0)))) (sRet (mC (.bl false))) sNext) (sSeq (sFor (mEnum (mVar 0)) (gmT 2 (gmCons (gmN 3) (gmCons (gmN 4) gmNil))) (sFor (mEnum (mVar 4)) (gmT 2 (gmCons (gmN 5) (gmCons (gmN 6) gmNil))) (sIf (mAnd (mTB (mOp oLt (mVar 6) (mB oLen (mCons (mVar 1) mNil)))) (mTB (mOp oGt (mOp oSub (mOp oIx (mVar 2) (mOp oAdd (mOp oAdd (mVar 3) (mVar 5)) (mC (.int 1)))) (mOp oIx (mVar 2) (mVar 3))) (mB (oBest bestLt) (mCons (mSl oSl (mVar 1) (mPart (mVar 6)) mNo) mNil))))) (sRet (mC (.bl false))) sNext))) (sRet (mC (.bl true))))))
theorem w_l_is_levels (T : Tx K mg) (sp_l_is_number : PM.Spec)
    (F_l_is_number : FnOk P w K mg base CX0 1 T.a_l_is_number T.d_l_is_number p_l_is_number (spM K .cl sp_l_is_number)) (cdv : Value) (A : Around) (outer : List PySem.Env) (s : Shared) (H : Hp) (E : XK)
    (hr : Room 1 (A.deeper (PyProof.Rows.envOfC "_law_is_levels" (defScope s_l_is_levels) s.heap.objs.size T.a_l_is_levels cdv))) :
    ∃ c', PSsm (bodyX P w K mg base n_l_is_levels "_law_is_levels" s_l_is_levels T.a_l_is_levels cdv A outer s H E) ⟨.cl, false, []⟩ (shs 8) c' (defBody s_l_is_levels) (t_l_is_levels sp_l_is_number) :=
  ⟨[.sh, .sh, .sh, .sh, .sh, .sh, .sh, .sh], (sm_cons (sm_if (c' := [.sh, .sh, .sh, .sh, .sh, .sh, .sh, .sh]) (PWm.pt (wm_or (tm_not (tm_val (PEm.ow (em_isi "tuple" (PEm.ow (em_var 2)) (by rfl) T.z_isinstance (by rfl) T.z_tuple PyProof.Rows.boot_tuple)))) (wm_or (tm_cmp (op_neD hr.units) lift_ne (PEm.ow (em_callB call_lenA lift_len (by rfl) T.z_len PySem.boot_len (am_cons (PEm.ow (em_var 2)) am_nil))) (PEm.ow (em_op op_plus lift_plus (PEm.ow (em_callB call_lenA lift_len (by rfl) T.z_len PySem.boot_len (am_cons (PEm.ow (em_var 0)) am_nil))) (PEm.ow em_int))) (nomark _)) (wm_or1 (tm_not (tm_val (PEm.ow (em_callB (cr_all rfl) lift_all (by rfl) T.z_all PyProof.Rows.boot_all (am_cons (PEm.ow (em_lc (own := [("one", 7)]) rfl S_l_is_levels.nd (im_seq (em_var 2)) (blkOk_by (N := n_l_is_levels) (sc := defScope s_l_is_levels) (by decide +kernel)) (fun _ _ _ _ _ => (gm_name 7 S_l_is_levels.nd)) (fun _ _ _ _ _ => tsm_nil) (fun _ _ _ _ _ => (em_call F_l_is_number (hr.mono (by decide)) T.m_l_is_number T.f_l_is_number.kp T.b_l_is_number .nil (fun _ => Rps.nil) (am_consC (em_var 7) am_nil))))) am_nil))))))))) (sm_one (sm_ret em_bl)) sm_nil)
    (sm_cons (sm_if (c' := [.sh, .sh, .sh, .sh, .sh, .sh, .sh, .sh]) (tm_cmp (op_neD hr.units) lift_ne (PEm.ow (em_ix (PEm.ow (em_var 2)) (PEm.ow em_int) (fun _ _ => rfl))) (PEm.ow em_int) (nomark _)) (sm_one (sm_ret em_bl)) sm_nil)
    (sm_cons (sm_for (c := [.sh, .sh, .sh, .sh, .sh, .sh, .sh, .sh]) .never rfl (im_enum T.z_enumerate (em_var 0)) (gm_tup rfl (gsm_cons (gm_name 3 S_l_is_levels.nd) (gsm_cons (gm_name 4 S_l_is_levels.nd) gsm_nil))) (sm_one (sm_for (c := [.sh, .sh, .sh, .sh, .sh, .sh, .sh, .sh]) .never rfl (im_enum T.z_enumerate (em_var 4)) (gm_tup rfl (gsm_cons (gm_name 5 S_l_is_levels.nd) (gsm_cons (gm_name 6 S_l_is_levels.nd) gsm_nil))) (sm_one (sm_if (c' := [.sh, .sh, .sh, .sh, .sh, .sh, .sh, .sh]) (PWm.pt (wm_and (tm_cmp op_lt lift_lt (PEm.ow (em_var 6)) (PEm.ow (em_callB call_lenA lift_len (by rfl) T.z_len PySem.boot_len (am_cons (PEm.ow (em_var 1)) am_nil))) (nomark _)) (wm_and1 (tm_cmp op_gt lift_gt (PEm.ow (em_op op_sub lift_sub (PEm.ow (em_ix (PEm.ow (em_var 2)) (PEm.ow (em_op op_plus lift_plus (PEm.ow (em_op op_plus lift_plus (PEm.ow (em_var 3)) (PEm.ow (em_var 5)))) (PEm.ow em_int))) (fun _ _ => rfl))) (PEm.ow (em_ix (PEm.ow (em_var 2)) (PEm.ow (em_var 3)) (fun _ _ => rfl))))) (PEm.ow (em_callB (cr_minDa rfl hr.units) (lift_best bestLt_lt) (by rfl) T.z_min PyProof.Rows.boot_min (am_cons (PEm.ow (em_sl (PEm.ow (em_var 1)) (om_some (PEm.ow (em_var 6))) om_none)) am_nil))) (nomark _))))) (sm_one (sm_ret em_bl)) sm_nil)) (fun _ e => by cases e))) (fun _ e => by cases e))
    (sm_one (sm_ret em_bl)))))⟩
def t_l_own_plan (sp_l_pick : PM.Spec) (sp_l_draw : PM.Spec) : TSm :=
  (sSeq (sPar [4, 5] (mCons (mLst mNil) (mCons (mC (.int 0)) mNil))) (sSeq (sFor (mRng1 (mB oLen (mCons (mVar 1) mNil))) (gmN 3) (sSeq (sSet 6 (mLc (mEnum (mOp oIx (mVar 1) (mVar 5))) [8, 9] (gmT 2 (gmCons (gmN 8) (gmCons (gmN 9) gmNil))) (mTB (mOp oLt (mVar 9) (mB oLen (mCons (mVar 2) mNil)))) (mOp oAdd (mVar 5) (mVar 8)))) (sSeq (sIf (mTB (mOp oEq (mVarO 6) (mLst mNil))) (sRet (mC (.non))) sNext) (sSeq (sSet 7 (mCall sp_l_pick [] (mCons (mVar 0) (mCons (mVar 6) mNil)))) (sSeq (sApp 4 (mTup (mCons (mVar 5) (mCons (mVar 7) (mCons (mOp oAdd (mOp oIx (mOp oIx (mVar 1) (mVar 5)) (mOp oSub (mVar 7) (mVar 5))) (mCall sp_l_draw [] (mCons (mVar 0) (mCons (mOp oSub (mB oLen (mCons (mVar 2) mNil)) (mOp oIx (mOp oIx (mVar 1) (mVar 5)) (mOp oSub (mVar 7) (mVar 5)))) mNil)))) mNil))))) (sSeq (sSet 5 (mOp oAdd (mVar 7) (mC (.int 1)))) (sIf (mTB (mOp oEq (mVar 5) (mB oLen (mCons (mVar 1) mNil)))) sBreak sNext))))))) (sRet (mB oTuple (mCons (mVarO 4) mNil)))))
theorem w_l_own_plan (T : Tx K mg) (sp_l_pick : PM.Spec) (sp_l_draw : PM.Spec)
    (F_l_pick : FnOk P w K mg base CX0 2 T.a_l_pick T.d_l_pick p_l_pick (spM K .cl sp_l_pick))
    (F_l_draw : FnOk P w K mg base CX0 1 T.a_l_draw T.d_l_draw p_l_draw (spM K .cl sp_l_draw)) (cdv : Value) (A : Around) (outer : List PySem.Env) (s : Shared) (H : Hp) (E : XK)
    (hr : Room 2 (A.deeper (PyProof.Rows.envOfC "_law_own_plan" (defScope s_l_own_plan) s.heap.objs.size T.a_l_own_plan cdv))) :
    ∃ c', PSsm (bodyX P w K mg base n_l_own_plan "_law_own_plan" s_l_own_plan T.a_l_own_plan cdv A outer s H E) ⟨.cl, false, []⟩ (shs 10) c' (defBody s_l_own_plan) (t_l_own_plan sp_l_pick sp_l_draw) :=
  ⟨[.sh, .sh, .sh, .sh, .sh, .sh, .sh, .sh, .sh, .sh], (sm_cons (sm_parG [4, 5] rfl (pgs_n S_l_own_plan.nd (pgs_n S_l_own_plan.nd pgs_n0)) (xm_fr (em_lst am_nil) (xm_cl em_int xm_nil)))
    (sm_cons (sm_for (c := [.sh, .sh, .sh, .sh, .ow, .sh, .sh, .sh, .sh, .sh]) .never rfl (im_rng1 T.z_range (PEm.ow (em_callB call_lenA lift_len (by rfl) T.z_len PySem.boot_len (am_cons (PEm.ow (em_var 1)) am_nil)))) (gm_name 3 S_l_own_plan.nd) (sm_cons (sm_setLc 6 (hsw := sw_true rfl rfl rfl (by decide +kernel)) (own := [("at", 8), ("size", 9)]) rfl S_l_own_plan.nd (im_enum T.z_enumerate (em_ix (PEm.ow (em_var 1)) (PEm.ow (em_var 5)) (fun _ _ => rfl))) (blkOk_by (N := n_l_own_plan) (sc := defScope s_l_own_plan) (by decide +kernel)) (fun _ _ _ _ _ => (gm_tup rfl (gsm_cons (gm_name 8 S_l_own_plan.nd) (gsm_cons (gm_name 9 S_l_own_plan.nd) gsm_nil)))) (fun _ _ _ _ _ => (tsm_one (tm_cmp op_lt lift_lt (PEm.ow (em_var 9)) (PEm.ow (em_callB call_lenA lift_len (by rfl) T.z_len PySem.boot_len (am_cons (PEm.ow (em_var 2)) am_nil))) (nomark _)))) (fun _ _ _ _ _ => (em_op op_plus lift_plus (PEm.ow (em_var 5)) (PEm.ow (em_var 8)))))
    (sm_cons (sm_if (c' := [.sh, .sh, .sh, .sh, .ow, .sh, .ow, .sh, .sh, .sh]) (tm_cmp (op_eqD hr.units) lift_eq (em_varO 6) (PEm.ow (em_lst am_nil)) (nomark _)) (sm_one (sm_ret em_non)) sm_nil)
    (sm_cons (sm_pre1 (c := [.sh, .sh, .sh, .sh, .ow, .sh, .ow, .sh, .sh, .sh]) (c1 := [.sh, .sh, .sh, .sh, .ow, .sh, .sh, .sh, .sh, .sh]) (by decide) (sm_set 7 S_l_own_plan.nd (em_call F_l_pick (hr.mono (by decide)) T.m_l_pick T.f_l_pick.kp T.b_l_pick .nil (fun _ => Rps.nil) (am_consC (em_var 0) (am_consC (em_var 6) am_nil)))))
    (sm_cons (sm_app 4 (em_tup (am_consC (em_var 5) (am_consC (em_var 7) (am_consC (em_op op_plus lift_plus (PEm.ow (em_ix (PEm.ow (em_ix (PEm.ow (em_var 1)) (PEm.ow (em_var 5)) (fun _ _ => rfl))) (PEm.ow (em_op op_sub lift_sub (PEm.ow (em_var 7)) (PEm.ow (em_var 5)))) (fun _ _ => rfl))) (PEm.ow (em_call F_l_draw (hr.mono (by decide)) T.m_l_draw T.f_l_draw.kp T.b_l_draw .nil (fun _ => Rps.nil) (am_consC (em_var 0) (am_consC (em_op op_sub lift_sub (PEm.ow (em_callB call_lenA lift_len (by rfl) T.z_len PySem.boot_len (am_cons (PEm.ow (em_var 2)) am_nil))) (PEm.ow (em_ix (PEm.ow (em_ix (PEm.ow (em_var 1)) (PEm.ow (em_var 5)) (fun _ _ => rfl))) (PEm.ow (em_op op_sub lift_sub (PEm.ow (em_var 7)) (PEm.ow (em_var 5)))) (fun _ _ => rfl)))) am_nil))))) am_nil)))))
    (sm_cons (sm_set 5 S_l_own_plan.nd (em_op op_plus lift_plus (PEm.ow (em_var 7)) (PEm.ow em_int)))
    (sm_one (sm_if (c' := [.sh, .sh, .sh, .sh, .ow, .sh, .sh, .sh, .sh, .sh]) (tm_cmp (op_eqD hr.units) lift_eq (PEm.ow (em_var 5)) (PEm.ow (em_callB call_lenA lift_len (by rfl) T.z_len PySem.boot_len (am_cons (PEm.ow (em_var 1)) am_nil))) (nomark _)) (sm_one (sm_break (by decide))) sm_nil))))))) (fun _ e => by cases e))
    (sm_one (sm_ret (em_callTy call_tuple_of lift_tuple (by rfl) T.z_tuple PyProof.Rows.boot_tuple (am_cons (em_varO 4) am_nil))))))⟩
def t_l_own_levels (sp_l_draw : PM.Spec) : TSm :=
  (sSeq (sSet 3 (mLst (mCons (mC (.int 0)) mNil))) (sSeq (sFor (mRng1 (mB oLen (mCons (mVar 1) mNil))) (gmN 4) (sSeq (sSet 5 (mLst (mCons (mC (.int 40)) mNil))) (sSeq (sFor (mRng1 (mOp oAdd (mVar 4) (mC (.int 1)))) (gmN 6) (sSeq (sSet 8 (mOp oIx (mOp oIx (mVar 1) (mVar 6)) (mOp oSub (mVar 4) (mVar 6)))) (sIf (mTB (mOp oLt (mVar 8) (mB oLen (mCons (mVar 2) mNil)))) (sApp 5 (mOp oAdd (mOp oIx (mVarO 3) (mVar 6)) (mB (oBest bestLt) (mCons (mSl oSl (mVar 2) (mPart (mVar 8)) mNo) mNil)))) sNext))) (sSeq (sSet 7 (mB (oBest bestLt) (mCons (mVarO 5) mNil))) (sApp 3 (mIf (mTB (mOp oEq (mCall sp_l_draw [] (mCons (mVar 0) (mCons (mC (.int 2)) mNil))) (mC (.int 0)))) (mVar 7) (mCall sp_l_draw [] (mCons (mVar 0) (mCons (mOp oAdd (mVar 7) (mC (.int 1))) mNil))))))))) (sRet (mB oTuple (mCons (mVarO 3) mNil)))))
theorem w_l_own_levels (T : Tx K mg) (sp_l_draw : PM.Spec)
    (F_l_draw : FnOk P w K mg base CX0 1 T.a_l_draw T.d_l_draw p_l_draw (spM K .cl sp_l_draw)) (cdv : Value) (A : Around) (outer : List PySem.Env) (s : Shared) (H : Hp) (E : XK)
    (hr : Room 1 (A.deeper (PyProof.Rows.envOfC "_law_own_levels" (defScope s_l_own_levels) s.heap.objs.size T.a_l_own_levels cdv))) :
    ∃ c', PSsm (bodyX P w K mg base n_l_own_levels "_law_own_levels" s_l_own_levels T.a_l_own_levels cdv A outer s H E) ⟨.cl, false, []⟩ (shs 9) c' (defBody s_l_own_levels) (t_l_own_levels sp_l_draw) :=
  ⟨[.sh, .sh, .sh, .sh, .sh, .sh, .sh, .sh, .sh], (sm_cons (sm_setF 3 S_l_own_levels.nd (em_lst (am_consC em_int am_nil)))
    (sm_cons (sm_for (c := [.sh, .sh, .sh, .ow, .sh, .sh, .sh, .sh, .sh]) .never rfl (im_rng1 T.z_range (PEm.ow (em_callB call_lenA lift_len (by rfl) T.z_len PySem.boot_len (am_cons (PEm.ow (em_var 1)) am_nil)))) (gm_name 4 S_l_own_levels.nd) (sm_post (by decide) (sm_cons (sm_setF 5 S_l_own_levels.nd (em_lst (am_consC em_int am_nil)))
    (sm_cons (sm_for (c := [.sh, .sh, .sh, .ow, .sh, .ow, .sh, .sh, .sh]) .never rfl (im_rng1 T.z_range (PEm.ow (em_op op_plus lift_plus (PEm.ow (em_var 4)) (PEm.ow em_int)))) (gm_name 6 S_l_own_levels.nd) (sm_cons (sm_set 8 S_l_own_levels.nd (em_ix (PEm.ow (em_ix (PEm.ow (em_var 1)) (PEm.ow (em_var 6)) (fun _ _ => rfl))) (PEm.ow (em_op op_sub lift_sub (PEm.ow (em_var 4)) (PEm.ow (em_var 6)))) (fun _ _ => rfl)))
    (sm_one (sm_if (c' := [.sh, .sh, .sh, .ow, .sh, .ow, .sh, .sh, .sh]) (tm_cmp op_lt lift_lt (PEm.ow (em_var 8)) (PEm.ow (em_callB call_lenA lift_len (by rfl) T.z_len PySem.boot_len (am_cons (PEm.ow (em_var 2)) am_nil))) (nomark _)) (sm_one (sm_app 5 (em_op op_plus lift_plus (PEm.ow (em_ix (em_varO 3) (PEm.ow (em_var 6)) (fun _ _ => rfl))) (PEm.ow (em_callB (cr_minDa rfl hr.units) (lift_best bestLt_lt) (by rfl) T.z_min PyProof.Rows.boot_min (am_cons (PEm.ow (em_sl (PEm.ow (em_var 2)) (om_some (PEm.ow (em_var 8))) om_none)) am_nil)))))) sm_nil))) (fun _ e => by cases e))
    (sm_cons (sm_set 7 S_l_own_levels.nd (em_callB (cr_minDa rfl hr.units) (lift_best bestLt_lt) (by rfl) T.z_min PyProof.Rows.boot_min (am_cons (em_varO 5) am_nil)))
    (sm_one (sm_app 3 (em_if (tm_cmp (op_eqD hr.units) lift_eq (PEm.ow (em_call F_l_draw (hr.mono (by decide)) T.m_l_draw T.f_l_draw.kp T.b_l_draw .nil (fun _ => Rps.nil) (am_consC (em_var 0) (am_consC em_int am_nil)))) (PEm.ow em_int) (nomark _)) (em_var 7) (em_call F_l_draw (hr.mono (by decide)) T.m_l_draw T.f_l_draw.kp T.b_l_draw .nil (fun _ => Rps.nil) (am_consC (em_var 0) (am_consC (em_op op_plus lift_plus (PEm.ow (em_var 7)) (PEm.ow em_int)) am_nil)))))))))) (fun _ e => by cases e))
    (sm_one (sm_ret (em_callTy call_tuple_of lift_tuple (by rfl) T.z_tuple PyProof.Rows.boot_tuple (am_cons (em_varO 3) am_nil))))))⟩
def t_l_bent (sp_l_pick : PM.Spec) (sp_l_draw : PM.Spec) : TSm :=
  (sSeq (sIf (mTB (mOp oEq (mVar 1) (mTup mNil))) (sRet (mCall sp_l_pick [] (mCons (mVar 0) (mCons (mLst (mCons (mTup mNil) (mCons (mLst mNil) (mCons (mC (.non)) (mCons (mTup (mCons (mTup (mCons (mC (.int 0)) (mCons (mC (.int 0)) mNil))) mNil)) (mCons (mTup (mCons (mC (.int 0)) mNil)) mNil)))))) mNil)))) sNext) (sSeq (sPar [3, 4] (mCons (mCall sp_l_draw [] (mCons (mVar 0) (mCons (mB oLen (mCons (mVar 1) mNil)) mNil))) (mCons (mCall sp_l_draw [] (mCons (mVar 0) (mCons (mC (.int 6)) mNil))) mNil))) (sSeq (sIf (mTB (mOp oEq (mVar 4) (mC (.int 0)))) (sRet (mOp oAdd (mSl oSl (mVar 1) mNo (mPart (mVar 3))) (mSl oSl (mVar 1) (mPart (mOp oAdd (mVar 3) (mC (.int 1)))) mNo))) sNext) (sSeq (sIf (mTB (mOp oEq (mVar 4) (mC (.int 1)))) (sRet (mOp oAdd (mOp oAdd (mSl oSl (mVar 1) mNo (mPart (mVar 3))) (mSl oSl (mVar 1) (mPart (mVar 3)) (mPart (mOp oAdd (mVar 3) (mC (.int 1)))))) (mSl oSl (mVar 1) (mPart (mVar 3)) mNo))) sNext) (sSeq (sIf (mTB (mOp oEq (mVar 4) (mC (.int 2)))) (sRet (mB oList (mCons (mVar 1) mNil))) sNext) (sSeq (sSet 2 (mOp oIx (mVar 1) (mVar 3))) (sSeq (sIf (mTB (mOp1 (oIsi "tuple") (mVar 2))) (sSeq (sSet 5 (mCall sp_l_draw [] (mCons (mVar 0) (mCons (mB oLen (mCons (mVar 2) mNil)) mNil)))) (sSet 2 (mOp oAdd (mOp oAdd (mSl oSl (mVar 2) mNo (mPart (mVar 5))) (mTup (mCons (mCall sp_l_pick [] (mCons (mVar 0) (mCons (mLst (mCons (mOp oAdd (mOp oIx (mVar 2) (mVar 5)) (mC (.int 1))) (mCons (mOp oSub (mOp oIx (mVar 2) (mVar 5)) (mC (.int 1))) (mCons (mOp oAdd (mOp oIx (mVar 2) (mVar 5)) (mC (.int 1))) (mCons (mC (.bl true)) (mCons (mC (.non)) (mCons (mC (.int 0)) mNil))))))) mNil))) mNil))) (mSl oSl (mVar 2) (mPart (mOp oAdd (mVar 5) (mC (.int 1)))) mNo)))) (sSet 2 (mCall sp_l_pick [] (mCons (mVar 0) (mCons (mLst (mCons (mOp oAdd (mVar 2) (mC (.int 1))) (mCons (mOp oSub (mVar 2) (mC (.int 1))) (mCons (mOp oAdd (mVar 2) (mC (.int 2))) (mCons (mC (.bl true)) (mCons (mC (.non)) (mCons (mC (.int 0)) (mCons (mTup (mCons (mVar 2) mNil)) mNil)))))))) mNil))))) (sRet (mOp oAdd (mOp oAdd (mSl oSl (mVar 1) mNo (mPart (mVar 3))) (mTup (mCons (mVar 2) mNil))) (mSl oSl (mVar 1) (mPart (mOp oAdd (mVar 3) (mC (.int 1)))) mNo))))))))))
theorem w_l_bent (T : Tx K mg) (sp_l_pick : PM.Spec) (sp_l_draw : PM.Spec)
    (F_l_pick : FnOk P w K mg base CX0 2 T.a_l_pick T.d_l_pick p_l_pick (spM K .cl sp_l_pick))
    (F_l_draw : FnOk P w K mg base CX0 1 T.a_l_draw T.d_l_draw p_l_draw (spM K .cl sp_l_draw)) (cdv : Value) (A : Around) (outer : List PySem.Env) (s : Shared) (H : Hp) (E : XK)
    (hr : Room 2 (A.deeper (PyProof.Rows.envOfC "_law_bent" (defScope s_l_bent) s.heap.objs.size T.a_l_bent cdv))) :
    ∃ c', PSsm (bodyX P w K mg base n_l_bent "_law_bent" s_l_bent T.a_l_bent cdv A outer s H E) ⟨.cl, false, []⟩ (shs 6) c' (defBody s_l_bent) (t_l_bent sp_l_pick sp_l_draw) :=
  ⟨[.sh, .sh, .sh, .sh, .sh, .sh], (sm_cons (sm_if (c' := [.sh, .sh, .sh, .sh, .sh, .sh]) (tm_cmp (op_eqD hr.units) lift_eq (PEm.ow (em_var 1)) (PEm.ow (em_tup am_nil)) (nomark _)) (sm_one (sm_ret (em_call F_l_pick (hr.mono (by decide)) T.m_l_pick T.f_l_pick.kp T.b_l_pick .nil (fun _ => Rps.nil) (am_consC (em_var 0) (am_consC (PEm.cl (em_lst (am_consC (em_tup am_nil) (am_consC (PEm.cl (em_lst am_nil)) (am_consC em_non (am_consC (em_tup (am_consC (em_tup (am_consC em_int (am_consC em_int am_nil))) am_nil)) (am_consC (em_tup (am_consC em_int am_nil)) am_nil))))))) am_nil))))) sm_nil)
    (sm_cons (sm_par [3, 4] rfl S_l_bent.nd (xm_cl (em_call F_l_draw (hr.mono (by decide)) T.m_l_draw T.f_l_draw.kp T.b_l_draw .nil (fun _ => Rps.nil) (am_consC (em_var 0) (am_consC (em_callB call_lenA lift_len (by rfl) T.z_len PySem.boot_len (am_cons (PEm.ow (em_var 1)) am_nil)) am_nil))) (xm_cl (em_call F_l_draw (hr.mono (by decide)) T.m_l_draw T.f_l_draw.kp T.b_l_draw .nil (fun _ => Rps.nil) (am_consC (em_var 0) (am_consC em_int am_nil))) xm_nil)))
    (sm_cons (sm_if (c' := [.sh, .sh, .sh, .sh, .sh, .sh]) (tm_cmp (op_eqD hr.units) lift_eq (PEm.ow (em_var 4)) (PEm.ow em_int) (nomark _)) (sm_one (sm_ret (em_op op_plus lift_plus (PEm.ow (em_sl (PEm.ow (em_var 1)) om_none (om_some (PEm.ow (em_var 3))))) (PEm.ow (em_sl (PEm.ow (em_var 1)) (om_some (PEm.ow (em_op op_plus lift_plus (PEm.ow (em_var 3)) (PEm.ow em_int)))) om_none))))) sm_nil)
    (sm_cons (sm_if (c' := [.sh, .sh, .sh, .sh, .sh, .sh]) (tm_cmp (op_eqD hr.units) lift_eq (PEm.ow (em_var 4)) (PEm.ow em_int) (nomark _)) (sm_one (sm_ret (em_op op_plus lift_plus (PEm.ow (em_op op_plus lift_plus (PEm.ow (em_sl (PEm.ow (em_var 1)) om_none (om_some (PEm.ow (em_var 3))))) (PEm.ow (em_sl (PEm.ow (em_var 1)) (om_some (PEm.ow (em_var 3))) (om_some (PEm.ow (em_op op_plus lift_plus (PEm.ow (em_var 3)) (PEm.ow em_int)))))))) (PEm.ow (em_sl (PEm.ow (em_var 1)) (om_some (PEm.ow (em_var 3))) om_none))))) sm_nil)
    (sm_cons (sm_if (c' := [.sh, .sh, .sh, .sh, .sh, .sh]) (tm_cmp (op_eqD hr.units) lift_eq (PEm.ow (em_var 4)) (PEm.ow em_int) (nomark _)) (sm_one (sm_ret (PEm.cl (em_callTy call_list_of lift_list (by rfl) T.z_list PyProof.Rows.boot_list (am_cons (PEm.ow (em_var 1)) am_nil))))) sm_nil)
    (sm_cons (sm_set 2 S_l_bent.nd (em_ix (PEm.ow (em_var 1)) (PEm.ow (em_var 3)) (fun _ _ => rfl)))
    (sm_cons (sm_if (c' := [.sh, .sh, .sh, .sh, .sh, .sh]) (tm_val (PEm.ow (em_isi "tuple" (PEm.ow (em_var 2)) (by rfl) T.z_isinstance (by rfl) T.z_tuple PyProof.Rows.boot_tuple))) (sm_cons (sm_set 5 S_l_bent.nd (em_call F_l_draw (hr.mono (by decide)) T.m_l_draw T.f_l_draw.kp T.b_l_draw .nil (fun _ => Rps.nil) (am_consC (em_var 0) (am_consC (em_callB call_lenA lift_len (by rfl) T.z_len PySem.boot_len (am_cons (PEm.ow (em_var 2)) am_nil)) am_nil))))
    (sm_one (sm_set 2 S_l_bent.nd (em_op op_plus lift_plus (PEm.ow (em_op op_plus lift_plus (PEm.ow (em_sl (PEm.ow (em_var 2)) om_none (om_some (PEm.ow (em_var 5))))) (PEm.ow (em_tup (am_consC (em_call F_l_pick (hr.mono (by decide)) T.m_l_pick T.f_l_pick.kp T.b_l_pick .nil (fun _ => Rps.nil) (am_consC (em_var 0) (am_consC (PEm.cl (em_lst (am_consC (em_op op_plus lift_plus (PEm.ow (em_ix (PEm.ow (em_var 2)) (PEm.ow (em_var 5)) (fun _ _ => rfl))) (PEm.ow em_int)) (am_consC (em_op op_sub lift_sub (PEm.ow (em_ix (PEm.ow (em_var 2)) (PEm.ow (em_var 5)) (fun _ _ => rfl))) (PEm.ow em_int)) (am_consC (em_op op_plus lift_plus (PEm.ow (em_ix (PEm.ow (em_var 2)) (PEm.ow (em_var 5)) (fun _ _ => rfl))) (PEm.ow em_int)) (am_consC em_bl (am_consC em_non (am_consC em_int am_nil)))))))) am_nil))) am_nil))))) (PEm.ow (em_sl (PEm.ow (em_var 2)) (om_some (PEm.ow (em_op op_plus lift_plus (PEm.ow (em_var 5)) (PEm.ow em_int)))) om_none)))))) (sm_one (sm_set 2 S_l_bent.nd (em_call F_l_pick (hr.mono (by decide)) T.m_l_pick T.f_l_pick.kp T.b_l_pick .nil (fun _ => Rps.nil) (am_consC (em_var 0) (am_consC (PEm.cl (em_lst (am_consC (em_op op_plus lift_plus (PEm.ow (em_var 2)) (PEm.ow em_int)) (am_consC (em_op op_sub lift_sub (PEm.ow (em_var 2)) (PEm.ow em_int)) (am_consC (em_op op_plus lift_plus (PEm.ow (em_var 2)) (PEm.ow em_int)) (am_consC em_bl (am_consC em_non (am_consC em_int (am_consC (em_tup (am_consC (em_var 2) am_nil)) am_nil))))))))) am_nil))))))
    (sm_one (sm_ret (em_op op_plus lift_plus (PEm.ow (em_op op_plus lift_plus (PEm.ow (em_sl (PEm.ow (em_var 1)) om_none (om_some (PEm.ow (em_var 3))))) (PEm.ow (em_tup (am_consC (em_var 2) am_nil))))) (PEm.ow (em_sl (PEm.ow (em_var 1)) (om_some (PEm.ow (em_op op_plus lift_plus (PEm.ow (em_var 3)) (PEm.ow em_int)))) om_none))))))))))))⟩
def t_l_rhythms : TSm :=
  (sSeq (sSet 6 (mLst mNil)) (sSeq (sFor (mRng2 (mC (.int 1)) (mOp oAdd (mVar 5) (mC (.int 1)))) (gmN 7) (sSeq (sSet 8 (mB oMax2 (mCons (mC (.int 1)) (mCons (mB oMin2 (mCons (mOp oAdd (mVar 0) (mOp oMul (mVar 4) (mOp oSub (mVar 7) (mC (.int 1))))) (mCons (mOp oAdd (mOp oAdd (mVar 1) (mOp oMul (mB oMin2 (mCons (mVar 1) (mCons (mVar 4) mNil))) (mOp oSub (mVar 7) (mC (.int 1))))) (mOp oMul (mVar 2) (mOp oAdd (mVar 7) (mVar 3)))) mNil))) mNil)))) (sIf (mTB (mOp oLe (mOp oAdd (mOp oAdd (mOp oMul (mC (.int 2)) (mVar 1)) (mVar 8)) (mC (.int 1))) (mVar 0))) (sSeq (sSet 9 (mB oLen (mCons (mLc (mRng2 (mC (.int 1)) (mVar 5)) [10] (gmN 10) (mTB (mOp oEq (mOp oMod (mVar 10) (mVar 7)) (mC (.int 0)))) (mVar 10)) mNil))) (sApp 6 (mTup (mCons (mVar 7) (mCons (mVar 8) (mCons (mOp oMul (mOp oAdd (mOp oMul (mOp oMul (mVar 9) (mVar 0)) (mVar 0)) (mOp oMul (mOp oSub (mOp oSub (mVar 5) (mC (.int 1))) (mVar 9)) (mVar 4))) (mOp oAdd (mVar 8) (mC (.int 1)))) mNil)))))) sNext))) (sRet (mB oTuple (mCons (mVarO 6) mNil)))))
theorem w_l_rhythms (T : Tx K mg) (cdv : Value) (A : Around) (outer : List PySem.Env) (s : Shared) (H : Hp) (E : XK)
    (hr : Room 0 (A.deeper (PyProof.Rows.envOfC "_law_rhythms" (defScope s_l_rhythms) s.heap.objs.size T.a_l_rhythms cdv))) :
    ∃ c', PSsm (bodyX P w K mg base n_l_rhythms "_law_rhythms" s_l_rhythms T.a_l_rhythms cdv A outer s H E) ⟨.cl, false, []⟩ (shs 11) c' (defBody s_l_rhythms) (t_l_rhythms) :=
  ⟨[.sh, .sh, .sh, .sh, .sh, .sh, .sh, .sh, .sh, .sh, .sh], (sm_cons (sm_setF 6 S_l_rhythms.nd (em_lst am_nil))
    (sm_cons (sm_for (c := [.sh, .sh, .sh, .sh, .sh, .sh, .ow, .sh, .sh, .sh, .sh]) .never rfl (im_rng2 T.z_range (PEm.ow em_int) (PEm.ow (em_op op_plus lift_plus (PEm.ow (em_var 5)) (PEm.ow em_int)))) (gm_name 7 S_l_rhythms.nd) (sm_cons (sm_set 8 S_l_rhythms.nd (em_callB (call_max2 rfl) lift_max2 (by rfl) T.z_max PyProof.Rows.boot_max (am_cons (PEm.ow em_int) (am_cons (PEm.ow (em_callB (call_min2 rfl) lift_min2 (by rfl) T.z_min PyProof.Rows.boot_min (am_cons (PEm.ow (em_op op_plus lift_plus (PEm.ow (em_var 0)) (PEm.ow (em_op op_mul lift_mul (PEm.ow (em_var 4)) (PEm.ow (em_op op_sub lift_sub (PEm.ow (em_var 7)) (PEm.ow em_int))))))) (am_cons (PEm.ow (em_op op_plus lift_plus (PEm.ow (em_op op_plus lift_plus (PEm.ow (em_var 1)) (PEm.ow (em_op op_mul lift_mul (PEm.ow (em_callB (call_min2 rfl) lift_min2 (by rfl) T.z_min PyProof.Rows.boot_min (am_cons (PEm.ow (em_var 1)) (am_cons (PEm.ow (em_var 4)) am_nil)))) (PEm.ow (em_op op_sub lift_sub (PEm.ow (em_var 7)) (PEm.ow em_int))))))) (PEm.ow (em_op op_mul lift_mul (PEm.ow (em_var 2)) (PEm.ow (em_op op_plus lift_plus (PEm.ow (em_var 7)) (PEm.ow (em_var 3)))))))) am_nil)))) am_nil))))
    (sm_one (sm_if (c' := [.sh, .sh, .sh, .sh, .sh, .sh, .ow, .sh, .sh, .sh, .sh]) (tm_cmp op_le lift_le (PEm.ow (em_op op_plus lift_plus (PEm.ow (em_op op_plus lift_plus (PEm.ow (em_op op_mul lift_mul (PEm.ow em_int) (PEm.ow (em_var 1)))) (PEm.ow (em_var 8)))) (PEm.ow em_int))) (PEm.ow (em_var 0)) (nomark _)) (sm_cons (sm_set 9 S_l_rhythms.nd (em_callB call_lenA lift_len (by rfl) T.z_len PySem.boot_len (am_cons (PEm.ow (em_lc (own := [("at", 10)]) rfl S_l_rhythms.nd (im_rng2 T.z_range (PEm.ow em_int) (PEm.ow (em_var 5))) (blkOk_by (N := n_l_rhythms) (sc := defScope s_l_rhythms) (by decide +kernel)) (fun _ _ _ _ _ => (gm_name 10 S_l_rhythms.nd)) (fun _ _ _ _ _ => (tsm_one (tm_cmp (op_eqD hr.units) lift_eq (PEm.ow (em_op op_mod lift_mod (PEm.ow (em_var 10)) (PEm.ow (em_var 7)))) (PEm.ow em_int) (nomark _)))) (fun _ _ _ _ _ => (em_var 10)))) am_nil)))
    (sm_one (sm_app 6 (em_tup (am_consC (em_var 7) (am_consC (em_var 8) (am_consC (em_op op_mul lift_mul (PEm.ow (em_op op_plus lift_plus (PEm.ow (em_op op_mul lift_mul (PEm.ow (em_op op_mul lift_mul (PEm.ow (em_var 9)) (PEm.ow (em_var 0)))) (PEm.ow (em_var 0)))) (PEm.ow (em_op op_mul lift_mul (PEm.ow (em_op op_sub lift_sub (PEm.ow (em_op op_sub lift_sub (PEm.ow (em_var 5)) (PEm.ow em_int))) (PEm.ow (em_var 9)))) (PEm.ow (em_var 4)))))) (PEm.ow (em_op op_plus lift_plus (PEm.ow (em_var 8)) (PEm.ow em_int)))) am_nil))))))) sm_nil))) (fun _ e => by cases e))
    (sm_one (sm_ret (em_callTy call_tuple_of lift_tuple (by rfl) T.z_tuple PyProof.Rows.boot_tuple (am_cons (em_varO 6) am_nil))))))⟩
def t_law (ok_l_heap : List PV → Prop) (sp_l_pick : PM.Spec) (sp_l_counted : PM.Spec) (sp_l_rhythms : PM.Spec) (sp_l_like : PM.Spec) (sp_l_sizes : PM.Spec) (sp_l_draw : PM.Spec) (sp_cheapest_plan : PM.Spec) (sp_least_levels : PM.Spec) (sp_l_own_plan : PM.Spec) (sp_l_own_levels : PM.Spec) (sp_is_levels : PM.Spec) (sp_l_bent : PM.Spec) (sp_kept_schedule : PM.Spec) (sp_is_degree_plan : PM.Spec) (sp_rhythm_bill : PM.Spec) (sp_l_is_plan : PM.Spec) (sp_l_is_levels : PM.Spec) (sp_plan_price : PM.Spec) (sp_rhythms : PM.Spec) (sp_cheapest_rhythm : PM.Spec) : TSm :=
  (sSeq (sSrc 1 ok_l_heap (mCons (mVar 0) mNil)) (sSeq (sSet 2 (mCall sp_l_pick [] (mCons (mVar 1) (mCons (mLst (mCons (mC (.int 1)) (mCons (mC (.int 2)) (mCons (mC (.int 3)) (mCons (mC (.int 4)) (mCons (mC (.int 6)) (mCons (mC (.int 9)) (mCons (mC (.int 16)) mNil)))))))) mNil)))) (sSeq (sSet 3 (mCall sp_l_counted [] (mCons (mVar 1) (mCons (mVar 2) mNil)))) (sSeq (sPar [13, 14] (mCons (mCall sp_l_sizes [] (mCons (mVar 3) mNil)) (mCons (mB oMaxL (mCons (mLc (mItems (mVar 3)) [32] (gmN 32) mYes (mB oLen (mCons (mVar 32) mNil))) mNil)) mNil))) (sSeq (sSet 4 (mB oMax2 (mCons (mC (.int 1)) (mCons (mOp oAdd (mOp oAdd (mVar 14) (mC (.int 1))) (mCall sp_l_pick [] (mCons (mVar 1) (mCons (mLst (mCons (mOp1 oNeg (mC (.int 1))) (mCons (mC (.int 0)) (mCons (mC (.int 0)) (mCons (mC (.int 1)) (mCons (mC (.int 2)) (mCons (mC (.int 3)) (mCons (mC (.int 5)) mNil)))))))) mNil)))) mNil)))) (sSeq (sPar [5, 15] (mCons (mLc (mRng1 (mVar 4)) [30] (gmN 30) mYes (mCall sp_l_draw [] (mCons (mVar 1) (mCons (mCall sp_l_pick [] (mCons (mVar 1) (mCons (mLst (mCons (mC (.int 1)) (mCons (mC (.int 5)) (mCons (mC (.int 30)) (mCons (mC (.int 900)) mNil))))) mNil))) mNil)))) (mCons (mCall sp_l_draw [] (mCons (mVar 1) (mCons (mC (.int 3)) mNil))) mNil))) (sSeq (sSet 5 (mB oTuple (mCons (mOp oIx (mLst (mCons (mB oSorted (mCons (mVar 5) mNil)) (mCons (mOp1 oRev (mB oSorted (mCons (mVar 5) mNil))) (mCons (mVar 5) mNil)))) (mVar 15)) mNil))) (sSeq (sPar [16, 17] (mCons (mCall sp_cheapest_plan [] (mCons (mVar 3) (mCons (mVar 5) mNil))) (mCons (mCall sp_least_levels [] (mCons (mVar 3) (mCons (mVar 5) mNil))) mNil))) (sSeq (sIf (mTB (mOp oGe (mVar 14) (mVar 4))) (sIf (mOr (mTB (mOp oNotN (mVar 16) (mC (.non)))) (mTB (mOp oNotN (mVar 17) (mC (.non))))) (sRet (mC (.bl false))) sNext) (sSeq (sIf (mOr (mNot (mTB (mCall sp_l_is_plan [] (mCons (mVar 13) (mCons (mVar 5) (mCons (mVar 16) mNil)))))) (mNot (mTB (mCall sp_l_is_levels [] (mCons (mVar 13) (mCons (mVar 5) (mCons (mVar 17) mNil))))))) (sRet (mC (.bl false))) sNext) (sIf (mOr (mTB (mOp oNe (mB oSum (mCons (mLc (mItems (mVar 16)) [29] (gmN 29) mYes (mOp oIx (mVar 5) (mOp oIx (mVar 29) (mC (.int 2))))) mNil)) (mOp oIx (mVar 17) (mOp1 oNeg (mC (.int 1)))))) (mNot (mTB (mCall sp_l_like [] (mCons (mCall sp_plan_price [] (mCons (mVar 5) (mCons (mVar 16) mNil))) (mCons (mOp oIx (mVar 17) (mOp1 oNeg (mC (.int 1)))) mNil)))))) (sRet (mC (.bl false))) sNext))) (sSeq (sPar [18, 19] (mCons (mCall sp_l_own_plan [] (mCons (mVar 1) (mCons (mVar 13) (mCons (mVar 5) mNil)))) (mCons (mCall sp_l_own_levels [] (mCons (mVar 1) (mCons (mVar 13) (mCons (mVar 5) mNil)))) mNil))) (sSeq (sIf (mTB (mOp oNotN (mVar 18) (mC (.non)))) (sSeq (sIf (mTB (mOp oNotB (mCall sp_is_degree_plan [] (mCons (mVar 3) (mCons (mVar 5) (mCons (mVar 18) mNil)))) (mC (.bl true)))) (sRet (mC (.bl false))) sNext) (sIf (mNot (mTB (mCall sp_l_like [] (mCons (mCall sp_plan_price [] (mCons (mVar 5) (mCons (mVar 18) mNil))) (mCons (mB oSum (mCons (mLc (mItems (mVar 18)) [29] (gmN 29) mYes (mOp oIx (mVar 5) (mOp oIx (mVar 29) (mC (.int 2))))) mNil)) mNil))))) (sRet (mC (.bl false))) sNext)) sNext) (sSeq (sIf (mTB (mOp oNotB (mCall sp_is_levels [] (mCons (mVar 3) (mCons (mVar 5) (mCons (mVar 19) mNil)))) (mC (.bl true)))) (sRet (mC (.bl false))) sNext) (sSeq (sFor (mRng1 (mC (.int 4))) (gmN 6) (sSeq (sSet 20 (mCall sp_l_bent [] (mCons (mVar 1) (mCons (mIf (mTB (mOp oIsN (mVar 18) (mC (.non)))) (mTup mNil) (mVar 18)) mNil)))) (sSeq (sIf (mNot (mTB (mCall sp_l_like [] (mCons (mCall sp_is_degree_plan [] (mCons (mVar 3) (mCons (mVar 5) (mCons (mVar 20) mNil)))) (mCons (mCall sp_l_is_plan [] (mCons (mVar 13) (mCons (mVar 5) (mCons (mVar 20) mNil)))) mNil))))) (sRet (mC (.bl false))) sNext) (sSeq (sSet 20 (mCall sp_l_bent [] (mCons (mVar 1) (mCons (mIf (mOr (mTB (mOp oIsN (mVar 17) (mC (.non)))) (mTB (mOp oEq (mOp oMod (mVar 6) (mC (.int 2))) (mC (.int 0))))) (mVar 19) (mVar 17)) mNil)))) (sIf (mNot (mTB (mCall sp_l_like [] (mCons (mCall sp_is_levels [] (mCons (mVar 3) (mCons (mVar 5) (mCons (mVar 20) mNil)))) (mCons (mCall sp_l_is_levels [] (mCons (mVar 13) (mCons (mVar 5) (mCons (mVar 20) mNil)))) mNil))))) (sRet (mC (.bl false))) sNext))))) (sSeq (sPar [21, 22] (mCons (mOp oAdd (mC (.int 1)) (mCall sp_l_draw [] (mCons (mVar 1) (mCons (mCall sp_l_pick [] (mCons (mVar 1) (mCons (mLst (mCons (mC (.int 4)) (mCons (mC (.int 12)) (mCons (mC (.int 40)) mNil)))) mNil))) mNil)))) (mCons (mOp oAdd (mC (.int 1)) (mCall sp_l_draw [] (mCons (mVar 1) (mCons (mCall sp_l_pick [] (mCons (mVar 1) (mCons (mLst (mCons (mC (.int 3)) (mCons (mC (.int 12)) (mCons (mC (.int 40)) mNil)))) mNil))) mNil)))) mNil))) (sSeq (sPar [23, 24, 25] (mCons (mCall sp_l_draw [] (mCons (mVar 1) (mCons (mOp oAdd (mC (.int 1)) (mOp oFdiv (mVar 21) (mC (.int 3)))) mNil))) (mCons (mCall sp_l_draw [] (mCons (mVar 1) (mCons (mOp oAdd (mC (.int 1)) (mOp oFdiv (mVar 21) (mC (.int 4)))) mNil))) (mCons (mCall sp_l_draw [] (mCons (mVar 1) (mCons (mOp oAdd (mVar 21) (mC (.int 1))) mNil))) mNil)))) (sSeq (sPar [26, 23] (mCons (mOp oAdd (mC (.int 1)) (mCall sp_l_draw [] (mCons (mVar 1) (mCons (mCall sp_l_pick [] (mCons (mVar 1) (mCons (mLst (mCons (mC (.int 1)) (mCons (mC (.int 2)) (mCons (mC (.int 4)) mNil)))) mNil))) mNil)))) (mCons (mB oMin2 (mCons (mVar 23) (mCons (mOp oSub (mVar 21) (mC (.int 1))) mNil))) mNil))) (sSeq (sSet 7 (mCall sp_l_rhythms [] (mCons (mVar 21) (mCons (mVar 23) (mCons (mVar 24) (mCons (mVar 26) (mCons (mVar 25) (mCons (mVar 22) mNil)))))))) (sSeq (sSet 8 (mLc (mItems (mVar 7)) [29] (gmN 29) mYes (mOp oIx (mVar 29) (mC (.int 2))))) (sSeq (sSet 9 (mLc (mItems (mVar 7)) [29] (gmN 29) (mTB (mOp oEq (mOp oIx (mVar 29) (mC (.int 2))) (mB oMinL (mCons (mVar 8) mNil)))) (mVar 29))) (sSeq (sSet 10 (mIf (mTB (mOp oEq (mVar 7) (mTup mNil))) (mC (.non)) (mOp oIx (mVarO 9) (mC (.int 0))))) (sSeq (sSet 11 (mIf (mTB (mOp oEq (mVar 7) (mTup mNil))) (mC (.non)) (mB oTuple (mCons (mLc (mRng2 (mC (.int 1)) (mVar 22)) [31] (gmN 31) (mTB (mOp oEq (mOp oMod (mVar 31) (mOp oIx (mVar 10) (mC (.int 0)))) (mC (.int 0)))) (mOp oSub (mVar 31) (mC (.int 1)))) mNil)))) (sSeq (sIf (mOr (mNot (mTB (mCall sp_l_like [] (mCons (mCall sp_rhythms [] (mCons (mVar 21) (mCons (mVar 23) (mCons (mVar 24) (mCons (mVar 26) (mCons (mVar 25) (mCons (mVar 22) mNil))))))) (mCons (mVar 7) mNil))))) (mNot (mTB (mCall sp_l_like [] (mCons (mCall sp_cheapest_rhythm [] (mCons (mVar 21) (mCons (mVar 23) (mCons (mVar 24) (mCons (mVar 26) (mCons (mVar 25) (mCons (mVar 22) mNil))))))) (mCons (mVar 10) mNil)))))) (sRet (mC (.bl false))) sNext) (sSeq (sPar [27, 28] (mCons (mCall sp_l_draw [] (mCons (mVar 1) (mCons (mVar 21) mNil))) (mCons (mOp oAdd (mC (.int 1)) (mCall sp_l_draw [] (mCons (mVar 1) (mCons (mOp oAdd (mVar 22) (mC (.int 2))) mNil)))) mNil))) (sSeq (sSet 12 (mB oLen (mCons (mLc (mRng2 (mC (.int 1)) (mVar 22)) [31] (gmN 31) (mTB (mOp oEq (mOp oMod (mVar 31) (mVar 28)) (mC (.int 0)))) (mVar 31)) mNil))) (sSeq (sIf (mNot (mTB (mCall sp_l_like [] (mCons (mCall sp_rhythm_bill [] (mCons (mVar 21) (mCons (mVar 25) (mCons (mVar 27) (mCons (mVar 22) (mCons (mVar 28) mNil)))))) (mCons (mOp oAdd (mOp oMul (mOp oMul (mOp oMul (mVar 12) (mVar 21)) (mVar 21)) (mOp oAdd (mVar 27) (mC (.int 1)))) (mOp oMul (mOp oMul (mOp oSub (mOp oSub (mVar 22) (mC (.int 1))) (mVar 12)) (mVar 25)) (mOp oAdd (mVar 27) (mC (.int 1))))) mNil))))) (sRet (mC (.bl false))) sNext) (sRet (mCall sp_l_like [] (mCons (mCall sp_kept_schedule [] (mCons (mVar 21) (mCons (mVar 23) (mCons (mVar 24) (mCons (mVar 26) (mCons (mVar 25) (mCons (mVar 22) mNil))))))) (mCons (mVar 11) mNil)))))))))))))))))))))))))))))
theorem w_law (T : Tx K mg) (ok_l_heap : List PV → Prop) (sp_l_pick : PM.Spec) (sp_l_counted : PM.Spec) (sp_l_rhythms : PM.Spec) (sp_l_like : PM.Spec) (sp_l_sizes : PM.Spec) (sp_l_draw : PM.Spec) (sp_cheapest_plan : PM.Spec) (sp_least_levels : PM.Spec) (sp_l_own_plan : PM.Spec) (sp_l_own_levels : PM.Spec) (sp_is_levels : PM.Spec) (sp_l_bent : PM.Spec) (sp_kept_schedule : PM.Spec) (sp_is_degree_plan : PM.Spec) (sp_rhythm_bill : PM.Spec) (sp_l_is_plan : PM.Spec) (sp_l_is_levels : PM.Spec) (sp_plan_price : PM.Spec) (sp_rhythms : PM.Spec) (sp_cheapest_rhythm : PM.Spec)
    (F_l_heap : FnOk P w K mg base CX0 1 T.a_l_heap T.d_l_heap p_l_heap (spSrc K ok_l_heap))
    (F_l_pick : FnOk P w K mg base CX0 2 T.a_l_pick T.d_l_pick p_l_pick (spM K .cl sp_l_pick))
    (F_l_counted : FnOk P w K mg base CX0 3 T.a_l_counted T.d_l_counted p_l_counted (spM K .cl sp_l_counted))
    (F_l_rhythms : FnOk P w K mg base CX0 1 T.a_l_rhythms T.d_l_rhythms p_l_rhythms (spM K .cl sp_l_rhythms))
    (F_l_like : FnOk P w K mg base CX0 3 T.a_l_like T.d_l_like p_l_like (spM K .cl sp_l_like))
    (F_l_sizes : FnOk P w K mg base CX0 1 T.a_l_sizes T.d_l_sizes p_l_sizes (spM K .cl sp_l_sizes))
    (F_l_draw : FnOk P w K mg base CX0 1 T.a_l_draw T.d_l_draw p_l_draw (spM K .cl sp_l_draw))
    (F_cheapest_plan : FnOk P w K mg base CX0 4 T.a_cheapest_plan T.d_cheapest_plan p_cheapest_plan (spM K .cl sp_cheapest_plan))
    (F_least_levels : FnOk P w K mg base CX0 4 T.a_least_levels T.d_least_levels p_least_levels (spM K .cl sp_least_levels))
    (F_l_own_plan : FnOk P w K mg base CX0 3 T.a_l_own_plan T.d_l_own_plan p_l_own_plan (spM K .cl sp_l_own_plan))
    (F_l_own_levels : FnOk P w K mg base CX0 2 T.a_l_own_levels T.d_l_own_levels p_l_own_levels (spM K .cl sp_l_own_levels))
    (F_is_levels : FnOk P w K mg base CX0 3 T.a_is_levels T.d_is_levels p_is_levels (spM K .cl sp_is_levels))
    (F_l_bent : FnOk P w K mg base CX0 3 T.a_l_bent T.d_l_bent p_l_bent (spM K .cl sp_l_bent))
    (F_kept_schedule : FnOk P w K mg base CX0 5 T.a_kept_schedule T.d_kept_schedule p_kept_schedule (spM K .cl sp_kept_schedule))
    (F_is_degree_plan : FnOk P w K mg base CX0 4 T.a_is_degree_plan T.d_is_degree_plan p_is_degree_plan (spM K .cl sp_is_degree_plan))
    (F_rhythm_bill : FnOk P w K mg base CX0 2 T.a_rhythm_bill T.d_rhythm_bill p_rhythm_bill (spM K .cl sp_rhythm_bill))
    (F_l_is_plan : FnOk P w K mg base CX0 2 T.a_l_is_plan T.d_l_is_plan p_l_is_plan (spM K .cl sp_l_is_plan))
    (F_l_is_levels : FnOk P w K mg base CX0 2 T.a_l_is_levels T.d_l_is_levels p_l_is_levels (spM K .cl sp_l_is_levels))
    (F_plan_price : FnOk P w K mg base CX0 1 T.a_plan_price T.d_plan_price p_plan_price (spM K .cl sp_plan_price))
    (F_rhythms : FnOk P w K mg base CX0 3 T.a_rhythms T.d_rhythms p_rhythms (spM K .cl sp_rhythms))
    (F_cheapest_rhythm : FnOk P w K mg base CX0 4 T.a_cheapest_rhythm T.d_cheapest_rhythm p_cheapest_rhythm (spM K .cl sp_cheapest_rhythm)) (cdv : Value) (A : Around) (outer : List PySem.Env) (s : Shared) (H : Hp) (E : XK)
    (hr : Room 5 (A.deeper (PyProof.Rows.envOfC "law" (defScope s_law) s.heap.objs.size T.a_law cdv))) :
    ∃ c', PSsm (bodyX P w K mg base n_law "law" s_law T.a_law cdv A outer s H E) ⟨.cl, true, []⟩ (shs 33) c' (defBody s_law) (t_law ok_l_heap sp_l_pick sp_l_counted sp_l_rhythms sp_l_like sp_l_sizes sp_l_draw sp_cheapest_plan sp_least_levels sp_l_own_plan sp_l_own_levels sp_is_levels sp_l_bent sp_kept_schedule sp_is_degree_plan sp_rhythm_bill sp_l_is_plan sp_l_is_levels sp_plan_price sp_rhythms sp_cheapest_rhythm) :=
  ⟨[.sh, .sh, .sh, .sh, .sh, .sh, .sh, .sh, .sh, .sh, .sh, .sh, .sh, .sh, .sh, .sh, .sh, .sh, .sh, .sh, .sh, .sh, .sh, .sh, .sh, .sh, .sh, .sh, .sh, .sh, .sh, .sh, .sh], (sm_cons (sm_src 1 F_l_heap (hr.mono (by decide)) T.m_l_heap T.f_l_heap.kp T.b_l_heap rfl S_law.nd (am_consC (em_var 0) am_nil))
    (sm_cons (sm_set 2 S_law.nd (em_call F_l_pick (hr.mono (by decide)) T.m_l_pick T.f_l_pick.kp T.b_l_pick .nil (fun _ => Rps.nil) (am_consC (em_var 1) (am_consC (PEm.cl (em_lst (am_consC em_int (am_consC em_int (am_consC em_int (am_consC em_int (am_consC em_int (am_consC em_int (am_consC em_int am_nil))))))))) am_nil))))
    (sm_cons (sm_set 3 S_law.nd (em_call F_l_counted (hr.mono (by decide)) T.m_l_counted T.f_l_counted.kp T.b_l_counted .nil (fun _ => Rps.nil) (am_consC (em_var 1) (am_consC (em_var 2) am_nil))))
    (sm_cons (sm_par [13, 14] rfl S_law.nd (xm_cl (em_call F_l_sizes (hr.mono (by decide)) T.m_l_sizes T.f_l_sizes.kp T.b_l_sizes .nil (fun _ => Rps.nil) (am_consC (em_var 3) am_nil)) (xm_cl (em_callB (cr_max rfl) lift_maxL (by rfl) T.z_max PyProof.Rows.boot_max (am_cons (PEm.ow (em_lc (own := [("lot", 32)]) rfl S_law.nd (im_seq (em_var 3)) (blkOk_by (N := n_law) (sc := defScope s_law) (by decide +kernel)) (fun _ _ _ _ _ => (gm_name 32 S_law.nd)) (fun _ _ _ _ _ => tsm_nil) (fun _ _ _ _ _ => (em_callB call_lenA lift_len (by rfl) T.z_len PySem.boot_len (am_cons (PEm.ow (em_var 32)) am_nil))))) am_nil)) xm_nil)))
    (sm_cons (sm_set 4 S_law.nd (em_callB (call_max2 rfl) lift_max2 (by rfl) T.z_max PyProof.Rows.boot_max (am_cons (PEm.ow em_int) (am_cons (PEm.ow (em_op op_plus lift_plus (PEm.ow (em_op op_plus lift_plus (PEm.ow (em_var 14)) (PEm.ow em_int))) (PEm.ow (em_call F_l_pick (hr.mono (by decide)) T.m_l_pick T.f_l_pick.kp T.b_l_pick .nil (fun _ => Rps.nil) (am_consC (em_var 1) (am_consC (PEm.cl (em_lst (am_consC (em_un un_neg lift_neg (PEm.ow em_int)) (am_consC em_int (am_consC em_int (am_consC em_int (am_consC em_int (am_consC em_int (am_consC em_int am_nil))))))))) am_nil)))))) am_nil))))
    (sm_cons (sm_parG [5, 15] rfl (pgs_n S_law.nd (pgs_n S_law.nd pgs_n0)) (xm_cl (PEm.cl (em_lc (own := [("u", 30)]) rfl S_law.nd (im_rng1 T.z_range (PEm.ow (em_var 4))) (blkOk_by (N := n_law) (sc := defScope s_law) (by decide +kernel)) (fun _ _ _ _ _ => (gm_name 30 S_law.nd)) (fun _ _ _ _ _ => tsm_nil) (fun _ _ _ _ _ => (em_call F_l_draw (hr.mono (by decide)) T.m_l_draw T.f_l_draw.kp T.b_l_draw .nil (fun _ => Rps.nil) (am_consC (em_var 1) (am_consC (em_call F_l_pick (hr.mono (by decide)) T.m_l_pick T.f_l_pick.kp T.b_l_pick .nil (fun _ => Rps.nil) (am_consC (em_var 1) (am_consC (PEm.cl (em_lst (am_consC em_int (am_consC em_int (am_consC em_int (am_consC em_int am_nil)))))) am_nil))) am_nil)))))) (xm_cl (em_call F_l_draw (hr.mono (by decide)) T.m_l_draw T.f_l_draw.kp T.b_l_draw .nil (fun _ => Rps.nil) (am_consC (em_var 1) (am_consC em_int am_nil))) xm_nil)))
    (sm_cons (sm_set 5 S_law.nd (em_callTy call_tuple_of lift_tuple (by rfl) T.z_tuple PyProof.Rows.boot_tuple (am_cons (PEm.ow (em_ix (PEm.ow (em_lst (am_consC (PEm.cl (em_callB (call_sortedA rfl) lift_sorted (by rfl) T.z_sorted PyProof.Rows.boot_sorted (am_cons (PEm.ow (em_var 5)) am_nil))) (am_consC (em_rev (PEm.ow (em_callB (call_sortedA rfl) lift_sorted (by rfl) T.z_sorted PyProof.Rows.boot_sorted (am_cons (PEm.ow (em_var 5)) am_nil)))) (am_consC (em_var 5) am_nil))))) (PEm.ow (em_var 15)) (fun _ _ => rfl))) am_nil)))
    (sm_cons (sm_par [16, 17] rfl S_law.nd (xm_cl (em_call F_cheapest_plan (hr.mono (by decide)) T.m_cheapest_plan T.f_cheapest_plan.kp T.b_cheapest_plan .nil (fun _ => Rps.nil) (am_consC (em_var 3) (am_consC (em_var 5) am_nil))) (xm_cl (em_call F_least_levels (hr.mono (by decide)) T.m_least_levels T.f_least_levels.kp T.b_least_levels .nil (fun _ => Rps.nil) (am_consC (em_var 3) (am_consC (em_var 5) am_nil))) xm_nil)))
    (sm_cons (sm_if (c' := [.sh, .sh, .sh, .sh, .sh, .sh, .sh, .sh, .sh, .sh, .sh, .sh, .sh, .sh, .sh, .sh, .sh, .sh, .sh, .sh, .sh, .sh, .sh, .sh, .sh, .sh, .sh, .sh, .sh, .sh, .sh, .sh, .sh]) (tm_cmp op_ge lift_ge (PEm.ow (em_var 14)) (PEm.ow (em_var 4)) (nomark _)) (sm_one (sm_if (c' := [.sh, .sh, .sh, .sh, .sh, .sh, .sh, .sh, .sh, .sh, .sh, .sh, .sh, .sh, .sh, .sh, .sh, .sh, .sh, .sh, .sh, .sh, .sh, .sh, .sh, .sh, .sh, .sh, .sh, .sh, .sh, .sh, .sh]) (PWm.pt (wm_or (tm_cmp op_notN lift_notN (PEm.ow (em_var 16)) (PEm.ow em_non) (nomark _)) (wm_or1 (tm_cmp op_notN lift_notN (PEm.ow (em_var 17)) (PEm.ow em_non) (nomark _))))) (sm_one (sm_ret em_bl)) sm_nil)) (sm_cons (sm_if (c' := [.sh, .sh, .sh, .sh, .sh, .sh, .sh, .sh, .sh, .sh, .sh, .sh, .sh, .sh, .sh, .sh, .sh, .sh, .sh, .sh, .sh, .sh, .sh, .sh, .sh, .sh, .sh, .sh, .sh, .sh, .sh, .sh, .sh]) (PWm.pt (wm_or (tm_not (tm_val (PEm.ow (em_call F_l_is_plan (hr.mono (by decide)) T.m_l_is_plan T.f_l_is_plan.kp T.b_l_is_plan .nil (fun _ => Rps.nil) (am_consC (em_var 13) (am_consC (em_var 5) (am_consC (em_var 16) am_nil))))))) (wm_or1 (tm_not (tm_val (PEm.ow (em_call F_l_is_levels (hr.mono (by decide)) T.m_l_is_levels T.f_l_is_levels.kp T.b_l_is_levels .nil (fun _ => Rps.nil) (am_consC (em_var 13) (am_consC (em_var 5) (am_consC (em_var 17) am_nil)))))))))) (sm_one (sm_ret em_bl)) sm_nil)
    (sm_one (sm_if (c' := [.sh, .sh, .sh, .sh, .sh, .sh, .sh, .sh, .sh, .sh, .sh, .sh, .sh, .sh, .sh, .sh, .sh, .sh, .sh, .sh, .sh, .sh, .sh, .sh, .sh, .sh, .sh, .sh, .sh, .sh, .sh, .sh, .sh]) (PWm.pt (wm_or (tm_cmp (op_neD hr.units) lift_ne (PEm.ow (em_callB (cr_sum rfl) lift_sum (by rfl) T.z_sum PyProof.Rows.boot_sum (am_cons (PEm.ow (em_lc (own := [("row", 29)]) rfl S_law.nd (im_seq (em_var 16)) (blkOk_by (N := n_law) (sc := defScope s_law) (by decide +kernel)) (fun _ _ _ _ _ => (gm_name 29 S_law.nd)) (fun _ _ _ _ _ => tsm_nil) (fun _ _ _ _ _ => (em_ix (PEm.ow (em_var 5)) (PEm.ow (em_ix (PEm.ow (em_var 29)) (PEm.ow em_int) (fun _ _ => rfl))) (fun _ _ => rfl))))) am_nil))) (PEm.ow (em_ix (PEm.ow (em_var 17)) (PEm.ow (em_un un_neg lift_neg (PEm.ow em_int))) (fun _ _ => rfl))) (nomark _)) (wm_or1 (tm_not (tm_val (PEm.ow (em_call F_l_like (hr.mono (by decide)) T.m_l_like T.f_l_like.kp T.b_l_like .nil (fun _ => Rps.nil) (am_consC (em_call F_plan_price (hr.mono (by decide)) T.m_plan_price T.f_plan_price.kp T.b_plan_price .nil (fun _ => Rps.nil) (am_consC (em_var 5) (am_consC (em_var 16) am_nil))) (am_consC (em_ix (PEm.ow (em_var 17)) (PEm.ow (em_un un_neg lift_neg (PEm.ow em_int))) (fun _ _ => rfl)) am_nil))))))))) (sm_one (sm_ret em_bl)) sm_nil))))
    (sm_cons (sm_par [18, 19] rfl S_law.nd (xm_cl (em_call F_l_own_plan (hr.mono (by decide)) T.m_l_own_plan T.f_l_own_plan.kp T.b_l_own_plan .nil (fun _ => Rps.nil) (am_consC (em_var 1) (am_consC (em_var 13) (am_consC (em_var 5) am_nil)))) (xm_cl (em_call F_l_own_levels (hr.mono (by decide)) T.m_l_own_levels T.f_l_own_levels.kp T.b_l_own_levels .nil (fun _ => Rps.nil) (am_consC (em_var 1) (am_consC (em_var 13) (am_consC (em_var 5) am_nil)))) xm_nil)))
    (sm_cons (sm_if (c' := [.sh, .sh, .sh, .sh, .sh, .sh, .sh, .sh, .sh, .sh, .sh, .sh, .sh, .sh, .sh, .sh, .sh, .sh, .sh, .sh, .sh, .sh, .sh, .sh, .sh, .sh, .sh, .sh, .sh, .sh, .sh, .sh, .sh]) (tm_cmp op_notN lift_notN (PEm.ow (em_var 18)) (PEm.ow em_non) (nomark _)) (sm_cons (sm_if (c' := [.sh, .sh, .sh, .sh, .sh, .sh, .sh, .sh, .sh, .sh, .sh, .sh, .sh, .sh, .sh, .sh, .sh, .sh, .sh, .sh, .sh, .sh, .sh, .sh, .sh, .sh, .sh, .sh, .sh, .sh, .sh, .sh, .sh]) (tm_cmp op_notBl lift_notB (PEm.ow (em_call F_is_degree_plan (hr.mono (by decide)) T.m_is_degree_plan T.f_is_degree_plan.kp T.b_is_degree_plan .nil (fun _ => Rps.nil) (am_consC (em_var 3) (am_consC (em_var 5) (am_consC (em_var 18) am_nil))))) (PEm.ow em_bl) (nomark _)) (sm_one (sm_ret em_bl)) sm_nil)
    (sm_one (sm_if (c' := [.sh, .sh, .sh, .sh, .sh, .sh, .sh, .sh, .sh, .sh, .sh, .sh, .sh, .sh, .sh, .sh, .sh, .sh, .sh, .sh, .sh, .sh, .sh, .sh, .sh, .sh, .sh, .sh, .sh, .sh, .sh, .sh, .sh]) (tm_not (tm_val (PEm.ow (em_call F_l_like (hr.mono (by decide)) T.m_l_like T.f_l_like.kp T.b_l_like .nil (fun _ => Rps.nil) (am_consC (em_call F_plan_price (hr.mono (by decide)) T.m_plan_price T.f_plan_price.kp T.b_plan_price .nil (fun _ => Rps.nil) (am_consC (em_var 5) (am_consC (em_var 18) am_nil))) (am_consC (em_callB (cr_sum rfl) lift_sum (by rfl) T.z_sum PyProof.Rows.boot_sum (am_cons (PEm.ow (em_lc (own := [("row", 29)]) rfl S_law.nd (im_seq (em_var 18)) (blkOk_by (N := n_law) (sc := defScope s_law) (by decide +kernel)) (fun _ _ _ _ _ => (gm_name 29 S_law.nd)) (fun _ _ _ _ _ => tsm_nil) (fun _ _ _ _ _ => (em_ix (PEm.ow (em_var 5)) (PEm.ow (em_ix (PEm.ow (em_var 29)) (PEm.ow em_int) (fun _ _ => rfl))) (fun _ _ => rfl))))) am_nil)) am_nil)))))) (sm_one (sm_ret em_bl)) sm_nil))) sm_nil)
    (sm_cons (sm_if (c' := [.sh, .sh, .sh, .sh, .sh, .sh, .sh, .sh, .sh, .sh, .sh, .sh, .sh, .sh, .sh, .sh, .sh, .sh, .sh, .sh, .sh, .sh, .sh, .sh, .sh, .sh, .sh, .sh, .sh, .sh, .sh, .sh, .sh]) (tm_cmp op_notBl lift_notB (PEm.ow (em_call F_is_levels (hr.mono (by decide)) T.m_is_levels T.f_is_levels.kp T.b_is_levels .nil (fun _ => Rps.nil) (am_consC (em_var 3) (am_consC (em_var 5) (am_consC (em_var 19) am_nil))))) (PEm.ow em_bl) (nomark _)) (sm_one (sm_ret em_bl)) sm_nil)
    (sm_cons (sm_for (c := [.sh, .sh, .sh, .sh, .sh, .sh, .sh, .sh, .sh, .sh, .sh, .sh, .sh, .sh, .sh, .sh, .sh, .sh, .sh, .sh, .sh, .sh, .sh, .sh, .sh, .sh, .sh, .sh, .sh, .sh, .sh, .sh, .sh]) .never rfl (im_rng1 T.z_range (PEm.ow em_int)) (gm_name 6 S_law.nd) (sm_cons (sm_set 20 S_law.nd (em_call F_l_bent (hr.mono (by decide)) T.m_l_bent T.f_l_bent.kp T.b_l_bent .nil (fun _ => Rps.nil) (am_consC (em_var 1) (am_consC (em_if (tm_cmp op_isN lift_isN (PEm.ow (em_var 18)) (PEm.ow em_non) (nomark _)) (em_tup am_nil) (em_var 18)) am_nil))))
    (sm_cons (sm_if (c' := [.sh, .sh, .sh, .sh, .sh, .sh, .sh, .sh, .sh, .sh, .sh, .sh, .sh, .sh, .sh, .sh, .sh, .sh, .sh, .sh, .sh, .sh, .sh, .sh, .sh, .sh, .sh, .sh, .sh, .sh, .sh, .sh, .sh]) (tm_not (tm_val (PEm.ow (em_call F_l_like (hr.mono (by decide)) T.m_l_like T.f_l_like.kp T.b_l_like .nil (fun _ => Rps.nil) (am_consC (em_call F_is_degree_plan (hr.mono (by decide)) T.m_is_degree_plan T.f_is_degree_plan.kp T.b_is_degree_plan .nil (fun _ => Rps.nil) (am_consC (em_var 3) (am_consC (em_var 5) (am_consC (em_var 20) am_nil)))) (am_consC (em_call F_l_is_plan (hr.mono (by decide)) T.m_l_is_plan T.f_l_is_plan.kp T.b_l_is_plan .nil (fun _ => Rps.nil) (am_consC (em_var 13) (am_consC (em_var 5) (am_consC (em_var 20) am_nil)))) am_nil)))))) (sm_one (sm_ret em_bl)) sm_nil)
    (sm_cons (sm_set 20 S_law.nd (em_call F_l_bent (hr.mono (by decide)) T.m_l_bent T.f_l_bent.kp T.b_l_bent .nil (fun _ => Rps.nil) (am_consC (em_var 1) (am_consC (em_if (PWm.pt (wm_or (tm_cmp op_isN lift_isN (PEm.ow (em_var 17)) (PEm.ow em_non) (nomark _)) (wm_or1 (tm_cmp (op_eqD hr.units) lift_eq (PEm.ow (em_op op_mod lift_mod (PEm.ow (em_var 6)) (PEm.ow em_int))) (PEm.ow em_int) (nomark _))))) (em_var 19) (em_var 17)) am_nil))))
    (sm_one (sm_if (c' := [.sh, .sh, .sh, .sh, .sh, .sh, .sh, .sh, .sh, .sh, .sh, .sh, .sh, .sh, .sh, .sh, .sh, .sh, .sh, .sh, .sh, .sh, .sh, .sh, .sh, .sh, .sh, .sh, .sh, .sh, .sh, .sh, .sh]) (tm_not (tm_val (PEm.ow (em_call F_l_like (hr.mono (by decide)) T.m_l_like T.f_l_like.kp T.b_l_like .nil (fun _ => Rps.nil) (am_consC (em_call F_is_levels (hr.mono (by decide)) T.m_is_levels T.f_is_levels.kp T.b_is_levels .nil (fun _ => Rps.nil) (am_consC (em_var 3) (am_consC (em_var 5) (am_consC (em_var 20) am_nil)))) (am_consC (em_call F_l_is_levels (hr.mono (by decide)) T.m_l_is_levels T.f_l_is_levels.kp T.b_l_is_levels .nil (fun _ => Rps.nil) (am_consC (em_var 13) (am_consC (em_var 5) (am_consC (em_var 20) am_nil)))) am_nil)))))) (sm_one (sm_ret em_bl)) sm_nil))))) (fun _ e => by cases e))
    (sm_cons (sm_par [21, 22] rfl S_law.nd (xm_cl (em_op op_plus lift_plus (PEm.ow em_int) (PEm.ow (em_call F_l_draw (hr.mono (by decide)) T.m_l_draw T.f_l_draw.kp T.b_l_draw .nil (fun _ => Rps.nil) (am_consC (em_var 1) (am_consC (em_call F_l_pick (hr.mono (by decide)) T.m_l_pick T.f_l_pick.kp T.b_l_pick .nil (fun _ => Rps.nil) (am_consC (em_var 1) (am_consC (PEm.cl (em_lst (am_consC em_int (am_consC em_int (am_consC em_int am_nil))))) am_nil))) am_nil))))) (xm_cl (em_op op_plus lift_plus (PEm.ow em_int) (PEm.ow (em_call F_l_draw (hr.mono (by decide)) T.m_l_draw T.f_l_draw.kp T.b_l_draw .nil (fun _ => Rps.nil) (am_consC (em_var 1) (am_consC (em_call F_l_pick (hr.mono (by decide)) T.m_l_pick T.f_l_pick.kp T.b_l_pick .nil (fun _ => Rps.nil) (am_consC (em_var 1) (am_consC (PEm.cl (em_lst (am_consC em_int (am_consC em_int (am_consC em_int am_nil))))) am_nil))) am_nil))))) xm_nil)))
    (sm_cons (sm_par3 [23, 24, 25] rfl S_law.nd (xm_cl (em_call F_l_draw (hr.mono (by decide)) T.m_l_draw T.f_l_draw.kp T.b_l_draw .nil (fun _ => Rps.nil) (am_consC (em_var 1) (am_consC (em_op op_plus lift_plus (PEm.ow em_int) (PEm.ow (em_op op_fdiv lift_fdiv (PEm.ow (em_var 21)) (PEm.ow em_int)))) am_nil))) (xm_cl (em_call F_l_draw (hr.mono (by decide)) T.m_l_draw T.f_l_draw.kp T.b_l_draw .nil (fun _ => Rps.nil) (am_consC (em_var 1) (am_consC (em_op op_plus lift_plus (PEm.ow em_int) (PEm.ow (em_op op_fdiv lift_fdiv (PEm.ow (em_var 21)) (PEm.ow em_int)))) am_nil))) (xm_cl (em_call F_l_draw (hr.mono (by decide)) T.m_l_draw T.f_l_draw.kp T.b_l_draw .nil (fun _ => Rps.nil) (am_consC (em_var 1) (am_consC (em_op op_plus lift_plus (PEm.ow (em_var 21)) (PEm.ow em_int)) am_nil))) xm_nil))))
    (sm_cons (sm_par [26, 23] rfl S_law.nd (xm_cl (em_op op_plus lift_plus (PEm.ow em_int) (PEm.ow (em_call F_l_draw (hr.mono (by decide)) T.m_l_draw T.f_l_draw.kp T.b_l_draw .nil (fun _ => Rps.nil) (am_consC (em_var 1) (am_consC (em_call F_l_pick (hr.mono (by decide)) T.m_l_pick T.f_l_pick.kp T.b_l_pick .nil (fun _ => Rps.nil) (am_consC (em_var 1) (am_consC (PEm.cl (em_lst (am_consC em_int (am_consC em_int (am_consC em_int am_nil))))) am_nil))) am_nil))))) (xm_cl (em_callB (call_min2 rfl) lift_min2 (by rfl) T.z_min PyProof.Rows.boot_min (am_cons (PEm.ow (em_var 23)) (am_cons (PEm.ow (em_op op_sub lift_sub (PEm.ow (em_var 21)) (PEm.ow em_int))) am_nil))) xm_nil)))
    (sm_cons (sm_set 7 S_law.nd (em_call F_l_rhythms (hr.mono (by decide)) T.m_l_rhythms T.f_l_rhythms.kp T.b_l_rhythms .nil (fun _ => Rps.nil) (am_consC (em_var 21) (am_consC (em_var 23) (am_consC (em_var 24) (am_consC (em_var 26) (am_consC (em_var 25) (am_consC (em_var 22) am_nil))))))))
    (sm_cons (sm_set 8 S_law.nd (PEm.cl (em_lc (own := [("row", 29)]) rfl S_law.nd (im_seq (em_var 7)) (blkOk_by (N := n_law) (sc := defScope s_law) (by decide +kernel)) (fun _ _ _ _ _ => (gm_name 29 S_law.nd)) (fun _ _ _ _ _ => tsm_nil) (fun _ _ _ _ _ => (em_ix (PEm.ow (em_var 29)) (PEm.ow em_int) (fun _ _ => rfl))))))
    (sm_cons (sm_setLc 9 (hsw := sw_true rfl rfl rfl (by decide +kernel)) (own := [("row", 29)]) rfl S_law.nd (im_seq (em_var 7)) (blkOk_by (N := n_law) (sc := defScope s_law) (by decide +kernel)) (fun _ _ _ _ _ => (gm_name 29 S_law.nd)) (fun _ _ _ _ _ => (tsm_one (tm_cmp (op_eqD hr.units) lift_eq (PEm.ow (em_ix (PEm.ow (em_var 29)) (PEm.ow em_int) (fun _ _ => rfl))) (PEm.ow (em_callB (cr_min rfl) lift_minL (by rfl) T.z_min PyProof.Rows.boot_min (am_cons (PEm.ow (em_var 8)) am_nil))) (nomark _)))) (fun _ _ _ _ _ => (em_var 29)))
    (sm_cons (sm_set 10 S_law.nd (em_if (tm_cmp (op_eqD hr.units) lift_eq (PEm.ow (em_var 7)) (PEm.ow (em_tup am_nil)) (nomark _)) em_non (em_ix (em_varO 9) (PEm.ow em_int) (fun _ _ => rfl))))
    (sm_cons (sm_set 11 S_law.nd (em_if (tm_cmp (op_eqD hr.units) lift_eq (PEm.ow (em_var 7)) (PEm.ow (em_tup am_nil)) (nomark _)) em_non (em_callTy call_tuple_of lift_tuple (by rfl) T.z_tuple PyProof.Rows.boot_tuple (am_cons (PEm.ow (em_lc (own := [("at", 31)]) rfl S_law.nd (im_rng2 T.z_range (PEm.ow em_int) (PEm.ow (em_var 22))) (blkOk_by (N := n_law) (sc := defScope s_law) (by decide +kernel)) (fun _ _ _ _ _ => (gm_name 31 S_law.nd)) (fun _ _ _ _ _ => (tsm_one (tm_cmp (op_eqD hr.units) lift_eq (PEm.ow (em_op op_mod lift_mod (PEm.ow (em_var 31)) (PEm.ow (em_ix (PEm.ow (em_var 10)) (PEm.ow em_int) (fun _ _ => rfl))))) (PEm.ow em_int) (nomark _)))) (fun _ _ _ _ _ => (em_op op_sub lift_sub (PEm.ow (em_var 31)) (PEm.ow em_int))))) am_nil))))
    (sm_cons (sm_if (c' := [.sh, .sh, .sh, .sh, .sh, .sh, .sh, .sh, .sh, .ow, .sh, .sh, .sh, .sh, .sh, .sh, .sh, .sh, .sh, .sh, .sh, .sh, .sh, .sh, .sh, .sh, .sh, .sh, .sh, .sh, .sh, .sh, .sh]) (PWm.pt (wm_or (tm_not (tm_val (PEm.ow (em_call F_l_like (hr.mono (by decide)) T.m_l_like T.f_l_like.kp T.b_l_like .nil (fun _ => Rps.nil) (am_consC (em_call F_rhythms (hr.mono (by decide)) T.m_rhythms T.f_rhythms.kp T.b_rhythms .nil (fun _ => Rps.nil) (am_consC (em_var 21) (am_consC (em_var 23) (am_consC (em_var 24) (am_consC (em_var 26) (am_consC (em_var 25) (am_consC (em_var 22) am_nil))))))) (am_consC (em_var 7) am_nil)))))) (wm_or1 (tm_not (tm_val (PEm.ow (em_call F_l_like (hr.mono (by decide)) T.m_l_like T.f_l_like.kp T.b_l_like .nil (fun _ => Rps.nil) (am_consC (em_call F_cheapest_rhythm (hr.mono (by decide)) T.m_cheapest_rhythm T.f_cheapest_rhythm.kp T.b_cheapest_rhythm .nil (fun _ => Rps.nil) (am_consC (em_var 21) (am_consC (em_var 23) (am_consC (em_var 24) (am_consC (em_var 26) (am_consC (em_var 25) (am_consC (em_var 22) am_nil))))))) (am_consC (em_var 10) am_nil))))))))) (sm_one (sm_ret em_bl)) sm_nil)
    (sm_cons (sm_parG [27, 28] rfl (pgs_n S_law.nd (pgs_n S_law.nd pgs_n0)) (xm_cl (em_call F_l_draw (hr.mono (by decide)) T.m_l_draw T.f_l_draw.kp T.b_l_draw .nil (fun _ => Rps.nil) (am_consC (em_var 1) (am_consC (em_var 21) am_nil))) (xm_cl (em_op op_plus lift_plus (PEm.ow em_int) (PEm.ow (em_call F_l_draw (hr.mono (by decide)) T.m_l_draw T.f_l_draw.kp T.b_l_draw .nil (fun _ => Rps.nil) (am_consC (em_var 1) (am_consC (em_op op_plus lift_plus (PEm.ow (em_var 22)) (PEm.ow em_int)) am_nil))))) xm_nil)))
    (sm_cons (sm_set 12 S_law.nd (em_callB call_lenA lift_len (by rfl) T.z_len PySem.boot_len (am_cons (PEm.ow (em_lc (own := [("at", 31)]) rfl S_law.nd (im_rng2 T.z_range (PEm.ow em_int) (PEm.ow (em_var 22))) (blkOk_by (N := n_law) (sc := defScope s_law) (by decide +kernel)) (fun _ _ _ _ _ => (gm_name 31 S_law.nd)) (fun _ _ _ _ _ => (tsm_one (tm_cmp (op_eqD hr.units) lift_eq (PEm.ow (em_op op_mod lift_mod (PEm.ow (em_var 31)) (PEm.ow (em_var 28)))) (PEm.ow em_int) (nomark _)))) (fun _ _ _ _ _ => (em_var 31)))) am_nil)))
    (sm_cons (sm_if (c' := [.sh, .sh, .sh, .sh, .sh, .sh, .sh, .sh, .sh, .ow, .sh, .sh, .sh, .sh, .sh, .sh, .sh, .sh, .sh, .sh, .sh, .sh, .sh, .sh, .sh, .sh, .sh, .sh, .sh, .sh, .sh, .sh, .sh]) (tm_not (tm_val (PEm.ow (em_call F_l_like (hr.mono (by decide)) T.m_l_like T.f_l_like.kp T.b_l_like .nil (fun _ => Rps.nil) (am_consC (em_call F_rhythm_bill (hr.mono (by decide)) T.m_rhythm_bill T.f_rhythm_bill.kp T.b_rhythm_bill .nil (fun _ => Rps.nil) (am_consC (em_var 21) (am_consC (em_var 25) (am_consC (em_var 27) (am_consC (em_var 22) (am_consC (em_var 28) am_nil)))))) (am_consC (em_op op_plus lift_plus (PEm.ow (em_op op_mul lift_mul (PEm.ow (em_op op_mul lift_mul (PEm.ow (em_op op_mul lift_mul (PEm.ow (em_var 12)) (PEm.ow (em_var 21)))) (PEm.ow (em_var 21)))) (PEm.ow (em_op op_plus lift_plus (PEm.ow (em_var 27)) (PEm.ow em_int))))) (PEm.ow (em_op op_mul lift_mul (PEm.ow (em_op op_mul lift_mul (PEm.ow (em_op op_sub lift_sub (PEm.ow (em_op op_sub lift_sub (PEm.ow (em_var 22)) (PEm.ow em_int))) (PEm.ow (em_var 12)))) (PEm.ow (em_var 25)))) (PEm.ow (em_op op_plus lift_plus (PEm.ow (em_var 27)) (PEm.ow em_int)))))) am_nil)))))) (sm_one (sm_ret em_bl)) sm_nil)
    (sm_one (sm_ret (em_call F_l_like (hr.mono (by decide)) T.m_l_like T.f_l_like.kp T.b_l_like .nil (fun _ => Rps.nil) (am_consC (em_call F_kept_schedule (hr.mono (by decide)) T.m_kept_schedule T.f_kept_schedule.kp T.b_kept_schedule .nil (fun _ => Rps.nil) (am_consC (em_var 21) (am_consC (em_var 23) (am_consC (em_var 24) (am_consC (em_var 26) (am_consC (em_var 25) (am_consC (em_var 22) am_nil))))))) (am_consC (em_var 11) am_nil))))))))))))))))))))))))))))))⟩
end
end K46

set_option maxHeartbeats 1000000
namespace K46
open PySem L2 PM
def isInt : PV → Bool
  | .int _ => true
  | _ => false
def isNat : PV → Bool
  | .int i => decide (0 ≤ i)
  | _ => false
def sp_is_integer : PM.Spec := fun ps P => ∃ v, ps = [v] ∧ (pty v).isSome = true ∧ P (.bl (isInt v))
theorem h_is_integer (ps : List PV) (Q : PV → Prop) (h : sp_is_integer ps Q) : t_is_integer { nx := fun _ => nxOf .cl Q, rt := Q } (startE n_is_integer.length ps) := by
  obtain ⟨v, rfl, hv, h⟩ := h
  show t_is_integer _ [some v]
  unfold t_is_integer
  simp only [s_sRet, s_mAndV, s_mOp1, s_mVar0]
  refine oIsi_b known_int hv ⟨_, rfl, ?_⟩
  cases v with
  | int i => exact oIsi_of (P := fun x => oNot x Q) rfl rfl (s_oNot.mpr h)
  | bl b => exact oIsi_of (P := fun x => oNot x Q) rfl rfl (s_oNot.mpr h)
  | non => exact h
  | str _ => exact h
  | tup _ => exact h
  | lst _ => exact h
  | dic _ _ => exact h
  | _ => cases hv
def sp_is_number : PM.Spec := fun ps P => ∃ v, ps = [v, .non] ∧ (pty v).isSome = true ∧ P (.bl (isNat v))
theorem h_is_number (ps : List PV) (Q : PV → Prop) (h : sp_is_number ps Q) : t_is_number sp_is_integer { nx := fun _ => nxOf .cl Q, rt := Q } (startE n_is_number.length ps) := by
  obtain ⟨v, rfl, hv, h⟩ := h
  show t_is_number _ _ [some v, some .non]
  unfold t_is_number
  simp only [s_sRet, s_mAndV, s_mOrV, s_mOp, s_mVar0, s_mVarS, s_mCall, s_mCons, s_mNil, s_mC, List.append_nil]
  refine ⟨v, rfl, hv, _, rfl, ?_⟩
  cases v with
  | int i => 
    show (if true = true then _ else _)
    rw [if_pos rfl]
    simp only [s_oGe, s_oIsN, s_isNon_non]
    refine ⟨_, rfl, ?_⟩
    have e : isNat (.int i) = decide (0 ≤ i) := rfl
    rw [e] at h
    by_cases h0 : 0 ≤ i
    · rw [decide_eq_true h0] at h ⊢
      exact ⟨true, rfl, h⟩
    · rw [decide_eq_false h0] at h ⊢
      exact h
  | _ => exact h
def put (acc : List Int) (x : Int) : List Int := if x ∈ acc then acc else acc ++ [x]
def puts (acc lot : List Int) : List Int := lot.foldl put acc
def keys (lots : List (List Int)) : List Int := lots.foldl puts []
def seg {α : Type} (lots : List α) (a b : Nat) : List α := (lots.take (b + 1)).drop a
theorem nodup_put {acc : List Int} {x : Int} (h : acc.Nodup) : (put acc x).Nodup := by
  unfold put
  by_cases m : x ∈ acc
  · rw [if_pos m]; exact h
  · rw [if_neg m]
    rw [List.nodup_append]
    exact ⟨h, by simp, fun a ha b hb => by rw [List.mem_singleton] at hb; rw [hb]; exact fun z => m (z ▸ ha)⟩
theorem mem_put {acc : List Int} {x y : Int} : y ∈ put acc x ↔ y ∈ acc ∨ y = x := by
  unfold put
  by_cases m : x ∈ acc
  · rw [if_pos m]
    exact ⟨.inl, fun z => z.elim id fun e => e ▸ m⟩
  · rw [if_neg m, List.mem_append, List.mem_singleton]
theorem nodup_puts : ∀ {lot acc : List Int}, acc.Nodup → (puts acc lot).Nodup
  | [], _, h => h
  | x :: lot, acc, h => nodup_puts (lot := lot) (nodup_put (x := x) h)
theorem mem_puts {y : Int} : ∀ {lot acc : List Int}, y ∈ puts acc lot ↔ y ∈ acc ∨ y ∈ lot
  | [], acc => by show y ∈ acc ↔ _; simp
  | x :: lot, acc => by
    show y ∈ puts (put acc x) lot ↔ _
    rw [mem_puts, mem_put, List.mem_cons, or_assoc]
theorem nodup_fold : ∀ {lots : List (List Int)} {acc : List Int}, acc.Nodup → (lots.foldl puts acc).Nodup
  | [], _, h => h
  | l :: lots, acc, h => nodup_fold (lots := lots) (nodup_puts (lot := l) h)
theorem mem_fold {y : Int} : ∀ {lots : List (List Int)} {acc : List Int}, y ∈ lots.foldl puts acc ↔ y ∈ acc ∨ ∃ l ∈ lots, y ∈ l
  | [], _ => by simp
  | l :: lots, acc => by
    show y ∈ lots.foldl puts (puts acc l) ↔ _
    rw [mem_fold, mem_puts]
    constructor
    · rintro ((h | h) | ⟨m, hm, h⟩)
      · exact .inl h
      · exact .inr ⟨l, List.mem_cons_self .., h⟩
      · exact .inr ⟨m, List.mem_cons_of_mem _ hm, h⟩
    · rintro (h | ⟨m, hm, h⟩)
      · exact .inl (.inl h)
      · rcases List.mem_cons.mp hm with e | e
        · subst e; exact .inl (.inr h)
        · exact .inr ⟨m, e, h⟩
theorem nodup_keys (lots : List (List Int)) : (keys lots).Nodup := nodup_fold List.nodup_nil
theorem mem_keys {lots : List (List Int)} {y : Int} : y ∈ keys lots ↔ ∃ l ∈ lots, y ∈ l := by
  unfold keys
  rw [mem_fold]
  simp
theorem len_le : ∀ {a b : List Int}, a.Nodup → (∀ x ∈ a, x ∈ b) → a.length ≤ b.length
  | [], _, _, _ => Nat.zero_le _
  | x :: a, b, h, hs => by
    rw [List.nodup_cons] at h
    have hx := hs x (List.mem_cons_self ..)
    have := len_le (b := b.erase x) h.2 fun y hy => by
      have ne : y ≠ x := fun z => h.1 (z ▸ hy)
      exact (List.mem_erase_of_ne ne).mpr (hs y (List.mem_cons_of_mem _ hy))
    rw [List.length_erase_of_mem hx] at this
    have : 0 < b.length := List.length_pos_of_mem hx
    rw [List.length_cons]
    omega
theorem len_bound {a : List Int} {n : Nat} (h : a.Nodup) (hb : ∀ x ∈ a, 0 ≤ x ∧ x < (n : Int)) : a.length ≤ n := by
  have := len_le (b := (List.range n).map fun (i : Nat) => (i : Int)) h fun x hx => by
    obtain ⟨h0, h1⟩ := hb x hx
    exact List.mem_map.mpr ⟨x.toNat, List.mem_range.mpr (by omega), by omega⟩
  rw [List.length_map, List.length_range] at this
  exact this
abbrev crs (lots : List (List Int)) : PV := .tup (lots.map tI)
structure Good (lots : List (List Int)) : Prop where
  small : lots.length ≤ 100
  lot : ∀ l ∈ lots, l.Nodup ∧ ∀ x ∈ l, 0 ≤ x ∧ x < 24
theorem intKey_inj {a b : Int} : intKey a = intKey b → a = b := fun h => Sum.inl.inj h
theorem nodup_ikeys : ∀ {ks : List Int}, ks.Nodup → (ks.map intKey).Nodup
  | [], _ => List.nodup_nil
  | x :: ks, h => by
    rw [List.nodup_cons] at h
    rw [List.map_cons, List.nodup_cons]
    exact ⟨fun z => by obtain ⟨y, hy, e⟩ := List.mem_map.mp z; exact h.1 (intKey_inj e ▸ hy), nodup_ikeys h.2⟩
theorem kPut_ints {ks : List Int} {x : Int} : kPut (ks.map intKey) (List.replicate ks.length (.bl true)) (.inl x) (.bl true) = .dic ((put ks x).map intKey) (List.replicate (put ks x).length (.bl true)) := by
  unfold kPut put
  by_cases m : x ∈ ks
  · rw [if_pos m]
    cases hk : kAt (ks.map intKey) (.inl x) with
    | none => exact absurd rfl (kAt_none hk (.inl x) (List.mem_map.mpr ⟨x, m, rfl⟩))
    | some i => show PV.dic _ _ = _; rw [List.set_replicate_self]
  · rw [if_neg m]
    cases hk : kAt (ks.map intKey) (.inl x) with
    | none =>
      show PV.dic _ _ = _
      rw [List.map_append, List.length_append, List.length_singleton, ← List.replicate_append_replicate]
      rfl
    | some i =>
      unfold kAt at hk
      obtain ⟨hi, he, _⟩ := List.findIdx?_eq_some_iff_getElem.mp hk
      rw [List.getElem_map] at he
      have e := of_decide_eq_true he
      exact absurd (intKey_inj e ▸ List.getElem_mem _) m
def DEnv (lots : List (List Int)) (a b : Nat) (ks : List Int) (e : PM.Env) : Prop := ks.Nodup ∧ (∀ x ∈ ks, 0 ≤ x ∧ x < 24) ∧ ∃ y4 y5, e = [some (crs lots), some (.int a), some (.int b), some (.dic (ks.map intKey) (List.replicate ks.length (.bl true))), y4, y5]
theorem cut_seg {α : Type} {lots : List α} {a b : Nat} : (lots.drop (HT.sIx lots.length 0 (some (a : Int)))).take (HT.sIx lots.length lots.length (some ((b : Int) + 1)) - HT.sIx lots.length 0 (some (a : Int))) = seg lots a b := by
  rw [HT.sIx_nat, show ((b : Int) + 1) = ((b + 1 : Nat) : Int) by omega, HT.sIx_nat]
  unfold seg
  apply List.ext_getElem?
  intro i
  rw [List.getElem?_take, List.getElem?_drop, List.getElem?_drop, List.getElem?_take]
  by_cases h1 : i < min (b + 1) lots.length - min a lots.length
  · rw [if_pos h1, if_pos (by omega), show min a lots.length = a by omega]
  · rw [if_neg h1]
    by_cases h2 : a + i < b + 1
    · rw [if_pos h2, List.getElem?_eq_none (by omega)]
    · rw [if_neg h2]
def sp_union_of : PM.Spec := fun ps P => ∃ (lots : List (List Int)) (a b : Nat), ps = [crs lots, .int a, .int b] ∧ Good lots ∧ P (tI (isort (keys (seg lots a b))))
theorem seg_mem {α : Type} {lots : List α} {a b : Nat} {l : α} (h : l ∈ seg lots a b) : l ∈ lots := List.mem_of_mem_take (List.mem_of_mem_drop h)
theorem h_union_of (ps : List PV) (Q : PV → Prop) (h : sp_union_of ps Q) : t_union_of { nx := fun _ => nxOf .cl Q, rt := Q } (startE n_union_of.length ps) := by
  obtain ⟨lots, a, b, rfl, hg, h⟩ := h
  show t_union_of _ [some (crs lots), some (.int a), some (.int b), none, none, none]
  unfold t_union_of
  simp only [s_sSeq, s_sSet, s_mC, s_sFor, s_mItems, s_mSl, s_mPart, s_mOp, List.set_cons_succ, List.set_cons_zero, s_mVar0, s_mVarS, s_oAdd, s_oSlT]
  refine ⟨_, rfl, _, rfl, _, rfl, ?_⟩
  rw [cutP_map, cut_seg]
  refine for_fold puts (DEnv lots a b) [] ⟨List.nodup_nil, (fun _ h => by cases h), _, _, rfl⟩ (fun l ks e N hl hE hN => ?_) (fun e hE => ?_)
  · obtain ⟨hn, hr, y4, y5, rfl⟩ := hE
    have hlg := hg.lot l (seg_mem hl)
    rw [s_gmN]
    simp only [List.set_cons_succ, List.set_cons_zero, s_sFor, s_mItems, s_mVar0, s_mVarS]
    refine ⟨_, rfl, ?_⟩
    refine for_fold put (DEnv lots a b) ks ⟨hn, hr, _, _, rfl⟩ (fun x ks e N hx hE hN => ?_) hN
    obtain ⟨hn, hr, y4, y5, rfl⟩ := hE
    rw [s_gmN]
    simp only [List.set_cons_succ, List.set_cons_zero]
    refine ⟨_, _, rfl, ?_⟩
    simp only [s_mVar0, s_mVarS]
    have hl24 := len_bound (n := 24) hn hr
    refine ⟨.inl x, rfl, nodup_ikeys hn, ?_, hN _ ⟨nodup_put hn, fun y hy => ?_, y4, some (.int x), ?_⟩⟩
    · rw [List.length_map]; exact small_line (by omega)
    · rcases mem_put.mp hy with z | z
      · exact hr y z
      · rw [z]; exact hlg.2 x hx
    · rw [kPut_ints]; rfl
  · obtain ⟨hn, hr, y4, y5, rfl⟩ := hE
    have hl24 := len_bound (n := 24) hn hr
    simp only [s_sRet, s_mB, s_mCons, s_mNil, s_mVarO0, s_mVarOS]
    refine ⟨rfl, _, .inr ⟨⟨_, rfl⟩, by omega⟩, ?_⟩
    exact s_oTupleL.mpr h
theorem line {n : Nat} (h : n ≤ 1000000) : n ≤ sizeLine := Nat.le_of_lt (small_line h)
theorem isort_len (ns : List Int) : (isort ns).length = ns.length := (isort_perm ns).length_eq
def cnt (lots : List (List Int)) (a b : Nat) : Nat := (keys (seg lots a b)).length
def sp_pick : PM.Spec := fun ps P => ∃ xs : List PV, ps = [.src, .lst xs] ∧ 0 < xs.length ∧ xs.length ≤ 1000 ∧ ∀ x ∈ xs, P x
/-- as in DrawA -/
def sp_drw : PM.Spec := fun ps P => ∃ many : Int, ps = [.src, .int many] ∧ 0 < many ∧ many < 1073741824 ∧ ∀ r, 0 ≤ r → r < many → P (.int r)
theorem h_l_pick (ps : List PV) (Q : PV → Prop) (h : sp_pick ps Q) : t_l_pick sp_drw { nx := fun _ => nxOf .cl Q, rt := Q } (startE n_l_pick.length ps) := by
  obtain ⟨xs, rfl, h0, hl, h⟩ := h
  show t_l_pick _ _ [some .src, some (.lst xs)]
  unfold t_l_pick
  simp only [s_sRet, s_mOp, s_mB, s_mCall, s_mCons, s_mNil, s_mVar0, s_mVarS, s_oLen, s_plenL]
  refine ⟨_, rfl, _, rfl, by omega, by omega, fun r hr hr2 => ?_⟩
  refine s_oIxL.mpr ?_
  have l : r.toNat < xs.length := by omega
  exact ⟨xs[r.toNat], by rw [atI_nn hr hr2, List.getElem?_eq_getElem l], h _ (List.getElem_mem l)⟩
theorem puts_filter : ∀ {lot acc : List Int}, lot.Nodup → puts acc lot = acc ++ lot.filter fun x => !decide (x ∈ acc)
  | [], acc, _ => by simp [puts]
  | x :: lot, acc, h => by
    rw [List.nodup_cons] at h
    show puts (put acc x) lot = _
    rw [puts_filter h.2, List.filter_cons]
    unfold put
    by_cases m : x ∈ acc
    · rw [if_pos m, decide_eq_true m]; rfl
    · rw [if_neg m, decide_eq_false m]
      show _ = acc ++ x :: _
      rw [List.append_assoc]
      show acc ++ x :: _ = _
      congr 2
      refine List.filter_congr fun y hy => ?_
      have ne : y ≠ x := fun z => h.1 (z ▸ hy)
      simp [ne]
def Lk : Nat → PV → Prop
  | _, .non => True
  | _, .bl _ => True
  | _, .int _ => True
  | n + 1, .tup xs => xs.length ≤ 1000 ∧ ∀ x ∈ xs, Lk n x
  | _, _ => False
def spk : Nat → PM.Spec
  | 0 => fun _ _ => False
  | n + 1 => fun ps P => ∃ v, ps = [v, v] ∧ Lk n v ∧ P (.bl true)
theorem h_l_like (n : Nat) (ps : List PV) (Q : PV → Prop) (h : spk (n + 1) ps Q) : t_l_like (spk n) { nx := fun _ => nxOf .cl Q, rt := Q } (startE n_l_like.length ps) := by
  obtain ⟨v, rfl, hv, h⟩ := h
  show t_l_like _ _ [some v, some v, none, none]
  unfold t_l_like
  try simp only [s_mVar0, s_mVarS, s_mVarO0, s_mVarOS, s_isObj_lst, s_isObj_dic, s_mC, s_mOp, s_mOp1, s_mB, s_mNil, s_mCons, s_mTup, s_mLst, s_mCall, s_mTB, s_mNot, s_mAnd, s_mOr, s_mAndV, s_mOrV, s_mIf, s_mYes, s_mSl, s_mNo, s_mPart, s_mLc, s_mItems, s_mRng1, s_mRng2, s_mEnum, s_mChain, s_seqT, s_seqL, s_sNext, s_sSeq, s_sIf, s_sSet, s_sRet, s_sRetN, s_sBreak, s_sCont, s_sDrop, s_sPar, s_setN0, s_setNS, s_sAsg, s_sApp, s_sAug, s_sFor, s_sSrc, s_gmN, s_gmT, s_gmCons, s_gmNil, s_wipe0, s_wipeS, s_oSub, s_oAddI, s_oAdd, s_oLt, s_oLe, s_oGt, s_oGe, s_oNeg, s_oNot, s_oMul, s_oMulW, s_oMod, s_oFdiv, s_oPow, s_oIsN, s_oNotN, s_oIsB, s_oNotB, s_isNon_int, s_isNon_non, s_isNon_bl, s_isNon_str, s_isNon_tup, s_isNon_lst, s_isNon_dic, s_oEqI, s_oNeI, s_oIxT, s_oIxL, s_oSlT, s_oSlL, s_oRevT, s_oRevL, s_oInt, s_oIntB, s_oAbs, s_oMax2, s_oMin2, s_oLen, s_plenT, s_plenL, s_plenD, s_plenS, s_oTupleL, s_oTupleT, s_oListL, s_oListT, List.set_cons_succ, List.set_cons_zero, List.append_nil, true_and]
  cases v with
  | tup xs =>
    cases n with
    | zero => exact hv.elim
    | succ n =>
      obtain ⟨hl, hx⟩ := hv
      refine oIsi_of (b := true) rfl rfl ⟨_, rfl, ?_⟩
      rw [if_pos rfl]
      refine oIsi_of (b := true) rfl rfl ⟨_, rfl, ?_⟩
      rw [if_pos rfl]
      try simp only [s_mVar0, s_mVarS, s_mVarO0, s_mVarOS, s_isObj_lst, s_isObj_dic, s_mC, s_mOp, s_mOp1, s_mB, s_mNil, s_mCons, s_mTup, s_mLst, s_mCall, s_mTB, s_mNot, s_mAnd, s_mOr, s_mAndV, s_mOrV, s_mIf, s_mYes, s_mSl, s_mNo, s_mPart, s_mLc, s_mItems, s_mRng1, s_mRng2, s_mEnum, s_mChain, s_seqT, s_seqL, s_sNext, s_sSeq, s_sIf, s_sSet, s_sRet, s_sRetN, s_sBreak, s_sCont, s_sDrop, s_sPar, s_setN0, s_setNS, s_sAsg, s_sApp, s_sAug, s_sFor, s_sSrc, s_gmN, s_gmT, s_gmCons, s_gmNil, s_wipe0, s_wipeS, s_oSub, s_oAddI, s_oAdd, s_oLt, s_oLe, s_oGt, s_oGe, s_oNeg, s_oNot, s_oMul, s_oMulW, s_oMod, s_oFdiv, s_oPow, s_oIsN, s_oNotN, s_oIsB, s_oNotB, s_isNon_int, s_isNon_non, s_isNon_bl, s_isNon_str, s_isNon_tup, s_isNon_lst, s_isNon_dic, s_oEqI, s_oNeI, s_oIxT, s_oIxL, s_oSlT, s_oSlL, s_oRevT, s_oRevL, s_oInt, s_oIntB, s_oAbs, s_oMax2, s_oMin2, s_oLen, s_plenT, s_plenL, s_plenD, s_plenS, s_oTupleL, s_oTupleT, s_oListL, s_oListT, List.set_cons_succ, List.set_cons_zero, List.append_nil, true_and]
      refine ⟨_, rfl, _, rfl, _, rfl, ?_⟩
      rw [decide_eq_true rfl, if_pos rfl]
      unfold mZip
      try simp only [s_mVar0, s_mVarS, s_mVarO0, s_mVarOS, s_isObj_lst, s_isObj_dic, s_mC, s_mOp, s_mOp1, s_mB, s_mNil, s_mCons, s_mTup, s_mLst, s_mCall, s_mTB, s_mNot, s_mAnd, s_mOr, s_mAndV, s_mOrV, s_mIf, s_mYes, s_mSl, s_mNo, s_mPart, s_mLc, s_mItems, s_mRng1, s_mRng2, s_mEnum, s_mChain, s_seqT, s_seqL, s_sNext, s_sSeq, s_sIf, s_sSet, s_sRet, s_sRetN, s_sBreak, s_sCont, s_sDrop, s_sPar, s_setN0, s_setNS, s_sAsg, s_sApp, s_sAug, s_sFor, s_sSrc, s_gmN, s_gmT, s_gmCons, s_gmNil, s_wipe0, s_wipeS, s_oSub, s_oAddI, s_oAdd, s_oLt, s_oLe, s_oGt, s_oGe, s_oNeg, s_oNot, s_oMul, s_oMulW, s_oMod, s_oFdiv, s_oPow, s_oIsN, s_oNotN, s_oIsB, s_oNotB, s_isNon_int, s_isNon_non, s_isNon_bl, s_isNon_str, s_isNon_tup, s_isNon_lst, s_isNon_dic, s_oEqI, s_oNeI, s_oIxT, s_oIxL, s_oSlT, s_oSlL, s_oRevT, s_oRevL, s_oInt, s_oIntB, s_oAbs, s_oMax2, s_oMin2, s_oLen, s_plenT, s_plenL, s_plenD, s_plenS, s_oTupleL, s_oTupleT, s_oListL, s_oListT, List.set_cons_succ, List.set_cons_zero, List.append_nil, true_and]
      have e : xs = xs.map id := (List.map_id xs).symm
      show mCompGo _ _ _ _ _ (zipP xs xs) []
      rw [show zipP xs xs = (xs.zip xs).map (fun p => .tup [p.1, p.2]) from by
        conv => lhs; rw [e]
        rw [zipP_map]; rfl]
      refine comp_map (f := fun _ => .bl true) (fun p hp => ⟨[some (.tup xs), some (.tup xs), some p.1, some p.2], fun k hk => ?_, fun Q hQ => hQ, fun Q hQ => ?_⟩) ?_ (oAll_map ?_)
      · exact s_gmT.mpr ⟨rfl, s_gmCons.mpr (s_gmN.mpr (s_gmCons.mpr (s_gmN.mpr (s_gmNil.mpr hk))))⟩
      · try simp only [s_mVar0, s_mVarS, s_mVarO0, s_mVarOS, s_isObj_lst, s_isObj_dic, s_mC, s_mOp, s_mOp1, s_mB, s_mNil, s_mCons, s_mTup, s_mLst, s_mCall, s_mTB, s_mNot, s_mAnd, s_mOr, s_mAndV, s_mOrV, s_mIf, s_mYes, s_mSl, s_mNo, s_mPart, s_mLc, s_mItems, s_mRng1, s_mRng2, s_mEnum, s_mChain, s_seqT, s_seqL, s_sNext, s_sSeq, s_sIf, s_sSet, s_sRet, s_sRetN, s_sBreak, s_sCont, s_sDrop, s_sPar, s_setN0, s_setNS, s_sAsg, s_sApp, s_sAug, s_sFor, s_sSrc, s_gmN, s_gmT, s_gmCons, s_gmNil, s_wipe0, s_wipeS, s_oSub, s_oAddI, s_oAdd, s_oLt, s_oLe, s_oGt, s_oGe, s_oNeg, s_oNot, s_oMul, s_oMulW, s_oMod, s_oFdiv, s_oPow, s_oIsN, s_oNotN, s_oIsB, s_oNotB, s_isNon_int, s_isNon_non, s_isNon_bl, s_isNon_str, s_isNon_tup, s_isNon_lst, s_isNon_dic, s_oEqI, s_oNeI, s_oIxT, s_oIxL, s_oSlT, s_oSlL, s_oRevT, s_oRevL, s_oInt, s_oIntB, s_oAbs, s_oMax2, s_oMin2, s_oLen, s_plenT, s_plenL, s_plenD, s_plenS, s_oTupleL, s_oTupleT, s_oListL, s_oListT, List.set_cons_succ, List.set_cons_zero, List.append_nil, true_and]
        obtain ⟨i, hi, rfl⟩ := List.mem_iff_getElem.mp hp
        rw [List.getElem_zip]
        refine ⟨_, rfl, hx _ (List.getElem_mem _), hQ⟩
      · rw [List.length_zip]; exact line (by omega)
      · rw [List.all_eq_true.mpr fun _ _ => rfl]; exact h
  | non =>
    refine oIsi_of (b := false) rfl rfl ⟨_, rfl, ?_⟩
    rw [if_neg Bool.false_ne_true]
    try simp only [s_mVar0, s_mVarS, s_mVarO0, s_mVarOS, s_isObj_lst, s_isObj_dic, s_mC, s_mOp, s_mOp1, s_mB, s_mNil, s_mCons, s_mTup, s_mLst, s_mCall, s_mTB, s_mNot, s_mAnd, s_mOr, s_mAndV, s_mOrV, s_mIf, s_mYes, s_mSl, s_mNo, s_mPart, s_mLc, s_mItems, s_mRng1, s_mRng2, s_mEnum, s_mChain, s_seqT, s_seqL, s_sNext, s_sSeq, s_sIf, s_sSet, s_sRet, s_sRetN, s_sBreak, s_sCont, s_sDrop, s_sPar, s_setN0, s_setNS, s_sAsg, s_sApp, s_sAug, s_sFor, s_sSrc, s_gmN, s_gmT, s_gmCons, s_gmNil, s_wipe0, s_wipeS, s_oSub, s_oAddI, s_oAdd, s_oLt, s_oLe, s_oGt, s_oGe, s_oNeg, s_oNot, s_oMul, s_oMulW, s_oMod, s_oFdiv, s_oPow, s_oIsN, s_oNotN, s_oIsB, s_oNotB, s_isNon_int, s_isNon_non, s_isNon_bl, s_isNon_str, s_isNon_tup, s_isNon_lst, s_isNon_dic, s_oEqI, s_oNeI, s_oIxT, s_oIxL, s_oSlT, s_oSlL, s_oRevT, s_oRevL, s_oInt, s_oIntB, s_oAbs, s_oMax2, s_oMin2, s_oLen, s_plenT, s_plenL, s_plenD, s_plenS, s_oTupleL, s_oTupleT, s_oListL, s_oListT, List.set_cons_succ, List.set_cons_zero, List.append_nil, true_and]
    exact ⟨_, rfl, h⟩
  | bl b =>
    refine oIsi_of (b := false) rfl rfl ⟨_, rfl, ?_⟩
    rw [if_neg Bool.false_ne_true]
    try simp only [s_mVar0, s_mVarS, s_mVarO0, s_mVarOS, s_isObj_lst, s_isObj_dic, s_mC, s_mOp, s_mOp1, s_mB, s_mNil, s_mCons, s_mTup, s_mLst, s_mCall, s_mTB, s_mNot, s_mAnd, s_mOr, s_mAndV, s_mOrV, s_mIf, s_mYes, s_mSl, s_mNo, s_mPart, s_mLc, s_mItems, s_mRng1, s_mRng2, s_mEnum, s_mChain, s_seqT, s_seqL, s_sNext, s_sSeq, s_sIf, s_sSet, s_sRet, s_sRetN, s_sBreak, s_sCont, s_sDrop, s_sPar, s_setN0, s_setNS, s_sAsg, s_sApp, s_sAug, s_sFor, s_sSrc, s_gmN, s_gmT, s_gmCons, s_gmNil, s_wipe0, s_wipeS, s_oSub, s_oAddI, s_oAdd, s_oLt, s_oLe, s_oGt, s_oGe, s_oNeg, s_oNot, s_oMul, s_oMulW, s_oMod, s_oFdiv, s_oPow, s_oIsN, s_oNotN, s_oIsB, s_oNotB, s_isNon_int, s_isNon_non, s_isNon_bl, s_isNon_str, s_isNon_tup, s_isNon_lst, s_isNon_dic, s_oEqI, s_oNeI, s_oIxT, s_oIxL, s_oSlT, s_oSlL, s_oRevT, s_oRevL, s_oInt, s_oIntB, s_oAbs, s_oMax2, s_oMin2, s_oLen, s_plenT, s_plenL, s_plenD, s_plenS, s_oTupleL, s_oTupleT, s_oListL, s_oListT, List.set_cons_succ, List.set_cons_zero, List.append_nil, true_and]
    refine ⟨_, rfl, ?_⟩
    rw [if_neg Bool.false_ne_true]
    refine oIsi_of (b := true) rfl rfl ⟨_, rfl, ?_⟩
    rw [if_pos rfl]
    refine ⟨b, rfl, ?_⟩
    cases b
    · exact h
    · exact h
  | int i =>
    refine oIsi_of (b := false) rfl rfl ⟨_, rfl, ?_⟩
    rw [if_neg Bool.false_ne_true]
    try simp only [s_mVar0, s_mVarS, s_mVarO0, s_mVarOS, s_isObj_lst, s_isObj_dic, s_mC, s_mOp, s_mOp1, s_mB, s_mNil, s_mCons, s_mTup, s_mLst, s_mCall, s_mTB, s_mNot, s_mAnd, s_mOr, s_mAndV, s_mOrV, s_mIf, s_mYes, s_mSl, s_mNo, s_mPart, s_mLc, s_mItems, s_mRng1, s_mRng2, s_mEnum, s_mChain, s_seqT, s_seqL, s_sNext, s_sSeq, s_sIf, s_sSet, s_sRet, s_sRetN, s_sBreak, s_sCont, s_sDrop, s_sPar, s_setN0, s_setNS, s_sAsg, s_sApp, s_sAug, s_sFor, s_sSrc, s_gmN, s_gmT, s_gmCons, s_gmNil, s_wipe0, s_wipeS, s_oSub, s_oAddI, s_oAdd, s_oLt, s_oLe, s_oGt, s_oGe, s_oNeg, s_oNot, s_oMul, s_oMulW, s_oMod, s_oFdiv, s_oPow, s_oIsN, s_oNotN, s_oIsB, s_oNotB, s_isNon_int, s_isNon_non, s_isNon_bl, s_isNon_str, s_isNon_tup, s_isNon_lst, s_isNon_dic, s_oEqI, s_oNeI, s_oIxT, s_oIxL, s_oSlT, s_oSlL, s_oRevT, s_oRevL, s_oInt, s_oIntB, s_oAbs, s_oMax2, s_oMin2, s_oLen, s_plenT, s_plenL, s_plenD, s_plenS, s_oTupleL, s_oTupleT, s_oListL, s_oListT, List.set_cons_succ, List.set_cons_zero, List.append_nil, true_and]
    refine ⟨_, rfl, ?_⟩
    rw [if_neg Bool.false_ne_true]
    refine oIsi_of (b := false) rfl rfl ⟨_, rfl, ?_⟩
    rw [if_neg Bool.false_ne_true]
    refine oIsi_of (b := true) rfl rfl ⟨_, rfl, ?_⟩
    rw [if_pos rfl]
    refine oIsi_of (b := true) rfl rfl ⟨_, rfl, ?_⟩
    rw [if_pos rfl]
    refine oIsi_of (b := false) (P := fun x => oNot x _) rfl rfl (s_oNot.mpr ⟨_, rfl, ?_⟩)
    simpa using h
  | _ => cases n <;> exact hv.elim
def rng (k : Nat) : List Int := (List.range k).map fun (i : Nat) => (i : Int)
theorem rng_len {k : Nat} : (rng k).length = k := by unfold rng; rw [List.length_map, List.length_range]
theorem mem_rng {k : Nat} {x : Int} : x ∈ rng k ↔ 0 ≤ x ∧ x < k := by
  unfold rng
  rw [List.mem_map]
  constructor
  · rintro ⟨i, hi, rfl⟩
    rw [List.mem_range] at hi
    omega
  · rintro ⟨h0, h1⟩
    exact ⟨x.toNat, List.mem_range.mpr (by omega), by omega⟩
theorem rng_nodup {k : Nat} : (rng k).Nodup := by
  unfold rng
  have : (List.range k).Nodup := List.nodup_range
  rw [List.Nodup, List.pairwise_map]
  exact this.imp fun h z => h (by omega)
theorem rng_get {k i : Nat} (h : i < k) : (rng k)[i]? = some (i : Int) := by
  unfold rng
  rw [List.getElem?_map, List.getElem?_range h]; rfl
theorem rngP_rng {k : Nat} : rngP 0 k = (rng k).map PV.int := by
  unfold rng
  rw [rngP_map, List.map_map]
  exact List.map_congr_left fun i _ => by show PV.int (0 + (i : Int)) = PV.int (i : Int); rw [Int.zero_add]
theorem perm_pop {α : Type} {l m : List α} {n : Nat} (h : n < l.length) : (l.eraseIdx n ++ (m ++ [l[n]])).Perm (l ++ m) := by
  have e : l = l.take n ++ l[n] :: l.drop (n + 1) := by
    rw [← List.drop_eq_getElem_cons h, List.take_append_drop]
  have e2 : l.eraseIdx n = l.take n ++ l.drop (n + 1) := List.eraseIdx_eq_take_drop_succ ..
  rw [e2]
  generalize l[n] = x at e ⊢
  have p1 : (l.take n ++ l.drop (n + 1) ++ (m ++ [x])).Perm (l.take n ++ l.drop (n + 1) ++ (x :: m)) := List.Perm.append_left _ (List.perm_append_singleton x m)
  refine p1.trans ?_
  conv => rhs; rw [e]
  rw [List.append_assoc, List.append_assoc]
  refine List.Perm.append_left _ ?_
  exact List.perm_middle
theorem erase_map {α β : Type} {f : α → β} {l : List α} {n : Nat} : (l.map f).eraseIdx n = (l.eraseIdx n).map f := by
  rw [List.eraseIdx_eq_take_drop_succ, List.eraseIdx_eq_take_drop_succ, List.map_append, List.map_take, List.map_drop]
theorem strict_of {xs : List Int} (h : xs.Pairwise (· ≤ ·)) (n : xs.Nodup) : xs.Pairwise (· < ·) :=
  (h.and n).imp fun ⟨a, b⟩ => by omega
def sp_some : PM.Spec := fun ps P => ∃ (k m : Nat), ps = [.src, lI (rng k), .int m] ∧ m ≤ k ∧ k ≤ 1000 ∧ ∀ ns : List Int, ns.length = m → ns.Pairwise (· < ·) → (∀ x ∈ ns, 0 ≤ x ∧ x < k) → P (tI ns)
theorem h_l_some (ps : List PV) (Q : PV → Prop) (h : sp_some ps Q) : t_l_some sp_drw { nx := fun _ => nxOf .cl Q, rt := Q } (startE n_l_some.length ps) := by
  obtain ⟨k, m, rfl, hm, hk, h⟩ := h
  show t_l_some _ _ [some .src, some (lI (rng k)), some (.int m), none, none, none, none]
  unfold t_l_some
  try simp only [s_mVar0, s_mVarS, s_mVarO0, s_mVarOS, s_isObj_lst, s_isObj_dic, s_mC, s_mOp, s_mOp1, s_mB, s_mNil, s_mCons, s_mTup, s_mLst, s_mCall, s_mTB, s_mNot, s_mAnd, s_mOr, s_mAndV, s_mOrV, s_mIf, s_mYes, s_mSl, s_mNo, s_mPart, s_mLc, s_mItems, s_mRng1, s_mRng2, s_mEnum, s_mChain, s_seqT, s_seqL, s_sNext, s_sSeq, s_sIf, s_sSet, s_sRet, s_sRetN, s_sBreak, s_sCont, s_sDrop, s_sPar, s_setN0, s_setNS, s_sAsg, s_sApp, s_sAug, s_sFor, s_sSrc, s_gmN, s_gmT, s_gmCons, s_gmNil, s_wipe0, s_wipeS, s_oSub, s_oAddI, s_oAdd, s_oLt, s_oLe, s_oGt, s_oGe, s_oNeg, s_oNot, s_oMul, s_oMulW, s_oMod, s_oFdiv, s_oPow, s_oIsN, s_oNotN, s_oIsB, s_oNotB, s_isNon_int, s_isNon_non, s_isNon_bl, s_isNon_str, s_isNon_tup, s_isNon_lst, s_isNon_dic, s_oEqI, s_oNeI, s_oIxT, s_oIxL, s_oSlT, s_oSlL, s_oRevT, s_oRevL, s_oInt, s_oIntB, s_oAbs, s_oMax2, s_oMin2, s_oLen, s_plenT, s_plenL, s_plenD, s_plenS, s_oTupleL, s_oTupleT, s_oListL, s_oListT, List.set_cons_succ, List.set_cons_zero, List.append_nil, true_and]
  refine ⟨_, rfl, _, rfl, ?_, ?_⟩
  · rw [List.length_map, rng_len]; omega
  rw [List.length_map, rng_len, Int.toNat_natCast, rngP_rng]
  refine comp_map (f := .int) (fun x hx => ⟨_, fun k hk => s_gmN.mpr hk, fun Q hQ => hQ, fun Q hQ => ?_⟩) (by rw [rng_len]; exact line (by omega)) ?_
  · show mVar 6 [some .src, some (lI (rng k)), some (.int m), none, none, none, some (.int x)] Q
    try simp only [s_mVar0, s_mVarS, s_mVarO0, s_mVarOS, s_isObj_lst, s_isObj_dic, s_mC, s_mOp, s_mOp1, s_mB, s_mNil, s_mCons, s_mTup, s_mLst, s_mCall, s_mTB, s_mNot, s_mAnd, s_mOr, s_mAndV, s_mOrV, s_mIf, s_mYes, s_mSl, s_mNo, s_mPart, s_mLc, s_mItems, s_mRng1, s_mRng2, s_mEnum, s_mChain, s_seqT, s_seqL, s_sNext, s_sSeq, s_sIf, s_sSet, s_sRet, s_sRetN, s_sBreak, s_sCont, s_sDrop, s_sPar, s_setN0, s_setNS, s_sAsg, s_sApp, s_sAug, s_sFor, s_sSrc, s_gmN, s_gmT, s_gmCons, s_gmNil, s_wipe0, s_wipeS, s_oSub, s_oAddI, s_oAdd, s_oLt, s_oLe, s_oGt, s_oGe, s_oNeg, s_oNot, s_oMul, s_oMulW, s_oMod, s_oFdiv, s_oPow, s_oIsN, s_oNotN, s_oIsB, s_oNotB, s_isNon_int, s_isNon_non, s_isNon_bl, s_isNon_str, s_isNon_tup, s_isNon_lst, s_isNon_dic, s_oEqI, s_oNeI, s_oIxT, s_oIxL, s_oSlT, s_oSlL, s_oRevT, s_oRevL, s_oInt, s_oIntB, s_oAbs, s_oMax2, s_oMin2, s_oLen, s_plenT, s_plenL, s_plenD, s_plenS, s_oTupleL, s_oTupleT, s_oListL, s_oListT, List.set_cons_succ, List.set_cons_zero, List.append_nil, true_and]; exact hQ
  refine ⟨Nat.zero_le _, _, rfl, by omega, ?_⟩
  rw [Int.toNat_natCast, rngP_rng]
  refine for_inv (fun i e => i ≤ m ∧ ∃ (left found : List Int) (y3 y6 : Option PV), (left ++ found).Perm (rng k) ∧ found.length = i ∧ e = [some .src, some (lI (rng k)), some (.int m), y3, some (lI left), some (lI found), y6]) ⟨Nat.zero_le _, rng k, [], none, none, by rw [List.append_nil], rfl, rfl⟩ (fun i x e N hx hE hN => ?_) (fun e hE => ?_)
  · obtain ⟨hi, left, found, y3, y6, hp, hf, rfl⟩ := hE
    have him : i < m := by have := (List.getElem?_eq_some_iff.mp hx).1; rw [rng_len] at this; exact this
    have hlen : left.length + found.length = k := by rw [← List.length_append, hp.length_eq, rng_len]
    rw [s_gmN]
    refine ⟨_, _, rfl, rfl, ?_⟩
    try simp only [s_mVar0, s_mVarS, s_mVarO0, s_mVarOS, s_isObj_lst, s_isObj_dic, s_mC, s_mOp, s_mOp1, s_mB, s_mNil, s_mCons, s_mTup, s_mLst, s_mCall, s_mTB, s_mNot, s_mAnd, s_mOr, s_mAndV, s_mOrV, s_mIf, s_mYes, s_mSl, s_mNo, s_mPart, s_mLc, s_mItems, s_mRng1, s_mRng2, s_mEnum, s_mChain, s_seqT, s_seqL, s_sNext, s_sSeq, s_sIf, s_sSet, s_sRet, s_sRetN, s_sBreak, s_sCont, s_sDrop, s_sPar, s_setN0, s_setNS, s_sAsg, s_sApp, s_sAug, s_sFor, s_sSrc, s_gmN, s_gmT, s_gmCons, s_gmNil, s_wipe0, s_wipeS, s_oSub, s_oAddI, s_oAdd, s_oLt, s_oLe, s_oGt, s_oGe, s_oNeg, s_oNot, s_oMul, s_oMulW, s_oMod, s_oFdiv, s_oPow, s_oIsN, s_oNotN, s_oIsB, s_oNotB, s_isNon_int, s_isNon_non, s_isNon_bl, s_isNon_str, s_isNon_tup, s_isNon_lst, s_isNon_dic, s_oEqI, s_oNeI, s_oIxT, s_oIxL, s_oSlT, s_oSlL, s_oRevT, s_oRevL, s_oInt, s_oIntB, s_oAbs, s_oMax2, s_oMin2, s_oLen, s_plenT, s_plenL, s_plenD, s_plenS, s_oTupleL, s_oTupleT, s_oListL, s_oListT, List.set_cons_succ, List.set_cons_zero, List.append_nil, true_and]
    refine ⟨_, rfl, _, rfl, ?_, ?_, fun r hr hr2 => ?_⟩
    · rw [List.length_map]; omega
    · rw [List.length_map]; omega
    rw [List.length_map] at hr2
    have hn : r.toNat < left.length := by omega
    refine ⟨r, r.toNat, .int left[r.toNat], rfl, by omega, ?_, ?_, ?_, ?_⟩
    · rw [List.length_map]; unfold ixN; rw [if_pos hr, if_pos hr2]
    · rw [List.getElem?_map, List.getElem?_eq_getElem hn]; rfl
    · rw [List.length_map]; exact small_line (by omega)
    · refine hN _ ⟨him, left.eraseIdx r.toNat, found ++ [left[r.toNat]], some (.int x), y6, (perm_pop hn).trans hp, by rw [List.length_append, hf]; rfl, ?_⟩
      try simp only [List.set_cons_succ, List.set_cons_zero]
      rw [erase_map, show List.map PV.int found ++ [PV.int left[r.toNat]] = List.map PV.int (found ++ [left[r.toNat]]) from by rw [List.map_append]; rfl]
  · obtain ⟨hi, left, found, y3, y6, hp, hf, rfl⟩ := hE
    rw [rng_len] at hf
    try simp only [s_mVar0, s_mVarS, s_mVarO0, s_mVarOS, s_isObj_lst, s_isObj_dic, s_mC, s_mOp, s_mOp1, s_mB, s_mNil, s_mCons, s_mTup, s_mLst, s_mCall, s_mTB, s_mNot, s_mAnd, s_mOr, s_mAndV, s_mOrV, s_mIf, s_mYes, s_mSl, s_mNo, s_mPart, s_mLc, s_mItems, s_mRng1, s_mRng2, s_mEnum, s_mChain, s_seqT, s_seqL, s_sNext, s_sSeq, s_sIf, s_sSet, s_sRet, s_sRetN, s_sBreak, s_sCont, s_sDrop, s_sPar, s_setN0, s_setNS, s_sAsg, s_sApp, s_sAug, s_sFor, s_sSrc, s_gmN, s_gmT, s_gmCons, s_gmNil, s_wipe0, s_wipeS, s_oSub, s_oAddI, s_oAdd, s_oLt, s_oLe, s_oGt, s_oGe, s_oNeg, s_oNot, s_oMul, s_oMulW, s_oMod, s_oFdiv, s_oPow, s_oIsN, s_oNotN, s_oIsB, s_oNotB, s_isNon_int, s_isNon_non, s_isNon_bl, s_isNon_str, s_isNon_tup, s_isNon_lst, s_isNon_dic, s_oEqI, s_oNeI, s_oIxT, s_oIxL, s_oSlT, s_oSlL, s_oRevT, s_oRevL, s_oInt, s_oIntB, s_oAbs, s_oMax2, s_oMin2, s_oLen, s_plenT, s_plenL, s_plenD, s_plenS, s_oTupleL, s_oTupleT, s_oListL, s_oListT, List.set_cons_succ, List.set_cons_zero, List.append_nil, true_and]
    have hnd : (left ++ found).Nodup := hp.nodup_iff.mpr rng_nodup
    have hfn : found.Nodup := (List.nodup_append.mp hnd).2.1
    have hsn : (isort found).Nodup := (isort_perm found).nodup_iff.mpr hfn
    have hmem : ∀ x ∈ isort found, 0 ≤ x ∧ x < k := fun x hx => mem_rng.mp (hp.mem_iff.mp (List.mem_append_right _ ((isort_perm found).mem_iff.mp hx)))
    refine ⟨found, .inl rfl, _, rfl, ?_⟩
    refine comp_map (f := .int) (fun x hx => ⟨_, fun k hk => s_gmN.mpr hk, fun Q hQ => hQ, fun Q hQ => ?_⟩) (by rw [isort_len, hf]; exact line (by omega)) ?_
    · obtain ⟨h0, h1⟩ := hmem x hx
      show mOp oIx (mVar 1) (mVar 6) [some .src, some (lI (rng k)), some (.int m), y3, some (lI left), some (lI found), some (.int x)] Q
      try simp only [s_mVar0, s_mVarS, s_mVarO0, s_mVarOS, s_isObj_lst, s_isObj_dic, s_mC, s_mOp, s_mOp1, s_mB, s_mNil, s_mCons, s_mTup, s_mLst, s_mCall, s_mTB, s_mNot, s_mAnd, s_mOr, s_mAndV, s_mOrV, s_mIf, s_mYes, s_mSl, s_mNo, s_mPart, s_mLc, s_mItems, s_mRng1, s_mRng2, s_mEnum, s_mChain, s_seqT, s_seqL, s_sNext, s_sSeq, s_sIf, s_sSet, s_sRet, s_sRetN, s_sBreak, s_sCont, s_sDrop, s_sPar, s_setN0, s_setNS, s_sAsg, s_sApp, s_sAug, s_sFor, s_sSrc, s_gmN, s_gmT, s_gmCons, s_gmNil, s_wipe0, s_wipeS, s_oSub, s_oAddI, s_oAdd, s_oLt, s_oLe, s_oGt, s_oGe, s_oNeg, s_oNot, s_oMul, s_oMulW, s_oMod, s_oFdiv, s_oPow, s_oIsN, s_oNotN, s_oIsB, s_oNotB, s_isNon_int, s_isNon_non, s_isNon_bl, s_isNon_str, s_isNon_tup, s_isNon_lst, s_isNon_dic, s_oEqI, s_oNeI, s_oIxT, s_oIxL, s_oSlT, s_oSlL, s_oRevT, s_oRevL, s_oInt, s_oIntB, s_oAbs, s_oMax2, s_oMin2, s_oLen, s_plenT, s_plenL, s_plenD, s_plenS, s_oTupleL, s_oTupleT, s_oListL, s_oListT, List.set_cons_succ, List.set_cons_zero, List.append_nil, true_and]
      refine ⟨.int x, ?_, hQ⟩
      rw [atI_map, atI_nn h0 (by rw [rng_len]; exact h1), rng_get (by omega)]
      show some (PV.int (x.toNat : Int)) = _
      rw [Int.toNat_of_nonneg h0]
    · refine s_oTupleL.mpr (h _ (by rw [isort_len, hf]) (strict_of (isort_sorted found) hsn) hmem)
def sp_l_counted : PM.Spec := fun ps P => ∃ (n : Nat), ps = [.src, .int n] ∧ n ≤ 100 ∧ ∀ lots, Good lots → lots.length = n → P (crs lots)
theorem h_l_counted (ps : List PV) (Q : PV → Prop) (h : sp_l_counted ps Q) : t_l_counted sp_pick sp_some sp_drw { nx := fun _ => nxOf .cl Q, rt := Q } (startE n_l_counted.length ps) := by
  obtain ⟨n, rfl, hn, h⟩ := h
  show t_l_counted _ _ _ _ [some .src, some (.int n), none, none, none, none, none, none]
  unfold t_l_counted
  try simp only [s_mVar0, s_mVarS, s_mVarO0, s_mVarOS, s_isObj_lst, s_isObj_dic, s_mC, s_mOp, s_mOp1, s_mB, s_mNil, s_mCons, s_mTup, s_mLst, s_mCall, s_mTB, s_mNot, s_mAnd, s_mOr, s_mAndV, s_mOrV, s_mIf, s_mYes, s_mSl, s_mNo, s_mPart, s_mLc, s_mItems, s_mRng1, s_mRng2, s_mEnum, s_mChain, s_seqT, s_seqL, s_sNext, s_sSeq, s_sIf, s_sSet, s_sRet, s_sRetN, s_sBreak, s_sCont, s_sDrop, s_sPar, s_setN0, s_setNS, s_sAsg, s_sApp, s_sAug, s_sFor, s_sSrc, s_gmN, s_gmT, s_gmCons, s_gmNil, s_wipe0, s_wipeS, s_oSub, s_oAddI, s_oAdd, s_oLt, s_oLe, s_oGt, s_oGe, s_oNeg, s_oNot, s_oMul, s_oMulW, s_oMod, s_oFdiv, s_oPow, s_oIsN, s_oNotN, s_oIsB, s_oNotB, s_isNon_int, s_isNon_non, s_isNon_bl, s_isNon_str, s_isNon_tup, s_isNon_lst, s_isNon_dic, s_oEqI, s_oNeI, s_oIxT, s_oIxL, s_oSlT, s_oSlL, s_oRevT, s_oRevL, s_oInt, s_oIntB, s_oAbs, s_oMax2, s_oMin2, s_oLen, s_plenT, s_plenL, s_plenD, s_plenS, s_oTupleL, s_oTupleT, s_oListL, s_oListT, List.set_cons_succ, List.set_cons_zero, List.append_nil, true_and]
  refine ⟨line (by simp), _, rfl, by simp, by simp, ?_⟩
  intro x hx
  obtain ⟨many, rfl, m0, m24⟩ : ∃ k : Nat, x = .int k ∧ 0 < k ∧ k ≤ 24 := by
    simp at hx
    rcases hx with rfl | rfl | rfl | rfl
    · exact ⟨2, rfl, by decide, by decide⟩
    · exact ⟨4, rfl, by decide, by decide⟩
    · exact ⟨6, rfl, by decide, by decide⟩
    · exact ⟨12, rfl, by decide, by decide⟩
  refine ⟨_, rfl, by omega, ?_⟩
  rw [Int.toNat_natCast, rngP_rng]
  refine comp_map (f := .int) (fun x hx => ⟨_, fun k hk => s_gmN.mpr hk, fun Q hQ => hQ, fun Q hQ => ?_⟩) (by rw [rng_len]; exact line (by omega)) ?_
  · show mVar 7 [some .src, some (.int n), some (.int many), none, none, none, none, some (.int x)] Q
    try simp only [s_mVar0, s_mVarS, s_mVarO0, s_mVarOS, s_isObj_lst, s_isObj_dic, s_mC, s_mOp, s_mOp1, s_mB, s_mNil, s_mCons, s_mTup, s_mLst, s_mCall, s_mTB, s_mNot, s_mAnd, s_mOr, s_mAndV, s_mOrV, s_mIf, s_mYes, s_mSl, s_mNo, s_mPart, s_mLc, s_mItems, s_mRng1, s_mRng2, s_mEnum, s_mChain, s_seqT, s_seqL, s_sNext, s_sSeq, s_sIf, s_sSet, s_sRet, s_sRetN, s_sBreak, s_sCont, s_sDrop, s_sPar, s_setN0, s_setNS, s_sAsg, s_sApp, s_sAug, s_sFor, s_sSrc, s_gmN, s_gmT, s_gmCons, s_gmNil, s_wipe0, s_wipeS, s_oSub, s_oAddI, s_oAdd, s_oLt, s_oLe, s_oGt, s_oGe, s_oNeg, s_oNot, s_oMul, s_oMulW, s_oMod, s_oFdiv, s_oPow, s_oIsN, s_oNotN, s_oIsB, s_oNotB, s_isNon_int, s_isNon_non, s_isNon_bl, s_isNon_str, s_isNon_tup, s_isNon_lst, s_isNon_dic, s_oEqI, s_oNeI, s_oIxT, s_oIxL, s_oSlT, s_oSlL, s_oRevT, s_oRevL, s_oInt, s_oIntB, s_oAbs, s_oMax2, s_oMin2, s_oLen, s_plenT, s_plenL, s_plenD, s_plenS, s_oTupleL, s_oTupleT, s_oListL, s_oListT, List.set_cons_succ, List.set_cons_zero, List.append_nil, true_and]; exact hQ
  refine ⟨Nat.zero_le _, ?_⟩
  refine ⟨fun k e => ∃ (ls : List (List Int)) (y5 y6 y7 : Option PV), (∀ l ∈ ls, l.Nodup ∧ ∀ x ∈ l, 0 ≤ x ∧ x < 24) ∧ ls.length ≤ n + 5 ∧ k = n - ls.length ∧ e = [some .src, some (.int n), some (.int many), some (lI (rng many)), some (.lst (ls.map tI)), y5, y6, y7], ⟨n, [], none, none, none, (fun _ h => by cases h), by simp, by simp, rfl⟩, ?_⟩
  rintro k e ⟨ls, y5, y6, y7, hls, hlen, rfl, rfl⟩
  try simp only [s_mVar0, s_mVarS, s_mVarO0, s_mVarOS, s_isObj_lst, s_isObj_dic, s_mC, s_mOp, s_mOp1, s_mB, s_mNil, s_mCons, s_mTup, s_mLst, s_mCall, s_mTB, s_mNot, s_mAnd, s_mOr, s_mAndV, s_mOrV, s_mIf, s_mYes, s_mSl, s_mNo, s_mPart, s_mLc, s_mItems, s_mRng1, s_mRng2, s_mEnum, s_mChain, s_seqT, s_seqL, s_sNext, s_sSeq, s_sIf, s_sSet, s_sRet, s_sRetN, s_sBreak, s_sCont, s_sDrop, s_sPar, s_setN0, s_setNS, s_sAsg, s_sApp, s_sAug, s_sFor, s_sSrc, s_gmN, s_gmT, s_gmCons, s_gmNil, s_wipe0, s_wipeS, s_oSub, s_oAddI, s_oAdd, s_oLt, s_oLe, s_oGt, s_oGe, s_oNeg, s_oNot, s_oMul, s_oMulW, s_oMod, s_oFdiv, s_oPow, s_oIsN, s_oNotN, s_oIsB, s_oNotB, s_isNon_int, s_isNon_non, s_isNon_bl, s_isNon_str, s_isNon_tup, s_isNon_lst, s_isNon_dic, s_oEqI, s_oNeI, s_oIxT, s_oIxL, s_oSlT, s_oSlL, s_oRevT, s_oRevL, s_oInt, s_oIntB, s_oAbs, s_oMax2, s_oMin2, s_oLen, s_plenT, s_plenL, s_plenD, s_plenS, s_oTupleL, s_oTupleT, s_oListL, s_oListT, List.set_cons_succ, List.set_cons_zero, List.append_nil, true_and]
  refine ⟨_, rfl, _, rfl, ?_⟩
  rw [List.length_map]
  by_cases hc : (ls.length : Int) < n
  · rw [decide_eq_true hc, if_pos rfl]
    try simp only [s_mVar0, s_mVarS, s_mVarO0, s_mVarOS, s_isObj_lst, s_isObj_dic, s_mC, s_mOp, s_mOp1, s_mB, s_mNil, s_mCons, s_mTup, s_mLst, s_mCall, s_mTB, s_mNot, s_mAnd, s_mOr, s_mAndV, s_mOrV, s_mIf, s_mYes, s_mSl, s_mNo, s_mPart, s_mLc, s_mItems, s_mRng1, s_mRng2, s_mEnum, s_mChain, s_seqT, s_seqL, s_sNext, s_sSeq, s_sIf, s_sSet, s_sRet, s_sRetN, s_sBreak, s_sCont, s_sDrop, s_sPar, s_setN0, s_setNS, s_sAsg, s_sApp, s_sAug, s_sFor, s_sSrc, s_gmN, s_gmT, s_gmCons, s_gmNil, s_wipe0, s_wipeS, s_oSub, s_oAddI, s_oAdd, s_oLt, s_oLe, s_oGt, s_oGe, s_oNeg, s_oNot, s_oMul, s_oMulW, s_oMod, s_oFdiv, s_oPow, s_oIsN, s_oNotN, s_oIsB, s_oNotB, s_isNon_int, s_isNon_non, s_isNon_bl, s_isNon_str, s_isNon_tup, s_isNon_lst, s_isNon_dic, s_oEqI, s_oNeI, s_oIxT, s_oIxL, s_oSlT, s_oSlL, s_oRevT, s_oRevL, s_oInt, s_oIntB, s_oAbs, s_oMax2, s_oMin2, s_oLen, s_plenT, s_plenL, s_plenD, s_plenS, s_oTupleL, s_oTupleT, s_oListL, s_oListT, List.set_cons_succ, List.set_cons_zero, List.append_nil, true_and]
    refine ⟨line (by simp), _, rfl, by simp, by simp, fun x hx => ?_⟩
    obtain ⟨pk, rfl, p1⟩ : ∃ pk : Nat, x = .int pk ∧ 0 < pk := by
      simp at hx
      rcases hx with rfl | rfl | rfl | rfl
      · exact ⟨1, rfl, by decide⟩
      · exact ⟨2, rfl, by decide⟩
      · exact ⟨3, rfl, by decide⟩
      · exact ⟨5, rfl, by decide⟩
    refine s_oMin2.mpr (s_oAdd.mpr ?_)
    obtain ⟨q, eq, q0, qm⟩ : ∃ q : Nat, (if (pk : Int) < many then (pk : Int) else many) = q ∧ 0 < q ∧ q ≤ many := by
      by_cases z : (pk : Int) < many
      · exact ⟨pk, if_pos z, p1, by omega⟩
      · exact ⟨many, if_neg z, m0, Nat.le_refl _⟩
    rw [eq]
    refine ⟨_, rfl, by omega, by omega, fun r hr hr2 => ⟨many, r.toNat, by rw [Int.toNat_of_nonneg hr], by omega, by omega, fun lot hll hp hb => ?_⟩⟩
    have hlot : lot.Nodup ∧ ∀ x ∈ lot, 0 ≤ x ∧ x < 24 := ⟨hp.imp fun h z => by omega, fun x hx => by obtain ⟨a, b⟩ := hb x hx; omega⟩
    refine ⟨line (by simp), _, rfl, by simp, by simp, fun x hx => ?_⟩
    obtain ⟨c, rfl, c1, c5⟩ : ∃ c : Nat, x = .int c ∧ 1 ≤ c ∧ c ≤ 5 := by
      simp at hx
      rcases hx with rfl | rfl | rfl
      · exact ⟨1, rfl, by decide, by decide⟩
      · exact ⟨2, rfl, by decide, by decide⟩
      · exact ⟨4, rfl, by decide, by decide⟩
    refine ⟨_, rfl, by omega, ?_⟩
    rw [Int.toNat_natCast, rngP_rng]
    have hrep : ∀ i, ∀ l ∈ ls ++ List.replicate i lot, l.Nodup ∧ ∀ x ∈ l, 0 ≤ x ∧ x < 24 := fun i l hl => by
      rcases List.mem_append.mp hl with z | z
      · exact hls l z
      · rw [(List.mem_replicate.mp z).2]; exact hlot
    refine for_inv (fun i e => i ≤ c ∧ ∃ y6, e = [some .src, some (.int n), some (.int many), some (lI (rng many)), some (.lst ((ls ++ List.replicate i lot).map tI)), some (tI lot), y6, y7]) ⟨Nat.zero_le _, y6, by rw [List.replicate_zero, List.append_nil]⟩ (fun i x e N hx hE hN => ?_) (fun e hE => ?_)
    · obtain ⟨hi, y6, rfl⟩ := hE
      have hic : i < c := by have := (List.getElem?_eq_some_iff.mp hx).1; rw [rng_len] at this; exact this
      rw [s_gmN]
      try simp only [s_mVar0, s_mVarS, s_mVarO0, s_mVarOS, s_isObj_lst, s_isObj_dic, s_mC, s_mOp, s_mOp1, s_mB, s_mNil, s_mCons, s_mTup, s_mLst, s_mCall, s_mTB, s_mNot, s_mAnd, s_mOr, s_mAndV, s_mOrV, s_mIf, s_mYes, s_mSl, s_mNo, s_mPart, s_mLc, s_mItems, s_mRng1, s_mRng2, s_mEnum, s_mChain, s_seqT, s_seqL, s_sNext, s_sSeq, s_sIf, s_sSet, s_sRet, s_sRetN, s_sBreak, s_sCont, s_sDrop, s_sPar, s_setN0, s_setNS, s_sAsg, s_sApp, s_sAug, s_sFor, s_sSrc, s_gmN, s_gmT, s_gmCons, s_gmNil, s_wipe0, s_wipeS, s_oSub, s_oAddI, s_oAdd, s_oLt, s_oLe, s_oGt, s_oGe, s_oNeg, s_oNot, s_oMul, s_oMulW, s_oMod, s_oFdiv, s_oPow, s_oIsN, s_oNotN, s_oIsB, s_oNotB, s_isNon_int, s_isNon_non, s_isNon_bl, s_isNon_str, s_isNon_tup, s_isNon_lst, s_isNon_dic, s_oEqI, s_oNeI, s_oIxT, s_oIxL, s_oSlT, s_oSlL, s_oRevT, s_oRevL, s_oInt, s_oIntB, s_oAbs, s_oMax2, s_oMin2, s_oLen, s_plenT, s_plenL, s_plenD, s_plenS, s_oTupleL, s_oTupleT, s_oListL, s_oListT, List.set_cons_succ, List.set_cons_zero, List.append_nil, true_and]
      refine ⟨_, rfl, ?_⟩
      try simp only [s_mVar0, s_mVarS, s_mVarO0, s_mVarOS, s_isObj_lst, s_isObj_dic, s_mC, s_mOp, s_mOp1, s_mB, s_mNil, s_mCons, s_mTup, s_mLst, s_mCall, s_mTB, s_mNot, s_mAnd, s_mOr, s_mAndV, s_mOrV, s_mIf, s_mYes, s_mSl, s_mNo, s_mPart, s_mLc, s_mItems, s_mRng1, s_mRng2, s_mEnum, s_mChain, s_seqT, s_seqL, s_sNext, s_sSeq, s_sIf, s_sSet, s_sRet, s_sRetN, s_sBreak, s_sCont, s_sDrop, s_sPar, s_setN0, s_setNS, s_sAsg, s_sApp, s_sAug, s_sFor, s_sSrc, s_gmN, s_gmT, s_gmCons, s_gmNil, s_wipe0, s_wipeS, s_oSub, s_oAddI, s_oAdd, s_oLt, s_oLe, s_oGt, s_oGe, s_oNeg, s_oNot, s_oMul, s_oMulW, s_oMod, s_oFdiv, s_oPow, s_oIsN, s_oNotN, s_oIsB, s_oNotB, s_isNon_int, s_isNon_non, s_isNon_bl, s_isNon_str, s_isNon_tup, s_isNon_lst, s_isNon_dic, s_oEqI, s_oNeI, s_oIxT, s_oIxL, s_oSlT, s_oSlL, s_oRevT, s_oRevL, s_oInt, s_oIntB, s_oAbs, s_oMax2, s_oMin2, s_oLen, s_plenT, s_plenL, s_plenD, s_plenS, s_oTupleL, s_oTupleT, s_oListL, s_oListT, List.set_cons_succ, List.set_cons_zero, List.append_nil, true_and]
      refine ⟨?_, hN _ ⟨hic, some (.int x), ?_⟩⟩
      · rw [List.length_map, List.length_append, List.length_replicate]; exact small_line (by omega)
      · rw [List.replicate_succ', ← List.append_assoc, List.map_append (l₂ := [lot])]
        rfl
    · obtain ⟨hi, y6, rfl⟩ := hE
      rw [rng_len]
      refine ⟨n - (ls ++ List.replicate c lot).length, ?_, ls ++ List.replicate c lot, _, _, _, hrep c, ?_, rfl, rfl⟩
      · rw [List.length_append, List.length_replicate]; omega
      · rw [List.length_append, List.length_replicate]; omega
  · rw [decide_eq_false hc, if_neg Bool.false_ne_true]
    try simp only [s_mVar0, s_mVarS, s_mVarO0, s_mVarOS, s_isObj_lst, s_isObj_dic, s_mC, s_mOp, s_mOp1, s_mB, s_mNil, s_mCons, s_mTup, s_mLst, s_mCall, s_mTB, s_mNot, s_mAnd, s_mOr, s_mAndV, s_mOrV, s_mIf, s_mYes, s_mSl, s_mNo, s_mPart, s_mLc, s_mItems, s_mRng1, s_mRng2, s_mEnum, s_mChain, s_seqT, s_seqL, s_sNext, s_sSeq, s_sIf, s_sSet, s_sRet, s_sRetN, s_sBreak, s_sCont, s_sDrop, s_sPar, s_setN0, s_setNS, s_sAsg, s_sApp, s_sAug, s_sFor, s_sSrc, s_gmN, s_gmT, s_gmCons, s_gmNil, s_wipe0, s_wipeS, s_oSub, s_oAddI, s_oAdd, s_oLt, s_oLe, s_oGt, s_oGe, s_oNeg, s_oNot, s_oMul, s_oMulW, s_oMod, s_oFdiv, s_oPow, s_oIsN, s_oNotN, s_oIsB, s_oNotB, s_isNon_int, s_isNon_non, s_isNon_bl, s_isNon_str, s_isNon_tup, s_isNon_lst, s_isNon_dic, s_oEqI, s_oNeI, s_oIxT, s_oIxL, s_oSlT, s_oSlL, s_oRevT, s_oRevL, s_oInt, s_oIntB, s_oAbs, s_oMax2, s_oMin2, s_oLen, s_plenT, s_plenL, s_plenD, s_plenS, s_oTupleL, s_oTupleT, s_oListL, s_oListT, List.set_cons_succ, List.set_cons_zero, List.append_nil, true_and]
    refine ⟨_, rfl, ?_⟩
    rw [cutP_map]
    have e : (ls.drop (HT.sIx ls.length 0 none)).take (HT.sIx ls.length ls.length (some (n : Int)) - HT.sIx ls.length 0 none) = ls.take n := by
      rw [HT.sIx_none, HT.sIx_nat]
      show (ls.drop 0).take (min n ls.length - 0) = _
      rw [List.drop_zero, Nat.sub_zero, show min n ls.length = n by omega]
    rw [e]
    refine h _ ⟨by rw [List.length_take]; omega, fun l hl => hls l (List.mem_of_mem_take hl)⟩ (by rw [List.length_take]; omega)
theorem mem_seg {α : Type} {lots : List α} {a b : Nat} {l : α} : l ∈ seg lots a b ↔ ∃ i, a ≤ i ∧ i ≤ b ∧ lots[i]? = some l := by
  unfold seg
  rw [List.mem_iff_getElem?]
  constructor
  · rintro ⟨i, h⟩
    rw [List.getElem?_drop, List.getElem?_take] at h
    by_cases z : a + i < b + 1
    · rw [if_pos z] at h
      exact ⟨a + i, by omega, by omega, h⟩
    · rw [if_neg z] at h; cases h
  · rintro ⟨i, h1, h2, h⟩
    refine ⟨i - a, ?_⟩
    rw [List.getElem?_drop, List.getElem?_take, show a + (i - a) = i by omega, if_pos (by omega)]
    exact h
theorem cnt_mono {lots : List (List Int)} {a b a' b' : Nat} (h1 : a' ≤ a) (h2 : b ≤ b') : cnt lots a b ≤ cnt lots a' b' := by
  refine len_le (nodup_keys _) fun x hx => ?_
  obtain ⟨l, hl, hx⟩ := mem_keys.mp hx
  obtain ⟨i, i1, i2, hi⟩ := mem_seg.mp hl
  exact mem_keys.mpr ⟨l, mem_seg.mpr ⟨i, by omega, by omega, hi⟩, hx⟩
theorem puts_nil {l : List Int} (h : l.Nodup) : puts [] l = l := by
  rw [puts_filter h]
  show l.filter _ = l
  rw [List.filter_eq_self]
  intro x _
  simp
theorem seg_one {α : Type} {lots : List α} {i : Nat} {l : α} (h : lots[i]? = some l) : seg lots i i = [l] := by
  unfold seg
  have := (List.getElem?_eq_some_iff.mp h).1
  rw [List.take_add_one, h, List.drop_append]
  have e : (lots.take i).length = i := by rw [List.length_take]; omega
  rw [e, List.drop_of_length_le (by omega), Nat.sub_self]
  rfl
theorem seg_succ {α : Type} {lots : List α} {a i : Nat} {l : α} (h : lots[i + 1]? = some l) (ha : a ≤ i + 1) : seg lots a (i + 1) = seg lots a i ++ [l] := by
  unfold seg
  have := (List.getElem?_eq_some_iff.mp h).1
  rw [List.take_add_one, h, List.drop_append]
  have e : (lots.take (i + 1)).length = i + 1 := by rw [List.length_take]; omega
  rw [e, show a - (i + 1) = 0 by omega]
  rfl
theorem keys_succ {lots : List (List Int)} {a i : Nat} {l : List Int} (h : lots[i + 1]? = some l) (ha : a ≤ i + 1) : keys (seg lots a (i + 1)) = puts (keys (seg lots a i)) l := by
  rw [seg_succ h ha]
  unfold keys
  rw [List.foldl_append]
  rfl
theorem keys_one {lots : List (List Int)} {i : Nat} {l : List Int} (h : lots[i]? = some l) (hn : l.Nodup) : keys (seg lots i i) = l := by
  rw [seg_one h]
  exact puts_nil hn
end K46

set_option maxHeartbeats 1000000
namespace K46
open PySem L2 PM
/-! ### the least price -/
structure LP (lots : List (List Int)) (prices : List Int) (a b : Nat) (p : Int) (u : Nat) : Prop where
  get : prices[u]? = some p
  up : cnt lots a b ≤ u
  least : ∀ u' p', cnt lots a b ≤ u' → prices[u']? = some p' → p ≤ p'
def sp_least_price : PM.Spec := fun ps P => ∃ (lots : List (List Int)) (prices : List Int) (a b : Nat), ps = [crs lots, tI prices, .int a, .int b] ∧ Good lots ∧ prices.length ≤ 100 ∧ (prices.length ≤ cnt lots a b → P .non) ∧ ∀ p u, LP lots prices a b p u → P (.tup [.int p, .int u])
theorem pair_lt {a b : Int} {i j : Nat} (h : a ≠ b) : PySem.W.dataLt (.tuple [.int a, .int (i : Int)]) (.tuple [.int b, .int (j : Int)]) = decide (a < b) := dataLt_hd h
theorem h_least_price (ps : List PV) (Q : PV → Prop) (h : sp_least_price ps Q) : t_least_price sp_union_of { nx := fun _ => nxOf .cl Q, rt := Q } (startE n_least_price.length ps) := by
  obtain ⟨lots, prices, a, b, rfl, hg, hl, h1, h2⟩ := h
  show t_least_price _ _ [some (crs lots), some (tI prices), some (.int a), some (.int b), none, none, none, none]
  unfold t_least_price
  try simp only [s_mVar0, s_mVarS, s_mVarO0, s_mVarOS, s_isObj_lst, s_isObj_dic, s_mC, s_mOp, s_mOp1, s_mB, s_mNil, s_mCons, s_mTup, s_mLst, s_mCall, s_mTB, s_mNot, s_mAnd, s_mOr, s_mAndV, s_mOrV, s_mIf, s_mYes, s_mSl, s_mNo, s_mPart, s_mLc, s_mItems, s_mRng1, s_mRng2, s_mEnum, s_mChain, s_seqT, s_seqL, s_sNext, s_sSeq, s_sIf, s_sSet, s_sRet, s_sRetN, s_sBreak, s_sCont, s_sDrop, s_sPar, s_setN0, s_setNS, s_sAsg, s_sApp, s_sAug, s_sFor, s_sSrc, s_gmN, s_gmT, s_gmCons, s_gmNil, s_wipe0, s_wipeS, s_oSub, s_oAddI, s_oAdd, s_oLt, s_oLe, s_oGt, s_oGe, s_oNeg, s_oNot, s_oMul, s_oMulW, s_oMod, s_oFdiv, s_oPow, s_oIsN, s_oNotN, s_oIsB, s_oNotB, s_isNon_int, s_isNon_non, s_isNon_bl, s_isNon_str, s_isNon_tup, s_isNon_lst, s_isNon_dic, s_oEqI, s_oNeI, s_oIxT, s_oIxL, s_oSlT, s_oSlL, s_oRevT, s_oRevL, s_oInt, s_oIntB, s_oAbs, s_oMax2, s_oMin2, s_oLen, s_plenT, s_plenL, s_plenD, s_plenS, s_oTupleL, s_oTupleT, s_oListL, s_oListT, List.set_cons_succ, List.set_cons_zero, List.append_nil, true_and, x_bl, x_int, x_some, x_addT, x_addL, x_true, x_false]
  refine ⟨lots, a, b, rfl, hg, ?_⟩
  try simp only [s_mVar0, s_mVarS, s_mVarO0, s_mVarOS, s_isObj_lst, s_isObj_dic, s_mC, s_mOp, s_mOp1, s_mB, s_mNil, s_mCons, s_mTup, s_mLst, s_mCall, s_mTB, s_mNot, s_mAnd, s_mOr, s_mAndV, s_mOrV, s_mIf, s_mYes, s_mSl, s_mNo, s_mPart, s_mLc, s_mItems, s_mRng1, s_mRng2, s_mEnum, s_mChain, s_seqT, s_seqL, s_sNext, s_sSeq, s_sIf, s_sSet, s_sRet, s_sRetN, s_sBreak, s_sCont, s_sDrop, s_sPar, s_setN0, s_setNS, s_sAsg, s_sApp, s_sAug, s_sFor, s_sSrc, s_gmN, s_gmT, s_gmCons, s_gmNil, s_wipe0, s_wipeS, s_oSub, s_oAddI, s_oAdd, s_oLt, s_oLe, s_oGt, s_oGe, s_oNeg, s_oNot, s_oMul, s_oMulW, s_oMod, s_oFdiv, s_oPow, s_oIsN, s_oNotN, s_oIsB, s_oNotB, s_isNon_int, s_isNon_non, s_isNon_bl, s_isNon_str, s_isNon_tup, s_isNon_lst, s_isNon_dic, s_oEqI, s_oNeI, s_oIxT, s_oIxL, s_oSlT, s_oSlL, s_oRevT, s_oRevL, s_oInt, s_oIntB, s_oAbs, s_oMax2, s_oMin2, s_oLen, s_plenT, s_plenL, s_plenD, s_plenS, s_oTupleL, s_oTupleT, s_oListL, s_oListT, List.set_cons_succ, List.set_cons_zero, List.append_nil, true_and, x_bl, x_int, x_some, x_addT, x_addL, x_true, x_false]
  rw [List.length_map, isort_len]
  have ec : (keys (seg lots a b)).length = cnt lots a b := rfl
  rw [ec, enumP_map]
  refine comp_emb (xs := List.range prices.length) (tst := fun i => decide (cnt lots a b ≤ i)) (f := fun i => .tup [.int (prices.getD i 0), .int (i : Nat)]) (fun i hi => ⟨[some (crs lots), some (tI prices), some (.int a), some (.int b), some (.int (cnt lots a b : Int)), none, some (.int (i : Nat)), some (.int (prices.getD i 0))], fun k hk => ?_, fun Q hQ => ?_, fun _ Q hQ => ?_⟩) (by rw [List.length_nil, List.length_range]; exact line (by omega)) ?_
  · rw [List.mem_range] at hi
    have e : (prices.map PV.int).getD i .non = .int (prices.getD i 0) := by
      rw [List.getD_eq_getElem?_getD, List.getD_eq_getElem?_getD, List.getElem?_map, List.getElem?_eq_getElem hi]; rfl
    rw [e]
    exact s_gmT.mpr ⟨rfl, s_gmCons.mpr (s_gmN.mpr (s_gmCons.mpr (s_gmN.mpr (s_gmNil.mpr hk))))⟩
  · try simp only [s_mVar0, s_mVarS, s_mVarO0, s_mVarOS, s_isObj_lst, s_isObj_dic, s_mC, s_mOp, s_mOp1, s_mB, s_mNil, s_mCons, s_mTup, s_mLst, s_mCall, s_mTB, s_mNot, s_mAnd, s_mOr, s_mAndV, s_mOrV, s_mIf, s_mYes, s_mSl, s_mNo, s_mPart, s_mLc, s_mItems, s_mRng1, s_mRng2, s_mEnum, s_mChain, s_seqT, s_seqL, s_sNext, s_sSeq, s_sIf, s_sSet, s_sRet, s_sRetN, s_sBreak, s_sCont, s_sDrop, s_sPar, s_setN0, s_setNS, s_sAsg, s_sApp, s_sAug, s_sFor, s_sSrc, s_gmN, s_gmT, s_gmCons, s_gmNil, s_wipe0, s_wipeS, s_oSub, s_oAddI, s_oAdd, s_oLt, s_oLe, s_oGt, s_oGe, s_oNeg, s_oNot, s_oMul, s_oMulW, s_oMod, s_oFdiv, s_oPow, s_oIsN, s_oNotN, s_oIsB, s_oNotB, s_isNon_int, s_isNon_non, s_isNon_bl, s_isNon_str, s_isNon_tup, s_isNon_lst, s_isNon_dic, s_oEqI, s_oNeI, s_oIxT, s_oIxL, s_oSlT, s_oSlL, s_oRevT, s_oRevL, s_oInt, s_oIntB, s_oAbs, s_oMax2, s_oMin2, s_oLen, s_plenT, s_plenL, s_plenD, s_plenS, s_oTupleL, s_oTupleT, s_oListL, s_oListT, List.set_cons_succ, List.set_cons_zero, List.append_nil, true_and, x_bl, x_int, x_some, x_addT, x_addL, x_true, x_false]
    have e : decide ((cnt lots a b : Int) ≤ (i : Int)) = decide (cnt lots a b ≤ i) := by
      by_cases z : cnt lots a b ≤ i
      · rw [decide_eq_true z, decide_eq_true (by omega)]
      · rw [decide_eq_false z, decide_eq_false (by omega)]
    rw [e]
    exact hQ
  · try simp only [s_mVar0, s_mVarS, s_mVarO0, s_mVarOS, s_isObj_lst, s_isObj_dic, s_mC, s_mOp, s_mOp1, s_mB, s_mNil, s_mCons, s_mTup, s_mLst, s_mCall, s_mTB, s_mNot, s_mAnd, s_mOr, s_mAndV, s_mOrV, s_mIf, s_mYes, s_mSl, s_mNo, s_mPart, s_mLc, s_mItems, s_mRng1, s_mRng2, s_mEnum, s_mChain, s_seqT, s_seqL, s_sNext, s_sSeq, s_sIf, s_sSet, s_sRet, s_sRetN, s_sBreak, s_sCont, s_sDrop, s_sPar, s_setN0, s_setNS, s_sAsg, s_sApp, s_sAug, s_sFor, s_sSrc, s_gmN, s_gmT, s_gmCons, s_gmNil, s_wipe0, s_wipeS, s_oSub, s_oAddI, s_oAdd, s_oLt, s_oLe, s_oGt, s_oGe, s_oNeg, s_oNot, s_oMul, s_oMulW, s_oMod, s_oFdiv, s_oPow, s_oIsN, s_oNotN, s_oIsB, s_oNotB, s_isNon_int, s_isNon_non, s_isNon_bl, s_isNon_str, s_isNon_tup, s_isNon_lst, s_isNon_dic, s_oEqI, s_oNeI, s_oIxT, s_oIxL, s_oSlT, s_oSlL, s_oRevT, s_oRevL, s_oInt, s_oIntB, s_oAbs, s_oMax2, s_oMin2, s_oLen, s_plenT, s_plenL, s_plenD, s_plenS, s_oTupleL, s_oTupleT, s_oListL, s_oListT, List.set_cons_succ, List.set_cons_zero, List.append_nil, true_and, x_bl, x_int, x_some, x_addT, x_addL, x_true, x_false]
    exact ⟨line (by simp), hQ⟩
  rw [List.nil_append]
  obtain ⟨us, hus, hmem⟩ : ∃ us : List Nat, (List.range prices.length).filter (fun i => decide (cnt lots a b ≤ i)) = us ∧ ∀ u, u ∈ us ↔ u < prices.length ∧ cnt lots a b ≤ u := ⟨_, rfl, fun u => by simp⟩
  rw [hus]
  try simp only [s_mVar0, s_mVarS, s_mVarO0, s_mVarOS, s_isObj_lst, s_isObj_dic, s_mC, s_mOp, s_mOp1, s_mB, s_mNil, s_mCons, s_mTup, s_mLst, s_mCall, s_mTB, s_mNot, s_mAnd, s_mOr, s_mAndV, s_mOrV, s_mIf, s_mYes, s_mSl, s_mNo, s_mPart, s_mLc, s_mItems, s_mRng1, s_mRng2, s_mEnum, s_mChain, s_seqT, s_seqL, s_sNext, s_sSeq, s_sIf, s_sSet, s_sRet, s_sRetN, s_sBreak, s_sCont, s_sDrop, s_sPar, s_setN0, s_setNS, s_sAsg, s_sApp, s_sAug, s_sFor, s_sSrc, s_gmN, s_gmT, s_gmCons, s_gmNil, s_wipe0, s_wipeS, s_oSub, s_oAddI, s_oAdd, s_oLt, s_oLe, s_oGt, s_oGe, s_oNeg, s_oNot, s_oMul, s_oMulW, s_oMod, s_oFdiv, s_oPow, s_oIsN, s_oNotN, s_oIsB, s_oNotB, s_isNon_int, s_isNon_non, s_isNon_bl, s_isNon_str, s_isNon_tup, s_isNon_lst, s_isNon_dic, s_oEqI, s_oNeI, s_oIxT, s_oIxL, s_oSlT, s_oSlL, s_oRevT, s_oRevL, s_oInt, s_oIntB, s_oAbs, s_oMax2, s_oMin2, s_oLen, s_plenT, s_plenL, s_plenD, s_plenS, s_oTupleL, s_oTupleT, s_oListL, s_oListT, List.set_cons_succ, List.set_cons_zero, List.append_nil, true_and, x_bl, x_int, x_some, x_addT, x_addL, x_true, x_false]
  refine ⟨Nat.zero_le _, oEq_nil (f := fun i : Nat => .tuple [.int (prices.getD i 0), .int (i : Nat)]) (n := 1) (fun _ => rfl) (fun _ => ⟨rfl, Nat.le_refl _⟩) (by decide) ⟨_, rfl, ?_⟩⟩
  by_cases he : us = []
  · rw [he, show ([] : List Nat).isEmpty = true from rfl, if_pos rfl]
    refine h1 (Nat.le_of_not_lt fun z => ?_)
    have : cnt lots a b ∈ us := (hmem _).mpr ⟨z, Nat.le_refl _⟩
    rw [he] at this; cases this
  · have hb : us.isEmpty = false := by cases us with
      | nil => exact absurd rfl he
      | cons _ _ => rfl
    rw [hb, if_neg Bool.false_ne_true]
    have hpos := List.length_pos_iff.mpr he
    refine ⟨_, _, us.map fun i : Nat => .tuple [.int (prices.getD i 0), .int (i : Nat)], rfl, rfl, toDs_map (fun _ => rfl) us, ⟨fun x hx y hy => ?_, fun x hx => ?_⟩, ?_, by rw [List.length_map]; exact hpos, fun p hp => ?_⟩
    · obtain ⟨i, _, rfl⟩ := List.mem_map.mp hx
      obtain ⟨j, _, rfl⟩ := List.mem_map.mp hy
      rfl
    · obtain ⟨i, _, rfl⟩ := List.mem_map.mp hx
      exact fun z => by cases z
    · exact Nat.le_trans (lay_map (n := 1) (f := fun i : Nat => PyData.tuple [.int (prices.getD i 0), .int (i : Nat)]) (fun _ => ⟨rfl, Nat.le_refl _⟩) us).2 (by decide)
    · obtain ⟨u, hu, hum, hle⟩ := bestLt_key (xs := us) (f := fun i : Nat => .tuple [.int (prices.getD i 0), .int (i : Nat)]) (k := fun i => prices.getD i 0) (fun x y z => by rw [pair_lt (by omega)]; exact decide_eq_true z) (fun x y z => by rw [pair_lt (by omega)]; exact decide_eq_false (by omega)) hpos
      rw [List.getElem?_map, hu] at hp
      cases hp
      obtain ⟨ul, uc⟩ := (hmem u).mp hum
      refine h2 _ _ ⟨?_, uc, fun u' p' hc hp' => ?_⟩
      · rw [List.getD_eq_getElem?_getD, List.getElem?_eq_getElem ul]; rfl
      · have l' := (List.getElem?_eq_some_iff.mp hp').1
        have := hle u' ((hmem u').mpr ⟨l', hc⟩)
        rw [List.getD_eq_getElem?_getD (l := prices) (i := u'), hp'] at this
        exact this
/-! ### levels -/
def omin : List Int → Option Int
  | [] => none
  | x :: xs => some (xs.foldl min x)
theorem foldl_min : ∀ (xs : List Int) (x : Int), (xs.foldl min x = x ∨ xs.foldl min x ∈ xs) ∧ xs.foldl min x ≤ x ∧ ∀ y ∈ xs, xs.foldl min x ≤ y
  | [], x => ⟨.inl rfl, Int.le_refl _, fun _ h => by cases h⟩
  | y :: xs, x => by
    obtain ⟨h1, h2, h3⟩ := foldl_min xs (min x y)
    show (xs.foldl min (min x y) = x ∨ xs.foldl min (min x y) ∈ y :: xs) ∧ xs.foldl min (min x y) ≤ x ∧ ∀ z ∈ y :: xs, xs.foldl min (min x y) ≤ z
    have m1 : min x y ≤ x := Int.min_le_left _ _
    have m2 : min x y ≤ y := Int.min_le_right _ _
    refine ⟨?_, by omega, fun z hz => ?_⟩
    · rcases h1 with h1 | h1
      · rw [h1]
        rcases Int.le_total x y with q | q
        · exact .inl (Int.min_eq_left q)
        · exact .inr (by rw [Int.min_eq_right q]; exact List.mem_cons_self ..)
      · exact .inr (List.mem_cons_of_mem _ h1)
    · rcases List.mem_cons.mp hz with e | e
      · rw [e]; omega
      · exact h3 z e
theorem omin_some {xs : List Int} {m : Int} : omin xs = some m ↔ m ∈ xs ∧ ∀ y ∈ xs, m ≤ y := by
  cases xs with
  | nil => exact ⟨(fun h => by cases h), (fun h => by cases h.1)⟩
  | cons x xs =>
    obtain ⟨h1, h2, h3⟩ := foldl_min xs x
    have mem : xs.foldl min x ∈ x :: xs := h1.elim (fun e => by rw [e]; exact List.mem_cons_self ..) (List.mem_cons_of_mem _)
    have le : ∀ y ∈ x :: xs, xs.foldl min x ≤ y := fun y hy => by
      rcases List.mem_cons.mp hy with e | e
      · rw [e]; exact h2
      · exact h3 y e
    constructor
    · intro h
      have e : xs.foldl min x = m := Option.some.inj h
      rw [← e]; exact ⟨mem, le⟩
    · rintro ⟨a, b⟩
      have e1 := b _ mem
      have e2 := le _ a
      show some (xs.foldl min x) = some m
      rw [show xs.foldl min x = m by omega]
theorem omin_none {xs : List Int} : omin xs = none ↔ xs = [] := by
  cases xs with
  | nil => exact ⟨fun _ => rfl, fun _ => rfl⟩
  | cons x xs => exact ⟨(fun h => by cases h), (fun h => by cases h)⟩
def lp (lots : List (List Int)) (prices : List Int) (a b : Nat) : Option Int := omin (prices.drop (cnt lots a b))
/-- the ways to the end of j -/
def opts (lots : List (List Int)) (prices : List Int) (ls : List (Option Int)) (j : Nat) : List Int := (List.range (j + 1)).filterMap fun a => match ls.getD a none, lp lots prices a j with
  | some x, some y => some (x + y)
  | _, _ => none
def levs (lots : List (List Int)) (prices : List Int) : Nat → List (Option Int)
  | 0 => [some 0]
  | j + 1 => levs lots prices j ++ [omin (opts lots prices (levs lots prices j) j)]
def lev (lots : List (List Int)) (prices : List Int) (j : Nat) : Option Int := (levs lots prices j).getD j none
section
variable {lots : List (List Int)} {prices : List Int}
theorem levs_len : ∀ j, (levs lots prices j).length = j + 1
  | 0 => rfl
  | j + 1 => by
    show (levs lots prices j ++ [_]).length = _
    rw [List.length_append, levs_len j]; rfl
theorem levs_get : ∀ {n j : Nat}, j ≤ n → (levs lots prices n).getD j none = lev lots prices j
  | 0, j, h => by rw [Nat.le_zero.mp h]; rfl
  | n + 1, j, h => by
    rcases Nat.lt_or_ge j (n + 1) with z | z
    · rw [← levs_get (n := n) (j := j) (by omega)]
      show (levs lots prices n ++ [_]).getD j none = _
      rw [List.getD_eq_getElem?_getD, List.getElem?_append_left (by rw [levs_len]; exact z), List.getD_eq_getElem?_getD]
    · have : j = n + 1 := by omega
      rw [this]; rfl
theorem lev_zero : lev lots prices 0 = some 0 := rfl
theorem lev_succ {j : Nat} : lev lots prices (j + 1) = omin (opts lots prices (levs lots prices j) j) := by
  show (levs lots prices j ++ [omin (opts lots prices (levs lots prices j) j)]).getD (j + 1) none = _
  rw [List.getD_eq_getElem?_getD, List.getElem?_append_right (by rw [levs_len]; exact Nat.le_refl _), levs_len, Nat.sub_self]
  rfl
theorem mem_opts {j : Nat} {m : Int} : m ∈ opts lots prices (levs lots prices j) j ↔ ∃ a x y, a ≤ j ∧ lev lots prices a = some x ∧ lp lots prices a j = some y ∧ m = x + y := by
  unfold opts
  rw [List.mem_filterMap]
  constructor
  · rintro ⟨a, ha, h⟩
    rw [List.mem_range] at ha
    rw [levs_get (by omega : a ≤ j)] at h
    cases q : lev lots prices a with
    | none => rw [q] at h; cases h
    | some x =>
      cases q2 : lp lots prices a j with
      | none => rw [q, q2] at h; cases h
      | some y => rw [q, q2] at h; exact ⟨a, x, y, by omega, q, q2, (Option.some.inj h).symm⟩
  · rintro ⟨a, x, y, ha, h1, h2, rfl⟩
    refine ⟨a, List.mem_range.mpr (by omega), ?_⟩
    rw [levs_get ha, h1, h2]
theorem lev_some {j : Nat} {m : Int} : lev lots prices (j + 1) = some m ↔ (∃ a x y, a ≤ j ∧ lev lots prices a = some x ∧ lp lots prices a j = some y ∧ m = x + y) ∧ ∀ a x y, a ≤ j → lev lots prices a = some x → lp lots prices a j = some y → m ≤ x + y := by
  rw [lev_succ, omin_some, mem_opts]
  refine and_congr Iff.rfl ⟨fun h a x y h1 h2 h3 => h _ (mem_opts.mpr ⟨a, x, y, h1, h2, h3, rfl⟩), fun h z hz => ?_⟩
  obtain ⟨a, x, y, h1, h2, h3, rfl⟩ := mem_opts.mp hz
  exact h a x y h1 h2 h3
theorem lev_none {j : Nat} : lev lots prices (j + 1) = none ↔ ∀ a x, a ≤ j → lev lots prices a = some x → lp lots prices a j = none := by
  rw [lev_succ, omin_none, List.eq_nil_iff_forall_not_mem]
  constructor
  · intro h a x h1 h2
    cases q : lp lots prices a j with
    | none => rfl
    | some y => exact absurd (mem_opts.mpr ⟨a, x, y, h1, h2, q, rfl⟩) (h _)
  · intro h m hm
    obtain ⟨a, x, y, h1, h2, h3, _⟩ := mem_opts.mp hm
    rw [h a x h1 h2] at h3; cases h3
theorem lp_none {a b : Nat} : lp lots prices a b = none ↔ prices.length ≤ cnt lots a b := by
  unfold lp
  rw [omin_none, List.drop_eq_nil_iff]
theorem lp_of {a b : Nat} {p : Int} {u : Nat} (h : LP lots prices a b p u) : lp lots prices a b = some p := by
  unfold lp
  rw [omin_some]
  constructor
  · refine List.mem_iff_getElem?.mpr ⟨u - cnt lots a b, ?_⟩
    rw [List.getElem?_drop, show cnt lots a b + (u - cnt lots a b) = u by have := h.up; omega]
    exact h.get
  · intro y hy
    obtain ⟨i, hi⟩ := List.mem_iff_getElem?.mp hy
    rw [List.getElem?_drop] at hi
    exact h.least _ _ (Nat.le_add_right _ _) hi
end
end K46

set_option maxHeartbeats 1000000
namespace K46
open PySem L2 PM
abbrev Way := Option (Int × Option (Nat × Nat × Nat))
def wP : Way → PV
  | none => .non
  | some (x, none) => .tup [.int x, .non]
  | some (x, some (a, b, u)) => .tup [.int x, .tup [.int (a : Nat), .int (b : Nat), .int (u : Nat)]]
def rowOk (lots : List (List Int)) (prices : List Int) (x : Int) (r : Option (Nat × Nat × Nat)) : Nat → Prop
  | 0 => r = none
  | j + 1 => ∃ a u x0 p, r = some (a, j, u) ∧ a ≤ j ∧ lev lots prices a = some x0 ∧ LP lots prices a j p u ∧ x = x0 + p
structure WOk (lots : List (List Int)) (prices : List Int) (j : Nat) (w : Way) : Prop where
  lv : w.map (·.1) = lev lots prices j
  row : ∀ x r, w = some (x, r) → rowOk lots prices x r j
abbrev oP (j : Nat) (o : Int × Nat × Nat) : PV := .tup [.int o.1, .tup [.int (o.2.1 : Nat), .int (j : Nat), .int (o.2.2 : Nat)]]
def oD (j : Nat) (o : Int × Nat × Nat) : PyData := .tuple [.int o.1, .tuple [.int (o.2.1 : Nat), .int (j : Nat), .int (o.2.2 : Nat)]]
theorem isNon_wP {w : Way} : isNon (wP w) = w.isNone := by
  cases w with
  | none => rfl
  | some p => obtain ⟨x, r⟩ := p; cases r <;> rfl
def sp_least_ways : PM.Spec := fun ps P => ∃ (lots : List (List Int)) (prices : List Int), ps = [crs lots, tI prices] ∧ Good lots ∧ prices.length ≤ 100 ∧ ∀ ws : List Way, ws.length = lots.length + 1 → (∀ j w, ws[j]? = some w → WOk lots prices j w) → P (.tup (ws.map wP))
theorem h_least_ways (ps : List PV) (Q : PV → Prop) (h : sp_least_ways ps Q) : t_least_ways sp_least_price { nx := fun _ => nxOf .cl Q, rt := Q } (startE n_least_ways.length ps) := by
  obtain ⟨lots, prices, rfl, hg, hl, h⟩ := h
  have hs := hg.small
  show t_least_ways _ _ [some (crs lots), some (tI prices), none, none, none, none, none]
  unfold t_least_ways
  try simp only [s_mVar0, s_mVarS, s_mVarO0, s_mVarOS, s_isObj_lst, s_isObj_dic, s_mC, s_mOp, s_mOp1, s_mB, s_mNil, s_mCons, s_mTup, s_mLst, s_mCall, s_mTB, s_mNot, s_mAnd, s_mOr, s_mAndV, s_mOrV, s_mIf, s_mYes, s_mSl, s_mNo, s_mPart, s_mLc, s_mItems, s_mRng1, s_mRng2, s_mEnum, s_mChain, s_seqT, s_seqL, s_sNext, s_sSeq, s_sIf, s_sSet, s_sRet, s_sRetN, s_sBreak, s_sCont, s_sDrop, s_sPar, s_setN0, s_setNS, s_sAsg, s_sApp, s_sAug, s_sFor, s_sSrc, s_gmN, s_gmT, s_gmCons, s_gmNil, s_wipe0, s_wipeS, s_oSub, s_oAddI, s_oAdd, s_oLt, s_oLe, s_oGt, s_oGe, s_oNeg, s_oNot, s_oMul, s_oMulW, s_oMod, s_oFdiv, s_oPow, s_oIsN, s_oNotN, s_oIsB, s_oNotB, s_isNon_int, s_isNon_non, s_isNon_bl, s_isNon_str, s_isNon_tup, s_isNon_lst, s_isNon_dic, s_oEqI, s_oNeI, s_oIxT, s_oIxL, s_oSlT, s_oSlL, s_oRevT, s_oRevL, s_oInt, s_oIntB, s_oAbs, s_oMax2, s_oMin2, s_oLen, s_plenT, s_plenL, s_plenD, s_plenS, s_oTupleL, s_oTupleT, s_oListL, s_oListT, List.set_cons_succ, List.set_cons_zero, List.append_nil, true_and, x_bl, x_int, x_some, x_addT, x_addL, x_true, x_false]
  refine ⟨line (by simp), line (by simp), by rw [List.length_map]; omega, ?_⟩
  rw [List.length_map, Int.toNat_natCast, rngP_rng]
  refine for_inv (fun i e => ∃ (ws : List Way) (y3 y4 y5 y6 : Option PV), ws.length = i + 1 ∧ (∀ j w, ws[j]? = some w → WOk lots prices j w) ∧ e = [some (crs lots), some (tI prices), some (.lst (ws.map wP)), y3, y4, y5, y6])
    ⟨[some (0, none)], none, none, none, none, rfl, fun j w hw => ?_, rfl⟩ (fun i x e N hx hE hN => ?_) (fun e hE => ?_)
  · cases j with
    | zero => cases hw; exact ⟨rfl, fun x r e => by cases e; rfl⟩
    | succ j => simp at hw
  · obtain ⟨ws, y3, y4, y5, y6, hwl, hW, rfl⟩ := hE
    have hlt : i < lots.length := by have := (List.getElem?_eq_some_iff.mp hx).1; rw [rng_len] at this; exact this
    have ex : x = (i : Int) := by rw [rng_get hlt] at hx; exact (Option.some.inj hx).symm
    subst ex
    rw [s_gmN]
    try simp only [s_mVar0, s_mVarS, s_mVarO0, s_mVarOS, s_isObj_lst, s_isObj_dic, s_mC, s_mOp, s_mOp1, s_mB, s_mNil, s_mCons, s_mTup, s_mLst, s_mCall, s_mTB, s_mNot, s_mAnd, s_mOr, s_mAndV, s_mOrV, s_mIf, s_mYes, s_mSl, s_mNo, s_mPart, s_mLc, s_mItems, s_mRng1, s_mRng2, s_mEnum, s_mChain, s_seqT, s_seqL, s_sNext, s_sSeq, s_sIf, s_sSet, s_sRet, s_sRetN, s_sBreak, s_sCont, s_sDrop, s_sPar, s_setN0, s_setNS, s_sAsg, s_sApp, s_sAug, s_sFor, s_sSrc, s_gmN, s_gmT, s_gmCons, s_gmNil, s_wipe0, s_wipeS, s_oSub, s_oAddI, s_oAdd, s_oLt, s_oLe, s_oGt, s_oGe, s_oNeg, s_oNot, s_oMul, s_oMulW, s_oMod, s_oFdiv, s_oPow, s_oIsN, s_oNotN, s_oIsB, s_oNotB, s_isNon_int, s_isNon_non, s_isNon_bl, s_isNon_str, s_isNon_tup, s_isNon_lst, s_isNon_dic, s_oEqI, s_oNeI, s_oIxT, s_oIxL, s_oSlT, s_oSlL, s_oRevT, s_oRevL, s_oInt, s_oIntB, s_oAbs, s_oMax2, s_oMin2, s_oLen, s_plenT, s_plenL, s_plenD, s_plenS, s_oTupleL, s_oTupleT, s_oListL, s_oListT, List.set_cons_succ, List.set_cons_zero, List.append_nil, true_and, x_bl, x_int, x_some, x_addT, x_addL, x_true, x_false]
    refine ⟨Nat.zero_le _, by omega, ?_⟩
    rw [show ((i : Int) + 1).toNat = i + 1 by omega, rngP_rng]
    refine for_inv (fun f e => ∃ (os : List (Int × Nat × Nat)) (y5 y6 : Option PV), os.length ≤ f ∧ (∀ o ∈ os, ∃ x0 p, o.2.1 ≤ i ∧ lev lots prices o.2.1 = some x0 ∧ LP lots prices o.2.1 i p o.2.2 ∧ o.1 = x0 + p) ∧
        (∀ a x0 p, a < f → lev lots prices a = some x0 → lp lots prices a i = some p → ∃ o ∈ os, o.1 = x0 + p) ∧ e = [some (crs lots), some (tI prices), some (.lst (ws.map wP)), some (.int (i : Nat)), some (.lst (os.map (oP i))), y5, y6])
      ⟨[], y5, y6, Nat.le_refl _, (fun _ z => by cases z), (fun a _ _ z => absurd z (Nat.not_lt_zero _)), rfl⟩ (fun f x e N2 hx2 hE2 hN2 => ?_) (fun e hE2 => ?_)
    · obtain ⟨os, y5, y6, hol, ho1, ho2, rfl⟩ := hE2
      have hf : f < i + 1 := by have := (List.getElem?_eq_some_iff.mp hx2).1; rw [rng_len] at this; exact this
      have ex : x = (f : Int) := by rw [rng_get hf] at hx2; exact (Option.some.inj hx2).symm
      subst ex
      have hwf : ws[f]? = some (ws[f]'(by omega)) := List.getElem?_eq_getElem (by omega)
      generalize ws[f]'(by omega) = w at hwf
      have W := hW f w hwf
      have at_w : atI (ws.map wP) (f : Int) = some (wP w) := by rw [atI_map, atI_pos (by omega), hwf]; rfl
      rw [s_gmN]
      try simp only [s_mVar0, s_mVarS, s_mVarO0, s_mVarOS, s_isObj_lst, s_isObj_dic, s_mC, s_mOp, s_mOp1, s_mB, s_mNil, s_mCons, s_mTup, s_mLst, s_mCall, s_mTB, s_mNot, s_mAnd, s_mOr, s_mAndV, s_mOrV, s_mIf, s_mYes, s_mSl, s_mNo, s_mPart, s_mLc, s_mItems, s_mRng1, s_mRng2, s_mEnum, s_mChain, s_seqT, s_seqL, s_sNext, s_sSeq, s_sIf, s_sSet, s_sRet, s_sRetN, s_sBreak, s_sCont, s_sDrop, s_sPar, s_setN0, s_setNS, s_sAsg, s_sApp, s_sAug, s_sFor, s_sSrc, s_gmN, s_gmT, s_gmCons, s_gmNil, s_wipe0, s_wipeS, s_oSub, s_oAddI, s_oAdd, s_oLt, s_oLe, s_oGt, s_oGe, s_oNeg, s_oNot, s_oMul, s_oMulW, s_oMod, s_oFdiv, s_oPow, s_oIsN, s_oNotN, s_oIsB, s_oNotB, s_isNon_int, s_isNon_non, s_isNon_bl, s_isNon_str, s_isNon_tup, s_isNon_lst, s_isNon_dic, s_oEqI, s_oNeI, s_oIxT, s_oIxL, s_oSlT, s_oSlL, s_oRevT, s_oRevL, s_oInt, s_oIntB, s_oAbs, s_oMax2, s_oMin2, s_oLen, s_plenT, s_plenL, s_plenD, s_plenS, s_oTupleL, s_oTupleT, s_oListL, s_oListT, List.set_cons_succ, List.set_cons_zero, List.append_nil, true_and, x_bl, x_int, x_some, x_addT, x_addL, x_true, x_false]
      refine ⟨lots, prices, f, i, rfl, hg, hl, fun hc => ?_, fun p u hp => ?_⟩
      · try simp only [s_mVar0, s_mVarS, s_mVarO0, s_mVarOS, s_isObj_lst, s_isObj_dic, s_mC, s_mOp, s_mOp1, s_mB, s_mNil, s_mCons, s_mTup, s_mLst, s_mCall, s_mTB, s_mNot, s_mAnd, s_mOr, s_mAndV, s_mOrV, s_mIf, s_mYes, s_mSl, s_mNo, s_mPart, s_mLc, s_mItems, s_mRng1, s_mRng2, s_mEnum, s_mChain, s_seqT, s_seqL, s_sNext, s_sSeq, s_sIf, s_sSet, s_sRet, s_sRetN, s_sBreak, s_sCont, s_sDrop, s_sPar, s_setN0, s_setNS, s_sAsg, s_sApp, s_sAug, s_sFor, s_sSrc, s_gmN, s_gmT, s_gmCons, s_gmNil, s_wipe0, s_wipeS, s_oSub, s_oAddI, s_oAdd, s_oLt, s_oLe, s_oGt, s_oGe, s_oNeg, s_oNot, s_oMul, s_oMulW, s_oMod, s_oFdiv, s_oPow, s_oIsN, s_oNotN, s_oIsB, s_oNotB, s_isNon_int, s_isNon_non, s_isNon_bl, s_isNon_str, s_isNon_tup, s_isNon_lst, s_isNon_dic, s_oEqI, s_oNeI, s_oIxT, s_oIxL, s_oSlT, s_oSlL, s_oRevT, s_oRevL, s_oInt, s_oIntB, s_oAbs, s_oMax2, s_oMin2, s_oLen, s_plenT, s_plenL, s_plenD, s_plenS, s_oTupleL, s_oTupleT, s_oListL, s_oListT, List.set_cons_succ, List.set_cons_zero, List.append_nil, true_and, x_bl, x_int, x_some, x_addT, x_addL, x_true, x_false]
        refine ite_f (by decide) ?_
        refine hN2 _ ⟨os, some (.int (f : Nat)), some .non, by omega, ho1, fun a x0 p ha h1 h2 => ?_, rfl⟩
        rcases Nat.lt_succ_iff_lt_or_eq.mp ha with z | z
        · exact ho2 a x0 p z h1 h2
        · rw [z, lp_none.mpr hc] at h2; cases h2
      · try simp only [s_mVar0, s_mVarS, s_mVarO0, s_mVarOS, s_isObj_lst, s_isObj_dic, s_mC, s_mOp, s_mOp1, s_mB, s_mNil, s_mCons, s_mTup, s_mLst, s_mCall, s_mTB, s_mNot, s_mAnd, s_mOr, s_mAndV, s_mOrV, s_mIf, s_mYes, s_mSl, s_mNo, s_mPart, s_mLc, s_mItems, s_mRng1, s_mRng2, s_mEnum, s_mChain, s_seqT, s_seqL, s_sNext, s_sSeq, s_sIf, s_sSet, s_sRet, s_sRetN, s_sBreak, s_sCont, s_sDrop, s_sPar, s_setN0, s_setNS, s_sAsg, s_sApp, s_sAug, s_sFor, s_sSrc, s_gmN, s_gmT, s_gmCons, s_gmNil, s_wipe0, s_wipeS, s_oSub, s_oAddI, s_oAdd, s_oLt, s_oLe, s_oGt, s_oGe, s_oNeg, s_oNot, s_oMul, s_oMulW, s_oMod, s_oFdiv, s_oPow, s_oIsN, s_oNotN, s_oIsB, s_oNotB, s_isNon_int, s_isNon_non, s_isNon_bl, s_isNon_str, s_isNon_tup, s_isNon_lst, s_isNon_dic, s_oEqI, s_oNeI, s_oIxT, s_oIxL, s_oSlT, s_oSlL, s_oRevT, s_oRevL, s_oInt, s_oIntB, s_oAbs, s_oMax2, s_oMin2, s_oLen, s_plenT, s_plenL, s_plenD, s_plenS, s_oTupleL, s_oTupleT, s_oListL, s_oListT, List.set_cons_succ, List.set_cons_zero, List.append_nil, true_and, x_bl, x_int, x_some, x_addT, x_addL, x_true, x_false]
        refine ite_t (by decide) ?_
        refine ⟨_, at_w, ?_⟩
        try simp only [s_mVar0, s_mVarS, s_mVarO0, s_mVarOS, s_isObj_lst, s_isObj_dic, s_mC, s_mOp, s_mOp1, s_mB, s_mNil, s_mCons, s_mTup, s_mLst, s_mCall, s_mTB, s_mNot, s_mAnd, s_mOr, s_mAndV, s_mOrV, s_mIf, s_mYes, s_mSl, s_mNo, s_mPart, s_mLc, s_mItems, s_mRng1, s_mRng2, s_mEnum, s_mChain, s_seqT, s_seqL, s_sNext, s_sSeq, s_sIf, s_sSet, s_sRet, s_sRetN, s_sBreak, s_sCont, s_sDrop, s_sPar, s_setN0, s_setNS, s_sAsg, s_sApp, s_sAug, s_sFor, s_sSrc, s_gmN, s_gmT, s_gmCons, s_gmNil, s_wipe0, s_wipeS, s_oSub, s_oAddI, s_oAdd, s_oLt, s_oLe, s_oGt, s_oGe, s_oNeg, s_oNot, s_oMul, s_oMulW, s_oMod, s_oFdiv, s_oPow, s_oIsN, s_oNotN, s_oIsB, s_oNotB, s_isNon_int, s_isNon_non, s_isNon_bl, s_isNon_str, s_isNon_tup, s_isNon_lst, s_isNon_dic, s_oEqI, s_oNeI, s_oIxT, s_oIxL, s_oSlT, s_oSlL, s_oRevT, s_oRevL, s_oInt, s_oIntB, s_oAbs, s_oMax2, s_oMin2, s_oLen, s_plenT, s_plenL, s_plenD, s_plenS, s_oTupleL, s_oTupleT, s_oListL, s_oListT, List.set_cons_succ, List.set_cons_zero, List.append_nil, true_and, x_bl, x_int, x_some, x_addT, x_addL, x_true, x_false]
        rw [isNon_wP]
        cases w with
        | none =>
          rw [show (!(none : Way).isNone) = false from rfl, if_neg Bool.false_ne_true]
          refine hN2 _ ⟨os, some (.int (f : Nat)), _, by omega, ho1, fun a x0 p ha h1 h2 => ?_, rfl⟩
          rcases Nat.lt_succ_iff_lt_or_eq.mp ha with z | z
          · exact ho2 a x0 p z h1 h2
          · rw [z, ← W.lv] at h1; cases h1
        | some xr =>
          obtain ⟨x0, r⟩ := xr
          have hlv : lev lots prices f = some x0 := W.lv.symm
          rw [show (!(some (x0, r) : Way).isNone) = true from rfl, if_pos rfl]
          refine ⟨_, rfl, ?_⟩
          try simp only [s_mVar0, s_mVarS, s_mVarO0, s_mVarOS, s_isObj_lst, s_isObj_dic, s_mC, s_mOp, s_mOp1, s_mB, s_mNil, s_mCons, s_mTup, s_mLst, s_mCall, s_mTB, s_mNot, s_mAnd, s_mOr, s_mAndV, s_mOrV, s_mIf, s_mYes, s_mSl, s_mNo, s_mPart, s_mLc, s_mItems, s_mRng1, s_mRng2, s_mEnum, s_mChain, s_seqT, s_seqL, s_sNext, s_sSeq, s_sIf, s_sSet, s_sRet, s_sRetN, s_sBreak, s_sCont, s_sDrop, s_sPar, s_setN0, s_setNS, s_sAsg, s_sApp, s_sAug, s_sFor, s_sSrc, s_gmN, s_gmT, s_gmCons, s_gmNil, s_wipe0, s_wipeS, s_oSub, s_oAddI, s_oAdd, s_oLt, s_oLe, s_oGt, s_oGe, s_oNeg, s_oNot, s_oMul, s_oMulW, s_oMod, s_oFdiv, s_oPow, s_oIsN, s_oNotN, s_oIsB, s_oNotB, s_isNon_int, s_isNon_non, s_isNon_bl, s_isNon_str, s_isNon_tup, s_isNon_lst, s_isNon_dic, s_oEqI, s_oNeI, s_oIxT, s_oIxL, s_oSlT, s_oSlL, s_oRevT, s_oRevL, s_oInt, s_oIntB, s_oAbs, s_oMax2, s_oMin2, s_oLen, s_plenT, s_plenL, s_plenD, s_plenS, s_oTupleL, s_oTupleT, s_oListL, s_oListT, List.set_cons_succ, List.set_cons_zero, List.append_nil, true_and, x_bl, x_int, x_some, x_addT, x_addL, x_true, x_false]
          refine ⟨_, at_w, ?_⟩
          have step : ∀ (P : PV → Prop), P (.int x0) → oIx (wP (some (x0, r))) (.int 0) P := fun P hP => by
            cases r with
            | none => exact s_oIxT.mpr ⟨_, rfl, hP⟩
            | some t => obtain ⟨a, b, c⟩ := t; exact s_oIxT.mpr ⟨_, rfl, hP⟩
          refine step _ ⟨.int p, rfl, ?_⟩
          try simp only [s_mVar0, s_mVarS, s_mVarO0, s_mVarOS, s_isObj_lst, s_isObj_dic, s_mC, s_mOp, s_mOp1, s_mB, s_mNil, s_mCons, s_mTup, s_mLst, s_mCall, s_mTB, s_mNot, s_mAnd, s_mOr, s_mAndV, s_mOrV, s_mIf, s_mYes, s_mSl, s_mNo, s_mPart, s_mLc, s_mItems, s_mRng1, s_mRng2, s_mEnum, s_mChain, s_seqT, s_seqL, s_sNext, s_sSeq, s_sIf, s_sSet, s_sRet, s_sRetN, s_sBreak, s_sCont, s_sDrop, s_sPar, s_setN0, s_setNS, s_sAsg, s_sApp, s_sAug, s_sFor, s_sSrc, s_gmN, s_gmT, s_gmCons, s_gmNil, s_wipe0, s_wipeS, s_oSub, s_oAddI, s_oAdd, s_oLt, s_oLe, s_oGt, s_oGe, s_oNeg, s_oNot, s_oMul, s_oMulW, s_oMod, s_oFdiv, s_oPow, s_oIsN, s_oNotN, s_oIsB, s_oNotB, s_isNon_int, s_isNon_non, s_isNon_bl, s_isNon_str, s_isNon_tup, s_isNon_lst, s_isNon_dic, s_oEqI, s_oNeI, s_oIxT, s_oIxL, s_oSlT, s_oSlL, s_oRevT, s_oRevL, s_oInt, s_oIntB, s_oAbs, s_oMax2, s_oMin2, s_oLen, s_plenT, s_plenL, s_plenD, s_plenS, s_oTupleL, s_oTupleT, s_oListL, s_oListT, List.set_cons_succ, List.set_cons_zero, List.append_nil, true_and, x_bl, x_int, x_some, x_addT, x_addL, x_true, x_false]
          refine ⟨.int u, rfl, line (by simp), line (by simp), by rw [List.length_map]; exact small_line (by omega), ?_⟩
          refine hN2 _ ⟨os ++ [(x0 + p, f, u)], some (.int (f : Nat)), some (.tup [.int p, .int u]), by rw [List.length_append, List.length_singleton]; omega, fun o ho => ?_, fun a x1 p1 ha h1 h2 => ?_, ?_⟩
          · rcases List.mem_append.mp ho with z | z
            · exact ho1 o z
            · rw [List.mem_singleton.mp z]
              exact ⟨x0, p, (by show f ≤ i; omega), hlv, hp, rfl⟩
          · rcases Nat.lt_succ_iff_lt_or_eq.mp ha with z | z
            · obtain ⟨o, ho, e⟩ := ho2 a x1 p1 z h1 h2
              exact ⟨o, List.mem_append_left _ ho, e⟩
            · subst z
              rw [hlv] at h1; cases h1
              rw [lp_of hp] at h2; cases h2
              exact ⟨_, List.mem_append_right _ (List.mem_singleton.mpr rfl), rfl⟩
          · rw [List.map_append]; rfl
    · obtain ⟨os, y5, y6, hol, ho1, ho2, rfl⟩ := hE2
      rw [rng_len] at hol ho2
      have push : ∀ w : Way, WOk lots prices (i + 1) w → ∀ y5 y6, N [some (crs lots), some (tI prices), some (.lst (ws.map wP ++ [wP w])), some (.int (i : Nat)), some (.lst (os.map (oP i))), y5, y6] := fun w hw y5 y6 => by
        refine hN _ ⟨ws ++ [w], _, _, _, _, by rw [List.length_append, hwl]; rfl, fun j w' hj => ?_, by rw [List.map_append]; rfl⟩
        rcases Nat.lt_or_ge j ws.length with z | z
        · rw [List.getElem?_append_left z] at hj; exact hW j w' hj
        · rw [List.getElem?_append_right z] at hj
          have e0 : j - ws.length = 0 := by have := (List.getElem?_eq_some_iff.mp hj).1; simp at this; omega
          rw [e0] at hj
          have : j = i + 1 := by omega
          rw [this, ← Option.some.inj hj]; exact hw
      try simp only [s_mVar0, s_mVarS, s_mVarO0, s_mVarOS, s_isObj_lst, s_isObj_dic, s_mC, s_mOp, s_mOp1, s_mB, s_mNil, s_mCons, s_mTup, s_mLst, s_mCall, s_mTB, s_mNot, s_mAnd, s_mOr, s_mAndV, s_mOrV, s_mIf, s_mYes, s_mSl, s_mNo, s_mPart, s_mLc, s_mItems, s_mRng1, s_mRng2, s_mEnum, s_mChain, s_seqT, s_seqL, s_sNext, s_sSeq, s_sIf, s_sSet, s_sRet, s_sRetN, s_sBreak, s_sCont, s_sDrop, s_sPar, s_setN0, s_setNS, s_sAsg, s_sApp, s_sAug, s_sFor, s_sSrc, s_gmN, s_gmT, s_gmCons, s_gmNil, s_wipe0, s_wipeS, s_oSub, s_oAddI, s_oAdd, s_oLt, s_oLe, s_oGt, s_oGe, s_oNeg, s_oNot, s_oMul, s_oMulW, s_oMod, s_oFdiv, s_oPow, s_oIsN, s_oNotN, s_oIsB, s_oNotB, s_isNon_int, s_isNon_non, s_isNon_bl, s_isNon_str, s_isNon_tup, s_isNon_lst, s_isNon_dic, s_oEqI, s_oNeI, s_oIxT, s_oIxL, s_oSlT, s_oSlL, s_oRevT, s_oRevL, s_oInt, s_oIntB, s_oAbs, s_oMax2, s_oMin2, s_oLen, s_plenT, s_plenL, s_plenD, s_plenS, s_oTupleL, s_oTupleT, s_oListL, s_oListT, List.set_cons_succ, List.set_cons_zero, List.append_nil, true_and, x_bl, x_int, x_some, x_addT, x_addL, x_true, x_false]
      refine ⟨_, rfl, ?_⟩
      try simp only [s_mVar0, s_mVarS, s_mVarO0, s_mVarOS, s_isObj_lst, s_isObj_dic, s_mC, s_mOp, s_mOp1, s_mB, s_mNil, s_mCons, s_mTup, s_mLst, s_mCall, s_mTB, s_mNot, s_mAnd, s_mOr, s_mAndV, s_mOrV, s_mIf, s_mYes, s_mSl, s_mNo, s_mPart, s_mLc, s_mItems, s_mRng1, s_mRng2, s_mEnum, s_mChain, s_seqT, s_seqL, s_sNext, s_sSeq, s_sIf, s_sSet, s_sRet, s_sRetN, s_sBreak, s_sCont, s_sDrop, s_sPar, s_setN0, s_setNS, s_sAsg, s_sApp, s_sAug, s_sFor, s_sSrc, s_gmN, s_gmT, s_gmCons, s_gmNil, s_wipe0, s_wipeS, s_oSub, s_oAddI, s_oAdd, s_oLt, s_oLe, s_oGt, s_oGe, s_oNeg, s_oNot, s_oMul, s_oMulW, s_oMod, s_oFdiv, s_oPow, s_oIsN, s_oNotN, s_oIsB, s_oNotB, s_isNon_int, s_isNon_non, s_isNon_bl, s_isNon_str, s_isNon_tup, s_isNon_lst, s_isNon_dic, s_oEqI, s_oNeI, s_oIxT, s_oIxL, s_oSlT, s_oSlL, s_oRevT, s_oRevL, s_oInt, s_oIntB, s_oAbs, s_oMax2, s_oMin2, s_oLen, s_plenT, s_plenL, s_plenD, s_plenS, s_oTupleL, s_oTupleT, s_oListL, s_oListT, List.set_cons_succ, List.set_cons_zero, List.append_nil, true_and, x_bl, x_int, x_some, x_addT, x_addL, x_true, x_false]
      have lenok : (ws.map wP).length < sizeLine := by rw [List.length_map]; exact small_line (by omega)
      refine ⟨Nat.zero_le _, oEq_nil (f := oD i) (n := 2) (fun _ => rfl) (fun _ => ⟨rfl, Nat.le_refl _⟩) (by decide) ⟨_, rfl, ?_⟩⟩
      by_cases he : os = []
      · rw [he, show ([] : List (Int × Nat × Nat)).isEmpty = true from rfl, if_pos rfl]
        subst he
        refine ⟨lenok, push none ⟨?_, fun x r e => by cases e⟩ _ _⟩
        refine (lev_none.mpr fun a x ha h1 => ?_).symm
        cases q : lp lots prices a i with
        | none => rfl
        | some p => obtain ⟨o, ho, _⟩ := ho2 a x p (by omega) h1 q; cases ho
      · have hb : os.isEmpty = false := by cases os with
          | nil => exact absurd rfl he
          | cons _ _ => rfl
        rw [hb, if_neg Bool.false_ne_true]
        have hpos := List.length_pos_iff.mpr he
        refine ⟨_, _, os.map (oD i), rfl, rfl, toDs_map (fun _ => rfl) os, ⟨fun x hx y hy => ?_, fun x hx => ?_⟩, ?_, by rw [List.length_map]; exact hpos, fun p hp => ⟨lenok, ?_⟩⟩
        · obtain ⟨o, _, rfl⟩ := List.mem_map.mp hx
          obtain ⟨o', _, rfl⟩ := List.mem_map.mp hy
          rfl
        · obtain ⟨o, _, rfl⟩ := List.mem_map.mp hx
          exact fun z => by cases z
        · exact Nat.le_trans (lay_map (n := 2) (f := oD i) (fun _ => ⟨rfl, Nat.le_refl _⟩) os).2 (by decide)
        · obtain ⟨o, ho, hom, hle⟩ := bestLt_key (xs := os) (f := oD i) (k := fun o => o.1) (fun x y z => by unfold oD; rw [dataLt_hd (by omega)]; exact decide_eq_true z) (fun x y z => by unfold oD; rw [dataLt_hd (by omega)]; exact decide_eq_false (by omega)) hpos
          rw [List.getElem?_map, ho] at hp
          cases hp
          obtain ⟨x0, p, ha, hl0, hLP, ex⟩ := ho1 o hom
          refine push (some (o.1, some (o.2.1, i, o.2.2))) ⟨?_, fun x r e => ?_⟩ _ _
          · refine (lev_some.mpr ⟨⟨o.2.1, x0, p, ha, hl0, lp_of hLP, ex⟩, fun a x y h1 h2 h3 => ?_⟩).symm
            obtain ⟨o', ho', e'⟩ := ho2 a x y (by omega) h2 h3
            rw [← e']; exact hle o' ho'
          · cases e
            exact ⟨o.2.1, o.2.2, x0, p, rfl, ha, hl0, hLP, ex⟩
  · obtain ⟨ws, y3, y4, y5, y6, hwl, hW, rfl⟩ := hE
    rw [rng_len] at hwl
    try simp only [s_mVar0, s_mVarS, s_mVarO0, s_mVarOS, s_isObj_lst, s_isObj_dic, s_mC, s_mOp, s_mOp1, s_mB, s_mNil, s_mCons, s_mTup, s_mLst, s_mCall, s_mTB, s_mNot, s_mAnd, s_mOr, s_mAndV, s_mOrV, s_mIf, s_mYes, s_mSl, s_mNo, s_mPart, s_mLc, s_mItems, s_mRng1, s_mRng2, s_mEnum, s_mChain, s_seqT, s_seqL, s_sNext, s_sSeq, s_sIf, s_sSet, s_sRet, s_sRetN, s_sBreak, s_sCont, s_sDrop, s_sPar, s_setN0, s_setNS, s_sAsg, s_sApp, s_sAug, s_sFor, s_sSrc, s_gmN, s_gmT, s_gmCons, s_gmNil, s_wipe0, s_wipeS, s_oSub, s_oAddI, s_oAdd, s_oLt, s_oLe, s_oGt, s_oGe, s_oNeg, s_oNot, s_oMul, s_oMulW, s_oMod, s_oFdiv, s_oPow, s_oIsN, s_oNotN, s_oIsB, s_oNotB, s_isNon_int, s_isNon_non, s_isNon_bl, s_isNon_str, s_isNon_tup, s_isNon_lst, s_isNon_dic, s_oEqI, s_oNeI, s_oIxT, s_oIxL, s_oSlT, s_oSlL, s_oRevT, s_oRevL, s_oInt, s_oIntB, s_oAbs, s_oMax2, s_oMin2, s_oLen, s_plenT, s_plenL, s_plenD, s_plenS, s_oTupleL, s_oTupleT, s_oListL, s_oListT, List.set_cons_succ, List.set_cons_zero, List.append_nil, true_and, x_bl, x_int, x_some, x_addT, x_addL, x_true, x_false]
    exact h ws hwl hW
end K46

set_option maxHeartbeats 1000000
namespace K46
open PySem L2 PM
abbrev Row := Nat × Nat × Nat
abbrev rP (r : Row) : PV := .tup [.int (r.1 : Nat), .int (r.2.1 : Nat), .int (r.2.2 : Nat)]
def cost (prices : List Int) (rows : List Row) : Int := (rows.map fun r => prices.getD r.2.2 0).sum
def Chain (lots : List (List Int)) (prices : List Int) : Nat → List Row → Nat → Prop
  | s, [], e => s = e
  | s, r :: rows, e => r.1 = s ∧ s ≤ r.2.1 ∧ cnt lots s r.2.1 ≤ r.2.2 ∧ r.2.2 < prices.length ∧ Chain lots prices (r.2.1 + 1) rows e
def wD : Way → PyData
  | none => .none
  | some (x, none) => .tuple [.int x, .none]
  | some (x, some (a, b, u)) => .tuple [.int x, .tuple [.int (a : Nat), .int (b : Nat), .int (u : Nat)]]
theorem toD_wP (w : Way) : toD (wP w) = some (wD w) := by
  cases w with
  | none => rfl
  | some p => obtain ⟨x, r⟩ := p; cases r with
    | none => rfl
    | some t => obtain ⟨a, b, c⟩ := t; rfl
theorem lay_wD (w : Way) : PyData.canLay0 (wD w) = true ∧ PyData.depth (wD w) ≤ 2 := by
  cases w with
  | none => exact ⟨rfl, Nat.zero_le _⟩
  | some p => obtain ⟨x, r⟩ := p; cases r with
    | none => exact ⟨rfl, by show 1 ≤ 2; decide⟩
    | some t => obtain ⟨a, b, c⟩ := t; exact ⟨rfl, Nat.le_refl _⟩
theorem eqv_wD (w : Way) : PyData.eqv (wD w) .none = w.isNone := by
  cases w with
  | none => rfl
  | some p => obtain ⟨x, r⟩ := p; cases r with
    | none => rfl
    | some t => obtain ⟨a, b, c⟩ := t; rfl
theorem none_in {ws : List Way} {P : PV → Prop} (h : P (.bl (ws.any Option.isNone))) : oInA false .non (.tup (ws.map wP)) P := by
  refine ⟨_, .none, ws.map wD, rfl, rfl, toDs_map toD_wP ws, rfl, shaped_map lay_wD (by decide) ws, ?_⟩
  rw [Bool.false_xor, List.any_map]
  have e : ((fun z => PyData.eqv z .none) ∘ wD) = Option.isNone := funext eqv_wD
  rw [e]
  exact h
/-- whether all levels stand -/
def All (lots : List (List Int)) (prices : List Int) : Prop := ∀ j, j ≤ lots.length → (lev lots prices j).isSome = true
theorem any_none {lots : List (List Int)} {prices : List Int} {ws : List Way} (hl : ws.length = lots.length + 1) (hW : ∀ j w, ws[j]? = some w → WOk lots prices j w) : ws.any Option.isNone = false ↔ All lots prices := by
  rw [List.any_eq_false]
  constructor
  · intro h j hj
    have hw : ws[j]? = some (ws[j]'(by omega)) := List.getElem?_eq_getElem (by omega)
    have := h _ (List.mem_of_getElem? hw)
    rw [← (hW j _ hw).lv]
    cases q : ws[j]'(by omega) with
    | none => rw [q] at this; exact absurd rfl this
    | some p => rfl
  · intro h w hw
    obtain ⟨j, hj⟩ := List.mem_iff_getElem?.mp hw
    have jl := (List.getElem?_eq_some_iff.mp hj).1
    have := h j (by omega)
    rw [← (hW j _ hj).lv] at this
    cases w with
    | none => cases this
    | some p => simp
def sp_cheapest_plan : PM.Spec := fun ps P => ∃ (lots : List (List Int)) (prices : List Int), ps = [crs lots, tI prices] ∧ Good lots ∧ prices.length ≤ 100 ∧ (¬ All lots prices → P .non) ∧
  (All lots prices → ∀ rows : List Row, rows.length ≤ lots.length → Chain lots prices 0 rows lots.length → lev lots prices lots.length = some (cost prices rows) → P (.tup (rows.map rP)))
theorem h_cheapest_plan (ps : List PV) (Q : PV → Prop) (h : sp_cheapest_plan ps Q) : t_cheapest_plan sp_least_ways { nx := fun _ => nxOf .cl Q, rt := Q } (startE n_cheapest_plan.length ps) := by
  obtain ⟨lots, prices, rfl, hg, hl, h1, h2⟩ := h
  have hs := hg.small
  show t_cheapest_plan _ _ [some (crs lots), some (tI prices), none, none, none]
  unfold t_cheapest_plan
  try simp only [s_mVar0, s_mVarS, s_mVarO0, s_mVarOS, s_isObj_lst, s_isObj_dic, s_mC, s_mOp, s_mOp1, s_mB, s_mNil, s_mCons, s_mTup, s_mLst, s_mCall, s_mTB, s_mNot, s_mAnd, s_mOr, s_mAndV, s_mOrV, s_mIf, s_mYes, s_mSl, s_mNo, s_mPart, s_mLc, s_mItems, s_mRng1, s_mRng2, s_mEnum, s_mChain, s_seqT, s_seqL, s_sNext, s_sSeq, s_sIf, s_sSet, s_sRet, s_sRetN, s_sBreak, s_sCont, s_sDrop, s_sPar, s_setN0, s_setNS, s_sAsg, s_sApp, s_sAug, s_sFor, s_sSrc, s_gmN, s_gmT, s_gmCons, s_gmNil, s_wipe0, s_wipeS, s_oSub, s_oAddI, s_oAdd, s_oLt, s_oLe, s_oGt, s_oGe, s_oNeg, s_oNot, s_oMul, s_oMulW, s_oMod, s_oFdiv, s_oPow, s_oIsN, s_oNotN, s_oIsB, s_oNotB, s_isNon_int, s_isNon_non, s_isNon_bl, s_isNon_str, s_isNon_tup, s_isNon_lst, s_isNon_dic, s_oEqI, s_oNeI, s_oIxT, s_oIxL, s_oSlT, s_oSlL, s_oRevT, s_oRevL, s_oInt, s_oIntB, s_oAbs, s_oMax2, s_oMin2, s_oLen, s_plenT, s_plenL, s_plenD, s_plenS, s_oTupleL, s_oTupleT, s_oListL, s_oListT, List.set_cons_succ, List.set_cons_zero, List.append_nil, true_and, x_bl, x_int, x_some, x_addT, x_addL, x_true, x_false]
  refine ⟨lots, prices, rfl, hg, hl, fun ws hwl hW => ?_⟩
  try simp only [s_mVar0, s_mVarS, s_mVarO0, s_mVarOS, s_isObj_lst, s_isObj_dic, s_mC, s_mOp, s_mOp1, s_mB, s_mNil, s_mCons, s_mTup, s_mLst, s_mCall, s_mTB, s_mNot, s_mAnd, s_mOr, s_mAndV, s_mOrV, s_mIf, s_mYes, s_mSl, s_mNo, s_mPart, s_mLc, s_mItems, s_mRng1, s_mRng2, s_mEnum, s_mChain, s_seqT, s_seqL, s_sNext, s_sSeq, s_sIf, s_sSet, s_sRet, s_sRetN, s_sBreak, s_sCont, s_sDrop, s_sPar, s_setN0, s_setNS, s_sAsg, s_sApp, s_sAug, s_sFor, s_sSrc, s_gmN, s_gmT, s_gmCons, s_gmNil, s_wipe0, s_wipeS, s_oSub, s_oAddI, s_oAdd, s_oLt, s_oLe, s_oGt, s_oGe, s_oNeg, s_oNot, s_oMul, s_oMulW, s_oMod, s_oFdiv, s_oPow, s_oIsN, s_oNotN, s_oIsB, s_oNotB, s_isNon_int, s_isNon_non, s_isNon_bl, s_isNon_str, s_isNon_tup, s_isNon_lst, s_isNon_dic, s_oEqI, s_oNeI, s_oIxT, s_oIxL, s_oSlT, s_oSlL, s_oRevT, s_oRevL, s_oInt, s_oIntB, s_oAbs, s_oMax2, s_oMin2, s_oLen, s_plenT, s_plenL, s_plenD, s_plenS, s_oTupleL, s_oTupleT, s_oListL, s_oListT, List.set_cons_succ, List.set_cons_zero, List.append_nil, true_and, x_bl, x_int, x_some, x_addT, x_addL, x_true, x_false]
  refine none_in ⟨_, rfl, ?_⟩
  have ha := any_none hwl hW
  cases q : ws.any Option.isNone with
  | true =>
    refine ite_t rfl (h1 fun z => ?_)
    rw [ha.mpr z] at q; cases q
  | false =>
    have hall := ha.mp q
    refine ite_f (by decide) ⟨Nat.zero_le _, ?_⟩
    rw [List.length_map]
    refine ⟨fun m e => ∃ acc : List Row, m ≤ lots.length ∧ acc.length + m ≤ lots.length ∧ Chain lots prices m acc.reverse lots.length ∧ (∃ x, lev lots prices m = some x ∧ lev lots prices lots.length = some (x + cost prices acc.reverse)) ∧ e = [some (crs lots), some (tI prices), some (.tup (ws.map wP)), some (.lst (acc.map rP)), some (.int (m : Nat))],
      ⟨lots.length, [], Nat.le_refl _, by simp, rfl, ?_, rfl⟩, ?_⟩
    · obtain ⟨x, hx⟩ := Option.isSome_iff_exists.mp (hall lots.length (Nat.le_refl _))
      exact ⟨x, hx, by rw [hx]; show some x = some (x + 0); rw [Int.add_zero]⟩
    rintro m e ⟨acc, hm, hal, hch, ⟨x, hx, hsum⟩, rfl⟩
    try simp only [s_mVar0, s_mVarS, s_mVarO0, s_mVarOS, s_isObj_lst, s_isObj_dic, s_mC, s_mOp, s_mOp1, s_mB, s_mNil, s_mCons, s_mTup, s_mLst, s_mCall, s_mTB, s_mNot, s_mAnd, s_mOr, s_mAndV, s_mOrV, s_mIf, s_mYes, s_mSl, s_mNo, s_mPart, s_mLc, s_mItems, s_mRng1, s_mRng2, s_mEnum, s_mChain, s_seqT, s_seqL, s_sNext, s_sSeq, s_sIf, s_sSet, s_sRet, s_sRetN, s_sBreak, s_sCont, s_sDrop, s_sPar, s_setN0, s_setNS, s_sAsg, s_sApp, s_sAug, s_sFor, s_sSrc, s_gmN, s_gmT, s_gmCons, s_gmNil, s_wipe0, s_wipeS, s_oSub, s_oAddI, s_oAdd, s_oLt, s_oLe, s_oGt, s_oGe, s_oNeg, s_oNot, s_oMul, s_oMulW, s_oMod, s_oFdiv, s_oPow, s_oIsN, s_oNotN, s_oIsB, s_oNotB, s_isNon_int, s_isNon_non, s_isNon_bl, s_isNon_str, s_isNon_tup, s_isNon_lst, s_isNon_dic, s_oEqI, s_oNeI, s_oIxT, s_oIxL, s_oSlT, s_oSlL, s_oRevT, s_oRevL, s_oInt, s_oIntB, s_oAbs, s_oMax2, s_oMin2, s_oLen, s_plenT, s_plenL, s_plenD, s_plenS, s_oTupleL, s_oTupleT, s_oListL, s_oListT, List.set_cons_succ, List.set_cons_zero, List.append_nil, true_and, x_bl, x_int, x_some, x_addT, x_addL, x_true, x_false]
    by_cases h0 : 0 < m
    · refine ite_t (decide_eq_true (by omega)) ⟨_, rfl, ?_⟩
      try simp only [s_mVar0, s_mVarS, s_mVarO0, s_mVarOS, s_isObj_lst, s_isObj_dic, s_mC, s_mOp, s_mOp1, s_mB, s_mNil, s_mCons, s_mTup, s_mLst, s_mCall, s_mTB, s_mNot, s_mAnd, s_mOr, s_mAndV, s_mOrV, s_mIf, s_mYes, s_mSl, s_mNo, s_mPart, s_mLc, s_mItems, s_mRng1, s_mRng2, s_mEnum, s_mChain, s_seqT, s_seqL, s_sNext, s_sSeq, s_sIf, s_sSet, s_sRet, s_sRetN, s_sBreak, s_sCont, s_sDrop, s_sPar, s_setN0, s_setNS, s_sAsg, s_sApp, s_sAug, s_sFor, s_sSrc, s_gmN, s_gmT, s_gmCons, s_gmNil, s_wipe0, s_wipeS, s_oSub, s_oAddI, s_oAdd, s_oLt, s_oLe, s_oGt, s_oGe, s_oNeg, s_oNot, s_oMul, s_oMulW, s_oMod, s_oFdiv, s_oPow, s_oIsN, s_oNotN, s_oIsB, s_oNotB, s_isNon_int, s_isNon_non, s_isNon_bl, s_isNon_str, s_isNon_tup, s_isNon_lst, s_isNon_dic, s_oEqI, s_oNeI, s_oIxT, s_oIxL, s_oSlT, s_oSlL, s_oRevT, s_oRevL, s_oInt, s_oIntB, s_oAbs, s_oMax2, s_oMin2, s_oLen, s_plenT, s_plenL, s_plenD, s_plenS, s_oTupleL, s_oTupleT, s_oListL, s_oListT, List.set_cons_succ, List.set_cons_zero, List.append_nil, true_and, x_bl, x_int, x_some, x_addT, x_addL, x_true, x_false]
      obtain ⟨j, rfl⟩ : ∃ j, m = j + 1 := ⟨m - 1, by omega⟩
      have hw : ws[j + 1]? = some (ws[j + 1]'(by omega)) := List.getElem?_eq_getElem (by omega)
      generalize ws[j + 1]'(by omega) = w at hw
      have W := hW _ _ hw
      cases w with
      | none => rw [← W.lv] at hx; cases hx
      | some xr =>
        obtain ⟨x', r⟩ := xr
        have ex : x' = x := by rw [← W.lv] at hx; exact Option.some.inj hx
        subst ex
        obtain ⟨a, u, x0, p, rfl, haj, hla, hLP, ep⟩ := W.row x' r rfl
        have at_w : atI (ws.map wP) ((j + 1 : Nat) : Int) = some (.tup [.int x', rP (a, j, u)]) := by rw [atI_map, atI_pos (by omega), hw]; rfl
        refine ⟨_, at_w, s_oIxT.mpr ⟨rP (a, j, u), rfl, by rw [List.length_map]; exact small_line (by omega), ?_⟩⟩
        try simp only [s_mVar0, s_mVarS, s_mVarO0, s_mVarOS, s_isObj_lst, s_isObj_dic, s_mC, s_mOp, s_mOp1, s_mB, s_mNil, s_mCons, s_mTup, s_mLst, s_mCall, s_mTB, s_mNot, s_mAnd, s_mOr, s_mAndV, s_mOrV, s_mIf, s_mYes, s_mSl, s_mNo, s_mPart, s_mLc, s_mItems, s_mRng1, s_mRng2, s_mEnum, s_mChain, s_seqT, s_seqL, s_sNext, s_sSeq, s_sIf, s_sSet, s_sRet, s_sRetN, s_sBreak, s_sCont, s_sDrop, s_sPar, s_setN0, s_setNS, s_sAsg, s_sApp, s_sAug, s_sFor, s_sSrc, s_gmN, s_gmT, s_gmCons, s_gmNil, s_wipe0, s_wipeS, s_oSub, s_oAddI, s_oAdd, s_oLt, s_oLe, s_oGt, s_oGe, s_oNeg, s_oNot, s_oMul, s_oMulW, s_oMod, s_oFdiv, s_oPow, s_oIsN, s_oNotN, s_oIsB, s_oNotB, s_isNon_int, s_isNon_non, s_isNon_bl, s_isNon_str, s_isNon_tup, s_isNon_lst, s_isNon_dic, s_oEqI, s_oNeI, s_oIxT, s_oIxL, s_oSlT, s_oSlL, s_oRevT, s_oRevL, s_oInt, s_oIntB, s_oAbs, s_oMax2, s_oMin2, s_oLen, s_plenT, s_plenL, s_plenD, s_plenS, s_oTupleL, s_oTupleT, s_oListL, s_oListT, List.set_cons_succ, List.set_cons_zero, List.append_nil, true_and, x_bl, x_int, x_some, x_addT, x_addL, x_true, x_false]
        refine ⟨_, at_w, s_oIxT.mpr ⟨rP (a, j, u), rfl, s_oIxT.mpr ⟨.int (a : Nat), rfl, ?_⟩⟩⟩
        refine ⟨a, by omega, acc ++ [(a, j, u)], by omega, by rw [List.length_append, List.length_singleton]; omega, ?_, ⟨x0, hla, ?_⟩, ?_⟩
        · rw [List.reverse_append]
          exact ⟨rfl, haj, hLP.up, (List.getElem?_eq_some_iff.mp hLP.get).1, hch⟩
        · rw [hsum, List.reverse_append]
          have e : cost prices ([(a, j, u)].reverse ++ acc.reverse) = p + cost prices acc.reverse := by
            show (prices.getD u 0) + cost prices acc.reverse = _
            rw [List.getD_eq_getElem?_getD, hLP.get]; rfl
          rw [e, ep, Int.add_assoc]
        · rw [List.map_append]; rfl
    · have : m = 0 := by omega
      subst this
      refine ite_f (by simp) ?_
      rw [← List.map_reverse]
      rw [lev_zero] at hx
      cases hx
      refine h2 hall acc.reverse (by rw [List.length_reverse]; omega) hch ?_
      rw [hsum, Int.zero_add]
def sp_least_levels : PM.Spec := fun ps P => ∃ (lots : List (List Int)) (prices : List Int), ps = [crs lots, tI prices] ∧ Good lots ∧ prices.length ≤ 100 ∧ (¬ All lots prices → P .non) ∧
  (All lots prices → ∀ ls : List Int, ls.length = lots.length + 1 → (∀ j, j ≤ lots.length → ls[j]? = lev lots prices j) → P (tI ls))
theorem h_least_levels (ps : List PV) (Q : PV → Prop) (h : sp_least_levels ps Q) : t_least_levels sp_least_ways { nx := fun _ => nxOf .cl Q, rt := Q } (startE n_least_levels.length ps) := by
  obtain ⟨lots, prices, rfl, hg, hl, h1, h2⟩ := h
  have hs := hg.small
  show t_least_levels _ _ [some (crs lots), some (tI prices), none, none, none]
  unfold t_least_levels
  try simp only [s_mVar0, s_mVarS, s_mVarO0, s_mVarOS, s_isObj_lst, s_isObj_dic, s_mC, s_mOp, s_mOp1, s_mB, s_mNil, s_mCons, s_mTup, s_mLst, s_mCall, s_mTB, s_mNot, s_mAnd, s_mOr, s_mAndV, s_mOrV, s_mIf, s_mYes, s_mSl, s_mNo, s_mPart, s_mLc, s_mItems, s_mRng1, s_mRng2, s_mEnum, s_mChain, s_seqT, s_seqL, s_sNext, s_sSeq, s_sIf, s_sSet, s_sRet, s_sRetN, s_sBreak, s_sCont, s_sDrop, s_sPar, s_setN0, s_setNS, s_sAsg, s_sApp, s_sAug, s_sFor, s_sSrc, s_gmN, s_gmT, s_gmCons, s_gmNil, s_wipe0, s_wipeS, s_oSub, s_oAddI, s_oAdd, s_oLt, s_oLe, s_oGt, s_oGe, s_oNeg, s_oNot, s_oMul, s_oMulW, s_oMod, s_oFdiv, s_oPow, s_oIsN, s_oNotN, s_oIsB, s_oNotB, s_isNon_int, s_isNon_non, s_isNon_bl, s_isNon_str, s_isNon_tup, s_isNon_lst, s_isNon_dic, s_oEqI, s_oNeI, s_oIxT, s_oIxL, s_oSlT, s_oSlL, s_oRevT, s_oRevL, s_oInt, s_oIntB, s_oAbs, s_oMax2, s_oMin2, s_oLen, s_plenT, s_plenL, s_plenD, s_plenS, s_oTupleL, s_oTupleT, s_oListL, s_oListT, List.set_cons_succ, List.set_cons_zero, List.append_nil, true_and, x_bl, x_int, x_some, x_addT, x_addL, x_true, x_false]
  refine ⟨lots, prices, rfl, hg, hl, fun ws hwl hW => ?_⟩
  try simp only [s_mVar0, s_mVarS, s_mVarO0, s_mVarOS, s_isObj_lst, s_isObj_dic, s_mC, s_mOp, s_mOp1, s_mB, s_mNil, s_mCons, s_mTup, s_mLst, s_mCall, s_mTB, s_mNot, s_mAnd, s_mOr, s_mAndV, s_mOrV, s_mIf, s_mYes, s_mSl, s_mNo, s_mPart, s_mLc, s_mItems, s_mRng1, s_mRng2, s_mEnum, s_mChain, s_seqT, s_seqL, s_sNext, s_sSeq, s_sIf, s_sSet, s_sRet, s_sRetN, s_sBreak, s_sCont, s_sDrop, s_sPar, s_setN0, s_setNS, s_sAsg, s_sApp, s_sAug, s_sFor, s_sSrc, s_gmN, s_gmT, s_gmCons, s_gmNil, s_wipe0, s_wipeS, s_oSub, s_oAddI, s_oAdd, s_oLt, s_oLe, s_oGt, s_oGe, s_oNeg, s_oNot, s_oMul, s_oMulW, s_oMod, s_oFdiv, s_oPow, s_oIsN, s_oNotN, s_oIsB, s_oNotB, s_isNon_int, s_isNon_non, s_isNon_bl, s_isNon_str, s_isNon_tup, s_isNon_lst, s_isNon_dic, s_oEqI, s_oNeI, s_oIxT, s_oIxL, s_oSlT, s_oSlL, s_oRevT, s_oRevL, s_oInt, s_oIntB, s_oAbs, s_oMax2, s_oMin2, s_oLen, s_plenT, s_plenL, s_plenD, s_plenS, s_oTupleL, s_oTupleT, s_oListL, s_oListT, List.set_cons_succ, List.set_cons_zero, List.append_nil, true_and, x_bl, x_int, x_some, x_addT, x_addL, x_true, x_false]
  refine none_in ⟨_, rfl, ?_⟩
  have ha := any_none hwl hW
  cases q : ws.any Option.isNone with
  | true =>
    refine ite_t rfl (h1 fun z => ?_)
    rw [ha.mpr z] at q; cases q
  | false =>
    have hall := ha.mp q
    refine ite_f (by decide) ?_
    have hsome : ∀ w ∈ ws, ∃ x r, w = some (x, r) := fun w hw => by
      have := List.any_eq_false.mp q w hw
      cases w with
      | none => exact absurd rfl this
      | some p => exact ⟨p.1, p.2, rfl⟩
    refine comp_map (xs := ws) (emb := wP) (f := fun w => .int ((w.map (·.1)).getD 0)) (fun w hw => ?_) (line (by omega)) ?_
    · obtain ⟨x, r, rfl⟩ := hsome w hw
      cases r with
      | none =>
        refine ⟨[some (crs lots), some (tI prices), some (.tup (ws.map wP)), some (.int x), some .non], fun k hk => s_gmT.mpr ⟨rfl, s_gmCons.mpr (s_gmN.mpr (s_gmCons.mpr (s_gmN.mpr (s_gmNil.mpr hk))))⟩, fun Q hQ => hQ, fun Q hQ => ?_⟩
        try simp only [s_mVar0, s_mVarS, s_mVarO0, s_mVarOS, s_isObj_lst, s_isObj_dic, s_mC, s_mOp, s_mOp1, s_mB, s_mNil, s_mCons, s_mTup, s_mLst, s_mCall, s_mTB, s_mNot, s_mAnd, s_mOr, s_mAndV, s_mOrV, s_mIf, s_mYes, s_mSl, s_mNo, s_mPart, s_mLc, s_mItems, s_mRng1, s_mRng2, s_mEnum, s_mChain, s_seqT, s_seqL, s_sNext, s_sSeq, s_sIf, s_sSet, s_sRet, s_sRetN, s_sBreak, s_sCont, s_sDrop, s_sPar, s_setN0, s_setNS, s_sAsg, s_sApp, s_sAug, s_sFor, s_sSrc, s_gmN, s_gmT, s_gmCons, s_gmNil, s_wipe0, s_wipeS, s_oSub, s_oAddI, s_oAdd, s_oLt, s_oLe, s_oGt, s_oGe, s_oNeg, s_oNot, s_oMul, s_oMulW, s_oMod, s_oFdiv, s_oPow, s_oIsN, s_oNotN, s_oIsB, s_oNotB, s_isNon_int, s_isNon_non, s_isNon_bl, s_isNon_str, s_isNon_tup, s_isNon_lst, s_isNon_dic, s_oEqI, s_oNeI, s_oIxT, s_oIxL, s_oSlT, s_oSlL, s_oRevT, s_oRevL, s_oInt, s_oIntB, s_oAbs, s_oMax2, s_oMin2, s_oLen, s_plenT, s_plenL, s_plenD, s_plenS, s_oTupleL, s_oTupleT, s_oListL, s_oListT, List.set_cons_succ, List.set_cons_zero, List.append_nil, true_and, x_bl, x_int, x_some, x_addT, x_addL, x_true, x_false]
        exact hQ
      | some t =>
        obtain ⟨a, b, u⟩ := t
        refine ⟨[some (crs lots), some (tI prices), some (.tup (ws.map wP)), some (.int x), some (rP (a, b, u))], fun k hk => s_gmT.mpr ⟨rfl, s_gmCons.mpr (s_gmN.mpr (s_gmCons.mpr (s_gmN.mpr (s_gmNil.mpr hk))))⟩, fun Q hQ => hQ, fun Q hQ => ?_⟩
        try simp only [s_mVar0, s_mVarS, s_mVarO0, s_mVarOS, s_isObj_lst, s_isObj_dic, s_mC, s_mOp, s_mOp1, s_mB, s_mNil, s_mCons, s_mTup, s_mLst, s_mCall, s_mTB, s_mNot, s_mAnd, s_mOr, s_mAndV, s_mOrV, s_mIf, s_mYes, s_mSl, s_mNo, s_mPart, s_mLc, s_mItems, s_mRng1, s_mRng2, s_mEnum, s_mChain, s_seqT, s_seqL, s_sNext, s_sSeq, s_sIf, s_sSet, s_sRet, s_sRetN, s_sBreak, s_sCont, s_sDrop, s_sPar, s_setN0, s_setNS, s_sAsg, s_sApp, s_sAug, s_sFor, s_sSrc, s_gmN, s_gmT, s_gmCons, s_gmNil, s_wipe0, s_wipeS, s_oSub, s_oAddI, s_oAdd, s_oLt, s_oLe, s_oGt, s_oGe, s_oNeg, s_oNot, s_oMul, s_oMulW, s_oMod, s_oFdiv, s_oPow, s_oIsN, s_oNotN, s_oIsB, s_oNotB, s_isNon_int, s_isNon_non, s_isNon_bl, s_isNon_str, s_isNon_tup, s_isNon_lst, s_isNon_dic, s_oEqI, s_oNeI, s_oIxT, s_oIxL, s_oSlT, s_oSlL, s_oRevT, s_oRevL, s_oInt, s_oIntB, s_oAbs, s_oMax2, s_oMin2, s_oLen, s_plenT, s_plenL, s_plenD, s_plenS, s_oTupleL, s_oTupleT, s_oListL, s_oListT, List.set_cons_succ, List.set_cons_zero, List.append_nil, true_and, x_bl, x_int, x_some, x_addT, x_addL, x_true, x_false]
        exact hQ
    · refine s_oTupleL.mpr ?_
      have e : (ws.map fun w => PV.int ((w.map (·.1)).getD 0)) = (ws.map fun w => (w.map (·.1)).getD 0).map PV.int := by rw [List.map_map]; rfl
      rw [e]
      refine h2 hall _ (by rw [List.length_map, hwl]) fun j hj => ?_
      have hw : ws[j]? = some (ws[j]'(by omega)) := List.getElem?_eq_getElem (by omega)
      rw [List.getElem?_map, hw, ← (hW j _ hw).lv]
      obtain ⟨x, r, e⟩ := hsome _ (List.mem_of_getElem? hw)
      rw [e]; rfl
def sp_plan_price : PM.Spec := fun ps P => ∃ (prices : List Int) (rows : List Row), ps = [tI prices, .tup (rows.map rP)] ∧ rows.length ≤ 1000 ∧ (∀ r ∈ rows, r.2.2 < prices.length) ∧ P (.int (cost prices rows))
theorem h_plan_price (ps : List PV) (Q : PV → Prop) (h : sp_plan_price ps Q) : t_plan_price { nx := fun _ => nxOf .cl Q, rt := Q } (startE n_plan_price.length ps) := by
  obtain ⟨prices, rows, rfl, hl, hb, h⟩ := h
  show t_plan_price _ [some (tI prices), some (.tup (rows.map rP)), none, none, none]
  unfold t_plan_price
  try simp only [s_mVar0, s_mVarS, s_mVarO0, s_mVarOS, s_isObj_lst, s_isObj_dic, s_mC, s_mOp, s_mOp1, s_mB, s_mNil, s_mCons, s_mTup, s_mLst, s_mCall, s_mTB, s_mNot, s_mAnd, s_mOr, s_mAndV, s_mOrV, s_mIf, s_mYes, s_mSl, s_mNo, s_mPart, s_mLc, s_mItems, s_mRng1, s_mRng2, s_mEnum, s_mChain, s_seqT, s_seqL, s_sNext, s_sSeq, s_sIf, s_sSet, s_sRet, s_sRetN, s_sBreak, s_sCont, s_sDrop, s_sPar, s_setN0, s_setNS, s_sAsg, s_sApp, s_sAug, s_sFor, s_sSrc, s_gmN, s_gmT, s_gmCons, s_gmNil, s_wipe0, s_wipeS, s_oSub, s_oAddI, s_oAdd, s_oLt, s_oLe, s_oGt, s_oGe, s_oNeg, s_oNot, s_oMul, s_oMulW, s_oMod, s_oFdiv, s_oPow, s_oIsN, s_oNotN, s_oIsB, s_oNotB, s_isNon_int, s_isNon_non, s_isNon_bl, s_isNon_str, s_isNon_tup, s_isNon_lst, s_isNon_dic, s_oEqI, s_oNeI, s_oIxT, s_oIxL, s_oSlT, s_oSlL, s_oRevT, s_oRevL, s_oInt, s_oIntB, s_oAbs, s_oMax2, s_oMin2, s_oLen, s_plenT, s_plenL, s_plenD, s_plenS, s_oTupleL, s_oTupleT, s_oListL, s_oListT, List.set_cons_succ, List.set_cons_zero, List.append_nil, true_and, x_bl, x_int, x_some, x_addT, x_addL, x_true, x_false]
  refine comp_map (xs := rows) (emb := rP) (f := fun r => .int (prices.getD r.2.2 0)) (fun r hr => ⟨[some (tI prices), some (.tup (rows.map rP)), some (.int (r.1 : Nat)), some (.int (r.2.1 : Nat)), some (.int (r.2.2 : Nat))], fun k hk => s_gmT.mpr ⟨rfl, s_gmCons.mpr (s_gmN.mpr (s_gmCons.mpr (s_gmN.mpr (s_gmCons.mpr (s_gmN.mpr (s_gmNil.mpr hk))))))⟩, fun Q hQ => hQ, fun Q hQ => ?_⟩) (line (by omega)) (oSum_map h)
  try simp only [s_mVar0, s_mVarS, s_mVarO0, s_mVarOS, s_isObj_lst, s_isObj_dic, s_mC, s_mOp, s_mOp1, s_mB, s_mNil, s_mCons, s_mTup, s_mLst, s_mCall, s_mTB, s_mNot, s_mAnd, s_mOr, s_mAndV, s_mOrV, s_mIf, s_mYes, s_mSl, s_mNo, s_mPart, s_mLc, s_mItems, s_mRng1, s_mRng2, s_mEnum, s_mChain, s_seqT, s_seqL, s_sNext, s_sSeq, s_sIf, s_sSet, s_sRet, s_sRetN, s_sBreak, s_sCont, s_sDrop, s_sPar, s_setN0, s_setNS, s_sAsg, s_sApp, s_sAug, s_sFor, s_sSrc, s_gmN, s_gmT, s_gmCons, s_gmNil, s_wipe0, s_wipeS, s_oSub, s_oAddI, s_oAdd, s_oLt, s_oLe, s_oGt, s_oGe, s_oNeg, s_oNot, s_oMul, s_oMulW, s_oMod, s_oFdiv, s_oPow, s_oIsN, s_oNotN, s_oIsB, s_oNotB, s_isNon_int, s_isNon_non, s_isNon_bl, s_isNon_str, s_isNon_tup, s_isNon_lst, s_isNon_dic, s_oEqI, s_oNeI, s_oIxT, s_oIxL, s_oSlT, s_oSlL, s_oRevT, s_oRevL, s_oInt, s_oIntB, s_oAbs, s_oMax2, s_oMin2, s_oLen, s_plenT, s_plenL, s_plenD, s_plenS, s_oTupleL, s_oTupleT, s_oListL, s_oListT, List.set_cons_succ, List.set_cons_zero, List.append_nil, true_and, x_bl, x_int, x_some, x_addT, x_addL, x_true, x_false]
  have hu := hb r hr
  refine ⟨_, by rw [atI_map, atI_pos hu, List.getElem?_eq_getElem hu]; rfl, ?_⟩
  rw [List.getD_eq_getElem?_getD, List.getElem?_eq_getElem hu] at hQ
  exact hQ
end K46

set_option maxHeartbeats 2000000
namespace K46
open PySem L2 PM
def sp_l_is_number : PM.Spec := fun ps P => ∃ v, ps = [v] ∧ (pty v).isSome = true ∧ P (.bl (isNat v))
theorem h_l_is_number (ps : List PV) (Q : PV → Prop) (h : sp_l_is_number ps Q) : t_l_is_number { nx := fun _ => nxOf .cl Q, rt := Q } (startE n_l_is_number.length ps) := by
  obtain ⟨v, rfl, hv, h⟩ := h
  show t_l_is_number _ [some v]
  unfold t_l_is_number
  try simp only [s_mVar0, s_mVarS, s_mVarO0, s_mVarOS, s_isObj_lst, s_isObj_dic, s_mC, s_mOp, s_mOp1, s_mB, s_mNil, s_mCons, s_mTup, s_mLst, s_mCall, s_mTB, s_mNot, s_mAnd, s_mOr, s_mAndV, s_mOrV, s_mIf, s_mYes, s_mSl, s_mNo, s_mPart, s_mLc, s_mItems, s_mRng1, s_mRng2, s_mEnum, s_mChain, s_seqT, s_seqL, s_sNext, s_sSeq, s_sIf, s_sSet, s_sRet, s_sRetN, s_sBreak, s_sCont, s_sDrop, s_sPar, s_setN0, s_setNS, s_sAsg, s_sApp, s_sAug, s_sFor, s_sSrc, s_gmN, s_gmT, s_gmCons, s_gmNil, s_wipe0, s_wipeS, s_oSub, s_oAddI, s_oAdd, s_oLt, s_oLe, s_oGt, s_oGe, s_oNeg, s_oNot, s_oMul, s_oMulW, s_oMod, s_oFdiv, s_oPow, s_oIsN, s_oNotN, s_oIsB, s_oNotB, s_isNon_int, s_isNon_non, s_isNon_bl, s_isNon_str, s_isNon_tup, s_isNon_lst, s_isNon_dic, s_oEqI, s_oNeI, s_oIxT, s_oIxL, s_oSlT, s_oSlL, s_oRevT, s_oRevL, s_oInt, s_oIntB, s_oAbs, s_oMax2, s_oMin2, s_oLen, s_plenT, s_plenL, s_plenD, s_plenS, s_oTupleL, s_oTupleT, s_oListL, s_oListT, List.set_cons_succ, List.set_cons_zero, List.append_nil, true_and]
  refine oIsi_b known_int hv ⟨_, rfl, ?_⟩
  cases v with
  | int i => exact oIsi_of (b := false) (P := fun x => oNot x _) rfl rfl (s_oNot.mpr ⟨_, rfl, s_oGe.mpr h⟩)
  | bl b => exact oIsi_of (b := true) (P := fun x => oNot x _) rfl rfl (s_oNot.mpr ⟨_, rfl, h⟩)
  | non => exact h
  | str _ => exact h
  | tup _ => exact h
  | lst _ => exact h
  | dic _ _ => exact h
  | _ => cases hv
/-- a plain value, its parts too -/
def Dt (v : PV) : Prop := (pty v).isSome = true ∧ ∀ xs, v = .tup xs → xs.length ≤ 1000 ∧ ∀ x ∈ xs, (pty x).isSome = true
def D2 (v : PV) : Prop := (pty v).isSome = true ∧ ∀ xs, v = .tup xs → xs.length ≤ 1000 ∧ ∀ x ∈ xs, Dt x
def rowB (lots : List (List Int)) (prices : List Int) : PV → Bool
  | .tup [.int a, .int b, .int u] => decide (0 ≤ a) && (decide (0 ≤ b) && (decide (0 ≤ u) && (decide (a ≤ b) && (decide (b < lots.length) && (decide (u < prices.length) && decide ((cnt lots a.toNat b.toNat : Int) ≤ u))))))
  | _ => false
theorem isNat_int {x : PV} (h : isNat x = true) : ∃ i : Nat, x = .int (i : Int) := by
  cases x with
  | int i =>
    have : 0 ≤ i := of_decide_eq_true h
    exact ⟨i.toNat, by rw [Int.toNat_of_nonneg this]⟩
  | _ => cases h
theorem rowB_nat {lots : List (List Int)} {prices : List Int} {xs : List PV} (h : rowB lots prices (.tup xs) = true) : xs.length = 3 ∧ xs.all isNat = true := by
  match xs, h with
  | [.int a, .int b, .int u], h =>
    have h' : (decide (0 ≤ a) && (decide (0 ≤ b) && (decide (0 ≤ u) && (decide (a ≤ b) && (decide (b < lots.length) && (decide (u < prices.length) && decide ((cnt lots a.toNat b.toNat : Int) ≤ u))))))) = true := h
    rw [Bool.and_eq_true, Bool.and_eq_true, Bool.and_eq_true] at h'
    obtain ⟨h1, h2, h3, _⟩ := h'
    refine ⟨rfl, ?_⟩
    show (isNat (.int a) && (isNat (.int b) && (isNat (.int u) && true))) = true
    rw [show isNat (.int a) = decide (0 ≤ a) from rfl, show isNat (.int b) = decide (0 ≤ b) from rfl, show isNat (.int u) = decide (0 ≤ u) from rfl, h1, h2, h3]; rfl
theorem rowB_int {lots : List (List Int)} {prices : List Int} (a b u : Nat) : rowB lots prices (.tup [.int a, .int b, .int u]) = (decide (a ≤ b) && (decide (b < lots.length) && (decide (u < prices.length) && decide (cnt lots a b ≤ u)))) := by
  show (decide ((0 : Int) ≤ a) && (decide ((0 : Int) ≤ b) && (decide ((0 : Int) ≤ u) && (decide ((a : Int) ≤ b) && (decide ((b : Int) < lots.length) && (decide ((u : Int) < prices.length) && decide ((cnt lots (a : Int).toNat (b : Int).toNat : Int) ≤ u))))))) = _
  rw [decide_eq_true (by omega : (0 : Int) ≤ a), decide_eq_true (by omega : (0 : Int) ≤ b), decide_eq_true (by omega : (0 : Int) ≤ u), Bool.true_and, Bool.true_and, Bool.true_and, Int.toNat_natCast, Int.toNat_natCast]
  congr 1
  · exact decide_eq_decide.mpr (by omega)
  · congr 1
    · exact decide_eq_decide.mpr (by omega)
    · congr 1
      · exact decide_eq_decide.mpr (by omega)
      · exact decide_eq_decide.mpr (by omega)
/-- all of them numbers, as both sides ask -/
theorem nat3 {xs : List PV} (hl : xs.length = 3) (h : xs.all isNat = true) : ∃ a b u : Nat, xs = [.int a, .int b, .int u] := by
  match xs, hl with
  | [x, y, z], _ =>
    have h' : (isNat x && (isNat y && (isNat z && true))) = true := h
    rw [Bool.and_eq_true, Bool.and_eq_true, Bool.and_true] at h'
    obtain ⟨a, rfl⟩ := isNat_int h'.1
    obtain ⟨b, rfl⟩ := isNat_int h'.2.1
    obtain ⟨u, rfl⟩ := isNat_int h'.2.2
    exact ⟨a, b, u, rfl⟩
def sp_is_epoch_row : PM.Spec := fun ps P => ∃ (lots : List (List Int)) (prices : List Int) (v : PV), ps = [crs lots, tI prices, v] ∧ Good lots ∧ Dt v ∧ P (.bl (rowB lots prices v))
theorem h_is_epoch_row (ps : List PV) (Q : PV → Prop) (h : sp_is_epoch_row ps Q) : t_is_epoch_row sp_union_of sp_is_number { nx := fun _ => nxOf .cl Q, rt := Q } (startE n_is_epoch_row.length ps) := by
  obtain ⟨lots, prices, v, rfl, hg, ⟨hv, hd⟩, h⟩ := h
  show t_is_epoch_row _ _ _ [some (crs lots), some (tI prices), some v, none, none, none, none]
  unfold t_is_epoch_row
  try simp only [s_mVar0, s_mVarS, s_mVarO0, s_mVarOS, s_isObj_lst, s_isObj_dic, s_mC, s_mOp, s_mOp1, s_mB, s_mNil, s_mCons, s_mTup, s_mLst, s_mCall, s_mTB, s_mNot, s_mAnd, s_mOr, s_mAndV, s_mOrV, s_mIf, s_mYes, s_mSl, s_mNo, s_mPart, s_mLc, s_mItems, s_mRng1, s_mRng2, s_mEnum, s_mChain, s_seqT, s_seqL, s_sNext, s_sSeq, s_sIf, s_sSet, s_sRet, s_sRetN, s_sBreak, s_sCont, s_sDrop, s_sPar, s_setN0, s_setNS, s_sAsg, s_sApp, s_sAug, s_sFor, s_sSrc, s_gmN, s_gmT, s_gmCons, s_gmNil, s_wipe0, s_wipeS, s_oSub, s_oAddI, s_oAdd, s_oLt, s_oLe, s_oGt, s_oGe, s_oNeg, s_oNot, s_oMul, s_oMulW, s_oMod, s_oFdiv, s_oPow, s_oIsN, s_oNotN, s_oIsB, s_oNotB, s_isNon_int, s_isNon_non, s_isNon_bl, s_isNon_str, s_isNon_tup, s_isNon_lst, s_isNon_dic, s_oEqI, s_oNeI, s_oIxT, s_oIxL, s_oSlT, s_oSlL, s_oRevT, s_oRevL, s_oInt, s_oIntB, s_oAbs, s_oMax2, s_oMin2, s_oLen, s_plenT, s_plenL, s_plenD, s_plenS, s_oTupleL, s_oTupleT, s_oListL, s_oListT, List.set_cons_succ, List.set_cons_zero, List.append_nil, true_and, x_bl, x_int, x_some, x_addT, x_addL, x_true, x_false]
  cases v with
  | tup xs =>
    obtain ⟨hl, hp⟩ := hd xs rfl
    refine oIsi_of (b := true) rfl rfl ⟨_, rfl, ite_f (by decide) ?_⟩
    try simp only [s_mVar0, s_mVarS, s_mVarO0, s_mVarOS, s_isObj_lst, s_isObj_dic, s_mC, s_mOp, s_mOp1, s_mB, s_mNil, s_mCons, s_mTup, s_mLst, s_mCall, s_mTB, s_mNot, s_mAnd, s_mOr, s_mAndV, s_mOrV, s_mIf, s_mYes, s_mSl, s_mNo, s_mPart, s_mLc, s_mItems, s_mRng1, s_mRng2, s_mEnum, s_mChain, s_seqT, s_seqL, s_sNext, s_sSeq, s_sIf, s_sSet, s_sRet, s_sRetN, s_sBreak, s_sCont, s_sDrop, s_sPar, s_setN0, s_setNS, s_sAsg, s_sApp, s_sAug, s_sFor, s_sSrc, s_gmN, s_gmT, s_gmCons, s_gmNil, s_wipe0, s_wipeS, s_oSub, s_oAddI, s_oAdd, s_oLt, s_oLe, s_oGt, s_oGe, s_oNeg, s_oNot, s_oMul, s_oMulW, s_oMod, s_oFdiv, s_oPow, s_oIsN, s_oNotN, s_oIsB, s_oNotB, s_isNon_int, s_isNon_non, s_isNon_bl, s_isNon_str, s_isNon_tup, s_isNon_lst, s_isNon_dic, s_oEqI, s_oNeI, s_oIxT, s_oIxL, s_oSlT, s_oSlL, s_oRevT, s_oRevL, s_oInt, s_oIntB, s_oAbs, s_oMax2, s_oMin2, s_oLen, s_plenT, s_plenL, s_plenD, s_plenS, s_oTupleL, s_oTupleT, s_oListL, s_oListT, List.set_cons_succ, List.set_cons_zero, List.append_nil, true_and, x_bl, x_int, x_some, x_addT, x_addL, x_true, x_false]
    by_cases h3 : xs.length = 3
    · rw [decide_eq_true (by omega : (xs.length : Int) = 3)]
      refine ite_f (by decide) ?_
      rw [show mCompGo (gmN 6) mYes (mCall sp_is_number [.non] (mCons (mVar 6) mNil)) [some (crs lots), some (tI prices), some (.tup xs), none, none, none, none] _ xs [] = mCompGo (gmN 6) mYes (mCall sp_is_number [.non] (mCons (mVar 6) mNil)) [some (crs lots), some (tI prices), some (.tup xs), none, none, none, none] _ (xs.map id) [] from by rw [List.map_id]]
      refine comp_map (f := fun x => .bl (isNat x)) (fun x hx => ⟨_, fun k hk => s_gmN.mpr hk, fun Q hQ => hQ, fun Q hQ => ?_⟩) (line (by omega)) (oAll_map ⟨_, rfl, ?_⟩)
      · show mCall sp_is_number [.non] (mCons (mVar 6) mNil) [some (crs lots), some (tI prices), some (.tup xs), none, none, none, some x] Q
        try simp only [s_mVar0, s_mVarS, s_mVarO0, s_mVarOS, s_isObj_lst, s_isObj_dic, s_mC, s_mOp, s_mOp1, s_mB, s_mNil, s_mCons, s_mTup, s_mLst, s_mCall, s_mTB, s_mNot, s_mAnd, s_mOr, s_mAndV, s_mOrV, s_mIf, s_mYes, s_mSl, s_mNo, s_mPart, s_mLc, s_mItems, s_mRng1, s_mRng2, s_mEnum, s_mChain, s_seqT, s_seqL, s_sNext, s_sSeq, s_sIf, s_sSet, s_sRet, s_sRetN, s_sBreak, s_sCont, s_sDrop, s_sPar, s_setN0, s_setNS, s_sAsg, s_sApp, s_sAug, s_sFor, s_sSrc, s_gmN, s_gmT, s_gmCons, s_gmNil, s_wipe0, s_wipeS, s_oSub, s_oAddI, s_oAdd, s_oLt, s_oLe, s_oGt, s_oGe, s_oNeg, s_oNot, s_oMul, s_oMulW, s_oMod, s_oFdiv, s_oPow, s_oIsN, s_oNotN, s_oIsB, s_oNotB, s_isNon_int, s_isNon_non, s_isNon_bl, s_isNon_str, s_isNon_tup, s_isNon_lst, s_isNon_dic, s_oEqI, s_oNeI, s_oIxT, s_oIxL, s_oSlT, s_oSlL, s_oRevT, s_oRevL, s_oInt, s_oIntB, s_oAbs, s_oMax2, s_oMin2, s_oLen, s_plenT, s_plenL, s_plenD, s_plenS, s_oTupleL, s_oTupleT, s_oListL, s_oListT, List.set_cons_succ, List.set_cons_zero, List.append_nil, true_and, x_bl, x_int, x_some, x_addT, x_addL, x_true, x_false]
        exact ⟨x, rfl, hp x hx, hQ⟩
      cases hn : xs.all isNat with
      | false =>
        refine ite_t rfl ?_
        cases hr : rowB lots prices (.tup xs) with
        | false => rw [hr] at h; exact h
        | true => rw [(rowB_nat hr).2] at hn; cases hn
      | true =>
        refine ite_f (by decide) ?_
        obtain ⟨a, b, u, rfl⟩ := nat3 h3 hn
        rw [rowB_int] at h
        try simp only [s_mVar0, s_mVarS, s_mVarO0, s_mVarOS, s_isObj_lst, s_isObj_dic, s_mC, s_mOp, s_mOp1, s_mB, s_mNil, s_mCons, s_mTup, s_mLst, s_mCall, s_mTB, s_mNot, s_mAnd, s_mOr, s_mAndV, s_mOrV, s_mIf, s_mYes, s_mSl, s_mNo, s_mPart, s_mLc, s_mItems, s_mRng1, s_mRng2, s_mEnum, s_mChain, s_seqT, s_seqL, s_sNext, s_sSeq, s_sIf, s_sSet, s_sRet, s_sRetN, s_sBreak, s_sCont, s_sDrop, s_sPar, s_setN0, s_setNS, s_sAsg, s_sApp, s_sAug, s_sFor, s_sSrc, s_gmN, s_gmT, s_gmCons, s_gmNil, s_wipe0, s_wipeS, s_oSub, s_oAddI, s_oAdd, s_oLt, s_oLe, s_oGt, s_oGe, s_oNeg, s_oNot, s_oMul, s_oMulW, s_oMod, s_oFdiv, s_oPow, s_oIsN, s_oNotN, s_oIsB, s_oNotB, s_isNon_int, s_isNon_non, s_isNon_bl, s_isNon_str, s_isNon_tup, s_isNon_lst, s_isNon_dic, s_oEqI, s_oNeI, s_oIxT, s_oIxL, s_oSlT, s_oSlL, s_oRevT, s_oRevL, s_oInt, s_oIntB, s_oAbs, s_oMax2, s_oMin2, s_oLen, s_plenT, s_plenL, s_plenD, s_plenS, s_oTupleL, s_oTupleT, s_oListL, s_oListT, List.set_cons_succ, List.set_cons_zero, List.append_nil, true_and, x_bl, x_int, x_some, x_addT, x_addL, x_true, x_false]
        rw [List.length_map, List.length_map]
        refine ⟨rfl, ?_⟩
        by_cases h1 : a ≤ b
        · rw [decide_eq_true h1] at h
          rw [decide_eq_true (by omega : (a : Int) ≤ b)]
          refine ite_f (by decide) ?_
          by_cases h2 : b < lots.length
          · rw [decide_eq_true h2] at h
            rw [decide_eq_false (by omega : ¬ (lots.length : Int) ≤ b)]
            refine ite_f (by decide) ?_
            by_cases h4 : u < prices.length
            · rw [decide_eq_true h4] at h
              rw [decide_eq_false (by omega : ¬ (prices.length : Int) ≤ u)]
              refine ite_f (by decide) ⟨lots, a, b, rfl, hg, ?_⟩
              try simp only [s_mVar0, s_mVarS, s_mVarO0, s_mVarOS, s_isObj_lst, s_isObj_dic, s_mC, s_mOp, s_mOp1, s_mB, s_mNil, s_mCons, s_mTup, s_mLst, s_mCall, s_mTB, s_mNot, s_mAnd, s_mOr, s_mAndV, s_mOrV, s_mIf, s_mYes, s_mSl, s_mNo, s_mPart, s_mLc, s_mItems, s_mRng1, s_mRng2, s_mEnum, s_mChain, s_seqT, s_seqL, s_sNext, s_sSeq, s_sIf, s_sSet, s_sRet, s_sRetN, s_sBreak, s_sCont, s_sDrop, s_sPar, s_setN0, s_setNS, s_sAsg, s_sApp, s_sAug, s_sFor, s_sSrc, s_gmN, s_gmT, s_gmCons, s_gmNil, s_wipe0, s_wipeS, s_oSub, s_oAddI, s_oAdd, s_oLt, s_oLe, s_oGt, s_oGe, s_oNeg, s_oNot, s_oMul, s_oMulW, s_oMod, s_oFdiv, s_oPow, s_oIsN, s_oNotN, s_oIsB, s_oNotB, s_isNon_int, s_isNon_non, s_isNon_bl, s_isNon_str, s_isNon_tup, s_isNon_lst, s_isNon_dic, s_oEqI, s_oNeI, s_oIxT, s_oIxL, s_oSlT, s_oSlL, s_oRevT, s_oRevL, s_oInt, s_oIntB, s_oAbs, s_oMax2, s_oMin2, s_oLen, s_plenT, s_plenL, s_plenD, s_plenS, s_oTupleL, s_oTupleT, s_oListL, s_oListT, List.set_cons_succ, List.set_cons_zero, List.append_nil, true_and, x_bl, x_int, x_some, x_addT, x_addL, x_true, x_false]
              rw [List.length_map, isort_len]
              have e : decide (((keys (seg lots a b)).length : Int) ≤ u) = decide (cnt lots a b ≤ u) := decide_eq_decide.mpr (by unfold cnt; omega)
              rw [e]
              exact h
            · rw [decide_eq_false h4] at h
              rw [decide_eq_true (by omega : (prices.length : Int) ≤ u)]
              exact ite_t rfl h
          · rw [decide_eq_false h2] at h
            rw [decide_eq_true (by omega : (lots.length : Int) ≤ b)]
            exact ite_t rfl h
        · rw [decide_eq_false h1] at h
          rw [decide_eq_false (by omega : ¬ (a : Int) ≤ b)]
          exact ite_t rfl h
    · rw [decide_eq_false (by omega : ¬ (xs.length : Int) = 3)]
      refine ite_t rfl ?_
      cases hr : rowB lots prices (.tup xs) with
      | false => rw [hr] at h; exact h
      | true => exact absurd (rowB_nat hr).1 h3
  | _ => first | exact oIsi_of (b := false) rfl rfl ⟨_, rfl, ite_t rfl h⟩ | cases hv
end K46

set_option maxHeartbeats 2000000
namespace K46
open PySem L2 PM
def rA : PV → Int
  | .tup (.int a :: _) => a
  | _ => 0
def rB : PV → Int
  | .tup (_ :: .int b :: _) => b
  | _ => 0
/-- the rows one behind another -/
def seqB (lots : List (List Int)) (prices : List Int) : Int → List PV → Bool
  | ahead, [] => decide (ahead = lots.length - 1)
  | ahead, x :: xs => rowB lots prices x && (decide (rA x = ahead + 1) && seqB lots prices (rB x) xs)
def planB (lots : List (List Int)) (prices : List Int) : PV → Bool
  | .tup xs => seqB lots prices (-1) xs
  | _ => false
def zipOk (ahead : Int) (xs : List PV) : Bool := (xs.zip (ahead :: xs.map rB)).all fun p => decide (rA p.1 = p.2 + 1)
theorem seqB_all {lots : List (List Int)} {prices : List Int} : ∀ {xs : List PV} {ahead : Int}, seqB lots prices ahead xs = (xs.all (rowB lots prices) && (decide ((xs.map rB).getLastD ahead = lots.length - 1) && zipOk ahead xs))
  | [], ahead => by
    show decide (ahead = _) = (true && (decide (ahead = _) && true))
    rw [Bool.true_and, Bool.and_true]
  | x :: xs, ahead => by
    have e : ((x :: xs).map rB).getLastD ahead = (xs.map rB).getLastD (rB x) := by rw [List.map_cons, List.getLastD_cons]
    show (rowB lots prices x && (decide (rA x = ahead + 1) && seqB lots prices (rB x) xs)) = ((rowB lots prices x && xs.all (rowB lots prices)) && (decide (((x :: xs).map rB).getLastD ahead = lots.length - 1) && (decide (rA x = ahead + 1) && zipOk (rB x) xs)))
    rw [seqB_all, e]
    generalize decide ((xs.map rB).getLastD (rB x) = (lots.length : Int) - 1) = q
    cases rowB lots prices x <;> cases xs.all (rowB lots prices) <;> cases decide (rA x = ahead + 1) <;> cases q <;> rfl
theorem rowB_form {lots : List (List Int)} {prices : List Int} {x : PV} (h : rowB lots prices x = true) : ∃ a b u : Nat, x = .tup [.int a, .int b, .int u] ∧ a ≤ b ∧ b < lots.length ∧ u < prices.length ∧ cnt lots a b ≤ u := by
  cases x with
  | tup xs =>
    obtain ⟨h3, hn⟩ := rowB_nat h
    obtain ⟨a, b, u, rfl⟩ := nat3 h3 hn
    rw [rowB_int] at h
    simp at h
    exact ⟨a, b, u, rfl, h.1, h.2.1, h.2.2.1, h.2.2.2⟩
  | _ => cases h
def sp_is_degree_plan : PM.Spec := fun ps P => ∃ (lots : List (List Int)) (prices : List Int) (v : PV), ps = [crs lots, tI prices, v] ∧ Good lots ∧ D2 v ∧ P (.bl (planB lots prices v))
theorem h_is_degree_plan (ps : List PV) (Q : PV → Prop) (h : sp_is_degree_plan ps Q) : t_is_degree_plan sp_is_epoch_row { nx := fun _ => nxOf .cl Q, rt := Q } (startE n_is_degree_plan.length ps) := by
  obtain ⟨lots, prices, v, rfl, hg, ⟨hv, hd⟩, h⟩ := h
  show t_is_degree_plan _ _ [some (crs lots), some (tI prices), some v, none, none, none, none, none, none, none]
  unfold t_is_degree_plan
  try simp only [s_mVar0, s_mVarS, s_mVarO0, s_mVarOS, s_isObj_lst, s_isObj_dic, s_mC, s_mOp, s_mOp1, s_mB, s_mNil, s_mCons, s_mTup, s_mLst, s_mCall, s_mTB, s_mNot, s_mAnd, s_mOr, s_mAndV, s_mOrV, s_mIf, s_mYes, s_mSl, s_mNo, s_mPart, s_mLc, s_mItems, s_mRng1, s_mRng2, s_mEnum, s_mChain, s_seqT, s_seqL, s_sNext, s_sSeq, s_sIf, s_sSet, s_sRet, s_sRetN, s_sBreak, s_sCont, s_sDrop, s_sPar, s_setN0, s_setNS, s_sAsg, s_sApp, s_sAug, s_sFor, s_sSrc, s_gmN, s_gmT, s_gmCons, s_gmNil, s_wipe0, s_wipeS, s_oSub, s_oAddI, s_oAdd, s_oLt, s_oLe, s_oGt, s_oGe, s_oNeg, s_oNot, s_oMul, s_oMulW, s_oMod, s_oFdiv, s_oPow, s_oIsN, s_oNotN, s_oIsB, s_oNotB, s_isNon_int, s_isNon_non, s_isNon_bl, s_isNon_str, s_isNon_tup, s_isNon_lst, s_isNon_dic, s_oEqI, s_oNeI, s_oIxT, s_oIxL, s_oSlT, s_oSlL, s_oRevT, s_oRevL, s_oInt, s_oIntB, s_oAbs, s_oMax2, s_oMin2, s_oLen, s_plenT, s_plenL, s_plenD, s_plenS, s_oTupleL, s_oTupleT, s_oListL, s_oListT, List.set_cons_succ, List.set_cons_zero, List.append_nil, true_and, x_bl, x_int, x_some, x_addT, x_addL, x_true, x_false]
  cases v with
  | tup xs =>
    obtain ⟨hl, hp⟩ := hd xs rfl
    have hh : planB lots prices (.tup xs) = (xs.all (rowB lots prices) && (decide ((xs.map rB).getLastD (-1) = lots.length - 1) && zipOk (-1) xs)) := seqB_all
    rw [hh] at h
    refine oIsi_of (b := true) rfl rfl ⟨_, rfl, ite_f (by decide) ?_⟩
    try simp only [s_mVar0, s_mVarS, s_mVarO0, s_mVarOS, s_isObj_lst, s_isObj_dic, s_mC, s_mOp, s_mOp1, s_mB, s_mNil, s_mCons, s_mTup, s_mLst, s_mCall, s_mTB, s_mNot, s_mAnd, s_mOr, s_mAndV, s_mOrV, s_mIf, s_mYes, s_mSl, s_mNo, s_mPart, s_mLc, s_mItems, s_mRng1, s_mRng2, s_mEnum, s_mChain, s_seqT, s_seqL, s_sNext, s_sSeq, s_sIf, s_sSet, s_sRet, s_sRetN, s_sBreak, s_sCont, s_sDrop, s_sPar, s_setN0, s_setNS, s_sAsg, s_sApp, s_sAug, s_sFor, s_sSrc, s_gmN, s_gmT, s_gmCons, s_gmNil, s_wipe0, s_wipeS, s_oSub, s_oAddI, s_oAdd, s_oLt, s_oLe, s_oGt, s_oGe, s_oNeg, s_oNot, s_oMul, s_oMulW, s_oMod, s_oFdiv, s_oPow, s_oIsN, s_oNotN, s_oIsB, s_oNotB, s_isNon_int, s_isNon_non, s_isNon_bl, s_isNon_str, s_isNon_tup, s_isNon_lst, s_isNon_dic, s_oEqI, s_oNeI, s_oIxT, s_oIxL, s_oSlT, s_oSlL, s_oRevT, s_oRevL, s_oInt, s_oIntB, s_oAbs, s_oMax2, s_oMin2, s_oLen, s_plenT, s_plenL, s_plenD, s_plenS, s_oTupleL, s_oTupleT, s_oListL, s_oListT, List.set_cons_succ, List.set_cons_zero, List.append_nil, true_and, x_bl, x_int, x_some, x_addT, x_addL, x_true, x_false]
    rw [show mCompGo (gmN 7) mYes (mCall sp_is_epoch_row [] (mCons (mVar 0) (mCons (mVar 1) (mCons (mVar 7) mNil)))) [some (crs lots), some (tI prices), some (.tup xs), none, none, none, none, none, none, none] _ xs [] = mCompGo (gmN 7) mYes (mCall sp_is_epoch_row [] (mCons (mVar 0) (mCons (mVar 1) (mCons (mVar 7) mNil)))) [some (crs lots), some (tI prices), some (.tup xs), none, none, none, none, none, none, none] _ (xs.map id) [] from by rw [List.map_id]]
    refine comp_map (f := fun x => .bl (rowB lots prices x)) (fun x hx => ⟨_, fun k hk => s_gmN.mpr hk, fun Q hQ => hQ, fun Q hQ => ?_⟩) (line (by omega)) (oAll_map ⟨_, rfl, ?_⟩)
    · show mCall sp_is_epoch_row [] (mCons (mVar 0) (mCons (mVar 1) (mCons (mVar 7) mNil))) [some (crs lots), some (tI prices), some (.tup xs), none, none, none, none, some x, none, none] Q
      try simp only [s_mVar0, s_mVarS, s_mVarO0, s_mVarOS, s_isObj_lst, s_isObj_dic, s_mC, s_mOp, s_mOp1, s_mB, s_mNil, s_mCons, s_mTup, s_mLst, s_mCall, s_mTB, s_mNot, s_mAnd, s_mOr, s_mAndV, s_mOrV, s_mIf, s_mYes, s_mSl, s_mNo, s_mPart, s_mLc, s_mItems, s_mRng1, s_mRng2, s_mEnum, s_mChain, s_seqT, s_seqL, s_sNext, s_sSeq, s_sIf, s_sSet, s_sRet, s_sRetN, s_sBreak, s_sCont, s_sDrop, s_sPar, s_setN0, s_setNS, s_sAsg, s_sApp, s_sAug, s_sFor, s_sSrc, s_gmN, s_gmT, s_gmCons, s_gmNil, s_wipe0, s_wipeS, s_oSub, s_oAddI, s_oAdd, s_oLt, s_oLe, s_oGt, s_oGe, s_oNeg, s_oNot, s_oMul, s_oMulW, s_oMod, s_oFdiv, s_oPow, s_oIsN, s_oNotN, s_oIsB, s_oNotB, s_isNon_int, s_isNon_non, s_isNon_bl, s_isNon_str, s_isNon_tup, s_isNon_lst, s_isNon_dic, s_oEqI, s_oNeI, s_oIxT, s_oIxL, s_oSlT, s_oSlL, s_oRevT, s_oRevL, s_oInt, s_oIntB, s_oAbs, s_oMax2, s_oMin2, s_oLen, s_plenT, s_plenL, s_plenD, s_plenS, s_oTupleL, s_oTupleT, s_oListL, s_oListT, List.set_cons_succ, List.set_cons_zero, List.append_nil, true_and, x_bl, x_int, x_some, x_addT, x_addL, x_true, x_false]
      exact ⟨lots, prices, x, rfl, hg, hp x hx, hQ⟩
    cases ha : xs.all (rowB lots prices) with
    | false =>
      rw [ha] at h
      exact ite_t rfl h
    | true =>
      rw [ha, Bool.true_and] at h
      have hr : ∀ x ∈ xs, ∃ a b u : Nat, x = .tup [.int a, .int b, .int u] := fun x hx => by
        obtain ⟨a, b, u, e, _⟩ := rowB_form (List.all_eq_true.mp ha x hx)
        exact ⟨a, b, u, e⟩
      refine ite_f (by decide) ⟨line (by simp), ?_⟩
      rw [show mCompGo (gmT 3 (gmCons (gmN 4) (gmCons (gmN 5) (gmCons (gmN 6) gmNil)))) mYes (mVar 5) [some (crs lots), some (tI prices), some (.tup xs), none, none, none, none, none, none, none] _ xs [] = mCompGo (gmT 3 (gmCons (gmN 4) (gmCons (gmN 5) (gmCons (gmN 6) gmNil)))) mYes (mVar 5) [some (crs lots), some (tI prices), some (.tup xs), none, none, none, none, none, none, none] _ (xs.map id) [] from by rw [List.map_id]]
      refine comp_map (f := fun x => .int (rB x)) (fun x hx => ?_) (line (by omega)) ?_
      · obtain ⟨a, b, u, rfl⟩ := hr x hx
        refine ⟨[some (crs lots), some (tI prices), some (.tup xs), none, some (.int a), some (.int b), some (.int u), none, none, none], fun k hk => s_gmT.mpr ⟨rfl, s_gmCons.mpr (s_gmN.mpr (s_gmCons.mpr (s_gmN.mpr (s_gmCons.mpr (s_gmN.mpr (s_gmNil.mpr hk))))))⟩, fun Q hQ => hQ, fun Q hQ => ?_⟩
        try simp only [s_mVar0, s_mVarS, s_mVarO0, s_mVarOS, s_isObj_lst, s_isObj_dic, s_mC, s_mOp, s_mOp1, s_mB, s_mNil, s_mCons, s_mTup, s_mLst, s_mCall, s_mTB, s_mNot, s_mAnd, s_mOr, s_mAndV, s_mOrV, s_mIf, s_mYes, s_mSl, s_mNo, s_mPart, s_mLc, s_mItems, s_mRng1, s_mRng2, s_mEnum, s_mChain, s_seqT, s_seqL, s_sNext, s_sSeq, s_sIf, s_sSet, s_sRet, s_sRetN, s_sBreak, s_sCont, s_sDrop, s_sPar, s_setN0, s_setNS, s_sAsg, s_sApp, s_sAug, s_sFor, s_sSrc, s_gmN, s_gmT, s_gmCons, s_gmNil, s_wipe0, s_wipeS, s_oSub, s_oAddI, s_oAdd, s_oLt, s_oLe, s_oGt, s_oGe, s_oNeg, s_oNot, s_oMul, s_oMulW, s_oMod, s_oFdiv, s_oPow, s_oIsN, s_oNotN, s_oIsB, s_oNotB, s_isNon_int, s_isNon_non, s_isNon_bl, s_isNon_str, s_isNon_tup, s_isNon_lst, s_isNon_dic, s_oEqI, s_oNeI, s_oIxT, s_oIxL, s_oSlT, s_oSlL, s_oRevT, s_oRevL, s_oInt, s_oIntB, s_oAbs, s_oMax2, s_oMin2, s_oLen, s_plenT, s_plenL, s_plenD, s_plenS, s_oTupleL, s_oTupleT, s_oListL, s_oListT, List.set_cons_succ, List.set_cons_zero, List.append_nil, true_and, x_bl, x_int, x_some, x_addT, x_addL, x_true, x_false]
        exact hQ
      have e1 : [PV.int (-1)] ++ (xs.map fun x => PV.int (rB x)) = ((-1 : Int) :: xs.map rB).map PV.int := by
        rw [List.map_cons, List.map_map]; rfl
      try simp only [s_mVar0, s_mVarS, s_mVarO0, s_mVarOS, s_isObj_lst, s_isObj_dic, s_mC, s_mOp, s_mOp1, s_mB, s_mNil, s_mCons, s_mTup, s_mLst, s_mCall, s_mTB, s_mNot, s_mAnd, s_mOr, s_mAndV, s_mOrV, s_mIf, s_mYes, s_mSl, s_mNo, s_mPart, s_mLc, s_mItems, s_mRng1, s_mRng2, s_mEnum, s_mChain, s_seqT, s_seqL, s_sNext, s_sSeq, s_sIf, s_sSet, s_sRet, s_sRetN, s_sBreak, s_sCont, s_sDrop, s_sPar, s_setN0, s_setNS, s_sAsg, s_sApp, s_sAug, s_sFor, s_sSrc, s_gmN, s_gmT, s_gmCons, s_gmNil, s_wipe0, s_wipeS, s_oSub, s_oAddI, s_oAdd, s_oLt, s_oLe, s_oGt, s_oGe, s_oNeg, s_oNot, s_oMul, s_oMulW, s_oMod, s_oFdiv, s_oPow, s_oIsN, s_oNotN, s_oIsB, s_oNotB, s_isNon_int, s_isNon_non, s_isNon_bl, s_isNon_str, s_isNon_tup, s_isNon_lst, s_isNon_dic, s_oEqI, s_oNeI, s_oIxT, s_oIxL, s_oSlT, s_oSlL, s_oRevT, s_oRevL, s_oInt, s_oIntB, s_oAbs, s_oMax2, s_oMin2, s_oLen, s_plenT, s_plenL, s_plenD, s_plenS, s_oTupleL, s_oTupleT, s_oListL, s_oListT, List.set_cons_succ, List.set_cons_zero, List.append_nil, true_and, x_bl, x_int, x_some, x_addT, x_addL, x_true, x_false]
      refine ⟨by simp; exact line (by omega), ?_⟩
      rw [e1]
      refine ⟨.int ((xs.map rB).getLastD (-1)), ?_, ?_⟩
      · rw [atI_map, atI_last1 (by simp), ← List.getLast?_eq_getElem?, List.getLast?_cons, List.getLastD_eq_getLast?]
        rfl
      try simp only [s_mVar0, s_mVarS, s_mVarO0, s_mVarOS, s_isObj_lst, s_isObj_dic, s_mC, s_mOp, s_mOp1, s_mB, s_mNil, s_mCons, s_mTup, s_mLst, s_mCall, s_mTB, s_mNot, s_mAnd, s_mOr, s_mAndV, s_mOrV, s_mIf, s_mYes, s_mSl, s_mNo, s_mPart, s_mLc, s_mItems, s_mRng1, s_mRng2, s_mEnum, s_mChain, s_seqT, s_seqL, s_sNext, s_sSeq, s_sIf, s_sSet, s_sRet, s_sRetN, s_sBreak, s_sCont, s_sDrop, s_sPar, s_setN0, s_setNS, s_sAsg, s_sApp, s_sAug, s_sFor, s_sSrc, s_gmN, s_gmT, s_gmCons, s_gmNil, s_wipe0, s_wipeS, s_oSub, s_oAddI, s_oAdd, s_oLt, s_oLe, s_oGt, s_oGe, s_oNeg, s_oNot, s_oMul, s_oMulW, s_oMod, s_oFdiv, s_oPow, s_oIsN, s_oNotN, s_oIsB, s_oNotB, s_isNon_int, s_isNon_non, s_isNon_bl, s_isNon_str, s_isNon_tup, s_isNon_lst, s_isNon_dic, s_oEqI, s_oNeI, s_oIxT, s_oIxL, s_oSlT, s_oSlL, s_oRevT, s_oRevL, s_oInt, s_oIntB, s_oAbs, s_oMax2, s_oMin2, s_oLen, s_plenT, s_plenL, s_plenD, s_plenS, s_oTupleL, s_oTupleT, s_oListL, s_oListT, List.set_cons_succ, List.set_cons_zero, List.append_nil, true_and, x_bl, x_int, x_some, x_addT, x_addL, x_true, x_false]
      rw [List.length_map]
      cases hb : decide ((xs.map rB).getLastD (-1) = (lots.length : Int) - 1) with
      | false => rw [hb] at h; exact ite_f (by decide) h
      | true =>
        rw [hb, Bool.true_and] at h
        refine ite_t rfl ?_
        unfold mZipM
        try simp only [s_mVar0, s_mVarS, s_mVarO0, s_mVarOS, s_isObj_lst, s_isObj_dic, s_mC, s_mOp, s_mOp1, s_mB, s_mNil, s_mCons, s_mTup, s_mLst, s_mCall, s_mTB, s_mNot, s_mAnd, s_mOr, s_mAndV, s_mOrV, s_mIf, s_mYes, s_mSl, s_mNo, s_mPart, s_mLc, s_mItems, s_mRng1, s_mRng2, s_mEnum, s_mChain, s_seqT, s_seqL, s_sNext, s_sSeq, s_sIf, s_sSet, s_sRet, s_sRetN, s_sBreak, s_sCont, s_sDrop, s_sPar, s_setN0, s_setNS, s_sAsg, s_sApp, s_sAug, s_sFor, s_sSrc, s_gmN, s_gmT, s_gmCons, s_gmNil, s_wipe0, s_wipeS, s_oSub, s_oAddI, s_oAdd, s_oLt, s_oLe, s_oGt, s_oGe, s_oNeg, s_oNot, s_oMul, s_oMulW, s_oMod, s_oFdiv, s_oPow, s_oIsN, s_oNotN, s_oIsB, s_oNotB, s_isNon_int, s_isNon_non, s_isNon_bl, s_isNon_str, s_isNon_tup, s_isNon_lst, s_isNon_dic, s_oEqI, s_oNeI, s_oIxT, s_oIxL, s_oSlT, s_oSlL, s_oRevT, s_oRevL, s_oInt, s_oIntB, s_oAbs, s_oMax2, s_oMin2, s_oLen, s_plenT, s_plenL, s_plenD, s_plenS, s_oTupleL, s_oTupleT, s_oListL, s_oListT, List.set_cons_succ, List.set_cons_zero, List.append_nil, true_and, x_bl, x_int, x_some, x_addT, x_addL, x_true, x_false]
        refine ⟨_, _, rfl, rfl, ?_⟩
        rw [show zipP xs (((-1 : Int) :: xs.map rB).map PV.int) = (xs.zip ((-1 : Int) :: xs.map rB)).map (fun p => .tup [p.1, .int p.2]) from by
          conv => lhs; rw [← List.map_id xs]
          rw [zipP_map, List.map_id]; rfl]
        refine comp_map (f := fun p : PV × Int => PV.bl (decide (rA p.1 = p.2 + 1))) (fun p hp => ?_) (by rw [List.length_zip]; exact line (by omega)) (oAll_map (b := fun p : PV × Int => decide (rA p.1 = p.2 + 1)) h)
        have hpx : p.1 ∈ xs := (List.of_mem_zip hp).1
        obtain ⟨a, b, u, e⟩ := hr p.1 hpx
        refine ⟨[some (crs lots), some (tI prices), some (.tup xs), some (.lst (((-1 : Int) :: xs.map rB).map PV.int)), none, none, none, none, some p.1, some (.int p.2)], fun k hk => s_gmT.mpr ⟨rfl, s_gmCons.mpr (s_gmN.mpr (s_gmCons.mpr (s_gmN.mpr (s_gmNil.mpr hk))))⟩, fun Q hQ => hQ, fun Q hQ => ?_⟩
        try simp only [s_mVar0, s_mVarS, s_mVarO0, s_mVarOS, s_isObj_lst, s_isObj_dic, s_mC, s_mOp, s_mOp1, s_mB, s_mNil, s_mCons, s_mTup, s_mLst, s_mCall, s_mTB, s_mNot, s_mAnd, s_mOr, s_mAndV, s_mOrV, s_mIf, s_mYes, s_mSl, s_mNo, s_mPart, s_mLc, s_mItems, s_mRng1, s_mRng2, s_mEnum, s_mChain, s_seqT, s_seqL, s_sNext, s_sSeq, s_sIf, s_sSet, s_sRet, s_sRetN, s_sBreak, s_sCont, s_sDrop, s_sPar, s_setN0, s_setNS, s_sAsg, s_sApp, s_sAug, s_sFor, s_sSrc, s_gmN, s_gmT, s_gmCons, s_gmNil, s_wipe0, s_wipeS, s_oSub, s_oAddI, s_oAdd, s_oLt, s_oLe, s_oGt, s_oGe, s_oNeg, s_oNot, s_oMul, s_oMulW, s_oMod, s_oFdiv, s_oPow, s_oIsN, s_oNotN, s_oIsB, s_oNotB, s_isNon_int, s_isNon_non, s_isNon_bl, s_isNon_str, s_isNon_tup, s_isNon_lst, s_isNon_dic, s_oEqI, s_oNeI, s_oIxT, s_oIxL, s_oSlT, s_oSlL, s_oRevT, s_oRevL, s_oInt, s_oIntB, s_oAbs, s_oMax2, s_oMin2, s_oLen, s_plenT, s_plenL, s_plenD, s_plenS, s_oTupleL, s_oTupleT, s_oListL, s_oListT, List.set_cons_succ, List.set_cons_zero, List.append_nil, true_and, x_bl, x_int, x_some, x_addT, x_addL, x_true, x_false]
        rw [e] at hQ ⊢
        exact s_oIxT.mpr ⟨.int a, rfl, s_oEqI.mpr hQ⟩
  | _ => first | exact oIsi_of (b := false) rfl rfl ⟨_, rfl, ite_t rfl h⟩ | cases hv
end K46

set_option maxHeartbeats 2000000
namespace K46
open PySem L2 PM
def S6 (x : Int) : Prop := -1000000 < x ∧ x < 1000000
theorem cmL {i j : Int} (h : S6 i) : CMul i j := .inl ⟨by have := h.1; omega, by have := h.2; omega⟩
theorem cmR {i j : Int} (h : -1000001 < j ∧ j < 1000002) : CMul i j := .inr ⟨by have := h.1; omega, by have := h.2; omega⟩
def mn (a b : Int) : Int := if b < a then b else a
def mx (a b : Int) : Int := if b > a then b else a
def sp_turning : PM.Spec := fun ps P => ∃ f c : Int, ps = [.int f, .int c] ∧ P (.int (mn f c))
theorem h_turning (ps : List PV) (Q : PV → Prop) (h : sp_turning ps Q) : t_turning { nx := fun _ => nxOf .cl Q, rt := Q } (startE n_turning.length ps) := by
  obtain ⟨f, c, rfl, h⟩ := h
  show t_turning _ [some (.int f), some (.int c)]
  unfold t_turning
  try simp only [s_mVar0, s_mVarS, s_mVarO0, s_mVarOS, s_isObj_lst, s_isObj_dic, s_mC, s_mOp, s_mOp1, s_mB, s_mNil, s_mCons, s_mTup, s_mLst, s_mCall, s_mTB, s_mNot, s_mAnd, s_mOr, s_mAndV, s_mOrV, s_mIf, s_mYes, s_mSl, s_mNo, s_mPart, s_mLc, s_mItems, s_mRng1, s_mRng2, s_mEnum, s_mChain, s_seqT, s_seqL, s_sNext, s_sSeq, s_sIf, s_sSet, s_sRet, s_sRetN, s_sBreak, s_sCont, s_sDrop, s_sPar, s_setN0, s_setNS, s_sAsg, s_sApp, s_sAug, s_sFor, s_sSrc, s_gmN, s_gmT, s_gmCons, s_gmNil, s_wipe0, s_wipeS, s_oSub, s_oAddI, s_oAdd, s_oLt, s_oLe, s_oGt, s_oGe, s_oNeg, s_oNot, s_oMul, s_oMulW, s_oMod, s_oFdiv, s_oPow, s_oIsN, s_oNotN, s_oIsB, s_oNotB, s_isNon_int, s_isNon_non, s_isNon_bl, s_isNon_str, s_isNon_tup, s_isNon_lst, s_isNon_dic, s_oEqI, s_oNeI, s_oIxT, s_oIxL, s_oSlT, s_oSlL, s_oRevT, s_oRevL, s_oInt, s_oIntB, s_oAbs, s_oMax2, s_oMin2, s_oLen, s_plenT, s_plenL, s_plenD, s_plenS, s_oTupleL, s_oTupleT, s_oListL, s_oListT, List.set_cons_succ, List.set_cons_zero, List.append_nil, true_and, x_bl, x_int, x_some, x_addT, x_addL, x_true, x_false]
  exact h
def mostA (k f l d c r : Int) : Int := mn (k + c * (r - 1)) (f + mn f c * (r - 1) + l * (r + d))
def sp_most_over_all : PM.Spec := fun ps P => ∃ k f l d c r : Int, ps = [.int k, .int f, .int l, .int d, .int c, .int r] ∧ (S6 c ∧ S6 f ∧ S6 l) ∧ P (.int (mostA k f l d c r))
theorem h_most_over_all (ps : List PV) (Q : PV → Prop) (h : sp_most_over_all ps Q) : t_most_over_all sp_turning { nx := fun _ => nxOf .cl Q, rt := Q } (startE n_most_over_all.length ps) := by
  obtain ⟨k, f, l, d, c, r, rfl, ⟨hc, hf, hl⟩, h⟩ := h
  show t_most_over_all _ _ [some (.int k), some (.int f), some (.int l), some (.int d), some (.int c), some (.int r)]
  unfold t_most_over_all
  try simp only [s_mVar0, s_mVarS, s_mVarO0, s_mVarOS, s_isObj_lst, s_isObj_dic, s_mC, s_mOp, s_mOp1, s_mB, s_mNil, s_mCons, s_mTup, s_mLst, s_mCall, s_mTB, s_mNot, s_mAnd, s_mOr, s_mAndV, s_mOrV, s_mIf, s_mYes, s_mSl, s_mNo, s_mPart, s_mLc, s_mItems, s_mRng1, s_mRng2, s_mEnum, s_mChain, s_seqT, s_seqL, s_sNext, s_sSeq, s_sIf, s_sSet, s_sRet, s_sRetN, s_sBreak, s_sCont, s_sDrop, s_sPar, s_setN0, s_setNS, s_sAsg, s_sApp, s_sAug, s_sFor, s_sSrc, s_gmN, s_gmT, s_gmCons, s_gmNil, s_wipe0, s_wipeS, s_oSub, s_oAddI, s_oAdd, s_oLt, s_oLe, s_oGt, s_oGe, s_oNeg, s_oNot, s_oMul, s_oMulW, s_oMod, s_oFdiv, s_oPow, s_oIsN, s_oNotN, s_oIsB, s_oNotB, s_isNon_int, s_isNon_non, s_isNon_bl, s_isNon_str, s_isNon_tup, s_isNon_lst, s_isNon_dic, s_oEqI, s_oNeI, s_oIxT, s_oIxL, s_oSlT, s_oSlL, s_oRevT, s_oRevL, s_oInt, s_oIntB, s_oAbs, s_oMax2, s_oMin2, s_oLen, s_plenT, s_plenL, s_plenD, s_plenS, s_oTupleL, s_oTupleT, s_oListL, s_oListT, List.set_cons_succ, List.set_cons_zero, List.append_nil, true_and, x_bl, x_int, x_some, x_addT, x_addL, x_true, x_false]
  refine ⟨cmL hc, f, c, rfl, ?_⟩
  try simp only [s_mVar0, s_mVarS, s_mVarO0, s_mVarOS, s_isObj_lst, s_isObj_dic, s_mC, s_mOp, s_mOp1, s_mB, s_mNil, s_mCons, s_mTup, s_mLst, s_mCall, s_mTB, s_mNot, s_mAnd, s_mOr, s_mAndV, s_mOrV, s_mIf, s_mYes, s_mSl, s_mNo, s_mPart, s_mLc, s_mItems, s_mRng1, s_mRng2, s_mEnum, s_mChain, s_seqT, s_seqL, s_sNext, s_sSeq, s_sIf, s_sSet, s_sRet, s_sRetN, s_sBreak, s_sCont, s_sDrop, s_sPar, s_setN0, s_setNS, s_sAsg, s_sApp, s_sAug, s_sFor, s_sSrc, s_gmN, s_gmT, s_gmCons, s_gmNil, s_wipe0, s_wipeS, s_oSub, s_oAddI, s_oAdd, s_oLt, s_oLe, s_oGt, s_oGe, s_oNeg, s_oNot, s_oMul, s_oMulW, s_oMod, s_oFdiv, s_oPow, s_oIsN, s_oNotN, s_oIsB, s_oNotB, s_isNon_int, s_isNon_non, s_isNon_bl, s_isNon_str, s_isNon_tup, s_isNon_lst, s_isNon_dic, s_oEqI, s_oNeI, s_oIxT, s_oIxL, s_oSlT, s_oSlL, s_oRevT, s_oRevL, s_oInt, s_oIntB, s_oAbs, s_oMax2, s_oMin2, s_oLen, s_plenT, s_plenL, s_plenD, s_plenS, s_oTupleL, s_oTupleT, s_oListL, s_oListT, List.set_cons_succ, List.set_cons_zero, List.append_nil, true_and, x_bl, x_int, x_some, x_addT, x_addL, x_true, x_false]
  exact ⟨cmL (by unfold mn; split <;> assumption), cmL hl, h⟩
def sp_sent_at_handing : PM.Spec := fun ps P => ∃ k t : Int, ps = [.int k, .int t] ∧ (S6 k ∧ S6 t) ∧ P (.int (k * k * (t + 1)))
theorem h_sent_at_handing (ps : List PV) (Q : PV → Prop) (h : sp_sent_at_handing ps Q) : t_sent_at_handing { nx := fun _ => nxOf .cl Q, rt := Q } (startE n_sent_at_handing.length ps) := by
  obtain ⟨k, t, rfl, ⟨hk, ht⟩, h⟩ := h
  show t_sent_at_handing _ [some (.int k), some (.int t)]
  unfold t_sent_at_handing
  try simp only [s_mVar0, s_mVarS, s_mVarO0, s_mVarOS, s_isObj_lst, s_isObj_dic, s_mC, s_mOp, s_mOp1, s_mB, s_mNil, s_mCons, s_mTup, s_mLst, s_mCall, s_mTB, s_mNot, s_mAnd, s_mOr, s_mAndV, s_mOrV, s_mIf, s_mYes, s_mSl, s_mNo, s_mPart, s_mLc, s_mItems, s_mRng1, s_mRng2, s_mEnum, s_mChain, s_seqT, s_seqL, s_sNext, s_sSeq, s_sIf, s_sSet, s_sRet, s_sRetN, s_sBreak, s_sCont, s_sDrop, s_sPar, s_setN0, s_setNS, s_sAsg, s_sApp, s_sAug, s_sFor, s_sSrc, s_gmN, s_gmT, s_gmCons, s_gmNil, s_wipe0, s_wipeS, s_oSub, s_oAddI, s_oAdd, s_oLt, s_oLe, s_oGt, s_oGe, s_oNeg, s_oNot, s_oMul, s_oMulW, s_oMod, s_oFdiv, s_oPow, s_oIsN, s_oNotN, s_oIsB, s_oNotB, s_isNon_int, s_isNon_non, s_isNon_bl, s_isNon_str, s_isNon_tup, s_isNon_lst, s_isNon_dic, s_oEqI, s_oNeI, s_oIxT, s_oIxL, s_oSlT, s_oSlL, s_oRevT, s_oRevL, s_oInt, s_oIntB, s_oAbs, s_oMax2, s_oMin2, s_oLen, s_plenT, s_plenL, s_plenD, s_plenS, s_oTupleL, s_oTupleT, s_oListL, s_oListT, List.set_cons_succ, List.set_cons_zero, List.append_nil, true_and, x_bl, x_int, x_some, x_addT, x_addL, x_true, x_false]
  exact ⟨cmL hk, cmR (by unfold S6 at ht; omega), h⟩
def sp_sent_to_newcomer : PM.Spec := fun ps P => ∃ t : Int, ps = [.int t] ∧ P (.int (t + 1))
theorem h_sent_to_newcomer (ps : List PV) (Q : PV → Prop) (h : sp_sent_to_newcomer ps Q) : t_sent_to_newcomer { nx := fun _ => nxOf .cl Q, rt := Q } (startE n_sent_to_newcomer.length ps) := by
  obtain ⟨t, rfl, h⟩ := h
  show t_sent_to_newcomer _ [some (.int t)]
  unfold t_sent_to_newcomer
  try simp only [s_mVar0, s_mVarS, s_mVarO0, s_mVarOS, s_isObj_lst, s_isObj_dic, s_mC, s_mOp, s_mOp1, s_mB, s_mNil, s_mCons, s_mTup, s_mLst, s_mCall, s_mTB, s_mNot, s_mAnd, s_mOr, s_mAndV, s_mOrV, s_mIf, s_mYes, s_mSl, s_mNo, s_mPart, s_mLc, s_mItems, s_mRng1, s_mRng2, s_mEnum, s_mChain, s_seqT, s_seqL, s_sNext, s_sSeq, s_sIf, s_sSet, s_sRet, s_sRetN, s_sBreak, s_sCont, s_sDrop, s_sPar, s_setN0, s_setNS, s_sAsg, s_sApp, s_sAug, s_sFor, s_sSrc, s_gmN, s_gmT, s_gmCons, s_gmNil, s_wipe0, s_wipeS, s_oSub, s_oAddI, s_oAdd, s_oLt, s_oLe, s_oGt, s_oGe, s_oNeg, s_oNot, s_oMul, s_oMulW, s_oMod, s_oFdiv, s_oPow, s_oIsN, s_oNotN, s_oIsB, s_oNotB, s_isNon_int, s_isNon_non, s_isNon_bl, s_isNon_str, s_isNon_tup, s_isNon_lst, s_isNon_dic, s_oEqI, s_oNeI, s_oIxT, s_oIxL, s_oSlT, s_oSlL, s_oRevT, s_oRevL, s_oInt, s_oIntB, s_oAbs, s_oMax2, s_oMin2, s_oLen, s_plenT, s_plenL, s_plenD, s_plenS, s_oTupleL, s_oTupleT, s_oListL, s_oListT, List.set_cons_succ, List.set_cons_zero, List.append_nil, true_and, x_bl, x_int, x_some, x_addT, x_addL, x_true, x_false]
  exact h
def sp_rhythm_of : PM.Spec := fun ps P => ∃ maps r : Int, ps = [.int maps, .int r] ∧ (0 < r ∧ r < 1073741824) ∧ P (.int ((maps - 1) / r))
theorem h_rhythm_of (ps : List PV) (Q : PV → Prop) (h : sp_rhythm_of ps Q) : t_rhythm_of { nx := fun _ => nxOf .cl Q, rt := Q } (startE n_rhythm_of.length ps) := by
  obtain ⟨m, r, rfl, hr, h⟩ := h
  show t_rhythm_of _ [some (.int m), some (.int r)]
  unfold t_rhythm_of
  try simp only [s_mVar0, s_mVarS, s_mVarO0, s_mVarOS, s_isObj_lst, s_isObj_dic, s_mC, s_mOp, s_mOp1, s_mB, s_mNil, s_mCons, s_mTup, s_mLst, s_mCall, s_mTB, s_mNot, s_mAnd, s_mOr, s_mAndV, s_mOrV, s_mIf, s_mYes, s_mSl, s_mNo, s_mPart, s_mLc, s_mItems, s_mRng1, s_mRng2, s_mEnum, s_mChain, s_seqT, s_seqL, s_sNext, s_sSeq, s_sIf, s_sSet, s_sRet, s_sRetN, s_sBreak, s_sCont, s_sDrop, s_sPar, s_setN0, s_setNS, s_sAsg, s_sApp, s_sAug, s_sFor, s_sSrc, s_gmN, s_gmT, s_gmCons, s_gmNil, s_wipe0, s_wipeS, s_oSub, s_oAddI, s_oAdd, s_oLt, s_oLe, s_oGt, s_oGe, s_oNeg, s_oNot, s_oMul, s_oMulW, s_oMod, s_oFdiv, s_oPow, s_oIsN, s_oNotN, s_oIsB, s_oNotB, s_isNon_int, s_isNon_non, s_isNon_bl, s_isNon_str, s_isNon_tup, s_isNon_lst, s_isNon_dic, s_oEqI, s_oNeI, s_oIxT, s_oIxL, s_oSlT, s_oSlL, s_oRevT, s_oRevL, s_oInt, s_oIntB, s_oAbs, s_oMax2, s_oMin2, s_oLen, s_plenT, s_plenL, s_plenD, s_plenS, s_oTupleL, s_oTupleT, s_oListL, s_oListT, List.set_cons_succ, List.set_cons_zero, List.append_nil, true_and, x_bl, x_int, x_some, x_addT, x_addL, x_true, x_false]
  exact ⟨hr, h⟩
def rbill (k c t maps r : Int) : Int := (maps - 1) / r * (k * k * (t + 1)) + (maps - 1 - (maps - 1) / r) * c * (t + 1)
def sp_rhythm_bill : PM.Spec := fun ps P => ∃ k c t maps r : Int, ps = [.int k, .int c, .int t, .int maps, .int r] ∧ (0 < r ∧ r < 1073741824) ∧ (S6 k ∧ S6 c ∧ S6 t ∧ S6 ((maps - 1) / r)) ∧ P (.int (rbill k c t maps r))
theorem h_rhythm_bill (ps : List PV) (Q : PV → Prop) (h : sp_rhythm_bill ps Q) : t_rhythm_bill sp_rhythm_of sp_sent_at_handing sp_sent_to_newcomer { nx := fun _ => nxOf .cl Q, rt := Q } (startE n_rhythm_bill.length ps) := by
  obtain ⟨k, c, t, m, r, rfl, hr, ⟨hk, hc, ht, hq⟩, h⟩ := h
  show t_rhythm_bill _ _ _ _ [some (.int k), some (.int c), some (.int t), some (.int m), some (.int r), none]
  unfold t_rhythm_bill
  try simp only [s_mVar0, s_mVarS, s_mVarO0, s_mVarOS, s_isObj_lst, s_isObj_dic, s_mC, s_mOp, s_mOp1, s_mB, s_mNil, s_mCons, s_mTup, s_mLst, s_mCall, s_mTB, s_mNot, s_mAnd, s_mOr, s_mAndV, s_mOrV, s_mIf, s_mYes, s_mSl, s_mNo, s_mPart, s_mLc, s_mItems, s_mRng1, s_mRng2, s_mEnum, s_mChain, s_seqT, s_seqL, s_sNext, s_sSeq, s_sIf, s_sSet, s_sRet, s_sRetN, s_sBreak, s_sCont, s_sDrop, s_sPar, s_setN0, s_setNS, s_sAsg, s_sApp, s_sAug, s_sFor, s_sSrc, s_gmN, s_gmT, s_gmCons, s_gmNil, s_wipe0, s_wipeS, s_oSub, s_oAddI, s_oAdd, s_oLt, s_oLe, s_oGt, s_oGe, s_oNeg, s_oNot, s_oMul, s_oMulW, s_oMod, s_oFdiv, s_oPow, s_oIsN, s_oNotN, s_oIsB, s_oNotB, s_isNon_int, s_isNon_non, s_isNon_bl, s_isNon_str, s_isNon_tup, s_isNon_lst, s_isNon_dic, s_oEqI, s_oNeI, s_oIxT, s_oIxL, s_oSlT, s_oSlL, s_oRevT, s_oRevL, s_oInt, s_oIntB, s_oAbs, s_oMax2, s_oMin2, s_oLen, s_plenT, s_plenL, s_plenD, s_plenS, s_oTupleL, s_oTupleT, s_oListL, s_oListT, List.set_cons_succ, List.set_cons_zero, List.append_nil, true_and, x_bl, x_int, x_some, x_addT, x_addL, x_true, x_false]
  refine ⟨m, r, rfl, hr, ?_⟩
  try simp only [s_mVar0, s_mVarS, s_mVarO0, s_mVarOS, s_isObj_lst, s_isObj_dic, s_mC, s_mOp, s_mOp1, s_mB, s_mNil, s_mCons, s_mTup, s_mLst, s_mCall, s_mTB, s_mNot, s_mAnd, s_mOr, s_mAndV, s_mOrV, s_mIf, s_mYes, s_mSl, s_mNo, s_mPart, s_mLc, s_mItems, s_mRng1, s_mRng2, s_mEnum, s_mChain, s_seqT, s_seqL, s_sNext, s_sSeq, s_sIf, s_sSet, s_sRet, s_sRetN, s_sBreak, s_sCont, s_sDrop, s_sPar, s_setN0, s_setNS, s_sAsg, s_sApp, s_sAug, s_sFor, s_sSrc, s_gmN, s_gmT, s_gmCons, s_gmNil, s_wipe0, s_wipeS, s_oSub, s_oAddI, s_oAdd, s_oLt, s_oLe, s_oGt, s_oGe, s_oNeg, s_oNot, s_oMul, s_oMulW, s_oMod, s_oFdiv, s_oPow, s_oIsN, s_oNotN, s_oIsB, s_oNotB, s_isNon_int, s_isNon_non, s_isNon_bl, s_isNon_str, s_isNon_tup, s_isNon_lst, s_isNon_dic, s_oEqI, s_oNeI, s_oIxT, s_oIxL, s_oSlT, s_oSlL, s_oRevT, s_oRevL, s_oInt, s_oIntB, s_oAbs, s_oMax2, s_oMin2, s_oLen, s_plenT, s_plenL, s_plenD, s_plenS, s_oTupleL, s_oTupleT, s_oListL, s_oListT, List.set_cons_succ, List.set_cons_zero, List.append_nil, true_and, x_bl, x_int, x_some, x_addT, x_addL, x_true, x_false]
  refine ⟨k, t, rfl, ⟨hk, ht⟩, ?_⟩
  try simp only [s_mVar0, s_mVarS, s_mVarO0, s_mVarOS, s_isObj_lst, s_isObj_dic, s_mC, s_mOp, s_mOp1, s_mB, s_mNil, s_mCons, s_mTup, s_mLst, s_mCall, s_mTB, s_mNot, s_mAnd, s_mOr, s_mAndV, s_mOrV, s_mIf, s_mYes, s_mSl, s_mNo, s_mPart, s_mLc, s_mItems, s_mRng1, s_mRng2, s_mEnum, s_mChain, s_seqT, s_seqL, s_sNext, s_sSeq, s_sIf, s_sSet, s_sRet, s_sRetN, s_sBreak, s_sCont, s_sDrop, s_sPar, s_setN0, s_setNS, s_sAsg, s_sApp, s_sAug, s_sFor, s_sSrc, s_gmN, s_gmT, s_gmCons, s_gmNil, s_wipe0, s_wipeS, s_oSub, s_oAddI, s_oAdd, s_oLt, s_oLe, s_oGt, s_oGe, s_oNeg, s_oNot, s_oMul, s_oMulW, s_oMod, s_oFdiv, s_oPow, s_oIsN, s_oNotN, s_oIsB, s_oNotB, s_isNon_int, s_isNon_non, s_isNon_bl, s_isNon_str, s_isNon_tup, s_isNon_lst, s_isNon_dic, s_oEqI, s_oNeI, s_oIxT, s_oIxL, s_oSlT, s_oSlL, s_oRevT, s_oRevL, s_oInt, s_oIntB, s_oAbs, s_oMax2, s_oMin2, s_oLen, s_plenT, s_plenL, s_plenD, s_plenS, s_oTupleL, s_oTupleT, s_oListL, s_oListT, List.set_cons_succ, List.set_cons_zero, List.append_nil, true_and, x_bl, x_int, x_some, x_addT, x_addL, x_true, x_false]
  refine ⟨cmL hq, cmR ⟨by have := hc.1; omega, by have := hc.2; omega⟩, t, rfl, ?_⟩
  try simp only [s_mVar0, s_mVarS, s_mVarO0, s_mVarOS, s_isObj_lst, s_isObj_dic, s_mC, s_mOp, s_mOp1, s_mB, s_mNil, s_mCons, s_mTup, s_mLst, s_mCall, s_mTB, s_mNot, s_mAnd, s_mOr, s_mAndV, s_mOrV, s_mIf, s_mYes, s_mSl, s_mNo, s_mPart, s_mLc, s_mItems, s_mRng1, s_mRng2, s_mEnum, s_mChain, s_seqT, s_seqL, s_sNext, s_sSeq, s_sIf, s_sSet, s_sRet, s_sRetN, s_sBreak, s_sCont, s_sDrop, s_sPar, s_setN0, s_setNS, s_sAsg, s_sApp, s_sAug, s_sFor, s_sSrc, s_gmN, s_gmT, s_gmCons, s_gmNil, s_wipe0, s_wipeS, s_oSub, s_oAddI, s_oAdd, s_oLt, s_oLe, s_oGt, s_oGe, s_oNeg, s_oNot, s_oMul, s_oMulW, s_oMod, s_oFdiv, s_oPow, s_oIsN, s_oNotN, s_oIsB, s_oNotB, s_isNon_int, s_isNon_non, s_isNon_bl, s_isNon_str, s_isNon_tup, s_isNon_lst, s_isNon_dic, s_oEqI, s_oNeI, s_oIxT, s_oIxL, s_oSlT, s_oSlL, s_oRevT, s_oRevL, s_oInt, s_oIntB, s_oAbs, s_oMax2, s_oMin2, s_oLen, s_plenT, s_plenL, s_plenD, s_plenS, s_oTupleL, s_oTupleT, s_oListL, s_oListT, List.set_cons_succ, List.set_cons_zero, List.append_nil, true_and, x_bl, x_int, x_some, x_addT, x_addL, x_true, x_false]
  exact ⟨cmR (by unfold S6 at ht; omega), h⟩
end K46

set_option maxHeartbeats 2000000
namespace K46
open PySem L2 PM
abbrev R3 := Int × Int × Int
def rr (x : R3) : PV := .tup [.int x.1, .int x.2.1, .int x.2.2]
def rng1 (m : Nat) : List Int := (List.range m).map fun (i : Nat) => 1 + (i : Int)
theorem mem_rng1 {m : Nat} {x : Int} : x ∈ rng1 m ↔ 1 ≤ x ∧ x ≤ m := by
  unfold rng1
  rw [List.mem_map]
  constructor
  · rintro ⟨i, hi, rfl⟩
    have := List.mem_range.mp hi
    omega
  · intro ⟨h1, h2⟩
    exact ⟨(x - 1).toNat, List.mem_range.mpr (by omega), by omega⟩
theorem rngP_rng1 {m : Nat} : rngP 1 m = (rng1 m).map PV.int := by
  unfold rngP rng1
  rw [List.map_map]; rfl
def tR (k f l d c r : Int) : Int := mx 1 (mostA k f l d c r)
def stepR (k f l d c : Int) (maps : Nat) (acc : List R3) (r : Int) : List R3 :=
  if k ≥ 2 * f + tR k f l d c r + 1 then acc ++ [(r, tR k f l d c r, rbill k c (tR k f l d c r) maps r)] else acc
def rhy (k f l d c : Int) (maps : Nat) : List R3 := (rng1 maps).foldl (stepR k f l d c maps) []
/-- how many of 1 .. m-1 are multiples -/
theorem count_mult (r : Nat) (hr : 0 < r) : ∀ m : Nat, (((List.range m).map fun (i : Nat) => 1 + (i : Int)).filter fun x => decide (x % (r : Int) = 0)).length = m / r
  | 0 => by simp
  | m + 1 => by
    rw [List.range_succ, List.map_append, List.filter_append, List.length_append, count_mult r hr m]
    have e : (m + 1) / r = m / r + if r ∣ m + 1 then 1 else 0 := Nat.succ_div
    rw [e]
    congr 1
    by_cases h : r ∣ m + 1
    · rw [if_pos h]
      have z : (1 + (m : Int)) % (r : Int) = 0 := by
        have := Int.emod_eq_zero_of_dvd (Int.natCast_dvd_natCast.mpr h)
        rw [Int.add_comm]; exact_mod_cast this
      simp [z]
    · rw [if_neg h]
      have z : ¬ (1 + (m : Int)) % (r : Int) = 0 := fun z => h (by
        have := Int.dvd_of_emod_eq_zero z
        rw [Int.add_comm] at this
        exact_mod_cast this)
      simp [z]
def RD (k f l d c : Int) (maps : Nat) : Prop := (0 ≤ k ∧ k ≤ 100) ∧ (0 ≤ f ∧ f ≤ 100) ∧ (0 ≤ l ∧ l ≤ 100) ∧ (0 ≤ d ∧ d ≤ 100) ∧ (0 ≤ c ∧ c ≤ 100) ∧ maps ≤ 100
theorem tR_S6 {k f l d c r : Int} {maps : Nat} (h : RD k f l d c maps) (hr : 1 ≤ r ∧ r ≤ maps) : S6 (tR k f l d c r) ∧ 1 ≤ tR k f l d c r := by
  obtain ⟨hk, hf, hl, hd, hc, hm⟩ := h
  have h1 : c * (r - 1) ≤ 100 * 100 := Int.mul_le_mul hc.2 (by omega) (by omega) (by omega)
  have h2 : mostA k f l d c r ≤ k + c * (r - 1) := by
    unfold mostA mn
    split <;> omega
  unfold tR mx S6
  split <;> omega
theorem stepR_len {k f l d c : Int} {maps : Nat} : ∀ {xs : List Int} {acc : List R3}, (xs.foldl (stepR k f l d c maps) acc).length ≤ acc.length + xs.length
  | [], _ => Nat.le_refl _
  | x :: xs, acc => by
    refine Nat.le_trans (stepR_len (xs := xs)) ?_
    unfold stepR
    split
    · rw [List.length_append]; simp; omega
    · simp
theorem take_succ {α : Type} {xs : List α} {i : Nat} {x : α} {S : Type} {st : S → α → S} {s0 : S} (h : xs[i]? = some x) : (xs.take (i + 1)).foldl st s0 = st ((xs.take i).foldl st s0) x := by
  rw [List.take_add_one, h, List.foldl_append]; rfl
def sp_rhythms : PM.Spec := fun ps P => ∃ (k f l d c : Int) (maps : Nat), ps = [.int k, .int f, .int l, .int d, .int c, .int maps] ∧ RD k f l d c maps ∧ P (.tup ((rhy k f l d c maps).map rr))
theorem h_rhythms (ps : List PV) (Q : PV → Prop) (h : sp_rhythms ps Q) : t_rhythms sp_most_over_all sp_rhythm_bill { nx := fun _ => nxOf .cl Q, rt := Q } (startE n_rhythms.length ps) := by
  obtain ⟨k, f, l, d, c, maps, rfl, hd, h⟩ := h
  show t_rhythms _ _ _ [some (.int k), some (.int f), some (.int l), some (.int d), some (.int c), some (.int maps), none, none, none]
  unfold t_rhythms
  try simp only [s_mVar0, s_mVarS, s_mVarO0, s_mVarOS, s_isObj_lst, s_isObj_dic, s_mC, s_mOp, s_mOp1, s_mB, s_mNil, s_mCons, s_mTup, s_mLst, s_mCall, s_mTB, s_mNot, s_mAnd, s_mOr, s_mAndV, s_mOrV, s_mIf, s_mYes, s_mSl, s_mNo, s_mPart, s_mLc, s_mItems, s_mRng1, s_mRng2, s_mEnum, s_mChain, s_seqT, s_seqL, s_sNext, s_sSeq, s_sIf, s_sSet, s_sRet, s_sRetN, s_sBreak, s_sCont, s_sDrop, s_sPar, s_setN0, s_setNS, s_sAsg, s_sApp, s_sAug, s_sFor, s_sSrc, s_gmN, s_gmT, s_gmCons, s_gmNil, s_wipe0, s_wipeS, s_oSub, s_oAddI, s_oAdd, s_oLt, s_oLe, s_oGt, s_oGe, s_oNeg, s_oNot, s_oMul, s_oMulW, s_oMod, s_oFdiv, s_oPow, s_oIsN, s_oNotN, s_oIsB, s_oNotB, s_isNon_int, s_isNon_non, s_isNon_bl, s_isNon_str, s_isNon_tup, s_isNon_lst, s_isNon_dic, s_oEqI, s_oNeI, s_oIxT, s_oIxL, s_oSlT, s_oSlL, s_oRevT, s_oRevL, s_oInt, s_oIntB, s_oAbs, s_oMax2, s_oMin2, s_oLen, s_plenT, s_plenL, s_plenD, s_plenS, s_oTupleL, s_oTupleT, s_oListL, s_oListT, List.set_cons_succ, List.set_cons_zero, List.append_nil, true_and, x_bl, x_int, x_some, x_addT, x_addL, x_true, x_false]
  have ⟨hk, hf, hl, hdd, hc, hm⟩ := hd
  refine ⟨Nat.zero_le _, _, _, rfl, rfl, by omega, ?_⟩
  rw [show ((maps : Int) + 1 - 1).toNat = maps by omega, rngP_rng1]
  refine for_inv (fun i e => i ≤ maps ∧ ∃ y7 y8, e = [some (.int k), some (.int f), some (.int l), some (.int d), some (.int c), some (.int maps), some (.lst ((((rng1 maps).take i).foldl (stepR k f l d c maps) []).map rr)), y7, y8]) ⟨Nat.zero_le _, none, none, rfl⟩ (fun i x e N hx hE hN => ?_) (fun e hE => ?_)
  · obtain ⟨hi, y7, y8, rfl⟩ := hE
    have hx1 := mem_rng1.mp (List.mem_of_getElem? hx)
    have him : i + 1 ≤ maps := by
      have := (List.getElem?_eq_some_iff.mp hx).1
      unfold rng1 at this
      simp at this
      omega
    have ⟨ht, ht1⟩ := tR_S6 hd hx1
    have e1 := take_succ (st := stepR k f l d c maps) (s0 := []) hx
    have hll : (((rng1 maps).take i).foldl (stepR k f l d c maps) []).length ≤ i := Nat.le_trans stepR_len (by simp; omega)
    rw [s_gmN]
    try simp only [s_mVar0, s_mVarS, s_mVarO0, s_mVarOS, s_isObj_lst, s_isObj_dic, s_mC, s_mOp, s_mOp1, s_mB, s_mNil, s_mCons, s_mTup, s_mLst, s_mCall, s_mTB, s_mNot, s_mAnd, s_mOr, s_mAndV, s_mOrV, s_mIf, s_mYes, s_mSl, s_mNo, s_mPart, s_mLc, s_mItems, s_mRng1, s_mRng2, s_mEnum, s_mChain, s_seqT, s_seqL, s_sNext, s_sSeq, s_sIf, s_sSet, s_sRet, s_sRetN, s_sBreak, s_sCont, s_sDrop, s_sPar, s_setN0, s_setNS, s_sAsg, s_sApp, s_sAug, s_sFor, s_sSrc, s_gmN, s_gmT, s_gmCons, s_gmNil, s_wipe0, s_wipeS, s_oSub, s_oAddI, s_oAdd, s_oLt, s_oLe, s_oGt, s_oGe, s_oNeg, s_oNot, s_oMul, s_oMulW, s_oMod, s_oFdiv, s_oPow, s_oIsN, s_oNotN, s_oIsB, s_oNotB, s_isNon_int, s_isNon_non, s_isNon_bl, s_isNon_str, s_isNon_tup, s_isNon_lst, s_isNon_dic, s_oEqI, s_oNeI, s_oIxT, s_oIxL, s_oSlT, s_oSlL, s_oRevT, s_oRevL, s_oInt, s_oIntB, s_oAbs, s_oMax2, s_oMin2, s_oLen, s_plenT, s_plenL, s_plenD, s_plenS, s_oTupleL, s_oTupleT, s_oListL, s_oListT, List.set_cons_succ, List.set_cons_zero, List.append_nil, true_and]
    refine ⟨k, f, l, d, c, x, rfl, ⟨by unfold S6; omega, by unfold S6; omega, by unfold S6; omega⟩, ?_⟩
    try simp only [s_mVar0, s_mVarS, s_mVarO0, s_mVarOS, s_isObj_lst, s_isObj_dic, s_mC, s_mOp, s_mOp1, s_mB, s_mNil, s_mCons, s_mTup, s_mLst, s_mCall, s_mTB, s_mNot, s_mAnd, s_mOr, s_mAndV, s_mOrV, s_mIf, s_mYes, s_mSl, s_mNo, s_mPart, s_mLc, s_mItems, s_mRng1, s_mRng2, s_mEnum, s_mChain, s_seqT, s_seqL, s_sNext, s_sSeq, s_sIf, s_sSet, s_sRet, s_sRetN, s_sBreak, s_sCont, s_sDrop, s_sPar, s_setN0, s_setNS, s_sAsg, s_sApp, s_sAug, s_sFor, s_sSrc, s_gmN, s_gmT, s_gmCons, s_gmNil, s_wipe0, s_wipeS, s_oSub, s_oAddI, s_oAdd, s_oLt, s_oLe, s_oGt, s_oGe, s_oNeg, s_oNot, s_oMul, s_oMulW, s_oMod, s_oFdiv, s_oPow, s_oIsN, s_oNotN, s_oIsB, s_oNotB, s_isNon_int, s_isNon_non, s_isNon_bl, s_isNon_str, s_isNon_tup, s_isNon_lst, s_isNon_dic, s_oEqI, s_oNeI, s_oIxT, s_oIxL, s_oSlT, s_oSlL, s_oRevT, s_oRevL, s_oInt, s_oIntB, s_oAbs, s_oMax2, s_oMin2, s_oLen, s_plenT, s_plenL, s_plenD, s_plenS, s_oTupleL, s_oTupleT, s_oListL, s_oListT, List.set_cons_succ, List.set_cons_zero, List.append_nil, true_and]
    refine ⟨cmL (by unfold S6; omega), ?_⟩
    rw [show (if mostA k f l d c x > 1 then mostA k f l d c x else 1) = tR k f l d c x from rfl]
    have hq : S6 (((maps : Int) - 1) / x) := by
      have a1 : 0 ≤ ((maps : Int) - 1) / x := Int.ediv_nonneg (by omega) (by omega)
      have a2 : ((maps : Int) - 1) / x ≤ (maps : Int) - 1 := Int.ediv_le_self _ (by omega)
      unfold S6; omega
    by_cases hb : 2 * f + tR k f l d c x + 1 ≤ k
    · have e2 : stepR k f l d c maps (((rng1 maps).take i).foldl (stepR k f l d c maps) []) x = _ := if_pos hb
      rw [e2] at e1
      refine ⟨_, rfl, ite_t (decide_eq_true hb) ⟨_, rfl, k, c, tR k f l d c x, maps, x, rfl, by omega, ⟨by unfold S6; omega, by unfold S6; omega, ht, hq⟩, line (by simp), small_line (by rw [List.length_map]; omega), hN _ ⟨him, some (.int x), some (.int (tR k f l d c x)), ?_⟩⟩⟩
      rw [e1, List.map_append]
      rfl
    · have e2 : stepR k f l d c maps (((rng1 maps).take i).foldl (stepR k f l d c maps) []) x = _ := if_neg hb
      rw [e2] at e1
      refine ⟨_, rfl, ite_f (by rw [decide_eq_false hb]; decide) (hN _ ⟨him, some (.int x), some (.int (tR k f l d c x)), ?_⟩)⟩
      rw [e1]
  · obtain ⟨hi, y7, y8, rfl⟩ := hE
    rw [List.take_of_length_le (Nat.le_refl _)]
    try simp only [s_mVar0, s_mVarS, s_mVarO0, s_mVarOS, s_isObj_lst, s_isObj_dic, s_mC, s_mOp, s_mOp1, s_mB, s_mNil, s_mCons, s_mTup, s_mLst, s_mCall, s_mTB, s_mNot, s_mAnd, s_mOr, s_mAndV, s_mOrV, s_mIf, s_mYes, s_mSl, s_mNo, s_mPart, s_mLc, s_mItems, s_mRng1, s_mRng2, s_mEnum, s_mChain, s_seqT, s_seqL, s_sNext, s_sSeq, s_sIf, s_sSet, s_sRet, s_sRetN, s_sBreak, s_sCont, s_sDrop, s_sPar, s_setN0, s_setNS, s_sAsg, s_sApp, s_sAug, s_sFor, s_sSrc, s_gmN, s_gmT, s_gmCons, s_gmNil, s_wipe0, s_wipeS, s_oSub, s_oAddI, s_oAdd, s_oLt, s_oLe, s_oGt, s_oGe, s_oNeg, s_oNot, s_oMul, s_oMulW, s_oMod, s_oFdiv, s_oPow, s_oIsN, s_oNotN, s_oIsB, s_oNotB, s_isNon_int, s_isNon_non, s_isNon_bl, s_isNon_str, s_isNon_tup, s_isNon_lst, s_isNon_dic, s_oEqI, s_oNeI, s_oIxT, s_oIxL, s_oSlT, s_oSlL, s_oRevT, s_oRevL, s_oInt, s_oIntB, s_oAbs, s_oMax2, s_oMin2, s_oLen, s_plenT, s_plenL, s_plenD, s_plenS, s_oTupleL, s_oTupleT, s_oListL, s_oListT, List.set_cons_succ, List.set_cons_zero, List.append_nil, true_and, x_bl, x_int, x_some, x_addT, x_addL, x_true, x_false]
    exact h
end K46

set_option maxHeartbeats 2000000
namespace K46
open PySem L2 PM
theorem bill_eq {q k c t m : Int} : (q * k * k + (m - 1 - q) * c) * (t + 1) = q * (k * k * (t + 1)) + (m - 1 - q) * c * (t + 1) := by
  rw [Int.add_mul, Int.mul_assoc q k k, Int.mul_assoc q (k * k) (t + 1)]
def mults (maps : Nat) (r : Int) : List Int := (rng1 (maps - 1)).filter fun x => decide (x % r = 0)
theorem mults_len {maps : Nat} {r : Int} (hm : 1 ≤ maps) (hr : 1 ≤ r) : ((mults maps r).length : Int) = ((maps : Int) - 1) / r := by
  obtain ⟨n, rfl⟩ : ∃ n : Nat, r = n := ⟨r.toNat, by omega⟩
  have := count_mult n (by omega) (maps - 1)
  unfold mults rng1
  rw [this, Int.natCast_ediv, show ((maps - 1 : Nat) : Int) = (maps : Int) - 1 by omega]
def sp_l_rhythms : PM.Spec := sp_rhythms
theorem h_l_rhythms (ps : List PV) (Q : PV → Prop) (h : sp_l_rhythms ps Q) : t_l_rhythms { nx := fun _ => nxOf .cl Q, rt := Q } (startE n_l_rhythms.length ps) := by
  obtain ⟨k, f, l, d, c, maps, rfl, hd, h⟩ := h
  show t_l_rhythms _ [some (.int k), some (.int f), some (.int l), some (.int d), some (.int c), some (.int maps), none, none, none, none, none]
  unfold t_l_rhythms
  try simp only [s_mVar0, s_mVarS, s_mVarO0, s_mVarOS, s_isObj_lst, s_isObj_dic, s_mC, s_mOp, s_mOp1, s_mB, s_mNil, s_mCons, s_mTup, s_mLst, s_mCall, s_mTB, s_mNot, s_mAnd, s_mOr, s_mAndV, s_mOrV, s_mIf, s_mYes, s_mSl, s_mNo, s_mPart, s_mLc, s_mItems, s_mRng1, s_mRng2, s_mEnum, s_mChain, s_seqT, s_seqL, s_sNext, s_sSeq, s_sIf, s_sSet, s_sRet, s_sRetN, s_sBreak, s_sCont, s_sDrop, s_sPar, s_setN0, s_setNS, s_sAsg, s_sApp, s_sAug, s_sFor, s_sSrc, s_gmN, s_gmT, s_gmCons, s_gmNil, s_wipe0, s_wipeS, s_oSub, s_oAddI, s_oAdd, s_oLt, s_oLe, s_oGt, s_oGe, s_oNeg, s_oNot, s_oMul, s_oMulW, s_oMod, s_oFdiv, s_oPow, s_oIsN, s_oNotN, s_oIsB, s_oNotB, s_isNon_int, s_isNon_non, s_isNon_bl, s_isNon_str, s_isNon_tup, s_isNon_lst, s_isNon_dic, s_oEqI, s_oNeI, s_oIxT, s_oIxL, s_oSlT, s_oSlL, s_oRevT, s_oRevL, s_oInt, s_oIntB, s_oAbs, s_oMax2, s_oMin2, s_oLen, s_plenT, s_plenL, s_plenD, s_plenS, s_oTupleL, s_oTupleT, s_oListL, s_oListT, List.set_cons_succ, List.set_cons_zero, List.append_nil, true_and, x_bl, x_int, x_some, x_addT, x_addL, x_true, x_false]
  have ⟨hk, hf, hl, hdd, hc, hm⟩ := hd
  refine ⟨Nat.zero_le _, _, _, rfl, rfl, by omega, ?_⟩
  rw [show ((maps : Int) + 1 - 1).toNat = maps by omega, rngP_rng1]
  refine for_inv (fun i e => i ≤ maps ∧ ∃ y7 y8 y9, e = [some (.int k), some (.int f), some (.int l), some (.int d), some (.int c), some (.int maps), some (.lst ((((rng1 maps).take i).foldl (stepR k f l d c maps) []).map rr)), y7, y8, y9, none]) ⟨Nat.zero_le _, none, none, none, rfl⟩ (fun i x e N hx hE hN => ?_) (fun e hE => ?_)
  · obtain ⟨hi, y7, y8, y9, rfl⟩ := hE
    have hx1 := mem_rng1.mp (List.mem_of_getElem? hx)
    have him : i + 1 ≤ maps := by
      have := (List.getElem?_eq_some_iff.mp hx).1
      unfold rng1 at this
      simp at this
      omega
    have ⟨ht, ht1⟩ := tR_S6 hd hx1
    have e1 := take_succ (st := stepR k f l d c maps) (s0 := []) hx
    have hll : (((rng1 maps).take i).foldl (stepR k f l d c maps) []).length ≤ i := Nat.le_trans stepR_len (by simp; omega)
    have hq : S6 (((maps : Int) - 1) / x) := by
      have a1 : 0 ≤ ((maps : Int) - 1) / x := Int.ediv_nonneg (by omega) (by omega)
      have a2 : ((maps : Int) - 1) / x ≤ (maps : Int) - 1 := Int.ediv_le_self _ (by omega)
      unfold S6; omega
    have hmn : S6 (mn f c) := by unfold mn S6; split <;> omega
    rw [s_gmN]
    try simp only [s_mVar0, s_mVarS, s_mVarO0, s_mVarOS, s_isObj_lst, s_isObj_dic, s_mC, s_mOp, s_mOp1, s_mB, s_mNil, s_mCons, s_mTup, s_mLst, s_mCall, s_mTB, s_mNot, s_mAnd, s_mOr, s_mAndV, s_mOrV, s_mIf, s_mYes, s_mSl, s_mNo, s_mPart, s_mLc, s_mItems, s_mRng1, s_mRng2, s_mEnum, s_mChain, s_seqT, s_seqL, s_sNext, s_sSeq, s_sIf, s_sSet, s_sRet, s_sRetN, s_sBreak, s_sCont, s_sDrop, s_sPar, s_setN0, s_setNS, s_sAsg, s_sApp, s_sAug, s_sFor, s_sSrc, s_gmN, s_gmT, s_gmCons, s_gmNil, s_wipe0, s_wipeS, s_oSub, s_oAddI, s_oAdd, s_oLt, s_oLe, s_oGt, s_oGe, s_oNeg, s_oNot, s_oMul, s_oMulW, s_oMod, s_oFdiv, s_oPow, s_oIsN, s_oNotN, s_oIsB, s_oNotB, s_isNon_int, s_isNon_non, s_isNon_bl, s_isNon_str, s_isNon_tup, s_isNon_lst, s_isNon_dic, s_oEqI, s_oNeI, s_oIxT, s_oIxL, s_oSlT, s_oSlL, s_oRevT, s_oRevL, s_oInt, s_oIntB, s_oAbs, s_oMax2, s_oMin2, s_oLen, s_plenT, s_plenL, s_plenD, s_plenS, s_oTupleL, s_oTupleT, s_oListL, s_oListT, List.set_cons_succ, List.set_cons_zero, List.append_nil, true_and]
    refine ⟨cmL (by unfold S6; omega), cmL hmn, cmL (by unfold S6; omega), cmL (by unfold S6; omega), ?_⟩
    rw [show (if (if f + (if c < f then c else f) * (x - 1) + l * (x + d) < k + c * (x - 1) then f + (if c < f then c else f) * (x - 1) + l * (x + d) else k + c * (x - 1)) > 1 then (if f + (if c < f then c else f) * (x - 1) + l * (x + d) < k + c * (x - 1) then f + (if c < f then c else f) * (x - 1) + l * (x + d) else k + c * (x - 1)) else 1) = tR k f l d c x from rfl]
    by_cases hb : 2 * f + tR k f l d c x + 1 ≤ k
    · have e2 : stepR k f l d c maps (((rng1 maps).take i).foldl (stepR k f l d c maps) []) x = _ := if_pos hb
      rw [e2] at e1
      refine ⟨_, rfl, ite_t (decide_eq_true hb) ?_⟩
      try simp only [s_mVar0, s_mVarS, s_mVarO0, s_mVarOS, s_isObj_lst, s_isObj_dic, s_mC, s_mOp, s_mOp1, s_mB, s_mNil, s_mCons, s_mTup, s_mLst, s_mCall, s_mTB, s_mNot, s_mAnd, s_mOr, s_mAndV, s_mOrV, s_mIf, s_mYes, s_mSl, s_mNo, s_mPart, s_mLc, s_mItems, s_mRng1, s_mRng2, s_mEnum, s_mChain, s_seqT, s_seqL, s_sNext, s_sSeq, s_sIf, s_sSet, s_sRet, s_sRetN, s_sBreak, s_sCont, s_sDrop, s_sPar, s_setN0, s_setNS, s_sAsg, s_sApp, s_sAug, s_sFor, s_sSrc, s_gmN, s_gmT, s_gmCons, s_gmNil, s_wipe0, s_wipeS, s_oSub, s_oAddI, s_oAdd, s_oLt, s_oLe, s_oGt, s_oGe, s_oNeg, s_oNot, s_oMul, s_oMulW, s_oMod, s_oFdiv, s_oPow, s_oIsN, s_oNotN, s_oIsB, s_oNotB, s_isNon_int, s_isNon_non, s_isNon_bl, s_isNon_str, s_isNon_tup, s_isNon_lst, s_isNon_dic, s_oEqI, s_oNeI, s_oIxT, s_oIxL, s_oSlT, s_oSlL, s_oRevT, s_oRevL, s_oInt, s_oIntB, s_oAbs, s_oMax2, s_oMin2, s_oLen, s_plenT, s_plenL, s_plenD, s_plenS, s_oTupleL, s_oTupleT, s_oListL, s_oListT, List.set_cons_succ, List.set_cons_zero, List.append_nil, true_and]
      refine ⟨_, _, rfl, rfl, by omega, ?_⟩
      rw [show ((maps : Int) - 1).toNat = maps - 1 by omega, rngP_rng1]
      refine comp_emb (tst := fun y => decide (y % x = 0)) (f := PV.int) (fun y hy => ⟨_, fun k hk => s_gmN.mpr hk, fun Q hQ => ?_, fun _ Q hQ => ?_⟩) ?_ ?_
      · show mTB (mOp oEq (mOp oMod (mVar 10) (mVar 7)) (mC (.int 0))) [some (.int k), some (.int f), some (.int l), some (.int d), some (.int c), some (.int maps), some (.lst ((((rng1 maps).take i).foldl (stepR k f l d c maps) []).map rr)), some (.int x), some (.int (tR k f l d c x)), y9, some (.int y)] Q
        try simp only [s_mVar0, s_mVarS, s_mVarO0, s_mVarOS, s_isObj_lst, s_isObj_dic, s_mC, s_mOp, s_mOp1, s_mB, s_mNil, s_mCons, s_mTup, s_mLst, s_mCall, s_mTB, s_mNot, s_mAnd, s_mOr, s_mAndV, s_mOrV, s_mIf, s_mYes, s_mSl, s_mNo, s_mPart, s_mLc, s_mItems, s_mRng1, s_mRng2, s_mEnum, s_mChain, s_seqT, s_seqL, s_sNext, s_sSeq, s_sIf, s_sSet, s_sRet, s_sRetN, s_sBreak, s_sCont, s_sDrop, s_sPar, s_setN0, s_setNS, s_sAsg, s_sApp, s_sAug, s_sFor, s_sSrc, s_gmN, s_gmT, s_gmCons, s_gmNil, s_wipe0, s_wipeS, s_oSub, s_oAddI, s_oAdd, s_oLt, s_oLe, s_oGt, s_oGe, s_oNeg, s_oNot, s_oMul, s_oMulW, s_oMod, s_oFdiv, s_oPow, s_oIsN, s_oNotN, s_oIsB, s_oNotB, s_isNon_int, s_isNon_non, s_isNon_bl, s_isNon_str, s_isNon_tup, s_isNon_lst, s_isNon_dic, s_oEqI, s_oNeI, s_oIxT, s_oIxL, s_oSlT, s_oSlL, s_oRevT, s_oRevL, s_oInt, s_oIntB, s_oAbs, s_oMax2, s_oMin2, s_oLen, s_plenT, s_plenL, s_plenD, s_plenS, s_oTupleL, s_oTupleT, s_oListL, s_oListT, List.set_cons_succ, List.set_cons_zero, List.append_nil, true_and]
        exact ⟨by omega, _, rfl, hQ⟩
      · show mVar 10 [some (.int k), some (.int f), some (.int l), some (.int d), some (.int c), some (.int maps), some (.lst ((((rng1 maps).take i).foldl (stepR k f l d c maps) []).map rr)), some (.int x), some (.int (tR k f l d c x)), y9, some (.int y)] Q
        try simp only [s_mVar0, s_mVarS, s_mVarO0, s_mVarOS, s_isObj_lst, s_isObj_dic, s_mC, s_mOp, s_mOp1, s_mB, s_mNil, s_mCons, s_mTup, s_mLst, s_mCall, s_mTB, s_mNot, s_mAnd, s_mOr, s_mAndV, s_mOrV, s_mIf, s_mYes, s_mSl, s_mNo, s_mPart, s_mLc, s_mItems, s_mRng1, s_mRng2, s_mEnum, s_mChain, s_seqT, s_seqL, s_sNext, s_sSeq, s_sIf, s_sSet, s_sRet, s_sRetN, s_sBreak, s_sCont, s_sDrop, s_sPar, s_setN0, s_setNS, s_sAsg, s_sApp, s_sAug, s_sFor, s_sSrc, s_gmN, s_gmT, s_gmCons, s_gmNil, s_wipe0, s_wipeS, s_oSub, s_oAddI, s_oAdd, s_oLt, s_oLe, s_oGt, s_oGe, s_oNeg, s_oNot, s_oMul, s_oMulW, s_oMod, s_oFdiv, s_oPow, s_oIsN, s_oNotN, s_oIsB, s_oNotB, s_isNon_int, s_isNon_non, s_isNon_bl, s_isNon_str, s_isNon_tup, s_isNon_lst, s_isNon_dic, s_oEqI, s_oNeI, s_oIxT, s_oIxL, s_oSlT, s_oSlL, s_oRevT, s_oRevL, s_oInt, s_oIntB, s_oAbs, s_oMax2, s_oMin2, s_oLen, s_plenT, s_plenL, s_plenD, s_plenS, s_oTupleL, s_oTupleT, s_oListL, s_oListT, List.set_cons_succ, List.set_cons_zero, List.append_nil, true_and]
        exact hQ
      · refine line ?_
        unfold rng1
        simp
        omega
      · try simp only [s_mVar0, s_mVarS, s_mVarO0, s_mVarOS, s_isObj_lst, s_isObj_dic, s_mC, s_mOp, s_mOp1, s_mB, s_mNil, s_mCons, s_mTup, s_mLst, s_mCall, s_mTB, s_mNot, s_mAnd, s_mOr, s_mAndV, s_mOrV, s_mIf, s_mYes, s_mSl, s_mNo, s_mPart, s_mLc, s_mItems, s_mRng1, s_mRng2, s_mEnum, s_mChain, s_seqT, s_seqL, s_sNext, s_sSeq, s_sIf, s_sSet, s_sRet, s_sRetN, s_sBreak, s_sCont, s_sDrop, s_sPar, s_setN0, s_setNS, s_sAsg, s_sApp, s_sAug, s_sFor, s_sSrc, s_gmN, s_gmT, s_gmCons, s_gmNil, s_wipe0, s_wipeS, s_oSub, s_oAddI, s_oAdd, s_oLt, s_oLe, s_oGt, s_oGe, s_oNeg, s_oNot, s_oMul, s_oMulW, s_oMod, s_oFdiv, s_oPow, s_oIsN, s_oNotN, s_oIsB, s_oNotB, s_isNon_int, s_isNon_non, s_isNon_bl, s_isNon_str, s_isNon_tup, s_isNon_lst, s_isNon_dic, s_oEqI, s_oNeI, s_oIxT, s_oIxL, s_oSlT, s_oSlL, s_oRevT, s_oRevL, s_oInt, s_oIntB, s_oAbs, s_oMax2, s_oMin2, s_oLen, s_plenT, s_plenL, s_plenD, s_plenS, s_oTupleL, s_oTupleT, s_oListL, s_oListT, List.set_cons_succ, List.set_cons_zero, List.append_nil, true_and]
        rw [List.nil_append, List.length_map, show ((rng1 (maps - 1)).filter fun y => decide (y % x = 0)) = mults maps x from rfl]
        refine ⟨_, rfl, _, rfl, ?_⟩
        rw [mults_len (by omega) hx1.1, bill_eq]
        refine ⟨cmL hq, cmR (by omega), cmR (by omega), cmR (by unfold S6 at ht; omega), line (by simp), small_line (by rw [List.length_map]; omega), hN _ ⟨him, some (.int x), some (.int (tR k f l d c x)), some (.int (((maps : Int) - 1) / x)), ?_⟩⟩
        rw [e1, List.map_append]
        rfl
    · have e2 : stepR k f l d c maps (((rng1 maps).take i).foldl (stepR k f l d c maps) []) x = _ := if_neg hb
      rw [e2] at e1
      refine ⟨_, rfl, ite_f (by rw [decide_eq_false hb]; decide) (hN _ ⟨him, some (.int x), some (.int (tR k f l d c x)), y9, ?_⟩)⟩
      rw [e1]
  · obtain ⟨hi, y7, y8, y9, rfl⟩ := hE
    rw [List.take_of_length_le (Nat.le_refl _)]
    try simp only [s_mVar0, s_mVarS, s_mVarO0, s_mVarOS, s_isObj_lst, s_isObj_dic, s_mC, s_mOp, s_mOp1, s_mB, s_mNil, s_mCons, s_mTup, s_mLst, s_mCall, s_mTB, s_mNot, s_mAnd, s_mOr, s_mAndV, s_mOrV, s_mIf, s_mYes, s_mSl, s_mNo, s_mPart, s_mLc, s_mItems, s_mRng1, s_mRng2, s_mEnum, s_mChain, s_seqT, s_seqL, s_sNext, s_sSeq, s_sIf, s_sSet, s_sRet, s_sRetN, s_sBreak, s_sCont, s_sDrop, s_sPar, s_setN0, s_setNS, s_sAsg, s_sApp, s_sAug, s_sFor, s_sSrc, s_gmN, s_gmT, s_gmCons, s_gmNil, s_wipe0, s_wipeS, s_oSub, s_oAddI, s_oAdd, s_oLt, s_oLe, s_oGt, s_oGe, s_oNeg, s_oNot, s_oMul, s_oMulW, s_oMod, s_oFdiv, s_oPow, s_oIsN, s_oNotN, s_oIsB, s_oNotB, s_isNon_int, s_isNon_non, s_isNon_bl, s_isNon_str, s_isNon_tup, s_isNon_lst, s_isNon_dic, s_oEqI, s_oNeI, s_oIxT, s_oIxL, s_oSlT, s_oSlL, s_oRevT, s_oRevL, s_oInt, s_oIntB, s_oAbs, s_oMax2, s_oMin2, s_oLen, s_plenT, s_plenL, s_plenD, s_plenS, s_oTupleL, s_oTupleT, s_oListL, s_oListT, List.set_cons_succ, List.set_cons_zero, List.append_nil, true_and, x_bl, x_int, x_some, x_addT, x_addL, x_true, x_false]
    exact h
end K46

set_option maxHeartbeats 2000000
namespace K46
open PySem L2 PM
def stepB (b : Option R3) (x : R3) : Option R3 :=
  match b with
  | none => some x
  | some y => if x.2.2 < y.2.2 then some x else some y
def bestR (xs : List R3) : Option R3 := xs.foldl stepB none
def bR : Option R3 → PV
  | none => .non
  | some x => rr x
theorem bestR_none {xs : List R3} : bestR xs = none ↔ xs = [] := by
  have go : ∀ (xs : List R3) (y : R3), (xs.foldl stepB (some y)).isSome = true := by
    intro xs
    induction xs with
    | nil => intro y; rfl
    | cons x xs ih =>
      intro y
      rw [List.foldl_cons]
      unfold stepB
      split
      · cases (by assumption : some y = none)
      · split
        · exact ih _
        · exact ih _
  cases xs with
  | nil => exact ⟨fun _ => rfl, fun _ => rfl⟩
  | cons x xs =>
    refine ⟨fun h => ?_, fun h => by cases h⟩
    have := go xs x
    unfold bestR at h
    rw [List.foldl_cons] at h
    rw [show stepB none x = some x from rfl] at h
    rw [h] at this
    cases this
def sp_cheapest_rhythm : PM.Spec := fun ps P => ∃ (k f l d c : Int) (maps : Nat), ps = [.int k, .int f, .int l, .int d, .int c, .int maps] ∧ RD k f l d c maps ∧ P (bR (bestR (rhy k f l d c maps)))
theorem h_cheapest_rhythm (ps : List PV) (Q : PV → Prop) (h : sp_cheapest_rhythm ps Q) : t_cheapest_rhythm sp_rhythms { nx := fun _ => nxOf .cl Q, rt := Q } (startE n_cheapest_rhythm.length ps) := by
  obtain ⟨k, f, l, d, c, maps, rfl, hd, h⟩ := h
  show t_cheapest_rhythm _ _ [some (.int k), some (.int f), some (.int l), some (.int d), some (.int c), some (.int maps), none, none, none, none]
  unfold t_cheapest_rhythm
  try simp only [s_mVar0, s_mVarS, s_mVarO0, s_mVarOS, s_isObj_lst, s_isObj_dic, s_mC, s_mOp, s_mOp1, s_mB, s_mNil, s_mCons, s_mTup, s_mLst, s_mCall, s_mTB, s_mNot, s_mAnd, s_mOr, s_mAndV, s_mOrV, s_mIf, s_mYes, s_mSl, s_mNo, s_mPart, s_mLc, s_mItems, s_mRng1, s_mRng2, s_mEnum, s_mChain, s_seqT, s_seqL, s_sNext, s_sSeq, s_sIf, s_sSet, s_sRet, s_sRetN, s_sBreak, s_sCont, s_sDrop, s_sPar, s_setN0, s_setNS, s_sAsg, s_sApp, s_sAug, s_sFor, s_sSrc, s_gmN, s_gmT, s_gmCons, s_gmNil, s_wipe0, s_wipeS, s_oSub, s_oAddI, s_oAdd, s_oLt, s_oLe, s_oGt, s_oGe, s_oNeg, s_oNot, s_oMul, s_oMulW, s_oMod, s_oFdiv, s_oPow, s_oIsN, s_oNotN, s_oIsB, s_oNotB, s_isNon_int, s_isNon_non, s_isNon_bl, s_isNon_str, s_isNon_tup, s_isNon_lst, s_isNon_dic, s_oEqI, s_oNeI, s_oIxT, s_oIxL, s_oSlT, s_oSlL, s_oRevT, s_oRevL, s_oInt, s_oIntB, s_oAbs, s_oMax2, s_oMin2, s_oLen, s_plenT, s_plenL, s_plenD, s_plenS, s_oTupleL, s_oTupleT, s_oListL, s_oListT, List.set_cons_succ, List.set_cons_zero, List.append_nil, true_and, x_bl, x_int, x_some, x_addT, x_addL, x_true, x_false]
  refine ⟨k, f, l, d, c, maps, rfl, hd, ?_⟩
  try simp only [s_mVar0, s_mVarS, s_mVarO0, s_mVarOS, s_isObj_lst, s_isObj_dic, s_mC, s_mOp, s_mOp1, s_mB, s_mNil, s_mCons, s_mTup, s_mLst, s_mCall, s_mTB, s_mNot, s_mAnd, s_mOr, s_mAndV, s_mOrV, s_mIf, s_mYes, s_mSl, s_mNo, s_mPart, s_mLc, s_mItems, s_mRng1, s_mRng2, s_mEnum, s_mChain, s_seqT, s_seqL, s_sNext, s_sSeq, s_sIf, s_sSet, s_sRet, s_sRetN, s_sBreak, s_sCont, s_sDrop, s_sPar, s_setN0, s_setNS, s_sAsg, s_sApp, s_sAug, s_sFor, s_sSrc, s_gmN, s_gmT, s_gmCons, s_gmNil, s_wipe0, s_wipeS, s_oSub, s_oAddI, s_oAdd, s_oLt, s_oLe, s_oGt, s_oGe, s_oNeg, s_oNot, s_oMul, s_oMulW, s_oMod, s_oFdiv, s_oPow, s_oIsN, s_oNotN, s_oIsB, s_oNotB, s_isNon_int, s_isNon_non, s_isNon_bl, s_isNon_str, s_isNon_tup, s_isNon_lst, s_isNon_dic, s_oEqI, s_oNeI, s_oIxT, s_oIxL, s_oSlT, s_oSlL, s_oRevT, s_oRevL, s_oInt, s_oIntB, s_oAbs, s_oMax2, s_oMin2, s_oLen, s_plenT, s_plenL, s_plenD, s_plenS, s_oTupleL, s_oTupleT, s_oListL, s_oListT, List.set_cons_succ, List.set_cons_zero, List.append_nil, true_and, x_bl, x_int, x_some, x_addT, x_addL, x_true, x_false]
  refine for_fold stepB (fun b e => ∃ y7 y8 y9, e = [some (.int k), some (.int f), some (.int l), some (.int d), some (.int c), some (.int maps), some (bR b), y7, y8, y9]) none ⟨none, none, none, rfl⟩ (fun x b e N hx hE hN => ?_) (fun e hE => ?_)
  · obtain ⟨y7, y8, y9, rfl⟩ := hE
    refine s_gmT.mpr ⟨rfl, s_gmCons.mpr (s_gmN.mpr (s_gmCons.mpr (s_gmN.mpr (s_gmCons.mpr (s_gmN.mpr (s_gmNil.mpr ?_))))))⟩
    cases b with
    | none =>
      try simp only [s_mVar0, s_mVarS, s_mVarO0, s_mVarOS, s_isObj_lst, s_isObj_dic, s_mC, s_mOp, s_mOp1, s_mB, s_mNil, s_mCons, s_mTup, s_mLst, s_mCall, s_mTB, s_mNot, s_mAnd, s_mOr, s_mAndV, s_mOrV, s_mIf, s_mYes, s_mSl, s_mNo, s_mPart, s_mLc, s_mItems, s_mRng1, s_mRng2, s_mEnum, s_mChain, s_seqT, s_seqL, s_sNext, s_sSeq, s_sIf, s_sSet, s_sRet, s_sRetN, s_sBreak, s_sCont, s_sDrop, s_sPar, s_setN0, s_setNS, s_sAsg, s_sApp, s_sAug, s_sFor, s_sSrc, s_gmN, s_gmT, s_gmCons, s_gmNil, s_wipe0, s_wipeS, s_oSub, s_oAddI, s_oAdd, s_oLt, s_oLe, s_oGt, s_oGe, s_oNeg, s_oNot, s_oMul, s_oMulW, s_oMod, s_oFdiv, s_oPow, s_oIsN, s_oNotN, s_oIsB, s_oNotB, s_isNon_int, s_isNon_non, s_isNon_bl, s_isNon_str, s_isNon_tup, s_isNon_lst, s_isNon_dic, s_oEqI, s_oNeI, s_oIxT, s_oIxL, s_oSlT, s_oSlL, s_oRevT, s_oRevL, s_oInt, s_oIntB, s_oAbs, s_oMax2, s_oMin2, s_oLen, s_plenT, s_plenL, s_plenD, s_plenS, s_oTupleL, s_oTupleT, s_oListL, s_oListT, List.set_cons_succ, List.set_cons_zero, List.append_nil, true_and]
      exact ⟨_, rfl, ite_t rfl (ite_t trivial ⟨line (by simp), hN _ ⟨some (.int x.1), some (.int x.2.1), some (.int x.2.2), rfl⟩⟩)⟩
    | some y =>
      try simp only [s_mVar0, s_mVarS, s_mVarO0, s_mVarOS, s_isObj_lst, s_isObj_dic, s_mC, s_mOp, s_mOp1, s_mB, s_mNil, s_mCons, s_mTup, s_mLst, s_mCall, s_mTB, s_mNot, s_mAnd, s_mOr, s_mAndV, s_mOrV, s_mIf, s_mYes, s_mSl, s_mNo, s_mPart, s_mLc, s_mItems, s_mRng1, s_mRng2, s_mEnum, s_mChain, s_seqT, s_seqL, s_sNext, s_sSeq, s_sIf, s_sSet, s_sRet, s_sRetN, s_sBreak, s_sCont, s_sDrop, s_sPar, s_setN0, s_setNS, s_sAsg, s_sApp, s_sAug, s_sFor, s_sSrc, s_gmN, s_gmT, s_gmCons, s_gmNil, s_wipe0, s_wipeS, s_oSub, s_oAddI, s_oAdd, s_oLt, s_oLe, s_oGt, s_oGe, s_oNeg, s_oNot, s_oMul, s_oMulW, s_oMod, s_oFdiv, s_oPow, s_oIsN, s_oNotN, s_oIsB, s_oNotB, s_isNon_int, s_isNon_non, s_isNon_bl, s_isNon_str, s_isNon_tup, s_isNon_lst, s_isNon_dic, s_oEqI, s_oNeI, s_oIxT, s_oIxL, s_oSlT, s_oSlL, s_oRevT, s_oRevL, s_oInt, s_oIntB, s_oAbs, s_oMax2, s_oMin2, s_oLen, s_plenT, s_plenL, s_plenD, s_plenS, s_oTupleL, s_oTupleT, s_oListL, s_oListT, List.set_cons_succ, List.set_cons_zero, List.append_nil, true_and]
      refine ⟨_, rfl, ite_f Bool.false_ne_true (s_oIxT.mpr ⟨.int y.2.2, rfl, s_oLt.mpr ⟨_, rfl, ?_⟩⟩)⟩
      by_cases z : x.2.2 < y.2.2
      · have e2 : stepB (some y) x = some x := if_pos z
        exact ite_t (decide_eq_true z) ⟨line (by simp), hN _ ⟨some (.int x.1), some (.int x.2.1), some (.int x.2.2), by rw [e2]; rfl⟩⟩
      · have e2 : stepB (some y) x = some y := if_neg z
        exact ite_f (by rw [decide_eq_false z]; decide) (hN _ ⟨some (.int x.1), some (.int x.2.1), some (.int x.2.2), by rw [e2]⟩)
  · obtain ⟨y7, y8, y9, rfl⟩ := hE
    try simp only [s_mVar0, s_mVarS, s_mVarO0, s_mVarOS, s_isObj_lst, s_isObj_dic, s_mC, s_mOp, s_mOp1, s_mB, s_mNil, s_mCons, s_mTup, s_mLst, s_mCall, s_mTB, s_mNot, s_mAnd, s_mOr, s_mAndV, s_mOrV, s_mIf, s_mYes, s_mSl, s_mNo, s_mPart, s_mLc, s_mItems, s_mRng1, s_mRng2, s_mEnum, s_mChain, s_seqT, s_seqL, s_sNext, s_sSeq, s_sIf, s_sSet, s_sRet, s_sRetN, s_sBreak, s_sCont, s_sDrop, s_sPar, s_setN0, s_setNS, s_sAsg, s_sApp, s_sAug, s_sFor, s_sSrc, s_gmN, s_gmT, s_gmCons, s_gmNil, s_wipe0, s_wipeS, s_oSub, s_oAddI, s_oAdd, s_oLt, s_oLe, s_oGt, s_oGe, s_oNeg, s_oNot, s_oMul, s_oMulW, s_oMod, s_oFdiv, s_oPow, s_oIsN, s_oNotN, s_oIsB, s_oNotB, s_isNon_int, s_isNon_non, s_isNon_bl, s_isNon_str, s_isNon_tup, s_isNon_lst, s_isNon_dic, s_oEqI, s_oNeI, s_oIxT, s_oIxL, s_oSlT, s_oSlL, s_oRevT, s_oRevL, s_oInt, s_oIntB, s_oAbs, s_oMax2, s_oMin2, s_oLen, s_plenT, s_plenL, s_plenD, s_plenS, s_oTupleL, s_oTupleT, s_oListL, s_oListT, List.set_cons_succ, List.set_cons_zero, List.append_nil, true_and, x_bl, x_int, x_some, x_addT, x_addL, x_true, x_false]
    exact h
end K46

set_option maxHeartbeats 2000000
namespace K46
open PySem L2 PM
theorem mult_list (r : Nat) (hr : 0 < r) : ∀ m : Nat, (((List.range m).map fun (i : Nat) => 1 + (i : Int)).filter fun x => decide (x % (r : Int) = 0)) = (List.range (m / r)).map fun (j : Nat) => (1 + (j : Int)) * r
  | 0 => by simp
  | m + 1 => by
    rw [List.range_succ, List.map_append, List.filter_append, mult_list r hr m]
    have e : (m + 1) / r = m / r + if r ∣ m + 1 then 1 else 0 := Nat.succ_div
    rw [e]
    by_cases h : r ∣ m + 1
    · rw [if_pos h] at e ⊢
      have z : (1 + (m : Int)) % (r : Int) = 0 := by
        have := Int.emod_eq_zero_of_dvd (Int.natCast_dvd_natCast.mpr h)
        rw [Int.add_comm]; exact_mod_cast this
      have z2 : (1 + ((m / r : Nat) : Int)) * r = 1 + (m : Int) := by
        have := Nat.div_mul_cancel h
        rw [e] at this
        have t : ((m / r + 1 : Nat) : Int) * (r : Int) = ((m + 1 : Nat) : Int) := by exact_mod_cast this
        rw [Int.add_comm 1, Int.add_comm 1]
        exact t
      rw [List.range_succ, List.map_append]
      congr 1
      simp only [List.map_cons, List.map_nil, List.filter_cons, List.filter_nil, z, decide_true, if_true, z2]
    · rw [if_neg h, Nat.add_zero]
      have z : ¬ (1 + (m : Int)) % (r : Int) = 0 := fun z => h (by
        have := Int.dvd_of_emod_eq_zero z
        rw [Int.add_comm] at this
        exact_mod_cast this)
      simp [z]
theorem size_mult {b m : Int} (hb : 1 ≤ b) (hm : 1 ≤ m) : Builtin.Range.rangeSize (b - 1) (m - 1) b = ((((m - 1) / b).toNat : Nat) : Int) := by
  have h0 : 0 ≤ (m - 1) / b := Int.ediv_nonneg (by omega) (by omega)
  rw [Int.toNat_of_nonneg h0]
  unfold Builtin.Range.rangeSize
  rw [if_pos (by omega)]
  split
  · have e : m - 1 = (m - 1 - (b - 1) - 1) + 1 * b := by omega
    conv => rhs; rw [e]
    rw [Int.add_mul_ediv_right _ _ (by omega)]
  · exact (Int.ediv_eq_zero_of_lt (by omega) (by omega)).symm
theorem rgC_mult {b m : Int} (hb : 1 ≤ b) (hb2 : b ≤ 1000) (hm : 1 ≤ m) (hm2 : m ≤ 1000) : RgC (b - 1) (m - 1) b ((m - 1) / b).toNat := by
  have h0 : 0 ≤ (m - 1) / b := Int.ediv_nonneg (by omega) (by omega)
  have h1 : (m - 1) / b ≤ m - 1 := Int.ediv_le_self _ (by omega)
  refine ⟨by omega, by omega, ?_, size_mult hb hm⟩
  unfold Builtin.Range.small
  rw [size_mult hb hm, Int.toNat_of_nonneg h0]
  simp only [Builtin.Range.rangeFitsLong, Bool.and_eq_true, Bool.or_eq_true, decide_eq_true_eq, beq_iff_eq, show b > 0 by omega, if_true]
  omega
theorem bestR_mem {xs : List R3} {y : R3} (h : bestR xs = some y) : y ∈ xs := by
  have go : ∀ (xs : List R3) (b : Option R3), xs.foldl stepB b = some y → b = some y ∨ y ∈ xs := by
    intro xs
    induction xs with
    | nil => intro b h; exact .inl h
    | cons x xs ih =>
      intro b h
      rcases ih _ h with e | e
      · cases b with
        | none => cases e; exact .inr (List.mem_cons_self ..)
        | some z =>
          by_cases hz : x.2.2 < z.2.2
          · have e2 : stepB (some z) x = some x := if_pos hz
            rw [e2] at e; cases e; exact .inr (List.mem_cons_self ..)
          · have e2 : stepB (some z) x = some z := if_neg hz
            rw [e2] at e; exact .inl e
      · exact .inr (List.mem_cons_of_mem _ e)
  rcases go xs none h with e | e
  · cases e
  · exact e
theorem rhy_mem {k f l d c : Int} {maps : Nat} {y : R3} (h : y ∈ rhy k f l d c maps) : 1 ≤ y.1 ∧ y.1 ≤ maps := by
  have go : ∀ (xs : List Int) (acc : List R3), y ∈ xs.foldl (stepR k f l d c maps) acc → y ∈ acc ∨ y.1 ∈ xs := by
    intro xs
    induction xs with
    | nil => intro acc h; exact .inl h
    | cons x xs ih =>
      intro acc h
      rcases ih _ h with e | e
      · unfold stepR at e
        split at e
        · rcases List.mem_append.mp e with e | e
          · exact .inl e
          · rw [List.mem_singleton] at e; rw [e]; exact .inr (List.mem_cons_self ..)
        · exact .inl e
      · exact .inr (List.mem_cons_of_mem _ e)
  rcases go _ _ h with e | e
  · cases e
  · exact mem_rng1.mp e
def sched (maps : Nat) (b : Int) : List Int := (mults maps b).map fun x => x - 1
theorem rg3_sched {maps : Nat} {b : Int} (hb : 1 ≤ b) (hm : 1 ≤ maps) : rg3P (b - 1) b (((maps : Int) - 1) / b).toNat = (sched maps b).map PV.int := by
  obtain ⟨n, rfl⟩ : ∃ n : Nat, b = n := ⟨b.toNat, by omega⟩
  have e : (((maps : Int) - 1) / (n : Int)).toNat = (maps - 1) / n := by
    rw [show (maps : Int) - 1 = ((maps - 1 : Nat) : Int) by omega, ← Int.natCast_ediv, Int.toNat_natCast]
  unfold sched mults rng1 rg3P
  rw [e, mult_list n (by omega), List.map_map, List.map_map]
  refine List.map_congr_left fun j _ => ?_
  show PV.int _ = PV.int _
  congr 1
  show (n : Int) - 1 + (j : Int) * n = (1 + (j : Int)) * n - 1
  rw [Int.add_mul, Int.one_mul]
  omega
def bS (maps : Nat) : Option R3 → PV
  | none => .non
  | some y => .tup ((sched maps y.1).map PV.int)
def sp_kept_schedule : PM.Spec := fun ps P => ∃ (k f l d c : Int) (maps : Nat), ps = [.int k, .int f, .int l, .int d, .int c, .int maps] ∧ RD k f l d c maps ∧ P (bS maps (bestR (rhy k f l d c maps)))
theorem h_kept_schedule (ps : List PV) (Q : PV → Prop) (h : sp_kept_schedule ps Q) : t_kept_schedule sp_cheapest_rhythm { nx := fun _ => nxOf .cl Q, rt := Q } (startE n_kept_schedule.length ps) := by
  obtain ⟨k, f, l, d, c, maps, rfl, hd, h⟩ := h
  show t_kept_schedule _ _ [some (.int k), some (.int f), some (.int l), some (.int d), some (.int c), some (.int maps), none]
  unfold t_kept_schedule
  try simp only [s_mVar0, s_mVarS, s_mVarO0, s_mVarOS, s_isObj_lst, s_isObj_dic, s_mC, s_mOp, s_mOp1, s_mB, s_mNil, s_mCons, s_mTup, s_mLst, s_mCall, s_mTB, s_mNot, s_mAnd, s_mOr, s_mAndV, s_mOrV, s_mIf, s_mYes, s_mSl, s_mNo, s_mPart, s_mLc, s_mItems, s_mRng1, s_mRng2, s_mEnum, s_mChain, s_seqT, s_seqL, s_sNext, s_sSeq, s_sIf, s_sSet, s_sRet, s_sRetN, s_sBreak, s_sCont, s_sDrop, s_sPar, s_setN0, s_setNS, s_sAsg, s_sApp, s_sAug, s_sFor, s_sSrc, s_gmN, s_gmT, s_gmCons, s_gmNil, s_wipe0, s_wipeS, s_oSub, s_oAddI, s_oAdd, s_oLt, s_oLe, s_oGt, s_oGe, s_oNeg, s_oNot, s_oMul, s_oMulW, s_oMod, s_oFdiv, s_oPow, s_oIsN, s_oNotN, s_oIsB, s_oNotB, s_isNon_int, s_isNon_non, s_isNon_bl, s_isNon_str, s_isNon_tup, s_isNon_lst, s_isNon_dic, s_oEqI, s_oNeI, s_oIxT, s_oIxL, s_oSlT, s_oSlL, s_oRevT, s_oRevL, s_oInt, s_oIntB, s_oAbs, s_oMax2, s_oMin2, s_oLen, s_plenT, s_plenL, s_plenD, s_plenS, s_oTupleL, s_oTupleT, s_oListL, s_oListT, List.set_cons_succ, List.set_cons_zero, List.append_nil, true_and, x_bl, x_int, x_some, x_addT, x_addL, x_true, x_false]
  have ⟨hk, hf, hl, hdd, hc, hm⟩ := hd
  refine ⟨k, f, l, d, c, maps, rfl, hd, ?_⟩
  cases hb : bestR (rhy k f l d c maps) with
  | none =>
    rw [hb] at h
    try simp only [s_mVar0, s_mVarS, s_mVarO0, s_mVarOS, s_isObj_lst, s_isObj_dic, s_mC, s_mOp, s_mOp1, s_mB, s_mNil, s_mCons, s_mTup, s_mLst, s_mCall, s_mTB, s_mNot, s_mAnd, s_mOr, s_mAndV, s_mOrV, s_mIf, s_mYes, s_mSl, s_mNo, s_mPart, s_mLc, s_mItems, s_mRng1, s_mRng2, s_mEnum, s_mChain, s_seqT, s_seqL, s_sNext, s_sSeq, s_sIf, s_sSet, s_sRet, s_sRetN, s_sBreak, s_sCont, s_sDrop, s_sPar, s_setN0, s_setNS, s_sAsg, s_sApp, s_sAug, s_sFor, s_sSrc, s_gmN, s_gmT, s_gmCons, s_gmNil, s_wipe0, s_wipeS, s_oSub, s_oAddI, s_oAdd, s_oLt, s_oLe, s_oGt, s_oGe, s_oNeg, s_oNot, s_oMul, s_oMulW, s_oMod, s_oFdiv, s_oPow, s_oIsN, s_oNotN, s_oIsB, s_oNotB, s_isNon_int, s_isNon_non, s_isNon_bl, s_isNon_str, s_isNon_tup, s_isNon_lst, s_isNon_dic, s_oEqI, s_oNeI, s_oIxT, s_oIxL, s_oSlT, s_oSlL, s_oRevT, s_oRevL, s_oInt, s_oIntB, s_oAbs, s_oMax2, s_oMin2, s_oLen, s_plenT, s_plenL, s_plenD, s_plenS, s_oTupleL, s_oTupleT, s_oListL, s_oListT, List.set_cons_succ, List.set_cons_zero, List.append_nil, true_and, x_bl, x_int, x_some, x_addT, x_addL, x_true, x_false]
    exact h
  | some y =>
    rw [hb] at h
    have hy := rhy_mem (bestR_mem hb)
    try simp only [s_mVar0, s_mVarS, s_mVarO0, s_mVarOS, s_isObj_lst, s_isObj_dic, s_mC, s_mOp, s_mOp1, s_mB, s_mNil, s_mCons, s_mTup, s_mLst, s_mCall, s_mTB, s_mNot, s_mAnd, s_mOr, s_mAndV, s_mOrV, s_mIf, s_mYes, s_mSl, s_mNo, s_mPart, s_mLc, s_mItems, s_mRng1, s_mRng2, s_mEnum, s_mChain, s_seqT, s_seqL, s_sNext, s_sSeq, s_sIf, s_sSet, s_sRet, s_sRetN, s_sBreak, s_sCont, s_sDrop, s_sPar, s_setN0, s_setNS, s_sAsg, s_sApp, s_sAug, s_sFor, s_sSrc, s_gmN, s_gmT, s_gmCons, s_gmNil, s_wipe0, s_wipeS, s_oSub, s_oAddI, s_oAdd, s_oLt, s_oLe, s_oGt, s_oGe, s_oNeg, s_oNot, s_oMul, s_oMulW, s_oMod, s_oFdiv, s_oPow, s_oIsN, s_oNotN, s_oIsB, s_oNotB, s_isNon_int, s_isNon_non, s_isNon_bl, s_isNon_str, s_isNon_tup, s_isNon_lst, s_isNon_dic, s_oEqI, s_oNeI, s_oIxT, s_oIxL, s_oSlT, s_oSlL, s_oRevT, s_oRevL, s_oInt, s_oIntB, s_oAbs, s_oMax2, s_oMin2, s_oLen, s_plenT, s_plenL, s_plenD, s_plenS, s_oTupleL, s_oTupleT, s_oListL, s_oListT, List.set_cons_succ, List.set_cons_zero, List.append_nil, true_and, x_bl, x_int, x_some, x_addT, x_addL, x_true, x_false]
    refine ite_f Bool.false_ne_true ?_
    show mTup3 _ _ _ [some (.int k), some (.int f), some (.int l), some (.int d), some (.int c), some (.int maps), some (.tup [.int y.1, .int y.2.1, .int y.2.2])] Q
    unfold mTup3
    try simp only [s_mVar0, s_mVarS, s_mVarO0, s_mVarOS, s_isObj_lst, s_isObj_dic, s_mC, s_mOp, s_mOp1, s_mB, s_mNil, s_mCons, s_mTup, s_mLst, s_mCall, s_mTB, s_mNot, s_mAnd, s_mOr, s_mAndV, s_mOrV, s_mIf, s_mYes, s_mSl, s_mNo, s_mPart, s_mLc, s_mItems, s_mRng1, s_mRng2, s_mEnum, s_mChain, s_seqT, s_seqL, s_sNext, s_sSeq, s_sIf, s_sSet, s_sRet, s_sRetN, s_sBreak, s_sCont, s_sDrop, s_sPar, s_setN0, s_setNS, s_sAsg, s_sApp, s_sAug, s_sFor, s_sSrc, s_gmN, s_gmT, s_gmCons, s_gmNil, s_wipe0, s_wipeS, s_oSub, s_oAddI, s_oAdd, s_oLt, s_oLe, s_oGt, s_oGe, s_oNeg, s_oNot, s_oMul, s_oMulW, s_oMod, s_oFdiv, s_oPow, s_oIsN, s_oNotN, s_oIsB, s_oNotB, s_isNon_int, s_isNon_non, s_isNon_bl, s_isNon_str, s_isNon_tup, s_isNon_lst, s_isNon_dic, s_oEqI, s_oNeI, s_oIxT, s_oIxL, s_oSlT, s_oSlL, s_oRevT, s_oRevL, s_oInt, s_oIntB, s_oAbs, s_oMax2, s_oMin2, s_oLen, s_plenT, s_plenL, s_plenD, s_plenS, s_oTupleL, s_oTupleT, s_oListL, s_oListT, List.set_cons_succ, List.set_cons_zero, List.append_nil, true_and, x_bl, x_int, x_some, x_addT, x_addL, x_true, x_false]
    refine ⟨.int y.1, rfl, ?_⟩
    try simp only [s_mVar0, s_mVarS, s_mVarO0, s_mVarOS, s_isObj_lst, s_isObj_dic, s_mC, s_mOp, s_mOp1, s_mB, s_mNil, s_mCons, s_mTup, s_mLst, s_mCall, s_mTB, s_mNot, s_mAnd, s_mOr, s_mAndV, s_mOrV, s_mIf, s_mYes, s_mSl, s_mNo, s_mPart, s_mLc, s_mItems, s_mRng1, s_mRng2, s_mEnum, s_mChain, s_seqT, s_seqL, s_sNext, s_sSeq, s_sIf, s_sSet, s_sRet, s_sRetN, s_sBreak, s_sCont, s_sDrop, s_sPar, s_setN0, s_setNS, s_sAsg, s_sApp, s_sAug, s_sFor, s_sSrc, s_gmN, s_gmT, s_gmCons, s_gmNil, s_wipe0, s_wipeS, s_oSub, s_oAddI, s_oAdd, s_oLt, s_oLe, s_oGt, s_oGe, s_oNeg, s_oNot, s_oMul, s_oMulW, s_oMod, s_oFdiv, s_oPow, s_oIsN, s_oNotN, s_oIsB, s_oNotB, s_isNon_int, s_isNon_non, s_isNon_bl, s_isNon_str, s_isNon_tup, s_isNon_lst, s_isNon_dic, s_oEqI, s_oNeI, s_oIxT, s_oIxL, s_oSlT, s_oSlL, s_oRevT, s_oRevL, s_oInt, s_oIntB, s_oAbs, s_oMax2, s_oMin2, s_oLen, s_plenT, s_plenL, s_plenD, s_plenS, s_oTupleL, s_oTupleT, s_oListL, s_oListT, List.set_cons_succ, List.set_cons_zero, List.append_nil, true_and, x_bl, x_int, x_some, x_addT, x_addL, x_true, x_false]
    refine ⟨.int y.1, rfl, y.1 - 1, (maps : Int) - 1, y.1, _, rfl, rfl, rfl, rgC_mult hy.1 (by omega) (by omega) (by omega), ?_, ?_⟩
    · have h1 : ((maps : Int) - 1) / y.1 ≤ (maps : Int) - 1 := Int.ediv_le_self _ (by omega)
      omega
    · rw [rg3_sched hy.1 (by omega)]
      exact h
end K46

set_option maxHeartbeats 2000000
namespace K46
open PySem L2 PM
def row1 (lots : List (List Int)) (i j : Nat) : List Int := (List.range j).map fun (t : Nat) => (cnt lots i (i + t) : Int)
def szP (lots : List (List Int)) : PV := .lst ((List.range lots.length).map fun i => lI (row1 lots i (lots.length - i)))
theorem cnt_take {lots : List (List Int)} {i j : Nat} : cnt lots i (i + j) = (((lots.drop i).take (j + 1)).foldl puts []).length := by
  unfold cnt keys seg
  rw [List.drop_take, show i + j + 1 - i = j + 1 by omega]
theorem row1_succ {lots : List (List Int)} {i j : Nat} : row1 lots i (j + 1) = row1 lots i j ++ [(cnt lots i (i + j) : Int)] := by
  unfold row1
  rw [List.range_succ, List.map_append]; rfl
def sp_l_sizes : PM.Spec := fun ps P => ∃ lots : List (List Int), ps = [crs lots] ∧ Good lots ∧ P (szP lots)
theorem h_l_sizes (ps : List PV) (Q : PV → Prop) (h : sp_l_sizes ps Q) : t_l_sizes { nx := fun _ => nxOf .cl Q, rt := Q } (startE n_l_sizes.length ps) := by
  obtain ⟨lots, rfl, hg, h⟩ := h
  show t_l_sizes _ [some (crs lots), none, none, none, none, none, none]
  unfold t_l_sizes
  try simp only [s_mVar0, s_mVarS, s_mVarO0, s_mVarOS, s_isObj_lst, s_isObj_dic, s_mC, s_mOp, s_mOp1, s_mB, s_mNil, s_mCons, s_mTup, s_mLst, s_mCall, s_mTB, s_mNot, s_mAnd, s_mOr, s_mAndV, s_mOrV, s_mIf, s_mYes, s_mSl, s_mNo, s_mPart, s_mLc, s_mItems, s_mRng1, s_mRng2, s_mEnum, s_mChain, s_seqT, s_seqL, s_sNext, s_sSeq, s_sIf, s_sSet, s_sRet, s_sRetN, s_sBreak, s_sCont, s_sDrop, s_sPar, s_setN0, s_setNS, s_sAsg, s_sApp, s_sAug, s_sFor, s_sSrc, s_gmN, s_gmT, s_gmCons, s_gmNil, s_wipe0, s_wipeS, s_oSub, s_oAddI, s_oAdd, s_oLt, s_oLe, s_oGt, s_oGe, s_oNeg, s_oNot, s_oMul, s_oMulW, s_oMod, s_oFdiv, s_oPow, s_oIsN, s_oNotN, s_oIsB, s_oNotB, s_isNon_int, s_isNon_non, s_isNon_bl, s_isNon_str, s_isNon_tup, s_isNon_lst, s_isNon_dic, s_oEqI, s_oNeI, s_oIxT, s_oIxL, s_oSlT, s_oSlL, s_oRevT, s_oRevL, s_oInt, s_oIntB, s_oAbs, s_oMax2, s_oMin2, s_oLen, s_plenT, s_plenL, s_plenD, s_plenS, s_oTupleL, s_oTupleT, s_oListL, s_oListT, List.set_cons_succ, List.set_cons_zero, List.append_nil, true_and, x_bl, x_int, x_some, x_addT, x_addL, x_true, x_false]
  have hn : lots.length ≤ 100 := hg.small
  rw [List.length_map, Int.toNat_natCast, rngP_rng]
  refine ⟨Nat.zero_le _, by omega, ?_⟩
  refine for_inv (fun i e => i ≤ lots.length ∧ ∃ y2 y3 y4 y5, e = [some (crs lots), some (.lst ((List.range i).map fun t => lI (row1 lots t (lots.length - t)))), y2, y3, y4, y5, none]) ⟨Nat.zero_le _, none, none, none, none, rfl⟩ (fun i x e N hx hE hN => ?_) (fun e hE => ?_)
  · obtain ⟨hi, y2, y3, y4, y5, rfl⟩ := hE
    rw [s_gmN]
    try simp only [s_mVar0, s_mVarS, s_mVarO0, s_mVarOS, s_isObj_lst, s_isObj_dic, s_mC, s_mOp, s_mOp1, s_mB, s_mNil, s_mCons, s_mTup, s_mLst, s_mCall, s_mTB, s_mNot, s_mAnd, s_mOr, s_mAndV, s_mOrV, s_mIf, s_mYes, s_mSl, s_mNo, s_mPart, s_mLc, s_mItems, s_mRng1, s_mRng2, s_mEnum, s_mChain, s_seqT, s_seqL, s_sNext, s_sSeq, s_sIf, s_sSet, s_sRet, s_sRetN, s_sBreak, s_sCont, s_sDrop, s_sPar, s_setN0, s_setNS, s_sAsg, s_sApp, s_sAug, s_sFor, s_sSrc, s_gmN, s_gmT, s_gmCons, s_gmNil, s_wipe0, s_wipeS, s_oSub, s_oAddI, s_oAdd, s_oLt, s_oLe, s_oGt, s_oGe, s_oNeg, s_oNot, s_oMul, s_oMulW, s_oMod, s_oFdiv, s_oPow, s_oIsN, s_oNotN, s_oIsB, s_oNotB, s_isNon_int, s_isNon_non, s_isNon_bl, s_isNon_str, s_isNon_tup, s_isNon_lst, s_isNon_dic, s_oEqI, s_oNeI, s_oIxT, s_oIxL, s_oSlT, s_oSlL, s_oRevT, s_oRevL, s_oInt, s_oIntB, s_oAbs, s_oMax2, s_oMin2, s_oLen, s_plenT, s_plenL, s_plenD, s_plenS, s_oTupleL, s_oTupleT, s_oListL, s_oListT, List.set_cons_succ, List.set_cons_zero, List.append_nil, true_and]
    obtain ⟨hx0, hx1⟩ : x = (i : Int) ∧ i < lots.length := by
      have hl := (List.getElem?_eq_some_iff.mp hx).1
      rw [rng_len] at hl
      rw [rng_get hl] at hx
      exact ⟨(Option.some.inj hx).symm, hl⟩
    subst hx0
    refine ⟨Nat.zero_le _, Nat.zero_le _, _, rfl, _, rfl, ?_⟩
    have e : (lots.drop (HT.sIx lots.length 0 (some (i : Int)))).take (HT.sIx lots.length lots.length none - HT.sIx lots.length 0 (some (i : Int))) = lots.drop i := by
      rw [HT.sIx_none, HT.sIx_nat, show min i lots.length = i by omega]
      exact List.take_of_length_le (by rw [List.length_drop]; omega)
    rw [cutP_map, e]
    refine for_inv (fun j e => i + j ≤ lots.length ∧ ∃ y3, e = [some (crs lots), some (.lst ((List.range i).map fun t => lI (row1 lots t (lots.length - t)))), some (.int i), y3, some (lI (((lots.drop i).take j).foldl puts [])), some (lI (row1 lots i j)), none]) ⟨by omega, y3, rfl⟩ (fun j l e N2 hj hE2 hN2 => ?_) (fun e hE2 => ?_)
    · obtain ⟨hij, y3, rfl⟩ := hE2
      rw [s_gmN]
      try simp only [s_mVar0, s_mVarS, s_mVarO0, s_mVarOS, s_isObj_lst, s_isObj_dic, s_mC, s_mOp, s_mOp1, s_mB, s_mNil, s_mCons, s_mTup, s_mLst, s_mCall, s_mTB, s_mNot, s_mAnd, s_mOr, s_mAndV, s_mOrV, s_mIf, s_mYes, s_mSl, s_mNo, s_mPart, s_mLc, s_mItems, s_mRng1, s_mRng2, s_mEnum, s_mChain, s_seqT, s_seqL, s_sNext, s_sSeq, s_sIf, s_sSet, s_sRet, s_sRetN, s_sBreak, s_sCont, s_sDrop, s_sPar, s_setN0, s_setNS, s_sAsg, s_sApp, s_sAug, s_sFor, s_sSrc, s_gmN, s_gmT, s_gmCons, s_gmNil, s_wipe0, s_wipeS, s_oSub, s_oAddI, s_oAdd, s_oLt, s_oLe, s_oGt, s_oGe, s_oNeg, s_oNot, s_oMul, s_oMulW, s_oMod, s_oFdiv, s_oPow, s_oIsN, s_oNotN, s_oIsB, s_oNotB, s_isNon_int, s_isNon_non, s_isNon_bl, s_isNon_str, s_isNon_tup, s_isNon_lst, s_isNon_dic, s_oEqI, s_oNeI, s_oIxT, s_oIxL, s_oSlT, s_oSlL, s_oRevT, s_oRevL, s_oInt, s_oIntB, s_oAbs, s_oMax2, s_oMin2, s_oLen, s_plenT, s_plenL, s_plenD, s_plenS, s_oTupleL, s_oTupleT, s_oListL, s_oListT, List.set_cons_succ, List.set_cons_zero, List.append_nil, true_and]
      have hlm : l ∈ lots := List.mem_of_mem_drop (List.mem_of_getElem? hj)
      have hlg := hg.lot l hlm
      have hjl : i + j < lots.length := by
        have := (List.getElem?_eq_some_iff.mp hj).1
        rw [List.length_drop] at this; omega
      have hll : l.length ≤ 24 := len_bound hlg.1 hlg.2
      have es : ((lots.drop i).take (j + 1)).foldl puts [] = ((lots.drop i).take j).foldl puts [] ++ l.filter fun x => !decide (x ∈ ((lots.drop i).take j).foldl puts []) := by
        rw [take_succ hj, puts_filter hlg.1]
      refine ⟨_, rfl, ?_⟩
      refine comp_emb (tst := fun x => !decide (x ∈ ((lots.drop i).take j).foldl puts [])) (f := PV.int) (fun x hx => ⟨_, fun k hk => s_gmN.mpr hk, fun Q hQ => ?_, fun _ Q hQ => ?_⟩) (line (by simp; omega)) ?_
      · show mTB (mOp (oIn true) (mVar 6) (mVar 4)) [some (crs lots), some (.lst ((List.range i).map fun t => lI (row1 lots t (lots.length - t)))), some (.int i), some (tI l), some (lI (((lots.drop i).take j).foldl puts [])), some (lI (row1 lots i j)), some (.int x)] Q
        try simp only [s_mVar0, s_mVarS, s_mVarO0, s_mVarOS, s_isObj_lst, s_isObj_dic, s_mC, s_mOp, s_mOp1, s_mB, s_mNil, s_mCons, s_mTup, s_mLst, s_mCall, s_mTB, s_mNot, s_mAnd, s_mOr, s_mAndV, s_mOrV, s_mIf, s_mYes, s_mSl, s_mNo, s_mPart, s_mLc, s_mItems, s_mRng1, s_mRng2, s_mEnum, s_mChain, s_seqT, s_seqL, s_sNext, s_sSeq, s_sIf, s_sSet, s_sRet, s_sRetN, s_sBreak, s_sCont, s_sDrop, s_sPar, s_setN0, s_setNS, s_sAsg, s_sApp, s_sAug, s_sFor, s_sSrc, s_gmN, s_gmT, s_gmCons, s_gmNil, s_wipe0, s_wipeS, s_oSub, s_oAddI, s_oAdd, s_oLt, s_oLe, s_oGt, s_oGe, s_oNeg, s_oNot, s_oMul, s_oMulW, s_oMod, s_oFdiv, s_oPow, s_oIsN, s_oNotN, s_oIsB, s_oNotB, s_isNon_int, s_isNon_non, s_isNon_bl, s_isNon_str, s_isNon_tup, s_isNon_lst, s_isNon_dic, s_oEqI, s_oNeI, s_oIxT, s_oIxL, s_oSlT, s_oSlL, s_oRevT, s_oRevL, s_oInt, s_oIntB, s_oAbs, s_oMax2, s_oMin2, s_oLen, s_plenT, s_plenL, s_plenD, s_plenS, s_oTupleL, s_oTupleT, s_oListL, s_oListT, List.set_cons_succ, List.set_cons_zero, List.append_nil, true_and]
        exact oIn_ints ⟨_, rfl, hQ⟩
      · show mVar 6 [some (crs lots), some (.lst ((List.range i).map fun t => lI (row1 lots t (lots.length - t)))), some (.int i), some (tI l), some (lI (((lots.drop i).take j).foldl puts [])), some (lI (row1 lots i j)), some (.int x)] Q
        try simp only [s_mVar0, s_mVarS, s_mVarO0, s_mVarOS, s_isObj_lst, s_isObj_dic, s_mC, s_mOp, s_mOp1, s_mB, s_mNil, s_mCons, s_mTup, s_mLst, s_mCall, s_mTB, s_mNot, s_mAnd, s_mOr, s_mAndV, s_mOrV, s_mIf, s_mYes, s_mSl, s_mNo, s_mPart, s_mLc, s_mItems, s_mRng1, s_mRng2, s_mEnum, s_mChain, s_seqT, s_seqL, s_sNext, s_sSeq, s_sIf, s_sSet, s_sRet, s_sRetN, s_sBreak, s_sCont, s_sDrop, s_sPar, s_setN0, s_setNS, s_sAsg, s_sApp, s_sAug, s_sFor, s_sSrc, s_gmN, s_gmT, s_gmCons, s_gmNil, s_wipe0, s_wipeS, s_oSub, s_oAddI, s_oAdd, s_oLt, s_oLe, s_oGt, s_oGe, s_oNeg, s_oNot, s_oMul, s_oMulW, s_oMod, s_oFdiv, s_oPow, s_oIsN, s_oNotN, s_oIsB, s_oNotB, s_isNon_int, s_isNon_non, s_isNon_bl, s_isNon_str, s_isNon_tup, s_isNon_lst, s_isNon_dic, s_oEqI, s_oNeI, s_oIxT, s_oIxL, s_oSlT, s_oSlL, s_oRevT, s_oRevL, s_oInt, s_oIntB, s_oAbs, s_oMax2, s_oMin2, s_oLen, s_plenT, s_plenL, s_plenD, s_plenS, s_oTupleL, s_oTupleT, s_oListL, s_oListT, List.set_cons_succ, List.set_cons_zero, List.append_nil, true_and]
        exact hQ
      · show oAdd (.lst _) (.lst _) _
        rw [List.nil_append]
        have hfl : (l.filter fun x => !decide (x ∈ ((lots.drop i).take j).foldl puts [])).length ≤ 24 := Nat.le_trans (List.length_filter_le _ _) hll
        have hks : (((lots.drop i).take j).foldl puts []).length ≤ 24 := len_bound (nodup_fold List.nodup_nil) fun y hy => by
          rcases mem_fold.mp hy with z | ⟨m, hm, hy⟩
          · cases z
          · exact (hg.lot m (List.mem_of_mem_drop (List.mem_of_mem_take hm))).2 y hy
        refine ⟨line (by rw [List.length_map, List.length_map]; omega), _, rfl, _, rfl, small_line ?_, ?_⟩
        · unfold row1; rw [List.length_map, List.length_map, List.length_range]; omega
        · rw [← List.map_append, ← es, List.length_map, ← cnt_take]
          refine hN2 _ ⟨by omega, some (tI l), ?_⟩
          rw [row1_succ]
          unfold lI
          rw [List.map_append]
          rfl
    · obtain ⟨hij, y3, rfl⟩ := hE2
      rw [List.length_drop]
      try simp only [s_mVar0, s_mVarS, s_mVarO0, s_mVarOS, s_isObj_lst, s_isObj_dic, s_mC, s_mOp, s_mOp1, s_mB, s_mNil, s_mCons, s_mTup, s_mLst, s_mCall, s_mTB, s_mNot, s_mAnd, s_mOr, s_mAndV, s_mOrV, s_mIf, s_mYes, s_mSl, s_mNo, s_mPart, s_mLc, s_mItems, s_mRng1, s_mRng2, s_mEnum, s_mChain, s_seqT, s_seqL, s_sNext, s_sSeq, s_sIf, s_sSet, s_sRet, s_sRetN, s_sBreak, s_sCont, s_sDrop, s_sPar, s_setN0, s_setNS, s_sAsg, s_sApp, s_sAug, s_sFor, s_sSrc, s_gmN, s_gmT, s_gmCons, s_gmNil, s_wipe0, s_wipeS, s_oSub, s_oAddI, s_oAdd, s_oLt, s_oLe, s_oGt, s_oGe, s_oNeg, s_oNot, s_oMul, s_oMulW, s_oMod, s_oFdiv, s_oPow, s_oIsN, s_oNotN, s_oIsB, s_oNotB, s_isNon_int, s_isNon_non, s_isNon_bl, s_isNon_str, s_isNon_tup, s_isNon_lst, s_isNon_dic, s_oEqI, s_oNeI, s_oIxT, s_oIxL, s_oSlT, s_oSlL, s_oRevT, s_oRevL, s_oInt, s_oIntB, s_oAbs, s_oMax2, s_oMin2, s_oLen, s_plenT, s_plenL, s_plenD, s_plenS, s_oTupleL, s_oTupleT, s_oListL, s_oListT, List.set_cons_succ, List.set_cons_zero, List.append_nil, true_and]
      refine ⟨_, rfl, small_line (by rw [List.length_map, List.length_range]; omega), hN _ ⟨by omega, some (.int i), y3, some (lI (((lots.drop i).take (lots.length - i)).foldl puts [])), some (lI (row1 lots i (lots.length - i))), ?_⟩⟩
      rw [List.range_succ, List.map_append]
      rfl
  · obtain ⟨hi, y2, y3, y4, y5, rfl⟩ := hE
    rw [rng_len]
    try simp only [s_mVar0, s_mVarS, s_mVarO0, s_mVarOS, s_isObj_lst, s_isObj_dic, s_mC, s_mOp, s_mOp1, s_mB, s_mNil, s_mCons, s_mTup, s_mLst, s_mCall, s_mTB, s_mNot, s_mAnd, s_mOr, s_mAndV, s_mOrV, s_mIf, s_mYes, s_mSl, s_mNo, s_mPart, s_mLc, s_mItems, s_mRng1, s_mRng2, s_mEnum, s_mChain, s_seqT, s_seqL, s_sNext, s_sSeq, s_sIf, s_sSet, s_sRet, s_sRetN, s_sBreak, s_sCont, s_sDrop, s_sPar, s_setN0, s_setNS, s_sAsg, s_sApp, s_sAug, s_sFor, s_sSrc, s_gmN, s_gmT, s_gmCons, s_gmNil, s_wipe0, s_wipeS, s_oSub, s_oAddI, s_oAdd, s_oLt, s_oLe, s_oGt, s_oGe, s_oNeg, s_oNot, s_oMul, s_oMulW, s_oMod, s_oFdiv, s_oPow, s_oIsN, s_oNotN, s_oIsB, s_oNotB, s_isNon_int, s_isNon_non, s_isNon_bl, s_isNon_str, s_isNon_tup, s_isNon_lst, s_isNon_dic, s_oEqI, s_oNeI, s_oIxT, s_oIxL, s_oSlT, s_oSlL, s_oRevT, s_oRevL, s_oInt, s_oIntB, s_oAbs, s_oMax2, s_oMin2, s_oLen, s_plenT, s_plenL, s_plenD, s_plenS, s_oTupleL, s_oTupleT, s_oListL, s_oListT, List.set_cons_succ, List.set_cons_zero, List.append_nil, true_and, x_bl, x_int, x_some, x_addT, x_addL, x_true, x_false]
    exact h
end K46

set_option maxHeartbeats 2000000
namespace K46
open PySem L2 PM
def vI : PV → Int
  | .int a => a
  | _ => 0
theorem ints_of {xs : List PV} (h : xs.all isNat = true) : xs = (xs.map vI).map PV.int := by
  rw [List.map_map]
  conv => lhs; rw [← List.map_id xs]
  refine List.map_congr_left fun x hx => ?_
  obtain ⟨i, rfl⟩ := isNat_int (List.all_eq_true.mp h x hx)
  rfl
/-- one pair of places -/
def pairB (lots : List (List Int)) (prices : List Int) (ns : List Int) (a b : Nat) : Bool :=
  match lp lots prices a b with
  | none => true
  | some p => decide (ns.getD (b + 1) 0 - ns.getD a 0 ≤ p)
def levN (lots : List (List Int)) (prices : List Int) (ns : List Int) : Bool :=
  (List.range lots.length).all fun b => (List.range (b + 1)).all fun a => pairB lots prices ns a b
def levB (lots : List (List Int)) (prices : List Int) : PV → Bool
  | .tup xs => decide (xs.length = lots.length + 1) && (xs.all isNat && (decide ((xs.map vI).getD 0 0 = 0) && levN lots prices (xs.map vI)))
  | _ => false
theorem levN_false {lots : List (List Int)} {prices ns : List Int} {a b : Nat} (hb : b < lots.length) (ha : a ≤ b) (h : pairB lots prices ns a b = false) : levN lots prices ns = false := by
  cases e : levN lots prices ns with
  | false => rfl
  | true =>
    have h1 := List.all_eq_true.mp e b (List.mem_range.mpr hb)
    have h2 := List.all_eq_true.mp h1 a (List.mem_range.mpr (by omega))
    rw [h] at h2; cases h2
theorem levN_true {lots : List (List Int)} {prices ns : List Int} (h : ∀ b, b < lots.length → ∀ a, a ≤ b → pairB lots prices ns a b = true) : levN lots prices ns = true := by
  refine List.all_eq_true.mpr fun b hb => List.all_eq_true.mpr fun a ha => h b (List.mem_range.mp hb) a ?_
  have := List.mem_range.mp ha
  omega
def sp_is_levels : PM.Spec := fun ps P => ∃ (lots : List (List Int)) (prices : List Int) (v : PV), ps = [crs lots, tI prices, v] ∧ Good lots ∧ prices.length ≤ 100 ∧ D2 v ∧ P (.bl (levB lots prices v))
theorem h_is_levels (ps : List PV) (Q : PV → Prop) (h : sp_is_levels ps Q) : t_is_levels sp_least_price sp_is_number { nx := fun _ => nxOf .cl Q, rt := Q } (startE n_is_levels.length ps) := by
  obtain ⟨lots, prices, v, rfl, hg, hpl, ⟨hv, hd⟩, h⟩ := h
  show t_is_levels _ _ _ [some (crs lots), some (tI prices), some v, none, none, none, none]
  unfold t_is_levels
  try simp only [s_mVar0, s_mVarS, s_mVarO0, s_mVarOS, s_isObj_lst, s_isObj_dic, s_mC, s_mOp, s_mOp1, s_mB, s_mNil, s_mCons, s_mTup, s_mLst, s_mCall, s_mTB, s_mNot, s_mAnd, s_mOr, s_mAndV, s_mOrV, s_mIf, s_mYes, s_mSl, s_mNo, s_mPart, s_mLc, s_mItems, s_mRng1, s_mRng2, s_mEnum, s_mChain, s_seqT, s_seqL, s_sNext, s_sSeq, s_sIf, s_sSet, s_sRet, s_sRetN, s_sBreak, s_sCont, s_sDrop, s_sPar, s_setN0, s_setNS, s_sAsg, s_sApp, s_sAug, s_sFor, s_sSrc, s_gmN, s_gmT, s_gmCons, s_gmNil, s_wipe0, s_wipeS, s_oSub, s_oAddI, s_oAdd, s_oLt, s_oLe, s_oGt, s_oGe, s_oNeg, s_oNot, s_oMul, s_oMulW, s_oMod, s_oFdiv, s_oPow, s_oIsN, s_oNotN, s_oIsB, s_oNotB, s_isNon_int, s_isNon_non, s_isNon_bl, s_isNon_str, s_isNon_tup, s_isNon_lst, s_isNon_dic, s_oEqI, s_oNeI, s_oIxT, s_oIxL, s_oSlT, s_oSlL, s_oRevT, s_oRevL, s_oInt, s_oIntB, s_oAbs, s_oMax2, s_oMin2, s_oLen, s_plenT, s_plenL, s_plenD, s_plenS, s_oTupleL, s_oTupleT, s_oListL, s_oListT, List.set_cons_succ, List.set_cons_zero, List.append_nil, true_and, x_bl, x_int, x_some, x_addT, x_addL, x_true, x_false]
  have hn := hg.small
  cases v with
  | tup xs =>
    obtain ⟨hl, hp⟩ := hd xs rfl
    refine oIsi_of (b := true) rfl rfl ⟨_, rfl, ite_f (by decide) ?_⟩
    try simp only [s_mVar0, s_mVarS, s_mVarO0, s_mVarOS, s_isObj_lst, s_isObj_dic, s_mC, s_mOp, s_mOp1, s_mB, s_mNil, s_mCons, s_mTup, s_mLst, s_mCall, s_mTB, s_mNot, s_mAnd, s_mOr, s_mAndV, s_mOrV, s_mIf, s_mYes, s_mSl, s_mNo, s_mPart, s_mLc, s_mItems, s_mRng1, s_mRng2, s_mEnum, s_mChain, s_seqT, s_seqL, s_sNext, s_sSeq, s_sIf, s_sSet, s_sRet, s_sRetN, s_sBreak, s_sCont, s_sDrop, s_sPar, s_setN0, s_setNS, s_sAsg, s_sApp, s_sAug, s_sFor, s_sSrc, s_gmN, s_gmT, s_gmCons, s_gmNil, s_wipe0, s_wipeS, s_oSub, s_oAddI, s_oAdd, s_oLt, s_oLe, s_oGt, s_oGe, s_oNeg, s_oNot, s_oMul, s_oMulW, s_oMod, s_oFdiv, s_oPow, s_oIsN, s_oNotN, s_oIsB, s_oNotB, s_isNon_int, s_isNon_non, s_isNon_bl, s_isNon_str, s_isNon_tup, s_isNon_lst, s_isNon_dic, s_oEqI, s_oNeI, s_oIxT, s_oIxL, s_oSlT, s_oSlL, s_oRevT, s_oRevL, s_oInt, s_oIntB, s_oAbs, s_oMax2, s_oMin2, s_oLen, s_plenT, s_plenL, s_plenD, s_plenS, s_oTupleL, s_oTupleT, s_oListL, s_oListT, List.set_cons_succ, List.set_cons_zero, List.append_nil, true_and, x_bl, x_int, x_some, x_addT, x_addL, x_true, x_false]
    rw [List.length_map]
    by_cases hlen : xs.length = lots.length + 1
    · rw [decide_eq_true (by omega : (xs.length : Int) = (lots.length : Int) + 1)]
      refine ite_f (by decide) ?_
      rw [show mCompGo (gmN 6) mYes (mCall sp_is_number [.non] (mCons (mVar 6) mNil)) [some (crs lots), some (tI prices), some (.tup xs), none, none, none, none] _ xs [] = mCompGo (gmN 6) mYes (mCall sp_is_number [.non] (mCons (mVar 6) mNil)) [some (crs lots), some (tI prices), some (.tup xs), none, none, none, none] _ (xs.map id) [] from by rw [List.map_id]]
      refine comp_map (f := fun x => .bl (isNat x)) (fun x hx => ⟨_, fun k hk => s_gmN.mpr hk, fun Q hQ => hQ, fun Q hQ => ?_⟩) (line (by omega)) (oAll_map ⟨_, rfl, ?_⟩)
      · show mCall sp_is_number [.non] (mCons (mVar 6) mNil) [some (crs lots), some (tI prices), some (.tup xs), none, none, none, some x] Q
        try simp only [s_mVar0, s_mVarS, s_mVarO0, s_mVarOS, s_isObj_lst, s_isObj_dic, s_mC, s_mOp, s_mOp1, s_mB, s_mNil, s_mCons, s_mTup, s_mLst, s_mCall, s_mTB, s_mNot, s_mAnd, s_mOr, s_mAndV, s_mOrV, s_mIf, s_mYes, s_mSl, s_mNo, s_mPart, s_mLc, s_mItems, s_mRng1, s_mRng2, s_mEnum, s_mChain, s_seqT, s_seqL, s_sNext, s_sSeq, s_sIf, s_sSet, s_sRet, s_sRetN, s_sBreak, s_sCont, s_sDrop, s_sPar, s_setN0, s_setNS, s_sAsg, s_sApp, s_sAug, s_sFor, s_sSrc, s_gmN, s_gmT, s_gmCons, s_gmNil, s_wipe0, s_wipeS, s_oSub, s_oAddI, s_oAdd, s_oLt, s_oLe, s_oGt, s_oGe, s_oNeg, s_oNot, s_oMul, s_oMulW, s_oMod, s_oFdiv, s_oPow, s_oIsN, s_oNotN, s_oIsB, s_oNotB, s_isNon_int, s_isNon_non, s_isNon_bl, s_isNon_str, s_isNon_tup, s_isNon_lst, s_isNon_dic, s_oEqI, s_oNeI, s_oIxT, s_oIxL, s_oSlT, s_oSlL, s_oRevT, s_oRevL, s_oInt, s_oIntB, s_oAbs, s_oMax2, s_oMin2, s_oLen, s_plenT, s_plenL, s_plenD, s_plenS, s_oTupleL, s_oTupleT, s_oListL, s_oListT, List.set_cons_succ, List.set_cons_zero, List.append_nil, true_and, x_bl, x_int, x_some, x_addT, x_addL, x_true, x_false]
        exact ⟨x, rfl, (hp x hx).1, hQ⟩
      have hh : levB lots prices (.tup xs) = (xs.all isNat && (decide ((xs.map vI).getD 0 0 = 0) && levN lots prices (xs.map vI))) := by
        show (decide (xs.length = lots.length + 1) && _) = _
        rw [decide_eq_true hlen, Bool.true_and]
      rw [hh] at h
      cases hnat : xs.all isNat with
      | false => rw [hnat] at h; exact ite_t rfl (ite_t trivial h)
      | true =>
        rw [hnat, Bool.true_and] at h
        have hx0 := ints_of hnat
        generalize hns : xs.map vI = ns at *
        subst hx0
        rw [List.length_map] at hlen hl
        refine ite_f (by decide) ?_
        obtain ⟨n0, ns', rfl⟩ : ∃ n0 ns', ns = n0 :: ns' := by
          cases ns with
          | nil => cases hlen
          | cons a b => exact ⟨a, b, rfl⟩
        refine ⟨.int n0, (by rw [List.map_cons, show (0 : Int) = ((0 : Nat) : Int) from rfl, atI_pos (by simp)]; rfl), ?_⟩
        try simp only [s_mVar0, s_mVarS, s_mVarO0, s_mVarOS, s_isObj_lst, s_isObj_dic, s_mC, s_mOp, s_mOp1, s_mB, s_mNil, s_mCons, s_mTup, s_mLst, s_mCall, s_mTB, s_mNot, s_mAnd, s_mOr, s_mAndV, s_mOrV, s_mIf, s_mYes, s_mSl, s_mNo, s_mPart, s_mLc, s_mItems, s_mRng1, s_mRng2, s_mEnum, s_mChain, s_seqT, s_seqL, s_sNext, s_sSeq, s_sIf, s_sSet, s_sRet, s_sRetN, s_sBreak, s_sCont, s_sDrop, s_sPar, s_setN0, s_setNS, s_sAsg, s_sApp, s_sAug, s_sFor, s_sSrc, s_gmN, s_gmT, s_gmCons, s_gmNil, s_wipe0, s_wipeS, s_oSub, s_oAddI, s_oAdd, s_oLt, s_oLe, s_oGt, s_oGe, s_oNeg, s_oNot, s_oMul, s_oMulW, s_oMod, s_oFdiv, s_oPow, s_oIsN, s_oNotN, s_oIsB, s_oNotB, s_isNon_int, s_isNon_non, s_isNon_bl, s_isNon_str, s_isNon_tup, s_isNon_lst, s_isNon_dic, s_oEqI, s_oNeI, s_oIxT, s_oIxL, s_oSlT, s_oSlL, s_oRevT, s_oRevL, s_oInt, s_oIntB, s_oAbs, s_oMax2, s_oMin2, s_oLen, s_plenT, s_plenL, s_plenD, s_plenS, s_oTupleL, s_oTupleT, s_oListL, s_oListT, List.set_cons_succ, List.set_cons_zero, List.append_nil, true_and, x_bl, x_int, x_some, x_addT, x_addL, x_true, x_false]
        have h00 : (n0 :: ns').getD 0 0 = n0 := rfl
        rw [h00] at h
        generalize hms : n0 :: ns' = ms at *
        by_cases hz : n0 = 0
        · rw [decide_eq_true hz] at h ⊢
          rw [Bool.true_and] at h
          refine ite_f (by decide) ⟨by omega, ?_⟩
          rw [Int.toNat_natCast, rngP_rng]
          refine for_inv (fun b e => b ≤ lots.length ∧ (∀ b', b' < b → ∀ a, a ≤ b' → pairB lots prices ms a b' = true) ∧ ∃ y3 y4 y5, e = [some (crs lots), some (tI prices), some (.tup (ms.map PV.int)), y3, y4, y5, none]) ⟨Nat.zero_le _, fun _ z => absurd z (Nat.not_lt_zero _), none, none, none, rfl⟩ (fun b x e N hx hE hN => ?_) (fun e hE => ?_)
          · obtain ⟨hb, hall, y3, y4, y5, rfl⟩ := hE
            obtain ⟨hx0, hb1⟩ : x = (b : Int) ∧ b < lots.length := by
              have hl := (List.getElem?_eq_some_iff.mp hx).1
              rw [rng_len] at hl
              rw [rng_get hl] at hx
              exact ⟨(Option.some.inj hx).symm, hl⟩
            subst hx0
            rw [s_gmN]
            try simp only [s_mVar0, s_mVarS, s_mVarO0, s_mVarOS, s_isObj_lst, s_isObj_dic, s_mC, s_mOp, s_mOp1, s_mB, s_mNil, s_mCons, s_mTup, s_mLst, s_mCall, s_mTB, s_mNot, s_mAnd, s_mOr, s_mAndV, s_mOrV, s_mIf, s_mYes, s_mSl, s_mNo, s_mPart, s_mLc, s_mItems, s_mRng1, s_mRng2, s_mEnum, s_mChain, s_seqT, s_seqL, s_sNext, s_sSeq, s_sIf, s_sSet, s_sRet, s_sRetN, s_sBreak, s_sCont, s_sDrop, s_sPar, s_setN0, s_setNS, s_sAsg, s_sApp, s_sAug, s_sFor, s_sSrc, s_gmN, s_gmT, s_gmCons, s_gmNil, s_wipe0, s_wipeS, s_oSub, s_oAddI, s_oAdd, s_oLt, s_oLe, s_oGt, s_oGe, s_oNeg, s_oNot, s_oMul, s_oMulW, s_oMod, s_oFdiv, s_oPow, s_oIsN, s_oNotN, s_oIsB, s_oNotB, s_isNon_int, s_isNon_non, s_isNon_bl, s_isNon_str, s_isNon_tup, s_isNon_lst, s_isNon_dic, s_oEqI, s_oNeI, s_oIxT, s_oIxL, s_oSlT, s_oSlL, s_oRevT, s_oRevL, s_oInt, s_oIntB, s_oAbs, s_oMax2, s_oMin2, s_oLen, s_plenT, s_plenL, s_plenD, s_plenS, s_oTupleL, s_oTupleT, s_oListL, s_oListT, List.set_cons_succ, List.set_cons_zero, List.append_nil, true_and]
            refine ⟨_, rfl, by omega, ?_⟩
            rw [show ((b : Int) + 1).toNat = b + 1 by omega, rngP_rng]
            refine for_inv (fun a e => a ≤ b + 1 ∧ (∀ a', a' < a → pairB lots prices ms a' b = true) ∧ ∃ y4 y5, e = [some (crs lots), some (tI prices), some (.tup (ms.map PV.int)), some (.int b), y4, y5, none]) ⟨Nat.zero_le _, fun _ z => absurd z (Nat.not_lt_zero _), y4, y5, rfl⟩ (fun a x e N2 hx2 hE2 hN2 => ?_) (fun e hE2 => ?_)
            · obtain ⟨ha, hall2, y4, y5, rfl⟩ := hE2
              obtain ⟨hx0, ha1⟩ : x = (a : Int) ∧ a < b + 1 := by
                have hl := (List.getElem?_eq_some_iff.mp hx2).1
                rw [rng_len] at hl
                rw [rng_get hl] at hx2
                exact ⟨(Option.some.inj hx2).symm, hl⟩
              subst hx0
              rw [s_gmN]
              try simp only [s_mVar0, s_mVarS, s_mVarO0, s_mVarOS, s_isObj_lst, s_isObj_dic, s_mC, s_mOp, s_mOp1, s_mB, s_mNil, s_mCons, s_mTup, s_mLst, s_mCall, s_mTB, s_mNot, s_mAnd, s_mOr, s_mAndV, s_mOrV, s_mIf, s_mYes, s_mSl, s_mNo, s_mPart, s_mLc, s_mItems, s_mRng1, s_mRng2, s_mEnum, s_mChain, s_seqT, s_seqL, s_sNext, s_sSeq, s_sIf, s_sSet, s_sRet, s_sRetN, s_sBreak, s_sCont, s_sDrop, s_sPar, s_setN0, s_setNS, s_sAsg, s_sApp, s_sAug, s_sFor, s_sSrc, s_gmN, s_gmT, s_gmCons, s_gmNil, s_wipe0, s_wipeS, s_oSub, s_oAddI, s_oAdd, s_oLt, s_oLe, s_oGt, s_oGe, s_oNeg, s_oNot, s_oMul, s_oMulW, s_oMod, s_oFdiv, s_oPow, s_oIsN, s_oNotN, s_oIsB, s_oNotB, s_isNon_int, s_isNon_non, s_isNon_bl, s_isNon_str, s_isNon_tup, s_isNon_lst, s_isNon_dic, s_oEqI, s_oNeI, s_oIxT, s_oIxL, s_oSlT, s_oSlL, s_oRevT, s_oRevL, s_oInt, s_oIntB, s_oAbs, s_oMax2, s_oMin2, s_oLen, s_plenT, s_plenL, s_plenD, s_plenS, s_oTupleL, s_oTupleT, s_oListL, s_oListT, List.set_cons_succ, List.set_cons_zero, List.append_nil, true_and]
              refine ⟨lots, prices, a, b, rfl, hg, hpl, fun hle => ?_, fun p u hu => ?_⟩
              · try simp only [s_mVar0, s_mVarS, s_mVarO0, s_mVarOS, s_isObj_lst, s_isObj_dic, s_mC, s_mOp, s_mOp1, s_mB, s_mNil, s_mCons, s_mTup, s_mLst, s_mCall, s_mTB, s_mNot, s_mAnd, s_mOr, s_mAndV, s_mOrV, s_mIf, s_mYes, s_mSl, s_mNo, s_mPart, s_mLc, s_mItems, s_mRng1, s_mRng2, s_mEnum, s_mChain, s_seqT, s_seqL, s_sNext, s_sSeq, s_sIf, s_sSet, s_sRet, s_sRetN, s_sBreak, s_sCont, s_sDrop, s_sPar, s_setN0, s_setNS, s_sAsg, s_sApp, s_sAug, s_sFor, s_sSrc, s_gmN, s_gmT, s_gmCons, s_gmNil, s_wipe0, s_wipeS, s_oSub, s_oAddI, s_oAdd, s_oLt, s_oLe, s_oGt, s_oGe, s_oNeg, s_oNot, s_oMul, s_oMulW, s_oMod, s_oFdiv, s_oPow, s_oIsN, s_oNotN, s_oIsB, s_oNotB, s_isNon_int, s_isNon_non, s_isNon_bl, s_isNon_str, s_isNon_tup, s_isNon_lst, s_isNon_dic, s_oEqI, s_oNeI, s_oIxT, s_oIxL, s_oSlT, s_oSlL, s_oRevT, s_oRevL, s_oInt, s_oIntB, s_oAbs, s_oMax2, s_oMin2, s_oLen, s_plenT, s_plenL, s_plenD, s_plenS, s_oTupleL, s_oTupleT, s_oListL, s_oListT, List.set_cons_succ, List.set_cons_zero, List.append_nil, true_and]
                have hpb : pairB lots prices ms a b = true := by
                  unfold pairB
                  rw [lp_none.mpr hle]
                refine ⟨_, rfl, ite_f (by decide) (ite_f Bool.false_ne_true (hN2 _ ⟨by omega, fun a' ha' => ?_, some (.int a), some .non, rfl⟩))⟩
                by_cases z : a' = a
                · subst z; exact hpb
                · exact hall2 a' (by omega)
              · try simp only [s_mVar0, s_mVarS, s_mVarO0, s_mVarOS, s_isObj_lst, s_isObj_dic, s_mC, s_mOp, s_mOp1, s_mB, s_mNil, s_mCons, s_mTup, s_mLst, s_mCall, s_mTB, s_mNot, s_mAnd, s_mOr, s_mAndV, s_mOrV, s_mIf, s_mYes, s_mSl, s_mNo, s_mPart, s_mLc, s_mItems, s_mRng1, s_mRng2, s_mEnum, s_mChain, s_seqT, s_seqL, s_sNext, s_sSeq, s_sIf, s_sSet, s_sRet, s_sRetN, s_sBreak, s_sCont, s_sDrop, s_sPar, s_setN0, s_setNS, s_sAsg, s_sApp, s_sAug, s_sFor, s_sSrc, s_gmN, s_gmT, s_gmCons, s_gmNil, s_wipe0, s_wipeS, s_oSub, s_oAddI, s_oAdd, s_oLt, s_oLe, s_oGt, s_oGe, s_oNeg, s_oNot, s_oMul, s_oMulW, s_oMod, s_oFdiv, s_oPow, s_oIsN, s_oNotN, s_oIsB, s_oNotB, s_isNon_int, s_isNon_non, s_isNon_bl, s_isNon_str, s_isNon_tup, s_isNon_lst, s_isNon_dic, s_oEqI, s_oNeI, s_oIxT, s_oIxL, s_oSlT, s_oSlL, s_oRevT, s_oRevL, s_oInt, s_oIntB, s_oAbs, s_oMax2, s_oMin2, s_oLen, s_plenT, s_plenL, s_plenD, s_plenS, s_oTupleL, s_oTupleT, s_oListL, s_oListT, List.set_cons_succ, List.set_cons_zero, List.append_nil, true_and]
                have g1 : atI (ms.map PV.int) ((b : Int) + 1) = some (.int (ms.getD (b + 1) 0)) := by
                  rw [show (b : Int) + 1 = ((b + 1 : Nat) : Int) by omega, atI_map, atI_pos (by omega), List.getElem?_eq_getElem (by omega), List.getD_eq_getElem?_getD, List.getElem?_eq_getElem (by omega)]
                  rfl
                have g2 : atI (ms.map PV.int) (a : Int) = some (.int (ms.getD a 0)) := by
                  rw [atI_map, atI_pos (by omega), List.getElem?_eq_getElem (by omega), List.getD_eq_getElem?_getD, List.getElem?_eq_getElem (by omega)]
                  rfl
                have hpb : pairB lots prices ms a b = decide (ms.getD (b + 1) 0 - ms.getD a 0 ≤ p) := by
                  unfold pairB
                  rw [lp_of hu]
                refine ⟨_, rfl, ite_t rfl ⟨_, g1, _, g2, ?_⟩⟩
                try simp only [s_mVar0, s_mVarS, s_mVarO0, s_mVarOS, s_isObj_lst, s_isObj_dic, s_mC, s_mOp, s_mOp1, s_mB, s_mNil, s_mCons, s_mTup, s_mLst, s_mCall, s_mTB, s_mNot, s_mAnd, s_mOr, s_mAndV, s_mOrV, s_mIf, s_mYes, s_mSl, s_mNo, s_mPart, s_mLc, s_mItems, s_mRng1, s_mRng2, s_mEnum, s_mChain, s_seqT, s_seqL, s_sNext, s_sSeq, s_sIf, s_sSet, s_sRet, s_sRetN, s_sBreak, s_sCont, s_sDrop, s_sPar, s_setN0, s_setNS, s_sAsg, s_sApp, s_sAug, s_sFor, s_sSrc, s_gmN, s_gmT, s_gmCons, s_gmNil, s_wipe0, s_wipeS, s_oSub, s_oAddI, s_oAdd, s_oLt, s_oLe, s_oGt, s_oGe, s_oNeg, s_oNot, s_oMul, s_oMulW, s_oMod, s_oFdiv, s_oPow, s_oIsN, s_oNotN, s_oIsB, s_oNotB, s_isNon_int, s_isNon_non, s_isNon_bl, s_isNon_str, s_isNon_tup, s_isNon_lst, s_isNon_dic, s_oEqI, s_oNeI, s_oIxT, s_oIxL, s_oSlT, s_oSlL, s_oRevT, s_oRevL, s_oInt, s_oIntB, s_oAbs, s_oMax2, s_oMin2, s_oLen, s_plenT, s_plenL, s_plenD, s_plenS, s_oTupleL, s_oTupleT, s_oListL, s_oListT, List.set_cons_succ, List.set_cons_zero, List.append_nil, true_and]
                refine ⟨.int p, rfl, ?_⟩
                try simp only [s_mVar0, s_mVarS, s_mVarO0, s_mVarOS, s_isObj_lst, s_isObj_dic, s_mC, s_mOp, s_mOp1, s_mB, s_mNil, s_mCons, s_mTup, s_mLst, s_mCall, s_mTB, s_mNot, s_mAnd, s_mOr, s_mAndV, s_mOrV, s_mIf, s_mYes, s_mSl, s_mNo, s_mPart, s_mLc, s_mItems, s_mRng1, s_mRng2, s_mEnum, s_mChain, s_seqT, s_seqL, s_sNext, s_sSeq, s_sIf, s_sSet, s_sRet, s_sRetN, s_sBreak, s_sCont, s_sDrop, s_sPar, s_setN0, s_setNS, s_sAsg, s_sApp, s_sAug, s_sFor, s_sSrc, s_gmN, s_gmT, s_gmCons, s_gmNil, s_wipe0, s_wipeS, s_oSub, s_oAddI, s_oAdd, s_oLt, s_oLe, s_oGt, s_oGe, s_oNeg, s_oNot, s_oMul, s_oMulW, s_oMod, s_oFdiv, s_oPow, s_oIsN, s_oNotN, s_oIsB, s_oNotB, s_isNon_int, s_isNon_non, s_isNon_bl, s_isNon_str, s_isNon_tup, s_isNon_lst, s_isNon_dic, s_oEqI, s_oNeI, s_oIxT, s_oIxL, s_oSlT, s_oSlL, s_oRevT, s_oRevL, s_oInt, s_oIntB, s_oAbs, s_oMax2, s_oMin2, s_oLen, s_plenT, s_plenL, s_plenD, s_plenS, s_oTupleL, s_oTupleT, s_oListL, s_oListT, List.set_cons_succ, List.set_cons_zero, List.append_nil, true_and]
                by_cases hgt : ms.getD (b + 1) 0 - ms.getD a 0 > p
                · rw [decide_eq_false (by omega)] at hpb
                  rw [levN_false hb1 (by omega) hpb] at h
                  exact ⟨_, rfl, ite_t (decide_eq_true hgt) h⟩
                · rw [decide_eq_true (by omega)] at hpb
                  refine ⟨_, rfl, ite_f (by rw [decide_eq_false hgt]; decide) (hN2 _ ⟨by omega, fun a' ha' => ?_, some (.int a), some (.tup [.int p, .int u]), rfl⟩)⟩
                  by_cases z : a' = a
                  · subst z; exact hpb
                  · exact hall2 a' (by omega)
            · obtain ⟨ha, hall2, y4, y5, rfl⟩ := hE2
              rw [rng_len] at hall2
              refine hN _ ⟨by omega, fun b' hb' a' ha' => ?_, some (.int b), y4, y5, rfl⟩
              by_cases z : b' = b
              · subst z; exact hall2 a' (by omega)
              · exact hall b' (by omega) a' ha'
          · obtain ⟨hb, hall, y3, y4, y5, rfl⟩ := hE
            rw [rng_len] at hall
            rw [levN_true hall] at h
            try simp only [s_mVar0, s_mVarS, s_mVarO0, s_mVarOS, s_isObj_lst, s_isObj_dic, s_mC, s_mOp, s_mOp1, s_mB, s_mNil, s_mCons, s_mTup, s_mLst, s_mCall, s_mTB, s_mNot, s_mAnd, s_mOr, s_mAndV, s_mOrV, s_mIf, s_mYes, s_mSl, s_mNo, s_mPart, s_mLc, s_mItems, s_mRng1, s_mRng2, s_mEnum, s_mChain, s_seqT, s_seqL, s_sNext, s_sSeq, s_sIf, s_sSet, s_sRet, s_sRetN, s_sBreak, s_sCont, s_sDrop, s_sPar, s_setN0, s_setNS, s_sAsg, s_sApp, s_sAug, s_sFor, s_sSrc, s_gmN, s_gmT, s_gmCons, s_gmNil, s_wipe0, s_wipeS, s_oSub, s_oAddI, s_oAdd, s_oLt, s_oLe, s_oGt, s_oGe, s_oNeg, s_oNot, s_oMul, s_oMulW, s_oMod, s_oFdiv, s_oPow, s_oIsN, s_oNotN, s_oIsB, s_oNotB, s_isNon_int, s_isNon_non, s_isNon_bl, s_isNon_str, s_isNon_tup, s_isNon_lst, s_isNon_dic, s_oEqI, s_oNeI, s_oIxT, s_oIxL, s_oSlT, s_oSlL, s_oRevT, s_oRevL, s_oInt, s_oIntB, s_oAbs, s_oMax2, s_oMin2, s_oLen, s_plenT, s_plenL, s_plenD, s_plenS, s_oTupleL, s_oTupleT, s_oListL, s_oListT, List.set_cons_succ, List.set_cons_zero, List.append_nil, true_and, x_bl, x_int, x_some, x_addT, x_addL, x_true, x_false]
            exact h
        · rw [decide_eq_false hz] at h ⊢
          exact ite_t rfl h
    · have hh : levB lots prices (.tup xs) = false := by
        show (decide (xs.length = lots.length + 1) && _) = _
        rw [decide_eq_false hlen, Bool.false_and]
      rw [hh] at h
      rw [decide_eq_false (by omega : ¬ (xs.length : Int) = (lots.length : Int) + 1)]
      exact ite_t rfl h
  | _ => first | exact oIsi_of (b := false) rfl rfl ⟨_, rfl, ite_t rfl h⟩ | cases hv
end K46

set_option maxHeartbeats 2000000
namespace K46
open PySem L2 PM
theorem for_self {xs : List PV} {g tb M env} (I : Nat → PM.Env → Prop) (h0 : I 0 env) (hs : ∀ (i : Nat) (x : PV) (e : PM.Env) (N : PM.Env → Prop), xs[i]? = some x → I i e → (∀ e', I (i + 1) e' → N e') → g x e fun e1 => tb { M with nx := N, ct := N, bk := M.nx } e1)
    (hn : ∀ e, I xs.length e → M.nx e) : mForGo g tb M xs env := by
  have := for_inv (emb := id) (xs := xs) (g := g) (tb := tb) (M := M) (env := env) I h0 hs hn
  rwa [List.map_id] at this
theorem comp_self {f : PV → PV} {xs : List PV} {g tt te env P} (h : ∀ x ∈ xs, ∃ e1, (∀ k : PM.Env → Prop, k e1 → g x env k) ∧ (∀ Q : Bool → Prop, Q true → tt e1 Q) ∧ (∀ Q : PV → Prop, Q (f x) → te e1 Q))
    (hl : xs.length ≤ sizeLine) (hp : P (.lst (xs.map f))) : mCompGo g tt te env P xs [] := by
  have := comp_map (emb := id) (xs := xs) (g := g) (tt := tt) (te := te) (env := env) (P := P) h hl hp
  rwa [List.map_id] at this
theorem sz_row {lots : List (List Int)} {a : Nat} (ha : a < lots.length) : atI ((List.range lots.length).map fun i => lI (row1 lots i (lots.length - i))) (a : Int) = some (lI (row1 lots a (lots.length - a))) := by
  rw [atI_pos (by simp; exact ha), List.getElem?_map, List.getElem?_range ha]; rfl
theorem row1_len {lots : List (List Int)} {i j : Nat} : (row1 lots i j).length = j := by unfold row1; simp
theorem sz_at {lots : List (List Int)} {a j m : Nat} (h : j < m) : atI ((row1 lots a m).map PV.int) (j : Int) = some (.int (cnt lots a (a + j) : Int)) := by
  rw [atI_pos (by simp [row1_len]; exact h), List.getElem?_map]
  unfold row1
  rw [List.getElem?_map, List.getElem?_range h]; rfl
def sp_l_is_plan : PM.Spec := fun ps P => ∃ (lots : List (List Int)) (prices : List Int) (v : PV), ps = [szP lots, tI prices, v] ∧ Good lots ∧ D2 v ∧ P (.bl (planB lots prices v))
theorem h_l_is_plan (ps : List PV) (Q : PV → Prop) (h : sp_l_is_plan ps Q) : t_l_is_plan sp_l_is_number { nx := fun _ => nxOf .cl Q, rt := Q } (startE n_l_is_plan.length ps) := by
  obtain ⟨lots, prices, v, rfl, hg, ⟨hv, hd⟩, h⟩ := h
  show t_l_is_plan _ _ [some (szP lots), some (tI prices), some v, none, none, none]
  unfold t_l_is_plan szP
  try simp only [s_mVar0, s_mVarS, s_mVarO0, s_mVarOS, s_isObj_lst, s_isObj_dic, s_mC, s_mOp, s_mOp1, s_mB, s_mNil, s_mCons, s_mTup, s_mLst, s_mCall, s_mTB, s_mNot, s_mAnd, s_mOr, s_mAndV, s_mOrV, s_mIf, s_mYes, s_mSl, s_mNo, s_mPart, s_mLc, s_mItems, s_mRng1, s_mRng2, s_mEnum, s_mChain, s_seqT, s_seqL, s_sNext, s_sSeq, s_sIf, s_sSet, s_sRet, s_sRetN, s_sBreak, s_sCont, s_sDrop, s_sPar, s_setN0, s_setNS, s_sAsg, s_sApp, s_sAug, s_sFor, s_sSrc, s_gmN, s_gmT, s_gmCons, s_gmNil, s_wipe0, s_wipeS, s_oSub, s_oAddI, s_oAdd, s_oLt, s_oLe, s_oGt, s_oGe, s_oNeg, s_oNot, s_oMul, s_oMulW, s_oMod, s_oFdiv, s_oPow, s_oIsN, s_oNotN, s_oIsB, s_oNotB, s_isNon_int, s_isNon_non, s_isNon_bl, s_isNon_str, s_isNon_tup, s_isNon_lst, s_isNon_dic, s_oEqI, s_oNeI, s_oIxT, s_oIxL, s_oSlT, s_oSlL, s_oRevT, s_oRevL, s_oInt, s_oIntB, s_oAbs, s_oMax2, s_oMin2, s_oLen, s_plenT, s_plenL, s_plenD, s_plenS, s_oTupleL, s_oTupleT, s_oListL, s_oListT, List.set_cons_succ, List.set_cons_zero, List.append_nil, true_and, x_bl, x_int, x_some, x_addT, x_addL, x_true, x_false]
  cases v with
  | tup xs =>
    obtain ⟨hl, hp⟩ := hd xs rfl
    refine oIsi_of (b := true) rfl rfl ⟨_, rfl, ite_f (by decide) ?_⟩
    try simp only [s_mVar0, s_mVarS, s_mVarO0, s_mVarOS, s_isObj_lst, s_isObj_dic, s_mC, s_mOp, s_mOp1, s_mB, s_mNil, s_mCons, s_mTup, s_mLst, s_mCall, s_mTB, s_mNot, s_mAnd, s_mOr, s_mAndV, s_mOrV, s_mIf, s_mYes, s_mSl, s_mNo, s_mPart, s_mLc, s_mItems, s_mRng1, s_mRng2, s_mEnum, s_mChain, s_seqT, s_seqL, s_sNext, s_sSeq, s_sIf, s_sSet, s_sRet, s_sRetN, s_sBreak, s_sCont, s_sDrop, s_sPar, s_setN0, s_setNS, s_sAsg, s_sApp, s_sAug, s_sFor, s_sSrc, s_gmN, s_gmT, s_gmCons, s_gmNil, s_wipe0, s_wipeS, s_oSub, s_oAddI, s_oAdd, s_oLt, s_oLe, s_oGt, s_oGe, s_oNeg, s_oNot, s_oMul, s_oMulW, s_oMod, s_oFdiv, s_oPow, s_oIsN, s_oNotN, s_oIsB, s_oNotB, s_isNon_int, s_isNon_non, s_isNon_bl, s_isNon_str, s_isNon_tup, s_isNon_lst, s_isNon_dic, s_oEqI, s_oNeI, s_oIxT, s_oIxL, s_oSlT, s_oSlL, s_oRevT, s_oRevL, s_oInt, s_oIntB, s_oAbs, s_oMax2, s_oMin2, s_oLen, s_plenT, s_plenL, s_plenD, s_plenS, s_oTupleL, s_oTupleT, s_oListL, s_oListT, List.set_cons_succ, List.set_cons_zero, List.append_nil, true_and, x_bl, x_int, x_some, x_addT, x_addL, x_true, x_false]
    refine for_self (fun i e => ∃ (ahead : Int) (y4 : Option PV), planB lots prices (.tup xs) = seqB lots prices ahead (xs.drop i) ∧ e = [some (.lst ((List.range lots.length).map fun i => lI (row1 lots i (lots.length - i)))), some (tI prices), some (.tup xs), some (.int ahead), y4, none]) ⟨-1, none, rfl, rfl⟩ (fun i x e N hx hE hN => ?_) (fun e hE => ?_)
    · obtain ⟨ahead, y4, hs, rfl⟩ := hE
      rw [hs, List.drop_eq_getElem_cons (List.getElem?_eq_some_iff.mp hx).1, (List.getElem?_eq_some_iff.mp hx).2] at h
      have hxm := List.mem_of_getElem? hx
      rw [s_gmN]
      try simp only [s_mVar0, s_mVarS, s_mVarO0, s_mVarOS, s_isObj_lst, s_isObj_dic, s_mC, s_mOp, s_mOp1, s_mB, s_mNil, s_mCons, s_mTup, s_mLst, s_mCall, s_mTB, s_mNot, s_mAnd, s_mOr, s_mAndV, s_mOrV, s_mIf, s_mYes, s_mSl, s_mNo, s_mPart, s_mLc, s_mItems, s_mRng1, s_mRng2, s_mEnum, s_mChain, s_seqT, s_seqL, s_sNext, s_sSeq, s_sIf, s_sSet, s_sRet, s_sRetN, s_sBreak, s_sCont, s_sDrop, s_sPar, s_setN0, s_setNS, s_sAsg, s_sApp, s_sAug, s_sFor, s_sSrc, s_gmN, s_gmT, s_gmCons, s_gmNil, s_wipe0, s_wipeS, s_oSub, s_oAddI, s_oAdd, s_oLt, s_oLe, s_oGt, s_oGe, s_oNeg, s_oNot, s_oMul, s_oMulW, s_oMod, s_oFdiv, s_oPow, s_oIsN, s_oNotN, s_oIsB, s_oNotB, s_isNon_int, s_isNon_non, s_isNon_bl, s_isNon_str, s_isNon_tup, s_isNon_lst, s_isNon_dic, s_oEqI, s_oNeI, s_oIxT, s_oIxL, s_oSlT, s_oSlL, s_oRevT, s_oRevL, s_oInt, s_oIntB, s_oAbs, s_oMax2, s_oMin2, s_oLen, s_plenT, s_plenL, s_plenD, s_plenS, s_oTupleL, s_oTupleT, s_oListL, s_oListT, List.set_cons_succ, List.set_cons_zero, List.append_nil, true_and]
      cases x with
      | tup ys =>
        obtain ⟨hyl, hyp⟩ := (hp _ hxm).2 ys rfl
        refine oIsi_of (b := true) rfl rfl ⟨_, rfl, ite_f (by decide) ?_⟩
        try simp only [s_mVar0, s_mVarS, s_mVarO0, s_mVarOS, s_isObj_lst, s_isObj_dic, s_mC, s_mOp, s_mOp1, s_mB, s_mNil, s_mCons, s_mTup, s_mLst, s_mCall, s_mTB, s_mNot, s_mAnd, s_mOr, s_mAndV, s_mOrV, s_mIf, s_mYes, s_mSl, s_mNo, s_mPart, s_mLc, s_mItems, s_mRng1, s_mRng2, s_mEnum, s_mChain, s_seqT, s_seqL, s_sNext, s_sSeq, s_sIf, s_sSet, s_sRet, s_sRetN, s_sBreak, s_sCont, s_sDrop, s_sPar, s_setN0, s_setNS, s_sAsg, s_sApp, s_sAug, s_sFor, s_sSrc, s_gmN, s_gmT, s_gmCons, s_gmNil, s_wipe0, s_wipeS, s_oSub, s_oAddI, s_oAdd, s_oLt, s_oLe, s_oGt, s_oGe, s_oNeg, s_oNot, s_oMul, s_oMulW, s_oMod, s_oFdiv, s_oPow, s_oIsN, s_oNotN, s_oIsB, s_oNotB, s_isNon_int, s_isNon_non, s_isNon_bl, s_isNon_str, s_isNon_tup, s_isNon_lst, s_isNon_dic, s_oEqI, s_oNeI, s_oIxT, s_oIxL, s_oSlT, s_oSlL, s_oRevT, s_oRevL, s_oInt, s_oIntB, s_oAbs, s_oMax2, s_oMin2, s_oLen, s_plenT, s_plenL, s_plenD, s_plenS, s_oTupleL, s_oTupleT, s_oListL, s_oListT, List.set_cons_succ, List.set_cons_zero, List.append_nil, true_and, x_bl, x_int, x_some, x_addT, x_addL, x_true, x_false]
        by_cases h3 : ys.length = 3
        · rw [decide_eq_true (by omega : (ys.length : Int) = 3)]
          refine ite_f (by decide) ?_
          refine comp_self (f := fun x => .bl (isNat x)) (fun x hx => ⟨_, fun k hk => s_gmN.mpr hk, fun Q hQ => hQ, fun Q hQ => ?_⟩) (line (by omega)) (oAll_map ⟨_, rfl, ?_⟩)
          · try simp only [s_mVar0, s_mVarS, s_mVarO0, s_mVarOS, s_isObj_lst, s_isObj_dic, s_mC, s_mOp, s_mOp1, s_mB, s_mNil, s_mCons, s_mTup, s_mLst, s_mCall, s_mTB, s_mNot, s_mAnd, s_mOr, s_mAndV, s_mOrV, s_mIf, s_mYes, s_mSl, s_mNo, s_mPart, s_mLc, s_mItems, s_mRng1, s_mRng2, s_mEnum, s_mChain, s_seqT, s_seqL, s_sNext, s_sSeq, s_sIf, s_sSet, s_sRet, s_sRetN, s_sBreak, s_sCont, s_sDrop, s_sPar, s_setN0, s_setNS, s_sAsg, s_sApp, s_sAug, s_sFor, s_sSrc, s_gmN, s_gmT, s_gmCons, s_gmNil, s_wipe0, s_wipeS, s_oSub, s_oAddI, s_oAdd, s_oLt, s_oLe, s_oGt, s_oGe, s_oNeg, s_oNot, s_oMul, s_oMulW, s_oMod, s_oFdiv, s_oPow, s_oIsN, s_oNotN, s_oIsB, s_oNotB, s_isNon_int, s_isNon_non, s_isNon_bl, s_isNon_str, s_isNon_tup, s_isNon_lst, s_isNon_dic, s_oEqI, s_oNeI, s_oIxT, s_oIxL, s_oSlT, s_oSlL, s_oRevT, s_oRevL, s_oInt, s_oIntB, s_oAbs, s_oMax2, s_oMin2, s_oLen, s_plenT, s_plenL, s_plenD, s_plenS, s_oTupleL, s_oTupleT, s_oListL, s_oListT, List.set_cons_succ, List.set_cons_zero, List.append_nil, true_and, x_bl, x_int, x_some, x_addT, x_addL, x_true, x_false]
            exact ⟨x, rfl, hyp x hx, hQ⟩
          cases hnat : ys.all isNat with
          | false =>
            refine ite_t rfl ?_
            have e : rowB lots prices (.tup ys) = false := by
              cases q : rowB lots prices (.tup ys) with
              | false => rfl
              | true => rw [(rowB_nat q).2] at hnat; cases hnat
            have e2 : seqB lots prices ahead (.tup ys :: List.drop (i + 1) xs) = false := by
              show (rowB lots prices (.tup ys) && _) = false
              rw [e]; rfl
            rw [e2] at h; exact h
          | true =>
            obtain ⟨a, b, u, rfl⟩ := nat3 h3 hnat
            refine ite_f (by decide) ?_
            have e2 : seqB lots prices ahead (.tup [.int a, .int b, .int u] :: List.drop (i + 1) xs) = ((decide (a ≤ b) && (decide (b < lots.length) && (decide (u < prices.length) && decide (cnt lots a b ≤ u)))) && (decide ((a : Int) = ahead + 1) && seqB lots prices b (List.drop (i + 1) xs))) := by
              show (rowB lots prices (.tup [.int a, .int b, .int u]) && _) = _
              rw [rowB_int]; rfl
            rw [e2] at h
            refine ⟨_, rfl, ?_⟩
            try simp only [s_mVar0, s_mVarS, s_mVarO0, s_mVarOS, s_isObj_lst, s_isObj_dic, s_mC, s_mOp, s_mOp1, s_mB, s_mNil, s_mCons, s_mTup, s_mLst, s_mCall, s_mTB, s_mNot, s_mAnd, s_mOr, s_mAndV, s_mOrV, s_mIf, s_mYes, s_mSl, s_mNo, s_mPart, s_mLc, s_mItems, s_mRng1, s_mRng2, s_mEnum, s_mChain, s_seqT, s_seqL, s_sNext, s_sSeq, s_sIf, s_sSet, s_sRet, s_sRetN, s_sBreak, s_sCont, s_sDrop, s_sPar, s_setN0, s_setNS, s_sAsg, s_sApp, s_sAug, s_sFor, s_sSrc, s_gmN, s_gmT, s_gmCons, s_gmNil, s_wipe0, s_wipeS, s_oSub, s_oAddI, s_oAdd, s_oLt, s_oLe, s_oGt, s_oGe, s_oNeg, s_oNot, s_oMul, s_oMulW, s_oMod, s_oFdiv, s_oPow, s_oIsN, s_oNotN, s_oIsB, s_oNotB, s_isNon_int, s_isNon_non, s_isNon_bl, s_isNon_str, s_isNon_tup, s_isNon_lst, s_isNon_dic, s_oEqI, s_oNeI, s_oIxT, s_oIxL, s_oSlT, s_oSlL, s_oRevT, s_oRevL, s_oInt, s_oIntB, s_oAbs, s_oMax2, s_oMin2, s_oLen, s_plenT, s_plenL, s_plenD, s_plenS, s_oTupleL, s_oTupleT, s_oListL, s_oListT, List.set_cons_succ, List.set_cons_zero, List.append_nil, true_and, x_bl, x_int, x_some, x_addT, x_addL, x_true, x_false]
            have hd1 : xs.drop i = .tup [.int a, .int b, .int u] :: xs.drop (i + 1) := by rw [List.drop_eq_getElem_cons (List.getElem?_eq_some_iff.mp hx).1, (List.getElem?_eq_some_iff.mp hx).2]
            rw [hd1, e2] at hs
            by_cases c1 : (a : Int) = ahead + 1
            · rw [decide_eq_true c1] at h hs ⊢
              refine ite_f (by decide) ⟨_, rfl, _, rfl, ?_⟩
              try simp only [s_mVar0, s_mVarS, s_mVarO0, s_mVarOS, s_isObj_lst, s_isObj_dic, s_mC, s_mOp, s_mOp1, s_mB, s_mNil, s_mCons, s_mTup, s_mLst, s_mCall, s_mTB, s_mNot, s_mAnd, s_mOr, s_mAndV, s_mOrV, s_mIf, s_mYes, s_mSl, s_mNo, s_mPart, s_mLc, s_mItems, s_mRng1, s_mRng2, s_mEnum, s_mChain, s_seqT, s_seqL, s_sNext, s_sSeq, s_sIf, s_sSet, s_sRet, s_sRetN, s_sBreak, s_sCont, s_sDrop, s_sPar, s_setN0, s_setNS, s_sAsg, s_sApp, s_sAug, s_sFor, s_sSrc, s_gmN, s_gmT, s_gmCons, s_gmNil, s_wipe0, s_wipeS, s_oSub, s_oAddI, s_oAdd, s_oLt, s_oLe, s_oGt, s_oGe, s_oNeg, s_oNot, s_oMul, s_oMulW, s_oMod, s_oFdiv, s_oPow, s_oIsN, s_oNotN, s_oIsB, s_oNotB, s_isNon_int, s_isNon_non, s_isNon_bl, s_isNon_str, s_isNon_tup, s_isNon_lst, s_isNon_dic, s_oEqI, s_oNeI, s_oIxT, s_oIxL, s_oSlT, s_oSlL, s_oRevT, s_oRevL, s_oInt, s_oIntB, s_oAbs, s_oMax2, s_oMin2, s_oLen, s_plenT, s_plenL, s_plenD, s_plenS, s_oTupleL, s_oTupleT, s_oListL, s_oListT, List.set_cons_succ, List.set_cons_zero, List.append_nil, true_and, x_bl, x_int, x_some, x_addT, x_addL, x_true, x_false]
              by_cases c2 : a ≤ b
              · rw [decide_eq_true c2] at h hs
                refine ite_f (by rw [decide_eq_false (by omega)]; decide) ⟨_, rfl, ?_⟩
                try simp only [s_mVar0, s_mVarS, s_mVarO0, s_mVarOS, s_isObj_lst, s_isObj_dic, s_mC, s_mOp, s_mOp1, s_mB, s_mNil, s_mCons, s_mTup, s_mLst, s_mCall, s_mTB, s_mNot, s_mAnd, s_mOr, s_mAndV, s_mOrV, s_mIf, s_mYes, s_mSl, s_mNo, s_mPart, s_mLc, s_mItems, s_mRng1, s_mRng2, s_mEnum, s_mChain, s_seqT, s_seqL, s_sNext, s_sSeq, s_sIf, s_sSet, s_sRet, s_sRetN, s_sBreak, s_sCont, s_sDrop, s_sPar, s_setN0, s_setNS, s_sAsg, s_sApp, s_sAug, s_sFor, s_sSrc, s_gmN, s_gmT, s_gmCons, s_gmNil, s_wipe0, s_wipeS, s_oSub, s_oAddI, s_oAdd, s_oLt, s_oLe, s_oGt, s_oGe, s_oNeg, s_oNot, s_oMul, s_oMulW, s_oMod, s_oFdiv, s_oPow, s_oIsN, s_oNotN, s_oIsB, s_oNotB, s_isNon_int, s_isNon_non, s_isNon_bl, s_isNon_str, s_isNon_tup, s_isNon_lst, s_isNon_dic, s_oEqI, s_oNeI, s_oIxT, s_oIxL, s_oSlT, s_oSlL, s_oRevT, s_oRevL, s_oInt, s_oIntB, s_oAbs, s_oMax2, s_oMin2, s_oLen, s_plenT, s_plenL, s_plenD, s_plenS, s_oTupleL, s_oTupleT, s_oListL, s_oListT, List.set_cons_succ, List.set_cons_zero, List.append_nil, true_and, x_bl, x_int, x_some, x_addT, x_addL, x_true, x_false]
                rw [List.length_map, List.length_range]
                by_cases c3 : b < lots.length
                · rw [decide_eq_true c3] at h hs
                  refine ite_f (by rw [decide_eq_false (by omega)]; decide) ⟨_, rfl, ?_⟩
                  try simp only [s_mVar0, s_mVarS, s_mVarO0, s_mVarOS, s_isObj_lst, s_isObj_dic, s_mC, s_mOp, s_mOp1, s_mB, s_mNil, s_mCons, s_mTup, s_mLst, s_mCall, s_mTB, s_mNot, s_mAnd, s_mOr, s_mAndV, s_mOrV, s_mIf, s_mYes, s_mSl, s_mNo, s_mPart, s_mLc, s_mItems, s_mRng1, s_mRng2, s_mEnum, s_mChain, s_seqT, s_seqL, s_sNext, s_sSeq, s_sIf, s_sSet, s_sRet, s_sRetN, s_sBreak, s_sCont, s_sDrop, s_sPar, s_setN0, s_setNS, s_sAsg, s_sApp, s_sAug, s_sFor, s_sSrc, s_gmN, s_gmT, s_gmCons, s_gmNil, s_wipe0, s_wipeS, s_oSub, s_oAddI, s_oAdd, s_oLt, s_oLe, s_oGt, s_oGe, s_oNeg, s_oNot, s_oMul, s_oMulW, s_oMod, s_oFdiv, s_oPow, s_oIsN, s_oNotN, s_oIsB, s_oNotB, s_isNon_int, s_isNon_non, s_isNon_bl, s_isNon_str, s_isNon_tup, s_isNon_lst, s_isNon_dic, s_oEqI, s_oNeI, s_oIxT, s_oIxL, s_oSlT, s_oSlL, s_oRevT, s_oRevL, s_oInt, s_oIntB, s_oAbs, s_oMax2, s_oMin2, s_oLen, s_plenT, s_plenL, s_plenD, s_plenS, s_oTupleL, s_oTupleT, s_oListL, s_oListT, List.set_cons_succ, List.set_cons_zero, List.append_nil, true_and, x_bl, x_int, x_some, x_addT, x_addL, x_true, x_false]
                  rw [List.length_map]
                  by_cases c4 : u < prices.length
                  · rw [decide_eq_true c4] at h hs
                    refine ite_f (by rw [decide_eq_false (by omega)]; decide) ⟨_, rfl, _, sz_row (by omega), _, rfl, _, rfl, ?_⟩
                    try simp only [s_mVar0, s_mVarS, s_mVarO0, s_mVarOS, s_isObj_lst, s_isObj_dic, s_mC, s_mOp, s_mOp1, s_mB, s_mNil, s_mCons, s_mTup, s_mLst, s_mCall, s_mTB, s_mNot, s_mAnd, s_mOr, s_mAndV, s_mOrV, s_mIf, s_mYes, s_mSl, s_mNo, s_mPart, s_mLc, s_mItems, s_mRng1, s_mRng2, s_mEnum, s_mChain, s_seqT, s_seqL, s_sNext, s_sSeq, s_sIf, s_sSet, s_sRet, s_sRetN, s_sBreak, s_sCont, s_sDrop, s_sPar, s_setN0, s_setNS, s_sAsg, s_sApp, s_sAug, s_sFor, s_sSrc, s_gmN, s_gmT, s_gmCons, s_gmNil, s_wipe0, s_wipeS, s_oSub, s_oAddI, s_oAdd, s_oLt, s_oLe, s_oGt, s_oGe, s_oNeg, s_oNot, s_oMul, s_oMulW, s_oMod, s_oFdiv, s_oPow, s_oIsN, s_oNotN, s_oIsB, s_oNotB, s_isNon_int, s_isNon_non, s_isNon_bl, s_isNon_str, s_isNon_tup, s_isNon_lst, s_isNon_dic, s_oEqI, s_oNeI, s_oIxT, s_oIxL, s_oSlT, s_oSlL, s_oRevT, s_oRevL, s_oInt, s_oIntB, s_oAbs, s_oMax2, s_oMin2, s_oLen, s_plenT, s_plenL, s_plenD, s_plenS, s_oTupleL, s_oTupleT, s_oListL, s_oListT, List.set_cons_succ, List.set_cons_zero, List.append_nil, true_and, x_bl, x_int, x_some, x_addT, x_addL, x_true, x_false]
                    rw [show (b : Int) - a = ((b - a : Nat) : Int) by omega]
                    refine ⟨_, sz_at (by omega), _, rfl, ?_⟩
                    try simp only [s_mVar0, s_mVarS, s_mVarO0, s_mVarOS, s_isObj_lst, s_isObj_dic, s_mC, s_mOp, s_mOp1, s_mB, s_mNil, s_mCons, s_mTup, s_mLst, s_mCall, s_mTB, s_mNot, s_mAnd, s_mOr, s_mAndV, s_mOrV, s_mIf, s_mYes, s_mSl, s_mNo, s_mPart, s_mLc, s_mItems, s_mRng1, s_mRng2, s_mEnum, s_mChain, s_seqT, s_seqL, s_sNext, s_sSeq, s_sIf, s_sSet, s_sRet, s_sRetN, s_sBreak, s_sCont, s_sDrop, s_sPar, s_setN0, s_setNS, s_sAsg, s_sApp, s_sAug, s_sFor, s_sSrc, s_gmN, s_gmT, s_gmCons, s_gmNil, s_wipe0, s_wipeS, s_oSub, s_oAddI, s_oAdd, s_oLt, s_oLe, s_oGt, s_oGe, s_oNeg, s_oNot, s_oMul, s_oMulW, s_oMod, s_oFdiv, s_oPow, s_oIsN, s_oNotN, s_oIsB, s_oNotB, s_isNon_int, s_isNon_non, s_isNon_bl, s_isNon_str, s_isNon_tup, s_isNon_lst, s_isNon_dic, s_oEqI, s_oNeI, s_oIxT, s_oIxL, s_oSlT, s_oSlL, s_oRevT, s_oRevL, s_oInt, s_oIntB, s_oAbs, s_oMax2, s_oMin2, s_oLen, s_plenT, s_plenL, s_plenD, s_plenS, s_oTupleL, s_oTupleT, s_oListL, s_oListT, List.set_cons_succ, List.set_cons_zero, List.append_nil, true_and, x_bl, x_int, x_some, x_addT, x_addL, x_true, x_false]
                    rw [show a + (b - a) = b by omega]
                    by_cases c5 : cnt lots a b ≤ u
                    · rw [decide_eq_true c5] at h hs
                      refine ite_f (by rw [decide_eq_false (by omega)]; decide) ⟨_, rfl, hN _ ⟨_, _, ?_, rfl⟩⟩
                      rw [hs]; rfl
                    · rw [decide_eq_false c5] at h
                      exact ite_t (by rw [decide_eq_true (by omega)]) h
                  · rw [decide_eq_false c4] at h
                    refine ite_t (by rw [decide_eq_true (by omega)]) ?_
                    simpa using h
                · rw [decide_eq_false c3] at h
                  refine ite_t (by rw [decide_eq_true (by omega)]) (ite_t trivial ?_)
                  simpa using h
              · rw [decide_eq_false c2] at h
                refine ite_t (by rw [decide_eq_true (by omega)]) (ite_t trivial ?_)
                simpa using h
            · rw [decide_eq_false c1] at h ⊢
              refine ite_t rfl (ite_t trivial ?_)
              simpa using h
        · rw [decide_eq_false (by omega : ¬ (ys.length : Int) = 3)]
          refine ite_t rfl (ite_t trivial ?_)
          have e : rowB lots prices (.tup ys) = false := by
            cases q : rowB lots prices (.tup ys) with
            | false => rfl
            | true => exact absurd (rowB_nat q).1 h3
          have e2 : seqB lots prices ahead (.tup ys :: List.drop (i + 1) xs) = false := by
            show (rowB lots prices (.tup ys) && _) = false
            rw [e]; rfl
          rw [e2] at h; exact h
      | _ => first | exact oIsi_of (b := false) rfl rfl ⟨_, rfl, ite_t rfl (ite_t trivial h)⟩ | (have := (hp _ hxm).1; cases this)
    · obtain ⟨ahead, y4, hs, rfl⟩ := hE
      rw [hs, List.drop_length] at h
      try simp only [s_mVar0, s_mVarS, s_mVarO0, s_mVarOS, s_isObj_lst, s_isObj_dic, s_mC, s_mOp, s_mOp1, s_mB, s_mNil, s_mCons, s_mTup, s_mLst, s_mCall, s_mTB, s_mNot, s_mAnd, s_mOr, s_mAndV, s_mOrV, s_mIf, s_mYes, s_mSl, s_mNo, s_mPart, s_mLc, s_mItems, s_mRng1, s_mRng2, s_mEnum, s_mChain, s_seqT, s_seqL, s_sNext, s_sSeq, s_sIf, s_sSet, s_sRet, s_sRetN, s_sBreak, s_sCont, s_sDrop, s_sPar, s_setN0, s_setNS, s_sAsg, s_sApp, s_sAug, s_sFor, s_sSrc, s_gmN, s_gmT, s_gmCons, s_gmNil, s_wipe0, s_wipeS, s_oSub, s_oAddI, s_oAdd, s_oLt, s_oLe, s_oGt, s_oGe, s_oNeg, s_oNot, s_oMul, s_oMulW, s_oMod, s_oFdiv, s_oPow, s_oIsN, s_oNotN, s_oIsB, s_oNotB, s_isNon_int, s_isNon_non, s_isNon_bl, s_isNon_str, s_isNon_tup, s_isNon_lst, s_isNon_dic, s_oEqI, s_oNeI, s_oIxT, s_oIxL, s_oSlT, s_oSlL, s_oRevT, s_oRevL, s_oInt, s_oIntB, s_oAbs, s_oMax2, s_oMin2, s_oLen, s_plenT, s_plenL, s_plenD, s_plenS, s_oTupleL, s_oTupleT, s_oListL, s_oListT, List.set_cons_succ, List.set_cons_zero, List.append_nil, true_and, x_bl, x_int, x_some, x_addT, x_addL, x_true, x_false]
      rw [List.length_map, List.length_range]
      exact h
  | _ => first | exact oIsi_of (b := false) rfl rfl ⟨_, rfl, ite_t rfl h⟩ | cases hv
/-- min over ints -/
theorem oBest_ints {x : PV} {ns : List Int} {P : PV → Prop} (hx : seqP x = some (ns.map PV.int)) (h0 : 0 < ns.length) (h : ∀ m, omin ns = some m → P (.int m)) : oBest bestLt [x] P := by
  refine ⟨x, ns.map PV.int, ns.map PyData.int, rfl, hx, toDs_map (fun _ => rfl) ns, ⟨fun a ha b hb => ?_, fun a ha => ?_⟩, ?_, by rw [List.length_map]; exact h0, fun p hp => ?_⟩
  · obtain ⟨i, _, rfl⟩ := List.mem_map.mp ha
    obtain ⟨j, _, rfl⟩ := List.mem_map.mp hb
    rfl
  · obtain ⟨i, _, rfl⟩ := List.mem_map.mp ha
    exact fun z => by cases z
  · exact Nat.le_trans (lay_map (n := 0) (f := PyData.int) (fun _ => ⟨rfl, Nat.le_refl _⟩) ns).2 (by decide)
  · obtain ⟨u, hu, hum, hle⟩ := bestLt_key (xs := ns) (f := PyData.int) (k := id) (fun x y z => by rw [PySem.W.dataLt_int]; exact decide_eq_true z) (fun x y z => by rw [PySem.W.dataLt_int]; exact decide_eq_false (by have : y < x := z; omega)) h0
    rw [List.getElem?_map, hu] at hp
    cases hp
    exact h u (omin_some.mpr ⟨hum, hle⟩)
theorem drop_cut {α : Type} {xs : List α} {n : Nat} : (xs.drop (HT.sIx xs.length 0 (some (n : Int)))).take (HT.sIx xs.length xs.length none - HT.sIx xs.length 0 (some (n : Int))) = xs.drop n := by
  rw [HT.sIx_none, HT.sIx_nat]
  by_cases h : n ≤ xs.length
  · rw [Nat.min_eq_left h]; exact List.take_of_length_le (by rw [List.length_drop]; omega)
  · rw [Nat.min_eq_right (by omega), List.drop_length, List.drop_eq_nil_of_le (by omega), List.take_nil]
def sp_l_is_levels : PM.Spec := fun ps P => ∃ (lots : List (List Int)) (prices : List Int) (v : PV), ps = [szP lots, tI prices, v] ∧ Good lots ∧ D2 v ∧ P (.bl (levB lots prices v))
theorem h_l_is_levels (ps : List PV) (Q : PV → Prop) (h : sp_l_is_levels ps Q) : t_l_is_levels sp_l_is_number { nx := fun _ => nxOf .cl Q, rt := Q } (startE n_l_is_levels.length ps) := by
  obtain ⟨lots, prices, v, rfl, hg, ⟨hv, hd⟩, h⟩ := h
  show t_l_is_levels _ _ [some (szP lots), some (tI prices), some v, none, none, none, none, none]
  unfold t_l_is_levels szP
  try simp only [s_mVar0, s_mVarS, s_mVarO0, s_mVarOS, s_isObj_lst, s_isObj_dic, s_mC, s_mOp, s_mOp1, s_mB, s_mNil, s_mCons, s_mTup, s_mLst, s_mCall, s_mTB, s_mNot, s_mAnd, s_mOr, s_mAndV, s_mOrV, s_mIf, s_mYes, s_mSl, s_mNo, s_mPart, s_mLc, s_mItems, s_mRng1, s_mRng2, s_mEnum, s_mChain, s_seqT, s_seqL, s_sNext, s_sSeq, s_sIf, s_sSet, s_sRet, s_sRetN, s_sBreak, s_sCont, s_sDrop, s_sPar, s_setN0, s_setNS, s_sAsg, s_sApp, s_sAug, s_sFor, s_sSrc, s_gmN, s_gmT, s_gmCons, s_gmNil, s_wipe0, s_wipeS, s_oSub, s_oAddI, s_oAdd, s_oLt, s_oLe, s_oGt, s_oGe, s_oNeg, s_oNot, s_oMul, s_oMulW, s_oMod, s_oFdiv, s_oPow, s_oIsN, s_oNotN, s_oIsB, s_oNotB, s_isNon_int, s_isNon_non, s_isNon_bl, s_isNon_str, s_isNon_tup, s_isNon_lst, s_isNon_dic, s_oEqI, s_oNeI, s_oIxT, s_oIxL, s_oSlT, s_oSlL, s_oRevT, s_oRevL, s_oInt, s_oIntB, s_oAbs, s_oMax2, s_oMin2, s_oLen, s_plenT, s_plenL, s_plenD, s_plenS, s_oTupleL, s_oTupleT, s_oListL, s_oListT, List.set_cons_succ, List.set_cons_zero, List.append_nil, true_and, x_bl, x_int, x_some, x_addT, x_addL, x_true, x_false]
  cases v with
  | tup xs =>
    obtain ⟨hl, hp⟩ := hd xs rfl
    refine oIsi_of (b := true) rfl rfl ⟨_, rfl, ite_f (by decide) ?_⟩
    try simp only [s_mVar0, s_mVarS, s_mVarO0, s_mVarOS, s_isObj_lst, s_isObj_dic, s_mC, s_mOp, s_mOp1, s_mB, s_mNil, s_mCons, s_mTup, s_mLst, s_mCall, s_mTB, s_mNot, s_mAnd, s_mOr, s_mAndV, s_mOrV, s_mIf, s_mYes, s_mSl, s_mNo, s_mPart, s_mLc, s_mItems, s_mRng1, s_mRng2, s_mEnum, s_mChain, s_seqT, s_seqL, s_sNext, s_sSeq, s_sIf, s_sSet, s_sRet, s_sRetN, s_sBreak, s_sCont, s_sDrop, s_sPar, s_setN0, s_setNS, s_sAsg, s_sApp, s_sAug, s_sFor, s_sSrc, s_gmN, s_gmT, s_gmCons, s_gmNil, s_wipe0, s_wipeS, s_oSub, s_oAddI, s_oAdd, s_oLt, s_oLe, s_oGt, s_oGe, s_oNeg, s_oNot, s_oMul, s_oMulW, s_oMod, s_oFdiv, s_oPow, s_oIsN, s_oNotN, s_oIsB, s_oNotB, s_isNon_int, s_isNon_non, s_isNon_bl, s_isNon_str, s_isNon_tup, s_isNon_lst, s_isNon_dic, s_oEqI, s_oNeI, s_oIxT, s_oIxL, s_oSlT, s_oSlL, s_oRevT, s_oRevL, s_oInt, s_oIntB, s_oAbs, s_oMax2, s_oMin2, s_oLen, s_plenT, s_plenL, s_plenD, s_plenS, s_oTupleL, s_oTupleT, s_oListL, s_oListT, List.set_cons_succ, List.set_cons_zero, List.append_nil, true_and, x_bl, x_int, x_some, x_addT, x_addL, x_true, x_false]
    rw [List.length_map, List.length_range]
    by_cases hlen : xs.length = lots.length + 1
    · rw [decide_eq_true (by omega : (xs.length : Int) = (lots.length : Int) + 1)]
      refine ite_f (by decide) ?_
      refine comp_self (f := fun x => .bl (isNat x)) (fun x hx => ⟨_, fun k hk => s_gmN.mpr hk, fun Q hQ => hQ, fun Q hQ => ?_⟩) (line (by omega)) (oAll_map ⟨_, rfl, ?_⟩)
      · try simp only [s_mVar0, s_mVarS, s_mVarO0, s_mVarOS, s_isObj_lst, s_isObj_dic, s_mC, s_mOp, s_mOp1, s_mB, s_mNil, s_mCons, s_mTup, s_mLst, s_mCall, s_mTB, s_mNot, s_mAnd, s_mOr, s_mAndV, s_mOrV, s_mIf, s_mYes, s_mSl, s_mNo, s_mPart, s_mLc, s_mItems, s_mRng1, s_mRng2, s_mEnum, s_mChain, s_seqT, s_seqL, s_sNext, s_sSeq, s_sIf, s_sSet, s_sRet, s_sRetN, s_sBreak, s_sCont, s_sDrop, s_sPar, s_setN0, s_setNS, s_sAsg, s_sApp, s_sAug, s_sFor, s_sSrc, s_gmN, s_gmT, s_gmCons, s_gmNil, s_wipe0, s_wipeS, s_oSub, s_oAddI, s_oAdd, s_oLt, s_oLe, s_oGt, s_oGe, s_oNeg, s_oNot, s_oMul, s_oMulW, s_oMod, s_oFdiv, s_oPow, s_oIsN, s_oNotN, s_oIsB, s_oNotB, s_isNon_int, s_isNon_non, s_isNon_bl, s_isNon_str, s_isNon_tup, s_isNon_lst, s_isNon_dic, s_oEqI, s_oNeI, s_oIxT, s_oIxL, s_oSlT, s_oSlL, s_oRevT, s_oRevL, s_oInt, s_oIntB, s_oAbs, s_oMax2, s_oMin2, s_oLen, s_plenT, s_plenL, s_plenD, s_plenS, s_oTupleL, s_oTupleT, s_oListL, s_oListT, List.set_cons_succ, List.set_cons_zero, List.append_nil, true_and, x_bl, x_int, x_some, x_addT, x_addL, x_true, x_false]
        exact ⟨x, rfl, (hp x hx).1, hQ⟩
      have hh : levB lots prices (.tup xs) = (xs.all isNat && (decide ((xs.map vI).getD 0 0 = 0) && levN lots prices (xs.map vI))) := by
        show (decide (xs.length = lots.length + 1) && _) = _
        rw [decide_eq_true hlen, Bool.true_and]
      rw [hh] at h
      cases hnat : xs.all isNat with
      | false => rw [hnat] at h; exact ite_t rfl h
      | true =>
        rw [hnat, Bool.true_and] at h
        have hx0 := ints_of hnat
        generalize hns : xs.map vI = ns at *
        subst hx0
        rw [List.length_map] at hlen hl
        refine ite_f (by decide) ?_
        obtain ⟨n0, ns', rfl⟩ : ∃ n0 ns', ns = n0 :: ns' := by
          cases ns with
          | nil => cases hlen
          | cons a b => exact ⟨a, b, rfl⟩
        refine ⟨.int n0, (by rw [List.map_cons, show (0 : Int) = ((0 : Nat) : Int) from rfl, atI_pos (by simp)]; rfl), ?_⟩
        try simp only [s_mVar0, s_mVarS, s_mVarO0, s_mVarOS, s_isObj_lst, s_isObj_dic, s_mC, s_mOp, s_mOp1, s_mB, s_mNil, s_mCons, s_mTup, s_mLst, s_mCall, s_mTB, s_mNot, s_mAnd, s_mOr, s_mAndV, s_mOrV, s_mIf, s_mYes, s_mSl, s_mNo, s_mPart, s_mLc, s_mItems, s_mRng1, s_mRng2, s_mEnum, s_mChain, s_seqT, s_seqL, s_sNext, s_sSeq, s_sIf, s_sSet, s_sRet, s_sRetN, s_sBreak, s_sCont, s_sDrop, s_sPar, s_setN0, s_setNS, s_sAsg, s_sApp, s_sAug, s_sFor, s_sSrc, s_gmN, s_gmT, s_gmCons, s_gmNil, s_wipe0, s_wipeS, s_oSub, s_oAddI, s_oAdd, s_oLt, s_oLe, s_oGt, s_oGe, s_oNeg, s_oNot, s_oMul, s_oMulW, s_oMod, s_oFdiv, s_oPow, s_oIsN, s_oNotN, s_oIsB, s_oNotB, s_isNon_int, s_isNon_non, s_isNon_bl, s_isNon_str, s_isNon_tup, s_isNon_lst, s_isNon_dic, s_oEqI, s_oNeI, s_oIxT, s_oIxL, s_oSlT, s_oSlL, s_oRevT, s_oRevL, s_oInt, s_oIntB, s_oAbs, s_oMax2, s_oMin2, s_oLen, s_plenT, s_plenL, s_plenD, s_plenS, s_oTupleL, s_oTupleT, s_oListL, s_oListT, List.set_cons_succ, List.set_cons_zero, List.append_nil, true_and, x_bl, x_int, x_some, x_addT, x_addL, x_true, x_false]
        have h00 : (n0 :: ns').getD 0 0 = n0 := rfl
        rw [h00] at h
        generalize hms : n0 :: ns' = ms at *
        by_cases hz : n0 = 0
        · rw [decide_eq_true hz] at h ⊢
          rw [Bool.true_and] at h
          refine ite_f (by decide) ?_
          rw [enumP_map, List.length_range]
          refine for_inv (emb := fun i : Nat => PV.tup [PV.int (i : Int), ((List.range lots.length).map fun i => lI (row1 lots i (lots.length - i))).getD i PV.non]) (fun f e => f ≤ lots.length ∧ (∀ a b, a < f → a ≤ b → b < lots.length → pairB lots prices ms a b = true) ∧ ∃ y3 y4 y5 y6, e = [some (.lst ((List.range lots.length).map fun i => lI (row1 lots i (lots.length - i)))), some (tI prices), some (.tup (ms.map PV.int)), y3, y4, y5, y6, none]) ⟨Nat.zero_le _, fun _ _ z => absurd z (Nat.not_lt_zero _), none, none, none, none, rfl⟩ (fun f x e N hx hE hN => ?_) (fun e hE => ?_)
          · obtain ⟨hf, hall, y3, y4, y5, y6, rfl⟩ := hE
            obtain ⟨hx0, hf1⟩ : x = f ∧ f < lots.length := by
              have hl := (List.getElem?_eq_some_iff.mp hx).1
              rw [List.length_range] at hl
              rw [List.getElem?_range hl] at hx
              exact ⟨(Option.some.inj hx).symm, hl⟩
            subst hx0
            rw [show ((List.range lots.length).map fun i => lI (row1 lots i (lots.length - i))).getD x PV.non = lI (row1 lots x (lots.length - x)) by rw [List.getD_eq_getElem?_getD, List.getElem?_map, List.getElem?_range hf1]; rfl]
            refine s_gmT.mpr ⟨rfl, s_gmCons.mpr (s_gmN.mpr (s_gmCons.mpr (s_gmN.mpr (s_gmNil.mpr ?_))))⟩
            try simp only [s_mVar0, s_mVarS, s_mVarO0, s_mVarOS, s_isObj_lst, s_isObj_dic, s_mC, s_mOp, s_mOp1, s_mB, s_mNil, s_mCons, s_mTup, s_mLst, s_mCall, s_mTB, s_mNot, s_mAnd, s_mOr, s_mAndV, s_mOrV, s_mIf, s_mYes, s_mSl, s_mNo, s_mPart, s_mLc, s_mItems, s_mRng1, s_mRng2, s_mEnum, s_mChain, s_seqT, s_seqL, s_sNext, s_sSeq, s_sIf, s_sSet, s_sRet, s_sRetN, s_sBreak, s_sCont, s_sDrop, s_sPar, s_setN0, s_setNS, s_sAsg, s_sApp, s_sAug, s_sFor, s_sSrc, s_gmN, s_gmT, s_gmCons, s_gmNil, s_wipe0, s_wipeS, s_oSub, s_oAddI, s_oAdd, s_oLt, s_oLe, s_oGt, s_oGe, s_oNeg, s_oNot, s_oMul, s_oMulW, s_oMod, s_oFdiv, s_oPow, s_oIsN, s_oNotN, s_oIsB, s_oNotB, s_isNon_int, s_isNon_non, s_isNon_bl, s_isNon_str, s_isNon_tup, s_isNon_lst, s_isNon_dic, s_oEqI, s_oNeI, s_oIxT, s_oIxL, s_oSlT, s_oSlL, s_oRevT, s_oRevL, s_oInt, s_oIntB, s_oAbs, s_oMax2, s_oMin2, s_oLen, s_plenT, s_plenL, s_plenD, s_plenS, s_oTupleL, s_oTupleT, s_oListL, s_oListT, List.set_cons_succ, List.set_cons_zero, List.append_nil, true_and, x_bl, x_int, x_some, x_addT, x_addL, x_true, x_false]
            rw [enumP_map, row1_len]
            refine for_inv (emb := fun i : Nat => PV.tup [PV.int (i : Int), ((row1 lots x (lots.length - x)).map PV.int).getD i PV.non]) (fun j e => x + j ≤ lots.length ∧ (∀ t, t < j → pairB lots prices ms x (x + t) = true) ∧ ∃ y5 y6, e = [some (.lst ((List.range lots.length).map fun i => lI (row1 lots i (lots.length - i)))), some (tI prices), some (.tup (ms.map PV.int)), some (.int x), some (lI (row1 lots x (lots.length - x))), y5, y6, none]) ⟨by omega, fun _ z => absurd z (Nat.not_lt_zero _), y5, y6, rfl⟩ (fun j y e N2 hj hE2 hN2 => ?_) (fun e hE2 => ?_)
            · obtain ⟨hxj, hall2, y5, y6, rfl⟩ := hE2
              obtain ⟨hy0, hj1⟩ : y = j ∧ j < lots.length - x := by
                have hl := (List.getElem?_eq_some_iff.mp hj).1
                rw [List.length_range] at hl
                rw [List.getElem?_range hl] at hj
                exact ⟨(Option.some.inj hj).symm, hl⟩
              subst hy0
              rw [show ((row1 lots x (lots.length - x)).map PV.int).getD y PV.non = .int (cnt lots x (x + y) : Int) by unfold row1; rw [List.getD_eq_getElem?_getD, List.getElem?_map, List.getElem?_map, List.getElem?_range hj1]; rfl]
              refine s_gmT.mpr ⟨rfl, s_gmCons.mpr (s_gmN.mpr (s_gmCons.mpr (s_gmN.mpr (s_gmNil.mpr ?_))))⟩
              try simp only [s_mVar0, s_mVarS, s_mVarO0, s_mVarOS, s_isObj_lst, s_isObj_dic, s_mC, s_mOp, s_mOp1, s_mB, s_mNil, s_mCons, s_mTup, s_mLst, s_mCall, s_mTB, s_mNot, s_mAnd, s_mOr, s_mAndV, s_mOrV, s_mIf, s_mYes, s_mSl, s_mNo, s_mPart, s_mLc, s_mItems, s_mRng1, s_mRng2, s_mEnum, s_mChain, s_seqT, s_seqL, s_sNext, s_sSeq, s_sIf, s_sSet, s_sRet, s_sRetN, s_sBreak, s_sCont, s_sDrop, s_sPar, s_setN0, s_setNS, s_sAsg, s_sApp, s_sAug, s_sFor, s_sSrc, s_gmN, s_gmT, s_gmCons, s_gmNil, s_wipe0, s_wipeS, s_oSub, s_oAddI, s_oAdd, s_oLt, s_oLe, s_oGt, s_oGe, s_oNeg, s_oNot, s_oMul, s_oMulW, s_oMod, s_oFdiv, s_oPow, s_oIsN, s_oNotN, s_oIsB, s_oNotB, s_isNon_int, s_isNon_non, s_isNon_bl, s_isNon_str, s_isNon_tup, s_isNon_lst, s_isNon_dic, s_oEqI, s_oNeI, s_oIxT, s_oIxL, s_oSlT, s_oSlL, s_oRevT, s_oRevL, s_oInt, s_oIntB, s_oAbs, s_oMax2, s_oMin2, s_oLen, s_plenT, s_plenL, s_plenD, s_plenS, s_oTupleL, s_oTupleT, s_oListL, s_oListT, List.set_cons_succ, List.set_cons_zero, List.append_nil, true_and, x_bl, x_int, x_some, x_addT, x_addL, x_true, x_false]
              rw [List.length_map]
              by_cases hc : cnt lots x (x + y) < prices.length
              · refine ite_t (decide_eq_true (by omega)) ?_
                have g1 : atI (ms.map PV.int) ((x : Int) + y + 1) = some (.int (ms.getD (x + y + 1) 0)) := by
                  rw [show (x : Int) + y + 1 = ((x + y + 1 : Nat) : Int) by omega, atI_map, atI_pos (by omega), List.getElem?_eq_getElem (by omega), List.getD_eq_getElem?_getD, List.getElem?_eq_getElem (by omega)]
                  rfl
                have g2 : atI (ms.map PV.int) (x : Int) = some (.int (ms.getD x 0)) := by
                  rw [atI_map, atI_pos (by omega), List.getElem?_eq_getElem (by omega), List.getD_eq_getElem?_getD, List.getElem?_eq_getElem (by omega)]
                  rfl
                refine ⟨_, g1, _, g2, ?_⟩
                try simp only [s_mVar0, s_mVarS, s_mVarO0, s_mVarOS, s_isObj_lst, s_isObj_dic, s_mC, s_mOp, s_mOp1, s_mB, s_mNil, s_mCons, s_mTup, s_mLst, s_mCall, s_mTB, s_mNot, s_mAnd, s_mOr, s_mAndV, s_mOrV, s_mIf, s_mYes, s_mSl, s_mNo, s_mPart, s_mLc, s_mItems, s_mRng1, s_mRng2, s_mEnum, s_mChain, s_seqT, s_seqL, s_sNext, s_sSeq, s_sIf, s_sSet, s_sRet, s_sRetN, s_sBreak, s_sCont, s_sDrop, s_sPar, s_setN0, s_setNS, s_sAsg, s_sApp, s_sAug, s_sFor, s_sSrc, s_gmN, s_gmT, s_gmCons, s_gmNil, s_wipe0, s_wipeS, s_oSub, s_oAddI, s_oAdd, s_oLt, s_oLe, s_oGt, s_oGe, s_oNeg, s_oNot, s_oMul, s_oMulW, s_oMod, s_oFdiv, s_oPow, s_oIsN, s_oNotN, s_oIsB, s_oNotB, s_isNon_int, s_isNon_non, s_isNon_bl, s_isNon_str, s_isNon_tup, s_isNon_lst, s_isNon_dic, s_oEqI, s_oNeI, s_oIxT, s_oIxL, s_oSlT, s_oSlL, s_oRevT, s_oRevL, s_oInt, s_oIntB, s_oAbs, s_oMax2, s_oMin2, s_oLen, s_plenT, s_plenL, s_plenD, s_plenS, s_oTupleL, s_oTupleT, s_oListL, s_oListT, List.set_cons_succ, List.set_cons_zero, List.append_nil, true_and, x_bl, x_int, x_some, x_addT, x_addL, x_true, x_false]
                rw [cutP_map, drop_cut]
                refine oBest_ints rfl (by rw [List.length_drop]; omega) fun m hm => ?_
                try simp only [s_mVar0, s_mVarS, s_mVarO0, s_mVarOS, s_isObj_lst, s_isObj_dic, s_mC, s_mOp, s_mOp1, s_mB, s_mNil, s_mCons, s_mTup, s_mLst, s_mCall, s_mTB, s_mNot, s_mAnd, s_mOr, s_mAndV, s_mOrV, s_mIf, s_mYes, s_mSl, s_mNo, s_mPart, s_mLc, s_mItems, s_mRng1, s_mRng2, s_mEnum, s_mChain, s_seqT, s_seqL, s_sNext, s_sSeq, s_sIf, s_sSet, s_sRet, s_sRetN, s_sBreak, s_sCont, s_sDrop, s_sPar, s_setN0, s_setNS, s_sAsg, s_sApp, s_sAug, s_sFor, s_sSrc, s_gmN, s_gmT, s_gmCons, s_gmNil, s_wipe0, s_wipeS, s_oSub, s_oAddI, s_oAdd, s_oLt, s_oLe, s_oGt, s_oGe, s_oNeg, s_oNot, s_oMul, s_oMulW, s_oMod, s_oFdiv, s_oPow, s_oIsN, s_oNotN, s_oIsB, s_oNotB, s_isNon_int, s_isNon_non, s_isNon_bl, s_isNon_str, s_isNon_tup, s_isNon_lst, s_isNon_dic, s_oEqI, s_oNeI, s_oIxT, s_oIxL, s_oSlT, s_oSlL, s_oRevT, s_oRevL, s_oInt, s_oIntB, s_oAbs, s_oMax2, s_oMin2, s_oLen, s_plenT, s_plenL, s_plenD, s_plenS, s_oTupleL, s_oTupleT, s_oListL, s_oListT, List.set_cons_succ, List.set_cons_zero, List.append_nil, true_and, x_bl, x_int, x_some, x_addT, x_addL, x_true, x_false]
                have hpb : pairB lots prices ms x (x + y) = decide (ms.getD (x + y + 1) 0 - ms.getD x 0 ≤ m) := by
                  unfold pairB lp
                  rw [hm]
                by_cases hgt : ms.getD (x + y + 1) 0 - ms.getD x 0 > m
                · rw [decide_eq_false (by omega)] at hpb
                  rw [levN_false (by omega : x + y < lots.length) (by omega) hpb] at h
                  exact ite_t (decide_eq_true hgt) h
                · rw [decide_eq_true (by omega)] at hpb
                  refine ite_f (by rw [decide_eq_false hgt]; decide) (hN2 _ ⟨by omega, fun t ht => ?_, _, _, rfl⟩)
                  by_cases z : t = y
                  · subst z; exact hpb
                  · exact hall2 t (by omega)
              · have hpb : pairB lots prices ms x (x + y) = true := by
                  unfold pairB
                  rw [lp_none.mpr (by omega)]
                refine ite_f (by rw [decide_eq_false (by omega)]; decide) (hN2 _ ⟨by omega, fun t ht => ?_, _, _, rfl⟩)
                by_cases z : t = y
                · subst z; exact hpb
                · exact hall2 t (by omega)
            · obtain ⟨hxj, hall2, y5, y6, rfl⟩ := hE2
              rw [List.length_range] at hall2
              refine hN _ ⟨by omega, fun a b ha hab hb => ?_, _, _, _, _, rfl⟩
              by_cases z : a = x
              · subst z
                have := hall2 (b - a) (by omega)
                rwa [show a + (b - a) = b by omega] at this
              · exact hall a b (by omega) hab hb
          · obtain ⟨hf, hall, y3, y4, y5, y6, rfl⟩ := hE
            rw [List.length_range] at hall
            rw [levN_true fun b hb a hab => hall a b (by omega) hab hb] at h
            try simp only [s_mVar0, s_mVarS, s_mVarO0, s_mVarOS, s_isObj_lst, s_isObj_dic, s_mC, s_mOp, s_mOp1, s_mB, s_mNil, s_mCons, s_mTup, s_mLst, s_mCall, s_mTB, s_mNot, s_mAnd, s_mOr, s_mAndV, s_mOrV, s_mIf, s_mYes, s_mSl, s_mNo, s_mPart, s_mLc, s_mItems, s_mRng1, s_mRng2, s_mEnum, s_mChain, s_seqT, s_seqL, s_sNext, s_sSeq, s_sIf, s_sSet, s_sRet, s_sRetN, s_sBreak, s_sCont, s_sDrop, s_sPar, s_setN0, s_setNS, s_sAsg, s_sApp, s_sAug, s_sFor, s_sSrc, s_gmN, s_gmT, s_gmCons, s_gmNil, s_wipe0, s_wipeS, s_oSub, s_oAddI, s_oAdd, s_oLt, s_oLe, s_oGt, s_oGe, s_oNeg, s_oNot, s_oMul, s_oMulW, s_oMod, s_oFdiv, s_oPow, s_oIsN, s_oNotN, s_oIsB, s_oNotB, s_isNon_int, s_isNon_non, s_isNon_bl, s_isNon_str, s_isNon_tup, s_isNon_lst, s_isNon_dic, s_oEqI, s_oNeI, s_oIxT, s_oIxL, s_oSlT, s_oSlL, s_oRevT, s_oRevL, s_oInt, s_oIntB, s_oAbs, s_oMax2, s_oMin2, s_oLen, s_plenT, s_plenL, s_plenD, s_plenS, s_oTupleL, s_oTupleT, s_oListL, s_oListT, List.set_cons_succ, List.set_cons_zero, List.append_nil, true_and, x_bl, x_int, x_some, x_addT, x_addL, x_true, x_false]
            exact h
        · rw [decide_eq_false hz] at h ⊢
          exact ite_t rfl h
    · have hh : levB lots prices (.tup xs) = false := by
        show (decide (xs.length = lots.length + 1) && _) = _
        rw [decide_eq_false hlen, Bool.false_and]
      rw [hh] at h
      rw [decide_eq_false (by omega : ¬ (xs.length : Int) = (lots.length : Int) + 1)]
      exact ite_t rfl h
  | _ => first | exact oIsi_of (b := false) rfl rfl ⟨_, rfl, ite_t rfl h⟩ | cases hv
end K46

set_option maxHeartbeats 2000000
namespace K46
open PySem L2 PM
theorem chain_snoc {lots : List (List Int)} {prices : List Int} {a b u : Nat} (h1 : a ≤ b) (h2 : cnt lots a b ≤ u) (h3 : u < prices.length) : ∀ {rows : List Row} {s : Nat}, Chain lots prices s rows a → Chain lots prices s (rows ++ [(a, b, u)]) (b + 1)
  | [], s, h => by
    have h : s = a := h
    subst h
    exact ⟨rfl, h1, h2, h3, rfl⟩
  | r :: rows, s, ⟨e1, e2, e3, e4, h⟩ => ⟨e1, e2, e3, e4, chain_snoc h1 h2 h3 h⟩
def sp_l_own_plan : PM.Spec := fun ps P => ∃ (lots : List (List Int)) (prices : List Int), ps = [.src, szP lots, tI prices] ∧ Good lots ∧ 0 < lots.length ∧ prices.length ≤ 100 ∧ P .non ∧ ∀ rows : List Row, rows.length ≤ lots.length → Chain lots prices 0 rows lots.length → P (.tup (rows.map rP))
theorem h_l_own_plan (ps : List PV) (Q : PV → Prop) (h : sp_l_own_plan ps Q) : t_l_own_plan sp_pick sp_drw { nx := fun _ => nxOf .cl Q, rt := Q } (startE n_l_own_plan.length ps) := by
  obtain ⟨lots, prices, rfl, hg, h0, hpl, hn, h⟩ := h
  show t_l_own_plan _ _ _ [some .src, some (szP lots), some (tI prices), none, none, none, none, none, none, none]
  unfold t_l_own_plan szP
  try simp only [s_mVar0, s_mVarS, s_mVarO0, s_mVarOS, s_isObj_lst, s_isObj_dic, s_mC, s_mOp, s_mOp1, s_mB, s_mNil, s_mCons, s_mTup, s_mLst, s_mCall, s_mTB, s_mNot, s_mAnd, s_mOr, s_mAndV, s_mOrV, s_mIf, s_mYes, s_mSl, s_mNo, s_mPart, s_mLc, s_mItems, s_mRng1, s_mRng2, s_mEnum, s_mChain, s_seqT, s_seqL, s_sNext, s_sSeq, s_sIf, s_sSet, s_sRet, s_sRetN, s_sBreak, s_sCont, s_sDrop, s_sPar, s_setN0, s_setNS, s_sAsg, s_sApp, s_sAug, s_sFor, s_sSrc, s_gmN, s_gmT, s_gmCons, s_gmNil, s_wipe0, s_wipeS, s_oSub, s_oAddI, s_oAdd, s_oLt, s_oLe, s_oGt, s_oGe, s_oNeg, s_oNot, s_oMul, s_oMulW, s_oMod, s_oFdiv, s_oPow, s_oIsN, s_oNotN, s_oIsB, s_oNotB, s_isNon_int, s_isNon_non, s_isNon_bl, s_isNon_str, s_isNon_tup, s_isNon_lst, s_isNon_dic, s_oEqI, s_oNeI, s_oIxT, s_oIxL, s_oSlT, s_oSlL, s_oRevT, s_oRevL, s_oInt, s_oIntB, s_oAbs, s_oMax2, s_oMin2, s_oLen, s_plenT, s_plenL, s_plenD, s_plenS, s_oTupleL, s_oTupleT, s_oListL, s_oListT, List.set_cons_succ, List.set_cons_zero, List.append_nil, true_and, x_bl, x_int, x_some, x_addT, x_addL, x_true, x_false]
  have hs := hg.small
  rw [List.length_map, List.length_range, Int.toNat_natCast, rngP_rng]
  refine ⟨Nat.zero_le _, by omega, ?_⟩
  refine for_inv (fun i e => i ≤ lots.length ∧ ∃ (rows : List Row) (first : Nat) (y3 y6 y7 : Option PV), rows.length = i ∧ i ≤ first ∧ first < lots.length ∧ Chain lots prices 0 rows first ∧ e = [some .src, some (.lst ((List.range lots.length).map fun i => lI (row1 lots i (lots.length - i)))), some (tI prices), y3, some (.lst (rows.map rP)), some (.int (first : Int)), y6, y7, none, none]) ⟨Nat.zero_le _, [], 0, none, none, none, rfl, Nat.le_refl _, h0, rfl, rfl⟩ (fun i x e N hx hE hN => ?_) (fun e hE => ?_)
  · obtain ⟨hi, rows, first, y3, y6, y7, hrl, hif, hfl, hch, rfl⟩ := hE
    have hx1 : i < lots.length := by
      have hl := (List.getElem?_eq_some_iff.mp hx).1
      rwa [rng_len] at hl
    rw [s_gmN]
    try simp only [s_mVar0, s_mVarS, s_mVarO0, s_mVarOS, s_isObj_lst, s_isObj_dic, s_mC, s_mOp, s_mOp1, s_mB, s_mNil, s_mCons, s_mTup, s_mLst, s_mCall, s_mTB, s_mNot, s_mAnd, s_mOr, s_mAndV, s_mOrV, s_mIf, s_mYes, s_mSl, s_mNo, s_mPart, s_mLc, s_mItems, s_mRng1, s_mRng2, s_mEnum, s_mChain, s_seqT, s_seqL, s_sNext, s_sSeq, s_sIf, s_sSet, s_sRet, s_sRetN, s_sBreak, s_sCont, s_sDrop, s_sPar, s_setN0, s_setNS, s_sAsg, s_sApp, s_sAug, s_sFor, s_sSrc, s_gmN, s_gmT, s_gmCons, s_gmNil, s_wipe0, s_wipeS, s_oSub, s_oAddI, s_oAdd, s_oLt, s_oLe, s_oGt, s_oGe, s_oNeg, s_oNot, s_oMul, s_oMulW, s_oMod, s_oFdiv, s_oPow, s_oIsN, s_oNotN, s_oIsB, s_oNotB, s_isNon_int, s_isNon_non, s_isNon_bl, s_isNon_str, s_isNon_tup, s_isNon_lst, s_isNon_dic, s_oEqI, s_oNeI, s_oIxT, s_oIxL, s_oSlT, s_oSlL, s_oRevT, s_oRevL, s_oInt, s_oIntB, s_oAbs, s_oMax2, s_oMin2, s_oLen, s_plenT, s_plenL, s_plenD, s_plenS, s_oTupleL, s_oTupleT, s_oListL, s_oListT, List.set_cons_succ, List.set_cons_zero, List.append_nil, true_and, x_bl, x_int, x_some, x_addT, x_addL, x_true, x_false]
    refine ⟨_, sz_row hfl, _, rfl, ?_⟩
    rw [enumP_map, row1_len]
    refine comp_emb (xs := List.range (lots.length - first)) (tst := fun t => decide (cnt lots first (first + t) < prices.length)) (f := fun t => .int ((first : Int) + (t : Int))) (fun t ht => ⟨[some .src, some (.lst ((List.range lots.length).map fun i => lI (row1 lots i (lots.length - i)))), some (tI prices), some (.int x), some (.lst (rows.map rP)), some (.int (first : Int)), y6, y7, some (.int (t : Int)), some (.int (cnt lots first (first + t) : Int))], fun k hk => ?_, fun Q hQ => ?_, fun _ Q hQ => ?_⟩) (by rw [List.length_nil, List.length_range]; exact line (by omega)) ?_
    · rw [List.mem_range] at ht
      have e : ((row1 lots first (lots.length - first)).map PV.int).getD t .non = .int (cnt lots first (first + t) : Int) := by
        unfold row1; rw [List.getD_eq_getElem?_getD, List.getElem?_map, List.getElem?_map, List.getElem?_range ht]; rfl
      rw [e]
      exact s_gmT.mpr ⟨rfl, s_gmCons.mpr (s_gmN.mpr (s_gmCons.mpr (s_gmN.mpr (s_gmNil.mpr hk))))⟩
    · try simp only [s_mVar0, s_mVarS, s_mVarO0, s_mVarOS, s_isObj_lst, s_isObj_dic, s_mC, s_mOp, s_mOp1, s_mB, s_mNil, s_mCons, s_mTup, s_mLst, s_mCall, s_mTB, s_mNot, s_mAnd, s_mOr, s_mAndV, s_mOrV, s_mIf, s_mYes, s_mSl, s_mNo, s_mPart, s_mLc, s_mItems, s_mRng1, s_mRng2, s_mEnum, s_mChain, s_seqT, s_seqL, s_sNext, s_sSeq, s_sIf, s_sSet, s_sRet, s_sRetN, s_sBreak, s_sCont, s_sDrop, s_sPar, s_setN0, s_setNS, s_sAsg, s_sApp, s_sAug, s_sFor, s_sSrc, s_gmN, s_gmT, s_gmCons, s_gmNil, s_wipe0, s_wipeS, s_oSub, s_oAddI, s_oAdd, s_oLt, s_oLe, s_oGt, s_oGe, s_oNeg, s_oNot, s_oMul, s_oMulW, s_oMod, s_oFdiv, s_oPow, s_oIsN, s_oNotN, s_oIsB, s_oNotB, s_isNon_int, s_isNon_non, s_isNon_bl, s_isNon_str, s_isNon_tup, s_isNon_lst, s_isNon_dic, s_oEqI, s_oNeI, s_oIxT, s_oIxL, s_oSlT, s_oSlL, s_oRevT, s_oRevL, s_oInt, s_oIntB, s_oAbs, s_oMax2, s_oMin2, s_oLen, s_plenT, s_plenL, s_plenD, s_plenS, s_oTupleL, s_oTupleT, s_oListL, s_oListT, List.set_cons_succ, List.set_cons_zero, List.append_nil, true_and, x_bl, x_int, x_some, x_addT, x_addL, x_true, x_false]
      rw [List.length_map]
      have e : decide ((cnt lots first (first + t) : Int) < (prices.length : Int)) = decide (cnt lots first (first + t) < prices.length) := decide_eq_decide.mpr (by omega)
      rw [e]
      exact hQ
    · try simp only [s_mVar0, s_mVarS, s_mVarO0, s_mVarOS, s_isObj_lst, s_isObj_dic, s_mC, s_mOp, s_mOp1, s_mB, s_mNil, s_mCons, s_mTup, s_mLst, s_mCall, s_mTB, s_mNot, s_mAnd, s_mOr, s_mAndV, s_mOrV, s_mIf, s_mYes, s_mSl, s_mNo, s_mPart, s_mLc, s_mItems, s_mRng1, s_mRng2, s_mEnum, s_mChain, s_seqT, s_seqL, s_sNext, s_sSeq, s_sIf, s_sSet, s_sRet, s_sRetN, s_sBreak, s_sCont, s_sDrop, s_sPar, s_setN0, s_setNS, s_sAsg, s_sApp, s_sAug, s_sFor, s_sSrc, s_gmN, s_gmT, s_gmCons, s_gmNil, s_wipe0, s_wipeS, s_oSub, s_oAddI, s_oAdd, s_oLt, s_oLe, s_oGt, s_oGe, s_oNeg, s_oNot, s_oMul, s_oMulW, s_oMod, s_oFdiv, s_oPow, s_oIsN, s_oNotN, s_oIsB, s_oNotB, s_isNon_int, s_isNon_non, s_isNon_bl, s_isNon_str, s_isNon_tup, s_isNon_lst, s_isNon_dic, s_oEqI, s_oNeI, s_oIxT, s_oIxL, s_oSlT, s_oSlL, s_oRevT, s_oRevL, s_oInt, s_oIntB, s_oAbs, s_oMax2, s_oMin2, s_oLen, s_plenT, s_plenL, s_plenD, s_plenS, s_oTupleL, s_oTupleT, s_oListL, s_oListT, List.set_cons_succ, List.set_cons_zero, List.append_nil, true_and, x_bl, x_int, x_some, x_addT, x_addL, x_true, x_false]
      exact hQ
    rw [List.nil_append]
    obtain ⟨us, hus, hmem⟩ : ∃ us : List Nat, (List.range (lots.length - first)).filter (fun t => decide (cnt lots first (first + t) < prices.length)) = us ∧ ∀ u, u ∈ us ↔ u < lots.length - first ∧ cnt lots first (first + u) < prices.length := ⟨_, rfl, fun u => by simp⟩
    have hul : us.length ≤ 100 := by
      rw [← hus]
      have := List.length_filter_le (fun t => decide (cnt lots first (first + t) < prices.length)) (List.range (lots.length - first))
      rw [List.length_range] at this
      omega
    rw [hus]
    try simp only [s_mVar0, s_mVarS, s_mVarO0, s_mVarOS, s_isObj_lst, s_isObj_dic, s_mC, s_mOp, s_mOp1, s_mB, s_mNil, s_mCons, s_mTup, s_mLst, s_mCall, s_mTB, s_mNot, s_mAnd, s_mOr, s_mAndV, s_mOrV, s_mIf, s_mYes, s_mSl, s_mNo, s_mPart, s_mLc, s_mItems, s_mRng1, s_mRng2, s_mEnum, s_mChain, s_seqT, s_seqL, s_sNext, s_sSeq, s_sIf, s_sSet, s_sRet, s_sRetN, s_sBreak, s_sCont, s_sDrop, s_sPar, s_setN0, s_setNS, s_sAsg, s_sApp, s_sAug, s_sFor, s_sSrc, s_gmN, s_gmT, s_gmCons, s_gmNil, s_wipe0, s_wipeS, s_oSub, s_oAddI, s_oAdd, s_oLt, s_oLe, s_oGt, s_oGe, s_oNeg, s_oNot, s_oMul, s_oMulW, s_oMod, s_oFdiv, s_oPow, s_oIsN, s_oNotN, s_oIsB, s_oNotB, s_isNon_int, s_isNon_non, s_isNon_bl, s_isNon_str, s_isNon_tup, s_isNon_lst, s_isNon_dic, s_oEqI, s_oNeI, s_oIxT, s_oIxL, s_oSlT, s_oSlL, s_oRevT, s_oRevL, s_oInt, s_oIntB, s_oAbs, s_oMax2, s_oMin2, s_oLen, s_plenT, s_plenL, s_plenD, s_plenS, s_oTupleL, s_oTupleT, s_oListL, s_oListT, List.set_cons_succ, List.set_cons_zero, List.append_nil, true_and, x_bl, x_int, x_some, x_addT, x_addL, x_true, x_false]
    refine ⟨Nat.zero_le _, oEq_nil (f := fun t : Nat => .int ((first : Int) + (t : Int))) (n := 0) (fun _ => rfl) (fun _ => ⟨rfl, Nat.le_refl _⟩) (by decide) ⟨_, rfl, ?_⟩⟩
    by_cases he : us = []
    · subst he
      exact ite_t rfl hn
    · have hb : us.isEmpty = false := by cases us with
        | nil => exact absurd rfl he
        | cons _ _ => rfl
      refine ite_f (by rw [hb]; decide) ⟨_, rfl, by rw [List.length_map]; exact List.length_pos_iff.mpr he, by rw [List.length_map]; omega, fun z hz => ?_⟩
      obtain ⟨t, ht, rfl⟩ := List.mem_map.mp hz
      obtain ⟨ht1, ht2⟩ := (hmem t).mp ht
      try simp only [s_mVar0, s_mVarS, s_mVarO0, s_mVarOS, s_isObj_lst, s_isObj_dic, s_mC, s_mOp, s_mOp1, s_mB, s_mNil, s_mCons, s_mTup, s_mLst, s_mCall, s_mTB, s_mNot, s_mAnd, s_mOr, s_mAndV, s_mOrV, s_mIf, s_mYes, s_mSl, s_mNo, s_mPart, s_mLc, s_mItems, s_mRng1, s_mRng2, s_mEnum, s_mChain, s_seqT, s_seqL, s_sNext, s_sSeq, s_sIf, s_sSet, s_sRet, s_sRetN, s_sBreak, s_sCont, s_sDrop, s_sPar, s_setN0, s_setNS, s_sAsg, s_sApp, s_sAug, s_sFor, s_sSrc, s_gmN, s_gmT, s_gmCons, s_gmNil, s_wipe0, s_wipeS, s_oSub, s_oAddI, s_oAdd, s_oLt, s_oLe, s_oGt, s_oGe, s_oNeg, s_oNot, s_oMul, s_oMulW, s_oMod, s_oFdiv, s_oPow, s_oIsN, s_oNotN, s_oIsB, s_oNotB, s_isNon_int, s_isNon_non, s_isNon_bl, s_isNon_str, s_isNon_tup, s_isNon_lst, s_isNon_dic, s_oEqI, s_oNeI, s_oIxT, s_oIxL, s_oSlT, s_oSlL, s_oRevT, s_oRevL, s_oInt, s_oIntB, s_oAbs, s_oMax2, s_oMin2, s_oLen, s_plenT, s_plenL, s_plenD, s_plenS, s_oTupleL, s_oTupleT, s_oListL, s_oListT, List.set_cons_succ, List.set_cons_zero, List.append_nil, true_and, x_bl, x_int, x_some, x_addT, x_addL, x_true, x_false]
      rw [show (first : Int) + t - first = (t : Int) by omega, List.length_map, List.length_map, List.length_range]
      refine ⟨_, rfl, _, sz_row hfl, _, sz_at ht1, _, sz_row hfl, _, sz_at ht1, ?_⟩
      try simp only [s_mVar0, s_mVarS, s_mVarO0, s_mVarOS, s_isObj_lst, s_isObj_dic, s_mC, s_mOp, s_mOp1, s_mB, s_mNil, s_mCons, s_mTup, s_mLst, s_mCall, s_mTB, s_mNot, s_mAnd, s_mOr, s_mAndV, s_mOrV, s_mIf, s_mYes, s_mSl, s_mNo, s_mPart, s_mLc, s_mItems, s_mRng1, s_mRng2, s_mEnum, s_mChain, s_seqT, s_seqL, s_sNext, s_sSeq, s_sIf, s_sSet, s_sRet, s_sRetN, s_sBreak, s_sCont, s_sDrop, s_sPar, s_setN0, s_setNS, s_sAsg, s_sApp, s_sAug, s_sFor, s_sSrc, s_gmN, s_gmT, s_gmCons, s_gmNil, s_wipe0, s_wipeS, s_oSub, s_oAddI, s_oAdd, s_oLt, s_oLe, s_oGt, s_oGe, s_oNeg, s_oNot, s_oMul, s_oMulW, s_oMod, s_oFdiv, s_oPow, s_oIsN, s_oNotN, s_oIsB, s_oNotB, s_isNon_int, s_isNon_non, s_isNon_bl, s_isNon_str, s_isNon_tup, s_isNon_lst, s_isNon_dic, s_oEqI, s_oNeI, s_oIxT, s_oIxL, s_oSlT, s_oSlL, s_oRevT, s_oRevL, s_oInt, s_oIntB, s_oAbs, s_oMax2, s_oMin2, s_oLen, s_plenT, s_plenL, s_plenD, s_plenS, s_oTupleL, s_oTupleT, s_oListL, s_oListT, List.set_cons_succ, List.set_cons_zero, List.append_nil, true_and, x_bl, x_int, x_some, x_addT, x_addL, x_true, x_false]
      refine ⟨_, rfl, by omega, by omega, fun r r0 r1 => ?_⟩
      try simp only [s_mVar0, s_mVarS, s_mVarO0, s_mVarOS, s_isObj_lst, s_isObj_dic, s_mC, s_mOp, s_mOp1, s_mB, s_mNil, s_mCons, s_mTup, s_mLst, s_mCall, s_mTB, s_mNot, s_mAnd, s_mOr, s_mAndV, s_mOrV, s_mIf, s_mYes, s_mSl, s_mNo, s_mPart, s_mLc, s_mItems, s_mRng1, s_mRng2, s_mEnum, s_mChain, s_seqT, s_seqL, s_sNext, s_sSeq, s_sIf, s_sSet, s_sRet, s_sRetN, s_sBreak, s_sCont, s_sDrop, s_sPar, s_setN0, s_setNS, s_sAsg, s_sApp, s_sAug, s_sFor, s_sSrc, s_gmN, s_gmT, s_gmCons, s_gmNil, s_wipe0, s_wipeS, s_oSub, s_oAddI, s_oAdd, s_oLt, s_oLe, s_oGt, s_oGe, s_oNeg, s_oNot, s_oMul, s_oMulW, s_oMod, s_oFdiv, s_oPow, s_oIsN, s_oNotN, s_oIsB, s_oNotB, s_isNon_int, s_isNon_non, s_isNon_bl, s_isNon_str, s_isNon_tup, s_isNon_lst, s_isNon_dic, s_oEqI, s_oNeI, s_oIxT, s_oIxL, s_oSlT, s_oSlL, s_oRevT, s_oRevL, s_oInt, s_oIntB, s_oAbs, s_oMax2, s_oMin2, s_oLen, s_plenT, s_plenL, s_plenD, s_plenS, s_oTupleL, s_oTupleT, s_oListL, s_oListT, List.set_cons_succ, List.set_cons_zero, List.append_nil, true_and, x_bl, x_int, x_some, x_addT, x_addL, x_true, x_false]
      refine ⟨line (by simp), small_line (by rw [List.length_map]; omega), ?_⟩
      have er : (rows.map rP) ++ [PV.tup [PV.int (first : Int), PV.int ((first : Int) + t), PV.int ((cnt lots first (first + t) : Int) + r)]] = (rows ++ [(first, first + t, cnt lots first (first + t) + r.toNat)]).map rP := by
        rw [List.map_append]
        show _ = _ ++ [PV.tup [PV.int (first : Int), PV.int ((first + t : Nat) : Int), PV.int ((cnt lots first (first + t) + r.toNat : Nat) : Int)]]
        rw [show ((first + t : Nat) : Int) = (first : Int) + t by omega, show ((cnt lots first (first + t) + r.toNat : Nat) : Int) = (cnt lots first (first + t) : Int) + r by omega]
      have hc2 : Chain lots prices 0 (rows ++ [(first, first + t, cnt lots first (first + t) + r.toNat)]) (first + t + 1) := chain_snoc (by omega) (by omega) (by omega) hch
      rw [er, show (first : Int) + t + 1 = ((first + t + 1 : Nat) : Int) by omega]
      by_cases hend : first + t + 1 = lots.length
      · refine ite_t (decide_eq_true (by omega)) ?_
        exact h _ (by rw [List.length_append, List.length_singleton]; omega) (hend ▸ hc2)
      · refine ite_f (by rw [decide_eq_false (by omega)]; decide) (hN _ ⟨by omega, _, first + t + 1, _, _, _, by rw [List.length_append, List.length_singleton, hrl], by omega, by omega, hc2, rfl⟩)
  · obtain ⟨hi, rows, first, y3, y6, y7, hrl, hif, hfl, hch, rfl⟩ := hE
    rw [rng_len] at hif
    omega

theorem omin_ge {xs : List Int} {m a : Int} (h : omin xs = some m) (ha : ∀ x ∈ xs, a ≤ x) : a ≤ m := ha m (omin_some.mp h).1
/-- levels as drawn -/
structure Own (lots : List (List Int)) (prices : List Int) (ns : List Int) (k : Nat) : Prop where
  len : ns.length = k + 1
  zero : ns.getD 0 0 = 0
  nat : ∀ x ∈ ns, 0 ≤ x
  le : ∀ b, b < k → ∀ a, a ≤ b → pairB lots prices ns a b = true
theorem getD_left {xs ys : List Int} {i : Nat} (h : i < xs.length) : (xs ++ ys).getD i 0 = xs.getD i 0 := by
  rw [List.getD_eq_getElem?_getD, List.getD_eq_getElem?_getD, List.getElem?_append_left h]
theorem getD_last {xs : List Int} {x : Int} : (xs ++ [x]).getD xs.length 0 = x := by
  rw [List.getD_eq_getElem?_getD, List.getElem?_append_right (Nat.le_refl _), Nat.sub_self]; rfl
theorem Own.snoc {lots : List (List Int)} {prices ns : List Int} {k : Nat} {v : Int} (h : Own lots prices ns k) (hv : 0 ≤ v) (hle : ∀ a, a ≤ k → ∀ p, lp lots prices a k = some p → v ≤ ns.getD a 0 + p) : Own lots prices (ns ++ [v]) (k + 1) := by
  have hl := h.len
  refine ⟨by rw [List.length_append, hl]; rfl, by rw [getD_left (by omega)]; exact h.zero, fun x hx => ?_, fun b hb a ha => ?_⟩
  · rcases List.mem_append.mp hx with z | z
    · exact h.nat x z
    · rw [List.mem_singleton.mp z]; exact hv
  · by_cases e : b = k
    · subst e
      unfold pairB
      cases q : lp lots prices a b with
      | none => rfl
      | some p =>
        have := hle a ha p q
        show decide _ = true
        rw [← hl, getD_last, getD_left (by omega)]
        exact decide_eq_true (by omega)
    · have := h.le b (by omega) a ha
      unfold pairB at this ⊢
      rw [getD_left (by omega), getD_left (by omega)]
      exact this
def sp_l_own_levels : PM.Spec := fun ps P => ∃ (lots : List (List Int)) (prices : List Int), ps = [.src, szP lots, tI prices] ∧ Good lots ∧ prices.length ≤ 100 ∧ (∀ p ∈ prices, 0 ≤ p) ∧ ∀ ns : List Int, Own lots prices ns lots.length → P (tI ns)
theorem h_l_own_levels (ps : List PV) (Q : PV → Prop) (h : sp_l_own_levels ps Q) : t_l_own_levels sp_drw { nx := fun _ => nxOf .cl Q, rt := Q } (startE n_l_own_levels.length ps) := by
  obtain ⟨lots, prices, rfl, hg, hpl, hp0, h⟩ := h
  show t_l_own_levels _ _ [some .src, some (szP lots), some (tI prices), none, none, none, none, none, none]
  unfold t_l_own_levels szP
  try simp only [s_mVar0, s_mVarS, s_mVarO0, s_mVarOS, s_isObj_lst, s_isObj_dic, s_mC, s_mOp, s_mOp1, s_mB, s_mNil, s_mCons, s_mTup, s_mLst, s_mCall, s_mTB, s_mNot, s_mAnd, s_mOr, s_mAndV, s_mOrV, s_mIf, s_mYes, s_mSl, s_mNo, s_mPart, s_mLc, s_mItems, s_mRng1, s_mRng2, s_mEnum, s_mChain, s_seqT, s_seqL, s_sNext, s_sSeq, s_sIf, s_sSet, s_sRet, s_sRetN, s_sBreak, s_sCont, s_sDrop, s_sPar, s_setN0, s_setNS, s_sAsg, s_sApp, s_sAug, s_sFor, s_sSrc, s_gmN, s_gmT, s_gmCons, s_gmNil, s_wipe0, s_wipeS, s_oSub, s_oAddI, s_oAdd, s_oLt, s_oLe, s_oGt, s_oGe, s_oNeg, s_oNot, s_oMul, s_oMulW, s_oMod, s_oFdiv, s_oPow, s_oIsN, s_oNotN, s_oIsB, s_oNotB, s_isNon_int, s_isNon_non, s_isNon_bl, s_isNon_str, s_isNon_tup, s_isNon_lst, s_isNon_dic, s_oEqI, s_oNeI, s_oIxT, s_oIxL, s_oSlT, s_oSlL, s_oRevT, s_oRevL, s_oInt, s_oIntB, s_oAbs, s_oMax2, s_oMin2, s_oLen, s_plenT, s_plenL, s_plenD, s_plenS, s_oTupleL, s_oTupleT, s_oListL, s_oListT, List.set_cons_succ, List.set_cons_zero, List.append_nil, true_and, x_bl, x_int, x_some, x_addT, x_addL, x_true, x_false]
  have hs := hg.small
  rw [List.length_map, List.length_range, Int.toNat_natCast, rngP_rng]
  refine ⟨by simp; exact line (by omega), by omega, ?_⟩
  refine for_inv (fun i e => i ≤ lots.length ∧ ∃ (ns : List Int) (y4 y5 y6 y7 y8 : Option PV), Own lots prices ns i ∧ e = [some .src, some (.lst ((List.range lots.length).map fun i => lI (row1 lots i (lots.length - i)))), some (tI prices), some (lI ns), y4, y5, y6, y7, y8]) ⟨Nat.zero_le _, [0], none, none, none, none, none, ⟨rfl, rfl, fun x hx => by rw [List.mem_singleton.mp hx]; decide, fun b hb => absurd hb (Nat.not_lt_zero _)⟩, rfl⟩ (fun i x e N hx hE hN => ?_) (fun e hE => ?_)
  · obtain ⟨hi, ns, y4, y5, y6, y7, y8, ho, rfl⟩ := hE
    obtain ⟨hx0, hx1⟩ : x = (i : Int) ∧ i < lots.length := by
      have hl := (List.getElem?_eq_some_iff.mp hx).1
      rw [rng_len] at hl
      rw [rng_get hl] at hx
      exact ⟨(Option.some.inj hx).symm, hl⟩
    subst hx0
    rw [s_gmN]
    try simp only [s_mVar0, s_mVarS, s_mVarO0, s_mVarOS, s_isObj_lst, s_isObj_dic, s_mC, s_mOp, s_mOp1, s_mB, s_mNil, s_mCons, s_mTup, s_mLst, s_mCall, s_mTB, s_mNot, s_mAnd, s_mOr, s_mAndV, s_mOrV, s_mIf, s_mYes, s_mSl, s_mNo, s_mPart, s_mLc, s_mItems, s_mRng1, s_mRng2, s_mEnum, s_mChain, s_seqT, s_seqL, s_sNext, s_sSeq, s_sIf, s_sSet, s_sRet, s_sRetN, s_sBreak, s_sCont, s_sDrop, s_sPar, s_setN0, s_setNS, s_sAsg, s_sApp, s_sAug, s_sFor, s_sSrc, s_gmN, s_gmT, s_gmCons, s_gmNil, s_wipe0, s_wipeS, s_oSub, s_oAddI, s_oAdd, s_oLt, s_oLe, s_oGt, s_oGe, s_oNeg, s_oNot, s_oMul, s_oMulW, s_oMod, s_oFdiv, s_oPow, s_oIsN, s_oNotN, s_oIsB, s_oNotB, s_isNon_int, s_isNon_non, s_isNon_bl, s_isNon_str, s_isNon_tup, s_isNon_lst, s_isNon_dic, s_oEqI, s_oNeI, s_oIxT, s_oIxL, s_oSlT, s_oSlL, s_oRevT, s_oRevL, s_oInt, s_oIntB, s_oAbs, s_oMax2, s_oMin2, s_oLen, s_plenT, s_plenL, s_plenD, s_plenS, s_oTupleL, s_oTupleT, s_oListL, s_oListT, List.set_cons_succ, List.set_cons_zero, List.append_nil, true_and, x_bl, x_int, x_some, x_addT, x_addL, x_true, x_false]
    refine ⟨line (by simp), by omega, ?_⟩
    rw [show ((i : Int) + 1).toNat = i + 1 by omega, rngP_rng]
    refine for_inv (fun a e => a ≤ i + 1 ∧ ∃ (ts : List Int) (y6 y8 : Option PV), ts.length ≤ a + 1 ∧ 0 < ts.length ∧ 40 ∈ ts ∧ (∀ x ∈ ts, 0 ≤ x) ∧ (∀ a', a' < a → ∀ p, lp lots prices a' i = some p → ns.getD a' 0 + p ∈ ts) ∧ e = [some .src, some (.lst ((List.range lots.length).map fun i => lI (row1 lots i (lots.length - i)))), some (tI prices), some (lI ns), some (.int (i : Int)), some (lI ts), y6, y7, y8]) ⟨Nat.zero_le _, [40], y6, y8, by decide, by decide, List.mem_singleton.mpr rfl, fun x hx => by rw [List.mem_singleton.mp hx]; decide, fun _ z => absurd z (Nat.not_lt_zero _), rfl⟩ (fun a x e N2 hx2 hE2 hN2 => ?_) (fun e hE2 => ?_)
    · obtain ⟨ha, ts, y6, y8, htl, ht0, ht40, htn, htm, rfl⟩ := hE2
      obtain ⟨hx3, ha1⟩ : x = (a : Int) ∧ a < i + 1 := by
        have hl := (List.getElem?_eq_some_iff.mp hx2).1
        rw [rng_len] at hl
        rw [rng_get hl] at hx2
        exact ⟨(Option.some.inj hx2).symm, hl⟩
      subst hx3
      rw [s_gmN]
      try simp only [s_mVar0, s_mVarS, s_mVarO0, s_mVarOS, s_isObj_lst, s_isObj_dic, s_mC, s_mOp, s_mOp1, s_mB, s_mNil, s_mCons, s_mTup, s_mLst, s_mCall, s_mTB, s_mNot, s_mAnd, s_mOr, s_mAndV, s_mOrV, s_mIf, s_mYes, s_mSl, s_mNo, s_mPart, s_mLc, s_mItems, s_mRng1, s_mRng2, s_mEnum, s_mChain, s_seqT, s_seqL, s_sNext, s_sSeq, s_sIf, s_sSet, s_sRet, s_sRetN, s_sBreak, s_sCont, s_sDrop, s_sPar, s_setN0, s_setNS, s_sAsg, s_sApp, s_sAug, s_sFor, s_sSrc, s_gmN, s_gmT, s_gmCons, s_gmNil, s_wipe0, s_wipeS, s_oSub, s_oAddI, s_oAdd, s_oLt, s_oLe, s_oGt, s_oGe, s_oNeg, s_oNot, s_oMul, s_oMulW, s_oMod, s_oFdiv, s_oPow, s_oIsN, s_oNotN, s_oIsB, s_oNotB, s_isNon_int, s_isNon_non, s_isNon_bl, s_isNon_str, s_isNon_tup, s_isNon_lst, s_isNon_dic, s_oEqI, s_oNeI, s_oIxT, s_oIxL, s_oSlT, s_oSlL, s_oRevT, s_oRevL, s_oInt, s_oIntB, s_oAbs, s_oMax2, s_oMin2, s_oLen, s_plenT, s_plenL, s_plenD, s_plenS, s_oTupleL, s_oTupleT, s_oListL, s_oListT, List.set_cons_succ, List.set_cons_zero, List.append_nil, true_and, x_bl, x_int, x_some, x_addT, x_addL, x_true, x_false]
      rw [show (i : Int) - a = ((i - a : Nat) : Int) by omega]
      refine ⟨_, sz_row (by omega), _, sz_at (by omega), ?_⟩
      try simp only [s_mVar0, s_mVarS, s_mVarO0, s_mVarOS, s_isObj_lst, s_isObj_dic, s_mC, s_mOp, s_mOp1, s_mB, s_mNil, s_mCons, s_mTup, s_mLst, s_mCall, s_mTB, s_mNot, s_mAnd, s_mOr, s_mAndV, s_mOrV, s_mIf, s_mYes, s_mSl, s_mNo, s_mPart, s_mLc, s_mItems, s_mRng1, s_mRng2, s_mEnum, s_mChain, s_seqT, s_seqL, s_sNext, s_sSeq, s_sIf, s_sSet, s_sRet, s_sRetN, s_sBreak, s_sCont, s_sDrop, s_sPar, s_setN0, s_setNS, s_sAsg, s_sApp, s_sAug, s_sFor, s_sSrc, s_gmN, s_gmT, s_gmCons, s_gmNil, s_wipe0, s_wipeS, s_oSub, s_oAddI, s_oAdd, s_oLt, s_oLe, s_oGt, s_oGe, s_oNeg, s_oNot, s_oMul, s_oMulW, s_oMod, s_oFdiv, s_oPow, s_oIsN, s_oNotN, s_oIsB, s_oNotB, s_isNon_int, s_isNon_non, s_isNon_bl, s_isNon_str, s_isNon_tup, s_isNon_lst, s_isNon_dic, s_oEqI, s_oNeI, s_oIxT, s_oIxL, s_oSlT, s_oSlL, s_oRevT, s_oRevL, s_oInt, s_oIntB, s_oAbs, s_oMax2, s_oMin2, s_oLen, s_plenT, s_plenL, s_plenD, s_plenS, s_oTupleL, s_oTupleT, s_oListL, s_oListT, List.set_cons_succ, List.set_cons_zero, List.append_nil, true_and, x_bl, x_int, x_some, x_addT, x_addL, x_true, x_false]
      rw [List.length_map, show a + (i - a) = i by omega]
      by_cases hc : cnt lots a i < prices.length
      · have g2 : atI (ns.map PV.int) (a : Int) = some (.int (ns.getD a 0)) := by
          have := ho.len
          rw [atI_map, atI_pos (by omega), List.getElem?_eq_getElem (by omega), List.getD_eq_getElem?_getD, List.getElem?_eq_getElem (by omega)]
          rfl
        refine ite_t (decide_eq_true (by omega)) ⟨_, rfl, _, g2, ?_⟩
        rw [cutP_map, drop_cut]
        refine oBest_ints rfl (by rw [List.length_drop]; omega) fun m hm => ?_
        try simp only [s_mVar0, s_mVarS, s_mVarO0, s_mVarOS, s_isObj_lst, s_isObj_dic, s_mC, s_mOp, s_mOp1, s_mB, s_mNil, s_mCons, s_mTup, s_mLst, s_mCall, s_mTB, s_mNot, s_mAnd, s_mOr, s_mAndV, s_mOrV, s_mIf, s_mYes, s_mSl, s_mNo, s_mPart, s_mLc, s_mItems, s_mRng1, s_mRng2, s_mEnum, s_mChain, s_seqT, s_seqL, s_sNext, s_sSeq, s_sIf, s_sSet, s_sRet, s_sRetN, s_sBreak, s_sCont, s_sDrop, s_sPar, s_setN0, s_setNS, s_sAsg, s_sApp, s_sAug, s_sFor, s_sSrc, s_gmN, s_gmT, s_gmCons, s_gmNil, s_wipe0, s_wipeS, s_oSub, s_oAddI, s_oAdd, s_oLt, s_oLe, s_oGt, s_oGe, s_oNeg, s_oNot, s_oMul, s_oMulW, s_oMod, s_oFdiv, s_oPow, s_oIsN, s_oNotN, s_oIsB, s_oNotB, s_isNon_int, s_isNon_non, s_isNon_bl, s_isNon_str, s_isNon_tup, s_isNon_lst, s_isNon_dic, s_oEqI, s_oNeI, s_oIxT, s_oIxL, s_oSlT, s_oSlL, s_oRevT, s_oRevL, s_oInt, s_oIntB, s_oAbs, s_oMax2, s_oMin2, s_oLen, s_plenT, s_plenL, s_plenD, s_plenS, s_oTupleL, s_oTupleT, s_oListL, s_oListT, List.set_cons_succ, List.set_cons_zero, List.append_nil, true_and, x_bl, x_int, x_some, x_addT, x_addL, x_true, x_false]
        refine ⟨small_line (by rw [List.length_map]; omega), hN2 _ ⟨by omega, ts ++ [ns.getD a 0 + m], some (.int (a : Int)), some (.int (cnt lots a i : Int)), by rw [List.length_append, List.length_singleton]; omega, by rw [List.length_append]; omega, List.mem_append_left _ ht40, fun x hx => ?_, fun a' ha' p hp => ?_, ?_⟩⟩
        · rcases List.mem_append.mp hx with z | z
          · exact htn x z
          · rw [List.mem_singleton.mp z]
            have h1 : 0 ≤ m := omin_ge hm fun x hx => hp0 x (List.mem_of_mem_drop hx)
            have h2 : 0 ≤ ns.getD a 0 := by
              rw [List.getD_eq_getElem?_getD, List.getElem?_eq_getElem (by have := ho.len; omega)]
              exact ho.nat _ (List.getElem_mem _)
            omega
        · by_cases z : a' = a
          · subst z
            have hp : omin (prices.drop (cnt lots a' i)) = some p := hp
            rw [hm] at hp
            cases hp
            exact List.mem_append_right _ (List.mem_singleton.mpr rfl)
          · exact List.mem_append_left _ (htm a' (by omega) p hp)
        · simp only [lI, List.map_append]; rfl
      · refine ite_f (by rw [decide_eq_false (by omega)]; decide) (hN2 _ ⟨by omega, ts, _, _, by omega, ht0, ht40, htn, fun a' ha' p hp => ?_, rfl⟩)
        by_cases z : a' = a
        · subst z
          rw [lp_none.mpr (by omega)] at hp; cases hp
        · exact htm a' (by omega) p hp
    · obtain ⟨ha, ts, y6, y8, htl, ht0, ht40, htn, htm, rfl⟩ := hE2
      rw [rng_len] at htl htm
      try simp only [s_mVar0, s_mVarS, s_mVarO0, s_mVarOS, s_isObj_lst, s_isObj_dic, s_mC, s_mOp, s_mOp1, s_mB, s_mNil, s_mCons, s_mTup, s_mLst, s_mCall, s_mTB, s_mNot, s_mAnd, s_mOr, s_mAndV, s_mOrV, s_mIf, s_mYes, s_mSl, s_mNo, s_mPart, s_mLc, s_mItems, s_mRng1, s_mRng2, s_mEnum, s_mChain, s_seqT, s_seqL, s_sNext, s_sSeq, s_sIf, s_sSet, s_sRet, s_sRetN, s_sBreak, s_sCont, s_sDrop, s_sPar, s_setN0, s_setNS, s_sAsg, s_sApp, s_sAug, s_sFor, s_sSrc, s_gmN, s_gmT, s_gmCons, s_gmNil, s_wipe0, s_wipeS, s_oSub, s_oAddI, s_oAdd, s_oLt, s_oLe, s_oGt, s_oGe, s_oNeg, s_oNot, s_oMul, s_oMulW, s_oMod, s_oFdiv, s_oPow, s_oIsN, s_oNotN, s_oIsB, s_oNotB, s_isNon_int, s_isNon_non, s_isNon_bl, s_isNon_str, s_isNon_tup, s_isNon_lst, s_isNon_dic, s_oEqI, s_oNeI, s_oIxT, s_oIxL, s_oSlT, s_oSlL, s_oRevT, s_oRevL, s_oInt, s_oIntB, s_oAbs, s_oMax2, s_oMin2, s_oLen, s_plenT, s_plenL, s_plenD, s_plenS, s_oTupleL, s_oTupleT, s_oListL, s_oListT, List.set_cons_succ, List.set_cons_zero, List.append_nil, true_and, x_bl, x_int, x_some, x_addT, x_addL, x_true, x_false]
      refine oBest_ints rfl ht0 fun m hm => ?_
      have hm0 : 0 ≤ m := omin_ge hm htn
      have hm40 : m ≤ 40 := (omin_some.mp hm).2 40 ht40
      have hm1 : ∀ a, a ≤ i → ∀ p, lp lots prices a i = some p → m ≤ ns.getD a 0 + p := fun a ha p hp => (omin_some.mp hm).2 _ (htm a (by omega) p hp)
      have fin : ∀ v : Int, 0 ≤ v → v ≤ m → N [some .src, some (.lst ((List.range lots.length).map fun i => lI (row1 lots i (lots.length - i)))), some (tI prices), some (lI (ns ++ [v])), some (.int (i : Int)), some (lI ts), y6, some (.int m), y8] := fun v v0 vm => hN _ ⟨by omega, ns ++ [v], _, _, _, _, _, ho.snoc v0 fun a ha p hp => by have := hm1 a ha p hp; omega, rfl⟩
      try simp only [s_mVar0, s_mVarS, s_mVarO0, s_mVarOS, s_isObj_lst, s_isObj_dic, s_mC, s_mOp, s_mOp1, s_mB, s_mNil, s_mCons, s_mTup, s_mLst, s_mCall, s_mTB, s_mNot, s_mAnd, s_mOr, s_mAndV, s_mOrV, s_mIf, s_mYes, s_mSl, s_mNo, s_mPart, s_mLc, s_mItems, s_mRng1, s_mRng2, s_mEnum, s_mChain, s_seqT, s_seqL, s_sNext, s_sSeq, s_sIf, s_sSet, s_sRet, s_sRetN, s_sBreak, s_sCont, s_sDrop, s_sPar, s_setN0, s_setNS, s_sAsg, s_sApp, s_sAug, s_sFor, s_sSrc, s_gmN, s_gmT, s_gmCons, s_gmNil, s_wipe0, s_wipeS, s_oSub, s_oAddI, s_oAdd, s_oLt, s_oLe, s_oGt, s_oGe, s_oNeg, s_oNot, s_oMul, s_oMulW, s_oMod, s_oFdiv, s_oPow, s_oIsN, s_oNotN, s_oIsB, s_oNotB, s_isNon_int, s_isNon_non, s_isNon_bl, s_isNon_str, s_isNon_tup, s_isNon_lst, s_isNon_dic, s_oEqI, s_oNeI, s_oIxT, s_oIxL, s_oSlT, s_oSlL, s_oRevT, s_oRevL, s_oInt, s_oIntB, s_oAbs, s_oMax2, s_oMin2, s_oLen, s_plenT, s_plenL, s_plenD, s_plenS, s_oTupleL, s_oTupleT, s_oListL, s_oListT, List.set_cons_succ, List.set_cons_zero, List.append_nil, true_and, x_bl, x_int, x_some, x_addT, x_addL, x_true, x_false]
      refine ⟨_, rfl, 2, rfl, by decide, by decide, fun r r0 r1 => ?_⟩
      try simp only [s_mVar0, s_mVarS, s_mVarO0, s_mVarOS, s_isObj_lst, s_isObj_dic, s_mC, s_mOp, s_mOp1, s_mB, s_mNil, s_mCons, s_mTup, s_mLst, s_mCall, s_mTB, s_mNot, s_mAnd, s_mOr, s_mAndV, s_mOrV, s_mIf, s_mYes, s_mSl, s_mNo, s_mPart, s_mLc, s_mItems, s_mRng1, s_mRng2, s_mEnum, s_mChain, s_seqT, s_seqL, s_sNext, s_sSeq, s_sIf, s_sSet, s_sRet, s_sRetN, s_sBreak, s_sCont, s_sDrop, s_sPar, s_setN0, s_setNS, s_sAsg, s_sApp, s_sAug, s_sFor, s_sSrc, s_gmN, s_gmT, s_gmCons, s_gmNil, s_wipe0, s_wipeS, s_oSub, s_oAddI, s_oAdd, s_oLt, s_oLe, s_oGt, s_oGe, s_oNeg, s_oNot, s_oMul, s_oMulW, s_oMod, s_oFdiv, s_oPow, s_oIsN, s_oNotN, s_oIsB, s_oNotB, s_isNon_int, s_isNon_non, s_isNon_bl, s_isNon_str, s_isNon_tup, s_isNon_lst, s_isNon_dic, s_oEqI, s_oNeI, s_oIxT, s_oIxL, s_oSlT, s_oSlL, s_oRevT, s_oRevL, s_oInt, s_oIntB, s_oAbs, s_oMax2, s_oMin2, s_oLen, s_plenT, s_plenL, s_plenD, s_plenS, s_oTupleL, s_oTupleT, s_oListL, s_oListT, List.set_cons_succ, List.set_cons_zero, List.append_nil, true_and, x_bl, x_int, x_some, x_addT, x_addL, x_true, x_false]
      have hll : (ns.map PV.int).length < sizeLine := small_line (by have := ho.len; rw [List.length_map]; omega)
      by_cases hr : r = 0
      · refine ite_t (decide_eq_true hr) ⟨hll, ?_⟩
        have := fin m hm0 (Int.le_refl _)
        unfold lI at this
        rw [List.map_append] at this
        exact this
      · refine ite_f (by rw [decide_eq_false hr]; decide) ⟨_, rfl, by omega, by omega, fun v v0 v1 => ⟨hll, ?_⟩⟩
        have := fin v v0 (by omega)
        unfold lI at this
        rw [List.map_append] at this
        exact this
  · obtain ⟨hi, ns, y4, y5, y6, y7, y8, ho, rfl⟩ := hE
    rw [rng_len] at ho
    try simp only [s_mVar0, s_mVarS, s_mVarO0, s_mVarOS, s_isObj_lst, s_isObj_dic, s_mC, s_mOp, s_mOp1, s_mB, s_mNil, s_mCons, s_mTup, s_mLst, s_mCall, s_mTB, s_mNot, s_mAnd, s_mOr, s_mAndV, s_mOrV, s_mIf, s_mYes, s_mSl, s_mNo, s_mPart, s_mLc, s_mItems, s_mRng1, s_mRng2, s_mEnum, s_mChain, s_seqT, s_seqL, s_sNext, s_sSeq, s_sIf, s_sSet, s_sRet, s_sRetN, s_sBreak, s_sCont, s_sDrop, s_sPar, s_setN0, s_setNS, s_sAsg, s_sApp, s_sAug, s_sFor, s_sSrc, s_gmN, s_gmT, s_gmCons, s_gmNil, s_wipe0, s_wipeS, s_oSub, s_oAddI, s_oAdd, s_oLt, s_oLe, s_oGt, s_oGe, s_oNeg, s_oNot, s_oMul, s_oMulW, s_oMod, s_oFdiv, s_oPow, s_oIsN, s_oNotN, s_oIsB, s_oNotB, s_isNon_int, s_isNon_non, s_isNon_bl, s_isNon_str, s_isNon_tup, s_isNon_lst, s_isNon_dic, s_oEqI, s_oNeI, s_oIxT, s_oIxL, s_oSlT, s_oSlL, s_oRevT, s_oRevL, s_oInt, s_oIntB, s_oAbs, s_oMax2, s_oMin2, s_oLen, s_plenT, s_plenL, s_plenD, s_plenS, s_oTupleL, s_oTupleT, s_oListL, s_oListT, List.set_cons_succ, List.set_cons_zero, List.append_nil, true_and, x_bl, x_int, x_some, x_addT, x_addL, x_true, x_false]
    exact h _ ho
end K46

set_option maxHeartbeats 2000000
namespace K46
open PySem L2 PM
def cellP : Int ⊕ Row → PV
  | .inl i => .int i
  | .inr r => rP r
def cellD : Int ⊕ Row → PyData
  | .inl i => .int i
  | .inr r => .tuple [.int (r.1 : Nat), .int (r.2.1 : Nat), .int (r.2.2 : Nat)]
theorem toD_cell (c : Int ⊕ Row) : toD (cellP c) = some (cellD c) := by cases c <;> rfl
theorem lay_cell (c : Int ⊕ Row) : PyData.canLay0 (cellD c) = true ∧ PyData.depth (cellD c) ≤ 1 := by
  cases c with
  | inl i => exact ⟨rfl, Nat.zero_le _⟩
  | inr r => exact ⟨rfl, Nat.le_refl _⟩
theorem oEqT_nil {α : Type} {emb : α → PV} {f : α → PyData} {n : Nat} {xs : List α} {P : PV → Prop} (h : ∀ x, toD (emb x) = some (f x)) (hs : ∀ x, PyData.canLay0 (f x) = true ∧ PyData.depth (f x) ≤ n) (hn : n < 64) (hp : P (.bl xs.isEmpty)) : oEq (.tup (xs.map emb)) (.tup []) P := by
  refine ⟨.tuple (xs.map f), .tuple [], ?_, by unfold toD toDs; rfl, ?_, rfl, ?_⟩
  · unfold toD; rw [toDs_map h]; rfl
  · exact shaped_map hs hn xs
  · have e : PyData.eqv (.tuple (xs.map f)) (.tuple []) = xs.isEmpty := by cases xs <;> rfl
    rw [e]; exact hp
theorem d2_tup {xs : List PV} (hl : xs.length ≤ 1000) (h : ∀ x ∈ xs, Dt x) : D2 (.tup xs) := ⟨rfl, fun ys e => by cases e; exact ⟨hl, h⟩⟩
theorem dt_tup {xs : List PV} (hl : xs.length ≤ 1000) (h : ∀ x ∈ xs, (pty x).isSome = true) : Dt (.tup xs) := ⟨rfl, fun ys e => by cases e; exact ⟨hl, h⟩⟩
theorem dt_int {i : Int} : Dt (.int i) := ⟨rfl, fun _ e => by cases e⟩
theorem dt_cell (c : Int ⊕ Row) : Dt (cellP c) := by
  cases c with
  | inl i => exact dt_int
  | inr r =>
    refine dt_tup (by simp) fun x hx => ?_
    simp at hx
    rcases hx with rfl | rfl | rfl <;> rfl
theorem mem_cut {xs : List PV} {l u : Option Int} {x : PV} (h : x ∈ cutP xs l u) : x ∈ xs := List.mem_of_mem_drop (List.mem_of_mem_take h)
theorem len_cut {xs : List PV} {l u : Option Int} : (cutP xs l u).length ≤ xs.length := by
  unfold cutP
  rw [List.length_take, List.length_drop]
  omega
def sp_l_bent : PM.Spec := fun ps P => ∃ cs : List (Int ⊕ Row), ps = [.src, .tup (cs.map cellP)] ∧ cs.length ≤ 200 ∧ ∀ v, D2 v → P v
theorem h_l_bent (ps : List PV) (Q : PV → Prop) (h : sp_l_bent ps Q) : t_l_bent sp_pick sp_drw { nx := fun _ => nxOf .cl Q, rt := Q } (startE n_l_bent.length ps) := by
  obtain ⟨cs, rfl, hl, h⟩ := h
  show t_l_bent _ _ _ [some .src, some (.tup (cs.map cellP)), none, none, none, none]
  unfold t_l_bent
  try simp only [s_mVar0, s_mVarS, s_mVarO0, s_mVarOS, s_isObj_lst, s_isObj_dic, s_mC, s_mOp, s_mOp1, s_mB, s_mNil, s_mCons, s_mTup, s_mLst, s_mCall, s_mTB, s_mNot, s_mAnd, s_mOr, s_mAndV, s_mOrV, s_mIf, s_mYes, s_mSl, s_mNo, s_mPart, s_mLc, s_mItems, s_mRng1, s_mRng2, s_mEnum, s_mChain, s_seqT, s_seqL, s_sNext, s_sSeq, s_sIf, s_sSet, s_sRet, s_sRetN, s_sBreak, s_sCont, s_sDrop, s_sPar, s_setN0, s_setNS, s_sAsg, s_sApp, s_sAug, s_sFor, s_sSrc, s_gmN, s_gmT, s_gmCons, s_gmNil, s_wipe0, s_wipeS, s_oSub, s_oAddI, s_oAdd, s_oLt, s_oLe, s_oGt, s_oGe, s_oNeg, s_oNot, s_oMul, s_oMulW, s_oMod, s_oFdiv, s_oPow, s_oIsN, s_oNotN, s_oIsB, s_oNotB, s_isNon_int, s_isNon_non, s_isNon_bl, s_isNon_str, s_isNon_tup, s_isNon_lst, s_isNon_dic, s_oEqI, s_oNeI, s_oIxT, s_oIxL, s_oSlT, s_oSlL, s_oRevT, s_oRevL, s_oInt, s_oIntB, s_oAbs, s_oMax2, s_oMin2, s_oLen, s_plenT, s_plenL, s_plenD, s_plenS, s_oTupleL, s_oTupleT, s_oListL, s_oListT, List.set_cons_succ, List.set_cons_zero, List.append_nil, true_and, x_bl, x_int, x_some, x_addT, x_addL, x_true, x_false]
  have hln : (cs.map cellP).length ≤ 200 := by rw [List.length_map]; exact hl
  have hdt : ∀ x ∈ cs.map cellP, Dt x := fun x hx => by
    obtain ⟨c, _, rfl⟩ := List.mem_map.mp hx
    exact dt_cell c
  refine ⟨Nat.zero_le _, oEqT_nil toD_cell lay_cell (by decide) ⟨_, rfl, ?_⟩⟩
  cases cs with
  | nil =>
    refine ite_t rfl ⟨Nat.zero_le _, Nat.zero_le _, line (by simp), line (by simp), line (by simp), line (by simp), _, rfl, by simp, by simp, fun x hx => ?_⟩
    simp at hx
    rcases hx with rfl | rfl | rfl | rfl | rfl
    · exact h _ (d2_tup (Nat.zero_le _) fun x hx => by cases hx)
    · exact h _ ⟨rfl, fun _ e => by cases e⟩
    · exact h _ ⟨rfl, fun _ e => by cases e⟩
    · refine h _ (d2_tup (by simp) fun x hx => ?_)
      rw [List.mem_singleton.mp hx]
      refine dt_tup (by simp) fun x hx => ?_
      simp at hx
      rw [hx]; rfl
    · refine h _ (d2_tup (by simp) fun x hx => ?_)
      rw [List.mem_singleton.mp hx]
      exact dt_int
  | cons c cs =>
    refine ite_f (Bool.false_ne_true) ?_
    have hcell : ∀ x ∈ (c :: cs).map cellP, ∃ c, x = cellP c := fun x hx => by
      obtain ⟨c, _, rfl⟩ := List.mem_map.mp hx
      exact ⟨c, rfl⟩
    have hpos : 0 < ((c :: cs).map cellP).length := by simp
    generalize hxs : (c :: cs).map cellP = xs at *
    have hcl : ∀ l u, (cutP xs l u).length ≤ 200 := fun l u => Nat.le_trans len_cut hln
    refine ⟨_, rfl, by omega, by omega, fun a a0 a1 => ⟨6, rfl, by decide, by decide, fun w w0 w1 => ?_⟩⟩
    try simp only [s_mVar0, s_mVarS, s_mVarO0, s_mVarOS, s_isObj_lst, s_isObj_dic, s_mC, s_mOp, s_mOp1, s_mB, s_mNil, s_mCons, s_mTup, s_mLst, s_mCall, s_mTB, s_mNot, s_mAnd, s_mOr, s_mAndV, s_mOrV, s_mIf, s_mYes, s_mSl, s_mNo, s_mPart, s_mLc, s_mItems, s_mRng1, s_mRng2, s_mEnum, s_mChain, s_seqT, s_seqL, s_sNext, s_sSeq, s_sIf, s_sSet, s_sRet, s_sRetN, s_sBreak, s_sCont, s_sDrop, s_sPar, s_setN0, s_setNS, s_sAsg, s_sApp, s_sAug, s_sFor, s_sSrc, s_gmN, s_gmT, s_gmCons, s_gmNil, s_wipe0, s_wipeS, s_oSub, s_oAddI, s_oAdd, s_oLt, s_oLe, s_oGt, s_oGe, s_oNeg, s_oNot, s_oMul, s_oMulW, s_oMod, s_oFdiv, s_oPow, s_oIsN, s_oNotN, s_oIsB, s_oNotB, s_isNon_int, s_isNon_non, s_isNon_bl, s_isNon_str, s_isNon_tup, s_isNon_lst, s_isNon_dic, s_oEqI, s_oNeI, s_oIxT, s_oIxL, s_oSlT, s_oSlL, s_oRevT, s_oRevL, s_oInt, s_oIntB, s_oAbs, s_oMax2, s_oMin2, s_oLen, s_plenT, s_plenL, s_plenD, s_plenS, s_oTupleL, s_oTupleT, s_oListL, s_oListT, List.set_cons_succ, List.set_cons_zero, List.append_nil, true_and, x_bl, x_int, x_some, x_addT, x_addL, x_true, x_false]
    by_cases e0 : w = 0
    · refine ite_t (decide_eq_true e0) ⟨?_, h _ (d2_tup ?_ fun x hx => ?_)⟩
      · have := hcl none (some a); have := hcl (some (a + 1)) none
        exact line (by omega)
      · have := hcl none (some a); have := hcl (some (a + 1)) none
        rw [List.length_append]; omega
      · rcases List.mem_append.mp hx with z | z <;> exact hdt x (mem_cut z)
    refine ite_f (by rw [decide_eq_false e0]; decide) ?_
    by_cases e1 : w = 1
    · refine ite_t (decide_eq_true e1) ?_
      have h1 := hcl none (some a); have h2 := hcl (some a) (some (a + 1)); have h3 := hcl (some a) none
      refine ⟨line (by omega), by rw [List.length_append]; exact line (by omega), h _ (d2_tup (by rw [List.length_append, List.length_append]; omega) fun x hx => ?_)⟩
      rcases List.mem_append.mp hx with z | z
      · rcases List.mem_append.mp z with z | z <;> exact hdt x (mem_cut z)
      · exact hdt x (mem_cut z)
    refine ite_f (by rw [decide_eq_false e1]; decide) ?_
    by_cases e2 : w = 2
    · exact ite_t (decide_eq_true e2) (h _ ⟨rfl, fun _ e => by cases e⟩)
    refine ite_f (by rw [decide_eq_false e2]; decide) ?_
    have hat : ∃ x ∈ xs, atI xs a = some x := by
      refine ⟨xs[a.toNat]'(by omega), List.getElem_mem _, ?_⟩
      rw [atI_nn a0 (by omega), List.getElem?_eq_getElem (by omega)]
    obtain ⟨x, hx, hxa⟩ := hat
    obtain ⟨c', rfl⟩ := hcell x hx
    have out : ∀ v, Dt v → (cutP xs none (some a)).length + [v].length ≤ sizeLine ∧ (cutP xs none (some a) ++ [v]).length + (cutP xs (some (a + 1)) none).length ≤ sizeLine ∧ Q (.tup (cutP xs none (some a) ++ [v] ++ cutP xs (some (a + 1)) none)) := fun v hv => by
      have h1 := hcl none (some a); have h2 := hcl (some (a + 1)) none
      refine ⟨line (by simp; omega), line (by simp; omega), h _ (d2_tup (by simp; omega) fun x hx => ?_)⟩
      rcases List.mem_append.mp hx with z | z
      · rcases List.mem_append.mp z with z | z
        · exact hdt x (mem_cut z)
        · rw [List.mem_singleton.mp z]; exact hv
      · exact hdt x (mem_cut z)
    refine ⟨_, hxa, ?_⟩
    cases c' with
    | inl i =>
      refine oIsi_of (b := false) rfl rfl ⟨_, rfl, ite_f (by decide) ?_⟩
      unfold cellP
      try simp only [s_mVar0, s_mVarS, s_mVarO0, s_mVarOS, s_isObj_lst, s_isObj_dic, s_mC, s_mOp, s_mOp1, s_mB, s_mNil, s_mCons, s_mTup, s_mLst, s_mCall, s_mTB, s_mNot, s_mAnd, s_mOr, s_mAndV, s_mOrV, s_mIf, s_mYes, s_mSl, s_mNo, s_mPart, s_mLc, s_mItems, s_mRng1, s_mRng2, s_mEnum, s_mChain, s_seqT, s_seqL, s_sNext, s_sSeq, s_sIf, s_sSet, s_sRet, s_sRetN, s_sBreak, s_sCont, s_sDrop, s_sPar, s_setN0, s_setNS, s_sAsg, s_sApp, s_sAug, s_sFor, s_sSrc, s_gmN, s_gmT, s_gmCons, s_gmNil, s_wipe0, s_wipeS, s_oSub, s_oAddI, s_oAdd, s_oLt, s_oLe, s_oGt, s_oGe, s_oNeg, s_oNot, s_oMul, s_oMulW, s_oMod, s_oFdiv, s_oPow, s_oIsN, s_oNotN, s_oIsB, s_oNotB, s_isNon_int, s_isNon_non, s_isNon_bl, s_isNon_str, s_isNon_tup, s_isNon_lst, s_isNon_dic, s_oEqI, s_oNeI, s_oIxT, s_oIxL, s_oSlT, s_oSlL, s_oRevT, s_oRevL, s_oInt, s_oIntB, s_oAbs, s_oMax2, s_oMin2, s_oLen, s_plenT, s_plenL, s_plenD, s_plenS, s_oTupleL, s_oTupleT, s_oListL, s_oListT, List.set_cons_succ, List.set_cons_zero, List.append_nil, true_and, x_bl, x_int, x_some, x_addT, x_addL, x_true, x_false]
      refine ⟨line (by simp), line (by simp), _, rfl, by simp, by simp, fun v hv => ⟨line (by simp), out v ?_⟩⟩
      simp at hv
      rcases hv with rfl | rfl | rfl | rfl | rfl | rfl | rfl
      · exact dt_int
      · exact dt_int
      · exact dt_int
      · exact ⟨rfl, fun _ e => by cases e⟩
      · exact ⟨rfl, fun _ e => by cases e⟩
      · exact dt_int
      · exact dt_tup (by simp) fun x hx => by rw [List.mem_singleton.mp hx]; rfl
    | inr r =>
      refine oIsi_of (b := true) rfl rfl ⟨_, rfl, ite_t rfl ?_⟩
      unfold cellP
      try simp only [s_mVar0, s_mVarS, s_mVarO0, s_mVarOS, s_isObj_lst, s_isObj_dic, s_mC, s_mOp, s_mOp1, s_mB, s_mNil, s_mCons, s_mTup, s_mLst, s_mCall, s_mTB, s_mNot, s_mAnd, s_mOr, s_mAndV, s_mOrV, s_mIf, s_mYes, s_mSl, s_mNo, s_mPart, s_mLc, s_mItems, s_mRng1, s_mRng2, s_mEnum, s_mChain, s_seqT, s_seqL, s_sNext, s_sSeq, s_sIf, s_sSet, s_sRet, s_sRetN, s_sBreak, s_sCont, s_sDrop, s_sPar, s_setN0, s_setNS, s_sAsg, s_sApp, s_sAug, s_sFor, s_sSrc, s_gmN, s_gmT, s_gmCons, s_gmNil, s_wipe0, s_wipeS, s_oSub, s_oAddI, s_oAdd, s_oLt, s_oLe, s_oGt, s_oGe, s_oNeg, s_oNot, s_oMul, s_oMulW, s_oMod, s_oFdiv, s_oPow, s_oIsN, s_oNotN, s_oIsB, s_oNotB, s_isNon_int, s_isNon_non, s_isNon_bl, s_isNon_str, s_isNon_tup, s_isNon_lst, s_isNon_dic, s_oEqI, s_oNeI, s_oIxT, s_oIxL, s_oSlT, s_oSlL, s_oRevT, s_oRevL, s_oInt, s_oIntB, s_oAbs, s_oMax2, s_oMin2, s_oLen, s_plenT, s_plenL, s_plenD, s_plenS, s_oTupleL, s_oTupleT, s_oListL, s_oListT, List.set_cons_succ, List.set_cons_zero, List.append_nil, true_and, x_bl, x_int, x_some, x_addT, x_addL, x_true, x_false]
      refine ⟨_, rfl, by simp, by simp, fun j j0 j1 => ?_⟩
      have j1 : j < 3 := j1
      obtain ⟨z, hz⟩ : ∃ z, atI [PV.int (r.1 : Int), PV.int (r.2.1 : Int), PV.int (r.2.2 : Int)] j = some (.int z) := by
        have : j = 0 ∨ j = 1 ∨ j = 2 := by omega
        rcases this with e | e | e <;> subst e
        · exact ⟨_, rfl⟩
        · exact ⟨_, rfl⟩
        · exact ⟨_, rfl⟩
      have hpt : ∀ x ∈ [PV.int (r.1 : Int), PV.int (r.2.1 : Int), PV.int (r.2.2 : Int)], (pty x).isSome = true := fun x hx => by
        simp at hx
        rcases hx with rfl | rfl | rfl <;> rfl
      have hl3 : [PV.int (r.1 : Int), PV.int (r.2.1 : Int), PV.int (r.2.2 : Int)].length = 3 := rfl
      unfold rP
      generalize [PV.int (r.1 : Int), PV.int (r.2.1 : Int), PV.int (r.2.2 : Int)] = rs at *
      try simp only [s_mVar0, s_mVarS, s_mVarO0, s_mVarOS, s_isObj_lst, s_isObj_dic, s_mC, s_mOp, s_mOp1, s_mB, s_mNil, s_mCons, s_mTup, s_mLst, s_mCall, s_mTB, s_mNot, s_mAnd, s_mOr, s_mAndV, s_mOrV, s_mIf, s_mYes, s_mSl, s_mNo, s_mPart, s_mLc, s_mItems, s_mRng1, s_mRng2, s_mEnum, s_mChain, s_seqT, s_seqL, s_sNext, s_sSeq, s_sIf, s_sSet, s_sRet, s_sRetN, s_sBreak, s_sCont, s_sDrop, s_sPar, s_setN0, s_setNS, s_sAsg, s_sApp, s_sAug, s_sFor, s_sSrc, s_gmN, s_gmT, s_gmCons, s_gmNil, s_wipe0, s_wipeS, s_oSub, s_oAddI, s_oAdd, s_oLt, s_oLe, s_oGt, s_oGe, s_oNeg, s_oNot, s_oMul, s_oMulW, s_oMod, s_oFdiv, s_oPow, s_oIsN, s_oNotN, s_oIsB, s_oNotB, s_isNon_int, s_isNon_non, s_isNon_bl, s_isNon_str, s_isNon_tup, s_isNon_lst, s_isNon_dic, s_oEqI, s_oNeI, s_oIxT, s_oIxL, s_oSlT, s_oSlL, s_oRevT, s_oRevL, s_oInt, s_oIntB, s_oAbs, s_oMax2, s_oMin2, s_oLen, s_plenT, s_plenL, s_plenD, s_plenS, s_oTupleL, s_oTupleT, s_oListL, s_oListT, List.set_cons_succ, List.set_cons_zero, List.append_nil, true_and, x_bl, x_int, x_some, x_addT, x_addL, x_true, x_false]
      refine ⟨_, hz, ?_⟩
      try simp only [s_mVar0, s_mVarS, s_mVarO0, s_mVarOS, s_isObj_lst, s_isObj_dic, s_mC, s_mOp, s_mOp1, s_mB, s_mNil, s_mCons, s_mTup, s_mLst, s_mCall, s_mTB, s_mNot, s_mAnd, s_mOr, s_mAndV, s_mOrV, s_mIf, s_mYes, s_mSl, s_mNo, s_mPart, s_mLc, s_mItems, s_mRng1, s_mRng2, s_mEnum, s_mChain, s_seqT, s_seqL, s_sNext, s_sSeq, s_sIf, s_sSet, s_sRet, s_sRetN, s_sBreak, s_sCont, s_sDrop, s_sPar, s_setN0, s_setNS, s_sAsg, s_sApp, s_sAug, s_sFor, s_sSrc, s_gmN, s_gmT, s_gmCons, s_gmNil, s_wipe0, s_wipeS, s_oSub, s_oAddI, s_oAdd, s_oLt, s_oLe, s_oGt, s_oGe, s_oNeg, s_oNot, s_oMul, s_oMulW, s_oMod, s_oFdiv, s_oPow, s_oIsN, s_oNotN, s_oIsB, s_oNotB, s_isNon_int, s_isNon_non, s_isNon_bl, s_isNon_str, s_isNon_tup, s_isNon_lst, s_isNon_dic, s_oEqI, s_oNeI, s_oIxT, s_oIxL, s_oSlT, s_oSlL, s_oRevT, s_oRevL, s_oInt, s_oIntB, s_oAbs, s_oMax2, s_oMin2, s_oLen, s_plenT, s_plenL, s_plenD, s_plenS, s_oTupleL, s_oTupleT, s_oListL, s_oListT, List.set_cons_succ, List.set_cons_zero, List.append_nil, true_and, x_bl, x_int, x_some, x_addT, x_addL, x_true, x_false]
      refine ⟨_, hz, ?_⟩
      try simp only [s_mVar0, s_mVarS, s_mVarO0, s_mVarOS, s_isObj_lst, s_isObj_dic, s_mC, s_mOp, s_mOp1, s_mB, s_mNil, s_mCons, s_mTup, s_mLst, s_mCall, s_mTB, s_mNot, s_mAnd, s_mOr, s_mAndV, s_mOrV, s_mIf, s_mYes, s_mSl, s_mNo, s_mPart, s_mLc, s_mItems, s_mRng1, s_mRng2, s_mEnum, s_mChain, s_seqT, s_seqL, s_sNext, s_sSeq, s_sIf, s_sSet, s_sRet, s_sRetN, s_sBreak, s_sCont, s_sDrop, s_sPar, s_setN0, s_setNS, s_sAsg, s_sApp, s_sAug, s_sFor, s_sSrc, s_gmN, s_gmT, s_gmCons, s_gmNil, s_wipe0, s_wipeS, s_oSub, s_oAddI, s_oAdd, s_oLt, s_oLe, s_oGt, s_oGe, s_oNeg, s_oNot, s_oMul, s_oMulW, s_oMod, s_oFdiv, s_oPow, s_oIsN, s_oNotN, s_oIsB, s_oNotB, s_isNon_int, s_isNon_non, s_isNon_bl, s_isNon_str, s_isNon_tup, s_isNon_lst, s_isNon_dic, s_oEqI, s_oNeI, s_oIxT, s_oIxL, s_oSlT, s_oSlL, s_oRevT, s_oRevL, s_oInt, s_oIntB, s_oAbs, s_oMax2, s_oMin2, s_oLen, s_plenT, s_plenL, s_plenD, s_plenS, s_oTupleL, s_oTupleT, s_oListL, s_oListT, List.set_cons_succ, List.set_cons_zero, List.append_nil, true_and, x_bl, x_int, x_some, x_addT, x_addL, x_true, x_false]
      refine ⟨_, hz, ?_⟩
      try simp only [s_mVar0, s_mVarS, s_mVarO0, s_mVarOS, s_isObj_lst, s_isObj_dic, s_mC, s_mOp, s_mOp1, s_mB, s_mNil, s_mCons, s_mTup, s_mLst, s_mCall, s_mTB, s_mNot, s_mAnd, s_mOr, s_mAndV, s_mOrV, s_mIf, s_mYes, s_mSl, s_mNo, s_mPart, s_mLc, s_mItems, s_mRng1, s_mRng2, s_mEnum, s_mChain, s_seqT, s_seqL, s_sNext, s_sSeq, s_sIf, s_sSet, s_sRet, s_sRetN, s_sBreak, s_sCont, s_sDrop, s_sPar, s_setN0, s_setNS, s_sAsg, s_sApp, s_sAug, s_sFor, s_sSrc, s_gmN, s_gmT, s_gmCons, s_gmNil, s_wipe0, s_wipeS, s_oSub, s_oAddI, s_oAdd, s_oLt, s_oLe, s_oGt, s_oGe, s_oNeg, s_oNot, s_oMul, s_oMulW, s_oMod, s_oFdiv, s_oPow, s_oIsN, s_oNotN, s_oIsB, s_oNotB, s_isNon_int, s_isNon_non, s_isNon_bl, s_isNon_str, s_isNon_tup, s_isNon_lst, s_isNon_dic, s_oEqI, s_oNeI, s_oIxT, s_oIxL, s_oSlT, s_oSlL, s_oRevT, s_oRevL, s_oInt, s_oIntB, s_oAbs, s_oMax2, s_oMin2, s_oLen, s_plenT, s_plenL, s_plenD, s_plenS, s_oTupleL, s_oTupleT, s_oListL, s_oListT, List.set_cons_succ, List.set_cons_zero, List.append_nil, true_and, x_bl, x_int, x_some, x_addT, x_addL, x_true, x_false]
      have c1 : (cutP rs none (some j)).length ≤ 3 := by have := len_cut (xs := rs) (l := none) (u := some j); omega
      have c2 : (cutP rs (some (j + 1)) none).length ≤ 3 := by have := len_cut (xs := rs) (l := some (j + 1)) (u := none); omega
      refine ⟨line (by simp), _, rfl, by simp, by simp, fun v hv => ⟨line (by simp), line (by simp; omega), line (by simp; omega), line (by simp), out _ ?_⟩⟩
      refine dt_tup (by simp; omega) fun x hx => ?_
      rcases List.mem_append.mp hx with q | q
      · rcases List.mem_append.mp q with q | q
        · exact hpt x (mem_cut q)
        · rw [List.mem_singleton.mp q]
          simp at hv
          rcases hv with rfl | rfl | rfl | rfl | rfl | rfl <;> rfl
      · exact hpt x (mem_cut q)
end K46

set_option maxHeartbeats 2000000
namespace K46
open PySem L2 PM
section
variable {lots : List (List Int)} {prices : List Int}
theorem cnt_one {i : Nat} {l : List Int} (hg : Good lots) (h : lots[i]? = some l) : cnt lots i i = l.length := by
  unfold cnt
  rw [keys_one h (hg.lot l (List.mem_of_getElem? h)).1]
theorem all_of (hg : Good lots) (hm : ∀ l ∈ lots, l.length < prices.length) : All lots prices := fun j => by
  induction j with
  | zero => intro _; rfl
  | succ j ih =>
    intro hj
    cases q : lev lots prices (j + 1) with
    | some _ => rfl
    | none =>
      obtain ⟨x, hx⟩ := Option.isSome_iff_exists.mp (ih (by omega))
      have h1 := lev_none.mp q j x (Nat.le_refl _) hx
      rw [lp_none, cnt_one hg (List.getElem?_eq_getElem (by omega : j < lots.length))] at h1
      have := hm _ (List.getElem_mem (by omega : j < lots.length))
      omega
theorem of_all (hg : Good lots) (h : All lots prices) : ∀ l ∈ lots, l.length < prices.length := fun l hl => by
  obtain ⟨i, hi, rfl⟩ := List.mem_iff_getElem.mp hl
  obtain ⟨m, hm⟩ := Option.isSome_iff_exists.mp (h (i + 1) (by omega))
  obtain ⟨⟨a, x, y, ha, h1, h2, _⟩, _⟩ := lev_some.mp hm
  have h3 : ¬ prices.length ≤ cnt lots a i := fun z => by rw [lp_none.mpr z] at h2; cases h2
  have h4 := cnt_mono (lots := lots) ha (Nat.le_refl i)
  rw [cnt_one hg (List.getElem?_eq_getElem hi)] at h4
  omega
theorem chain_le : ∀ {rows : List Row} {s e : Nat}, Chain lots prices s rows e → s ≤ e
  | [], s, e, h => by have h : s = e := h; omega
  | r :: rows, s, e, ⟨_, h2, _, _, h⟩ => by have := chain_le h; omega
theorem chain_row : ∀ {rows : List Row} {s e : Nat}, Chain lots prices s rows e → ∀ r ∈ rows, r.2.2 < prices.length
  | [], _, _, _, r, hr => by cases hr
  | q :: rows, s, e, ⟨_, _, _, h4, h⟩, r, hr => by
    rcases List.mem_cons.mp hr with z | z
    · subst z; exact h4
    · exact chain_row h r z
theorem seqB_chain : ∀ {rows : List Row} {s : Nat}, Chain lots prices s rows lots.length → seqB lots prices ((s : Int) - 1) (rows.map rP) = true
  | [], s, h => by
    have h : s = lots.length := h
    subst h; exact decide_eq_true rfl
  | (a, b, u) :: rows, s, ⟨e1, e2, e3, e4, h⟩ => by
    have e1 : a = s := e1
    have e2 : s ≤ b := e2
    have e3 : cnt lots s b ≤ u := e3
    have e4 : u < prices.length := e4
    subst e1
    have h5 := chain_le h
    have h5 : b + 1 ≤ lots.length := h5
    have ih := seqB_chain h
    show (rowB lots prices (.tup [.int a, .int b, .int u]) && (decide ((a : Int) = (a : Int) - 1 + 1) && seqB lots prices (b : Int) (rows.map rP))) = true
    rw [rowB_int, decide_eq_true e2, decide_eq_true (by omega : b < lots.length), decide_eq_true e4, decide_eq_true e3, decide_eq_true (by omega : (a : Int) = (a : Int) - 1 + 1)]
    have e6 : (((a, b, u) : Row).2.1 + 1 : Nat) = b + 1 := rfl
    rw [e6, show ((b + 1 : Nat) : Int) - 1 = (b : Int) by omega] at ih
    rw [ih]; rfl
theorem planB_chain {rows : List Row} (h : Chain lots prices 0 rows lots.length) : planB lots prices (.tup (rows.map rP)) = true := seqB_chain (s := 0) h
theorem levB_tI {ns : List Int} (h1 : ns.length = lots.length + 1) (h2 : ∀ x ∈ ns, 0 ≤ x) (h3 : ns.getD 0 0 = 0) (h4 : ∀ b, b < lots.length → ∀ a, a ≤ b → pairB lots prices ns a b = true) : levB lots prices (tI ns) = true := by
  have e : (ns.map PV.int).map vI = ns := by
    rw [List.map_map]
    conv => rhs; rw [← List.map_id ns]
    exact List.map_congr_left fun x _ => rfl
  show (decide ((ns.map PV.int).length = lots.length + 1) && ((ns.map PV.int).all isNat && (decide (((ns.map PV.int).map vI).getD 0 0 = 0) && levN lots prices ((ns.map PV.int).map vI)))) = true
  rw [e, List.length_map, decide_eq_true h1, decide_eq_true h3, levN_true h4]
  have : (ns.map PV.int).all isNat = true := List.all_eq_true.mpr fun x hx => by
    obtain ⟨i, hi, rfl⟩ := List.mem_map.mp hx
    exact decide_eq_true (h2 i hi)
  rw [this]; rfl
theorem levB_own {ns : List Int} (h : Own lots prices ns lots.length) : levB lots prices (tI ns) = true := levB_tI h.len h.nat h.zero h.le
theorem lp_nn {a b : Nat} {p : Int} (hp : ∀ p ∈ prices, 0 ≤ p) (h : lp lots prices a b = some p) : 0 ≤ p := omin_ge h fun x hx => hp x (List.mem_of_mem_drop hx)
theorem lev_nn (hp : ∀ p ∈ prices, 0 ≤ p) : ∀ (j : Nat) (m : Int), lev lots prices j = some m → 0 ≤ m := fun j => by
  induction j using Nat.strongRecOn with
  | _ j ih =>
    intro m hm
    cases j with
    | zero => cases hm; exact Int.le_refl _
    | succ j =>
      obtain ⟨⟨a, x, y, ha, h1, h2, rfl⟩, _⟩ := lev_some.mp hm
      have := ih a (by omega) x h1
      have := lp_nn hp h2
      omega
theorem levB_lev {ls : List Int} (hp : ∀ p ∈ prices, 0 ≤ p) (hl : ls.length = lots.length + 1) (hv : ∀ j, j ≤ lots.length → ls[j]? = lev lots prices j) : levB lots prices (tI ls) = true := by
  have gd : ∀ j, j ≤ lots.length → lev lots prices j = some (ls.getD j 0) := fun j hj => by
    rw [← hv j hj, List.getD_eq_getElem?_getD, List.getElem?_eq_getElem (by omega)]; rfl
  refine levB_tI hl (fun x hx => ?_) ?_ fun b hb a hab => ?_
  · obtain ⟨i, hi, rfl⟩ := List.mem_iff_getElem.mp hx
    have h1 := hv i (by omega)
    rw [List.getElem?_eq_getElem hi] at h1
    exact lev_nn hp i _ h1.symm
  · have := gd 0 (Nat.zero_le _)
    rw [lev_zero] at this
    exact (Option.some.inj this).symm
  · unfold pairB
    cases q : lp lots prices a b with
    | none => rfl
    | some p =>
      have h1 := gd (b + 1) (by omega)
      have h2 := gd a (by omega)
      have := (lev_some.mp h1).2 a _ p hab h2 q
      exact decide_eq_true (by omega)
end
theorem best_head : ∀ (xs : List R3) (y : R3) (m : Int), (∃ z ∈ y :: xs, z.2.2 = m) → (∀ z ∈ y :: xs, m ≤ z.2.2) → xs.foldl stepB (some y) = ((y :: xs).filter fun z => decide (z.2.2 = m)).head?
  | [], y, m, ⟨z, hz, e⟩, _ => by
    rw [List.mem_singleton.mp hz] at e
    rw [List.filter_cons, if_pos (decide_eq_true e)]; rfl
  | x :: xs, y, m, ⟨z, hz, e⟩, hm => by
    have hy := hm y (List.mem_cons_self ..)
    have hx := hm x (List.mem_cons_of_mem _ (List.mem_cons_self ..))
    rw [List.foldl_cons]
    by_cases h : x.2.2 < y.2.2
    · have e2 : stepB (some y) x = some x := if_pos h
      rw [e2, best_head xs x m ?_ fun z hz => hm z (List.mem_cons_of_mem _ hz)]
      · rw [List.filter_cons (x := y), if_neg (by rw [decide_eq_false (by omega)]; decide)]
      · rcases List.mem_cons.mp hz with q | q
        · subst q; omega
        · exact ⟨z, q, e⟩
    · have e2 : stepB (some y) x = some y := if_neg h
      rw [e2, best_head xs y m ?_ fun z hz => hm z (by
        rcases List.mem_cons.mp hz with q | q
        · rw [q]; exact List.mem_cons_self ..
        · exact List.mem_cons_of_mem _ (List.mem_cons_of_mem _ q))]
      · by_cases q : y.2.2 = m
        · rw [List.filter_cons, if_pos (decide_eq_true q), List.filter_cons, if_pos (decide_eq_true q)]; rfl
        · rw [List.filter_cons, if_neg (by rw [decide_eq_false q]; decide), List.filter_cons, if_neg (by rw [decide_eq_false q]; decide), List.filter_cons, if_neg (by rw [decide_eq_false (by omega)]; decide)]
      · rcases List.mem_cons.mp hz with q | q
        · exact ⟨y, List.mem_cons_self .., q ▸ e⟩
        · rcases List.mem_cons.mp q with q | q
          · exact ⟨y, List.mem_cons_self .., by subst q; omega⟩
          · exact ⟨z, List.mem_cons_of_mem _ q, e⟩
theorem bestR_head {xs : List R3} {m : Int} (h0 : xs ≠ []) (h : omin (xs.map fun z => z.2.2) = some m) : bestR xs = (xs.filter fun z => decide (z.2.2 = m)).head? := by
  cases xs with
  | nil => exact absurd rfl h0
  | cons y xs =>
    obtain ⟨h1, h2⟩ := omin_some.mp h
    obtain ⟨z, hz, e⟩ := List.mem_map.mp h1
    exact best_head xs y m ⟨z, hz, e⟩ fun z hz => h2 _ (List.mem_map.mpr ⟨z, hz, rfl⟩)
theorem bestR_some {xs : List R3} (h0 : xs ≠ []) : ∃ y, bestR xs = some y := by
  cases q : bestR xs with
  | some y => exact ⟨y, rfl⟩
  | none => exact absurd (bestR_none.mp q) h0
end K46

set_option maxHeartbeats 2000000
namespace K46
open PySem L2 PM
def t_law_c23 (ok_l_heap : List PV → Prop) (sp_l_pick : PM.Spec) (sp_l_counted : PM.Spec) (sp_l_rhythms : PM.Spec) (sp_l_like : PM.Spec) (sp_l_sizes : PM.Spec) (sp_l_draw : PM.Spec) (sp_cheapest_plan : PM.Spec) (sp_least_levels : PM.Spec) (sp_l_own_plan : PM.Spec) (sp_l_own_levels : PM.Spec) (sp_is_levels : PM.Spec) (sp_l_bent : PM.Spec) (sp_kept_schedule : PM.Spec) (sp_is_degree_plan : PM.Spec) (sp_rhythm_bill : PM.Spec) (sp_l_is_plan : PM.Spec) (sp_l_is_levels : PM.Spec) (sp_plan_price : PM.Spec) (sp_rhythms : PM.Spec) (sp_cheapest_rhythm : PM.Spec) : TSm :=
  (sSeq (sPar [27, 28] (mCons (mCall sp_l_draw [] (mCons (mVar 1) (mCons (mVar 21) mNil))) (mCons (mOp oAdd (mC (.int 1)) (mCall sp_l_draw [] (mCons (mVar 1) (mCons (mOp oAdd (mVar 22) (mC (.int 2))) mNil)))) mNil))) (sSeq (sSet 12 (mB oLen (mCons (mLc (mRng2 (mC (.int 1)) (mVar 22)) [31] (gmN 31) (mTB (mOp oEq (mOp oMod (mVar 31) (mVar 28)) (mC (.int 0)))) (mVar 31)) mNil))) (sSeq (sIf (mNot (mTB (mCall sp_l_like [] (mCons (mCall sp_rhythm_bill [] (mCons (mVar 21) (mCons (mVar 25) (mCons (mVar 27) (mCons (mVar 22) (mCons (mVar 28) mNil)))))) (mCons (mOp oAdd (mOp oMul (mOp oMul (mOp oMul (mVar 12) (mVar 21)) (mVar 21)) (mOp oAdd (mVar 27) (mC (.int 1)))) (mOp oMul (mOp oMul (mOp oSub (mOp oSub (mVar 22) (mC (.int 1))) (mVar 12)) (mVar 25)) (mOp oAdd (mVar 27) (mC (.int 1))))) mNil))))) (sRet (mC (.bl false))) sNext) (sRet (mCall sp_l_like [] (mCons (mCall sp_kept_schedule [] (mCons (mVar 21) (mCons (mVar 23) (mCons (mVar 24) (mCons (mVar 26) (mCons (mVar 25) (mCons (mVar 22) mNil))))))) (mCons (mVar 11) mNil)))))))
def t_law_c22 (ok_l_heap : List PV → Prop) (sp_l_pick : PM.Spec) (sp_l_counted : PM.Spec) (sp_l_rhythms : PM.Spec) (sp_l_like : PM.Spec) (sp_l_sizes : PM.Spec) (sp_l_draw : PM.Spec) (sp_cheapest_plan : PM.Spec) (sp_least_levels : PM.Spec) (sp_l_own_plan : PM.Spec) (sp_l_own_levels : PM.Spec) (sp_is_levels : PM.Spec) (sp_l_bent : PM.Spec) (sp_kept_schedule : PM.Spec) (sp_is_degree_plan : PM.Spec) (sp_rhythm_bill : PM.Spec) (sp_l_is_plan : PM.Spec) (sp_l_is_levels : PM.Spec) (sp_plan_price : PM.Spec) (sp_rhythms : PM.Spec) (sp_cheapest_rhythm : PM.Spec) : TSm :=
  (sSeq (sIf (mOr (mNot (mTB (mCall sp_l_like [] (mCons (mCall sp_rhythms [] (mCons (mVar 21) (mCons (mVar 23) (mCons (mVar 24) (mCons (mVar 26) (mCons (mVar 25) (mCons (mVar 22) mNil))))))) (mCons (mVar 7) mNil))))) (mNot (mTB (mCall sp_l_like [] (mCons (mCall sp_cheapest_rhythm [] (mCons (mVar 21) (mCons (mVar 23) (mCons (mVar 24) (mCons (mVar 26) (mCons (mVar 25) (mCons (mVar 22) mNil))))))) (mCons (mVar 10) mNil)))))) (sRet (mC (.bl false))) sNext) (t_law_c23 ok_l_heap sp_l_pick sp_l_counted sp_l_rhythms sp_l_like sp_l_sizes sp_l_draw sp_cheapest_plan sp_least_levels sp_l_own_plan sp_l_own_levels sp_is_levels sp_l_bent sp_kept_schedule sp_is_degree_plan sp_rhythm_bill sp_l_is_plan sp_l_is_levels sp_plan_price sp_rhythms sp_cheapest_rhythm))
def t_law_c20 (ok_l_heap : List PV → Prop) (sp_l_pick : PM.Spec) (sp_l_counted : PM.Spec) (sp_l_rhythms : PM.Spec) (sp_l_like : PM.Spec) (sp_l_sizes : PM.Spec) (sp_l_draw : PM.Spec) (sp_cheapest_plan : PM.Spec) (sp_least_levels : PM.Spec) (sp_l_own_plan : PM.Spec) (sp_l_own_levels : PM.Spec) (sp_is_levels : PM.Spec) (sp_l_bent : PM.Spec) (sp_kept_schedule : PM.Spec) (sp_is_degree_plan : PM.Spec) (sp_rhythm_bill : PM.Spec) (sp_l_is_plan : PM.Spec) (sp_l_is_levels : PM.Spec) (sp_plan_price : PM.Spec) (sp_rhythms : PM.Spec) (sp_cheapest_rhythm : PM.Spec) : TSm :=
  (sSeq (sSet 10 (mIf (mTB (mOp oEq (mVar 7) (mTup mNil))) (mC (.non)) (mOp oIx (mVarO 9) (mC (.int 0))))) (sSeq (sSet 11 (mIf (mTB (mOp oEq (mVar 7) (mTup mNil))) (mC (.non)) (mB oTuple (mCons (mLc (mRng2 (mC (.int 1)) (mVar 22)) [31] (gmN 31) (mTB (mOp oEq (mOp oMod (mVar 31) (mOp oIx (mVar 10) (mC (.int 0)))) (mC (.int 0)))) (mOp oSub (mVar 31) (mC (.int 1)))) mNil)))) (t_law_c22 ok_l_heap sp_l_pick sp_l_counted sp_l_rhythms sp_l_like sp_l_sizes sp_l_draw sp_cheapest_plan sp_least_levels sp_l_own_plan sp_l_own_levels sp_is_levels sp_l_bent sp_kept_schedule sp_is_degree_plan sp_rhythm_bill sp_l_is_plan sp_l_is_levels sp_plan_price sp_rhythms sp_cheapest_rhythm)))
def t_law_c17 (ok_l_heap : List PV → Prop) (sp_l_pick : PM.Spec) (sp_l_counted : PM.Spec) (sp_l_rhythms : PM.Spec) (sp_l_like : PM.Spec) (sp_l_sizes : PM.Spec) (sp_l_draw : PM.Spec) (sp_cheapest_plan : PM.Spec) (sp_least_levels : PM.Spec) (sp_l_own_plan : PM.Spec) (sp_l_own_levels : PM.Spec) (sp_is_levels : PM.Spec) (sp_l_bent : PM.Spec) (sp_kept_schedule : PM.Spec) (sp_is_degree_plan : PM.Spec) (sp_rhythm_bill : PM.Spec) (sp_l_is_plan : PM.Spec) (sp_l_is_levels : PM.Spec) (sp_plan_price : PM.Spec) (sp_rhythms : PM.Spec) (sp_cheapest_rhythm : PM.Spec) : TSm :=
  (sSeq (sSet 7 (mCall sp_l_rhythms [] (mCons (mVar 21) (mCons (mVar 23) (mCons (mVar 24) (mCons (mVar 26) (mCons (mVar 25) (mCons (mVar 22) mNil)))))))) (sSeq (sSet 8 (mLc (mItems (mVar 7)) [29] (gmN 29) mYes (mOp oIx (mVar 29) (mC (.int 2))))) (sSeq (sSet 9 (mLc (mItems (mVar 7)) [29] (gmN 29) (mTB (mOp oEq (mOp oIx (mVar 29) (mC (.int 2))) (mB oMinL (mCons (mVar 8) mNil)))) (mVar 29))) (t_law_c20 ok_l_heap sp_l_pick sp_l_counted sp_l_rhythms sp_l_like sp_l_sizes sp_l_draw sp_cheapest_plan sp_least_levels sp_l_own_plan sp_l_own_levels sp_is_levels sp_l_bent sp_kept_schedule sp_is_degree_plan sp_rhythm_bill sp_l_is_plan sp_l_is_levels sp_plan_price sp_rhythms sp_cheapest_rhythm))))
def t_law_c14 (ok_l_heap : List PV → Prop) (sp_l_pick : PM.Spec) (sp_l_counted : PM.Spec) (sp_l_rhythms : PM.Spec) (sp_l_like : PM.Spec) (sp_l_sizes : PM.Spec) (sp_l_draw : PM.Spec) (sp_cheapest_plan : PM.Spec) (sp_least_levels : PM.Spec) (sp_l_own_plan : PM.Spec) (sp_l_own_levels : PM.Spec) (sp_is_levels : PM.Spec) (sp_l_bent : PM.Spec) (sp_kept_schedule : PM.Spec) (sp_is_degree_plan : PM.Spec) (sp_rhythm_bill : PM.Spec) (sp_l_is_plan : PM.Spec) (sp_l_is_levels : PM.Spec) (sp_plan_price : PM.Spec) (sp_rhythms : PM.Spec) (sp_cheapest_rhythm : PM.Spec) : TSm :=
  (sSeq (sPar [21, 22] (mCons (mOp oAdd (mC (.int 1)) (mCall sp_l_draw [] (mCons (mVar 1) (mCons (mCall sp_l_pick [] (mCons (mVar 1) (mCons (mLst (mCons (mC (.int 4)) (mCons (mC (.int 12)) (mCons (mC (.int 40)) mNil)))) mNil))) mNil)))) (mCons (mOp oAdd (mC (.int 1)) (mCall sp_l_draw [] (mCons (mVar 1) (mCons (mCall sp_l_pick [] (mCons (mVar 1) (mCons (mLst (mCons (mC (.int 3)) (mCons (mC (.int 12)) (mCons (mC (.int 40)) mNil)))) mNil))) mNil)))) mNil))) (sSeq (sPar [23, 24, 25] (mCons (mCall sp_l_draw [] (mCons (mVar 1) (mCons (mOp oAdd (mC (.int 1)) (mOp oFdiv (mVar 21) (mC (.int 3)))) mNil))) (mCons (mCall sp_l_draw [] (mCons (mVar 1) (mCons (mOp oAdd (mC (.int 1)) (mOp oFdiv (mVar 21) (mC (.int 4)))) mNil))) (mCons (mCall sp_l_draw [] (mCons (mVar 1) (mCons (mOp oAdd (mVar 21) (mC (.int 1))) mNil))) mNil)))) (sSeq (sPar [26, 23] (mCons (mOp oAdd (mC (.int 1)) (mCall sp_l_draw [] (mCons (mVar 1) (mCons (mCall sp_l_pick [] (mCons (mVar 1) (mCons (mLst (mCons (mC (.int 1)) (mCons (mC (.int 2)) (mCons (mC (.int 4)) mNil)))) mNil))) mNil)))) (mCons (mB oMin2 (mCons (mVar 23) (mCons (mOp oSub (mVar 21) (mC (.int 1))) mNil))) mNil))) (t_law_c17 ok_l_heap sp_l_pick sp_l_counted sp_l_rhythms sp_l_like sp_l_sizes sp_l_draw sp_cheapest_plan sp_least_levels sp_l_own_plan sp_l_own_levels sp_is_levels sp_l_bent sp_kept_schedule sp_is_degree_plan sp_rhythm_bill sp_l_is_plan sp_l_is_levels sp_plan_price sp_rhythms sp_cheapest_rhythm))))
def t_law_c12 (ok_l_heap : List PV → Prop) (sp_l_pick : PM.Spec) (sp_l_counted : PM.Spec) (sp_l_rhythms : PM.Spec) (sp_l_like : PM.Spec) (sp_l_sizes : PM.Spec) (sp_l_draw : PM.Spec) (sp_cheapest_plan : PM.Spec) (sp_least_levels : PM.Spec) (sp_l_own_plan : PM.Spec) (sp_l_own_levels : PM.Spec) (sp_is_levels : PM.Spec) (sp_l_bent : PM.Spec) (sp_kept_schedule : PM.Spec) (sp_is_degree_plan : PM.Spec) (sp_rhythm_bill : PM.Spec) (sp_l_is_plan : PM.Spec) (sp_l_is_levels : PM.Spec) (sp_plan_price : PM.Spec) (sp_rhythms : PM.Spec) (sp_cheapest_rhythm : PM.Spec) : TSm :=
  (sSeq (sIf (mTB (mOp oNotB (mCall sp_is_levels [] (mCons (mVar 3) (mCons (mVar 5) (mCons (mVar 19) mNil)))) (mC (.bl true)))) (sRet (mC (.bl false))) sNext) (sSeq (sFor (mRng1 (mC (.int 4))) (gmN 6) (sSeq (sSet 20 (mCall sp_l_bent [] (mCons (mVar 1) (mCons (mIf (mTB (mOp oIsN (mVar 18) (mC (.non)))) (mTup mNil) (mVar 18)) mNil)))) (sSeq (sIf (mNot (mTB (mCall sp_l_like [] (mCons (mCall sp_is_degree_plan [] (mCons (mVar 3) (mCons (mVar 5) (mCons (mVar 20) mNil)))) (mCons (mCall sp_l_is_plan [] (mCons (mVar 13) (mCons (mVar 5) (mCons (mVar 20) mNil)))) mNil))))) (sRet (mC (.bl false))) sNext) (sSeq (sSet 20 (mCall sp_l_bent [] (mCons (mVar 1) (mCons (mIf (mOr (mTB (mOp oIsN (mVar 17) (mC (.non)))) (mTB (mOp oEq (mOp oMod (mVar 6) (mC (.int 2))) (mC (.int 0))))) (mVar 19) (mVar 17)) mNil)))) (sIf (mNot (mTB (mCall sp_l_like [] (mCons (mCall sp_is_levels [] (mCons (mVar 3) (mCons (mVar 5) (mCons (mVar 20) mNil)))) (mCons (mCall sp_l_is_levels [] (mCons (mVar 13) (mCons (mVar 5) (mCons (mVar 20) mNil)))) mNil))))) (sRet (mC (.bl false))) sNext))))) (t_law_c14 ok_l_heap sp_l_pick sp_l_counted sp_l_rhythms sp_l_like sp_l_sizes sp_l_draw sp_cheapest_plan sp_least_levels sp_l_own_plan sp_l_own_levels sp_is_levels sp_l_bent sp_kept_schedule sp_is_degree_plan sp_rhythm_bill sp_l_is_plan sp_l_is_levels sp_plan_price sp_rhythms sp_cheapest_rhythm)))
def t_law_c10 (ok_l_heap : List PV → Prop) (sp_l_pick : PM.Spec) (sp_l_counted : PM.Spec) (sp_l_rhythms : PM.Spec) (sp_l_like : PM.Spec) (sp_l_sizes : PM.Spec) (sp_l_draw : PM.Spec) (sp_cheapest_plan : PM.Spec) (sp_least_levels : PM.Spec) (sp_l_own_plan : PM.Spec) (sp_l_own_levels : PM.Spec) (sp_is_levels : PM.Spec) (sp_l_bent : PM.Spec) (sp_kept_schedule : PM.Spec) (sp_is_degree_plan : PM.Spec) (sp_rhythm_bill : PM.Spec) (sp_l_is_plan : PM.Spec) (sp_l_is_levels : PM.Spec) (sp_plan_price : PM.Spec) (sp_rhythms : PM.Spec) (sp_cheapest_rhythm : PM.Spec) : TSm :=
  (sSeq (sPar [18, 19] (mCons (mCall sp_l_own_plan [] (mCons (mVar 1) (mCons (mVar 13) (mCons (mVar 5) mNil)))) (mCons (mCall sp_l_own_levels [] (mCons (mVar 1) (mCons (mVar 13) (mCons (mVar 5) mNil)))) mNil))) (sSeq (sIf (mTB (mOp oNotN (mVar 18) (mC (.non)))) (sSeq (sIf (mTB (mOp oNotB (mCall sp_is_degree_plan [] (mCons (mVar 3) (mCons (mVar 5) (mCons (mVar 18) mNil)))) (mC (.bl true)))) (sRet (mC (.bl false))) sNext) (sIf (mNot (mTB (mCall sp_l_like [] (mCons (mCall sp_plan_price [] (mCons (mVar 5) (mCons (mVar 18) mNil))) (mCons (mB oSum (mCons (mLc (mItems (mVar 18)) [29] (gmN 29) mYes (mOp oIx (mVar 5) (mOp oIx (mVar 29) (mC (.int 2))))) mNil)) mNil))))) (sRet (mC (.bl false))) sNext)) sNext) (t_law_c12 ok_l_heap sp_l_pick sp_l_counted sp_l_rhythms sp_l_like sp_l_sizes sp_l_draw sp_cheapest_plan sp_least_levels sp_l_own_plan sp_l_own_levels sp_is_levels sp_l_bent sp_kept_schedule sp_is_degree_plan sp_rhythm_bill sp_l_is_plan sp_l_is_levels sp_plan_price sp_rhythms sp_cheapest_rhythm)))
def t_law_c9 (ok_l_heap : List PV → Prop) (sp_l_pick : PM.Spec) (sp_l_counted : PM.Spec) (sp_l_rhythms : PM.Spec) (sp_l_like : PM.Spec) (sp_l_sizes : PM.Spec) (sp_l_draw : PM.Spec) (sp_cheapest_plan : PM.Spec) (sp_least_levels : PM.Spec) (sp_l_own_plan : PM.Spec) (sp_l_own_levels : PM.Spec) (sp_is_levels : PM.Spec) (sp_l_bent : PM.Spec) (sp_kept_schedule : PM.Spec) (sp_is_degree_plan : PM.Spec) (sp_rhythm_bill : PM.Spec) (sp_l_is_plan : PM.Spec) (sp_l_is_levels : PM.Spec) (sp_plan_price : PM.Spec) (sp_rhythms : PM.Spec) (sp_cheapest_rhythm : PM.Spec) : TSm :=
  (sSeq (sIf (mTB (mOp oGe (mVar 14) (mVar 4))) (sIf (mOr (mTB (mOp oNotN (mVar 16) (mC (.non)))) (mTB (mOp oNotN (mVar 17) (mC (.non))))) (sRet (mC (.bl false))) sNext) (sSeq (sIf (mOr (mNot (mTB (mCall sp_l_is_plan [] (mCons (mVar 13) (mCons (mVar 5) (mCons (mVar 16) mNil)))))) (mNot (mTB (mCall sp_l_is_levels [] (mCons (mVar 13) (mCons (mVar 5) (mCons (mVar 17) mNil))))))) (sRet (mC (.bl false))) sNext) (sIf (mOr (mTB (mOp oNe (mB oSum (mCons (mLc (mItems (mVar 16)) [29] (gmN 29) mYes (mOp oIx (mVar 5) (mOp oIx (mVar 29) (mC (.int 2))))) mNil)) (mOp oIx (mVar 17) (mOp1 oNeg (mC (.int 1)))))) (mNot (mTB (mCall sp_l_like [] (mCons (mCall sp_plan_price [] (mCons (mVar 5) (mCons (mVar 16) mNil))) (mCons (mOp oIx (mVar 17) (mOp1 oNeg (mC (.int 1)))) mNil)))))) (sRet (mC (.bl false))) sNext))) (t_law_c10 ok_l_heap sp_l_pick sp_l_counted sp_l_rhythms sp_l_like sp_l_sizes sp_l_draw sp_cheapest_plan sp_least_levels sp_l_own_plan sp_l_own_levels sp_is_levels sp_l_bent sp_kept_schedule sp_is_degree_plan sp_rhythm_bill sp_l_is_plan sp_l_is_levels sp_plan_price sp_rhythms sp_cheapest_rhythm))
def t_law_a (ok_l_heap : List PV → Prop) (sp_l_pick : PM.Spec) (sp_l_counted : PM.Spec) (sp_l_rhythms : PM.Spec) (sp_l_like : PM.Spec) (sp_l_sizes : PM.Spec) (sp_l_draw : PM.Spec) (sp_cheapest_plan : PM.Spec) (sp_least_levels : PM.Spec) (sp_l_own_plan : PM.Spec) (sp_l_own_levels : PM.Spec) (sp_is_levels : PM.Spec) (sp_l_bent : PM.Spec) (sp_kept_schedule : PM.Spec) (sp_is_degree_plan : PM.Spec) (sp_rhythm_bill : PM.Spec) (sp_l_is_plan : PM.Spec) (sp_l_is_levels : PM.Spec) (sp_plan_price : PM.Spec) (sp_rhythms : PM.Spec) (sp_cheapest_rhythm : PM.Spec) : TSm :=
  (sSeq (sSrc 1 ok_l_heap (mCons (mVar 0) mNil)) (sSeq (sSet 2 (mCall sp_l_pick [] (mCons (mVar 1) (mCons (mLst (mCons (mC (.int 1)) (mCons (mC (.int 2)) (mCons (mC (.int 3)) (mCons (mC (.int 4)) (mCons (mC (.int 6)) (mCons (mC (.int 9)) (mCons (mC (.int 16)) mNil)))))))) mNil)))) (sSeq (sSet 3 (mCall sp_l_counted [] (mCons (mVar 1) (mCons (mVar 2) mNil)))) (sSeq (sPar [13, 14] (mCons (mCall sp_l_sizes [] (mCons (mVar 3) mNil)) (mCons (mB oMaxL (mCons (mLc (mItems (mVar 3)) [32] (gmN 32) mYes (mB oLen (mCons (mVar 32) mNil))) mNil)) mNil))) (sSeq (sSet 4 (mB oMax2 (mCons (mC (.int 1)) (mCons (mOp oAdd (mOp oAdd (mVar 14) (mC (.int 1))) (mCall sp_l_pick [] (mCons (mVar 1) (mCons (mLst (mCons (mOp1 oNeg (mC (.int 1))) (mCons (mC (.int 0)) (mCons (mC (.int 0)) (mCons (mC (.int 1)) (mCons (mC (.int 2)) (mCons (mC (.int 3)) (mCons (mC (.int 5)) mNil)))))))) mNil)))) mNil)))) (sSeq (sPar [5, 15] (mCons (mLc (mRng1 (mVar 4)) [30] (gmN 30) mYes (mCall sp_l_draw [] (mCons (mVar 1) (mCons (mCall sp_l_pick [] (mCons (mVar 1) (mCons (mLst (mCons (mC (.int 1)) (mCons (mC (.int 5)) (mCons (mC (.int 30)) (mCons (mC (.int 900)) mNil))))) mNil))) mNil)))) (mCons (mCall sp_l_draw [] (mCons (mVar 1) (mCons (mC (.int 3)) mNil))) mNil))) (sSeq (sSet 5 (mB oTuple (mCons (mOp oIx (mLst (mCons (mB oSorted (mCons (mVar 5) mNil)) (mCons (mOp1 oRev (mB oSorted (mCons (mVar 5) mNil))) (mCons (mVar 5) mNil)))) (mVar 15)) mNil))) (sSeq (sPar [16, 17] (mCons (mCall sp_cheapest_plan [] (mCons (mVar 3) (mCons (mVar 5) mNil))) (mCons (mCall sp_least_levels [] (mCons (mVar 3) (mCons (mVar 5) mNil))) mNil))) (t_law_c9 ok_l_heap sp_l_pick sp_l_counted sp_l_rhythms sp_l_like sp_l_sizes sp_l_draw sp_cheapest_plan sp_least_levels sp_l_own_plan sp_l_own_levels sp_is_levels sp_l_bent sp_kept_schedule sp_is_degree_plan sp_rhythm_bill sp_l_is_plan sp_l_is_levels sp_plan_price sp_rhythms sp_cheapest_rhythm)))))))))
theorem t_law_eq (ok_l_heap : List PV → Prop) (sp_l_pick : PM.Spec) (sp_l_counted : PM.Spec) (sp_l_rhythms : PM.Spec) (sp_l_like : PM.Spec) (sp_l_sizes : PM.Spec) (sp_l_draw : PM.Spec) (sp_cheapest_plan : PM.Spec) (sp_least_levels : PM.Spec) (sp_l_own_plan : PM.Spec) (sp_l_own_levels : PM.Spec) (sp_is_levels : PM.Spec) (sp_l_bent : PM.Spec) (sp_kept_schedule : PM.Spec) (sp_is_degree_plan : PM.Spec) (sp_rhythm_bill : PM.Spec) (sp_l_is_plan : PM.Spec) (sp_l_is_levels : PM.Spec) (sp_plan_price : PM.Spec) (sp_rhythms : PM.Spec) (sp_cheapest_rhythm : PM.Spec) : t_law ok_l_heap sp_l_pick sp_l_counted sp_l_rhythms sp_l_like sp_l_sizes sp_l_draw sp_cheapest_plan sp_least_levels sp_l_own_plan sp_l_own_levels sp_is_levels sp_l_bent sp_kept_schedule sp_is_degree_plan sp_rhythm_bill sp_l_is_plan sp_l_is_levels sp_plan_price sp_rhythms sp_cheapest_rhythm = t_law_a ok_l_heap sp_l_pick sp_l_counted sp_l_rhythms sp_l_like sp_l_sizes sp_l_draw sp_cheapest_plan sp_least_levels sp_l_own_plan sp_l_own_levels sp_is_levels sp_l_bent sp_kept_schedule sp_is_degree_plan sp_rhythm_bill sp_l_is_plan sp_l_is_levels sp_plan_price sp_rhythms sp_cheapest_rhythm := rfl
end K46

set_option maxHeartbeats 8000000
namespace K46
open PySem L2 PM
theorem oMax_most {lots : List (List Int)} {P : PV → Prop} (h0 : lots ≠ []) (h : ∀ m : Nat, (∃ l ∈ lots, l.length = m) → (∀ l ∈ lots, l.length ≤ m) → P (.int m)) : oMaxL [.lst (lots.map fun l => .int (l.length : Int))] P := by
  refine ⟨lots.map fun l => (l.length : Int), by rw [List.map_map]; rfl, by rw [List.length_map]; exact List.length_pos_iff.mpr h0, fun m hm hle => ?_⟩
  obtain ⟨l, hl, rfl⟩ := List.mem_map.mp hm
  refine h l.length ⟨l, hl, rfl⟩ fun l' hl' => ?_
  have := hle _ (List.mem_map.mpr ⟨l', hl', rfl⟩)
  omega
def ok_heap : List PV → Prop := fun ps => ∃ ns : List Int, ps = [.scr ns] ∧ ns.length ≤ 63
theorem lk_int {n : Nat} {i : Int} : Lk n (.int i) := by cases n <;> trivial
theorem lk_ints {n : Nat} {ns : List Int} (h : ns.length ≤ 1000) : Lk (n + 1) (tI ns) := ⟨by rw [List.length_map]; exact h, fun x hx => by
  obtain ⟨i, _, rfl⟩ := List.mem_map.mp hx
  exact lk_int⟩
theorem lk_rr {n : Nat} {x : R3} : Lk (n + 1) (rr x) := lk_ints (ns := [x.1, x.2.1, x.2.2]) (by simp)
theorem rhy_len {k f l d c : Int} {maps : Nat} : (rhy k f l d c maps).length ≤ maps := by
  have := stepR_len (k := k) (f := f) (l := l) (d := d) (c := c) (maps := maps) (xs := rng1 maps) (acc := [])
  unfold rng1 at this
  simp at this
  exact this
theorem mults_le {maps : Nat} {r : Int} : (mults maps r).length ≤ maps := by
  unfold mults
  have := List.length_filter_le (fun x => decide (x % r = 0)) (rng1 (maps - 1))
  unfold rng1 at this ⊢
  rw [List.length_map, List.length_range] at this
  omega
theorem sizeR {a : Int} {n : Nat} (h : n = (a - 1).toNat) : rngP 1 (a - 1).toNat = (rng1 n).map PV.int := by rw [← h, rngP_rng1]
theorem h_c23 (k f l c d : Int) (long : Nat) (hk1 : 1 ≤ k) (hk : k ≤ 40) (hn1 : 1 ≤ long) (hn : long ≤ 40) (hf0 : 0 ≤ f) (hf : f ≤ 40) (hl0 : 0 ≤ l) (hl : l ≤ 40) (hc0 : 0 ≤ c) (hc : c ≤ 40) (hd1 : 1 ≤ d) (hd : d ≤ 4) (v0 v2 v3 v4 v5 v6 v7 v8 v9 v10 v12 v13 v14 v15 v16 v17 v18 v19 v20 v27 v28 : Option PV) : t_law_c23 ok_heap sp_pick sp_l_counted sp_l_rhythms (spk 3) sp_l_sizes sp_drw sp_cheapest_plan sp_least_levels sp_l_own_plan sp_l_own_levels sp_is_levels sp_l_bent sp_kept_schedule sp_is_degree_plan sp_rhythm_bill sp_l_is_plan sp_l_is_levels sp_plan_price sp_rhythms sp_cheapest_rhythm { nx := fun _ => False, rt := fun p => p = .bl true } [v0, some .src, v2, v3, v4, v5, v6, v7, v8, v9, v10, some (bS long (bestR (rhy k f l d c long))), v12, v13, v14, v15, v16, v17, v18, v19, v20, some (.int k), some (.int (long : Int)), some (.int f), some (.int l), some (.int c), some (.int d), v27, v28, none, none, none, none] := by
  have hRD : RD k f l d c long := ⟨⟨by omega, by omega⟩, ⟨by omega, by omega⟩, ⟨by omega, by omega⟩, ⟨by omega, by omega⟩, ⟨by omega, by omega⟩, by omega⟩
  unfold t_law_c23
  try simp only [s_mVar0, s_mVarS, s_mVarO0, s_mVarOS, s_isObj_lst, s_isObj_dic, s_mC, s_mOp, s_mOp1, s_mB, s_mNil, s_mCons, s_mTup, s_mLst, s_mCall, s_mTB, s_mNot, s_mAnd, s_mOr, s_mAndV, s_mOrV, s_mIf, s_mYes, s_mSl, s_mNo, s_mPart, s_mLc, s_mItems, s_mRng1, s_mRng2, s_mEnum, s_mChain, s_seqT, s_seqL, s_sNext, s_sSeq, s_sIf, s_sSet, s_sRet, s_sRetN, s_sBreak, s_sCont, s_sDrop, s_sPar, s_setN0, s_setNS, s_sAsg, s_sApp, s_sAug, s_sFor, s_sSrc, s_gmN, s_gmT, s_gmCons, s_gmNil, s_wipe0, s_wipeS, s_oSub, s_oAddI, s_oAdd, s_oLt, s_oLe, s_oGt, s_oGe, s_oNeg, s_oNot, s_oMul, s_oMulW, s_oMod, s_oFdiv, s_oPow, s_oIsN, s_oNotN, s_oIsB, s_oNotB, s_isNon_int, s_isNon_non, s_isNon_bl, s_isNon_str, s_isNon_tup, s_isNon_lst, s_isNon_dic, s_oEqI, s_oNeI, s_oIxT, s_oIxL, s_oSlT, s_oSlL, s_oRevT, s_oRevL, s_oInt, s_oIntB, s_oAbs, s_oMax2, s_oMin2, s_oLen, s_plenT, s_plenL, s_plenD, s_plenS, s_oTupleL, s_oTupleT, s_oListL, s_oListT, List.set_cons_succ, List.set_cons_zero, List.append_nil, true_and, x_bl, x_int, x_some, x_addT, x_addL, x_true, x_false]
  refine ⟨_, rfl, by omega, by omega, fun t t0 t1 => ⟨_, rfl, by omega, by omega, fun r r0 r1 => ?_⟩⟩
  try simp only [s_mVar0, s_mVarS, s_mVarO0, s_mVarOS, s_isObj_lst, s_isObj_dic, s_mC, s_mOp, s_mOp1, s_mB, s_mNil, s_mCons, s_mTup, s_mLst, s_mCall, s_mTB, s_mNot, s_mAnd, s_mOr, s_mAndV, s_mOrV, s_mIf, s_mYes, s_mSl, s_mNo, s_mPart, s_mLc, s_mItems, s_mRng1, s_mRng2, s_mEnum, s_mChain, s_seqT, s_seqL, s_sNext, s_sSeq, s_sIf, s_sSet, s_sRet, s_sRetN, s_sBreak, s_sCont, s_sDrop, s_sPar, s_setN0, s_setNS, s_sAsg, s_sApp, s_sAug, s_sFor, s_sSrc, s_gmN, s_gmT, s_gmCons, s_gmNil, s_wipe0, s_wipeS, s_oSub, s_oAddI, s_oAdd, s_oLt, s_oLe, s_oGt, s_oGe, s_oNeg, s_oNot, s_oMul, s_oMulW, s_oMod, s_oFdiv, s_oPow, s_oIsN, s_oNotN, s_oIsB, s_oNotB, s_isNon_int, s_isNon_non, s_isNon_bl, s_isNon_str, s_isNon_tup, s_isNon_lst, s_isNon_dic, s_oEqI, s_oNeI, s_oIxT, s_oIxL, s_oSlT, s_oSlL, s_oRevT, s_oRevL, s_oInt, s_oIntB, s_oAbs, s_oMax2, s_oMin2, s_oLen, s_plenT, s_plenL, s_plenD, s_plenS, s_oTupleL, s_oTupleT, s_oListL, s_oListT, List.set_cons_succ, List.set_cons_zero, List.append_nil, true_and, x_bl, x_int, x_some, x_addT, x_addL, x_true, x_false]
  refine ⟨_, _, rfl, rfl, by omega, ?_⟩
  rw [show ((long : Int) - 1).toNat = long - 1 by omega, rngP_rng1]
  refine comp_emb (tst := fun y => decide (y % (1 + r) = 0)) (f := PV.int) (fun y hy => ⟨_, fun k hk => s_gmN.mpr hk, fun Q hQ => ?_, fun _ Q hQ => ?_⟩) ?_ ?_
  · try simp only [s_mVar0, s_mVarS, s_mVarO0, s_mVarOS, s_isObj_lst, s_isObj_dic, s_mC, s_mOp, s_mOp1, s_mB, s_mNil, s_mCons, s_mTup, s_mLst, s_mCall, s_mTB, s_mNot, s_mAnd, s_mOr, s_mAndV, s_mOrV, s_mIf, s_mYes, s_mSl, s_mNo, s_mPart, s_mLc, s_mItems, s_mRng1, s_mRng2, s_mEnum, s_mChain, s_seqT, s_seqL, s_sNext, s_sSeq, s_sIf, s_sSet, s_sRet, s_sRetN, s_sBreak, s_sCont, s_sDrop, s_sPar, s_setN0, s_setNS, s_sAsg, s_sApp, s_sAug, s_sFor, s_sSrc, s_gmN, s_gmT, s_gmCons, s_gmNil, s_wipe0, s_wipeS, s_oSub, s_oAddI, s_oAdd, s_oLt, s_oLe, s_oGt, s_oGe, s_oNeg, s_oNot, s_oMul, s_oMulW, s_oMod, s_oFdiv, s_oPow, s_oIsN, s_oNotN, s_oIsB, s_oNotB, s_isNon_int, s_isNon_non, s_isNon_bl, s_isNon_str, s_isNon_tup, s_isNon_lst, s_isNon_dic, s_oEqI, s_oNeI, s_oIxT, s_oIxL, s_oSlT, s_oSlL, s_oRevT, s_oRevL, s_oInt, s_oIntB, s_oAbs, s_oMax2, s_oMin2, s_oLen, s_plenT, s_plenL, s_plenD, s_plenS, s_oTupleL, s_oTupleT, s_oListL, s_oListT, List.set_cons_succ, List.set_cons_zero, List.append_nil, true_and, x_bl, x_int, x_some, x_addT, x_addL, x_true, x_false]
    exact ⟨by omega, hQ⟩
  · try simp only [s_mVar0, s_mVarS, s_mVarO0, s_mVarOS, s_isObj_lst, s_isObj_dic, s_mC, s_mOp, s_mOp1, s_mB, s_mNil, s_mCons, s_mTup, s_mLst, s_mCall, s_mTB, s_mNot, s_mAnd, s_mOr, s_mAndV, s_mOrV, s_mIf, s_mYes, s_mSl, s_mNo, s_mPart, s_mLc, s_mItems, s_mRng1, s_mRng2, s_mEnum, s_mChain, s_seqT, s_seqL, s_sNext, s_sSeq, s_sIf, s_sSet, s_sRet, s_sRetN, s_sBreak, s_sCont, s_sDrop, s_sPar, s_setN0, s_setNS, s_sAsg, s_sApp, s_sAug, s_sFor, s_sSrc, s_gmN, s_gmT, s_gmCons, s_gmNil, s_wipe0, s_wipeS, s_oSub, s_oAddI, s_oAdd, s_oLt, s_oLe, s_oGt, s_oGe, s_oNeg, s_oNot, s_oMul, s_oMulW, s_oMod, s_oFdiv, s_oPow, s_oIsN, s_oNotN, s_oIsB, s_oNotB, s_isNon_int, s_isNon_non, s_isNon_bl, s_isNon_str, s_isNon_tup, s_isNon_lst, s_isNon_dic, s_oEqI, s_oNeI, s_oIxT, s_oIxL, s_oSlT, s_oSlL, s_oRevT, s_oRevL, s_oInt, s_oIntB, s_oAbs, s_oMax2, s_oMin2, s_oLen, s_plenT, s_plenL, s_plenD, s_plenS, s_oTupleL, s_oTupleT, s_oListL, s_oListT, List.set_cons_succ, List.set_cons_zero, List.append_nil, true_and, x_bl, x_int, x_some, x_addT, x_addL, x_true, x_false]
    exact hQ
  · refine line ?_
    unfold rng1
    simp
    omega
  · rw [List.nil_append, show ((rng1 (long - 1)).filter fun y => decide (y % (1 + r) = 0)) = mults long (1 + r) from rfl]
    try simp only [s_mVar0, s_mVarS, s_mVarO0, s_mVarOS, s_isObj_lst, s_isObj_dic, s_mC, s_mOp, s_mOp1, s_mB, s_mNil, s_mCons, s_mTup, s_mLst, s_mCall, s_mTB, s_mNot, s_mAnd, s_mOr, s_mAndV, s_mOrV, s_mIf, s_mYes, s_mSl, s_mNo, s_mPart, s_mLc, s_mItems, s_mRng1, s_mRng2, s_mEnum, s_mChain, s_seqT, s_seqL, s_sNext, s_sSeq, s_sIf, s_sSet, s_sRet, s_sRetN, s_sBreak, s_sCont, s_sDrop, s_sPar, s_setN0, s_setNS, s_sAsg, s_sApp, s_sAug, s_sFor, s_sSrc, s_gmN, s_gmT, s_gmCons, s_gmNil, s_wipe0, s_wipeS, s_oSub, s_oAddI, s_oAdd, s_oLt, s_oLe, s_oGt, s_oGe, s_oNeg, s_oNot, s_oMul, s_oMulW, s_oMod, s_oFdiv, s_oPow, s_oIsN, s_oNotN, s_oIsB, s_oNotB, s_isNon_int, s_isNon_non, s_isNon_bl, s_isNon_str, s_isNon_tup, s_isNon_lst, s_isNon_dic, s_oEqI, s_oNeI, s_oIxT, s_oIxL, s_oSlT, s_oSlL, s_oRevT, s_oRevL, s_oInt, s_oIntB, s_oAbs, s_oMax2, s_oMin2, s_oLen, s_plenT, s_plenL, s_plenD, s_plenS, s_oTupleL, s_oTupleT, s_oListL, s_oListT, List.set_cons_succ, List.set_cons_zero, List.append_nil, true_and, x_bl, x_int, x_some, x_addT, x_addL, x_true, x_false]
    rw [List.length_map, mults_len hn1 (by omega)]
    have a1 : 0 ≤ ((long : Int) - 1) / (1 + r) := Int.ediv_nonneg (by omega) (by omega)
    have a2 : ((long : Int) - 1) / (1 + r) ≤ (long : Int) - 1 := Int.ediv_le_self _ (by omega)
    have eb : rbill k c t long (1 + r) = ((long : Int) - 1) / (1 + r) * k * k * (t + 1) + ((long : Int) - 1 - ((long : Int) - 1) / (1 + r)) * c * (t + 1) := by
      unfold rbill
      rw [← Int.mul_assoc, ← Int.mul_assoc]
    obtain ⟨q, hqq⟩ : ∃ q, q = ((long : Int) - 1) / (1 + r) := ⟨_, rfl⟩
    rw [← hqq] at a1 a2 eb ⊢
    have hq : S6 q := by unfold S6; omega
    refine ⟨k, c, t, long, 1 + r, rfl, ⟨by omega, by omega⟩, ⟨by unfold S6; omega, by unfold S6; omega, by unfold S6; omega, ?_⟩, ?_⟩
    · rw [← hqq]; exact hq
    refine ⟨cmL hq, cmR (by omega), cmR (by omega), cmR (by omega), cmR (by omega), ?_⟩
    rw [eb]
    refine ⟨_, rfl, lk_int, ?_⟩
    try simp only [s_mVar0, s_mVarS, s_mVarO0, s_mVarOS, s_isObj_lst, s_isObj_dic, s_mC, s_mOp, s_mOp1, s_mB, s_mNil, s_mCons, s_mTup, s_mLst, s_mCall, s_mTB, s_mNot, s_mAnd, s_mOr, s_mAndV, s_mOrV, s_mIf, s_mYes, s_mSl, s_mNo, s_mPart, s_mLc, s_mItems, s_mRng1, s_mRng2, s_mEnum, s_mChain, s_seqT, s_seqL, s_sNext, s_sSeq, s_sIf, s_sSet, s_sRet, s_sRetN, s_sBreak, s_sCont, s_sDrop, s_sPar, s_setN0, s_setNS, s_sAsg, s_sApp, s_sAug, s_sFor, s_sSrc, s_gmN, s_gmT, s_gmCons, s_gmNil, s_wipe0, s_wipeS, s_oSub, s_oAddI, s_oAdd, s_oLt, s_oLe, s_oGt, s_oGe, s_oNeg, s_oNot, s_oMul, s_oMulW, s_oMod, s_oFdiv, s_oPow, s_oIsN, s_oNotN, s_oIsB, s_oNotB, s_isNon_int, s_isNon_non, s_isNon_bl, s_isNon_str, s_isNon_tup, s_isNon_lst, s_isNon_dic, s_oEqI, s_oNeI, s_oIxT, s_oIxL, s_oSlT, s_oSlL, s_oRevT, s_oRevL, s_oInt, s_oIntB, s_oAbs, s_oMax2, s_oMin2, s_oLen, s_plenT, s_plenL, s_plenD, s_plenS, s_oTupleL, s_oTupleT, s_oListL, s_oListT, List.set_cons_succ, List.set_cons_zero, List.append_nil, true_and, x_bl, x_int, x_some, x_addT, x_addL, x_true, x_false]
    refine ⟨k, f, l, d, c, long, rfl, hRD, _, rfl, ?_, rfl⟩
    cases hb : bestR (rhy k f l d c long) with
    | none => trivial
    | some y => exact lk_ints (Nat.le_trans (by unfold sched; rw [List.length_map]; exact mults_le) (by omega : long ≤ 1000))
theorem h_c22 (k f l c d : Int) (long : Nat) (hk1 : 1 ≤ k) (hk : k ≤ 40) (hn1 : 1 ≤ long) (hn : long ≤ 40) (hf0 : 0 ≤ f) (hf : f ≤ 40) (hl0 : 0 ≤ l) (hl : l ≤ 40) (hc0 : 0 ≤ c) (hc : c ≤ 40) (hd1 : 1 ≤ d) (hd : d ≤ 4) (v0 v2 v3 v4 v5 v6 v8 v9 v12 v13 v14 v15 v16 v17 v18 v19 v20 v27 v28 : Option PV) : t_law_c22 ok_heap sp_pick sp_l_counted sp_l_rhythms (spk 3) sp_l_sizes sp_drw sp_cheapest_plan sp_least_levels sp_l_own_plan sp_l_own_levels sp_is_levels sp_l_bent sp_kept_schedule sp_is_degree_plan sp_rhythm_bill sp_l_is_plan sp_l_is_levels sp_plan_price sp_rhythms sp_cheapest_rhythm { nx := fun _ => False, rt := fun p => p = .bl true } [v0, some .src, v2, v3, v4, v5, v6, some (.tup ((rhy k f l d c long).map rr)), v8, v9, some (bR (bestR (rhy k f l d c long))), some (bS long (bestR (rhy k f l d c long))), v12, v13, v14, v15, v16, v17, v18, v19, v20, some (.int k), some (.int (long : Int)), some (.int f), some (.int l), some (.int c), some (.int d), v27, v28, none, none, none, none] := by
  have hRD : RD k f l d c long := ⟨⟨by omega, by omega⟩, ⟨by omega, by omega⟩, ⟨by omega, by omega⟩, ⟨by omega, by omega⟩, ⟨by omega, by omega⟩, by omega⟩
  unfold t_law_c22
  try simp only [s_mVar0, s_mVarS, s_mVarO0, s_mVarOS, s_isObj_lst, s_isObj_dic, s_mC, s_mOp, s_mOp1, s_mB, s_mNil, s_mCons, s_mTup, s_mLst, s_mCall, s_mTB, s_mNot, s_mAnd, s_mOr, s_mAndV, s_mOrV, s_mIf, s_mYes, s_mSl, s_mNo, s_mPart, s_mLc, s_mItems, s_mRng1, s_mRng2, s_mEnum, s_mChain, s_seqT, s_seqL, s_sNext, s_sSeq, s_sIf, s_sSet, s_sRet, s_sRetN, s_sBreak, s_sCont, s_sDrop, s_sPar, s_setN0, s_setNS, s_sAsg, s_sApp, s_sAug, s_sFor, s_sSrc, s_gmN, s_gmT, s_gmCons, s_gmNil, s_wipe0, s_wipeS, s_oSub, s_oAddI, s_oAdd, s_oLt, s_oLe, s_oGt, s_oGe, s_oNeg, s_oNot, s_oMul, s_oMulW, s_oMod, s_oFdiv, s_oPow, s_oIsN, s_oNotN, s_oIsB, s_oNotB, s_isNon_int, s_isNon_non, s_isNon_bl, s_isNon_str, s_isNon_tup, s_isNon_lst, s_isNon_dic, s_oEqI, s_oNeI, s_oIxT, s_oIxL, s_oSlT, s_oSlL, s_oRevT, s_oRevL, s_oInt, s_oIntB, s_oAbs, s_oMax2, s_oMin2, s_oLen, s_plenT, s_plenL, s_plenD, s_plenS, s_oTupleL, s_oTupleT, s_oListL, s_oListT, List.set_cons_succ, List.set_cons_zero, List.append_nil, true_and, x_bl, x_int, x_some, x_addT, x_addL, x_true, x_false]
  refine ⟨k, f, l, d, c, long, rfl, hRD, _, rfl, ⟨by rw [List.length_map]; exact Nat.le_trans rhy_len (by omega), fun x hx => ?_⟩, ?_⟩
  · obtain ⟨y, _, rfl⟩ := List.mem_map.mp hx
    exact lk_rr
  try simp only [s_mVar0, s_mVarS, s_mVarO0, s_mVarOS, s_isObj_lst, s_isObj_dic, s_mC, s_mOp, s_mOp1, s_mB, s_mNil, s_mCons, s_mTup, s_mLst, s_mCall, s_mTB, s_mNot, s_mAnd, s_mOr, s_mAndV, s_mOrV, s_mIf, s_mYes, s_mSl, s_mNo, s_mPart, s_mLc, s_mItems, s_mRng1, s_mRng2, s_mEnum, s_mChain, s_seqT, s_seqL, s_sNext, s_sSeq, s_sIf, s_sSet, s_sRet, s_sRetN, s_sBreak, s_sCont, s_sDrop, s_sPar, s_setN0, s_setNS, s_sAsg, s_sApp, s_sAug, s_sFor, s_sSrc, s_gmN, s_gmT, s_gmCons, s_gmNil, s_wipe0, s_wipeS, s_oSub, s_oAddI, s_oAdd, s_oLt, s_oLe, s_oGt, s_oGe, s_oNeg, s_oNot, s_oMul, s_oMulW, s_oMod, s_oFdiv, s_oPow, s_oIsN, s_oNotN, s_oIsB, s_oNotB, s_isNon_int, s_isNon_non, s_isNon_bl, s_isNon_str, s_isNon_tup, s_isNon_lst, s_isNon_dic, s_oEqI, s_oNeI, s_oIxT, s_oIxL, s_oSlT, s_oSlL, s_oRevT, s_oRevL, s_oInt, s_oIntB, s_oAbs, s_oMax2, s_oMin2, s_oLen, s_plenT, s_plenL, s_plenD, s_plenS, s_oTupleL, s_oTupleT, s_oListL, s_oListT, List.set_cons_succ, List.set_cons_zero, List.append_nil, true_and, x_bl, x_int, x_some, x_addT, x_addL, x_true, x_false]
  refine ⟨k, f, l, d, c, long, rfl, hRD, _, rfl, ?_, ?_⟩
  · cases hb : bestR (rhy k f l d c long) with
    | none => trivial
    | some y => exact lk_rr
  try simp only [s_mVar0, s_mVarS, s_mVarO0, s_mVarOS, s_isObj_lst, s_isObj_dic, s_mC, s_mOp, s_mOp1, s_mB, s_mNil, s_mCons, s_mTup, s_mLst, s_mCall, s_mTB, s_mNot, s_mAnd, s_mOr, s_mAndV, s_mOrV, s_mIf, s_mYes, s_mSl, s_mNo, s_mPart, s_mLc, s_mItems, s_mRng1, s_mRng2, s_mEnum, s_mChain, s_seqT, s_seqL, s_sNext, s_sSeq, s_sIf, s_sSet, s_sRet, s_sRetN, s_sBreak, s_sCont, s_sDrop, s_sPar, s_setN0, s_setNS, s_sAsg, s_sApp, s_sAug, s_sFor, s_sSrc, s_gmN, s_gmT, s_gmCons, s_gmNil, s_wipe0, s_wipeS, s_oSub, s_oAddI, s_oAdd, s_oLt, s_oLe, s_oGt, s_oGe, s_oNeg, s_oNot, s_oMul, s_oMulW, s_oMod, s_oFdiv, s_oPow, s_oIsN, s_oNotN, s_oIsB, s_oNotB, s_isNon_int, s_isNon_non, s_isNon_bl, s_isNon_str, s_isNon_tup, s_isNon_lst, s_isNon_dic, s_oEqI, s_oNeI, s_oIxT, s_oIxL, s_oSlT, s_oSlL, s_oRevT, s_oRevL, s_oInt, s_oIntB, s_oAbs, s_oMax2, s_oMin2, s_oLen, s_plenT, s_plenL, s_plenD, s_plenS, s_oTupleL, s_oTupleT, s_oListL, s_oListT, List.set_cons_succ, List.set_cons_zero, List.append_nil, true_and, x_bl, x_int, x_some, x_addT, x_addL, x_true, x_false]
  exact h_c23 k f l c d long hk1 hk hn1 hn hf0 hf hl0 hl hc0 hc hd1 hd _ _ _ _ _ _ _ _ _ _ _ _ _ _ _ _ _ _ _ _ _
theorem toD_rr (x : R3) : toD (rr x) = some (.tuple [.int x.1, .int x.2.1, .int x.2.2]) := rfl
theorem lay_rr (x : R3) : PyData.canLay0 (.tuple [.int x.1, .int x.2.1, .int x.2.2]) = true ∧ PyData.depth (.tuple [.int x.1, .int x.2.1, .int x.2.2]) ≤ 1 := ⟨rfl, Nat.le_refl _⟩
theorem h_c20 (k f l c d : Int) (long : Nat) (hk1 : 1 ≤ k) (hk : k ≤ 40) (hn1 : 1 ≤ long) (hn : long ≤ 40) (hf0 : 0 ≤ f) (hf : f ≤ 40) (hl0 : 0 ≤ l) (hl : l ≤ 40) (hc0 : 0 ≤ c) (hc : c ≤ 40) (hd1 : 1 ≤ d) (hd : d ≤ 4) (v0 v2 v3 v4 v5 v6 v8 v10 v11 v12 v13 v14 v15 v16 v17 v18 v19 v20 v27 v28 : Option PV) : t_law_c20 ok_heap sp_pick sp_l_counted sp_l_rhythms (spk 3) sp_l_sizes sp_drw sp_cheapest_plan sp_least_levels sp_l_own_plan sp_l_own_levels sp_is_levels sp_l_bent sp_kept_schedule sp_is_degree_plan sp_rhythm_bill sp_l_is_plan sp_l_is_levels sp_plan_price sp_rhythms sp_cheapest_rhythm { nx := fun _ => False, rt := fun p => p = .bl true } [v0, some .src, v2, v3, v4, v5, v6, some (.tup ((rhy k f l d c long).map rr)), v8, some (.lst (((rhy k f l d c long).filter fun z => decide (z.2.2 = (omin ((rhy k f l d c long).map fun z => z.2.2)).getD 0)).map rr)), v10, v11, v12, v13, v14, v15, v16, v17, v18, v19, v20, some (.int k), some (.int (long : Int)), some (.int f), some (.int l), some (.int c), some (.int d), v27, v28, none, none, none, none] := by
  unfold t_law_c20
  try simp only [s_mVar0, s_mVarS, s_mVarO0, s_mVarOS, s_isObj_lst, s_isObj_dic, s_mC, s_mOp, s_mOp1, s_mB, s_mNil, s_mCons, s_mTup, s_mLst, s_mCall, s_mTB, s_mNot, s_mAnd, s_mOr, s_mAndV, s_mOrV, s_mIf, s_mYes, s_mSl, s_mNo, s_mPart, s_mLc, s_mItems, s_mRng1, s_mRng2, s_mEnum, s_mChain, s_seqT, s_seqL, s_sNext, s_sSeq, s_sIf, s_sSet, s_sRet, s_sRetN, s_sBreak, s_sCont, s_sDrop, s_sPar, s_setN0, s_setNS, s_sAsg, s_sApp, s_sAug, s_sFor, s_sSrc, s_gmN, s_gmT, s_gmCons, s_gmNil, s_wipe0, s_wipeS, s_oSub, s_oAddI, s_oAdd, s_oLt, s_oLe, s_oGt, s_oGe, s_oNeg, s_oNot, s_oMul, s_oMulW, s_oMod, s_oFdiv, s_oPow, s_oIsN, s_oNotN, s_oIsB, s_oNotB, s_isNon_int, s_isNon_non, s_isNon_bl, s_isNon_str, s_isNon_tup, s_isNon_lst, s_isNon_dic, s_oEqI, s_oNeI, s_oIxT, s_oIxL, s_oSlT, s_oSlL, s_oRevT, s_oRevL, s_oInt, s_oIntB, s_oAbs, s_oMax2, s_oMin2, s_oLen, s_plenT, s_plenL, s_plenD, s_plenS, s_oTupleL, s_oTupleT, s_oListL, s_oListT, List.set_cons_succ, List.set_cons_zero, List.append_nil, true_and, x_bl, x_int, x_some, x_addT, x_addL, x_true, x_false]
  cases hb : bestR (rhy k f l d c long) with
  | none =>
    have e := bestR_none.mp hb
    have h22 := h_c22 k f l c d long hk1 hk hn1 hn hf0 hf hl0 hl hc0 hc hd1 hd v0 v2 v3 v4 v5 v6 v8 (some (.lst (((rhy k f l d c long).filter fun z => decide (z.2.2 = (omin ((rhy k f l d c long).map fun z => z.2.2)).getD 0)).map rr))) v12 v13 v14 v15 v16 v17 v18 v19 v20 v27 v28
    rw [hb] at h22
    refine ⟨Nat.zero_le _, oEqT_nil toD_rr lay_rr (by decide) ⟨_, rfl, ite_t (by rw [e]; rfl) ⟨Nat.zero_le _, oEqT_nil toD_rr lay_rr (by decide) ⟨_, rfl, ite_t (by rw [e]; rfl) ?_⟩⟩⟩⟩
    exact h22
  | some y =>
    have h22 := h_c22 k f l c d long hk1 hk hn1 hn hf0 hf hl0 hl hc0 hc hd1 hd v0 v2 v3 v4 v5 v6 v8 (some (.lst (((rhy k f l d c long).filter fun z => decide (z.2.2 = (omin ((rhy k f l d c long).map fun z => z.2.2)).getD 0)).map rr))) v12 v13 v14 v15 v16 v17 v18 v19 v20 v27 v28
    rw [hb] at h22
    have hne : rhy k f l d c long ≠ [] := fun z => by rw [bestR_none.mpr z] at hb; cases hb
    have hie : ¬ (rhy k f l d c long).isEmpty = true := fun z => hne (List.isEmpty_iff.mp z)
    obtain ⟨m, hm⟩ : ∃ m, omin ((rhy k f l d c long).map fun z => z.2.2) = some m := by
      cases q : omin ((rhy k f l d c long).map fun z => z.2.2) with
      | some m => exact ⟨m, rfl⟩
      | none =>
        have := omin_none.mp q
        exact absurd (List.map_eq_nil_iff.mp this) hne
    have hh := bestR_head hne hm
    rw [hb] at hh
    obtain ⟨tl, htl⟩ : ∃ tl, ((rhy k f l d c long).filter fun z => decide (z.2.2 = m)) = y :: tl := List.head?_eq_some_iff.mp hh.symm
    have hy := rhy_mem (bestR_mem hb)
    refine ⟨Nat.zero_le _, oEqT_nil toD_rr lay_rr (by decide) ⟨_, rfl, ite_f hie ⟨rr y, ?_, ⟨Nat.zero_le _, oEqT_nil toD_rr lay_rr (by decide) ⟨_, rfl, ite_f hie ?_⟩⟩⟩⟩⟩
    · rw [hm]
      show atI (((rhy k f l d c long).filter fun z => decide (z.2.2 = m)).map rr) 0 = some (rr y)
      rw [htl, List.map_cons, show (0 : Int) = ((0 : Nat) : Int) from rfl, atI_pos (by simp)]; rfl
    refine ⟨_, _, rfl, rfl, by omega, ?_⟩
    rw [show ((long : Int) - 1).toNat = long - 1 by omega, rngP_rng1]
    refine comp_emb (tst := fun z => decide (z % y.1 = 0)) (f := fun z => .int (z - 1)) (fun y hy => ⟨_, fun k hk => s_gmN.mpr hk, fun Q hQ => ?_, fun _ Q hQ => ?_⟩) ?_ ?_
    · unfold rr
      try simp only [s_mVar0, s_mVarS, s_mVarO0, s_mVarOS, s_isObj_lst, s_isObj_dic, s_mC, s_mOp, s_mOp1, s_mB, s_mNil, s_mCons, s_mTup, s_mLst, s_mCall, s_mTB, s_mNot, s_mAnd, s_mOr, s_mAndV, s_mOrV, s_mIf, s_mYes, s_mSl, s_mNo, s_mPart, s_mLc, s_mItems, s_mRng1, s_mRng2, s_mEnum, s_mChain, s_seqT, s_seqL, s_sNext, s_sSeq, s_sIf, s_sSet, s_sRet, s_sRetN, s_sBreak, s_sCont, s_sDrop, s_sPar, s_setN0, s_setNS, s_sAsg, s_sApp, s_sAug, s_sFor, s_sSrc, s_gmN, s_gmT, s_gmCons, s_gmNil, s_wipe0, s_wipeS, s_oSub, s_oAddI, s_oAdd, s_oLt, s_oLe, s_oGt, s_oGe, s_oNeg, s_oNot, s_oMul, s_oMulW, s_oMod, s_oFdiv, s_oPow, s_oIsN, s_oNotN, s_oIsB, s_oNotB, s_isNon_int, s_isNon_non, s_isNon_bl, s_isNon_str, s_isNon_tup, s_isNon_lst, s_isNon_dic, s_oEqI, s_oNeI, s_oIxT, s_oIxL, s_oSlT, s_oSlL, s_oRevT, s_oRevL, s_oInt, s_oIntB, s_oAbs, s_oMax2, s_oMin2, s_oLen, s_plenT, s_plenL, s_plenD, s_plenS, s_oTupleL, s_oTupleT, s_oListL, s_oListT, List.set_cons_succ, List.set_cons_zero, List.append_nil, true_and, x_bl, x_int, x_some, x_addT, x_addL, x_true, x_false]
      refine ⟨_, rfl, ?_⟩
      try simp only [s_mVar0, s_mVarS, s_mVarO0, s_mVarOS, s_isObj_lst, s_isObj_dic, s_mC, s_mOp, s_mOp1, s_mB, s_mNil, s_mCons, s_mTup, s_mLst, s_mCall, s_mTB, s_mNot, s_mAnd, s_mOr, s_mAndV, s_mOrV, s_mIf, s_mYes, s_mSl, s_mNo, s_mPart, s_mLc, s_mItems, s_mRng1, s_mRng2, s_mEnum, s_mChain, s_seqT, s_seqL, s_sNext, s_sSeq, s_sIf, s_sSet, s_sRet, s_sRetN, s_sBreak, s_sCont, s_sDrop, s_sPar, s_setN0, s_setNS, s_sAsg, s_sApp, s_sAug, s_sFor, s_sSrc, s_gmN, s_gmT, s_gmCons, s_gmNil, s_wipe0, s_wipeS, s_oSub, s_oAddI, s_oAdd, s_oLt, s_oLe, s_oGt, s_oGe, s_oNeg, s_oNot, s_oMul, s_oMulW, s_oMod, s_oFdiv, s_oPow, s_oIsN, s_oNotN, s_oIsB, s_oNotB, s_isNon_int, s_isNon_non, s_isNon_bl, s_isNon_str, s_isNon_tup, s_isNon_lst, s_isNon_dic, s_oEqI, s_oNeI, s_oIxT, s_oIxL, s_oSlT, s_oSlL, s_oRevT, s_oRevL, s_oInt, s_oIntB, s_oAbs, s_oMax2, s_oMin2, s_oLen, s_plenT, s_plenL, s_plenD, s_plenS, s_oTupleL, s_oTupleT, s_oListL, s_oListT, List.set_cons_succ, List.set_cons_zero, List.append_nil, true_and, x_bl, x_int, x_some, x_addT, x_addL, x_true, x_false]
      exact ⟨by omega, hQ⟩
    · try simp only [s_mVar0, s_mVarS, s_mVarO0, s_mVarOS, s_isObj_lst, s_isObj_dic, s_mC, s_mOp, s_mOp1, s_mB, s_mNil, s_mCons, s_mTup, s_mLst, s_mCall, s_mTB, s_mNot, s_mAnd, s_mOr, s_mAndV, s_mOrV, s_mIf, s_mYes, s_mSl, s_mNo, s_mPart, s_mLc, s_mItems, s_mRng1, s_mRng2, s_mEnum, s_mChain, s_seqT, s_seqL, s_sNext, s_sSeq, s_sIf, s_sSet, s_sRet, s_sRetN, s_sBreak, s_sCont, s_sDrop, s_sPar, s_setN0, s_setNS, s_sAsg, s_sApp, s_sAug, s_sFor, s_sSrc, s_gmN, s_gmT, s_gmCons, s_gmNil, s_wipe0, s_wipeS, s_oSub, s_oAddI, s_oAdd, s_oLt, s_oLe, s_oGt, s_oGe, s_oNeg, s_oNot, s_oMul, s_oMulW, s_oMod, s_oFdiv, s_oPow, s_oIsN, s_oNotN, s_oIsB, s_oNotB, s_isNon_int, s_isNon_non, s_isNon_bl, s_isNon_str, s_isNon_tup, s_isNon_lst, s_isNon_dic, s_oEqI, s_oNeI, s_oIxT, s_oIxL, s_oSlT, s_oSlL, s_oRevT, s_oRevL, s_oInt, s_oIntB, s_oAbs, s_oMax2, s_oMin2, s_oLen, s_plenT, s_plenL, s_plenD, s_plenS, s_oTupleL, s_oTupleT, s_oListL, s_oListT, List.set_cons_succ, List.set_cons_zero, List.append_nil, true_and, x_bl, x_int, x_some, x_addT, x_addL, x_true, x_false]
      exact hQ
    · refine line ?_
      unfold rng1
      simp
      omega
    · rw [List.nil_append, show ((rng1 (long - 1)).filter fun z => decide (z % y.1 = 0)) = mults long y.1 from rfl]
      try simp only [s_mVar0, s_mVarS, s_mVarO0, s_mVarOS, s_isObj_lst, s_isObj_dic, s_mC, s_mOp, s_mOp1, s_mB, s_mNil, s_mCons, s_mTup, s_mLst, s_mCall, s_mTB, s_mNot, s_mAnd, s_mOr, s_mAndV, s_mOrV, s_mIf, s_mYes, s_mSl, s_mNo, s_mPart, s_mLc, s_mItems, s_mRng1, s_mRng2, s_mEnum, s_mChain, s_seqT, s_seqL, s_sNext, s_sSeq, s_sIf, s_sSet, s_sRet, s_sRetN, s_sBreak, s_sCont, s_sDrop, s_sPar, s_setN0, s_setNS, s_sAsg, s_sApp, s_sAug, s_sFor, s_sSrc, s_gmN, s_gmT, s_gmCons, s_gmNil, s_wipe0, s_wipeS, s_oSub, s_oAddI, s_oAdd, s_oLt, s_oLe, s_oGt, s_oGe, s_oNeg, s_oNot, s_oMul, s_oMulW, s_oMod, s_oFdiv, s_oPow, s_oIsN, s_oNotN, s_oIsB, s_oNotB, s_isNon_int, s_isNon_non, s_isNon_bl, s_isNon_str, s_isNon_tup, s_isNon_lst, s_isNon_dic, s_oEqI, s_oNeI, s_oIxT, s_oIxL, s_oSlT, s_oSlL, s_oRevT, s_oRevL, s_oInt, s_oIntB, s_oAbs, s_oMax2, s_oMin2, s_oLen, s_plenT, s_plenL, s_plenD, s_plenS, s_oTupleL, s_oTupleT, s_oListL, s_oListT, List.set_cons_succ, List.set_cons_zero, List.append_nil, true_and, x_bl, x_int, x_some, x_addT, x_addL, x_true, x_false]
      have es : ((mults long y.1).map fun z => PV.int (z - 1)) = (sched long y.1).map PV.int := by
        unfold sched
        rw [List.map_map]; rfl
      rw [es]
      exact h22
theorem h_c17 (k f l c d : Int) (long : Nat) (hk1 : 1 ≤ k) (hk : k ≤ 40) (hn1 : 1 ≤ long) (hn : long ≤ 40) (hf0 : 0 ≤ f) (hf : f ≤ 40) (hl0 : 0 ≤ l) (hl : l ≤ 40) (hc0 : 0 ≤ c) (hc : c ≤ 40) (hd1 : 1 ≤ d) (hd : d ≤ 4) (v0 v2 v3 v4 v5 v6 v7 v8 v9 v10 v11 v12 v13 v14 v15 v16 v17 v18 v19 v20 v27 v28 : Option PV) : t_law_c17 ok_heap sp_pick sp_l_counted sp_l_rhythms (spk 3) sp_l_sizes sp_drw sp_cheapest_plan sp_least_levels sp_l_own_plan sp_l_own_levels sp_is_levels sp_l_bent sp_kept_schedule sp_is_degree_plan sp_rhythm_bill sp_l_is_plan sp_l_is_levels sp_plan_price sp_rhythms sp_cheapest_rhythm { nx := fun _ => False, rt := fun p => p = .bl true } [v0, some .src, v2, v3, v4, v5, v6, v7, v8, v9, v10, v11, v12, v13, v14, v15, v16, v17, v18, v19, v20, some (.int k), some (.int (long : Int)), some (.int f), some (.int l), some (.int c), some (.int d), v27, v28, none, none, none, none] := by
  have hRD : RD k f l d c long := ⟨⟨by omega, by omega⟩, ⟨by omega, by omega⟩, ⟨by omega, by omega⟩, ⟨by omega, by omega⟩, ⟨by omega, by omega⟩, by omega⟩
  unfold t_law_c17
  try simp only [s_mVar0, s_mVarS, s_mVarO0, s_mVarOS, s_isObj_lst, s_isObj_dic, s_mC, s_mOp, s_mOp1, s_mB, s_mNil, s_mCons, s_mTup, s_mLst, s_mCall, s_mTB, s_mNot, s_mAnd, s_mOr, s_mAndV, s_mOrV, s_mIf, s_mYes, s_mSl, s_mNo, s_mPart, s_mLc, s_mItems, s_mRng1, s_mRng2, s_mEnum, s_mChain, s_seqT, s_seqL, s_sNext, s_sSeq, s_sIf, s_sSet, s_sRet, s_sRetN, s_sBreak, s_sCont, s_sDrop, s_sPar, s_setN0, s_setNS, s_sAsg, s_sApp, s_sAug, s_sFor, s_sSrc, s_gmN, s_gmT, s_gmCons, s_gmNil, s_wipe0, s_wipeS, s_oSub, s_oAddI, s_oAdd, s_oLt, s_oLe, s_oGt, s_oGe, s_oNeg, s_oNot, s_oMul, s_oMulW, s_oMod, s_oFdiv, s_oPow, s_oIsN, s_oNotN, s_oIsB, s_oNotB, s_isNon_int, s_isNon_non, s_isNon_bl, s_isNon_str, s_isNon_tup, s_isNon_lst, s_isNon_dic, s_oEqI, s_oNeI, s_oIxT, s_oIxL, s_oSlT, s_oSlL, s_oRevT, s_oRevL, s_oInt, s_oIntB, s_oAbs, s_oMax2, s_oMin2, s_oLen, s_plenT, s_plenL, s_plenD, s_plenS, s_oTupleL, s_oTupleT, s_oListL, s_oListT, List.set_cons_succ, List.set_cons_zero, List.append_nil, true_and, x_bl, x_int, x_some, x_addT, x_addL, x_true, x_false]
  refine ⟨k, f, l, d, c, long, rfl, hRD, ?_⟩
  have hrl : (rhy k f l d c long).length ≤ 1000 := Nat.le_trans rhy_len (by omega)
  try simp only [s_mVar0, s_mVarS, s_mVarO0, s_mVarOS, s_isObj_lst, s_isObj_dic, s_mC, s_mOp, s_mOp1, s_mB, s_mNil, s_mCons, s_mTup, s_mLst, s_mCall, s_mTB, s_mNot, s_mAnd, s_mOr, s_mAndV, s_mOrV, s_mIf, s_mYes, s_mSl, s_mNo, s_mPart, s_mLc, s_mItems, s_mRng1, s_mRng2, s_mEnum, s_mChain, s_seqT, s_seqL, s_sNext, s_sSeq, s_sIf, s_sSet, s_sRet, s_sRetN, s_sBreak, s_sCont, s_sDrop, s_sPar, s_setN0, s_setNS, s_sAsg, s_sApp, s_sAug, s_sFor, s_sSrc, s_gmN, s_gmT, s_gmCons, s_gmNil, s_wipe0, s_wipeS, s_oSub, s_oAddI, s_oAdd, s_oLt, s_oLe, s_oGt, s_oGe, s_oNeg, s_oNot, s_oMul, s_oMulW, s_oMod, s_oFdiv, s_oPow, s_oIsN, s_oNotN, s_oIsB, s_oNotB, s_isNon_int, s_isNon_non, s_isNon_bl, s_isNon_str, s_isNon_tup, s_isNon_lst, s_isNon_dic, s_oEqI, s_oNeI, s_oIxT, s_oIxL, s_oSlT, s_oSlL, s_oRevT, s_oRevL, s_oInt, s_oIntB, s_oAbs, s_oMax2, s_oMin2, s_oLen, s_plenT, s_plenL, s_plenD, s_plenS, s_oTupleL, s_oTupleT, s_oListL, s_oListT, List.set_cons_succ, List.set_cons_zero, List.append_nil, true_and, x_bl, x_int, x_some, x_addT, x_addL, x_true, x_false]
  refine comp_map (emb := rr) (f := fun z => .int z.2.2) (fun z hz => ⟨_, fun k hk => s_gmN.mpr hk, fun Q hQ => hQ, fun Q hQ => ?_⟩) (line (by omega)) ?_
  · unfold rr
    try simp only [s_mVar0, s_mVarS, s_mVarO0, s_mVarOS, s_isObj_lst, s_isObj_dic, s_mC, s_mOp, s_mOp1, s_mB, s_mNil, s_mCons, s_mTup, s_mLst, s_mCall, s_mTB, s_mNot, s_mAnd, s_mOr, s_mAndV, s_mOrV, s_mIf, s_mYes, s_mSl, s_mNo, s_mPart, s_mLc, s_mItems, s_mRng1, s_mRng2, s_mEnum, s_mChain, s_seqT, s_seqL, s_sNext, s_sSeq, s_sIf, s_sSet, s_sRet, s_sRetN, s_sBreak, s_sCont, s_sDrop, s_sPar, s_setN0, s_setNS, s_sAsg, s_sApp, s_sAug, s_sFor, s_sSrc, s_gmN, s_gmT, s_gmCons, s_gmNil, s_wipe0, s_wipeS, s_oSub, s_oAddI, s_oAdd, s_oLt, s_oLe, s_oGt, s_oGe, s_oNeg, s_oNot, s_oMul, s_oMulW, s_oMod, s_oFdiv, s_oPow, s_oIsN, s_oNotN, s_oIsB, s_oNotB, s_isNon_int, s_isNon_non, s_isNon_bl, s_isNon_str, s_isNon_tup, s_isNon_lst, s_isNon_dic, s_oEqI, s_oNeI, s_oIxT, s_oIxL, s_oSlT, s_oSlL, s_oRevT, s_oRevL, s_oInt, s_oIntB, s_oAbs, s_oMax2, s_oMin2, s_oLen, s_plenT, s_plenL, s_plenD, s_plenS, s_oTupleL, s_oTupleT, s_oListL, s_oListT, List.set_cons_succ, List.set_cons_zero, List.append_nil, true_and, x_bl, x_int, x_some, x_addT, x_addL, x_true, x_false]
    exact ⟨_, rfl, hQ⟩
  try simp only [s_mVar0, s_mVarS, s_mVarO0, s_mVarOS, s_isObj_lst, s_isObj_dic, s_mC, s_mOp, s_mOp1, s_mB, s_mNil, s_mCons, s_mTup, s_mLst, s_mCall, s_mTB, s_mNot, s_mAnd, s_mOr, s_mAndV, s_mOrV, s_mIf, s_mYes, s_mSl, s_mNo, s_mPart, s_mLc, s_mItems, s_mRng1, s_mRng2, s_mEnum, s_mChain, s_seqT, s_seqL, s_sNext, s_sSeq, s_sIf, s_sSet, s_sRet, s_sRetN, s_sBreak, s_sCont, s_sDrop, s_sPar, s_setN0, s_setNS, s_sAsg, s_sApp, s_sAug, s_sFor, s_sSrc, s_gmN, s_gmT, s_gmCons, s_gmNil, s_wipe0, s_wipeS, s_oSub, s_oAddI, s_oAdd, s_oLt, s_oLe, s_oGt, s_oGe, s_oNeg, s_oNot, s_oMul, s_oMulW, s_oMod, s_oFdiv, s_oPow, s_oIsN, s_oNotN, s_oIsB, s_oNotB, s_isNon_int, s_isNon_non, s_isNon_bl, s_isNon_str, s_isNon_tup, s_isNon_lst, s_isNon_dic, s_oEqI, s_oNeI, s_oIxT, s_oIxL, s_oSlT, s_oSlL, s_oRevT, s_oRevL, s_oInt, s_oIntB, s_oAbs, s_oMax2, s_oMin2, s_oLen, s_plenT, s_plenL, s_plenD, s_plenS, s_oTupleL, s_oTupleT, s_oListL, s_oListT, List.set_cons_succ, List.set_cons_zero, List.append_nil, true_and, x_bl, x_int, x_some, x_addT, x_addL, x_true, x_false]
  refine comp_emb (emb := rr) (tst := fun z => decide (z.2.2 = (omin ((rhy k f l d c long).map fun z => z.2.2)).getD 0)) (f := rr) (fun z hz => ⟨_, fun k hk => s_gmN.mpr hk, fun Q hQ => ?_, fun _ Q hQ => ?_⟩) (by rw [List.length_nil]; exact line (by omega)) ?_
  · unfold rr
    try simp only [s_mVar0, s_mVarS, s_mVarO0, s_mVarOS, s_isObj_lst, s_isObj_dic, s_mC, s_mOp, s_mOp1, s_mB, s_mNil, s_mCons, s_mTup, s_mLst, s_mCall, s_mTB, s_mNot, s_mAnd, s_mOr, s_mAndV, s_mOrV, s_mIf, s_mYes, s_mSl, s_mNo, s_mPart, s_mLc, s_mItems, s_mRng1, s_mRng2, s_mEnum, s_mChain, s_seqT, s_seqL, s_sNext, s_sSeq, s_sIf, s_sSet, s_sRet, s_sRetN, s_sBreak, s_sCont, s_sDrop, s_sPar, s_setN0, s_setNS, s_sAsg, s_sApp, s_sAug, s_sFor, s_sSrc, s_gmN, s_gmT, s_gmCons, s_gmNil, s_wipe0, s_wipeS, s_oSub, s_oAddI, s_oAdd, s_oLt, s_oLe, s_oGt, s_oGe, s_oNeg, s_oNot, s_oMul, s_oMulW, s_oMod, s_oFdiv, s_oPow, s_oIsN, s_oNotN, s_oIsB, s_oNotB, s_isNon_int, s_isNon_non, s_isNon_bl, s_isNon_str, s_isNon_tup, s_isNon_lst, s_isNon_dic, s_oEqI, s_oNeI, s_oIxT, s_oIxL, s_oSlT, s_oSlL, s_oRevT, s_oRevL, s_oInt, s_oIntB, s_oAbs, s_oMax2, s_oMin2, s_oLen, s_plenT, s_plenL, s_plenD, s_plenS, s_oTupleL, s_oTupleT, s_oListL, s_oListT, List.set_cons_succ, List.set_cons_zero, List.append_nil, true_and, x_bl, x_int, x_some, x_addT, x_addL, x_true, x_false]
    refine ⟨_, rfl, (rhy k f l d c long).map fun z => z.2.2, by rw [List.map_map]; rfl, by rw [List.length_map]; exact List.length_pos_of_mem hz, fun m hm hle => ?_⟩
    have em : omin ((rhy k f l d c long).map fun z => z.2.2) = some m := omin_some.mpr ⟨hm, hle⟩
    rw [em] at hQ
    try simp only [s_mVar0, s_mVarS, s_mVarO0, s_mVarOS, s_isObj_lst, s_isObj_dic, s_mC, s_mOp, s_mOp1, s_mB, s_mNil, s_mCons, s_mTup, s_mLst, s_mCall, s_mTB, s_mNot, s_mAnd, s_mOr, s_mAndV, s_mOrV, s_mIf, s_mYes, s_mSl, s_mNo, s_mPart, s_mLc, s_mItems, s_mRng1, s_mRng2, s_mEnum, s_mChain, s_seqT, s_seqL, s_sNext, s_sSeq, s_sIf, s_sSet, s_sRet, s_sRetN, s_sBreak, s_sCont, s_sDrop, s_sPar, s_setN0, s_setNS, s_sAsg, s_sApp, s_sAug, s_sFor, s_sSrc, s_gmN, s_gmT, s_gmCons, s_gmNil, s_wipe0, s_wipeS, s_oSub, s_oAddI, s_oAdd, s_oLt, s_oLe, s_oGt, s_oGe, s_oNeg, s_oNot, s_oMul, s_oMulW, s_oMod, s_oFdiv, s_oPow, s_oIsN, s_oNotN, s_oIsB, s_oNotB, s_isNon_int, s_isNon_non, s_isNon_bl, s_isNon_str, s_isNon_tup, s_isNon_lst, s_isNon_dic, s_oEqI, s_oNeI, s_oIxT, s_oIxL, s_oSlT, s_oSlL, s_oRevT, s_oRevL, s_oInt, s_oIntB, s_oAbs, s_oMax2, s_oMin2, s_oLen, s_plenT, s_plenL, s_plenD, s_plenS, s_oTupleL, s_oTupleT, s_oListL, s_oListT, List.set_cons_succ, List.set_cons_zero, List.append_nil, true_and, x_bl, x_int, x_some, x_addT, x_addL, x_true, x_false]
    exact hQ
  · try simp only [s_mVar0, s_mVarS, s_mVarO0, s_mVarOS, s_isObj_lst, s_isObj_dic, s_mC, s_mOp, s_mOp1, s_mB, s_mNil, s_mCons, s_mTup, s_mLst, s_mCall, s_mTB, s_mNot, s_mAnd, s_mOr, s_mAndV, s_mOrV, s_mIf, s_mYes, s_mSl, s_mNo, s_mPart, s_mLc, s_mItems, s_mRng1, s_mRng2, s_mEnum, s_mChain, s_seqT, s_seqL, s_sNext, s_sSeq, s_sIf, s_sSet, s_sRet, s_sRetN, s_sBreak, s_sCont, s_sDrop, s_sPar, s_setN0, s_setNS, s_sAsg, s_sApp, s_sAug, s_sFor, s_sSrc, s_gmN, s_gmT, s_gmCons, s_gmNil, s_wipe0, s_wipeS, s_oSub, s_oAddI, s_oAdd, s_oLt, s_oLe, s_oGt, s_oGe, s_oNeg, s_oNot, s_oMul, s_oMulW, s_oMod, s_oFdiv, s_oPow, s_oIsN, s_oNotN, s_oIsB, s_oNotB, s_isNon_int, s_isNon_non, s_isNon_bl, s_isNon_str, s_isNon_tup, s_isNon_lst, s_isNon_dic, s_oEqI, s_oNeI, s_oIxT, s_oIxL, s_oSlT, s_oSlL, s_oRevT, s_oRevL, s_oInt, s_oIntB, s_oAbs, s_oMax2, s_oMin2, s_oLen, s_plenT, s_plenL, s_plenD, s_plenS, s_oTupleL, s_oTupleT, s_oListL, s_oListT, List.set_cons_succ, List.set_cons_zero, List.append_nil, true_and, x_bl, x_int, x_some, x_addT, x_addL, x_true, x_false]
    exact hQ
  · rw [List.nil_append]
    exact h_c20 k f l c d long hk1 hk hn1 hn hf0 hf hl0 hl hc0 hc hd1 hd _ _ _ _ _ _ _ _ _ _ _ _ _ _ _ _ _ _ _ _
theorem pick_ints {xs : List Int} {P : PV → Prop} (h0 : 0 < xs.length) (h1 : xs.length ≤ 1000) (h : ∀ x ∈ xs, P (.int x)) : sp_pick [.src, .lst (xs.map PV.int)] P := ⟨_, rfl, by rw [List.length_map]; exact h0, by rw [List.length_map]; exact h1, fun x hx => by
  obtain ⟨i, hi, rfl⟩ := List.mem_map.mp hx
  exact h i hi⟩
theorem pick_dr {xs : List Int} {P : PV → Prop} {m : Int} (h0 : 0 < xs.length) (h1 : xs.length ≤ 1000) (hb : ∀ x ∈ xs, 0 < x ∧ x ≤ m) (hm : m ≤ 1000000) (h : ∀ r, 0 ≤ r → r < m → P (.int r)) : sp_pick [.src, .lst (xs.map PV.int)] fun y => sp_drw [.src, y] P := pick_ints h0 h1 fun x hx => by
  obtain ⟨a, b⟩ := hb x hx
  exact ⟨x, rfl, a, by omega, fun r r0 r1 => h r r0 (by omega)⟩
theorem h_c14 (v0 v2 v3 v4 v5 v6 v7 v8 v9 v10 v11 v12 v13 v14 v15 v16 v17 v18 v19 v20 v21 v22 v23 v24 v25 v26 v27 v28 : Option PV) : t_law_c14 ok_heap sp_pick sp_l_counted sp_l_rhythms (spk 3) sp_l_sizes sp_drw sp_cheapest_plan sp_least_levels sp_l_own_plan sp_l_own_levels sp_is_levels sp_l_bent sp_kept_schedule sp_is_degree_plan sp_rhythm_bill sp_l_is_plan sp_l_is_levels sp_plan_price sp_rhythms sp_cheapest_rhythm { nx := fun _ => False, rt := fun p => p = .bl true } [v0, some .src, v2, v3, v4, v5, v6, v7, v8, v9, v10, v11, v12, v13, v14, v15, v16, v17, v18, v19, v20, v21, v22, v23, v24, v25, v26, v27, v28, none, none, none, none] := by
  unfold t_law_c14
  try simp only [s_mVar0, s_mVarS, s_mVarO0, s_mVarOS, s_isObj_lst, s_isObj_dic, s_mC, s_mOp, s_mOp1, s_mB, s_mNil, s_mCons, s_mTup, s_mLst, s_mCall, s_mTB, s_mNot, s_mAnd, s_mOr, s_mAndV, s_mOrV, s_mIf, s_mYes, s_mSl, s_mNo, s_mPart, s_mLc, s_mItems, s_mRng1, s_mRng2, s_mEnum, s_mChain, s_seqT, s_seqL, s_sNext, s_sSeq, s_sIf, s_sSet, s_sRet, s_sRetN, s_sBreak, s_sCont, s_sDrop, s_sPar, s_setN0, s_setNS, s_sAsg, s_sApp, s_sAug, s_sFor, s_sSrc, s_gmN, s_gmT, s_gmCons, s_gmNil, s_wipe0, s_wipeS, s_oSub, s_oAddI, s_oAdd, s_oLt, s_oLe, s_oGt, s_oGe, s_oNeg, s_oNot, s_oMul, s_oMulW, s_oMod, s_oFdiv, s_oPow, s_oIsN, s_oNotN, s_oIsB, s_oNotB, s_isNon_int, s_isNon_non, s_isNon_bl, s_isNon_str, s_isNon_tup, s_isNon_lst, s_isNon_dic, s_oEqI, s_oNeI, s_oIxT, s_oIxL, s_oSlT, s_oSlL, s_oRevT, s_oRevL, s_oInt, s_oIntB, s_oAbs, s_oMax2, s_oMin2, s_oLen, s_plenT, s_plenL, s_plenD, s_plenS, s_oTupleL, s_oTupleT, s_oListL, s_oListT, List.set_cons_succ, List.set_cons_zero, List.append_nil, true_and, x_bl, x_int, x_some, x_addT, x_addL, x_true, x_false]
  refine ⟨line (by simp), pick_dr (xs := [4, 12, 40]) (m := 40) (by decide) (by decide) (by decide) (by decide) fun k k0 k1 => ⟨line (by simp), pick_dr (xs := [3, 12, 40]) (m := 40) (by decide) (by decide) (by decide) (by decide) fun lo lo0 lo1 => ?_⟩⟩
  try simp only [s_mVar0, s_mVarS, s_mVarO0, s_mVarOS, s_isObj_lst, s_isObj_dic, s_mC, s_mOp, s_mOp1, s_mB, s_mNil, s_mCons, s_mTup, s_mLst, s_mCall, s_mTB, s_mNot, s_mAnd, s_mOr, s_mAndV, s_mOrV, s_mIf, s_mYes, s_mSl, s_mNo, s_mPart, s_mLc, s_mItems, s_mRng1, s_mRng2, s_mEnum, s_mChain, s_seqT, s_seqL, s_sNext, s_sSeq, s_sIf, s_sSet, s_sRet, s_sRetN, s_sBreak, s_sCont, s_sDrop, s_sPar, s_setN0, s_setNS, s_sAsg, s_sApp, s_sAug, s_sFor, s_sSrc, s_gmN, s_gmT, s_gmCons, s_gmNil, s_wipe0, s_wipeS, s_oSub, s_oAddI, s_oAdd, s_oLt, s_oLe, s_oGt, s_oGe, s_oNeg, s_oNot, s_oMul, s_oMulW, s_oMod, s_oFdiv, s_oPow, s_oIsN, s_oNotN, s_oIsB, s_oNotB, s_isNon_int, s_isNon_non, s_isNon_bl, s_isNon_str, s_isNon_tup, s_isNon_lst, s_isNon_dic, s_oEqI, s_oNeI, s_oIxT, s_oIxL, s_oSlT, s_oSlL, s_oRevT, s_oRevL, s_oInt, s_oIntB, s_oAbs, s_oMax2, s_oMin2, s_oLen, s_plenT, s_plenL, s_plenD, s_plenS, s_oTupleL, s_oTupleT, s_oListL, s_oListT, List.set_cons_succ, List.set_cons_zero, List.append_nil, true_and, x_bl, x_int, x_some, x_addT, x_addL, x_true, x_false]
  refine ⟨⟨by decide, by decide⟩, _, rfl, by omega, by omega, fun f f0 f1 => ⟨⟨by decide, by decide⟩, _, rfl, by omega, by omega, fun l l0 l1 => ⟨_, rfl, by omega, by omega, fun c c0 c1 => ⟨line (by simp), pick_dr (xs := [1, 2, 4]) (m := 4) (by decide) (by decide) (by decide) (by decide) fun d d0 d1 => ?_⟩⟩⟩⟩
  try simp only [s_mVar0, s_mVarS, s_mVarO0, s_mVarOS, s_isObj_lst, s_isObj_dic, s_mC, s_mOp, s_mOp1, s_mB, s_mNil, s_mCons, s_mTup, s_mLst, s_mCall, s_mTB, s_mNot, s_mAnd, s_mOr, s_mAndV, s_mOrV, s_mIf, s_mYes, s_mSl, s_mNo, s_mPart, s_mLc, s_mItems, s_mRng1, s_mRng2, s_mEnum, s_mChain, s_seqT, s_seqL, s_sNext, s_sSeq, s_sIf, s_sSet, s_sRet, s_sRetN, s_sBreak, s_sCont, s_sDrop, s_sPar, s_setN0, s_setNS, s_sAsg, s_sApp, s_sAug, s_sFor, s_sSrc, s_gmN, s_gmT, s_gmCons, s_gmNil, s_wipe0, s_wipeS, s_oSub, s_oAddI, s_oAdd, s_oLt, s_oLe, s_oGt, s_oGe, s_oNeg, s_oNot, s_oMul, s_oMulW, s_oMod, s_oFdiv, s_oPow, s_oIsN, s_oNotN, s_oIsB, s_oNotB, s_isNon_int, s_isNon_non, s_isNon_bl, s_isNon_str, s_isNon_tup, s_isNon_lst, s_isNon_dic, s_oEqI, s_oNeI, s_oIxT, s_oIxL, s_oSlT, s_oSlL, s_oRevT, s_oRevL, s_oInt, s_oIntB, s_oAbs, s_oMax2, s_oMin2, s_oLen, s_plenT, s_plenL, s_plenD, s_plenS, s_oTupleL, s_oTupleT, s_oListL, s_oListT, List.set_cons_succ, List.set_cons_zero, List.append_nil, true_and, x_bl, x_int, x_some, x_addT, x_addL, x_true, x_false]
  have hq : (if 1 + k - 1 < f then 1 + k - 1 else f) ≤ 40 ∧ 0 ≤ (if 1 + k - 1 < f then 1 + k - 1 else f) := by split <;> omega
  generalize (if 1 + k - 1 < f then 1 + k - 1 else f) = g at hq ⊢
  rw [show 1 + lo = ((1 + lo.toNat : Nat) : Int) by omega]
  exact h_c17 (1 + k) g l c (1 + d) (1 + lo.toNat) (by omega) (by omega) (by omega) (by omega) hq.2 hq.1 l0 (by omega) c0 (by omega) (by omega) (by omega) _ _ _ _ _ _ _ _ _ _ _ _ _ _ _ _ _ _ _ _ _ _
def DrB (lots : List (List Int)) (prices : List Int) (D : PV) : Prop := D = .non ∨ ∃ rows : List Row, D = .tup (rows.map rP) ∧ rows.length ≤ lots.length ∧ Chain lots prices 0 rows lots.length
def LvB (L : PV) : Prop := L = .non ∨ ∃ ls : List Int, L = tI ls ∧ ls.length ≤ 200
theorem cells_rows (rows : List Row) : PV.tup (rows.map rP) = .tup ((rows.map Sum.inr).map cellP) := by rw [List.map_map]; rfl
theorem cells_ints (ns : List Int) : tI ns = .tup ((ns.map Sum.inl).map cellP) := by rw [List.map_map]; rfl
theorem h_c12 (lots : List (List Int)) (prices os : List Int) (L D : PV) (hg : Good lots) (hlen : lots.length ≤ 16) (h0 : 0 < lots.length) (hp : prices.length ≤ 100) (hL : LvB L) (hD : DrB lots prices D) (ho : Own lots prices os lots.length) (v0 v2 v4 v6 v7 v8 v9 v10 v11 v12 v14 v15 v16 v20 v21 v22 v23 v24 v25 v26 v27 v28 : Option PV) : t_law_c12 ok_heap sp_pick sp_l_counted sp_l_rhythms (spk 3) sp_l_sizes sp_drw sp_cheapest_plan sp_least_levels sp_l_own_plan sp_l_own_levels sp_is_levels sp_l_bent sp_kept_schedule sp_is_degree_plan sp_rhythm_bill sp_l_is_plan sp_l_is_levels sp_plan_price sp_rhythms sp_cheapest_rhythm { nx := fun _ => False, rt := fun p => p = .bl true } [v0, some .src, v2, some (crs lots), v4, some (tI prices), v6, v7, v8, v9, v10, v11, v12, some (szP lots), v14, v15, v16, some L, some D, some (tI os), v20, v21, v22, v23, v24, v25, v26, v27, v28, none, none, none, none] := by
  have hol := ho.len
  unfold t_law_c12
  try simp only [s_mVar0, s_mVarS, s_mVarO0, s_mVarOS, s_isObj_lst, s_isObj_dic, s_mC, s_mOp, s_mOp1, s_mB, s_mNil, s_mCons, s_mTup, s_mLst, s_mCall, s_mTB, s_mNot, s_mAnd, s_mOr, s_mAndV, s_mOrV, s_mIf, s_mYes, s_mSl, s_mNo, s_mPart, s_mLc, s_mItems, s_mRng1, s_mRng2, s_mEnum, s_mChain, s_seqT, s_seqL, s_sNext, s_sSeq, s_sIf, s_sSet, s_sRet, s_sRetN, s_sBreak, s_sCont, s_sDrop, s_sPar, s_setN0, s_setNS, s_sAsg, s_sApp, s_sAug, s_sFor, s_sSrc, s_gmN, s_gmT, s_gmCons, s_gmNil, s_wipe0, s_wipeS, s_oSub, s_oAddI, s_oAdd, s_oLt, s_oLe, s_oGt, s_oGe, s_oNeg, s_oNot, s_oMul, s_oMulW, s_oMod, s_oFdiv, s_oPow, s_oIsN, s_oNotN, s_oIsB, s_oNotB, s_isNon_int, s_isNon_non, s_isNon_bl, s_isNon_str, s_isNon_tup, s_isNon_lst, s_isNon_dic, s_oEqI, s_oNeI, s_oIxT, s_oIxL, s_oSlT, s_oSlL, s_oRevT, s_oRevL, s_oInt, s_oIntB, s_oAbs, s_oMax2, s_oMin2, s_oLen, s_plenT, s_plenL, s_plenD, s_plenS, s_oTupleL, s_oTupleT, s_oListL, s_oListT, List.set_cons_succ, List.set_cons_zero, List.append_nil, true_and, x_bl, x_int, x_some, x_addT, x_addL, x_true, x_false]
  refine ⟨lots, prices, _, rfl, hg, hp, d2_tup (by rw [List.length_map]; omega) (fun x hx => by
    obtain ⟨i, _, rfl⟩ := List.mem_map.mp hx
    exact dt_int), ?_⟩
  rw [levB_own ho]
  try simp only [s_mVar0, s_mVarS, s_mVarO0, s_mVarOS, s_isObj_lst, s_isObj_dic, s_mC, s_mOp, s_mOp1, s_mB, s_mNil, s_mCons, s_mTup, s_mLst, s_mCall, s_mTB, s_mNot, s_mAnd, s_mOr, s_mAndV, s_mOrV, s_mIf, s_mYes, s_mSl, s_mNo, s_mPart, s_mLc, s_mItems, s_mRng1, s_mRng2, s_mEnum, s_mChain, s_seqT, s_seqL, s_sNext, s_sSeq, s_sIf, s_sSet, s_sRet, s_sRetN, s_sBreak, s_sCont, s_sDrop, s_sPar, s_setN0, s_setNS, s_sAsg, s_sApp, s_sAug, s_sFor, s_sSrc, s_gmN, s_gmT, s_gmCons, s_gmNil, s_wipe0, s_wipeS, s_oSub, s_oAddI, s_oAdd, s_oLt, s_oLe, s_oGt, s_oGe, s_oNeg, s_oNot, s_oMul, s_oMulW, s_oMod, s_oFdiv, s_oPow, s_oIsN, s_oNotN, s_oIsB, s_oNotB, s_isNon_int, s_isNon_non, s_isNon_bl, s_isNon_str, s_isNon_tup, s_isNon_lst, s_isNon_dic, s_oEqI, s_oNeI, s_oIxT, s_oIxL, s_oSlT, s_oSlL, s_oRevT, s_oRevL, s_oInt, s_oIntB, s_oAbs, s_oMax2, s_oMin2, s_oLen, s_plenT, s_plenL, s_plenD, s_plenS, s_oTupleL, s_oTupleT, s_oListL, s_oListT, List.set_cons_succ, List.set_cons_zero, List.append_nil, true_and, x_bl, x_int, x_some, x_addT, x_addL, x_true, x_false]
  refine ite_f (by simp) ⟨by decide, ?_⟩
  show mForGo _ _ _ (rngP 0 4) _
  rw [rngP_map]
  have hbD : ∀ Kk : PV → Prop, (∀ v, D2 v → Kk v) → if PM.isNon D = true then ([] : List PV).length ≤ sizeLine ∧ sp_l_bent [.src, .tup []] Kk else sp_l_bent [.src, D] Kk := fun Kk hK => by
    rcases hD with rfl | ⟨rows, rfl, hr, _⟩
    · exact ite_t rfl ⟨Nat.zero_le _, [], rfl, Nat.zero_le _, hK⟩
    · refine ite_f Bool.false_ne_true ⟨rows.map Sum.inr, by rw [cells_rows], by rw [List.length_map]; omega, hK⟩
  have hbO : ∀ Kk : PV → Prop, (∀ v, D2 v → Kk v) → sp_l_bent [.src, tI os] Kk := fun Kk hK => ⟨os.map Sum.inl, by rw [cells_ints], by rw [List.length_map]; omega, hK⟩
  have hbL : PM.isNon L = false → ∀ Kk : PV → Prop, (∀ v, D2 v → Kk v) → sp_l_bent [.src, L] Kk := fun hn Kk hK => by
    rcases hL with rfl | ⟨ls, rfl, hl⟩
    · cases hn
    · exact ⟨ls.map Sum.inl, by rw [cells_ints], by rw [List.length_map]; omega, hK⟩
  refine for_inv (emb := fun i : Nat => PV.int (0 + (i : Int))) (fun i e => ∃ y6 y20, e = [v0, some .src, v2, some (crs lots), v4, some (tI prices), y6, v7, v8, v9, v10, v11, v12, some (szP lots), v14, v15, v16, some L, some D, some (tI os), y20, v21, v22, v23, v24, v25, v26, v27, v28, none, none, none, none]) ⟨_, _, rfl⟩ (fun i x e N hx hE hN => ?_) (fun e hE => ?_)
  · obtain ⟨y6, y20, rfl⟩ := hE
    rw [s_gmN]
    try simp only [s_mVar0, s_mVarS, s_mVarO0, s_mVarOS, s_isObj_lst, s_isObj_dic, s_mC, s_mOp, s_mOp1, s_mB, s_mNil, s_mCons, s_mTup, s_mLst, s_mCall, s_mTB, s_mNot, s_mAnd, s_mOr, s_mAndV, s_mOrV, s_mIf, s_mYes, s_mSl, s_mNo, s_mPart, s_mLc, s_mItems, s_mRng1, s_mRng2, s_mEnum, s_mChain, s_seqT, s_seqL, s_sNext, s_sSeq, s_sIf, s_sSet, s_sRet, s_sRetN, s_sBreak, s_sCont, s_sDrop, s_sPar, s_setN0, s_setNS, s_sAsg, s_sApp, s_sAug, s_sFor, s_sSrc, s_gmN, s_gmT, s_gmCons, s_gmNil, s_wipe0, s_wipeS, s_oSub, s_oAddI, s_oAdd, s_oLt, s_oLe, s_oGt, s_oGe, s_oNeg, s_oNot, s_oMul, s_oMulW, s_oMod, s_oFdiv, s_oPow, s_oIsN, s_oNotN, s_oIsB, s_oNotB, s_isNon_int, s_isNon_non, s_isNon_bl, s_isNon_str, s_isNon_tup, s_isNon_lst, s_isNon_dic, s_oEqI, s_oNeI, s_oIxT, s_oIxL, s_oSlT, s_oSlL, s_oRevT, s_oRevL, s_oInt, s_oIntB, s_oAbs, s_oMax2, s_oMin2, s_oLen, s_plenT, s_plenL, s_plenD, s_plenS, s_oTupleL, s_oTupleT, s_oListL, s_oListT, List.set_cons_succ, List.set_cons_zero, List.append_nil, true_and, x_bl, x_int, x_some, x_addT, x_addL, x_true, x_false]
    refine hbD _ fun v hv => ?_
    try simp only [s_mVar0, s_mVarS, s_mVarO0, s_mVarOS, s_isObj_lst, s_isObj_dic, s_mC, s_mOp, s_mOp1, s_mB, s_mNil, s_mCons, s_mTup, s_mLst, s_mCall, s_mTB, s_mNot, s_mAnd, s_mOr, s_mAndV, s_mOrV, s_mIf, s_mYes, s_mSl, s_mNo, s_mPart, s_mLc, s_mItems, s_mRng1, s_mRng2, s_mEnum, s_mChain, s_seqT, s_seqL, s_sNext, s_sSeq, s_sIf, s_sSet, s_sRet, s_sRetN, s_sBreak, s_sCont, s_sDrop, s_sPar, s_setN0, s_setNS, s_sAsg, s_sApp, s_sAug, s_sFor, s_sSrc, s_gmN, s_gmT, s_gmCons, s_gmNil, s_wipe0, s_wipeS, s_oSub, s_oAddI, s_oAdd, s_oLt, s_oLe, s_oGt, s_oGe, s_oNeg, s_oNot, s_oMul, s_oMulW, s_oMod, s_oFdiv, s_oPow, s_oIsN, s_oNotN, s_oIsB, s_oNotB, s_isNon_int, s_isNon_non, s_isNon_bl, s_isNon_str, s_isNon_tup, s_isNon_lst, s_isNon_dic, s_oEqI, s_oNeI, s_oIxT, s_oIxL, s_oSlT, s_oSlL, s_oRevT, s_oRevL, s_oInt, s_oIntB, s_oAbs, s_oMax2, s_oMin2, s_oLen, s_plenT, s_plenL, s_plenD, s_plenS, s_oTupleL, s_oTupleT, s_oListL, s_oListT, List.set_cons_succ, List.set_cons_zero, List.append_nil, true_and, x_bl, x_int, x_some, x_addT, x_addL, x_true, x_false]
    refine ⟨lots, prices, v, rfl, hg, hv, lots, prices, v, rfl, hg, hv, _, rfl, trivial, _, rfl, ite_f (by decide) ?_⟩
    have fin : ∀ p, D2 p → sp_is_levels [crs lots, tI prices, p] fun x_4 => sp_l_is_levels [szP lots, tI prices, p] fun x_5 => spk 3 [x_4, x_5] fun x_6 => ∃ k, x_6 = PV.bl k ∧ if (!k) = true then PV.bl false = PV.bl true else N [v0, some .src, v2, some (crs lots), v4, some (tI prices), some (.int (0 + (x : Int))), v7, v8, v9, v10, v11, v12, some (szP lots), v14, v15, v16, some L, some D, some (tI os), some p, v21, v22, v23, v24, v25, v26, v27, v28, none, none, none, none] := fun p hp2 => ⟨lots, prices, p, rfl, hg, hp, hp2, lots, prices, p, rfl, hg, hp2, _, rfl, trivial, _, rfl, ite_f (by decide) (hN _ ⟨_, _, rfl⟩)⟩
    cases hnL : PM.isNon L with
    | true => exact ite_t rfl (ite_t trivial (hbO _ fin))
    | false =>
      refine ite_f Bool.false_ne_true ⟨by decide, ?_⟩
      by_cases hx2 : (0 + (x : Int)) % 2 = 0
      · exact ite_t (decide_eq_true hx2) (hbO _ fin)
      · exact ite_f (by rw [decide_eq_false hx2]; decide) (hbL hnL _ fin)
  · obtain ⟨y6, y20, rfl⟩ := hE
    exact h_c14 _ _ _ _ _ _ _ _ _ _ _ _ _ _ _ _ _ _ _ _ _ _ _ _ _ _ _ _
theorem d2_rows (rows : List Row) (h : rows.length ≤ 1000) : D2 (.tup (rows.map rP)) := by
  rw [cells_rows]
  refine d2_tup (by rw [List.length_map, List.length_map]; exact h) fun x hx => ?_
  obtain ⟨c, _, rfl⟩ := List.mem_map.mp hx
  exact dt_cell c
theorem d2_ints {ns : List Int} (h : ns.length ≤ 1000) : D2 (tI ns) := d2_tup (by rw [List.length_map]; exact h) fun x hx => by
  obtain ⟨i, _, rfl⟩ := List.mem_map.mp hx
  exact dt_int

theorem h_c10 (lots : List (List Int)) (prices : List Int) (L : PV) (hg : Good lots) (hlen : lots.length ≤ 16) (h0 : 0 < lots.length) (hp : prices.length ≤ 100) (hp0 : ∀ p ∈ prices, 0 ≤ p) (hL : LvB L) (v0 v2 v4 v6 v7 v8 v9 v10 v11 v12 v14 v15 v16 v18 v19 v20 v21 v22 v23 v24 v25 v26 v27 v28 : Option PV) : t_law_c10 ok_heap sp_pick sp_l_counted sp_l_rhythms (spk 3) sp_l_sizes sp_drw sp_cheapest_plan sp_least_levels sp_l_own_plan sp_l_own_levels sp_is_levels sp_l_bent sp_kept_schedule sp_is_degree_plan sp_rhythm_bill sp_l_is_plan sp_l_is_levels sp_plan_price sp_rhythms sp_cheapest_rhythm { nx := fun _ => False, rt := fun p => p = .bl true } [v0, some .src, v2, some (crs lots), v4, some (tI prices), v6, v7, v8, v9, v10, v11, v12, some (szP lots), v14, v15, v16, some L, v18, v19, v20, v21, v22, v23, v24, v25, v26, v27, v28, none, none, none, none] := by
  unfold t_law_c10
  try simp only [s_mVar0, s_mVarS, s_mVarO0, s_mVarOS, s_isObj_lst, s_isObj_dic, s_mC, s_mOp, s_mOp1, s_mB, s_mNil, s_mCons, s_mTup, s_mLst, s_mCall, s_mTB, s_mNot, s_mAnd, s_mOr, s_mAndV, s_mOrV, s_mIf, s_mYes, s_mSl, s_mNo, s_mPart, s_mLc, s_mItems, s_mRng1, s_mRng2, s_mEnum, s_mChain, s_seqT, s_seqL, s_sNext, s_sSeq, s_sIf, s_sSet, s_sRet, s_sRetN, s_sBreak, s_sCont, s_sDrop, s_sPar, s_setN0, s_setNS, s_sAsg, s_sApp, s_sAug, s_sFor, s_sSrc, s_gmN, s_gmT, s_gmCons, s_gmNil, s_wipe0, s_wipeS, s_oSub, s_oAddI, s_oAdd, s_oLt, s_oLe, s_oGt, s_oGe, s_oNeg, s_oNot, s_oMul, s_oMulW, s_oMod, s_oFdiv, s_oPow, s_oIsN, s_oNotN, s_oIsB, s_oNotB, s_isNon_int, s_isNon_non, s_isNon_bl, s_isNon_str, s_isNon_tup, s_isNon_lst, s_isNon_dic, s_oEqI, s_oNeI, s_oIxT, s_oIxL, s_oSlT, s_oSlL, s_oRevT, s_oRevL, s_oInt, s_oIntB, s_oAbs, s_oMax2, s_oMin2, s_oLen, s_plenT, s_plenL, s_plenD, s_plenS, s_oTupleL, s_oTupleT, s_oListL, s_oListT, List.set_cons_succ, List.set_cons_zero, List.append_nil, true_and, x_bl, x_int, x_some, x_addT, x_addL, x_true, x_false]
  refine ⟨lots, prices, rfl, hg, h0, hp, ?_, fun rows hr hch => ?_⟩
  · refine ⟨lots, prices, rfl, hg, hp, hp0, fun os ho => ?_⟩
    try simp only [s_mVar0, s_mVarS, s_mVarO0, s_mVarOS, s_isObj_lst, s_isObj_dic, s_mC, s_mOp, s_mOp1, s_mB, s_mNil, s_mCons, s_mTup, s_mLst, s_mCall, s_mTB, s_mNot, s_mAnd, s_mOr, s_mAndV, s_mOrV, s_mIf, s_mYes, s_mSl, s_mNo, s_mPart, s_mLc, s_mItems, s_mRng1, s_mRng2, s_mEnum, s_mChain, s_seqT, s_seqL, s_sNext, s_sSeq, s_sIf, s_sSet, s_sRet, s_sRetN, s_sBreak, s_sCont, s_sDrop, s_sPar, s_setN0, s_setNS, s_sAsg, s_sApp, s_sAug, s_sFor, s_sSrc, s_gmN, s_gmT, s_gmCons, s_gmNil, s_wipe0, s_wipeS, s_oSub, s_oAddI, s_oAdd, s_oLt, s_oLe, s_oGt, s_oGe, s_oNeg, s_oNot, s_oMul, s_oMulW, s_oMod, s_oFdiv, s_oPow, s_oIsN, s_oNotN, s_oIsB, s_oNotB, s_isNon_int, s_isNon_non, s_isNon_bl, s_isNon_str, s_isNon_tup, s_isNon_lst, s_isNon_dic, s_oEqI, s_oNeI, s_oIxT, s_oIxL, s_oSlT, s_oSlL, s_oRevT, s_oRevL, s_oInt, s_oIntB, s_oAbs, s_oMax2, s_oMin2, s_oLen, s_plenT, s_plenL, s_plenD, s_plenS, s_oTupleL, s_oTupleT, s_oListL, s_oListT, List.set_cons_succ, List.set_cons_zero, List.append_nil, true_and, x_bl, x_int, x_some, x_addT, x_addL, x_true, x_false]
    exact h_c12 lots prices os L .non hg hlen h0 hp hL (.inl rfl) ho _ _ _ _ _ _ _ _ _ _ _ _ _ _ _ _ _ _ _ _ _ _
  · refine ⟨lots, prices, rfl, hg, hp, hp0, fun os ho => ?_⟩
    try simp only [s_mVar0, s_mVarS, s_mVarO0, s_mVarOS, s_isObj_lst, s_isObj_dic, s_mC, s_mOp, s_mOp1, s_mB, s_mNil, s_mCons, s_mTup, s_mLst, s_mCall, s_mTB, s_mNot, s_mAnd, s_mOr, s_mAndV, s_mOrV, s_mIf, s_mYes, s_mSl, s_mNo, s_mPart, s_mLc, s_mItems, s_mRng1, s_mRng2, s_mEnum, s_mChain, s_seqT, s_seqL, s_sNext, s_sSeq, s_sIf, s_sSet, s_sRet, s_sRetN, s_sBreak, s_sCont, s_sDrop, s_sPar, s_setN0, s_setNS, s_sAsg, s_sApp, s_sAug, s_sFor, s_sSrc, s_gmN, s_gmT, s_gmCons, s_gmNil, s_wipe0, s_wipeS, s_oSub, s_oAddI, s_oAdd, s_oLt, s_oLe, s_oGt, s_oGe, s_oNeg, s_oNot, s_oMul, s_oMulW, s_oMod, s_oFdiv, s_oPow, s_oIsN, s_oNotN, s_oIsB, s_oNotB, s_isNon_int, s_isNon_non, s_isNon_bl, s_isNon_str, s_isNon_tup, s_isNon_lst, s_isNon_dic, s_oEqI, s_oNeI, s_oIxT, s_oIxL, s_oSlT, s_oSlL, s_oRevT, s_oRevL, s_oInt, s_oIntB, s_oAbs, s_oMax2, s_oMin2, s_oLen, s_plenT, s_plenL, s_plenD, s_plenS, s_oTupleL, s_oTupleT, s_oListL, s_oListT, List.set_cons_succ, List.set_cons_zero, List.append_nil, true_and, x_bl, x_int, x_some, x_addT, x_addL, x_true, x_false]
    refine ite_t rfl ⟨lots, prices, _, rfl, hg, d2_rows rows (by omega), ?_⟩
    rw [planB_chain hch]
    try simp only [s_mVar0, s_mVarS, s_mVarO0, s_mVarOS, s_isObj_lst, s_isObj_dic, s_mC, s_mOp, s_mOp1, s_mB, s_mNil, s_mCons, s_mTup, s_mLst, s_mCall, s_mTB, s_mNot, s_mAnd, s_mOr, s_mAndV, s_mOrV, s_mIf, s_mYes, s_mSl, s_mNo, s_mPart, s_mLc, s_mItems, s_mRng1, s_mRng2, s_mEnum, s_mChain, s_seqT, s_seqL, s_sNext, s_sSeq, s_sIf, s_sSet, s_sRet, s_sRetN, s_sBreak, s_sCont, s_sDrop, s_sPar, s_setN0, s_setNS, s_sAsg, s_sApp, s_sAug, s_sFor, s_sSrc, s_gmN, s_gmT, s_gmCons, s_gmNil, s_wipe0, s_wipeS, s_oSub, s_oAddI, s_oAdd, s_oLt, s_oLe, s_oGt, s_oGe, s_oNeg, s_oNot, s_oMul, s_oMulW, s_oMod, s_oFdiv, s_oPow, s_oIsN, s_oNotN, s_oIsB, s_oNotB, s_isNon_int, s_isNon_non, s_isNon_bl, s_isNon_str, s_isNon_tup, s_isNon_lst, s_isNon_dic, s_oEqI, s_oNeI, s_oIxT, s_oIxL, s_oSlT, s_oSlL, s_oRevT, s_oRevL, s_oInt, s_oIntB, s_oAbs, s_oMax2, s_oMin2, s_oLen, s_plenT, s_plenL, s_plenD, s_plenS, s_oTupleL, s_oTupleT, s_oListL, s_oListT, List.set_cons_succ, List.set_cons_zero, List.append_nil, true_and, x_bl, x_int, x_some, x_addT, x_addL, x_true, x_false]
    refine ite_f (by simp) ⟨prices, rows, rfl, by omega, chain_row hch, ?_⟩
    refine comp_map (emb := rP) (f := fun r => .int (prices.getD r.2.2 0)) (fun r hr => ⟨_, fun k hk => s_gmN.mpr hk, fun Q hQ => hQ, fun Q hQ => ?_⟩) (line (by omega)) (oSum_map ?_)
    · have hu := chain_row hch r hr
      try simp only [s_mVar0, s_mVarS, s_mVarO0, s_mVarOS, s_isObj_lst, s_isObj_dic, s_mC, s_mOp, s_mOp1, s_mB, s_mNil, s_mCons, s_mTup, s_mLst, s_mCall, s_mTB, s_mNot, s_mAnd, s_mOr, s_mAndV, s_mOrV, s_mIf, s_mYes, s_mSl, s_mNo, s_mPart, s_mLc, s_mItems, s_mRng1, s_mRng2, s_mEnum, s_mChain, s_seqT, s_seqL, s_sNext, s_sSeq, s_sIf, s_sSet, s_sRet, s_sRetN, s_sBreak, s_sCont, s_sDrop, s_sPar, s_setN0, s_setNS, s_sAsg, s_sApp, s_sAug, s_sFor, s_sSrc, s_gmN, s_gmT, s_gmCons, s_gmNil, s_wipe0, s_wipeS, s_oSub, s_oAddI, s_oAdd, s_oLt, s_oLe, s_oGt, s_oGe, s_oNeg, s_oNot, s_oMul, s_oMulW, s_oMod, s_oFdiv, s_oPow, s_oIsN, s_oNotN, s_oIsB, s_oNotB, s_isNon_int, s_isNon_non, s_isNon_bl, s_isNon_str, s_isNon_tup, s_isNon_lst, s_isNon_dic, s_oEqI, s_oNeI, s_oIxT, s_oIxL, s_oSlT, s_oSlL, s_oRevT, s_oRevL, s_oInt, s_oIntB, s_oAbs, s_oMax2, s_oMin2, s_oLen, s_plenT, s_plenL, s_plenD, s_plenS, s_oTupleL, s_oTupleT, s_oListL, s_oListT, List.set_cons_succ, List.set_cons_zero, List.append_nil, true_and, x_bl, x_int, x_some, x_addT, x_addL, x_true, x_false]
      refine ⟨_, rfl, ?_⟩
      try simp only [s_mVar0, s_mVarS, s_mVarO0, s_mVarOS, s_isObj_lst, s_isObj_dic, s_mC, s_mOp, s_mOp1, s_mB, s_mNil, s_mCons, s_mTup, s_mLst, s_mCall, s_mTB, s_mNot, s_mAnd, s_mOr, s_mAndV, s_mOrV, s_mIf, s_mYes, s_mSl, s_mNo, s_mPart, s_mLc, s_mItems, s_mRng1, s_mRng2, s_mEnum, s_mChain, s_seqT, s_seqL, s_sNext, s_sSeq, s_sIf, s_sSet, s_sRet, s_sRetN, s_sBreak, s_sCont, s_sDrop, s_sPar, s_setN0, s_setNS, s_sAsg, s_sApp, s_sAug, s_sFor, s_sSrc, s_gmN, s_gmT, s_gmCons, s_gmNil, s_wipe0, s_wipeS, s_oSub, s_oAddI, s_oAdd, s_oLt, s_oLe, s_oGt, s_oGe, s_oNeg, s_oNot, s_oMul, s_oMulW, s_oMod, s_oFdiv, s_oPow, s_oIsN, s_oNotN, s_oIsB, s_oNotB, s_isNon_int, s_isNon_non, s_isNon_bl, s_isNon_str, s_isNon_tup, s_isNon_lst, s_isNon_dic, s_oEqI, s_oNeI, s_oIxT, s_oIxL, s_oSlT, s_oSlL, s_oRevT, s_oRevL, s_oInt, s_oIntB, s_oAbs, s_oMax2, s_oMin2, s_oLen, s_plenT, s_plenL, s_plenD, s_plenS, s_oTupleL, s_oTupleT, s_oListL, s_oListT, List.set_cons_succ, List.set_cons_zero, List.append_nil, true_and, x_bl, x_int, x_some, x_addT, x_addL, x_true, x_false]
      refine ⟨_, by rw [atI_map, atI_pos hu, List.getElem?_eq_getElem hu]; rfl, ?_⟩
      rw [List.getD_eq_getElem?_getD, List.getElem?_eq_getElem hu] at hQ
      exact hQ
    refine ⟨_, rfl, lk_int, ?_⟩
    try simp only [s_mVar0, s_mVarS, s_mVarO0, s_mVarOS, s_isObj_lst, s_isObj_dic, s_mC, s_mOp, s_mOp1, s_mB, s_mNil, s_mCons, s_mTup, s_mLst, s_mCall, s_mTB, s_mNot, s_mAnd, s_mOr, s_mAndV, s_mOrV, s_mIf, s_mYes, s_mSl, s_mNo, s_mPart, s_mLc, s_mItems, s_mRng1, s_mRng2, s_mEnum, s_mChain, s_seqT, s_seqL, s_sNext, s_sSeq, s_sIf, s_sSet, s_sRet, s_sRetN, s_sBreak, s_sCont, s_sDrop, s_sPar, s_setN0, s_setNS, s_sAsg, s_sApp, s_sAug, s_sFor, s_sSrc, s_gmN, s_gmT, s_gmCons, s_gmNil, s_wipe0, s_wipeS, s_oSub, s_oAddI, s_oAdd, s_oLt, s_oLe, s_oGt, s_oGe, s_oNeg, s_oNot, s_oMul, s_oMulW, s_oMod, s_oFdiv, s_oPow, s_oIsN, s_oNotN, s_oIsB, s_oNotB, s_isNon_int, s_isNon_non, s_isNon_bl, s_isNon_str, s_isNon_tup, s_isNon_lst, s_isNon_dic, s_oEqI, s_oNeI, s_oIxT, s_oIxL, s_oSlT, s_oSlL, s_oRevT, s_oRevL, s_oInt, s_oIntB, s_oAbs, s_oMax2, s_oMin2, s_oLen, s_plenT, s_plenL, s_plenD, s_plenS, s_oTupleL, s_oTupleT, s_oListL, s_oListT, List.set_cons_succ, List.set_cons_zero, List.append_nil, true_and, x_bl, x_int, x_some, x_addT, x_addL, x_true, x_false]
    refine ite_f (by decide) ?_
    exact h_c12 lots prices os L _ hg hlen h0 hp hL (.inr ⟨rows, rfl, hr, hch⟩) ho _ _ _ _ _ _ _ _ _ _ _ _ _ _ _ _ _ _ _ _ _ _
theorem h_c9n (lots : List (List Int)) (prices : List Int) (many M : Nat) (hg : Good lots) (hlen : lots.length ≤ 16) (h0 : 0 < lots.length) (hp : prices.length ≤ 100) (hp0 : ∀ p ∈ prices, 0 ≤ p) (hmp : prices.length = many) (hM : ∃ l ∈ lots, l.length = M) (hle : ∀ l ∈ lots, l.length ≤ M) (hA : ¬ All lots prices) (v0 v2 v6 v7 v8 v9 v10 v11 v12 v15 v18 v19 v20 v21 v22 v23 v24 v25 v26 v27 v28 : Option PV) : t_law_c9 ok_heap sp_pick sp_l_counted sp_l_rhythms (spk 3) sp_l_sizes sp_drw sp_cheapest_plan sp_least_levels sp_l_own_plan sp_l_own_levels sp_is_levels sp_l_bent sp_kept_schedule sp_is_degree_plan sp_rhythm_bill sp_l_is_plan sp_l_is_levels sp_plan_price sp_rhythms sp_cheapest_rhythm { nx := fun _ => False, rt := fun p => p = .bl true } [v0, some .src, v2, some (crs lots), some (.int (many : Int)), some (tI prices), v6, v7, v8, v9, v10, v11, v12, some (szP lots), some (.int (M : Int)), v15, some .non, some .non, v18, v19, v20, v21, v22, v23, v24, v25, v26, v27, v28, none, none, none, none] := by
  unfold t_law_c9
  try simp only [s_mVar0, s_mVarS, s_mVarO0, s_mVarOS, s_isObj_lst, s_isObj_dic, s_mC, s_mOp, s_mOp1, s_mB, s_mNil, s_mCons, s_mTup, s_mLst, s_mCall, s_mTB, s_mNot, s_mAnd, s_mOr, s_mAndV, s_mOrV, s_mIf, s_mYes, s_mSl, s_mNo, s_mPart, s_mLc, s_mItems, s_mRng1, s_mRng2, s_mEnum, s_mChain, s_seqT, s_seqL, s_sNext, s_sSeq, s_sIf, s_sSet, s_sRet, s_sRetN, s_sBreak, s_sCont, s_sDrop, s_sPar, s_setN0, s_setNS, s_sAsg, s_sApp, s_sAug, s_sFor, s_sSrc, s_gmN, s_gmT, s_gmCons, s_gmNil, s_wipe0, s_wipeS, s_oSub, s_oAddI, s_oAdd, s_oLt, s_oLe, s_oGt, s_oGe, s_oNeg, s_oNot, s_oMul, s_oMulW, s_oMod, s_oFdiv, s_oPow, s_oIsN, s_oNotN, s_oIsB, s_oNotB, s_isNon_int, s_isNon_non, s_isNon_bl, s_isNon_str, s_isNon_tup, s_isNon_lst, s_isNon_dic, s_oEqI, s_oNeI, s_oIxT, s_oIxL, s_oSlT, s_oSlL, s_oRevT, s_oRevL, s_oInt, s_oIntB, s_oAbs, s_oMax2, s_oMin2, s_oLen, s_plenT, s_plenL, s_plenD, s_plenS, s_oTupleL, s_oTupleT, s_oListL, s_oListT, List.set_cons_succ, List.set_cons_zero, List.append_nil, true_and, x_bl, x_int, x_some, x_addT, x_addL, x_true, x_false]
  have hm : many ≤ M := Nat.le_of_not_lt fun z => hA (all_of hg fun l hl => by have := hle l hl; omega)
  refine ite_t (decide_eq_true (by omega)) (ite_f Bool.false_ne_true ?_)
  exact h_c10 lots prices .non hg hlen h0 hp hp0 (.inl rfl) _ _ _ _ _ _ _ _ _ _ _ _ _ _ _ _ _ _ _ _ _ _ _ _
theorem h_c9s (lots : List (List Int)) (prices : List Int) (many M : Nat) (hg : Good lots) (hlen : lots.length ≤ 16) (h0 : 0 < lots.length) (hp : prices.length ≤ 100) (hp0 : ∀ p ∈ prices, 0 ≤ p) (hmp : prices.length = many) (hM : ∃ l ∈ lots, l.length = M) (hle : ∀ l ∈ lots, l.length ≤ M) (hA : All lots prices) (rows : List Row) (ls : List Int) (hr : rows.length ≤ lots.length) (hch : Chain lots prices 0 rows lots.length) (hco : lev lots prices lots.length = some (cost prices rows)) (hll : ls.length = lots.length + 1) (hlv : ∀ j, j ≤ lots.length → ls[j]? = lev lots prices j) (v0 v2 v6 v7 v8 v9 v10 v11 v12 v15 v18 v19 v20 v21 v22 v23 v24 v25 v26 v27 v28 : Option PV) : t_law_c9 ok_heap sp_pick sp_l_counted sp_l_rhythms (spk 3) sp_l_sizes sp_drw sp_cheapest_plan sp_least_levels sp_l_own_plan sp_l_own_levels sp_is_levels sp_l_bent sp_kept_schedule sp_is_degree_plan sp_rhythm_bill sp_l_is_plan sp_l_is_levels sp_plan_price sp_rhythms sp_cheapest_rhythm { nx := fun _ => False, rt := fun p => p = .bl true } [v0, some .src, v2, some (crs lots), some (.int (many : Int)), some (tI prices), v6, v7, v8, v9, v10, v11, v12, some (szP lots), some (.int (M : Int)), v15, some (.tup (rows.map rP)), some (tI ls), v18, v19, v20, v21, v22, v23, v24, v25, v26, v27, v28, none, none, none, none] := by
  unfold t_law_c9
  try simp only [s_mVar0, s_mVarS, s_mVarO0, s_mVarOS, s_isObj_lst, s_isObj_dic, s_mC, s_mOp, s_mOp1, s_mB, s_mNil, s_mCons, s_mTup, s_mLst, s_mCall, s_mTB, s_mNot, s_mAnd, s_mOr, s_mAndV, s_mOrV, s_mIf, s_mYes, s_mSl, s_mNo, s_mPart, s_mLc, s_mItems, s_mRng1, s_mRng2, s_mEnum, s_mChain, s_seqT, s_seqL, s_sNext, s_sSeq, s_sIf, s_sSet, s_sRet, s_sRetN, s_sBreak, s_sCont, s_sDrop, s_sPar, s_setN0, s_setNS, s_sAsg, s_sApp, s_sAug, s_sFor, s_sSrc, s_gmN, s_gmT, s_gmCons, s_gmNil, s_wipe0, s_wipeS, s_oSub, s_oAddI, s_oAdd, s_oLt, s_oLe, s_oGt, s_oGe, s_oNeg, s_oNot, s_oMul, s_oMulW, s_oMod, s_oFdiv, s_oPow, s_oIsN, s_oNotN, s_oIsB, s_oNotB, s_isNon_int, s_isNon_non, s_isNon_bl, s_isNon_str, s_isNon_tup, s_isNon_lst, s_isNon_dic, s_oEqI, s_oNeI, s_oIxT, s_oIxL, s_oSlT, s_oSlL, s_oRevT, s_oRevL, s_oInt, s_oIntB, s_oAbs, s_oMax2, s_oMin2, s_oLen, s_plenT, s_plenL, s_plenD, s_plenS, s_oTupleL, s_oTupleT, s_oListL, s_oListT, List.set_cons_succ, List.set_cons_zero, List.append_nil, true_and, x_bl, x_int, x_some, x_addT, x_addL, x_true, x_false]
  have hm : M < many := by
    obtain ⟨l, hl, rfl⟩ := hM
    have := of_all hg hA l hl
    omega
  have hlast : atI (ls.map PV.int) (-1) = some (.int (cost prices rows)) := by
    have h1 := hlv lots.length (Nat.le_refl _)
    rw [hco] at h1
    rw [atI_map, atI_last1 (by omega), hll, Nat.add_sub_cancel, h1]; rfl
  refine ite_f (by rw [decide_eq_false (by omega)]; decide) ⟨lots, prices, _, rfl, hg, d2_rows rows (by omega), ?_⟩
  rw [planB_chain hch]
  try simp only [s_mVar0, s_mVarS, s_mVarO0, s_mVarOS, s_isObj_lst, s_isObj_dic, s_mC, s_mOp, s_mOp1, s_mB, s_mNil, s_mCons, s_mTup, s_mLst, s_mCall, s_mTB, s_mNot, s_mAnd, s_mOr, s_mAndV, s_mOrV, s_mIf, s_mYes, s_mSl, s_mNo, s_mPart, s_mLc, s_mItems, s_mRng1, s_mRng2, s_mEnum, s_mChain, s_seqT, s_seqL, s_sNext, s_sSeq, s_sIf, s_sSet, s_sRet, s_sRetN, s_sBreak, s_sCont, s_sDrop, s_sPar, s_setN0, s_setNS, s_sAsg, s_sApp, s_sAug, s_sFor, s_sSrc, s_gmN, s_gmT, s_gmCons, s_gmNil, s_wipe0, s_wipeS, s_oSub, s_oAddI, s_oAdd, s_oLt, s_oLe, s_oGt, s_oGe, s_oNeg, s_oNot, s_oMul, s_oMulW, s_oMod, s_oFdiv, s_oPow, s_oIsN, s_oNotN, s_oIsB, s_oNotB, s_isNon_int, s_isNon_non, s_isNon_bl, s_isNon_str, s_isNon_tup, s_isNon_lst, s_isNon_dic, s_oEqI, s_oNeI, s_oIxT, s_oIxL, s_oSlT, s_oSlL, s_oRevT, s_oRevL, s_oInt, s_oIntB, s_oAbs, s_oMax2, s_oMin2, s_oLen, s_plenT, s_plenL, s_plenD, s_plenS, s_oTupleL, s_oTupleT, s_oListL, s_oListT, List.set_cons_succ, List.set_cons_zero, List.append_nil, true_and, x_bl, x_int, x_some, x_addT, x_addL, x_true, x_false]
  refine ite_f (by decide) ⟨lots, prices, _, rfl, hg, d2_ints (by omega), ?_⟩
  rw [levB_lev hp0 hll hlv]
  try simp only [s_mVar0, s_mVarS, s_mVarO0, s_mVarOS, s_isObj_lst, s_isObj_dic, s_mC, s_mOp, s_mOp1, s_mB, s_mNil, s_mCons, s_mTup, s_mLst, s_mCall, s_mTB, s_mNot, s_mAnd, s_mOr, s_mAndV, s_mOrV, s_mIf, s_mYes, s_mSl, s_mNo, s_mPart, s_mLc, s_mItems, s_mRng1, s_mRng2, s_mEnum, s_mChain, s_seqT, s_seqL, s_sNext, s_sSeq, s_sIf, s_sSet, s_sRet, s_sRetN, s_sBreak, s_sCont, s_sDrop, s_sPar, s_setN0, s_setNS, s_sAsg, s_sApp, s_sAug, s_sFor, s_sSrc, s_gmN, s_gmT, s_gmCons, s_gmNil, s_wipe0, s_wipeS, s_oSub, s_oAddI, s_oAdd, s_oLt, s_oLe, s_oGt, s_oGe, s_oNeg, s_oNot, s_oMul, s_oMulW, s_oMod, s_oFdiv, s_oPow, s_oIsN, s_oNotN, s_oIsB, s_oNotB, s_isNon_int, s_isNon_non, s_isNon_bl, s_isNon_str, s_isNon_tup, s_isNon_lst, s_isNon_dic, s_oEqI, s_oNeI, s_oIxT, s_oIxL, s_oSlT, s_oSlL, s_oRevT, s_oRevL, s_oInt, s_oIntB, s_oAbs, s_oMax2, s_oMin2, s_oLen, s_plenT, s_plenL, s_plenD, s_plenS, s_oTupleL, s_oTupleT, s_oListL, s_oListT, List.set_cons_succ, List.set_cons_zero, List.append_nil, true_and, x_bl, x_int, x_some, x_addT, x_addL, x_true, x_false]
  refine ite_f (by decide) ?_
  refine comp_map (emb := rP) (f := fun r => .int (prices.getD r.2.2 0)) (fun r hr => ⟨_, fun k hk => s_gmN.mpr hk, fun Q hQ => hQ, fun Q hQ => ?_⟩) (line (by omega)) (oSum_map ?_)
  · have hu := chain_row hch r hr
    try simp only [s_mVar0, s_mVarS, s_mVarO0, s_mVarOS, s_isObj_lst, s_isObj_dic, s_mC, s_mOp, s_mOp1, s_mB, s_mNil, s_mCons, s_mTup, s_mLst, s_mCall, s_mTB, s_mNot, s_mAnd, s_mOr, s_mAndV, s_mOrV, s_mIf, s_mYes, s_mSl, s_mNo, s_mPart, s_mLc, s_mItems, s_mRng1, s_mRng2, s_mEnum, s_mChain, s_seqT, s_seqL, s_sNext, s_sSeq, s_sIf, s_sSet, s_sRet, s_sRetN, s_sBreak, s_sCont, s_sDrop, s_sPar, s_setN0, s_setNS, s_sAsg, s_sApp, s_sAug, s_sFor, s_sSrc, s_gmN, s_gmT, s_gmCons, s_gmNil, s_wipe0, s_wipeS, s_oSub, s_oAddI, s_oAdd, s_oLt, s_oLe, s_oGt, s_oGe, s_oNeg, s_oNot, s_oMul, s_oMulW, s_oMod, s_oFdiv, s_oPow, s_oIsN, s_oNotN, s_oIsB, s_oNotB, s_isNon_int, s_isNon_non, s_isNon_bl, s_isNon_str, s_isNon_tup, s_isNon_lst, s_isNon_dic, s_oEqI, s_oNeI, s_oIxT, s_oIxL, s_oSlT, s_oSlL, s_oRevT, s_oRevL, s_oInt, s_oIntB, s_oAbs, s_oMax2, s_oMin2, s_oLen, s_plenT, s_plenL, s_plenD, s_plenS, s_oTupleL, s_oTupleT, s_oListL, s_oListT, List.set_cons_succ, List.set_cons_zero, List.append_nil, true_and, x_bl, x_int, x_some, x_addT, x_addL, x_true, x_false]
    refine ⟨_, rfl, ?_⟩
    try simp only [s_mVar0, s_mVarS, s_mVarO0, s_mVarOS, s_isObj_lst, s_isObj_dic, s_mC, s_mOp, s_mOp1, s_mB, s_mNil, s_mCons, s_mTup, s_mLst, s_mCall, s_mTB, s_mNot, s_mAnd, s_mOr, s_mAndV, s_mOrV, s_mIf, s_mYes, s_mSl, s_mNo, s_mPart, s_mLc, s_mItems, s_mRng1, s_mRng2, s_mEnum, s_mChain, s_seqT, s_seqL, s_sNext, s_sSeq, s_sIf, s_sSet, s_sRet, s_sRetN, s_sBreak, s_sCont, s_sDrop, s_sPar, s_setN0, s_setNS, s_sAsg, s_sApp, s_sAug, s_sFor, s_sSrc, s_gmN, s_gmT, s_gmCons, s_gmNil, s_wipe0, s_wipeS, s_oSub, s_oAddI, s_oAdd, s_oLt, s_oLe, s_oGt, s_oGe, s_oNeg, s_oNot, s_oMul, s_oMulW, s_oMod, s_oFdiv, s_oPow, s_oIsN, s_oNotN, s_oIsB, s_oNotB, s_isNon_int, s_isNon_non, s_isNon_bl, s_isNon_str, s_isNon_tup, s_isNon_lst, s_isNon_dic, s_oEqI, s_oNeI, s_oIxT, s_oIxL, s_oSlT, s_oSlL, s_oRevT, s_oRevL, s_oInt, s_oIntB, s_oAbs, s_oMax2, s_oMin2, s_oLen, s_plenT, s_plenL, s_plenD, s_plenS, s_oTupleL, s_oTupleT, s_oListL, s_oListT, List.set_cons_succ, List.set_cons_zero, List.append_nil, true_and, x_bl, x_int, x_some, x_addT, x_addL, x_true, x_false]
    refine ⟨_, by rw [atI_map, atI_pos hu, List.getElem?_eq_getElem hu]; rfl, ?_⟩
    rw [List.getD_eq_getElem?_getD, List.getElem?_eq_getElem hu] at hQ
    exact hQ
  refine ⟨_, hlast, ?_⟩
  try simp only [s_mVar0, s_mVarS, s_mVarO0, s_mVarOS, s_isObj_lst, s_isObj_dic, s_mC, s_mOp, s_mOp1, s_mB, s_mNil, s_mCons, s_mTup, s_mLst, s_mCall, s_mTB, s_mNot, s_mAnd, s_mOr, s_mAndV, s_mOrV, s_mIf, s_mYes, s_mSl, s_mNo, s_mPart, s_mLc, s_mItems, s_mRng1, s_mRng2, s_mEnum, s_mChain, s_seqT, s_seqL, s_sNext, s_sSeq, s_sIf, s_sSet, s_sRet, s_sRetN, s_sBreak, s_sCont, s_sDrop, s_sPar, s_setN0, s_setNS, s_sAsg, s_sApp, s_sAug, s_sFor, s_sSrc, s_gmN, s_gmT, s_gmCons, s_gmNil, s_wipe0, s_wipeS, s_oSub, s_oAddI, s_oAdd, s_oLt, s_oLe, s_oGt, s_oGe, s_oNeg, s_oNot, s_oMul, s_oMulW, s_oMod, s_oFdiv, s_oPow, s_oIsN, s_oNotN, s_oIsB, s_oNotB, s_isNon_int, s_isNon_non, s_isNon_bl, s_isNon_str, s_isNon_tup, s_isNon_lst, s_isNon_dic, s_oEqI, s_oNeI, s_oIxT, s_oIxL, s_oSlT, s_oSlL, s_oRevT, s_oRevL, s_oInt, s_oIntB, s_oAbs, s_oMax2, s_oMin2, s_oLen, s_plenT, s_plenL, s_plenD, s_plenS, s_oTupleL, s_oTupleT, s_oListL, s_oListT, List.set_cons_succ, List.set_cons_zero, List.append_nil, true_and, x_bl, x_int, x_some, x_addT, x_addL, x_true, x_false]
  have ec : (rows.map fun r => prices.getD r.2.2 0).sum = cost prices rows := rfl
  rw [ec]
  refine ite_f (by simp) ⟨prices, rows, rfl, by omega, chain_row hch, _, hlast, _, rfl, lk_int, ?_⟩
  try simp only [s_mVar0, s_mVarS, s_mVarO0, s_mVarOS, s_isObj_lst, s_isObj_dic, s_mC, s_mOp, s_mOp1, s_mB, s_mNil, s_mCons, s_mTup, s_mLst, s_mCall, s_mTB, s_mNot, s_mAnd, s_mOr, s_mAndV, s_mOrV, s_mIf, s_mYes, s_mSl, s_mNo, s_mPart, s_mLc, s_mItems, s_mRng1, s_mRng2, s_mEnum, s_mChain, s_seqT, s_seqL, s_sNext, s_sSeq, s_sIf, s_sSet, s_sRet, s_sRetN, s_sBreak, s_sCont, s_sDrop, s_sPar, s_setN0, s_setNS, s_sAsg, s_sApp, s_sAug, s_sFor, s_sSrc, s_gmN, s_gmT, s_gmCons, s_gmNil, s_wipe0, s_wipeS, s_oSub, s_oAddI, s_oAdd, s_oLt, s_oLe, s_oGt, s_oGe, s_oNeg, s_oNot, s_oMul, s_oMulW, s_oMod, s_oFdiv, s_oPow, s_oIsN, s_oNotN, s_oIsB, s_oNotB, s_isNon_int, s_isNon_non, s_isNon_bl, s_isNon_str, s_isNon_tup, s_isNon_lst, s_isNon_dic, s_oEqI, s_oNeI, s_oIxT, s_oIxL, s_oSlT, s_oSlL, s_oRevT, s_oRevL, s_oInt, s_oIntB, s_oAbs, s_oMax2, s_oMin2, s_oLen, s_plenT, s_plenL, s_plenD, s_plenS, s_oTupleL, s_oTupleT, s_oListL, s_oListT, List.set_cons_succ, List.set_cons_zero, List.append_nil, true_and, x_bl, x_int, x_some, x_addT, x_addL, x_true, x_false]
  refine ite_f (by decide) ?_
  exact h_c10 lots prices _ hg hlen h0 hp hp0 (.inr ⟨ls, rfl, by omega⟩) _ _ _ _ _ _ _ _ _ _ _ _ _ _ _ _ _ _ _ _ _ _ _ _
theorem ints_of_nn {α : Type} : ∀ {xs : List α} {ys : List PV}, Paired (fun _ y => ∃ c : Int, y = .int c ∧ 0 ≤ c) xs ys → ∃ cs : List Int, ys = cs.map .int ∧ cs.length = xs.length ∧ ∀ c ∈ cs, 0 ≤ c
  | _, _, .nil => ⟨[], rfl, rfl, fun _ h => by cases h⟩
  | _, _, .cons ⟨c, e, c0⟩ t => by
    obtain ⟨cs, e2, l, h⟩ := ints_of_nn t
    exact ⟨c :: cs, by rw [e, e2]; rfl, by rw [List.length_cons, List.length_cons, l], fun x hx => by
      rcases List.mem_cons.mp hx with z | z
      · rw [z]; exact c0
      · exact h x z⟩
theorem h_law (ns : List Int) (hl : ns.length ≤ 63) : t_law ok_heap sp_pick sp_l_counted sp_l_rhythms (spk 3) sp_l_sizes sp_drw sp_cheapest_plan sp_least_levels sp_l_own_plan sp_l_own_levels sp_is_levels sp_l_bent sp_kept_schedule sp_is_degree_plan sp_rhythm_bill sp_l_is_plan sp_l_is_levels sp_plan_price sp_rhythms sp_cheapest_rhythm { nx := fun _ => False, rt := fun p => p = .bl true } (startE n_law.length [.scr ns]) := by
  rw [t_law_eq]
  show t_law_a _ _ _ _ _ _ _ _ _ _ _ _ _ _ _ _ _ _ _ _ _ _ [some (.scr ns), none, none, none, none, none, none, none, none, none, none, none, none, none, none, none, none, none, none, none, none, none, none, none, none, none, none, none, none, none, none, none, none]
  unfold t_law_a
  try simp only [s_mVar0, s_mVarS, s_mVarO0, s_mVarOS, s_isObj_lst, s_isObj_dic, s_mC, s_mOp, s_mOp1, s_mB, s_mNil, s_mCons, s_mTup, s_mLst, s_mCall, s_mTB, s_mNot, s_mAnd, s_mOr, s_mAndV, s_mOrV, s_mIf, s_mYes, s_mSl, s_mNo, s_mPart, s_mLc, s_mItems, s_mRng1, s_mRng2, s_mEnum, s_mChain, s_seqT, s_seqL, s_sNext, s_sSeq, s_sIf, s_sSet, s_sRet, s_sRetN, s_sBreak, s_sCont, s_sDrop, s_sPar, s_setN0, s_setNS, s_sAsg, s_sApp, s_sAug, s_sFor, s_sSrc, s_gmN, s_gmT, s_gmCons, s_gmNil, s_wipe0, s_wipeS, s_oSub, s_oAddI, s_oAdd, s_oLt, s_oLe, s_oGt, s_oGe, s_oNeg, s_oNot, s_oMul, s_oMulW, s_oMod, s_oFdiv, s_oPow, s_oIsN, s_oNotN, s_oIsB, s_oNotB, s_isNon_int, s_isNon_non, s_isNon_bl, s_isNon_str, s_isNon_tup, s_isNon_lst, s_isNon_dic, s_oEqI, s_oNeI, s_oIxT, s_oIxL, s_oSlT, s_oSlL, s_oRevT, s_oRevL, s_oInt, s_oIntB, s_oAbs, s_oMax2, s_oMin2, s_oLen, s_plenT, s_plenL, s_plenD, s_plenS, s_oTupleL, s_oTupleT, s_oListL, s_oListT, List.set_cons_succ, List.set_cons_zero, List.append_nil, true_and, x_bl, x_int, x_some, x_addT, x_addL, x_true, x_false]
  refine ⟨⟨ns, rfl, hl⟩, line (by simp), pick_ints (xs := [1, 2, 3, 4, 6, 9, 16]) (by decide) (by decide) fun x hx => ?_⟩
  have hx2 : 1 ≤ x ∧ x ≤ 16 := (by decide : ∀ x ∈ [(1 : Int), 2, 3, 4, 6, 9, 16], 1 ≤ x ∧ x ≤ 16) x hx
  obtain ⟨n, rfl⟩ : ∃ n : Nat, x = n := ⟨x.toNat, by omega⟩
  refine ⟨n, rfl, by omega, fun lots hg hlen => ⟨lots, rfl, hg, _, rfl, ?_⟩⟩
  have h0 : lots ≠ [] := fun z => by rw [z] at hlen; simp at hlen; omega
  refine comp_map (f := fun l => .int (l.length : Int)) (fun l hl => ⟨_, fun k hk => s_gmN.mpr hk, fun Q hQ => hQ, fun Q hQ => ?_⟩) (line (by omega)) (oMax_most h0 fun M hM hle => ?_)
  · try simp only [s_mVar0, s_mVarS, s_mVarO0, s_mVarOS, s_isObj_lst, s_isObj_dic, s_mC, s_mOp, s_mOp1, s_mB, s_mNil, s_mCons, s_mTup, s_mLst, s_mCall, s_mTB, s_mNot, s_mAnd, s_mOr, s_mAndV, s_mOrV, s_mIf, s_mYes, s_mSl, s_mNo, s_mPart, s_mLc, s_mItems, s_mRng1, s_mRng2, s_mEnum, s_mChain, s_seqT, s_seqL, s_sNext, s_sSeq, s_sIf, s_sSet, s_sRet, s_sRetN, s_sBreak, s_sCont, s_sDrop, s_sPar, s_setN0, s_setNS, s_sAsg, s_sApp, s_sAug, s_sFor, s_sSrc, s_gmN, s_gmT, s_gmCons, s_gmNil, s_wipe0, s_wipeS, s_oSub, s_oAddI, s_oAdd, s_oLt, s_oLe, s_oGt, s_oGe, s_oNeg, s_oNot, s_oMul, s_oMulW, s_oMod, s_oFdiv, s_oPow, s_oIsN, s_oNotN, s_oIsB, s_oNotB, s_isNon_int, s_isNon_non, s_isNon_bl, s_isNon_str, s_isNon_tup, s_isNon_lst, s_isNon_dic, s_oEqI, s_oNeI, s_oIxT, s_oIxL, s_oSlT, s_oSlL, s_oRevT, s_oRevL, s_oInt, s_oIntB, s_oAbs, s_oMax2, s_oMin2, s_oLen, s_plenT, s_plenL, s_plenD, s_plenS, s_oTupleL, s_oTupleT, s_oListL, s_oListT, List.set_cons_succ, List.set_cons_zero, List.append_nil, true_and, x_bl, x_int, x_some, x_addT, x_addL, x_true, x_false]
    rw [List.length_map]
    exact hQ
  have hM24 : M ≤ 24 := by
    obtain ⟨l, hl, rfl⟩ := hM
    exact len_bound (hg.lot l hl).1 (hg.lot l hl).2
  try simp only [s_mVar0, s_mVarS, s_mVarO0, s_mVarOS, s_isObj_lst, s_isObj_dic, s_mC, s_mOp, s_mOp1, s_mB, s_mNil, s_mCons, s_mTup, s_mLst, s_mCall, s_mTB, s_mNot, s_mAnd, s_mOr, s_mAndV, s_mOrV, s_mIf, s_mYes, s_mSl, s_mNo, s_mPart, s_mLc, s_mItems, s_mRng1, s_mRng2, s_mEnum, s_mChain, s_seqT, s_seqL, s_sNext, s_sSeq, s_sIf, s_sSet, s_sRet, s_sRetN, s_sBreak, s_sCont, s_sDrop, s_sPar, s_setN0, s_setNS, s_sAsg, s_sApp, s_sAug, s_sFor, s_sSrc, s_gmN, s_gmT, s_gmCons, s_gmNil, s_wipe0, s_wipeS, s_oSub, s_oAddI, s_oAdd, s_oLt, s_oLe, s_oGt, s_oGe, s_oNeg, s_oNot, s_oMul, s_oMulW, s_oMod, s_oFdiv, s_oPow, s_oIsN, s_oNotN, s_oIsB, s_oNotB, s_isNon_int, s_isNon_non, s_isNon_bl, s_isNon_str, s_isNon_tup, s_isNon_lst, s_isNon_dic, s_oEqI, s_oNeI, s_oIxT, s_oIxL, s_oSlT, s_oSlL, s_oRevT, s_oRevL, s_oInt, s_oIntB, s_oAbs, s_oMax2, s_oMin2, s_oLen, s_plenT, s_plenL, s_plenD, s_plenS, s_oTupleL, s_oTupleT, s_oListL, s_oListT, List.set_cons_succ, List.set_cons_zero, List.append_nil, true_and, x_bl, x_int, x_some, x_addT, x_addL, x_true, x_false]
  refine ⟨line (by simp), pick_ints (xs := [-1, 0, 0, 1, 2, 3, 5]) (by decide) (by decide) fun q hq => ?_⟩
  have hq2 : -1 ≤ q ∧ q ≤ 5 := (by decide : ∀ x ∈ [(-1 : Int), 0, 0, 1, 2, 3, 5], -1 ≤ x ∧ x ≤ 5) q hq
  try simp only [s_mVar0, s_mVarS, s_mVarO0, s_mVarOS, s_isObj_lst, s_isObj_dic, s_mC, s_mOp, s_mOp1, s_mB, s_mNil, s_mCons, s_mTup, s_mLst, s_mCall, s_mTB, s_mNot, s_mAnd, s_mOr, s_mAndV, s_mOrV, s_mIf, s_mYes, s_mSl, s_mNo, s_mPart, s_mLc, s_mItems, s_mRng1, s_mRng2, s_mEnum, s_mChain, s_seqT, s_seqL, s_sNext, s_sSeq, s_sIf, s_sSet, s_sRet, s_sRetN, s_sBreak, s_sCont, s_sDrop, s_sPar, s_setN0, s_setNS, s_sAsg, s_sApp, s_sAug, s_sFor, s_sSrc, s_gmN, s_gmT, s_gmCons, s_gmNil, s_wipe0, s_wipeS, s_oSub, s_oAddI, s_oAdd, s_oLt, s_oLe, s_oGt, s_oGe, s_oNeg, s_oNot, s_oMul, s_oMulW, s_oMod, s_oFdiv, s_oPow, s_oIsN, s_oNotN, s_oIsB, s_oNotB, s_isNon_int, s_isNon_non, s_isNon_bl, s_isNon_str, s_isNon_tup, s_isNon_lst, s_isNon_dic, s_oEqI, s_oNeI, s_oIxT, s_oIxL, s_oSlT, s_oSlL, s_oRevT, s_oRevL, s_oInt, s_oIntB, s_oAbs, s_oMax2, s_oMin2, s_oLen, s_plenT, s_plenL, s_plenD, s_plenS, s_oTupleL, s_oTupleT, s_oListL, s_oListT, List.set_cons_succ, List.set_cons_zero, List.append_nil, true_and, x_bl, x_int, x_some, x_addT, x_addL, x_true, x_false]
  obtain ⟨many, hmany, m1, m30⟩ : ∃ many : Nat, (if (M : Int) + 1 + q > 1 then (M : Int) + 1 + q else 1) = many ∧ 1 ≤ many ∧ many ≤ 30 := by
    split
    · exact ⟨((M : Int) + 1 + q).toNat, by omega, by omega, by omega⟩
    · exact ⟨1, rfl, by decide, by decide⟩
  rw [hmany]
  refine ⟨by omega, ?_⟩
  rw [Int.toNat_natCast, rngP_rng]
  refine comp_rel (emb := PV.int) (xs := rng many) (R := fun _ y => ∃ c : Int, y = .int c ∧ 0 ≤ c) (fun x hx => ⟨_, fun k hk => s_gmN.mpr hk, fun Q hQ => hQ, fun Q hQ => ?_⟩) (by rw [List.length_nil, rng_len]; exact line (by omega)) (fun ys hys => ?_)
  · try simp only [s_mVar0, s_mVarS, s_mVarO0, s_mVarOS, s_isObj_lst, s_isObj_dic, s_mC, s_mOp, s_mOp1, s_mB, s_mNil, s_mCons, s_mTup, s_mLst, s_mCall, s_mTB, s_mNot, s_mAnd, s_mOr, s_mAndV, s_mOrV, s_mIf, s_mYes, s_mSl, s_mNo, s_mPart, s_mLc, s_mItems, s_mRng1, s_mRng2, s_mEnum, s_mChain, s_seqT, s_seqL, s_sNext, s_sSeq, s_sIf, s_sSet, s_sRet, s_sRetN, s_sBreak, s_sCont, s_sDrop, s_sPar, s_setN0, s_setNS, s_sAsg, s_sApp, s_sAug, s_sFor, s_sSrc, s_gmN, s_gmT, s_gmCons, s_gmNil, s_wipe0, s_wipeS, s_oSub, s_oAddI, s_oAdd, s_oLt, s_oLe, s_oGt, s_oGe, s_oNeg, s_oNot, s_oMul, s_oMulW, s_oMod, s_oFdiv, s_oPow, s_oIsN, s_oNotN, s_oIsB, s_oNotB, s_isNon_int, s_isNon_non, s_isNon_bl, s_isNon_str, s_isNon_tup, s_isNon_lst, s_isNon_dic, s_oEqI, s_oNeI, s_oIxT, s_oIxL, s_oSlT, s_oSlL, s_oRevT, s_oRevL, s_oInt, s_oIntB, s_oAbs, s_oMax2, s_oMin2, s_oLen, s_plenT, s_plenL, s_plenD, s_plenS, s_oTupleL, s_oTupleT, s_oListL, s_oListT, List.set_cons_succ, List.set_cons_zero, List.append_nil, true_and, x_bl, x_int, x_some, x_addT, x_addL, x_true, x_false]
    exact ⟨line (by simp), pick_dr (xs := [1, 5, 30, 900]) (m := 900) (by decide) (by decide) (by decide) (by decide) fun r r0 r1 => hQ _ ⟨r, rfl, r0⟩⟩
  obtain ⟨cs, rfl, hcl, hc0⟩ := ints_of_nn hys
  rw [rng_len] at hcl
  have fin : ∀ ps : List Int, ps.length = many → (∀ p ∈ ps, 0 ≤ p) → ∀ tp : PV, sp_cheapest_plan [crs lots, tI ps] fun x_5 => sp_least_levels [crs lots, tI ps] fun x_6 => t_law_c9 ok_heap sp_pick sp_l_counted sp_l_rhythms (spk 3) sp_l_sizes sp_drw sp_cheapest_plan sp_least_levels sp_l_own_plan sp_l_own_levels sp_is_levels sp_l_bent sp_kept_schedule sp_is_degree_plan sp_rhythm_bill sp_l_is_plan sp_l_is_levels sp_plan_price sp_rhythms sp_cheapest_rhythm { nx := fun _ => False, rt := fun p => p = .bl true } [some (.scr ns), some .src, some (.int (n : Int)), some (crs lots), some (.int (many : Int)), some (tI ps), none, none, none, none, none, none, none, some (szP lots), some (.int (M : Int)), some tp, some x_5, some x_6, none, none, none, none, none, none, none, none, none, none, none, none, none, none, none] := fun ps hpl hp0 tp => by
    have h1 : 0 < lots.length := by omega
    by_cases hA : All lots ps
    · exact ⟨lots, ps, rfl, hg, by omega, fun h => absurd hA h, fun _ rows hr hch hco => ⟨lots, ps, rfl, hg, by omega, fun h => absurd hA h, fun _ ls hll hlv => h_c9s lots ps many M hg (by omega) h1 (by omega) hp0 hpl hM hle hA rows ls hr hch hco hll hlv _ _ _ _ _ _ _ _ _ _ _ _ _ _ _ _ _ _ _ _ _⟩⟩
    · exact ⟨lots, ps, rfl, hg, by omega, fun _ => ⟨lots, ps, rfl, hg, by omega, fun _ => h_c9n lots ps many M hg (by omega) h1 (by omega) hp0 hpl hM hle hA _ _ _ _ _ _ _ _ _ _ _ _ _ _ _ _ _ _ _ _ _, fun h => absurd h hA⟩, fun h => absurd h hA⟩
  have hmem : ∀ x ∈ isort cs, 0 ≤ x := fun x hx => hc0 x ((isort_perm cs).mem_iff.mp hx)
  have hil : (isort cs).length = many := by rw [isort_len, hcl]
  rw [List.nil_append]
  refine ⟨_, rfl, by decide, by decide, fun r r0 r1 => ⟨cs, .inl rfl, cs, .inl rfl, ?_⟩⟩
  try simp only [s_mVar0, s_mVarS, s_mVarO0, s_mVarOS, s_isObj_lst, s_isObj_dic, s_mC, s_mOp, s_mOp1, s_mB, s_mNil, s_mCons, s_mTup, s_mLst, s_mCall, s_mTB, s_mNot, s_mAnd, s_mOr, s_mAndV, s_mOrV, s_mIf, s_mYes, s_mSl, s_mNo, s_mPart, s_mLc, s_mItems, s_mRng1, s_mRng2, s_mEnum, s_mChain, s_seqT, s_seqL, s_sNext, s_sSeq, s_sIf, s_sSet, s_sRet, s_sRetN, s_sBreak, s_sCont, s_sDrop, s_sPar, s_setN0, s_setNS, s_sAsg, s_sApp, s_sAug, s_sFor, s_sSrc, s_gmN, s_gmT, s_gmCons, s_gmNil, s_wipe0, s_wipeS, s_oSub, s_oAddI, s_oAdd, s_oLt, s_oLe, s_oGt, s_oGe, s_oNeg, s_oNot, s_oMul, s_oMulW, s_oMod, s_oFdiv, s_oPow, s_oIsN, s_oNotN, s_oIsB, s_oNotB, s_isNon_int, s_isNon_non, s_isNon_bl, s_isNon_str, s_isNon_tup, s_isNon_lst, s_isNon_dic, s_oEqI, s_oNeI, s_oIxT, s_oIxL, s_oSlT, s_oSlL, s_oRevT, s_oRevL, s_oInt, s_oIntB, s_oAbs, s_oMax2, s_oMin2, s_oLen, s_plenT, s_plenL, s_plenD, s_plenS, s_oTupleL, s_oTupleT, s_oListL, s_oListT, List.set_cons_succ, List.set_cons_zero, List.append_nil, true_and, x_bl, x_int, x_some, x_addT, x_addL, x_true, x_false]
  refine ⟨line (by simp), ?_⟩
  have hr : r = 0 ∨ r = 1 ∨ r = 2 := by omega
  rcases hr with rfl | rfl | rfl
  · refine ⟨.lst ((isort cs).map PV.int), rfl, ?_⟩
    try simp only [s_mVar0, s_mVarS, s_mVarO0, s_mVarOS, s_isObj_lst, s_isObj_dic, s_mC, s_mOp, s_mOp1, s_mB, s_mNil, s_mCons, s_mTup, s_mLst, s_mCall, s_mTB, s_mNot, s_mAnd, s_mOr, s_mAndV, s_mOrV, s_mIf, s_mYes, s_mSl, s_mNo, s_mPart, s_mLc, s_mItems, s_mRng1, s_mRng2, s_mEnum, s_mChain, s_seqT, s_seqL, s_sNext, s_sSeq, s_sIf, s_sSet, s_sRet, s_sRetN, s_sBreak, s_sCont, s_sDrop, s_sPar, s_setN0, s_setNS, s_sAsg, s_sApp, s_sAug, s_sFor, s_sSrc, s_gmN, s_gmT, s_gmCons, s_gmNil, s_wipe0, s_wipeS, s_oSub, s_oAddI, s_oAdd, s_oLt, s_oLe, s_oGt, s_oGe, s_oNeg, s_oNot, s_oMul, s_oMulW, s_oMod, s_oFdiv, s_oPow, s_oIsN, s_oNotN, s_oIsB, s_oNotB, s_isNon_int, s_isNon_non, s_isNon_bl, s_isNon_str, s_isNon_tup, s_isNon_lst, s_isNon_dic, s_oEqI, s_oNeI, s_oIxT, s_oIxL, s_oSlT, s_oSlL, s_oRevT, s_oRevL, s_oInt, s_oIntB, s_oAbs, s_oMax2, s_oMin2, s_oLen, s_plenT, s_plenL, s_plenD, s_plenS, s_oTupleL, s_oTupleT, s_oListL, s_oListT, List.set_cons_succ, List.set_cons_zero, List.append_nil, true_and, x_bl, x_int, x_some, x_addT, x_addL, x_true, x_false]
    exact fin (isort cs) hil hmem (.int 0)
  · refine ⟨.lst ((isort cs).map PV.int).reverse, rfl, ?_⟩
    try simp only [s_mVar0, s_mVarS, s_mVarO0, s_mVarOS, s_isObj_lst, s_isObj_dic, s_mC, s_mOp, s_mOp1, s_mB, s_mNil, s_mCons, s_mTup, s_mLst, s_mCall, s_mTB, s_mNot, s_mAnd, s_mOr, s_mAndV, s_mOrV, s_mIf, s_mYes, s_mSl, s_mNo, s_mPart, s_mLc, s_mItems, s_mRng1, s_mRng2, s_mEnum, s_mChain, s_seqT, s_seqL, s_sNext, s_sSeq, s_sIf, s_sSet, s_sRet, s_sRetN, s_sBreak, s_sCont, s_sDrop, s_sPar, s_setN0, s_setNS, s_sAsg, s_sApp, s_sAug, s_sFor, s_sSrc, s_gmN, s_gmT, s_gmCons, s_gmNil, s_wipe0, s_wipeS, s_oSub, s_oAddI, s_oAdd, s_oLt, s_oLe, s_oGt, s_oGe, s_oNeg, s_oNot, s_oMul, s_oMulW, s_oMod, s_oFdiv, s_oPow, s_oIsN, s_oNotN, s_oIsB, s_oNotB, s_isNon_int, s_isNon_non, s_isNon_bl, s_isNon_str, s_isNon_tup, s_isNon_lst, s_isNon_dic, s_oEqI, s_oNeI, s_oIxT, s_oIxL, s_oSlT, s_oSlL, s_oRevT, s_oRevL, s_oInt, s_oIntB, s_oAbs, s_oMax2, s_oMin2, s_oLen, s_plenT, s_plenL, s_plenD, s_plenS, s_oTupleL, s_oTupleT, s_oListL, s_oListT, List.set_cons_succ, List.set_cons_zero, List.append_nil, true_and, x_bl, x_int, x_some, x_addT, x_addL, x_true, x_false]
    rw [← List.map_reverse]
    exact fin (isort cs).reverse (by rw [List.length_reverse, hil]) (fun p hp => hmem p (List.mem_reverse.mp hp)) (.int 1)
  · refine ⟨.lst (cs.map PV.int), rfl, ?_⟩
    try simp only [s_mVar0, s_mVarS, s_mVarO0, s_mVarOS, s_isObj_lst, s_isObj_dic, s_mC, s_mOp, s_mOp1, s_mB, s_mNil, s_mCons, s_mTup, s_mLst, s_mCall, s_mTB, s_mNot, s_mAnd, s_mOr, s_mAndV, s_mOrV, s_mIf, s_mYes, s_mSl, s_mNo, s_mPart, s_mLc, s_mItems, s_mRng1, s_mRng2, s_mEnum, s_mChain, s_seqT, s_seqL, s_sNext, s_sSeq, s_sIf, s_sSet, s_sRet, s_sRetN, s_sBreak, s_sCont, s_sDrop, s_sPar, s_setN0, s_setNS, s_sAsg, s_sApp, s_sAug, s_sFor, s_sSrc, s_gmN, s_gmT, s_gmCons, s_gmNil, s_wipe0, s_wipeS, s_oSub, s_oAddI, s_oAdd, s_oLt, s_oLe, s_oGt, s_oGe, s_oNeg, s_oNot, s_oMul, s_oMulW, s_oMod, s_oFdiv, s_oPow, s_oIsN, s_oNotN, s_oIsB, s_oNotB, s_isNon_int, s_isNon_non, s_isNon_bl, s_isNon_str, s_isNon_tup, s_isNon_lst, s_isNon_dic, s_oEqI, s_oNeI, s_oIxT, s_oIxL, s_oSlT, s_oSlL, s_oRevT, s_oRevL, s_oInt, s_oIntB, s_oAbs, s_oMax2, s_oMin2, s_oLen, s_plenT, s_plenL, s_plenD, s_plenS, s_oTupleL, s_oTupleT, s_oListL, s_oListT, List.set_cons_succ, List.set_cons_zero, List.append_nil, true_and, x_bl, x_int, x_some, x_addT, x_addL, x_true, x_false]
    exact fin cs hcl hc0 (.int 2)
end K46

set_option maxHeartbeats 4000000
namespace K46
open PySem L2 PM
/-! ### the maker of a heap -/
section
variable {P : Program} {w : World} {K : PySem.W.Frag} {mg : Str → Option Value} {base : Heap}
theorem src_m {x qual : Str} {st : Stmt} {f : Addr} {fd : FuncData} {N pns : List Str} {k : Nat} {t : TSm} {dvs : List V} (F : FunD K x qual (defArgs st) (defBody st) (defScope st) dvs [] f fd) (S : FnScope N pns (defScope st)) (h1 : pns.length = 1)
    (hbody : ∀ (cdv : Value) (A : Around) (outer : List PySem.Env) (s : Shared) (H : Hp) (E : XK), Room k (A.deeper (PyProof.Rows.envOfC qual (defScope st) s.heap.objs.size f cdv)) → ∃ c', PSsm (bodyX P w K mg base N qual st f cdv A outer s H E) ⟨.cl, false, []⟩ (shs N.length) c' (defBody st) t)
    (hok : ∀ ns : List Int, ns.length ≤ 63 → t { nx := fun _ => False, rt := fun p => ∃ (cs : List Nat) (s : Nat), p = .lst [.lst (cs.map fun (c : Nat) => PV.int (c : Int)), .int (s : Int)] ∧ cs.length ≤ 63 ∧ s < 2147483647 } (startE N.length [.scr ns])) : FnOk P w K mg base CX0 (k + 1) f fd pns (spSrc K ok_heap) := by
  refine F.ok S (fun vs H Q E h => ?_) (fun cdv A outer s H vs Q E hr h => ?_)
  · obtain ⟨Z, W, ps, _, _, _, r, ⟨ns, e, _⟩, _⟩ := h
    rw [← r.len, e]; exact h1.symm
  · obtain ⟨Z, W, ps, hz, hs, hwz, r, ⟨ns, e, hl⟩, q⟩ := h
    subst e
    obtain ⟨a, rfl, ha⟩ : ∃ a, vs = [.ref a] ∧ ((¬ Z a ∧ ∃ o, H a = some (.frz o (.lst (ns.map V.int)))) ∨ KLst K a (ns.map V.int)) := by
      unfold Rps at r
      obtain ⟨v, r', rfl, h1, h2⟩ := r
      unfold Rps at h2
      subst h2
      unfold Rp at h1
      obtain ⟨a, rfl, h⟩ := h1
      exact ⟨a, rfl, h⟩
    have r2 : Rps K ⟨fun b => (fun b => ∃ o, H b = some o ∧ ∀ o' u, o ≠ .frz o' u) b ∨ inW [] b, [], H⟩ [.scr ns] [.ref a] := by
      refine Rps.cons ?_ Rps.nil
      unfold Rp
      refine ⟨a, rfl, ?_⟩
      rcases ha with ⟨_, o, ho⟩ | hk
      · exact .inl ⟨fun z => z.elim (fun ⟨o', h1, h2⟩ => by rw [ho] at h1; cases h1; exact h2 _ _ rfl) (fun ⟨p, hp, _⟩ => by cases hp), o, ho⟩
      · exact .inr hk
    have hsr : SR K ⟨false, fun b => ∃ o, H b = some o ∧ ∀ o' u, o ≠ .frz o' u, [], H, fun _ => none, [], []⟩ (shs N.length) (fun _ => none) [] (startE N.length [.scr ns]) (L2.start N [.ref a]) H := SR.start (fun _ ⟨o, h1, _⟩ => ⟨o, h1⟩) (fun _ z => by cases z) r2
    obtain ⟨c', hb⟩ := hbody cdv A outer s H E hr
    refine ⟨_, hb.run.nox, ⟨false, fun b => ∃ o, H b = some o ∧ ∀ o' u, o ≠ .frz o' u, [], H, fun _ => none, [], []⟩, fun _ => none, [], startE N.length [.scr ns], _, rfl, hsr, hok ns hl, ⟨fun _ _ _ _ _ _ z => z.elim, fun p v H' hr hp => ?_, fun _ _ _ _ _ _ z => z.elim, fun _ _ _ _ _ _ z => z.elim⟩⟩
    obtain ⟨cs, s', rfl, hc, hs'⟩ := hp
    obtain ⟨W', _, hW, _, keep, rv⟩ := hr
    have eW : W' = [] := hW rfl
    subst eW
    have rv' := rv.c
    unfold Rp at rv'
    obtain ⟨a1, vs, rfl, l1, rs⟩ := rv'
    unfold Rps at rs
    obtain ⟨v1, r1, rfl, h2, rs⟩ := rs
    unfold Rps at rs
    obtain ⟨v2, r2, rfl, h3, rs⟩ := rs
    unfold Rps at rs
    subst rs
    unfold Rp at h2 h3
    obtain ⟨b1, ws, rfl, l2, rs⟩ := h2
    subst h3
    have ew : ws = cs.map fun (c : Nat) => V.int (c : Int) := by
      have e : (cs.map fun (c : Nat) => PV.int (c : Int)) = (cs.map fun (c : Nat) => (c : Int)).map PV.int := by rw [List.map_map]; rfl
      rw [e] at rs
      rw [Rps.ints.mp rs, List.map_map]; rfl
    have gr : ∀ b o, H b = some o → H' b = some o := fun b o e => keep b o (fun ⟨p, hp, _⟩ => by cases hp) e
    have fresh : ∀ b xs, ¬ ((fun b => ∃ o, H b = some o ∧ ∀ o' u, o ≠ .frz o' u) b ∨ inW [] b) → H' b = some (.lst xs) → H b = none := fun b xs nz hb => by
      cases e : H b with
      | none => rfl
      | some o =>
        refine absurd (.inl ⟨o, e, fun o' u z => ?_⟩) nz
        rw [gr _ _ e, z] at hb
        cases hb
    have n1 := fresh a1 _ l1.1 l1.2
    have n2 := fresh b1 _ l2.1 l2.2
    refine q H' (a1, b1) gr n1 n2 ⟨fun z => ?_, cs, s', hc, hs', l1.2, by rw [← ew]; exact l2.2⟩
    have e1 : H' a1 = some (.lst [.ref b1, .int (s' : Int)]) := l1.2
    have e2 : H' b1 = some (.lst ws) := l2.2
    have z' : a1 = b1 := z
    rw [z', e2, ew] at e1
    cases cs with
    | nil => cases e1
    | cons c cs => cases e1
theorem h_l_heap (ns : List Int) (hl : ns.length ≤ 63) : t_l_heap { nx := fun _ => False, rt := fun p => ∃ (cs : List Nat) (s : Nat), p = .lst [.lst (cs.map fun (c : Nat) => PV.int (c : Int)), .int (s : Int)] ∧ cs.length ≤ 63 ∧ s < 2147483647 } (startE n_l_heap.length [.scr ns]) := by
  show t_l_heap _ [some (.scr ns), none, none, none, none]
  unfold t_l_heap
  try simp only [s_mVar0, s_mVarS, s_mVarO0, s_mVarOS, s_isObj_lst, s_isObj_dic, s_mC, s_mOp, s_mOp1, s_mB, s_mNil, s_mCons, s_mTup, s_mLst, s_mCall, s_mTB, s_mNot, s_mAnd, s_mOr, s_mAndV, s_mOrV, s_mIf, s_mYes, s_mSl, s_mNo, s_mPart, s_mLc, s_mItems, s_mRng1, s_mRng2, s_mEnum, s_mChain, s_seqT, s_seqL, s_sNext, s_sSeq, s_sIf, s_sSet, s_sRet, s_sRetN, s_sBreak, s_sCont, s_sDrop, s_sPar, s_setN0, s_setNS, s_sAsg, s_sApp, s_sAug, s_sFor, s_sSrc, s_gmN, s_gmT, s_gmCons, s_gmNil, s_wipe0, s_wipeS, s_oSub, s_oAddI, s_oAdd, s_oLt, s_oLe, s_oGt, s_oGe, s_oNeg, s_oNot, s_oMul, s_oMulW, s_oMod, s_oFdiv, s_oPow, s_oIsN, s_oNotN, s_oIsB, s_oNotB, s_isNon_int, s_isNon_non, s_isNon_bl, s_isNon_str, s_isNon_tup, s_isNon_lst, s_isNon_dic, s_oEqI, s_oNeI, s_oIxT, s_oIxL, s_oSlT, s_oSlL, s_oRevT, s_oRevL, s_oInt, s_oIntB, s_oAbs, s_oMax2, s_oMin2, s_oLen, s_plenT, s_plenL, s_plenD, s_plenS, s_oTupleL, s_oTupleT, s_oListL, s_oListT, List.set_cons_succ, List.set_cons_zero, List.append_nil, true_and, x_bl, x_int, x_some, x_addT, x_addL, x_true, x_false]
  refine ⟨⟨by decide, by decide, by decide⟩, ⟨by decide, by decide, by decide⟩, by unfold CMulW; decide +kernel, ⟨by decide, by decide, by decide⟩, by unfold CMulW; decide +kernel, ?_⟩
  generalize hgt : ((10 : Int) ^ (60 : Int).toNat * 10 ^ (60 : Int).toNat * 10 ^ (60 : Int).toNat) = great
  have hg0 : 0 < great := by rw [← hgt]; decide +kernel
  refine ⟨ns, rfl, ?_⟩
  refine ⟨_, rfl, ?_⟩
  rw [cutP_map]
  obtain ⟨xs, hxs, hxl⟩ : ∃ xs : List Int, (ns.drop (HT.sIx ns.length 0 none)).take (HT.sIx ns.length ns.length (some 60) - HT.sIx ns.length 0 none) = xs ∧ xs.length ≤ 63 := ⟨_, rfl, by rw [List.length_take, List.length_drop]; omega⟩
  rw [hxs]
  obtain ⟨fc, hfc⟩ : ∃ fc : Int → Int, fc = fun x => (2 * (if x < 0 then -x else x) + (if decide (x < 0) = true then 1 else 0)) % great := ⟨_, rfl⟩
  have fc0 : ∀ x, 0 ≤ fc x := fun x => by rw [hfc]; exact Int.emod_nonneg _ (by omega)
  refine comp_map (emb := PV.int) (xs := xs) (f := fun x => .int (fc x)) (fun x hx => ⟨_, fun k hk => s_gmN.mpr hk, fun Q hQ => hQ, fun Q hQ => ?_⟩) (line (by omega)) ?_
  · show mOp oMod _ (mVar 1) [some (.scr ns), some (.int great), some (.int x), none, none] Q
    try simp only [s_mVar0, s_mVarS, s_mVarO0, s_mVarOS, s_isObj_lst, s_isObj_dic, s_mC, s_mOp, s_mOp1, s_mB, s_mNil, s_mCons, s_mTup, s_mLst, s_mCall, s_mTB, s_mNot, s_mAnd, s_mOr, s_mAndV, s_mOrV, s_mIf, s_mYes, s_mSl, s_mNo, s_mPart, s_mLc, s_mItems, s_mRng1, s_mRng2, s_mEnum, s_mChain, s_seqT, s_seqL, s_sNext, s_sSeq, s_sIf, s_sSet, s_sRet, s_sRetN, s_sBreak, s_sCont, s_sDrop, s_sPar, s_setN0, s_setNS, s_sAsg, s_sApp, s_sAug, s_sFor, s_sSrc, s_gmN, s_gmT, s_gmCons, s_gmNil, s_wipe0, s_wipeS, s_oSub, s_oAddI, s_oAdd, s_oLt, s_oLe, s_oGt, s_oGe, s_oNeg, s_oNot, s_oMul, s_oMulW, s_oMod, s_oFdiv, s_oPow, s_oIsN, s_oNotN, s_oIsB, s_oNotB, s_isNon_int, s_isNon_non, s_isNon_bl, s_isNon_str, s_isNon_tup, s_isNon_lst, s_isNon_dic, s_oEqI, s_oNeI, s_oIxT, s_oIxL, s_oSlT, s_oSlL, s_oRevT, s_oRevL, s_oInt, s_oIntB, s_oAbs, s_oMax2, s_oMin2, s_oLen, s_plenT, s_plenL, s_plenD, s_plenS, s_oTupleL, s_oTupleT, s_oListL, s_oListT, List.set_cons_succ, List.set_cons_zero, List.append_nil, true_and, x_bl, x_int, x_some, x_addT, x_addL, x_true, x_false]
    refine ⟨.inl ⟨by decide, by decide⟩, hg0, ?_⟩
    rw [hfc] at hQ
    exact hQ
  refine ⟨_, rfl, ?_⟩
  refine for_inv (emb := fun x => PV.int (fc x)) (fun i e => ∃ (s : Int) (y2 : Option PV), 0 ≤ s ∧ s < 2147483647 ∧ e = [some (.scr ns), some (.int great), y2, some (.lst (xs.map fun x => .int (fc x))), some (.int s)]) ⟨20043, none, by decide, by decide, rfl⟩ (fun i x e N hx hE hN => ?_) (fun e hE => ?_)
  · obtain ⟨s, y2, s0, s1, rfl⟩ := hE
    rw [s_gmN]
    try simp only [s_mVar0, s_mVarS, s_mVarO0, s_mVarOS, s_isObj_lst, s_isObj_dic, s_mC, s_mOp, s_mOp1, s_mB, s_mNil, s_mCons, s_mTup, s_mLst, s_mCall, s_mTB, s_mNot, s_mAnd, s_mOr, s_mAndV, s_mOrV, s_mIf, s_mYes, s_mSl, s_mNo, s_mPart, s_mLc, s_mItems, s_mRng1, s_mRng2, s_mEnum, s_mChain, s_seqT, s_seqL, s_sNext, s_sSeq, s_sIf, s_sSet, s_sRet, s_sRetN, s_sBreak, s_sCont, s_sDrop, s_sPar, s_setN0, s_setNS, s_sAsg, s_sApp, s_sAug, s_sFor, s_sSrc, s_gmN, s_gmT, s_gmCons, s_gmNil, s_wipe0, s_wipeS, s_oSub, s_oAddI, s_oAdd, s_oLt, s_oLe, s_oGt, s_oGe, s_oNeg, s_oNot, s_oMul, s_oMulW, s_oMod, s_oFdiv, s_oPow, s_oIsN, s_oNotN, s_oIsB, s_oNotB, s_isNon_int, s_isNon_non, s_isNon_bl, s_isNon_str, s_isNon_tup, s_isNon_lst, s_isNon_dic, s_oEqI, s_oNeI, s_oIxT, s_oIxL, s_oSlT, s_oSlL, s_oRevT, s_oRevL, s_oInt, s_oIntB, s_oAbs, s_oMax2, s_oMin2, s_oLen, s_plenT, s_plenL, s_plenD, s_plenS, s_oTupleL, s_oTupleT, s_oListL, s_oListT, List.set_cons_succ, List.set_cons_zero, List.append_nil, true_and, x_bl, x_int, x_some, x_addT, x_addL, x_true, x_false]
    refine ⟨.inr ⟨by decide, by decide⟩, by decide, by decide, hN _ ⟨_, _, ?_, ?_, rfl⟩⟩
    · exact Int.emod_nonneg _ (by decide)
    · exact Int.emod_lt_of_pos _ (by decide)
  · obtain ⟨s, y2, s0, s1, rfl⟩ := hE
    try simp only [s_mVar0, s_mVarS, s_mVarO0, s_mVarOS, s_isObj_lst, s_isObj_dic, s_mC, s_mOp, s_mOp1, s_mB, s_mNil, s_mCons, s_mTup, s_mLst, s_mCall, s_mTB, s_mNot, s_mAnd, s_mOr, s_mAndV, s_mOrV, s_mIf, s_mYes, s_mSl, s_mNo, s_mPart, s_mLc, s_mItems, s_mRng1, s_mRng2, s_mEnum, s_mChain, s_seqT, s_seqL, s_sNext, s_sSeq, s_sIf, s_sSet, s_sRet, s_sRetN, s_sBreak, s_sCont, s_sDrop, s_sPar, s_setN0, s_setNS, s_sAsg, s_sApp, s_sAug, s_sFor, s_sSrc, s_gmN, s_gmT, s_gmCons, s_gmNil, s_wipe0, s_wipeS, s_oSub, s_oAddI, s_oAdd, s_oLt, s_oLe, s_oGt, s_oGe, s_oNeg, s_oNot, s_oMul, s_oMulW, s_oMod, s_oFdiv, s_oPow, s_oIsN, s_oNotN, s_oIsB, s_oNotB, s_isNon_int, s_isNon_non, s_isNon_bl, s_isNon_str, s_isNon_tup, s_isNon_lst, s_isNon_dic, s_oEqI, s_oNeI, s_oIxT, s_oIxL, s_oSlT, s_oSlL, s_oRevT, s_oRevL, s_oInt, s_oIntB, s_oAbs, s_oMax2, s_oMin2, s_oLen, s_plenT, s_plenL, s_plenD, s_plenS, s_oTupleL, s_oTupleT, s_oListL, s_oListT, List.set_cons_succ, List.set_cons_zero, List.append_nil, true_and, x_bl, x_int, x_some, x_addT, x_addL, x_true, x_false]
    refine comp_emb (emb := fun x => PV.int (fc x)) (xs := xs) (tst := fun x => decide ((10 : Int) ^ 18 ≤ fc x)) (f := fun x => .int (fc x)) (fun x hx => ⟨_, fun k hk => s_gmN.mpr hk, fun Q hQ => ?_, fun _ Q hQ => ?_⟩) (by rw [List.length_nil, Nat.zero_add]; exact line (by omega)) ?_
    · show mTB _ [some (.scr ns), some (.int great), some (.int (fc x)), some (.lst (xs.map fun x => .int (fc x))), some (.int s)] Q
      try simp only [s_mVar0, s_mVarS, s_mVarO0, s_mVarOS, s_isObj_lst, s_isObj_dic, s_mC, s_mOp, s_mOp1, s_mB, s_mNil, s_mCons, s_mTup, s_mLst, s_mCall, s_mTB, s_mNot, s_mAnd, s_mOr, s_mAndV, s_mOrV, s_mIf, s_mYes, s_mSl, s_mNo, s_mPart, s_mLc, s_mItems, s_mRng1, s_mRng2, s_mEnum, s_mChain, s_seqT, s_seqL, s_sNext, s_sSeq, s_sIf, s_sSet, s_sRet, s_sRetN, s_sBreak, s_sCont, s_sDrop, s_sPar, s_setN0, s_setNS, s_sAsg, s_sApp, s_sAug, s_sFor, s_sSrc, s_gmN, s_gmT, s_gmCons, s_gmNil, s_wipe0, s_wipeS, s_oSub, s_oAddI, s_oAdd, s_oLt, s_oLe, s_oGt, s_oGe, s_oNeg, s_oNot, s_oMul, s_oMulW, s_oMod, s_oFdiv, s_oPow, s_oIsN, s_oNotN, s_oIsB, s_oNotB, s_isNon_int, s_isNon_non, s_isNon_bl, s_isNon_str, s_isNon_tup, s_isNon_lst, s_isNon_dic, s_oEqI, s_oNeI, s_oIxT, s_oIxL, s_oSlT, s_oSlL, s_oRevT, s_oRevL, s_oInt, s_oIntB, s_oAbs, s_oMax2, s_oMin2, s_oLen, s_plenT, s_plenL, s_plenD, s_plenS, s_oTupleL, s_oTupleT, s_oListL, s_oListT, List.set_cons_succ, List.set_cons_zero, List.append_nil, true_and, x_bl, x_int, x_some, x_addT, x_addL, x_true, x_false]
      exact ⟨⟨by decide, by decide, by decide⟩, hQ⟩
    · show mVar 2 [some (.scr ns), some (.int great), some (.int (fc x)), some (.lst (xs.map fun x => .int (fc x))), some (.int s)] Q
      try simp only [s_mVar0, s_mVarS, s_mVarO0, s_mVarOS, s_isObj_lst, s_isObj_dic, s_mC, s_mOp, s_mOp1, s_mB, s_mNil, s_mCons, s_mTup, s_mLst, s_mCall, s_mTB, s_mNot, s_mAnd, s_mOr, s_mAndV, s_mOrV, s_mIf, s_mYes, s_mSl, s_mNo, s_mPart, s_mLc, s_mItems, s_mRng1, s_mRng2, s_mEnum, s_mChain, s_seqT, s_seqL, s_sNext, s_sSeq, s_sIf, s_sSet, s_sRet, s_sRetN, s_sBreak, s_sCont, s_sDrop, s_sPar, s_setN0, s_setNS, s_sAsg, s_sApp, s_sAug, s_sFor, s_sSrc, s_gmN, s_gmT, s_gmCons, s_gmNil, s_wipe0, s_wipeS, s_oSub, s_oAddI, s_oAdd, s_oLt, s_oLe, s_oGt, s_oGe, s_oNeg, s_oNot, s_oMul, s_oMulW, s_oMod, s_oFdiv, s_oPow, s_oIsN, s_oNotN, s_oIsB, s_oNotB, s_isNon_int, s_isNon_non, s_isNon_bl, s_isNon_str, s_isNon_tup, s_isNon_lst, s_isNon_dic, s_oEqI, s_oNeI, s_oIxT, s_oIxL, s_oSlT, s_oSlL, s_oRevT, s_oRevL, s_oInt, s_oIntB, s_oAbs, s_oMax2, s_oMin2, s_oLen, s_plenT, s_plenL, s_plenD, s_plenS, s_oTupleL, s_oTupleT, s_oListL, s_oListT, List.set_cons_succ, List.set_cons_zero, List.append_nil, true_and, x_bl, x_int, x_some, x_addT, x_addL, x_true, x_false]
      exact hQ
    rw [List.nil_append]
    refine s_oRevL.mpr ⟨line (by simp), ((xs.filter fun x => decide ((10 : Int) ^ 18 ≤ fc x)).reverse.map fun x => (fc x).toNat), s.toNat, ?_, ?_, by omega⟩
    · rw [List.map_map, ← List.map_reverse, Int.toNat_of_nonneg s0]
      congr 3
      exact List.map_congr_left fun x _ => by show PV.int (fc x) = PV.int ((fc x).toNat : Int); rw [Int.toNat_of_nonneg (fc0 x)]
    · rw [List.length_map, List.length_reverse]
      exact Nat.le_trans (List.length_filter_le _ _) hxl
end
end K46

set_option maxHeartbeats 1000000
/-! The draw of a heap [cells, stir], by hand. -/
namespace PM
open PySem L2
theorem SA.cells {W : Ws} {H : Hp} {p : Addr × Addr} (hs : ∀ q ∈ W, SA H q) (hp : p ∈ W) {cs : List Nat} (l : cs.length ≤ 63) : ∀ q ∈ W, SA (upd H p.2 (.lst (cs.map fun (c : Nat) => V.int (c : Int)))) q := fun q hq => by
  obtain ⟨np, csp, sp, lp, bp, ap, cp⟩ := hs p hp
  obtain ⟨n, c0, s0, l0, b0, a, b⟩ := hs q hq
  have h1 : q.1 ≠ p.2 := fun z => by
    rw [z, cp] at a
    cases csp with
    | nil => cases a
    | cons x xs => cases a
  by_cases h2 : q.2 = p.2
  · exact ⟨n, cs, s0, l, b0, by rw [upd_ne h1]; exact a, by rw [h2, upd_same]⟩
  · exact ⟨n, c0, s0, l0, b0, by rw [upd_ne h1]; exact a, by rw [upd_ne h2]; exact b⟩
theorem SA.stir {W : Ws} {H : Hp} {p : Addr × Addr} (hs : ∀ q ∈ W, SA H q) (hp : p ∈ W) {s : Nat} (l : s < 2147483647) : ∀ q ∈ W, SA (upd H p.1 (.lst [.ref p.2, .int (s : Int)])) q := fun q hq => by
  obtain ⟨np, csp, sp, lp, bp, ap, cp⟩ := hs p hp
  obtain ⟨n, c0, s0, l0, b0, a, b⟩ := hs q hq
  have h1 : q.2 ≠ p.1 := fun z => by
    rw [z, ap] at b
    cases c0 with
    | nil => cases b
    | cons x xs => cases b
  by_cases h2 : q.1 = p.1
  · have e : q.2 = p.2 := by rw [h2, ap] at a; simp at a; exact a.1.symm
    exact ⟨n, c0, s, l0, l, by rw [h2, upd_same, e], by rw [upd_ne h1]; exact b⟩
  · exact ⟨n, c0, s0, l0, b0, by rw [upd_ne h2]; exact a, by rw [upd_ne h1]; exact b⟩
theorem Grow.cells {W : Ws} {H H' : Hp} (g : Grow W H H') {p : Addr × Addr} (hp : p ∈ W) {cs : List Nat} (l : cs.length ≤ 63) : Grow W H (upd H' p.2 (.lst (cs.map fun (c : Nat) => V.int (c : Int)))) :=
  ⟨fun b o n e => by rw [upd_ne (fun z => n ⟨p, hp, .inr z⟩)]; exact g.keep b o n e, SA.cells g.src hp l⟩
theorem Grow.stir {W : Ws} {H H' : Hp} (g : Grow W H H') {p : Addr × Addr} (hp : p ∈ W) {s : Nat} (l : s < 2147483647) : Grow W H (upd H' p.1 (.lst [.ref p.2, .int (s : Int)])) :=
  ⟨fun b o n e => by rw [upd_ne (fun z => n ⟨p, hp, .inl z⟩)]; exact g.keep b o n e, SA.stir g.src hp l⟩
theorem dp_ints {K : PySem.W.Frag} {H : Hp} : ∀ cs : List Nat, DpAll K H (cs.map fun (c : Nat) => V.int (c : Int)) (cs.map fun (c : Nat) => PyData.int (c : Int))
  | [] => .nil
  | c :: cs => .cons (.int _) (dp_ints cs)
theorem lay_ints : ∀ cs : List Nat, PyData.canLayAll0 (cs.map fun (c : Nat) => PyData.int (c : Int)) = true ∧ PyData.depthAll (cs.map fun (c : Nat) => PyData.int (c : Int)) = 0
  | [] => ⟨rfl, rfl⟩
  | c :: cs => by
    obtain ⟨h1, h2⟩ := lay_ints cs
    constructor
    · show (PyData.canLay0 (.int (c : Int)) && PyData.canLayAll0 _) = true
      rw [h1]; rfl
    · show max (PyData.depth (.int (c : Int))) (PyData.depthAll _) = 0
      rw [h2]; rfl
theorem shaped_ints (cs : List Nat) : SeqAt.shaped (.list (cs.map fun (c : Nat) => PyData.int (c : Int))) = true := by
  unfold SeqAt.shaped
  rw [show PyData.canLay0 (.list (cs.map fun (c : Nat) => PyData.int (c : Int))) = true from (lay_ints cs).1]
  rw [show PyData.depth (.list (cs.map fun (c : Nat) => PyData.int (c : Int))) = PyData.depthAll (cs.map fun (c : Nat) => PyData.int (c : Int)) + 1 from rfl, (lay_ints cs).2]
  rfl
theorem eqv_ints_nil (cs : List Nat) : PyData.eqv (.list (cs.map fun (c : Nat) => PyData.int (c : Int))) (.list []) = cs.isEmpty := by
  cases cs with
  | nil => rfl
  | cons c cs => rfl
def sp_draw : PM.Spec := fun ps P => ∃ many : Int, ps = [.src, .int many] ∧ 0 < many ∧ many < 1073741824 ∧ ∀ r, 0 ≤ r → r < many → P (.int r)
/-- heap[0] != [] -/
theorem draw_ne {K : PySem.W.Frag} {W : Ws} {H H' : Hp} {p : Addr × Addr} {m : Int} {y : Option V} (g : Grow W H H') (hp : p ∈ W) {Q : VK}
    (h : ∀ (cs : List Nat) (s : Nat) H2, H' p.2 = some (.lst (cs.map fun (c : Nat) => V.int (c : Int))) → Grow W H H2 → cs.length ≤ 63 → s < 2147483647 → H2 p.1 = some (.lst [.ref p.2, .int (s : Int)]) → H2 p.2 = some (.lst (cs.map fun (c : Nat) => V.int (c : Int))) → Q (.bl (!cs.isEmpty)) H2) :
    tOp (rNeD K) (tOp (rIx K) (tVar 0) (tC (.int 0))) (tLst tNil) [some (.ref p.1), some (.int m), y] H' Q := by
  obtain ⟨n, cs, s, l, b, e1, e2⟩ := g.src p hp
  refine ⟨.ref p.1, rfl, .inl ⟨p.1, _, 0, .ref p.2, rfl, rfl, .inl (.inl e1), rfl, Nat.zero_le _, fun c nc => ?_⟩⟩
  have g2 := g.trans (Grow.new (o := .lst []) g.src nc)
  have f1 : upd H' c (.lst []) p.1 = some (.lst [.ref p.2, .int (s : Int)]) := by rw [upd_ne (ne_of_none e1 nc)]; exact e1
  have f2 : upd H' c (.lst []) p.2 = some (.lst (cs.map fun (c : Nat) => V.int (c : Int))) := by rw [upd_ne (ne_of_none e2 nc)]; exact e2
  refine ⟨.list (cs.map fun (c : Nat) => PyData.int (c : Int)), .list [], .lst (.inl (.inl f2)) (dp_ints cs), .lst (.inl (.inl upd_same)) .nil, shaped_ints cs, rfl, ?_⟩
  rw [eqv_ints_nil]
  exact h cs s _ e2 g2 l b f1 f2
theorem map_int_inj : ∀ {xs ys : List Nat}, (xs.map fun (c : Nat) => V.int (c : Int)) = (ys.map fun (c : Nat) => V.int (c : Int)) → xs = ys
  | [], [], _ => rfl
  | [], _ :: _, h => by cases h
  | _ :: _, [], h => by cases h
  | x :: xs, y :: ys, h => by
    rw [List.map_cons, List.map_cons] at h
    injection h with h1 h2
    have e : x = y := by
      have e : (x : Int) = (y : Int) := V.int.inj h1
      omega
    rw [e, map_int_inj h2]
theorem rev_end {cs : List Nat} (h : cs ≠ []) : ∃ r c, cs = r ++ [c] := ⟨cs.dropLast, cs.getLast h, (List.dropLast_concat_getLast h).symm⟩
theorem at_end (r : List Nat) (c : Nat) : atI ((r ++ [c]).map fun (c : Nat) => V.int (c : Int)) (-1) = some (.int (c : Int)) := by
  unfold atI ixN
  rw [List.length_map, List.length_append, List.length_singleton, if_neg (by decide), if_pos (by omega)]
  show ((r ++ [c]).map fun (c : Nat) => V.int (c : Int))[((-1 : Int) + ((r.length + 1 : Nat) : Int)).toNat]? = _
  rw [show ((-1 : Int) + ((r.length + 1 : Nat) : Int)).toNat = r.length by omega, List.map_append, List.getElem?_append_right (by rw [List.length_map]; exact Nat.le_refl _), List.length_map, Nat.sub_self]
  rfl
theorem draw_loop {K : PySem.W.Frag} {W : Ws} {H : Hp} {p : Addr × Addr} {m : Int} {D : Ends} (hs : ∀ q ∈ W, SA H q) (hp : p ∈ W) (hnx : ∀ H2, Grow W H H2 → D.nx [some (.ref p.1), some (.int m), none] H2) :
    tWhile (tAnd (tTest (tOp (rNeD K) (tOp (rIx K) (tVar 0) (tC (.int 0))) (tLst tNil))) (tTest (tOp (rEqD K) (tOp (rIx K) (tOp (rIx K) (tVar 0) (tC (.int 0))) (tUn (rU fun i => V.int (-i)) (tC (V.int 1)))) (tC (V.int 0)))))
      (tDrop (tBM0 K "list" rPop (tOp (rIx K) (tVar 0) (tC (.int 0))))) D [some (.ref p.1), some (.int m), none] H := by
  refine ⟨fun i σ H1 => σ = [some (.ref p.1), some (.int m), none] ∧ Grow W H H1 ∧ ∃ cs : List Nat, cs.length = i ∧ H1 p.2 = some (.lst (cs.map fun (c : Nat) => V.int (c : Int))), ?_, fun i σ H1 hW => ?_⟩
  · obtain ⟨n, cs, s, l, b, e1, e2⟩ := hs p hp
    exact ⟨cs.length, rfl, Grow.refl hs, cs, rfl, e2⟩
  · obtain ⟨rfl, g1, cs0, hl0, e0⟩ := hW
    refine draw_ne g1 hp fun cs s H2 e3 g2 l b e1 e2 => ⟨_, rfl, ?_⟩
    have ec : cs = cs0 := map_int_inj (by rw [e0] at e3; simpa using e3.symm)
    subst ec
    by_cases hc : cs = []
    · subst hc
      exact hnx H2 g2
    · obtain ⟨r, c, rfl⟩ := rev_end hc
      have hb : (!(r ++ [c]).isEmpty) = true := by simp
      rw [hb]
      refine iteT ⟨.ref p.1, rfl, .inl ⟨p.1, _, 0, .ref p.2, rfl, rfl, .inl (.inl e1), rfl, 1, rfl, .inl ⟨p.2, _, -1, .int (c : Int), rfl, rfl, .inl (.inl e2), at_end r c, ?_⟩⟩⟩
      refine ⟨.int (c : Int), .int 0, .int _, .int _, rfl, rfl, _, rfl, ?_⟩
      cases PyData.eqv (.int (c : Int)) (.int 0) with
      | true =>
        refine iteT ⟨fun σ' H' => σ' = [some (.ref p.1), some (.int m), none] ∧ Grow W H H' ∧ H' p.2 = some (.lst (r.map fun (c : Nat) => V.int (c : Int))), fun σ' H' ⟨h1, h2, h3⟩ => ⟨r.length, by rw [← hl0, List.length_append]; exact Nat.lt_succ_self _, h1, h2, r, rfl, h3⟩, ?_⟩
        refine ⟨.ref p.1, rfl, .inl ⟨p.1, _, 0, .ref p.2, rfl, rfl, .inl (.inl e1), rfl, .inl ⟨rfl, _, .inl (.inl e2)⟩, p.2, _, .int (c : Int), rfl, rfl, e2, ?_, rfl, ?_⟩⟩
        · rw [List.length_map, List.length_append, List.length_singleton, Nat.add_sub_cancel, List.map_append, List.getElem?_append_right (by rw [List.length_map]; exact Nat.le_refl _), List.length_map, Nat.sub_self]
          rfl
        · have e5 : ((r ++ [c]).map fun (c : Nat) => V.int (c : Int)).dropLast = r.map fun (c : Nat) => V.int (c : Int) := by
            rw [List.map_append]; exact List.dropLast_concat
          rw [e5]
          refine ⟨g2.cells hp ?_, upd_same⟩
          rw [List.length_append] at l
          exact Nat.le_trans (Nat.le_add_right _ _) l
      | false => exact iteF (hnx H2 g2)
end PM
namespace K46
open PySem PySem.Spec PyProof.Rows L2 PM
section
variable {P : Program} {w : World} {K : PySem.W.Frag} {mg : Str → Option Value} {base : Heap}
theorem ok_l_draw (T : Tx K mg) : FnOk P w K mg base CX0 1 T.a_l_draw T.d_l_draw p_l_draw (spM K .cl sp_draw) := by
  have zi : mg "int" = none := T.z_int
  refine T.f_l_draw.ok S_l_draw (fun vs H Q E h => ?_) (fun cdv A outer s H vs Q E hr h => ?_)
  · obtain ⟨zb, W, ps, P', _, _, r, ⟨m, e, _⟩, _⟩ := h
    rw [← r.len, e]; rfl
  · obtain ⟨zb, W, ps, P', hz, hs, r, ⟨m, e, m0, m1, hp⟩, k⟩ := h
    subst e
    obtain ⟨p, hpw, rfl⟩ : ∃ p ∈ W, vs = [.ref p.1, .int m] := by
      unfold Rps at r
      obtain ⟨v, r', rfl, h1, h2⟩ := r
      unfold Rps at h2
      obtain ⟨v2, r2, rfl, h3, h4⟩ := h2
      unfold Rps at h4
      unfold Rp at h1 h3
      obtain ⟨p, hp, rfl⟩ := h1
      exact ⟨p, hp, by rw [h3, h4]⟩
    have fin : ∀ r H', Grow W H H' → 0 ≤ r → r < m → Q (.int r) H' := fun r H' g h1 h2 => k (.int r) (.int r) H' g (VK1.ofRp Rp.int') (hp r h1 h2)
    refine ⟨_, PSs.nox (pss_cons (ps_while .never (pw_and (pt_cmpR (op_neD hr.units) (pe_ix ix_seq (pv 0) pe_int (fun _ _ => rfl)) (pe_lst pa_nil) (nomark _)) (pw_and1 (pt_cmpR (op_eqD hr.units) (pe_ix ix_seq (pe_ix ix_seq (pv 0) pe_int (fun _ _ => rfl)) (pe_un un_neg pe_int) (fun _ _ => rfl)) pe_int (nomark _)))).pt
        (pss_one (ps_expr (pe_bm0 PySem.F.plainAttrs_list PySem.F.slot_list_pop PySem.F.type_list_pop mt_pop (pe_ix ix_seq (pv 0) pe_int (fun _ _ => rfl))))))
      (pss_cons (ps_if (pt_cmpR (op_neD hr.units) (pe_ix ix_seq (pv 0) pe_int (fun _ _ => rfl)) (pe_lst pa_nil) (nomark _))
        (pss_cons (ps_set (i := 2) S_l_draw.nd rfl (.inl rfl) (pe_bm0 PySem.F.plainAttrs_list PySem.F.slot_list_pop PySem.F.type_list_pop mt_pop (pe_ix ix_seq (pv 0) pe_int (fun _ _ => rfl))))
        (pss_cons (ps_expr (pe_bm PySem.F.plainAttrs_list PySem.F.slot_list_append PySem.F.type_list_append mt_append (pe_ix ix_seq (pv 0) pe_int (fun _ _ => rfl)) (pa_cons (pe_op op_fdiv (pv 2) (pv 1)) pa_nil)))
        (pss_one (ps_ret (pe_op op_mod (pe_callTy call_int1 (by rfl) zi PyProof.Rows.boot_int (pa_cons (pv 2) pa_nil)) (pv 1))))))
        pss_nil)
      (pss_cons (ps_asg (pe_op op_mod (pe_callTy call_int1 (by rfl) zi PyProof.Rows.boot_int (pa_cons (pe_op op_add (pe_op op_mul (pe_ix ix_seq (pv 0) pe_int (fun _ _ => rfl)) pe_int) pe_int) pa_nil)) pe_int) (pg_sub (pv 0) pe_int set_list (by intro _; rfl)))
      (pss_one (ps_ret (pe_op op_mod (pe_callTy call_int1 (by rfl) zi PyProof.Rows.boot_int (pa_cons (pe_op op_fdiv (pe_ix ix_seq (pv 0) pe_int (fun _ _ => rfl)) pe_int) pa_nil)) (pv 1))))))), ?_⟩
    refine draw_loop hs hpw fun H2 g2 => ?_
    refine draw_ne g2 hpw fun cs s H3 _ g3 l b e1 e2 => ⟨_, rfl, ?_⟩
    by_cases hc : cs = []
    · subst hc
      refine iteF ⟨.ref p.1, rfl, .inl ⟨p.1, _, 1, .int (s : Int), rfl, rfl, .inl (.inl e1), rfl, s, 48271, rfl, rfl, .inl ⟨by omega, by omega⟩, _, 83, rfl, rfl, .inl ⟨_, rfl, _, 2147483647, rfl, rfl, (by decide : (0 : Int) < 2147483647), .ref p.1, rfl, ?_⟩⟩⟩
      obtain ⟨s', hs', e'⟩ : ∃ s' : Nat, s' < 2147483647 ∧ ((s : Int) * 48271 + 83) % 2147483647 = (s' : Int) := ⟨(((s : Int) * 48271 + 83) % 2147483647).toNat, by omega, by omega⟩
      have g4 := g3.stir hpw hs'
      rw [← e'] at g4
      refine ⟨p.1, _, 1, 1, rfl, rfl, e1, rfl, ?_⟩
      refine ⟨.ref p.1, rfl, .inl ⟨p.1, _, 1, _, rfl, rfl, .inl (.inl upd_same), rfl, _, 32, rfl, rfl, ⟨by decide, by decide⟩, .inl ⟨_, rfl, .int m, rfl, _, m, rfl, rfl, m0, ?_⟩⟩⟩
      exact fin _ _ g4 (Int.emod_nonneg _ (by omega)) (Int.emod_lt_of_pos _ m0)
    · obtain ⟨r, c, rfl⟩ := rev_end hc
      have hb : (!(r ++ [c]).isEmpty) = true := by simp
      rw [hb]
      refine iteT ⟨.ref p.1, rfl, .inl ⟨p.1, _, 0, .ref p.2, rfl, rfl, .inl (.inl e1), rfl, .inl ⟨rfl, _, .inl (.inl e2)⟩, p.2, _, .int (c : Int), rfl, rfl, e2, ?_, ?_⟩⟩
      · rw [List.length_map, List.length_append, List.length_singleton, Nat.add_sub_cancel, List.map_append, List.getElem?_append_right (by rw [List.length_map]; exact Nat.le_refl _), List.length_map, Nat.sub_self]
        rfl
      have e5 : ((r ++ [c]).map fun (c : Nat) => V.int (c : Int)).dropLast = r.map fun (c : Nat) => V.int (c : Int) := by
        rw [List.map_append]; exact List.dropLast_concat
      rw [e5]
      have lr : r.length + 1 ≤ 63 := by rw [List.length_append, List.length_singleton] at l; exact l
      have g4 := g3.cells hpw (cs := r) (by omega)
      obtain ⟨q, hq⟩ : ∃ q : Nat, (c : Int) / m = (q : Int) := ⟨((c : Int) / m).toNat, by have := Int.ediv_nonneg (a := (c : Int)) (b := m) (by omega) (by omega); omega⟩
      have n12 : p.1 ≠ p.2 := (hs p hpw).1
      have f1 : upd H3 p.2 (.lst (r.map fun (c : Nat) => V.int (c : Int))) p.1 = some (.lst [.ref p.2, .int (s : Int)]) := by rw [upd_ne n12]; exact e1
      refine ⟨.ref p.1, rfl, .inl ⟨p.1, _, 0, .ref p.2, rfl, rfl, .inl (.inl f1), rfl, .inl ⟨rfl, _, .inl (.inl upd_same)⟩, .int (c : Int), rfl, .int m, rfl, c, m, rfl, rfl, ⟨m0, m1⟩, p.2, _, _, rfl, rfl, upd_same, ?_, ?_⟩⟩
      · rw [List.length_map]
        exact Nat.lt_of_lt_of_le (by omega : r.length < 64) (by decide)
      have e6 : (r.map fun (c : Nat) => V.int (c : Int)) ++ [V.int (q : Int)] = (r ++ [q]).map fun (c : Nat) => V.int (c : Int) := by rw [List.map_append]; rfl
      have g5 := g4.cells hpw (cs := r ++ [q]) (by rw [List.length_append, List.length_singleton]; exact lr)
      rw [← e6, ← hq] at g5
      refine ⟨.int (c : Int), rfl, .inl ⟨_, rfl, .int m, rfl, c, m, rfl, rfl, m0, ?_⟩⟩
      exact fin _ _ g5 (Int.emod_nonneg _ (by omega)) (Int.emod_lt_of_pos _ m0)
end
end K46

set_option maxHeartbeats 1000000
namespace K46
open PySem PySem.Spec PyProof.Rows L2 PM
section
variable {P : Program} {w : World} {K : PySem.W.Frag} {mg : Str → Option Value} {base : Heap}
theorem ok_is_integer (T : Tx K mg) : FnOk P w K mg base CX0 1 T.a_is_integer T.d_is_integer p_is_integer (spM K .cl sp_is_integer) := fn_m T.f_is_integer S_is_integer (by intro ps Q h; repeat (first | (have e := h.1; subst e; rfl) | (obtain ⟨_, h⟩ := h))) (fun cdv A outer s H E hr => w_is_integer T   cdv A outer s H E hr) h_is_integer
theorem ok_is_number (T : Tx K mg) : FnOk P w K mg base CX0 2 T.a_is_number T.d_is_number p_is_number (spM K .cl sp_is_number) := fn_m T.f_is_number S_is_number (by intro ps Q h; repeat (first | (have e := h.1; subst e; rfl) | (obtain ⟨_, h⟩ := h))) (fun cdv A outer s H E hr => w_is_number T sp_is_integer (ok_is_integer T) cdv A outer s H E hr) h_is_number
theorem ok_union_of (T : Tx K mg) : FnOk P w K mg base CX0 1 T.a_union_of T.d_union_of p_union_of (spM K .cl sp_union_of) := fn_m T.f_union_of S_union_of (by intro ps Q h; repeat (first | (have e := h.1; subst e; rfl) | (obtain ⟨_, h⟩ := h))) (fun cdv A outer s H E hr => w_union_of T   cdv A outer s H E hr) h_union_of
theorem ok_least_price (T : Tx K mg) : FnOk P w K mg base CX0 2 T.a_least_price T.d_least_price p_least_price (spM K .cl sp_least_price) := fn_m T.f_least_price S_least_price (by intro ps Q h; repeat (first | (have e := h.1; subst e; rfl) | (obtain ⟨_, h⟩ := h))) (fun cdv A outer s H E hr => w_least_price T sp_union_of (ok_union_of T) cdv A outer s H E hr) h_least_price
theorem ok_is_epoch_row (T : Tx K mg) : FnOk P w K mg base CX0 3 T.a_is_epoch_row T.d_is_epoch_row p_is_epoch_row (spM K .cl sp_is_epoch_row) := fn_m T.f_is_epoch_row S_is_epoch_row (by intro ps Q h; repeat (first | (have e := h.1; subst e; rfl) | (obtain ⟨_, h⟩ := h))) (fun cdv A outer s H E hr => w_is_epoch_row T sp_union_of sp_is_number (ok_union_of T) (ok_is_number T) cdv A outer s H E hr) h_is_epoch_row
theorem ok_is_degree_plan (T : Tx K mg) : FnOk P w K mg base CX0 4 T.a_is_degree_plan T.d_is_degree_plan p_is_degree_plan (spM K .cl sp_is_degree_plan) := fn_m T.f_is_degree_plan S_is_degree_plan (by intro ps Q h; repeat (first | (have e := h.1; subst e; rfl) | (obtain ⟨_, h⟩ := h))) (fun cdv A outer s H E hr => w_is_degree_plan T sp_is_epoch_row (ok_is_epoch_row T) cdv A outer s H E hr) h_is_degree_plan
theorem ok_plan_price (T : Tx K mg) : FnOk P w K mg base CX0 1 T.a_plan_price T.d_plan_price p_plan_price (spM K .cl sp_plan_price) := fn_m T.f_plan_price S_plan_price (by intro ps Q h; repeat (first | (have e := h.1; subst e; rfl) | (obtain ⟨_, h⟩ := h))) (fun cdv A outer s H E hr => w_plan_price T   cdv A outer s H E hr) h_plan_price
theorem ok_least_ways (T : Tx K mg) : FnOk P w K mg base CX0 3 T.a_least_ways T.d_least_ways p_least_ways (spM K .cl sp_least_ways) := fn_m T.f_least_ways S_least_ways (by intro ps Q h; repeat (first | (have e := h.1; subst e; rfl) | (obtain ⟨_, h⟩ := h))) (fun cdv A outer s H E hr => w_least_ways T sp_least_price (ok_least_price T) cdv A outer s H E hr) h_least_ways
theorem ok_cheapest_plan (T : Tx K mg) : FnOk P w K mg base CX0 4 T.a_cheapest_plan T.d_cheapest_plan p_cheapest_plan (spM K .cl sp_cheapest_plan) := fn_m T.f_cheapest_plan S_cheapest_plan (by intro ps Q h; repeat (first | (have e := h.1; subst e; rfl) | (obtain ⟨_, h⟩ := h))) (fun cdv A outer s H E hr => w_cheapest_plan T sp_least_ways (ok_least_ways T) cdv A outer s H E hr) h_cheapest_plan
theorem ok_least_levels (T : Tx K mg) : FnOk P w K mg base CX0 4 T.a_least_levels T.d_least_levels p_least_levels (spM K .cl sp_least_levels) := fn_m T.f_least_levels S_least_levels (by intro ps Q h; repeat (first | (have e := h.1; subst e; rfl) | (obtain ⟨_, h⟩ := h))) (fun cdv A outer s H E hr => w_least_levels T sp_least_ways (ok_least_ways T) cdv A outer s H E hr) h_least_levels
theorem ok_is_levels (T : Tx K mg) : FnOk P w K mg base CX0 3 T.a_is_levels T.d_is_levels p_is_levels (spM K .cl sp_is_levels) := fn_m T.f_is_levels S_is_levels (by intro ps Q h; repeat (first | (have e := h.1; subst e; rfl) | (obtain ⟨_, h⟩ := h))) (fun cdv A outer s H E hr => w_is_levels T sp_least_price sp_is_number (ok_least_price T) (ok_is_number T) cdv A outer s H E hr) h_is_levels
theorem ok_turning (T : Tx K mg) : FnOk P w K mg base CX0 1 T.a_turning T.d_turning p_turning (spM K .cl sp_turning) := fn_m T.f_turning S_turning (by intro ps Q h; repeat (first | (have e := h.1; subst e; rfl) | (obtain ⟨_, h⟩ := h))) (fun cdv A outer s H E hr => w_turning T   cdv A outer s H E hr) h_turning
theorem ok_most_over_all (T : Tx K mg) : FnOk P w K mg base CX0 2 T.a_most_over_all T.d_most_over_all p_most_over_all (spM K .cl sp_most_over_all) := fn_m T.f_most_over_all S_most_over_all (by intro ps Q h; repeat (first | (have e := h.1; subst e; rfl) | (obtain ⟨_, h⟩ := h))) (fun cdv A outer s H E hr => w_most_over_all T sp_turning (ok_turning T) cdv A outer s H E hr) h_most_over_all
theorem ok_sent_at_handing (T : Tx K mg) : FnOk P w K mg base CX0 1 T.a_sent_at_handing T.d_sent_at_handing p_sent_at_handing (spM K .cl sp_sent_at_handing) := fn_m T.f_sent_at_handing S_sent_at_handing (by intro ps Q h; repeat (first | (have e := h.1; subst e; rfl) | (obtain ⟨_, h⟩ := h))) (fun cdv A outer s H E hr => w_sent_at_handing T   cdv A outer s H E hr) h_sent_at_handing
theorem ok_sent_to_newcomer (T : Tx K mg) : FnOk P w K mg base CX0 1 T.a_sent_to_newcomer T.d_sent_to_newcomer p_sent_to_newcomer (spM K .cl sp_sent_to_newcomer) := fn_m T.f_sent_to_newcomer S_sent_to_newcomer (by intro ps Q h; repeat (first | (have e := h.1; subst e; rfl) | (obtain ⟨_, h⟩ := h))) (fun cdv A outer s H E hr => w_sent_to_newcomer T   cdv A outer s H E hr) h_sent_to_newcomer
theorem ok_rhythm_of (T : Tx K mg) : FnOk P w K mg base CX0 1 T.a_rhythm_of T.d_rhythm_of p_rhythm_of (spM K .cl sp_rhythm_of) := fn_m T.f_rhythm_of S_rhythm_of (by intro ps Q h; repeat (first | (have e := h.1; subst e; rfl) | (obtain ⟨_, h⟩ := h))) (fun cdv A outer s H E hr => w_rhythm_of T   cdv A outer s H E hr) h_rhythm_of
theorem ok_rhythm_bill (T : Tx K mg) : FnOk P w K mg base CX0 2 T.a_rhythm_bill T.d_rhythm_bill p_rhythm_bill (spM K .cl sp_rhythm_bill) := fn_m T.f_rhythm_bill S_rhythm_bill (by intro ps Q h; repeat (first | (have e := h.1; subst e; rfl) | (obtain ⟨_, h⟩ := h))) (fun cdv A outer s H E hr => w_rhythm_bill T sp_rhythm_of sp_sent_at_handing sp_sent_to_newcomer (ok_rhythm_of T) (ok_sent_at_handing T) (ok_sent_to_newcomer T) cdv A outer s H E hr) h_rhythm_bill
theorem ok_rhythms (T : Tx K mg) : FnOk P w K mg base CX0 3 T.a_rhythms T.d_rhythms p_rhythms (spM K .cl sp_rhythms) := fn_m T.f_rhythms S_rhythms (by intro ps Q h; repeat (first | (have e := h.1; subst e; rfl) | (obtain ⟨_, h⟩ := h))) (fun cdv A outer s H E hr => w_rhythms T sp_most_over_all sp_rhythm_bill (ok_most_over_all T) (ok_rhythm_bill T) cdv A outer s H E hr) h_rhythms
theorem ok_cheapest_rhythm (T : Tx K mg) : FnOk P w K mg base CX0 4 T.a_cheapest_rhythm T.d_cheapest_rhythm p_cheapest_rhythm (spM K .cl sp_cheapest_rhythm) := fn_m T.f_cheapest_rhythm S_cheapest_rhythm (by intro ps Q h; repeat (first | (have e := h.1; subst e; rfl) | (obtain ⟨_, h⟩ := h))) (fun cdv A outer s H E hr => w_cheapest_rhythm T sp_rhythms (ok_rhythms T) cdv A outer s H E hr) h_cheapest_rhythm
theorem ok_kept_schedule (T : Tx K mg) : FnOk P w K mg base CX0 5 T.a_kept_schedule T.d_kept_schedule p_kept_schedule (spM K .cl sp_kept_schedule) := fn_m T.f_kept_schedule S_kept_schedule (by intro ps Q h; repeat (first | (have e := h.1; subst e; rfl) | (obtain ⟨_, h⟩ := h))) (fun cdv A outer s H E hr => w_kept_schedule T sp_cheapest_rhythm (ok_cheapest_rhythm T) cdv A outer s H E hr) h_kept_schedule
theorem ok_l_heap (T : Tx K mg) : FnOk P w K mg base CX0 1 T.a_l_heap T.d_l_heap p_l_heap (spSrc K ok_heap) := src_m T.f_l_heap S_l_heap rfl (fun cdv A outer s H E hr => w_l_heap T   cdv A outer s H E hr) h_l_heap
theorem ok_l_pick (T : Tx K mg) : FnOk P w K mg base CX0 2 T.a_l_pick T.d_l_pick p_l_pick (spM K .cl sp_pick) := fn_m T.f_l_pick S_l_pick (by intro ps Q h; repeat (first | (have e := h.1; subst e; rfl) | (obtain ⟨_, h⟩ := h))) (fun cdv A outer s H E hr => w_l_pick T sp_drw (ok_l_draw T) cdv A outer s H E hr) h_l_pick
theorem okn_l_like (T : Tx K mg) : ∀ n, FnOk P w K mg base CX0 n T.a_l_like T.d_l_like p_l_like (spM K .cl (spk n))
  | 0 => fn_none fun _ _ h => h
  | n + 1 => fn_m T.f_l_like S_l_like (by intro ps Q h; repeat (first | (have e := h.1; subst e; rfl) | (obtain ⟨_, h⟩ := h))) (fun cdv A outer s H E hr => w_l_like T (spk n) (okn_l_like T n) (Nat.zero_le _) cdv A outer s H E hr) (h_l_like n)
theorem ok_l_like (T : Tx K mg) : FnOk P w K mg base CX0 3 T.a_l_like T.d_l_like p_l_like (spM K .cl (spk 3)) := okn_l_like T 3
theorem ok_l_some (T : Tx K mg) : FnOk P w K mg base CX0 2 T.a_l_some T.d_l_some p_l_some (spM K .cl sp_some) := fn_m T.f_l_some S_l_some (by intro ps Q h; repeat (first | (have e := h.1; subst e; rfl) | (obtain ⟨_, h⟩ := h))) (fun cdv A outer s H E hr => w_l_some T sp_drw (ok_l_draw T) cdv A outer s H E hr) h_l_some
theorem ok_l_is_number (T : Tx K mg) : FnOk P w K mg base CX0 1 T.a_l_is_number T.d_l_is_number p_l_is_number (spM K .cl sp_l_is_number) := fn_m T.f_l_is_number S_l_is_number (by intro ps Q h; repeat (first | (have e := h.1; subst e; rfl) | (obtain ⟨_, h⟩ := h))) (fun cdv A outer s H E hr => w_l_is_number T   cdv A outer s H E hr) h_l_is_number
theorem ok_l_counted (T : Tx K mg) : FnOk P w K mg base CX0 3 T.a_l_counted T.d_l_counted p_l_counted (spM K .cl sp_l_counted) := fn_m T.f_l_counted S_l_counted (by intro ps Q h; repeat (first | (have e := h.1; subst e; rfl) | (obtain ⟨_, h⟩ := h))) (fun cdv A outer s H E hr => w_l_counted T sp_pick sp_some sp_drw (ok_l_pick T) (ok_l_some T) (ok_l_draw T) cdv A outer s H E hr) h_l_counted
theorem ok_l_sizes (T : Tx K mg) : FnOk P w K mg base CX0 1 T.a_l_sizes T.d_l_sizes p_l_sizes (spM K .cl sp_l_sizes) := fn_m T.f_l_sizes S_l_sizes (by intro ps Q h; repeat (first | (have e := h.1; subst e; rfl) | (obtain ⟨_, h⟩ := h))) (fun cdv A outer s H E hr => w_l_sizes T   cdv A outer s H E hr) h_l_sizes
theorem ok_l_is_plan (T : Tx K mg) : FnOk P w K mg base CX0 2 T.a_l_is_plan T.d_l_is_plan p_l_is_plan (spM K .cl sp_l_is_plan) := fn_m T.f_l_is_plan S_l_is_plan (by intro ps Q h; repeat (first | (have e := h.1; subst e; rfl) | (obtain ⟨_, h⟩ := h))) (fun cdv A outer s H E hr => w_l_is_plan T sp_l_is_number (ok_l_is_number T) cdv A outer s H E hr) h_l_is_plan
theorem ok_l_is_levels (T : Tx K mg) : FnOk P w K mg base CX0 2 T.a_l_is_levels T.d_l_is_levels p_l_is_levels (spM K .cl sp_l_is_levels) := fn_m T.f_l_is_levels S_l_is_levels (by intro ps Q h; repeat (first | (have e := h.1; subst e; rfl) | (obtain ⟨_, h⟩ := h))) (fun cdv A outer s H E hr => w_l_is_levels T sp_l_is_number (ok_l_is_number T) cdv A outer s H E hr) h_l_is_levels
theorem ok_l_own_plan (T : Tx K mg) : FnOk P w K mg base CX0 3 T.a_l_own_plan T.d_l_own_plan p_l_own_plan (spM K .cl sp_l_own_plan) := fn_m T.f_l_own_plan S_l_own_plan (by intro ps Q h; repeat (first | (have e := h.1; subst e; rfl) | (obtain ⟨_, h⟩ := h))) (fun cdv A outer s H E hr => w_l_own_plan T sp_pick sp_drw (ok_l_pick T) (ok_l_draw T) cdv A outer s H E hr) h_l_own_plan
theorem ok_l_own_levels (T : Tx K mg) : FnOk P w K mg base CX0 2 T.a_l_own_levels T.d_l_own_levels p_l_own_levels (spM K .cl sp_l_own_levels) := fn_m T.f_l_own_levels S_l_own_levels (by intro ps Q h; repeat (first | (have e := h.1; subst e; rfl) | (obtain ⟨_, h⟩ := h))) (fun cdv A outer s H E hr => w_l_own_levels T sp_drw (ok_l_draw T) cdv A outer s H E hr) h_l_own_levels
theorem ok_l_bent (T : Tx K mg) : FnOk P w K mg base CX0 3 T.a_l_bent T.d_l_bent p_l_bent (spM K .cl sp_l_bent) := fn_m T.f_l_bent S_l_bent (by intro ps Q h; repeat (first | (have e := h.1; subst e; rfl) | (obtain ⟨_, h⟩ := h))) (fun cdv A outer s H E hr => w_l_bent T sp_pick sp_drw (ok_l_pick T) (ok_l_draw T) cdv A outer s H E hr) h_l_bent
theorem ok_l_rhythms (T : Tx K mg) : FnOk P w K mg base CX0 1 T.a_l_rhythms T.d_l_rhythms p_l_rhythms (spM K .cl sp_l_rhythms) := fn_m T.f_l_rhythms S_l_rhythms (by intro ps Q h; repeat (first | (have e := h.1; subst e; rfl) | (obtain ⟨_, h⟩ := h))) (fun cdv A outer s H E hr => w_l_rhythms T   cdv A outer s H E hr) h_l_rhythms
theorem ok_law (T : Tx K mg) : FnOk P w K mg base CX0 6 T.a_law T.d_law p_law (spLawM K) := law_m T.f_law S_law rfl (fun cdv A outer s H E hr => w_law T ok_heap sp_pick sp_l_counted sp_l_rhythms (spk 3) sp_l_sizes sp_drw sp_cheapest_plan sp_least_levels sp_l_own_plan sp_l_own_levels sp_is_levels sp_l_bent sp_kept_schedule sp_is_degree_plan sp_rhythm_bill sp_l_is_plan sp_l_is_levels sp_plan_price sp_rhythms sp_cheapest_rhythm (ok_l_heap T) (ok_l_pick T) (ok_l_counted T) (ok_l_rhythms T) (ok_l_like T) (ok_l_sizes T) (ok_l_draw T) (ok_cheapest_plan T) (ok_least_levels T) (ok_l_own_plan T) (ok_l_own_levels T) (ok_is_levels T) (ok_l_bent T) (ok_kept_schedule T) (ok_is_degree_plan T) (ok_rhythm_bill T) (ok_l_is_plan T) (ok_l_is_levels T) (ok_plan_price T) (ok_rhythms T) (ok_cheapest_rhythm T) cdv A outer s H E hr) h_law
end
theorem all_mk {l : PySem.W.OpenLaw} {w : World} {K : PySem.W.Frag} {h : Heap} {mg : Str → Option Value} {fa f1 f2 f3 f4 f5 f6 f7 f8 f9 f10 f11 f12 f13 f14 f15 f16 f17 f18 f19 f20 f21 f22 f23 f24 f25 f26 f27 f28 f29 f30 f31 f32 f33 f34 f35 : Addr} (X : K.In h) (G : h.Ns mainGlobals mg) (hfa : mg "law" = some (.ref fa))
    {od1 an1 : Option Addr} {sl1 : Array (Option Value)} {oc1 kV1 dc1 pm1 cd1 ct1 : Value}
    {od2 an2 : Option Addr} {sl2 : Array (Option Value)} {oc2 kV2 dc2 pm2 cd2 ct2 : Value}
    {od3 an3 : Option Addr} {sl3 : Array (Option Value)} {oc3 kV3 dc3 pm3 cd3 ct3 : Value}
    {od4 an4 : Option Addr} {sl4 : Array (Option Value)} {oc4 kV4 dc4 pm4 cd4 ct4 : Value}
    {od5 an5 : Option Addr} {sl5 : Array (Option Value)} {oc5 kV5 dc5 pm5 cd5 ct5 : Value}
    {od6 an6 : Option Addr} {sl6 : Array (Option Value)} {oc6 kV6 dc6 pm6 cd6 ct6 : Value}
    {od7 an7 : Option Addr} {sl7 : Array (Option Value)} {oc7 kV7 dc7 pm7 cd7 ct7 : Value}
    {od8 an8 : Option Addr} {sl8 : Array (Option Value)} {oc8 kV8 dc8 pm8 cd8 ct8 : Value}
    {od9 an9 : Option Addr} {sl9 : Array (Option Value)} {oc9 kV9 dc9 pm9 cd9 ct9 : Value}
    {od10 an10 : Option Addr} {sl10 : Array (Option Value)} {oc10 kV10 dc10 pm10 cd10 ct10 : Value}
    {od11 an11 : Option Addr} {sl11 : Array (Option Value)} {oc11 kV11 dc11 pm11 cd11 ct11 : Value}
    {od12 an12 : Option Addr} {sl12 : Array (Option Value)} {oc12 kV12 dc12 pm12 cd12 ct12 : Value}
    {od13 an13 : Option Addr} {sl13 : Array (Option Value)} {oc13 kV13 dc13 pm13 cd13 ct13 : Value}
    {od14 an14 : Option Addr} {sl14 : Array (Option Value)} {oc14 kV14 dc14 pm14 cd14 ct14 : Value}
    {od15 an15 : Option Addr} {sl15 : Array (Option Value)} {oc15 kV15 dc15 pm15 cd15 ct15 : Value}
    {od16 an16 : Option Addr} {sl16 : Array (Option Value)} {oc16 kV16 dc16 pm16 cd16 ct16 : Value}
    {od17 an17 : Option Addr} {sl17 : Array (Option Value)} {oc17 kV17 dc17 pm17 cd17 ct17 : Value}
    {od18 an18 : Option Addr} {sl18 : Array (Option Value)} {oc18 kV18 dc18 pm18 cd18 ct18 : Value}
    {od19 an19 : Option Addr} {sl19 : Array (Option Value)} {oc19 kV19 dc19 pm19 cd19 ct19 : Value}
    {od20 an20 : Option Addr} {sl20 : Array (Option Value)} {oc20 kV20 dc20 pm20 cd20 ct20 : Value}
    {od21 an21 : Option Addr} {sl21 : Array (Option Value)} {oc21 kV21 dc21 pm21 cd21 ct21 : Value}
    {od22 an22 : Option Addr} {sl22 : Array (Option Value)} {oc22 kV22 dc22 pm22 cd22 ct22 : Value}
    {od23 an23 : Option Addr} {sl23 : Array (Option Value)} {oc23 kV23 dc23 pm23 cd23 ct23 : Value}
    {od24 an24 : Option Addr} {sl24 : Array (Option Value)} {oc24 kV24 dc24 pm24 cd24 ct24 : Value}
    {od25 an25 : Option Addr} {sl25 : Array (Option Value)} {oc25 kV25 dc25 pm25 cd25 ct25 : Value}
    {od26 an26 : Option Addr} {sl26 : Array (Option Value)} {oc26 kV26 dc26 pm26 cd26 ct26 : Value}
    {od27 an27 : Option Addr} {sl27 : Array (Option Value)} {oc27 kV27 dc27 pm27 cd27 ct27 : Value}
    {od28 an28 : Option Addr} {sl28 : Array (Option Value)} {oc28 kV28 dc28 pm28 cd28 ct28 : Value}
    {od29 an29 : Option Addr} {sl29 : Array (Option Value)} {oc29 kV29 dc29 pm29 cd29 ct29 : Value}
    {od30 an30 : Option Addr} {sl30 : Array (Option Value)} {oc30 kV30 dc30 pm30 cd30 ct30 : Value}
    {od31 an31 : Option Addr} {sl31 : Array (Option Value)} {oc31 kV31 dc31 pm31 cd31 ct31 : Value}
    {od32 an32 : Option Addr} {sl32 : Array (Option Value)} {oc32 kV32 dc32 pm32 cd32 ct32 : Value}
    {od33 an33 : Option Addr} {sl33 : Array (Option Value)} {oc33 kV33 dc33 pm33 cd33 ct33 : Value}
    {od34 an34 : Option Addr} {sl34 : Array (Option Value)} {oc34 kV34 dc34 pm34 cd34 ct34 : Value}
    {od35 an35 : Option Addr} {sl35 : Array (Option Value)} {oc35 kV35 dc35 pm35 cd35 ct35 : Value}
    {T2 : Addr} {tc2 : Value} {td2 : Option Addr} {tn2 : Nat} {ts2 : Array (Option Value)}
    (a1 : PySem.W.nsIn K mainGlobals "is_integer" = some (some (.ref f1))) (l1 : K.lookup f1 = some ⟨oc1, od1, .func (PySem.W.fnOf "is_integer" "is_integer" (defArgs s_is_integer) (defBody s_is_integer) (defScope s_is_integer) .none kV1 dc1 pm1 an1 cd1 ct1), sl1⟩) (c1 : PySem.W.codeIn K cd1 "is_integer" = true) (k1 : PySem.W.keepIn K (.ref f1) = true)
    (a2 : PySem.W.nsIn K mainGlobals "is_number" = some (some (.ref f2))) (l2 : K.lookup f2 = some ⟨oc2, od2, .func (PySem.W.fnOf "is_number" "is_number" (defArgs s_is_number) (defBody s_is_number) (defScope s_is_number) (.ref T2) kV2 dc2 pm2 an2 cd2 ct2), sl2⟩) (c2 : PySem.W.codeIn K cd2 "is_number" = true) (k2 : PySem.W.keepIn K (.ref f2) = true)
    (t2 : K.lookup T2 = some ⟨tc2, td2, .seq [Value.none].toArray tn2, ts2⟩)
    (a3 : PySem.W.nsIn K mainGlobals "union_of" = some (some (.ref f3))) (l3 : K.lookup f3 = some ⟨oc3, od3, .func (PySem.W.fnOf "union_of" "union_of" (defArgs s_union_of) (defBody s_union_of) (defScope s_union_of) .none kV3 dc3 pm3 an3 cd3 ct3), sl3⟩) (c3 : PySem.W.codeIn K cd3 "union_of" = true) (k3 : PySem.W.keepIn K (.ref f3) = true)
    (a4 : PySem.W.nsIn K mainGlobals "least_price" = some (some (.ref f4))) (l4 : K.lookup f4 = some ⟨oc4, od4, .func (PySem.W.fnOf "least_price" "least_price" (defArgs s_least_price) (defBody s_least_price) (defScope s_least_price) .none kV4 dc4 pm4 an4 cd4 ct4), sl4⟩) (c4 : PySem.W.codeIn K cd4 "least_price" = true) (k4 : PySem.W.keepIn K (.ref f4) = true)
    (a5 : PySem.W.nsIn K mainGlobals "is_epoch_row" = some (some (.ref f5))) (l5 : K.lookup f5 = some ⟨oc5, od5, .func (PySem.W.fnOf "is_epoch_row" "is_epoch_row" (defArgs s_is_epoch_row) (defBody s_is_epoch_row) (defScope s_is_epoch_row) .none kV5 dc5 pm5 an5 cd5 ct5), sl5⟩) (c5 : PySem.W.codeIn K cd5 "is_epoch_row" = true) (k5 : PySem.W.keepIn K (.ref f5) = true)
    (a6 : PySem.W.nsIn K mainGlobals "is_degree_plan" = some (some (.ref f6))) (l6 : K.lookup f6 = some ⟨oc6, od6, .func (PySem.W.fnOf "is_degree_plan" "is_degree_plan" (defArgs s_is_degree_plan) (defBody s_is_degree_plan) (defScope s_is_degree_plan) .none kV6 dc6 pm6 an6 cd6 ct6), sl6⟩) (c6 : PySem.W.codeIn K cd6 "is_degree_plan" = true) (k6 : PySem.W.keepIn K (.ref f6) = true)
    (a7 : PySem.W.nsIn K mainGlobals "plan_price" = some (some (.ref f7))) (l7 : K.lookup f7 = some ⟨oc7, od7, .func (PySem.W.fnOf "plan_price" "plan_price" (defArgs s_plan_price) (defBody s_plan_price) (defScope s_plan_price) .none kV7 dc7 pm7 an7 cd7 ct7), sl7⟩) (c7 : PySem.W.codeIn K cd7 "plan_price" = true) (k7 : PySem.W.keepIn K (.ref f7) = true)
    (a8 : PySem.W.nsIn K mainGlobals "least_ways" = some (some (.ref f8))) (l8 : K.lookup f8 = some ⟨oc8, od8, .func (PySem.W.fnOf "least_ways" "least_ways" (defArgs s_least_ways) (defBody s_least_ways) (defScope s_least_ways) .none kV8 dc8 pm8 an8 cd8 ct8), sl8⟩) (c8 : PySem.W.codeIn K cd8 "least_ways" = true) (k8 : PySem.W.keepIn K (.ref f8) = true)
    (a9 : PySem.W.nsIn K mainGlobals "cheapest_plan" = some (some (.ref f9))) (l9 : K.lookup f9 = some ⟨oc9, od9, .func (PySem.W.fnOf "cheapest_plan" "cheapest_plan" (defArgs s_cheapest_plan) (defBody s_cheapest_plan) (defScope s_cheapest_plan) .none kV9 dc9 pm9 an9 cd9 ct9), sl9⟩) (c9 : PySem.W.codeIn K cd9 "cheapest_plan" = true) (k9 : PySem.W.keepIn K (.ref f9) = true)
    (a10 : PySem.W.nsIn K mainGlobals "least_levels" = some (some (.ref f10))) (l10 : K.lookup f10 = some ⟨oc10, od10, .func (PySem.W.fnOf "least_levels" "least_levels" (defArgs s_least_levels) (defBody s_least_levels) (defScope s_least_levels) .none kV10 dc10 pm10 an10 cd10 ct10), sl10⟩) (c10 : PySem.W.codeIn K cd10 "least_levels" = true) (k10 : PySem.W.keepIn K (.ref f10) = true)
    (a11 : PySem.W.nsIn K mainGlobals "is_levels" = some (some (.ref f11))) (l11 : K.lookup f11 = some ⟨oc11, od11, .func (PySem.W.fnOf "is_levels" "is_levels" (defArgs s_is_levels) (defBody s_is_levels) (defScope s_is_levels) .none kV11 dc11 pm11 an11 cd11 ct11), sl11⟩) (c11 : PySem.W.codeIn K cd11 "is_levels" = true) (k11 : PySem.W.keepIn K (.ref f11) = true)
    (a12 : PySem.W.nsIn K mainGlobals "turning" = some (some (.ref f12))) (l12 : K.lookup f12 = some ⟨oc12, od12, .func (PySem.W.fnOf "turning" "turning" (defArgs s_turning) (defBody s_turning) (defScope s_turning) .none kV12 dc12 pm12 an12 cd12 ct12), sl12⟩) (c12 : PySem.W.codeIn K cd12 "turning" = true) (k12 : PySem.W.keepIn K (.ref f12) = true)
    (a13 : PySem.W.nsIn K mainGlobals "most_over_all" = some (some (.ref f13))) (l13 : K.lookup f13 = some ⟨oc13, od13, .func (PySem.W.fnOf "most_over_all" "most_over_all" (defArgs s_most_over_all) (defBody s_most_over_all) (defScope s_most_over_all) .none kV13 dc13 pm13 an13 cd13 ct13), sl13⟩) (c13 : PySem.W.codeIn K cd13 "most_over_all" = true) (k13 : PySem.W.keepIn K (.ref f13) = true)
    (a14 : PySem.W.nsIn K mainGlobals "sent_at_handing" = some (some (.ref f14))) (l14 : K.lookup f14 = some ⟨oc14, od14, .func (PySem.W.fnOf "sent_at_handing" "sent_at_handing" (defArgs s_sent_at_handing) (defBody s_sent_at_handing) (defScope s_sent_at_handing) .none kV14 dc14 pm14 an14 cd14 ct14), sl14⟩) (c14 : PySem.W.codeIn K cd14 "sent_at_handing" = true) (k14 : PySem.W.keepIn K (.ref f14) = true)
    (a15 : PySem.W.nsIn K mainGlobals "sent_to_newcomer" = some (some (.ref f15))) (l15 : K.lookup f15 = some ⟨oc15, od15, .func (PySem.W.fnOf "sent_to_newcomer" "sent_to_newcomer" (defArgs s_sent_to_newcomer) (defBody s_sent_to_newcomer) (defScope s_sent_to_newcomer) .none kV15 dc15 pm15 an15 cd15 ct15), sl15⟩) (c15 : PySem.W.codeIn K cd15 "sent_to_newcomer" = true) (k15 : PySem.W.keepIn K (.ref f15) = true)
    (a16 : PySem.W.nsIn K mainGlobals "rhythm_of" = some (some (.ref f16))) (l16 : K.lookup f16 = some ⟨oc16, od16, .func (PySem.W.fnOf "rhythm_of" "rhythm_of" (defArgs s_rhythm_of) (defBody s_rhythm_of) (defScope s_rhythm_of) .none kV16 dc16 pm16 an16 cd16 ct16), sl16⟩) (c16 : PySem.W.codeIn K cd16 "rhythm_of" = true) (k16 : PySem.W.keepIn K (.ref f16) = true)
    (a17 : PySem.W.nsIn K mainGlobals "rhythm_bill" = some (some (.ref f17))) (l17 : K.lookup f17 = some ⟨oc17, od17, .func (PySem.W.fnOf "rhythm_bill" "rhythm_bill" (defArgs s_rhythm_bill) (defBody s_rhythm_bill) (defScope s_rhythm_bill) .none kV17 dc17 pm17 an17 cd17 ct17), sl17⟩) (c17 : PySem.W.codeIn K cd17 "rhythm_bill" = true) (k17 : PySem.W.keepIn K (.ref f17) = true)
    (a18 : PySem.W.nsIn K mainGlobals "rhythms" = some (some (.ref f18))) (l18 : K.lookup f18 = some ⟨oc18, od18, .func (PySem.W.fnOf "rhythms" "rhythms" (defArgs s_rhythms) (defBody s_rhythms) (defScope s_rhythms) .none kV18 dc18 pm18 an18 cd18 ct18), sl18⟩) (c18 : PySem.W.codeIn K cd18 "rhythms" = true) (k18 : PySem.W.keepIn K (.ref f18) = true)
    (a19 : PySem.W.nsIn K mainGlobals "cheapest_rhythm" = some (some (.ref f19))) (l19 : K.lookup f19 = some ⟨oc19, od19, .func (PySem.W.fnOf "cheapest_rhythm" "cheapest_rhythm" (defArgs s_cheapest_rhythm) (defBody s_cheapest_rhythm) (defScope s_cheapest_rhythm) .none kV19 dc19 pm19 an19 cd19 ct19), sl19⟩) (c19 : PySem.W.codeIn K cd19 "cheapest_rhythm" = true) (k19 : PySem.W.keepIn K (.ref f19) = true)
    (a20 : PySem.W.nsIn K mainGlobals "kept_schedule" = some (some (.ref f20))) (l20 : K.lookup f20 = some ⟨oc20, od20, .func (PySem.W.fnOf "kept_schedule" "kept_schedule" (defArgs s_kept_schedule) (defBody s_kept_schedule) (defScope s_kept_schedule) .none kV20 dc20 pm20 an20 cd20 ct20), sl20⟩) (c20 : PySem.W.codeIn K cd20 "kept_schedule" = true) (k20 : PySem.W.keepIn K (.ref f20) = true)
    (a21 : PySem.W.nsIn K mainGlobals "_law_heap" = some (some (.ref f21))) (l21 : K.lookup f21 = some ⟨oc21, od21, .func (PySem.W.fnOf "_law_heap" "_law_heap" (defArgs s_l_heap) (defBody s_l_heap) (defScope s_l_heap) .none kV21 dc21 pm21 an21 cd21 ct21), sl21⟩) (c21 : PySem.W.codeIn K cd21 "_law_heap" = true) (k21 : PySem.W.keepIn K (.ref f21) = true)
    (a22 : PySem.W.nsIn K mainGlobals "_law_draw" = some (some (.ref f22))) (l22 : K.lookup f22 = some ⟨oc22, od22, .func (PySem.W.fnOf "_law_draw" "_law_draw" (defArgs s_l_draw) (defBody s_l_draw) (defScope s_l_draw) .none kV22 dc22 pm22 an22 cd22 ct22), sl22⟩) (c22 : PySem.W.codeIn K cd22 "_law_draw" = true) (k22 : PySem.W.keepIn K (.ref f22) = true)
    (a23 : PySem.W.nsIn K mainGlobals "_law_pick" = some (some (.ref f23))) (l23 : K.lookup f23 = some ⟨oc23, od23, .func (PySem.W.fnOf "_law_pick" "_law_pick" (defArgs s_l_pick) (defBody s_l_pick) (defScope s_l_pick) .none kV23 dc23 pm23 an23 cd23 ct23), sl23⟩) (c23 : PySem.W.codeIn K cd23 "_law_pick" = true) (k23 : PySem.W.keepIn K (.ref f23) = true)
    (a24 : PySem.W.nsIn K mainGlobals "_law_like" = some (some (.ref f24))) (l24 : K.lookup f24 = some ⟨oc24, od24, .func (PySem.W.fnOf "_law_like" "_law_like" (defArgs s_l_like) (defBody s_l_like) (defScope s_l_like) .none kV24 dc24 pm24 an24 cd24 ct24), sl24⟩) (c24 : PySem.W.codeIn K cd24 "_law_like" = true) (k24 : PySem.W.keepIn K (.ref f24) = true)
    (a25 : PySem.W.nsIn K mainGlobals "_law_some" = some (some (.ref f25))) (l25 : K.lookup f25 = some ⟨oc25, od25, .func (PySem.W.fnOf "_law_some" "_law_some" (defArgs s_l_some) (defBody s_l_some) (defScope s_l_some) .none kV25 dc25 pm25 an25 cd25 ct25), sl25⟩) (c25 : PySem.W.codeIn K cd25 "_law_some" = true) (k25 : PySem.W.keepIn K (.ref f25) = true)
    (a26 : PySem.W.nsIn K mainGlobals "_law_is_number" = some (some (.ref f26))) (l26 : K.lookup f26 = some ⟨oc26, od26, .func (PySem.W.fnOf "_law_is_number" "_law_is_number" (defArgs s_l_is_number) (defBody s_l_is_number) (defScope s_l_is_number) .none kV26 dc26 pm26 an26 cd26 ct26), sl26⟩) (c26 : PySem.W.codeIn K cd26 "_law_is_number" = true) (k26 : PySem.W.keepIn K (.ref f26) = true)
    (a27 : PySem.W.nsIn K mainGlobals "_law_counted" = some (some (.ref f27))) (l27 : K.lookup f27 = some ⟨oc27, od27, .func (PySem.W.fnOf "_law_counted" "_law_counted" (defArgs s_l_counted) (defBody s_l_counted) (defScope s_l_counted) .none kV27 dc27 pm27 an27 cd27 ct27), sl27⟩) (c27 : PySem.W.codeIn K cd27 "_law_counted" = true) (k27 : PySem.W.keepIn K (.ref f27) = true)
    (a28 : PySem.W.nsIn K mainGlobals "_law_sizes" = some (some (.ref f28))) (l28 : K.lookup f28 = some ⟨oc28, od28, .func (PySem.W.fnOf "_law_sizes" "_law_sizes" (defArgs s_l_sizes) (defBody s_l_sizes) (defScope s_l_sizes) .none kV28 dc28 pm28 an28 cd28 ct28), sl28⟩) (c28 : PySem.W.codeIn K cd28 "_law_sizes" = true) (k28 : PySem.W.keepIn K (.ref f28) = true)
    (a29 : PySem.W.nsIn K mainGlobals "_law_is_plan" = some (some (.ref f29))) (l29 : K.lookup f29 = some ⟨oc29, od29, .func (PySem.W.fnOf "_law_is_plan" "_law_is_plan" (defArgs s_l_is_plan) (defBody s_l_is_plan) (defScope s_l_is_plan) .none kV29 dc29 pm29 an29 cd29 ct29), sl29⟩) (c29 : PySem.W.codeIn K cd29 "_law_is_plan" = true) (k29 : PySem.W.keepIn K (.ref f29) = true)
    (a30 : PySem.W.nsIn K mainGlobals "_law_is_levels" = some (some (.ref f30))) (l30 : K.lookup f30 = some ⟨oc30, od30, .func (PySem.W.fnOf "_law_is_levels" "_law_is_levels" (defArgs s_l_is_levels) (defBody s_l_is_levels) (defScope s_l_is_levels) .none kV30 dc30 pm30 an30 cd30 ct30), sl30⟩) (c30 : PySem.W.codeIn K cd30 "_law_is_levels" = true) (k30 : PySem.W.keepIn K (.ref f30) = true)
    (a31 : PySem.W.nsIn K mainGlobals "_law_own_plan" = some (some (.ref f31))) (l31 : K.lookup f31 = some ⟨oc31, od31, .func (PySem.W.fnOf "_law_own_plan" "_law_own_plan" (defArgs s_l_own_plan) (defBody s_l_own_plan) (defScope s_l_own_plan) .none kV31 dc31 pm31 an31 cd31 ct31), sl31⟩) (c31 : PySem.W.codeIn K cd31 "_law_own_plan" = true) (k31 : PySem.W.keepIn K (.ref f31) = true)
    (a32 : PySem.W.nsIn K mainGlobals "_law_own_levels" = some (some (.ref f32))) (l32 : K.lookup f32 = some ⟨oc32, od32, .func (PySem.W.fnOf "_law_own_levels" "_law_own_levels" (defArgs s_l_own_levels) (defBody s_l_own_levels) (defScope s_l_own_levels) .none kV32 dc32 pm32 an32 cd32 ct32), sl32⟩) (c32 : PySem.W.codeIn K cd32 "_law_own_levels" = true) (k32 : PySem.W.keepIn K (.ref f32) = true)
    (a33 : PySem.W.nsIn K mainGlobals "_law_bent" = some (some (.ref f33))) (l33 : K.lookup f33 = some ⟨oc33, od33, .func (PySem.W.fnOf "_law_bent" "_law_bent" (defArgs s_l_bent) (defBody s_l_bent) (defScope s_l_bent) .none kV33 dc33 pm33 an33 cd33 ct33), sl33⟩) (c33 : PySem.W.codeIn K cd33 "_law_bent" = true) (k33 : PySem.W.keepIn K (.ref f33) = true)
    (a34 : PySem.W.nsIn K mainGlobals "_law_rhythms" = some (some (.ref f34))) (l34 : K.lookup f34 = some ⟨oc34, od34, .func (PySem.W.fnOf "_law_rhythms" "_law_rhythms" (defArgs s_l_rhythms) (defBody s_l_rhythms) (defScope s_l_rhythms) .none kV34 dc34 pm34 an34 cd34 ct34), sl34⟩) (c34 : PySem.W.codeIn K cd34 "_law_rhythms" = true) (k34 : PySem.W.keepIn K (.ref f34) = true)
    (a35 : PySem.W.nsIn K mainGlobals "law" = some (some (.ref f35))) (l35 : K.lookup f35 = some ⟨oc35, od35, .func (PySem.W.fnOf "law" "law" (defArgs s_law) (defBody s_law) (defScope s_law) .none kV35 dc35 pm35 an35 cd35 ct35), sl35⟩) (c35 : PySem.W.codeIn K cd35 "law" = true) (k35 : PySem.W.keepIn K (.ref f35) = true)
    (z0 : PySem.W.nsIn K mainGlobals "abs" = some none)
    (z1 : PySem.W.nsIn K mainGlobals "all" = some none)
    (z2 : PySem.W.nsIn K mainGlobals "bool" = some none)
    (z3 : PySem.W.nsIn K mainGlobals "enumerate" = some none)
    (z4 : PySem.W.nsIn K mainGlobals "int" = some none)
    (z5 : PySem.W.nsIn K mainGlobals "isinstance" = some none)
    (z6 : PySem.W.nsIn K mainGlobals "len" = some none)
    (z7 : PySem.W.nsIn K mainGlobals "list" = some none)
    (z8 : PySem.W.nsIn K mainGlobals "max" = some none)
    (z9 : PySem.W.nsIn K mainGlobals "min" = some none)
    (z10 : PySem.W.nsIn K mainGlobals "range" = some none)
    (z11 : PySem.W.nsIn K mainGlobals "sorted" = some none)
    (z12 : PySem.W.nsIn K mainGlobals "str" = some none)
    (z13 : PySem.W.nsIn K mainGlobals "sum" = some none)
    (z14 : PySem.W.nsIn K mainGlobals "tuple" = some none)
    (z15 : PySem.W.nsIn K mainGlobals "zip" = some none) :
    ∃ fd : FuncData, (∀ (s : Shared) (v : Value), BindsTo s fd ⟨[v], []⟩ [("script", v)]) ∧ ∀ base : Heap, K.In base → base.Ns mainGlobals mg → FnOk l.prog w K mg base CX0 6 fa fd ["script"] (spLawM K) := by
  have e := hfa.symm.trans (PySem.W.mg_of X G a35)
  cases e
  have F1 : FunD K "is_integer" "is_integer" (defArgs s_is_integer) (defBody s_is_integer) (defScope s_is_integer) [] [] f1 _ := ⟨⟨oc1, od1, .none, kV1, dc1, pm1, an1, cd1, ct1, sl1, rfl, l1, c1, .inl ⟨rfl, rfl⟩, .inl rfl⟩, k1⟩
  have B1 := binds0 (ps := p_is_integer) F1 fun _ _ _ _ _ _ us hl => match us, hl with | [_], _ => rfl
  have F2 : FunD K "is_number" "is_number" (defArgs s_is_number) (defBody s_is_number) (defScope s_is_number) [V.non] [] f2 _ := ⟨⟨oc2, od2, (.ref T2), kV2, dc2, pm2, an2, cd2, ct2, sl2, rfl, l2, c2, .inr ⟨by simp, T2, _, [Value.none], tn2, rfl, t2, rfl, .cons rfl (.nil)⟩, .inl rfl⟩, k2⟩
  obtain ⟨u2_1, v2_1, B2_1⟩ := FunD.binds1 (ps := p_is_number) F2 1 0 (by simp) rfl fun T kV doc pm an cdv ct us its hu hi => match us, its, hu, hi with | [_], [_], _, _ => ⟨_, rfl, rfl⟩
  have F3 : FunD K "union_of" "union_of" (defArgs s_union_of) (defBody s_union_of) (defScope s_union_of) [] [] f3 _ := ⟨⟨oc3, od3, .none, kV3, dc3, pm3, an3, cd3, ct3, sl3, rfl, l3, c3, .inl ⟨rfl, rfl⟩, .inl rfl⟩, k3⟩
  have B3 := binds0 (ps := p_union_of) F3 fun _ _ _ _ _ _ us hl => match us, hl with | [_, _, _], _ => rfl
  have F4 : FunD K "least_price" "least_price" (defArgs s_least_price) (defBody s_least_price) (defScope s_least_price) [] [] f4 _ := ⟨⟨oc4, od4, .none, kV4, dc4, pm4, an4, cd4, ct4, sl4, rfl, l4, c4, .inl ⟨rfl, rfl⟩, .inl rfl⟩, k4⟩
  have B4 := binds0 (ps := p_least_price) F4 fun _ _ _ _ _ _ us hl => match us, hl with | [_, _, _, _], _ => rfl
  have F5 : FunD K "is_epoch_row" "is_epoch_row" (defArgs s_is_epoch_row) (defBody s_is_epoch_row) (defScope s_is_epoch_row) [] [] f5 _ := ⟨⟨oc5, od5, .none, kV5, dc5, pm5, an5, cd5, ct5, sl5, rfl, l5, c5, .inl ⟨rfl, rfl⟩, .inl rfl⟩, k5⟩
  have B5 := binds0 (ps := p_is_epoch_row) F5 fun _ _ _ _ _ _ us hl => match us, hl with | [_, _, _], _ => rfl
  have F6 : FunD K "is_degree_plan" "is_degree_plan" (defArgs s_is_degree_plan) (defBody s_is_degree_plan) (defScope s_is_degree_plan) [] [] f6 _ := ⟨⟨oc6, od6, .none, kV6, dc6, pm6, an6, cd6, ct6, sl6, rfl, l6, c6, .inl ⟨rfl, rfl⟩, .inl rfl⟩, k6⟩
  have B6 := binds0 (ps := p_is_degree_plan) F6 fun _ _ _ _ _ _ us hl => match us, hl with | [_, _, _], _ => rfl
  have F7 : FunD K "plan_price" "plan_price" (defArgs s_plan_price) (defBody s_plan_price) (defScope s_plan_price) [] [] f7 _ := ⟨⟨oc7, od7, .none, kV7, dc7, pm7, an7, cd7, ct7, sl7, rfl, l7, c7, .inl ⟨rfl, rfl⟩, .inl rfl⟩, k7⟩
  have B7 := binds0 (ps := p_plan_price) F7 fun _ _ _ _ _ _ us hl => match us, hl with | [_, _], _ => rfl
  have F8 : FunD K "least_ways" "least_ways" (defArgs s_least_ways) (defBody s_least_ways) (defScope s_least_ways) [] [] f8 _ := ⟨⟨oc8, od8, .none, kV8, dc8, pm8, an8, cd8, ct8, sl8, rfl, l8, c8, .inl ⟨rfl, rfl⟩, .inl rfl⟩, k8⟩
  have B8 := binds0 (ps := p_least_ways) F8 fun _ _ _ _ _ _ us hl => match us, hl with | [_, _], _ => rfl
  have F9 : FunD K "cheapest_plan" "cheapest_plan" (defArgs s_cheapest_plan) (defBody s_cheapest_plan) (defScope s_cheapest_plan) [] [] f9 _ := ⟨⟨oc9, od9, .none, kV9, dc9, pm9, an9, cd9, ct9, sl9, rfl, l9, c9, .inl ⟨rfl, rfl⟩, .inl rfl⟩, k9⟩
  have B9 := binds0 (ps := p_cheapest_plan) F9 fun _ _ _ _ _ _ us hl => match us, hl with | [_, _], _ => rfl
  have F10 : FunD K "least_levels" "least_levels" (defArgs s_least_levels) (defBody s_least_levels) (defScope s_least_levels) [] [] f10 _ := ⟨⟨oc10, od10, .none, kV10, dc10, pm10, an10, cd10, ct10, sl10, rfl, l10, c10, .inl ⟨rfl, rfl⟩, .inl rfl⟩, k10⟩
  have B10 := binds0 (ps := p_least_levels) F10 fun _ _ _ _ _ _ us hl => match us, hl with | [_, _], _ => rfl
  have F11 : FunD K "is_levels" "is_levels" (defArgs s_is_levels) (defBody s_is_levels) (defScope s_is_levels) [] [] f11 _ := ⟨⟨oc11, od11, .none, kV11, dc11, pm11, an11, cd11, ct11, sl11, rfl, l11, c11, .inl ⟨rfl, rfl⟩, .inl rfl⟩, k11⟩
  have B11 := binds0 (ps := p_is_levels) F11 fun _ _ _ _ _ _ us hl => match us, hl with | [_, _, _], _ => rfl
  have F12 : FunD K "turning" "turning" (defArgs s_turning) (defBody s_turning) (defScope s_turning) [] [] f12 _ := ⟨⟨oc12, od12, .none, kV12, dc12, pm12, an12, cd12, ct12, sl12, rfl, l12, c12, .inl ⟨rfl, rfl⟩, .inl rfl⟩, k12⟩
  have B12 := binds0 (ps := p_turning) F12 fun _ _ _ _ _ _ us hl => match us, hl with | [_, _], _ => rfl
  have F13 : FunD K "most_over_all" "most_over_all" (defArgs s_most_over_all) (defBody s_most_over_all) (defScope s_most_over_all) [] [] f13 _ := ⟨⟨oc13, od13, .none, kV13, dc13, pm13, an13, cd13, ct13, sl13, rfl, l13, c13, .inl ⟨rfl, rfl⟩, .inl rfl⟩, k13⟩
  have B13 := binds0 (ps := p_most_over_all) F13 fun _ _ _ _ _ _ us hl => match us, hl with | [_, _, _, _, _, _], _ => rfl
  have F14 : FunD K "sent_at_handing" "sent_at_handing" (defArgs s_sent_at_handing) (defBody s_sent_at_handing) (defScope s_sent_at_handing) [] [] f14 _ := ⟨⟨oc14, od14, .none, kV14, dc14, pm14, an14, cd14, ct14, sl14, rfl, l14, c14, .inl ⟨rfl, rfl⟩, .inl rfl⟩, k14⟩
  have B14 := binds0 (ps := p_sent_at_handing) F14 fun _ _ _ _ _ _ us hl => match us, hl with | [_, _], _ => rfl
  have F15 : FunD K "sent_to_newcomer" "sent_to_newcomer" (defArgs s_sent_to_newcomer) (defBody s_sent_to_newcomer) (defScope s_sent_to_newcomer) [] [] f15 _ := ⟨⟨oc15, od15, .none, kV15, dc15, pm15, an15, cd15, ct15, sl15, rfl, l15, c15, .inl ⟨rfl, rfl⟩, .inl rfl⟩, k15⟩
  have B15 := binds0 (ps := p_sent_to_newcomer) F15 fun _ _ _ _ _ _ us hl => match us, hl with | [_], _ => rfl
  have F16 : FunD K "rhythm_of" "rhythm_of" (defArgs s_rhythm_of) (defBody s_rhythm_of) (defScope s_rhythm_of) [] [] f16 _ := ⟨⟨oc16, od16, .none, kV16, dc16, pm16, an16, cd16, ct16, sl16, rfl, l16, c16, .inl ⟨rfl, rfl⟩, .inl rfl⟩, k16⟩
  have B16 := binds0 (ps := p_rhythm_of) F16 fun _ _ _ _ _ _ us hl => match us, hl with | [_, _], _ => rfl
  have F17 : FunD K "rhythm_bill" "rhythm_bill" (defArgs s_rhythm_bill) (defBody s_rhythm_bill) (defScope s_rhythm_bill) [] [] f17 _ := ⟨⟨oc17, od17, .none, kV17, dc17, pm17, an17, cd17, ct17, sl17, rfl, l17, c17, .inl ⟨rfl, rfl⟩, .inl rfl⟩, k17⟩
  have B17 := binds0 (ps := p_rhythm_bill) F17 fun _ _ _ _ _ _ us hl => match us, hl with | [_, _, _, _, _], _ => rfl
  have F18 : FunD K "rhythms" "rhythms" (defArgs s_rhythms) (defBody s_rhythms) (defScope s_rhythms) [] [] f18 _ := ⟨⟨oc18, od18, .none, kV18, dc18, pm18, an18, cd18, ct18, sl18, rfl, l18, c18, .inl ⟨rfl, rfl⟩, .inl rfl⟩, k18⟩
  have B18 := binds0 (ps := p_rhythms) F18 fun _ _ _ _ _ _ us hl => match us, hl with | [_, _, _, _, _, _], _ => rfl
  have F19 : FunD K "cheapest_rhythm" "cheapest_rhythm" (defArgs s_cheapest_rhythm) (defBody s_cheapest_rhythm) (defScope s_cheapest_rhythm) [] [] f19 _ := ⟨⟨oc19, od19, .none, kV19, dc19, pm19, an19, cd19, ct19, sl19, rfl, l19, c19, .inl ⟨rfl, rfl⟩, .inl rfl⟩, k19⟩
  have B19 := binds0 (ps := p_cheapest_rhythm) F19 fun _ _ _ _ _ _ us hl => match us, hl with | [_, _, _, _, _, _], _ => rfl
  have F20 : FunD K "kept_schedule" "kept_schedule" (defArgs s_kept_schedule) (defBody s_kept_schedule) (defScope s_kept_schedule) [] [] f20 _ := ⟨⟨oc20, od20, .none, kV20, dc20, pm20, an20, cd20, ct20, sl20, rfl, l20, c20, .inl ⟨rfl, rfl⟩, .inl rfl⟩, k20⟩
  have B20 := binds0 (ps := p_kept_schedule) F20 fun _ _ _ _ _ _ us hl => match us, hl with | [_, _, _, _, _, _], _ => rfl
  have F21 : FunD K "_law_heap" "_law_heap" (defArgs s_l_heap) (defBody s_l_heap) (defScope s_l_heap) [] [] f21 _ := ⟨⟨oc21, od21, .none, kV21, dc21, pm21, an21, cd21, ct21, sl21, rfl, l21, c21, .inl ⟨rfl, rfl⟩, .inl rfl⟩, k21⟩
  have B21 := binds0 (ps := p_l_heap) F21 fun _ _ _ _ _ _ us hl => match us, hl with | [_], _ => rfl
  have F22 : FunD K "_law_draw" "_law_draw" (defArgs s_l_draw) (defBody s_l_draw) (defScope s_l_draw) [] [] f22 _ := ⟨⟨oc22, od22, .none, kV22, dc22, pm22, an22, cd22, ct22, sl22, rfl, l22, c22, .inl ⟨rfl, rfl⟩, .inl rfl⟩, k22⟩
  have B22 := binds0 (ps := p_l_draw) F22 fun _ _ _ _ _ _ us hl => match us, hl with | [_, _], _ => rfl
  have F23 : FunD K "_law_pick" "_law_pick" (defArgs s_l_pick) (defBody s_l_pick) (defScope s_l_pick) [] [] f23 _ := ⟨⟨oc23, od23, .none, kV23, dc23, pm23, an23, cd23, ct23, sl23, rfl, l23, c23, .inl ⟨rfl, rfl⟩, .inl rfl⟩, k23⟩
  have B23 := binds0 (ps := p_l_pick) F23 fun _ _ _ _ _ _ us hl => match us, hl with | [_, _], _ => rfl
  have F24 : FunD K "_law_like" "_law_like" (defArgs s_l_like) (defBody s_l_like) (defScope s_l_like) [] [] f24 _ := ⟨⟨oc24, od24, .none, kV24, dc24, pm24, an24, cd24, ct24, sl24, rfl, l24, c24, .inl ⟨rfl, rfl⟩, .inl rfl⟩, k24⟩
  have B24 := binds0 (ps := p_l_like) F24 fun _ _ _ _ _ _ us hl => match us, hl with | [_, _], _ => rfl
  have F25 : FunD K "_law_some" "_law_some" (defArgs s_l_some) (defBody s_l_some) (defScope s_l_some) [] [] f25 _ := ⟨⟨oc25, od25, .none, kV25, dc25, pm25, an25, cd25, ct25, sl25, rfl, l25, c25, .inl ⟨rfl, rfl⟩, .inl rfl⟩, k25⟩
  have B25 := binds0 (ps := p_l_some) F25 fun _ _ _ _ _ _ us hl => match us, hl with | [_, _, _], _ => rfl
  have F26 : FunD K "_law_is_number" "_law_is_number" (defArgs s_l_is_number) (defBody s_l_is_number) (defScope s_l_is_number) [] [] f26 _ := ⟨⟨oc26, od26, .none, kV26, dc26, pm26, an26, cd26, ct26, sl26, rfl, l26, c26, .inl ⟨rfl, rfl⟩, .inl rfl⟩, k26⟩
  have B26 := binds0 (ps := p_l_is_number) F26 fun _ _ _ _ _ _ us hl => match us, hl with | [_], _ => rfl
  have F27 : FunD K "_law_counted" "_law_counted" (defArgs s_l_counted) (defBody s_l_counted) (defScope s_l_counted) [] [] f27 _ := ⟨⟨oc27, od27, .none, kV27, dc27, pm27, an27, cd27, ct27, sl27, rfl, l27, c27, .inl ⟨rfl, rfl⟩, .inl rfl⟩, k27⟩
  have B27 := binds0 (ps := p_l_counted) F27 fun _ _ _ _ _ _ us hl => match us, hl with | [_, _], _ => rfl
  have F28 : FunD K "_law_sizes" "_law_sizes" (defArgs s_l_sizes) (defBody s_l_sizes) (defScope s_l_sizes) [] [] f28 _ := ⟨⟨oc28, od28, .none, kV28, dc28, pm28, an28, cd28, ct28, sl28, rfl, l28, c28, .inl ⟨rfl, rfl⟩, .inl rfl⟩, k28⟩
  have B28 := binds0 (ps := p_l_sizes) F28 fun _ _ _ _ _ _ us hl => match us, hl with | [_], _ => rfl
  have F29 : FunD K "_law_is_plan" "_law_is_plan" (defArgs s_l_is_plan) (defBody s_l_is_plan) (defScope s_l_is_plan) [] [] f29 _ := ⟨⟨oc29, od29, .none, kV29, dc29, pm29, an29, cd29, ct29, sl29, rfl, l29, c29, .inl ⟨rfl, rfl⟩, .inl rfl⟩, k29⟩
  have B29 := binds0 (ps := p_l_is_plan) F29 fun _ _ _ _ _ _ us hl => match us, hl with | [_, _, _], _ => rfl
  have F30 : FunD K "_law_is_levels" "_law_is_levels" (defArgs s_l_is_levels) (defBody s_l_is_levels) (defScope s_l_is_levels) [] [] f30 _ := ⟨⟨oc30, od30, .none, kV30, dc30, pm30, an30, cd30, ct30, sl30, rfl, l30, c30, .inl ⟨rfl, rfl⟩, .inl rfl⟩, k30⟩
  have B30 := binds0 (ps := p_l_is_levels) F30 fun _ _ _ _ _ _ us hl => match us, hl with | [_, _, _], _ => rfl
  have F31 : FunD K "_law_own_plan" "_law_own_plan" (defArgs s_l_own_plan) (defBody s_l_own_plan) (defScope s_l_own_plan) [] [] f31 _ := ⟨⟨oc31, od31, .none, kV31, dc31, pm31, an31, cd31, ct31, sl31, rfl, l31, c31, .inl ⟨rfl, rfl⟩, .inl rfl⟩, k31⟩
  have B31 := binds0 (ps := p_l_own_plan) F31 fun _ _ _ _ _ _ us hl => match us, hl with | [_, _, _], _ => rfl
  have F32 : FunD K "_law_own_levels" "_law_own_levels" (defArgs s_l_own_levels) (defBody s_l_own_levels) (defScope s_l_own_levels) [] [] f32 _ := ⟨⟨oc32, od32, .none, kV32, dc32, pm32, an32, cd32, ct32, sl32, rfl, l32, c32, .inl ⟨rfl, rfl⟩, .inl rfl⟩, k32⟩
  have B32 := binds0 (ps := p_l_own_levels) F32 fun _ _ _ _ _ _ us hl => match us, hl with | [_, _, _], _ => rfl
  have F33 : FunD K "_law_bent" "_law_bent" (defArgs s_l_bent) (defBody s_l_bent) (defScope s_l_bent) [] [] f33 _ := ⟨⟨oc33, od33, .none, kV33, dc33, pm33, an33, cd33, ct33, sl33, rfl, l33, c33, .inl ⟨rfl, rfl⟩, .inl rfl⟩, k33⟩
  have B33 := binds0 (ps := p_l_bent) F33 fun _ _ _ _ _ _ us hl => match us, hl with | [_, _], _ => rfl
  have F34 : FunD K "_law_rhythms" "_law_rhythms" (defArgs s_l_rhythms) (defBody s_l_rhythms) (defScope s_l_rhythms) [] [] f34 _ := ⟨⟨oc34, od34, .none, kV34, dc34, pm34, an34, cd34, ct34, sl34, rfl, l34, c34, .inl ⟨rfl, rfl⟩, .inl rfl⟩, k34⟩
  have B34 := binds0 (ps := p_l_rhythms) F34 fun _ _ _ _ _ _ us hl => match us, hl with | [_, _, _, _, _, _], _ => rfl
  have F35 : FunD K "law" "law" (defArgs s_law) (defBody s_law) (defScope s_law) [] [] _ _ := ⟨⟨oc35, od35, .none, kV35, dc35, pm35, an35, cd35, ct35, sl35, rfl, l35, c35, .inl ⟨rfl, rfl⟩, .inl rfl⟩, k35⟩
  exact ⟨_, fun s v => .of_eq rfl, fun base _ _ => ok_law ⟨f1, _, F1, (PySem.W.mg_of X G a1), B1, f2, _, F2, (PySem.W.mg_of X G a2), u2_1, B2_1, v2_1, f3, _, F3, (PySem.W.mg_of X G a3), B3, f4, _, F4, (PySem.W.mg_of X G a4), B4, f5, _, F5, (PySem.W.mg_of X G a5), B5, f6, _, F6, (PySem.W.mg_of X G a6), B6, f7, _, F7, (PySem.W.mg_of X G a7), B7, f8, _, F8, (PySem.W.mg_of X G a8), B8, f9, _, F9, (PySem.W.mg_of X G a9), B9, f10, _, F10, (PySem.W.mg_of X G a10), B10, f11, _, F11, (PySem.W.mg_of X G a11), B11, f12, _, F12, (PySem.W.mg_of X G a12), B12, f13, _, F13, (PySem.W.mg_of X G a13), B13, f14, _, F14, (PySem.W.mg_of X G a14), B14, f15, _, F15, (PySem.W.mg_of X G a15), B15, f16, _, F16, (PySem.W.mg_of X G a16), B16, f17, _, F17, (PySem.W.mg_of X G a17), B17, f18, _, F18, (PySem.W.mg_of X G a18), B18, f19, _, F19, (PySem.W.mg_of X G a19), B19, f20, _, F20, (PySem.W.mg_of X G a20), B20, f21, _, F21, (PySem.W.mg_of X G a21), B21, f22, _, F22, (PySem.W.mg_of X G a22), B22, f23, _, F23, (PySem.W.mg_of X G a23), B23, f24, _, F24, (PySem.W.mg_of X G a24), B24, f25, _, F25, (PySem.W.mg_of X G a25), B25, f26, _, F26, (PySem.W.mg_of X G a26), B26, f27, _, F27, (PySem.W.mg_of X G a27), B27, f28, _, F28, (PySem.W.mg_of X G a28), B28, f29, _, F29, (PySem.W.mg_of X G a29), B29, f30, _, F30, (PySem.W.mg_of X G a30), B30, f31, _, F31, (PySem.W.mg_of X G a31), B31, f32, _, F32, (PySem.W.mg_of X G a32), B32, f33, _, F33, (PySem.W.mg_of X G a33), B33, f34, _, F34, (PySem.W.mg_of X G a34), B34, _, _, F35, (PySem.W.mg_of X G a35), (PySem.W.mg_none_of X G z0), (PySem.W.mg_none_of X G z1), (PySem.W.mg_none_of X G z2), (PySem.W.mg_none_of X G z3), (PySem.W.mg_none_of X G z4), (PySem.W.mg_none_of X G z5), (PySem.W.mg_none_of X G z6), (PySem.W.mg_none_of X G z7), (PySem.W.mg_none_of X G z8), (PySem.W.mg_none_of X G z9), (PySem.W.mg_none_of X G z10), (PySem.W.mg_none_of X G z11), (PySem.W.mg_none_of X G z12), (PySem.W.mg_none_of X G z13), (PySem.W.mg_none_of X G z14), (PySem.W.mg_none_of X G z15)⟩⟩
end K46
open PySem PySem.W PyProof.Rows
set_option maxHeartbeats 0 in
theorem PySem.Challenge.cw_keysapart_k46_whole_degrees_levels_and_b_holds : PySem.Challenge.rw_keysapart_k46_whole_degrees_levels_and_b.Holds := by
  w_on; o_law; k_head; (case hw => w_witness2)
  k_fill
  refine L2.walk_of (l := PySem.Challenge.rw_keysapart_k46_whole_degrees_levels_and_b) (n := 63) (k := 6) (x := "script") (CX := fun _ => L2.CX0) (sp := fun w => PM.spLawM _) rfl (by decide) rfl ⟨rfl, by decide, by decide⟩ (fun w h Y => PySem.W.kIn_of Y) ?F (fun _ _ a ns hl hO hS => ⟨a, ns, rfl, hO, hS, hl, fun _ => rfl⟩) (fun _ _ _ _ _ h => h)
  case F =>
    intro w mg fa h KX G hmg
    refine' K46.all_mk KX G hmg ?a1 ?l1 ?c1 ?k1 ?a2 ?l2 ?c2 ?k2 ?t2 ?a3 ?l3 ?c3 ?k3 ?a4 ?l4 ?c4 ?k4 ?a5 ?l5 ?c5 ?k5 ?a6 ?l6 ?c6 ?k6 ?a7 ?l7 ?c7 ?k7 ?a8 ?l8 ?c8 ?k8 ?a9 ?l9 ?c9 ?k9 ?a10 ?l10 ?c10 ?k10 ?a11 ?l11 ?c11 ?k11 ?a12 ?l12 ?c12 ?k12 ?a13 ?l13 ?c13 ?k13 ?a14 ?l14 ?c14 ?k14 ?a15 ?l15 ?c15 ?k15 ?a16 ?l16 ?c16 ?k16 ?a17 ?l17 ?c17 ?k17 ?a18 ?l18 ?c18 ?k18 ?a19 ?l19 ?c19 ?k19 ?a20 ?l20 ?c20 ?k20 ?a21 ?l21 ?c21 ?k21 ?a22 ?l22 ?c22 ?k22 ?a23 ?l23 ?c23 ?k23 ?a24 ?l24 ?c24 ?k24 ?a25 ?l25 ?c25 ?k25 ?a26 ?l26 ?c26 ?k26 ?a27 ?l27 ?c27 ?k27 ?a28 ?l28 ?c28 ?k28 ?a29 ?l29 ?c29 ?k29 ?a30 ?l30 ?c30 ?k30 ?a31 ?l31 ?c31 ?k31 ?a32 ?l32 ?c32 ?k32 ?a33 ?l33 ?c33 ?k33 ?a34 ?l34 ?c34 ?k34 ?a35 ?l35 ?c35 ?k35 ?z0 ?z1 ?z2 ?z3 ?z4 ?z5 ?z6 ?z7 ?z8 ?z9 ?z10 ?z11 ?z12 ?z13 ?z14 ?z15
    (case a1 => k_is); (case l1 => k_is); (case c1 => k_is); (case k1 => k_is); (case a2 => k_is); (case l2 => k_is); (case c2 => k_is); (case k2 => k_is); (case t2 => k_is); (case a3 => k_is); (case l3 => k_is); (case c3 => k_is); (case k3 => k_is); (case a4 => k_is); (case l4 => k_is); (case c4 => k_is); (case k4 => k_is); (case a5 => k_is); (case l5 => k_is); (case c5 => k_is); (case k5 => k_is); (case a6 => k_is); (case l6 => k_is); (case c6 => k_is); (case k6 => k_is); (case a7 => k_is); (case l7 => k_is); (case c7 => k_is); (case k7 => k_is); (case a8 => k_is); (case l8 => k_is); (case c8 => k_is); (case k8 => k_is); (case a9 => k_is); (case l9 => k_is); (case c9 => k_is); (case k9 => k_is); (case a10 => k_is); (case l10 => k_is); (case c10 => k_is); (case k10 => k_is); (case a11 => k_is); (case l11 => k_is); (case c11 => k_is); (case k11 => k_is); (case a12 => k_is); (case l12 => k_is); (case c12 => k_is); (case k12 => k_is); (case a13 => k_is); (case l13 => k_is); (case c13 => k_is); (case k13 => k_is); (case a14 => k_is); (case l14 => k_is); (case c14 => k_is); (case k14 => k_is); (case a15 => k_is); (case l15 => k_is); (case c15 => k_is); (case k15 => k_is); (case a16 => k_is); (case l16 => k_is); (case c16 => k_is); (case k16 => k_is); (case a17 => k_is); (case l17 => k_is); (case c17 => k_is); (case k17 => k_is); (case a18 => k_is); (case l18 => k_is); (case c18 => k_is); (case k18 => k_is); (case a19 => k_is); (case l19 => k_is); (case c19 => k_is); (case k19 => k_is); (case a20 => k_is); (case l20 => k_is); (case c20 => k_is); (case k20 => k_is); (case a21 => k_is); (case l21 => k_is); (case c21 => k_is); (case k21 => k_is); (case a22 => k_is); (case l22 => k_is); (case c22 => k_is); (case k22 => k_is); (case a23 => k_is); (case l23 => k_is); (case c23 => k_is); (case k23 => k_is); (case a24 => k_is); (case l24 => k_is); (case c24 => k_is); (case k24 => k_is); (case a25 => k_is); (case l25 => k_is); (case c25 => k_is); (case k25 => k_is); (case a26 => k_is); (case l26 => k_is); (case c26 => k_is); (case k26 => k_is); (case a27 => k_is); (case l27 => k_is); (case c27 => k_is); (case k27 => k_is); (case a28 => k_is); (case l28 => k_is); (case c28 => k_is); (case k28 => k_is); (case a29 => k_is); (case l29 => k_is); (case c29 => k_is); (case k29 => k_is); (case a30 => k_is); (case l30 => k_is); (case c30 => k_is); (case k30 => k_is); (case a31 => k_is); (case l31 => k_is); (case c31 => k_is); (case k31 => k_is); (case a32 => k_is); (case l32 => k_is); (case c32 => k_is); (case k32 => k_is); (case a33 => k_is); (case l33 => k_is); (case c33 => k_is); (case k33 => k_is); (case a34 => k_is); (case l34 => k_is); (case c34 => k_is); (case k34 => k_is); (case a35 => k_is); (case l35 => k_is); (case c35 => k_is); (case k35 => k_is); (case z0 => k_is); (case z1 => k_is); (case z2 => k_is); (case z3 => k_is); (case z4 => k_is); (case z5 => k_is); (case z6 => k_is); (case z7 => k_is); (case z8 => k_is); (case z9 => k_is); (case z10 => k_is); (case z11 => k_is); (case z12 => k_is); (case z13 => k_is); (case z14 => k_is); (case z15 => k_is)

