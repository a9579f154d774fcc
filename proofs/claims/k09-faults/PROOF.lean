import PyProof.Rows.All
import Wide.All
import OpenK.AllK
import Wide.FinOn
import KE.KStateDown
import HandS.ForMost
import HandS.More
import HandS.Deep
import HandS.Defaults
import HandS.HeadHook1
import HandS.Style
import HandS.IsInst
import HandS.ForExc
import HandS.WordsExc
import HandS.ExcOwn
import HandS.TryOnly
import HandS.HeadHook2
import HandS.ExcIs
import HandS.Iter
import KE.KRevSl
import HandS.Conv
import HandS.Small
import HandS.Codes
import Lean
import HandS.Head0
import HandS.Head1
import HandS.Head2
import HandS.HeadEnd
import PySem.Challenge.RW_rota_k09_faults_told
set_option Elab.async false
set_option linter.all false
set_option maxRecDepth 100000
set_option maxHeartbeats 4000000
/-! Plain data over the heap: what an expression, a test, a statement makes of data, as total functions. -/
namespace RT
open PySem PySem.Spec PyProof.Rows L2

/-! ### data in a part of the heap -/
mutual
inductive Dq (K : PySem.W.Frag) (H : Hp) : V → PyData → Prop
  | non : Dq K H .non .none
  | bl (b : Bool) : Dq K H (.bl b) (.bool b)
  | int (i : Int) : Dq K H (.int i) (.int i)
  | str (x : Str) : Dq K H (.str x) (.str x)
  | lst {a : Addr} {xs : List V} {ds : List PyData} : H a = some (.lst xs) → DqAll K H xs ds → Dq K H (.ref a) (.list ds)
  | tup {a : Addr} {xs : List V} {ds : List PyData} : SqT K H a xs → DqAll K H xs ds → Dq K H (.ref a) (.tuple ds)
inductive DqAll (K : PySem.W.Frag) (H : Hp) : List V → List PyData → Prop
  | nil : DqAll K H [] []
  | cons {v : V} {vs : List V} {d : PyData} {ds : List PyData} : Dq K H v d → DqAll K H vs ds → DqAll K H (v :: vs) (d :: ds)
end
mutual
theorem dq_dp {K : PySem.W.Frag} {F : Hp} : ∀ (d : PyData) {v : V}, Dq K F v d → Dp K F v d
  | .none, _, h => by cases h; exact .non
  | .bool b, _, h => by cases h; exact .bl b
  | .int i, _, h => by cases h; exact .int i
  | .str x, _, h => by cases h; exact .str x
  | .list ds, _, h => by
    cases h with
    | lst hs ha => exact .lst (.inl (.inl hs)) (dqa_dpa ds ha)
  | .tuple ds, _, h => by
    cases h with
    | tup hs ha => exact .tup hs (dqa_dpa ds ha)
  | .dict _, _, h => by cases h
theorem dqa_dpa {K : PySem.W.Frag} {F : Hp} : ∀ (ds : List PyData) {vs : List V}, DqAll K F vs ds → DpAll K F vs ds
  | [], _, h => by cases h; exact .nil
  | d :: ds, _, h => by
    cases h with
    | cons h1 h2 => exact .cons (dq_dp d h1) (dqa_dpa ds h2)
end
theorem same_rd {H H' : Hp} {a : Addr} {u : HO} (e : Same H H') (h : Rd H a u) : Rd H' a u := by
  rcases h with h | ⟨o, h⟩
  · exact .inl (e _ _ h)
  · exact .inr ⟨o, e _ _ h⟩
theorem same_t {K : PySem.W.Frag} {H H' : Hp} {a : Addr} {xs : List V} (e : Same H H') (h : SqT K H a xs) : SqT K H' a xs := by
  rcases h with (h | ⟨o, h⟩) | h
  · exact .inl (.inl (e _ _ h))
  · exact .inl (.inr ⟨o, e _ _ h⟩)
  · exact .inr h
mutual
theorem dp_mono {K : PySem.W.Frag} {F G : Hp} (e : Same F G) : ∀ (d : PyData) {v : V}, Dq K F v d → Dq K G v d
  | .none, _, h => by cases h; exact .non
  | .bool b, _, h => by cases h; exact .bl b
  | .int i, _, h => by cases h; exact .int i
  | .str x, _, h => by cases h; exact .str x
  | .list ds, _, h => by
    cases h with
    | lst hs ha => exact .lst (e _ _ hs) (dpa_mono e ds ha)
  | .tuple ds, _, h => by
    cases h with
    | tup hs ha => exact .tup (same_t e hs) (dpa_mono e ds ha)
  | .dict _, _, h => by cases h
theorem dpa_mono {K : PySem.W.Frag} {F G : Hp} (e : Same F G) : ∀ (ds : List PyData) {vs : List V}, DqAll K F vs ds → DqAll K G vs ds
  | [], _, h => by cases h; exact .nil
  | d :: ds, _, h => by
    cases h with
    | cons h1 h2 => exact .cons (dp_mono e d h1) (dpa_mono e ds h2)
end
theorem DqAll.len {K : PySem.W.Frag} {F : Hp} : ∀ {vs : List V} {ds : List PyData}, DqAll K F vs ds → vs.length = ds.length
  | [], [], _ => rfl
  | [], _ :: _, h => by cases h
  | _ :: _, [], h => by cases h
  | v :: vs, d :: ds, h => by
    cases h with
    | cons h1 h2 => exact congrArg Nat.succ (DqAll.len h2)
theorem DqAll.get {K : PySem.W.Frag} {F : Hp} : ∀ {vs : List V} {ds : List PyData} {i : Nat} {d : PyData}, DqAll K F vs ds → ds[i]? = some d → ∃ v, vs[i]? = some v ∧ Dq K F v d
  | [], [], _, _, _, e => by simp at e
  | [], _ :: _, _, _, h, _ => by cases h
  | _ :: _, [], _, _, h, _ => by cases h
  | v :: vs, d :: ds, 0, _, h, e => by
    cases h with
    | cons h1 h2 =>
      simp at e; subst e
      exact ⟨v, rfl, h1⟩
  | v :: vs, d :: ds, i + 1, _, h, e => by
    cases h with
    | cons h1 h2 =>
      obtain ⟨u, e1, e2⟩ := DqAll.get (i := i) h2 (by simpa using e)
      exact ⟨u, by simpa using e1, e2⟩
theorem DqAll.getV {K : PySem.W.Frag} {F : Hp} : ∀ {vs : List V} {ds : List PyData} {i : Nat} {v : V}, DqAll K F vs ds → vs[i]? = some v → ∃ d, ds[i]? = some d ∧ Dq K F v d
  | [], _, _, _, _, e => by simp at e
  | _ :: _, [], _, _, h, _ => by cases h
  | v :: vs, d :: ds, 0, _, h, e => by
    cases h with
    | cons h1 h2 =>
      simp at e; subst e
      exact ⟨d, rfl, h1⟩
  | v :: vs, d :: ds, i + 1, _, h, e => by
    cases h with
    | cons h1 h2 =>
      obtain ⟨u, e1, e2⟩ := DqAll.getV (i := i) h2 (by simpa using e)
      exact ⟨u, by simpa using e1, e2⟩
theorem DqAll.append {K : PySem.W.Frag} {F : Hp} : ∀ {vs ws : List V} {ds es : List PyData}, DqAll K F vs ds → DqAll K F ws es → DqAll K F (vs ++ ws) (ds ++ es)
  | [], _, [], _, _, h => h
  | [], _, _ :: _, _, h, _ => by cases h
  | _ :: _, _, [], _, h, _ => by cases h
  | v :: vs, ws, d :: ds, es, h, q => by
    cases h with
    | cons h1 h2 => exact .cons h1 (DqAll.append h2 q)
theorem DqAll.set {K : PySem.W.Frag} {F : Hp} {v : V} {d : PyData} (hv : Dq K F v d) : ∀ {vs : List V} {ds : List PyData} (i : Nat), DqAll K F vs ds → DqAll K F (vs.set i v) (ds.set i d)
  | [], [], _, h => h
  | [], _ :: _, _, h => by cases h
  | _ :: _, [], _, h => by cases h
  | _ :: _, _ :: _, 0, h => by
    cases h with
    | cons h1 h2 => exact .cons hv h2
  | _ :: _, _ :: _, i + 1, h => by
    cases h with
    | cons h1 h2 => exact .cons h1 (DqAll.set hv i h2)
theorem DqAll.take {K : PySem.W.Frag} {F : Hp} : ∀ {vs : List V} {ds : List PyData} (n : Nat), DqAll K F vs ds → DqAll K F (vs.take n) (ds.take n)
  | [], [], n, h => by simpa using h
  | [], _ :: _, _, h => by cases h
  | _ :: _, [], _, h => by cases h
  | _ :: _, _ :: _, 0, h => .nil
  | _ :: _, _ :: _, n + 1, h => by
    cases h with
    | cons h1 h2 => exact .cons h1 (DqAll.take n h2)
theorem DqAll.drop {K : PySem.W.Frag} {F : Hp} : ∀ {vs : List V} {ds : List PyData} (n : Nat), DqAll K F vs ds → DqAll K F (vs.drop n) (ds.drop n)
  | [], [], n, h => by simpa using h
  | [], _ :: _, _, h => by cases h
  | _ :: _, [], _, h => by cases h
  | _ :: _, _ :: _, 0, h => h
  | _ :: _, _ :: _, n + 1, h => by
    cases h with
    | cons h1 h2 => exact DqAll.drop n h2
theorem dpa_ints {K : PySem.W.Frag} {F : Hp} : ∀ (ns : List Int), DqAll K F (ns.map V.int) (ns.map PyData.int)
  | [] => .nil
  | n :: ns => .cons (.int n) (dpa_ints ns)
theorem ints_dpa {K : PySem.W.Frag} {F : Hp} : ∀ (ns : List Int) {vs : List V}, DqAll K F vs (ns.map PyData.int) → vs = ns.map V.int
  | [], vs, h => by cases h; rfl
  | n :: ns, vs, h => by
    cases h with
    | cons h1 h2 =>
      cases h1
      rw [ints_dpa ns h2]; rfl
theorem strs_dpa {K : PySem.W.Frag} {F : Hp} : ∀ (ns : List Str) {vs : List V}, DqAll K F vs (ns.map PyData.str) → vs = ns.map V.str
  | [], vs, h => by cases h; rfl
  | n :: ns, vs, h => by
    cases h with
    | cons h1 h2 =>
      cases h1
      rw [strs_dpa ns h2]; rfl

/-! ### an opaque object -/
def refD (a : Addr) : PyData := .dict [(.int (a : Nat), .none)]
/-- the script as it was handed in -/
def scrD (ns : List Int) : PyData := .dict [(.none, .list (ns.map .int))]
def Rp (K : PySem.W.Frag) (F : Hp) (v : V) (d : PyData) : Prop := Dq K F v d ∨ (∃ a, v = .ref a ∧ d = refD a) ∨ ∃ a ns, v = .ref a ∧ d = scrD ns ∧ SqL K F a (ns.map V.int)
theorem Rp.mono {K : PySem.W.Frag} {F G : Hp} {v : V} {d : PyData} (e : Same F G) (h : Rp K F v d) : Rp K G v d := h.imp (dp_mono e d) fun h => h.imp id fun ⟨a, ns, h1, h2, h3⟩ => ⟨a, ns, h1, h2, e.seq h3⟩
/-- what is read for a moment: data, or an own list -/
def Bp (K : PySem.W.Frag) (G H : Hp) (v : V) (d : PyData) : Prop := Rp K G v d ∨ ∃ p vs ds, v = .ref p ∧ d = .list ds ∧ H p = some (.lst vs) ∧ DqAll K G vs ds

/-! ### the heap grows, a part of it stands -/
structure Grow (H F H' G : Hp) : Prop where
  h : Same H H'
  f : Same F G
  sub : Same G H'
  no : ∀ a, F a = none → H a ≠ none → G a = none
theorem Grow.refl {H F : Hp} (e : Same F H) : Grow H F H F := ⟨Same.refl H, Same.refl F, e, fun _ h _ => h⟩
theorem Grow.trans {H F H1 G1 H2 G2 : Hp} (a : Grow H F H1 G1) (b : Grow H1 G1 H2 G2) : Grow H F H2 G2 :=
  ⟨a.h.trans b.h, a.f.trans b.f, b.sub, fun x h1 h2 => b.no x (a.no x h1 h2) fun z => h2 (a.h.free z)⟩
theorem Same.upd_new {H H' : Hp} {p : Addr} {o : HO} (e : Same H H') (hp : H' p = none) : Same H (upd H' p o) := fun b u q => by
  rw [upd_ne (ne_of_none (e b u q) hp)]; exact e b u q
/-- a new object, laid beside: not in the standing part | in it -/
theorem Grow.beside {H F H' G : Hp} {p : Addr} {o : HO} (g : Grow H F H' G) (hp : H' p = none) : Grow H F (upd H' p o) G :=
  ⟨Same.upd_new g.h hp, g.f, Same.upd_new g.sub hp, g.no⟩
theorem Grow.within {H F H' G : Hp} {p : Addr} {o : HO} (g : Grow H F H' G) (hp : H p = none) (hG : G p = none) (ho : H' p = some o) : Grow H F H' (upd G p o) :=
  ⟨g.h, Same.upd_new g.f hG, fun b u q => by
    by_cases hb : b = p
    · subst hb; rw [upd_same] at q; cases q; exact ho
    · rw [upd_ne hb] at q; exact g.sub b u q, fun a h1 h2 => by
    by_cases hb : a = p
    · subst hb; exact absurd hp h2
    · rw [upd_ne hb]; exact g.no a h1 h2⟩
theorem Grow.new {H F H' G : Hp} {p : Addr} {o : HO} (g : Grow H F H' G) (hp : H' p = none) : Grow H F (upd H' p o) (upd G p o) :=
  (g.beside (o := o) hp).within (g.h.free hp) (g.sub.free hp) upd_same
theorem Bp.mono {K : PySem.W.Frag} {F G H H' : Hp} {v : V} {d : PyData} (e : Same F G) (e' : Same H H') (h : Bp K F H v d) : Bp K G H' v d :=
  h.imp (Rp.mono e) fun ⟨p, vs, ds, e1, e2, e3, e4⟩ => ⟨p, vs, ds, e1, e2, e' _ _ e3, dpa_mono e ds e4⟩
/-- what is read stands in the whole heap -/
theorem Bp.all {K : PySem.W.Frag} {G H : Hp} {v : V} {d : PyData} (e : Same G H) (h : Bp K G H v d) : Rp K H v d := by
  rcases h with h | ⟨p, vs, ds, rfl, rfl, h, q⟩
  · exact h.mono e
  · exact .inl (.lst h (dpa_mono e ds q))
theorem Rp.dp {K : PySem.W.Frag} {G : Hp} {v : V} {d : PyData} (h : Rp K G v d) (n : ∀ l, d ≠ .dict l := by intro l z; cases z) : Dq K G v d := by
  rcases h with h | ⟨a, _, rfl⟩ | ⟨a, ns, _, rfl, _⟩
  · exact h
  · exact absurd rfl (n _)
  · exact absurd rfl (n _)
theorem Bp.int {K : PySem.W.Frag} {G H : Hp} {v : V} {i : Int} (h : Bp K G H v (.int i)) : v = .int i := by
  rcases h with (h | ⟨a, _, z⟩ | ⟨a, ns, _, z, _⟩) | ⟨p, vs, ds, _, z, _⟩
  · cases h; rfl
  · cases z
  · cases z
  · cases z
theorem Bp.str {K : PySem.W.Frag} {G H : Hp} {v : V} {i : Str} (h : Bp K G H v (.str i)) : v = .str i := by
  rcases h with (h | ⟨a, _, z⟩ | ⟨a, ns, _, z, _⟩) | ⟨p, vs, ds, _, z, _⟩
  · cases h; rfl
  · cases z
  · cases z
  · cases z
theorem Bp.bool {K : PySem.W.Frag} {G H : Hp} {v : V} {i : Bool} (h : Bp K G H v (.bool i)) : v = .bl i := by
  rcases h with (h | ⟨a, _, z⟩ | ⟨a, ns, _, z, _⟩) | ⟨p, vs, ds, _, z, _⟩
  · cases h; rfl
  · cases z
  · cases z
  · cases z
theorem Bp.non {K : PySem.W.Frag} {G H : Hp} {v : V} (h : Bp K G H v .none) : v = .non := by
  rcases h with (h | ⟨a, _, z⟩ | ⟨a, ns, _, z, _⟩) | ⟨p, vs, ds, _, z, _⟩
  · cases h; rfl
  · cases z
  · cases z
  · cases z
/-- a list that is read: its items are data that stand -/
theorem Bp.list {K : PySem.W.Frag} {G H : Hp} {v : V} {ds : List PyData} (e : Same G H) (h : Bp K G H v (.list ds)) : ∃ p vs, v = .ref p ∧ H p = some (.lst vs) ∧ DqAll K G vs ds := by
  rcases h with (h | ⟨a, _, z⟩ | ⟨a, ns, _, z, _⟩) | ⟨p, vs, ds, rfl, z, h, q⟩
  · cases h with
    | lst hs ha => exact ⟨_, _, rfl, e _ _ hs, ha⟩
  · cases z
  · cases z
  · cases z; exact ⟨p, vs, rfl, h, q⟩
theorem Bp.tuple {K : PySem.W.Frag} {G H : Hp} {v : V} {ds : List PyData} (e : Same G H) (h : Bp K G H v (.tuple ds)) : ∃ p vs, v = .ref p ∧ SqT K H p vs ∧ DqAll K G vs ds := by
  rcases h with (h | ⟨a, _, z⟩ | ⟨a, ns, _, z, _⟩) | ⟨p, vs, ds, rfl, z, h, q⟩
  · cases h with
    | tup hs ha => exact ⟨_, _, rfl, same_t e hs, ha⟩
  · cases z
  · cases z
  · cases z

theorem Bp.scr {K : PySem.W.Frag} {G H : Hp} {v : V} {ds : List PyData} (e : Same G H) (h : Bp K G H v (.dict [(.none, .list ds)])) : ∃ p vs, v = .ref p ∧ SqL K H p vs ∧ DqAll K G vs ds := by
  rcases h with (h | ⟨a, _, z⟩ | ⟨a, ns, rfl, z, h⟩) | ⟨p, vs, ds, rfl, z, h, q⟩
  · cases h
  · cases z
  · cases z; exact ⟨a, _, rfl, e.seq h, dpa_ints ns⟩
  · cases z

/-! ### objects of the program -/
structure Person where
  name : Str
  skills : List Str
  limit : Int
  rests : List (Int × Int)
structure Shift where
  name : Str
  b : Int
  e : Int
  needs : List (Str × Int)
structure BookSt where
  people : List Person
  shifts : List Shift
def stD (p : Int × Int) : PyData := .tuple [.int p.1, .int p.2]
def bkFs (dS dL dR dT dN : Addr) : List (Str × V) := [("skills", .ref dS), ("limits", .ref dL), ("rests", .ref dR), ("stretches", .ref dT), ("needs", .ref dN)]
abbrev PE3 := List (Person × Addr × Addr)
abbrev SE3 := List (Shift × Addr × Addr)
def kvS (pe : PE3) : List (Key × V) := pe.map fun x => (Sum.inr x.1.name, V.ref x.2.1)
def kvL (pe : PE3) : List (Key × V) := pe.map fun x => (Sum.inr x.1.name, V.int x.1.limit)
def kvR (pe : PE3) : List (Key × V) := pe.map fun x => (Sum.inr x.1.name, V.ref x.2.2)
def kvT (sh : SE3) : List (Key × V) := sh.map fun x => (Sum.inr x.1.name, V.ref x.2.1)
def kvN (sh : SE3) : List (Key × V) := sh.map fun x => (Sum.inr x.1.name, V.ref x.2.2)
def kvC (l : List (Str × Int)) : List (Key × V) := l.map fun n => (Sum.inr n.1, V.int n.2)
/-- a book at a, its parts in the region R; the stretches are data in F -/
structure BookIn (K : PySem.W.Frag) (F R : Hp) (a : Addr) (β : BookSt) (dx dS dL dR dT dN : Addr) (pe : PE3) (sh : SE3) : Prop where
  pn : pe.map (·.1) = β.people
  sn : sh.map (·.1) = β.shifts
  ob : R a = some (.ins (He.ga K "Book") dx (bkFs dS dL dR dT dN))
  ow : R dx = some (.own a)
  cS : R dS = some (.dK (kvS pe))
  cL : R dL = some (.dK (kvL pe))
  cR : R dR = some (.dK (kvR pe))
  cT : R dT = some (.dK (kvT sh))
  cN : R dN = some (.dK (kvN sh))
  nd : [dS, dL, dR, dT, dN].Nodup
  ps : ∀ x ∈ pe, R x.2.1 = some (.lst (x.1.skills.map V.str))
  pr : ∀ x ∈ pe, ∃ vs, R x.2.2 = some (.lst vs) ∧ DqAll K F vs (x.1.rests.map stD)
  st : ∀ x ∈ sh, Dq K F (.ref x.2.1) (stD (x.1.b, x.1.e))
  sc : ∀ x ∈ sh, R x.2.2 = some (.dK (kvC x.1.needs))
  rn : (pe.map (·.2.2)).Nodup
  rs : ∀ x ∈ pe, ∀ y ∈ pe, x.2.1 ≠ y.2.2
  nn : ∀ x ∈ sh, x.2.2 ∉ [dS, dL, dR, dT, dN]
  un : (β.people.map (·.name)).Nodup
  us : (β.shifts.map (·.name)).Nodup
  sz : β.people.length ≤ 1000 ∧ β.shifts.length ≤ 1000 ∧ (∀ p ∈ β.people, p.rests.length ≤ 1000 ∧ p.skills.length ≤ 1000) ∧ ∀ s ∈ β.shifts, s.needs.length ≤ 1000
def BookAt (K : PySem.W.Frag) (F R : Hp) (a : Addr) (β : BookSt) : Prop := ∃ dx dS dL dR dT dN pe sh, BookIn K F R a β dx dS dL dR dT dN pe sh
theorem BookIn.mono {K : PySem.W.Frag} {F G R R' : Hp} {a : Addr} {β : BookSt} {dx dS dL dR dT dN : Addr} {pe : PE3} {sh : SE3} (h : BookIn K F R a β dx dS dL dR dT dN pe sh) (e : Same F G) (e' : Same R R') : BookIn K G R' a β dx dS dL dR dT dN pe sh where
  pn := h.pn
  sn := h.sn
  ob := e' _ _ h.ob
  ow := e' _ _ h.ow
  cS := e' _ _ h.cS
  cL := e' _ _ h.cL
  cR := e' _ _ h.cR
  cT := e' _ _ h.cT
  cN := e' _ _ h.cN
  nd := h.nd
  ps := fun x hx => e' _ _ (h.ps x hx)
  pr := fun x hx => let ⟨vs, h1, h2⟩ := h.pr x hx; ⟨vs, e' _ _ h1, dpa_mono e _ h2⟩
  st := fun x hx => dp_mono e _ (h.st x hx)
  sc := fun x hx => e' _ _ (h.sc x hx)
  rn := h.rn
  rs := h.rs
  nn := h.nn
  un := h.un
  us := h.us
  sz := h.sz
theorem BookAt.mono {K : PySem.W.Frag} {F G R R' : Hp} {a : Addr} {β : BookSt} (h : BookAt K F R a β) (e : Same F G) (e' : Same R R') : BookAt K G R' a β := by
  obtain ⟨dx, dS, dL, dR, dT, dN, pe, sh, h⟩ := h
  exact ⟨dx, dS, dL, dR, dT, dN, pe, sh, h.mono e e'⟩
/-- a deal: the limits by names; places, days, able, who -/
structure DealSt where
  limits : List (Str × Int)
  ls : List (List PyData)
def nmD : List Str := ["places", "days", "able", "who"]
def kvD (l : List (Str × Int)) : List (Key × V) := l.map fun n => (Sum.inr n.1, V.int n.2)
def dlFs (dL : Addr) (as : List Addr) : List (Str × V) := ("limits", .ref dL) :: nmD.zip (as.map V.ref)
structure DealIn (K : PySem.W.Frag) (F R : Hp) (a : Addr) (δ : DealSt) (dx dL : Addr) (as : List Addr) : Prop where
  ob : R a = some (.ins (He.ga K "Deal") dx (dlFs dL as))
  ow : R dx = some (.own a)
  cL : R dL = some (.dK (kvD δ.limits))
  la : as.length = 4
  ll : δ.ls.length = 4
  ls : ∀ (j : Nat) (p : Addr) (ds : List PyData), as[j]? = some p → δ.ls[j]? = some ds → ∃ vs, R p = some (.lst vs) ∧ DqAll K F vs ds
  nd : as.Nodup
def DealAt (K : PySem.W.Frag) (F R : Hp) (a : Addr) (δ : DealSt) : Prop := ∃ dx dL as, DealIn K F R a δ dx dL as
theorem DealAt.mono {K : PySem.W.Frag} {F G R R' : Hp} {a : Addr} {δ : DealSt} (h : DealAt K F R a δ) (e : Same F G) (e' : Same R R') : DealAt K G R' a δ := by
  obtain ⟨dx, dL, as, h⟩ := h
  exact ⟨dx, dL, as, e' _ _ h.ob, e' _ _ h.ow, e' _ _ h.cL, h.la, h.ll, fun j p ds h1 h2 => let ⟨vs, q1, q2⟩ := h.ls j p ds h1 h2; ⟨vs, e' _ _ q1, dpa_mono e _ q2⟩, h.nd⟩
/-- a list whose items are data, or lists of its own -/
inductive Cell where
  | dat (d : PyData) | lst (ds : List PyData)
inductive CellOk (K : PySem.W.Frag) (F R : Hp) (a : Addr) : V → Cell → Prop
  | dat {v : V} {d : PyData} : Dq K F v d → CellOk K F R a v (.dat d)
  | lst {p : Addr} {vs : List V} {ds : List PyData} : p ≠ a → R p = some (.lst vs) → DqAll K F vs ds → CellOk K F R a (.ref p) (.lst ds)
structure RowIn (K : PySem.W.Frag) (F R : Hp) (a : Addr) (cs : List Cell) (vs : List V) : Prop where
  ob : R a = some (.lst vs)
  len : vs.length = cs.length
  el : ∀ (i : Nat) (v : V) (c : Cell), vs[i]? = some v → cs[i]? = some c → CellOk K F R a v c
  dis : ∀ (i j : Nat) (p : Addr) (ds es : List PyData), i ≠ j → vs[i]? = some (.ref p) → cs[i]? = some (.lst ds) → vs[j]? = some (.ref p) → cs[j]? = some (.lst es) → False
def RowAt (K : PySem.W.Frag) (F R : Hp) (a : Addr) (cs : List Cell) : Prop := ∃ vs, RowIn K F R a cs vs
theorem CellOk.mono {K : PySem.W.Frag} {F G R R' : Hp} {a : Addr} {v : V} {c : Cell} (h : CellOk K F R a v c) (e : Same F G) (e' : Same R R') : CellOk K G R' a v c := by
  cases h with
  | dat h => exact .dat (dp_mono e _ h)
  | lst h1 h2 h3 => exact .lst h1 (e' _ _ h2) (dpa_mono e _ h3)
theorem RowAt.mono {K : PySem.W.Frag} {F G R R' : Hp} {a : Addr} {cs : List Cell} (h : RowAt K F R a cs) (e : Same F G) (e' : Same R R') : RowAt K G R' a cs := by
  obtain ⟨vs, h⟩ := h
  exact ⟨vs, e' _ _ h.ob, h.len, fun i v c h1 h2 => (h.el i v c h1 h2).mono e e', h.dis⟩
/-- a dict by whole numbers -/
def kvI (l : List (Int × V)) : List (Key × V) := l.map fun n => (Sum.inl n.1, n.2)
inductive KvAll (K : PySem.W.Frag) (F : Hp) : List (Int × V) → List (Int × PyData) → Prop
  | nil : KvAll K F [] []
  | cons {k : Int} {v : V} {d : PyData} {kv : List (Int × V)} {l : List (Int × PyData)} : Dq K F v d → KvAll K F kv l → KvAll K F ((k, v) :: kv) ((k, d) :: l)
theorem KvAll.mono {K : PySem.W.Frag} {F G : Hp} (e : Same F G) : ∀ {kv : List (Int × V)} {l : List (Int × PyData)}, KvAll K F kv l → KvAll K G kv l
  | _, _, .nil => .nil
  | _, _, .cons h t => .cons (dp_mono e _ h) (KvAll.mono e t)
def DctAt (K : PySem.W.Frag) (F R : Hp) (a : Addr) (l : List (Int × PyData)) : Prop := ∃ kv : List (Int × V), R a = some (.dK (kvI kv)) ∧ KvAll K F kv l
theorem DctAt.mono {K : PySem.W.Frag} {F G R R' : Hp} {a : Addr} {l : List (Int × PyData)} (h : DctAt K F R a l) (e : Same F G) (e' : Same R R') : DctAt K G R' a l := by
  obtain ⟨kv, h1, h2⟩ := h
  exact ⟨kv, e' _ _ h1, h2.mono e⟩
/-- a new tuple of a text and a list of its own -/
def PairAt (K : PySem.W.Frag) (F R : Hp) (a : Addr) (x : Str) (ds : List PyData) : Prop := ∃ p vs, R a = some (.tup [.str x, .ref p]) ∧ R p = some (.lst vs) ∧ DqAll K F vs ds
theorem PairAt.mono {K : PySem.W.Frag} {F G R R' : Hp} {a : Addr} {x : Str} {ds : List PyData} (h : PairAt K F R a x ds) (e : Same F G) (e' : Same R R') : PairAt K G R' a x ds := by
  obtain ⟨p, vs, h1, h2, h3⟩ := h
  exact ⟨p, vs, e' _ _ h1, e' _ _ h2, dpa_mono e _ h3⟩
inductive ObjSt where
  | book (β : BookSt) | deal (δ : DealSt) | row (cs : List Cell) | dct (l : List (Int × PyData)) | pair (x : Str) (ds : List PyData) | raw (C : Str)
def ObjAt (K : PySem.W.Frag) (F R : Hp) (a : Addr) : ObjSt → Prop
  | .book β => BookAt K F R a β
  | .deal δ => DealAt K F R a δ
  | .row cs => RowAt K F R a cs
  | .dct l => DctAt K F R a l
  | .pair x ds => PairAt K F R a x ds
  | .raw C => ∃ dx, R a = some (.ins (He.ga K C) dx []) ∧ R dx = some (.own a)
theorem ObjAt.mono {K : PySem.W.Frag} {F G R R' : Hp} {a : Addr} {o : ObjSt} (h : ObjAt K F R a o) (e : Same F G) (e' : Same R R') : ObjAt K G R' a o := by
  cases o with
  | book β => exact BookAt.mono h e e'
  | deal δ => exact DealAt.mono h e e'
  | row cs => exact RowAt.mono h e e'
  | dct l => exact DctAt.mono h e e'
  | pair x ds => exact PairAt.mono h e e'
  | raw C =>
    obtain ⟨dx, h1, h2⟩ := h
    exact ⟨dx, e' _ _ h1, e' _ _ h2⟩
/-- a region for each slot -/
abbrev Rg := Nat → Hp
/-- two parts that have no address in common -/
def Apart (R F : Hp) : Prop := ∀ a, R a ≠ none → F a = none
theorem Apart.sym {R F : Hp} (h : Apart R F) : Apart F R := fun a ha => by
  cases e : R a with
  | none => rfl
  | some o => exact absurd (h a (by rw [e]; intro z; cases z)) ha
/-! ### environments -/
/-- what stands while a function runs: an object's region that is read, the data that it names, what the object is -/
structure Bs where
  h : Hp
  f : Hp
  bk : Addr → Option ObjSt
  o : Option Addr := none
inductive Sl where
  | no | val (d : PyData) | own (ds : List PyData) | obj (o : ObjSt)
abbrev Rho := List Sl
abbrev SE := Rho → Option PyData
abbrev STe := Rho → Option Bool
abbrev SA := Rho → Option (List PyData)
inductive Out where
  | no | nx (r : Rho) | rt (d : PyData) (r : Rho) | ex (c : Str) (r : Rho) | ro (i : Nat) (r : Rho)
abbrev SS := Rho → Out
structure EnvOk (K : PySem.W.Frag) (B : Bs) (R : Rg) (F H : Hp) (σ : L2.St) (ρ : Rho) : Prop where
  bs : Same B.f F
  bh : Same B.h H
  bF : Apart B.h F
  bo : ∀ a o, B.bk a = some o → ObjAt K B.f B.h a o
  ex : Same F H
  rh : ∀ i, Same (R i) H
  rF : ∀ i, Apart (R i) F
  rB : ∀ i, Apart (R i) B.h
  rr : ∀ i j, i ≠ j → Apart (R i) (R j)
  len : ρ.length = σ.length
  val : ∀ (i : Nat) (d : PyData), ρ[i]? = some (.val d) → ∃ v, σ[i]? = some (some v) ∧ Rp K F v d
  own : ∀ (i : Nat) (ds : List PyData), ρ[i]? = some (.own ds) → ∃ p vs, σ[i]? = some (some (.ref p)) ∧ H p = some (.lst vs) ∧ DqAll K F vs ds ∧ F p = none ∧ (∀ i, R i p = none) ∧ B.h p = none
  dis : ∀ (i j : Nat) (ds es : List PyData) (p : Addr), i ≠ j → ρ[i]? = some (.own ds) → ρ[j]? = some (.own es) → σ[i]? = some (some (.ref p)) → σ[j]? = some (some (.ref p)) → False
  obj : ∀ (i : Nat) (o : ObjSt), ρ[i]? = some (.obj o) → ∃ a, σ[i]? = some (some (.ref a)) ∧ ObjAt K F (R i) a o
  oa : ∀ a0, B.o = some a0 → ∀ (o : ObjSt) (a : Addr), ρ[0]? = some (.obj o) → σ[0]? = some (some (.ref a)) → a = a0
theorem Grow.apart {H F H' G R : Hp} (g : Grow H F H' G) (e : Same R H) (h : Apart R F) : Apart R G := fun a ha => g.no a (h a ha) fun z => ha (e.free z)
theorem EnvOk.grow {K : PySem.W.Frag} {B : Bs} {R : Rg} {F H G H' : Hp} {σ : L2.St} {ρ : Rho} (e : EnvOk K B R F H σ ρ) (g : Grow H F H' G) : EnvOk K B R G H' σ ρ where
  bs := e.bs.trans g.f
  bh := e.bh.trans g.h
  bF := g.apart e.bh e.bF
  bo := e.bo
  ex := g.sub
  rh := fun i => (e.rh i).trans g.h
  rF := fun i => g.apart (e.rh i) (e.rF i)
  rB := e.rB
  rr := e.rr
  len := e.len
  val := fun i d h => let ⟨v, h1, h2⟩ := e.val i d h; ⟨v, h1, h2.mono g.f⟩
  own := fun i ds h => let ⟨p, vs, h1, h2, h3, h4, h5⟩ := e.own i ds h; ⟨p, vs, h1, g.h _ _ h2, dpa_mono g.f ds h3, g.no p h4 (by rw [h2]; intro z; cases z), h5⟩
  dis := e.dis
  obj := fun i o h => let ⟨a, h1, h2⟩ := e.obj i o h; ⟨a, h1, h2.mono g.f (Same.refl (R i))⟩
  oa := e.oa

/-! ### what an expression's reading does -/
def EOk (K : PySem.W.Frag) (B : Bs) (t : TE) (f : SE) : Prop := ∀ (R : Rg) (F H : Hp) (σ : L2.St) (ρ : Rho) (d : PyData), EnvOk K B R F H σ ρ → f ρ = some d → ∀ Q : VK, (∀ v H' G, Grow H F H' G → Rp K G v d → Q v H') → t σ H Q
def BOk (K : PySem.W.Frag) (B : Bs) (t : TE) (f : SE) : Prop := ∀ (R : Rg) (F H : Hp) (σ : L2.St) (ρ : Rho) (d : PyData), EnvOk K B R F H σ ρ → f ρ = some d → ∀ Q : VK, (∀ v H' G, Grow H F H' G → Bp K G H' v d → Q v H') → t σ H Q
/-- a new list -/
def LOk (K : PySem.W.Frag) (B : Bs) (t : TE) (f : SA) : Prop := ∀ (R : Rg) (F H : Hp) (σ : L2.St) (ρ : Rho) (ds : List PyData), EnvOk K B R F H σ ρ → f ρ = some ds → ∀ Q : VK,
  (∀ p vs H' G, Grow H F H' G → H p = none → G p = none → H' p = some (.lst vs) → DqAll K G vs ds → Q (.ref p) H') → t σ H Q
def TOk (K : PySem.W.Frag) (B : Bs) (t : TT) (f : STe) : Prop := ∀ (R : Rg) (F H : Hp) (σ : L2.St) (ρ : Rho) (b : Bool), EnvOk K B R F H σ ρ → f ρ = some b → ∀ Q : Bool → Hp → Prop, (∀ H' G, Grow H F H' G → Q b H') → t σ H Q
/-- arguments that stand | that are read for a moment -/
inductive RpAll (K : PySem.W.Frag) (F : Hp) : List V → List PyData → Prop
  | nil : RpAll K F [] []
  | cons {v : V} {vs : List V} {d : PyData} {ds : List PyData} : Rp K F v d → RpAll K F vs ds → RpAll K F (v :: vs) (d :: ds)
inductive BpAll (K : PySem.W.Frag) (G H : Hp) : List V → List PyData → Prop
  | nil : BpAll K G H [] []
  | cons {v : V} {vs : List V} {d : PyData} {ds : List PyData} : Bp K G H v d → BpAll K G H vs ds → BpAll K G H (v :: vs) (d :: ds)
def AOk (K : PySem.W.Frag) (B : Bs) (t : TA) (f : SA) : Prop := ∀ (R : Rg) (F H : Hp) (σ : L2.St) (ρ : Rho) (ds : List PyData), EnvOk K B R F H σ ρ → f ρ = some ds → ∀ Q : List V → Hp → Prop, (∀ vs H' G, Grow H F H' G → RpAll K G vs ds → Q vs H') → t σ H Q
def ABOk (K : PySem.W.Frag) (B : Bs) (t : TA) (f : SA) : Prop := ∀ (R : Rg) (F H : Hp) (σ : L2.St) (ρ : Rho) (ds : List PyData), EnvOk K B R F H σ ρ → f ρ = some ds → ∀ Q : List V → Hp → Prop, (∀ vs H' G, Grow H F H' G → BpAll K G H' vs ds → Q vs H') → t σ H Q

structure SemE (X : Cx) (K : PySem.W.Frag) (B : Bs) (e : Expr) (t : TE) (f : SE) : Prop where
  pe : PE X e t
  ok : EOk K B t f
structure SemB (X : Cx) (K : PySem.W.Frag) (B : Bs) (e : Expr) (t : TE) (f : SE) : Prop where
  pe : PE X e t
  ok : BOk K B t f
structure SemL (X : Cx) (K : PySem.W.Frag) (B : Bs) (e : Expr) (t : TE) (f : SA) : Prop where
  pe : PE X e t
  ok : LOk K B t f
structure SemT (X : Cx) (K : PySem.W.Frag) (B : Bs) (e : Expr) (t : TT) (f : STe) : Prop where
  pt : PT X e t
  ok : TOk K B t f
structure SemW (X : Cx) (K : PySem.W.Frag) (B : Bs) (e : Expr) (t : TT) (f : STe) : Prop where
  pw : PW X e t
  ok : TOk K B t f
structure SemA (X : Cx) (K : PySem.W.Frag) (B : Bs) (es : List Expr) (t : TA) (f : SA) : Prop where
  pa : PA X es t
  ok : AOk K B t f
structure SemAB (X : Cx) (K : PySem.W.Frag) (B : Bs) (es : List Expr) (t : TA) (f : SA) : Prop where
  pa : PA X es t
  ok : ABOk K B t f

/-! ### the functions that the terms make -/
def eVar (i : Nat) : SE := fun ρ => match ρ[i]? with
  | some (.val d) => some d
  | _ => none
def eVarB (i : Nat) : SE := fun ρ => match ρ[i]? with
  | some (.val d) => some d
  | some (.own ds) => some (.list ds)
  | _ => none
def eC (d : PyData) : SE := fun _ => some d
def eOp (g : PyData → PyData → Option PyData) (f1 f2 : SE) : SE := fun ρ => (f1 ρ).bind fun x => (f2 ρ).bind fun y => g x y
def eUn (g : PyData → Option PyData) (f1 : SE) : SE := fun ρ => (f1 ρ).bind g
def eNil : SA := fun _ => some []
def eCons (f : SE) (g : SA) : SA := fun ρ => (f ρ).bind fun d => (g ρ).bind fun ds => some (d :: ds)
def eTup (g : SA) : SE := fun ρ => (g ρ).map .tuple
def eList (g : SA) : SE := fun ρ => (g ρ).map .list
def eCall (F : List PyData → Option PyData) (g : SA) : SE := fun ρ => (g ρ).bind F
/-- a value without parts -/
def scalD : PyData → Bool
  | .none => true
  | .bool _ => true
  | .int _ => true
  | .str _ => true
  | _ => false
def onlyS (o : Option PyData) : Option PyData := o.bind fun d => if scalD d then some d else none
theorem rp_scal {K : PySem.W.Frag} {G G' : Hp} {v : V} {d : PyData} (h : Rp K G v d) (s : scalD d = true) : Rp K G' v d := by
  rcases h with h | ⟨a, rfl, rfl⟩ | ⟨a, ns, _, rfl, _⟩
  · cases h with
    | non => exact .inl .non
    | bl b => exact .inl (.bl b)
    | int i => exact .inl (.int i)
    | str x => exact .inl (.str x)
    | lst _ _ => cases s
    | tup _ _ => cases s
  · cases s
  · cases s

section
variable {X : Cx} {K : PySem.W.Frag} {B : Bs} {e e1 e2 : Expr} {es : List Expr} {t t1 t2 : TE} {ta : TA} {f f1 f2 : SE} {g : SA} {pos : Pos}
theorem EOk.b (h : EOk K B t f) : BOk K B t f := fun R F H σ ρ d E q Q k => h R F H σ ρ d E q Q fun v H' G g r => k v H' G g (.inl r)
theorem SemE.b (h : SemE X K B e t f) : SemB X K B e t f := ⟨h.pe, h.ok.b⟩
theorem LOk.toE {f : SA} (h : LOk K B t f) : EOk K B t (eList f) := fun R F H σ ρ d E q Q k => by
  cases hf : f ρ with
  | none => simp [eList, hf] at q
  | some ds =>
    simp [eList, hf] at q
    subst q
    refine h R F H σ ρ ds E hf Q fun p vs H' G g h1 h2 h3 h4 => k _ H' _ (g.within h1 h2 h3) (.inl (.lst upd_same (dpa_mono (Same.upd_new (Same.refl G) h2) ds h4)))
theorem SemL.toE {f : SA} (h : SemL X K B e t f) : SemE X K B e t (eList f) := ⟨h.pe, h.ok.toE⟩
theorem var_ok (i : Nat) : EOk K B (tVar i) (eVar i) := fun R F H σ ρ d E q Q k => by
  unfold eVar at q
  split at q
  · rename_i d' h
    cases q
    obtain ⟨v, h1, h2⟩ := E.val i _ h
    exact ⟨v, h1, k v H F (Grow.refl E.ex) h2⟩
  · cases q
theorem varB_ok (i : Nat) : BOk K B (tVar i) (eVarB i) := fun R F H σ ρ d E q Q k => by
  unfold eVarB at q
  split at q
  · rename_i d' h
    cases q
    obtain ⟨v, h1, h2⟩ := E.val i _ h
    exact ⟨v, h1, k v H F (Grow.refl E.ex) (.inl h2)⟩
  · rename_i ds h
    cases q
    obtain ⟨p, vs, h1, h2, h3, h4, _⟩ := E.own i _ h
    exact ⟨.ref p, h1, k _ H F (Grow.refl E.ex) (.inr ⟨p, vs, ds, rfl, rfl, h2, h3⟩)⟩
  · cases q
theorem c_ok {v : V} {d : PyData} (h : ∀ F, Rp K F v d) : EOk K B (tC v) (eC d) := fun R F H σ ρ d' E q Q k => by
  cases q
  exact k v H F (Grow.refl E.ex) (h F)
theorem nil_ok : AOk K B tNil eNil := fun R F H σ ρ d E q Q k => by
  cases q
  exact k [] H F (Grow.refl E.ex) .nil
theorem nilB_ok : ABOk K B tNil eNil := fun R F H σ ρ d E q Q k => by
  cases q
  exact k [] H F (Grow.refl E.ex) .nil
theorem cons_ok (h1 : EOk K B t f) (h2 : AOk K B ta g) : AOk K B (tCons t ta) (eCons f g) := fun R F H σ ρ ds E q Q k => by
  cases hf : f ρ with
  | none => simp [eCons, hf] at q
  | some d =>
    cases hg : g ρ with
    | none => simp [eCons, hf, hg] at q
    | some es =>
      simp [eCons, hf, hg] at q
      subst q
      exact h1 R F H σ ρ d E hf _ fun v H1 G1 g1 r1 => h2 R G1 H1 σ ρ es (E.grow g1) hg _ fun vs H2 G2 g2 r2 => k _ H2 G2 (g1.trans g2) (.cons (r1.mono g2.f) r2)
theorem consB_ok (h1 : BOk K B t f) (h2 : ABOk K B ta g) : ABOk K B (tCons t ta) (eCons f g) := fun R F H σ ρ ds E q Q k => by
  cases hf : f ρ with
  | none => simp [eCons, hf] at q
  | some d =>
    cases hg : g ρ with
    | none => simp [eCons, hf, hg] at q
    | some es =>
      simp [eCons, hf, hg] at q
      subst q
      exact h1 R F H σ ρ d E hf _ fun v H1 G1 g1 r1 => h2 R G1 H1 σ ρ es (E.grow g1) hg _ fun vs H2 G2 g2 r2 => k _ H2 G2 (g1.trans g2) (.cons (r1.mono g2.f g2.h) r2)
/-- no opaque object among them -/
def dataD : PyData → Bool
  | .dict _ => false
  | _ => true
theorem RpAll.dp {K : PySem.W.Frag} {F : Hp} : ∀ {vs : List V} {ds : List PyData}, RpAll K F vs ds → ds.all dataD = true → DqAll K F vs ds
  | [], [], _, _ => .nil
  | [], _ :: _, h, _ => by cases h
  | _ :: _, [], h, _ => by cases h
  | v :: vs, d :: ds, h, a => by
    cases h with
    | cons h1 h2 =>
      rw [List.all_cons, Bool.and_eq_true] at a
      exact .cons (h1.dp (by rintro l rfl; cases a.1)) (RpAll.dp h2 a.2)
def eTupD (g : SA) : SE := fun ρ => (g ρ).bind fun ds => if ds.all dataD = true ∧ ds.length ≤ 1000 then some (.tuple ds) else none
def eLstD (g : SA) : SA := fun ρ => (g ρ).bind fun ds => if ds.all dataD = true ∧ ds.length ≤ 1000 then some ds else none
theorem RpAll.len {K : PySem.W.Frag} {F : Hp} : ∀ {vs : List V} {ds : List PyData}, RpAll K F vs ds → vs.length = ds.length
  | [], [], _ => rfl
  | [], _ :: _, h => by cases h
  | _ :: _, [], h => by cases h
  | v :: vs, d :: ds, h => by
    cases h with
    | cons h1 h2 => exact congrArg Nat.succ (RpAll.len h2)
theorem le_line {n : Nat} (h : n ≤ 1000) : n ≤ sizeLine := Nat.le_trans h (by decide)
theorem tup_ok (h : AOk K B ta g) : EOk K B (tTup ta) (eTupD g) := fun R F H σ ρ d E q Q k => by
  cases hg : g ρ with
  | none => simp [eTupD, hg] at q
  | some ds =>
    simp only [eTupD, hg, Option.bind_some] at q
    split at q
    · rename_i c
      cases q
      refine h R F H σ ρ ds E hg _ fun vs H1 G1 g1 r1 => ⟨le_line (by rw [r1.len]; exact c.2), fun p hp => k _ _ _ (g1.new (o := .tup vs) hp) (.inl (.tup (.inl (.inl upd_same)) ?_))⟩
      exact dpa_mono (Same.upd_new (Same.refl G1) (g1.sub.free hp)) ds (r1.dp c.1)
    · cases q
theorem lst_ok (h : AOk K B ta g) : LOk K B (tLst ta) (eLstD g) := fun R F H σ ρ d E q Q k => by
  cases hg : g ρ with
  | none => simp [eLstD, hg] at q
  | some ds =>
    simp only [eLstD, hg, Option.bind_some] at q
    split at q
    · rename_i c
      cases q
      refine h R F H σ ρ _ E hg _ fun vs H1 G1 g1 r1 => ⟨le_line (by rw [r1.len]; exact c.2), fun p hp => k p vs _ G1 (g1.beside (o := .lst vs) hp) (g1.h.free hp) (g1.sub.free hp) upd_same (r1.dp c.1)⟩
    · cases q
theorem SemE.cons (h1 : SemE X K B e t f) (h2 : SemA X K B es ta g) (hs : starEach (e :: es) X.env = (false, eval e X.env) :: starEach es X.env := by rfl) : SemA X K B (e :: es) (tCons t ta) (eCons f g) := ⟨pa_cons h1.pe h2.pa hs, cons_ok h1.ok h2.ok⟩
theorem SemB.cons (h1 : SemB X K B e t f) (h2 : SemAB X K B es ta g) (hs : starEach (e :: es) X.env = (false, eval e X.env) :: starEach es X.env := by rfl) : SemAB X K B (e :: es) (tCons t ta) (eCons f g) := ⟨pa_cons h1.pe h2.pa hs, consB_ok h1.ok h2.ok⟩
theorem sa_nil : SemA X K B [] tNil eNil := ⟨pa_nil, nil_ok⟩
theorem sab_nil : SemAB X K B [] tNil eNil := ⟨pa_nil, nilB_ok⟩
end
end RT
namespace RT
open PySem PySem.Spec PyProof.Rows L2
/-! ### operators on data -/
def OpS (K : PySem.W.Frag) (r : R2) (g : PyData → PyData → Option PyData) : Prop := ∀ (G H : Hp) (x y : V) (d1 d2 d : PyData), Same G H → Bp K G H x d1 → Bp K G H y d2 → g d1 d2 = some d → ∀ Q : VK, (∀ v H' G', Grow H G H' G' → Rp K G' v d → Q v H') → r x y H Q
def CallS (K : PySem.W.Frag) (r : List V → Hp → VK → Prop) (g : List PyData → Option PyData) : Prop := ∀ (G H : Hp) (xs : List V) (ds : List PyData) (d : PyData), Same G H → BpAll K G H xs ds → g ds = some d → ∀ Q : VK, (∀ v H' G', Grow H G H' G' → Rp K G' v d → Q v H') → r xs H Q
/-- a new list handed back -/
def CallL (K : PySem.W.Frag) (r : List V → Hp → VK → Prop) (g : List PyData → Option (List PyData)) : Prop := ∀ (G H : Hp) (xs : List V) (ds : List PyData) (es : List PyData), Same G H → BpAll K G H xs ds → g ds = some es → ∀ Q : VK,
  (∀ p vs H' G', Grow H G H' G' → H p = none → G' p = none → H' p = some (.lst vs) → DqAll K G' vs es → Q (.ref p) H') → r xs H Q
def alt (g g' : PyData → PyData → Option PyData) : PyData → PyData → Option PyData := fun a b => match g a b with
  | some d => some d
  | none => g' a b
theorem OpS.or {K : PySem.W.Frag} {r r' : R2} {g g' : PyData → PyData → Option PyData} (h : OpS K r g) (h' : OpS K r' g') : OpS K (fun x y H Q => r x y H Q ∨ r' x y H Q) (alt g g') := fun G H x y d1 d2 d e b1 b2 q Q k => by
  unfold alt at q
  split at q
  · rename_i d' hd
    cases q
    exact .inl (h G H x y d1 d2 _ e b1 b2 hd Q k)
  · exact .inr (h' G H x y d1 d2 d e b1 b2 q Q k)
section
variable {K : PySem.W.Frag} {B : Bs} {t t1 t2 : TE} {f f1 f2 : SE} {ta : TA} {sa : SA}
theorem op_ok {r : R2} {g : PyData → PyData → Option PyData} (ho : OpS K r g) (h1 : BOk K B t1 f1) (h2 : BOk K B t2 f2) : EOk K B (tOp r t1 t2) (eOp g f1 f2) := fun R F H σ ρ d E q Q k => by
  cases e1 : f1 ρ with
  | none => simp [eOp, e1] at q
  | some x =>
    cases e2 : f2 ρ with
    | none => simp [eOp, e1, e2] at q
    | some y =>
      have q' : g x y = some d := by simpa [eOp, e1, e2] using q
      exact h1 R F H σ ρ x E e1 _ fun v H1 G1 g1 b1 => h2 R G1 H1 σ ρ y (E.grow g1) e2 _ fun u H2 G2 g2 b2 => ho G2 H2 v u x y d g2.sub (b1.mono g2.f g2.h) b2 q' Q fun z H3 G3 g3 r3 => k z H3 G3 ((g1.trans g2).trans g3) r3
theorem un_ok {r : V → Hp → VK → Prop} {g : PyData → Option PyData} (ho : ∀ (G H : Hp) (x : V) (d1 d : PyData), Same G H → Bp K G H x d1 → g d1 = some d → ∀ Q : VK, (∀ v H' G', Grow H G H' G' → Rp K G' v d → Q v H') → r x H Q) (h1 : BOk K B t1 f1) :
    EOk K B (tUn r t1) (eUn g f1) := fun R F H σ ρ d E q Q k => by
  cases e1 : f1 ρ with
  | none => simp [eUn, e1] at q
  | some x =>
    have q' : g x = some d := by simpa [eUn, e1] using q
    exact h1 R F H σ ρ x E e1 _ fun v H1 G1 g1 b1 => ho G1 H1 v x d g1.sub b1 q' Q fun z H3 G3 g3 r3 => k z H3 G3 (g1.trans g3) r3
theorem cb_ok {r : List V → Hp → VK → Prop} {g : List PyData → Option PyData} (ho : CallS K r g) (h : ABOk K B ta sa) : EOk K B (tCB r ta) (eCall g sa) := fun R F H σ ρ d E q Q k => by
  cases e1 : sa ρ with
  | none => simp [eCall, e1] at q
  | some ds =>
    have q' : g ds = some d := by simpa [eCall, e1] using q
    exact h R F H σ ρ ds E e1 _ fun vs H1 G1 g1 b1 => ho G1 H1 vs ds d g1.sub b1 q' Q fun z H3 G3 g3 r3 => k z H3 G3 (g1.trans g3) r3
def eCallL (g : List PyData → Option (List PyData)) (sa : SA) : SA := fun ρ => (sa ρ).bind g
theorem cbL_ok {r : List V → Hp → VK → Prop} {g : List PyData → Option (List PyData)} (ho : CallL K r g) (h : ABOk K B ta sa) : LOk K B (tCB r ta) (eCallL g sa) := fun R F H σ ρ d E q Q k => by
  cases e1 : sa ρ with
  | none => simp [eCallL, e1] at q
  | some ds =>
    have q' : g ds = some d := by simpa [eCallL, e1] using q
    exact h R F H σ ρ ds E e1 _ fun vs H1 G1 g1 b1 => ho G1 H1 vs ds d g1.sub b1 q' Q fun p us H3 G3 g3 h1 h2 h3 h4 => k p us H3 G3 (g1.trans g3) (g1.h.free h1) h2 h3 h4
end
/-! ### one by one -/
section
variable {K : PySem.W.Frag}
def gI (c : Int → Int → Bool) (g : Int → Int → PyData) : PyData → PyData → Option PyData
  | .int i, .int j => if c i j = true then some (g i j) else none
  | _, _ => none
def yesC : Int → Int → Bool := fun _ _ => true
theorem rI_s {C : Int → Int → Prop} {g : Int → Int → V} {g' : Int → Int → PyData} {c : Int → Int → Bool} (hC : ∀ i j, c i j = true → C i j) (hg : ∀ F i j, Rp K F (g i j) (g' i j)) : OpS K (rI C g) (gI c g') := fun G H x y d1 d2 d e b1 b2 q Q k => by
  cases d1 with
  | int i =>
    cases d2 with
    | int j =>
      simp only [gI] at q
      split at q
      · rename_i hc
        cases q
        cases b1.int
        cases b2.int
        exact ⟨i, j, rfl, rfl, hC i j hc, k _ H G (Grow.refl e) (hg G i j)⟩
      · cases q
    | _ => simp [gI] at q
  | _ => simp [gI] at q
theorem rI0_s {g : Int → Int → V} {g' : Int → Int → PyData} (hg : ∀ F i j, Rp K F (g i j) (g' i j)) : OpS K (rI0 g) (gI yesC g') := fun G H x y d1 d2 d e b1 b2 q Q k => by
  cases d1 with
  | int i =>
    cases d2 with
    | int j =>
      simp [gI, yesC] at q
      subst q
      cases b1.int
      cases b2.int
      exact ⟨i, j, rfl, rfl, k _ H G (Grow.refl e) (hg G i j)⟩
    | _ => simp [gI] at q
  | _ => simp [gI] at q
theorem rp_int {F : Hp} (i : Int) : Rp K F (.int i) (.int i) := .inl (.int i)
theorem rp_bool {F : Hp} (i : Bool) : Rp K F (.bl i) (.bool i) := .inl (.bl i)
theorem rp_str {F : Hp} (i : Str) : Rp K F (.str i) (.str i) := .inl (.str i)
theorem rp_non {F : Hp} : Rp K F .non .none := .inl .non

def LIM : Nat := 1000000
theorem lim_line {n : Nat} (h : n ≤ LIM) : n ≤ sizeLine := Nat.le_trans h (by decide)
/-- + -/
def gAddS : PyData → PyData → Option PyData
  | .str x, .str y => if x.length + y.length ≤ LIM then some (.str (x ++ y)) else none
  | _, _ => none
def gAddL : PyData → PyData → Option PyData
  | .list x, .list y => if x.length + y.length ≤ LIM then some (.list (x ++ y)) else none
  | _, _ => none
def rAddS2 : R2 := fun x y H Q => ∃ i j, x = .str i ∧ y = .str j ∧ i.length + j.length ≤ sizeLine ∧ Q (.str (i ++ j)) H
theorem addS_s : OpS K rAddS2 gAddS := fun G H x y d1 d2 d e b1 b2 q Q k => by
  cases d1 with
  | str i =>
    cases d2 with
    | str j =>
      simp only [gAddS] at q
      split at q
      · rename_i hc
        cases q
        cases b1.str
        cases b2.str
        exact ⟨i, j, rfl, rfl, lim_line hc, k _ H G (Grow.refl e) (rp_str _)⟩
      · cases q
    | _ => simp [gAddS] at q
  | _ => simp [gAddS] at q

theorem addL_s : OpS K rCat gAddL := fun G H x y d1 d2 d e b1 b2 q Q k => by
  cases d1 with
  | list i =>
    cases d2 with
    | list j =>
      simp only [gAddL] at q
      split at q
      · rename_i hc
        cases q
        obtain ⟨p1, vs, rfl, h1, a1⟩ := b1.list e
        obtain ⟨p2, ws, rfl, h2, a2⟩ := b2.list e
        refine ⟨p1, p2, vs, ws, rfl, rfl, h1, h2, lim_line (by rw [a1.len, a2.len]; exact hc), fun p hp => k _ _ _ ((Grow.refl e).new hp) (.inl (.lst upd_same ?_))⟩
        exact dpa_mono (Same.upd_new (Same.refl G) (e.free hp)) _ (a1.append a2)
      · cases q
    | _ => simp [gAddL] at q
  | _ => simp [gAddL] at q
def gAddI : PyData → PyData → Option PyData := gI yesC fun i j => .int (i + j)
def rAdd3 : R2 := fun x y H Q => (rI0 fun i j => .int (i + j)) x y H Q ∨ (rAddS2 x y H Q ∨ rCat x y H Q)
def gAdd : PyData → PyData → Option PyData := alt gAddI (alt gAddS gAddL)
theorem op_add3 {X : Cx} : OpR X (binaryOp .Add) rAdd3 := op_add.or (op_add_str.or op_cat)
theorem add3_s : OpS K rAdd3 gAdd := (rI0_s fun F i j => rp_int _).or (addS_s.or addL_s)
def gMinus : PyData → PyData → Option PyData := gI yesC fun i j => .int (i - j)
theorem sub_s : OpS K (rI0 fun i j => .int (i - j)) gMinus := rI0_s fun F i j => rp_int _
/-- *: ints, one of them small; a list, a text times an int -/
def cMul (i j : Int) : Bool := decide (i.natAbs ≤ 1000000000) || decide (j.natAbs ≤ 1000000000)
def gMulI : PyData → PyData → Option PyData := gI cMul fun i j => .int (i * j)
theorem mulI_s : OpS K (rI CMul fun i j => .int (i * j)) gMulI := rI_s (fun i j h => by
  unfold cMul at h
  rw [Bool.or_eq_true, decide_eq_true_eq, decide_eq_true_eq] at h
  rcases h with h | h
  · exact .inl (by omega)
  · exact .inr (by omega)) fun F i j => rp_int _
def gMulL : PyData → PyData → Option PyData
  | .list x, .int k => if k ≤ 1000000 ∧ -1000000 ≤ k ∧ x.length * k.toNat ≤ LIM then some (.list (List.replicate k.toNat x).flatten) else none
  | _, _ => none
theorem dqa_rep {F : Hp} {vs : List V} {ds : List PyData} (h : DqAll K F vs ds) : ∀ n : Nat, DqAll K F (List.replicate n vs).flatten (List.replicate n ds).flatten
  | 0 => .nil
  | n + 1 => by
    rw [List.replicate_succ, List.replicate_succ, List.flatten_cons, List.flatten_cons]
    exact h.append (dqa_rep h n)
theorem mulL_s : OpS K rRep gMulL := fun G H x y d1 d2 d e b1 b2 q Q k => by
  cases d1 with
  | list i =>
    cases d2 with
    | int j =>
      simp only [gMulL] at q
      split at q
      · rename_i hc
        obtain ⟨c1, c2, c3⟩ := hc
        cases q
        obtain ⟨p1, vs, rfl, h1, a1⟩ := b1.list e
        cases b2.int
        refine ⟨p1, j, vs, rfl, rfl, h1, by omega, by omega, lim_line (by rw [a1.len]; exact c3), fun p hp => k _ _ _ ((Grow.refl e).new hp) (.inl (.lst upd_same ?_))⟩
        exact dpa_mono (Same.upd_new (Same.refl G) (e.free hp)) _ (dqa_rep a1 _)
      · cases q
    | _ => simp [gMulL] at q
  | _ => simp [gMulL] at q
def rMulS : R2 := fun x y H Q => ∃ z n, x = .str z ∧ y = .int n ∧ MulOk z n ∧ Q (.str (Txt.mul z n)) H
theorem op_mulS {X : Cx} : OpR X (binaryOp .Mult) rMulS := by
  intro pins s σ H x y v u Q I rx ry h
  obtain ⟨z, n, rfl, rfl, hm, q⟩ := h
  obtain ⟨t, rfl⟩ := rx
  obtain ⟨t', rfl⟩ := ry
  exact PySem.SB.mul hm fun t' k => ⟨.str _, H, I.tok _, ⟨_, rfl⟩, q⟩
def gMulS : PyData → PyData → Option PyData
  | .str x, .int k => if x.length ≤ 1000 ∧ k ≤ 1000 ∧ -1000 ≤ k then some (.str (Txt.mul x k)) else none
  | _, _ => none
theorem mulS_s : OpS K rMulS gMulS := fun G H x y d1 d2 d e b1 b2 q Q k => by
  cases d1 with
  | str i =>
    cases d2 with
    | int j =>
      simp only [gMulS] at q
      split at q
      · rename_i hc
        obtain ⟨c1, c2, c3⟩ := hc
        cases q
        cases b1.str
        cases b2.int
        exact ⟨i, j, rfl, rfl, PyProof.Rows.mulOk_of 1000 1000 c1 (by omega) (by omega) (by decide) (by decide), k _ H G (Grow.refl e) (rp_str _)⟩
      · cases q
    | _ => simp [gMulS] at q
  | _ => simp [gMulS] at q
def rMul3 : R2 := fun x y H Q => (rI CMul fun i j => .int (i * j)) x y H Q ∨ (rRep x y H Q ∨ rMulS x y H Q)
def gMul : PyData → PyData → Option PyData := alt gMulI (alt gMulL gMulS)
theorem op_mul3 {X : Cx} : OpR X (binaryOp .Mult) rMul3 := op_mul.or (op_rep.or op_mulS)
theorem mul3_s : OpS K rMul3 gMul := mulI_s.or (mulL_s.or mulS_s)
def cPos (_ j : Int) : Bool := decide (0 < j) && decide (j < 1073741824)
def gFdiv : PyData → PyData → Option PyData := gI cPos fun i j => .int (i / j)
def gMod : PyData → PyData → Option PyData := gI cPos fun i j => .int (i % j)
theorem cPos_ok {i j : Int} (h : cPos i j = true) : 0 < j ∧ j < 1073741824 := by
  unfold cPos at h
  rw [Bool.and_eq_true, decide_eq_true_eq, decide_eq_true_eq] at h
  exact h
theorem fdiv_s : OpS K (rI CDiv fun i j => .int (i / j)) gFdiv := rI_s (fun i j h => cPos_ok h) fun F i j => rp_int _
theorem mod_s : OpS K (rI (fun _ j => 0 < j) fun i j => .int (i % j)) gMod := rI_s (fun i j h => (cPos_ok h).1) fun F i j => rp_int _
def gLt : PyData → PyData → Option PyData := gI yesC fun i j => .bool (decide (i < j))
def gLe : PyData → PyData → Option PyData := gI yesC fun i j => .bool (decide (i ≤ j))
def gGt : PyData → PyData → Option PyData := gI yesC fun i j => .bool (decide (j < i))
def gGe : PyData → PyData → Option PyData := gI yesC fun i j => .bool (decide (j ≤ i))
theorem lt_s : OpS K (rI0 fun i j => .bl (decide (i < j))) gLt := rI0_s fun F i j => rp_bool _
theorem le_s : OpS K (rI0 fun i j => .bl (decide (i ≤ j))) gLe := rI0_s fun F i j => rp_bool _
theorem gt_s : OpS K (rI0 fun i j => .bl (decide (j < i))) gGt := rI0_s fun F i j => rp_bool _
theorem ge_s : OpS K (rI0 fun i j => .bl (decide (j ≤ i))) gGe := rI0_s fun F i j => rp_bool _
/-- == and != of data -/
def gEqD : PyData → PyData → Option PyData := fun a b => if dataD a = true ∧ dataD b = true ∧ SeqAt.shaped a = true ∧ SeqAt.shaped b = true then some (.bool (PyData.eqv a b)) else none
def gNeD : PyData → PyData → Option PyData := fun a b => if dataD a = true ∧ dataD b = true ∧ SeqAt.shaped a = true ∧ SeqAt.shaped b = true then some (.bool (!PyData.eqv a b)) else none
theorem Bp.dp {G H : Hp} {v : V} {d : PyData} (e : Same G H) (h : Bp K G H v d) (n : dataD d = true) : Dp K H v d := dq_dp d ((h.all e).dp (by rintro l rfl; cases n))
theorem eqD0_s : OpS K (rEqD K) gEqD := fun G H x y d1 d2 d e b1 b2 q Q k => by
  unfold gEqD at q
  split at q
  · rename_i hc
    obtain ⟨c1, c2, c3, c4⟩ := hc
    cases q
    exact ⟨d1, d2, b1.dp e c1, b2.dp e c2, c3, c4, k _ H G (Grow.refl e) (rp_bool _)⟩
  · cases q
theorem neD0_s : OpS K (rNeD K) gNeD := fun G H x y d1 d2 d e b1 b2 q Q k => by
  unfold gNeD at q
  split at q
  · rename_i hc
    obtain ⟨c1, c2, c3, c4⟩ := hc
    cases q
    exact ⟨d1, d2, b1.dp e c1, b2.dp e c2, c3, c4, k _ H G (Grow.refl e) (rp_bool _)⟩
  · cases q
/-- two values without parts -/
def eqSc : PyData → PyData → Option Bool
  | .int i, .int j => some (i == j)
  | .str i, .str j => some (i == j)
  | .bool i, .bool j => some (i == j)
  | .none, .none => some true
  | .int _, .str _ => some false
  | .str _, .int _ => some false
  | .none, .int _ => some false
  | .int _, .none => some false
  | .none, .str _ => some false
  | .str _, .none => some false
  | _, _ => none
def gEqS : PyData → PyData → Option PyData := fun a b => (eqSc a b).map .bool
def gNeS : PyData → PyData → Option PyData := fun a b => (eqSc a b).map fun c => .bool (!c)
theorem eqSc_ok {G H : Hp} {x y : V} {d1 d2 : PyData} {c : Bool} (b1 : Bp K G H x d1) (b2 : Bp K G H y d2) (q : eqSc d1 d2 = some c) : scal x y = true ∧ c = decide (x = y) := by
  unfold eqSc at q
  split at q
  · cases b1.int; cases b2.int; cases q; exact ⟨rfl, dec_int.symm⟩
  · cases b1.str; cases b2.str; cases q; exact ⟨rfl, dec_str.symm⟩
  · cases b1.bool; cases b2.bool; cases q; exact ⟨rfl, dec_bl.symm⟩
  · cases b1.non; cases b2.non; cases q; exact ⟨rfl, rfl⟩
  · cases b1.int; cases b2.str; cases q; exact ⟨rfl, (decide_eq_false (by intro z; cases z)).symm⟩
  · cases b1.str; cases b2.int; cases q; exact ⟨rfl, (decide_eq_false (by intro z; cases z)).symm⟩
  · cases b1.non; cases b2.int; cases q; exact ⟨rfl, (decide_eq_false (by intro z; cases z)).symm⟩
  · cases b1.int; cases b2.non; cases q; exact ⟨rfl, (decide_eq_false (by intro z; cases z)).symm⟩
  · cases b1.non; cases b2.str; cases q; exact ⟨rfl, (decide_eq_false (by intro z; cases z)).symm⟩
  · cases b1.str; cases b2.non; cases q; exact ⟨rfl, (decide_eq_false (by intro z; cases z)).symm⟩
  · cases q
theorem eqS_s : OpS K rEq gEqS := fun G H x y d1 d2 d e b1 b2 q Q k => by
  cases hc : eqSc d1 d2 with
  | none => simp [gEqS, hc] at q
  | some c =>
    simp [gEqS, hc] at q
    subst q
    obtain ⟨h1, h2⟩ := eqSc_ok b1 b2 hc
    exact ⟨h1, k _ H G (Grow.refl e) (by rw [h2]; exact rp_bool _)⟩
theorem neS_s : OpS K rNe gNeS := fun G H x y d1 d2 d e b1 b2 q Q k => by
  cases hc : eqSc d1 d2 with
  | none => simp [gNeS, hc] at q
  | some c =>
    simp [gNeS, hc] at q
    subst q
    obtain ⟨h1, h2⟩ := eqSc_ok b1 b2 hc
    exact ⟨h1, k _ H G (Grow.refl e) (by rw [h2]; exact rp_bool _)⟩
def rEq2 (K : PySem.W.Frag) : R2 := fun x y H Q => rEq x y H Q ∨ rEqD K x y H Q
def rNe2 (K : PySem.W.Frag) : R2 := fun x y H Q => rNe x y H Q ∨ rNeD K x y H Q
def gEq : PyData → PyData → Option PyData := alt gEqS gEqD
def gNe : PyData → PyData → Option PyData := alt gNeS gNeD
theorem op_eq2 {X : Cx} (hu : X.A.units + 64 < cLine) : OpR X (compareOp .Eq) (rEq2 X.K) := op_eq.or (op_eqD hu)
theorem op_ne2 {X : Cx} (hu : X.A.units + 64 < cLine) : OpR X (compareOp .NotEq) (rNe2 X.K) := op_ne.or (op_neD hu)
theorem eq2_s : OpS K (rEq2 K) gEq := eqS_s.or eqD0_s
theorem ne2_s : OpS K (rNe2 K) gNe := neS_s.or neD0_s
/-- in a list, a tuple of values without parts -/
def eqFl : PyData → PyData → Bool
  | .none, .none => true
  | .bool a, .bool b => a == b
  | .bool a, .int b => (if a then 1 else 0) == b
  | .int a, .bool b => a == (if b then 1 else 0)
  | .int a, .int b => a == b
  | .str a, .str b => a == b
  | _, _ => false
def gInF (neg : Bool) : PyData → PyData → Option PyData
  | d, .list ds => if scalD d = true ∧ ds.all scalD = true then some (.bool (if neg then !ds.any fun z => eqFl z d else ds.any fun z => eqFl z d)) else none
  | d, .tuple ds => if scalD d = true ∧ ds.all scalD = true then some (.bool (if neg then !ds.any fun z => eqFl z d else ds.any fun z => eqFl z d)) else none
  | _, _ => none
theorem flat_of {G : Hp} {v : V} {d : PyData} (h : Dq K G v d) (hs : scalD d = true) : flatV v = true := by
  cases h with
  | non => rfl
  | bl b => rfl
  | int i => rfl
  | str x => rfl
  | lst _ _ => cases hs
  | tup _ _ => cases hs
theorem eqFl_of {G : Hp} {x y : V} {d e : PyData} (h : Dq K G x d) (h' : Dq K G y e) (hs : scalD d = true) (hs' : scalD e = true) : eqV x y = eqFl d e := by
  cases h with
  | non => cases h' with
    | lst _ _ => cases hs'
    | tup _ _ => cases hs'
    | _ => rfl
  | bl b => cases h' with
    | lst _ _ => cases hs'
    | tup _ _ => cases hs'
    | _ => rfl
  | int i => cases h' with
    | lst _ _ => cases hs'
    | tup _ _ => cases hs'
    | _ => rfl
  | str x => cases h' with
    | lst _ _ => cases hs'
    | tup _ _ => cases hs'
    | _ => rfl
  | lst _ _ => cases hs
  | tup _ _ => cases hs
theorem flats_of {G : Hp} : ∀ {vs : List V} {ds : List PyData}, DqAll K G vs ds → ds.all scalD = true → vs.all flatV = true
  | [], [], _, _ => rfl
  | [], _ :: _, h, _ => by cases h
  | _ :: _, [], h, _ => by cases h
  | v :: vs, d :: ds, h, a => by
    cases h with
    | cons h1 h2 =>
      rw [List.all_cons, Bool.and_eq_true] at a ⊢
      exact ⟨flat_of h1 a.1, flats_of h2 a.2⟩
theorem inV_of {G : Hp} {x : V} {d : PyData} (hx : Dq K G x d) (hs : scalD d = true) : ∀ {vs : List V} {ds : List PyData}, DqAll K G vs ds → ds.all scalD = true → inV x vs = ds.any fun z => eqFl z d
  | [], [], _, _ => rfl
  | [], _ :: _, h, _ => by cases h
  | _ :: _, [], h, _ => by cases h
  | v :: vs, e :: ds, h, a => by
    cases h with
    | cons h1 h2 =>
      rw [List.all_cons, Bool.and_eq_true] at a
      have ih := inV_of hx hs h2 a.2
      unfold inV at ih ⊢
      rw [List.any_cons, List.any_cons, ih, eqFl_of h1 hx a.1 hs]
theorem scal_not {G H : Hp} {v : V} {d : PyData} (b : Bp K G H v d) (hs : scalD d = true) : Dq K G v d := by
  rcases b with b | ⟨p, vs, ds, _, rfl, _⟩
  · exact b.dp (by rintro l rfl; cases hs)
  · cases hs
theorem inF_s (neg : Bool) : OpS K (rIn K neg) (gInF neg) := fun G H x y d1 d2 d e b1 b2 q Q k => by
  unfold gInF at q
  split at q
  · split at q
    · rename_i hc
      obtain ⟨c1, c2⟩ := hc
      cases q
      obtain ⟨p, vs, rfl, h1, a1⟩ := b2.list e
      have hx := scal_not b1 c1
      refine ⟨p, vs, rfl, .inl (.inl (.inl h1)), flat_of hx c1, flats_of a1 c2, ?_⟩
      rw [inV_of hx c1 a1 c2]
      exact k _ H G (Grow.refl e) (rp_bool _)
    · cases q
  · split at q
    · rename_i hc
      obtain ⟨c1, c2⟩ := hc
      cases q
      obtain ⟨p, vs, rfl, h1, a1⟩ := b2.tuple e
      have hx := scal_not b1 c1
      refine ⟨p, vs, rfl, .inr h1, flat_of hx c1, flats_of a1 c2, ?_⟩
      rw [inV_of hx c1 a1 c2]
      exact k _ H G (Grow.refl e) (rp_bool _)
    · cases q
  · cases q
/-- in, not in: a list of data; a sign in a text; a text in a text -/
def gInL (neg : Bool) : PyData → PyData → Option PyData
  | d, .list ds => if dataD d = true ∧ SeqAt.shaped d = true ∧ SeqAt.shaped (.list ds) = true then some (.bool (if neg then !ds.any fun z => PyData.eqv z d else ds.any fun z => PyData.eqv z d)) else none
  | _, _ => none
theorem inL_s : OpS K (rInD K) (gInL false) := fun G H x y d1 d2 d e b1 b2 q Q k => by
  cases d2 with
  | list ds =>
    simp only [gInL] at q
    split at q
    · rename_i hc
      obtain ⟨c1, c2, c3⟩ := hc
      cases q
      exact ⟨d1, ds, b1.dp e c1, b2.dp e rfl, c2, c3, k _ H G (Grow.refl e) (rp_bool _)⟩
    · cases q
  | _ => simp [gInL] at q
theorem notInL_s : OpS K (rNotInD K) (gInL true) := fun G H x y d1 d2 d e b1 b2 q Q k => by
  cases d2 with
  | list ds =>
    simp only [gInL] at q
    split at q
    · rename_i hc
      obtain ⟨c1, c2, c3⟩ := hc
      cases q
      exact ⟨d1, ds, b1.dp e c1, b2.dp e rfl, c2, c3, k _ H G (Grow.refl e) (rp_bool _)⟩
    · cases q
  | _ => simp [gInL] at q
def rInSg (neg : Bool) : R2 := fun x y H Q => ∃ (c : Nat) (z : Str), x = .str ⟨#[c]⟩ ∧ y = .str z ∧ Q (.bl (if neg then !decide (c ∈ z.cps.toList) else decide (c ∈ z.cps.toList))) H
def gInS (neg : Bool) : PyData → PyData → Option PyData
  | .str x, .str z => match x.cps.toList with
    | [c] => some (.bool (if neg then !decide (c ∈ z.cps.toList) else decide (c ∈ z.cps.toList)))
    | _ => none
  | _, _ => none
theorem inS_s (neg : Bool) : OpS K (rInSg neg) (gInS neg) := fun G H x y d1 d2 d e b1 b2 q Q k => by
  cases d1 with
  | str i =>
    cases d2 with
    | str j =>
      simp only [gInS] at q
      split at q
      · rename_i c hc
        cases q
        cases b1.str
        cases b2.str
        have ei : i = ⟨#[c]⟩ := Str.ext' (Array.toList_inj.mp hc)
        exact ⟨c, j, by rw [ei], rfl, k _ H G (Grow.refl e) (rp_bool _)⟩
      · cases q
    | _ => simp [gInS] at q
  | _ => simp [gInS] at q
def rIn2 (K : PySem.W.Frag) : R2 := fun x y H Q => rIn K false x y H Q ∨ (rInD K x y H Q ∨ rInSg false x y H Q)
def rNotIn2 (K : PySem.W.Frag) : R2 := fun x y H Q => rIn K true x y H Q ∨ (rNotInD K x y H Q ∨ rInSg true x y H Q)
def gIn : PyData → PyData → Option PyData := alt (gInF false) (alt (gInL false) (gInS false))
def gNotIn : PyData → PyData → Option PyData := alt (gInF true) (alt (gInL true) (gInS true))
theorem op_in2 {X : Cx} (hu : X.A.units + 65 < cLine) : OpR X (compareOp .In) (rIn2 X.K) := op_in_seq.or ((op_inD hu).or op_in_sign)
theorem op_notIn2 {X : Cx} (hu : X.A.units + 65 < cLine) : OpR X (compareOp .NotIn) (rNotIn2 X.K) := op_notIn_seq.or ((op_notInD hu).or op_notIn_sign)
theorem in2_s : OpS K (rIn2 K) gIn := (inF_s false).or (inL_s.or (inS_s false))
theorem notIn2_s : OpS K (rNotIn2 K) gNotIn := (inF_s true).or (notInL_s.or (inS_s true))
/-- is, is not: None on the right; two truths -/
def rIs2 : R2 := fun x y H Q => (y = .non ∧ Q (.bl (decide (x = .non))) H) ∨ rIsB x y H Q
def rIsNot2 : R2 := fun x y H Q => (y = .non ∧ Q (.bl (!decide (x = .non))) H) ∨ rNotB x y H Q
end
end RT
namespace RT
open PySem PySem.Spec PyProof.Rows L2
/-! ### is None, is True -/
def isRhs : V → Bool
  | .non => true
  | .bl _ => true
  | _ => false
def isLhs : V → Bool
  | .non => true
  | .bl _ => true
  | .int _ => true
  | .str _ => true
  | .ref _ => true
  | _ => false
def rIsP : R2 := fun x y H Q => isLhs x = true ∧ isRhs y = true ∧ Q (.bl (decide (x = y))) H
def rIsNotP : R2 := fun x y H Q => isLhs x = true ∧ isRhs y = true ∧ Q (.bl (!decide (x = y))) H
section
variable {X : Cx}
theorem plain_of {x y : V} {v u : Value} (hx : isLhs x = true) (hy : isRhs y = true) (rx : RelV x v) (ry : RelV y u) : plainIs v u = true ∧ (v == u) = decide (x = y) := by
  cases y with
  | non =>
    cases (show u = Value.none from ry)
    refine ⟨?_, rx.none_iff⟩
    cases x with
    | non => cases (show v = Value.none from rx); rfl
    | bl b => cases (show v = Value.bool b from rx); rfl
    | int i => obtain ⟨t, rfl⟩ := rx; rfl
    | str i => obtain ⟨t, rfl⟩ := rx; rfl
    | ref a => cases (show v = Value.ref a from rx); rfl
    | _ => cases hx
  | bl c =>
    cases (show u = Value.bool c from ry)
    cases x with
    | non => cases (show v = Value.none from rx); exact ⟨rfl, by simp⟩
    | bl b =>
      cases (show v = Value.bool b from rx)
      refine ⟨rfl, ?_⟩
      cases b <;> cases c <;> decide
    | int i => obtain ⟨t, rfl⟩ := rx; exact ⟨rfl, by simp⟩
    | str i => obtain ⟨t, rfl⟩ := rx; exact ⟨rfl, by simp⟩
    | ref a => cases (show v = Value.ref a from rx); exact ⟨rfl, by simp⟩
    | _ => cases hx
  | _ => cases hy
theorem op_isP : OpR X (compareOp .Is) rIsP := by
  intro pins s σ H x y v u Q I rx ry h
  obtain ⟨hx, hy, q⟩ := h
  obtain ⟨p1, p2⟩ := plain_of hx hy rx ry
  refine wpAny_is_plain p1 ?_
  rw [p2]
  exact ⟨.bl _, H, I, rfl, q⟩
theorem op_isNotP : OpR X (compareOp .IsNot) rIsNotP := by
  intro pins s σ H x y v u Q I rx ry h
  obtain ⟨hx, hy, q⟩ := h
  obtain ⟨p1, p2⟩ := plain_of hx hy rx ry
  refine wpAny_isNot_plain p1 ?_
  rw [p2]
  exact ⟨.bl _, H, I, rfl, q⟩
end
section
variable {K : PySem.W.Frag}
/-- is: the right side None, True or False -/
def isD : PyData → PyData → Option Bool
  | .none, .none => some true
  | .bool _, .none => some false
  | .int _, .none => some false
  | .str _, .none => some false
  | .list _, .none => some false
  | .tuple _, .none => some false
  | .bool a, .bool b => some (a == b)
  | .none, .bool _ => some false
  | .int _, .bool _ => some false
  | .str _, .bool _ => some false
  | .list _, .bool _ => some false
  | .tuple _, .bool _ => some false
  | _, _ => none
def gIs : PyData → PyData → Option PyData := fun a b => (isD a b).map .bool
def gIsNot : PyData → PyData → Option PyData := fun a b => (isD a b).map fun c => .bool (!c)
theorem isD_ok {G H : Hp} {x y : V} {d1 d2 : PyData} {c : Bool} (e : Same G H) (b1 : Bp K G H x d1) (b2 : Bp K G H y d2) (q : isD d1 d2 = some c) : isLhs x = true ∧ isRhs y = true ∧ c = decide (x = y) := by
  cases d2 with
  | none =>
    cases b2.non
    cases d1 with
    | none => cases b1.non; cases q; exact ⟨rfl, rfl, rfl⟩
    | bool b => cases b1.bool; cases q; exact ⟨rfl, rfl, by simp⟩
    | int i => cases b1.int; cases q; exact ⟨rfl, rfl, by simp⟩
    | str i => cases b1.str; cases q; exact ⟨rfl, rfl, by simp⟩
    | list l => obtain ⟨p, vs, rfl, _⟩ := b1.list e; cases q; exact ⟨rfl, rfl, by simp⟩
    | tuple l => obtain ⟨p, vs, rfl, _⟩ := b1.tuple e; cases q; exact ⟨rfl, rfl, by simp⟩
    | _ => cases q
  | bool b' =>
    cases b2.bool
    cases d1 with
    | none => cases b1.non; cases q; exact ⟨rfl, rfl, by simp⟩
    | bool b => cases b1.bool; cases q; refine ⟨rfl, rfl, ?_⟩; cases b <;> cases b' <;> decide
    | int i => cases b1.int; cases q; exact ⟨rfl, rfl, by simp⟩
    | str i => cases b1.str; cases q; exact ⟨rfl, rfl, by simp⟩
    | list l => obtain ⟨p, vs, rfl, _⟩ := b1.list e; cases q; exact ⟨rfl, rfl, by simp⟩
    | tuple l => obtain ⟨p, vs, rfl, _⟩ := b1.tuple e; cases q; exact ⟨rfl, rfl, by simp⟩
    | _ => cases q
  | _ => cases d1 <;> cases q
theorem is_s : OpS K rIsP gIs := fun G H x y d1 d2 d e b1 b2 q Q k => by
  cases hc : isD d1 d2 with
  | none => simp [gIs, hc] at q
  | some c =>
    simp [gIs, hc] at q
    subst q
    obtain ⟨h1, h2, h3⟩ := isD_ok e b1 b2 hc
    exact ⟨h1, h2, k _ H G (Grow.refl e) (by rw [h3]; exact rp_bool _)⟩
theorem isNot_s : OpS K rIsNotP gIsNot := fun G H x y d1 d2 d e b1 b2 q Q k => by
  cases hc : isD d1 d2 with
  | none => simp [gIsNot, hc] at q
  | some c =>
    simp [gIsNot, hc] at q
    subst q
    obtain ⟨h1, h2, h3⟩ := isD_ok e b1 b2 hc
    exact ⟨h1, h2, k _ H G (Grow.refl e) (by rw [h3]; exact rp_bool _)⟩

/-! ### an item, a slice -/
def gIx0 : PyData → PyData → Option PyData
  | .list ds, .int i => atI ds i
  | .tuple ds, .int i => atI ds i
  | .str z, .int i => if z.length ≤ LIM then (atI z.cps.toList i).map fun c => .str ⟨#[c]⟩ else none
  | _, _ => none
theorem atI_of {F : Hp} {vs : List V} {ds : List PyData} {i : Int} {d : PyData} (h : DqAll K F vs ds) (q : atI ds i = some d) : ∃ v, atI vs i = some v ∧ Dq K F v d := by
  unfold atI at q ⊢
  rw [h.len]
  cases hx : ixN ds.length i with
  | none => rw [hx] at q; cases q
  | some j =>
    rw [hx] at q
    exact h.get q
theorem ix0_s : OpS K (rIx K) gIx0 := fun G H x y d1 d2 d e b1 b2 q Q k => by
  cases d2 with
  | int i =>
    cases b2.int
    cases d1 with
    | list ds =>
      obtain ⟨p, vs, rfl, h1, a1⟩ := b1.list e
      obtain ⟨v, h2, h3⟩ := atI_of a1 q
      exact .inl ⟨p, vs, i, v, rfl, rfl, .inl (.inl h1), h2, k v H G (Grow.refl e) (.inl h3)⟩
    | tuple ds =>
      obtain ⟨p, vs, rfl, h1, a1⟩ := b1.tuple e
      obtain ⟨v, h2, h3⟩ := atI_of a1 q
      exact .inr (.inl ⟨p, vs, i, v, rfl, rfl, h1, h2, k v H G (Grow.refl e) (.inl h3)⟩)
    | str z =>
      cases b1.str
      simp only [gIx0] at q
      split at q
      · rename_i hz
        cases hc : atI z.cps.toList i with
        | none => simp [hc] at q
        | some c =>
          simp [hc] at q
          subst q
          exact .inr (.inr ⟨z, i, c, rfl, rfl, lim_line hz, hc, k _ H G (Grow.refl e) (rp_str _)⟩)
      · cases q
    | _ => cases q
  | _ => cases d1 <;> cases q
/-- an item of the script -/
def gIxS : PyData → PyData → Option PyData
  | .dict [(.none, .list ds)], .int i => atI ds i
  | _, _ => none
theorem ixS_s : OpS K (rIx K) gIxS := fun G H x y d1 d2 d e b1 b2 q Q k => by
  unfold gIxS at q
  split at q
  · cases b2.int
    obtain ⟨p, vs, rfl, h1, a1⟩ := b1.scr e
    obtain ⟨v, h2, h3⟩ := atI_of a1 q
    exact .inl ⟨p, vs, _, v, rfl, rfl, h1, h2, k v H G (Grow.refl e) (.inl h3)⟩
  · cases q
theorem OpS.alt {r : R2} {g g' : PyData → PyData → Option PyData} (h : OpS K r g) (h' : OpS K r g') : OpS K r (RT.alt g g') := fun G H x y d1 d2 d e b1 b2 q Q k => by
  unfold RT.alt at q
  split at q
  · rename_i d' hd
    cases q
    exact h G H x y d1 d2 _ e b1 b2 hd Q k
  · exact h' G H x y d1 d2 d e b1 b2 q Q k
def gIx : PyData → PyData → Option PyData := alt gIx0 gIxS
theorem ix_s : OpS K (rIx K) gIx := ix0_s.alt ixS_s
def cutA {α : Type} (xs : List α) (lo hi : Option Int) : List α := (xs.drop (HT.sIx xs.length 0 lo)).take (HT.sIx xs.length xs.length hi - HT.sIx xs.length 0 lo)
/-- a part of a slice -/
abbrev SO := Rho → Option (Option Int)
def oNone : SO := fun _ => some none
def oSome (f : SE) : SO := fun ρ => (f ρ).bind fun d => match d with
  | .int i => some (some i)
  | _ => none
def OOk (K : PySem.W.Frag) (B : Bs) (t : TO) (f : SO) : Prop := ∀ (R : Rg) (F H : Hp) (σ : L2.St) (ρ : Rho) (o : Option Int), EnvOk K B R F H σ ρ → f ρ = some o → ∀ Q : Option Int → Hp → Prop, (∀ H' G, Grow H F H' G → Q o H') → t σ H Q
structure SemO (X : Cx) (K : PySem.W.Frag) (B : Bs) (e : Option Expr) (t : TO) (f : SO) : Prop where
  po : PO X e t
  ok : OOk K B t f
theorem so_none {X : Cx} {K : PySem.W.Frag} {B : Bs} : SemO X K B none tNoPart oNone := ⟨po_none, fun R F H σ ρ o E q Q k => by
  cases q
  exact k H F (Grow.refl E.ex)⟩
theorem so_some {X : Cx} {K : PySem.W.Frag} {B : Bs} {e : Expr} {t : TE} {f : SE} (h : SemB X K B e t f) : SemO X K B (some e) (tPart t) (oSome f) := ⟨po_some h.pe, fun R F H σ ρ o E q Q k => by
  cases e1 : f ρ with
  | none => simp [oSome, e1] at q
  | some d =>
    cases d with
    | int i =>
      simp [oSome, e1] at q
      subst q
      exact h.ok _ F H σ ρ _ E e1 _ fun v H1 G1 g1 b1 => ⟨i, b1.int, k H1 G1 g1⟩
    | _ => simp [oSome, e1] at q⟩
def lSl (f : SE) (a b : SO) : SA := fun ρ => (f ρ).bind fun d => (a ρ).bind fun lo => (b ρ).bind fun hi => match d with
  | .list ds => some (cutA ds lo hi)
  | .dict [(.none, .list ds)] => some (cutA ds lo hi)
  | _ => none
def eSlS (f : SE) (a b : SO) : SE := fun ρ => (f ρ).bind fun d => (a ρ).bind fun lo => (b ρ).bind fun hi => match d with
  | .str z => if z.length ≤ LIM then some (.str (cutS z lo hi)) else none
  | _ => none
theorem cutV_dq {F : Hp} {vs : List V} {ds : List PyData} (h : DqAll K F vs ds) (lo hi : Option Int) : DqAll K F (cutV vs lo hi) (cutA ds lo hi) := by
  unfold cutV cutA
  rw [h.len]
  exact (h.drop _).take _
theorem lSl_inv {f : SE} {a b : SO} {ρ : Rho} {ds : List PyData} (q : lSl f a b ρ = some ds) : ∃ d lo hi es, f ρ = some d ∧ a ρ = some lo ∧ b ρ = some hi ∧ (d = .list es ∨ d = .dict [(.none, .list es)]) ∧ ds = cutA es lo hi := by
  unfold lSl at q
  cases e0 : f ρ with
  | none => simp [e0] at q
  | some d =>
    cases e1 : a ρ with
    | none => simp [e0, e1] at q
    | some lo =>
      cases e2 : b ρ with
      | none => simp [e0, e1, e2] at q
      | some hi =>
        rw [e0, e1, e2, Option.bind_some, Option.bind_some, Option.bind_some] at q
        split at q
        · rename_i es
          cases q
          exact ⟨_, lo, hi, es, rfl, rfl, rfl, .inl rfl, rfl⟩
        · rename_i es
          cases q
          exact ⟨_, lo, hi, es, rfl, rfl, rfl, .inr rfl, rfl⟩
        · cases q
theorem slL_ok {B : Bs} {te : TE} {tl th : TO} {f : SE} {a b : SO} (h : BOk K B te f) (h1 : OOk K B tl a) (h2 : OOk K B th b) : LOk K B (tSl (rSlL K) te tl th) (lSl f a b) := fun R F H σ ρ ds E q Q k => by
  obtain ⟨d, lo, hi, es, e0, e1, e2, hd, rfl⟩ := lSl_inv q
  refine h _ F H σ ρ _ E e0 _ fun v H1 G1 g1 b1 => h1 _ G1 H1 σ ρ _ (E.grow g1) e1 _ fun H2 G2 g2 => h2 _ G2 H2 σ ρ _ ((E.grow g1).grow g2) e2 _ fun H3 G3 g3 => ?_
  have b3 := b1.mono (g2.f.trans g3.f) (g2.h.trans g3.h)
  have z : ∃ p vs, v = .ref p ∧ SqL K H3 p vs ∧ DqAll K G3 vs es := by
    rcases hd with rfl | rfl
    · obtain ⟨p, vs, e1, e2, e3⟩ := b3.list g3.sub
      exact ⟨p, vs, e1, .inl (.inl e2), e3⟩
    · exact b3.scr g3.sub
  obtain ⟨p, vs, rfl, hR, hA⟩ := z
  exact ⟨p, vs, rfl, hR, fun q hq => k q _ _ G3 (((g1.trans g2).trans g3).beside hq) (((g1.trans g2).trans g3).h.free hq) (g3.sub.free hq) upd_same (cutV_dq hA lo hi)⟩
theorem slS_ok {B : Bs} {te : TE} {tl th : TO} {f : SE} {a b : SO} (h : BOk K B te f) (h1 : OOk K B tl a) (h2 : OOk K B th b) : EOk K B (tSl rSlS te tl th) (eSlS f a b) := fun R F H σ ρ d' E q Q k => by
  cases e0 : f ρ with
  | none => simp [eSlS, e0] at q
  | some d =>
    cases e1 : a ρ with
    | none => simp [eSlS, e0, e1] at q
    | some lo =>
      cases e2 : b ρ with
      | none => simp [eSlS, e0, e1, e2] at q
      | some hi =>
        cases d with
        | str z =>
          simp only [eSlS, e0, e1, e2, Option.bind_some] at q
          split at q
          · rename_i hz
            cases q
            refine h _ F H σ ρ _ E e0 _ fun v H1 G1 g1 b1 => h1 _ G1 H1 σ ρ _ (E.grow g1) e1 _ fun H2 G2 g2 => h2 _ G2 H2 σ ρ _ ((E.grow g1).grow g2) e2 _ fun H3 G3 g3 => ?_
            exact ⟨z, b1.str, lim_line hz, k _ H3 G3 ((g1.trans g2).trans g3) (rp_str _)⟩
          · cases q
        | _ => simp [eSlS, e0, e1, e2] at q

/-! ### built-ins -/
theorem BpAll.two {G H : Hp} {vs : List V} {a b : PyData} (h : BpAll K G H vs [a, b]) : ∃ x y, vs = [x, y] ∧ Bp K G H x a ∧ Bp K G H y b := by
  cases h with
  | cons h1 h2 =>
    cases h2 with
    | cons h2 h3 =>
      cases h3
      exact ⟨_, _, rfl, h1, h2⟩
theorem BpAll.one {G H : Hp} {vs : List V} {a : PyData} (h : BpAll K G H vs [a]) : ∃ x, vs = [x] ∧ Bp K G H x a := by
  cases h with
  | cons h1 h2 =>
    cases h2
    exact ⟨_, rfl, h1⟩
def gLen : List PyData → Option PyData
  | [.list ds] => some (.int (ds.length : Nat))
  | [.tuple ds] => some (.int (ds.length : Nat))
  | [.dict [(.none, .list ds)]] => some (.int (ds.length : Nat))
  | [.str z] => if z.length ≤ LIM then some (.int (z.length : Nat)) else none
  | _ => none
def rLenA (K : PySem.W.Frag) : List V → Hp → VK → Prop := fun xs H Q => ∃ x n, xs = [x] ∧ LenV K x H n ∧ Q (.int n) H
theorem len_s : CallS K (rLenA K) gLen := fun G H xs ds d e b q Q k => by
  match ds, q with
  | [.list es], q =>
    cases q
    obtain ⟨x, rfl, b1⟩ := b.one
    obtain ⟨p, vs, rfl, h1, a1⟩ := b1.list e
    exact ⟨.ref p, vs.length, rfl, .inl ⟨vs, .inl (.inl h1), rfl⟩, k _ H G (Grow.refl e) (by rw [a1.len]; exact rp_int _)⟩
  | [.dict [(.none, .list es)]], q =>
    cases q
    obtain ⟨x, rfl, b1⟩ := b.one
    obtain ⟨p, vs, rfl, h1, a1⟩ := b1.scr e
    exact ⟨.ref p, vs.length, rfl, .inl ⟨vs, h1, rfl⟩, k _ H G (Grow.refl e) (by rw [a1.len]; exact rp_int _)⟩
  | [.tuple es], q =>
    cases q
    obtain ⟨x, rfl, b1⟩ := b.one
    obtain ⟨p, vs, rfl, h1, a1⟩ := b1.tuple e
    exact ⟨.ref p, vs.length, rfl, .inr ⟨vs, h1, rfl⟩, k _ H G (Grow.refl e) (by rw [a1.len]; exact rp_int _)⟩
  | [.str z], q =>
    simp only [gLen] at q
    split at q
    · rename_i hz
      cases q
      obtain ⟨x, rfl, b1⟩ := b.one
      cases b1.str
      exact ⟨.str z, z.length, rfl, ⟨lim_line hz, rfl⟩, k _ H G (Grow.refl e) (rp_int _)⟩
    · cases q
def gMax : List PyData → Option PyData
  | [.int i, .int j] => some (.int (if j > i then j else i))
  | _ => none
def gMin : List PyData → Option PyData
  | [.int i, .int j] => some (.int (if j < i then j else i))
  | _ => none
def rMax2 : List V → Hp → VK → Prop := fun xs H Q => ∃ i j, xs = [.int i, .int j] ∧ Q (.int (if j > i then j else i)) H
def rMin2 : List V → Hp → VK → Prop := fun xs H Q => ∃ i j, xs = [.int i, .int j] ∧ Q (.int (if j < i then j else i)) H
theorem max_s : CallS K rMax2 gMax := fun G H xs ds d e b q Q k => by
  match ds, q with
  | [.int i, .int j], q =>
    cases q
    obtain ⟨x, y, rfl, b1, b2⟩ := b.two
    cases b1.int
    cases b2.int
    exact ⟨i, j, rfl, k _ H G (Grow.refl e) (rp_int _)⟩
theorem min_s : CallS K rMin2 gMin := fun G H xs ds d e b q Q k => by
  match ds, q with
  | [.int i, .int j], q =>
    cases q
    obtain ⟨x, y, rfl, b1, b2⟩ := b.two
    cases b1.int
    cases b2.int
    exact ⟨i, j, rfl, k _ H G (Grow.refl e) (rp_int _)⟩
def gInt : List PyData → Option PyData
  | [.int i] => some (.int i)
  | [.bool b] => some (.int (if b then 1 else 0))
  | _ => none
def rInt1 : List V → Hp → VK → Prop := fun xs H Q => (∃ i, xs = [.int i] ∧ Q (.int i) H) ∨ ∃ k, xs = [.bl k] ∧ Q (.int (if k then 1 else 0)) H
theorem int_s : CallS K rInt1 gInt := fun G H xs ds d e b q Q k => by
  match ds, q with
  | [.int i], q =>
    cases q
    obtain ⟨x, rfl, b1⟩ := b.one
    cases b1.int
    exact .inl ⟨i, rfl, k _ H G (Grow.refl e) (rp_int _)⟩
  | [.bool c], q =>
    cases q
    obtain ⟨x, rfl, b1⟩ := b.one
    cases b1.bool
    exact .inr ⟨c, rfl, k _ H G (Grow.refl e) (rp_int _)⟩
/-- list(..) of a list, a tuple: a new list -/
def gListOf : List PyData → Option (List PyData)
  | [.list ds] => some ds
  | [.tuple ds] => some ds
  | _ => none
def rListOf (K : PySem.W.Frag) : List V → Hp → VK → Prop := fun xs H Q => ∃ p ys, xs = [.ref p] ∧ (SqL K H p ys ∨ SqT K H p ys) ∧ ∀ l, H l = none → Q (.ref l) (upd H l (.lst ys))
theorem listOf_s : CallL K (rListOf K) gListOf := fun G H xs ds d e b q Q k => by
  match ds, q with
  | [.list es], q =>
    cases q
    obtain ⟨x, rfl, b1⟩ := b.one
    obtain ⟨p, vs, rfl, h1, a1⟩ := b1.list e
    exact ⟨p, vs, rfl, .inl (.inl (.inl h1)), fun l hl => k l vs _ G ((Grow.refl e).beside hl) hl (e.free hl) upd_same a1⟩
  | [.tuple es], q =>
    cases q
    obtain ⟨x, rfl, b1⟩ := b.one
    obtain ⟨p, vs, rfl, h1, a1⟩ := b1.tuple e
    exact ⟨p, vs, rfl, .inr h1, fun l hl => k l vs _ G ((Grow.refl e).beside hl) hl (e.free hl) upd_same a1⟩
/-- sum(..) of a list of ints -/
def intsD : List PyData → Option (List Int)
  | [] => some []
  | .int i :: ds => (intsD ds).map (i :: ·)
  | _ :: _ => none
theorem intsD_ok : ∀ {ds : List PyData} {ns : List Int}, intsD ds = some ns → ds = ns.map PyData.int
  | [], ns, h => by cases h; rfl
  | .int i :: ds, ns, h => by
    cases e : intsD ds with
    | none => simp [intsD, e] at h
    | some ms =>
      simp [intsD, e] at h
      subst h
      rw [intsD_ok e]; rfl
  | .none :: _, _, h => by cases h
  | .bool _ :: _, _, h => by cases h
  | .str _ :: _, _, h => by cases h
  | .list _ :: _, _, h => by cases h
  | .tuple _ :: _, _, h => by cases h
  | .dict _ :: _, _, h => by cases h
theorem intsD_map (ns : List Int) : intsD (ns.map PyData.int) = some ns := by
  induction ns with
  | nil => rfl
  | cons n ns ih => simp [intsD, ih]
def gSum : List PyData → Option PyData
  | [.list ds] => (intsD ds).map fun ns => .int ns.sum
  | _ => none
theorem sum_s : CallS K (rSum K) gSum := fun G H xs ds d e b q Q k => by
  match ds, q with
  | [.list es], q =>
    cases hn : intsD es with
    | none => simp [gSum, hn] at q
    | some ns =>
      simp [gSum, hn] at q
      subst q
      obtain ⟨x, rfl, b1⟩ := b.one
      obtain ⟨p, vs, rfl, h1, a1⟩ := b1.list e
      rw [intsD_ok hn] at a1
      have ev := ints_dpa ns a1
      subst ev
      exact ⟨p, ns, rfl, .inl (.inl h1), k _ H G (Grow.refl e) (rp_int _)⟩
/-! ### isinstance of a built-in class -/
inductive TyN where
  | bool | int | str | list | tuple
def tyn : TyN → String
  | .bool => "bool"
  | .int => "int"
  | .str => "str"
  | .list => "list"
  | .tuple => "tuple"
def tyD : PyData → String
  | .none => "NoneType"
  | .bool _ => "bool"
  | .int _ => "int"
  | .str _ => "str"
  | .list _ => "list"
  | .tuple _ => "tuple"
  | .dict _ => "dict"
def isiD : TyN → PyData → Bool
  | .bool, .bool _ => true
  | .int, .bool _ => true
  | .int, .int _ => true
  | .str, .str _ => true
  | .list, .list _ => true
  | .tuple, .tuple _ => true
  | _, _ => false
theorem kitB_bool : ∀ T : TyN, kitB "bool" (tyn T) = some (isiD T (.bool true)) := fun T => by cases T <;> decide +kernel
theorem kitB_int : ∀ T : TyN, kitB "int" (tyn T) = some (isiD T (.int 0)) := fun T => by cases T <;> decide +kernel
theorem kitB_str : ∀ T : TyN, kitB "str" (tyn T) = some (isiD T (.str Str.empty)) := fun T => by cases T <;> decide +kernel
theorem kitB_list : ∀ T : TyN, kitB "list" (tyn T) = some (isiD T (.list [])) := fun T => by cases T <;> decide +kernel
theorem kitB_tuple : ∀ T : TyN, kitB "tuple" (tyn T) = some (isiD T (.tuple [])) := fun T => by cases T <;> decide +kernel
theorem kitB_none : ∀ T : TyN, kitB "NoneType" (tyn T) = some (isiD T .none) := fun T => by cases T <;> decide +kernel
theorem kitB_ok (T : TyN) (d : PyData) (hd : dataD d = true) : kitB (tyD d) (tyn T) = some (isiD T d) := by
  cases d with
  | dict _ => cases hd
  | none => exact kitB_none T
  | bool _ => have h := kitB_bool T; cases T <;> exact h
  | int _ => have h := kitB_int T; cases T <;> exact h
  | str _ => have h := kitB_str T; cases T <;> exact h
  | list _ => have h := kitB_list T; cases T <;> exact h
  | tuple _ => have h := kitB_tuple T; cases T <;> exact h
theorem sqt_ty {H : Hp} {a : Addr} {xs : List V} (h : SqT K H a xs) : TyX K H (.ref a) (.type "tuple") := by
  rcases h with (h | ⟨o, h⟩) | ⟨o, its, n, hk, hc, _⟩
  · exact .base (.tup h)
  · exact .fTuple h
  · exact .kTuple hk hc
theorem bp_ty {G H : Hp} {v : V} {d : PyData} (e : Same G H) (h : Bp K G H v d) (hd : dataD d = true) : TyX K H v (.type (tyD d)) := by
  cases d with
  | none => cases h.non; exact .base .non
  | bool b => cases h.bool; exact .base (.bl b)
  | int b => cases h.int; exact .base (.int b)
  | str b => cases h.str; exact .base (.str b)
  | list l => obtain ⟨p, vs, rfl, h1, _⟩ := h.list e; exact .base (.lst h1)
  | tuple l => obtain ⟨p, vs, rfl, h1, _⟩ := h.tuple e; exact sqt_ty h1
  | dict _ => cases hd
def eIsi (T : TyN) (f : SE) : SE := fun ρ => (f ρ).bind fun d => if dataD d = true then some (.bool (isiD T d)) else none
theorem isi_ok {B : Bs} {t : TE} {f : SE} (T : TyN) (h : BOk K B t f) : EOk K B (tCB (rIsi K) (tCons t (tCons (tC (.ty (tyn T))) tNil))) (eIsi T f) := fun R F H σ ρ d E q Q k => by
  cases e0 : f ρ with
  | none => simp [eIsi, e0] at q
  | some x =>
    simp only [eIsi, e0, Option.bind_some] at q
    split at q
    · rename_i hd
      cases q
      refine h _ F H σ ρ _ E e0 _ fun v H1 G1 g1 b1 => ?_
      exact ⟨v, .ty (tyn T), .type (tyD x), .type (tyn T), isiD T x, rfl, .ty _, bp_ty g1.sub b1 hd, kit_ty (kitB_ok T x hd), k _ H1 G1 g1 (rp_bool _)⟩
    · cases q
end
end RT
namespace RT
open PySem PySem.Spec PyProof.Rows L2
/-! ### tests -/
def bF (f : SE) : STe := fun ρ => (f ρ).bind fun d => match d with
  | .bool b => some b
  | _ => none
def tAndF (f g : STe) : STe := fun ρ => (f ρ).bind fun b => if b = true then g ρ else some false
def tOrF (f g : STe) : STe := fun ρ => (f ρ).bind fun b => if b = true then some true else g ρ
def tNotF (f : STe) : STe := fun ρ => (f ρ).map (!·)
def eAndF (f g : SE) : SE := fun ρ => (bF f ρ).bind fun b => if b = true then g ρ else some (.bool false)
def eOrF (f g : SE) : SE := fun ρ => (bF f ρ).bind fun b => if b = true then some (.bool true) else g ρ
def eNotF (f : SE) : SE := fun ρ => (bF f ρ).map fun b => .bool (!b)
def eIfF (t : STe) (f g : SE) : SE := fun ρ => (t ρ).bind fun b => if b = true then f ρ else g ρ
def eChainF (g g' : PyData → PyData → Option PyData) (f1 f2 f3 : SE) : SE := fun ρ => (f1 ρ).bind fun x => (f2 ρ).bind fun y => (g x y).bind fun z => match z with
  | .bool true => (f3 ρ).bind fun u => g' y u
  | .bool false => some (.bool false)
  | _ => none
theorem Rp.bl {K : PySem.W.Frag} {G : Hp} {v : V} {b : Bool} (h : Rp K G v (.bool b)) : v = .bl b := Bp.bool (H := G) (.inl h)
section
variable {K : PySem.W.Frag} {B : Bs} {t t1 t2 t3 : TE} {tt u : TT} {f f1 f2 f3 : SE} {g h : STe}
theorem bF_some {ρ : Rho} {b : Bool} (q : bF f ρ = some b) : f ρ = some (.bool b) := by
  unfold bF at q
  cases e : f ρ with
  | none => simp [e] at q
  | some d =>
    cases d with
    | bool c => simp [e] at q; rw [q]
    | _ => simp [e] at q
theorem tB_ok (k : EOk K B t f) : TOk K B (tB t) (bF f) := fun R F H σ ρ b E q Q kk => k _ F H σ ρ _ E (bF_some q) _ fun v H1 G1 g1 r => ⟨b, r.bl, kk H1 G1 g1⟩
theorem tTest_ok (k : EOk K B t f) : TOk K B (tTest t) (bF f) := fun R F H σ ρ b E q Q kk => k _ F H σ ρ _ E (bF_some q) _ fun v H1 G1 g1 r => ⟨b, r.bl, kk H1 G1 g1⟩
theorem tAnd_ok (k1 : TOk K B tt g) (k2 : TOk K B u h) : TOk K B (tAnd tt u) (tAndF g h) := fun R F H σ ρ b E q Q kk => by
  cases e1 : g ρ with
  | none => simp [tAndF, e1] at q
  | some c =>
    refine k1 _ F H σ ρ c E e1 _ fun H1 G1 g1 => ?_
    cases c with
    | true =>
      have q' : h ρ = some b := by simpa [tAndF, e1] using q
      show u σ H1 Q
      exact k2 _ G1 H1 σ ρ b (E.grow g1) q' Q fun H2 G2 g2 => kk H2 G2 (g1.trans g2)
    | false =>
      have q' : b = false := by simpa [tAndF, e1] using q.symm
      subst q'
      show Q false H1
      exact kk H1 G1 g1
theorem tOr_ok (k1 : TOk K B tt g) (k2 : TOk K B u h) : TOk K B (tOr tt u) (tOrF g h) := fun R F H σ ρ b E q Q kk => by
  cases e1 : g ρ with
  | none => simp [tOrF, e1] at q
  | some c =>
    refine k1 _ F H σ ρ c E e1 _ fun H1 G1 g1 => ?_
    cases c with
    | true =>
      have q' : b = true := by simpa [tOrF, e1] using q.symm
      subst q'
      show Q true H1
      exact kk H1 G1 g1
    | false =>
      have q' : h ρ = some b := by simpa [tOrF, e1] using q
      show u σ H1 Q
      exact k2 _ G1 H1 σ ρ b (E.grow g1) q' Q fun H2 G2 g2 => kk H2 G2 (g1.trans g2)
theorem tNot_ok (k1 : TOk K B tt g) : TOk K B (tNot tt) (tNotF g) := fun R F H σ ρ b E q Q kk => by
  cases e1 : g ρ with
  | none => simp [tNotF, e1] at q
  | some c =>
    have q' : b = !c := by simpa [tNotF, e1] using q.symm
    subst q'
    exact k1 _ F H σ ρ c E e1 _ fun H1 G1 g1 => kk H1 G1 g1
theorem andV_ok (k1 : EOk K B t1 f1) (k2 : EOk K B t2 f2) : EOk K B (tAndV t1 t2) (eAndF f1 f2) := fun R F H σ ρ d E q Q kk => by
  cases e1 : bF f1 ρ with
  | none => simp [eAndF, e1] at q
  | some c =>
    refine k1 _ F H σ ρ _ E (bF_some e1) _ fun v H1 G1 g1 r => ⟨c, r.bl, ?_⟩
    cases c with
    | true =>
      have q' : f2 ρ = some d := by simpa [eAndF, e1] using q
      show t2 σ H1 Q
      exact k2 _ G1 H1 σ ρ d (E.grow g1) q' Q fun v H2 G2 g2 r2 => kk v H2 G2 (g1.trans g2) r2
    | false =>
      have q' : d = .bool false := by simpa [eAndF, e1] using q.symm
      subst q'
      show Q (.bl false) H1
      exact kk _ H1 G1 g1 (rp_bool _)
theorem orV_ok (k1 : EOk K B t1 f1) (k2 : EOk K B t2 f2) : EOk K B (tOrV t1 t2) (eOrF f1 f2) := fun R F H σ ρ d E q Q kk => by
  cases e1 : bF f1 ρ with
  | none => simp [eOrF, e1] at q
  | some c =>
    refine k1 _ F H σ ρ _ E (bF_some e1) _ fun v H1 G1 g1 r => ⟨c, r.bl, ?_⟩
    cases c with
    | true =>
      have q' : d = .bool true := by simpa [eOrF, e1] using q.symm
      subst q'
      show Q (.bl true) H1
      exact kk _ H1 G1 g1 (rp_bool _)
    | false =>
      have q' : f2 ρ = some d := by simpa [eOrF, e1] using q
      show t2 σ H1 Q
      exact k2 _ G1 H1 σ ρ d (E.grow g1) q' Q fun v H2 G2 g2 r2 => kk v H2 G2 (g1.trans g2) r2
theorem notV_ok (k1 : EOk K B t1 f1) : EOk K B (tNotV t1) (eNotF f1) := fun R F H σ ρ d E q Q kk => by
  cases e1 : bF f1 ρ with
  | none => simp [eNotF, e1] at q
  | some c =>
    have q' : d = .bool (!c) := by simpa [eNotF, e1] using q.symm
    subst q'
    exact k1 _ F H σ ρ _ E (bF_some e1) _ fun v H1 G1 g1 r => ⟨c, r.bl, kk _ H1 G1 g1 (rp_bool _)⟩
theorem if_ok (k0 : TOk K B tt g) (k1 : EOk K B t1 f1) (k2 : EOk K B t2 f2) : EOk K B (tIf tt t1 t2) (eIfF g f1 f2) := fun R F H σ ρ d E q Q kk => by
  cases e1 : g ρ with
  | none => simp [eIfF, e1] at q
  | some c =>
    refine k0 _ F H σ ρ c E e1 _ fun H1 G1 g1 => ?_
    cases c with
    | true =>
      have q' : f1 ρ = some d := by simpa [eIfF, e1] using q
      show t1 σ H1 Q
      exact k1 _ G1 H1 σ ρ d (E.grow g1) q' Q fun v H2 G2 g2 r2 => kk v H2 G2 (g1.trans g2) r2
    | false =>
      have q' : f2 ρ = some d := by simpa [eIfF, e1] using q
      show t2 σ H1 Q
      exact k2 _ G1 H1 σ ρ d (E.grow g1) q' Q fun v H2 G2 g2 r2 => kk v H2 G2 (g1.trans g2) r2
theorem chain_ok {r r' : R2} {gg gg' : PyData → PyData → Option PyData} (o1 : OpS K r gg) (o2 : OpS K r' gg') (k1 : BOk K B t1 f1) (k2 : BOk K B t2 f2) (k3 : BOk K B t3 f3) : EOk K B (tChain r r' t1 t2 t3) (eChainF gg gg' f1 f2 f3) := fun R F H σ ρ d E q Q kk => by
  cases e1 : f1 ρ with
  | none => simp [eChainF, e1] at q
  | some x =>
    cases e2 : f2 ρ with
    | none => simp [eChainF, e1, e2] at q
    | some y =>
      cases e3 : gg x y with
      | none => simp [eChainF, e1, e2, e3] at q
      | some z =>
        cases z with
        | bool c =>
          refine k1 _ F H σ ρ x E e1 _ fun v H1 G1 g1 b1 => k2 _ G1 H1 σ ρ y (E.grow g1) e2 _ fun u H2 G2 g2 b2 => o1 G2 H2 v u x y _ g2.sub (b1.mono g2.f g2.h) b2 e3 _ fun w H3 G3 g3 r3 => ⟨c, r3.bl, ?_⟩
          cases c with
          | true =>
            cases e4 : f3 ρ with
            | none => simp [eChainF, e1, e2, e3, e4] at q
            | some u' =>
              have q' : gg' y u' = some d := by simpa [eChainF, e1, e2, e3, e4] using q
              show t3 σ H3 _
              exact k3 _ G3 H3 σ ρ u' (((E.grow g1).grow g2).grow g3) e4 _ fun w' H4 G4 g4 b4 => o2 G4 H4 u w' y u' d g4.sub (b2.mono (g3.f.trans g4.f) (g3.h.trans g4.h)) b4 q' Q fun z H5 G5 g5 r5 => kk z H5 G5 ((((g1.trans g2).trans g3).trans g4).trans g5) r5
          | false =>
            have q' : d = .bool false := by simpa [eChainF, e1, e2, e3] using q.symm
            subst q'
            show Q (.bl false) H3
            exact kk _ H3 G3 ((g1.trans g2).trans g3) (rp_bool _)
        | _ => simp [eChainF, e1, e2, e3] at q
end
/-- a op1 b op2 c op3 d -/
def tChain3 (r r' r2 : R2) (ta tb tc td : TE) : TE := fun σ H Q => ta σ H fun x H1 => tb σ H1 fun y H2 => r x y H2 fun z H3 => ∃ k, z = .bl k ∧
  (if k = true then tc σ H3 fun w' H4 => r' y w' H4 (fun z H5 => ∃ k, z = .bl k ∧ (if k = true then td σ H5 fun w2 H6 => r2 w' w2 H6 Q else Q (.bl false) H5)) else Q (.bl false) H3)
theorem pe_chain3 {X : Cx} {a b c d : Expr} {ta tb tc td : TE} {r r' r2 : R2} {pos : Pos} {op op' op2 : CmpOp} (ho : OpR X (compareOp op) r) (ho' : OpR X (compareOp op') r') (ho2 : OpR X (compareOp op2) r2) (ha : PE X a ta) (hb : PE X b tb) (hc : PE X c tc) (hd : PE X d td)
    (hm : lastMarks [op, op', op2] [b, c, d] = false := by with_unfolding_all rfl) : PE X (.Compare a [op, op', op2] [b, c, d] pos) (tChain3 r r' r2 ta tb tc td) := by
  refine ⟨fun pins s σ H Q I h => ?_⟩
  refine Compare_chain (thn (ha.run pins s σ H _ I h) fun v s1 ⟨x, H1, I1, r1, q1⟩ => chain_link (thn (hb.run pins s1 σ H1 _ I1 q1) fun u s2 ⟨y, H2, I2, r2, q2⟩ =>
    thn (ho pins s2 σ H2 x y v u _ I2 r1 r2 q2) fun d s3 ⟨z, H3, I3, r3, k, e, q3⟩ => ?_)) hm
  subst e
  cases r3
  refine wpAny_truthy_bool ?_
  cases k with
  | false => exact ite_ff ⟨.bl false, H3, I3, rfl, q3⟩
  | true =>
    refine ite_tt (chain_link (thn (hc.run pins s3 σ H3 _ I3 q3) fun w' s4 ⟨z', H4, I4, r4, q4⟩ => thn (ho' pins s4 σ H4 y z' u w' _ I4 r2 r4 q4) fun d2 s5 ⟨zz, H5, I5, r5, k2, e2, q5⟩ => ?_))
    subst e2
    cases r5
    refine wpAny_truthy_bool ?_
    cases k2 with
    | false => exact ite_ff ⟨.bl false, H5, I5, rfl, q5⟩
    | true => exact ite_tt (chain_last (thn (hd.run pins s5 σ H5 _ I5 q5) fun w2 s6 ⟨z2, H6, I6, r6, q6⟩ => ho2 pins s6 σ H6 z' z2 w' w2 Q I6 r4 r6 q6))
def eChain3F (g g' g2 : PyData → PyData → Option PyData) (f1 f2 f3 f4 : SE) : SE := fun ρ => (f1 ρ).bind fun x => (f2 ρ).bind fun y => (g x y).bind fun z => match z with
  | .bool true => (f3 ρ).bind fun u => (g' y u).bind fun z => match z with
    | .bool true => (f4 ρ).bind fun u2 => g2 u u2
    | .bool false => some (.bool false)
    | _ => none
  | .bool false => some (.bool false)
  | _ => none
theorem chain3_ok {K : PySem.W.Frag} {B : Bs} {t1 t2 t3 t4 : TE} {f1 f2 f3 f4 : SE} {r r' r2 : R2} {gg gg' gg2 : PyData → PyData → Option PyData} (o1 : OpS K r gg) (o2 : OpS K r' gg') (o3 : OpS K r2 gg2) (k1 : BOk K B t1 f1) (k2 : BOk K B t2 f2) (k3 : BOk K B t3 f3) (k4 : BOk K B t4 f4) :
    EOk K B (tChain3 r r' r2 t1 t2 t3 t4) (eChain3F gg gg' gg2 f1 f2 f3 f4) := fun R F H σ ρ d E q Q kk => by
  cases e1 : f1 ρ with
  | none => simp [eChain3F, e1] at q
  | some x =>
    cases e2 : f2 ρ with
    | none => simp [eChain3F, e1, e2] at q
    | some y =>
      cases e3 : gg x y with
      | none => simp [eChain3F, e1, e2, e3] at q
      | some z =>
        cases z with
        | bool c =>
          refine k1 _ F H σ ρ x E e1 _ fun v H1 G1 g1 b1 => k2 _ G1 H1 σ ρ y (E.grow g1) e2 _ fun u H2 G2 g2 b2 => o1 G2 H2 v u x y _ g2.sub (b1.mono g2.f g2.h) b2 e3 _ fun w H3 G3 g3 r3 => ⟨c, r3.bl, ?_⟩
          cases c with
          | true =>
            cases e4 : f3 ρ with
            | none => simp [eChain3F, e1, e2, e3, e4] at q
            | some u' =>
              cases e5 : gg' y u' with
              | none => simp [eChain3F, e1, e2, e3, e4, e5] at q
              | some z5 =>
                cases z5 with
                | bool c5 =>
                  show t3 σ H3 _
                  refine k3 _ G3 H3 σ ρ u' (((E.grow g1).grow g2).grow g3) e4 _ fun w' H4 G4 g4 b4 => o2 G4 H4 u w' y u' _ g4.sub (b2.mono (g3.f.trans g4.f) (g3.h.trans g4.h)) b4 e5 _ fun z H5 G5 g5 r5 => ⟨c5, r5.bl, ?_⟩
                  have gA := (((g1.trans g2).trans g3).trans g4).trans g5
                  cases c5 with
                  | true =>
                    cases e6 : f4 ρ with
                    | none => simp [eChain3F, e1, e2, e3, e4, e5, e6] at q
                    | some u2 =>
                      have q' : gg2 u' u2 = some d := by simpa [eChain3F, e1, e2, e3, e4, e5, e6] using q
                      show t4 σ H5 _
                      exact k4 _ G5 H5 σ ρ u2 (E.grow gA) e6 _ fun w6 H6 G6 g6 b6 => o3 G6 H6 w' w6 u' u2 d g6.sub (b4.mono (g5.f.trans g6.f) (g5.h.trans g6.h)) b6 q' Q fun z H7 G7 g7 r7 => kk z H7 G7 ((gA.trans g6).trans g7) r7
                  | false =>
                    have q' : d = .bool false := by simpa [eChain3F, e1, e2, e3, e4, e5] using q.symm
                    subst q'
                    show Q (.bl false) H5
                    exact kk _ H5 G5 gA (rp_bool _)
                | _ => simp [eChain3F, e1, e2, e3, e4, e5] at q
          | false =>
            have q' : d = .bool false := by simpa [eChain3F, e1, e2, e3] using q.symm
            subst q'
            show Q (.bl false) H3
            exact kk _ H3 G3 ((g1.trans g2).trans g3) (rp_bool _)
        | _ => simp [eChain3F, e1, e2, e3] at q

/-! ### what is walked -/
structure WalksD (K : PySem.W.Frag) (Al : Hp → Hp → Prop) (J : It) (ds : List PyData) : Prop where
  go : ∀ i G' H', Al G' H' → i < ds.length → J.go i H'
  yld : ∀ i G' H' x H'' d, Al G' H' → ds[i]? = some d → J.yld i H' x H'' → ∃ G'', Grow H' G' H'' G'' ∧ Rp K G'' x d
  stop : ∀ G' H', Al G' H' → J.stop ds.length H'
/-- over data that stand | over data that are read for a moment (nothing is changed meanwhile) -/
def IOk (K : PySem.W.Frag) (B : Bs) (wi : TI) (f : SA) : Prop := ∀ (R : Rg) (F H : Hp) (σ : L2.St) (ρ : Rho) (ds : List PyData), EnvOk K B R F H σ ρ → f ρ = some ds → ∀ R : It → Hp → Prop,
  (∀ J H1 G1, Grow H F H1 G1 → WalksD K (fun G' H' => Same G1 G' ∧ Same G' H') J ds → R J H1) → wi σ H R
def IBOk (K : PySem.W.Frag) (B : Bs) (wi : TI) (f : SA) : Prop := ∀ (R : Rg) (F H : Hp) (σ : L2.St) (ρ : Rho) (ds : List PyData), EnvOk K B R F H σ ρ → f ρ = some ds → ∀ R : It → Hp → Prop,
  (∀ J H1 G1, Grow H F H1 G1 → WalksD K (fun G' H' => Same G1 G' ∧ Same G' H' ∧ Same H1 H') J ds → R J H1) → wi σ H R
theorem WalksD.imp {K : PySem.W.Frag} {Al Al' : Hp → Hp → Prop} {J : It} {ds : List PyData} (h : WalksD K Al J ds) (hi : ∀ G' H', Al' G' H' → Al G' H') : WalksD K Al' J ds :=
  ⟨fun i G' H' a => h.go i G' H' (hi _ _ a), fun i G' H' x H'' d a => h.yld i G' H' x H'' d (hi _ _ a), fun G' H' a => h.stop G' H' (hi _ _ a)⟩
theorem IOk.b {K : PySem.W.Frag} {B : Bs} {wi : TI} {f : SA} (h : IOk K B wi f) : IBOk K B wi f := fun R F H σ ρ ds E q R k => h _ F H σ ρ ds E q R fun J H1 G1 g1 w => k J H1 G1 g1 (w.imp fun G' H' a => ⟨a.1, a.2.1⟩)
def iL (f : SE) : SA := fun ρ => (f ρ).bind fun d => match d with
  | .list ds => if ds.length ≤ LIM then some ds else none
  | _ => none
def iT (f : SE) : SA := fun ρ => (f ρ).bind fun d => match d with
  | .tuple ds => if ds.length ≤ LIM then some ds else none
  | _ => none
def signsD (z : Str) : List PyData := z.cps.toList.map fun c => .str ⟨#[c]⟩
def iS (f : SE) : SA := fun ρ => (f ρ).bind fun d => match d with
  | .str z => if z.length ≤ LIM then some (signsD z) else none
  | _ => none
def rangeD (lo : Int) (n : Nat) : List PyData := (List.range n).map fun i => .int (lo + (i : Nat))
def iR1 (f : SA) : SA := fun ρ => (f ρ).bind fun ds => match ds with
  | [.int j] => if j ≤ 1000000 ∧ -1000000 ≤ j then some (rangeD 0 j.toNat) else none
  | _ => none
def iR2 (f : SA) : SA := fun ρ => (f ρ).bind fun ds => match ds with
  | [.int i, .int j] => if (j ≤ 1000000 ∧ -1000000 ≤ j) ∧ i ≤ 1000000 ∧ -1000000 ≤ i then some (rangeD i (j - i).toNat) else none
  | _ => none
def enumD : Nat → List PyData → List PyData
  | _, [] => []
  | n, d :: ds => .tuple [.int (n : Nat), d] :: enumD (n + 1) ds
def iE (f : SA) : SA := fun ρ => (f ρ).bind fun ds => match ds with
  | [.list es] => if es.length ≤ LIM then some (enumD 0 es) else none
  | _ => none
theorem enumD_get : ∀ (ds : List PyData) (n i : Nat), (enumD n ds)[i]? = (ds[i]?).map fun d => .tuple [.int ((n + i : Nat) : Nat), d]
  | [], n, i => by simp [enumD]
  | d :: ds, n, 0 => by simp [enumD]
  | d :: ds, n, i + 1 => by
    rw [enumD, List.getElem?_cons_succ, enumD_get ds (n + 1) i, List.getElem?_cons_succ]
    have e : n + 1 + i = n + (i + 1) := by omega
    rw [e]
theorem enumD_len : ∀ (ds : List PyData) (n : Nat), (enumD n ds).length = ds.length
  | [], n => rfl
  | d :: ds, n => by simp [enumD, enumD_len ds (n + 1)]
section
variable {K : PySem.W.Frag} {B : Bs} {t : TE} {ta : TA} {f : SE} {sa : SA}
theorem walks_list {G1 : Hp} {a : Addr} {vs : List V} {ds : List PyData} {Al : Hp → Hp → Prop} (hA : DqAll K G1 vs ds) (h1 : ∀ G' H', Al G' H' → H' a = some (.lst vs)) (h2 : ∀ G' H', Al G' H' → Same G1 G' ∧ Same G' H') : WalksD K Al (Itl K a) ds where
  go := fun i G' H' al hi => by
    obtain ⟨d, hd⟩ : ∃ d, ds[i]? = some d := ⟨ds[i], List.getElem?_eq_getElem hi⟩
    obtain ⟨v, hv, _⟩ := hA.get hd
    exact ⟨vs, v, .inl (.inl (h1 _ _ al)), hv⟩
  yld := fun i G' H' x H'' d al hd y => by
    obtain ⟨e, y⟩ := y
    subst e
    have hx := y vs (.inl (.inl (h1 _ _ al)))
    obtain ⟨d', hd', r⟩ := hA.getV hx
    rw [hd] at hd'; cases hd'
    exact ⟨G', Grow.refl (h2 _ _ al).2, .inl (dpa_mono' (h2 _ _ al).1 r)⟩
  stop := fun G' H' al => ⟨vs, .inl (.inl (h1 _ _ al)), by rw [hA.len]; exact Nat.le_refl _⟩
where dpa_mono' {F G : Hp} (e : Same F G) {v : V} {d : PyData} (h : Dq K F v d) : Dq K G v d := dp_mono e d h
theorem iListB_ok (h : BOk K B t f) : IBOk K B (iList K t) (iL f) := fun R F H σ ρ ds E q R k => by
  cases e0 : f ρ with
  | none => simp [iL, e0] at q
  | some d =>
    cases d with
    | list es =>
      simp only [iL, e0, Option.bind_some] at q
      split at q
      · cases q
        refine h _ F H σ ρ _ E e0 _ fun v H1 G1 g1 b1 => ?_
        obtain ⟨p, vs, rfl, hR, hA⟩ := b1.list g1.sub
        exact ⟨p, rfl, ⟨vs, .inl (.inl hR)⟩, k _ H1 G1 g1 (walks_list hA (fun G' H' al => al.2.2 _ _ hR) fun G' H' al => ⟨al.1, al.2.1⟩)⟩
      · cases q
    | _ => simp [iL, e0] at q
theorem iList_ok (h : EOk K B t f) : IOk K B (iList K t) (iL f) := fun R F H σ ρ ds E q R k => by
  cases e0 : f ρ with
  | none => simp [iL, e0] at q
  | some d =>
    cases d with
    | list es =>
      simp only [iL, e0, Option.bind_some] at q
      split at q
      · cases q
        refine h _ F H σ ρ _ E e0 _ fun v H1 G1 g1 r1 => ?_
        have r2 := r1.dp
        cases r2 with
        | lst hR hA => exact ⟨_, rfl, ⟨_, .inl (.inl (g1.sub _ _ hR))⟩, k _ H1 G1 g1 (walks_list hA (fun G' H' al => (al.1.trans al.2) _ _ hR) fun G' H' al => al)⟩
      · cases q
    | _ => simp [iL, e0] at q
theorem iTup_ok (h : EOk K B t f) : IOk K B (iTup K t) (iT f) := fun R F H σ ρ ds E q R k => by
  cases e0 : f ρ with
  | none => simp [iT, e0] at q
  | some d =>
    cases d with
    | tuple es =>
      simp only [iT, e0, Option.bind_some] at q
      split at q
      · cases q
        refine h _ F H σ ρ _ E e0 _ fun v H1 G1 g1 r1 => ?_
        have r2 := r1.dp
        cases r2 with
        | @tup a vs _ hR hA =>
          refine ⟨a, rfl, ⟨vs, same_t g1.sub hR⟩, k _ H1 G1 g1 ⟨fun i G' H' al hi => ?_, fun i G' H' x H'' d al hd y => ?_, fun G' H' al => ⟨vs, same_t (al.1.trans al.2) hR, by rw [hA.len]; exact Nat.le_refl _⟩⟩⟩
          · obtain ⟨d, hd⟩ : ∃ d, ds[i]? = some d := ⟨ds[i], List.getElem?_eq_getElem hi⟩
            obtain ⟨v, hv, _⟩ := hA.get hd
            exact ⟨vs, v, same_t (al.1.trans al.2) hR, hv⟩
          · obtain ⟨e, y⟩ := y
            subst e
            have hx := y vs (same_t (al.1.trans al.2) hR)
            obtain ⟨d', hd', r⟩ := hA.getV hx
            rw [hd] at hd'; cases hd'
            exact ⟨G', Grow.refl al.2, .inl (dp_mono al.1 d r)⟩
      · cases q
    | _ => simp [iT, e0] at q
theorem iStr_ok (h : EOk K B t f) : IOk K B (iStr t) (iS f) := fun R F H σ ρ ds E q R k => by
  cases e0 : f ρ with
  | none => simp [iS, e0] at q
  | some d =>
    cases d with
    | str z =>
      simp only [iS, e0, Option.bind_some] at q
      split at q
      · cases q
        refine h _ F H σ ρ _ E e0 _ fun v H1 G1 g1 r1 => ?_
        have hl : (signsD z).length = z.cps.size := by simp [signsD]
        refine ⟨z, Bp.str (H := G1) (.inl r1), k _ H1 G1 g1 ⟨fun i G' H' al hi => by rw [hl] at hi; exact hi, fun i G' H' x H'' d al hd y => ?_, fun G' H' al => by rw [hl]; exact Nat.le_refl _⟩⟩
        obtain ⟨e, c, hc, rfl⟩ := y
        subst e
        refine ⟨G', Grow.refl al.2, ?_⟩
        have ec : z.cps.toList[i]? = some c := by simpa using hc
        have : d = .str ⟨#[c]⟩ := by
          unfold signsD at hd
          rw [List.getElem?_map, ec] at hd
          exact (Option.some.inj hd).symm
        rw [this]
        exact rp_str _
      · cases q
    | _ => simp [iS, e0] at q
theorem walks_range {Al : Hp → Hp → Prop} (lo : Int) (n : Nat) (h2 : ∀ G' H', Al G' H' → Same G' H') : WalksD K Al (Itr lo n) (rangeD lo n) where
  go := fun i G' H' al hi => by
    have h : i < n := by simpa [rangeD] using hi
    exact h
  yld := fun i G' H' x H'' d al hd y => by
    obtain ⟨e, y⟩ := y
    subst e
    subst y
    refine ⟨G', Grow.refl (h2 _ _ al), ?_⟩
    unfold rangeD at hd
    rw [List.getElem?_map] at hd
    cases hr : (List.range n)[i]? with
    | none => rw [hr] at hd; cases hd
    | some j =>
      have hi : i < n := by
        have := (List.getElem?_eq_some_iff.mp hr).1
        simpa using this
      have hj : j = i := by rw [List.getElem?_range hi] at hr; exact (Option.some.inj hr).symm
      rw [hr] at hd
      cases hd
      rw [hj]
      exact rp_int _
  stop := fun G' H' al => by simp [rangeD, Itr]
theorem ABOk.ints1 {F H : Hp} {σ : L2.St} {ρ : Rho} {i : Int} (h : ABOk K B ta sa) (E : EnvOk K B R F H σ ρ) (q : sa ρ = some [.int i]) {Q : List V → Hp → Prop} (k : ∀ H' G, Grow H F H' G → Q [.int i] H') : ta σ H Q :=
  h _ F H σ ρ _ E q Q fun vs H' G g b => by
    obtain ⟨x, rfl, b1⟩ := b.one
    cases b1.int
    exact k H' G g
theorem iRng1_ok (h : ABOk K B ta sa) : IOk K B (iRng1 ta) (iR1 sa) := fun R F H σ ρ ds E q R k => by
  cases e0 : sa ρ with
  | none => simp [iR1, e0] at q
  | some es =>
    match es, e0, q with
    | [.int j], e0, q =>
      simp only [iR1, e0, Option.bind_some] at q
      split at q
      · rename_i hj
        cases q
        exact h.ints1 E e0 fun H1 G1 g1 => ⟨j, rfl, by omega, by omega, k _ H1 G1 g1 (walks_range _ _ fun G' H' al => al.2)⟩
      · cases q
    | [], e0, q => simp [iR1, e0] at q
    | .none :: _, e0, q => simp [iR1, e0] at q
    | .bool _ :: _, e0, q => simp [iR1, e0] at q
    | .str _ :: _, e0, q => simp [iR1, e0] at q
    | .list _ :: _, e0, q => simp [iR1, e0] at q
    | .tuple _ :: _, e0, q => simp [iR1, e0] at q
    | .dict _ :: _, e0, q => simp [iR1, e0] at q
    | .int _ :: _ :: _, e0, q => simp [iR1, e0] at q
theorem iR2_inv {ρ : Rho} {ds : List PyData} (q : iR2 sa ρ = some ds) : ∃ i j, sa ρ = some [.int i, .int j] ∧ ((j ≤ 1000000 ∧ -1000000 ≤ j) ∧ i ≤ 1000000 ∧ -1000000 ≤ i) ∧ ds = rangeD i (j - i).toNat := by
  unfold iR2 at q
  cases e0 : sa ρ with
  | none => simp [e0] at q
  | some es =>
    rw [e0, Option.bind_some] at q
    split at q
    · rename_i i j
      split at q
      · rename_i hc
        cases q
        exact ⟨i, j, rfl, hc, rfl⟩
      · cases q
    · cases q
theorem iRng2_ok (h : ABOk K B ta sa) : IOk K B (iRng2 ta) (iR2 sa) := fun R F H σ ρ ds E q R k => by
  obtain ⟨i, j, e0, hc, rfl⟩ := iR2_inv q
  refine h _ F H σ ρ _ E e0 _ fun vs H1 G1 g1 b => ?_
  obtain ⟨x, y, rfl, b1, b2⟩ := b.two
  cases b1.int
  cases b2.int
  exact ⟨i, j, rfl, by omega, k _ H1 G1 g1 (walks_range _ _ fun G' H' al => al.2)⟩
theorem iE_inv {ρ : Rho} {ds : List PyData} (q : iE sa ρ = some ds) : ∃ es, sa ρ = some [.list es] ∧ ds = enumD 0 es := by
  unfold iE at q
  cases e0 : sa ρ with
  | none => simp [e0] at q
  | some es =>
    rw [e0, Option.bind_some] at q
    split at q
    · rename_i fs
      split at q
      · cases q
        exact ⟨fs, rfl, rfl⟩
      · cases q
    · cases q
theorem RpAll.one {F : Hp} {vs : List V} {a : PyData} (h : RpAll K F vs [a]) : ∃ x, vs = [x] ∧ Rp K F x a := by
  cases h with
  | cons h1 h2 =>
    cases h2
    exact ⟨_, rfl, h1⟩
theorem iEnum_ok (h : AOk K B ta sa) : IOk K B (iEnum K ta) (iE sa) := fun R F H σ ρ ds E q R k => by
  obtain ⟨es, e0, rfl⟩ := iE_inv q
  refine h _ F H σ ρ _ E e0 _ fun ws H1 G1 g1 b => ?_
  obtain ⟨x, rfl, b1⟩ := b.one
  have r2 := b1.dp
  cases r2 with
  | @lst a vs _ hR hA =>
    refine ⟨a, vs, rfl, .inl (.inl (g1.sub _ _ hR)), k _ H1 G1 g1 ⟨fun i G' H' al hi => ?_, fun i G' H' x H'' d al hd y => ?_, fun G' H' al => ⟨vs, .inl (.inl ((al.1.trans al.2) _ _ hR)), by rw [hA.len, enumD_len]; exact Nat.le_refl _⟩⟩⟩
    · rw [enumD_len] at hi
      obtain ⟨d, hd⟩ : ∃ d, es[i]? = some d := ⟨es[i], List.getElem?_eq_getElem hi⟩
      obtain ⟨v, hv, _⟩ := hA.get hd
      exact ⟨vs, v, .inl (.inl ((al.1.trans al.2) _ _ hR)), hv⟩
    · obtain ⟨T, v, rfl, hT, rfl, y⟩ := y
      have hx := y vs (.inl (.inl ((al.1.trans al.2) _ _ hR)))
      obtain ⟨d', hd', r⟩ := hA.getV hx
      rw [enumD_get, hd'] at hd
      have hd2 : d = .tuple [.int ((0 + i : Nat) : Nat), d'] := (Option.some.inj hd).symm
      have e00 : 0 + i = i := Nat.zero_add i
      rw [e00] at hd2
      subst hd2
      refine ⟨_, (Grow.refl al.2).new hT, .inl (.tup (.inl (.inl upd_same)) (.cons (.int _) (.cons ?_ .nil)))⟩
      exact dp_mono (al.1.trans (Same.upd_new (Same.refl G') (al.2.free hT))) d' r
end
end RT
namespace RT
open PySem PySem.Spec PyProof.Rows L2
/-! ### a comprehension: one name, its slot j -/
def lcF (j : Nat) (tst : STe) (el : SE) (ρ : Rho) : List PyData → Option (List PyData)
  | [] => some []
  | d :: ds => (tst (ρ.set j (.val d))).bind fun b =>
    if b = true then (el (ρ.set j (.val d))).bind fun e => if dataD e = true then (lcF j tst el ρ ds).map (e :: ·) else none
    else lcF j tst el ρ ds
def lLc (src : SA) (j : Nat) (tst : STe) (el : SE) : SA := fun ρ => (src ρ).bind fun ds => if ds.length ≤ LIM then lcF j tst el ρ ds else none
def tYesF : STe := fun _ => some true
theorem yes_ok {K : PySem.W.Frag} {B : Bs} : TOk K B tYes tYesF := fun R F H σ ρ b E q Q k => by
  cases q
  exact k H F (Grow.refl E.ex)
theorem EnvOk.setV {K : PySem.W.Frag} {B : Bs} {R : Rg} {F H : Hp} {σ : L2.St} {ρ : Rho} {v : V} {d : PyData} (E : EnvOk K B R F H σ ρ) (j : Nat) (r : Rp K F v d) : EnvOk K B R F H (σ.set j (some v)) (ρ.set j (.val d)) where
  bs := E.bs
  bh := E.bh
  bF := E.bF
  bo := E.bo
  rh := E.rh
  rF := E.rF
  rB := E.rB
  rr := E.rr
  obj := fun i o h => by
    by_cases hij : j = i
    · subst hij
      by_cases hj : j < ρ.length
      · rw [List.getElem?_set_self hj] at h
        cases h
      · rw [List.getElem?_eq_none (by simpa using hj)] at h
        cases h
    · rw [List.getElem?_set_ne hij] at h ⊢
      exact E.obj i o h
  oa := fun a0 q o a h h2 => by
    by_cases hij : j = 0
    · subst hij
      by_cases hj : 0 < ρ.length
      · rw [List.getElem?_set_self hj] at h
        cases h
      · rw [List.getElem?_eq_none (by simpa using hj)] at h
        cases h
    · rw [List.getElem?_set_ne hij] at h h2
      exact E.oa a0 q o a h h2
  ex := E.ex
  len := by simp [E.len]
  val := fun i d' h => by
    by_cases hij : j = i
    · subst hij
      by_cases hj : j < ρ.length
      · rw [List.getElem?_set_self hj] at h
        cases h
        exact ⟨v, by rw [List.getElem?_set_self (by rw [← E.len]; exact hj)], r⟩
      · rw [List.getElem?_eq_none (by simpa using hj)] at h
        cases h
    · rw [List.getElem?_set_ne hij] at h ⊢
      exact E.val i d' h
  own := fun i ds h => by
    by_cases hij : j = i
    · subst hij
      by_cases hj : j < ρ.length
      · rw [List.getElem?_set_self hj] at h
        cases h
      · rw [List.getElem?_eq_none (by simpa using hj)] at h
        cases h
    · rw [List.getElem?_set_ne hij] at h ⊢
      exact E.own i ds h
  dis := fun i k ds es p hik h1 h2 h3 h4 => by
    by_cases hij : j = i
    · subst hij
      by_cases hj : j < ρ.length
      · rw [List.getElem?_set_self hj] at h1
        cases h1
      · rw [List.getElem?_eq_none (by simpa using hj)] at h1
        cases h1
    · by_cases hkj : j = k
      · subst hkj
        by_cases hj : j < ρ.length
        · rw [List.getElem?_set_self hj] at h2
          cases h2
        · rw [List.getElem?_eq_none (by simpa using hj)] at h2
          cases h2
      · rw [List.getElem?_set_ne hij] at h1 h3
        rw [List.getElem?_set_ne hkj] at h2 h4
        exact E.dis i k ds es p hik h1 h2 h3 h4
theorem EnvOk.setN {K : PySem.W.Frag} {B : Bs} {R : Rg} {F H : Hp} {σ : L2.St} {ρ : Rho} (E : EnvOk K B R F H σ ρ) (j : Nat) (o : Option V) : EnvOk K B R F H (σ.set j o) (ρ.set j .no) where
  bs := E.bs
  bh := E.bh
  bF := E.bF
  bo := E.bo
  rh := E.rh
  rF := E.rF
  rB := E.rB
  rr := E.rr
  obj := fun i o h => by
    by_cases hij : j = i
    · subst hij
      by_cases hj : j < ρ.length
      · rw [List.getElem?_set_self hj] at h
        cases h
      · rw [List.getElem?_eq_none (by simpa using hj)] at h
        cases h
    · rw [List.getElem?_set_ne hij] at h ⊢
      exact E.obj i o h
  oa := fun a0 q o a h h2 => by
    by_cases hij : j = 0
    · subst hij
      by_cases hj : 0 < ρ.length
      · rw [List.getElem?_set_self hj] at h
        cases h
      · rw [List.getElem?_eq_none (by simpa using hj)] at h
        cases h
    · rw [List.getElem?_set_ne hij] at h h2
      exact E.oa a0 q o a h h2
  ex := E.ex
  len := by simp [E.len]
  val := fun i d' h => by
    by_cases hij : j = i
    · subst hij
      by_cases hj : j < ρ.length
      · rw [List.getElem?_set_self hj] at h
        cases h
      · rw [List.getElem?_eq_none (by simpa using hj)] at h
        cases h
    · rw [List.getElem?_set_ne hij] at h ⊢
      exact E.val i d' h
  own := fun i ds h => by
    by_cases hij : j = i
    · subst hij
      by_cases hj : j < ρ.length
      · rw [List.getElem?_set_self hj] at h
        cases h
      · rw [List.getElem?_eq_none (by simpa using hj)] at h
        cases h
    · rw [List.getElem?_set_ne hij] at h ⊢
      exact E.own i ds h
  dis := fun i k ds es p hik h1 h2 h3 h4 => by
    by_cases hij : j = i
    · subst hij
      by_cases hj : j < ρ.length
      · rw [List.getElem?_set_self hj] at h1
        cases h1
      · rw [List.getElem?_eq_none (by simpa using hj)] at h1
        cases h1
    · by_cases hkj : j = k
      · subst hkj
        by_cases hj : j < ρ.length
        · rw [List.getElem?_set_self hj] at h2
          cases h2
        · rw [List.getElem?_eq_none (by simpa using hj)] at h2
          cases h2
      · rw [List.getElem?_set_ne hij] at h1 h3
        rw [List.getElem?_set_ne hkj] at h2 h4
        exact E.dis i k ds es p hik h1 h2 h3 h4
theorem wipe1 (σ : L2.St) (j : Nat) : wipe σ [j] = σ.set j none := rfl
theorem wipe_back (σ : L2.St) (j : Nat) (o : Option V) : wipe ((wipe σ [j]).set j o) [j] = wipe σ [j] := by
  show ((σ.set j none).set j o).set j none = σ.set j none
  rw [List.set_set, List.set_set]
theorem drop_cons_of {α : Type} : ∀ {l : List α} {i : Nat} {x : α}, l[i]? = some x → l.drop i = x :: l.drop (i + 1)
  | [], i, x, h => by simp at h
  | a :: l, 0, x, h => by simp at h; subst h; rfl
  | a :: l, i + 1, x, h => by
    show l.drop i = x :: l.drop (i + 1)
    exact drop_cons_of (by simpa using h)
theorem lc_ok {K : PySem.W.Frag} {B : Bs} {wi : TI} {src : SA} {j : Nat} {tt : TT} {te : TE} {tst : STe} {el : SE} (hi : IBOk K B wi src) (ht : TOk K B tt tst) (he : EOk K B te el) : LOk K B (tLc wi (gName j) tt te [j]) (lLc src j tst el) := fun R F H σ ρ out E q Q k => by
  cases e0 : src ρ with
  | none => simp [lLc, e0] at q
  | some ds =>
    simp only [lLc, e0, Option.bind_some] at q
    split at q
    · rename_i hlen
      refine hi _ F H σ ρ ds E e0 _ fun J H1 G1 g1 w D hD => ?_
      have E1 : EnvOk K B R G1 H1 σ ρ := E.grow g1
      have hG1 : G1 D = none := g1.sub.free hD
      -- W: the turn, the measure, what the new list holds
      refine ⟨fun i m H' => m = ds.length - i ∧ i ≤ ds.length ∧ ∃ (G' : Hp) (acc : List V) (es rest : List PyData), Grow H1 G1 H' G' ∧ G' D = none ∧ H' D = some (.lst acc) ∧ DqAll K G' acc es ∧ acc.length ≤ i ∧ lcF j tst el ρ (ds.drop i) = some rest ∧ out = es ++ rest,
        ⟨ds.length, by simp, Nat.zero_le _, G1, [], [], out, (Grow.refl g1.sub).beside hD, hG1, upd_same, .nil, Nat.le_refl _, q, rfl⟩, ?_⟩
      rintro i m H' ⟨rfl, hile, G', acc, es, rest, g', hD', hacc, hA, hal, hr, hout⟩
      have al : Same G1 G' ∧ Same G' H' ∧ Same H1 H' := ⟨g'.f, g'.sub, g'.h⟩
      by_cases hlt : i < ds.length
      · refine .inr ⟨w.go i G' H' al hlt, fun H2 => ∃ m', m' < ds.length - i ∧ (m' = ds.length - (i + 1) ∧ i + 1 ≤ ds.length ∧ ∃ (G' : Hp) (acc : List V) (es rest : List PyData), Grow H1 G1 H2 G' ∧ G' D = none ∧ H2 D = some (.lst acc) ∧ DqAll K G' acc es ∧ acc.length ≤ i + 1 ∧ lcF j tst el ρ (ds.drop (i + 1)) = some rest ∧ out = es ++ rest),
          fun H2 h => h, fun x H2 y => ?_⟩
        have hd : ds[i]? = some ds[i] := List.getElem?_eq_getElem hlt
        obtain ⟨G2, g2, r2⟩ := w.yld i G' H' x H2 _ al hd y
        rw [drop_cons_of hd] at hr
        have E2 : EnvOk K B R G2 H2 ((wipe σ [j]).set j (some x)) (ρ.set j (.val ds[i])) := by
          have z := (((E1.grow g').grow g2).setN j none).setV j r2
          have e : (ρ.set j .no).set j (.val ds[i]) = ρ.set j (.val ds[i]) := List.set_set ..
          rw [e] at z
          exact z
        have nD : ∀ {H3 G3 : Hp}, Grow H2 G2 H3 G3 → G3 D = none ∧ H3 D = some (.lst acc) := fun g3 => by
          have z : Grow H' G' _ _ := g2.trans g3
          exact ⟨z.no D hD' (by rw [hacc]; intro z; cases z), z.h _ _ hacc⟩
        refine ⟨wipe_back σ j (some x), ?_⟩
        cases et : tst (ρ.set j (.val ds[i])) with
        | none => simp [lcF, et] at hr
        | some b =>
          refine ht _ G2 H2 _ _ b E2 et _ fun H3 G3 g3 => ?_
          cases b with
          | false =>
            have hr' : lcF j tst el ρ (ds.drop (i + 1)) = some rest := by simpa [lcF, et] using hr
            show ∃ m', _
            exact ⟨_, by omega, rfl, hlt, G3, acc, es, rest, (g'.trans g2).trans g3, (nD g3).1, (nD g3).2, dpa_mono (g2.f.trans g3.f) es hA, by omega, hr', hout⟩
          | true =>
            show te _ H3 _
            cases ee : el (ρ.set j (.val ds[i])) with
            | none => simp [lcF, et, ee] at hr
            | some e =>
              by_cases hde : dataD e = true
              · cases hrr : lcF j tst el ρ (ds.drop (i + 1)) with
                | none => simp [lcF, et, ee, hde, hrr] at hr
                | some rest' =>
                  have hr' : rest = e :: rest' := by simpa [lcF, et, ee, hde, hrr] using hr.symm
                  refine he _ G3 H3 _ _ e (E2.grow g3) ee _ fun y H4 G4 g4 r4 => ?_
                  have n4 := nD (g3.trans g4)
                  have gg := ((g'.trans g2).trans g3).trans g4
                  refine ⟨acc, n4.2, Nat.lt_of_lt_of_le (show acc.length < LIM + 1 by omega) (by decide), ds.length - (i + 1), by omega, rfl, hlt, G4, acc ++ [y], es ++ [e], rest', ⟨?_, gg.f, ?_, gg.no⟩, n4.1, upd_same, ?_, by rw [List.length_append]; simp; omega, rfl, by rw [hout, hr']; simp⟩
                  · intro b o z
                    rw [upd_ne (ne_of_none z hD)]
                    exact gg.h b o z
                  · intro b o z
                    rw [upd_ne (ne_of_none z n4.1)]
                    exact gg.sub b o z
                  · exact (dpa_mono ((g2.f.trans g3.f).trans g4.f) es hA).append (.cons (r4.dp (by rintro l rfl; cases hde)) .nil)
              · simp [lcF, et, ee, hde] at hr
      · have e : i = ds.length := by omega
        subst e
        rw [List.drop_length] at hr
        cases hr
        rw [List.append_nil] at hout
        subst hout
        exact .inl ⟨w.stop G' H' al, k D acc H' G' (g1.trans g') (g1.h.free hD) hD' hacc hA⟩
    · cases q
end RT
namespace RT
open PySem PySem.Spec PyProof.Rows L2
/-! ### statements -/
/-- where a function began: what it may change, the heap, the data -/
structure St0 where
  m : Hp
  h : Hp
  g : Hp
structure GrowM (Z : St0) (H F : Hp) : Prop where
  h : ∀ a o, Z.m a = none → Z.h a = some o → H a = some o
  al : ∀ a, Z.h a ≠ none → H a ≠ none
  f : Same Z.g F
  sub : Same F H
  no : ∀ a, Z.g a = none → Z.h a ≠ none → F a = none
theorem GrowM.grow {Z : St0} {H F H' G : Hp} (a : GrowM Z H F) (g : Grow H F H' G) : GrowM Z H' G where
  h := fun x o h1 h2 => g.h x o (a.h x o h1 h2)
  al := fun x h1 h2 => a.al x h1 (g.h.free h2)
  f := a.f.trans g.f
  sub := g.sub
  no := fun x h1 h2 => g.no x (a.no x h1 h2) (a.al x h2)
structure StOk (K : PySem.W.Frag) (B : Bs) (Z : St0) (R : Rg) (F H : Hp) (σ : L2.St) (ρ : Rho) : Prop where
  env : EnvOk K B R F H σ ρ
  gr : GrowM Z H F
  fr : ∀ (i : Nat) (ds : List PyData) (p : Addr), ρ[i]? = some (.own ds) → σ[i]? = some (some (.ref p)) → Z.h p = none
  fo : ∀ i a, R i a ≠ none → Z.m a ≠ none ∨ Z.h a = none
abbrev XW := Str → L2.St → Hp → Prop
/-- what is wanted of an outcome -/
def Goes (K : PySem.W.Frag) (B : Bs) (Z : St0) (F : Hp) (D : Ends) (W : XW) : Out → Prop
  | .no => False
  | .nx ρ => ∀ σ H R F', StOk K B Z R F' H σ ρ → Same F F' → D.nx σ H
  | .rt d ρ => ∀ v σ H R F', StOk K B Z R F' H σ ρ → Same F F' → Rp K F' v d → D.rt v H
  | .ex c ρ => ∀ σ H R F', StOk K B Z R F' H σ ρ → Same F F' → W c σ H
  | .ro i ρ => ∀ v σ H R F', StOk K B Z R F' H σ ρ → σ[i]? = some (some v) → Same F F' → D.rt v H
def SSOk (K : PySem.W.Frag) (B : Bs) (W : XW) (t : TS) (f : SS) : Prop := ∀ (Z : St0) (R : Rg) (F H : Hp) (σ : L2.St) (ρ : Rho) (D : Ends), StOk K B Z R F H σ ρ → Goes K B Z F D W (f ρ) → t D σ H
structure SemS (X : Cx) (K : PySem.W.Frag) (B : Bs) (W : XW) (st : Stmt) (t : TS) (f : SS) : Prop where
  ps : PS X st t
  ok : SSOk K B W t f
structure SemSs (X : Cx) (K : PySem.W.Frag) (B : Bs) (W : XW) (st : List Stmt) (t : TS) (f : SS) : Prop where
  ps : PSs X st t
  ok : SSOk K B W t f
def sSeq (f g : SS) : SS := fun ρ => match f ρ with
  | .no => .no
  | .nx r => g r
  | .rt d r => .rt d r
  | .ex c r => .ex c r
  | .ro i r => .ro i r
def sNext : SS := fun ρ => .nx ρ
def sSet (i : Nat) (f : SE) : SS := fun ρ => match f ρ with
  | some d => .nx (ρ.set i (.val d))
  | none => .no
def sSetL (i : Nat) (f : SA) : SS := fun ρ => match f ρ with
  | some ds => .nx (ρ.set i (.own ds))
  | none => .no
def sDrop (f : SE) : SS := fun ρ => match f ρ with
  | some _ => .nx ρ
  | none => .no
def sIf (t : STe) (f g : SS) : SS := fun ρ => match t ρ with
  | some true => f ρ
  | some false => g ρ
  | none => .no
def frz1 : Sl → Sl
  | .own ds => .val (.list ds)
  | s => s
def sRet (f : SE) : SS := fun ρ => match f (ρ.map frz1) with
  | some d => .rt d (ρ.map frz1)
  | none => .no
def sRetN : SS := fun ρ => .rt .none ρ
def sApp (i : Nat) (f : SE) : SS := fun ρ => match ρ[i]?, f ρ with
  | some (.own ds), some d => if dataD d = true ∧ ds.length ≤ LIM then .nx (ρ.set i (.own (ds ++ [d]))) else .no
  | _, _ => .no
def sPut (i : Nat) (ix f : SE) : SS := fun ρ => match ρ[i]?, f ρ, ix ρ with
  | some (.own ds), some d, some (.int k) => match ixN ds.length k with
    | some j => if dataD d = true then .nx (ρ.set i (.own (ds.set j d))) else .no
    | none => .no
  | _, _, _ => .no
def forF (tg : PyData → Rho → Option Rho) (body : SS) : List PyData → Rho → Out
  | [], ρ => .nx ρ
  | d :: ds, ρ => match tg d ρ with
    | none => .no
    | some r => match body r with
      | .no => .no
      | .nx r2 => forF tg body ds r2
      | .rt e r2 => .rt e r2
      | .ex c r2 => .ex c r2
      | .ro i r2 => .ro i r2
def sFor (src : SA) (tg : PyData → Rho → Option Rho) (body : SS) : SS := fun ρ => match src ρ with
  | some ds => forF tg body ds ρ
  | none => .no
def tg1 (j : Nat) : PyData → Rho → Option Rho := fun d ρ => some (ρ.set j (.val d))
def tg2 (i j : Nat) : PyData → Rho → Option Rho := fun d ρ => match d with
  | .tuple [a, b] => some ((ρ.set i (.val a)).set j (.val b))
  | _ => none

section
variable {K : PySem.W.Frag} {B : Bs} {Z : St0} {R : Rg} {F F' H : Hp} {W : XW} {σ : L2.St} {ρ : Rho} {D : Ends}
theorem Goes.mono {o : Out} (h : Goes K B Z F D W o) (e : Same F F') : Goes K B Z F' D W o := by
  cases o with
  | no => exact h
  | nx r => exact fun σ H R F2 s e2 => h σ H R F2 s (e.trans e2)
  | rt d r => exact fun v σ H R F2 s e2 r => h v σ H R F2 s (e.trans e2) r
  | ex c r => exact fun σ H R F2 s e2 => h σ H R F2 s (e.trans e2)
  | ro i r => exact fun v σ H R F2 s e1 e2 => h v σ H R F2 s e1 (e.trans e2)
theorem StOk.grow {G H' : Hp} (s : StOk K B Z R F H σ ρ) (g : Grow H F H' G) : StOk K B Z R G H' σ ρ := ⟨s.env.grow g, s.gr.grow g, s.fr, s.fo⟩
theorem StOk.setV {v : V} {d : PyData} (s : StOk K B Z R F H σ ρ) (j : Nat) (r : Rp K F v d) : StOk K B Z R F H (σ.set j (some v)) (ρ.set j (.val d)) :=
  ⟨s.env.setV j r, s.gr, fun i ds p h1 h2 => by
    by_cases hij : j = i
    · subst hij
      by_cases hj : j < ρ.length
      · rw [List.getElem?_set_self hj] at h1
        cases h1
      · rw [List.getElem?_eq_none (by simpa using hj)] at h1
        cases h1
    · rw [List.getElem?_set_ne hij] at h1 h2
      exact s.fr i ds p h1 h2, s.fo⟩
theorem next_ok : SSOk K B W tNext sNext := fun Z R F H σ ρ D s g => g σ H R F s (Same.refl F)
theorem seq_ok {t u : TS} {f g : SS} (k1 : SSOk K B W t f) (k2 : SSOk K B W u g) : SSOk K B W (tSeq t u) (sSeq f g) := fun Z R F H σ ρ D s hg => by
  refine k1 Z R F H σ ρ _ s ?_
  unfold sSeq at hg
  cases e : f ρ with
  | no => rw [e] at hg; exact hg
  | nx r =>
    rw [e] at hg
    exact fun σ' H' R' F' s' e' => k2 Z R' F' H' σ' r D s' (Goes.mono (o := g r) hg e')
  | rt d r => rw [e] at hg; exact hg
  | ex c r => rw [e] at hg; exact hg
  | ro i r => rw [e] at hg; exact hg
theorem set_ok {te : TE} {f : SE} (i : Nat) (k : EOk K B te f) : SSOk K B W (tAsg te (gName i)) (sSet i f) := fun Z R F H σ ρ D s hg => by
  unfold sSet at hg
  cases e : f ρ with
  | none => rw [e] at hg; exact hg.elim
  | some d =>
    rw [e] at hg
    exact k _ F H σ ρ d s.env e _ fun v H' G g r => hg _ H' R G ((s.grow g).setV i r) g.f
theorem StOk.setL {p : Addr} {vs : List V} {ds : List PyData} {H' G : Hp} (s : StOk K B Z R F H σ ρ) (g : Grow H F H' G) (j : Nat) (h1 : H p = none) (h2 : G p = none) (h3 : H' p = some (.lst vs)) (h4 : DqAll K G vs ds) :
    StOk K B Z R G H' (σ.set j (some (.ref p))) (ρ.set j (.own ds)) := by
  have s' := s.grow g
  have old : ∀ (i : Nat) (es : List PyData), ρ[i]? = some (.own es) → σ[i]? = some (some (.ref p)) → False := fun i es q1 q2 => by
    obtain ⟨p', vs', e1, e2, _⟩ := s.env.own i es q1
    rw [q2] at e1; cases e1
    rw [h1] at e2; cases e2
  refine ⟨⟨s'.env.bs, s'.env.bh, s'.env.bF, s'.env.bo, s'.env.ex, s'.env.rh, s'.env.rF, s'.env.rB, s'.env.rr, by simp [s'.env.len], fun i d h => ?_, fun i es h => ?_, fun i k es fs q hik q1 q2 q3 q4 => ?_, fun i o h => ?_, fun a0 q o a h h2 => ?_⟩, s'.gr, fun i es q q1 q2 => ?_, s.fo⟩
  · by_cases hij : j = i
    · subst hij
      by_cases hj : j < ρ.length
      · rw [List.getElem?_set_self hj] at h
        cases h
      · rw [List.getElem?_eq_none (by simpa using hj)] at h
        cases h
    · rw [List.getElem?_set_ne hij] at h ⊢
      exact s'.env.val i d h
  · by_cases hij : j = i
    · subst hij
      by_cases hj : j < ρ.length
      · rw [List.getElem?_set_self hj] at h
        cases h
        exact ⟨p, vs, by rw [List.getElem?_set_self (by rw [← s.env.len]; exact hj)], h3, h4, h2, fun i => (s.env.rh i).free h1, s.env.bh.free h1⟩
      · rw [List.getElem?_eq_none (by simpa using hj)] at h
        cases h
    · rw [List.getElem?_set_ne hij] at h ⊢
      exact s'.env.own i es h
  · by_cases hij : j = i
    · subst hij
      have hjl : j < ρ.length := by
        have := (List.getElem?_eq_some_iff.mp q1).1
        simpa using this
      rw [List.getElem?_set_self (by rw [← s.env.len]; exact hjl)] at q3
      cases q3
      rw [List.getElem?_set_ne hik] at q2 q4
      exact old k fs q2 q4
    · by_cases hkj : j = k
      · subst hkj
        have hjl : j < ρ.length := by
          have := (List.getElem?_eq_some_iff.mp q2).1
          simpa using this
        rw [List.getElem?_set_self (by rw [← s.env.len]; exact hjl)] at q4
        cases q4
        rw [List.getElem?_set_ne hij] at q1 q3
        exact old i es q1 q3
      · rw [List.getElem?_set_ne hij] at q1 q3
        rw [List.getElem?_set_ne hkj] at q2 q4
        exact s.env.dis i k es fs q hik q1 q2 q3 q4
  · by_cases hij : j = i
    · subst hij
      by_cases hj : j < ρ.length
      · rw [List.getElem?_set_self hj] at h
        cases h
      · rw [List.getElem?_eq_none (by simpa using hj)] at h
        cases h
    · rw [List.getElem?_set_ne hij] at h ⊢
      exact s'.env.obj i o h
  · by_cases hij : j = 0
    · subst hij
      by_cases hj : 0 < ρ.length
      · rw [List.getElem?_set_self hj] at h
        cases h
      · rw [List.getElem?_eq_none (by simpa using hj)] at h
        cases h
    · rw [List.getElem?_set_ne hij] at h h2
      exact s.env.oa a0 q o a h h2
  · by_cases hij : j = i
    · subst hij
      have hjl : j < ρ.length := by
        have := (List.getElem?_eq_some_iff.mp q1).1
        simpa using this
      rw [List.getElem?_set_self (by rw [← s.env.len]; exact hjl)] at q2
      cases q2
      cases z : Z.h p with
      | none => rfl
      | some u => exact absurd h1 (s.gr.al p (by rw [z]; intro q; cases q))
    · rw [List.getElem?_set_ne hij] at q1 q2
      exact s.fr i es q q1 q2
theorem setL_ok {te : TE} {f : SA} (i : Nat) (k : LOk K B te f) : SSOk K B W (tAsg te (gName i)) (sSetL i f) := fun Z R F H σ ρ D s hg => by
  unfold sSetL at hg
  cases e : f ρ with
  | none => rw [e] at hg; exact hg.elim
  | some ds =>
    rw [e] at hg
    exact k _ F H σ ρ ds s.env e _ fun p vs H' G g h1 h2 h3 h4 => hg _ H' R G (s.setL g i h1 h2 h3 h4) g.f
theorem drop_ok {te : TE} {f : SE} (k : EOk K B te f) : SSOk K B W (tDrop te) (sDrop f) := fun Z R F H σ ρ D s hg => by
  unfold sDrop at hg
  cases e : f ρ with
  | none => rw [e] at hg; exact hg.elim
  | some d =>
    rw [e] at hg
    exact k _ F H σ ρ d s.env e _ fun v H' G g r => hg _ H' R G (s.grow g) g.f
theorem ifS_ok {tc : TT} {t u : TS} {c : STe} {f g : SS} (k0 : TOk K B tc c) (k1 : SSOk K B W t f) (k2 : SSOk K B W u g) : SSOk K B W (tIfS tc t u) (sIf c f g) := fun Z R F H σ ρ D s hg => by
  unfold sIf at hg
  cases e : c ρ with
  | none => rw [e] at hg; exact hg.elim
  | some b =>
    rw [e] at hg
    refine k0 _ F H σ ρ b s.env e _ fun H' G g => ?_
    cases b with
    | true =>
      show t D σ H'
      exact k1 Z R G H' σ ρ D (s.grow g) (Goes.mono hg g.f)
    | false =>
      show u D σ H'
      exact k2 Z R G H' σ ρ D (s.grow g) (Goes.mono hg g.f)
/-- own lists become data -/
theorem StOk.frz (s : StOk K B Z R F H σ ρ) : ∃ F', Same F F' ∧ StOk K B Z R F' H σ (ρ.map frz1) := by
  classical
  let own : Addr → Prop := fun a => ∃ (i : Nat) (ds : List PyData), ρ[i]? = some (.own ds) ∧ σ[i]? = some (some (.ref a))
  have oF : ∀ a, own a → F a = none ∧ (∃ u, H a = some u) ∧ Z.h a = none ∧ (∀ i, R i a = none) ∧ B.h a = none := fun a ⟨i, ds, h1, h2⟩ => by
    obtain ⟨p, vs, e1, e2, e3, e4, e5, e6⟩ := s.env.own i ds h1
    rw [h2] at e1; cases e1
    exact ⟨e4, ⟨_, e2⟩, s.fr i ds a h1 h2, e5, e6⟩
  have sm : Same F (fun a => if own a then H a else F a) := fun a o h => by
    by_cases ho : own a
    · rw [(oF a ho).1] at h; cases h
    · show (if own a then H a else F a) = some o
      rw [if_neg ho]; exact h
  have sb : Same (fun a => if own a then H a else F a) H := fun a o h => by
    have h' : (if own a then H a else F a) = some o := h
    by_cases ho : own a
    · rw [if_pos ho] at h'; exact h'
    · rw [if_neg ho] at h'; exact s.env.ex a o h'
  have val2 : ∀ (i : Nat) (x : Sl), (ρ.map frz1)[i]? = some x → ∃ y, ρ[i]? = some y ∧ frz1 y = x := fun i x h => by
    rw [List.getElem?_map] at h
    cases e : ρ[i]? with
    | none => rw [e] at h; cases h
    | some y => rw [e] at h; exact ⟨y, rfl, Option.some.inj h⟩
  have noown : ∀ (i : Nat) (ds : List PyData), (ρ.map frz1)[i]? = some (.own ds) → False := fun i ds h => by
    obtain ⟨y, _, e⟩ := val2 i _ h
    cases y <;> cases e
  refine ⟨_, sm, ⟨s.env.bs.trans sm, s.env.bh, fun a ha => ?_, s.env.bo, sb, s.env.rh, fun i a ha => ?_, s.env.rB, s.env.rr, by simp [s.env.len], fun i d h => ?_, fun i ds h => (noown i ds h).elim, fun i j ds es p _ h _ _ _ => noown i ds h, fun i o h => ?_, fun a0 q o a h h2 => ?_⟩, ⟨s.gr.h, s.gr.al, s.gr.f.trans sm, sb, fun a h1 h2 => ?_⟩, fun i ds p h _ => (noown i ds h).elim, s.fo⟩
  · show (if own a then H a else F a) = none
    by_cases ho : own a
    · exact absurd (oF a ho).2.2.2.2 ha
    · rw [if_neg ho]; exact s.env.bF a ha
  · show (if own a then H a else F a) = none
    by_cases ho : own a
    · exact absurd ((oF a ho).2.2.2.1 i) ha
    · rw [if_neg ho]; exact s.env.rF i a ha
  · obtain ⟨y, hy, e⟩ := val2 i _ h
    cases y with
    | no => cases e
    | val d' =>
      cases e
      obtain ⟨v, e1, e2⟩ := s.env.val i d hy
      exact ⟨v, e1, e2.mono sm⟩
    | own ds =>
      cases e
      obtain ⟨p, vs, e1, e2, e3, e4, _⟩ := s.env.own i ds hy
      refine ⟨.ref p, e1, .inl (.lst ?_ (dpa_mono sm ds e3))⟩
      show (if own p then H p else F p) = some (.lst vs)
      rw [if_pos ⟨i, ds, hy, e1⟩]
      exact e2
    | obj o => cases e
  · obtain ⟨y, hy, e⟩ := val2 i _ h
    cases y with
    | no => cases e
    | val d' => cases e
    | own ds => cases e
    | obj o' =>
      cases e
      obtain ⟨a, e1, e2⟩ := s.env.obj i o hy
      exact ⟨a, e1, e2.mono sm (Same.refl (R i))⟩
  · obtain ⟨y, hy, e⟩ := val2 0 _ h
    cases y with
    | no => cases e
    | val d' => cases e
    | own ds => cases e
    | obj o' =>
      cases e
      exact s.env.oa a0 q o a hy h2
  · show (if own a then H a else F a) = none
    by_cases ho : own a
    · exact absurd (oF a ho).2.2.1 h2
    · rw [if_neg ho]
      exact s.gr.no a h1 h2
theorem ret_ok {te : TE} {f : SE} (k : EOk K B te f) : SSOk K B W (tRet te) (sRet f) := fun Z R F H σ ρ D s hg => by
  unfold sRet at hg
  obtain ⟨F', e1, s'⟩ := s.frz
  cases e : f (ρ.map frz1) with
  | none => rw [e] at hg; exact hg.elim
  | some d =>
    rw [e] at hg
    exact k _ F' H σ _ d s'.env e _ fun v H' G g r => hg v σ H' R G (s'.grow g) (e1.trans g.f) r
theorem retN_ok : SSOk K B W tRetN sRetN := fun Z R F H σ ρ D s hg => hg .non σ H R F s (Same.refl F) rp_non
/-- an own list changes -/
theorem StOk.upd {p : Addr} {vs : List V} {ds es : List PyData} (s : StOk K B Z R F H σ ρ) (j : Nat) (h1 : ρ[j]? = some (.own ds)) (h2 : σ[j]? = some (some (.ref p))) (h4 : DqAll K F vs es) :
    StOk K B Z R F (L2.upd H p (.lst vs)) σ (ρ.set j (.own es)) := by
  obtain ⟨p', vs', e1, e2, e3, e4, e5, e6⟩ := s.env.own j ds h1
  rw [h2] at e1; cases e1
  have hp := s.fr j ds p h1 h2
  have sub : Same F (L2.upd H p (.lst vs)) := fun a o h => by
    rw [upd_ne (ne_of_none h e4)]; exact s.env.ex a o h
  refine ⟨⟨s.env.bs, fun a o h => by rw [upd_ne (ne_of_none h e6)]; exact s.env.bh a o h, s.env.bF, s.env.bo, sub, fun i a o h => by rw [upd_ne (ne_of_none h (e5 i))]; exact s.env.rh i a o h, s.env.rF, s.env.rB, s.env.rr, by simp [s.env.len], fun i d h => ?_, fun i fs h => ?_, fun i k fs gs q hik q1 q2 q3 q4 => ?_, fun i o h => ?_, fun a0 q o a h hs => ?_⟩,
    ⟨fun a o h0 h => by rw [upd_ne (ne_of_none h hp)]; exact s.gr.h a o h0 h, fun a h0 => by
      by_cases ha : a = p
      · rw [ha, upd_same]; intro z; cases z
      · rw [upd_ne ha]; exact s.gr.al a h0, s.gr.f, sub, s.gr.no⟩, fun i fs q q1 q2 => ?_, s.fo⟩
  · by_cases hij : j = i
    · subst hij
      rw [List.getElem?_set_self (List.getElem?_eq_some_iff.mp h1).1] at h
      cases h
    · rw [List.getElem?_set_ne hij] at h
      exact s.env.val i d h
  · by_cases hij : j = i
    · subst hij
      rw [List.getElem?_set_self (List.getElem?_eq_some_iff.mp h1).1] at h
      cases h
      exact ⟨p, vs, h2, upd_same, h4, e4, e5, e6⟩
    · rw [List.getElem?_set_ne hij] at h
      obtain ⟨p2, vs2, g1, g2, g3, g4, g5⟩ := s.env.own i fs h
      refine ⟨p2, vs2, g1, ?_, g3, g4, g5⟩
      rw [upd_ne (fun z => s.env.dis i j fs ds p2 (Ne.symm hij) h h1 g1 (by rw [z]; exact h2))]
      exact g2
  · by_cases hij : j = i
    · subst hij
      rw [List.getElem?_set_ne hik] at q2
      exact s.env.dis j k ds gs q hik h1 q2 q3 q4
    · by_cases hkj : j = k
      · subst hkj
        rw [List.getElem?_set_ne hij] at q1
        exact s.env.dis i j fs ds q hik q1 h1 q3 q4
      · rw [List.getElem?_set_ne hij] at q1
        rw [List.getElem?_set_ne hkj] at q2
        exact s.env.dis i k fs gs q hik q1 q2 q3 q4
  · by_cases hij : j = i
    · subst hij
      rw [List.getElem?_set_self (List.getElem?_eq_some_iff.mp h1).1] at h
      cases h
    · rw [List.getElem?_set_ne hij] at h
      exact s.env.obj i o h
  · by_cases hij : j = 0
    · subst hij
      rw [List.getElem?_set_self (List.getElem?_eq_some_iff.mp h1).1] at h
      cases h
    · rw [List.getElem?_set_ne hij] at h
      exact s.env.oa a0 q o a h hs
  · by_cases hij : j = i
    · subst hij
      exact s.fr j ds q h1 q2
    · rw [List.getElem?_set_ne hij] at q1
      exact s.fr i fs q q1 q2
theorem app_okS {te : TE} {f : SE} (i : Nat) (k : EOk K B te f) : SSOk K B W (tDrop (tBM K "list" rAppend (tVar i) (tCons te tNil))) (sApp i f) := fun Z R F H σ ρ D s hg => by
  unfold sApp at hg
  split at hg
  · rename_i ds d h1 h2
    split at hg
    · rename_i hc
      obtain ⟨p, vs, e1, e2, e3, e4, _⟩ := s.env.own i ds h1
      refine ⟨.ref p, e1, .inl ⟨rfl, vs, .inl (.inl e2)⟩, ?_⟩
      refine k _ F H σ ρ d s.env h2 _ fun v H' G g r => ?_
      refine ⟨p, vs, v, rfl, rfl, g.h _ _ e2, Nat.lt_of_lt_of_le (show vs.length < LIM + 1 by rw [e3.len]; omega) (by decide), ?_⟩
      exact hg _ _ R G ((s.grow g).upd i h1 e1 ((dpa_mono g.f ds e3).append (.cons (r.dp (by rintro l rfl; cases hc.1)) .nil))) g.f
    · exact hg.elim
  · exact hg.elim
theorem put_okS {te tix : TE} {f ix : SE} (i : Nat) (k : EOk K B te f) (kx : EOk K B tix ix) : SSOk K B W (tAsg te (gSub (tVar i) tix rSetL)) (sPut i ix f) := fun Z R F H σ ρ D s hg => by
  unfold sPut at hg
  split at hg
  · rename_i ds d kk h1 h2 h3
    split at hg
    · rename_i j hj
      split at hg
      · rename_i hc
        obtain ⟨p, vs, e1, e2, e3, e4, _⟩ := s.env.own i ds h1
        refine k _ F H σ ρ d s.env h2 _ fun v H' G g r => ⟨.ref p, e1, ?_⟩
        refine kx _ G H' σ ρ _ (s.env.grow g) h3 _ fun u H2 G2 g2 r2 => ?_
        refine ⟨p, vs, kk, j, rfl, Bp.int (H := G2) (.inl r2), (g.trans g2).h _ _ e2, by rw [e3.len]; exact hj, ?_⟩
        exact hg _ _ R G2 (((s.grow g).grow g2).upd i h1 e1 ((dpa_mono (g.f.trans g2.f) ds e3).set ((r.mono g2.f).dp (by rintro l rfl; cases hc)) j)) (g.f.trans g2.f)
      · exact hg.elim
    · exact hg.elim
  · exact hg.elim
/-- a target -/
def TGOk (K : PySem.W.Frag) (g : TG) (tg : PyData → Rho → Option Rho) : Prop := ∀ (B : Bs) (Z : St0) (R : Rg) (F H : Hp) (σ : L2.St) (ρ ρ1 : Rho) (v : V) (d : PyData), StOk K B Z R F H σ ρ → Rp K F v d → tg d ρ = some ρ1 →
  ∀ Q : L2.St → Hp → Prop, (∀ σ1, StOk K B Z R F H σ1 ρ1 → Q σ1 H) → g v σ H Q
theorem tg1_ok (j : Nat) : TGOk K (gName j) (tg1 j) := fun B Z R F H σ ρ ρ1 v d s r q Q k => by
  cases q
  exact k _ (s.setV j r)
theorem tg2_ok (i j : Nat) : TGOk K (gTup K 2 (gCons (gName i) (gCons (gName j) gNil))) (tg2 i j) := fun B Z R F H σ ρ ρ1 v d s r q Q k => by
  unfold tg2 at q
  split at q
  · rename_i a b
    cases q
    have r2 := r.dp
    cases r2 with
    | @tup p vs _ hs ha =>
      cases ha with
      | @cons v1 _ _ _ h1 h2 =>
        cases h2 with
        | @cons v2 _ _ _ h2 h3 =>
          cases h3
          refine ⟨p, [v1, v2], rfl, same_t s.env.ex hs, rfl, v1, [v2], rfl, v2, [], rfl, rfl, ?_⟩
          exact k _ ((s.setV i (.inl h1)).setV j (.inl h2))
  · cases q
theorem for_okS {wi : TI} {g : TG} {tb : TS} {src : SA} {tg : PyData → Rho → Option Rho} {body : SS} (hi : IOk K B wi src) (ht : TGOk K g tg) (kb : SSOk K B W tb body) : SSOk K B W (tFor wi g tb) (sFor src tg body) := fun Z R F H σ ρ D s hg => by
  unfold sFor at hg
  cases e0 : src ρ with
  | none => rw [e0] at hg; exact hg.elim
  | some ds =>
    rw [e0] at hg
    refine hi _ F H σ ρ ds s.env e0 _ fun J H1 G1 g1 w => ?_
    have s1 := s.grow g1
    refine ⟨fun i m σ' H' => m = ds.length - i ∧ i ≤ ds.length ∧ ∃ (R' : Rg) (F' : Hp) (ρ' : Rho), StOk K B Z R' F' H' σ' ρ' ∧ Same G1 F' ∧ Goes K B Z F' D W (forF tg body (ds.drop i) ρ'),
      ⟨ds.length, by simp, Nat.zero_le _, R, G1, ρ, s1, Same.refl G1, Goes.mono hg g1.f⟩, ?_⟩
    rintro i m σ' H' ⟨rfl, hile, R', F', ρ', s', e', hg'⟩
    have al : Same G1 F' ∧ Same F' H' := ⟨e', s'.env.ex⟩
    by_cases hlt : i < ds.length
    · have hd : ds[i]? = some ds[i] := List.getElem?_eq_getElem hlt
      rw [drop_cons_of hd] at hg'
      refine .inr ⟨w.go i F' H' al hlt, fun σ2 H2 => ∃ m', m' < ds.length - i ∧ (m' = ds.length - (i + 1) ∧ i + 1 ≤ ds.length ∧ ∃ (R' : Rg) (F' : Hp) (ρ' : Rho), StOk K B Z R' F' H2 σ2 ρ' ∧ Same G1 F' ∧ Goes K B Z F' D W (forF tg body (ds.drop (i + 1)) ρ')),
        fun σ2 H2 h => h, fun x H2 y => ?_⟩
      obtain ⟨F2, g2, r2⟩ := w.yld i F' H' x H2 _ al hd y
      unfold forF at hg'
      cases et : tg ds[i] ρ' with
      | none => rw [et] at hg'; exact hg'.elim
      | some r =>
        rw [et] at hg'
        refine ht B Z R' F2 H2 σ' ρ' r x _ (s'.grow g2) r2 et _ fun σ1 s3 => ?_
        refine kb Z R' F2 H2 σ1 r _ s3 ?_
        cases eb : body r with
        | no =>
          simp only [eb] at hg'
          exact hg'.elim
        | nx r2 =>
          simp only [eb] at hg'
          exact fun σ4 H4 R4 F4 s4 e4 => ⟨_, by omega, rfl, hlt, R4, F4, r2, s4, (e'.trans g2.f).trans e4, Goes.mono hg' (g2.f.trans e4)⟩
        | rt d r2 =>
          simp only [eb] at hg'
          exact Goes.mono (o := .rt d r2) hg' g2.f
        | ex c r2 =>
          simp only [eb] at hg'
          exact Goes.mono (o := .ex c r2) hg' g2.f
        | ro i r2 =>
          simp only [eb] at hg'
          exact Goes.mono (o := .ro i r2) hg' g2.f
    · have e : i = ds.length := by omega
      subst e
      rw [List.drop_length] at hg'
      exact .inl ⟨w.stop F' H' al, hg' σ' H' R' F' s' (Same.refl F')⟩
end
end RT
namespace RT
open PySem PySem.Spec PyProof.Rows L2
/-! ### the words of a derivation -/
section
variable {X : Cx} {K : PySem.W.Frag} {B : Bs} {W : XW} {e a b c d : Expr} {es : List Expr} {t t1 t2 t3 t4 : TE} {ta : TA} {f f1 f2 f3 f4 : SE} {sa : SA} {pos : Pos} {tt u : TT} {g h : STe}
theorem se_var (i : Nat) {x : Str} {pos : Pos} (hN : X.N[i]? = some x := by rfl) (hv : Vis X.env.scope x := by first | exact Or.inl rfl | exact Or.inr (Or.inl rfl) | exact Or.inr (Or.inr rfl)) (hd : (x == ("__debug__" : Str)) = false := by decide)
    (hcd : (x == ("__classdict__" : Str)) = false := by decide) : SemE X K B (.Name x pos) (tVar i) (eVar i) := ⟨pe_var hN hv hd hcd, var_ok i⟩
theorem sb_var (i : Nat) {x : Str} {pos : Pos} (hN : X.N[i]? = some x := by rfl) (hv : Vis X.env.scope x := by first | exact Or.inl rfl | exact Or.inr (Or.inl rfl) | exact Or.inr (Or.inr rfl)) (hd : (x == ("__debug__" : Str)) = false := by decide)
    (hcd : (x == ("__classdict__" : Str)) = false := by decide) : SemB X K B (.Name x pos) (tVar i) (eVarB i) := ⟨pe_var hN hv hd hcd, varB_ok i⟩
theorem se_int {i j} : SemE X K B (.Constant (.int i) j pos) (tC (.int i)) (eC (.int i)) := ⟨pe_int, c_ok fun _ => rp_int _⟩
theorem se_str {i j} : SemE X K B (.Constant (.str i) j pos) (tC (.str i)) (eC (.str i)) := ⟨pe_str, c_ok fun _ => rp_str _⟩
theorem se_bool {i j} : SemE X K B (.Constant (.bool i) j pos) (tC (.bl i)) (eC (.bool i)) := ⟨pe_bl, c_ok fun _ => rp_bool _⟩
theorem se_none {j} : SemE X K B (.Constant .none j pos) (tC .non) (eC .none) := ⟨pe_non, c_ok fun _ => rp_non⟩
theorem se_globI {x : Str} {i : Int} (hm : ∃ tk, X.mg x = some (.int i tk)) (hg : Gl X x := by rfl) (hd : (x == ("__debug__" : Str)) = false := by decide) : SemE X K B (.Name x pos) (tC (.int i)) (eC (.int i)) :=
  let ⟨tk, hm⟩ := hm; ⟨pe_glob hg hm ⟨tk, rfl⟩ hd, c_ok fun _ => rp_int _⟩
theorem se_globS {x : Str} {i : Str} (hm : ∃ tk, X.mg x = some (.str i tk)) (hg : Gl X x := by rfl) (hd : (x == ("__debug__" : Str)) = false := by decide) : SemE X K B (.Name x pos) (tC (.str i)) (eC (.str i)) :=
  let ⟨tk, hm⟩ := hm; ⟨pe_glob hg hm ⟨tk, rfl⟩ hd, c_ok fun _ => rp_str _⟩
/-- two-place -/
theorem se_op {op : Operator} {r : R2} {gg : PyData → PyData → Option PyData} (hs : OpS K r gg) (ho : OpR X (binaryOp op) r) (h1 : SemB X K B a t1 f1) (h2 : SemB X K B b t2 f2) : SemE X K B (.BinOp a op b pos) (tOp r t1 t2) (eOp gg f1 f2) := ⟨pe_op ho h1.pe h2.pe, op_ok hs h1.ok h2.ok⟩
theorem se_add (h1 : SemB X K B a t1 f1) (h2 : SemB X K B b t2 f2) : SemE X K B (.BinOp a .Add b pos) (tOp rAdd3 t1 t2) (eOp gAdd f1 f2) := se_op add3_s op_add3 h1 h2
theorem se_sub (h1 : SemB X K B a t1 f1) (h2 : SemB X K B b t2 f2) : SemE X K B (.BinOp a .Sub b pos) (tOp (rI0 fun i j => .int (i - j)) t1 t2) (eOp gMinus f1 f2) := se_op sub_s op_sub h1 h2
theorem se_mul (h1 : SemB X K B a t1 f1) (h2 : SemB X K B b t2 f2) : SemE X K B (.BinOp a .Mult b pos) (tOp rMul3 t1 t2) (eOp gMul f1 f2) := se_op mul3_s op_mul3 h1 h2
theorem se_fdiv (h1 : SemB X K B a t1 f1) (h2 : SemB X K B b t2 f2) : SemE X K B (.BinOp a .FloorDiv b pos) (tOp (rI CDiv fun i j => .int (i / j)) t1 t2) (eOp gFdiv f1 f2) := se_op fdiv_s op_fdiv h1 h2
theorem se_mod (h1 : SemB X K B a t1 f1) (h2 : SemB X K B b t2 f2) : SemE X K B (.BinOp a .Mod b pos) (tOp (rI (fun _ j => 0 < j) fun i j => .int (i % j)) t1 t2) (eOp gMod f1 f2) := se_op mod_s op_mod h1 h2
def gNeg : PyData → Option PyData
  | .int i => some (.int (-i))
  | _ => none
theorem se_neg (h1 : SemB X K B a t1 f1) : SemE X K B (.UnaryOp .USub a pos) (tUn (rU fun i => .int (-i)) t1) (eUn gNeg f1) := ⟨pe_un un_neg h1.pe, un_ok (fun G H x d1 d e b q Q k => by
  cases d1 with
  | int i =>
    cases q
    exact ⟨i, b.int, k _ H G (Grow.refl e) (rp_int _)⟩
  | _ => cases q) h1.ok⟩
/-- comparisons, as values and as tests -/
theorem se_cmp {op : CmpOp} {r : R2} {gg : PyData → PyData → Option PyData} (hs : OpS K r gg) (ho : OpR X (compareOp op) r) (h1 : SemB X K B a t1 f1) (h2 : SemB X K B b t2 f2) (hm : behindInMarks op b = false) : SemE X K B (.Compare a [op] [b] pos) (tOp r t1 t2) (eOp gg f1 f2) :=
  ⟨pe_cmpR ho h1.pe h2.pe hm, op_ok hs h1.ok h2.ok⟩
theorem st_cmp {op : CmpOp} {r : R2} {gg : PyData → PyData → Option PyData} (hs : OpS K r gg) (ho : OpR X (compareOp op) r) (h1 : SemB X K B a t1 f1) (h2 : SemB X K B b t2 f2) (hm : behindInMarks op b = false) : SemT X K B (.Compare a [op] [b] pos) (tTest (tOp r t1 t2)) (bF (eOp gg f1 f2)) :=
  ⟨pt_cmpR ho h1.pe h2.pe hm, tTest_ok (op_ok hs h1.ok h2.ok)⟩
theorem se_chain {op op' : CmpOp} {r r' : R2} {gg gg' : PyData → PyData → Option PyData} (hs : OpS K r gg) (ho : OpR X (compareOp op) r) (hs' : OpS K r' gg') (ho' : OpR X (compareOp op') r') (h1 : SemB X K B a t1 f1) (h2 : SemB X K B b t2 f2) (h3 : SemB X K B c t3 f3)
    (hm : lastMarks [op, op'] [b, c] = false := by with_unfolding_all rfl) : SemE X K B (.Compare a [op, op'] [b, c] pos) (tChain r r' t1 t2 t3) (eChainF gg gg' f1 f2 f3) := ⟨pe_chain ho ho' h1.pe h2.pe h3.pe hm, chain_ok hs hs' h1.ok h2.ok h3.ok⟩
theorem st_chain {op op' : CmpOp} {r r' : R2} {gg gg' : PyData → PyData → Option PyData} (hs : OpS K r gg) (ho : OpR X (compareOp op) r) (hs' : OpS K r' gg') (ho' : OpR X (compareOp op') r') (h1 : SemB X K B a t1 f1) (h2 : SemB X K B b t2 f2) (h3 : SemB X K B c t3 f3)
    (hm : lastMarks [op, op'] [b, c] = false := by with_unfolding_all rfl) : SemT X K B (.Compare a [op, op'] [b, c] pos) (tTest (tChain r r' t1 t2 t3)) (bF (eChainF gg gg' f1 f2 f3)) := ⟨pt_chain ho ho' h1.pe h2.pe h3.pe hm, tTest_ok (chain_ok hs hs' h1.ok h2.ok h3.ok)⟩
theorem se_chain3 {op op' op2 : CmpOp} {r r' r2 : R2} {gg gg' gg2 : PyData → PyData → Option PyData} (hs : OpS K r gg) (ho : OpR X (compareOp op) r) (hs' : OpS K r' gg') (ho' : OpR X (compareOp op') r') (hs2 : OpS K r2 gg2) (ho2 : OpR X (compareOp op2) r2)
    (h1 : SemB X K B a t1 f1) (h2 : SemB X K B b t2 f2) (h3 : SemB X K B c t3 f3) (h4 : SemB X K B d t4 f4) (hm : lastMarks [op, op', op2] [b, c, d] = false := by with_unfolding_all rfl) : SemE X K B (.Compare a [op, op', op2] [b, c, d] pos) (tChain3 r r' r2 t1 t2 t3 t4) (eChain3F gg gg' gg2 f1 f2 f3 f4) :=
  ⟨pe_chain3 ho ho' ho2 h1.pe h2.pe h3.pe h4.pe hm, chain3_ok hs hs' hs2 h1.ok h2.ok h3.ok h4.ok⟩
/-- tests -/
theorem st_val (h : SemE X K B e t f) (he : ∀ whole, isTrue e X.env whole = (do let v ← whole; standAt e.pos; holding [v] (truthy v)) := by intro _; rfl) : SemT X K B e (tB t) (bF f) := ⟨pt_val h.pe he, tB_ok h.ok⟩
theorem st_not (h : SemT X K B e tt g) : SemT X K B (.UnaryOp .Not e pos) (tNot tt) (tNotF g) := ⟨pt_not h.pt, tNot_ok h.ok⟩
theorem SemW.toT (h : SemW X K B e tt g) : SemT X K B e tt g := ⟨h.pw.pt, h.ok⟩
theorem sw_and1 (h1 : SemT X K B a tt g) : SemW X K B (.BoolOp .And [a] pos) tt g := ⟨pw_and1 h1.pt, h1.ok⟩
theorem sw_or1 (h1 : SemT X K B a tt g) : SemW X K B (.BoolOp .Or [a] pos) tt g := ⟨pw_or1 h1.pt, h1.ok⟩
theorem sw_and (h1 : SemT X K B a tt g) (h2 : SemW X K B (.BoolOp .And (b :: es) pos) u h) : SemW X K B (.BoolOp .And (a :: b :: es) pos) (tAnd tt u) (tAndF g h) := ⟨pw_and h1.pt h2.pw, tAnd_ok h1.ok h2.ok⟩
theorem sw_or (h1 : SemT X K B a tt g) (h2 : SemW X K B (.BoolOp .Or (b :: es) pos) u h) : SemW X K B (.BoolOp .Or (a :: b :: es) pos) (tOr tt u) (tOrF g h) := ⟨pw_or h1.pt h2.pw, tOr_ok h1.ok h2.ok⟩
theorem x_wt (h : SemW X K B e tt g) : SemT X K B e tt g := h.toT
theorem x_eb (h : SemE X K B e t f) : SemB X K B e t f := h.b
theorem x_le {sa : SA} (h : SemL X K B e t sa) : SemE X K B e t (eList sa) := h.toE
theorem x_ac (h1 : SemE X K B e t f) (h2 : SemA X K B es ta sa) (hs : starEach (e :: es) X.env = (false, eval e X.env) :: starEach es X.env := by rfl) : SemA X K B (e :: es) (tCons t ta) (eCons f sa) := h1.cons h2 hs
theorem x_abc (h1 : SemB X K B e t f) (h2 : SemAB X K B es ta sa) (hs : starEach (e :: es) X.env = (false, eval e X.env) :: starEach es X.env := by rfl) : SemAB X K B (e :: es) (tCons t ta) (eCons f sa) := h1.cons h2 hs
theorem se_one {op} (h : SemE X K B a t f) : SemE X K B (.BoolOp op [a] pos) t f := ⟨pe_one h.pe, h.ok⟩
theorem se_and (h1 : SemE X K B a t1 f1) (h2 : SemE X K B (.BoolOp .And (b :: es) pos) t2 f2) : SemE X K B (.BoolOp .And (a :: b :: es) pos) (tAndV t1 t2) (eAndF f1 f2) := ⟨pe_and h1.pe h2.pe, andV_ok h1.ok h2.ok⟩
theorem se_or (h1 : SemE X K B a t1 f1) (h2 : SemE X K B (.BoolOp .Or (b :: es) pos) t2 f2) : SemE X K B (.BoolOp .Or (a :: b :: es) pos) (tOrV t1 t2) (eOrF f1 f2) := ⟨pe_or h1.pe h2.pe, orV_ok h1.ok h2.ok⟩
theorem se_not (h1 : SemE X K B a t1 f1) : SemE X K B (.UnaryOp .Not a pos) (tNotV t1) (eNotF f1) := ⟨pe_not h1.pe, notV_ok h1.ok⟩
theorem se_if (h0 : SemT X K B c tt g) (h1 : SemE X K B a t1 f1) (h2 : SemE X K B b t2 f2) : SemE X K B (.IfExp c a b pos) (tIf tt t1 t2) (eIfF g f1 f2) := ⟨pe_ifExp h0.pt h1.pe h2.pe, if_ok h0.ok h1.ok h2.ok⟩
/-- items, slices, displays -/
theorem se_ix (h1 : SemB X K B a t1 f1) (h2 : SemB X K B b t2 f2) (hs : PlainIx b := by exact fun _ _ => rfl) (hK : X.K = K := by rfl) : SemE X K B (.Subscript a b pos) (tOp (rIx K) t1 t2) (eOp gIx f1 f2) := by
  subst hK
  exact ⟨pe_ix ix_seq h1.pe h2.pe hs, op_ok ix_s h1.ok h2.ok⟩
theorem sl_sl {lo hi : Option Expr} {tl th : TO} {oa ob : SO} {p2 : Pos} (h : SemB X K B a t f) (h1 : SemO X K B lo tl oa) (h2 : SemO X K B hi th ob) (hK : X.K = K := by rfl) : SemL X K B (.Subscript a (.Slice lo hi none p2) pos) (tSl (rSlL K) t tl th) (lSl f oa ob) := by
  subst hK
  exact ⟨pe_slice sl_list h.pe h1.po h2.po, slL_ok h.ok h1.ok h2.ok⟩
theorem se_slS {lo hi : Option Expr} {tl th : TO} {oa ob : SO} {p2 : Pos} (h : SemB X K B a t f) (h1 : SemO X K B lo tl oa) (h2 : SemO X K B hi th ob) : SemE X K B (.Subscript a (.Slice lo hi none p2) pos) (tSl rSlS t tl th) (eSlS f oa ob) := ⟨pe_slice sl_str h.pe h1.po h2.po, slS_ok h.ok h1.ok h2.ok⟩
theorem se_tup {x1} (h : SemA X K B es ta sa) : SemE X K B (.Tuple es x1 pos) (tTup ta) (eTupD sa) := ⟨pe_tup h.pa, tup_ok h.ok⟩
theorem sl_lst (h : SemA X K B es ta sa) : SemL X K B (.List es pos) (tLst ta) (eLstD sa) := ⟨pe_lst h.pa, lst_ok h.ok⟩
/-- built-ins by their names -/
theorem se_cb {id : String} {x : Str} {p : Pos} {r : List V → Hp → VK → Prop} {gg : List PyData → Option PyData} (hs : CallS K r gg) (hc : CallR X (.builtin id) r) (hm : X.mg x = none) (ha : SemAB X K B (e :: es) ta sa) (hg : Gl X x := by rfl) (hv : bootBuiltins x = some (.builtin id) := by decide +kernel)
    (hn : x ≠ "__name__" := by decide) (hdb : (x == ("__debug__" : Str)) = false := by decide) (he : starEach (e :: es) X.env = (false, eval e X.env) :: starEach es X.env := by rfl) (hpl : (backTo pos (starEach es X.env)).any (·.1) = false := by rfl) :
    SemE X K B (.Call (.Name x p) (e :: es) [] pos) (tCB r ta) (eCall gg sa) := ⟨pe_callB hc hg hm hv ha.pa hn hdb he hpl, cb_ok hs ha.ok⟩
theorem se_ct {T : String} {x : Str} {p : Pos} {r : List V → Hp → VK → Prop} {gg : List PyData → Option PyData} (hs : CallS K r gg) (hc : CallR X (.type T) r) (hm : X.mg x = none) (ha : SemAB X K B (e :: es) ta sa) (hg : Gl X x := by rfl) (hv : bootBuiltins x = some (.type T) := by decide +kernel)
    (hn : x ≠ "__name__" := by decide) (hdb : (x == ("__debug__" : Str)) = false := by decide) (he : starEach (e :: es) X.env = (false, eval e X.env) :: starEach es X.env := by rfl) (hpl : (backTo pos (starEach es X.env)).any (·.1) = false := by rfl) :
    SemE X K B (.Call (.Name x p) (e :: es) [] pos) (tCB r ta) (eCall gg sa) := ⟨pe_callTy hc hg hm hv ha.pa hn hdb he hpl, cb_ok hs ha.ok⟩
theorem sl_ct {T : String} {x : Str} {p : Pos} {r : List V → Hp → VK → Prop} {gg : List PyData → Option (List PyData)} (hs : CallL K r gg) (hc : CallR X (.type T) r) (hm : X.mg x = none) (ha : SemAB X K B (e :: es) ta sa) (hg : Gl X x := by rfl) (hv : bootBuiltins x = some (.type T) := by decide +kernel)
    (hn : x ≠ "__name__" := by decide) (hdb : (x == ("__debug__" : Str)) = false := by decide) (he : starEach (e :: es) X.env = (false, eval e X.env) :: starEach es X.env := by rfl) (hpl : (backTo pos (starEach es X.env)).any (·.1) = false := by rfl) :
    SemL X K B (.Call (.Name x p) (e :: es) [] pos) (tCB r ta) (eCallL gg sa) := ⟨pe_callTy hc hg hm hv ha.pa hn hdb he hpl, cbL_ok hs ha.ok⟩
theorem se_isi {p p2 : Pos} {x : Str} (T : TyN) (hm : X.mg "isinstance" = none) (hm2 : X.mg x = none) (h : SemB X K B a t f) (hv : bootBuiltins x = some (.type (tyn T)) := by decide +kernel) (hg : Gl X "isinstance" := by rfl) (hg2 : Gl X x := by rfl) (hn : x ≠ "__name__" := by decide) (hd : (x == ("__debug__" : Str)) = false := by decide)
    (hs1 : starEach (a :: [.Name x p2]) X.env = (false, eval a X.env) :: starEach [.Name x p2] X.env := by rfl) (hs2 : starEach [.Name x p2] X.env = (false, eval (.Name x p2) X.env) :: starEach [] X.env := by rfl) (hpl : (backTo pos (starEach [Expr.Name x p2] X.env)).any (·.1) = false := by rfl) (hK : X.K = K := by rfl) :
    SemE X K B (.Call (.Name "isinstance" p) [a, .Name x p2] [] pos) (tCB (rIsi K) (tCons t (tCons (tC (.ty (tyn T))) tNil))) (eIsi T f) := by
  subst hK
  exact ⟨pe_callB call_isi hg hm (by decide +kernel) (pa_cons h.pe (pa_cons (pe_bltn hg2 hm2 hv rfl hn hd) pa_nil hs2) hs1) (by decide) (by decide) hs1 hpl, isi_ok T h.ok⟩
/-- sep.join(texts) -/
def gJoin : PyData → PyData → Option PyData
  | .str z, .list ds => (strsD ds).bind fun ys => if (ys.map (·.length)).sum + ys.length * z.length ≤ LIM then some (.str (Txt.join z ys)) else none
  | _, _ => none
where strsD : List PyData → Option (List Str)
  | [] => some []
  | .str x :: ds => (strsD ds).map (x :: ·)
  | _ :: _ => none
theorem strsD_ok : ∀ {ds : List PyData} {ns : List Str}, gJoin.strsD ds = some ns → ds = ns.map PyData.str
  | [], ns, h => by cases h; rfl
  | .str i :: ds, ns, h => by
    cases e : gJoin.strsD ds with
    | none => simp [gJoin.strsD, e] at h
    | some ms =>
      simp [gJoin.strsD, e] at h
      subst h
      rw [strsD_ok e]; rfl
  | .none :: _, _, h => by cases h
  | .bool _ :: _, _, h => by cases h
  | .int _ :: _, _, h => by cases h
  | .list _ :: _, _, h => by cases h
  | .tuple _ :: _, _, h => by cases h
  | .dict _ :: _, _, h => by cases h
theorem strsD_map (ns : List Str) : gJoin.strsD (ns.map PyData.str) = some ns := by
  induction ns with
  | nil => rfl
  | cons n ns ih => simp [gJoin.strsD, ih]
abbrev rJoin (K : PySem.W.Frag) : V → List V → Hp → VK → Prop := fun x xs H Q => ∃ a p, ∃ ys : List Str, x = .str a ∧ xs = [.ref p] ∧ (SqL K H p (ys.map V.str) ∨ SqT K H p (ys.map V.str)) ∧
  (ys.map (·.length)).sum + ys.length * a.length ≤ 16777216 ∧ Q (.str (Txt.join a ys)) H
theorem join_ok (h1 : BOk K B t1 f1) (h2 : BOk K B t2 f2) : EOk K B (tM1 (rJoin K) t1 t2) (eOp gJoin f1 f2) := fun R F H σ ρ dd E q Q k => by
  cases e1 : f1 ρ with
  | none => simp [eOp, e1] at q
  | some x =>
    cases e2 : f2 ρ with
    | none => simp [eOp, e1, e2] at q
    | some y =>
      have q' : gJoin x y = some dd := by simpa [eOp, e1, e2] using q
      unfold gJoin at q'
      split at q'
      · rename_i z ds
        cases hn : gJoin.strsD ds with
        | none => simp [hn] at q'
        | some ys =>
          rw [hn, Option.bind_some] at q'
          split at q'
          · rename_i hz
            cases q'
            refine h1 _ F H σ ρ _ E e1 _ fun v H1 G1 g1 b1 => ⟨⟨z, b1.str⟩, ?_⟩
            refine h2 _ G1 H1 σ ρ _ (E.grow g1) e2 _ fun w H2 G2 g2 b2 => ?_
            obtain ⟨p, vs, rfl, hp, hA⟩ := b2.list g2.sub
            rw [strsD_ok hn] at hA
            have ev := strs_dpa ys hA
            subst ev
            exact ⟨z, p, ys, b1.str, rfl, .inl (.inl (.inl hp)), Nat.le_trans hz (by decide), k _ H2 G2 (g1.trans g2) (rp_str _)⟩
          · cases q'
      · cases q'
theorem se_join {apos : Pos} (h1 : SemB X K B a t1 f1) (h2 : SemB X K B b t2 f2) (hs : starEach [b] X.env = [(false, eval b X.env)] := by rfl) (hbase : attributeBase a "join" X.env (eval a X.env) = eval a X.env := by rfl) (hline : (apos.endLine == pos.line) = true := by rfl) (hK : X.K = K := by rfl) :
    SemE X K B (.Call (.Attribute a "join" apos) [b] [] pos) (tM1 (rJoin K) t1 t2) (eOp gJoin f1 f2) := by
  subst hK
  exact ⟨pe_join h1.pe h2.pe hs hbase hline, join_ok h1.ok h2.ok⟩
end
/-! ### what is walked, comprehensions -/
structure SemI (X : Cx) (K : PySem.W.Frag) (B : Bs) (tg : Expr) (iter : Expr) (wi : TI) (f : SA) : Prop where
  pi : PI X tg iter wi
  ok : IOk K B wi f
structure SemIB (X : Cx) (K : PySem.W.Frag) (B : Bs) (tg : Expr) (iter : Expr) (wi : TI) (f : SA) : Prop where
  pi : PI X tg iter wi
  ok : IBOk K B wi f
structure SemTs (X : Cx) (K : PySem.W.Frag) (B : Bs) (ifs : List Expr) (t : TT) (f : STe) : Prop where
  pts : PTs X ifs t
  ok : TOk K B t f
section
variable {X : Cx} {K : PySem.W.Frag} {B : Bs} {W : XW} {tg e a b : Expr} {t : TE} {f : SE} {ta : TA} {sa : SA} {pos p : Pos} {wi : TI}
theorem SemI.toB (h : SemI X K B tg e wi sa) : SemIB X K B tg e wi sa := ⟨h.pi, h.ok.b⟩
theorem si_list (h : SemE X K B e t f) (hK : X.K = K := by rfl) : SemI X K B tg e (iList K t) (iL f) := by
  subst hK
  exact ⟨pi_list h.pe, iList_ok h.ok⟩
theorem si_listB (h : SemB X K B e t f) (hK : X.K = K := by rfl) : SemIB X K B tg e (iList K t) (iL f) := by
  subst hK
  exact ⟨pi_list h.pe, iListB_ok h.ok⟩
theorem si_tup (h : SemE X K B e t f) (hK : X.K = K := by rfl) : SemI X K B tg e (iTup K t) (iT f) := by
  subst hK
  exact ⟨pi_tup h.pe, iTup_ok h.ok⟩
theorem si_str (h : SemE X K B e t f) : SemI X K B tg e (iStr t) (iS f) := ⟨pi_str h.pe, iStr_ok h.ok⟩
theorem si_range1 (hm : X.mg "range" = none) (ha : SemAB X K B [a] ta sa) (hg : Gl X "range" := by rfl) (hs : starEach [a] X.env = [(false, eval a X.env)] := by rfl) : SemI X K B tg (.Call (.Name "range" p) [a] [] pos) (iRng1 ta) (iR1 sa) := ⟨pi_range1 hg hm ha.pa hs, iRng1_ok ha.ok⟩
theorem si_range2 (hm : X.mg "range" = none) (ha : SemAB X K B [a, b] ta sa) (hg : Gl X "range" := by rfl) (hs : starEach [a, b] X.env = [(false, eval a X.env), (false, eval b X.env)] := by rfl) (hs2 : starEach [b] X.env = [(false, eval b X.env)] := by rfl) : SemI X K B tg (.Call (.Name "range" p) [a, b] [] pos) (iRng2 ta) (iR2 sa) :=
  ⟨pi_range2 hg hm ha.pa hs hs2, iRng2_ok ha.ok⟩
theorem si_enum {elts : List Expr} {kk : Nat} {tpos : Pos} (hm : X.mg "enumerate" = none) (ha : SemA X K B [e] ta sa) (hg : Gl X "enumerate" := by rfl) (hs : starEach [e] X.env = [(false, eval e X.env)] := by rfl) (hK : X.K = K := by rfl) : SemI X K B (.Tuple elts kk tpos) (.Call (.Name "enumerate" p) [e] [] pos) (iEnum K ta) (iE sa) := by
  subst hK
  exact ⟨pi_enum hg hm ha.pa hs, iEnum_ok ha.ok⟩
theorem x_ib (h : SemI X K B tg e wi sa) : SemIB X K B tg e wi sa := h.toB
theorem sts_nil : SemTs X K B [] tYes tYesF := ⟨pts_nil, yes_ok⟩
theorem sts_one {tt : TT} {g : STe} (h : SemT X K B e tt g) : SemTs X K B [e] tt g := ⟨pts_one h.pt, h.ok⟩
theorem sl_lc {elt iter : Expr} {x : Str} {xp : Pos} {ifs : List Expr} {scope : Scope} {j : Nat} {tt : TT} {te : TE} {tst : STe} {el : SE} (hc : X.calm = true) (hN : X.N.Nodup) (hj : X.N[j]? = some x) (hi : SemIB X K B (.Name x xp) iter wi sa) (ok : BlkOk X.N X.env.scope scope [(x, j)])
    (ht : ∀ (s : Shared) (H : Hp) (C : Addr) (cl : List (Str × Addr)) (fp : List Addr), SemTs (X.blk s H scope (compEnvC scope cl C X.env) fp) K B ifs tt tst)
    (he : ∀ (s : Shared) (H : Hp) (C : Addr) (cl : List (Str × Addr)) (fp : List Addr), SemE (X.blk s H scope (compEnvC scope cl C X.env) fp) K B elt te el)
    (hgn : ∀ (s : Shared) (H : Hp) (C : Addr) (cl : List (Str × Addr)) (fp : List Addr), PG (X.blk s H scope (compEnvC scope cl C X.env) fp) (.Name x xp) (gName j))
    (hs : ∀ x, foldedSetIterable iter X.env x = pure x := by intro _; rfl) : SemL X K B (.ListComp elt [⟨.Name x xp, iter, ifs, 0⟩] scope pos) (tLc wi (gName j) tt te [j]) (lLc sa j tst el) :=
  ⟨pe_lc (own := [(x, j)]) hc hN hi.pi ok hgn (fun s H C cl fp => (ht s H C cl fp).pts) (fun s H C cl fp => (he s H C cl fp).pe) hs, lc_ok hi.ok (ht X.s_0 (fun _ => none) 0 [] []).ok (he X.s_0 (fun _ => none) 0 [] []).ok⟩
end
/-! ### statements -/
section
variable {X : Cx} {K : PySem.W.Frag} {B : Bs} {W : XW} {e a b : Expr} {st : Stmt} {rest : List Stmt} {t u : TS} {f g : SS} {te tx : TE} {fe fx : SE} {pos : Pos}
theorem ss_nil : SemSs X K B W [] tNext sNext := ⟨pss_nil, next_ok⟩
theorem ss_cons (h1 : SemS X K B W st t f) (h2 : SemSs X K B W rest u g) : SemSs X K B W (st :: rest) (tSeq t u) (sSeq f g) := ⟨pss_cons h1.ps h2.ps, seq_ok h1.ok h2.ok⟩
theorem ss_one (h1 : SemS X K B W st t f) : SemSs X K B W [st] t f := ⟨pss_one h1.ps, h1.ok⟩
theorem s_ret (h : SemE X K B e te fe) : SemS X K B W (.Return (some e) pos) (tRet te) (sRet fe) := ⟨ps_ret h.pe, ret_ok h.ok⟩
theorem s_retN : SemS X K B W (.Return none pos) tRetN sRetN := ⟨ps_retN, retN_ok⟩
theorem s_set (i : Nat) {x : Str} {pos' : Pos} (hN : X.N.Nodup) (he : SemE X K B e te fe) (hi : X.N[i]? = some x := by rfl) (hx : Loc X.env.scope x := by first | exact Or.inl rfl | exact Or.inr rfl) (hs : swapsWith e (some (.Name x pos')) pos.line X.env = pure false := by rfl)
    (hf : X.fn x = true ∨ X.env.scope.names.lookup x = some .local := by first | exact .inl rfl | exact .inr rfl) : SemS X K B W (.Assign [.Name x pos'] e pos) (tAsg te (gName i)) (sSet i fe) := ⟨ps_set hN hi hx he.pe hs hf, set_ok i he.ok⟩
theorem s_setL (i : Nat) {x : Str} {pos' : Pos} {sa : SA} (hN : X.N.Nodup) (he : SemL X K B e te sa) (hi : X.N[i]? = some x := by rfl) (hx : Loc X.env.scope x := by first | exact Or.inl rfl | exact Or.inr rfl) (hs : swapsWith e (some (.Name x pos')) pos.line X.env = pure false := by rfl)
    (hf : X.fn x = true ∨ X.env.scope.names.lookup x = some .local := by first | exact .inl rfl | exact .inr rfl) : SemS X K B W (.Assign [.Name x pos'] e pos) (tAsg te (gName i)) (sSetL i sa) := ⟨ps_set hN hi hx he.pe hs hf, setL_ok i he.ok⟩
theorem s_expr (he : SemE X K B e te fe) (hs : swapsWith e none pos.line X.env = pure false := by rfl) : SemS X K B W (.Expr e pos) (tDrop te) (sDrop fe) := ⟨ps_expr he.pe hs, drop_ok he.ok⟩
theorem s_if {tc : TT} {c : STe} {ss us : List Stmt} (h0 : SemT X K B e tc c) (h1 : SemSs X K B W ss t f) (h2 : SemSs X K B W us u g) : SemS X K B W (.If e ss us pos) (tIfS tc t u) (sIf c f g) := ⟨ps_if h0.pt h1.ps h2.ps, ifS_ok h0.ok h1.ok h2.ok⟩
theorem s_for {tg iter : Expr} {body : List Stmt} {wi : TI} {gg : TG} {sa : SA} {tgf : PyData → Rho → Option Rho} (hp : PassesOwn (model X.prog X.w) X.A X.env X.xe) (hc : X.calm = true) (hi : SemI X K B tg iter wi sa) (hg : PG X tg gg) (ht : TGOk K gg tgf) (hb : SemSs X K B W body t f)
    (hs : ∀ x, foldedSetIterable iter X.env x = pure x := by intro _; rfl) : SemS X K B W (.For tg iter body [] pos) (tFor wi gg t) (sFor sa tgf f) := ⟨ps_for hp hc hi.pi hg hb.ps hs, for_okS hi.ok ht hb.ok⟩
/-- xs.append(e), xs[i] = e: an own list's name -/
theorem s_app (i : Nat) {x : Str} {p apos cpos : Pos} (he : SemE X K B e te fe) (ps : PS X (.Expr (.Call (.Attribute (.Name x p) "append" apos) [e] [] cpos) pos) (tDrop (tBM K "list" rAppend (tVar i) (tCons te tNil)))) :
    SemS X K B W (.Expr (.Call (.Attribute (.Name x p) "append" apos) [e] [] cpos) pos) (tDrop (tBM K "list" rAppend (tVar i) (tCons te tNil))) (sApp i fe) := ⟨ps, app_okS i he.ok⟩
theorem s_put (i : Nat) {x : Str} {p p2 : Pos} (he : SemE X K B e te fe) (hx : SemE X K B a tx fx) (ps : PS X (.Assign [.Subscript (.Name x p) a p2] e pos) (tAsg te (gSub (tVar i) tx rSetL))) :
    SemS X K B W (.Assign [.Subscript (.Name x p) a p2] e pos) (tAsg te (gSub (tVar i) tx rSetL)) (sPut i fx fe) := ⟨ps, put_okS i he.ok hx.ok⟩
end
/-! ### functions of data -/
section
variable {X : Cx} {K : PySem.W.Frag} {B : Bs} {W : XW} {e : Expr} {st : Stmt} {te : TE} {sa : SA}
theorem s_setLcE (i : Nat) {x : Str} {p pos : Pos} (h : SemL X K B e te sa) (ps : PS X (.Assign [.Name x p] e pos) (tAsg te (gName i))) : SemS X K B W (.Assign [.Name x p] e pos) (tAsg te (gName i)) (sSet i (eList sa)) := ⟨ps, set_ok i h.toE.ok⟩
theorem s_setLcL (i : Nat) {x : Str} {p pos : Pos} (h : SemL X K B e te sa) (ps : PS X (.Assign [.Name x p] e pos) (tAsg te (gName i))) : SemS X K B W (.Assign [.Name x p] e pos) (tAsg te (gName i)) (sSetL i sa) := ⟨ps, setL_ok i h.ok⟩
end
abbrev noB : Bs := ⟨fun _ => none, fun _ => none, fun _ => none, none⟩
abbrev W0 : XW := fun _ _ _ => False
abbrev noH : Hp := fun _ => none
abbrev noR : Rg := fun _ => noH
def spPure (K : PySem.W.Frag) (F : List PyData → Option PyData) : Sp := fun vs H Q _ => ∃ (G : Hp) (ds : List PyData) (d : PyData), Same G H ∧ RpAll K G vs ds ∧ F ds = some d ∧ ∀ v H' G', Grow H G H' G' → Rp K G' v d → Q v H'
def rho0 (N : List Str) (ds : List PyData) : Rho := ds.map .val ++ List.replicate (N.length - ds.length) .no
def runF (N : List Str) (n : Nat) (b : SS) : List PyData → Option PyData := fun ds => if ds.length = n then (match b (rho0 N ds) with
  | .rt d _ => some d
  | .nx _ => some .none
  | .no => none
  | .ex _ _ => none
  | .ro _ _ => none) else none
theorem RpAll.two {K : PySem.W.Frag} {F : Hp} {vs : List V} {d e : PyData} (h : RpAll K F vs [d, e]) : ∃ v u, vs = [v, u] ∧ Rp K F v d ∧ Rp K F u e := by
  cases h with
  | cons r r2 => obtain ⟨u, rfl, r3⟩ := r2.one; exact ⟨_, _, rfl, r, r3⟩
theorem RpAll.three {K : PySem.W.Frag} {F : Hp} {vs : List V} {d e f : PyData} (h : RpAll K F vs [d, e, f]) : ∃ v u t, vs = [v, u, t] ∧ Rp K F v d ∧ Rp K F u e ∧ Rp K F t f := by
  cases h with
  | cons r r2 => obtain ⟨u, t, rfl, r3, r4⟩ := r2.two; exact ⟨_, _, _, rfl, r, r3, r4⟩
theorem Rp.s {K : PySem.W.Frag} {F : Hp} {v : V} {z : Str} (h : Rp K F v (.str z)) : v = .str z := Bp.str (H := F) (.inl h)
theorem RpAll.get {K : PySem.W.Frag} {F : Hp} : ∀ {vs : List V} {ds : List PyData} {i : Nat} {d : PyData}, RpAll K F vs ds → ds[i]? = some d → ∃ v, vs[i]? = some v ∧ Rp K F v d
  | [], [], _, _, _, e => by simp at e
  | [], _ :: _, _, _, h, _ => by cases h
  | _ :: _, [], _, _, h, _ => by cases h
  | v :: vs, d :: ds, 0, _, h, e => by
    cases h with
    | cons h1 h2 =>
      simp at e; subst e
      exact ⟨v, rfl, h1⟩
  | v :: vs, d :: ds, i + 1, _, h, e => by
    cases h with
    | cons h1 h2 =>
      obtain ⟨u, e1, e2⟩ := RpAll.get (i := i) h2 (by simpa using e)
      exact ⟨u, by simpa using e1, e2⟩
/-- what a function finds that reads an object -/
structure BsOk (K : PySem.W.Frag) (B : Bs) (G H : Hp) : Prop where
  bs : Same B.f G
  bh : Same B.h H
  bF : Apart B.h G
  bo : ∀ a o, B.bk a = some o → ObjAt K B.f B.h a o
theorem bsOk_no {K : PySem.W.Frag} {G H : Hp} : BsOk K noB G H := ⟨fun _ _ z => (nomatch z), fun _ _ z => (nomatch z), fun _ z => absurd rfl z, fun _ _ z => (nomatch z)⟩
theorem start_ok {K : PySem.W.Frag} {B : Bs} {G H : Hp} {N : List Str} {vs : List V} {ds : List PyData} (b : BsOk K B G H) (e : Same G H) (h : RpAll K G vs ds) : StOk K B ⟨noH, H, G⟩ noR G H (start N vs) (rho0 N ds) := by
  have hl := h.len
  have shape : ∀ (i : Nat) (x : Sl), (rho0 N ds)[i]? = some x → x = .no ∨ ∃ d, ds[i]? = some d ∧ x = .val d := fun i x q => by
    unfold rho0 at q
    rcases Nat.lt_or_ge i (ds.map Sl.val).length with hi | hi
    · rw [List.getElem?_append_left hi, List.getElem?_map] at q
      cases z : ds[i]? with
      | none => rw [z] at q; cases q
      | some d => rw [z] at q; cases q; exact .inr ⟨d, rfl, rfl⟩
    · rw [List.getElem?_append_right hi] at q
      have := List.mem_of_getElem? q
      rw [List.mem_replicate] at this
      exact .inl this.2
  have no : ∀ (i : Nat) (es : List PyData), (rho0 N ds)[i]? = some (.own es) → False := fun i es q => by
    rcases shape i _ q with z | ⟨d, _, z⟩ <;> cases z
  have no2 : ∀ (i : Nat) (o : ObjSt), (rho0 N ds)[i]? = some (.obj o) → False := fun i es q => by
    rcases shape i _ q with z | ⟨d, _, z⟩ <;> cases z
  refine ⟨⟨b.bs, b.bh, b.bF, b.bo, e, (fun _ _ _ z => nomatch z), (fun _ _ z => absurd rfl z), (fun _ _ z => absurd rfl z), (fun _ _ _ _ z => absurd rfl z), ?_, fun i d q => ?_, fun i es q => (no i es q).elim, fun i j es fs p _ q _ _ _ => no i es q, fun i o q => (no2 i o q).elim, fun a0 _ o a q _ => (no2 0 o q).elim⟩,
    ⟨fun _ _ _ z => z, fun _ z => z, Same.refl G, e, fun _ z _ => z⟩, fun i es p q _ => (no i es q).elim, fun _ _ z => absurd rfl z⟩
  · unfold rho0 L2.start
    simp [hl]
  · rcases shape i _ q with z | ⟨d', h1, z⟩
    · cases z
    · cases z
      obtain ⟨v, h2, h3⟩ := h.get h1
      refine ⟨v, ?_, h3⟩
      unfold L2.start
      rw [List.getElem?_append_left (by rw [List.length_map]; exact (List.getElem?_eq_some_iff.mp h2).1), List.getElem?_map, h2]
      rfl
theorem GrowM.pure {H G H' G' : Hp} (g : GrowM ⟨noH, H, G⟩ H' G') : Grow H G H' G' := ⟨fun a o h => g.h a o rfl h, g.f, g.sub, g.no⟩
def spB (K : PySem.W.Frag) (F : (Addr → Option ObjSt) → List PyData → Option PyData) : Sp := fun vs H Q _ => ∃ (B : Bs) (G : Hp) (ds : List PyData) (d : PyData), BsOk K B G H ∧ Same G H ∧ RpAll K G vs ds ∧ F B.bk ds = some d ∧ ∀ v H' G', Grow H G H' G' → Rp K G' v d → Q v H'
theorem sp_bodyB {K : PySem.W.Frag} {B : Bs} {N : List Str} {n : Nat} {b : SS} {t : TS} (k : SSOk K B W0 t b) {vs : List V} {H G : Hp} {ds : List PyData} {d : PyData} {Q : VK} (bo : BsOk K B G H) (e : Same G H) (hR : RpAll K G vs ds) (hF : runF N n b ds = some d) (hQ : ∀ v H' G', Grow H G H' G' → Rp K G' v d → Q v H') :
    t { nx := fun _ H' => Q .non H', rt := Q } (start N vs) H := by
  refine k ⟨noH, H, G⟩ noR G H _ _ _ (start_ok bo e hR) ?_
  unfold runF at hF
  split at hF
  · cases hb : b (rho0 N ds) with
    | no => rw [hb] at hF; cases hF
    | nx r =>
      rw [hb] at hF
      cases hF
      exact fun σ H' R' F' s _ => hQ .non H' F' s.gr.pure rp_non
    | rt d' r =>
      rw [hb] at hF
      cases hF
      exact fun v σ H' R' F' s _ r => hQ v H' F' s.gr.pure r
    | ex c r => rw [hb] at hF; cases hF
    | ro i r => rw [hb] at hF; cases hF
  · cases hF
theorem sp_body {K : PySem.W.Frag} {N : List Str} {n : Nat} {b : SS} {t : TS} (k : SSOk K noB W0 t b) {vs : List V} {H : Hp} {Q : VK} {E : XK} (h : spPure K (runF N n b) vs H Q E) : t { nx := fun _ H' => Q .non H', rt := Q } (start N vs) H := by
  obtain ⟨G, ds, d, e, hR, hF, hQ⟩ := h
  exact sp_bodyB k bsOk_no e hR hF hQ
theorem x_pe {X : Cx} {K : PySem.W.Frag} {e : Expr} {t : TE} {f : SE} (h : SemE X K noB e t f) : PE X e t := h.pe
theorem x_pt {X : Cx} {K : PySem.W.Frag} {e : Expr} {t : TT} {f : STe} (h : SemT X K noB e t f) : PT X e t := h.pt
theorem x_pi {X : Cx} {K : PySem.W.Frag} {tg e : Expr} {t : TI} {f : SA} (h : SemIB X K noB tg e t f) : PI X tg e t := h.pi
/-- the module's name x is a function of data, of level k -/
structure PF (P : Program) (w : World) (K : PySem.W.Frag) (mg : Str → Option Value) (base : Heap) (k : Nat) (x : Str) (F : List PyData → Option PyData) : Prop where
  ex : ∃ (f : Addr) (fd : FuncData) (ps : List Str), FnOk P w K mg base CX0 k f fd ps (spPure K F) ∧ mg x = some (.ref f) ∧ PySem.W.keepIn K (.ref f) = true ∧ Binds K fd ps []
theorem fn_mk {P : Program} {w : World} {K : PySem.W.Frag} {mg : Str → Option Value} {base : Heap} {k : Nat} {x : Str} {st : Stmt} {N ps : List Str} {b : SS} {f : Addr} {fd : FuncData} (F : FunD K x x (defArgs st) (defBody st) (defScope st) [] [] f fd) (S : FnScope N ps (defScope st))
    (body : ∀ (cdv : Value) (A : Around) (outer : List Env) (s : Shared) (H : Hp) (E : XK), Room k (A.deeper (envOfC x (defScope st) s.heap.objs.size f cdv)) → ∃ t, SemSs (cxOf CX0 P w K mg base N x (defScope st) f cdv A outer s H E).nox K noB W0 (defBody st) t b) :
    FnOk P w K mg base CX0 (k + 1) f fd ps (spPure K (runF N ps.length b)) := by
  refine F.ok S (fun vs H Q E h => ?_) (fun cdv A outer s H vs Q E hr h => ?_)
  · obtain ⟨G, ds, d, _, hR, hF, _⟩ := h
    unfold runF at hF
    split at hF
    · rename_i hl
      rw [hR.len]; exact hl
    · cases hF
  · obtain ⟨t, ht⟩ := body cdv A outer s H E hr
    exact ⟨t, ht.ps.nox, sp_body ht.ok h⟩
theorem pf_mk {P : Program} {w : World} {K : PySem.W.Frag} {mg : Str → Option Value} {base : Heap} {k : Nat} {x : Str} {st : Stmt} {N ps : List Str} {b : SS} {f : Addr} {fd : FuncData} (F : FunD K x x (defArgs st) (defBody st) (defScope st) [] [] f fd) (S : FnScope N ps (defScope st)) (hm : mg x = some (.ref f))
    (hb : ∀ (kV doc pm : Value) (an : Option Addr) (cdv ct : Value) (us : List Value), us.length = ps.length → bindArgs (PySem.W.fnOf x x (defArgs st) (defBody st) (defScope st) .none kV doc pm an cdv ct) ⟨us, []⟩ = pure (ps.zip us))
    (body : ∀ (cdv : Value) (A : Around) (outer : List Env) (s : Shared) (H : Hp) (E : XK), Room k (A.deeper (envOfC x (defScope st) s.heap.objs.size f cdv)) → ∃ t, SemSs (cxOf CX0 P w K mg base N x (defScope st) f cdv A outer s H E).nox K noB W0 (defBody st) t b) :
    PF P w K mg base (k + 1) x (runF N ps.length b) := ⟨f, fd, ps, fn_mk F S body, hm, F.kp, F.bindsN hb⟩
theorem hv_of {k : Nat} {A : Around} (hr : Room k A) : A.units + 65 < cLine := by have := hr.un; omega
theorem PF.imp {P : Program} {w : World} {K : PySem.W.Frag} {mg : Str → Option Value} {base : Heap} {k : Nat} {x : Str} {F F' : List PyData → Option PyData} (h : PF P w K mg base k x F) (hi : ∀ ds d, F' ds = some d → F ds = some d) : PF P w K mg base k x F' := by
  obtain ⟨f, fd, ps, h1, h2⟩ := h.ex
  refine ⟨f, fd, ps, h1.imp (fun vs H Q E ⟨G, ds, d, e, hR, hF, hQ⟩ => ⟨G, ds, d, e, hR, hi ds d hF, hQ⟩), h2⟩
section
variable {X : Cx} {K : PySem.W.Frag} {B : Bs} {W : XW} {e : Expr} {es : List Expr} {ta : TA} {sa : SA} {x : Str} {p pos : Pos} {k j : Nat} {F : List PyData → Option PyData}
theorem callP_ok (ha : AOk K B ta sa) : EOk K B (tCall (spPure K F) [] E0 ta) (eCall F sa) := fun Rg F' H σ ρ d E q Q kk => by
  cases e1 : sa ρ with
  | none => simp [eCall, e1] at q
  | some ds =>
    have q' : F ds = some d := by simpa [eCall, e1] using q
    refine ha _ F' H σ ρ ds E e1 _ fun vs H1 G1 g1 r1 => ?_
    rw [List.append_nil]
    exact ⟨G1, ds, d, g1.sub, r1, q', fun v H' G' g r => kk v H' G' (g1.trans g) r⟩
theorem BpAll.all {G H : Hp} (e : Same G H) : ∀ {vs : List V} {ds : List PyData}, BpAll K G H vs ds → RpAll K H vs ds
  | [], [], _ => .nil
  | [], _ :: _, h => by cases h
  | _ :: _, [], h => by cases h
  | v :: vs, d :: ds, h => by
    cases h with
    | cons h1 h2 => exact .cons (h1.all e) (BpAll.all e h2)
/-- own lists handed in for a moment: what comes back is a value without parts -/
theorem callPB_ok (ha : ABOk K B ta sa) : EOk K B (tCall (spPure K F) [] E0 ta) (eCall (fun ds => onlyS (F ds)) sa) := fun Rg F' H σ ρ d E q Q kk => by
  cases e1 : sa ρ with
  | none => simp [eCall, e1] at q
  | some ds =>
    have q' : onlyS (F ds) = some d := by simpa [eCall, e1] using q
    unfold onlyS at q'
    cases e2 : F ds with
    | none => simp [e2] at q'
    | some d' =>
      rw [e2, Option.bind_some] at q'
      split at q'
      · rename_i hs
        cases q'
        refine ha _ F' H σ ρ ds E e1 _ fun vs H1 G1 g1 r1 => ?_
        rw [List.append_nil]
        exact ⟨H1, ds, _, Same.refl H1, BpAll.all g1.sub r1, e2, fun v H' G' g r => kk v H' G1 (g1.trans ⟨g.h, Same.refl G1, g1.sub.trans g.h, fun _ z _ => z⟩) (rp_scal r hs)⟩
      · cases q'
theorem se_call (C : PF X.prog X.w K X.mg X.base k x F) (hr : Room j X.A) (ha : SemA X K B (e :: es) ta sa) (hk : k ≤ j := by decide) (hg : Gl X x := by rfl) (hdb : (x == ("__debug__" : Str)) = false := by decide)
    (he : starEach (e :: es) X.env = (false, eval e X.env) :: starEach es X.env := by rfl) (hpl : (backTo pos (starEach es X.env)).any (·.1) = false := by rfl) (hK : X.K = K := by rfl) : SemE X K B (.Call (.Name x p) (e :: es) [] pos) (tCall (spPure K F) [] E0 ta) (eCall F sa) := by
  subst hK
  obtain ⟨f, fd, ps, h1, h2, h3, h4⟩ := C.ex
  exact ⟨pe_call h1 (hr.mono hk) hg h2 h3 h4 .nil pass0 ha.pa hdb he hpl, callP_ok ha.ok⟩
theorem se_callB (C : PF X.prog X.w K X.mg X.base k x F) (hr : Room j X.A) (ha : SemAB X K B (e :: es) ta sa) (hk : k ≤ j := by decide) (hg : Gl X x := by rfl) (hdb : (x == ("__debug__" : Str)) = false := by decide)
    (he : starEach (e :: es) X.env = (false, eval e X.env) :: starEach es X.env := by rfl) (hpl : (backTo pos (starEach es X.env)).any (·.1) = false := by rfl) (hK : X.K = K := by rfl) : SemE X K B (.Call (.Name x p) (e :: es) [] pos) (tCall (spPure K F) [] E0 ta) (eCall (fun ds => onlyS (F ds)) sa) := by
  subst hK
  obtain ⟨f, fd, ps, h1, h2, h3, h4⟩ := C.ex
  exact ⟨pe_call h1 (hr.mono hk) hg h2 h3 h4 .nil pass0 ha.pa hdb he hpl, callPB_ok ha.ok⟩
end
/-- the law's own promise out of its function of data -/
theorem law_sp {K : PySem.W.Frag} {F : List PyData → Option PyData} {H : Hp} {a : Addr} {ns : List Int} (h : F [scrD ns] = some (.bool true)) (hS : SqL K H a (ns.map V.int)) : spPure K F [.ref a] H (fun v _ => v = .bl true) fun _ _ _ => False :=
  ⟨H, [scrD ns], .bool true, Same.refl H, .cons (.inr (.inr ⟨a, ns, rfl, rfl, hS⟩)) .nil, h, fun v H' G' _ r => r.bl⟩
end RT
/-! How the functions are reckoned: rows for simp. -/
namespace RT
open PySem PySem.Spec PyProof.Rows L2
def Out.thn : Out → (Rho → Out) → Out
  | .no, _ => .no
  | .nx r, g => g r
  | .rt d r, _ => .rt d r
  | .ex c r, _ => .ex c r
  | .ro i r, _ => .ro i r
def Out.res : Out → Option PyData
  | .no => none
  | .nx _ => some .none
  | .rt d _ => some d
  | .ex _ _ => none
  | .ro _ _ => none
section
variable {f f1 f2 f3 f4 : SE} {g : SA} {ρ : Rho} {t u : STe} {a b : SS} {c : Prop} [Decidable c]
@[simp] theorem thn_no (g : Rho → Out) : Out.thn .no g = .no := rfl
@[simp] theorem thn_nx (g : Rho → Out) (r : Rho) : Out.thn (.nx r) g = g r := rfl
@[simp] theorem thn_rt (g : Rho → Out) (d : PyData) (r : Rho) : Out.thn (.rt d r) g = .rt d r := rfl
@[simp] theorem thn_ro (g : Rho → Out) (i : Nat) (r : Rho) : Out.thn (.ro i r) g = .ro i r := rfl
@[simp] theorem thn_ex (g : Rho → Out) (c : Str) (r : Rho) : Out.thn (.ex c r) g = .ex c r := rfl
@[simp] theorem thn_ite (x y : Out) (g : Rho → Out) : Out.thn (if c then x else y) g = if c then x.thn g else y.thn g := by split <;> rfl
@[simp] theorem res_no : Out.res .no = none := rfl
@[simp] theorem res_nx (r : Rho) : Out.res (.nx r) = some .none := rfl
@[simp] theorem res_rt (d : PyData) (r : Rho) : Out.res (.rt d r) = some d := rfl
@[simp] theorem res_ex (c : Str) (r : Rho) : Out.res (.ex c r) = none := rfl
@[simp] theorem res_ite (x y : Out) : Out.res (if c then x else y) = if c then x.res else y.res := by split <;> rfl
@[simp] theorem bind_ite {α β : Type} (x y : Option α) (g : α → Option β) : (if c then x else y).bind g = if c then x.bind g else y.bind g := by split <;> rfl
@[simp] theorem map_ite {α β : Type} (x y : Option α) (g : α → β) : (if c then x else y).map g = if c then x.map g else y.map g := by split <;> rfl
theorem runF_eq (N : List Str) (n : Nat) (b : SS) (ds : List PyData) : runF N n b ds = if ds.length = n then (b (rho0 N ds)).res else none := by
  unfold runF
  split
  · cases b (rho0 N ds) <;> rfl
  · rfl
@[simp] theorem sSeq_eq : sSeq a b ρ = (a ρ).thn b := by unfold sSeq; cases a ρ <;> rfl
@[simp] theorem sNext_eq : sNext ρ = .nx ρ := rfl
def outV (o : Option PyData) (k : PyData → Out) : Out := match o with
  | some d => k d
  | none => .no
@[simp] theorem outV_some (d : PyData) (k : PyData → Out) : outV (some d) k = k d := rfl
@[simp] theorem outV_none (k : PyData → Out) : outV none k = .no := rfl
@[simp] theorem outV_ite (x y : Option PyData) (k : PyData → Out) : outV (if c then x else y) k = if c then outV x k else outV y k := by split <;> rfl
def outL (o : Option (List PyData)) (k : List PyData → Out) : Out := match o with
  | some d => k d
  | none => .no
@[simp] theorem outL_some (d : List PyData) (k : List PyData → Out) : outL (some d) k = k d := rfl
@[simp] theorem outL_none (k : List PyData → Out) : outL none k = .no := rfl
@[simp] theorem outL_ite (x y : Option (List PyData)) (k : List PyData → Out) : outL (if c then x else y) k = if c then outL x k else outL y k := by split <;> rfl
def outB (o : Option Bool) (k : Bool → Out) : Out := match o with
  | some d => k d
  | none => .no
@[simp] theorem outB_some (d : Bool) (k : Bool → Out) : outB (some d) k = k d := rfl
@[simp] theorem outB_none (k : Bool → Out) : outB none k = .no := rfl
@[simp] theorem outB_ite (x y : Option Bool) (k : Bool → Out) : outB (if c then x else y) k = if c then outB x k else outB y k := by split <;> rfl
@[simp] theorem sSet_eq (i : Nat) : sSet i f ρ = outV (f ρ) fun d => .nx (ρ.set i (.val d)) := by unfold sSet; cases f ρ <;> rfl
@[simp] theorem sSetL_eq (i : Nat) : sSetL i g ρ = outL (g ρ) fun d => .nx (ρ.set i (.own d)) := by unfold sSetL; cases g ρ <;> rfl
@[simp] theorem sDrop_eq : sDrop f ρ = outV (f ρ) fun _ => .nx ρ := by unfold sDrop; cases f ρ <;> rfl
@[simp] theorem sIf_eq : sIf t a b ρ = outB (t ρ) fun z => if z = true then a ρ else b ρ := by
  unfold sIf
  cases t ρ with
  | none => rfl
  | some z => cases z <;> rfl
@[simp] theorem sRet_eq : sRet f ρ = outV (f (ρ.map frz1)) (fun d => .rt d (ρ.map frz1)) := by unfold sRet; cases f (ρ.map frz1) <;> rfl
@[simp] theorem sRetN_eq : sRetN ρ = .rt .none ρ := rfl
@[simp] theorem frz1_own (ds : List PyData) : frz1 (.own ds) = .val (.list ds) := rfl
@[simp] theorem frz1_val (d : PyData) : frz1 (.val d) = .val d := rfl
@[simp] theorem frz1_no : frz1 .no = .no := rfl
@[simp] theorem sFor_eq (tg : PyData → Rho → Option Rho) : sFor g tg a ρ = outL (g ρ) fun ds => forF tg a ds ρ := by unfold sFor; cases g ρ <;> rfl
theorem forF_nil (tg : PyData → Rho → Option Rho) : forF tg a [] ρ = .nx ρ := rfl
theorem forF_cons1 (j : Nat) (d : PyData) (ds : List PyData) : forF (tg1 j) a (d :: ds) ρ = (a (ρ.set j (.val d))).thn (forF (tg1 j) a ds) := by
  simp only [forF, tg1]
  cases a (ρ.set j (.val d)) <;> rfl
/-- a slot -/
def slV : Option Sl → Option PyData
  | some (.val d) => some d
  | _ => none
def slB : Option Sl → Option PyData
  | some (.val d) => some d
  | some (.own ds) => some (.list ds)
  | _ => none
@[simp] theorem slV_val (d : PyData) : slV (some (.val d)) = some d := rfl
@[simp] theorem slB_val (d : PyData) : slB (some (.val d)) = some d := rfl
@[simp] theorem slB_own (d : List PyData) : slB (some (.own d)) = some (.list d) := rfl
@[simp] theorem eVar_eq (i : Nat) : eVar i ρ = slV ρ[i]? := by
  unfold eVar slV
  cases ρ[i]? with
  | none => rfl
  | some s => cases s <;> rfl
@[simp] theorem eVarB_eq (i : Nat) : eVarB i ρ = slB ρ[i]? := by
  unfold eVarB slB
  cases ρ[i]? with
  | none => rfl
  | some s => cases s <;> rfl
@[simp] theorem eC_eq (d : PyData) : eC d ρ = some d := rfl
@[simp] theorem eOp_eq (gg : PyData → PyData → Option PyData) : eOp gg f1 f2 ρ = (f1 ρ).bind fun x => (f2 ρ).bind fun y => gg x y := rfl
@[simp] theorem eUn_eq (gg : PyData → Option PyData) : eUn gg f1 ρ = (f1 ρ).bind gg := rfl
@[simp] theorem eNil_eq : eNil ρ = some [] := rfl
@[simp] theorem eCons_eq : eCons f g ρ = (f ρ).bind fun d => (g ρ).bind fun ds => some (d :: ds) := rfl
@[simp] theorem eTupD_eq : eTupD g ρ = (g ρ).bind fun ds => if ds.all dataD = true ∧ ds.length ≤ 1000 then some (.tuple ds) else none := rfl
@[simp] theorem eLstD_eq : eLstD g ρ = (g ρ).bind fun ds => if ds.all dataD = true ∧ ds.length ≤ 1000 then some ds else none := rfl
@[simp] theorem eList_eq : eList g ρ = (g ρ).map .list := rfl
@[simp] theorem eCall_eq (F : List PyData → Option PyData) : eCall F g ρ = (g ρ).bind F := rfl
@[simp] theorem eCallL_eq (F : List PyData → Option (List PyData)) : eCallL F g ρ = (g ρ).bind F := rfl
@[simp] theorem onlyS_eq (o : Option PyData) : onlyS o = o.bind fun d => if scalD d then some d else none := rfl
/-- a truth -/
def truD : PyData → Option Bool
  | .bool b => some b
  | _ => none
@[simp] theorem truD_bool (b : Bool) : truD (.bool b) = some b := rfl
@[simp] theorem bF_eq : bF f ρ = (f ρ).bind truD := by unfold bF truD; cases f ρ <;> rfl
@[simp] theorem tAndF_eq : tAndF t u ρ = (t ρ).bind fun b => if b = true then u ρ else some false := rfl
@[simp] theorem tOrF_eq : tOrF t u ρ = (t ρ).bind fun b => if b = true then some true else u ρ := rfl
@[simp] theorem tNotF_eq : tNotF t ρ = (t ρ).map (!·) := rfl
@[simp] theorem tYesF_eq : tYesF ρ = some true := rfl
@[simp] theorem eAndF_eq : eAndF f1 f2 ρ = ((f1 ρ).bind truD).bind fun b => if b = true then f2 ρ else some (.bool false) := by unfold eAndF; rw [bF_eq]
@[simp] theorem eOrF_eq : eOrF f1 f2 ρ = ((f1 ρ).bind truD).bind fun b => if b = true then some (.bool true) else f2 ρ := by unfold eOrF; rw [bF_eq]
@[simp] theorem eNotF_eq : eNotF f1 ρ = ((f1 ρ).bind truD).map fun b => .bool (!b) := by unfold eNotF; rw [bF_eq]
@[simp] theorem eIfF_eq : eIfF t f1 f2 ρ = (t ρ).bind fun b => if b = true then f1 ρ else f2 ρ := rfl
@[simp] theorem eChainF_eq (gg gg' : PyData → PyData → Option PyData) : eChainF gg gg' f1 f2 f3 ρ = (f1 ρ).bind fun x => (f2 ρ).bind fun y => ((gg x y).bind truD).bind fun z => if z = true then (f3 ρ).bind fun u => gg' y u else some (.bool false) := by
  unfold eChainF
  cases f1 ρ with
  | none => rfl
  | some x =>
    cases f2 ρ with
    | none => rfl
    | some y =>
      simp only [Option.bind_some]
      cases gg x y with
      | none => rfl
      | some z =>
        cases z with
        | bool b => cases b <;> rfl
        | _ => rfl
@[simp] theorem eChain3F_eq (gg gg' g2 : PyData → PyData → Option PyData) : eChain3F gg gg' g2 f1 f2 f3 f4 ρ = (f1 ρ).bind fun x => (f2 ρ).bind fun y => ((gg x y).bind truD).bind fun z => if z = true then (f3 ρ).bind fun u => ((gg' y u).bind truD).bind fun z => if z = true then (f4 ρ).bind fun u2 => g2 u u2 else some (.bool false) else some (.bool false) := by
  unfold eChain3F
  cases f1 ρ with
  | none => rfl
  | some x =>
    cases f2 ρ with
    | none => rfl
    | some y =>
      simp only [Option.bind_some]
      cases gg x y with
      | none => rfl
      | some z =>
        cases z with
        | bool b =>
          cases b with
          | false => rfl
          | true =>
            simp only [Option.bind_some, truD_bool, if_true]
            cases f3 ρ with
            | none => rfl
            | some u =>
              simp only [Option.bind_some]
              cases gg' y u with
              | none => rfl
              | some z =>
                cases z with
                | bool b => cases b <;> rfl
                | _ => rfl
        | _ => rfl
end
/-! ### operators -/
@[simp] theorem gAdd_int (i j : Int) : gAdd (.int i) (.int j) = some (.int (i + j)) := rfl
theorem gAdd_strE (x y : Str) : gAdd (.str x) (.str y) = if x.length + y.length ≤ LIM then some (.str (x ++ y)) else none := by
  unfold gAdd alt gAddI gI gAddS
  simp only
  split <;> rename_i h <;> split at h <;> simp_all [gAddL]
theorem gAdd_listE (x y : List PyData) : gAdd (.list x) (.list y) = if x.length + y.length ≤ LIM then some (.list (x ++ y)) else none := by
  unfold gAdd alt gAddI gI gAddS gAddL
  rfl
@[simp] theorem gAdd_str (x y : Str) (h : x.length + y.length ≤ LIM) : gAdd (.str x) (.str y) = some (.str (x ++ y)) := by rw [gAdd_strE, if_pos h]
@[simp] theorem gAdd_list (x y : List PyData) (h : x.length + y.length ≤ LIM) : gAdd (.list x) (.list y) = some (.list (x ++ y)) := by rw [gAdd_listE, if_pos h]
@[simp] theorem gMinus_int (i j : Int) : gMinus (.int i) (.int j) = some (.int (i - j)) := rfl
@[simp] theorem gMul_int (i j : Int) (h : cMul i j = true) : gMul (.int i) (.int j) = some (.int (i * j)) := by
  unfold gMul alt gMulI gI
  simp only [h, if_true]
@[simp] theorem gMul_list (x : List PyData) (k : Int) (h : k ≤ 1000000 ∧ -1000000 ≤ k ∧ x.length * k.toNat ≤ LIM) : gMul (.list x) (.int k) = some (.list (List.replicate k.toNat x).flatten) := by
  unfold gMul alt gMulI gI gMulL
  simp only [h, if_true]
  simp
@[simp] theorem gMul_str (x : Str) (k : Int) (h : x.length ≤ 1000 ∧ k ≤ 1000 ∧ -1000 ≤ k) : gMul (.str x) (.int k) = some (.str (Txt.mul x k)) := by
  unfold gMul alt gMulI gI gMulL gMulS
  simp only [h, if_true]
  simp
@[simp] theorem gFdiv_int (i j : Int) (h : cPos i j = true) : gFdiv (.int i) (.int j) = some (.int (i / j)) := by
  unfold gFdiv gI
  simp only [h, if_true]
@[simp] theorem gMod_int (i j : Int) (h : cPos i j = true) : gMod (.int i) (.int j) = some (.int (i % j)) := by
  unfold gMod gI
  simp only [h, if_true]
theorem cPos_of {i j : Int} (h1 : 0 < j) (h2 : j < 1073741824) : cPos i j = true := by simp [cPos, h1, h2]
theorem cMul_l {i j : Int} (h : i.natAbs ≤ 1000000000) : cMul i j = true := by simp [cMul, h]
theorem cMul_r {i j : Int} (h : j.natAbs ≤ 1000000000) : cMul i j = true := by simp [cMul, h]
@[simp] theorem cPos_def (i j : Int) : cPos i j = (decide (0 < j) && decide (j < 1073741824)) := rfl
@[simp] theorem gNeg_int (i : Int) : gNeg (.int i) = some (.int (-i)) := rfl
@[simp] theorem gLt_int (i j : Int) : gLt (.int i) (.int j) = some (.bool (decide (i < j))) := rfl
@[simp] theorem gLe_int (i j : Int) : gLe (.int i) (.int j) = some (.bool (decide (i ≤ j))) := rfl
@[simp] theorem gGt_int (i j : Int) : gGt (.int i) (.int j) = some (.bool (decide (j < i))) := rfl
@[simp] theorem gGe_int (i j : Int) : gGe (.int i) (.int j) = some (.bool (decide (j ≤ i))) := rfl
@[simp] theorem gEq_int (i j : Int) : gEq (.int i) (.int j) = some (.bool (i == j)) := rfl
@[simp] theorem gNe_int (i j : Int) : gNe (.int i) (.int j) = some (.bool (!(i == j))) := rfl
@[simp] theorem gEq_str (i j : Str) : gEq (.str i) (.str j) = some (.bool (i == j)) := rfl
@[simp] theorem gNe_str (i j : Str) : gNe (.str i) (.str j) = some (.bool (!(i == j))) := rfl
@[simp] theorem gEq_bool (i j : Bool) : gEq (.bool i) (.bool j) = some (.bool (i == j)) := rfl
@[simp] theorem gNe_bool (i j : Bool) : gNe (.bool i) (.bool j) = some (.bool (!(i == j))) := rfl
@[simp] theorem gEq_ns (i : Str) : gEq .none (.str i) = some (.bool false) := rfl
@[simp] theorem gIx_list (ds : List PyData) (i : Int) : gIx (.list ds) (.int i) = atI ds i := by
  unfold gIx alt gIx0 gIxS
  simp only
  split
  · rename_i h; exact h.symm
  · rename_i h; rw [h]
@[simp] theorem gIx_tuple (ds : List PyData) (i : Int) : gIx (.tuple ds) (.int i) = atI ds i := by
  unfold gIx alt gIx0 gIxS
  simp only
  split
  · rename_i h; exact h.symm
  · rename_i h; rw [h]
@[simp] theorem gIx_str (z : Str) (i : Int) (h : z.length ≤ LIM) : gIx (.str z) (.int i) = (atI z.cps.toList i).map fun c => .str ⟨#[c]⟩ := by
  unfold gIx alt gIx0 gIxS
  simp only [h, if_true]
  split
  · rename_i h; exact h.symm
  · rename_i h; rw [h]
@[simp] theorem gIx_scr (ns : List Int) (i : Int) : gIx (scrD ns) (.int i) = atI (ns.map .int) i := rfl
@[simp] theorem atI_0 {α : Type} (a : α) (l : List α) : atI (a :: l) 0 = some a := by
  unfold atI ixN
  simp
@[simp] theorem atI_1 {α : Type} (a b : α) (l : List α) : atI (a :: b :: l) 1 = some b := by
  have h : (1 : Int) < ((l.length : Int) + 1 + 1) := by omega
  unfold atI ixN
  simp [h]
@[simp] theorem atI_2 {α : Type} (a b c : α) (l : List α) : atI (a :: b :: c :: l) 2 = some c := by
  have h : (2 : Int) < ((l.length : Int) + 1 + 1 + 1) := by omega
  unfold atI ixN
  simp [h]
@[simp] theorem atI_3 {α : Type} (a b c d : α) (l : List α) : atI (a :: b :: c :: d :: l) 3 = some d := by
  have h : (3 : Int) < ((l.length : Int) + 1 + 1 + 1 + 1) := by omega
  unfold atI ixN
  simp [h]
theorem atI_pos {α : Type} (l : List α) (i : Int) (h : 0 ≤ i) : atI l i = l[i.toNat]? := by
  unfold atI ixN
  rw [if_pos h]
  by_cases h2 : i < (l.length : Int)
  · rw [if_pos h2]; rfl
  · rw [if_neg h2, List.getElem?_eq_none (by omega)]; rfl
@[simp] theorem dataD_int (i : Int) : dataD (.int i) = true := rfl
@[simp] theorem dataD_str (i : Str) : dataD (.str i) = true := rfl
@[simp] theorem dataD_bool (i : Bool) : dataD (.bool i) = true := rfl
@[simp] theorem dataD_none : dataD .none = true := rfl
@[simp] theorem dataD_list (l : List PyData) : dataD (.list l) = true := rfl
@[simp] theorem dataD_tuple (l : List PyData) : dataD (.tuple l) = true := rfl
@[simp] theorem scalD_int (i : Int) : scalD (.int i) = true := rfl
@[simp] theorem scalD_str (i : Str) : scalD (.str i) = true := rfl
@[simp] theorem scalD_bool (i : Bool) : scalD (.bool i) = true := rfl
@[simp] theorem scalD_none : scalD .none = true := rfl
@[simp] theorem gMax_int (i j : Int) : gMax [.int i, .int j] = some (.int (if j > i then j else i)) := rfl
@[simp] theorem gMin_int (i j : Int) : gMin [.int i, .int j] = some (.int (if j < i then j else i)) := rfl
@[simp] theorem gLen_list (ds : List PyData) : gLen [.list ds] = some (.int (ds.length : Nat)) := rfl
@[simp] theorem gLen_tuple (ds : List PyData) : gLen [.tuple ds] = some (.int (ds.length : Nat)) := rfl
@[simp] theorem gLen_scr (ns : List Int) : gLen [scrD ns] = some (.int (ns.length : Nat)) := by simp [gLen, scrD]
@[simp] theorem gLen_str (z : Str) (h : z.length ≤ LIM) : gLen [.str z] = some (.int (z.length : Nat)) := by simp [gLen, h]
@[simp] theorem gInt_int (i : Int) : gInt [.int i] = some (.int i) := rfl
@[simp] theorem gInt_bool (b : Bool) : gInt [.bool b] = some (.int (if b then 1 else 0)) := rfl
@[simp] theorem gListOf_list (ds : List PyData) : gListOf [.list ds] = some ds := rfl
@[simp] theorem gListOf_tuple (ds : List PyData) : gListOf [.tuple ds] = some ds := rfl
@[simp] theorem eIsi_eq (T : TyN) (f : SE) (ρ : Rho) : eIsi T f ρ = (f ρ).bind fun d => if dataD d = true then some (.bool (isiD T d)) else none := rfl
@[simp] theorem isi_bb (b : Bool) : isiD .bool (.bool b) = true := rfl
@[simp] theorem isi_bi (b : Int) : isiD .bool (.int b) = false := rfl
@[simp] theorem isi_bn : isiD .bool .none = false := rfl
@[simp] theorem isi_bs (b : Str) : isiD .bool (.str b) = false := rfl
@[simp] theorem isi_bt (b : List PyData) : isiD .bool (.tuple b) = false := rfl
@[simp] theorem isi_ib (b : Bool) : isiD .int (.bool b) = true := rfl
@[simp] theorem isi_ii (b : Int) : isiD .int (.int b) = true := rfl
@[simp] theorem isi_in : isiD .int .none = false := rfl
@[simp] theorem isi_is (b : Str) : isiD .int (.str b) = false := rfl
@[simp] theorem isi_it (b : List PyData) : isiD .int (.tuple b) = false := rfl
@[simp] theorem isi_ss (b : Str) : isiD .str (.str b) = true := rfl
@[simp] theorem isi_ll (b : List PyData) : isiD .list (.list b) = true := rfl
@[simp] theorem isi_tt (b : List PyData) : isiD .tuple (.tuple b) = true := rfl
/-! ### is -/
@[simp] theorem gIs_i (i : Int) (b : Bool) : gIs (.int i) (.bool b) = some (.bool false) := rfl
@[simp] theorem gIsNot_i (i : Int) (b : Bool) : gIsNot (.int i) (.bool b) = some (.bool true) := rfl
@[simp] theorem gIs_b (a b : Bool) : gIs (.bool a) (.bool b) = some (.bool (a == b)) := rfl
@[simp] theorem gIsNot_b (a b : Bool) : gIsNot (.bool a) (.bool b) = some (.bool (!(a == b))) := rfl
@[simp] theorem gIs_nn : gIs .none .none = some (.bool true) := rfl
@[simp] theorem gIs_bn (a : Bool) : gIs (.bool a) .none = some (.bool false) := rfl
@[simp] theorem gIs_in (a : Int) : gIs (.int a) .none = some (.bool false) := rfl
@[simp] theorem gIs_sn (a : Str) : gIs (.str a) .none = some (.bool false) := rfl
@[simp] theorem gIs_tn (a : List PyData) : gIs (.tuple a) .none = some (.bool false) := rfl
@[simp] theorem gIs_ln (a : List PyData) : gIs (.list a) .none = some (.bool false) := rfl
/-! ### the script's cells -/
def cell (ns : List Int) (k : Nat) : Int := (ns[k]?).getD 0
theorem cutA_one {α : Type} (l : List α) (k : Nat) : cutA l (some (k : Int)) (some ((k : Int) + 1)) = (l[k]?).toList := by
  unfold cutA
  have e1 : ((k : Int) + 1) = ((k + 1 : Nat) : Int) := by omega
  rw [HT.sIx_nat, e1, HT.sIx_nat]
  by_cases h : k < l.length
  · have h1 : min k l.length = k := by omega
    have h2 : min (k + 1) l.length - k = 1 := by omega
    rw [h1, h2, drop_cons_of (List.getElem?_eq_getElem h), List.getElem?_eq_getElem h]
    rfl
  · have h1 : min k l.length = l.length := by omega
    rw [h1, List.drop_length, List.getElem?_eq_none (by omega)]
    simp
theorem cell_ev (ns : List Int) (k : Nat) : (gAdd (.list (cutA (ns.map .int) (some (k : Int)) (some ((k : Int) + 1)))) (.list [.int 0])).bind (fun x => gIx x (.int 0)) = some (.int (cell ns k)) := by
  rw [cutA_one, List.getElem?_map]
  cases h : ns[k]? with
  | none => rw [gAdd_list _ _ (by simp [LIM])]; simp [cell, h]
  | some v => rw [gAdd_list _ _ (by simp [LIM])]; simp [cell, h]
/-! ### an item of a menu, at a remainder -/
theorem atI_mod {α : Type} (l : List α) (i : Int) (n : Int) (hn : n = (l.length : Int)) (h0 : 0 < n) : ∃ x, x ∈ l ∧ atI l (i % n) = some x := by
  have h1 := Int.emod_nonneg i (show n ≠ 0 by omega)
  have h2 := Int.emod_lt_of_pos i h0
  rw [atI_pos _ _ h1]
  have h3 : (i % n).toNat < l.length := by omega
  exact ⟨l[(i % n).toNat], List.getElem_mem h3, List.getElem?_eq_getElem h3⟩
/-! ### loops and comprehensions, the usual ones -/
theorem set_get {α : Type} {l : List α} {j : Nat} {x : α} (h : l[j]? = some x) : l.set j x = l := by
  obtain ⟨h1, h2⟩ := List.getElem?_eq_some_iff.mp h
  subst h2
  exact List.set_getElem_self h1
/-- a loop that looks for one and hands back at once -/
theorem forF_find {j : Nat} {body : SS} {ρ : Rho} {r : PyData} (p : PyData → Bool) : ∀ {ds : List PyData} {s : Sl}, j < ρ.length → (∀ d, d ∈ ds → body (ρ.set j (.val d)) = if p d = true then .rt r ((ρ.set j (.val d)).map frz1) else .nx (ρ.set j (.val d))) →
    ∃ s' r', forF (tg1 j) body ds (ρ.set j s) = if ds.any p = true then .rt r r' else .nx (ρ.set j s')
  | [], s, hj, h => ⟨s, [], by simp [forF]⟩
  | d :: ds, s, hj, h => by
    obtain ⟨s', r', e⟩ := forF_find p (ds := ds) (s := .val d) hj fun d' hd => h d' (List.mem_cons_of_mem _ hd)
    cases hp : p d with
    | true =>
      refine ⟨s', (ρ.set j (.val d)).map frz1, ?_⟩
      rw [forF_cons1, List.set_set, h d List.mem_cons_self]
      simp [hp]
    | false =>
      refine ⟨s', r', ?_⟩
      rw [forF_cons1, List.set_set, h d List.mem_cons_self]
      simp [hp, e]
theorem forF_find0 {j : Nat} {body : SS} {ρ : Rho} {r : PyData} (p : PyData → Bool) {ds : List PyData} (hj : j < ρ.length) (h : ∀ d, d ∈ ds → body (ρ.set j (.val d)) = if p d = true then .rt r ((ρ.set j (.val d)).map frz1) else .nx (ρ.set j (.val d))) :
    ∃ s' r', forF (tg1 j) body ds ρ = if ds.any p = true then .rt r r' else .nx (ρ.set j s') := by
  have e : ρ.set j ρ[j] = ρ := List.set_getElem_self hj
  obtain ⟨s', r', q⟩ := forF_find p (ds := ds) (s := ρ[j]) hj h
  rw [e] at q
  exact ⟨s', r', q⟩
/-- a comprehension without a test | with one -/
theorem lcF_map {j : Nat} {el : SE} {ρ : Rho} (g : PyData → PyData) : ∀ {ds : List PyData}, (∀ d, d ∈ ds → el (ρ.set j (.val d)) = some (g d) ∧ dataD (g d) = true) → lcF j tYesF el ρ ds = some (ds.map g)
  | [], _ => rfl
  | d :: ds, h => by
    have ih := lcF_map g (ds := ds) fun d' hd => h d' (List.mem_cons_of_mem _ hd)
    obtain ⟨h1, h2⟩ := h d List.mem_cons_self
    simp [lcF, h1, h2, ih]
theorem lcF_filter {j : Nat} {tst : STe} {el : SE} {ρ : Rho} (p : PyData → Bool) (g : PyData → PyData) : ∀ {ds : List PyData}, (∀ d, d ∈ ds → tst (ρ.set j (.val d)) = some (p d)) → (∀ d, d ∈ ds → p d = true → el (ρ.set j (.val d)) = some (g d) ∧ dataD (g d) = true) → lcF j tst el ρ ds = some ((ds.filter p).map g)
  | [], _, _ => rfl
  | d :: ds, h, h' => by
    have ih := lcF_filter p g (ds := ds) (fun d' hd => h d' (List.mem_cons_of_mem _ hd)) fun d' hd => h' d' (List.mem_cons_of_mem _ hd)
    have h1 := h d List.mem_cons_self
    cases hp : p d with
    | true =>
      obtain ⟨h2, h3⟩ := h' d List.mem_cons_self hp
      simp [lcF, h1, hp, h2, h3, ih]
    | false => simp [lcF, h1, hp, ih]
@[simp] theorem rangeD_len (lo : Int) (n : Nat) : (rangeD lo n).length = n := by simp [rangeD]
theorem mem_rangeD {lo : Int} {n : Nat} {d : PyData} (h : d ∈ rangeD lo n) : ∃ i : Nat, i < n ∧ d = .int (lo + i) := by
  unfold rangeD at h
  obtain ⟨i, h1, h2⟩ := List.mem_map.mp h
  exact ⟨i, by simpa using h1, h2.symm⟩
@[simp] theorem signsD_len (z : Str) : (signsD z).length = z.length := by simp [signsD, Str.length]
theorem mem_signsD {z : Str} {d : PyData} (h : d ∈ signsD z) : ∃ c, c ∈ z.cps.toList ∧ d = .str ⟨#[c]⟩ := by
  unfold signsD at h
  obtain ⟨c, h1, h2⟩ := List.mem_map.mp h
  exact ⟨c, h1, h2.symm⟩
@[simp] theorem lLc_eq (src : SA) (j : Nat) (t : STe) (f : SE) (ρ : Rho) : lLc src j t f ρ = (src ρ).bind fun ds => if ds.length ≤ LIM then lcF j t f ρ ds else none := rfl
@[simp] theorem iR1_eq (f : SA) (ρ : Rho) : iR1 f ρ = (f ρ).bind fun ds => match ds with
  | [.int j] => if j ≤ 1000000 ∧ -1000000 ≤ j then some (rangeD 0 j.toNat) else none
  | _ => none := rfl
@[simp] theorem iR2_eq (f : SA) (ρ : Rho) : iR2 f ρ = (f ρ).bind fun ds => match ds with
  | [.int i, .int j] => if (j ≤ 1000000 ∧ -1000000 ≤ j) ∧ i ≤ 1000000 ∧ -1000000 ≤ i then some (rangeD i (j - i).toNat) else none
  | _ => none := rfl
def lstD : PyData → Option (List PyData)
  | .list ds => if ds.length ≤ LIM then some ds else none
  | _ => none
@[simp] theorem lstD_list (ds : List PyData) (h : ds.length ≤ LIM) : lstD (.list ds) = some ds := by simp [lstD, h]
@[simp] theorem iL_eq (f : SE) (ρ : Rho) : iL f ρ = (f ρ).bind lstD := by unfold iL lstD; cases f ρ <;> rfl
def tupD : PyData → Option (List PyData)
  | .tuple ds => if ds.length ≤ LIM then some ds else none
  | _ => none
@[simp] theorem tupD_tup (ds : List PyData) (h : ds.length ≤ LIM) : tupD (.tuple ds) = some ds := by simp [tupD, h]
@[simp] theorem iT_eq (f : SE) (ρ : Rho) : iT f ρ = (f ρ).bind tupD := by unfold iT tupD; cases f ρ <;> rfl
def sgD : PyData → Option (List PyData)
  | .str z => if z.length ≤ LIM then some (signsD z) else none
  | _ => none
@[simp] theorem sgD_str (z : Str) (h : z.length ≤ LIM) : sgD (.str z) = some (signsD z) := by simp [sgD, h]
@[simp] theorem iS_eq (f : SE) (ρ : Rho) : iS f ρ = (f ρ).bind sgD := by unfold iS sgD; cases f ρ <;> rfl
/-- an own list's changes -/
def ownL : Option Sl → Option (List PyData)
  | some (.own ds) => some ds
  | _ => none
@[simp] theorem ownL_own (ds : List PyData) : ownL (some (.own ds)) = some ds := rfl
@[simp] theorem sApp_eq (i : Nat) (f : SE) (ρ : Rho) : sApp i f ρ = outL (ownL ρ[i]?) fun ds => outV (f ρ) fun d => if dataD d = true ∧ ds.length ≤ LIM then .nx (ρ.set i (.own (ds ++ [d]))) else .no := by
  unfold sApp
  cases h : ρ[i]? with
  | none => rfl
  | some s =>
    cases s with
    | own ds => cases f ρ <;> rfl
    | _ => rfl
def outI (o : Option PyData) (k : Int → Out) : Out := match o with
  | some (.int i) => k i
  | _ => .no
@[simp] theorem outI_int (i : Int) (k : Int → Out) : outI (some (.int i)) k = k i := rfl
def outN (o : Option Nat) (k : Nat → Out) : Out := match o with
  | some i => k i
  | none => .no
@[simp] theorem outN_some (i : Nat) (k : Nat → Out) : outN (some i) k = k i := rfl
@[simp] theorem sPut_eq (i : Nat) (ix f : SE) (ρ : Rho) : sPut i ix f ρ = outL (ownL ρ[i]?) fun ds => outV (f ρ) fun d => outI (ix ρ) fun k => outN (ixN ds.length k) fun j => if dataD d = true then .nx (ρ.set i (.own (ds.set j d))) else .no := by
  unfold sPut
  cases h : ρ[i]? with
  | none => rfl
  | some s =>
    cases s with
    | own ds =>
      cases f ρ with
      | none => rfl
      | some d =>
        cases ix ρ with
        | none => rfl
        | some k =>
          cases k with
          | int k =>
            show (match ixN ds.length k with
              | some j => _
              | none => Out.no) = outN (ixN ds.length k) _
            cases ixN ds.length k <;> rfl
          | _ => rfl
    | _ => rfl
theorem ixN_of {n : Nat} {i : Int} (h0 : 0 ≤ i) (h1 : i < n) : ixN n i = some i.toNat := by
  unfold ixN
  rw [if_pos h0, if_pos h1]
/-! ### joined texts -/
theorem gJoin_strs (z : Str) (ys : List Str) (h : (ys.map (·.length)).sum + ys.length * z.length ≤ LIM) : gJoin (.str z) (.list (ys.map .str)) = some (.str (Txt.join z ys)) := by
  unfold gJoin
  simp only [strsD_map, Option.bind_some, h, if_true]
end RT
/-! More words: what is never reached, texts split. -/
namespace RT
open PySem PySem.Spec PyProof.Rows L2
def sNo : SS := fun _ => .no
@[simp] theorem sNo_eq (ρ : Rho) : sNo ρ = .no := rfl
def gSplit : PyData → PyData → Option (List PyData)
  | .str a, .str b => if 0 < b.length ∧ a.length + 2 ≤ LIM then some ((Txt.split a b).map .str) else none
  | _, _ => none
@[simp] theorem gSplit_str (a b : Str) (h : 0 < b.length) (h2 : a.length + 2 ≤ LIM) : gSplit (.str a) (.str b) = some ((Txt.split a b).map .str) := by
  simp [gSplit, h, h2]
def lOp (g : PyData → PyData → Option (List PyData)) (f1 f2 : SE) : SA := fun ρ => (f1 ρ).bind fun x => (f2 ρ).bind fun y => g x y
@[simp] theorem lOp_eq (g : PyData → PyData → Option (List PyData)) (f1 f2 : SE) (ρ : Rho) : lOp g f1 f2 ρ = (f1 ρ).bind fun x => (f2 ρ).bind fun y => g x y := rfl
section
variable {X : Cx} {K : PySem.W.Frag} {B : Bs} {W : XW} {e a b : Expr} {t t1 t2 : TE} {f f1 f2 : SE} {ta : TA} {sa : SA} {pos p : Pos} {st : Stmt}
theorem s_never : SemS X K B W st tNever sNo := ⟨ps_never, fun _ _ _ _ _ _ _ _ h => h.elim⟩
abbrev rSplit : V → List V → Hp → VK → Prop := fun x xs H Q => ∃ a b, x = .str a ∧ xs = [.str b] ∧ (b.length == 0) = false ∧ a.length + 2 ≤ sizeLine ∧ rNewStrs (Txt.split a b) H Q
theorem dq_strs {F : Hp} : ∀ ns : List Str, DqAll K F (ns.map V.str) (ns.map PyData.str)
  | [] => .nil
  | n :: ns => .cons (.str n) (dq_strs ns)
theorem split_ok (h1 : BOk K B t1 f1) (h2 : BOk K B t2 f2) : LOk K B (tM1 rSplit t1 t2) (lOp gSplit f1 f2) := fun R F H σ ρ ds E q Q k => by
  cases e1 : f1 ρ with
  | none => simp [e1] at q
  | some x =>
    cases e2 : f2 ρ with
    | none => simp [e1, e2] at q
    | some y =>
      have q' : gSplit x y = some ds := by simpa [e1, e2] using q
      unfold gSplit at q'
      split at q'
      · rename_i z y
        split at q'
        · rename_i hz
          cases q'
          refine h1 R F H σ ρ _ E e1 _ fun v H1 G1 g1 b1 => ⟨⟨z, b1.str⟩, ?_⟩
          refine h2 R G1 H1 σ ρ _ (E.grow g1) e2 _ fun w H2 G2 g2 b2 => ?_
          refine ⟨z, y, b1.str, by rw [b2.str], by simpa using (show y.length ≠ 0 by omega), lim_line hz.2, fun p hp => ?_⟩
          exact k p _ _ G2 ((g1.trans g2).beside hp) ((g1.trans g2).h.free hp) ((g1.trans g2).sub.free hp) upd_same (dq_strs _)
        · cases q'
      · cases q'
theorem sl_split {apos : Pos} (h1 : SemB X K B a t1 f1) (h2 : SemB X K B b t2 f2) (hs : starEach [b] X.env = [(false, eval b X.env)] := by rfl) (hbase : attributeBase a "split" X.env (eval a X.env) = eval a X.env := by rfl) (hline : (apos.endLine == pos.line) = true := by rfl) :
    SemL X K B (.Call (.Attribute a "split" apos) [b] [] pos) (tM1 rSplit t1 t2) (lOp gSplit f1 f2) := ⟨pe_split h1.pe h2.pe hs hbase hline, split_ok h1.ok h2.ok⟩
end
end RT
/-! ### loops that carry a state; data that can be compared -/
namespace RT
open PySem PySem.Spec PyProof.Rows L2
theorem forF_list {j : Nat} {body : SS} (R : Nat → Rho) : ∀ {ds : List PyData} (n : Nat), (∀ k d, ds[k]? = some d → body ((R (n + k)).set j (.val d)) = .nx (R (n + k + 1))) → forF (tg1 j) body ds (R n) = .nx (R (n + ds.length))
  | [], n, _ => rfl
  | d :: ds, n, h => by
    have h0 := h 0 d rfl
    rw [Nat.add_zero] at h0
    rw [forF_cons1, h0, thn_nx]
    have := forF_list R (ds := ds) (n + 1) fun k d' hd => by
      have := h (k + 1) d' (by simpa using hd)
      rw [show n + 1 + k = n + (k + 1) by omega]
      exact this
    rw [this, List.length_cons]
    congr 2
    omega
theorem forF_range {j : Nat} {body : SS} (R : Nat → Rho) (n : Nat) (h : ∀ k : Nat, k < n → body ((R k).set j (.val (.int (k : Int)))) = .nx (R (k + 1))) : forF (tg1 j) body (rangeD 0 n) (R 0) = .nx (R n) := by
  have := forF_list (j := j) (body := body) R (ds := rangeD 0 n) 0 fun k d hd => by
    have hk : k < n := by
      have := (List.getElem?_eq_some_iff.mp hd).1
      simpa using this
    have hd' : d = .int (k : Int) := by
      simp [rangeD, hk] at hd
      exact hd.symm
    rw [hd', Nat.zero_add]
    exact h k hk
  rw [this, rangeD_len, Nat.zero_add]
mutual
/-- data that == may look at -/
def okD : PyData → Bool
  | .str x => PyData.canLay0 (.str x)
  | .list l => okDs l
  | .tuple l => okDs l
  | .dict _ => false
  | _ => true
def okDs : List PyData → Bool
  | [] => true
  | x :: l => okD x && okDs l
end
mutual
theorem okD_lay : ∀ d, okD d = true → d.canLay0 = true
  | .none, _ => by simp [PyData.canLay0]
  | .bool _, _ => by simp [PyData.canLay0]
  | .int _, _ => by simp [PyData.canLay0]
  | .str x, h => by simpa [okD] using h
  | .list l, h => by
    have := okDs_lay l (by simpa [okD] using h)
    simpa [PyData.canLay0] using this
  | .tuple l, h => by
    have := okDs_lay l (by simpa [okD] using h)
    simpa [PyData.canLay0] using this
  | .dict _, h => by simp [okD] at h
theorem okDs_lay : ∀ l, okDs l = true → PyData.canLayAll0 l = true
  | [], _ => by simp [PyData.canLayAll0]
  | x :: l, h => by
    have h' : okD x = true ∧ okDs l = true := by simpa [okDs] using h
    simp [PyData.canLayAll0, okD_lay x h'.1, okDs_lay l h'.2]
end
theorem okDs_all {l : List PyData} : okDs l = l.all okD := by
  induction l with
  | nil => rfl
  | cons x l ih => simp [okDs, ih]
theorem okD_data {d : PyData} (h : okD d = true) : dataD d = true := by
  cases d <;> first | rfl | simp [okD] at h
theorem gEq_same {l : List PyData} (h : okDs l = true) (hd : (PyData.list l).depth ≤ 64) : gEq (.list l) (.list l) = some (.bool true) := by
  have h1 := okD_lay (.list l) (by simpa [okD] using h)
  have h2 : SeqAt.shaped (.list l) = true := by simp [SeqAt.shaped, h1, hd]
  show gEqD (.list l) (.list l) = _
  unfold gEqD
  rw [if_pos ⟨rfl, rfl, h2, h2⟩, SeqAt.eqv_refl _ h1]
theorem gNe_same {l : List PyData} (h : okDs l = true) (hd : (PyData.list l).depth ≤ 64) : gNe (.list l) (.list l) = some (.bool false) := by
  have h1 := okD_lay (.list l) (by simpa [okD] using h)
  have h2 : SeqAt.shaped (.list l) = true := by simp [SeqAt.shaped, h1, hd]
  show gNeD (.list l) (.list l) = _
  unfold gNeD
  rw [if_pos ⟨rfl, rfl, h2, h2⟩, SeqAt.eqv_refl _ h1]
  rfl
theorem depthAll_le {n : Nat} : ∀ {l : List PyData}, (∀ d ∈ l, d.depth ≤ n) → PyData.depthAll l ≤ n
  | [], _ => by simp [PyData.depthAll]
  | d :: l, h => by
    have h1 := h d List.mem_cons_self
    have h2 := depthAll_le fun e he => h e (List.mem_cons_of_mem _ he)
    simp only [PyData.depthAll]
    omega
end RT
/-! Objects of the program: methods that read, that change, that raise. -/
namespace RT
open PySem PySem.Spec PyProof.Rows L2
/-! ### what a call may do -/
inductive Res where
  | no | ret (d : PyData) | exc (c : Str)
def Res.goes (r : Res) (A : PyData → Prop) (B : Str → Prop) : Prop := match r with
  | .no => False
  | .ret d => A d
  | .exc c => B c
def Res.ok : Res → Option PyData
  | .ret d => some d
  | _ => none
/-- what is raised, by the name of its own class -/
abbrev wx (K : PySem.W.Frag) (w : WX) : XW := fun c σ H => w (.ref (He.ga K c)) none σ H
abbrev WxNo : WX := fun _ _ _ _ => False
def EXOk (K : PySem.W.Frag) (B : Bs) (w : WX) (t : TE) (f : Rho → Res) : Prop := ∀ (R : Rg) (F H : Hp) (σ : L2.St) (ρ : Rho) (Q : VK), EnvOk K B R F H σ ρ →
  (f ρ).goes (fun d => ∀ v H' G, Grow H F H' G → Rp K G v d → Q v H') (fun c => ∀ H' G, Grow H F H' G → wx K w c σ H') → t σ H Q
structure SemX (X : Cx) (K : PySem.W.Frag) (B : Bs) (w : WX) (e : Expr) (t : TE) (f : Rho → Res) : Prop where
  pe : PE X e t
  ok : EXOk K B w t f
def sDropX (f : Rho → Res) : SS := fun ρ => match f ρ with
  | .no => .no
  | .ret _ => .nx ρ
  | .exc c => .ex c ρ
def sSetX (i : Nat) (f : Rho → Res) : SS := fun ρ => match f ρ with
  | .no => .no
  | .ret d => .nx (ρ.set i (.val d))
  | .exc c => .ex c ρ
def sEx (c : Str) : SS := fun ρ => .ex c ρ
section
variable {X : Cx} {K : PySem.W.Frag} {B : Bs} {w : WX} {e : Expr} {te : TE} {f : Rho → Res} {pos : Pos}
theorem dropX_ok (k : EXOk K B w te f) : SSOk K B (wx K w) (tDrop te) (sDropX f) := fun Z R F H σ ρ D s hg => by
  unfold sDropX at hg
  refine k R F H σ ρ _ s.env ?_
  cases e : f ρ with
  | no => rw [e] at hg; exact hg.elim
  | ret d => rw [e] at hg; exact fun v H' G g _ => hg σ H' R G (s.grow g) g.f
  | exc c => rw [e] at hg; exact fun H' G g => hg σ H' R G (s.grow g) g.f
theorem setX_ok (i : Nat) (k : EXOk K B w te f) : SSOk K B (wx K w) (tAsg te (gName i)) (sSetX i f) := fun Z R F H σ ρ D s hg => by
  unfold sSetX at hg
  refine k R F H σ ρ _ s.env ?_
  cases e : f ρ with
  | no => rw [e] at hg; exact hg.elim
  | ret d => rw [e] at hg; exact fun v H' G g r => hg _ H' R G ((s.grow g).setV i r) g.f
  | exc c => rw [e] at hg; exact fun H' G g => hg σ H' R G (s.grow g) g.f
theorem s_exprX (he : SemX X K B w e te f) (hs : swapsWith e none pos.line X.env = pure false := by rfl) : SemS X K B (wx K w) (.Expr e pos) (tDrop te) (sDropX f) := ⟨ps_expr he.pe hs, dropX_ok he.ok⟩
theorem s_setX (i : Nat) {x : Str} {pos' : Pos} (hN : X.N.Nodup) (he : SemX X K B w e te f) (hi : X.N[i]? = some x := by rfl) (hx : Loc X.env.scope x := by first | exact Or.inl rfl | exact Or.inr rfl) (hs : swapsWith e (some (.Name x pos')) pos.line X.env = pure false := by rfl)
    (hf : X.fn x = true ∨ X.env.scope.names.lookup x = some .local := by first | exact .inl rfl | exact .inr rfl) : SemS X K B (wx K w) (.Assign [.Name x pos'] e pos) (tAsg te (gName i)) (sSetX i f) := ⟨ps_set hN hi hx he.pe hs hf, setX_ok i he.ok⟩
/-- an own class of exceptions -/
structure ExT (K : PySem.W.Frag) (mg : Str → Option Value) (c : Str) : Prop where
  g : mg c = some (.ref (He.ga K c))
  x : PySem.W.excIn K (He.ga K c) He.veBase "ValueError.__new__" = true
  k : PySem.W.keepIn K (.ref (He.ga K c)) = true
  b : PySem.W.subIn K (.ref (He.ga K c)) (.type "BaseException") = some true
  t : PySem.W.typeIn K (.ref (He.ga K c)) = some (.type "type")
theorem s_raise {x m : Str} {j : Nat} {p p2 pos2 : Pos} (hc : X.calm = true) (tk : Takes X w) (T : ExT X.K X.mg x) (hg : Gl X x := by rfl) (hdb : (x == ("__debug__" : Str)) = false := by decide) (hK : X.K = K := by rfl) :
    SemS X K B (wx K w) (.Raise (some (.Call (.Name x p) [.Constant (.str m) j p2] [] pos)) none pos2) (fun _ σ H => w (.ref (He.ga K x)) none σ H) (sEx x) := by
  subst hK
  exact ⟨ps_raise hc tk (pmk_own PySem.F.excBase_ValueError T.x T.g T.k (raises_own T.b T.t) hg hdb), fun Z R F H σ ρ D s hg => hg σ H R F s (Same.refl F)⟩
end
/-! ### a method's call, what is raised wished at the caller's slots -/
def tMethS (C : Addr) (m : Str) (sp : Sp) (E : L2.St → XK) (ta : TE) (t : TA) : TE := fun σ H Q => ta σ H fun x H1 => ∃ a dx fs, x = .ref a ∧ H1 a = some (.ins C dx fs) ∧ fs.lookup m = none ∧ t σ H1 fun vs H2 => sp (x :: vs) H2 Q (E σ)
theorem pe_methW {X : Cx} {w : WX} {C f : Addr} {fd : FuncData} {ps : List Str} {m : Str} {k j : Nat} {sp : Sp} {o e : Expr} {es : List Expr} {ta : TE} {t : TA} {apos pos : Pos} {pl : Sem Bool} (tk : Takes X w) (ho : PE X o ta) (cl : Cls X.K C) (me : Meth X.K C m f)
    (G : FnOk X.prog X.w X.K X.mg X.base (L2.CX X.prog X.w) k f fd ps sp) (hr : Room j X.A) (hk : k ≤ j) (bd : Binds X.K fd ps []) (hp : PA X (e :: es) t)
    (h1 : starEach (e :: es) X.env = (false, eval e X.env) :: starEach es X.env := by rfl) (h2 : (backTo pos (starEach es X.env)).any (·.1) = false := by rfl)
    (h3 : eval (.Call (.Attribute o m apos) (e :: es) [] pos) X.env = (eval o X.env >>= fun ov => standAt apos.atName >>= fun _ => holding [ov] (getMethod ov m pl) >>= fun r => callWith pos r.1 r.2 (backTo pos (starEach (e :: es) X.env)) (backToKw pos (keywordEach [] X.env))) := by rfl) :
    PE X (.Call (.Attribute o m apos) (e :: es) [] pos) (tMethS C m sp (WE w) ta t) :=
  ⟨fun pins s σ H Q I h => PySem.W.methodCall_KW (pl := pl) (thn (ho.run pins s σ H _ I h) fun u s1 ⟨x, Ha, Ia, rx, a, dx, fs, ex, ea, lk, q⟩ => by
    cases ex
    cases rx
    exact getmeth_ok Ia ea cl me lk (PySem.W.callWith_K (first := [.ref a]) (h₀ := X.base) Ia.ok.mod.kin me.kp (thn (hp.run pos pins s1 σ Ha _ Ia q) fun us s2 ⟨vs, Hb, Ib, rv, q2⟩ => ⟨Ib.kIn, run_fnS (us := .ref a :: us) (vs := .ref a :: vs) G (hr.mono hk) bd (passAt tk σ) Ib (.cons rfl rv) q2⟩) h1 h2)) h3⟩
end RT
/-! Objects in slots: made, read, changed. -/
namespace RT
open PySem PySem.Spec PyProof.Rows L2
/-- a kind of objects -/
structure Kd (S : Type) where
  inj : S → ObjSt
  prj : ObjSt → Option S
  ok : ∀ {o : ObjSt} {s : S}, prj o = some s → o = inj s
  pi : ∀ s, prj (inj s) = some s
/-- of a class, with fields -/
structure KdC {S : Type} (kd : Kd S) (C : Str) (fl : List Str) : Prop where
  ins : ∀ {K : PySem.W.Frag} {F R : Hp} {a : Addr} {s : S}, ObjAt K F R a (kd.inj s) → ∃ dx fs, R a = some (.ins (He.ga K C) dx fs) ∧ fs.map (·.1) = fl
abbrev kB : Kd BookSt where
  inj := .book
  prj := fun o => match o with
    | .book β => some β
    | _ => none
  ok := fun {o s} h => by cases o <;> simp at h; subst h; rfl
  pi := fun _ => rfl
abbrev kD : Kd DealSt where
  inj := .deal
  prj := fun o => match o with
    | .deal δ => some δ
    | _ => none
  ok := fun {o s} h => by cases o <;> simp at h; subst h; rfl
  pi := fun _ => rfl
abbrev kW : Kd (List Cell) where
  inj := .row
  prj := fun o => match o with
    | .row δ => some δ
    | _ => none
  ok := fun {o s} h => by cases o <;> simp at h; subst h; rfl
  pi := fun _ => rfl
abbrev kT : Kd (List (Int × PyData)) where
  inj := .dct
  prj := fun o => match o with
    | .dct δ => some δ
    | _ => none
  ok := fun {o s} h => by cases o <;> simp at h; subst h; rfl
  pi := fun _ => rfl
abbrev kA : Kd ObjSt where
  inj := fun o => o
  prj := some
  ok := fun h => Option.some.inj h
  pi := fun _ => rfl
def flB : List Str := ["skills", "limits", "rests", "stretches", "needs"]
def flD : List Str := "limits" :: nmD
theorem kcB : KdC kB "Book" flB := ⟨fun {K F R a s} h => by
  obtain ⟨dx, dS, dL, dR, dT, dN, pe, sh, h⟩ := h
  exact ⟨dx, _, h.ob, rfl⟩⟩
theorem kcD : KdC kD "Deal" flD := ⟨fun {K F R a s} h => by
  obtain ⟨dx, dL, as, h⟩ := h
  refine ⟨dx, _, h.ob, ?_⟩
  have := h.la
  match as, this with
  | [_, _, _, _], _ => rfl⟩
theorem lookup_no {α : Type} {m : Str} : ∀ {fs : List (Str × α)}, (fs.map (·.1)).all (fun f => !(m == f)) = true → fs.lookup m = none
  | [], _ => rfl
  | (f, v) :: fs, h => by
    simp only [List.map_cons, List.all_cons, Bool.and_eq_true, Bool.not_eq_true'] at h
    rw [List.lookup_cons, h.1]
    exact lookup_no h.2
/-- no field has the method's name -/
def noFl (fl : List Str) (m : Str) : Prop := fl.all (fun f => !(m == f)) = true
/-! ### promises -/
inductive RMG (S : Type) where
  | no | done (s : S) (d : PyData) | exc (c : Str)
abbrev RM := RMG BookSt
def RMG.goes {S : Type} (r : RMG S) (A : S → PyData → Prop) (B : Str → Prop) : Prop := match r with
  | .no => False
  | .done β d => A β d
  | .exc c => B c
/-- a reading method (or function): the object first -/
def spRG {S : Type} (K : PySem.W.Frag) (kd : Kd S) (Fr : S → List PyData → Res) : Sp := fun vs H Q E => ∃ (G R : Hp) (a : Addr) (β : S) (us : List V) (ds : List PyData), vs = .ref a :: us ∧ Same G H ∧ Same R H ∧ Apart R G ∧ ObjAt K G R a (kd.inj β) ∧ RpAll K G us ds ∧
  (Fr β ds).goes (fun d => ∀ v H' G', Grow H G H' G' → Rp K G' v d → Q v H') (fun c => ∀ H' G', Grow H G H' G' → E (.ref (He.ga K c)) none H')
/-- one that may change the object -/
def spMG {S : Type} (K : PySem.W.Frag) (kd : Kd S) (Fm : S → List PyData → RMG S) : Sp := fun vs H Q E => ∃ (G R : Hp) (a : Addr) (β : S) (us : List V) (ds : List PyData), vs = .ref a :: us ∧ Same G H ∧ Same R H ∧ Apart R G ∧ ObjAt K G R a (kd.inj β) ∧ RpAll K G us ds ∧
  (Fm β ds).goes (fun β' d => ∀ v H' G' R', GrowM ⟨R, H, G⟩ H' G' → Same R' H' → Apart R' G' → (∀ x, R' x ≠ none → R x ≠ none ∨ H x = none) → ObjAt K G' R' a (kd.inj β') → Rp K G' v d → Q v H') (fun c => ∀ H' G', Grow H G H' G' → E (.ref (He.ga K c)) none H')
/-- one that may change the object, others being read -/
def spMB (K : PySem.W.Frag) (Fm : (Addr → Option ObjSt) → ObjSt → List PyData → RMG ObjSt) : Sp := fun vs H Q E => ∃ (B : Bs) (G R : Hp) (a : Addr) (o : ObjSt) (us : List V) (ds : List PyData), vs = .ref a :: us ∧ Same G H ∧ Same R H ∧ Apart R G ∧ BsOk K B G H ∧ Apart R B.h ∧ ObjAt K G R a o ∧ RpAll K G us ds ∧
  (Fm B.bk o ds).goes (fun o' d => ∀ v H' G' R', GrowM ⟨R, H, G⟩ H' G' → Same R' H' → Apart R' G' → (∀ x, R' x ≠ none → R x ≠ none ∨ H x = none) → ObjAt K G' R' a o' → Rp K G' v d → Q v H') (fun c => ∀ H' G', Grow H G H' G' → E (.ref (He.ga K c)) none H')
def spR (K : PySem.W.Frag) (Fr : BookSt → List PyData → Res) : Sp := fun vs H Q E => ∃ (G R : Hp) (a : Addr) (β : BookSt) (us : List V) (ds : List PyData), vs = .ref a :: us ∧ Same G H ∧ Same R H ∧ Apart R G ∧ BookAt K G R a β ∧ RpAll K G us ds ∧
  (Fr β ds).goes (fun d => ∀ v H' G', Grow H G H' G' → Rp K G' v d → Q v H') (fun c => ∀ H' G', Grow H G H' G' → E (.ref (He.ga K c)) none H')
def spM (K : PySem.W.Frag) (Fm : BookSt → List PyData → RM) : Sp := fun vs H Q E => ∃ (G R : Hp) (a : Addr) (β : BookSt) (us : List V) (ds : List PyData), vs = .ref a :: us ∧ Same G H ∧ Same R H ∧ Apart R G ∧ BookAt K G R a β ∧ RpAll K G us ds ∧
  (Fm β ds).goes (fun β' d => ∀ v H' G' R', GrowM ⟨R, H, G⟩ H' G' → Same R' H' → Apart R' G' → (∀ x, R' x ≠ none → R x ≠ none ∨ H x = none) → BookAt K G' R' a β' → Rp K G' v d → Q v H') (fun c => ∀ H' G', Grow H G H' G' → E (.ref (He.ga K c)) none H')
theorem spR_eq (K : PySem.W.Frag) (Fr : BookSt → List PyData → Res) : spRG K kB Fr = spR K Fr := rfl
theorem spM_eq (K : PySem.W.Frag) (Fm : BookSt → List PyData → RM) : spMG K kB Fm = spM K Fm := rfl
def addrOf : PyData → Option Addr
  | .dict [(.int a, .none)] => some a.toNat
  | _ => none
theorem addrOf_ok {d : PyData} {a : Addr} (h : addrOf d = some a) {K : PySem.W.Frag} {F : Hp} {v : V} (r : Rp K F v d) : v = .ref a := by
  unfold addrOf at h
  split at h
  · rename_i i
    cases h
    rcases r with r | ⟨b, rfl, e⟩ | ⟨b, ns, _, e, _⟩
    · cases r
    · unfold refD at e
      cases e
      rfl
    · cases e
  · cases h
/-- the object that slot i names -/
def rcv {S : Type} (kd : Kd S) (bk : Addr → Option ObjSt) (ρ : Rho) (i : Nat) : Option S := match ρ[i]? with
  | some (.obj o) => kd.prj o
  | some (.val d) => ((addrOf d).bind bk).bind kd.prj
  | _ => none
theorem rcv_ok {S : Type} {kd : Kd S} {K : PySem.W.Frag} {B : Bs} {R : Rg} {F H : Hp} {σ : L2.St} {ρ : Rho} {i : Nat} {β : S} (E : EnvOk K B R F H σ ρ) (h : rcv kd B.bk ρ i = some β) : ∃ a R', σ[i]? = some (some (.ref a)) ∧ ObjAt K F R' a (kd.inj β) ∧ Same R' H ∧ Apart R' F := by
  unfold rcv at h
  split at h
  · rename_i o e
    have := kd.ok h
    subst this
    obtain ⟨a, h1, h2⟩ := E.obj i _ e
    exact ⟨a, R i, h1, h2, E.rh i, E.rF i⟩
  · rename_i d e
    cases ha : addrOf d with
    | none => rw [ha] at h; cases h
    | some a =>
      rw [ha, Option.bind_some] at h
      cases ho : B.bk a with
      | none => rw [ho] at h; cases h
      | some o =>
        rw [ho, Option.bind_some] at h
        have := kd.ok h
        subst this
        obtain ⟨v, h1, h2⟩ := E.val i d e
        have := addrOf_ok ha h2
        subst this
        exact ⟨a, B.h, h1, (E.bo a _ ho).mono E.bs (Same.refl _), E.bh, E.bF⟩
  · cases h
theorem BookAt.ins {K : PySem.W.Frag} {F R H : Hp} {a : Addr} {β : BookSt} (h : BookAt K F R a β) (e : Same R H) : ∃ dx dS dL dR dT dN, H a = some (.ins (He.ga K "Book") dx (bkFs dS dL dR dT dN)) := by
  obtain ⟨dx, dS, dL, dR, dT, dN, pe, sh, h⟩ := h
  exact ⟨dx, dS, dL, dR, dT, dN, e _ _ h.ob⟩
def xMeth {S : Type} (kd : Kd S) (bk : Addr → Option ObjSt) (i : Nat) (Fr : S → List PyData → Res) (sa : SA) : Rho → Res := fun ρ => match rcv kd bk ρ i, sa ρ with
  | some β, some ds => Fr β ds
  | _, _ => .no
def eMeth {S : Type} (kd : Kd S) (bk : Addr → Option ObjSt) (i : Nat) (Fr : S → List PyData → Res) (sa : SA) : SE := fun ρ => (xMeth kd bk i Fr sa ρ).ok
def bkNo (m : Str) : Prop := ∀ dS dL dR dT dN, (bkFs dS dL dR dT dN).lookup m = none
theorem bkNo_of {m : Str} (h : (["skills", "limits", "rests", "stretches", "needs"] : List Str).all (fun f => !(m == f)) = true) : bkNo m := fun dS dL dR dT dN => by
  simp only [List.all_cons, List.all_nil, Bool.and_true, Bool.and_eq_true, Bool.not_eq_true'] at h
  obtain ⟨h1, h2, h3, h4, h5⟩ := h
  simp [bkFs, List.lookup, h1, h2, h3, h4, h5]
section
variable {S : Type} {kd : Kd S} {C : Str} {fl : List Str} {X : Cx} {K : PySem.W.Frag} {B : Bs} {w : WX} {e : Expr} {ta : TA} {sa : SA} {i : Nat} {m : Str} {Fr : S → List PyData → Res}
theorem methX_ok (kc : KdC kd C fl) (hn : noFl fl m) (ha : AOk K B ta sa) : EXOk K B w (tMethS (He.ga K C) m (spRG K kd Fr) (WE w) (tVar i) ta) (xMeth kd B.bk i Fr sa) := fun R F H σ ρ Q E q => by
  unfold xMeth at q
  cases e1 : rcv kd B.bk ρ i with
  | none => rw [e1] at q; exact (show False from q).elim
  | some β =>
    cases e2 : sa ρ with
    | none => rw [e1, e2] at q; exact (show False from q).elim
    | some ds =>
      rw [e1, e2] at q
      obtain ⟨a, R', s1, bA, sR, ap⟩ := rcv_ok E e1
      obtain ⟨dx, fs, ho, hf⟩ := kc.ins bA
      refine ⟨.ref a, s1, a, dx, _, rfl, sR _ _ ho, lookup_no (by rw [hf]; exact hn), ?_⟩
      refine ha _ F H σ ρ ds E e2 _ fun vs H1 G1 g1 r1 => ?_
      refine ⟨G1, R', a, β, vs, ds, rfl, g1.sub, sR.trans g1.h, g1.apart sR ap, bA.mono g1.f (Same.refl _), r1, ?_⟩
      cases e3 : Fr β ds with
      | no => simp only [e3] at q; exact (show False from q).elim
      | ret d => simp only [e3] at q ⊢; exact fun v H' G' g r => q v H' G' (g1.trans g) r
      | exc c => simp only [e3] at q ⊢; exact fun H' G' g => q H' G' (g1.trans g)
theorem meth_okE (kc : KdC kd C fl) (hn : noFl fl m) (ha : AOk K B ta sa) : EOk K B (tMeth (He.ga K C) m (spRG K kd Fr) [] E0 (tVar i) ta) (eMeth kd B.bk i Fr sa) := fun R F H σ ρ d E q Q k => by
  unfold eMeth xMeth at q
  cases e1 : rcv kd B.bk ρ i with
  | none => rw [e1] at q; cases q
  | some β =>
    cases e2 : sa ρ with
    | none => rw [e1, e2] at q; cases q
    | some ds =>
      rw [e1, e2] at q
      obtain ⟨a, R', s1, bA, sR, ap⟩ := rcv_ok E e1
      obtain ⟨dx, fs, ho, hf⟩ := kc.ins bA
      refine ⟨.ref a, s1, a, dx, _, rfl, sR _ _ ho, lookup_no (by rw [hf]; exact hn), ?_⟩
      refine ha _ F H σ ρ ds E e2 _ fun vs H1 G1 g1 r1 => ?_
      rw [List.append_nil]
      refine ⟨G1, R', a, β, vs, ds, rfl, g1.sub, sR.trans g1.h, g1.apart sR ap, bA.mono g1.f (Same.refl _), r1, ?_⟩
      cases e3 : Fr β ds with
      | no => simp [e3, Res.ok] at q
      | ret d' =>
        simp [e3, Res.ok] at q
        subst q
        exact fun v H' G' g r => k v H' G' (g1.trans g) r
      | exc c => simp [e3, Res.ok] at q
end
/-! ### an object is made, changed -/
/-- a slot's object -/
def slO {S : Type} (kd : Kd S) : Option Sl → Option S
  | some (.obj o) => kd.prj o
  | _ => none
theorem slO_ok {S : Type} {kd : Kd S} {x : Option Sl} {s : S} (h : slO kd x = some s) : x = some (.obj (kd.inj s)) := by
  unfold slO at h
  split at h
  · rw [kd.ok h]
  · cases h
def updR (R : Rg) (i : Nat) (Rn : Hp) : Rg := fun j => if j = i then Rn else R j
theorem updR_same {R : Rg} {i : Nat} {Rn : Hp} : updR R i Rn i = Rn := if_pos rfl
theorem updR_ne {R : Rg} {i j : Nat} {Rn : Hp} (h : j ≠ i) : updR R i Rn j = R j := if_neg h
def sMkB (i : Nat) : SS := fun ρ => .nx (ρ.set i (.obj (.book ⟨[], []⟩)))
def sMut {S : Type} (kd : Kd S) (i : Nat) (Fm : S → List PyData → RMG S) (sa : SA) : SS := fun ρ => match slO kd ρ[i]?, sa ρ with
  | some β, some ds => (match Fm β ds with
    | .no => .no
    | .done β' _ => .nx (ρ.set i (.obj (kd.inj β')))
    | .exc c => .ex c ρ)
  | _, _ => .no
/-- x = o.m(..): slot j gets what comes back -/
def sMutS {S : Type} (kd : Kd S) (i j : Nat) (Fm : S → List PyData → RMG S) (sa : SA) : SS := fun ρ => match slO kd ρ[i]?, sa ρ with
  | some β, some ds => (match Fm β ds with
    | .no => .no
    | .done β' d => .nx ((ρ.set i (.obj (kd.inj β'))).set j (.val d))
    | .exc c => .ex c ρ)
  | _, _ => .no
theorem EnvOk.setO {K : PySem.W.Frag} {B : Bs} {R : Rg} {R' F G H H' : Hp} {σ : L2.St} {ρ : Rho} {i : Nat} {a : Addr} {o : ObjSt} {x : Option V} (E : EnvOk K B R F H σ ρ) (hx : i < ρ.length → (σ.set i x)[i]? = some (some (.ref a)))
    (f : Same F G) (sub : Same G H') (hB : Same B.h H') (bF : Apart B.h G) (rh : Same R' H') (rF : Apart R' G) (rB : Apart R' B.h) (oth : ∀ j, j ≠ i → Same (R j) H' ∧ Apart (R j) G ∧ Apart R' (R j)) (hO : ObjAt K G R' a o)
    (hoa : i = 0 → ∀ a0, B.o = some a0 → a = a0) (own : ∀ p vs, H p = some (.lst vs) → F p = none → (∀ j, R j p = none) → H' p = some (.lst vs) ∧ G p = none ∧ R' p = none) : EnvOk K B (updR R i R') G H' (σ.set i x) (ρ.set i (.obj o)) where
  bs := E.bs.trans f
  bh := hB
  bF := bF
  bo := E.bo
  ex := sub
  rh := fun j => by
    by_cases h : j = i
    · subst h; rw [updR_same]; exact rh
    · rw [updR_ne h]; exact (oth j h).1
  rF := fun j => by
    by_cases h : j = i
    · subst h; rw [updR_same]; exact rF
    · rw [updR_ne h]; exact (oth j h).2.1
  rB := fun j => by
    by_cases h : j = i
    · subst h; rw [updR_same]; exact rB
    · rw [updR_ne h]; exact E.rB j
  rr := fun j k hjk => by
    by_cases h : j = i
    · subst h
      rw [updR_same, updR_ne (Ne.symm hjk)]
      exact (oth k (Ne.symm hjk)).2.2
    · by_cases h2 : k = i
      · subst h2
        rw [updR_same, updR_ne hjk]
        exact (oth j hjk).2.2.sym
      · rw [updR_ne h, updR_ne h2]; exact E.rr j k hjk
  len := by simp [E.len]
  val := fun j d h => by
    by_cases hij : i = j
    · subst hij
      by_cases hj : i < ρ.length
      · rw [List.getElem?_set_self hj] at h
        cases h
      · rw [List.getElem?_eq_none (by simpa using hj)] at h
        cases h
    · rw [List.getElem?_set_ne hij] at h ⊢
      obtain ⟨v, h1, h2⟩ := E.val j d h
      exact ⟨v, h1, h2.mono f⟩
  own := fun j ds h => by
    by_cases hij : i = j
    · subst hij
      by_cases hj : i < ρ.length
      · rw [List.getElem?_set_self hj] at h
        cases h
      · rw [List.getElem?_eq_none (by simpa using hj)] at h
        cases h
    · rw [List.getElem?_set_ne hij] at h ⊢
      obtain ⟨p, vs, h1, h2, h3, h4, h5, h6⟩ := E.own j ds h
      obtain ⟨k1, k2, k3⟩ := own p vs h2 h4 h5
      refine ⟨p, vs, h1, k1, dpa_mono f ds h3, k2, fun k => ?_, h6⟩
      by_cases hk : k = i
      · subst hk; rw [updR_same]; exact k3
      · rw [updR_ne hk]; exact h5 k
  dis := fun j k ds es p hjk h1 h2 h3 h4 => by
    by_cases hij : i = j
    · subst hij
      by_cases hj : i < ρ.length
      · rw [List.getElem?_set_self hj] at h1
        cases h1
      · rw [List.getElem?_eq_none (by simpa using hj)] at h1
        cases h1
    · by_cases hik : i = k
      · subst hik
        by_cases hj : i < ρ.length
        · rw [List.getElem?_set_self hj] at h2
          cases h2
        · rw [List.getElem?_eq_none (by simpa using hj)] at h2
          cases h2
      · rw [List.getElem?_set_ne hij] at h1 h3
        rw [List.getElem?_set_ne hik] at h2 h4
        exact E.dis j k ds es p hjk h1 h2 h3 h4
  obj := fun j o' h => by
    by_cases hij : i = j
    · subst hij
      by_cases hj : i < ρ.length
      · rw [List.getElem?_set_self hj] at h
        cases h
        exact ⟨a, hx hj, by rw [updR_same]; exact hO⟩
      · rw [List.getElem?_eq_none (by simpa using hj)] at h
        cases h
    · rw [List.getElem?_set_ne hij] at h ⊢
      obtain ⟨b, h1, h2⟩ := E.obj j o' h
      exact ⟨b, h1, by rw [updR_ne (Ne.symm hij)]; exact h2.mono f (Same.refl _)⟩
  oa := fun a0 q o' a' h hs => by
    by_cases hij : i = 0
    · subst hij
      by_cases hj : 0 < ρ.length
      · rw [hx hj] at hs
        cases hs
        exact hoa rfl a0 q
      · rw [List.getElem?_eq_none (by simpa using hj)] at h
        cases h
    · rw [List.getElem?_set_ne hij] at h hs
      exact E.oa a0 q o' a' h hs
theorem frO {ρ : Rho} {σ : L2.St} {i : Nat} {o : ObjSt} {x : Option V} {h : Hp} (fr : ∀ (j : Nat) (ds : List PyData) (p : Addr), ρ[j]? = some (.own ds) → σ[j]? = some (some (.ref p)) → h p = none) :
    ∀ (j : Nat) (ds : List PyData) (p : Addr), (ρ.set i (.obj o))[j]? = some (.own ds) → (σ.set i x)[j]? = some (some (.ref p)) → h p = none := fun j ds p h1 h2 => by
  by_cases hij : i = j
  · subst hij
    by_cases hj : i < ρ.length
    · rw [List.getElem?_set_self hj] at h1
      cases h1
    · rw [List.getElem?_eq_none (by simpa using hj)] at h1
      cases h1
  · rw [List.getElem?_set_ne hij] at h1 h2
    exact fr j ds p h1 h2
theorem same_set {σ : L2.St} {i : Nat} {a : Addr} (hs : σ[i]? = some (some (V.ref a))) : σ.set i (some (.ref a)) = σ := by
  obtain ⟨h1, h2⟩ := List.getElem?_eq_some_iff.mp hs
  rw [← h2]
  exact List.set_getElem_self h1
/-- behind a change of the object -/
theorem StOk.mut {K : PySem.W.Frag} {B : Bs} {Z : St0} {R : Rg} {F H R' G' H' : Hp} {σ : L2.St} {ρ : Rho} {i : Nat} {a : Addr} {o' : ObjSt} (s : StOk K B Z R F H σ ρ) (hs : σ[i]? = some (some (.ref a)))
    (g : GrowM ⟨R i, H, F⟩ H' G') (rh : Same R' H') (rF : Apart R' G') (rn : ∀ x, R' x ≠ none → R i x ≠ none ∨ H x = none) (ho : i = 0 → ∀ a0, B.o = some a0 → a = a0) (bA : ObjAt K G' R' a o') : StOk K B Z (updR R i R') G' H' σ (ρ.set i (.obj o')) := by
  have e := same_set hs
  have zh : ∀ x, Z.h x ≠ none → H x ≠ none := s.gr.al
  have rz : ∀ x, Z.m x = none → Z.h x ≠ none → R i x = none := fun x h1 h2 => by
    cases hR : R i x with
    | none => rfl
    | some o => rcases s.fo i x (by rw [hR]; intro z; cases z) with h | h
                · exact absurd h1 h
                · exact absurd h h2
  refine ⟨?_, ⟨fun x o h1 h2 => ?_, fun x h => g.al x (zh x h), s.gr.f.trans g.f, g.sub, fun x h1 h2 => g.no x (s.gr.no x h1 h2) (zh x h2)⟩, ?_, fun j x h => ?_⟩
  · have := s.env.setO (i := i) (x := some (.ref a)) (R' := R') (G := G') (H' := H') (o := o') (fun hj => by rw [List.getElem?_set_self (by rw [← s.env.len]; exact hj)]) g.f g.sub
      (fun x o h => g.h x o (by cases hR : R i x with
        | none => exact hR
        | some u => have := s.env.rB i x (by rw [hR]; intro z; cases z); rw [this] at h; cases h) (s.env.bh x o h))
      (fun x h => g.no x (s.env.bF x h) fun z => h (s.env.bh.free z)) rh rF
      (fun x h => by
        rcases rn x h with z | z
        · exact s.env.rB i x z
        · exact s.env.bh.free z)
      (fun j hj => ⟨fun x o h => g.h x o (by cases hR : R i x with
        | none => exact hR
        | some u => have := s.env.rr i j (Ne.symm hj) x (by rw [hR]; intro z; cases z); rw [this] at h; cases h) (s.env.rh j x o h),
        fun x h => g.no x (s.env.rF j x h) fun z => h ((s.env.rh j).free z),
        fun x h => by
          rcases rn x h with z | z
          · exact s.env.rr i j (Ne.symm hj) x z
          · exact (s.env.rh j).free z⟩) bA ho
      (fun p vs h1 h2 h3 => ⟨g.h p _ (h3 i) h1, g.no p h2 (by show H p ≠ none; rw [h1]; intro z; cases z), by
        cases hR : R' p with
        | none => rfl
        | some u => rcases rn p (by rw [hR]; intro z; cases z) with z | z
                    · exact absurd (h3 i) z
                    · rw [h1] at z; cases z⟩)
    rw [e] at this
    exact this
  · have h0 : Z.h x ≠ none := by rw [h2]; intro z; cases z
    exact g.h x o (rz x h1 h0) (s.gr.h x o h1 h2)
  · have := frO (i := i) (o := o') (x := some (.ref a)) s.fr
    rw [e] at this
    exact this
  · by_cases hj : j = i
    · subst hj
      rw [updR_same] at h
      rcases rn x h with z | z
      · exact s.fo j x z
      · refine .inr ?_
        cases hz : Z.h x with
        | none => rfl
        | some u => exact absurd z (zh x (by rw [hz]; intro q; cases q))
    · rw [updR_ne hj] at h
      exact s.fo j x h
section
variable {S : Type} {kd : Kd S} {C : Str} {fl : List Str} {X : Cx} {K : PySem.W.Frag} {B : Bs} {w : WX} {e : Expr} {ta : TA} {sa : SA} {i j : Nat} {m : Str} {Fm : S → List PyData → RMG S}
theorem mut_sp {Z : St0} {R : Rg} {F H : Hp} {σ : L2.St} {ρ : Rho} {D : Ends} {W : XW} {E : XK} (s : StOk K B Z R F H σ ρ) (hg : Goes K B Z F D W (sMut kd i Fm sa ρ)) (hE : ∀ c H', W c σ H' → E (.ref (He.ga K c)) none H') :
    ∃ a R' ds β, σ[i]? = some (some (.ref a)) ∧ Same R' H ∧ ObjAt K F R' a (kd.inj β) ∧ sa ρ = some ds ∧ ∀ H1 G1 vs, Grow H F H1 G1 → RpAll K G1 vs ds → spMG K kd Fm (.ref a :: vs) H1 (fun _ H' => D.nx σ H') E := by
  unfold sMut at hg
  split at hg
  · rename_i β ds h1 h2
    have h0 := slO_ok h1
    obtain ⟨a, s1, bA⟩ := s.env.obj i _ h0
    refine ⟨a, R i, ds, β, s1, s.env.rh i, bA, h2, fun H1 G1 vs g1 r1 => ?_⟩
    have s' := s.grow g1
    refine ⟨G1, R i, a, β, vs, ds, rfl, g1.sub, s'.env.rh i, s'.env.rF i, bA.mono g1.f (Same.refl _), r1, ?_⟩
    cases e3 : Fm β ds with
    | no => simp only [e3] at hg; exact hg.elim
    | done β' d =>
      simp only [e3] at hg ⊢
      exact fun v H' G' R' g rh rF rn bA' r => hg σ H' _ G' (s'.mut s1 g rh rF rn (fun hi a0 q => by subst hi; exact s.env.oa a0 q _ a h0 s1) bA') (g1.f.trans g.f)
    | exc c =>
      simp only [e3] at hg ⊢
      exact fun H' G' g => hE c H' (hg σ H' R G' (s'.grow g) (g1.f.trans g.f))
  · exact hg.elim
theorem mutX_ok (kc : KdC kd C fl) (hn : noFl fl m) (ha : AOk K B ta sa) : SSOk K B (wx K w) (tDrop (tMethS (He.ga K C) m (spMG K kd Fm) (WE w) (tVar i) ta)) (sMut kd i Fm sa) := fun Z R F H σ ρ D s hg => by
  obtain ⟨a, R', ds, β, s1, sR, bA, hs, k⟩ := mut_sp (E := WE w σ) s hg fun c H' h => h
  obtain ⟨dx, fs, ho, hf⟩ := kc.ins bA
  exact ⟨.ref a, s1, a, dx, fs, rfl, sR _ _ ho, lookup_no (by rw [hf]; exact hn), ha _ F H σ ρ ds s.env hs _ fun vs H1 G1 g1 r1 => k H1 G1 vs g1 r1⟩
theorem mut_okS (kc : KdC kd C fl) (hn : noFl fl m) (ha : AOk K B ta sa) : SSOk K B W0 (tDrop (tMeth (He.ga K C) m (spMG K kd Fm) [] E0 (tVar i) ta)) (sMut kd i Fm sa) := fun Z R F H σ ρ D s hg => by
  obtain ⟨a, R', ds, β, s1, sR, bA, hs, k⟩ := mut_sp (E := E0) s hg fun c H' h => h
  obtain ⟨dx, fs, ho, hf⟩ := kc.ins bA
  refine ⟨.ref a, s1, a, dx, fs, rfl, sR _ _ ho, lookup_no (by rw [hf]; exact hn), ha _ F H σ ρ ds s.env hs _ fun vs H1 G1 g1 r1 => ?_⟩
  rw [List.append_nil]
  exact k H1 G1 vs g1 r1
/-- a mutating function: f(book, ..) -/
theorem mutF_ok (ha : AOk K B ta sa) : SSOk K B W0 (tDrop (tCall (spMG K kd Fm) [] E0 (tCons (tVar i) ta))) (sMut kd i Fm sa) := fun Z R F H σ ρ D s hg => by
  obtain ⟨a, R', ds, β, s1, sR, bA, hs, k⟩ := mut_sp (E := E0) s hg fun c H' h => h
  refine ⟨.ref a, s1, ha _ F H σ ρ ds s.env hs _ fun vs H1 G1 g1 r1 => ?_⟩
  show spMG K kd Fm ((.ref a :: vs) ++ []) H1 _ E0
  rw [List.append_nil]
  exact k H1 G1 vs g1 r1
theorem mutS_sp {Z : St0} {R : Rg} {F H : Hp} {σ : L2.St} {ρ : Rho} {D : Ends} {W : XW} {E : XK} (s : StOk K B Z R F H σ ρ) (hg : Goes K B Z F D W (sMutS kd i j Fm sa ρ)) (hE : ∀ c H', W c σ H' → E (.ref (He.ga K c)) none H') :
    ∃ a R' ds β, σ[i]? = some (some (.ref a)) ∧ Same R' H ∧ ObjAt K F R' a (kd.inj β) ∧ sa ρ = some ds ∧ ∀ H1 G1 vs, Grow H F H1 G1 → RpAll K G1 vs ds → spMG K kd Fm (.ref a :: vs) H1 (fun v H' => D.nx (σ.set j (some v)) H') E := by
  unfold sMutS at hg
  split at hg
  · rename_i β ds h1 h2
    have h0 := slO_ok h1
    obtain ⟨a, s1, bA⟩ := s.env.obj i _ h0
    refine ⟨a, R i, ds, β, s1, s.env.rh i, bA, h2, fun H1 G1 vs g1 r1 => ?_⟩
    have s' := s.grow g1
    refine ⟨G1, R i, a, β, vs, ds, rfl, g1.sub, s'.env.rh i, s'.env.rF i, bA.mono g1.f (Same.refl _), r1, ?_⟩
    cases e3 : Fm β ds with
    | no => simp only [e3] at hg; exact hg.elim
    | done β' d =>
      simp only [e3] at hg ⊢
      exact fun v H' G' R' g rh rF rn bA' r => hg _ H' _ G' ((s'.mut s1 g rh rF rn (fun hi a0 q => by subst hi; exact s.env.oa a0 q _ a h0 s1) bA').setV j r) (g1.f.trans g.f)
    | exc c =>
      simp only [e3] at hg ⊢
      exact fun H' G' g => hE c H' (hg σ H' R G' (s'.grow g) (g1.f.trans g.f))
  · exact hg.elim
theorem mutS_okS (kc : KdC kd C fl) (hn : noFl fl m) (ha : AOk K B ta sa) : SSOk K B W0 (tAsg (tMeth (He.ga K C) m (spMG K kd Fm) [] E0 (tVar i) ta) (gName j)) (sMutS kd i j Fm sa) := fun Z R F H σ ρ D s hg => by
  obtain ⟨a, R', ds, β, s1, sR, bA, hs, k⟩ := mutS_sp (E := E0) s hg fun c H' h => h
  obtain ⟨dx, fs, ho, hf⟩ := kc.ins bA
  refine ⟨.ref a, s1, a, dx, fs, rfl, sR _ _ ho, lookup_no (by rw [hf]; exact hn), ha _ F H σ ρ ds s.env hs _ fun vs H1 G1 g1 r1 => ?_⟩
  rw [List.append_nil]
  exact k H1 G1 vs g1 r1
end
def spInit (K : PySem.W.Frag) : Sp := fun vs H Q _ => ∃ p dx, vs = [.ref p] ∧ H p = some (.ins (He.ga K "Book") dx []) ∧ H dx = some (.own p) ∧
  ∀ H' R', (∀ b o, b ≠ p → H b = some o → H' b = some o) → Same R' H' → (∀ x, R' x ≠ none → x = p ∨ x = dx ∨ H x = none) → (∀ F, BookAt K F R' p ⟨[], []⟩) → Q .non H'
/-- a new object, laid beside -/
theorem StOk.newO {K : PySem.W.Frag} {B : Bs} {Z : St0} {R : Rg} {F H R' G' H' : Hp} {σ : L2.St} {ρ : Rho} {i : Nat} {a : Addr} {o' : ObjSt} (s : StOk K B Z R F H σ ρ) (hB : i = 0 → B.o = none) (g : Grow H F H' G') (rh : Same R' H') (rF : Apart R' G') (rn : ∀ x, R' x ≠ none → H x = none) (bA : ObjAt K G' R' a o') :
    StOk K B Z (updR R i R') G' H' (σ.set i (some (.ref a))) (ρ.set i (.obj o')) := by
  have s' := s.grow g
  refine ⟨?_, s'.gr, frO s'.fr, fun j x hx => ?_⟩
  · exact s.env.setO (fun hj => by rw [List.getElem?_set_self (by rw [← s.env.len]; exact hj)]) g.f g.sub s'.env.bh s'.env.bF rh rF (fun y hy => s.env.bh.free (rn y hy))
      (fun j hj => ⟨s'.env.rh j, s'.env.rF j, fun x hx => (s.env.rh j).free (rn x hx)⟩) bA (fun hi a0 q => by rw [hB hi] at q; cases q)
      fun p vs h1 h2 h3 => ⟨g.h p _ h1, g.no p h2 (by rw [h1]; intro z; cases z), by
        cases e : R' p with
        | none => rfl
        | some u => have := rn p (by rw [e]; intro z; cases z); rw [this] at h1; cases h1⟩
  · by_cases hj : j = i
    · subst hj
      rw [updR_same] at hx
      refine .inr ?_
      cases e : Z.h x with
      | none => rfl
      | some u => exact absurd (rn x hx) (s.gr.al x (by rw [e]; intro z; cases z))
    · rw [updR_ne hj] at hx
      exact s.fo j x hx
theorem mk_okS {K : PySem.W.Frag} {B : Bs} {W : XW} {i : Nat} (hB : B.o = none) : SSOk K B W (tAsg (tMake (He.ga K "Book") (spInit K) [] E0 tNil) (gName i)) (sMkB i) := fun Z R F H σ ρ D s hg => by
  intro x dx hx hdx hne
  have nx : ∀ b o, H b = some o → (upd (upd H dx (.own x)) x (.ins (He.ga K "Book") dx [])) b = some o := fun b o e => by
    rw [upd_ne (ne_of_none e hx), upd_ne (ne_of_none e hdx)]; exact e
  refine ⟨x, dx, rfl, upd_same, by rw [upd_ne hne]; exact upd_same, fun H' R' kp rh rn bA => ⟨rfl, ?_⟩⟩
  have hH : Same H H' := fun b o e => kp b o (ne_of_none e hx) (nx b o e)
  have rn' : ∀ y, R' y ≠ none → H y = none := fun y hy => by
    rcases rn y hy with rfl | rfl | z
    · exact hx
    · exact hdx
    · cases e : H y with
      | none => rfl
      | some o => rw [nx y o e] at z; cases z
  exact hg _ H' _ F (s.newO (fun _ => hB) ⟨hH, Same.refl F, s.env.ex.trans hH, fun _ z _ => z⟩ rh (fun y hy => s.env.ex.free (rn' y hy)) rn' (bA F)) (Same.refl F)
/-- what a changing method raises, it raises ahead of any change -/
def excOf {S : Type} (Fm : S → List PyData → RMG S) : S → List PyData → Res := fun β ds => match Fm β ds with
  | .exc c => .exc c
  | _ => .no
theorem spM_of_R {S : Type} {kd : Kd S} {K : PySem.W.Frag} {Fm : S → List PyData → RMG S} (vs : List V) (H : Hp) (Q : VK) (E : XK) (h : spRG K kd (excOf Fm) vs H Q E) : spMG K kd Fm vs H Q E := by
  obtain ⟨G, R, a, β, us, ds, e, h1, h2, h3, h4, h5, q⟩ := h
  refine ⟨G, R, a, β, us, ds, e, h1, h2, h3, h4, h5, ?_⟩
  unfold excOf at q
  cases e : Fm β ds with
  | no => simp only [e] at q; exact (show False from q).elim
  | done β' d => simp only [e] at q; exact (show False from q).elim
  | exc c => simp only [e] at q; exact q
/-- a reading function: f(book, ..), the object in slot i -/
def tCallB {S : Type} (K : PySem.W.Frag) (kd : Kd S) (Fr : S → List PyData → Res) (i : Nat) (ta : TA) : TE := tCall (spRG K kd Fr) [] E0 (tCons (tVar i) ta)
theorem callR_ok {S : Type} {kd : Kd S} {K : PySem.W.Frag} {B : Bs} {ta : TA} {sa : SA} {i : Nat} {Fr : S → List PyData → Res} (ha : AOk K B ta sa) : EOk K B (tCallB K kd Fr i ta) (eMeth kd B.bk i Fr sa) := fun R F H σ ρ d E q Q k => by
  unfold eMeth xMeth at q
  cases e1 : rcv kd B.bk ρ i with
  | none => rw [e1] at q; cases q
  | some β =>
    cases e2 : sa ρ with
    | none => rw [e1, e2] at q; cases q
    | some ds =>
      rw [e1, e2] at q
      obtain ⟨a, R', s1, bA, sR, ap⟩ := rcv_ok E e1
      refine ⟨.ref a, s1, ha _ F H σ ρ ds E e2 _ fun vs H1 G1 g1 r1 => ?_⟩
      show spRG K kd Fr ((.ref a :: vs) ++ []) H1 Q E0
      rw [List.append_nil]
      refine ⟨G1, R', a, β, vs, ds, rfl, g1.sub, sR.trans g1.h, g1.apart sR ap, bA.mono g1.f (Same.refl _), r1, ?_⟩
      cases e3 : Fr β ds with
      | no => simp [e3, Res.ok] at q
      | ret d' =>
        simp [e3, Res.ok] at q
        subst q
        exact fun v H' G' g r => k v H' G' (g1.trans g) r
      | exc c => simp [e3, Res.ok] at q
/-! ### own lists handed in for a moment beside an object -/
def Cp (K : PySem.W.Frag) (B : Bs) (R : Rg) (G H : Hp) (v : V) (d : PyData) : Prop := Rp K G v d ∨ ∃ p vs ds, v = .ref p ∧ d = .list ds ∧ H p = some (.lst vs) ∧ DqAll K G vs ds ∧ (∀ i, R i p = none) ∧ B.h p = none
inductive CpAll (K : PySem.W.Frag) (B : Bs) (R : Rg) (G H : Hp) : List V → List PyData → Prop
  | nil : CpAll K B R G H [] []
  | cons {v : V} {vs : List V} {d : PyData} {ds : List PyData} : Cp K B R G H v d → CpAll K B R G H vs ds → CpAll K B R G H (v :: vs) (d :: ds)
def CAOk (K : PySem.W.Frag) (B : Bs) (t : TA) (f : SA) : Prop := ∀ (R : Rg) (F H : Hp) (σ : L2.St) (ρ : Rho) (ds : List PyData), EnvOk K B R F H σ ρ → f ρ = some ds → ∀ Q : List V → Hp → Prop, (∀ vs H' G, Grow H F H' G → CpAll K B R G H' vs ds → Q vs H') → t σ H Q
structure SemCA (X : Cx) (K : PySem.W.Frag) (B : Bs) (es : List Expr) (t : TA) (f : SA) : Prop where
  pa : PA X es t
  ok : CAOk K B t f
theorem Cp.mono {K : PySem.W.Frag} {B : Bs} {R : Rg} {G G' H H' : Hp} {v : V} {d : PyData} (e : Same G G') (e' : Same H H') (h : Cp K B R G H v d) : Cp K B R G' H' v d :=
  h.imp (Rp.mono e) fun ⟨p, vs, ds, h1, h2, h3, h4, h5⟩ => ⟨p, vs, ds, h1, h2, e' _ _ h3, dpa_mono e _ h4, h5⟩
section
variable {X : Cx} {K : PySem.W.Frag} {B : Bs} {e : Expr} {es : List Expr} {t : TE} {ta : TA} {f : SE} {sa : SA}
theorem sca_nil : SemCA X K B [] tNil eNil := ⟨pa_nil, fun R F H σ ρ d E q Q k => by
  cases q
  exact k [] H F (Grow.refl E.ex) .nil⟩
theorem sca_e (h1 : SemE X K B e t f) (h2 : SemCA X K B es ta sa) (hs : starEach (e :: es) X.env = (false, eval e X.env) :: starEach es X.env := by rfl) : SemCA X K B (e :: es) (tCons t ta) (eCons f sa) := ⟨pa_cons h1.pe h2.pa hs, fun R F H σ ρ ds E q Q k => by
  cases hf : f ρ with
  | none => simp [eCons, hf] at q
  | some d =>
    cases hg : sa ρ with
    | none => simp [eCons, hf, hg] at q
    | some es =>
      simp [eCons, hf, hg] at q
      subst q
      exact h1.ok R F H σ ρ d E hf _ fun v H1 G1 g1 r1 => h2.ok R G1 H1 σ ρ es (E.grow g1) hg _ fun vs H2 G2 g2 r2 => k _ H2 G2 (g1.trans g2) (.cons (.inl (r1.mono g2.f)) r2)⟩
theorem sca_own (i : Nat) (hp : PE X e (tVar i)) (h2 : SemCA X K B es ta sa) (hs : starEach (e :: es) X.env = (false, eval e X.env) :: starEach es X.env := by rfl) : SemCA X K B (e :: es) (tCons (tVar i) ta) (eCons (eVarB i) sa) := ⟨pa_cons hp h2.pa hs, fun R F H σ ρ ds E q Q k => by
  have q : (eVarB i ρ).bind (fun d => (sa ρ).bind fun ds => some (d :: ds)) = some ds := q
  cases hf : eVarB i ρ with
  | none => rw [hf] at q; cases q
  | some d =>
    cases hg : sa ρ with
    | none => rw [hf, hg] at q; cases q
    | some es =>
      rw [hf, hg] at q
      cases q
      unfold eVarB at hf
      split at hf
      · rename_i d' h
        cases hf
        obtain ⟨v, h1, h3⟩ := E.val i _ h
        exact ⟨v, h1, h2.ok R F H σ ρ es E hg _ fun vs H2 G2 g2 r2 => k _ H2 G2 g2 (.cons (.inl (h3.mono g2.f)) r2)⟩
      · rename_i ds h
        cases hf
        obtain ⟨p, vs, h1, h3, h4, h5, h6, h7⟩ := E.own i _ h
        exact ⟨.ref p, h1, h2.ok R F H σ ρ es E hg _ fun us H2 G2 g2 r2 => k _ H2 G2 g2 (.cons (.inr ⟨p, vs, ds, rfl, rfl, g2.h _ _ h3, dpa_mono g2.f _ h4, h6, h7⟩) r2)⟩
      · cases hf⟩
end
/-- the heap without a part -/
def cutR (H R : Hp) : Hp := fun a => match R a with
  | none => H a
  | some _ => none
theorem cutR_same {H R G : Hp} (e : Same G H) (ap : Apart R G) : Same G (cutR H R) := fun a o h => by
  unfold cutR
  cases hR : R a with
  | none => exact e a o h
  | some u => have := ap a (by rw [hR]; intro z; cases z); rw [this] at h; cases h
theorem cutR_sub {H R : Hp} : Same (cutR H R) H := fun a o h => by
  unfold cutR at h
  split at h
  · exact h
  · cases h
theorem cutR_apart {H R : Hp} : Apart R (cutR H R) := fun a ha => by
  unfold cutR
  cases hR : R a with
  | none => exact absurd hR ha
  | some u => rfl
theorem CpAll.all {K : PySem.W.Frag} {B : Bs} {R : Rg} {G H R' : Hp} (e : Same G H) (ap : Apart R' G) (hR : ∀ p, (∀ i, R i p = none) → B.h p = none → R' p = none) : ∀ {vs : List V} {ds : List PyData}, CpAll K B R G H vs ds → RpAll K (cutR H R') vs ds
  | [], [], _ => .nil
  | [], _ :: _, h => by cases h
  | _ :: _, [], h => by cases h
  | v :: vs, d :: ds, h => by
    cases h with
    | cons h1 h2 =>
      refine .cons ?_ (CpAll.all e ap hR h2)
      rcases h1 with h1 | ⟨p, us, es, rfl, rfl, h3, h4, h5, h6⟩
      · exact h1.mono (cutR_same e ap)
      · refine .inl (.lst ?_ (dpa_mono (cutR_same e ap) _ h4))
        unfold cutR
        rw [hR p h5 h6]
        exact h3
/-- the object in slot i: where its region lies -/
theorem rcv_ok2 {S : Type} {kd : Kd S} {K : PySem.W.Frag} {B : Bs} {R : Rg} {F H : Hp} {σ : L2.St} {ρ : Rho} {i : Nat} {β : S} (E : EnvOk K B R F H σ ρ) (h : rcv kd B.bk ρ i = some β) : ∃ a R', σ[i]? = some (some (.ref a)) ∧ ObjAt K F R' a (kd.inj β) ∧ Same R' H ∧ Apart R' F ∧ ∀ p, (∀ i, R i p = none) → B.h p = none → R' p = none := by
  unfold rcv at h
  split at h
  · rename_i o e
    have := kd.ok h
    subst this
    obtain ⟨a, h1, h2⟩ := E.obj i _ e
    exact ⟨a, R i, h1, h2, E.rh i, E.rF i, fun p h _ => h i⟩
  · rename_i d e
    cases ha : addrOf d with
    | none => rw [ha] at h; cases h
    | some a =>
      rw [ha, Option.bind_some] at h
      cases ho : B.bk a with
      | none => rw [ho] at h; cases h
      | some o =>
        rw [ho, Option.bind_some] at h
        have := kd.ok h
        subst this
        obtain ⟨v, h1, h2⟩ := E.val i d e
        have := addrOf_ok ha h2
        subst this
        exact ⟨a, B.h, h1, (E.bo a _ ho).mono E.bs (Same.refl _), E.bh, E.bF, fun p _ h => h⟩
  · cases h
/-- own lists handed in for a moment, the object in slot i: what comes back is a value without parts -/
theorem callRB_ok {S : Type} {kd : Kd S} {K : PySem.W.Frag} {B : Bs} {ta : TA} {sa : SA} {i : Nat} {Fr : S → List PyData → Res} (ha : CAOk K B ta sa) : EOk K B (tCallB K kd Fr i ta) (fun ρ => onlyS (eMeth kd B.bk i Fr sa ρ)) := fun R F H σ ρ d E q Q k => by
  have q : (eMeth kd B.bk i Fr sa ρ).bind (fun d => if scalD d then some d else none) = some d := q
  unfold eMeth xMeth at q
  cases e1 : rcv kd B.bk ρ i with
  | none => rw [e1] at q; cases q
  | some β =>
    cases e2 : sa ρ with
    | none => rw [e1, e2] at q; cases q
    | some ds =>
      rw [e1, e2] at q
      obtain ⟨a, R', s1, bA, sR, ap, hR⟩ := rcv_ok2 E e1
      refine ⟨.ref a, s1, ha _ F H σ ρ ds E e2 _ fun vs H1 G1 g1 r1 => ?_⟩
      show spRG K kd Fr ((.ref a :: vs) ++ []) H1 Q E0
      rw [List.append_nil]
      have ap1 : Apart R' G1 := g1.apart sR ap
      refine ⟨cutR H1 R', R', a, β, vs, ds, rfl, cutR_sub, sR.trans g1.h, cutR_apart, bA.mono (g1.f.trans (cutR_same g1.sub ap1)) (Same.refl _), r1.all g1.sub ap1 hR, ?_⟩
      cases e3 : Fr β ds with
      | no => simp [e3, Res.ok] at q
      | ret d' =>
        simp only [e3, Res.ok, Option.bind_some] at q
        split at q
        · rename_i hs
          cases q
          exact fun v H' G' g r => k v H' G1 (g1.trans ⟨g.h, Same.refl G1, g1.sub.trans g.h, fun _ z _ => z⟩) (rp_scal r hs)
        · cases q
      | exc c => simp [e3, Res.ok] at q
end RT
/-! What a book's methods do; functions that are handed a book; try. -/
namespace RT
open PySem PySem.Spec PyProof.Rows L2
/-! ### the methods, plainly -/
def findP (β : BookSt) (n : Str) : Option Person := β.people.find? fun p => decide (p.name = n)
def findS (β : BookSt) (n : Str) : Option Shift := β.shifts.find? fun s => decide (s.name = n)
def meetsB (r s : Int × Int) : Bool := decide (r.1 < s.2) && decide (s.1 < r.2)
def mayB (p : Person) (s : Shift) (k : Str) : Bool := !(p.rests.any fun r => meetsB r (s.b, s.e)) && decide (k ∈ p.skills)
def postsB (β : BookSt) : List (Str × Str) := β.shifts.flatMap fun s => s.needs.map fun n => (s.name, n.1)
def postD (p : Str × Str) : PyData := .tuple [.str p.1, .str p.2]
def s0 (r : Res) : List PyData → Res
  | [] => r
  | _ => .no
def s1 (g : Str → Res) : List PyData → Res
  | [.str n] => g n
  | _ => .no
def s2 (g : Str → Str → Res) : List PyData → Res
  | [.str n, .str k] => g n k
  | _ => .no
def s3 (g : Str → Str → Str → Res) : List PyData → Res
  | [.str n, .str k, .str l] => g n k l
  | _ => .no
theorem s0_inv {r : Res} {ds : List PyData} {A : PyData → Prop} {B : Str → Prop} (q : (s0 r ds).goes A B) : ds = [] := by
  unfold s0 at q
  split at q
  · rfl
  · exact (show False from q).elim
theorem s1_inv {g : Str → Res} {ds : List PyData} {A : PyData → Prop} {B : Str → Prop} (q : (s1 g ds).goes A B) : ∃ n, ds = [.str n] := by
  unfold s1 at q
  split at q
  · exact ⟨_, rfl⟩
  · exact (show False from q).elim
theorem s2_inv {g : Str → Str → Res} {ds : List PyData} {A : PyData → Prop} {B : Str → Prop} (q : (s2 g ds).goes A B) : ∃ n k, ds = [.str n, .str k] := by
  unfold s2 at q
  split at q
  · exact ⟨_, _, rfl⟩
  · exact (show False from q).elim
theorem s3_inv {g : Str → Str → Str → Res} {ds : List PyData} {A : PyData → Prop} {B : Str → Prop} (q : (s3 g ds).goes A B) : ∃ n k l, ds = [.str n, .str k, .str l] := by
  unfold s3 at q
  split at q
  · exact ⟨_, _, _, rfl⟩
  · exact (show False from q).elim
def fr_people (β : BookSt) : List PyData → Res := s0 (.ret (.list (β.people.map fun p => .str p.name)))
def fr_shifts (β : BookSt) : List PyData → Res := s0 (.ret (.list (β.shifts.map fun p => .str p.name)))
def fr_posts (β : BookSt) : List PyData → Res := s0 (.ret (.list ((postsB β).map postD)))
def mis {α : Type} (o : Option α) (g : α → PyData) : Res := match o with
  | some p => .ret (g p)
  | none => .exc "Missing"
def fr_skills_of (β : BookSt) : List PyData → Res := s1 fun n => mis (findP β n) fun p => .list (p.skills.map .str)
def fr_rests_of (β : BookSt) : List PyData → Res := s1 fun n => mis (findP β n) fun p => .list (p.rests.map stD)
def fr_limit_of (β : BookSt) : List PyData → Res := s1 fun n => mis (findP β n) fun p => .int p.limit
def fr_stretch_of (β : BookSt) : List PyData → Res := s1 fun n => mis (findS β n) fun s => stD (s.b, s.e)
def needOf (s : Shift) (k : Str) : Option Int := (s.needs.find? fun n => decide (n.1 = k)).map (·.2)
def fr_count_of (β : BookSt) : List PyData → Res := s2 fun n k => mis ((findS β n).bind fun s => needOf s k) .int
def fr_may (β : BookSt) : List PyData → Res := s3 fun n s k => match findS β s with
  | none => .exc "Missing"
  | some sh => mis (findP β n) fun p => .bool (mayB p sh k)
/-! ### dicts by names -/
theorem valV_map {α : Type} (nm : α → Str) (v : α → V) (n : Str) : ∀ l : List α, valV (l.map fun x => ((Sum.inr (nm x) : Key), v x)) (Sum.inr n) = (l.find? fun x => decide (nm x = n)).map v
  | [] => rfl
  | x :: l => by
    rw [List.map_cons, List.find?_cons]
    by_cases h : nm x = n
    · rw [valV_pos (by show (Sum.inr (nm x) : Key) = Sum.inr n; rw [h]), decide_eq_true h]
      rfl
    · rw [valV_neg (by intro z; exact h (Sum.inr.inj z)), decide_eq_false h]
      exact valV_map nm v n l
theorem find_fst {α β : Type} (p : α → Bool) : ∀ l : List (α × β), ((l.find? fun x => p x.1).map (·.1)) = (l.map (·.1)).find? p
  | [] => rfl
  | x :: l => by
    rw [List.map_cons, List.find?_cons, List.find?_cons]
    cases p x.1 with
    | true => rfl
    | false => exact find_fst p l
section
variable {K : PySem.W.Frag} {F R : Hp} {a : Addr} {β : BookSt} {dx dS dL dR dT dN : Addr} {pe : PE3} {sh : SE3}
theorem BookIn.fp (b : BookIn K F R a β dx dS dL dR dT dN pe sh) (n : Str) : ((pe.find? fun x => decide (x.1.name = n)).map (·.1)) = findP β n := by
  have := find_fst (fun p : Person => decide (p.name = n)) pe
  rw [this, b.pn]
  rfl
theorem BookIn.fs (b : BookIn K F R a β dx dS dL dR dT dN pe sh) (n : Str) : ((sh.find? fun x => decide (x.1.name = n)).map (·.1)) = findS β n := by
  have := find_fst (fun p : Shift => decide (p.name = n)) sh
  rw [this, b.sn]
  rfl
theorem BookIn.person (b : BookIn K F R a β dx dS dL dR dT dN pe sh) {n : Str} {p : Person} (h : findP β n = some p) : ∃ x ∈ pe, x.1 = p ∧ x.1.name = n ∧ valV (kvS pe) (Sum.inr n) = some (.ref x.2.1) ∧ valV (kvL pe) (Sum.inr n) = some (.int p.limit) ∧ valV (kvR pe) (Sum.inr n) = some (.ref x.2.2) := by
  rw [← b.fp n] at h
  cases e : pe.find? fun x => decide (x.1.name = n) with
  | none => rw [e] at h; cases h
  | some x =>
    rw [e] at h
    have hx : x.1 = p := Option.some.inj h
    have hm := List.mem_of_find?_eq_some e
    have hn : x.1.name = n := of_decide_eq_true (by simpa using List.find?_some e)
    refine ⟨x, hm, hx, hn, ?_, ?_, ?_⟩
    · unfold kvS; rw [valV_map (fun x : Person × Addr × Addr => x.1.name) (fun x => V.ref x.2.1), e]; rfl
    · unfold kvL; rw [valV_map (fun x : Person × Addr × Addr => x.1.name) (fun x => V.int x.1.limit), e, ← hx]; rfl
    · unfold kvR; rw [valV_map (fun x : Person × Addr × Addr => x.1.name) (fun x => V.ref x.2.2), e]; rfl
theorem BookIn.noPerson (b : BookIn K F R a β dx dS dL dR dT dN pe sh) {n : Str} (h : findP β n = none) : valV (kvS pe) (Sum.inr n) = none ∧ valV (kvL pe) (Sum.inr n) = none ∧ valV (kvR pe) (Sum.inr n) = none := by
  rw [← b.fp n] at h
  have e : (pe.find? fun x => decide (x.1.name = n)) = none := by
    cases e : pe.find? fun x => decide (x.1.name = n) with
    | none => rfl
    | some x => rw [e] at h; cases h
  refine ⟨?_, ?_, ?_⟩
  · unfold kvS; rw [valV_map (fun x : Person × Addr × Addr => x.1.name) (fun x => V.ref x.2.1), e]; rfl
  · unfold kvL; rw [valV_map (fun x : Person × Addr × Addr => x.1.name) (fun x => V.int x.1.limit), e]; rfl
  · unfold kvR; rw [valV_map (fun x : Person × Addr × Addr => x.1.name) (fun x => V.ref x.2.2), e]; rfl
theorem BookIn.shift (b : BookIn K F R a β dx dS dL dR dT dN pe sh) {n : Str} {s : Shift} (h : findS β n = some s) : ∃ x ∈ sh, x.1 = s ∧ x.1.name = n ∧ valV (kvT sh) (Sum.inr n) = some (.ref x.2.1) ∧ valV (kvN sh) (Sum.inr n) = some (.ref x.2.2) := by
  rw [← b.fs n] at h
  cases e : sh.find? fun x => decide (x.1.name = n) with
  | none => rw [e] at h; cases h
  | some x =>
    rw [e] at h
    have hx : x.1 = s := Option.some.inj h
    have hm := List.mem_of_find?_eq_some e
    have hn : x.1.name = n := of_decide_eq_true (by simpa using List.find?_some e)
    refine ⟨x, hm, hx, hn, ?_, ?_⟩
    · unfold kvT; rw [valV_map (fun x : Shift × Addr × Addr => x.1.name) (fun x => V.ref x.2.1), e]; rfl
    · unfold kvN; rw [valV_map (fun x : Shift × Addr × Addr => x.1.name) (fun x => V.ref x.2.2), e]; rfl
theorem BookIn.noShift (b : BookIn K F R a β dx dS dL dR dT dN pe sh) {n : Str} (h : findS β n = none) : valV (kvT sh) (Sum.inr n) = none ∧ valV (kvN sh) (Sum.inr n) = none := by
  rw [← b.fs n] at h
  have e : (sh.find? fun x => decide (x.1.name = n)) = none := by
    cases e : sh.find? fun x => decide (x.1.name = n) with
    | none => rfl
    | some x => rw [e] at h; cases h
  refine ⟨?_, ?_⟩
  · unfold kvT; rw [valV_map (fun x : Shift × Addr × Addr => x.1.name) (fun x => V.ref x.2.1), e]; rfl
  · unfold kvN; rw [valV_map (fun x : Shift × Addr × Addr => x.1.name) (fun x => V.ref x.2.2), e]; rfl
end
/-! ### the class -/
structure BkT (K : PySem.W.Frag) (mg : Str → Option Value) : Prop where
  cl : Cls K (He.ga K "Book")
  nS : NoAttr K (He.ga K "Book") "skills"
  nL : NoAttr K (He.ga K "Book") "limits"
  nR : NoAttr K (He.ga K "Book") "rests"
  nT : NoAttr K (He.ga K "Book") "stretches"
  nN : NoAttr K (He.ga K "Book") "needs"
section
variable {K : PySem.W.Frag} {mg : Str → Option Value} {F R H : Hp} {a : Addr} {β : BookSt} {dx dS dL dR dT dN : Addr} {pe : PE3} {sh : SE3} {σ : L2.St} {Q : VK} {i : Nat}
theorem lk_S : (bkFs dS dL dR dT dN).lookup ("skills" : Str) = some (.ref dS) := by simp [bkFs, List.lookup]
theorem lk_L : (bkFs dS dL dR dT dN).lookup ("limits" : Str) = some (.ref dL) := by
  have h : (("limits" : Str) == "skills") = false := by decide +kernel
  simp [bkFs, List.lookup, h]
theorem lk_R : (bkFs dS dL dR dT dN).lookup ("rests" : Str) = some (.ref dR) := by
  have h : (("rests" : Str) == "skills") = false := by decide +kernel
  have h2 : (("rests" : Str) == "limits") = false := by decide +kernel
  simp [bkFs, List.lookup, h, h2]
theorem lk_T : (bkFs dS dL dR dT dN).lookup ("stretches" : Str) = some (.ref dT) := by
  have h : (("stretches" : Str) == "skills") = false := by decide +kernel
  have h2 : (("stretches" : Str) == "limits") = false := by decide +kernel
  have h3 : (("stretches" : Str) == "rests") = false := by decide +kernel
  simp [bkFs, List.lookup, h, h2, h3]
theorem lk_N : (bkFs dS dL dR dT dN).lookup ("needs" : Str) = some (.ref dN) := by
  have h : (("needs" : Str) == "skills") = false := by decide +kernel
  have h2 : (("needs" : Str) == "limits") = false := by decide +kernel
  have h3 : (("needs" : Str) == "rests") = false := by decide +kernel
  have h4 : (("needs" : Str) == "stretches") = false := by decide +kernel
  simp [bkFs, List.lookup, h, h2, h3, h4]
/-- self.f, the book in slot i -/
theorem rd_fld (T : BkT K mg) (hs : σ[i]? = some (some (.ref a))) (ho : H a = some (.ins (He.ga K "Book") dx (bkFs dS dL dR dT dN))) {f : Str} {v : V} (na : NoAttr K (He.ga K "Book") f) (lk : (bkFs dS dL dR dT dN).lookup f = some v) (q : Q v H) : tFld K (tVar i) f σ H Q :=
  ⟨_, hs, a, _, dx, _, v, rfl, ho, T.cl, na, lk, q⟩
end
/-! ### functions that are handed an object -/
def runO (N : List Str) (n : Nat) (b : SS) : ObjSt → List PyData → RMG ObjSt := fun o ds => if ds.length + 1 = n then (match b (.obj o :: rho0 (N.drop 1) ds) with
  | .rt d ρ => (match slO kA ρ[0]? with
    | some o' => .done o' d
    | none => .no)
  | .nx ρ => (match slO kA ρ[0]? with
    | some o' => .done o' .none
    | none => .no)
  | _ => .no) else .no
def RMG.prj {S : Type} (kd : Kd S) : RMG ObjSt → RMG S
  | .done o d => (match kd.prj o with
    | some s => .done s d
    | none => .no)
  | .exc c => .exc c
  | .no => .no
def runMG {S : Type} (kd : Kd S) (N : List Str) (n : Nat) (b : SS) : S → List PyData → RMG S := fun β ds => (runO N n b (kd.inj β) ds).prj kd
abbrev runM (N : List Str) (n : Nat) (b : SS) : BookSt → List PyData → RM := runMG kB N n b
def rg0 (R : Hp) : Rg := fun i => if i = 0 then R else noH
theorem rg0_0 (R : Hp) : rg0 R 0 = R := rfl
theorem rg0_s (R : Hp) (i : Nat) : rg0 R (i + 1) = noH := rfl
theorem rho0_shape {N : List Str} {ds : List PyData} {i : Nat} {x : Sl} (q : (rho0 N ds)[i]? = some x) : x = .no ∨ ∃ d, x = .val d := by
  unfold rho0 at q
  rcases Nat.lt_or_ge i (ds.map Sl.val).length with hi | hi
  · rw [List.getElem?_append_left hi, List.getElem?_map] at q
    cases z : ds[i]? with
    | none => rw [z] at q; cases q
    | some d => rw [z] at q; cases q; exact .inr ⟨d, rfl⟩
  · rw [List.getElem?_append_right hi] at q
    have := List.mem_of_getElem? q
    rw [List.mem_replicate] at this
    exact .inl this.2
theorem startO_ok {K : PySem.W.Frag} {B : Bs} {G H R : Hp} {a : Addr} {o : ObjSt} {N : List Str} {us : List V} {ds : List PyData} (b : BsOk K B G H) (apB : Apart R B.h) (e : Same G H) (eR : Same R H) (ap : Apart R G) (bA : ObjAt K G R a o) (h : RpAll K G us ds) (hN : 0 < N.length) :
    StOk K { B with o := some a } ⟨R, H, G⟩ (rg0 R) G H (start N (.ref a :: us)) (.obj o :: rho0 (N.drop 1) ds) := by
  have s := (start_ok (N := N.drop 1) b e h).env
  have es : start N (.ref a :: us) = some (.ref a) :: start (N.drop 1) us := by
    unfold L2.start
    rw [List.map_cons, List.cons_append, List.length_cons, List.length_drop]
    congr 3
    omega
  rw [es]
  refine ⟨⟨b.bs, b.bh, b.bF, b.bo, e, fun i => ?_, fun i => ?_, fun i => ?_, fun i j hij => ?_, ?_, fun i d q => ?_, fun i es' q => ?_, fun i j x y p _ q q2 _ _ => ?_, fun i o q => ?_, fun a0 q o a' h1 h2 => ?_⟩,
    ⟨fun _ _ _ z => z, fun _ z => z, Same.refl G, e, fun _ z _ => z⟩, fun i es' p q _ => ?_, fun i x z => ?_⟩
  · cases i with
    | zero => exact eR
    | succ i => exact fun _ _ z => nomatch z
  · cases i with
    | zero => exact ap
    | succ i => exact fun _ z => absurd rfl z
  · cases i with
    | zero => exact apB
    | succ i => exact fun _ z => absurd rfl z
  · cases i with
    | zero =>
      cases j with
      | zero => exact absurd rfl hij
      | succ j => exact fun _ _ => rfl
    | succ i => exact fun _ z => absurd rfl z
  · have := s.len
    simp only [List.length_cons] at this ⊢
    omega
  · cases i with
    | zero => simp at q
    | succ i => simpa using s.val i d (by simpa using q)
  · cases i with
    | zero => simp at q
    | succ i => rcases rho0_shape (show (rho0 (N.drop 1) ds)[i]? = some (.own es') by simpa using q) with z | ⟨d, z⟩ <;> cases z
  · cases i with
    | zero => simp at q
    | succ i => rcases rho0_shape (show (rho0 (N.drop 1) ds)[i]? = some (.own x) by simpa using q) with z | ⟨d, z⟩ <;> cases z
  · cases i with
    | zero =>
      simp at q
      subst q
      exact ⟨a, rfl, bA⟩
    | succ i => rcases rho0_shape (show (rho0 (N.drop 1) ds)[i]? = some (.obj o) by simpa using q) with z | ⟨d, z⟩ <;> cases z
  · cases q
    simp at h2
    exact h2.symm
  · cases i with
    | zero => simp at q
    | succ i => rcases rho0_shape (show (rho0 (N.drop 1) ds)[i]? = some (.own es') by simpa using q) with z | ⟨d, z⟩ <;> cases z
  · cases i with
    | zero => exact .inl z
    | succ i => exact absurd rfl z
/-- the body of a function that changes the object handed in, others being read -/
theorem sp_bodyO {K : PySem.W.Frag} {B : Bs} {N : List Str} {n : Nat} {b : SS} {t : TS} {G H R : Hp} {a : Addr} {o : ObjSt} {us : List V} {ds : List PyData} {Q : VK} {C : Str → Prop} {W : XW} (hN : 0 < N.length) (hB : BsOk K B G H) (apB : Apart R B.h) (e : Same G H) (eR : Same R H) (ap : Apart R G) (bA : ObjAt K G R a o) (r : RpAll K G us ds)
    (k : SSOk K { B with o := some a } W t b)
    (q : (runO N n b o ds).goes (fun o' d => ∀ v H' G' R', GrowM ⟨R, H, G⟩ H' G' → Same R' H' → Apart R' G' → (∀ x, R' x ≠ none → R x ≠ none ∨ H x = none) → ObjAt K G' R' a o' → Rp K G' v d → Q v H') C) : t { nx := fun _ H' => Q .non H', rt := Q } (start N (.ref a :: us)) H := by
  refine k ⟨R, H, G⟩ (rg0 R) G H _ _ _ (startO_ok hB apB e eR ap bA r hN) ?_
  have fin : ∀ {ρ : Rho} {o' : ObjSt} {σ : L2.St} {H' F' : Hp} {R' : Rg}, slO kA ρ[0]? = some o' → StOk K { B with o := some a } ⟨R, H, G⟩ R' F' H' σ ρ → GrowM ⟨R, H, G⟩ H' F' ∧ Same (R' 0) H' ∧ Apart (R' 0) F' ∧ (∀ x, R' 0 x ≠ none → R x ≠ none ∨ H x = none) ∧ ObjAt K F' (R' 0) a o' := fun {ρ o' σ H' F' R'} hb s => by
    have hb' := slO_ok hb
    obtain ⟨a', h1, h2⟩ := s.env.obj 0 _ hb'
    have := s.env.oa a rfl _ a' hb' h1
    subst this
    exact ⟨s.gr, s.env.rh 0, s.env.rF 0, s.fo 0, h2⟩
  unfold runO at q
  split at q
  · cases hb : b (.obj o :: rho0 (N.drop 1) ds) with
    | no => rw [hb] at q; exact (show False from q).elim
    | ex c r => rw [hb] at q; exact (show False from q).elim
    | ro i r => rw [hb] at q; exact (show False from q).elim
    | nx ρ =>
      rw [hb] at q
      cases h0 : slO kA ρ[0]? with
      | none => simp only [h0] at q; exact (show False from q).elim
      | some o' =>
        simp only [h0] at q
        exact fun σ H' R' F' s _ => by
          obtain ⟨x1, x2, x3, x4, x5⟩ := fin h0 s
          exact q .non H' F' _ x1 x2 x3 x4 x5 rp_non
    | rt d' ρ =>
      rw [hb] at q
      cases h0 : slO kA ρ[0]? with
      | none => simp only [h0] at q; exact (show False from q).elim
      | some o' =>
        simp only [h0] at q
        exact fun v σ H' R' F' s _ r => by
          obtain ⟨x1, x2, x3, x4, x5⟩ := fin h0 s
          exact q v H' F' _ x1 x2 x3 x4 x5 r
  · exact (show False from q).elim
theorem sp_bodyM {S : Type} {kd : Kd S} {K : PySem.W.Frag} {N : List Str} {n : Nat} {b : SS} {t : TS} {vs : List V} {H : Hp} {Q : VK} {E : XK} {W : XW} (hN : 0 < N.length)
    (k : ∀ a, SSOk K ⟨fun _ => none, fun _ => none, fun _ => none, some a⟩ W t b) (h : spMG K kd (runMG kd N n b) vs H Q E) : t { nx := fun _ H' => Q .non H', rt := Q } (start N vs) H := by
  obtain ⟨G, R, a, β, us, ds, rfl, e, eR, ap, bA, r, q⟩ := h
  refine sp_bodyO (n := n) (C := fun c => ∀ H' G', Grow H G H' G' → E (.ref (He.ga K c)) none H') hN (bsOk_no (G := G) (H := H)) (fun _ _ => rfl) e eR ap bA r (k a) ?_
  unfold runMG at q
  cases eq : runO N n b (kd.inj β) ds with
  | no => rw [eq] at q; exact q
  | exc c => rw [eq] at q; exact q
  | done o d =>
    rw [eq] at q
    unfold RMG.prj at q
    cases eo : kd.prj o with
    | none => simp only [eo] at q; exact (show False from q).elim
    | some s =>
      simp only [eo] at q
      rw [kd.ok eo]
      exact q
/-- others read: their states by addresses -/
def runMB (N : List Str) (n : Nat) (b : (Addr → Option ObjSt) → SS) : (Addr → Option ObjSt) → ObjSt → List PyData → RMG ObjSt := fun bk => runO N n (b bk)
theorem sp_bodyMB {K : PySem.W.Frag} {N : List Str} {n : Nat} {b : (Addr → Option ObjSt) → SS} {t : TS} {vs : List V} {H : Hp} {Q : VK} {E : XK} {W : XW} (hN : 0 < N.length)
    (k : ∀ (B : Bs), SSOk K B W t (b B.bk)) (h : spMB K (runMB N n b) vs H Q E) : t { nx := fun _ H' => Q .non H', rt := Q } (start N vs) H := by
  obtain ⟨B, G, R, a, o, us, ds, rfl, e, eR, ap, hB, apB, bA, r, q⟩ := h
  exact sp_bodyO (n := n) (b := b B.bk) hN hB apB e eR ap bA r (k { B with o := some a }) q
/-! ### reading functions -/
def only (a : Addr) (o : ObjSt) : Addr → Option ObjSt := fun b => if b = a then some o else none
theorem only_ok {K : PySem.W.Frag} {G R : Hp} {a : Addr} {o : ObjSt} (h : ObjAt K G R a o) : ∀ b o', only a o b = some o' → ObjAt K G R b o' := fun b o' hb => by
  have hb' : (if b = a then some o else none) = some o' := hb
  split at hb'
  · rename_i hh
    cases hb'
    subst hh
    exact h
  · cases hb'
theorem sp_bodyR {S : Type} {kd : Kd S} {K : PySem.W.Frag} {N : List Str} {n : Nat} {b : (Addr → Option ObjSt) → SS} {t : TS} {Fr : S → List PyData → Res} {vs : List V} {H : Hp} {Q : VK} {E : XK}
    (hF : ∀ a β ds, match Fr β ds with
      | .ret d => runF N n (b (only a (kd.inj β))) (refD a :: ds) = some d
      | .exc _ => False
      | .no => True)
    (k : ∀ B : Bs, SSOk K B W0 t (b B.bk)) (h : spRG K kd Fr vs H Q E) : t { nx := fun _ H' => Q .non H', rt := Q } (start N vs) H := by
  obtain ⟨G, R, a, β, us, ds, rfl, e, eR, ap, bA, r, q⟩ := h
  have hf := hF a β ds
  cases e3 : Fr β ds with
  | no => rw [e3] at q; exact (show False from q).elim
  | exc c => rw [e3] at hf; exact hf.elim
  | ret d =>
    rw [e3] at q hf
    have bo : BsOk K ⟨R, G, only a (kd.inj β), none⟩ G H := ⟨Same.refl G, eR, ap, only_ok bA⟩
    exact sp_bodyB (k ⟨R, G, only a (kd.inj β), none⟩) bo e (.cons (.inr (.inl ⟨a, rfl, rfl⟩)) r) hf q
/-! ### try -/
def sTry (f : SS) (cs : Str → Option Bool) (g : SS) : SS := fun ρ => match f ρ with
  | .ex c r => (match cs c with
    | some true => g r
    | some false => .ex c r
    | none => .no)
  | o => o
theorem try_ok {K : PySem.W.Frag} {B : Bs} {Wout : WX} {y : Str} {cs : Str → Option Bool} {tb : WX → TS} {ts : TS} {f g : SS} (hx : ∀ c b, cs c = some b → PySem.W.exmOne K (.ref (He.ga K c)) (.ref (He.ga K y)) = some b)
    (kb : ∀ w : WX, SSOk K B (wx K w) (tb w) f) (ks : SSOk K B (wx K Wout) ts g) : SSOk K B (wx K Wout) (fun D σ H => tb (wOnly K (.ref (He.ga K y)) (fun _ _ _ => ts) Wout D) D σ H) (sTry f cs g) := fun Z R F H σ ρ D s hg => by
  refine kb _ Z R F H σ ρ D s ?_
  unfold sTry at hg
  cases e : f ρ with
  | no => rw [e] at hg; exact hg
  | nx r => rw [e] at hg; exact hg
  | rt d r => rw [e] at hg; exact hg
  | ro i r => rw [e] at hg; exact hg
  | ex c r =>
    rw [e] at hg
    cases ec : cs c with
    | none => simp only [ec] at hg; exact hg.elim
    | some b =>
      cases b with
      | true =>
        simp only [ec] at hg
        exact fun σ' H' R' F' s' e' => ⟨true, hx c true ec, fun _ a _ => ks Z R' F' H' σ' r D s' (Goes.mono (o := g r) hg e'), fun z => Bool.noConfusion z⟩
      | false =>
        simp only [ec] at hg
        exact fun σ' H' R' F' s' e' => ⟨false, hx c false ec, fun z => Bool.noConfusion z, fun _ => hg σ' H' R' F' s' e'⟩
theorem s_try {X : Cx} {K : PySem.W.Frag} {B : Bs} {Wout : WX} {y : Str} {cs : Str → Option Bool} {tb : WX → TS} {ts : TS} {f g : SS} {body suite : List Stmt} {b0 : Stmt} {np pos pos' : Pos} (hs : X.stack = X.env :: X.outer) (hf : X.env.frame = some X.env.locals) (hc : Names X y (.ref (He.ga X.K y))) (tk : Takes X Wout)
    (hx : ∀ c b, cs c = some b → PySem.W.exmOne K (.ref (He.ga K c)) (.ref (He.ga K y)) = some b)
    (hb : ∀ (w : WX) (pn : List (Addr × Obj)) (xe : Value → Shared → Prop), Takes (X.tr pn xe) w → SemSs (X.tr pn xe) K B (wx K w) body (tb w) f)
    (hsu : ∀ (a : Addr) (pn : List (Addr × Obj)), SemSs (X.suite a pn) K B (wx K Wout) (b0 :: suite) ts g) (hK : X.K = K := by rfl) :
    SemS X K B (wx K Wout) (.Try body [.ExceptHandler (some (.Name y np)) none (b0 :: suite) pos'] [] [] pos) (fun D σ H => tb (wOnly X.K (.ref (He.ga X.K y)) (fun _ _ _ => ts) Wout D) D σ H) (sTry f cs g) := by
  subst hK
  exact ⟨ps_try_only hs hf hc tk (fun w pn xe t _ => (hb w pn xe t).ps) fun a oe cls d pn _ _ => (hsu a _).ps, try_ok hx (fun w => (hb w [] (fun _ _ => True) (fun _ _ _ => trivial)).ok) (hsu 0 []).ok⟩
end RT
/-! A book's parts, changed. -/
namespace RT
open PySem PySem.Spec PyProof.Rows L2
theorem nodup_inj {α β : Type} {f : α → β} : ∀ {l : List α} {x y : α}, (l.map f).Nodup → x ∈ l → y ∈ l → f x = f y → x = y
  | [], _, _, _, h, _, _ => absurd h List.not_mem_nil
  | z :: l, x, y, nd, hx, hy, e => by
    rw [List.map_cons, List.nodup_cons] at nd
    rcases List.mem_cons.mp hx with ex | hx1
    · rcases List.mem_cons.mp hy with ey | hy1
      · rw [ex, ey]
      · subst ex
        exact absurd (e ▸ List.mem_map_of_mem hy1) nd.1
    · rcases List.mem_cons.mp hy with ey | hy1
      · subst ey
        exact absurd (e ▸ List.mem_map_of_mem hx1) nd.1
      · exact nodup_inj nd.2 hx1 hy1 e
def restP (n : Str) (r : Int × Int) (q : Person) : Person := if q.name = n then { q with rests := q.rests ++ [r] } else q
def restB (β : BookSt) (n : Str) (r : Int × Int) : BookSt := { β with people := β.people.map (restP n r) }
theorem restP_name (n : Str) (r : Int × Int) (q : Person) : (restP n r q).name = q.name := by unfold restP; split <;> rfl
theorem restP_skills (n : Str) (r : Int × Int) (q : Person) : (restP n r q).skills = q.skills := by unfold restP; split <;> rfl
theorem restP_limit (n : Str) (r : Int × Int) (q : Person) : (restP n r q).limit = q.limit := by unfold restP; split <;> rfl
section
variable {K : PySem.W.Frag} {F G R : Hp} {a : Addr} {β : BookSt} {dx dS dL dR dT dN : Addr} {pe : PE3} {sh : SE3}
theorem BookIn.names (b : BookIn K F R a β dx dS dL dR dT dN pe sh) : (pe.map fun x => x.1.name).Nodup := by
  have := b.un
  rw [← b.pn, List.map_map] at this
  exact this
theorem BookIn.snames (b : BookIn K F R a β dx dS dL dR dT dN pe sh) : (sh.map fun x => x.1.name).Nodup := by
  have := b.us
  rw [← b.sn, List.map_map] at this
  exact this
theorem BookIn.rest (b : BookIn K F R a β dx dS dL dR dT dN pe sh) {n : Str} {x : Person × Addr × Addr} {r : Int × Int} {vs : List V} {v : V} (hx : x ∈ pe) (hn : x.1.name = n) (hl : R x.2.2 = some (.lst vs)) (hA : DqAll K F vs (x.1.rests.map stD)) (e : Same F G) (hv : Dq K G v (stD r)) (hz : x.1.rests.length < 1000) :
    BookIn K G (upd R x.2.2 (.lst (vs ++ [v]))) a (restB β n r) dx dS dL dR dT dN (pe.map fun y => (restP n r y.1, y.2)) sh := by
  have other : ∀ {y o}, R y = some o → (∀ l, o ≠ .lst l) → (upd R x.2.2 (.lst (vs ++ [v]))) y = some o := fun {y o} h hne => by
    rw [upd_ne (ne_of h hl (hne vs))]
    exact h
  have one : ∀ y ∈ pe, y.1.name = n → y = x := fun y hy h => nodup_inj (f := fun x : Person × Addr × Addr => x.1.name) b.names hy hx (h.trans hn.symm)
  refine { pn := ?_, sn := b.sn, ob := other b.ob (fun _ z => nomatch z), ow := other b.ow (fun _ z => nomatch z), cS := ?_, cL := ?_, cR := ?_, cT := other b.cT (fun _ z => nomatch z), cN := other b.cN (fun _ z => nomatch z), nd := b.nd, ps := ?_, pr := ?_, st := fun y hy => dp_mono e _ (b.st y hy), sc := fun y hy => other (b.sc y hy) (fun _ z => nomatch z), rn := ?_, rs := ?_, nn := b.nn, un := ?_, us := b.us, sz := ?_ }
  · unfold restB
    rw [← b.pn, List.map_map, List.map_map]
    rfl
  · rw [other b.cS (fun _ z => nomatch z)]
    unfold kvS
    rw [List.map_map]
    congr 2
    apply List.map_congr_left
    intro y _
    simp [restP_name]
  · rw [other b.cL (fun _ z => nomatch z)]
    unfold kvL
    rw [List.map_map]
    congr 2
    apply List.map_congr_left
    intro y _
    simp [restP_name, restP_limit]
  · rw [other b.cR (fun _ z => nomatch z)]
    unfold kvR
    rw [List.map_map]
    congr 2
    apply List.map_congr_left
    intro y _
    simp [restP_name]
  · intro y' hy'
    obtain ⟨y, hy, rfl⟩ := List.mem_map.mp hy'
    rw [upd_ne (b.rs y hy x hx), b.ps y hy]
    simp [restP_skills]
  · intro y' hy'
    obtain ⟨y, hy, rfl⟩ := List.mem_map.mp hy'
    by_cases h : y.1.name = n
    · have := one y hy h
      subst this
      refine ⟨vs ++ [v], upd_same, ?_⟩
      have e2 : (restP n r y.1).rests = y.1.rests ++ [r] := by unfold restP; rw [if_pos h]
      rw [e2, List.map_append]
      exact (dpa_mono e _ hA).append (.cons hv .nil)
    · obtain ⟨ws, h1, h2⟩ := b.pr y hy
      refine ⟨ws, ?_, ?_⟩
      · rw [upd_ne]
        · exact h1
        · intro z
          have := nodup_inj (f := fun x : Person × Addr × Addr => x.2.2) b.rn hy hx z
          exact h (this ▸ hn)
      · have e2 : (restP n r y.1).rests = y.1.rests := by unfold restP; rw [if_neg h]
        rw [e2]
        exact dpa_mono e _ h2
  · rw [List.map_map]
    exact b.rn
  · intro y' hy' z' hz'
    obtain ⟨y, hy, rfl⟩ := List.mem_map.mp hy'
    obtain ⟨z, hz, rfl⟩ := List.mem_map.mp hz'
    exact b.rs y hy z hz
  · have := b.un
    unfold restB
    rw [List.map_map]
    have e3 : ((fun p : Person => p.name) ∘ restP n r) = fun p => p.name := by funext q; exact restP_name n r q
    rw [e3]
    exact this
  · obtain ⟨s1, s2, s3, s4⟩ := b.sz
    refine ⟨by simpa [restB] using s1, s2, ?_, s4⟩
    intro p hp
    unfold restB at hp
    obtain ⟨q, hq, rfl⟩ := List.mem_map.mp hp
    obtain ⟨t1, t2⟩ := s3 q hq
    refine ⟨?_, by rw [restP_skills]; exact t2⟩
    unfold restP
    split
    · rename_i h
      have : ∃ y ∈ pe, y.1 = q := by
        rw [← b.pn] at hq
        obtain ⟨y, hy, e⟩ := List.mem_map.mp hq
        exact ⟨y, hy, e⟩
      obtain ⟨y, hy, rfl⟩ := this
      have := one y hy h
      subst this
      simp only [List.length_append, List.length_singleton]
      omega
    · exact t1
theorem BookIn.addP (b : BookIn K F R a β dx dS dL dR dT dN pe sh) {p : Person} {pS pR : Addr} {R' : Hp} (hf : findP β p.name = none) (e : Same F G) (nS : R pS = none) (nR : R pR = none) (nSR : pS ≠ pR) (hr : p.rests = []) (hz : p.skills.length ≤ 1000) (hz2 : β.people.length < 1000)
    (hdS : R' dS = some (.dK (kvS pe ++ [(Sum.inr p.name, .ref pS)]))) (hdL : R' dL = some (.dK (kvL pe ++ [(Sum.inr p.name, .int p.limit)]))) (hdR : R' dR = some (.dK (kvR pe ++ [(Sum.inr p.name, .ref pR)])))
    (hpS : R' pS = some (.lst (p.skills.map V.str))) (hpR : R' pR = some (.lst [])) (ho : ∀ y, y ≠ dS → y ≠ dL → y ≠ dR → R y ≠ none → R' y = R y) :
    BookIn K G R' a ⟨β.people ++ [p], β.shifts⟩ dx dS dL dR dT dN (pe ++ [(p, pS, pR)]) sh := by
  have keep : ∀ {y o}, R y = some o → (∀ l, o ≠ .dK l) → R' y = some o := fun {y o} h hne => by
    rw [ho y (ne_of h b.cS (hne _)) (ne_of h b.cL (hne _)) (ne_of h b.cR (hne _)) (by rw [h]; intro z; cases z)]
    exact h
  have nd := b.nd
  simp only [List.nodup_cons, List.mem_cons, List.not_mem_nil, or_false, not_or] at nd
  obtain ⟨⟨n1, n2, n3, n4⟩, ⟨n5, n6, n7⟩, ⟨n8, n9⟩, n10, _⟩ := nd
  have hn : p.name ∉ β.people.map (·.name) := fun hm => by
    obtain ⟨q, hq, hqe⟩ := List.mem_map.mp hm
    unfold findP at hf
    rw [List.find?_eq_none] at hf
    exact hf q hq (by simp [hqe])
  refine { pn := ?_, sn := b.sn, ob := keep b.ob (fun _ z => nomatch z), ow := keep b.ow (fun _ z => nomatch z), cS := by rw [hdS]; simp [kvS], cL := by rw [hdL]; simp [kvL], cR := by rw [hdR]; simp [kvR], cT := ?_, cN := ?_, nd := b.nd, ps := ?_, pr := ?_, st := fun y hy => dp_mono e _ (b.st y hy), sc := ?_, rn := ?_, rs := ?_, nn := b.nn, un := ?_, us := b.us, sz := ?_ }
  · rw [List.map_append, b.pn]; rfl
  · rw [ho dT (Ne.symm n3) (Ne.symm n6) (Ne.symm n8) (by rw [b.cT]; intro z; cases z)]; exact b.cT
  · rw [ho dN (Ne.symm n4) (Ne.symm n7) (Ne.symm n9) (by rw [b.cN]; intro z; cases z)]; exact b.cN
  · intro y hy
    rcases List.mem_append.mp hy with hy | hy
    · exact keep (b.ps y hy) (fun _ z => nomatch z)
    · obtain rfl := List.mem_singleton.mp hy
      exact hpS
  · intro y hy
    rcases List.mem_append.mp hy with hy | hy
    · obtain ⟨vs, h1, h2⟩ := b.pr y hy
      exact ⟨vs, keep h1 (fun _ z => nomatch z), dpa_mono e _ h2⟩
    · obtain rfl := List.mem_singleton.mp hy
      refine ⟨[], hpR, ?_⟩
      show DqAll K G [] (p.rests.map stD)
      rw [hr]
      exact .nil
  · intro y hy
    have := b.nn y hy
    simp only [List.mem_cons, List.not_mem_nil, or_false, not_or] at this
    rw [ho y.2.2 this.1 this.2.1 this.2.2.1 (by rw [b.sc y hy]; intro z; cases z)]
    exact b.sc y hy
  · rw [List.map_append, List.nodup_append]
    refine ⟨b.rn, by simp, fun u hu v hv => ?_⟩
    obtain ⟨y, hy, rfl⟩ := List.mem_map.mp hu
    simp at hv
    subst hv
    obtain ⟨vs, h1, _⟩ := b.pr y hy
    exact ne_of_none h1 nR
  · intro y hy z hz
    rcases List.mem_append.mp hy with hy | hy
    · rcases List.mem_append.mp hz with hz | hz
      · exact b.rs y hy z hz
      · obtain rfl := List.mem_singleton.mp hz
        exact ne_of_none (b.ps y hy) nR
    · obtain rfl := List.mem_singleton.mp hy
      rcases List.mem_append.mp hz with hz | hz
      · obtain ⟨vs, h1, _⟩ := b.pr z hz
        exact Ne.symm (ne_of_none h1 nS)
      · obtain rfl := List.mem_singleton.mp hz
        exact nSR
  · show ((β.people ++ [p]).map (·.name)).Nodup
    rw [List.map_append, List.nodup_append]
    refine ⟨b.un, by simp, fun u hu v hv => ?_⟩
    simp at hv
    subst hv
    rintro rfl
    exact hn hu
  · obtain ⟨t1, t2, t3, t4⟩ := b.sz
    refine ⟨by simp only [List.length_append, List.length_singleton]; omega, t2, ?_, t4⟩
    intro q hq
    rcases List.mem_append.mp hq with hq | hq
    · exact t3 q hq
    · obtain rfl := List.mem_singleton.mp hq
      exact ⟨by rw [hr]; simp, hz⟩
theorem BookIn.addS (b : BookIn K F R a β dx dS dL dR dT dN pe sh) {s : Shift} {t dC : Addr} {R' : Hp} (hf : findS β s.name = none) (e : Same F G) (nC : R dC = none) (hst : Dq K G (.ref t) (stD (s.b, s.e))) (hz : s.needs.length ≤ 1000) (hz2 : β.shifts.length < 1000)
    (hdT : R' dT = some (.dK (kvT sh ++ [(Sum.inr s.name, .ref t)]))) (hdN : R' dN = some (.dK (kvN sh ++ [(Sum.inr s.name, .ref dC)])))
    (hdC : R' dC = some (.dK (kvC s.needs))) (ho : ∀ y, y ≠ dT → y ≠ dN → R y ≠ none → R' y = R y) :
    BookIn K G R' a ⟨β.people, β.shifts ++ [s]⟩ dx dS dL dR dT dN pe (sh ++ [(s, t, dC)]) := by
  have keep : ∀ {y o}, R y = some o → (∀ l, o ≠ .dK l) → R' y = some o := fun {y o} h hne => by
    rw [ho y (ne_of h b.cT (hne _)) (ne_of h b.cN (hne _)) (by rw [h]; intro z; cases z)]
    exact h
  have nd := b.nd
  simp only [List.nodup_cons, List.mem_cons, List.not_mem_nil, or_false, not_or] at nd
  obtain ⟨⟨n1, n2, n3, n4⟩, ⟨n5, n6, n7⟩, ⟨n8, n9⟩, n10, _⟩ := nd
  have hn : s.name ∉ β.shifts.map (·.name) := fun hm => by
    obtain ⟨q, hq, hqe⟩ := List.mem_map.mp hm
    unfold findS at hf
    rw [List.find?_eq_none] at hf
    exact hf q hq (by simp [hqe])
  refine { pn := b.pn, sn := ?_, ob := keep b.ob (fun _ z => nomatch z), ow := keep b.ow (fun _ z => nomatch z), cS := ?_, cL := ?_, cR := ?_, cT := by rw [hdT]; simp [kvT], cN := by rw [hdN]; simp [kvN], nd := b.nd, ps := fun y hy => keep (b.ps y hy) (fun _ z => nomatch z), pr := ?_, st := ?_, sc := ?_, rn := b.rn, rs := b.rs, nn := ?_, un := b.un, us := ?_, sz := ?_ }
  · rw [List.map_append, b.sn]; rfl
  · rw [ho dS n3 n4 (by rw [b.cS]; intro z; cases z)]; exact b.cS
  · rw [ho dL n6 n7 (by rw [b.cL]; intro z; cases z)]; exact b.cL
  · rw [ho dR n8 n9 (by rw [b.cR]; intro z; cases z)]; exact b.cR
  · intro y hy
    obtain ⟨vs, h1, h2⟩ := b.pr y hy
    exact ⟨vs, keep h1 (fun _ z => nomatch z), dpa_mono e _ h2⟩
  · intro y hy
    rcases List.mem_append.mp hy with hy | hy
    · exact dp_mono e _ (b.st y hy)
    · obtain rfl := List.mem_singleton.mp hy
      exact hst
  · intro y hy
    rcases List.mem_append.mp hy with hy | hy
    · have := b.nn y hy
      simp only [List.mem_cons, List.not_mem_nil, or_false, not_or] at this
      rw [ho y.2.2 this.2.2.2.1 this.2.2.2.2 (by rw [b.sc y hy]; intro z; cases z)]
      exact b.sc y hy
    · obtain rfl := List.mem_singleton.mp hy
      exact hdC
  · intro y hy
    rcases List.mem_append.mp hy with hy | hy
    · exact b.nn y hy
    · obtain rfl := List.mem_singleton.mp hy
      simp only [List.mem_cons, List.not_mem_nil, or_false, not_or]
      exact ⟨Ne.symm (ne_of_none b.cS nC), Ne.symm (ne_of_none b.cL nC), Ne.symm (ne_of_none b.cR nC), Ne.symm (ne_of_none b.cT nC), Ne.symm (ne_of_none b.cN nC)⟩
  · show ((β.shifts ++ [s]).map (·.name)).Nodup
    rw [List.map_append, List.nodup_append]
    refine ⟨b.us, by simp, fun u hu v hv => ?_⟩
    simp at hv
    subst hv
    rintro rfl
    exact hn hu
  · obtain ⟨t1, t2, t3, t4⟩ := b.sz
    refine ⟨t1, by simp only [List.length_append, List.length_singleton]; omega, t3, ?_⟩
    intro q hq
    rcases List.mem_append.mp hq with hq | hq
    · exact t4 q hq
    · obtain rfl := List.mem_singleton.mp hq
      exact hz
end
end RT
/-! Words for books. -/
namespace RT
open PySem PySem.Spec PyProof.Rows L2
section
variable {S : Type}
structure MethRG (P : Program) (w : World) (K : PySem.W.Frag) (mg : Str → Option Value) (base : Heap) (k : Nat) (kd : Kd S) (C : Str) (m : Str) (Fr : S → List PyData → Res) : Prop where
  ex : ∃ (f : Addr) (fd : FuncData) (ps : List Str), FnOk P w K mg base (L2.CX P w) k f fd ps (spRG K kd Fr) ∧ Meth K (He.ga K C) m f ∧ Binds K fd ps []
  cl : Cls K (He.ga K C)
  no : ∃ fl, KdC kd C fl ∧ noFl fl m
structure MethMG (P : Program) (w : World) (K : PySem.W.Frag) (mg : Str → Option Value) (base : Heap) (k : Nat) (kd : Kd S) (C : Str) (m : Str) (Fm : S → List PyData → RMG S) : Prop where
  ex : ∃ (f : Addr) (fd : FuncData) (ps : List Str), FnOk P w K mg base (L2.CX P w) k f fd ps (spMG K kd Fm) ∧ Meth K (He.ga K C) m f ∧ Binds K fd ps []
  cl : Cls K (He.ga K C)
  no : ∃ fl, KdC kd C fl ∧ noFl fl m
/-- a reading function of the module -/
structure PFRG (P : Program) (w : World) (K : PySem.W.Frag) (mg : Str → Option Value) (base : Heap) (k : Nat) (kd : Kd S) (x : Str) (Fr : S → List PyData → Res) : Prop where
  ex : ∃ (f : Addr) (fd : FuncData) (ps : List Str), FnOk P w K mg base CX0 k f fd ps (spRG K kd Fr) ∧ mg x = some (.ref f) ∧ PySem.W.keepIn K (.ref f) = true ∧ Binds K fd ps []
/-- a changing one -/
structure PFMG (P : Program) (w : World) (K : PySem.W.Frag) (mg : Str → Option Value) (base : Heap) (k : Nat) (kd : Kd S) (x : Str) (Fm : S → List PyData → RMG S) : Prop where
  ex : ∃ (f : Addr) (fd : FuncData) (ps : List Str), FnOk P w K mg base CX0 k f fd ps (spMG K kd Fm) ∧ mg x = some (.ref f) ∧ PySem.W.keepIn K (.ref f) = true ∧ Binds K fd ps []
theorem MethMG.exc {P : Program} {w : World} {K : PySem.W.Frag} {mg : Str → Option Value} {base : Heap} {k : Nat} {kd : Kd S} {C m : Str} {Fm : S → List PyData → RMG S} (M : MethMG P w K mg base k kd C m Fm) : MethRG P w K mg base k kd C m (excOf Fm) := by
  obtain ⟨f, fd, ps, G, me, b⟩ := M.ex
  exact ⟨⟨f, fd, ps, G.imp spM_of_R, me, b⟩, M.cl, M.no⟩
end
abbrev MethR (P : Program) (w : World) (K : PySem.W.Frag) (mg : Str → Option Value) (base : Heap) (k : Nat) (m : Str) (Fr : BookSt → List PyData → Res) : Prop := MethRG P w K mg base k kB "Book" m Fr
abbrev MethM (P : Program) (w : World) (K : PySem.W.Frag) (mg : Str → Option Value) (base : Heap) (k : Nat) (m : Str) (Fm : BookSt → List PyData → RM) : Prop := MethMG P w K mg base k kB "Book" m Fm
abbrev PFR (P : Program) (w : World) (K : PySem.W.Frag) (mg : Str → Option Value) (base : Heap) (k : Nat) (x : Str) (Fr : BookSt → List PyData → Res) : Prop := PFRG P w K mg base k kB x Fr
abbrev PFM (P : Program) (w : World) (K : PySem.W.Frag) (mg : Str → Option Value) (base : Heap) (k : Nat) (x : Str) (Fm : BookSt → List PyData → RM) : Prop := PFMG P w K mg base k kB x Fm
section
variable {S : Type} {kd : Kd S} {C : Str} {X : Cx} {K : PySem.W.Frag} {B : Bs} {w : WX} {W : XW} {e : Expr} {es : List Expr} {ta : TA} {sa : SA} {x m : Str} {p ap pos pos2 : Pos} {k j : Nat} {Fr : S → List PyData → Res} {Fm : S → List PyData → RMG S}
theorem se_meth (i : Nat) {pl : Sem Bool} (M : MethRG X.prog X.w K X.mg X.base k kd C m Fr) (hr : Room j X.A) (ha : SemA X K B (e :: es) ta sa) (hp : PE X (.Name x p) (tVar i)) (hk : k ≤ j := by decide)
    (hst : starEach (e :: es) X.env = (false, eval e X.env) :: starEach es X.env := by rfl) (hpl : (backTo pos (starEach es X.env)).any (·.1) = false := by rfl)
    (ht : eval (.Call (.Attribute (.Name x p) m ap) (e :: es) [] pos) X.env = (do
      let ov ← eval (.Name x p) X.env
      standAt ap.atName
      let (f, first) ← holding [ov] (getMethod ov m pl)
      callWith pos f first (backTo pos (starEach (e :: es) X.env)) (backToKw pos (keywordEach [] X.env))) := by rfl) (hK : X.K = K := by rfl) :
    SemE X K B (.Call (.Attribute (.Name x p) m ap) (e :: es) [] pos) (tMeth (He.ga K C) m (spRG K kd Fr) [] E0 (tVar i) ta) (eMeth kd B.bk i Fr sa) := by
  subst hK
  obtain ⟨f, fd, ps, G, me, b⟩ := M.ex
  obtain ⟨fl, kc, no⟩ := M.no
  exact ⟨pe_meth hp M.cl me G (hr.mono hk) b .nil passL ha.pa hst hpl ht, meth_okE kc no ha.ok⟩
theorem se_meth0 (i : Nat) {pl : Sem Bool} (M : MethRG X.prog X.w K X.mg X.base k kd C m Fr) (hr : Room j X.A) (hp : PE X (.Name x p) (tVar i)) (hk : k ≤ j := by decide)
    (ht : eval (.Call (.Attribute (.Name x p) m ap) [] [] pos) X.env = (do
      let ov ← eval (.Name x p) X.env
      standAt ap.atName
      let (f, first) ← holding [ov] (getMethod ov m pl)
      callWith pos f first (backTo pos (starEach [] X.env)) (backToKw pos (keywordEach [] X.env))) := by rfl) (hK : X.K = K := by rfl) :
    SemE X K B (.Call (.Attribute (.Name x p) m ap) [] [] pos) (tMeth (He.ga K C) m (spRG K kd Fr) [] E0 (tVar i) tNil) (eMeth kd B.bk i Fr eNil) := by
  subst hK
  obtain ⟨f, fd, ps, G, me, b⟩ := M.ex
  obtain ⟨fl, kc, no⟩ := M.no
  exact ⟨pe_meth0 hp M.cl me G (hr.mono hk) b .nil passL ht, meth_okE kc no nil_ok⟩
theorem sx_meth (i : Nat) {pl : Sem Bool} (tk : Takes X w) (M : MethRG X.prog X.w K X.mg X.base k kd C m Fr) (hr : Room j X.A) (ha : SemA X K B (e :: es) ta sa) (hp : PE X (.Name x p) (tVar i)) (hk : k ≤ j := by decide)
    (hst : starEach (e :: es) X.env = (false, eval e X.env) :: starEach es X.env := by rfl) (hpl : (backTo pos (starEach es X.env)).any (·.1) = false := by rfl)
    (ht : eval (.Call (.Attribute (.Name x p) m ap) (e :: es) [] pos) X.env = (eval (.Name x p) X.env >>= fun ov => standAt ap.atName >>= fun _ => holding [ov] (getMethod ov m pl) >>= fun r => callWith pos r.1 r.2 (backTo pos (starEach (e :: es) X.env)) (backToKw pos (keywordEach [] X.env))) := by rfl) (hK : X.K = K := by rfl) :
    SemX X K B w (.Call (.Attribute (.Name x p) m ap) (e :: es) [] pos) (tMethS (He.ga K C) m (spRG K kd Fr) (WE w) (tVar i) ta) (xMeth kd B.bk i Fr sa) := by
  subst hK
  obtain ⟨f, fd, ps, G, me, b⟩ := M.ex
  obtain ⟨fl, kc, no⟩ := M.no
  exact ⟨pe_methW tk hp M.cl me G hr hk b ha.pa hst hpl ht, methX_ok kc no ha.ok⟩
/-- book.m(..) that changes it, a statement -/
theorem s_mut (i : Nat) {pl : Sem Bool} (M : MethMG X.prog X.w K X.mg X.base k kd C m Fm) (hr : Room j X.A) (ha : SemA X K B (e :: es) ta sa) (hp : PE X (.Name x p) (tVar i)) (hk : k ≤ j := by decide)
    (hst : starEach (e :: es) X.env = (false, eval e X.env) :: starEach es X.env := by rfl) (hpl : (backTo pos (starEach es X.env)).any (·.1) = false := by rfl)
    (ht : eval (.Call (.Attribute (.Name x p) m ap) (e :: es) [] pos) X.env = (do
      let ov ← eval (.Name x p) X.env
      standAt ap.atName
      let (f, first) ← holding [ov] (getMethod ov m pl)
      callWith pos f first (backTo pos (starEach (e :: es) X.env)) (backToKw pos (keywordEach [] X.env))) := by rfl)
    (hs : swapsWith (.Call (.Attribute (.Name x p) m ap) (e :: es) [] pos) none pos2.line X.env = pure false := by rfl) (hK : X.K = K := by rfl) :
    SemS X K B W0 (.Expr (.Call (.Attribute (.Name x p) m ap) (e :: es) [] pos) pos2) (tDrop (tMeth (He.ga K C) m (spMG K kd Fm) [] E0 (tVar i) ta)) (sMut kd i Fm sa) := by
  subst hK
  obtain ⟨f, fd, ps, G, me, b⟩ := M.ex
  obtain ⟨fl, kc, no⟩ := M.no
  exact ⟨ps_expr (pe_meth hp M.cl me G (hr.mono hk) b .nil passL ha.pa hst hpl ht) hs, mut_okS kc no ha.ok⟩
/-- y = book.m(..) that changes it -/
theorem s_mutS (i l : Nat) {pl : Sem Bool} {y : Str} {p3 : Pos} (M : MethMG X.prog X.w K X.mg X.base k kd C m Fm) (hr : Room j X.A) (hN : X.N.Nodup) (ha : SemA X K B (e :: es) ta sa) (hp : PE X (.Name x p) (tVar i)) (hl : X.N[l]? = some y := by rfl) (hk : k ≤ j := by decide)
    (hx : Loc X.env.scope y := by first | exact Or.inl rfl | exact Or.inr rfl)
    (hst : starEach (e :: es) X.env = (false, eval e X.env) :: starEach es X.env := by rfl) (hpl : (backTo pos (starEach es X.env)).any (·.1) = false := by rfl)
    (ht : eval (.Call (.Attribute (.Name x p) m ap) (e :: es) [] pos) X.env = (do
      let ov ← eval (.Name x p) X.env
      standAt ap.atName
      let (f, first) ← holding [ov] (getMethod ov m pl)
      callWith pos f first (backTo pos (starEach (e :: es) X.env)) (backToKw pos (keywordEach [] X.env))) := by rfl)
    (hs : swapsWith (.Call (.Attribute (.Name x p) m ap) (e :: es) [] pos) (some (.Name y p3)) pos2.line X.env = pure false := by rfl) (hf : X.fn y = true ∨ X.env.scope.names.lookup y = some .local := by first | exact .inl rfl | exact .inr rfl) (hK : X.K = K := by rfl) :
    SemS X K B W0 (.Assign [.Name y p3] (.Call (.Attribute (.Name x p) m ap) (e :: es) [] pos) pos2) (tAsg (tMeth (He.ga K C) m (spMG K kd Fm) [] E0 (tVar i) ta) (gName l)) (sMutS kd i l Fm sa) := by
  subst hK
  obtain ⟨f, fd, ps, G, me, b⟩ := M.ex
  obtain ⟨fl, kc, no⟩ := M.no
  exact ⟨ps_set hN hl hx (pe_meth hp M.cl me G (hr.mono hk) b .nil passL ha.pa hst hpl ht) hs hf, mutS_okS kc no ha.ok⟩
/-- f(book, ..) that reads -/
theorem se_callR (i : Nat) {y : Str} {p2 : Pos} (C : PFRG X.prog X.w K X.mg X.base k kd x Fr) (hr : Room j X.A) (ha : SemA X K B es ta sa) (hp : PE X (.Name y p2) (tVar i)) (hk : k ≤ j := by decide) (hg : Gl X x := by rfl) (hdb : (x == ("__debug__" : Str)) = false := by decide)
    (he : starEach (.Name y p2 :: es) X.env = (false, eval (.Name y p2) X.env) :: starEach es X.env := by rfl) (hpl : (backTo pos (starEach es X.env)).any (·.1) = false := by rfl) (hK : X.K = K := by rfl) :
    SemE X K B (.Call (.Name x p) (.Name y p2 :: es) [] pos) (tCallB K kd Fr i ta) (eMeth kd B.bk i Fr sa) := by
  subst hK
  obtain ⟨f, fd, ps, h1, h2, h3, h4⟩ := C.ex
  exact ⟨pe_call h1 (hr.mono hk) hg h2 h3 h4 .nil pass0 (pa_cons hp ha.pa he) hdb he hpl, callR_ok ha.ok⟩
/-- f(book, ..), own lists handed in for a moment -/
theorem se_callRB (i : Nat) {y : Str} {p2 : Pos} (C : PFRG X.prog X.w K X.mg X.base k kd x Fr) (hr : Room j X.A) (ha : SemCA X K B es ta sa) (hp : PE X (.Name y p2) (tVar i)) (hk : k ≤ j := by decide) (hg : Gl X x := by rfl) (hdb : (x == ("__debug__" : Str)) = false := by decide)
    (he : starEach (.Name y p2 :: es) X.env = (false, eval (.Name y p2) X.env) :: starEach es X.env := by rfl) (hpl : (backTo pos (starEach es X.env)).any (·.1) = false := by rfl) (hK : X.K = K := by rfl) :
    SemE X K B (.Call (.Name x p) (.Name y p2 :: es) [] pos) (tCallB K kd Fr i ta) (fun ρ => onlyS (eMeth kd B.bk i Fr sa ρ)) := by
  subst hK
  obtain ⟨f, fd, ps, h1, h2, h3, h4⟩ := C.ex
  exact ⟨pe_call h1 (hr.mono hk) hg h2 h3 h4 .nil pass0 (pa_cons hp ha.pa he) hdb he hpl, callRB_ok ha.ok⟩
/-- f(book, ..) that changes it, a statement -/
theorem s_callM (i : Nat) {y : Str} {p2 : Pos} (C : PFMG X.prog X.w K X.mg X.base k kd x Fm) (hr : Room j X.A) (ha : SemA X K B es ta sa) (hp : PE X (.Name y p2) (tVar i)) (hk : k ≤ j := by decide) (hg : Gl X x := by rfl) (hdb : (x == ("__debug__" : Str)) = false := by decide)
    (he : starEach (.Name y p2 :: es) X.env = (false, eval (.Name y p2) X.env) :: starEach es X.env := by rfl) (hpl : (backTo pos (starEach es X.env)).any (·.1) = false := by rfl)
    (hs : swapsWith (.Call (.Name x p) (.Name y p2 :: es) [] pos) none pos2.line X.env = pure false := by rfl) (hK : X.K = K := by rfl) :
    SemS X K B W0 (.Expr (.Call (.Name x p) (.Name y p2 :: es) [] pos) pos2) (tDrop (tCall (spMG K kd Fm) [] E0 (tCons (tVar i) ta))) (sMut kd i Fm sa) := by
  subst hK
  obtain ⟨f, fd, ps, h1, h2, h3, h4⟩ := C.ex
  exact ⟨ps_expr (pe_call h1 (hr.mono hk) hg h2 h3 h4 .nil pass0 (pa_cons hp ha.pa he) hdb he hpl) hs, mutF_ok ha.ok⟩
/-- x = Book() -/
theorem s_mkB (i : Nat) {y : Str} {p2 : Pos} (hB : B.o = none) (ps : PS X (.Assign [.Name x p] (.Call (.Name y p2) [] [] pos) pos2) (tAsg (tMake (He.ga K "Book") (spInit K) [] E0 tNil) (gName i))) :
    SemS X K B W (.Assign [.Name x p] (.Call (.Name y p2) [] [] pos) pos2) (tAsg (tMake (He.ga K "Book") (spInit K) [] E0 tNil) (gName i)) (sMkB i) := ⟨ps, mk_okS hB⟩
end
/-- own lists become data, then f -/
def sFrz (f : SS) : SS := fun ρ => f (ρ.map frz1)
@[simp] theorem sFrz_eq (f : SS) (ρ : Rho) : sFrz f ρ = f (ρ.map frz1) := rfl
theorem s_frz {X : Cx} {K : PySem.W.Frag} {B : Bs} {W : XW} {st : Stmt} {t : TS} {f : SS} (h : SemS X K B W st t f) : SemS X K B W st t (sFrz f) := ⟨h.ps, fun Z R F H σ ρ D s hg => by
  obtain ⟨F', e1, s'⟩ := s.frz
  exact h.ok Z R F' H σ _ D s' (Goes.mono hg e1)⟩
/-- a reading function: its derivation for any object that is read, its value where it is handed that one -/
theorem sp_run {S : Type} {kd : Kd S} {X : Cx} {K : PySem.W.Frag} {N : List Str} {n : Nat} {st : List Stmt} {b : (Addr → Option ObjSt) → SS} {Fr : S → List PyData → Res} {vs : List V} {H : Hp} {Q : VK} {E : XK}
    (k : ∀ B : Bs, ∃ t, SemSs X.nox K B W0 st t (b B.bk)) (hF : ∀ a β ds, match Fr β ds with
      | .ret d => runF N n (b (only a (kd.inj β))) (refD a :: ds) = some d
      | .exc _ => False
      | .no => True) (h : spRG K kd Fr vs H Q E) : ∃ t, PSs X st t ∧ t { nx := fun _ H' => Q .non H', rt := Q } (start N vs) H := by
  obtain ⟨G, R, a, β, us, ds, rfl, e, eR, ap, bA, r, q⟩ := h
  have hf := hF a β ds
  cases e3 : Fr β ds with
  | no => rw [e3] at q; exact (show False from q).elim
  | exc c => rw [e3] at hf; exact hf.elim
  | ret d =>
    rw [e3] at q hf
    have bo : BsOk K ⟨R, G, only a (kd.inj β), none⟩ G H := ⟨Same.refl G, eR, ap, only_ok bA⟩
    obtain ⟨t, ht⟩ := k ⟨R, G, only a (kd.inj β), none⟩
    exact ⟨t, ht.ps.nox, sp_bodyB ht.ok bo e (.cons (.inr (.inl ⟨a, rfl, rfl⟩)) r) hf q⟩
/-! ### rows to reckon -/
@[simp] theorem sMkB_eq (i : Nat) (ρ : Rho) : sMkB i ρ = .nx (ρ.set i (.obj (.book ⟨[], []⟩))) := rfl
section
variable {S : Type} {kd : Kd S}
def outM (o : RMG S) (k : S → PyData → Out) (kx : Str → Out) : Out := match o with
  | .no => .no
  | .done β d => k β d
  | .exc c => kx c
@[simp] theorem outM_done (β : S) (d : PyData) (k : S → PyData → Out) (kx : Str → Out) : outM (.done β d) k kx = k β d := rfl
@[simp] theorem outM_exc (c : Str) (k : S → PyData → Out) (kx : Str → Out) : outM (.exc c) k kx = kx c := rfl
@[simp] theorem slO_inj (β : S) : slO kd (some (.obj (kd.inj β))) = some β := kd.pi β
@[simp] theorem slO_book (β : BookSt) : slO kB (some (.obj (.book β))) = some β := rfl
@[simp] theorem slO_deal (β : DealSt) : slO kD (some (.obj (.deal β))) = some β := rfl
@[simp] theorem slO_row (β : List Cell) : slO kW (some (.obj (.row β))) = some β := rfl
@[simp] theorem slO_dct (β : List (Int × PyData)) : slO kT (some (.obj (.dct β))) = some β := rfl
@[simp] theorem slO_any (β : ObjSt) : slO kA (some (.obj β)) = some β := rfl
def outO (o : Option S) (k : S → Out) : Out := match o with
  | some β => k β
  | none => .no
@[simp] theorem outO_some (β : S) (k : S → Out) : outO (some β) k = k β := rfl
@[simp] theorem sMut_eq (i : Nat) (Fm : S → List PyData → RMG S) (sa : SA) (ρ : Rho) : sMut kd i Fm sa ρ = outO (slO kd ρ[i]?) fun β => outL (sa ρ) fun ds => outM (Fm β ds) (fun β' _ => .nx (ρ.set i (.obj (kd.inj β')))) (fun c => .ex c ρ) := by
  unfold sMut
  cases slO kd ρ[i]? with
  | none => rfl
  | some s =>
    cases sa ρ with
    | none => rfl
    | some ds =>
      simp only [outO_some, outL_some]
      cases Fm s ds <;> rfl
@[simp] theorem sMutS_eq (i j : Nat) (Fm : S → List PyData → RMG S) (sa : SA) (ρ : Rho) : sMutS kd i j Fm sa ρ = outO (slO kd ρ[i]?) fun β => outL (sa ρ) fun ds => outM (Fm β ds) (fun β' d => .nx ((ρ.set i (.obj (kd.inj β'))).set j (.val d))) (fun c => .ex c ρ) := by
  unfold sMutS
  cases slO kd ρ[i]? with
  | none => rfl
  | some s =>
    cases sa ρ with
    | none => rfl
    | some ds =>
      simp only [outO_some, outL_some]
      cases Fm s ds <;> rfl
theorem rcv_obj (bk : Addr → Option ObjSt) (ρ : Rho) (i : Nat) (o : ObjSt) (h : ρ[i]? = some (.obj o)) : rcv kd bk ρ i = kd.prj o := by unfold rcv; rw [h]
theorem rcv_ref (a : Addr) (o : ObjSt) (ρ : Rho) (i : Nat) (h : ρ[i]? = some (.val (refD a))) : rcv kd (only a o) ρ i = kd.prj o := by
  unfold rcv
  rw [h]
  simp [refD, addrOf, only]
theorem eMeth_eq (bk : Addr → Option ObjSt) (i : Nat) (Fr : S → List PyData → Res) (sa : SA) (ρ : Rho) : eMeth kd bk i Fr sa ρ = (rcv kd bk ρ i).bind fun β => (sa ρ).bind fun ds => (Fr β ds).ok := by
  unfold eMeth xMeth
  cases rcv kd bk ρ i with
  | none => rfl
  | some β => cases sa ρ <;> rfl
end
@[simp] theorem frz1_obj (o : ObjSt) : frz1 (.obj o) = .obj o := rfl
end RT
/-! A caught exception asked for its class; a head that looks at more. -/
namespace RT
open PySem PySem.Spec PyProof.Rows L2
theorem vals_refs : ∀ {ds : List Addr} {us : List Value}, Vals (ds.map V.ref) us → us = ds.map Value.ref
  | [], us, h => by cases h; rfl
  | d :: ds, us, h => by
    cases h with
    | cons r rs =>
      cases r
      rw [vals_refs rs]
      rfl
/-- isinstance(e, (C1, C2, ..)), e the exception that the suite holds -/
def rIsET (K : PySem.W.Frag) (D a : Addr) : List V → Hp → VK → Prop := fun xs H Q => ∃ (tp : Addr) (ds : List Addr) (b : Bool), xs = [.ref a, .ref tp] ∧ H tp = some (.tup (ds.map V.ref)) ∧ PySem.W.kitAny K (.ref D) (ds.map Value.ref) = some b ∧ Q (.bl b) H
theorem call_isET {X : Cx} {a D : Addr} {oe : Obj} {pn : List (Addr × Obj)} (C : ExcC X.K D) (hz : Zc (.ref D) none oe) (hf : ∃ vs, oe.data = .fields vs) : CallR (X.suite a ((a, oe) :: pn)) (.builtin "isinstance") (rIsET X.K D a) := fun pins s σ H xs us Q I r h => by
  obtain ⟨tp, ds, b, rfl, hT, e, q⟩ := h
  cases r with
  | cons rx rr =>
  cases rr with
  | cons rt rr =>
  cases rr
  cases rx
  cases rt
  obtain ⟨_, its, rv, o, k1, k2, n, k3⟩ := (show ObjOk X.prog X.w H s.heap tp (.tup (ds.map V.ref)) from I.hok tp _ hT)
  have ei := vals_refs rv
  subst ei
  obtain ⟨oc, od, dt, sl⟩ := o
  simp only at k2 k3
  subst k2 k3
  obtain ⟨hget, _⟩ := I.pin (a, oe) (List.mem_append.mpr (.inl List.mem_cons_self))
  obtain ⟨vs, hv⟩ := hf
  have J : PySem.W.InstAt s.heap a oe D none := by
    obtain ⟨oc2, od2, oda, osl⟩ := oe
    obtain ⟨h1, h2⟩ := hz
    dsimp only at h1 h2 hv
    subst h1 h2 hv
    exact ⟨hget, rfl, rfl, trivial⟩
  exact PySem.W.kia_tup (PySem.W.handS_kitx_exc C.hg C.hk C.hs C.hd C.ha C.hn C.ht C.hm) I.kIn J k1 e (fun z => nomatch z) fun tk => ⟨.bl b, H, I.kept (t' := tk) fun _ _ z => z, rfl, q⟩
/-- the facts of a class, looked at once -/
def excB (K : PySem.W.Frag) (D : Addr) : Bool := decide (PySem.W.findIn K (.ref D) "__getattribute__" = some (some (.builtin "BaseException.__getattribute__"))) && (decide (PySem.W.findIn K (.ref D) "__getattr__" = some none) && (decide (PySem.W.subIn K (.ref D) (.type "BaseException") = some true) &&
  (PySem.W.hasDictIn K D && (decide (PySem.W.findIn K (.ref D) "__class__" = some (some (.builtin "object.__class__"))) && (decide (PySem.W.specialIn K (.builtin "object.__class__") "__get__" = some (some (.builtin "getset_descriptor.__get__"))) && (decide (PySem.W.takesIn K (.builtin "object.__class__") = some true) && decide (PySem.W.mroIn K D (.type "object") = some true)))))))
theorem excB_ok {K : PySem.W.Frag} {D : Addr} (h : excB K D = true) : ExcC K D := by
  unfold excB at h
  simp only [Bool.and_eq_true, decide_eq_true_eq] at h
  obtain ⟨h1, h2, h3, h4, h5, h6, h7, h8⟩ := h
  exact ⟨h1, h2, h3, h4, h5, h6, h7, h8⟩
def kitB1 (K : PySem.W.Frag) (D : Addr) (c : Value) (b : Bool) : Bool := decide (PySem.W.kitOne K (.ref D) c = some b)
def kitBs (K : PySem.W.Frag) (D : Addr) (cs : List Value) (b : Bool) : Bool := decide (PySem.W.kitAny K (.ref D) cs = some b)
/-- a head's look at facts, defs, and one more thing -/
def hookP (n : Nat) (fa : List He.Fa) (fn : List He.DefD) (ex : PySem.W.Frag → Bool) : PySem.W.Hook where
  α := He.AlD × Bool
  obs := fun s => (He.obsDG n fa fn s.heap.get?, ex (He.frG s.heap.get? (He.asD s.heap.get? n)))
  val := fun _ => (He.valD fn, true)
  says := fun _ h => ∃ K : PySem.W.Frag, K.In h ∧ He.SaysD fa fn K ∧ ex K = true
  of := fun _ _ e => ⟨_, He.frG_in, congrArg Prod.fst e, congrArg Prod.snd e⟩
  keeps := fun _ _ _ h k => by
    obtain ⟨K, hK, c⟩ := h
    exact ⟨K, PySem.W.Frag.In.keeps hK k, c⟩
def obsP (n : Nat) (fa : List He.Fa) (fn : List He.DefD) (ex : PySem.W.Frag → Bool) (g : Addr → Option Obj) : He.AlD × Bool := (He.obsDG n fa fn g, ex (He.frG g (He.asD g n)))
theorem obsP_eq {n : Nat} {fa : List He.Fa} {fn : List He.DefD} {ex : PySem.W.Frag → Bool} {g : Addr → Option Obj} {s : Shared} (h : ∀ a, g a = s.heap.get? a) : obsP n fa fn ex g = (hookP n fa fn ex).obs s := by
  cases (funext h : g = s.heap.get?)
  rfl
end RT
/-! A walk along a locked dict's keys. -/
namespace RT
open PySem PySem.Spec PyProof.Rows L2
theorem for_keys {d : Addr} {o : Obj} {kvs : List (Key × V)} {g : TG} {tb : TS} {D : Ends} {σ : L2.St} {H : Hp} (Pv : Nat → L2.St → Hp → Prop) (h0 : Pv 0 σ H) (hl : ∀ i σ H, i ≤ kvs.length → Pv i σ H → H d = some (.frz o (.dK kvs)))
    (hs : ∀ i k v σ H, kvs[i]? = some (k, v) → Pv i σ H → g (kV k) σ H fun σ2 H2 => tb { D with nx := Pv (i + 1), ct := Pv (i + 1), bk := D.nx } σ2 H2) (hd : ∀ σ H, Pv kvs.length σ H → D.nx σ H) :
    ∃ W : Nat → Nat → L2.St → Hp → Prop, (∃ m, W 0 m σ H) ∧ ∀ i m σ H, W i m σ H →
      ((Itk d o kvs).stop i H ∧ D.nx σ H) ∨ ((Itk d o kvs).go i H ∧ ∃ N : L2.St → Hp → Prop, (∀ σ' H', N σ' H' → ∃ m', m' < m ∧ W (i + 1) m' σ' H') ∧ ∀ x H', (Itk d o kvs).yld i H x H' → g x σ H' fun σ2 H2 => tb { D with nx := N, ct := N, bk := D.nx } σ2 H2) := by
  refine ⟨fun i m σ H => m = kvs.length - i ∧ i ≤ kvs.length ∧ Pv i σ H, ⟨_, rfl, Nat.zero_le _, h0⟩, fun i m σ H w => ?_⟩
  obtain ⟨rfl, hi, p⟩ := w
  have hk := hl i σ H hi p
  rcases Nat.lt_or_ge i kvs.length with lt | ge
  · refine .inr ⟨⟨hk, lt⟩, Pv (i + 1), fun σ' H' q => ⟨kvs.length - (i + 1), by omega, rfl, lt, q⟩, fun x H' y => ?_⟩
    obtain ⟨rfl, k, v, e, rfl⟩ := y
    exact hs i k v σ H' e p
  · have e : i = kvs.length := Nat.le_antisymm hi ge
    subst e
    exact .inl ⟨⟨hk, Nat.le_refl _⟩, hd σ H p⟩
end RT
/-! Functions that hand back a new book. -/
namespace RT
open PySem PySem.Spec PyProof.Rows L2
section
variable {S : Type}
def spNew (K : PySem.W.Frag) (kd : Kd S) (Ff : List PyData → Option S) : Sp := fun vs H Q _ => ∃ (G : Hp) (ds : List PyData) (β : S), Same G H ∧ RpAll K G vs ds ∧ Ff ds = some β ∧
  ∀ a H' G' R', Grow H G H' G' → Same R' H' → Apart R' G' → (∀ x, R' x ≠ none → H x = none) → ObjAt K G' R' a (kd.inj β) → Q (.ref a) H'
def sRetO (i : Nat) : SS := fun ρ => match ρ[i]? with
  | some (.obj _) => .ro i ρ
  | _ => .no
def runNew (kd : Kd S) (N : List Str) (n : Nat) (b : SS) : List PyData → Option S := fun ds => if ds.length = n then (match b (rho0 N ds) with
  | .ro i ρ => slO kd ρ[i]?
  | _ => none) else none
def sSetB (i : Nat) (kd : Kd S) (Ff : List PyData → Option S) (sa : SA) : SS := fun ρ => match (sa ρ).bind Ff with
  | some β => .nx (ρ.set i (.obj (kd.inj β)))
  | none => .no
theorem retO_ok {K : PySem.W.Frag} {B : Bs} {W : XW} (i : Nat) : SSOk K B W (tRet (tVar i)) (sRetO i) := fun Z R F H σ ρ D s hg => by
  unfold sRetO at hg
  split at hg
  · rename_i o e
    obtain ⟨a, h1, _⟩ := s.env.obj i _ e
    exact ⟨.ref a, h1, hg (.ref a) σ H R F s h1 (Same.refl F)⟩
  · exact hg.elim
theorem sp_bodyN {kd : Kd S} {K : PySem.W.Frag} {N : List Str} {n : Nat} {b : SS} {t : TS} {vs : List V} {H : Hp} {Q : VK} {E : XK} (k : SSOk K noB W0 t b) (h : spNew K kd (runNew kd N n b) vs H Q E) : t { nx := fun _ H' => Q .non H', rt := Q } (start N vs) H := by
  obtain ⟨G, ds, β, e, hR, hF, hQ⟩ := h
  refine k ⟨noH, H, G⟩ noR G H _ _ _ (start_ok bsOk_no e hR) ?_
  unfold runNew at hF
  split at hF
  · cases hb : b (rho0 N ds) with
    | no => rw [hb] at hF; cases hF
    | nx r => rw [hb] at hF; cases hF
    | rt d r => rw [hb] at hF; cases hF
    | ex c r => rw [hb] at hF; cases hF
    | ro i r =>
      rw [hb] at hF
      have ho := slO_ok (show slO kd r[i]? = some β from hF)
      exact fun v σ H' R' F' s hv _ => by
        obtain ⟨a, h1, h2⟩ := s.env.obj i _ ho
        rw [h1] at hv
        cases hv
        exact hQ a H' F' (R' i) s.gr.pure (s.env.rh i) (s.env.rF i) (fun x hx => (s.fo i x hx).elim (fun z => absurd rfl z) id) h2
  · cases hF
theorem setB_ok {kd : Kd S} {K : PySem.W.Frag} {B : Bs} {W : XW} {ta : TA} {sa : SA} {Ff : List PyData → Option S} (i : Nat) (hB : B.o = none) (ha : AOk K B ta sa) : SSOk K B W (tAsg (tCall (spNew K kd Ff) [] E0 ta) (gName i)) (sSetB i kd Ff sa) := fun Z R F H σ ρ D s hg => by
  unfold sSetB at hg
  cases e1 : sa ρ with
  | none => rw [e1] at hg; exact hg.elim
  | some ds =>
    rw [e1, Option.bind_some] at hg
    cases e2 : Ff ds with
    | none => rw [e2] at hg; exact hg.elim
    | some β =>
      simp only [e2] at hg
      refine ha _ F H σ ρ ds s.env e1 _ fun vs H1 G1 g1 r1 => ?_
      show spNew K kd Ff (vs ++ []) H1 _ E0
      rw [List.append_nil]
      exact ⟨G1, ds, β, g1.sub, r1, e2, fun a H' G' R' g rh rF rn bA => hg _ H' _ G' ((s.grow g1).newO (fun _ => hB) g rh rF rn bA) (g1.f.trans g.f)⟩
/-- a function that hands back a new object -/
structure PFN (P : Program) (w : World) (K : PySem.W.Frag) (mg : Str → Option Value) (base : Heap) (k : Nat) (kd : Kd S) (x : Str) (Ff : List PyData → Option S) : Prop where
  ex : ∃ (f : Addr) (fd : FuncData) (ps : List Str), FnOk P w K mg base CX0 k f fd ps (spNew K kd Ff) ∧ mg x = some (.ref f) ∧ PySem.W.keepIn K (.ref f) = true ∧ Binds K fd ps []
end
section
variable {S : Type} {kd : Kd S} {X : Cx} {K : PySem.W.Frag} {B : Bs} {W : XW} {e : Expr} {es : List Expr} {ta : TA} {sa : SA} {x y : Str} {p p2 pos pos2 : Pos} {k j : Nat} {Ff : List PyData → Option S}
theorem s_retO (i : Nat) (hp : PE X e (tVar i)) : SemS X K B W (.Return (some e) pos) (tRet (tVar i)) (sRetO i) := ⟨ps_ret hp, retO_ok i⟩
theorem s_setB (i : Nat) (C : PFN X.prog X.w K X.mg X.base k kd x Ff) (hr : Room j X.A) (hB : B.o = none) (hN : X.N.Nodup) (ha : SemA X K B (e :: es) ta sa) (hi : X.N[i]? = some y := by rfl) (hk : k ≤ j := by decide) (hx : Loc X.env.scope y := by first | exact Or.inl rfl | exact Or.inr rfl)
    (hs : swapsWith (.Call (.Name x p) (e :: es) [] pos) (some (.Name y p2)) pos2.line X.env = pure false := by rfl) (hf : X.fn y = true ∨ X.env.scope.names.lookup y = some .local := by first | exact .inl rfl | exact .inr rfl)
    (hg : Gl X x := by rfl) (hdb : (x == ("__debug__" : Str)) = false := by decide) (he : starEach (e :: es) X.env = (false, eval e X.env) :: starEach es X.env := by rfl) (hpl : (backTo pos (starEach es X.env)).any (·.1) = false := by rfl) (hK : X.K = K := by rfl) :
    SemS X K B W (.Assign [.Name y p2] (.Call (.Name x p) (e :: es) [] pos) pos2) (tAsg (tCall (spNew K kd Ff) [] E0 ta) (gName i)) (sSetB i kd Ff sa) := by
  subst hK
  obtain ⟨f, fd, ps, h1, h2, h3, h4⟩ := C.ex
  exact ⟨ps_set hN hi hx (pe_call h1 (hr.mono hk) hg h2 h3 h4 .nil pass0 ha.pa hdb he hpl) hs hf, setB_ok i hB ha.ok⟩
end
/-- the object handed in, nothing read -/
abbrev oB (a : Addr) : Bs := ⟨fun _ => none, fun _ => none, fun _ => none, some a⟩
/-- a changing function: its derivation, whatever object is handed in (its reading must not name it) -/
theorem sp_runM {S : Type} {kd : Kd S} {X : Cx} {K : PySem.W.Frag} {N : List Str} {n : Nat} {st : List Stmt} {b : SS} {t : TS} {vs : List V} {H : Hp} {Q : VK} {E : XK} (hN : 0 < N.length)
    (k : ∀ a, SemSs X.nox K (oB a) W0 st t b) (h : spMG K kd (runMG kd N n b) vs H Q E) : ∃ t, PSs X st t ∧ t { nx := fun _ H' => Q .non H', rt := Q } (start N vs) H :=
  ⟨t, (k 0).ps.nox, sp_bodyM hN (fun a => (k a).ok) h⟩
theorem sp_runMB {X : Cx} {K : PySem.W.Frag} {N : List Str} {n : Nat} {st : List Stmt} {b : (Addr → Option ObjSt) → SS} {t : TS} {vs : List V} {H : Hp} {Q : VK} {E : XK} (hN : 0 < N.length)
    (k : ∀ B : Bs, SemSs X.nox K B W0 st t (b B.bk)) (h : spMB K (runMB N n b) vs H Q E) : ∃ t, PSs X st t ∧ t { nx := fun _ H' => Q .non H', rt := Q } (start N vs) H :=
  ⟨t, (k noB).ps.nox, sp_bodyMB hN (fun B => (k B).ok) h⟩
theorem sp_runN {S : Type} {kd : Kd S} {X : Cx} {K : PySem.W.Frag} {N : List Str} {n : Nat} {st : List Stmt} {b : SS} {t : TS} {vs : List V} {H : Hp} {Q : VK} {E : XK}
    (k : SemSs X.nox K noB W0 st t b) (h : spNew K kd (runNew kd N n b) vs H Q E) : ∃ t, PSs X st t ∧ t { nx := fun _ H' => Q .non H', rt := Q } (start N vs) H := ⟨t, k.ps.nox, sp_bodyN k.ok h⟩
theorem runO_len {N : List Str} {n : Nat} {b : SS} {o : ObjSt} {ds : List PyData} {A : ObjSt → PyData → Prop} {C : Str → Prop} (q : (runO N n b o ds).goes A C) : ds.length + 1 = n := by
  unfold runO at q
  split at q
  · assumption
  · exact (show False from q).elim
theorem runM_len {S : Type} {kd : Kd S} {N : List Str} {n : Nat} {b : SS} {β : S} {ds : List PyData} {A : S → PyData → Prop} {C : Str → Prop} (q : (runMG kd N n b β ds).goes A C) : ds.length + 1 = n := by
  unfold runMG runO at q
  split at q
  · assumption
  · exact (show False from q).elim
theorem runNew_len {S : Type} {kd : Kd S} {N : List Str} {n : Nat} {b : SS} {ds : List PyData} {β : S} (q : runNew kd N n b ds = some β) : ds.length = n := by
  unfold runNew at q
  split at q
  · assumption
  · cases q
theorem spR_len {S : Type} {kd : Kd S} {K : PySem.W.Frag} {N : List Str} {n : Nat} {b : (Addr → Option ObjSt) → SS} {Fr : S → List PyData → Res} {vs : List V} {H : Hp} {Q : VK} {E : XK}
    (hF : ∀ a β ds, match Fr β ds with
      | .ret d => runF N n (b (only a (kd.inj β))) (refD a :: ds) = some d
      | .exc _ => False
      | .no => True) (h : spRG K kd Fr vs H Q E) : vs.length = n := by
  obtain ⟨G, R, a, β, us, ds, rfl, h1, h2, h3, h4, h5, q⟩ := h
  have hf := hF a β ds
  cases e : Fr β ds with
  | no => rw [e] at q; exact (show False from q).elim
  | exc c => rw [e] at hf; exact hf.elim
  | ret d =>
    rw [e] at hf
    have hf' : runF N n (b (only a (kd.inj β))) (refD a :: ds) = some d := hf
    unfold runF at hf'
    split at hf'
    · rename_i hl
      rw [List.length_cons, h5.len]
      simpa using hl
    · cases hf'
end RT
/-! Own lists emptied, drawn out; lists of own lists; slices with a step. -/
namespace RT
open PySem PySem.Spec PyProof.Rows L2
def sClr (i : Nat) : SS := fun ρ => match ρ[i]? with
  | some (.own _) => .nx (ρ.set i (.own []))
  | _ => .no
def sExt (i : Nat) (f : SE) : SS := fun ρ => match ρ[i]?, f ρ with
  | some (.own ds), some (.list es) => if ds.length + es.length ≤ LIM then .nx (ρ.set i (.own (ds ++ es))) else .no
  | _, _ => .no
def sIns (i : Nat) (ix f : SE) : SS := fun ρ => match ρ[i]?, ix ρ, f ρ with
  | some (.own ds), some (.int k), some d => if dataD d = true ∧ ds.length ≤ LIM ∧ 0 ≤ k ∧ k ≤ LIM then .nx (ρ.set i (.own (ds.take k.toNat ++ [d] ++ ds.drop k.toNat))) else .no
  | _, _, _ => .no
def sPop0 (i j : Nat) : SS := fun ρ => match ρ[i]? with
  | some (.own (d :: ds)) => .nx ((ρ.set i (.own ds)).set j (.val d))
  | _ => .no
section
variable {X : Cx} {K : PySem.W.Frag} {B : Bs} {W : XW} {te tix : TE} {f ix : SE} {i j : Nat}
theorem lim_sz {n : Nat} (h : n ≤ LIM) : n ≤ sizeLine := Nat.le_trans h (by decide)
theorem clr_okS (i : Nat) : SSOk K B W (tDrop (tBM0 K "list" rClear (tVar i))) (sClr i) := fun Z R F H σ ρ D s hg => by
  unfold sClr at hg
  split at hg
  · rename_i ds h1
    obtain ⟨p, vs, e1, e2, e3, e4, _⟩ := s.env.own i ds h1
    exact ⟨.ref p, e1, .inl ⟨rfl, vs, .inl (.inl e2)⟩, p, vs, rfl, rfl, e2, hg _ _ R F (s.upd i h1 e1 .nil) (Same.refl F)⟩
  · exact hg.elim
theorem ext_okS (i : Nat) (k : BOk K B te f) : SSOk K B W (tDrop (tBM K "list" rExtend (tVar i) (tCons te tNil))) (sExt i f) := fun Z R F H σ ρ D s hg => by
  unfold sExt at hg
  split at hg
  · rename_i ds es h1 h2
    split at hg
    · rename_i hc
      obtain ⟨p, vs, e1, e2, e3, e4, _⟩ := s.env.own i ds h1
      refine ⟨.ref p, e1, .inl ⟨rfl, vs, .inl (.inl e2)⟩, ?_⟩
      refine k _ F H σ ρ _ s.env h2 _ fun v H' G g b => ?_
      obtain ⟨q, us, rfl, hq, hA⟩ := b.list g.sub
      refine ⟨p, q, vs, us, rfl, rfl, g.h _ _ e2, hq, ?_, ?_⟩
      · rw [e3.len, hA.len]; exact lim_sz hc
      · exact hg _ _ R G ((s.grow g).upd i h1 e1 ((dpa_mono g.f ds e3).append hA)) g.f
    · exact hg.elim
  · exact hg.elim
theorem ins_okS (i : Nat) (kx : EOk K B tix ix) (k : EOk K B te f) : SSOk K B W (tDrop (tBM K "list" (fun x vs H Q => ∃ (l : Addr) (xs : List V) (i : Int) (y : V), x = .ref l ∧ vs = [.int i, y] ∧ H l = some (.lst xs) ∧ xs.length < sizeLine ∧ 0 ≤ i ∧ i < 2 ^ 63 ∧ Q .non (upd H l (.lst (xs.take i.toNat ++ [y] ++ xs.drop i.toNat)))) (tVar i) (tCons tix (tCons te tNil)))) (sIns i ix f) := fun Z R F H σ ρ D s hg => by
  unfold sIns at hg
  split at hg
  · rename_i ds kk d h1 h2 h3
    split at hg
    · rename_i hc
      obtain ⟨p, vs, e1, e2, e3, e4, _⟩ := s.env.own i ds h1
      refine ⟨.ref p, e1, .inl ⟨rfl, vs, .inl (.inl e2)⟩, ?_⟩
      refine kx _ F H σ ρ _ s.env h2 _ fun u H1 G1 g1 r1 => ?_
      refine k _ G1 H1 σ ρ _ (s.env.grow g1) h3 _ fun v H2 G2 g2 r2 => ?_
      have eu := Bp.int (H := G1) (.inl r1)
      subst eu
      have g := g1.trans g2
      refine ⟨p, vs, kk, v, rfl, rfl, g.h _ _ e2, ?_, hc.2.2.1, ?_, ?_⟩
      · rw [e3.len]; exact Nat.lt_of_lt_of_le (show ds.length < LIM + 1 by omega) (by decide)
      · exact Int.lt_of_le_of_lt hc.2.2.2 (by decide)
      · have hA := dpa_mono g.f ds e3
        exact hg _ _ R G2 ((s.grow g).upd i h1 e1 (((hA.take _).append (.cons (r2.dp (by rintro l rfl; cases hc.1)) .nil)).append (hA.drop _))) g.f
    · exact hg.elim
  · exact hg.elim
theorem StOk.set2 {Z : St0} {R : Rg} {F H : Hp} {σ : L2.St} {ρ : Rho} {v : V} {d : PyData} (s : StOk K B Z R F H σ ρ) (j : Nat) (r : Rp K F v d) : StOk K B Z R F H (σ.set j (some v)) (ρ.set j (.val d)) := s.setV j r
theorem pop0_okS (i j : Nat) : SSOk K B W (tAsg (tBM K "list" rPopAt (tVar i) (tCons (tC (.int 0)) tNil)) (gName j)) (sPop0 i j) := fun Z R F H σ ρ D s hg => by
  unfold sPop0 at hg
  split at hg
  · rename_i d ds h1
    obtain ⟨p, vs, e1, e2, e3, e4, _⟩ := s.env.own i _ h1
    cases e3 with
    | @cons v vs _ _ hd htl =>
      refine ⟨.ref p, e1, .inl ⟨rfl, _, .inl (.inl e2)⟩, p, _, 0, 0, v, rfl, rfl, e2, by decide, by decide, ?_, rfl, ?_⟩
      · unfold seqIndex?
        simp
      · exact hg _ _ R F ((s.upd i h1 e1 htl).set2 j (.inl hd)) (Same.refl F)
  · exact hg.elim
end
@[simp] theorem sClr_eq (i : Nat) (ρ : Rho) : sClr i ρ = outL (ownL ρ[i]?) fun _ => .nx (ρ.set i (.own [])) := by
  unfold sClr
  cases ρ[i]? with
  | none => rfl
  | some s => cases s <;> rfl
@[simp] theorem sPop0_own (i j : Nat) (ρ : Rho) (d : PyData) (ds : List PyData) (h : ρ[i]? = some (.own (d :: ds))) : sPop0 i j ρ = .nx ((ρ.set i (.own ds)).set j (.val d)) := by
  unfold sPop0; rw [h]
def lisD : PyData → Option (List PyData)
  | .list ds => some ds
  | _ => none
@[simp] theorem lisD_list (ds : List PyData) : lisD (.list ds) = some ds := rfl
@[simp] theorem sExt_eq (i : Nat) (f : SE) (ρ : Rho) : sExt i f ρ = outL (ownL ρ[i]?) fun ds => outL ((f ρ).bind lisD) fun es => if ds.length + es.length ≤ LIM then .nx (ρ.set i (.own (ds ++ es))) else .no := by
  unfold sExt
  cases ρ[i]? with
  | none => rfl
  | some s =>
    cases s with
    | own ds =>
      cases f ρ with
      | none => rfl
      | some d => cases d <;> rfl
    | _ => rfl
theorem sIns_own (i : Nat) (ix f : SE) (ρ : Rho) (ds : List PyData) (k : Int) (d : PyData) (h1 : ρ[i]? = some (.own ds)) (h2 : ix ρ = some (.int k)) (h3 : f ρ = some d) (hd : dataD d = true) (hl : ds.length ≤ LIM) (h0 : 0 ≤ k) (hk : k ≤ LIM) :
    sIns i ix f ρ = .nx (ρ.set i (.own (ds.take k.toNat ++ [d] ++ ds.drop k.toNat))) := by
  unfold sIns
  rw [h1, h2, h3]
  simp [hd, hl, h0, hk]
/-! ### lists of own lists -/
def cellD : Cell → PyData
  | .dat d => d
  | .lst ds => .list ds
def eRow (i : Nat) (fa : SE) : SE := fun ρ => (slO kW ρ[i]?).bind fun cs => match fa ρ with
  | some (.int k) => (atI cs k).map cellD
  | _ => none
def eRowLen (i : Nat) : SE := fun ρ => (slO kW ρ[i]?).map fun cs => .int (cs.length : Nat)
theorem atI_some {α β : Type} {l : List α} {m : List β} {i : Int} {x : α} (hl : l.length = m.length) (h : atI l i = some x) : ∃ (j : Nat) (y : β), l[j]? = some x ∧ m[j]? = some y ∧ atI m i = some y := by
  unfold atI at h ⊢
  cases e : ixN l.length i with
  | none => rw [e] at h; cases h
  | some j =>
    rw [e, Option.bind_some] at h
    have hj : j < m.length := by
      have := (List.getElem?_eq_some_iff.mp h).1
      omega
    rw [← hl, e, Option.bind_some]
    exact ⟨j, m[j], h, List.getElem?_eq_getElem hj, List.getElem?_eq_getElem hj⟩
section
variable {X : Cx} {K : PySem.W.Frag} {B : Bs} {W : XW} {ta tb te : TE} {fa fb fe : SE} {i j : Nat}
theorem row_okB (i : Nat) (ka : BOk K B ta fa) : BOk K B (tOp (rIx K) (tVar i) ta) (eRow i fa) := fun R F H σ ρ d E q Q k => by
  unfold eRow at q
  cases ho : slO kW ρ[i]? with
  | none => rw [ho] at q; cases q
  | some cs =>
    rw [ho, Option.bind_some] at q
    split at q
    · rename_i kk hk
      obtain ⟨a, h1, vs, hr⟩ := E.obj i _ (slO_ok ho)
      refine ⟨.ref a, h1, ?_⟩
      refine ka _ F H σ ρ _ E hk _ fun u H1 G1 g1 b1 => ?_
      have eu := b1.int
      subst eu
      cases hc : atI cs kk with
      | none => rw [hc] at q; cases q
      | some c =>
        rw [hc] at q
        cases q
        obtain ⟨m, v, x1, x2, x3⟩ := atI_some hr.len.symm hc
        refine .inl ⟨a, vs, kk, v, rfl, rfl, .inl (.inl (g1.h _ _ (E.rh i _ _ hr.ob))), x3, k v H1 G1 g1 ?_⟩
        have hel := hr.el m v c x2 x1
        cases hel with
        | dat hd => exact .inl (.inl (dp_mono g1.f _ hd))
        | lst n1 n2 n3 => exact .inr ⟨_, _, _, rfl, rfl, g1.h _ _ (E.rh i _ _ n2), dpa_mono g1.f _ n3⟩
    · cases q
theorem rowLen_ok (i : Nat) : EOk K B (tCB (rLenA K) (tCons (tVar i) tNil)) (eRowLen i) := fun R F H σ ρ d E q Q k => by
  unfold eRowLen at q
  cases ho : slO kW ρ[i]? with
  | none => rw [ho] at q; cases q
  | some cs =>
    rw [ho] at q
    cases q
    obtain ⟨a, h1, vs, hr⟩ := E.obj i _ (slO_ok ho)
    exact ⟨.ref a, h1, .ref a, cs.length, rfl, .inl ⟨vs, .inl (.inl (E.rh i _ _ hr.ob)), hr.len.symm⟩, k _ H F (Grow.refl E.ex) (rp_int _)⟩
/-- o[k], k from nought, of a list -/
def rIxP (K : PySem.W.Frag) : V → V → Hp → VK → Prop := fun x y H Q => ∃ p xs i v, x = .ref p ∧ y = .int i ∧ SqL K H p xs ∧ 0 ≤ i ∧ xs[i.toNat]? = some v ∧ Q v H
theorem get_listP : PGet X (rIxP X.K) := by
  intro pins s σ H x y v u Q I rx ry h
  obtain ⟨p, xs, i, z, rfl, rfl, hq, h0, he, q⟩ := h
  cases rx
  obtain ⟨t, rfl⟩ := ry
  obtain ⟨its, r, pl, hz⟩ := I.list hq
  obtain ⟨w, ew, rw'⟩ := r.get he
  have hl := r.length
  have hn := line63
  have hj := (List.getElem?_eq_some_iff.mp he).1
  exact wpAny_getItem_list (Q := EP X pins σ Q) pl.isList h0 (by omega) (by simpa using ew) ⟨z, H, I, rw', q⟩
def augRow (cs : List Cell) (a b e : Int) : Option (List Cell) := match cs[a.toNat]? with
  | some (.lst ds) => (match ds[b.toNat]? with
    | some (.int x) => if 0 ≤ a ∧ 0 ≤ b then some (cs.set a.toNat (.lst (ds.set b.toNat (.int (x + e))))) else none
    | _ => none)
  | _ => none
/-- x[a][b] += e -/
def sAugRow (i : Nat) (fa fb fe : SE) : SS := fun ρ => match slO kW ρ[i]?, fa ρ, fb ρ, fe ρ with
  | some cs, some (.int a), some (.int b), some (.int e) => (match augRow cs a b e with
    | some cs' => .nx (ρ.set i (.obj (.row cs')))
    | none => .no)
  | _, _, _, _ => .no
theorem augRow_okS (i : Nat) (ka : EOk K B ta fa) (kb : EOk K B tb fb) (ke : EOk K B te fe) : SSOk K B W (tAugS (tOp (rIx K) (tVar i) ta) tb te (rIxP K) (ipI fun i j => i + j) rSetL) (sAugRow i fa fb fe) := fun Z R F H σ ρ D s hg => by
  unfold sAugRow at hg
  split at hg
  · rename_i cs a b e h1 h2 h3 h4
    split at hg
    · rename_i cs' hc
      unfold augRow at hc
      split at hc
      · rename_i ds hds
        split at hc
        · rename_i x hx
          split at hc
          · rename_i hab
            cases hc
            obtain ⟨r, o1, vs, hr⟩ := s.env.obj i _ (slO_ok h1)
            have hlt := (List.getElem?_eq_some_iff.mp hds).1
            have hvl : a.toNat < vs.length := by rw [hr.len]; exact hlt
            obtain ⟨v, hv⟩ : ∃ v, vs[a.toNat]? = some v := ⟨vs[a.toNat], List.getElem?_eq_getElem hvl⟩
            have hel := hr.el _ v _ hv hds
            cases hel with
            | @lst p us _ n1 n2 n3 =>
            refine ⟨.ref r, o1, ?_⟩
            refine ka _ F H σ ρ _ s.env h2 _ fun u H1 G1 g1 r1 => ?_
            have eu := Bp.int (H := G1) (.inl r1)
            subst eu
            refine .inl ⟨r, vs, a, .ref p, rfl, rfl, .inl (.inl (g1.h _ _ (s.env.rh i _ _ hr.ob))), ?_, ?_⟩
            · rw [atI_pos _ _ hab.1]; exact hv
            refine kb _ G1 H1 σ ρ _ (s.env.grow g1) h3 _ fun u H2 G2 g2 r2 => ?_
            have eu := Bp.int (H := G2) (.inl r2)
            subst eu
            have g12 := g1.trans g2
            obtain ⟨z, hz, hzr⟩ := n3.get hx
            cases hzr
            refine ⟨p, us, b, _, rfl, rfl, .inl (.inl (g12.h _ _ (s.env.rh i _ _ n2))), hab.2, hz, ?_⟩
            refine ke _ G2 H2 σ ρ _ (s.env.grow g12) h4 _ fun u H3 G3 g3 r3 => ?_
            have eu := Bp.int (H := G3) (.inl r3)
            subst eu
            refine ⟨x, e, rfl, rfl, ?_⟩
            have g := g12.trans g3
            have hbl := (List.getElem?_eq_some_iff.mp hz).1
            refine ⟨p, us, b, b.toNat, rfl, rfl, g.h _ _ (s.env.rh i _ _ n2), ?_, ?_⟩
            · unfold ixN
              rw [if_pos hab.2, if_pos (by omega)]
            have s' := s.grow g
            have np : ∀ {y : Addr} {o : HO}, R i y = none → H3 y = some o → y ≠ p := fun {y o} h _ hh => by rw [hh, n2] at h; cases h
            refine hg σ _ _ G3 (s'.mut (R' := upd (R i) p (.lst (us.set b.toNat (.int (x + e))))) o1 ⟨fun y o h1 h2 => ?_, fun y hy => ?_, Same.refl _, fun y o h => ?_, fun y h _ => h⟩ (fun y o h => ?_) (fun y hy => ?_) (fun y hy => .inl ?_) (fun hi a0 q => by subst hi; exact s.env.oa a0 q _ r (slO_ok h1) o1) ?_) g.f
            · rw [upd_ne (np h1 h2)]; exact h2
            · by_cases hyp : y = p
              · subst hyp; rw [upd_same]; intro z; cases z
              · rw [upd_ne hyp]; exact hy
            · have : y ≠ p := fun hh => by
                subst hh
                have := s'.env.rF i y (by rw [n2]; intro z; cases z)
                rw [this] at h; cases h
              rw [upd_ne this]; exact s'.env.ex _ _ h
            · by_cases hyp : y = p
              · subst hyp; rw [upd_same] at h ⊢; exact h
              · rw [upd_ne hyp] at h ⊢; exact s'.env.rh i _ _ h
            · refine s'.env.rF i y ?_
              by_cases hyp : y = p
              · subst hyp; rw [n2]; intro z; cases z
              · rw [upd_ne hyp] at hy; exact hy
            · by_cases hyp : y = p
              · subst hyp; rw [n2]; intro z; cases z
              · rw [upd_ne hyp] at hy; exact hy
            · refine ⟨vs, by rw [upd_ne (Ne.symm n1)]; exact hr.ob, by rw [List.length_set]; exact hr.len, fun m w c q1 q2 => ?_, fun m m2 pp ds2 es2 hmm q1 q2 q3 q4 => ?_⟩
              · by_cases hm : a.toNat = m
                · subst hm
                  rw [List.getElem?_set_self hlt] at q2
                  cases q2
                  rw [hv] at q1
                  cases q1
                  exact .lst n1 upd_same ((dpa_mono g.f _ n3).set (.int _) _)
                · rw [List.getElem?_set_ne hm] at q2
                  have hel2 := hr.el m w c q1 q2
                  cases hel2 with
                  | dat hd => exact .dat (dp_mono g.f _ hd)
                  | @lst p2 us2 ds2 m1 m2 m3 =>
                    refine .lst m1 ?_ (dpa_mono g.f _ m3)
                    rw [upd_ne]
                    · exact m2
                    · intro hh
                      subst hh
                      exact hr.dis _ _ _ _ _ hm hv hds q1 q2
              · have back : ∀ {m : Nat} {ds2 : List PyData}, (cs.set a.toNat (.lst (ds.set b.toNat (.int (x + e)))))[m]? = some (.lst ds2) → ∃ ds3, cs[m]? = some (.lst ds3) := fun {m ds2} q => by
                  by_cases hm : a.toNat = m
                  · subst hm; exact ⟨ds, hds⟩
                  · rw [List.getElem?_set_ne hm] at q; exact ⟨_, q⟩
                obtain ⟨d3, b1⟩ := back q2
                obtain ⟨d4, b2⟩ := back q4
                exact hr.dis m m2 pp d3 d4 hmm q1 b1 q3 b2
          · cases hc
        · cases hc
      · cases hc
    · exact hg.elim
  · exact hg.elim
/-- [[..] for x in ..]: a list of own lists -/
def rowsF (j : Nat) (el : SA) (ρ : Rho) : List PyData → Option (List Cell)
  | [] => some []
  | d :: ds => (el (ρ.set j (.val d))).bind fun e => (rowsF j el ρ ds).map (Cell.lst e :: ·)
def sMkRows (i : Nat) (src : SA) (j : Nat) (el : SA) : SS := fun ρ => match src ρ with
  | some ds => if ds.length ≤ LIM then (match rowsF j el ρ ds with
    | some cs => .nx (ρ.set i (.obj (.row cs)))
    | none => .no) else .no
  | none => .no
theorem mkRows_okS {wi : TI} {src el : SA} (hB : i = 0 → B.o = none) (hi : IBOk K B wi src) (he : LOk K B te el) : SSOk K B W (tAsg (tLc wi (gName j) tYes te [j]) (gName i)) (sMkRows i src j el) := fun Z R F H σ ρ D s hg => by
  unfold sMkRows at hg
  cases e0 : src ρ with
  | none => rw [e0] at hg; exact hg.elim
  | some ds =>
    simp only [e0] at hg
    split at hg
    · rename_i hlen
      cases eq : rowsF j el ρ ds with
      | none => rw [eq] at hg; exact hg.elim
      | some out =>
      rw [eq] at hg
      have E := s.env
      refine hi _ F H σ ρ ds E e0 _ fun J H1 G1 g1 w D' hD => ?_
      have E1 : EnvOk K B R G1 H1 σ ρ := E.grow g1
      have hG1 : G1 D' = none := g1.sub.free hD
      refine ⟨fun n m H' => m = ds.length - n ∧ n ≤ ds.length ∧ ∃ (G' : Hp) (acc : List V) (es rest : List Cell), Grow H1 G1 H' G' ∧ G' D' = none ∧ H' D' = some (.lst acc) ∧ acc.length = es.length ∧ es.length ≤ n ∧
          (∀ (k : Nat) (v : V) (c : Cell), acc[k]? = some v → es[k]? = some c → ∃ (p : Addr) (vs : List V) (xs : List PyData), v = .ref p ∧ c = .lst xs ∧ p ≠ D' ∧ H1 p = none ∧ G' p = none ∧ H' p = some (.lst vs) ∧ DqAll K G' vs xs) ∧
          (∀ (k l : Nat) (p : Addr), k ≠ l → acc[k]? = some (V.ref p) → acc[l]? = some (.ref p) → False) ∧ rowsF j el ρ (ds.drop n) = some rest ∧ out = es ++ rest,
        ⟨ds.length, by simp, Nat.zero_le _, G1, [], [], out, (Grow.refl g1.sub).beside hD, hG1, upd_same, rfl, Nat.le_refl _, fun k v c q => by simp at q, fun k l p _ q => by simp at q, eq, rfl⟩, ?_⟩
      rintro n m H' ⟨rfl, hile, G', acc, es, rest, g', hD', hacc, hal, hel, hA, hdis, hr, hout⟩
      have al : Same G1 G' ∧ Same G' H' ∧ Same H1 H' := ⟨g'.f, g'.sub, g'.h⟩
      by_cases hlt : n < ds.length
      · refine .inr ⟨w.go n G' H' al hlt, fun H2 => ∃ m', m' < ds.length - n ∧ (m' = ds.length - (n + 1) ∧ n + 1 ≤ ds.length ∧ ∃ (G' : Hp) (acc : List V) (es rest : List Cell), Grow H1 G1 H2 G' ∧ G' D' = none ∧ H2 D' = some (.lst acc) ∧ acc.length = es.length ∧ es.length ≤ n + 1 ∧
            (∀ (k : Nat) (v : V) (c : Cell), acc[k]? = some v → es[k]? = some c → ∃ (p : Addr) (vs : List V) (xs : List PyData), v = .ref p ∧ c = .lst xs ∧ p ≠ D' ∧ H1 p = none ∧ G' p = none ∧ H2 p = some (.lst vs) ∧ DqAll K G' vs xs) ∧
            (∀ (k l : Nat) (p : Addr), k ≠ l → acc[k]? = some (V.ref p) → acc[l]? = some (.ref p) → False) ∧ rowsF j el ρ (ds.drop (n + 1)) = some rest ∧ out = es ++ rest),
          fun H2 h => h, fun x H2 y => ?_⟩
        have hd : ds[n]? = some ds[n] := List.getElem?_eq_getElem hlt
        obtain ⟨G2, g2, r2⟩ := w.yld n G' H' x H2 _ al hd y
        rw [drop_cons_of hd] at hr
        have E2 : EnvOk K B R G2 H2 ((wipe σ [j]).set j (some x)) (ρ.set j (.val ds[n])) := by
          have z := (((E1.grow g').grow g2).setN j none).setV j r2
          have e : (ρ.set j .no).set j (.val ds[n]) = ρ.set j (.val ds[n]) := List.set_set ..
          rw [e] at z
          exact z
        refine ⟨wipe_back σ j (some x), ?_⟩
        show te _ H2 _
        cases ee : el (ρ.set j (.val ds[n])) with
        | none => simp [rowsF, ee] at hr
        | some e =>
          cases hrr : rowsF j el ρ (ds.drop (n + 1)) with
          | none => simp [rowsF, ee, hrr] at hr
          | some rest' =>
            have hr' : rest = .lst e :: rest' := by simpa [rowsF, ee, hrr] using hr.symm
            refine he _ G2 H2 _ _ e E2 ee _ fun p vs H4 G4 g4 p1 p2 p3 p4 => ?_
            have gg := (g'.trans g2).trans g4
            have gt := g2.trans g4
            have hD4 : H4 D' = some (.lst acc) := gt.h _ _ hacc
            have nD4 : G4 D' = none := gt.no D' hD' (by rw [hacc]; intro z; cases z)
            have pD : p ≠ D' := fun hh => by
              have := g2.h _ _ hacc
              rw [hh, this] at p1; cases p1
            refine ⟨acc, hD4, Nat.lt_of_lt_of_le (show acc.length < LIM + 1 by omega) (by decide), ds.length - (n + 1), by omega, rfl, hlt, G4, acc ++ [.ref p], es ++ [.lst e], rest', ⟨?_, gg.f, ?_, gg.no⟩, nD4, upd_same, by simp [hal], by simp; omega, ?_, ?_, rfl, by rw [hout, hr']; simp⟩
            · intro b o z
              rw [upd_ne (ne_of_none z hD)]
              exact gg.h b o z
            · intro b o z
              rw [upd_ne (ne_of_none z nD4)]
              exact gg.sub b o z
            · intro k v c q1 q2
              rcases Nat.lt_or_ge k acc.length with hk | hk
              · rw [List.getElem?_append_left hk] at q1
                rw [List.getElem?_append_left (by omega)] at q2
                obtain ⟨p', vs', xs', x1, x2, x3, x4, x5, x6, x7⟩ := hA k v c q1 q2
                refine ⟨p', vs', xs', x1, x2, x3, x4, gt.no p' x5 (by rw [x6]; intro z; cases z), ?_, dpa_mono gt.f _ x7⟩
                rw [upd_ne x3]
                exact gt.h _ _ x6
              · rw [List.getElem?_append_right hk] at q1
                rw [List.getElem?_append_right (by omega)] at q2
                have : k - acc.length = 0 := by
                  rcases Nat.eq_zero_or_pos (k - acc.length) with z | z
                  · exact z
                  · rw [List.getElem?_eq_none (by simp; omega)] at q1; cases q1
                have h2 : k - es.length = 0 := by omega
                rw [this] at q1
                rw [h2] at q2
                cases q1
                cases q2
                exact ⟨p, vs, e, rfl, rfl, pD, (g'.trans g2).h.free p1, p2, by rw [upd_ne pD]; exact p3, p4⟩
            · have old : ∀ k, acc[k]? = some (V.ref p) → False := fun k q => by
                have hk := (List.getElem?_eq_some_iff.mp q).1
                obtain ⟨c, hc⟩ : ∃ c, es[k]? = some c := ⟨es[k]'(by omega), List.getElem?_eq_getElem (by omega)⟩
                obtain ⟨p', vs', xs', x1, x2, x3, x4, x5, x6, x7⟩ := hA k _ c q hc
                cases x1
                have := g2.h _ _ x6
                rw [this] at p1; cases p1
              intro k l pp hkl q1 q2
              rcases Nat.lt_or_ge k acc.length with hk | hk
              · rw [List.getElem?_append_left hk] at q1
                rcases Nat.lt_or_ge l acc.length with hl | hl
                · rw [List.getElem?_append_left hl] at q2
                  exact hdis k l pp hkl q1 q2
                · rw [List.getElem?_append_right hl] at q2
                  rcases Nat.eq_zero_or_pos (l - acc.length) with z | z
                  · rw [z] at q2; cases q2; exact old k q1
                  · rw [List.getElem?_eq_none (by simp; omega)] at q2; cases q2
              · rw [List.getElem?_append_right hk] at q1
                rcases Nat.eq_zero_or_pos (k - acc.length) with z | z
                · rw [z] at q1
                  cases q1
                  rcases Nat.lt_or_ge l acc.length with hl | hl
                  · rw [List.getElem?_append_left hl] at q2
                    exact old l q2
                  · rw [List.getElem?_append_right hl] at q2
                    rcases Nat.eq_zero_or_pos (l - acc.length) with z2 | z2
                    · omega
                    · rw [List.getElem?_eq_none (by simp; omega)] at q2; cases q2
                · rw [List.getElem?_eq_none (by simp; omega)] at q1; cases q1
      · have e : n = ds.length := by omega
        subst e
        rw [List.drop_length] at hr
        cases hr
        rw [List.append_nil] at hout
        subst hout
        refine .inl ⟨w.stop G' H' al, ?_⟩
        -- the region: the list and its lists
        let S : Addr → Prop := fun y => y = D' ∨ V.ref y ∈ acc
        have mem : ∀ p, V.ref p ∈ acc → ∃ (k : Nat) (c : Cell) (vs : List V) (xs : List PyData), acc[k]? = some (.ref p) ∧ out[k]? = some c ∧ c = .lst xs ∧ p ≠ D' ∧ H1 p = none ∧ G' p = none ∧ H' p = some (.lst vs) ∧ DqAll K G' vs xs := fun p hp => by
          obtain ⟨k, hk⟩ := List.getElem?_of_mem hp
          have hkl := (List.getElem?_eq_some_iff.mp hk).1
          obtain ⟨c, hc⟩ : ∃ c, out[k]? = some c := ⟨out[k]'(by omega), List.getElem?_eq_getElem (by omega)⟩
          obtain ⟨p', vs', xs', x1, x2, x3, x4, x5, x6, x7⟩ := hA k _ c hk hc
          cases x1
          exact ⟨k, c, vs', xs', hk, hc, x2, x3, x4, x5, x6, x7⟩
        have hS : ∀ y, S y → H y = none ∧ G' y = none := fun y hy => by
          rcases hy with rfl | hy
          · exact ⟨g1.h.free hD, hD'⟩
          · obtain ⟨k, c, vs, xs, _, _, _, _, x4, x5, _⟩ := mem y hy
            exact ⟨g1.h.free x4, x5⟩
        have sub' : ∀ y o, (fun y => open Classical in if S y then H' y else none) y = some o → S y ∧ H' y = some o := fun y o h => by
          have h' : (open Classical in if S y then H' y else none) = some o := h
          split at h'
          · rename_i c; exact ⟨c, h'⟩
          · cases h'
        have inn : ∀ y o, S y → H' y = some o → (fun y => open Classical in if S y then H' y else none) y = some o := fun y o h1 h2 => by
          show (open Classical in if S y then H' y else none) = some o
          rw [if_pos h1]; exact h2
        refine hg _ H' _ G' (s.newO (R' := fun y => open Classical in if S y then H' y else none) hB (g1.trans g') (fun y o h => (sub' y o h).2) (fun y hy => ?_) (fun y hy => ?_) ?_) (g1.f.trans g'.f)
        · cases q : (fun y => open Classical in if S y then H' y else none) y with
          | none => exact absurd q hy
          | some o => exact (hS y (sub' y o q).1).2
        · cases q : (fun y => open Classical in if S y then H' y else none) y with
          | none => exact absurd q hy
          | some o => exact (hS y (sub' y o q).1).1
        · refine ⟨acc, inn _ _ (.inl rfl) hacc, hal, fun k v c q1 q2 => ?_, fun k l p ds2 es2 hkl q1 _ q3 _ => hdis k l p hkl q1 q3⟩
          obtain ⟨p', vs', xs', x1, x2, x3, x4, x5, x6, x7⟩ := hA k v c q1 q2
          subst x1 x2
          exact .lst x3 (inn _ _ (.inr (List.mem_of_getElem? q1)) x6) x7
    · exact hg.elim
end
end RT
/-! Slices with a step; words for what RV18 holds. -/
namespace RT
open PySem PySem.Spec PyProof.Rows L2
/-- xs[::k] -/
def pkIx (k : Int) (n : Nat) : List Nat := sliceRange (sliceBounds none none (some k) n).1 (sliceBounds none none (some k) n).2.1 (sliceBounds none none (some k) n).2.2
def pk {α : Type} (k : Int) (l : List α) : List α := (pkIx k l.length).filterMap (l[·]?)
theorem pkIx_len (k : Int) (hk : k ≠ 0) (n : Nat) : (pkIx k n).length ≤ n := by
  unfold pkIx
  refine sliceRange_length_le _ _ _ n (fun h => ?_) (fun h => ?_)
  · have h' : k > 0 := h
    simp [sliceBounds, h']
  · have h' : ¬ k > 0 := h
    simp [sliceBounds, h']
theorem pk_len {α : Type} (k : Int) (hk : k ≠ 0) (l : List α) : (pk k l).length ≤ l.length := Nat.le_trans (List.length_filterMap_le _ _) (pkIx_len k hk _)
theorem pk_mem {α : Type} {k : Int} {l : List α} {x : α} (h : x ∈ pk k l) : x ∈ l := by
  unfold pk at h
  obtain ⟨i, _, h2⟩ := List.mem_filterMap.mp h
  exact List.mem_of_getElem? h2
theorem pk_map {α β : Type} (k : Int) (f : α → β) (l : List α) : pk k (l.map f) = (pk k l).map f := by
  unfold pk
  rw [List.length_map, List.map_filterMap]
  congr 1
  funext i
  simp
theorem vals_pick {xs : List V} {its : List Value} (h : Vals xs its) : ∀ idx : List Nat, Vals (idx.filterMap (xs[·]?)) (idx.filterMap (its[·]?))
  | [] => .nil
  | i :: idx => by
    have ih := vals_pick h idx
    rw [List.filterMap_cons, List.filterMap_cons]
    cases e : xs[i]? with
    | none =>
      have : its[i]? = none := by
        rw [List.getElem?_eq_none_iff] at e ⊢
        rw [← h.length]; exact e
      rw [this]; exact ih
    | some v =>
      obtain ⟨w, ew, rw'⟩ := h.get e
      rw [ew]
      exact .cons rw' ih
theorem dq_pick {K : PySem.W.Frag} {F : Hp} {xs : List V} {ds : List PyData} (h : DqAll K F xs ds) : ∀ idx : List Nat, DqAll K F (idx.filterMap (xs[·]?)) (idx.filterMap (ds[·]?))
  | [] => .nil
  | i :: idx => by
    have ih := dq_pick h idx
    rw [List.filterMap_cons, List.filterMap_cons]
    cases e : xs[i]? with
    | none =>
      have : ds[i]? = none := by
        rw [List.getElem?_eq_none_iff] at e ⊢
        rw [← h.len]; exact e
      rw [this]; exact ih
    | some v =>
      obtain ⟨w, ew, rw'⟩ := h.getV e
      rw [ew]
      exact .cons rw' ih
def tStep (K : PySem.W.Frag) (k : Int) (te : TE) : TE := fun σ H Q => te σ H fun x H1 => ∃ a xs, x = .ref a ∧ SqL K H1 a xs ∧ ∀ p, H1 p = none → Q (.ref p) (upd H1 p (.lst (pk k xs)))
theorem pe_step {X : Cx} {e st : Expr} {te : TE} {tp : TO} {c : Int} {p3 pos : Pos} (hc : c ≠ 0) (he : PE X e te) (hst : PO X (some st) tp) (hv : ∀ σ H, tp σ H (fun o H4 => o = some c ∧ H4 = H))
    (hs : ∀ (a b : Addr), subscripted (.Slice none none (some st) p3) false (.ref a) (.ref b) = operate [.ref a, .ref b] (getItem (.ref a) (.ref b)) := by intro a b; with_unfolding_all rfl) : PE X (.Subscript e (.Slice none none (some st) p3) pos) (tStep X.K c te) := by
  refine ⟨fun pins s σ H Q I h => ?_⟩
  refine Subscript_ (thn (he.run pins s σ H _ I h) fun v s1 ⟨x, H1, I1, r1, q1⟩ => ?_)
  obtain ⟨a, xs, ex, hx, q⟩ := q1
  subst ex
  cases r1
  refine wpAny_Slice (thn (po_none.run pins s1 σ H1 (fun o H2 => o = none ∧ H2 = H1) I1 ⟨rfl, rfl⟩) fun vl s2 ⟨l, H2, I2, pl, el, e2⟩ => ?_)
  subst el e2
  refine thn (po_none.run pins s2 σ H2 (fun o H3 => o = none ∧ H3 = H2) I2 ⟨rfl, rfl⟩) fun vu s3 ⟨u, H3, I3, pu, eu, e3⟩ => ?_
  subst eu e3
  refine thn (hst.run pins s3 σ H3 (fun o H4 => o = some c ∧ H4 = H3) I3 (hv σ H3)) fun vs s4 ⟨o, H4, I4, ps, eo, e4⟩ => ?_
  subst eo e4
  have I5 : Inv X pins σ H4 { s4 with heap := s4.heap.push { cls := .type "slice", data := .fields #[vl, vu, vs] } } := I4.kept (t' := s4.toks) fun b ob q => Heap.get?_push_of_some _ q
  obtain ⟨its, r, ht, hz⟩ := I5.list hx
  have hlen := r.length
  show wpAny (model X.prog X.w) X.A (subscriptTail e (.Slice none none (some st) p3) (.ref a) (.ref s4.heap.objs.size)) (EP X pins σ Q) X.xe { s4 with heap := s4.heap.push { cls := .type "slice", data := .fields #[vl, vu, vs] } }
  refine tail_any (ops := [.ref a, .ref s4.heap.objs.size]) ht.isList.typeIs (PySem.slot_list_getitem.lookup) ?_ (hs _ _)
  refine wpAny_getItem_list_slice ht.isList (Heap.IsSliceOf.new _ vl vu vs) pl pu ps (by simpa using hc) ?_ (by rw [List.size_toArray]; omega)
  have ep : slicePick its.toArray none none (some c) = ((pkIx c xs.length).filterMap (its[·]?)).toArray := by
    unfold slicePick pkIx
    rw [List.size_toArray, ← hlen]
    congr 2
    funext i
    simp
  rw [ep]
  refine ⟨.ref _, _, I5.laid (t' := s4.toks) (o := .lst (pk c xs)) (fun b ob q => Heap.get?_push_of_some _ q) (Nat.le_refl _) ?_, rfl, q _ (I5.hok.fresh (Nat.le_refl _))⟩
  exact ⟨Nat.le_trans (pk_len c hc xs) hz, _, 0, vals_pick r _, Heap.get?_push_size _ rfl⟩
def lStep (k : Int) (f : SE) : SA := fun ρ => (f ρ).bind fun d => (lisD d).map (pk k)
@[simp] theorem lStep_eq (k : Int) (f : SE) (ρ : Rho) : lStep k f ρ = (f ρ).bind fun d => (lisD d).map (pk k) := rfl
section
variable {X : Cx} {K : PySem.W.Frag} {B : Bs} {W : XW} {e a b c : Expr} {es : List Expr} {te tx ta tb : TE} {fe fx fa fb f : SE} {sa el : SA} {i j : Nat} {x : Str} {p p2 pos pos2 : Pos}
theorem step_ok (k : Int) (h : BOk K B te f) : LOk K B (tStep K k te) (lStep k f) := fun R F H σ ρ ds E q Q kk => by
  unfold lStep at q
  cases e1 : f ρ with
  | none => rw [e1] at q; cases q
  | some d =>
    rw [e1, Option.bind_some] at q
    cases d with
    | list es =>
      cases q
      refine h R F H σ ρ _ E e1 _ fun v H1 G1 g1 b1 => ?_
      obtain ⟨p, vs, rfl, hp, hA⟩ := b1.list g1.sub
      refine ⟨p, vs, rfl, .inl (.inl hp), fun p' hp' => ?_⟩
      refine kk p' _ _ G1 (g1.beside hp') (g1.h.free hp') (g1.sub.free hp') upd_same ?_
      unfold pk
      rw [hA.len]
      exact dq_pick hA _
    | _ => cases q
theorem sl_step2 {kk : Nat} {p1 p3 : Pos} (h : SemB X K B e te f) (hK : X.K = K := by rfl) : SemL X K B (.Subscript e (.Slice none none (some (.Constant (.int 2) kk p1)) p3) pos) (tStep K 2 te) (lStep 2 f) := by
  subst hK
  exact ⟨pe_step (by decide) h.pe (po_some pe_int) (fun σ H => ⟨2, rfl, rfl, rfl⟩), step_ok 2 h.ok⟩
theorem sl_stepM {kk : Nat} {p1 p2 p3 : Pos} (h : SemB X K B e te f) (hK : X.K = K := by rfl) : SemL X K B (.Subscript e (.Slice none none (some (.UnaryOp .USub (.Constant (.int 1) kk p1) p2)) p3) pos) (tStep K (-1) te) (lStep (-1) f) := by
  subst hK
  exact ⟨pe_step (by decide) h.pe (po_some (pe_un un_neg pe_int)) (fun σ H => ⟨1, rfl, -1, rfl, rfl, rfl⟩), step_ok (-1) h.ok⟩
/-! ### words -/
theorem s_clr (i : Nat) {ap cp : Pos} (ps : PS X (.Expr (.Call (.Attribute (.Name x p) "clear" ap) [] [] cp) pos) (tDrop (tBM0 K "list" rClear (tVar i)))) : SemS X K B W (.Expr (.Call (.Attribute (.Name x p) "clear" ap) [] [] cp) pos) (tDrop (tBM0 K "list" rClear (tVar i))) (sClr i) := ⟨ps, clr_okS i⟩
theorem s_ext (i : Nat) {ap cp : Pos} (he : SemB X K B e te fe) (ps : PS X (.Expr (.Call (.Attribute (.Name x p) "extend" ap) [e] [] cp) pos) (tDrop (tBM K "list" rExtend (tVar i) (tCons te tNil)))) :
    SemS X K B W (.Expr (.Call (.Attribute (.Name x p) "extend" ap) [e] [] cp) pos) (tDrop (tBM K "list" rExtend (tVar i) (tCons te tNil))) (sExt i fe) := ⟨ps, ext_okS i he.ok⟩
theorem s_ins (i : Nat) {ap cp : Pos} (hx : SemE X K B a tx fx) (he : SemE X K B e te fe) (ps : PS X (.Expr (.Call (.Attribute (.Name x p) "insert" ap) [a, e] [] cp) pos) (tDrop (tBM K "list" (fun x vs H Q => ∃ (l : Addr) (xs : List V) (i : Int) (y : V), x = .ref l ∧ vs = [.int i, y] ∧ H l = some (.lst xs) ∧ xs.length < sizeLine ∧ 0 ≤ i ∧ i < 2 ^ 63 ∧ Q .non (upd H l (.lst (xs.take i.toNat ++ [y] ++ xs.drop i.toNat)))) (tVar i) (tCons tx (tCons te tNil))))) :
    SemS X K B W (.Expr (.Call (.Attribute (.Name x p) "insert" ap) [a, e] [] cp) pos) (tDrop (tBM K "list" (fun x vs H Q => ∃ (l : Addr) (xs : List V) (i : Int) (y : V), x = .ref l ∧ vs = [.int i, y] ∧ H l = some (.lst xs) ∧ xs.length < sizeLine ∧ 0 ≤ i ∧ i < 2 ^ 63 ∧ Q .non (upd H l (.lst (xs.take i.toNat ++ [y] ++ xs.drop i.toNat)))) (tVar i) (tCons tx (tCons te tNil)))) (sIns i fx fe) := ⟨ps, ins_okS i hx.ok he.ok⟩
/-- x[a], x a list of own lists -/
theorem sb_row (i : Nat) (hp : PE X (.Name x p) (tVar i)) (h2 : SemB X K B b tb fb) (hs : PlainIx b := by exact fun _ _ => rfl) (hK : X.K = K := by rfl) : SemB X K B (.Subscript (.Name x p) b pos) (tOp (rIx K) (tVar i) tb) (eRow i fb) := by
  subst hK
  exact ⟨pe_ix ix_seq hp h2.pe hs, row_okB i h2.ok⟩
theorem se_rowLen (i : Nat) {y : Str} {p2 : Pos} (hm : X.mg "len" = none) (hp : PE X (.Name y p2) (tVar i)) (hg : Gl X "len" := by rfl) (he : starEach [Expr.Name y p2] X.env = [(false, eval (.Name y p2) X.env)] := by rfl) (hpl : (backTo pos (starEach [] X.env)).any (·.1) = false := by rfl) (hK : X.K = K := by rfl) :
    SemE X K B (.Call (.Name "len" p) [.Name y p2] [] pos) (tCB (rLenA K) (tCons (tVar i) tNil)) (eRowLen i) := by
  subst hK
  exact ⟨pe_callB call_len hg hm (by decide +kernel) (pa_cons hp pa_nil he) (by decide) (by decide) he hpl, rowLen_ok i⟩
theorem s_augRow (i : Nat) {p3 : Pos} (ha : SemE X K B a ta fa) (hb : SemE X K B b tb fb) (he : SemE X K B e te fe) (ps : PS X (.AugAssign (.Subscript (.Subscript (.Name x p) a p2) b p3) .Add e pos) (tAugS (tOp (rIx K) (tVar i) ta) tb te (rIxP K) (ipI fun i j => i + j) rSetL)) :
    SemS X K B W (.AugAssign (.Subscript (.Subscript (.Name x p) a p2) b p3) .Add e pos) (tAugS (tOp (rIx K) (tVar i) ta) tb te (rIxP K) (ipI fun i j => i + j) rSetL) (sAugRow i fa fb fe) := ⟨ps, augRow_okS i ha.ok hb.ok he.ok⟩
theorem s_mkRows (i : Nat) {wi : TI} {y z : Str} {py xp spos : Pos} {scope : Scope} (hB : i = 0 → B.o = none) (hi : SemIB X K B (.Name z xp) e wi sa)
    (he : SemL (X.blk X.s_0 (fun _ => none) scope (compEnvC scope [] 0 X.env) []) K B a te el) (ps : PS X (.Assign [.Name y py] (.ListComp a [⟨.Name z xp, e, [], 0⟩] scope pos) spos) (tAsg (tLc wi (gName j) tYes te [j]) (gName i))) :
    SemS X K B W (.Assign [.Name y py] (.ListComp a [⟨.Name z xp, e, [], 0⟩] scope pos) spos) (tAsg (tLc wi (gName j) tYes te [j]) (gName i)) (sMkRows i sa j el) := ⟨ps, mkRows_okS hB hi.ok he.ok⟩
end
end RT
/-! Dicts by whole numbers; while; a call with two objects. -/
namespace RT
open PySem PySem.Spec PyProof.Rows L2
def lookI (l : List (Int × PyData)) (k : Int) : Option PyData := (l.find? fun x => decide (x.1 = k)).map (·.2)
def putI (l : List (Int × PyData)) (k : Int) (d : PyData) : List (Int × PyData) := if (l.any fun x => decide (x.1 = k)) = true then l.map (fun x => if x.1 = k then (x.1, d) else x) else l ++ [(k, d)]
def putV (l : List (Int × V)) (k : Int) (d : V) : List (Int × V) := if (l.any fun x => decide (x.1 = k)) = true then l.map (fun x => if x.1 = k then (x.1, d) else x) else l ++ [(k, d)]
section
variable {K : PySem.W.Frag} {F : Hp}
theorem kv_val {k : Int} : ∀ {kv : List (Int × V)} {l : List (Int × PyData)}, KvAll K F kv l → (lookI l k = none ∧ valV (kvI kv) (Sum.inl k) = none) ∨ ∃ v d, lookI l k = some d ∧ valV (kvI kv) (Sum.inl k) = some v ∧ Dq K F v d
  | _, _, .nil => .inl ⟨rfl, rfl⟩
  | (k', v) :: kv, (_, d) :: l, .cons h t => by
    by_cases e : k' = k
    · subst e
      exact .inr ⟨v, d, by simp [lookI], by unfold kvI; rw [List.map_cons, valV_pos rfl], h⟩
    · have e1 : lookI ((k', d) :: l) k = lookI l k := by simp [lookI, e]
      have e2 : valV (kvI ((k', v) :: kv)) (Sum.inl k) = valV (kvI kv) (Sum.inl k) := by
        unfold kvI; rw [List.map_cons, valV_neg (by intro z; exact e (Sum.inl.inj z))]
      rw [e1, e2]
      exact kv_val t
theorem KvAll.len : ∀ {kv : List (Int × V)} {l : List (Int × PyData)}, KvAll K F kv l → kv.length = l.length
  | _, _, .nil => rfl
  | _, _, .cons _ t => congrArg Nat.succ (KvAll.len t)
theorem KvAll.keys : ∀ {kv : List (Int × V)} {l : List (Int × PyData)}, KvAll K F kv l → kv.map (·.1) = l.map (·.1)
  | _, _, .nil => rfl
  | (k, _) :: _, _, .cons _ t => congrArg (k :: ·) (KvAll.keys t)
theorem KvAll.app {k : Int} {v : V} {d : PyData} (h : Dq K F v d) : ∀ {kv : List (Int × V)} {l : List (Int × PyData)}, KvAll K F kv l → KvAll K F (kv ++ [(k, v)]) (l ++ [(k, d)])
  | _, _, .nil => .cons h .nil
  | _, _, .cons h' t => .cons h' (KvAll.app h t)
theorem KvAll.rep {k : Int} {v : V} {d : PyData} (h : Dq K F v d) : ∀ {kv : List (Int × V)} {l : List (Int × PyData)}, KvAll K F kv l → KvAll K F (kv.map fun x => if x.1 = k then (x.1, v) else x) (l.map fun x => if x.1 = k then (x.1, d) else x)
  | _, _, .nil => .nil
  | (k', v') :: kv, (_, d') :: l, .cons h' t => by
    rw [List.map_cons, List.map_cons]
    by_cases e : k' = k
    · rw [if_pos e, if_pos e]; exact .cons h (KvAll.rep h t)
    · rw [if_neg e, if_neg e]; exact .cons h' (KvAll.rep h t)
theorem KvAll.any {k : Int} : ∀ {kv : List (Int × V)} {l : List (Int × PyData)}, KvAll K F kv l → (kv.any fun x => decide (x.1 = k)) = (l.any fun x => decide (x.1 = k))
  | _, _, .nil => rfl
  | _, _, .cons _ t => by rw [List.any_cons, List.any_cons, KvAll.any t]
theorem kv_put {k : Int} {v : V} {d : PyData} {kv : List (Int × V)} {l : List (Int × PyData)} (h : KvAll K F kv l) (hd : Dq K F v d) : KvAll K F (putV kv k v) (putI l k d) := by
  unfold putV putI
  rw [h.any]
  split
  · exact h.rep hd
  · exact h.app hd
theorem kvI_put (kv : List (Int × V)) (k : Int) (v : V) : putK (kvI kv) (Sum.inl k) v = kvI (putV kv k v) := by
  unfold putK putV kvI
  have e : ((kv.map fun n => ((Sum.inl n.1 : Key), n.2)).any fun x => decide (x.1 = Sum.inl k)) = (kv.any fun x => decide (x.1 = k)) := by
    rw [List.any_map]
    congr 1
    funext x
    simp
  rw [e]
  split
  · rw [List.map_map, List.map_map]
    apply List.map_congr_left
    intro x _
    by_cases h : x.1 = k
    · simp [h]
    · simp [h]
  · rw [List.map_append]; rfl
theorem putI_len (l : List (Int × PyData)) (k : Int) (d : PyData) : (putI l k d).length ≤ l.length + 1 := by
  unfold putI
  split
  · simp
  · simp
end
def sMkDct (i : Nat) : SS := fun ρ => .nx (ρ.set i (.obj (.dct [])))
/-- x = {k: v} -/
def sMkDct1 (i : Nat) (fk fv : SE) : SS := fun ρ => match fk ρ, fv ρ with
  | some (.int k), some d => if dataD d = true then .nx (ρ.set i (.obj (.dct [(k, d)]))) else .no
  | _, _ => .no
/-- x[k] = v -/
def sDSet (i : Nat) (fk fv : SE) : SS := fun ρ => match slO kT ρ[i]?, fk ρ, fv ρ with
  | some l, some (.int k), some d => if dataD d = true ∧ l.length ≤ LIM then .nx (ρ.set i (.obj (.dct (putI l k d)))) else .no
  | _, _, _ => .no
def eDKeys (bk : Addr → Option ObjSt) (i : Nat) : SA := fun ρ => (rcv kT bk ρ i).map fun l => l.map fun x => .int x.1
def eDGet (bk : Addr → Option ObjSt) (i : Nat) (fk : SE) : SE := fun ρ => (rcv kT bk ρ i).bind fun l => (fk ρ).bind fun d => match d with
  | .int k => lookI l k
  | _ => none
def eDNotIn (bk : Addr → Option ObjSt) (i : Nat) (fk : SE) : STe := fun ρ => (rcv kT bk ρ i).bind fun l => (fk ρ).bind fun d => match d with
  | .int k => some (!(lookI l k).isSome)
  | _ => none
section
variable {X : Cx} {K : PySem.W.Frag} {B : Bs} {W : XW} {tk tv te : TE} {fk fv f : SE} {i j : Nat}
theorem mkDct_okS (hB : i = 0 → B.o = none) : SSOk K B W (tAsg tDNewK (gName i)) (sMkDct i) := fun Z R F H σ ρ D s hg p hp => by
  have hF : F p = none := s.env.ex.free hp
  refine hg _ _ _ F (s.newO (R' := upd noH p (.dK [])) hB ((Grow.refl s.env.ex).beside hp) (fun y o h => ?_) (fun y hy => ?_) (fun y hy => ?_) ⟨[], upd_same, .nil⟩) (Same.refl F)
  · by_cases e : y = p
    · subst e; rw [upd_same] at h ⊢; exact h
    · rw [upd_ne e] at h; cases h
  · by_cases e : y = p
    · subst e; exact hF
    · exact absurd (upd_ne e) hy
  · by_cases e : y = p
    · subst e; exact hp
    · exact absurd (upd_ne e) hy
theorem dset_okS (kv : EOk K B tv fv) (kk : EOk K B tk fk) : SSOk K B W (tAsg tv (gSub (tVar i) tk rSetD)) (sDSet i fk fv) := fun Z R F H σ ρ D s hg => by
  unfold sDSet at hg
  split at hg
  · rename_i l k d h1 h2 h3
    split at hg
    · rename_i hc
      obtain ⟨a, o1, kvs, ha, hA⟩ := s.env.obj i _ (slO_ok h1)
      refine kv _ F H σ ρ d s.env h3 _ fun v H1 G1 g1 r1 => ⟨.ref a, o1, ?_⟩
      refine kk _ G1 H1 σ ρ _ (s.env.grow g1) h2 _ fun u H2 G2 g2 r2 => ?_
      have eu := Bp.int (H := G2) (.inl r2)
      subst eu
      have g := g1.trans g2
      have s' := s.grow g
      have hz : (kvI kvs).length < sizeLine := by
        unfold kvI
        rw [List.length_map, hA.len]
        exact Nat.lt_of_lt_of_le (show l.length < LIM + 1 by omega) (by decide)
      refine ⟨a, _, rfl, DPut.k (k := Sum.inl k) (g.h _ _ (s.env.rh i _ _ ha)) hz, ?_⟩
      have hd := (r1.mono g2.f).dp (by rintro l rfl; cases hc.1)
      rw [kvI_put]
      refine hg σ _ _ G2 (s'.mut (R' := upd (R i) a (.dK (kvI (putV kvs k v)))) o1 ⟨fun y o h1 h2 => ?_, fun y hy => ?_, Same.refl _, fun y o h => ?_, fun y h _ => h⟩ (fun y o h => ?_) (fun y hy => ?_) (fun y hy => .inl ?_) (fun hi a0 q => by subst hi; exact s.env.oa a0 q _ a (slO_ok h1) o1) ⟨_, upd_same, kv_put (hA.mono g.f) hd⟩) g.f
      · have h1' : R i y = none := h1
        have : y ≠ a := fun hh => by rw [hh, ha] at h1'; cases h1'
        rw [upd_ne this]; exact h2
      · by_cases hyp : y = a
        · subst hyp; rw [upd_same]; intro z; cases z
        · rw [upd_ne hyp]; exact hy
      · have : y ≠ a := fun hh => by
          subst hh
          have := s'.env.rF i y (by rw [ha]; intro z; cases z)
          rw [this] at h; cases h
        rw [upd_ne this]; exact s'.env.ex _ _ h
      · by_cases hyp : y = a
        · subst hyp; rw [upd_same] at h ⊢; exact h
        · rw [upd_ne hyp] at h ⊢; exact s'.env.rh i _ _ h
      · refine s'.env.rF i y ?_
        by_cases hyp : y = a
        · subst hyp; rw [ha]; intro z; cases z
        · rw [upd_ne hyp] at hy; exact hy
      · by_cases hyp : y = a
        · subst hyp; rw [ha]; intro z; cases z
        · rw [upd_ne hyp] at hy; exact hy
    · exact hg.elim
  · exact hg.elim
theorem mkDct1_okS (hB : i = 0 → B.o = none) (kk : EOk K B tk fk) (kv : EOk K B tv fv) : SSOk K B W (tAsg (tDisp [(tk, tv)]) (gName i)) (sMkDct1 i fk fv) := fun Z R F H σ ρ D s hg p hp => by
  unfold sMkDct1 at hg
  split at hg
  · rename_i k d h1 h2
    split at hg
    · rename_i hc
      have s0 := s.grow ((Grow.refl s.env.ex).beside (o := .dK []) hp)
      refine kk _ F _ σ ρ _ s0.env h1 _ fun u H1 G1 g1 r1 => ?_
      refine kv _ G1 H1 σ ρ _ (s0.env.grow g1) h2 _ fun v H2 G2 g2 r2 => ?_
      have eu := Bp.int (H := G1) (.inl r1)
      subst eu
      have g := g1.trans g2
      have e2 : H2 p = some (.dK []) := g.h _ _ upd_same
      have hF : F p = none := s.env.ex.free hp
      have hG : G2 p = none := g.no p hF (by rw [upd_same]; intro z; cases z)
      refine ⟨e2, [(Sum.inl k, v)], rfl, by simp, ?_⟩
      have em : mergeK [] [((Sum.inl k : Key), v)] = kvI [(k, v)] := rfl
      rw [em]
      have gr : Grow H F (upd H2 p (.dK (kvI [(k, v)]))) G2 := ⟨fun y o h => by
          have hne : y ≠ p := ne_of_none h hp
          rw [upd_ne hne]
          exact g.h _ _ (by rw [upd_ne hne]; exact h), g.f, fun y o h => by rw [upd_ne (ne_of_none h hG)]; exact g.sub _ _ h, fun y h1 h2 => g.no y h1 (by
          by_cases hyp : y = p
          · subst hyp; exact absurd hp h2
          · rw [upd_ne hyp]; exact h2)⟩
      refine hg _ _ _ G2 (s.newO (R' := upd noH p (.dK (kvI [(k, v)]))) hB gr (fun y o h => ?_) (fun y hy => ?_) (fun y hy => ?_) ⟨[(k, v)], upd_same, .cons (r2.dp (by rintro l rfl; cases hc)) .nil⟩) g.f
      · by_cases e : y = p
        · subst e; rw [upd_same] at h ⊢; exact h
        · rw [upd_ne e] at h; cases h
      · by_cases e : y = p
        · subst e; exact hG
        · exact absurd (upd_ne e) hy
      · by_cases e : y = p
        · subst e; exact hp
        · exact absurd (upd_ne e) hy
    · exact hg.elim
  · exact hg.elim
theorem dkeys_ok (i : Nat) : LOk K B (tCB rListD (tCons (tVar i) tNil)) (eDKeys B.bk i) := fun R F H σ ρ ds E q Q k => by
  unfold eDKeys at q
  cases ho : rcv kT B.bk ρ i with
  | none => rw [ho] at q; cases q
  | some l =>
    rw [ho] at q
    cases q
    obtain ⟨a, R', h1, ⟨kv, ha, hA⟩, sR, ap⟩ := rcv_ok E ho
    refine ⟨.ref a, h1, a, kvI kv, rfl, sR _ _ ha, fun p hp => ?_⟩
    have e : (kvI kv).map (fun kv => kV kv.1) = (l.map (·.1)).map V.int := by
      rw [← hA.keys]
      unfold kvI
      rw [List.map_map, List.map_map]
      rfl
    rw [e]
    have e2 : (l.map fun x => PyData.int x.1) = (l.map (·.1)).map PyData.int := by rw [List.map_map]; rfl
    refine k p _ _ F ((Grow.refl E.ex).beside hp) hp (E.ex.free hp) upd_same ?_
    show DqAll K F _ (l.map fun x => PyData.int x.1)
    rw [e2]
    exact dpa_ints _
theorem dget_ok (i : Nat) (kk : EOk K B tk fk) : EOk K B (tDGet (tVar i) tk) (eDGet B.bk i fk) := fun R F H σ ρ d E q Q k => by
  unfold eDGet at q
  cases ho : rcv kT B.bk ρ i with
  | none => rw [ho] at q; cases q
  | some l =>
    rw [ho, Option.bind_some] at q
    cases hk : fk ρ with
    | none => rw [hk] at q; cases q
    | some kd =>
      rw [hk, Option.bind_some] at q
      cases kd with
      | int n =>
        obtain ⟨a, R', h1, ⟨kv, ha, hA⟩, sR, ap⟩ := rcv_ok E ho
        refine ⟨.ref a, h1, ?_⟩
        refine kk _ F H σ ρ _ E hk _ fun u H1 G1 g1 r1 => ?_
        have eu := Bp.int (H := G1) (.inl r1)
        subst eu
        rcases kv_val (k := n) hA with ⟨z, _⟩ | ⟨v, d', z1, z2, z3⟩
        · have q' : lookI l n = some d := q
          rw [z] at q'; cases q'
        · have q' : lookI l n = some d := q
          rw [z1] at q'
          cases q'
          refine ⟨a, v, rfl, ?_, k v H1 G1 g1 (.inl (dp_mono g1.f _ z3))⟩
          rw [← z2]
          exact DGet.k (k := Sum.inl n) (g1.h _ _ (sR _ _ ha))
      | _ => cases q
theorem dnotin_ok (i : Nat) (kk : EOk K B tk fk) : TOk K B (tB (tDNotIn tk (tVar i))) (eDNotIn B.bk i fk) := fun R F H σ ρ b E q Q k => by
  unfold eDNotIn at q
  cases ho : rcv kT B.bk ρ i with
  | none => rw [ho] at q; cases q
  | some l =>
    rw [ho, Option.bind_some] at q
    cases hk : fk ρ with
    | none => rw [hk] at q; cases q
    | some kd =>
      rw [hk, Option.bind_some] at q
      cases kd with
      | int n =>
        have q' : some (!(lookI l n).isSome) = some b := q
        cases q'
        obtain ⟨a, R', h1, ⟨kv, ha, hA⟩, sR, ap⟩ := rcv_ok E ho
        refine kk _ F H σ ρ _ E hk _ fun u H1 G1 g1 r1 => ?_
        have eu := Bp.int (H := G1) (.inl r1)
        subst eu
        refine ⟨.ref a, h1, a, valV (kvI kv) (Sum.inl n), rfl, DGet.k (k := Sum.inl n) (g1.h _ _ (sR _ _ ha)), ?_⟩
        have e : (valV (kvI kv) (Sum.inl n)).isSome = (lookI l n).isSome := by
          rcases kv_val (k := n) hA with ⟨z1, z2⟩ | ⟨v, d', z1, z2, z3⟩
          · rw [z1, z2]; rfl
          · rw [z1, z2]; rfl
        rw [e]
        exact ⟨_, rfl, k H1 G1 g1⟩
      | _ => cases q
end
/-! ### while -/
def whF (t : STe) (body : SS) : Nat → Rho → Out
  | 0, _ => .no
  | n + 1, ρ => match t ρ with
    | none => .no
    | some b => if b = true then (match body ρ with
      | .nx r => whF t body n r
      | o => o) else .nx ρ
def sWhile (n : Nat) (t : STe) (body : SS) : SS := fun ρ => whF t body n ρ
theorem while_okS {K : PySem.W.Frag} {B : Bs} {W : XW} {tc : TT} {tb : TS} {t : STe} {body : SS} (n : Nat) (kt : TOk K B tc t) (kb : SSOk K B W tb body) : SSOk K B W (tWhile tc tb) (sWhile n t body) := fun Z R F H σ ρ D s hg => by
  refine ⟨fun m σ' H' => ∃ (R' : Rg) (F' : Hp) (ρ' : Rho), StOk K B Z R' F' H' σ' ρ' ∧ Same F F' ∧ Goes K B Z F' D W (whF t body m ρ'), ⟨n, R, F, ρ, s, Same.refl F, hg⟩, ?_⟩
  rintro m σ' H' ⟨R', F', ρ', s', e', hg'⟩
  cases m with
  | zero => exact hg'.elim
  | succ m =>
    unfold whF at hg'
    cases et : t ρ' with
    | none => simp only [et] at hg'; exact hg'.elim
    | some b =>
      simp only [et] at hg'
      refine kt _ F' H' σ' ρ' b s'.env et _ fun H1 G1 g1 => ?_
      cases b with
      | false =>
        rw [if_neg (by decide)] at hg' ⊢
        exact hg' σ' H1 R' G1 (s'.grow g1) g1.f
      | true =>
        rw [if_pos rfl] at hg' ⊢
        refine ⟨fun σ2 H2 => ∃ m', m' < m + 1 ∧ ∃ (R' : Rg) (F' : Hp) (ρ' : Rho), StOk K B Z R' F' H2 σ2 ρ' ∧ Same F F' ∧ Goes K B Z F' D W (whF t body m' ρ'), fun _ _ h => h, ?_⟩
        refine kb Z R' G1 H1 σ' ρ' _ (s'.grow g1) ?_
        cases eb : body ρ' with
        | no => simp only [eb] at hg'; exact hg'.elim
        | nx r =>
          simp only [eb] at hg'
          exact fun σ4 H4 R4 F4 s4 e4 => ⟨m, Nat.lt_succ_self m, R4, F4, r, s4, (e'.trans g1.f).trans e4, Goes.mono hg' (g1.f.trans e4)⟩
        | rt d r => simp only [eb] at hg'; exact Goes.mono (o := .rt d r) hg' g1.f
        | ex c r => simp only [eb] at hg'; exact Goes.mono (o := .ex c r) hg' g1.f
        | ro i r => simp only [eb] at hg'; exact Goes.mono (o := .ro i r) hg' g1.f
/-! ### words -/
section
variable {X : Cx} {K : PySem.W.Frag} {B : Bs} {W : XW} {e a b c : Expr} {tk tv te : TE} {fk fv f : SE} {i j : Nat} {x : Str} {p p2 pos pos2 : Pos}
theorem s_mkDct (i : Nat) (hB : i = 0 → B.o = none) (ps : PS X (.Assign [.Name x p] (.Dict [] [] pos) pos2) (tAsg tDNewK (gName i))) : SemS X K B W (.Assign [.Name x p] (.Dict [] [] pos) pos2) (tAsg tDNewK (gName i)) (sMkDct i) := ⟨ps, mkDct_okS hB⟩
theorem s_mkDct1 (i : Nat) (hB : i = 0 → B.o = none) (hk : SemE X K B a tk fk) (hv : SemE X K B b tv fv) (ps : PS X (.Assign [.Name x p] (.Dict [some a] [b] pos) pos2) (tAsg (tDisp [(tk, tv)]) (gName i))) : SemS X K B W (.Assign [.Name x p] (.Dict [some a] [b] pos) pos2) (tAsg (tDisp [(tk, tv)]) (gName i)) (sMkDct1 i fk fv) := ⟨ps, mkDct1_okS hB hk.ok hv.ok⟩
theorem s_dset (i : Nat) (hk : SemE X K B a tk fk) (hv : SemE X K B e tv fv) (ps : PS X (.Assign [.Subscript (.Name x p) a p2] e pos) (tAsg tv (gSub (tVar i) tk rSetD))) : SemS X K B W (.Assign [.Subscript (.Name x p) a p2] e pos) (tAsg tv (gSub (tVar i) tk rSetD)) (sDSet i fk fv) := ⟨ps, dset_okS hv.ok hk.ok⟩
theorem sl_dkeys (i : Nat) {y : Str} {p2 : Pos} (hm : X.mg "list" = none) (hp : PE X (.Name y p2) (tVar i)) (hc : X.calm = true := by rfl) (hg : Gl X "list" := by rfl) (he : starEach [Expr.Name y p2] X.env = [(false, eval (.Name y p2) X.env)] := by rfl) (hpl : (backTo pos (starEach [] X.env)).any (·.1) = false := by rfl) :
    SemL X K B (.Call (.Name "list" p) [.Name y p2] [] pos) (tCB rListD (tCons (tVar i) tNil)) (eDKeys B.bk i) :=
  ⟨pe_callTy (call_list_dK hc) hg hm (by decide +kernel) (pa_cons hp pa_nil he) (by decide) (by decide) he hpl, dkeys_ok i⟩
theorem se_dget (i : Nat) (hu : X.A.units + 1 < cLine) (hp : PE X (.Name x p) (tVar i)) (hk : SemE X K B a tk fk) (hs : NoSl a := by exact fun _ _ => rfl) : SemE X K B (.Subscript (.Name x p) a pos) (tDGet (tVar i) tk) (eDGet B.bk i fk) := ⟨pe_dget hu hp hk.pe hs, dget_ok i hk.ok⟩
theorem st_dnotin (i : Nat) (hu : X.A.units + 1 < cLine) (hp : PE X (.Name x p) (tVar i)) (hk : SemE X K B a tk fk) (h1 : behindInMarks .NotIn (.Name x p) = false := by rfl) : SemT X K B (.Compare a [.NotIn] [.Name x p] pos) (tB (tDNotIn tk (tVar i))) (eDNotIn B.bk i fk) := ⟨pt_cmp (pc_dnotin hu hk.pe hp) h1, dnotin_ok i hk.ok⟩
theorem s_while (n : Nat) {tc : TT} {tb : TS} {t : STe} {body : SS} {ss : List Stmt} (hp : PassesOwn (model X.prog X.w) X.A X.env X.xe) (ht : SemT X K B e tc t) (hb : SemSs X K B W ss tb body) : SemS X K B W (.While e ss [] pos) (tWhile tc tb) (sWhile n t body) := ⟨ps_while hp ht.pt hb.ps, while_okS n ht.ok hb.ok⟩
end
theorem hu1_of {k : Nat} {A : Around} (hr : Room k A) : A.units + 1 < cLine := by have := hr.un; omega
theorem x_peB {X : Cx} {K : PySem.W.Frag} {e : Expr} {t : TE} {f : SE} (h : SemB X K noB e t f) : PE X e t := h.pe
theorem x_peL {X : Cx} {K : PySem.W.Frag} {e : Expr} {t : TE} {f : SA} (h : SemL X K noB e t f) : PE X e t := h.pe
/-! ### rows to reckon -/
@[simp] theorem sMkDct_eq (i : Nat) (ρ : Rho) : sMkDct i ρ = .nx (ρ.set i (.obj (.dct []))) := rfl
theorem sDSet_at {i : Nat} {fk fv : SE} {ρ : Rho} {l : List (Int × PyData)} {k : Int} {d : PyData} (h1 : ρ[i]? = some (.obj (.dct l))) (h2 : fk ρ = some (.int k)) (h3 : fv ρ = some d) (hd : dataD d = true) (hl : l.length ≤ LIM) : sDSet i fk fv ρ = .nx (ρ.set i (.obj (.dct (putI l k d)))) := by
  unfold sDSet
  rw [h1, h2, h3]
  simp [hd, hl]
theorem eDKeys_obj (bk : Addr → Option ObjSt) (i : Nat) (ρ : Rho) (l : List (Int × PyData)) (h : ρ[i]? = some (.obj (.dct l))) : eDKeys bk i ρ = some (l.map fun x => .int x.1) := by
  unfold eDKeys
  rw [rcv_obj _ _ _ _ h]
  rfl
end RT
/-! A reading function's own value, whatever the address of the object is. -/
namespace RT
open PySem PySem.Spec PyProof.Rows L2
section
variable {S : Type}
open Classical in
noncomputable def frOf (kd : Kd S) (N : List Str) (n : Nat) (b : (Addr → Option ObjSt) → SS) : S → List PyData → Res := fun β ds =>
  if h : ∃ d, ∀ a, runF N n (b (only a (kd.inj β))) (refD a :: ds) = some d then .ret h.choose else .no
theorem frOf_ok (kd : Kd S) (N : List Str) (n : Nat) (b : (Addr → Option ObjSt) → SS) : ∀ a β ds, match frOf kd N n b β ds with
      | .ret d => runF N n (b (only a (kd.inj β))) (refD a :: ds) = some d
      | .exc _ => False
      | .no => True := fun a β ds => by
  unfold frOf
  by_cases h : ∃ d, ∀ a, runF N n (b (only a (kd.inj β))) (refD a :: ds) = some d
  · rw [dif_pos h]
    exact h.choose_spec a
  · rw [dif_neg h]
    trivial
theorem frOf_eq {kd : Kd S} {N : List Str} {n : Nat} {b : (Addr → Option ObjSt) → SS} {β : S} {ds : List PyData} {d : PyData} (h : ∀ a, runF N n (b (only a (kd.inj β))) (refD a :: ds) = some d) : frOf kd N n b β ds = .ret d := by
  unfold frOf
  have h' : ∃ d, ∀ a, runF N n (b (only a (kd.inj β))) (refD a :: ds) = some d := ⟨d, h⟩
  rw [dif_pos h']
  have := (h'.choose_spec 0).symm.trans (h 0)
  rw [Option.some.inj this]
end
end RT
/-! Loops and comprehensions by what holds of them; texts by their codes. -/
namespace RT
open PySem PySem.Spec PyProof.Rows L2
theorem forF_inv {j : Nat} {body : SS} (Inv : Nat → Rho → Prop) : ∀ {ds : List PyData} (n : Nat) {ρ : Rho}, Inv n ρ → (∀ k d ρ, ds[k]? = some d → Inv (n + k) ρ → ∃ ρ', body (ρ.set j (.val d)) = .nx ρ' ∧ Inv (n + k + 1) ρ') →
    ∃ ρ', forF (tg1 j) body ds ρ = .nx ρ' ∧ Inv (n + ds.length) ρ'
  | [], n, ρ, h, _ => ⟨ρ, rfl, h⟩
  | d :: ds, n, ρ, h, hs => by
    obtain ⟨ρ1, e1, i1⟩ := hs 0 d ρ rfl h
    obtain ⟨ρ2, e2, i2⟩ := forF_inv Inv (ds := ds) (n + 1) i1 fun k d' ρ hd hi => by
      have := hs (k + 1) d' ρ (by simpa using hd) (by rw [show n + (k + 1) = n + 1 + k by omega]; exact hi)
      rw [show n + (k + 1) + 1 = n + 1 + k + 1 by omega] at this
      exact this
    refine ⟨ρ2, ?_, ?_⟩
    · rw [forF_cons1, e1, thn_nx, e2]
    · rw [List.length_cons, show n + (ds.length + 1) = n + 1 + ds.length by omega]
      exact i2
theorem forF_inv0 {j : Nat} {body : SS} (Inv : Nat → Rho → Prop) {ds : List PyData} {ρ : Rho} (h : Inv 0 ρ) (hs : ∀ k d ρ, ds[k]? = some d → Inv k ρ → ∃ ρ', body (ρ.set j (.val d)) = .nx ρ' ∧ Inv (k + 1) ρ') :
    ∃ ρ', forF (tg1 j) body ds ρ = .nx ρ' ∧ Inv ds.length ρ' := by
  obtain ⟨ρ', e, i⟩ := forF_inv Inv 0 h fun k d ρ hd hi => by
    rw [Nat.zero_add] at hi ⊢
    exact hs k d ρ hd hi
  rw [Nat.zero_add] at i
  exact ⟨ρ', e, i⟩
theorem rangeD_get {n k : Nat} {d : PyData} (h : (rangeD 0 n)[k]? = some d) : k < n ∧ d = .int (k : Int) := by
  have hk : k < n := by
    have := (List.getElem?_eq_some_iff.mp h).1
    simpa using this
  refine ⟨hk, ?_⟩
  simp [rangeD, hk] at h
  exact h.symm
theorem forF_rng {j : Nat} {body : SS} (Inv : Nat → Rho → Prop) {n : Nat} {ρ : Rho} (h : Inv 0 ρ) (hs : ∀ k ρ, k < n → Inv k ρ → ∃ ρ', body (ρ.set j (.val (.int (k : Int)))) = .nx ρ' ∧ Inv (k + 1) ρ') : ∃ ρ', forF (tg1 j) body (rangeD 0 n) ρ = .nx ρ' ∧ Inv n ρ' := by
  obtain ⟨ρ', e, i⟩ := forF_inv0 (j := j) (body := body) (ds := rangeD 0 n) Inv h fun k d ρ hd hi => by
    obtain ⟨hk, rfl⟩ := rangeD_get hd
    exact hs k ρ hk hi
  rw [rangeD_len] at i
  exact ⟨ρ', e, i⟩
/-- a comprehension without a test, its items by what holds of them -/
theorem lcF_ex {α : Type} {j : Nat} {el : SE} {ρ : Rho} (enc : α → PyData) (P : PyData → α → Prop) : ∀ {ds : List PyData}, (∀ d, d ∈ ds → ∃ x, el (ρ.set j (.val d)) = some (enc x) ∧ dataD (enc x) = true ∧ P d x) →
    ∃ xs : List α, lcF j tYesF el ρ ds = some (xs.map enc) ∧ xs.length = ds.length ∧ ∀ (k : Nat) (d : PyData) (x : α), ds[k]? = some d → xs[k]? = some x → P d x
  | [], _ => ⟨[], rfl, rfl, fun k d x h => by simp at h⟩
  | d :: ds, h => by
    obtain ⟨x, e1, e2, hp⟩ := h d List.mem_cons_self
    obtain ⟨xs, e3, e4, hq⟩ := lcF_ex enc P (ds := ds) fun d' hd => h d' (List.mem_cons_of_mem _ hd)
    refine ⟨x :: xs, ?_, by simp [e4], fun k d' x' h1 h2 => ?_⟩
    · simp [lcF, e1, e2, e3]
    · cases k with
      | zero => simp at h1 h2; subst h1 h2; exact hp
      | succ k => exact hq k d' x' (by simpa using h1) (by simpa using h2)
/-- an item of a menu -/
def mnu {α : Type} (l : List α) (i : Int) : Option α := atI l (i % (l.length : Int))
theorem mnu_mem {α : Type} {l : List α} {i n : Int} (hn : n = (l.length : Int)) (h0 : 0 < n) : ∃ x, x ∈ l ∧ atI l (i % n) = some x := atI_mod l i n hn h0
/-! ### texts by codes -/
theorem cutS_S (l : List Nat) (lo hi : Option Int) : cutS (SX.S l) lo hi = SX.S (cutA l lo hi) := by
  unfold cutS cutA
  rw [SX.S_len]
theorem cutA_from {α : Type} (l : List α) (k : Nat) : cutA l (some (k : Int)) none = l.drop k := by
  unfold cutA
  rw [HT.sIx_nat]
  show (l.drop (min k l.length)).take (l.length - min k l.length) = l.drop k
  rw [List.take_of_length_le (by simp)]
  by_cases h : k ≤ l.length
  · rw [Nat.min_eq_left h]
  · rw [Nat.min_eq_right (by omega), List.drop_length, List.drop_eq_nil_of_le (by omega)]
theorem cutA_to {α : Type} (l : List α) (k : Nat) : cutA l none (some (k : Int)) = l.take k := by
  unfold cutA
  rw [HT.sIx_nat]
  show (l.drop 0).take (min k l.length - 0) = l.take k
  rw [List.drop_zero, Nat.sub_zero]
  by_cases h : k ≤ l.length
  · rw [Nat.min_eq_left h]
  · rw [Nat.min_eq_right (by omega), List.take_length, List.take_of_length_le (by omega)]
theorem cutA_fromI {α : Type} (l : List α) (i : Int) (h : 0 ≤ i) : cutA l (some i) none = l.drop i.toNat := by
  have := cutA_from l i.toNat
  rwa [Int.toNat_of_nonneg h] at this
theorem cutA_toI {α : Type} (l : List α) (i : Int) (h : 0 ≤ i) : cutA l none (some i) = l.take i.toNat := by
  have := cutA_to l i.toNat
  rwa [Int.toNat_of_nonneg h] at this
theorem cutA_init {α : Type} (l : List α) : cutA l none (some (-1)) = l.dropLast := by
  unfold cutA HT.sIx
  rw [List.dropLast_eq_take]
  cases l with
  | nil => rfl
  | cons x r =>
    simp
    omega
theorem cutA_lastL {α : Type} (l : List α) : cutA l (some (-1)) none = l.drop (l.length - 1) := by
  unfold cutA HT.sIx
  cases l with
  | nil => rfl
  | cons x r =>
    simp
    rw [List.take_of_length_le (by simp)]
    congr 1
    omega
theorem gAdd_S (a b : List Nat) (h : a.length + b.length ≤ LIM) : gAdd (.str (SX.S a)) (.str (SX.S b)) = some (.str (SX.S (a ++ b))) := by
  rw [gAdd_str _ _ (by rw [SX.S_len, SX.S_len]; exact h), SX.S_cat]
def strD : PyData → Option Str
  | .str z => if z.length ≤ LIM then some z else none
  | _ => none
theorem eSlS_S {f : SE} {a b : SO} {ρ : Rho} {l : List Nat} {lo hi : Option Int} (h1 : f ρ = some (.str (SX.S l))) (h2 : a ρ = some lo) (h3 : b ρ = some hi) (hl : l.length ≤ LIM) : eSlS f a b ρ = some (.str (SX.S (cutA l lo hi))) := by
  unfold eSlS
  rw [h1, h2, h3]
  simp only [Option.bind_some]
  rw [if_pos (by rw [SX.S_len]; exact hl), cutS_S]
end RT
/-! Functions that hand back a new book. -/
/-! Functions that hand back a new list; own lists handed in where a list of flat data comes back. -/
namespace RT
open PySem PySem.Spec PyProof.Rows L2
/-! ### data with no list in it -/
mutual
def flatD : PyData → Bool
  | .none => true
  | .bool _ => true
  | .int _ => true
  | .str _ => true
  | .tuple ds => flatDs ds
  | _ => false
def flatDs : List PyData → Bool
  | [] => true
  | d :: ds => flatD d && flatDs ds
end
theorem flatDs_all (ds : List PyData) : flatDs ds = ds.all flatD := by
  induction ds with
  | nil => rfl
  | cons d ds ih => rw [flatDs, ih]; rfl
section
variable {K : PySem.W.Frag} {G G' : Hp} (hG : ∀ a o, G a = some o → (∀ xs, o ≠ .lst xs) → G' a = some o)
include hG
mutual
theorem dq_flat : ∀ (d : PyData) {v : V}, flatD d = true → Dq K G v d → Dq K G' v d
  | .none, _, _, h => by cases h; exact .non
  | .bool b, _, _, h => by cases h; exact .bl b
  | .int i, _, _, h => by cases h; exact .int i
  | .str x, _, _, h => by cases h; exact .str x
  | .tuple ds, v, f, h => by
    have f' : flatDs ds = true := by simpa [flatD] using f
    cases h with
    | tup h1 h2 =>
      refine .tup ?_ (dqa_flat ds f' h2)
      rcases h1 with (h1 | ⟨o, h1⟩) | h1
      · exact .inl (.inl (hG _ _ h1 fun xs z => by cases z))
      · exact .inl (.inr ⟨o, hG _ _ h1 fun xs z => by cases z⟩)
      · exact .inr h1
  | .list ds, v, f, h => by simp [flatD] at f
  | .dict _, _, f, _ => by simp [flatD] at f
theorem dqa_flat : ∀ (ds : List PyData) {vs : List V}, flatDs ds = true → DqAll K G vs ds → DqAll K G' vs ds
  | [], _, _, h => by cases h; exact .nil
  | d :: ds, _, f, h => by
    rw [flatDs, Bool.and_eq_true] at f
    cases h with
    | cons h1 h2 => exact .cons (dq_flat d f.1 h1) (dqa_flat ds f.2 h2)
end
end
/-! ### a part of the heap with the lists beside it -/
def lstsOf (H : Hp) : Hp := fun a => match H a with
  | some (.lst xs) => some (.lst xs)
  | _ => none
def plusL (G H R : Hp) : Hp := fun a => match R a with
  | some _ => none
  | none => match G a with
    | some o => some o
    | none => lstsOf H a
theorem plusL_same {G H R : Hp} (ap : Apart R G) : Same G (plusL G H R) := fun a o h => by
  unfold plusL
  cases hR : R a with
  | none => simp only [h]
  | some u => have := ap a (by rw [hR]; intro z; cases z); rw [this] at h; cases h
theorem plusL_sub {G H R : Hp} (e : Same G H) : Same (plusL G H R) H := fun a o h => by
  unfold plusL at h
  split at h
  · cases h
  · split at h
    · rename_i o' h2
      cases h
      exact e _ _ h2
    · unfold lstsOf at h
      split at h
      · rename_i xs h3
        cases h
        exact h3
      · cases h
theorem plusL_apart {G H R : Hp} : Apart R (plusL G H R) := fun a ha => by
  unfold plusL
  cases hR : R a with
  | none => exact absurd hR ha
  | some u => rfl
theorem plusL_lst {G H R : Hp} {p : Addr} {xs : List V} (e : Same G H) (h : H p = some (.lst xs)) (hR : R p = none) : plusL G H R p = some (.lst xs) := by
  unfold plusL
  rw [hR]
  cases hG : G p with
  | none => simp [lstsOf, h]
  | some o =>
    have := e _ _ hG
    rw [h] at this
    cases this
    rfl
/-- what has come beside, the lists lent taken away -/
def lessL (G H G' : Hp) : Hp := fun a => match G a, H a with
  | none, some _ => none
  | _, _ => G' a
theorem lessL_flat {G H R H' G' : Hp} (e : Same G H) (g : Grow H (plusL G H R) H' G') : ∀ a o, G' a = some o → (∀ xs, o ≠ .lst xs) → lessL G H G' a = some o := fun a o h hn => by
  unfold lessL
  cases hG : G a with
  | some u => exact h
  | none =>
    cases hH : H a with
    | none => exact h
    | some u =>
      exfalso
      cases hp : plusL G H R a with
      | none =>
        have := g.no a hp (by rw [hH]; intro z; cases z)
        rw [this] at h
        cases h
      | some w =>
        have h2 := g.f _ _ hp
        rw [h2] at h
        cases h
        unfold plusL at hp
        split at hp
        · cases hp
        · rw [hG] at hp
          simp only at hp
          unfold lstsOf at hp
          split at hp
          · cases hp
            exact hn _ rfl
          · cases hp
theorem lessL_grow {G H R H' G' : Hp} (e : Same G H) (ap : Apart R G) (g : Grow H (plusL G H R) H' G') : Grow H G H' (lessL G H G') where
  h := g.h
  f := fun a o h => by
    have h2 := g.f _ _ (plusL_same (H := H) ap a o h)
    unfold lessL
    rw [h]
    exact h2
  sub := fun a o h => by
    unfold lessL at h
    split at h
    · cases h
    · exact g.sub _ _ h
  no := fun a h1 h2 => by
    unfold lessL
    rw [h1]
    cases hH : H a with
    | none => exact absurd hH h2
    | some u => rfl
theorem CpAll.allL {K : PySem.W.Frag} {B : Bs} {R : Rg} {G H R' : Hp} (e : Same G H) (ap : Apart R' G) (hR : ∀ p, (∀ i, R i p = none) → B.h p = none → R' p = none) : ∀ {vs : List V} {ds : List PyData}, CpAll K B R G H vs ds → RpAll K (plusL G H R') vs ds
  | [], [], _ => .nil
  | [], _ :: _, h => by cases h
  | _ :: _, [], h => by cases h
  | v :: vs, d :: ds, h => by
    cases h with
    | cons h1 h2 =>
      refine .cons ?_ (CpAll.allL e ap hR h2)
      rcases h1 with h1 | ⟨p, us, es, rfl, rfl, h3, h4, h5, h6⟩
      · exact h1.mono (plusL_same ap)
      · exact .inl (.lst (plusL_lst e h3 (hR p h5 h6)) (dpa_mono (plusL_same ap) _ h4))
theorem apart_noH {G : Hp} : Apart noH G := fun a ha => absurd rfl ha
theorem BpAll.allL {K : PySem.W.Frag} {G H : Hp} (e : Same G H) : ∀ {vs : List V} {ds : List PyData}, BpAll K G H vs ds → RpAll K (plusL G H noH) vs ds
  | [], [], _ => .nil
  | [], _ :: _, h => by cases h
  | _ :: _, [], h => by cases h
  | v :: vs, d :: ds, h => by
    cases h with
    | cons h1 h2 =>
      refine .cons ?_ (BpAll.allL e h2)
      rcases h1 with h1 | ⟨p, us, es, rfl, rfl, h3, h4⟩
      · exact h1.mono (plusL_same apart_noH)
      · exact .inl (.lst (plusL_lst e h3 rfl) (dpa_mono (plusL_same apart_noH) _ h4))
/-- a list of flat data -/
def flatL : PyData → Bool
  | .list es => flatDs es
  | _ => false
def onlyF (o : Option PyData) : Option PyData := o.bind fun d => if flatL d = true then some d else none
def onlyFs (o : Option (List PyData)) : Option (List PyData) := o.bind fun d => if flatDs d = true then some d else none
section
variable {K : PySem.W.Frag} {B : Bs} {ta : TA} {sa : SA}
/-- own lists handed in for a moment: a list of flat data comes back, to be read for a moment -/
theorem callPBF_ok {F : List PyData → Option PyData} (ha : ABOk K B ta sa) : BOk K B (tCall (spPure K F) [] E0 ta) (eCall (fun ds => onlyF (F ds)) sa) := fun Rg F' H σ ρ d E q Q kk => by
  cases e1 : sa ρ with
  | none => simp [eCall, e1] at q
  | some ds =>
    have q' : onlyF (F ds) = some d := by simpa [eCall, e1] using q
    unfold onlyF at q'
    cases e2 : F ds with
    | none => simp [e2] at q'
    | some d' =>
      rw [e2, Option.bind_some] at q'
      split at q'
      · rename_i hs
        cases q'
        refine ha _ F' H σ ρ ds E e1 _ fun vs H1 G1 g1 r1 => ?_
        rw [List.append_nil]
        refine ⟨plusL G1 H1 noH, ds, _, plusL_sub g1.sub, BpAll.allL g1.sub r1, e2, fun v H' G' g r => kk v H' _ (g1.trans (lessL_grow g1.sub apart_noH g)) ?_⟩
        cases d with
        | list es =>
          rcases r with r | ⟨a, _, z⟩ | ⟨a, ns, _, z, _⟩
          · cases r with
            | lst h1 h2 => exact .inr ⟨_, _, es, rfl, rfl, g.sub _ _ h1, dqa_flat (lessL_flat g1.sub g) es hs h2⟩
          · cases z
          · exact absurd z (by intro z; cases z)
        | _ => simp [flatL] at hs
      · cases q'
/-! ### functions that hand back a new list -/
def spNewL (K : PySem.W.Frag) (Ff : List PyData → Option (List PyData)) : Sp := fun vs H Q _ => ∃ (G : Hp) (ds es : List PyData), Same G H ∧ RpAll K G vs ds ∧ Ff ds = some es ∧
  ∀ p xs H' G', Grow H G H' G' → H p = none → G' p = none → H' p = some (.lst xs) → DqAll K G' xs es → Q (.ref p) H'
def spRL {S : Type} (K : PySem.W.Frag) (kd : Kd S) (Fr : S → List PyData → Option (List PyData)) : Sp := fun vs H Q _ => ∃ (G R : Hp) (a : Addr) (β : S) (us : List V) (ds es : List PyData), vs = .ref a :: us ∧ Same G H ∧ Same R H ∧ Apart R G ∧ ObjAt K G R a (kd.inj β) ∧ RpAll K G us ds ∧ Fr β ds = some es ∧
  ∀ p xs H' G', Grow H G H' G' → H p = none → G' p = none → H' p = some (.lst xs) → DqAll K G' xs es → Q (.ref p) H'
def sRetL (i : Nat) : SS := fun ρ => match ρ[i]? with
  | some (.own _) => .ro i ρ
  | _ => .no
def ownO : Option Sl → Option (List PyData)
  | some (.own es) => some es
  | _ => none
def runL (N : List Str) (n : Nat) (b : SS) : List PyData → Option (List PyData) := fun ds => if ds.length = n then (match b (rho0 N ds) with
  | .ro i ρ => ownO ρ[i]?
  | _ => none) else none
theorem retL_ok {W : XW} (i : Nat) : SSOk K B W (tRet (tVar i)) (sRetL i) := fun Z R F H σ ρ D s hg => by
  unfold sRetL at hg
  split at hg
  · rename_i o e
    obtain ⟨p, vs, h1, _⟩ := s.env.own i _ e
    exact ⟨.ref p, h1, hg (.ref p) σ H R F s h1 (Same.refl F)⟩
  · exact hg.elim
theorem sp_bodyBL {N : List Str} {n : Nat} {b : SS} {t : TS} (k : SSOk K B W0 t b) {vs : List V} {H G : Hp} {ds es : List PyData} {Q : VK} (bo : BsOk K B G H) (e : Same G H) (hR : RpAll K G vs ds) (hF : runL N n b ds = some es)
    (hQ : ∀ p xs H' G', Grow H G H' G' → H p = none → G' p = none → H' p = some (.lst xs) → DqAll K G' xs es → Q (.ref p) H') : t { nx := fun _ H' => Q .non H', rt := Q } (start N vs) H := by
  refine k ⟨noH, H, G⟩ noR G H _ _ _ (start_ok bo e hR) ?_
  unfold runL at hF
  split at hF
  · cases hb : b (rho0 N ds) with
    | no => rw [hb] at hF; cases hF
    | nx r => rw [hb] at hF; cases hF
    | rt d r => rw [hb] at hF; cases hF
    | ex c r => rw [hb] at hF; cases hF
    | ro i r =>
      rw [hb] at hF
      have ho : r[i]? = some (.own es) := by
        have hF' : ownO r[i]? = some es := hF
        unfold ownO at hF'
        split at hF'
        · rename_i es' h; cases hF'; exact h
        · cases hF'
      exact fun v σ H' R' F' s hv _ => by
        obtain ⟨p, vs, h1, h3, h4, h5, _⟩ := s.env.own i _ ho
        have hz := s.fr i _ p ho h1
        rw [h1] at hv
        cases hv
        exact hQ p vs H' F' s.gr.pure hz h5 h3 h4
  · cases hF
open Classical in
noncomputable def frLOf {S : Type} (kd : Kd S) (N : List Str) (n : Nat) (b : (Addr → Option ObjSt) → SS) : S → List PyData → Option (List PyData) := fun β ds =>
  if h : ∃ d, ∀ a, runL N n (b (only a (kd.inj β))) (refD a :: ds) = some d then some h.choose else none
theorem frLOf_ok {S : Type} {kd : Kd S} {N : List Str} {n : Nat} {b : (Addr → Option ObjSt) → SS} {β : S} {ds es : List PyData} (h : frLOf kd N n b β ds = some es) : ∀ a, runL N n (b (only a (kd.inj β))) (refD a :: ds) = some es := by
  unfold frLOf at h
  split at h
  · rename_i h2
    cases h
    exact h2.choose_spec
  · cases h
theorem frLOf_eq {S : Type} {kd : Kd S} {N : List Str} {n : Nat} {b : (Addr → Option ObjSt) → SS} {β : S} {ds es : List PyData} (h : ∀ a, runL N n (b (only a (kd.inj β))) (refD a :: ds) = some es) : frLOf kd N n b β ds = some es := by
  unfold frLOf
  have h' : ∃ d, ∀ a, runL N n (b (only a (kd.inj β))) (refD a :: ds) = some d := ⟨es, h⟩
  rw [dif_pos h']
  exact (h'.choose_spec 0).symm.trans (h 0)
theorem runL_len {N : List Str} {n : Nat} {b : SS} {ds es : List PyData} (q : runL N n b ds = some es) : ds.length = n := by
  unfold runL at q
  split at q
  · assumption
  · cases q
theorem sp_runL {X : Cx} {N : List Str} {n : Nat} {st : List Stmt} {b : SS} {vs : List V} {H : Hp} {Q : VK} {E : XK}
    (k : ∃ t, SemSs X.nox K noB W0 st t b) (h : spNewL K (runL N n b) vs H Q E) : ∃ t, PSs X st t ∧ t { nx := fun _ H' => Q .non H', rt := Q } (start N vs) H := by
  obtain ⟨G, ds, es, e, hR, hF, hQ⟩ := h
  obtain ⟨t, k⟩ := k
  exact ⟨t, k.ps.nox, sp_bodyBL k.ok bsOk_no e hR hF hQ⟩
theorem sp_runRL {S : Type} {kd : Kd S} {X : Cx} {N : List Str} {n : Nat} {st : List Stmt} {b : (Addr → Option ObjSt) → SS} {vs : List V} {H : Hp} {Q : VK} {E : XK}
    (k : ∀ B : Bs, ∃ t, SemSs X.nox K B W0 st t (b B.bk)) (h : spRL K kd (frLOf kd N n b) vs H Q E) : ∃ t, PSs X st t ∧ t { nx := fun _ H' => Q .non H', rt := Q } (start N vs) H := by
  obtain ⟨G, R, a, β, us, ds, es, rfl, e, eR, ap, bA, r, q, hQ⟩ := h
  have bo : BsOk K ⟨R, G, only a (kd.inj β), none⟩ G H := ⟨Same.refl G, eR, ap, only_ok bA⟩
  obtain ⟨t, k⟩ := k ⟨R, G, only a (kd.inj β), none⟩
  exact ⟨t, k.ps.nox, sp_bodyBL k.ok bo e (.cons (.inr (.inl ⟨a, rfl, rfl⟩)) r) (frLOf_ok q a) hQ⟩
theorem spNewL_len {N : List Str} {n : Nat} {b : SS} {vs : List V} {H : Hp} {Q : VK} {E : XK} (h : spNewL K (runL N n b) vs H Q E) : vs.length = n := by
  obtain ⟨G, ds, es, e, hR, hF, hQ⟩ := h
  rw [hR.len]
  exact runL_len hF
theorem spRL_len {S : Type} {kd : Kd S} {N : List Str} {n : Nat} {b : (Addr → Option ObjSt) → SS} {vs : List V} {H : Hp} {Q : VK} {E : XK} (h : spRL K kd (frLOf kd N n b) vs H Q E) : vs.length = n := by
  obtain ⟨G, R, a, β, us, ds, es, rfl, e, eR, ap, bA, r, q, hQ⟩ := h
  have := runL_len (frLOf_ok q a)
  rw [List.length_cons, r.len]
  simpa using this
structure PFL (P : Program) (w : World) (K : PySem.W.Frag) (mg : Str → Option Value) (base : Heap) (k : Nat) (x : Str) (Ff : List PyData → Option (List PyData)) : Prop where
  ex : ∃ (f : Addr) (fd : FuncData) (ps : List Str), FnOk P w K mg base CX0 k f fd ps (spNewL K Ff) ∧ mg x = some (.ref f) ∧ PySem.W.keepIn K (.ref f) = true ∧ Binds K fd ps []
structure PFRL {S : Type} (P : Program) (w : World) (K : PySem.W.Frag) (mg : Str → Option Value) (base : Heap) (k : Nat) (kd : Kd S) (x : Str) (Fr : S → List PyData → Option (List PyData)) : Prop where
  ex : ∃ (f : Addr) (fd : FuncData) (ps : List Str), FnOk P w K mg base CX0 k f fd ps (spRL K kd Fr) ∧ mg x = some (.ref f) ∧ PySem.W.keepIn K (.ref f) = true ∧ Binds K fd ps []
theorem callL_ok {Ff : List PyData → Option (List PyData)} (ha : AOk K B ta sa) : LOk K B (tCall (spNewL K Ff) [] E0 ta) (eCallL Ff sa) := fun R F H σ ρ es E q Q k => by
  unfold eCallL at q
  cases e1 : sa ρ with
  | none => rw [e1] at q; cases q
  | some ds =>
    rw [e1, Option.bind_some] at q
    refine ha _ F H σ ρ ds E e1 _ fun vs H1 G1 g1 r1 => ?_
    rw [List.append_nil]
    exact ⟨G1, ds, es, g1.sub, r1, q, fun p xs H' G' g h1 h2 h3 h4 => k p xs H' G' (g1.trans g) (g1.h.free h1) h2 h3 h4⟩
def eMethL {S : Type} (kd : Kd S) (bk : Addr → Option ObjSt) (i : Nat) (Fr : S → List PyData → Option (List PyData)) (sa : SA) : SA := fun ρ => (rcv kd bk ρ i).bind fun β => (sa ρ).bind fun ds => Fr β ds
theorem callRL_ok {S : Type} {kd : Kd S} {i : Nat} {Fr : S → List PyData → Option (List PyData)} (ha : AOk K B ta sa) : LOk K B (tCall (spRL K kd Fr) [] E0 (tCons (tVar i) ta)) (eMethL kd B.bk i Fr sa) := fun R F H σ ρ es E q Q k => by
  unfold eMethL at q
  cases e1 : rcv kd B.bk ρ i with
  | none => rw [e1] at q; cases q
  | some β =>
    cases e2 : sa ρ with
    | none => rw [e1, e2] at q; cases q
    | some ds =>
      rw [e1, e2, Option.bind_some, Option.bind_some] at q
      obtain ⟨a, R', s1, bA, sR, ap, hR⟩ := rcv_ok2 E e1
      refine ⟨.ref a, s1, ha _ F H σ ρ ds E e2 _ fun vs H1 G1 g1 r1 => ?_⟩
      show spRL K kd Fr ((.ref a :: vs) ++ []) H1 Q E0
      rw [List.append_nil]
      exact ⟨G1, R', a, β, vs, ds, es, rfl, g1.sub, sR.trans g1.h, g1.apart sR ap, bA.mono g1.f (Same.refl _), r1, q, fun p xs H' G' g h1 h2 h3 h4 => k p xs H' G' (g1.trans g) (g1.h.free h1) h2 h3 h4⟩
theorem callRLB_ok {S : Type} {kd : Kd S} {i : Nat} {Fr : S → List PyData → Option (List PyData)} (ha : CAOk K B ta sa) : LOk K B (tCall (spRL K kd Fr) [] E0 (tCons (tVar i) ta)) (fun ρ => onlyFs (eMethL kd B.bk i Fr sa ρ)) := fun R F H σ ρ es E q Q k => by
  have q : (eMethL kd B.bk i Fr sa ρ).bind (fun d => if flatDs d = true then some d else none) = some es := q
  unfold eMethL at q
  cases e1 : rcv kd B.bk ρ i with
  | none => rw [e1] at q; cases q
  | some β =>
    cases e2 : sa ρ with
    | none => rw [e1, e2] at q; cases q
    | some ds =>
      rw [e1, e2, Option.bind_some, Option.bind_some] at q
      cases e3 : Fr β ds with
      | none => rw [e3] at q; cases q
      | some es' =>
        rw [e3, Option.bind_some] at q
        split at q
        · rename_i hs
          cases q
          obtain ⟨a, R', s1, bA, sR, ap, hR⟩ := rcv_ok2 E e1
          refine ⟨.ref a, s1, ha _ F H σ ρ ds E e2 _ fun vs H1 G1 g1 r1 => ?_⟩
          show spRL K kd Fr ((.ref a :: vs) ++ []) H1 Q E0
          rw [List.append_nil]
          have ap1 : Apart R' G1 := g1.apart sR ap
          refine ⟨plusL G1 H1 R', R', a, β, vs, ds, es, rfl, plusL_sub g1.sub, sR.trans g1.h, plusL_apart, bA.mono (g1.f.trans (plusL_same ap1)) (Same.refl _), r1.allL g1.sub ap1 hR, e3, fun p xs H' G' g h1 h2 h3 h4 => ?_⟩
          refine k p xs H' _ (g1.trans (lessL_grow g1.sub ap1 g)) (g1.h.free h1) ?_ h3 (dqa_flat (lessL_flat g1.sub g) es hs h4)
          unfold lessL
          split
          · rfl
          · exact h2
        · cases q
/-- x + y, a new list -/
def lAdd (f1 f2 : SE) : SA := fun ρ => (eOp gAdd f1 f2 ρ).bind fun d => match d with
  | .list ds => some ds
  | _ => none
theorem addLL {G H : Hp} {x y : V} {d1 d2 : PyData} {es : List PyData} (e : Same G H) (b1 : Bp K G H x d1) (b2 : Bp K G H y d2) (q : gAdd d1 d2 = some (.list es)) {Q : VK}
    (k : ∀ p vs H' G', Grow H G H' G' → H p = none → G' p = none → H' p = some (.lst vs) → DqAll K G' vs es → Q (.ref p) H') : rAdd3 x y H Q := by
  cases d1 with
  | list i =>
    cases d2 with
    | list j =>
      have q' : (if i.length + j.length ≤ LIM then some (PyData.list (i ++ j)) else none) = some (.list es) := q
      split at q'
      · rename_i hc
        cases q'
        obtain ⟨p1, vs, rfl, h1, a1⟩ := b1.list e
        obtain ⟨p2, ws, rfl, h2, a2⟩ := b2.list e
        refine .inr (.inr ⟨p1, p2, vs, ws, rfl, rfl, h1, h2, lim_line (by rw [a1.len, a2.len]; exact hc), fun p hp => k p _ _ G ⟨Same.upd_new (Same.refl H) hp, Same.refl G, Same.upd_new e hp, fun _ h _ => h⟩ hp (e.free hp) upd_same (a1.append a2)⟩)
      · cases q'
    | _ => simp [gAdd, alt, gAddI, gI, gAddS, gAddL] at q
  | int i => cases d2 <;> simp [gAdd, alt, gAddI, gI, gAddS, gAddL, yesC] at q
  | str i =>
    cases d2 with
    | str j =>
      have q' : (if i.length + j.length ≤ LIM then some (PyData.str (i ++ j)) else none) = some (.list es) := by
        by_cases hc : i.length + j.length ≤ LIM
        · simp [gAdd, alt, gAddI, gI, gAddS, hc] at q
        · simp [gAdd, alt, gAddI, gI, gAddS, gAddL, hc] at q
      split at q' <;> cases q'
    | _ => simp [gAdd, alt, gAddI, gI, gAddS, gAddL] at q
  | _ => simp [gAdd, alt, gAddI, gI, gAddS, gAddL] at q
theorem addL_ok {t1 t2 : TE} {f1 f2 : SE} (h1 : BOk K B t1 f1) (h2 : BOk K B t2 f2) : LOk K B (tOp rAdd3 t1 t2) (lAdd f1 f2) := fun R F H σ ρ es E q Q k => by
  unfold lAdd eOp at q
  cases e1 : f1 ρ with
  | none => simp [e1] at q
  | some x =>
    cases e2 : f2 ρ with
    | none => simp [e1, e2] at q
    | some y =>
      rw [e1, e2, Option.bind_some, Option.bind_some] at q
      cases e3 : gAdd x y with
      | none => rw [e3] at q; cases q
      | some d =>
        rw [e3, Option.bind_some] at q
        cases d with
        | list ds =>
          cases q
          exact h1 R F H σ ρ x E e1 _ fun v H1 G1 g1 b1 => h2 R G1 H1 σ ρ y (E.grow g1) e2 _ fun u H2 G2 g2 b2 => addLL g2.sub (b1.mono g2.f g2.h) b2 e3 fun p vs H3 G3 g3 r1 r2 r3 r4 =>
            k p vs H3 G3 (g1.trans (g2.trans g3)) (g1.h.free (g2.h.free r1)) r2 r3 r4
        | _ => cases q
end
section
variable {S : Type} {kd : Kd S} {X : Cx} {K : PySem.W.Frag} {B : Bs} {W : XW} {e a b : Expr} {es : List Expr} {t1 t2 : TE} {f1 f2 : SE} {ta : TA} {sa : SA} {x y : Str} {p p2 pos pos2 : Pos} {k j : Nat} {F : List PyData → Option PyData} {Ff : List PyData → Option (List PyData)} {Fr : S → List PyData → Option (List PyData)}
theorem s_retL (i : Nat) (hp : PE X e (tVar i)) : SemS X K B W (.Return (some e) pos) (tRet (tVar i)) (sRetL i) := ⟨ps_ret hp, retL_ok i⟩
theorem sl_add (h1 : SemB X K B a t1 f1) (h2 : SemB X K B b t2 f2) : SemL X K B (.BinOp a .Add b pos) (tOp rAdd3 t1 t2) (lAdd f1 f2) := ⟨pe_op op_add3 h1.pe h2.pe, addL_ok h1.ok h2.ok⟩
theorem sb_callBF (C : PF X.prog X.w K X.mg X.base k x F) (hr : Room j X.A) (ha : SemAB X K B (e :: es) ta sa) (hk : k ≤ j := by decide) (hg : Gl X x := by rfl) (hdb : (x == ("__debug__" : Str)) = false := by decide)
    (he : starEach (e :: es) X.env = (false, eval e X.env) :: starEach es X.env := by rfl) (hpl : (backTo pos (starEach es X.env)).any (·.1) = false := by rfl) (hK : X.K = K := by rfl) : SemB X K B (.Call (.Name x p) (e :: es) [] pos) (tCall (spPure K F) [] E0 ta) (eCall (fun ds => onlyF (F ds)) sa) := by
  subst hK
  obtain ⟨f, fd, ps, h1, h2, h3, h4⟩ := C.ex
  exact ⟨pe_call h1 (hr.mono hk) hg h2 h3 h4 .nil pass0 ha.pa hdb he hpl, callPBF_ok ha.ok⟩
theorem sl_callL (C : PFL X.prog X.w K X.mg X.base k x Ff) (hr : Room j X.A) (ha : SemA X K B (e :: es) ta sa) (hk : k ≤ j := by decide) (hg : Gl X x := by rfl) (hdb : (x == ("__debug__" : Str)) = false := by decide)
    (he : starEach (e :: es) X.env = (false, eval e X.env) :: starEach es X.env := by rfl) (hpl : (backTo pos (starEach es X.env)).any (·.1) = false := by rfl) (hK : X.K = K := by rfl) : SemL X K B (.Call (.Name x p) (e :: es) [] pos) (tCall (spNewL K Ff) [] E0 ta) (eCallL Ff sa) := by
  subst hK
  obtain ⟨f, fd, ps, h1, h2, h3, h4⟩ := C.ex
  exact ⟨pe_call h1 (hr.mono hk) hg h2 h3 h4 .nil pass0 ha.pa hdb he hpl, callL_ok ha.ok⟩
theorem sl_callRL (i : Nat) (C : PFRL X.prog X.w K X.mg X.base k kd x Fr) (hr : Room j X.A) (ha : SemA X K B es ta sa) (hp : PE X (.Name y p2) (tVar i)) (hk : k ≤ j := by decide) (hg : Gl X x := by rfl) (hdb : (x == ("__debug__" : Str)) = false := by decide)
    (he : starEach (.Name y p2 :: es) X.env = (false, eval (.Name y p2) X.env) :: starEach es X.env := by rfl) (hpl : (backTo pos (starEach es X.env)).any (·.1) = false := by rfl) (hK : X.K = K := by rfl) :
    SemL X K B (.Call (.Name x p) (.Name y p2 :: es) [] pos) (tCall (spRL K kd Fr) [] E0 (tCons (tVar i) ta)) (eMethL kd B.bk i Fr sa) := by
  subst hK
  obtain ⟨f, fd, ps, h1, h2, h3, h4⟩ := C.ex
  exact ⟨pe_call h1 (hr.mono hk) hg h2 h3 h4 .nil pass0 (pa_cons hp ha.pa he) hdb he hpl, callRL_ok ha.ok⟩
theorem sl_callRLB (i : Nat) (C : PFRL X.prog X.w K X.mg X.base k kd x Fr) (hr : Room j X.A) (ha : SemCA X K B es ta sa) (hp : PE X (.Name y p2) (tVar i)) (hk : k ≤ j := by decide) (hg : Gl X x := by rfl) (hdb : (x == ("__debug__" : Str)) = false := by decide)
    (he : starEach (.Name y p2 :: es) X.env = (false, eval (.Name y p2) X.env) :: starEach es X.env := by rfl) (hpl : (backTo pos (starEach es X.env)).any (·.1) = false := by rfl) (hK : X.K = K := by rfl) :
    SemL X K B (.Call (.Name x p) (.Name y p2 :: es) [] pos) (tCall (spRL K kd Fr) [] E0 (tCons (tVar i) ta)) (fun ρ => onlyFs (eMethL kd B.bk i Fr sa ρ)) := by
  subst hK
  obtain ⟨f, fd, ps, h1, h2, h3, h4⟩ := C.ex
  exact ⟨pe_call h1 (hr.mono hk) hg h2 h3 h4 .nil pass0 (pa_cons hp ha.pa he) hdb he hpl, callRLB_ok ha.ok⟩
end
/-! ### one own list becomes data -/
theorem StOk.frzI {K : PySem.W.Frag} {B : Bs} {Z : St0} {R : Rg} {F H : Hp} {σ : L2.St} {ρ : Rho} (s : StOk K B Z R F H σ ρ) (j : Nat) {ds : List PyData} (hj : ρ[j]? = some (.own ds)) : ∃ F', Same F F' ∧ StOk K B Z R F' H σ (ρ.set j (.val (.list ds))) := by
  obtain ⟨p, vs, e1, e2, e3, e4, e5, e6⟩ := s.env.own j ds hj
  have hz := s.fr j ds p hj e1
  have jl : j < ρ.length := (List.getElem?_eq_some_iff.mp hj).1
  let F' : Hp := fun a => if a = p then some (.lst vs) else F a
  have sm : Same F F' := fun a o h => by
    show (if a = p then _ else F a) = some o
    by_cases ha : a = p
    · subst ha; rw [e4] at h; cases h
    · rw [if_neg ha]; exact h
  have sb : Same F' H := fun a o h => by
    have h' : (if a = p then some (.lst vs) else F a) = some o := h
    by_cases ha : a = p
    · subst ha; rw [if_pos rfl] at h'; rw [e2, h']
    · rw [if_neg ha] at h'; exact s.env.ex a o h'
  have oth : ∀ (i : Nat) (x : Sl), (ρ.set j (.val (.list ds)))[i]? = some x → (i = j ∧ x = .val (.list ds)) ∨ (i ≠ j ∧ ρ[i]? = some x) := fun i x h => by
    by_cases hi : i = j
    · subst hi
      rw [List.getElem?_set_self jl] at h
      cases h
      exact .inl ⟨rfl, rfl⟩
    · rw [List.getElem?_set_ne (Ne.symm hi)] at h
      exact .inr ⟨hi, h⟩
  refine ⟨F', sm, ⟨s.env.bs.trans sm, s.env.bh, fun a ha => ?_, s.env.bo, sb, s.env.rh, fun i a ha => ?_, s.env.rB, s.env.rr, by simp [s.env.len], fun i d h => ?_, fun i es h => ?_, fun i k es fs q hik h1 h2 h3 h4 => ?_, fun i o h => ?_, fun a0 q o a h h2 => ?_⟩, ⟨s.gr.h, s.gr.al, s.gr.f.trans sm, sb, fun a h1 h2 => ?_⟩, fun i es q h h2 => ?_, s.fo⟩
  · show (if a = p then _ else F a) = none
    by_cases hp : a = p
    · subst hp; exact absurd e6 ha
    · rw [if_neg hp]; exact s.env.bF a ha
  · show (if a = p then _ else F a) = none
    by_cases hp : a = p
    · subst hp; exact absurd (e5 i) ha
    · rw [if_neg hp]; exact s.env.rF i a ha
  · rcases oth i _ h with ⟨rfl, hx⟩ | ⟨hi, hx⟩
    · cases hx
      refine ⟨.ref p, e1, .inl (.lst ?_ (dpa_mono sm ds e3))⟩
      show (if p = p then _ else F p) = some (.lst vs)
      rw [if_pos rfl]
    · obtain ⟨v, h1, h2⟩ := s.env.val i d hx
      exact ⟨v, h1, h2.mono sm⟩
  · rcases oth i _ h with ⟨_, hx⟩ | ⟨hi, hx⟩
    · cases hx
    · obtain ⟨p', ws, h1, h2, h3, h4, h5⟩ := s.env.own i es hx
      refine ⟨p', ws, h1, h2, dpa_mono sm es h3, ?_, h5⟩
      show (if p' = p then _ else F p') = none
      by_cases hp : p' = p
      · subst hp
        exact (s.env.dis i j es ds p' hi hx hj h1 e1).elim
      · rw [if_neg hp]; exact h4
  · rcases oth i _ h1 with ⟨_, hx⟩ | ⟨_, hx⟩
    · cases hx
    · rcases oth k _ h2 with ⟨_, hy⟩ | ⟨_, hy⟩
      · cases hy
      · exact s.env.dis i k es fs q hik hx hy h3 h4
  · rcases oth i _ h with ⟨_, hx⟩ | ⟨_, hx⟩
    · cases hx
    · obtain ⟨a, h1, h2⟩ := s.env.obj i o hx
      exact ⟨a, h1, h2.mono sm (Same.refl (R i))⟩
  · rcases oth 0 _ h with ⟨_, hx⟩ | ⟨_, hx⟩
    · cases hx
    · exact s.env.oa a0 q o a hx h2
  · show (if a = p then _ else F a) = none
    by_cases hp : a = p
    · subst hp; exact absurd hz h2
    · rw [if_neg hp]; exact s.gr.no a h1 h2
  · rcases oth i _ h with ⟨_, hx⟩ | ⟨_, hx⟩
    · cases hx
    · exact s.fr i es q hx h2
def sFrzI (j : Nat) (f : SS) : SS := fun ρ => match ρ[j]? with
  | some (.own ds) => f (ρ.set j (.val (.list ds)))
  | _ => .no
theorem s_frzI {X : Cx} {K : PySem.W.Frag} {B : Bs} {W : XW} {st : Stmt} {t : TS} {f : SS} (j : Nat) (h : SemS X K B W st t f) : SemS X K B W st t (sFrzI j f) := ⟨h.ps, fun Z R F H σ ρ D s hg => by
  unfold sFrzI at hg
  split at hg
  · rename_i ds e
    obtain ⟨F', e1, s'⟩ := s.frzI j e
    exact h.ok Z R F' H σ _ D s' (Goes.mono hg e1)
  · exact hg.elim⟩
@[simp] theorem sFrzI_eq (j : Nat) (f : SS) (ρ : Rho) : sFrzI j f ρ = outL (ownL ρ[j]?) fun ds => f (ρ.set j (.val (.list ds))) := by
  unfold sFrzI
  cases ρ[j]? with
  | none => rfl
  | some x => cases x <;> rfl
@[simp] theorem sRetL_own {i : Nat} {ρ : Rho} {ds : List PyData} (h : ρ[i]? = some (.own ds)) : sRetL i ρ = .ro i ρ := by unfold sRetL; rw [h]
@[simp] theorem onlyF_list (es : List PyData) (h : flatDs es = true) : onlyF (some (.list es)) = some (.list es) := by
  show (if flatL (.list es) = true then _ else _) = _
  rw [if_pos (by exact h)]
@[simp] theorem onlyFs_some (es : List PyData) (h : flatDs es = true) : onlyFs (some es) = some es := by
  show (if flatDs es = true then _ else _) = _
  rw [if_pos h]
theorem lAdd_eq (f1 f2 : SE) (ρ : Rho) : lAdd f1 f2 ρ = ((f1 ρ).bind fun x => (f2 ρ).bind fun y => gAdd x y).bind lisD := by
  unfold lAdd eOp
  cases (f1 ρ).bind fun x => (f2 ρ).bind fun y => gAdd x y with
  | none => rfl
  | some d => cases d <;> rfl
theorem eMethL_eq {S : Type} {kd : Kd S} (bk : Addr → Option ObjSt) (i : Nat) (Fr : S → List PyData → Option (List PyData)) (sa : SA) (ρ : Rho) : eMethL kd bk i Fr sa ρ = (rcv kd bk ρ i).bind fun β => (sa ρ).bind fun ds => Fr β ds := rfl
theorem runL_eq {N : List Str} {n : Nat} {b : SS} {ds es : List PyData} {i : Nat} {ρ : Rho} (h : ds.length = n) (e : b (rho0 N ds) = .ro i ρ) (h0 : ρ[i]? = some (.own es)) : runL N n b ds = some es := by
  unfold runL
  simp only [h, if_true, e, h0]
  rfl
end RT
namespace RK
open PySem PySem.Spec PyProof.Rows L2 RT
def topS (i : Nat) : Stmt := PySem.Challenge.pw_rota_k09_faults_told.main.body.getD i (.Pass ⟨0, 0, 0, 0⟩)
abbrev s_is_whole : Stmt := topS 4
abbrev s_is_stretch : Stmt := topS 5
abbrev s_meets : Stmt := topS 6
abbrev s_day_of : Stmt := topS 7
abbrev s_in_one_day : Stmt := topS 8
abbrev s_is_known : Stmt := topS 10
abbrev s_fault_of : Stmt := topS 11
abbrev s_faults : Stmt := topS 12
abbrev s_is_name : Stmt := topS 23
abbrev s_cell : Stmt := topS 29
abbrev s_sign : Stmt := topS 30
abbrev s_tail : Stmt := topS 31
abbrev s_name_by : Stmt := topS 32
abbrev s_int : Stmt := topS 33
abbrev s_called : Stmt := topS 34
abbrev s_person : Stmt := topS 35
abbrev s_shift : Stmt := topS 36
abbrev s_tight : Stmt := topS 37
abbrev s_parts : Stmt := topS 38
abbrev s_rested : Stmt := topS 39
abbrev s_refused_deed : Stmt := topS 40
abbrev s_book_of : Stmt := topS 41
abbrev s_may : Stmt := topS 42
abbrev s_taken : Stmt := topS 43
abbrev s_first : Stmt := topS 44
abbrev s_gone_along : Stmt := topS 45
abbrev s_row_by : Stmt := topS 46
abbrev s_word_of : Stmt := topS 47
abbrev s_due_of : Stmt := topS 48
abbrev s_kinds : Stmt := topS 49
abbrev s_law : Stmt := topS 50
abbrev m_book_init : Stmt := inClass (topS 27) 0
abbrev m_book_add_person : Stmt := inClass (topS 27) 1
abbrev m_book_add_rest : Stmt := inClass (topS 27) 2
abbrev m_book_add_shift : Stmt := inClass (topS 27) 3
abbrev m_book_people : Stmt := inClass (topS 27) 4
abbrev m_book_shifts : Stmt := inClass (topS 27) 5
abbrev m_book_posts : Stmt := inClass (topS 27) 6
abbrev m_book_rests_of : Stmt := inClass (topS 27) 8
abbrev m_book_limit_of : Stmt := inClass (topS 27) 9
abbrev m_book_stretch_of : Stmt := inClass (topS 27) 10
abbrev m_book_count_of : Stmt := inClass (topS 27) 11
abbrev m_book_may : Stmt := inClass (topS 27) 12
/-- what the top has written -/
structure Txt (K : PySem.W.Frag) (mg : Str → Option Value) : Prop where
  f_is_whole : ∃ fd, FunD K "is_whole" "is_whole" (defArgs s_is_whole) (defBody s_is_whole) (defScope s_is_whole) [] [] (He.ga K "is_whole") fd
  g_is_whole : mg "is_whole" = some (.ref (He.ga K "is_whole"))
  f_is_stretch : ∃ fd, FunD K "is_stretch" "is_stretch" (defArgs s_is_stretch) (defBody s_is_stretch) (defScope s_is_stretch) [] [] (He.ga K "is_stretch") fd
  g_is_stretch : mg "is_stretch" = some (.ref (He.ga K "is_stretch"))
  f_meets : ∃ fd, FunD K "meets" "meets" (defArgs s_meets) (defBody s_meets) (defScope s_meets) [] [] (He.ga K "meets") fd
  g_meets : mg "meets" = some (.ref (He.ga K "meets"))
  f_day_of : ∃ fd, FunD K "day_of" "day_of" (defArgs s_day_of) (defBody s_day_of) (defScope s_day_of) [] [] (He.ga K "day_of") fd
  g_day_of : mg "day_of" = some (.ref (He.ga K "day_of"))
  f_in_one_day : ∃ fd, FunD K "in_one_day" "in_one_day" (defArgs s_in_one_day) (defBody s_in_one_day) (defScope s_in_one_day) [] [] (He.ga K "in_one_day") fd
  g_in_one_day : mg "in_one_day" = some (.ref (He.ga K "in_one_day"))
  f_is_known : ∃ fd, FunD K "is_known" "is_known" (defArgs s_is_known) (defBody s_is_known) (defScope s_is_known) [] [] (He.ga K "is_known") fd
  g_is_known : mg "is_known" = some (.ref (He.ga K "is_known"))
  f_fault_of : ∃ fd, FunD K "fault_of" "fault_of" (defArgs s_fault_of) (defBody s_fault_of) (defScope s_fault_of) [] [] (He.ga K "fault_of") fd
  g_fault_of : mg "fault_of" = some (.ref (He.ga K "fault_of"))
  f_faults : ∃ fd, FunD K "faults" "faults" (defArgs s_faults) (defBody s_faults) (defScope s_faults) [] [] (He.ga K "faults") fd
  g_faults : mg "faults" = some (.ref (He.ga K "faults"))
  f_is_name : ∃ fd, FunD K "is_name" "is_name" (defArgs s_is_name) (defBody s_is_name) (defScope s_is_name) [] [] (He.ga K "is_name") fd
  g_is_name : mg "is_name" = some (.ref (He.ga K "is_name"))
  f_cell : ∃ fd, FunD K "_law_cell" "_law_cell" (defArgs s_cell) (defBody s_cell) (defScope s_cell) [] [] (He.ga K "_law_cell") fd
  g_cell : mg "_law_cell" = some (.ref (He.ga K "_law_cell"))
  f_sign : ∃ fd, FunD K "_law_sign" "_law_sign" (defArgs s_sign) (defBody s_sign) (defScope s_sign) [] [] (He.ga K "_law_sign") fd
  g_sign : mg "_law_sign" = some (.ref (He.ga K "_law_sign"))
  f_tail : ∃ fd, FunD K "_law_tail" "_law_tail" (defArgs s_tail) (defBody s_tail) (defScope s_tail) [] [] (He.ga K "_law_tail") fd
  g_tail : mg "_law_tail" = some (.ref (He.ga K "_law_tail"))
  f_name_by : ∃ fd, FunD K "_law_name_by" "_law_name_by" (defArgs s_name_by) (defBody s_name_by) (defScope s_name_by) [] [] (He.ga K "_law_name_by") fd
  g_name_by : mg "_law_name_by" = some (.ref (He.ga K "_law_name_by"))
  f_int : ∃ fd, FunD K "_law_int" "_law_int" (defArgs s_int) (defBody s_int) (defScope s_int) [] [] (He.ga K "_law_int") fd
  g_int : mg "_law_int" = some (.ref (He.ga K "_law_int"))
  f_called : ∃ fd, FunD K "_law_called" "_law_called" (defArgs s_called) (defBody s_called) (defScope s_called) [] [] (He.ga K "_law_called") fd
  g_called : mg "_law_called" = some (.ref (He.ga K "_law_called"))
  f_person : ∃ fd, FunD K "_law_person" "_law_person" (defArgs s_person) (defBody s_person) (defScope s_person) [] [] (He.ga K "_law_person") fd
  g_person : mg "_law_person" = some (.ref (He.ga K "_law_person"))
  f_shift : ∃ fd, FunD K "_law_shift" "_law_shift" (defArgs s_shift) (defBody s_shift) (defScope s_shift) [] [] (He.ga K "_law_shift") fd
  g_shift : mg "_law_shift" = some (.ref (He.ga K "_law_shift"))
  f_tight : ∃ fd, FunD K "_law_tight" "_law_tight" (defArgs s_tight) (defBody s_tight) (defScope s_tight) [] [] (He.ga K "_law_tight") fd
  g_tight : mg "_law_tight" = some (.ref (He.ga K "_law_tight"))
  f_parts : ∃ fd, FunD K "_law_parts" "_law_parts" (defArgs s_parts) (defBody s_parts) (defScope s_parts) [] [] (He.ga K "_law_parts") fd
  g_parts : mg "_law_parts" = some (.ref (He.ga K "_law_parts"))
  f_rested : ∃ fd, FunD K "_law_rested" "_law_rested" (defArgs s_rested) (defBody s_rested) (defScope s_rested) [] [] (He.ga K "_law_rested") fd
  g_rested : mg "_law_rested" = some (.ref (He.ga K "_law_rested"))
  f_refused_deed : ∃ fd, FunD K "_law_refused_deed" "_law_refused_deed" (defArgs s_refused_deed) (defBody s_refused_deed) (defScope s_refused_deed) [] [] (He.ga K "_law_refused_deed") fd
  g_refused_deed : mg "_law_refused_deed" = some (.ref (He.ga K "_law_refused_deed"))
  f_book_of : ∃ fd, FunD K "_law_book_of" "_law_book_of" (defArgs s_book_of) (defBody s_book_of) (defScope s_book_of) [] [] (He.ga K "_law_book_of") fd
  g_book_of : mg "_law_book_of" = some (.ref (He.ga K "_law_book_of"))
  f_may : ∃ fd, FunD K "_law_may" "_law_may" (defArgs s_may) (defBody s_may) (defScope s_may) [] [] (He.ga K "_law_may") fd
  g_may : mg "_law_may" = some (.ref (He.ga K "_law_may"))
  f_taken : ∃ fd, FunD K "_law_taken" "_law_taken" (defArgs s_taken) (defBody s_taken) (defScope s_taken) [] [] (He.ga K "_law_taken") fd
  g_taken : mg "_law_taken" = some (.ref (He.ga K "_law_taken"))
  f_first : ∃ fd, FunD K "_law_first" "_law_first" (defArgs s_first) (defBody s_first) (defScope s_first) [] [] (He.ga K "_law_first") fd
  g_first : mg "_law_first" = some (.ref (He.ga K "_law_first"))
  f_gone_along : ∃ fd, FunD K "_law_gone_along" "_law_gone_along" (defArgs s_gone_along) (defBody s_gone_along) (defScope s_gone_along) [] [] (He.ga K "_law_gone_along") fd
  g_gone_along : mg "_law_gone_along" = some (.ref (He.ga K "_law_gone_along"))
  f_row_by : ∃ fd, FunD K "_law_row_by" "_law_row_by" (defArgs s_row_by) (defBody s_row_by) (defScope s_row_by) [] [] (He.ga K "_law_row_by") fd
  g_row_by : mg "_law_row_by" = some (.ref (He.ga K "_law_row_by"))
  f_word_of : ∃ fd, FunD K "_law_word_of" "_law_word_of" (defArgs s_word_of) (defBody s_word_of) (defScope s_word_of) [] [] (He.ga K "_law_word_of") fd
  g_word_of : mg "_law_word_of" = some (.ref (He.ga K "_law_word_of"))
  f_due_of : ∃ fd, FunD K "_law_due_of" "_law_due_of" (defArgs s_due_of) (defBody s_due_of) (defScope s_due_of) [] [] (He.ga K "_law_due_of") fd
  g_due_of : mg "_law_due_of" = some (.ref (He.ga K "_law_due_of"))
  f_kinds : ∃ fd, FunD K "_law_kinds" "_law_kinds" (defArgs s_kinds) (defBody s_kinds) (defScope s_kinds) [] [] (He.ga K "_law_kinds") fd
  g_kinds : mg "_law_kinds" = some (.ref (He.ga K "_law_kinds"))
  f_law : ∃ fd, FunD K "law" "law" (defArgs s_law) (defBody s_law) (defScope s_law) [] [] (He.ga K "law") fd
  g_law : mg "law" = some (.ref (He.ga K "law"))
  z_bool : mg "bool" = none
  z_enumerate : mg "enumerate" = none
  z_int : mg "int" = none
  z_isinstance : mg "isinstance" = none
  z_len : mg "len" = none
  z_list : mg "list" = none
  z_max : mg "max" = none
  z_min : mg "min" = none
  z_range : mg "range" = none
  z_sum : mg "sum" = none
  z_tuple : mg "tuple" = none
  c_DAY : ∃ tk, mg "DAY" = some (.int 24 tk)
  c_LAST : ∃ tk, mg "LAST" = some (.int 1000000 tk)
  c_MOST : ∃ tk, mg "MOST" = some (.int 20 tk)
  c_MOST_COUNT : ∃ tk, mg "MOST_COUNT" = some (.int 9 tk)
  c_MOST_DAYS : ∃ tk, mg "MOST_DAYS" = some (.int 31 tk)
  c_SIGNS : ∃ tk, mg "SIGNS" = some (.str "!\"#$&'()*+,-./0123456789:;<=>?@ABCDEFGHIJKLMNOPQRSTUVWXYZ[\\]^_`abcdefghijklmnopqrstuvwxyz{|}~" tk)
  cl_book : Cls K (He.ga K "Book")
  mk_book : Mk K (He.ga K "Book") (He.ma K (He.ga K "Book") "__init__")
  gc_book : mg "Book" = some (.ref (He.ga K "Book"))
  n_book_skills : NoAttr K (He.ga K "Book") "skills"
  n_book_limits : NoAttr K (He.ga K "Book") "limits"
  n_book_rests : NoAttr K (He.ga K "Book") "rests"
  n_book_stretches : NoAttr K (He.ga K "Book") "stretches"
  n_book_needs : NoAttr K (He.ga K "Book") "needs"
  f_book_init : ∃ fd, FunD K "__init__" "Book.__init__" (defArgs m_book_init) (defBody m_book_init) (defScope m_book_init) [] [] (He.ma K (He.ga K "Book") "__init__") fd
  f_book_add_person : ∃ fd, FunD K "add_person" "Book.add_person" (defArgs m_book_add_person) (defBody m_book_add_person) (defScope m_book_add_person) [] [] (He.ma K (He.ga K "Book") "add_person") fd
  me_book_add_person : Meth K (He.ga K "Book") "add_person" (He.ma K (He.ga K "Book") "add_person")
  f_book_add_rest : ∃ fd, FunD K "add_rest" "Book.add_rest" (defArgs m_book_add_rest) (defBody m_book_add_rest) (defScope m_book_add_rest) [] [] (He.ma K (He.ga K "Book") "add_rest") fd
  me_book_add_rest : Meth K (He.ga K "Book") "add_rest" (He.ma K (He.ga K "Book") "add_rest")
  f_book_add_shift : ∃ fd, FunD K "add_shift" "Book.add_shift" (defArgs m_book_add_shift) (defBody m_book_add_shift) (defScope m_book_add_shift) [] [] (He.ma K (He.ga K "Book") "add_shift") fd
  me_book_add_shift : Meth K (He.ga K "Book") "add_shift" (He.ma K (He.ga K "Book") "add_shift")
  f_book_people : ∃ fd, FunD K "people" "Book.people" (defArgs m_book_people) (defBody m_book_people) (defScope m_book_people) [] [] (He.ma K (He.ga K "Book") "people") fd
  me_book_people : Meth K (He.ga K "Book") "people" (He.ma K (He.ga K "Book") "people")
  f_book_shifts : ∃ fd, FunD K "shifts" "Book.shifts" (defArgs m_book_shifts) (defBody m_book_shifts) (defScope m_book_shifts) [] [] (He.ma K (He.ga K "Book") "shifts") fd
  me_book_shifts : Meth K (He.ga K "Book") "shifts" (He.ma K (He.ga K "Book") "shifts")
  f_book_posts : ∃ fd, FunD K "posts" "Book.posts" (defArgs m_book_posts) (defBody m_book_posts) (defScope m_book_posts) [] [] (He.ma K (He.ga K "Book") "posts") fd
  me_book_posts : Meth K (He.ga K "Book") "posts" (He.ma K (He.ga K "Book") "posts")
  f_book_rests_of : ∃ fd, FunD K "rests_of" "Book.rests_of" (defArgs m_book_rests_of) (defBody m_book_rests_of) (defScope m_book_rests_of) [] [] (He.ma K (He.ga K "Book") "rests_of") fd
  me_book_rests_of : Meth K (He.ga K "Book") "rests_of" (He.ma K (He.ga K "Book") "rests_of")
  f_book_limit_of : ∃ fd, FunD K "limit_of" "Book.limit_of" (defArgs m_book_limit_of) (defBody m_book_limit_of) (defScope m_book_limit_of) [] [] (He.ma K (He.ga K "Book") "limit_of") fd
  me_book_limit_of : Meth K (He.ga K "Book") "limit_of" (He.ma K (He.ga K "Book") "limit_of")
  f_book_stretch_of : ∃ fd, FunD K "stretch_of" "Book.stretch_of" (defArgs m_book_stretch_of) (defBody m_book_stretch_of) (defScope m_book_stretch_of) [] [] (He.ma K (He.ga K "Book") "stretch_of") fd
  me_book_stretch_of : Meth K (He.ga K "Book") "stretch_of" (He.ma K (He.ga K "Book") "stretch_of")
  f_book_count_of : ∃ fd, FunD K "count_of" "Book.count_of" (defArgs m_book_count_of) (defBody m_book_count_of) (defScope m_book_count_of) [] [] (He.ma K (He.ga K "Book") "count_of") fd
  me_book_count_of : Meth K (He.ga K "Book") "count_of" (He.ma K (He.ga K "Book") "count_of")
  f_book_may : ∃ fd, FunD K "may" "Book.may" (defArgs m_book_may) (defBody m_book_may) (defScope m_book_may) [] [] (He.ma K (He.ga K "Book") "may") fd
  me_book_may : Meth K (He.ga K "Book") "may" (He.ma K (He.ga K "Book") "may")
  e_BadCount : ExT K mg "BadCount"
  e_BadName : ExT K mg "BadName"
  e_BadStretch : ExT K mg "BadStretch"
  e_Missing : ExT K mg "Missing"
  e_Twice : ExT K mg "Twice"
  gh_RotaError : mg "RotaError" = some (.ref (He.ga K "RotaError"))
  x_BadName_RotaError : PySem.W.exmOne K (.ref (He.ga K "BadName")) (.ref (He.ga K "RotaError")) = some true
  x_BadStretch_RotaError : PySem.W.exmOne K (.ref (He.ga K "BadStretch")) (.ref (He.ga K "RotaError")) = some true
  x_BadCount_RotaError : PySem.W.exmOne K (.ref (He.ga K "BadCount")) (.ref (He.ga K "RotaError")) = some true
  x_Twice_RotaError : PySem.W.exmOne K (.ref (He.ga K "Twice")) (.ref (He.ga K "RotaError")) = some true
  x_Missing_RotaError : PySem.W.exmOne K (.ref (He.ga K "Missing")) (.ref (He.ga K "RotaError")) = some true
theorem Txt.bk {K : PySem.W.Frag} {mg : Str → Option Value} (T : Txt K mg) : BkT K mg := ⟨T.cl_book, T.n_book_skills, T.n_book_limits, T.n_book_rests, T.n_book_stretches, T.n_book_needs⟩
section
variable {P : Program} {w : World} {K : PySem.W.Frag} {mg : Str → Option Value} {base : Heap}
abbrev N_is_whole : List Str := ["thing"]
theorem sc_is_whole : FnScope N_is_whole ["thing"] (defScope s_is_whole) := ⟨rfl, rfl, rfl, by decide +kernel, rfl, by decide +kernel, by decide +kernel⟩
def b_is_whole : SS := (sRet (eAndF (eIsi .int (eVarB 0)) (eNotF (eIsi .bool (eVarB 0)))))
def F_is_whole : List PyData → Option PyData := runF N_is_whole 1 b_is_whole
theorem ok_is_whole (T : Txt K mg) : PF P w K mg base 1 "is_whole" F_is_whole := by
  obtain ⟨fd, F⟩ := T.f_is_whole
  refine pf_mk (k := 0) F sc_is_whole T.g_is_whole (fun _ _ _ _ _ _ us hl => match us, hl with | [_], _ => rfl) fun cdv A outer s H E hr => ?_
  have hu := hr.units
  have hv := hv_of hr
  exact ⟨_, ((ss_one (s_ret (se_and (se_isi .int T.z_isinstance T.z_int (sb_var 0)) (se_one (se_not (se_isi .bool T.z_isinstance T.z_bool (sb_var 0))))))))⟩

abbrev N_is_stretch : List Str := ["pair"]
theorem sc_is_stretch : FnScope N_is_stretch ["pair"] (defScope s_is_stretch) := ⟨rfl, rfl, rfl, by decide +kernel, rfl, by decide +kernel, by decide +kernel⟩
def b_is_stretch : SS := (sSeq (sIf (tOrF (bF (eOp gNe (eCall gLen (eCons (eVarB 0) eNil)) (eC (.int 2)))) (tOrF (tNotF (bF (eCall F_is_whole (eCons (eOp gIx (eVarB 0) (eC (.int 0))) eNil)))) (tNotF (bF (eCall F_is_whole (eCons (eOp gIx (eVarB 0) (eC (.int 1))) eNil)))))) (sRet (eC (.bool false))) sNext)
  (sRet (eChain3F gLe gLt gLe (eC (.int 0)) (eOp gIx (eVarB 0) (eC (.int 0))) (eOp gIx (eVarB 0) (eC (.int 1))) (eC (.int 1000000)))))
def F_is_stretch : List PyData → Option PyData := runF N_is_stretch 1 b_is_stretch
theorem ok_is_stretch (T : Txt K mg) : PF P w K mg base 2 "is_stretch" F_is_stretch := by
  obtain ⟨fd, F⟩ := T.f_is_stretch
  refine pf_mk (k := 1) F sc_is_stretch T.g_is_stretch (fun _ _ _ _ _ _ us hl => match us, hl with | [_], _ => rfl) fun cdv A outer s H E hr => ?_
  have hu := hr.units
  have hv := hv_of hr
  exact ⟨_, ((ss_cons (s_if (x_wt (sw_or (st_cmp ne2_s (op_ne2 hu) (x_eb (se_cb len_s call_len T.z_len (x_abc (sb_var 0) sab_nil))) (x_eb se_int) (nomark _)) (sw_or (st_not (st_val (se_call (ok_is_whole T) hr (x_ac (se_ix (sb_var 0) (x_eb se_int)) sa_nil)))) (sw_or1 (st_not (st_val (se_call (ok_is_whole T) hr (x_ac (se_ix (sb_var 0) (x_eb se_int)) sa_nil)))))))) (ss_one (s_ret se_bool)) ss_nil)
    (ss_one (s_ret (se_chain3 le_s op_le lt_s op_lt le_s op_le (x_eb se_int) (x_eb (se_ix (sb_var 0) (x_eb se_int))) (x_eb (se_ix (sb_var 0) (x_eb se_int))) (x_eb (se_globI T.c_LAST)))))))⟩

abbrev N_meets : List Str := ["one", "other"]
theorem sc_meets : FnScope N_meets ["one", "other"] (defScope s_meets) := ⟨rfl, rfl, rfl, by decide +kernel, rfl, by decide +kernel, by decide +kernel⟩
def b_meets : SS := (sRet (eAndF (eOp gLt (eOp gIx (eVarB 0) (eC (.int 0))) (eOp gIx (eVarB 1) (eC (.int 1)))) (eOp gLt (eOp gIx (eVarB 1) (eC (.int 0))) (eOp gIx (eVarB 0) (eC (.int 1))))))
def F_meets : List PyData → Option PyData := runF N_meets 2 b_meets
theorem ok_meets (T : Txt K mg) : PF P w K mg base 1 "meets" F_meets := by
  obtain ⟨fd, F⟩ := T.f_meets
  refine pf_mk (k := 0) F sc_meets T.g_meets (fun _ _ _ _ _ _ us hl => match us, hl with | [_, _], _ => rfl) fun cdv A outer s H E hr => ?_
  have hu := hr.units
  have hv := hv_of hr
  exact ⟨_, ((ss_one (s_ret (se_and (se_cmp lt_s op_lt (x_eb (se_ix (sb_var 0) (x_eb se_int))) (x_eb (se_ix (sb_var 1) (x_eb se_int))) (nomark _)) (se_one (se_cmp lt_s op_lt (x_eb (se_ix (sb_var 1) (x_eb se_int))) (x_eb (se_ix (sb_var 0) (x_eb se_int))) (nomark _)))))))⟩

abbrev N_day_of : List Str := ["stretch"]
theorem sc_day_of : FnScope N_day_of ["stretch"] (defScope s_day_of) := ⟨rfl, rfl, rfl, by decide +kernel, rfl, by decide +kernel, by decide +kernel⟩
def b_day_of : SS := (sRet (eOp gFdiv (eOp gIx (eVarB 0) (eC (.int 0))) (eC (.int 24))))
def F_day_of : List PyData → Option PyData := runF N_day_of 1 b_day_of
theorem ok_day_of (T : Txt K mg) : PF P w K mg base 1 "day_of" F_day_of := by
  obtain ⟨fd, F⟩ := T.f_day_of
  refine pf_mk (k := 0) F sc_day_of T.g_day_of (fun _ _ _ _ _ _ us hl => match us, hl with | [_], _ => rfl) fun cdv A outer s H E hr => ?_
  have hu := hr.units
  have hv := hv_of hr
  exact ⟨_, ((ss_one (s_ret (se_fdiv (x_eb (se_ix (sb_var 0) (x_eb se_int))) (x_eb (se_globI T.c_DAY))))))⟩

abbrev N_in_one_day : List Str := ["stretch"]
theorem sc_in_one_day : FnScope N_in_one_day ["stretch"] (defScope s_in_one_day) := ⟨rfl, rfl, rfl, by decide +kernel, rfl, by decide +kernel, by decide +kernel⟩
def b_in_one_day : SS := (sRet (eOp gEq (eOp gFdiv (eOp gMinus (eOp gIx (eVarB 0) (eC (.int 1))) (eC (.int 1))) (eC (.int 24))) (eOp gFdiv (eOp gIx (eVarB 0) (eC (.int 0))) (eC (.int 24)))))
def F_in_one_day : List PyData → Option PyData := runF N_in_one_day 1 b_in_one_day
theorem ok_in_one_day (T : Txt K mg) : PF P w K mg base 1 "in_one_day" F_in_one_day := by
  obtain ⟨fd, F⟩ := T.f_in_one_day
  refine pf_mk (k := 0) F sc_in_one_day T.g_in_one_day (fun _ _ _ _ _ _ us hl => match us, hl with | [_], _ => rfl) fun cdv A outer s H E hr => ?_
  have hu := hr.units
  have hv := hv_of hr
  exact ⟨_, ((ss_one (s_ret (se_cmp eq2_s (op_eq2 hu) (x_eb (se_fdiv (x_eb (se_sub (x_eb (se_ix (sb_var 0) (x_eb se_int))) (x_eb se_int))) (x_eb (se_globI T.c_DAY)))) (x_eb (se_fdiv (x_eb (se_ix (sb_var 0) (x_eb se_int))) (x_eb (se_globI T.c_DAY)))) (nomark _)))))⟩

abbrev N_is_name : List Str := ["text", "sign"]
theorem sc_is_name : FnScope N_is_name ["text"] (defScope s_is_name) := ⟨rfl, rfl, rfl, by decide +kernel, rfl, by decide +kernel, by decide +kernel⟩
def b_is_name : SS := (sSeq (sIf (tNotF (bF (eChainF gLe gLe (eC (.int 1)) (eCall gLen (eCons (eVarB 0) eNil)) (eC (.int 20))))) (sRet (eC (.bool false))) sNext)
  (sSeq (sFor (iS (eVar 0)) (tg1 1) (sIf (bF (eOp gNotIn (eVarB 1) (eC (.str "!\"#$&'()*+,-./0123456789:;<=>?@ABCDEFGHIJKLMNOPQRSTUVWXYZ[\\]^_`abcdefghijklmnopqrstuvwxyz{|}~")))) (sRet (eC (.bool false))) sNext))
  (sRet (eC (.bool true)))))
def F_is_name : List PyData → Option PyData := runF N_is_name 1 b_is_name
theorem ok_is_name (T : Txt K mg) : PF P w K mg base 1 "is_name" F_is_name := by
  obtain ⟨fd, F⟩ := T.f_is_name
  refine pf_mk (k := 0) F sc_is_name T.g_is_name (fun _ _ _ _ _ _ us hl => match us, hl with | [_], _ => rfl) fun cdv A outer s H E hr => ?_
  have hu := hr.units
  have hv := hv_of hr
  exact ⟨_, ((ss_cons (s_if (st_not (st_chain le_s op_le le_s op_le (x_eb se_int) (x_eb (se_cb len_s call_len T.z_len (x_abc (sb_var 0) sab_nil))) (x_eb (se_globI T.c_MOST)))) (ss_one (s_ret se_bool)) ss_nil)
    (ss_cons (s_for PassesOwn.never rfl (si_str (se_var 0)) (pg_name (i := 1) sc_is_name.nd rfl (by first | exact Or.inl rfl | exact Or.inr rfl)) (tg1_ok 1) (ss_one (s_if (st_cmp notIn2_s (op_notIn2 hv) (sb_var 1) (x_eb (se_globS T.c_SIGNS)) (by rfl)) (ss_one (s_ret se_bool)) ss_nil)))
    (ss_one (s_ret se_bool)))))⟩

abbrev N_cell : List Str := ["_law_script", "_law_k"]
theorem sc_cell : FnScope N_cell ["_law_script", "_law_k"] (defScope s_cell) := ⟨rfl, rfl, rfl, by decide +kernel, rfl, by decide +kernel, by decide +kernel⟩
def b_cell : SS := (sRet (eOp gIx (eOp gAdd (eList (lSl (eVarB 0) (oSome (eVarB 1)) (oSome (eOp gAdd (eVarB 1) (eC (.int 1)))))) (eList (eLstD (eCons (eC (.int 0)) eNil)))) (eC (.int 0))))
def F_cell : List PyData → Option PyData := runF N_cell 2 b_cell
theorem ok_cell (T : Txt K mg) : PF P w K mg base 1 "_law_cell" F_cell := by
  obtain ⟨fd, F⟩ := T.f_cell
  refine pf_mk (k := 0) F sc_cell T.g_cell (fun _ _ _ _ _ _ us hl => match us, hl with | [_, _], _ => rfl) fun cdv A outer s H E hr => ?_
  have hu := hr.units
  have hv := hv_of hr
  exact ⟨_, ((ss_one (s_ret (se_ix (x_eb (se_add (x_eb (x_le (sl_sl (sb_var 0) (so_some (sb_var 1)) (so_some (x_eb (se_add (sb_var 1) (x_eb se_int))))))) (x_eb (x_le (sl_lst (x_ac se_int sa_nil)))))) (x_eb se_int)))))⟩

abbrev N_sign : List Str := ["_law_cell_here", "_law_small", "_law_great"]
theorem sc_sign : FnScope N_sign ["_law_cell_here"] (defScope s_sign) := ⟨rfl, rfl, rfl, by decide +kernel, rfl, by decide +kernel, by decide +kernel⟩
def b_sign : SS := (sSeq (sSet 1 (eC (.str "abcdefghijklmnopqrstuvwxyz{|}~")))
  (sSeq (sSet 2 (eC (.str "@ABCDEFGHIJKLMNOPQRSTUVWXYZ[\\]^_`")))
  (sRet (eOp gIx (eOp gAdd (eOp gAdd (eC (.str "!\"#$&'()*+,-./0123456789:;<=>?")) (eVarB 2)) (eVarB 1)) (eOp gMod (eVarB 0) (eC (.int 93)))))))
def F_sign : List PyData → Option PyData := runF N_sign 1 b_sign
theorem ok_sign (T : Txt K mg) : PF P w K mg base 1 "_law_sign" F_sign := by
  obtain ⟨fd, F⟩ := T.f_sign
  refine pf_mk (k := 0) F sc_sign T.g_sign (fun _ _ _ _ _ _ us hl => match us, hl with | [_], _ => rfl) fun cdv A outer s H E hr => ?_
  have hu := hr.units
  have hv := hv_of hr
  exact ⟨_, ((ss_cons (s_set 1 sc_sign.nd se_str)
    (ss_cons (s_set 2 sc_sign.nd se_str)
    (ss_one (s_ret (se_ix (x_eb (se_add (x_eb (se_add (x_eb se_str) (sb_var 2))) (sb_var 1))) (x_eb (se_mod (sb_var 0) (x_eb se_int)))))))))⟩

abbrev N_tail : List Str := ["_law_cell_here", "_law_k"]
theorem sc_tail : FnScope N_tail ["_law_cell_here"] (defScope s_tail) := ⟨rfl, rfl, rfl, by decide +kernel, rfl, by decide +kernel, by decide +kernel⟩
def b_tail : SS := (sRet (eOp gJoin (eC (.str "")) (eList (lLc (iR1 (eCons (eOp gMod (eVarB 0) (eC (.int 20))) eNil)) 1 tYesF (eCall F_sign (eCons (eOp gAdd (eOp gFdiv (eVarB 0) (eC (.int 20))) (eOp gMul (eOp gMul (eC (.int 5)) (eVarB 1)) (eOp gMod (eVarB 0) (eC (.int 7))))) eNil))))))
def F_tail : List PyData → Option PyData := runF N_tail 1 b_tail
theorem ok_tail (T : Txt K mg) : PF P w K mg base 2 "_law_tail" F_tail := by
  obtain ⟨fd, F⟩ := T.f_tail
  refine pf_mk (k := 1) F sc_tail T.g_tail (fun _ _ _ _ _ _ us hl => match us, hl with | [_], _ => rfl) fun cdv A outer s H E hr => ?_
  have hu := hr.units
  have hv := hv_of hr
  exact ⟨_, ((ss_one (s_ret (se_join (x_eb se_str) (x_eb (x_le (sl_lc (j := 1) rfl sc_tail.nd rfl (x_ib (si_range1 T.z_range (x_abc (x_eb (se_mod (sb_var 0) (x_eb se_int))) sab_nil))) (blkOk_by (N := N_tail) (sc := defScope s_tail) (own := [("_law_k", 1)]) (by decide +kernel)) (fun _ _ _ _ _ => sts_nil) (fun _ _ _ _ _ => (se_call (ok_sign T) hr (x_ac (se_add (x_eb (se_fdiv (sb_var 0) (x_eb se_int))) (x_eb (se_mul (x_eb (se_mul (x_eb se_int) (sb_var 1))) (x_eb (se_mod (sb_var 0) (x_eb se_int)))))) sa_nil))) (fun _ _ _ _ _ => pg_name sc_tail.nd rfl (Or.inl rfl)))))))))⟩

abbrev N_name_by : List Str := ["_law_place", "_law_cell_here"]
theorem sc_name_by : FnScope N_name_by ["_law_place", "_law_cell_here"] (defScope s_name_by) := ⟨rfl, rfl, rfl, by decide +kernel, rfl, by decide +kernel, by decide +kernel⟩
def b_name_by : SS := (sRet (eOp gAdd (eCall F_tail (eCons (eVar 1) eNil)) (eCall F_sign (eCons (eVar 0) eNil))))
def F_name_by : List PyData → Option PyData := runF N_name_by 2 b_name_by
theorem ok_name_by (T : Txt K mg) : PF P w K mg base 3 "_law_name_by" F_name_by := by
  obtain ⟨fd, F⟩ := T.f_name_by
  refine pf_mk (k := 2) F sc_name_by T.g_name_by (fun _ _ _ _ _ _ us hl => match us, hl with | [_, _], _ => rfl) fun cdv A outer s H E hr => ?_
  have hu := hr.units
  have hv := hv_of hr
  exact ⟨_, ((ss_one (s_ret (se_add (x_eb (se_call (ok_tail T) hr (x_ac (se_var 1) sa_nil))) (x_eb (se_call (ok_sign T) hr (x_ac (se_var 0) sa_nil)))))))⟩

abbrev N_int : List Str := ["_law_found"]
theorem sc_int : FnScope N_int ["_law_found"] (defScope s_int) := ⟨rfl, rfl, rfl, by decide +kernel, rfl, by decide +kernel, by decide +kernel⟩
def b_int : SS := (sRet (eAndF (eOp gIsNot (eVarB 0) (eC (.bool true))) (eAndF (eOp gIsNot (eVarB 0) (eC (.bool false))) (eIsi .int (eVarB 0)))))
def F_int : List PyData → Option PyData := runF N_int 1 b_int
theorem ok_int (T : Txt K mg) : PF P w K mg base 1 "_law_int" F_int := by
  obtain ⟨fd, F⟩ := T.f_int
  refine pf_mk (k := 0) F sc_int T.g_int (fun _ _ _ _ _ _ us hl => match us, hl with | [_], _ => rfl) fun cdv A outer s H E hr => ?_
  have hu := hr.units
  have hv := hv_of hr
  exact ⟨_, ((ss_one (s_ret (se_and (se_cmp isNot_s op_isNotP (sb_var 0) (x_eb se_bool) (nomark _)) (se_and (se_cmp isNot_s op_isNotP (sb_var 0) (x_eb se_bool) (nomark _)) (se_one (se_isi .int T.z_isinstance T.z_int (sb_var 0))))))))⟩

abbrev N_called : List Str := ["_law_script", "_law_sort", "_law_k", "_law_one", "_law_cell_here", "_law_base", "_law_j", "_law_tail_here", "_law_at", "_law_sign_here"]
theorem sc_called : FnScope N_called ["_law_script", "_law_sort", "_law_k"] (defScope s_called) := ⟨rfl, rfl, rfl, by decide +kernel, rfl, by decide +kernel, by decide +kernel⟩
def b_called : SS := (sSeq (sSet 3 (eCall F_cell (eCons (eVar 0) (eCons (eC (.int 1)) eNil))))
  (sSeq (sSet 4 (eOp gIx (eList (eLstD (eCons (eCall F_cell (eCons (eVar 0) (eCons (eOp gAdd (eC (.int 2)) (eOp gMod (eVarB 2) (eC (.int 16)))) eNil))) (eCons (eVar 3) eNil)))) (eOp gMod (eOp gFdiv (eVarB 3) (eC (.int 64))) (eC (.int 2)))))
  (sSeq (sSet 5 (eOp gJoin (eC (.str "")) (eList (lLc (iR1 (eCons (eC (.int 20)) eNil)) 6 tYesF (eCall F_sign (eCons (eOp gAdd (eC (.int 54)) (eOp gMod (eOp gAdd (eVarB 3) (eOp gMul (eC (.int 3)) (eVarB 6))) (eC (.int 34)))) eNil))))))
  (sSeq (sIf (tAndF (bF (eOp gEq (eOp gMod (eOp gFdiv (eVarB 3) (eC (.int 64))) (eC (.int 4))) (eC (.int 3)))) (bF (eOp gLt (eVarB 2) (eC (.int 20))))) (sRet (eOp gIx (eList (eLstD (eCons (eSlS (eVarB 5) oNone (oSome (eOp gAdd (eVarB 2) (eC (.int 1))))) (eCons (eSlS (eVarB 5) (oSome (eOp gMinus (eC (.int 19)) (eVarB 2))) oNone) eNil)))) (eOp gMod (eOp gFdiv (eVarB 3) (eC (.int 256))) (eC (.int 2))))) sNext)
  (sSeq (sIf (bF (eOp gEq (eOp gMod (eOp gFdiv (eVarB 3) (eC (.int 64))) (eC (.int 4))) (eC (.int 3)))) (sRet (eOp gAdd (eOp gAdd (eSlS (eVarB 5) oNone (oSome (eC (.int 18)))) (eCall F_sign (eCons (eOp gMinus (eVarB 2) (eC (.int 20))) eNil))) (eCall F_sign (eCons (eVar 2) eNil)))) sNext)
  (sSeq (sSet 7 (eCall F_tail (eCons (eOp gIx (eList (eLstD (eCons (eVar 4) (eCons (eOp gAdd (eOp gFdiv (eVarB 4) (eC (.int 3))) (eVarB 1)) eNil)))) (eCall gInt (eCons (eAndF (eOp gGt (eVarB 1) (eC (.int 0))) (eOp gNe (eOp gMod (eVarB 3) (eC (.int 8))) (eC (.int 1)))) eNil))) eNil)))
  (sSeq (sSet 8 (eOp gIx (eList (eLstD (eCons (eC (.int 0)) (eCons (eCall gLen (eCons (eVarB 7) eNil)) eNil)))) (eOp gMod (eOp gFdiv (eVarB 3) (eC (.int 256))) (eC (.int 2)))))
  (sSeq (sIf (bF (eOp gEq (eOp gMod (eOp gFdiv (eVarB 3) (eC (.int 64))) (eC (.int 2))) (eC (.int 1)))) (sSet 8 (eOp gMod (eOp gFdiv (eVarB 3) (eC (.int 256))) (eOp gAdd (eCall gLen (eCons (eVarB 7) eNil)) (eC (.int 1))))) sNext)
  (sSeq (sSet 9 (eCall F_sign (eCons (eOp gAdd (eOp gAdd (eOp gFdiv (eVarB 2) (eC (.int 2))) (eOp gMul (eC (.int 32)) (eOp gMod (eVarB 2) (eC (.int 2))))) (eOp gIx (eList (eLstD (eCons (eC (.int 0)) (eCons (eC (.int 31)) (eCons (eC (.int 40)) (eCons (eOp gMod (eOp gFdiv (eVarB 3) (eC (.int 4096))) (eC (.int 43))) eNil)))))) (eOp gMod (eOp gFdiv (eVarB 3) (eC (.int 1024))) (eC (.int 4))))) eNil)))
  (sRet (eOp gAdd (eOp gAdd (eSlS (eVarB 7) oNone (oSome (eVarB 8))) (eVarB 9)) (eSlS (eVarB 7) (oSome (eVarB 8)) oNone))))))))))))
def F_called : List PyData → Option PyData := runF N_called 3 b_called
theorem ok_called (T : Txt K mg) : PF P w K mg base 3 "_law_called" F_called := by
  obtain ⟨fd, F⟩ := T.f_called
  refine pf_mk (k := 2) F sc_called T.g_called (fun _ _ _ _ _ _ us hl => match us, hl with | [_, _, _], _ => rfl) fun cdv A outer s H E hr => ?_
  have hu := hr.units
  have hv := hv_of hr
  exact ⟨_, ((ss_cons (s_set 3 sc_called.nd (se_call (ok_cell T) hr (x_ac (se_var 0) (x_ac se_int sa_nil))))
    (ss_cons (s_set 4 sc_called.nd (se_ix (x_eb (x_le (sl_lst (x_ac (se_call (ok_cell T) hr (x_ac (se_var 0) (x_ac (se_add (x_eb se_int) (x_eb (se_mod (sb_var 2) (x_eb se_int)))) sa_nil))) (x_ac (se_var 3) sa_nil))))) (x_eb (se_mod (x_eb (se_fdiv (sb_var 3) (x_eb se_int))) (x_eb se_int)))))
    (ss_cons (s_set 5 sc_called.nd (se_join (x_eb se_str) (x_eb (x_le (sl_lc (j := 6) rfl sc_called.nd rfl (x_ib (si_range1 T.z_range (x_abc (x_eb se_int) sab_nil))) (blkOk_by (N := N_called) (sc := defScope s_called) (own := [("_law_j", 6)]) (by decide +kernel)) (fun _ _ _ _ _ => sts_nil) (fun _ _ _ _ _ => (se_call (ok_sign T) hr (x_ac (se_add (x_eb se_int) (x_eb (se_mod (x_eb (se_add (sb_var 3) (x_eb (se_mul (x_eb se_int) (sb_var 6))))) (x_eb se_int)))) sa_nil))) (fun _ _ _ _ _ => pg_name sc_called.nd rfl (Or.inl rfl)))))))
    (ss_cons (s_if (x_wt (sw_and (st_cmp eq2_s (op_eq2 hu) (x_eb (se_mod (x_eb (se_fdiv (sb_var 3) (x_eb se_int))) (x_eb se_int))) (x_eb se_int) (nomark _)) (sw_and1 (st_cmp lt_s op_lt (sb_var 2) (x_eb se_int) (nomark _))))) (ss_one (s_ret (se_ix (x_eb (x_le (sl_lst (x_ac (se_slS (sb_var 5) so_none (so_some (x_eb (se_add (sb_var 2) (x_eb se_int))))) (x_ac (se_slS (sb_var 5) (so_some (x_eb (se_sub (x_eb se_int) (sb_var 2)))) so_none) sa_nil))))) (x_eb (se_mod (x_eb (se_fdiv (sb_var 3) (x_eb se_int))) (x_eb se_int)))))) ss_nil)
    (ss_cons (s_if (st_cmp eq2_s (op_eq2 hu) (x_eb (se_mod (x_eb (se_fdiv (sb_var 3) (x_eb se_int))) (x_eb se_int))) (x_eb se_int) (nomark _)) (ss_one (s_ret (se_add (x_eb (se_add (x_eb (se_slS (sb_var 5) so_none (so_some (x_eb se_int)))) (x_eb (se_call (ok_sign T) hr (x_ac (se_sub (sb_var 2) (x_eb se_int)) sa_nil))))) (x_eb (se_call (ok_sign T) hr (x_ac (se_var 2) sa_nil)))))) ss_nil)
    (ss_cons (s_set 7 sc_called.nd (se_call (ok_tail T) hr (x_ac (se_ix (x_eb (x_le (sl_lst (x_ac (se_var 4) (x_ac (se_add (x_eb (se_fdiv (sb_var 4) (x_eb se_int))) (sb_var 1)) sa_nil))))) (x_eb (se_ct int_s call_int1 T.z_int (x_abc (x_eb (se_and (se_cmp gt_s op_gt (sb_var 1) (x_eb se_int) (nomark _)) (se_one (se_cmp ne2_s (op_ne2 hu) (x_eb (se_mod (sb_var 3) (x_eb se_int))) (x_eb se_int) (nomark _))))) sab_nil)))) sa_nil)))
    (ss_cons (s_set 8 sc_called.nd (se_ix (x_eb (x_le (sl_lst (x_ac se_int (x_ac (se_cb len_s call_len T.z_len (x_abc (sb_var 7) sab_nil)) sa_nil))))) (x_eb (se_mod (x_eb (se_fdiv (sb_var 3) (x_eb se_int))) (x_eb se_int)))))
    (ss_cons (s_if (st_cmp eq2_s (op_eq2 hu) (x_eb (se_mod (x_eb (se_fdiv (sb_var 3) (x_eb se_int))) (x_eb se_int))) (x_eb se_int) (nomark _)) (ss_one (s_set 8 sc_called.nd (se_mod (x_eb (se_fdiv (sb_var 3) (x_eb se_int))) (x_eb (se_add (x_eb (se_cb len_s call_len T.z_len (x_abc (sb_var 7) sab_nil))) (x_eb se_int)))))) ss_nil)
    (ss_cons (s_set 9 sc_called.nd (se_call (ok_sign T) hr (x_ac (se_add (x_eb (se_add (x_eb (se_fdiv (sb_var 2) (x_eb se_int))) (x_eb (se_mul (x_eb se_int) (x_eb (se_mod (sb_var 2) (x_eb se_int))))))) (x_eb (se_ix (x_eb (x_le (sl_lst (x_ac se_int (x_ac se_int (x_ac se_int (x_ac (se_mod (x_eb (se_fdiv (sb_var 3) (x_eb se_int))) (x_eb se_int)) sa_nil))))))) (x_eb (se_mod (x_eb (se_fdiv (sb_var 3) (x_eb se_int))) (x_eb se_int)))))) sa_nil)))
    (ss_one (s_ret (se_add (x_eb (se_add (x_eb (se_slS (sb_var 7) so_none (so_some (sb_var 8)))) (sb_var 9))) (x_eb (se_slS (sb_var 7) (so_some (sb_var 8)) so_none)))))))))))))))⟩

abbrev N_person : List Str := ["_law_name", "_law_cell_here", "_law_skills", "_law_gap", "_law_some", "_law_j", "_law_own", "_law_skill", "_law_rests", "_law_k", "_law_begin"]
theorem sc_person : FnScope N_person ["_law_name", "_law_cell_here", "_law_skills", "_law_gap"] (defScope s_person) := ⟨rfl, rfl, rfl, by decide +kernel, rfl, by decide +kernel, by decide +kernel⟩
def b_person : SS := (sSeq (sSet 4 (eList (lLc (iR1 (eCons (eOp gIx (eList (eLstD (eCons (eC (.int 0)) (eCons (eC (.int 0)) (eCons (eC (.int 0)) (eCons (eC (.int 9)) eNil)))))) (eOp gMod (eOp gFdiv (eVarB 1) (eC (.int 32))) (eC (.int 4)))) eNil)) 5 tYesF (eCall F_name_by (eCons (eOp gAdd (eC (.int 40)) (eVarB 5)) (eCons (eVar 1) eNil))))))
  (sSeq (sSet 6 (eList (lLc (iL (eVarB 4)) 7 (bF (eOp gNotIn (eVarB 7) (eVarB 2))) (eVar 7))))
  (sSeq (sSet 6 (eOp gAdd (eVarB 6) (eList (lLc (iR1 (eCons (eC (.int 6)) eNil)) 5 (bF (eOp gEq (eOp gMod (eOp gFdiv (eVarB 1) (eOp gIx (eList (eLstD (eCons (eC (.int 1)) (eCons (eC (.int 2)) (eCons (eC (.int 4)) (eCons (eC (.int 8)) (eCons (eC (.int 3)) (eCons (eC (.int 5)) eNil)))))))) (eVarB 5))) (eC (.int 2))) (eC (.int 1)))) (eOp gIx (eVarB 2) (eVarB 5))))))
  (sSeq (sSetL 8 (eLstD eNil))
  (sSeq (sFor (iR1 (eCons (eOp gIx (eList (eLstD (eCons (eC (.int 0)) (eCons (eC (.int 1)) (eCons (eC (.int 3)) (eCons (eC (.int 2)) eNil)))))) (eOp gMod (eOp gFdiv (eVarB 1) (eC (.int 64))) (eC (.int 4)))) eNil)) (tg1 9) (sSeq (sSet 10 (eOp gAdd (eOp gMul (eOp gMul (eC (.int 24)) (eVarB 3)) (eOp gMod (eOp gAdd (eOp gFdiv (eVarB 1) (eC (.int 256))) (eVarB 9)) (eC (.int 3)))) (eOp gMod (eOp gFdiv (eVarB 1) (eC (.int 768))) (eC (.int 24)))))
  (sApp 8 (eTupD (eCons (eVar 10) (eCons (eOp gAdd (eOp gAdd (eVarB 10) (eC (.int 1))) (eOp gMod (eOp gAdd (eOp gFdiv (eVarB 1) (eC (.int 18432))) (eOp gMul (eC (.int 7)) (eVarB 9))) (eC (.int 30)))) eNil))))))
  (sRet (eTupD (eCons (eVar 0) (eCons (eVar 6) (eCons (eOp gIx (eList (eLstD (eCons (eC (.int 1)) (eCons (eC (.int 2)) (eCons (eC (.int 3)) (eCons (eOp gAdd (eC (.int 1)) (eOp gMod (eOp gFdiv (eVarB 1) (eC (.int 256))) (eC (.int 31)))) eNil)))))) (eOp gMod (eOp gFdiv (eVarB 1) (eC (.int 16))) (eC (.int 4)))) (eCons (eVar 8) eNil)))))))))))
def F_person : List PyData → Option PyData := runF N_person 4 b_person
theorem ok_person (T : Txt K mg) : PF P w K mg base 4 "_law_person" F_person := by
  obtain ⟨fd, F⟩ := T.f_person
  refine pf_mk (k := 3) F sc_person T.g_person (fun _ _ _ _ _ _ us hl => match us, hl with | [_, _, _, _], _ => rfl) fun cdv A outer s H E hr => ?_
  have hu := hr.units
  have hv := hv_of hr
  exact ⟨_, ((ss_cons (s_setLcE 4 (by exact (sl_lc (j := 5) rfl sc_person.nd rfl (x_ib (si_range1 T.z_range (x_abc (x_eb (se_ix (x_eb (x_le (sl_lst (x_ac se_int (x_ac se_int (x_ac se_int (x_ac se_int sa_nil))))))) (x_eb (se_mod (x_eb (se_fdiv (sb_var 1) (x_eb se_int))) (x_eb se_int))))) sab_nil))) (blkOk_by (N := N_person) (sc := defScope s_person) (own := [("_law_j", 5)]) (by decide +kernel)) (fun _ _ _ _ _ => sts_nil) (fun _ _ _ _ _ => (se_call (ok_name_by T) hr (x_ac (se_add (x_eb se_int) (sb_var 5)) (x_ac (se_var 1) sa_nil)))) (fun _ _ _ _ _ => pg_name sc_person.nd rfl (Or.inl rfl)))) (by exact (ps_setLc (i := 4) (own := [("_law_j", 5)]) (g := gName 5) rfl sc_person.nd rfl rfl (sw_true rfl rfl rfl (by decide +kernel)) (x_pi (K := K) (x_ib (si_range1 T.z_range (x_abc (x_eb (se_ix (x_eb (x_le (sl_lst (x_ac se_int (x_ac se_int (x_ac se_int (x_ac se_int sa_nil))))))) (x_eb (se_mod (x_eb (se_fdiv (sb_var 1) (x_eb se_int))) (x_eb se_int))))) sab_nil)))) (blkOk_by (N := N_person) (sc := defScope s_person) (own := [("_law_j", 5)]) (by decide +kernel)) (fun _ _ _ _ _ => pg_name sc_person.nd rfl (Or.inl rfl)) (fun _ _ _ _ _ => pts_nil) (fun _ _ _ _ _ => (x_pe (K := K) (se_call (ok_name_by T) hr (x_ac (se_add (x_eb se_int) (sb_var 5)) (x_ac (se_var 1) sa_nil))))))))
    (ss_cons (s_setLcE 6 (by exact (sl_lc (j := 7) rfl sc_person.nd rfl (si_listB (sb_var 4)) (blkOk_by (N := N_person) (sc := defScope s_person) (own := [("_law_skill", 7)]) (by decide +kernel)) (fun _ _ _ _ _ => (sts_one (st_cmp notIn2_s (op_notIn2 hv) (sb_var 7) (sb_var 2) (by rfl)))) (fun _ _ _ _ _ => (se_var 7)) (fun _ _ _ _ _ => pg_name sc_person.nd rfl (Or.inl rfl)))) (by exact (ps_setLc (i := 6) (own := [("_law_skill", 7)]) (g := gName 7) rfl sc_person.nd rfl rfl (sw_true rfl rfl rfl (by decide +kernel)) (x_pi (K := K) (si_listB (sb_var 4))) (blkOk_by (N := N_person) (sc := defScope s_person) (own := [("_law_skill", 7)]) (by decide +kernel)) (fun _ _ _ _ _ => pg_name sc_person.nd rfl (Or.inl rfl)) (fun _ _ _ _ _ => (pts_one (x_pt (K := K) (st_cmp notIn2_s (op_notIn2 hv) (sb_var 7) (sb_var 2) (by rfl))))) (fun _ _ _ _ _ => (x_pe (K := K) (se_var 7))))))
    (ss_cons (s_set 6 sc_person.nd (se_add (sb_var 6) (x_eb (x_le (sl_lc (j := 5) rfl sc_person.nd rfl (x_ib (si_range1 T.z_range (x_abc (x_eb se_int) sab_nil))) (blkOk_by (N := N_person) (sc := defScope s_person) (own := [("_law_j", 5)]) (by decide +kernel)) (fun _ _ _ _ _ => (sts_one (st_cmp eq2_s (op_eq2 hu) (x_eb (se_mod (x_eb (se_fdiv (sb_var 1) (x_eb (se_ix (x_eb (x_le (sl_lst (x_ac se_int (x_ac se_int (x_ac se_int (x_ac se_int (x_ac se_int (x_ac se_int sa_nil))))))))) (sb_var 5))))) (x_eb se_int))) (x_eb se_int) (nomark _)))) (fun _ _ _ _ _ => (se_ix (sb_var 2) (sb_var 5))) (fun _ _ _ _ _ => pg_name sc_person.nd rfl (Or.inl rfl)))))))
    (ss_cons (s_setL 8 sc_person.nd (sl_lst sa_nil))
    (ss_cons (s_for PassesOwn.never rfl (si_range1 T.z_range (x_abc (x_eb (se_ix (x_eb (x_le (sl_lst (x_ac se_int (x_ac se_int (x_ac se_int (x_ac se_int sa_nil))))))) (x_eb (se_mod (x_eb (se_fdiv (sb_var 1) (x_eb se_int))) (x_eb se_int))))) sab_nil)) (pg_name (i := 9) sc_person.nd rfl (by first | exact Or.inl rfl | exact Or.inr rfl)) (tg1_ok 9) (ss_cons (s_set 10 sc_person.nd (se_add (x_eb (se_mul (x_eb (se_mul (x_eb se_int) (sb_var 3))) (x_eb (se_mod (x_eb (se_add (x_eb (se_fdiv (sb_var 1) (x_eb se_int))) (sb_var 9))) (x_eb se_int))))) (x_eb (se_mod (x_eb (se_fdiv (sb_var 1) (x_eb se_int))) (x_eb se_int)))))
    (ss_one (s_app 8 (se_tup (x_ac (se_var 10) (x_ac (se_add (x_eb (se_add (sb_var 10) (x_eb se_int))) (x_eb (se_mod (x_eb (se_add (x_eb (se_fdiv (sb_var 1) (x_eb se_int))) (x_eb (se_mul (x_eb se_int) (sb_var 9))))) (x_eb se_int)))) sa_nil))) (by exact (ps_expr (pe_bm PySem.F.plainAttrs_list PySem.F.slot_list_append PySem.F.type_list_append mt_append (pv 8) (pa_cons (x_pe (K := K) (se_tup (x_ac (se_var 10) (x_ac (se_add (x_eb (se_add (sb_var 10) (x_eb se_int))) (x_eb (se_mod (x_eb (se_add (x_eb (se_fdiv (sb_var 1) (x_eb se_int))) (x_eb (se_mul (x_eb se_int) (sb_var 9))))) (x_eb se_int)))) sa_nil)))) pa_nil))))))))
    (ss_one (s_ret (se_tup (x_ac (se_var 0) (x_ac (se_var 6) (x_ac (se_ix (x_eb (x_le (sl_lst (x_ac se_int (x_ac se_int (x_ac se_int (x_ac (se_add (x_eb se_int) (x_eb (se_mod (x_eb (se_fdiv (sb_var 1) (x_eb se_int))) (x_eb se_int)))) sa_nil))))))) (x_eb (se_mod (x_eb (se_fdiv (sb_var 1) (x_eb se_int))) (x_eb se_int)))) (x_ac (se_var 8) sa_nil)))))))))))))⟩

abbrev N_shift : List Str := ["_law_name", "_law_cell_here", "_law_skills", "_law_gap", "_law_begin", "_law_picked", "_law_most", "_law_needs", "_law_j"]
theorem sc_shift : FnScope N_shift ["_law_name", "_law_cell_here", "_law_skills", "_law_gap"] (defScope s_shift) := ⟨rfl, rfl, rfl, by decide +kernel, rfl, by decide +kernel, by decide +kernel⟩
def b_shift : SS := (sSeq (sSet 4 (eOp gAdd (eOp gMul (eOp gMul (eC (.int 24)) (eVarB 3)) (eOp gMod (eVarB 1) (eC (.int 3)))) (eOp gMul (eC (.int 8)) (eOp gMod (eOp gFdiv (eVarB 1) (eC (.int 3))) (eC (.int 3))))))
  (sSeq (sSet 5 (eOp gIx (eList (eLstD (eCons (eList (eLstD (eCons (eC (.int 0)) eNil))) (eCons (eList (eLstD (eCons (eC (.int 1)) eNil))) (eCons (eList (eLstD (eCons (eC (.int 2)) eNil))) (eCons (eList (eLstD (eCons (eC (.int 0)) (eCons (eC (.int 1)) eNil)))) (eCons (eList (eLstD (eCons (eC (.int 3)) (eCons (eC (.int 2)) eNil)))) (eCons (eList (eLstD (eCons (eC (.int 0)) (eCons (eC (.int 1)) (eCons (eC (.int 2)) eNil))))) (eCons (eList (eLstD (eCons (eC (.int 5)) (eCons (eC (.int 3)) (eCons (eC (.int 1)) (eCons (eC (.int 0)) (eCons (eC (.int 2)) (eCons (eC (.int 4)) eNil)))))))) (eCons (eList (eLstD eNil)) eNil)))))))))) (eOp gMod (eOp gFdiv (eVarB 1) (eC (.int 72))) (eC (.int 8)))))
  (sSeq (sSet 6 (eOp gIx (eList (eLstD (eCons (eC (.int 2)) (eCons (eC (.int 2)) (eCons (eC (.int 3)) (eCons (eC (.int 9)) eNil)))))) (eOp gMod (eOp gFdiv (eVarB 1) (eC (.int 576))) (eC (.int 4)))))
  (sSeq (sSet 7 (eList (lLc (iL (eVarB 5)) 8 tYesF (eTupD (eCons (eOp gIx (eVarB 2) (eVarB 8)) (eCons (eOp gAdd (eC (.int 1)) (eOp gMod (eOp gAdd (eOp gFdiv (eVarB 1) (eC (.int 2304))) (eVarB 8)) (eVarB 6))) eNil))))))
  (sRet (eTupD (eCons (eVar 0) (eCons (eTupD (eCons (eVar 4) (eCons (eOp gAdd (eOp gAdd (eVarB 4) (eC (.int 1))) (eOp gMod (eOp gFdiv (eVarB 1) (eC (.int 9))) (eOp gMinus (eC (.int 24)) (eOp gMod (eVarB 4) (eC (.int 24)))))) eNil))) (eCons (eVar 7) eNil)))))))))
def F_shift : List PyData → Option PyData := runF N_shift 4 b_shift
theorem ok_shift (T : Txt K mg) : PF P w K mg base 1 "_law_shift" F_shift := by
  obtain ⟨fd, F⟩ := T.f_shift
  refine pf_mk (k := 0) F sc_shift T.g_shift (fun _ _ _ _ _ _ us hl => match us, hl with | [_, _, _, _], _ => rfl) fun cdv A outer s H E hr => ?_
  have hu := hr.units
  have hv := hv_of hr
  exact ⟨_, ((ss_cons (s_set 4 sc_shift.nd (se_add (x_eb (se_mul (x_eb (se_mul (x_eb se_int) (sb_var 3))) (x_eb (se_mod (sb_var 1) (x_eb se_int))))) (x_eb (se_mul (x_eb se_int) (x_eb (se_mod (x_eb (se_fdiv (sb_var 1) (x_eb se_int))) (x_eb se_int)))))))
    (ss_cons (s_set 5 sc_shift.nd (se_ix (x_eb (x_le (sl_lst (x_ac (x_le (sl_lst (x_ac se_int sa_nil))) (x_ac (x_le (sl_lst (x_ac se_int sa_nil))) (x_ac (x_le (sl_lst (x_ac se_int sa_nil))) (x_ac (x_le (sl_lst (x_ac se_int (x_ac se_int sa_nil)))) (x_ac (x_le (sl_lst (x_ac se_int (x_ac se_int sa_nil)))) (x_ac (x_le (sl_lst (x_ac se_int (x_ac se_int (x_ac se_int sa_nil))))) (x_ac (x_le (sl_lst (x_ac se_int (x_ac se_int (x_ac se_int (x_ac se_int (x_ac se_int (x_ac se_int sa_nil)))))))) (x_ac (x_le (sl_lst sa_nil)) sa_nil))))))))))) (x_eb (se_mod (x_eb (se_fdiv (sb_var 1) (x_eb se_int))) (x_eb se_int)))))
    (ss_cons (s_set 6 sc_shift.nd (se_ix (x_eb (x_le (sl_lst (x_ac se_int (x_ac se_int (x_ac se_int (x_ac se_int sa_nil))))))) (x_eb (se_mod (x_eb (se_fdiv (sb_var 1) (x_eb se_int))) (x_eb se_int)))))
    (ss_cons (s_setLcE 7 (by exact (sl_lc (j := 8) rfl sc_shift.nd rfl (si_listB (sb_var 5)) (blkOk_by (N := N_shift) (sc := defScope s_shift) (own := [("_law_j", 8)]) (by decide +kernel)) (fun _ _ _ _ _ => sts_nil) (fun _ _ _ _ _ => (se_tup (x_ac (se_ix (sb_var 2) (sb_var 8)) (x_ac (se_add (x_eb se_int) (x_eb (se_mod (x_eb (se_add (x_eb (se_fdiv (sb_var 1) (x_eb se_int))) (sb_var 8))) (sb_var 6)))) sa_nil)))) (fun _ _ _ _ _ => pg_name sc_shift.nd rfl (Or.inl rfl)))) (by exact (ps_setLc (i := 7) (own := [("_law_j", 8)]) (g := gName 8) rfl sc_shift.nd rfl rfl (sw_true rfl rfl rfl (by decide +kernel)) (x_pi (K := K) (si_listB (sb_var 5))) (blkOk_by (N := N_shift) (sc := defScope s_shift) (own := [("_law_j", 8)]) (by decide +kernel)) (fun _ _ _ _ _ => pg_name sc_shift.nd rfl (Or.inl rfl)) (fun _ _ _ _ _ => pts_nil) (fun _ _ _ _ _ => (x_pe (K := K) (se_tup (x_ac (se_ix (sb_var 2) (sb_var 8)) (x_ac (se_add (x_eb se_int) (x_eb (se_mod (x_eb (se_add (x_eb (se_fdiv (sb_var 1) (x_eb se_int))) (sb_var 8))) (sb_var 6)))) sa_nil))))))))
    (ss_one (s_ret (se_tup (x_ac (se_var 0) (x_ac (se_tup (x_ac (se_var 4) (x_ac (se_add (x_eb (se_add (sb_var 4) (x_eb se_int))) (x_eb (se_mod (x_eb (se_fdiv (sb_var 1) (x_eb se_int))) (x_eb (se_sub (x_eb se_int) (x_eb (se_mod (sb_var 4) (x_eb se_int)))))))) sa_nil))) (x_ac (se_var 7) sa_nil)))))))))))⟩

abbrev N_tight : List Str := ["_law_script", "_law_skills", "_law_gap", "_law_first_here", "_law_counts", "_law_day", "_law_people", "_law_k", "_law_cell_here", "_law_own", "_law_j", "_law_load", "_law_some", "_law_shifts", "_law_turned", "_law_needs"]
theorem sc_tight : FnScope N_tight ["_law_script", "_law_skills", "_law_gap"] (defScope s_tight) := ⟨rfl, rfl, rfl, by decide +kernel, rfl, by decide +kernel, by decide +kernel⟩
def b_tight : SS := (sSeq (sSet 3 (eCall F_cell (eCons (eVar 0) (eCons (eC (.int 0)) eNil))))
  (sSeq (sMkRows 4 (iR1 (eCons (eOp gAdd (eC (.int 1)) (eOp gMod (eOp gFdiv (eVarB 3) (eC (.int 64))) (eC (.int 3)))) eNil)) 5 (eLstD (eCons (eC (.int 0)) (eCons (eC (.int 0)) (eCons (eC (.int 0)) (eCons (eC (.int 0)) eNil))))))
  (sSeq (sSetL 6 (eLstD eNil))
  (sSeq (sFor (iR1 (eCons (eOp gAdd (eC (.int 2)) (eOp gMod (eOp gFdiv (eVarB 3) (eC (.int 8))) (eC (.int 6)))) eNil)) (tg1 7) (sSeq (sSet 8 (eCall F_cell (eCons (eVar 0) (eCons (eOp gAdd (eC (.int 2)) (eVarB 7)) eNil))))
  (sSeq (sSetL 9 (lLc (iR1 (eCons (eC (.int 4)) eNil)) 10 tYesF (eOp gMod (eOp gFdiv (eVarB 8) (eOp gIx (eList (eLstD (eCons (eC (.int 1)) (eCons (eC (.int 2)) (eCons (eC (.int 4)) (eCons (eC (.int 8)) eNil)))))) (eVarB 10))) (eC (.int 2)))))
  (sSeq (sSet 11 (eC (.int 0)))
  (sSeq (sFor (iR1 (eCons (eRowLen 4) eNil)) (tg1 5) (sIf (bF (eOp gGt (eOp gMod (eOp gFdiv (eVarB 8) (eOp gIx (eList (eLstD (eCons (eC (.int 1024)) (eCons (eC (.int 4096)) (eCons (eC (.int 16384)) eNil))))) (eVarB 5))) (eC (.int 4))) (eC (.int 0)))) (sSeq (sAugRow 4 (eVar 5) (eOp gMod (eOp gFdiv (eVarB 8) (eOp gIx (eList (eLstD (eCons (eC (.int 16)) (eCons (eC (.int 64)) (eCons (eC (.int 256)) eNil))))) (eVarB 5))) (eC (.int 4))) (eC (.int 1)))
  (sSeq (sPut 9 (eOp gMod (eOp gFdiv (eVarB 8) (eOp gIx (eList (eLstD (eCons (eC (.int 16)) (eCons (eC (.int 64)) (eCons (eC (.int 256)) eNil))))) (eVarB 5))) (eC (.int 4))) (eC (.int 1)))
  (sSet 11 (eOp gAdd (eVarB 11) (eC (.int 1)))))) sNext))
  (sSeq (sSet 12 (eList (lLc (iR1 (eCons (eC (.int 4)) eNil)) 10 (bF (eOp gEq (eOp gIx (eVarB 9) (eVarB 10)) (eC (.int 1)))) (eOp gIx (eVarB 1) (eVarB 10)))))
  (sApp 6 (eTupD (eCons (eCall F_called (eCons (eVar 0) (eCons (eC (.int 0)) (eCons (eVar 7) eNil)))) (eCons (eVar 12) (eCons (eCall gMax (eCons (eC (.int 1)) (eCons (eVarB 11) eNil))) (eCons (eList (eLstD eNil)) eNil))))))))))))
  (sSeq (sAugRow 4 (eC (.int 0)) (eOp gMod (eCall F_cell (eCons (eVar 0) (eCons (eC (.int 20)) eNil))) (eC (.int 4))) (eCall gInt (eCons (eOp gEq (eOp gMod (eOp gFdiv (eCall F_cell (eCons (eVar 0) (eCons (eC (.int 20)) eNil))) (eC (.int 4))) (eC (.int 4))) (eC (.int 0))) eNil)))
  (sSeq (sSetL 13 (eLstD eNil))
  (sSeq (sFor (iR1 (eCons (eRowLen 4) eNil)) (tg1 5) (sSeq (sSet 14 (eList (lLc (iR1 (eCons (eC (.int 4)) eNil)) 10 tYesF (eOp gMod (eOp gAdd (eVarB 10) (eOp gFdiv (eCall F_cell (eCons (eVar 0) (eCons (eC (.int 21)) eNil))) (eOp gAdd (eC (.int 1)) (eVarB 5)))) (eC (.int 4))))))
  (sSeq (sSet 15 (eList (lLc (iL (eVarB 14)) 10 (bF (eOp gGt (eOp gIx (eRow 4 (eVarB 5)) (eVarB 10)) (eC (.int 0)))) (eTupD (eCons (eOp gIx (eVarB 1) (eVarB 10)) (eCons (eOp gIx (eRow 4 (eVarB 5)) (eVarB 10)) eNil))))))
  (sApp 13 (eTupD (eCons (eCall F_called (eCons (eVar 0) (eCons (eC (.int 1)) (eCons (eVar 5) eNil)))) (eCons (eTupD (eCons (eOp gAdd (eOp gMul (eOp gMul (eC (.int 24)) (eVarB 2)) (eVarB 5)) (eC (.int 5))) (eCons (eOp gAdd (eOp gMul (eOp gMul (eC (.int 24)) (eVarB 2)) (eVarB 5)) (eC (.int 13))) eNil))) (eCons (eVar 15) eNil))))))))
  (sRet (eTupD (eCons (eVar 6) (eCons (eVar 13) eNil)))))))))))
def F_tight : List PyData → Option PyData := runF N_tight 3 b_tight
theorem ok_tight (T : Txt K mg) : PF P w K mg base 4 "_law_tight" F_tight := by
  obtain ⟨fd, F⟩ := T.f_tight
  refine pf_mk (k := 3) F sc_tight T.g_tight (fun _ _ _ _ _ _ us hl => match us, hl with | [_, _, _], _ => rfl) fun cdv A outer s H E hr => ?_
  have hu := hr.units
  have hv := hv_of hr
  exact ⟨_, ((ss_cons (s_set 3 sc_tight.nd (se_call (ok_cell T) hr (x_ac (se_var 0) (x_ac se_int sa_nil))))
    (ss_cons (s_mkRows 4 (by intro z; cases z) (x_ib (si_range1 T.z_range (x_abc (x_eb (se_add (x_eb se_int) (x_eb (se_mod (x_eb (se_fdiv (sb_var 3) (x_eb se_int))) (x_eb se_int))))) sab_nil))) (sl_lst (x_ac se_int (x_ac se_int (x_ac se_int (x_ac se_int sa_nil))))) (by exact (ps_set (i := 4) sc_tight.nd rfl (by first | exact Or.inl rfl | exact Or.inr rfl) (pe_lc (own := [("_law_day", 5)]) (g := gName 5) rfl sc_tight.nd (x_pi (K := K) (x_ib (si_range1 T.z_range (x_abc (x_eb (se_add (x_eb se_int) (x_eb (se_mod (x_eb (se_fdiv (sb_var 3) (x_eb se_int))) (x_eb se_int))))) sab_nil)))) (blkOk_by (N := N_tight) (sc := defScope s_tight) (own := [("_law_day", 5)]) (by decide +kernel)) (fun _ _ _ _ _ => pg_name sc_tight.nd rfl (Or.inl rfl)) (fun _ _ _ _ _ => pts_nil) (fun _ _ _ _ _ => x_peL (K := K) (sl_lst (x_ac se_int (x_ac se_int (x_ac se_int (x_ac se_int sa_nil))))))))))
    (ss_cons (s_setL 6 sc_tight.nd (sl_lst sa_nil))
    (ss_cons (s_for PassesOwn.never rfl (si_range1 T.z_range (x_abc (x_eb (se_add (x_eb se_int) (x_eb (se_mod (x_eb (se_fdiv (sb_var 3) (x_eb se_int))) (x_eb se_int))))) sab_nil)) (pg_name (i := 7) sc_tight.nd rfl (by first | exact Or.inl rfl | exact Or.inr rfl)) (tg1_ok 7) (ss_cons (s_set 8 sc_tight.nd (se_call (ok_cell T) hr (x_ac (se_var 0) (x_ac (se_add (x_eb se_int) (sb_var 7)) sa_nil))))
    (ss_cons (s_setL 9 sc_tight.nd (sl_lc (j := 10) rfl sc_tight.nd rfl (x_ib (si_range1 T.z_range (x_abc (x_eb se_int) sab_nil))) (blkOk_by (N := N_tight) (sc := defScope s_tight) (own := [("_law_j", 10)]) (by decide +kernel)) (fun _ _ _ _ _ => sts_nil) (fun _ _ _ _ _ => (se_mod (x_eb (se_fdiv (sb_var 8) (x_eb (se_ix (x_eb (x_le (sl_lst (x_ac se_int (x_ac se_int (x_ac se_int (x_ac se_int sa_nil))))))) (sb_var 10))))) (x_eb se_int))) (fun _ _ _ _ _ => pg_name sc_tight.nd rfl (Or.inl rfl))))
    (ss_cons (s_set 11 sc_tight.nd se_int)
    (ss_cons (s_for PassesOwn.never rfl (si_range1 T.z_range (x_abc (x_eb (se_rowLen 4 T.z_len (pv 4))) sab_nil)) (pg_name (i := 5) sc_tight.nd rfl (by first | exact Or.inl rfl | exact Or.inr rfl)) (tg1_ok 5) (ss_one (s_if (st_cmp gt_s op_gt (x_eb (se_mod (x_eb (se_fdiv (sb_var 8) (x_eb (se_ix (x_eb (x_le (sl_lst (x_ac se_int (x_ac se_int (x_ac se_int sa_nil)))))) (sb_var 5))))) (x_eb se_int))) (x_eb se_int) (nomark _)) (ss_cons (s_augRow 4 (se_var 5) (se_mod (x_eb (se_fdiv (sb_var 8) (x_eb (se_ix (x_eb (x_le (sl_lst (x_ac se_int (x_ac se_int (x_ac se_int sa_nil)))))) (sb_var 5))))) (x_eb se_int)) se_int (by exact (ps_augS (pe_ix ix_seq (pv 4) (x_pe (K := K) (se_var 5)) (by exact fun _ _ => rfl)) (x_pe (K := K) (se_mod (x_eb (se_fdiv (sb_var 8) (x_eb (se_ix (x_eb (x_le (sl_lst (x_ac se_int (x_ac se_int (x_ac se_int sa_nil)))))) (sb_var 5))))) (x_eb se_int))) get_listP (x_pe (K := K) se_int) ip_add set_list)))
    (ss_cons (s_put 9 se_int (se_mod (x_eb (se_fdiv (sb_var 8) (x_eb (se_ix (x_eb (x_le (sl_lst (x_ac se_int (x_ac se_int (x_ac se_int sa_nil)))))) (sb_var 5))))) (x_eb se_int)) (by exact (ps_asg (x_pe (K := K) se_int) (pg_sub (pv 9) (x_pe (K := K) (se_mod (x_eb (se_fdiv (sb_var 8) (x_eb (se_ix (x_eb (x_le (sl_lst (x_ac se_int (x_ac se_int (x_ac se_int sa_nil)))))) (sb_var 5))))) (x_eb se_int))) set_list (fun _ => rfl)))))
    (ss_one (s_set 11 sc_tight.nd (se_add (sb_var 11) (x_eb se_int)))))) ss_nil)))
    (ss_cons (s_setLcE 12 (by exact (sl_lc (j := 10) rfl sc_tight.nd rfl (x_ib (si_range1 T.z_range (x_abc (x_eb se_int) sab_nil))) (blkOk_by (N := N_tight) (sc := defScope s_tight) (own := [("_law_j", 10)]) (by decide +kernel)) (fun _ _ _ _ _ => (sts_one (st_cmp eq2_s (op_eq2 hu) (x_eb (se_ix (sb_var 9) (sb_var 10))) (x_eb se_int) (nomark _)))) (fun _ _ _ _ _ => (se_ix (sb_var 1) (sb_var 10))) (fun _ _ _ _ _ => pg_name sc_tight.nd rfl (Or.inl rfl)))) (by exact (ps_setLc (i := 12) (own := [("_law_j", 10)]) (g := gName 10) rfl sc_tight.nd rfl rfl (sw_true rfl rfl rfl (by decide +kernel)) (x_pi (K := K) (x_ib (si_range1 T.z_range (x_abc (x_eb se_int) sab_nil)))) (blkOk_by (N := N_tight) (sc := defScope s_tight) (own := [("_law_j", 10)]) (by decide +kernel)) (fun _ _ _ _ _ => pg_name sc_tight.nd rfl (Or.inl rfl)) (fun _ _ _ _ _ => (pts_one (x_pt (K := K) (st_cmp eq2_s (op_eq2 hu) (x_eb (se_ix (sb_var 9) (sb_var 10))) (x_eb se_int) (nomark _))))) (fun _ _ _ _ _ => (x_pe (K := K) (se_ix (sb_var 1) (sb_var 10)))))))
    (ss_one (s_app 6 (se_tup (x_ac (se_call (ok_called T) hr (x_ac (se_var 0) (x_ac se_int (x_ac (se_var 7) sa_nil)))) (x_ac (se_var 12) (x_ac (se_cb max_s (call_max2 rfl) T.z_max (x_abc (x_eb se_int) (x_abc (sb_var 11) sab_nil))) (x_ac (x_le (sl_lst sa_nil)) sa_nil))))) (by exact (ps_expr (pe_bm PySem.F.plainAttrs_list PySem.F.slot_list_append PySem.F.type_list_append mt_append (pv 6) (pa_cons (x_pe (K := K) (se_tup (x_ac (se_call (ok_called T) hr (x_ac (se_var 0) (x_ac se_int (x_ac (se_var 7) sa_nil)))) (x_ac (se_var 12) (x_ac (se_cb max_s (call_max2 rfl) T.z_max (x_abc (x_eb se_int) (x_abc (sb_var 11) sab_nil))) (x_ac (x_le (sl_lst sa_nil)) sa_nil)))))) pa_nil))))))))))))
    (ss_cons (s_augRow 4 se_int (se_mod (x_eb (se_call (ok_cell T) hr (x_ac (se_var 0) (x_ac se_int sa_nil)))) (x_eb se_int)) (se_ct int_s call_int1 T.z_int (x_abc (x_eb (se_cmp eq2_s (op_eq2 hu) (x_eb (se_mod (x_eb (se_fdiv (x_eb (se_call (ok_cell T) hr (x_ac (se_var 0) (x_ac se_int sa_nil)))) (x_eb se_int))) (x_eb se_int))) (x_eb se_int) (nomark _))) sab_nil)) (by exact (ps_augS (pe_ix ix_seq (pv 4) (x_pe (K := K) se_int) (by exact fun _ _ => rfl)) (x_pe (K := K) (se_mod (x_eb (se_call (ok_cell T) hr (x_ac (se_var 0) (x_ac se_int sa_nil)))) (x_eb se_int))) get_listP (x_pe (K := K) (se_ct int_s call_int1 T.z_int (x_abc (x_eb (se_cmp eq2_s (op_eq2 hu) (x_eb (se_mod (x_eb (se_fdiv (x_eb (se_call (ok_cell T) hr (x_ac (se_var 0) (x_ac se_int sa_nil)))) (x_eb se_int))) (x_eb se_int))) (x_eb se_int) (nomark _))) sab_nil))) ip_add set_list)))
    (ss_cons (s_setL 13 sc_tight.nd (sl_lst sa_nil))
    (ss_cons (s_for PassesOwn.never rfl (si_range1 T.z_range (x_abc (x_eb (se_rowLen 4 T.z_len (pv 4))) sab_nil)) (pg_name (i := 5) sc_tight.nd rfl (by first | exact Or.inl rfl | exact Or.inr rfl)) (tg1_ok 5) (ss_cons (s_setLcE 14 (by exact (sl_lc (j := 10) rfl sc_tight.nd rfl (x_ib (si_range1 T.z_range (x_abc (x_eb se_int) sab_nil))) (blkOk_by (N := N_tight) (sc := defScope s_tight) (own := [("_law_j", 10)]) (by decide +kernel)) (fun _ _ _ _ _ => sts_nil) (fun _ _ _ _ _ => (se_mod (x_eb (se_add (sb_var 10) (x_eb (se_fdiv (x_eb (se_call (ok_cell T) hr (x_ac (se_var 0) (x_ac se_int sa_nil)))) (x_eb (se_add (x_eb se_int) (sb_var 5))))))) (x_eb se_int))) (fun _ _ _ _ _ => pg_name sc_tight.nd rfl (Or.inl rfl)))) (by exact (ps_setLc (i := 14) (own := [("_law_j", 10)]) (g := gName 10) rfl sc_tight.nd rfl rfl (sw_true rfl rfl rfl (by decide +kernel)) (x_pi (K := K) (x_ib (si_range1 T.z_range (x_abc (x_eb se_int) sab_nil)))) (blkOk_by (N := N_tight) (sc := defScope s_tight) (own := [("_law_j", 10)]) (by decide +kernel)) (fun _ _ _ _ _ => pg_name sc_tight.nd rfl (Or.inl rfl)) (fun _ _ _ _ _ => pts_nil) (fun _ _ _ _ _ => (x_pe (K := K) (se_mod (x_eb (se_add (sb_var 10) (x_eb (se_fdiv (x_eb (se_call (ok_cell T) hr (x_ac (se_var 0) (x_ac se_int sa_nil)))) (x_eb (se_add (x_eb se_int) (sb_var 5))))))) (x_eb se_int)))))))
    (ss_cons (s_setLcE 15 (by exact (sl_lc (j := 10) rfl sc_tight.nd rfl (si_listB (sb_var 14)) (blkOk_by (N := N_tight) (sc := defScope s_tight) (own := [("_law_j", 10)]) (by decide +kernel)) (fun _ _ _ _ _ => (sts_one (st_cmp gt_s op_gt (x_eb (se_ix (sb_row 4 (pv 4) (sb_var 5)) (sb_var 10))) (x_eb se_int) (nomark _)))) (fun _ _ _ _ _ => (se_tup (x_ac (se_ix (sb_var 1) (sb_var 10)) (x_ac (se_ix (sb_row 4 (pv 4) (sb_var 5)) (sb_var 10)) sa_nil)))) (fun _ _ _ _ _ => pg_name sc_tight.nd rfl (Or.inl rfl)))) (by exact (ps_setLc (i := 15) (own := [("_law_j", 10)]) (g := gName 10) rfl sc_tight.nd rfl rfl (sw_true rfl rfl rfl (by decide +kernel)) (x_pi (K := K) (si_listB (sb_var 14))) (blkOk_by (N := N_tight) (sc := defScope s_tight) (own := [("_law_j", 10)]) (by decide +kernel)) (fun _ _ _ _ _ => pg_name sc_tight.nd rfl (Or.inl rfl)) (fun _ _ _ _ _ => (pts_one (x_pt (K := K) (st_cmp gt_s op_gt (x_eb (se_ix (sb_row 4 (pv 4) (sb_var 5)) (sb_var 10))) (x_eb se_int) (nomark _))))) (fun _ _ _ _ _ => (x_pe (K := K) (se_tup (x_ac (se_ix (sb_var 1) (sb_var 10)) (x_ac (se_ix (sb_row 4 (pv 4) (sb_var 5)) (sb_var 10)) sa_nil))))))))
    (ss_one (s_app 13 (se_tup (x_ac (se_call (ok_called T) hr (x_ac (se_var 0) (x_ac se_int (x_ac (se_var 5) sa_nil)))) (x_ac (se_tup (x_ac (se_add (x_eb (se_mul (x_eb (se_mul (x_eb se_int) (sb_var 2))) (sb_var 5))) (x_eb se_int)) (x_ac (se_add (x_eb (se_mul (x_eb (se_mul (x_eb se_int) (sb_var 2))) (sb_var 5))) (x_eb se_int)) sa_nil))) (x_ac (se_var 15) sa_nil)))) (by exact (ps_expr (pe_bm PySem.F.plainAttrs_list PySem.F.slot_list_append PySem.F.type_list_append mt_append (pv 13) (pa_cons (x_pe (K := K) (se_tup (x_ac (se_call (ok_called T) hr (x_ac (se_var 0) (x_ac se_int (x_ac (se_var 5) sa_nil)))) (x_ac (se_tup (x_ac (se_add (x_eb (se_mul (x_eb (se_mul (x_eb se_int) (sb_var 2))) (sb_var 5))) (x_eb se_int)) (x_ac (se_add (x_eb (se_mul (x_eb (se_mul (x_eb se_int) (sb_var 2))) (sb_var 5))) (x_eb se_int)) sa_nil))) (x_ac (se_var 15) sa_nil))))) pa_nil)))))))))
    (ss_one (s_ret (se_tup (x_ac (se_var 6) (x_ac (se_var 13) sa_nil)))))))))))))⟩

abbrev N_parts : List Str := ["_law_script", "_law_first_here", "_law_gap", "_law_skills", "_law_j", "_law_many", "_law_people", "_law_k", "_law_cell_here", "_law_shifts", "_law_begin"]
theorem sc_parts : FnScope N_parts ["_law_script"] (defScope s_parts) := ⟨rfl, rfl, rfl, by decide +kernel, rfl, by decide +kernel, by decide +kernel⟩
def b_parts : SS := (sSeq (sSet 1 (eCall F_cell (eCons (eVar 0) (eCons (eC (.int 0)) eNil))))
  (sSeq (sSet 2 (eOp gIx (eList (eLstD (eCons (eC (.int 1)) (eCons (eC (.int 1)) (eCons (eC (.int 2)) (eCons (eOp gAdd (eC (.int 1)) (eOp gMod (eOp gFdiv (eVarB 1) (eC (.int 4096))) (eC (.int 40)))) eNil)))))) (eOp gMod (eOp gFdiv (eCall F_cell (eCons (eVar 0) (eCons (eC (.int 1)) eNil))) (eC (.int 8))) (eC (.int 4)))))
  (sSeq (sSet 3 (eList (lLc (iR1 (eCons (eC (.int 6)) eNil)) 4 tYesF (eCall F_called (eCons (eVar 0) (eCons (eC (.int 2)) (eCons (eVar 4) eNil)))))))
  (sSeq (sIf (bF (eOp gEq (eOp gMod (eVarB 1) (eC (.int 2))) (eC (.int 1)))) (sRet (eCall F_tight (eCons (eVar 0) (eCons (eVar 3) (eCons (eVar 2) eNil))))) sNext)
  (sSeq (sSet 5 (eOp gAdd (eOp gMod (eOp gFdiv (eVarB 1) (eC (.int 2))) (eC (.int 8))) (eOp gIx (eList (eLstD (eCons (eC (.int 0)) (eCons (eC (.int 0)) (eCons (eC (.int 0)) (eCons (eC (.int 9)) eNil)))))) (eOp gMod (eOp gFdiv (eVarB 1) (eC (.int 16))) (eC (.int 4))))))
  (sSeq (sSetL 6 (eLstD eNil))
  (sSeq (sFor (iR1 (eCons (eOp gAdd (eVarB 5) (eOp gIx (eList (eLstD (eCons (eC (.int 0)) (eCons (eC (.int 20)) eNil)))) (eCall gInt (eCons (eOp gEq (eOp gMod (eOp gFdiv (eVarB 1) (eC (.int 64))) (eC (.int 16))) (eC (.int 3))) eNil)))) eNil)) (tg1 7) (sSeq (sSet 8 (eOp gAdd (eCall F_cell (eCons (eVar 0) (eCons (eOp gAdd (eC (.int 2)) (eOp gMod (eVarB 7) (eC (.int 16)))) eNil))) (eOp gMul (eC (.int 5)) (eOp gFdiv (eVarB 7) (eC (.int 16))))))
  (sApp 6 (eCall F_person (eCons (eCall F_called (eCons (eVar 0) (eCons (eC (.int 0)) (eCons (eVar 7) eNil)))) (eCons (eVar 8) (eCons (eVar 3) (eCons (eVar 2) eNil))))))))
  (sSeq (sSetL 9 (eLstD eNil))
  (sSeq (sFor (iR1 (eCons (eOp gMod (eOp gFdiv (eVarB 1) (eC (.int 1024))) (eC (.int 5))) eNil)) (tg1 7) (sApp 9 (eCall F_shift (eCons (eCall F_called (eCons (eVar 0) (eCons (eC (.int 1)) (eCons (eVar 7) eNil)))) (eCons (eCall F_cell (eCons (eVar 0) (eCons (eOp gAdd (eC (.int 20)) (eVarB 7)) eNil))) (eCons (eVar 3) (eCons (eVar 2) eNil)))))))
  (sSeq (sFor (iR1 (eCons (eOp gIx (eList (eLstD (eCons (eC (.int 0)) (eCons (eC (.int 0)) (eCons (eC (.int 0)) (eCons (eC (.int 0)) (eCons (eC (.int 0)) (eCons (eC (.int 0)) (eCons (eC (.int 3)) (eCons (eC (.int 9)) eNil)))))))))) (eOp gMod (eOp gFdiv (eVarB 1) (eC (.int 64))) (eC (.int 8)))) eNil)) (tg1 7) (sSeq (sSet 10 (eOp gMul (eC (.int 24)) (eOp gAdd (eOp gMul (eC (.int 3)) (eVarB 2)) (eVarB 7))))
  (sApp 9 (eTupD (eCons (eCall F_called (eCons (eVar 0) (eCons (eC (.int 1)) (eCons (eOp gAdd (eC (.int 5)) (eVarB 7)) eNil)))) (eCons (eTupD (eCons (eVar 10) (eCons (eOp gAdd (eVarB 10) (eC (.int 24))) eNil))) (eCons (eList (eLstD (eCons (eTupD (eCons (eOp gIx (eVarB 3) (eOp gMod (eVarB 7) (eC (.int 4)))) (eCons (eC (.int 1)) eNil))) eNil))) eNil)))))))
  (sRet (eTupD (eCons (eVar 6) (eCons (eVar 9) eNil))))))))))))))
def F_parts : List PyData → Option PyData := runF N_parts 1 b_parts
theorem ok_parts (T : Txt K mg) : PF P w K mg base 5 "_law_parts" F_parts := by
  obtain ⟨fd, F⟩ := T.f_parts
  refine pf_mk (k := 4) F sc_parts T.g_parts (fun _ _ _ _ _ _ us hl => match us, hl with | [_], _ => rfl) fun cdv A outer s H E hr => ?_
  have hu := hr.units
  have hv := hv_of hr
  exact ⟨_, ((ss_cons (s_set 1 sc_parts.nd (se_call (ok_cell T) hr (x_ac (se_var 0) (x_ac se_int sa_nil))))
    (ss_cons (s_set 2 sc_parts.nd (se_ix (x_eb (x_le (sl_lst (x_ac se_int (x_ac se_int (x_ac se_int (x_ac (se_add (x_eb se_int) (x_eb (se_mod (x_eb (se_fdiv (sb_var 1) (x_eb se_int))) (x_eb se_int)))) sa_nil))))))) (x_eb (se_mod (x_eb (se_fdiv (x_eb (se_call (ok_cell T) hr (x_ac (se_var 0) (x_ac se_int sa_nil)))) (x_eb se_int))) (x_eb se_int)))))
    (ss_cons (s_setLcE 3 (by exact (sl_lc (j := 4) rfl sc_parts.nd rfl (x_ib (si_range1 T.z_range (x_abc (x_eb se_int) sab_nil))) (blkOk_by (N := N_parts) (sc := defScope s_parts) (own := [("_law_j", 4)]) (by decide +kernel)) (fun _ _ _ _ _ => sts_nil) (fun _ _ _ _ _ => (se_call (ok_called T) hr (x_ac (se_var 0) (x_ac se_int (x_ac (se_var 4) sa_nil))))) (fun _ _ _ _ _ => pg_name sc_parts.nd rfl (Or.inl rfl)))) (by exact (ps_setLc (i := 3) (own := [("_law_j", 4)]) (g := gName 4) rfl sc_parts.nd rfl rfl (sw_true rfl rfl rfl (by decide +kernel)) (x_pi (K := K) (x_ib (si_range1 T.z_range (x_abc (x_eb se_int) sab_nil)))) (blkOk_by (N := N_parts) (sc := defScope s_parts) (own := [("_law_j", 4)]) (by decide +kernel)) (fun _ _ _ _ _ => pg_name sc_parts.nd rfl (Or.inl rfl)) (fun _ _ _ _ _ => pts_nil) (fun _ _ _ _ _ => (x_pe (K := K) (se_call (ok_called T) hr (x_ac (se_var 0) (x_ac se_int (x_ac (se_var 4) sa_nil)))))))))
    (ss_cons (s_if (st_cmp eq2_s (op_eq2 hu) (x_eb (se_mod (sb_var 1) (x_eb se_int))) (x_eb se_int) (nomark _)) (ss_one (s_ret (se_call (ok_tight T) hr (x_ac (se_var 0) (x_ac (se_var 3) (x_ac (se_var 2) sa_nil)))))) ss_nil)
    (ss_cons (s_set 5 sc_parts.nd (se_add (x_eb (se_mod (x_eb (se_fdiv (sb_var 1) (x_eb se_int))) (x_eb se_int))) (x_eb (se_ix (x_eb (x_le (sl_lst (x_ac se_int (x_ac se_int (x_ac se_int (x_ac se_int sa_nil))))))) (x_eb (se_mod (x_eb (se_fdiv (sb_var 1) (x_eb se_int))) (x_eb se_int)))))))
    (ss_cons (s_setL 6 sc_parts.nd (sl_lst sa_nil))
    (ss_cons (s_for PassesOwn.never rfl (si_range1 T.z_range (x_abc (x_eb (se_add (sb_var 5) (x_eb (se_ix (x_eb (x_le (sl_lst (x_ac se_int (x_ac se_int sa_nil))))) (x_eb (se_ct int_s call_int1 T.z_int (x_abc (x_eb (se_cmp eq2_s (op_eq2 hu) (x_eb (se_mod (x_eb (se_fdiv (sb_var 1) (x_eb se_int))) (x_eb se_int))) (x_eb se_int) (nomark _))) sab_nil))))))) sab_nil)) (pg_name (i := 7) sc_parts.nd rfl (by first | exact Or.inl rfl | exact Or.inr rfl)) (tg1_ok 7) (ss_cons (s_set 8 sc_parts.nd (se_add (x_eb (se_call (ok_cell T) hr (x_ac (se_var 0) (x_ac (se_add (x_eb se_int) (x_eb (se_mod (sb_var 7) (x_eb se_int)))) sa_nil)))) (x_eb (se_mul (x_eb se_int) (x_eb (se_fdiv (sb_var 7) (x_eb se_int)))))))
    (ss_one (s_app 6 (se_call (ok_person T) hr (x_ac (se_call (ok_called T) hr (x_ac (se_var 0) (x_ac se_int (x_ac (se_var 7) sa_nil)))) (x_ac (se_var 8) (x_ac (se_var 3) (x_ac (se_var 2) sa_nil))))) (by exact (ps_expr (pe_bm PySem.F.plainAttrs_list PySem.F.slot_list_append PySem.F.type_list_append mt_append (pv 6) (pa_cons (x_pe (K := K) (se_call (ok_person T) hr (x_ac (se_call (ok_called T) hr (x_ac (se_var 0) (x_ac se_int (x_ac (se_var 7) sa_nil)))) (x_ac (se_var 8) (x_ac (se_var 3) (x_ac (se_var 2) sa_nil)))))) pa_nil))))))))
    (ss_cons (s_setL 9 sc_parts.nd (sl_lst sa_nil))
    (ss_cons (s_for PassesOwn.never rfl (si_range1 T.z_range (x_abc (x_eb (se_mod (x_eb (se_fdiv (sb_var 1) (x_eb se_int))) (x_eb se_int))) sab_nil)) (pg_name (i := 7) sc_parts.nd rfl (by first | exact Or.inl rfl | exact Or.inr rfl)) (tg1_ok 7) (ss_one (s_app 9 (se_call (ok_shift T) hr (x_ac (se_call (ok_called T) hr (x_ac (se_var 0) (x_ac se_int (x_ac (se_var 7) sa_nil)))) (x_ac (se_call (ok_cell T) hr (x_ac (se_var 0) (x_ac (se_add (x_eb se_int) (sb_var 7)) sa_nil))) (x_ac (se_var 3) (x_ac (se_var 2) sa_nil))))) (by exact (ps_expr (pe_bm PySem.F.plainAttrs_list PySem.F.slot_list_append PySem.F.type_list_append mt_append (pv 9) (pa_cons (x_pe (K := K) (se_call (ok_shift T) hr (x_ac (se_call (ok_called T) hr (x_ac (se_var 0) (x_ac se_int (x_ac (se_var 7) sa_nil)))) (x_ac (se_call (ok_cell T) hr (x_ac (se_var 0) (x_ac (se_add (x_eb se_int) (sb_var 7)) sa_nil))) (x_ac (se_var 3) (x_ac (se_var 2) sa_nil)))))) pa_nil)))))))
    (ss_cons (s_for PassesOwn.never rfl (si_range1 T.z_range (x_abc (x_eb (se_ix (x_eb (x_le (sl_lst (x_ac se_int (x_ac se_int (x_ac se_int (x_ac se_int (x_ac se_int (x_ac se_int (x_ac se_int (x_ac se_int sa_nil))))))))))) (x_eb (se_mod (x_eb (se_fdiv (sb_var 1) (x_eb se_int))) (x_eb se_int))))) sab_nil)) (pg_name (i := 7) sc_parts.nd rfl (by first | exact Or.inl rfl | exact Or.inr rfl)) (tg1_ok 7) (ss_cons (s_set 10 sc_parts.nd (se_mul (x_eb se_int) (x_eb (se_add (x_eb (se_mul (x_eb se_int) (sb_var 2))) (sb_var 7)))))
    (ss_one (s_app 9 (se_tup (x_ac (se_call (ok_called T) hr (x_ac (se_var 0) (x_ac se_int (x_ac (se_add (x_eb se_int) (sb_var 7)) sa_nil)))) (x_ac (se_tup (x_ac (se_var 10) (x_ac (se_add (sb_var 10) (x_eb se_int)) sa_nil))) (x_ac (x_le (sl_lst (x_ac (se_tup (x_ac (se_ix (sb_var 3) (x_eb (se_mod (sb_var 7) (x_eb se_int)))) (x_ac se_int sa_nil))) sa_nil))) sa_nil)))) (by exact (ps_expr (pe_bm PySem.F.plainAttrs_list PySem.F.slot_list_append PySem.F.type_list_append mt_append (pv 9) (pa_cons (x_pe (K := K) (se_tup (x_ac (se_call (ok_called T) hr (x_ac (se_var 0) (x_ac se_int (x_ac (se_add (x_eb se_int) (sb_var 7)) sa_nil)))) (x_ac (se_tup (x_ac (se_var 10) (x_ac (se_add (sb_var 10) (x_eb se_int)) sa_nil))) (x_ac (x_le (sl_lst (x_ac (se_tup (x_ac (se_ix (sb_var 3) (x_eb (se_mod (sb_var 7) (x_eb se_int)))) (x_ac se_int sa_nil))) sa_nil))) sa_nil))))) pa_nil))))))))
    (ss_one (s_ret (se_tup (x_ac (se_var 6) (x_ac (se_var 9) sa_nil))))))))))))))))⟩

abbrev N_may : List Str := ["_law_person_here", "_law_shift_here", "_law_skill", "_law_rest"]
theorem sc_may : FnScope N_may ["_law_person_here", "_law_shift_here", "_law_skill"] (defScope s_may) := ⟨rfl, rfl, rfl, by decide +kernel, rfl, by decide +kernel, by decide +kernel⟩
def b_may : SS := (sSeq (sFor (iL (eOp gIx (eVarB 0) (eC (.int 3)))) (tg1 3) (sIf (bF (eOp gLt (eCall gMax (eCons (eOp gIx (eVarB 3) (eC (.int 0))) (eCons (eOp gIx (eOp gIx (eVarB 1) (eC (.int 1))) (eC (.int 0))) eNil))) (eCall gMin (eCons (eOp gIx (eVarB 3) (eC (.int 1))) (eCons (eOp gIx (eOp gIx (eVarB 1) (eC (.int 1))) (eC (.int 1))) eNil))))) (sRet (eC (.bool false))) sNext))
  (sRet (eOp gIn (eVarB 2) (eOp gIx (eVarB 0) (eC (.int 1))))))
def F_may : List PyData → Option PyData := runF N_may 3 b_may
theorem ok_may (T : Txt K mg) : PF P w K mg base 1 "_law_may" F_may := by
  obtain ⟨fd, F⟩ := T.f_may
  refine pf_mk (k := 0) F sc_may T.g_may (fun _ _ _ _ _ _ us hl => match us, hl with | [_, _, _], _ => rfl) fun cdv A outer s H E hr => ?_
  have hu := hr.units
  have hv := hv_of hr
  exact ⟨_, ((ss_cons (s_for PassesOwn.never rfl (si_list (se_ix (sb_var 0) (x_eb se_int))) (pg_name (i := 3) sc_may.nd rfl (by first | exact Or.inl rfl | exact Or.inr rfl)) (tg1_ok 3) (ss_one (s_if (st_cmp lt_s op_lt (x_eb (se_cb max_s (call_max2 rfl) T.z_max (x_abc (x_eb (se_ix (sb_var 3) (x_eb se_int))) (x_abc (x_eb (se_ix (x_eb (se_ix (sb_var 1) (x_eb se_int))) (x_eb se_int))) sab_nil)))) (x_eb (se_cb min_s (call_min2 rfl) T.z_min (x_abc (x_eb (se_ix (sb_var 3) (x_eb se_int))) (x_abc (x_eb (se_ix (x_eb (se_ix (sb_var 1) (x_eb se_int))) (x_eb se_int))) sab_nil)))) (nomark _)) (ss_one (s_ret se_bool)) ss_nil)))
    (ss_one (s_ret (se_cmp in2_s (op_in2 hv) (sb_var 2) (x_eb (se_ix (sb_var 0) (x_eb se_int))) (by rfl))))))⟩

abbrev N_taken : List Str := ["_law_rows", "_law_person_here", "_law_shifts", "_law_days", "_law_row", "_law_shift_here"]
theorem sc_taken : FnScope N_taken ["_law_rows", "_law_person_here", "_law_shifts"] (defScope s_taken) := ⟨rfl, rfl, rfl, by decide +kernel, rfl, by decide +kernel, by decide +kernel⟩
def b_taken : SS := (sSeq (sSet 3 (eList (eLstD eNil)))
  (sSeq (sFor (iL (eVar 0)) (tg1 4) (sIf (bF (eOp gEq (eOp gIx (eVarB 4) (eC (.int 2))) (eOp gIx (eVarB 1) (eC (.int 0))))) (sSet 3 (eOp gAdd (eVarB 3) (eList (lLc (iL (eVarB 2)) 5 (bF (eOp gEq (eOp gIx (eVarB 5) (eC (.int 0))) (eOp gIx (eVarB 4) (eC (.int 0))))) (eOp gFdiv (eOp gIx (eOp gIx (eVarB 5) (eC (.int 1))) (eC (.int 0))) (eC (.int 24))))))) sNext))
  (sRet (eVar 3))))
def F_taken : List PyData → Option PyData := runF N_taken 3 b_taken
theorem ok_taken (T : Txt K mg) : PF P w K mg base 1 "_law_taken" F_taken := by
  obtain ⟨fd, F⟩ := T.f_taken
  refine pf_mk (k := 0) F sc_taken T.g_taken (fun _ _ _ _ _ _ us hl => match us, hl with | [_, _, _], _ => rfl) fun cdv A outer s H E hr => ?_
  have hu := hr.units
  have hv := hv_of hr
  exact ⟨_, ((ss_cons (s_set 3 sc_taken.nd (x_le (sl_lst sa_nil)))
    (ss_cons (s_for PassesOwn.never rfl (si_list (se_var 0)) (pg_name (i := 4) sc_taken.nd rfl (by first | exact Or.inl rfl | exact Or.inr rfl)) (tg1_ok 4) (ss_one (s_if (st_cmp eq2_s (op_eq2 hu) (x_eb (se_ix (sb_var 4) (x_eb se_int))) (x_eb (se_ix (sb_var 1) (x_eb se_int))) (nomark _)) (ss_one (s_set 3 sc_taken.nd (se_add (sb_var 3) (x_eb (x_le (sl_lc (j := 5) rfl sc_taken.nd rfl (si_listB (sb_var 2)) (blkOk_by (N := N_taken) (sc := defScope s_taken) (own := [("_law_shift_here", 5)]) (by decide +kernel)) (fun _ _ _ _ _ => (sts_one (st_cmp eq2_s (op_eq2 hu) (x_eb (se_ix (sb_var 5) (x_eb se_int))) (x_eb (se_ix (sb_var 4) (x_eb se_int))) (nomark _)))) (fun _ _ _ _ _ => (se_fdiv (x_eb (se_ix (x_eb (se_ix (sb_var 5) (x_eb se_int))) (x_eb se_int))) (x_eb se_int))) (fun _ _ _ _ _ => pg_name sc_taken.nd rfl (Or.inl rfl)))))))) ss_nil)))
    (ss_one (s_ret (se_var 3))))))⟩

abbrev N_first : List Str := ["_law_rows", "_law_people", "_law_shifts", "_law_shift_here", "_law_skill", "_law_more", "_law_person_here", "_law_days"]
theorem sc_first : FnScope N_first ["_law_rows", "_law_people", "_law_shifts", "_law_shift_here", "_law_skill", "_law_more"] (defScope s_first) := ⟨rfl, rfl, rfl, by decide +kernel, rfl, by decide +kernel, by decide +kernel⟩
def b_first : SS := (sSeq (sFor (iL (eVar 1)) (tg1 6) (sSeq (sSet 7 (eCall F_taken (eCons (eVar 0) (eCons (eVar 6) (eCons (eVar 2) eNil)))))
  (sIf (tAndF (bF (eCall F_may (eCons (eVar 6) (eCons (eVar 3) (eCons (eVar 4) eNil))))) (tAndF (bF (eOp gNotIn (eOp gFdiv (eOp gIx (eOp gIx (eVarB 3) (eC (.int 1))) (eC (.int 0))) (eC (.int 24))) (eVarB 7))) (bF (eOp gLt (eCall gLen (eCons (eVarB 7) eNil)) (eOp gAdd (eOp gIx (eVarB 6) (eC (.int 2))) (eVarB 5)))))) (sRet (eList (eLstD (eCons (eTupD (eCons (eOp gIx (eVarB 3) (eC (.int 0))) (eCons (eVar 4) (eCons (eOp gIx (eVarB 6) (eC (.int 0))) eNil)))) eNil)))) sNext)))
  (sRet (eList (eLstD eNil))))
def F_first : List PyData → Option PyData := runF N_first 6 b_first
theorem ok_first (T : Txt K mg) : PF P w K mg base 2 "_law_first" F_first := by
  obtain ⟨fd, F⟩ := T.f_first
  refine pf_mk (k := 1) F sc_first T.g_first (fun _ _ _ _ _ _ us hl => match us, hl with | [_, _, _, _, _, _], _ => rfl) fun cdv A outer s H E hr => ?_
  have hu := hr.units
  have hv := hv_of hr
  exact ⟨_, ((ss_cons (s_for PassesOwn.never rfl (si_list (se_var 1)) (pg_name (i := 6) sc_first.nd rfl (by first | exact Or.inl rfl | exact Or.inr rfl)) (tg1_ok 6) (ss_cons (s_set 7 sc_first.nd (se_call (ok_taken T) hr (x_ac (se_var 0) (x_ac (se_var 6) (x_ac (se_var 2) sa_nil)))))
    (ss_one (s_if (x_wt (sw_and (st_val (se_call (ok_may T) hr (x_ac (se_var 6) (x_ac (se_var 3) (x_ac (se_var 4) sa_nil))))) (sw_and (st_cmp notIn2_s (op_notIn2 hv) (x_eb (se_fdiv (x_eb (se_ix (x_eb (se_ix (sb_var 3) (x_eb se_int))) (x_eb se_int))) (x_eb se_int))) (sb_var 7) (by rfl)) (sw_and1 (st_cmp lt_s op_lt (x_eb (se_cb len_s call_len T.z_len (x_abc (sb_var 7) sab_nil))) (x_eb (se_add (x_eb (se_ix (sb_var 6) (x_eb se_int))) (sb_var 5))) (nomark _)))))) (ss_one (s_ret (x_le (sl_lst (x_ac (se_tup (x_ac (se_ix (sb_var 3) (x_eb se_int)) (x_ac (se_var 4) (x_ac (se_ix (sb_var 6) (x_eb se_int)) sa_nil)))) sa_nil))))) ss_nil))))
    (ss_one (s_ret (x_le (sl_lst sa_nil))))))⟩

abbrev N_row_by : List Str := ["_law_cell_here", "_law_people", "_law_shifts", "_law_shift_here", "_law_skill", "_law_person_here"]
theorem sc_row_by : FnScope N_row_by ["_law_cell_here", "_law_people", "_law_shifts"] (defScope s_row_by) := ⟨rfl, rfl, rfl, by decide +kernel, rfl, by decide +kernel, by decide +kernel⟩
def b_row_by : SS := (sSeq (sSet 3 (eTupD (eCons (eC (.str "z z")) (eCons (eTupD (eCons (eC (.int 0)) (eCons (eC (.int 1)) eNil))) (eCons (eList (eLstD eNil)) eNil)))))
  (sSeq (sIf (tAndF (bF (eOp gNe (eVarB 2) (eList (eLstD eNil)))) (bF (eOp gNe (eOp gMod (eVarB 0) (eC (.int 11))) (eC (.int 10))))) (sSet 3 (eOp gIx (eVarB 2) (eOp gMod (eOp gFdiv (eVarB 0) (eC (.int 11))) (eCall gLen (eCons (eVarB 2) eNil))))) sNext)
  (sSeq (sSet 4 (eC (.str "z z")))
  (sSeq (sIf (tAndF (bF (eOp gNe (eOp gIx (eVarB 3) (eC (.int 2))) (eList (eLstD eNil)))) (bF (eOp gNe (eOp gMod (eVarB 0) (eC (.int 11))) (eC (.int 9))))) (sSet 4 (eOp gIx (eOp gIx (eOp gIx (eVarB 3) (eC (.int 2))) (eOp gMod (eOp gFdiv (eVarB 0) (eC (.int 143))) (eCall gLen (eCons (eOp gIx (eVarB 3) (eC (.int 2))) eNil)))) (eC (.int 0)))) sNext)
  (sSeq (sIf (tAndF (bF (eOp gNe (eVarB 2) (eList (eLstD eNil)))) (tAndF (bF (eOp gNe (eOp gIx (eOp gIx (eVarB 2) (eC (.int 0))) (eC (.int 2))) (eList (eLstD eNil)))) (bF (eOp gEq (eOp gMod (eVarB 0) (eC (.int 11))) (eC (.int 7)))))) (sSet 4 (eOp gIx (eOp gIx (eOp gIx (eOp gIx (eVarB 2) (eC (.int 0))) (eC (.int 2))) (eC (.int 0))) (eC (.int 0)))) sNext)
  (sSeq (sSet 5 (eC (.str "z z")))
  (sSeq (sIf (tAndF (bF (eOp gNe (eVarB 1) (eList (eLstD eNil)))) (bF (eOp gNe (eOp gMod (eVarB 0) (eC (.int 11))) (eC (.int 8))))) (sSet 5 (eOp gIx (eOp gIx (eVarB 1) (eOp gMod (eOp gFdiv (eVarB 0) (eC (.int 572))) (eCall gLen (eCons (eVarB 1) eNil)))) (eC (.int 0)))) sNext)
  (sRet (eTupD (eCons (eOp gIx (eVarB 3) (eC (.int 0))) (eCons (eVar 4) (eCons (eVar 5) eNil))))))))))))
def F_row_by : List PyData → Option PyData := runF N_row_by 3 b_row_by
theorem ok_row_by (T : Txt K mg) : PF P w K mg base 1 "_law_row_by" F_row_by := by
  obtain ⟨fd, F⟩ := T.f_row_by
  refine pf_mk (k := 0) F sc_row_by T.g_row_by (fun _ _ _ _ _ _ us hl => match us, hl with | [_, _, _], _ => rfl) fun cdv A outer s H E hr => ?_
  have hu := hr.units
  have hv := hv_of hr
  exact ⟨_, ((ss_cons (s_set 3 sc_row_by.nd (se_tup (x_ac se_str (x_ac (se_tup (x_ac se_int (x_ac se_int sa_nil))) (x_ac (x_le (sl_lst sa_nil)) sa_nil)))))
    (ss_cons (s_if (x_wt (sw_and (st_cmp ne2_s (op_ne2 hu) (sb_var 2) (x_eb (x_le (sl_lst sa_nil))) (nomark _)) (sw_and1 (st_cmp ne2_s (op_ne2 hu) (x_eb (se_mod (sb_var 0) (x_eb se_int))) (x_eb se_int) (nomark _))))) (ss_one (s_set 3 sc_row_by.nd (se_ix (sb_var 2) (x_eb (se_mod (x_eb (se_fdiv (sb_var 0) (x_eb se_int))) (x_eb (se_cb len_s call_len T.z_len (x_abc (sb_var 2) sab_nil)))))))) ss_nil)
    (ss_cons (s_set 4 sc_row_by.nd se_str)
    (ss_cons (s_if (x_wt (sw_and (st_cmp ne2_s (op_ne2 hu) (x_eb (se_ix (sb_var 3) (x_eb se_int))) (x_eb (x_le (sl_lst sa_nil))) (nomark _)) (sw_and1 (st_cmp ne2_s (op_ne2 hu) (x_eb (se_mod (sb_var 0) (x_eb se_int))) (x_eb se_int) (nomark _))))) (ss_one (s_set 4 sc_row_by.nd (se_ix (x_eb (se_ix (x_eb (se_ix (sb_var 3) (x_eb se_int))) (x_eb (se_mod (x_eb (se_fdiv (sb_var 0) (x_eb se_int))) (x_eb (se_cb len_s call_len T.z_len (x_abc (x_eb (se_ix (sb_var 3) (x_eb se_int))) sab_nil))))))) (x_eb se_int)))) ss_nil)
    (ss_cons (s_if (x_wt (sw_and (st_cmp ne2_s (op_ne2 hu) (sb_var 2) (x_eb (x_le (sl_lst sa_nil))) (nomark _)) (sw_and (st_cmp ne2_s (op_ne2 hu) (x_eb (se_ix (x_eb (se_ix (sb_var 2) (x_eb se_int))) (x_eb se_int))) (x_eb (x_le (sl_lst sa_nil))) (nomark _)) (sw_and1 (st_cmp eq2_s (op_eq2 hu) (x_eb (se_mod (sb_var 0) (x_eb se_int))) (x_eb se_int) (nomark _)))))) (ss_one (s_set 4 sc_row_by.nd (se_ix (x_eb (se_ix (x_eb (se_ix (x_eb (se_ix (sb_var 2) (x_eb se_int))) (x_eb se_int))) (x_eb se_int))) (x_eb se_int)))) ss_nil)
    (ss_cons (s_set 5 sc_row_by.nd se_str)
    (ss_cons (s_if (x_wt (sw_and (st_cmp ne2_s (op_ne2 hu) (sb_var 1) (x_eb (x_le (sl_lst sa_nil))) (nomark _)) (sw_and1 (st_cmp ne2_s (op_ne2 hu) (x_eb (se_mod (sb_var 0) (x_eb se_int))) (x_eb se_int) (nomark _))))) (ss_one (s_set 5 sc_row_by.nd (se_ix (x_eb (se_ix (sb_var 1) (x_eb (se_mod (x_eb (se_fdiv (sb_var 0) (x_eb se_int))) (x_eb (se_cb len_s call_len T.z_len (x_abc (sb_var 1) sab_nil))))))) (x_eb se_int)))) ss_nil)
    (ss_one (s_ret (se_tup (x_ac (se_ix (sb_var 3) (x_eb se_int)) (x_ac (se_var 4) (x_ac (se_var 5) sa_nil))))))))))))))⟩

abbrev N_word_of : List Str := ["_law_row", "_law_ahead", "_law_people", "_law_shifts", "_law_shift_here", "_law_one", "_law_need", "_law_person_here", "_law_days"]
theorem sc_word_of : FnScope N_word_of ["_law_row", "_law_ahead", "_law_people", "_law_shifts"] (defScope s_word_of) := ⟨rfl, rfl, rfl, by decide +kernel, rfl, by decide +kernel, by decide +kernel⟩
def b_word_of : SS := (sSeq (sSet 4 (eList (lLc (iL (eVarB 3)) 5 (tAndF (bF (eOp gEq (eOp gIx (eVarB 5) (eC (.int 0))) (eOp gIx (eVarB 0) (eC (.int 0))))) (bF (eOp gIn (eOp gIx (eVarB 0) (eC (.int 1))) (eList (lLc (iL (eOp gIx (eVarB 5) (eC (.int 2)))) 6 tYesF (eOp gIx (eVarB 6) (eC (.int 0)))))))) (eVar 5))))
  (sSeq (sSet 7 (eList (lLc (iL (eVarB 2)) 5 (bF (eOp gEq (eOp gIx (eVarB 5) (eC (.int 0))) (eOp gIx (eVarB 0) (eC (.int 2))))) (eVar 5))))
  (sSeq (sIf (tOrF (bF (eOp gEq (eVarB 4) (eList (eLstD eNil)))) (bF (eOp gEq (eVarB 7) (eList (eLstD eNil))))) (sRet (eC (.str "stranger"))) sNext)
  (sSeq (sIf (tNotF (bF (eCall F_may (eCons (eOp gIx (eVarB 7) (eC (.int 0))) (eCons (eOp gIx (eVarB 4) (eC (.int 0))) (eCons (eOp gIx (eVarB 0) (eC (.int 1))) eNil)))))) (sRet (eC (.str "unfit"))) sNext)
  (sSeq (sSet 8 (eCall F_taken (eCons (eVar 1) (eCons (eOp gIx (eVarB 7) (eC (.int 0))) (eCons (eVar 3) eNil)))))
  (sSeq (sIf (bF (eOp gIn (eOp gFdiv (eOp gIx (eOp gIx (eOp gIx (eVarB 4) (eC (.int 0))) (eC (.int 1))) (eC (.int 0))) (eC (.int 24))) (eVarB 8))) (sRet (eC (.str "twice"))) sNext)
  (sSeq (sIf (bF (eOp gGe (eCall gLen (eCons (eVarB 8) eNil)) (eOp gIx (eOp gIx (eVarB 7) (eC (.int 0))) (eC (.int 2))))) (sRet (eC (.str "over"))) sNext)
  (sRet (eC (.str ""))))))))))
def F_word_of : List PyData → Option PyData := runF N_word_of 4 b_word_of
theorem ok_word_of (T : Txt K mg) : PF P w K mg base 2 "_law_word_of" F_word_of := by
  obtain ⟨fd, F⟩ := T.f_word_of
  refine pf_mk (k := 1) F sc_word_of T.g_word_of (fun _ _ _ _ _ _ us hl => match us, hl with | [_, _, _, _], _ => rfl) fun cdv A outer s H E hr => ?_
  have hu := hr.units
  have hv := hv_of hr
  exact ⟨_, ((ss_cons (s_setLcE 4 (by exact (sl_lc (j := 5) rfl sc_word_of.nd rfl (si_listB (sb_var 3)) (blkOk_by (N := N_word_of) (sc := defScope s_word_of) (own := [("_law_one", 5)]) (by decide +kernel)) (fun _ _ _ _ _ => (sts_one (x_wt (sw_and (st_cmp eq2_s (op_eq2 hu) (x_eb (se_ix (sb_var 5) (x_eb se_int))) (x_eb (se_ix (sb_var 0) (x_eb se_int))) (nomark _)) (sw_and1 (st_cmp in2_s (op_in2 hv) (x_eb (se_ix (sb_var 0) (x_eb se_int))) (x_eb (x_le (sl_lc (j := 6) rfl sc_word_of.nd rfl (si_listB (x_eb (se_ix (sb_var 5) (x_eb se_int)))) (by exact blkOk_by (by rfl)) (fun _ _ _ _ _ => sts_nil) (fun _ _ _ _ _ => (se_ix (sb_var 6) (x_eb se_int))) (fun _ _ _ _ _ => pg_name sc_word_of.nd rfl (Or.inl rfl))))) (by rfl))))))) (fun _ _ _ _ _ => (se_var 5)) (fun _ _ _ _ _ => pg_name sc_word_of.nd rfl (Or.inl rfl)))) (by exact (ps_setLc (i := 4) (own := [("_law_one", 5)]) (g := gName 5) rfl sc_word_of.nd rfl rfl (sw_true rfl rfl rfl (by decide +kernel)) (x_pi (K := K) (si_listB (sb_var 3))) (blkOk_by (N := N_word_of) (sc := defScope s_word_of) (own := [("_law_one", 5)]) (by decide +kernel)) (fun _ _ _ _ _ => pg_name sc_word_of.nd rfl (Or.inl rfl)) (fun _ _ _ _ _ => (pts_one (x_pt (K := K) (x_wt (sw_and (st_cmp eq2_s (op_eq2 hu) (x_eb (se_ix (sb_var 5) (x_eb se_int))) (x_eb (se_ix (sb_var 0) (x_eb se_int))) (nomark _)) (sw_and1 (st_cmp in2_s (op_in2 hv) (x_eb (se_ix (sb_var 0) (x_eb se_int))) (x_eb (x_le (sl_lc (j := 6) rfl sc_word_of.nd rfl (si_listB (x_eb (se_ix (sb_var 5) (x_eb se_int)))) (by exact blkOk_by (by rfl)) (fun _ _ _ _ _ => sts_nil) (fun _ _ _ _ _ => (se_ix (sb_var 6) (x_eb se_int))) (fun _ _ _ _ _ => pg_name sc_word_of.nd rfl (Or.inl rfl))))) (by rfl)))))))) (fun _ _ _ _ _ => (x_pe (K := K) (se_var 5))))))
    (ss_cons (s_setLcE 7 (by exact (sl_lc (j := 5) rfl sc_word_of.nd rfl (si_listB (sb_var 2)) (blkOk_by (N := N_word_of) (sc := defScope s_word_of) (own := [("_law_one", 5)]) (by decide +kernel)) (fun _ _ _ _ _ => (sts_one (st_cmp eq2_s (op_eq2 hu) (x_eb (se_ix (sb_var 5) (x_eb se_int))) (x_eb (se_ix (sb_var 0) (x_eb se_int))) (nomark _)))) (fun _ _ _ _ _ => (se_var 5)) (fun _ _ _ _ _ => pg_name sc_word_of.nd rfl (Or.inl rfl)))) (by exact (ps_setLc (i := 7) (own := [("_law_one", 5)]) (g := gName 5) rfl sc_word_of.nd rfl rfl (sw_true rfl rfl rfl (by decide +kernel)) (x_pi (K := K) (si_listB (sb_var 2))) (blkOk_by (N := N_word_of) (sc := defScope s_word_of) (own := [("_law_one", 5)]) (by decide +kernel)) (fun _ _ _ _ _ => pg_name sc_word_of.nd rfl (Or.inl rfl)) (fun _ _ _ _ _ => (pts_one (x_pt (K := K) (st_cmp eq2_s (op_eq2 hu) (x_eb (se_ix (sb_var 5) (x_eb se_int))) (x_eb (se_ix (sb_var 0) (x_eb se_int))) (nomark _))))) (fun _ _ _ _ _ => (x_pe (K := K) (se_var 5))))))
    (ss_cons (s_if (x_wt (sw_or (st_cmp eq2_s (op_eq2 hu) (sb_var 4) (x_eb (x_le (sl_lst sa_nil))) (nomark _)) (sw_or1 (st_cmp eq2_s (op_eq2 hu) (sb_var 7) (x_eb (x_le (sl_lst sa_nil))) (nomark _))))) (ss_one (s_ret se_str)) ss_nil)
    (ss_cons (s_if (st_not (st_val (se_call (ok_may T) hr (x_ac (se_ix (sb_var 7) (x_eb se_int)) (x_ac (se_ix (sb_var 4) (x_eb se_int)) (x_ac (se_ix (sb_var 0) (x_eb se_int)) sa_nil)))))) (ss_one (s_ret se_str)) ss_nil)
    (ss_cons (s_set 8 sc_word_of.nd (se_call (ok_taken T) hr (x_ac (se_var 1) (x_ac (se_ix (sb_var 7) (x_eb se_int)) (x_ac (se_var 3) sa_nil)))))
    (ss_cons (s_if (st_cmp in2_s (op_in2 hv) (x_eb (se_fdiv (x_eb (se_ix (x_eb (se_ix (x_eb (se_ix (sb_var 4) (x_eb se_int))) (x_eb se_int))) (x_eb se_int))) (x_eb se_int))) (sb_var 8) (by rfl)) (ss_one (s_ret se_str)) ss_nil)
    (ss_cons (s_if (st_cmp ge_s op_ge (x_eb (se_cb len_s call_len T.z_len (x_abc (sb_var 8) sab_nil))) (x_eb (se_ix (x_eb (se_ix (sb_var 7) (x_eb se_int))) (x_eb se_int))) (nomark _)) (ss_one (s_ret se_str)) ss_nil)
    (ss_one (s_ret se_str))))))))))⟩

abbrev N_due_of : List Str := ["_law_rows", "_law_people", "_law_shifts", "_law_due", "_law_ahead", "_law_k", "_law_word", "_law_shift_here", "_law_need", "_law_more", "_law_row"]
theorem sc_due_of : FnScope N_due_of ["_law_rows", "_law_people", "_law_shifts"] (defScope s_due_of) := ⟨rfl, rfl, rfl, by decide +kernel, rfl, by decide +kernel, by decide +kernel⟩
def b_due_of : SS := (sSeq (sSetL 3 (eLstD eNil))
  (sSeq (sSetL 4 (eLstD eNil))
  (sSeq (sFor (iR1 (eCons (eCall gLen (eCons (eVarB 0) eNil)) eNil)) (tg1 5) (sSeq (sSet 6 (eCall (fun ds => onlyS (F_word_of ds)) (eCons (eOp gIx (eVarB 0) (eVarB 5)) (eCons (eVarB 4) (eCons (eVarB 1) (eCons (eVarB 2) eNil))))))
  (sSeq (sIf (bF (eOp gNe (eVarB 6) (eC (.str "")))) (sApp 3 (eTupD (eCons (eVar 6) (eCons (eVar 5) eNil)))) sNext)
  (sIf (bF (eOp gNe (eVarB 6) (eC (.str "stranger")))) (sApp 4 (eOp gIx (eVarB 0) (eVarB 5))) sNext))))
  (sSeq (sFor (iL (eVar 2)) (tg1 7) (sFor (iL (eOp gIx (eVarB 7) (eC (.int 2)))) (tg1 8) (sSeq (sSet 9 (eOp gMinus (eCall gLen (eCons (eList (lLc (iL (eVarB 4)) 10 (tAndF (bF (eOp gEq (eOp gIx (eVarB 10) (eC (.int 0))) (eOp gIx (eVarB 7) (eC (.int 0))))) (bF (eOp gEq (eOp gIx (eVarB 10) (eC (.int 1))) (eOp gIx (eVarB 8) (eC (.int 0)))))) (eVar 10))) eNil)) (eOp gIx (eVarB 8) (eC (.int 1)))))
  (sSeq (sIf (bF (eOp gLt (eVarB 9) (eC (.int 0)))) (sApp 3 (eTupD (eCons (eC (.str "few")) (eCons (eOp gIx (eVarB 7) (eC (.int 0))) (eCons (eOp gIx (eVarB 8) (eC (.int 0))) (eCons (eUn gNeg (eVarB 9)) eNil)))))) sNext)
  (sIf (bF (eOp gGt (eVarB 9) (eC (.int 0)))) (sApp 3 (eTupD (eCons (eC (.str "many")) (eCons (eOp gIx (eVarB 7) (eC (.int 0))) (eCons (eOp gIx (eVarB 8) (eC (.int 0))) (eCons (eVar 9) eNil)))))) sNext)))))
  (sRet (eVar 3))))))
def F_due_of : List PyData → Option PyData := runF N_due_of 3 b_due_of
theorem ok_due_of (T : Txt K mg) : PF P w K mg base 3 "_law_due_of" F_due_of := by
  obtain ⟨fd, F⟩ := T.f_due_of
  refine pf_mk (k := 2) F sc_due_of T.g_due_of (fun _ _ _ _ _ _ us hl => match us, hl with | [_, _, _], _ => rfl) fun cdv A outer s H E hr => ?_
  have hu := hr.units
  have hv := hv_of hr
  exact ⟨_, ((ss_cons (s_setL 3 sc_due_of.nd (sl_lst sa_nil))
    (ss_cons (s_setL 4 sc_due_of.nd (sl_lst sa_nil))
    (ss_cons (s_for PassesOwn.never rfl (si_range1 T.z_range (x_abc (x_eb (se_cb len_s call_len T.z_len (x_abc (sb_var 0) sab_nil))) sab_nil)) (pg_name (i := 5) sc_due_of.nd rfl (by first | exact Or.inl rfl | exact Or.inr rfl)) (tg1_ok 5) (ss_cons (s_set 6 sc_due_of.nd (se_callB (ok_word_of T) hr (x_abc (x_eb (se_ix (sb_var 0) (sb_var 5))) (x_abc (sb_var 4) (x_abc (sb_var 1) (x_abc (sb_var 2) sab_nil))))))
    (ss_cons (s_if (st_cmp ne2_s (op_ne2 hu) (sb_var 6) (x_eb se_str) (nomark _)) (ss_one (s_app 3 (se_tup (x_ac (se_var 6) (x_ac (se_var 5) sa_nil))) (by exact (ps_expr (pe_bm PySem.F.plainAttrs_list PySem.F.slot_list_append PySem.F.type_list_append mt_append (pv 3) (pa_cons (x_pe (K := K) (se_tup (x_ac (se_var 6) (x_ac (se_var 5) sa_nil)))) pa_nil)))))) ss_nil)
    (ss_one (s_if (st_cmp ne2_s (op_ne2 hu) (sb_var 6) (x_eb se_str) (nomark _)) (ss_one (s_app 4 (se_ix (sb_var 0) (sb_var 5)) (by exact (ps_expr (pe_bm PySem.F.plainAttrs_list PySem.F.slot_list_append PySem.F.type_list_append mt_append (pv 4) (pa_cons (x_pe (K := K) (se_ix (sb_var 0) (sb_var 5))) pa_nil)))))) ss_nil)))))
    (ss_cons (s_for PassesOwn.never rfl (si_list (se_var 2)) (pg_name (i := 7) sc_due_of.nd rfl (by first | exact Or.inl rfl | exact Or.inr rfl)) (tg1_ok 7) (ss_one (s_for PassesOwn.never rfl (si_list (se_ix (sb_var 7) (x_eb se_int))) (pg_name (i := 8) sc_due_of.nd rfl (by first | exact Or.inl rfl | exact Or.inr rfl)) (tg1_ok 8) (ss_cons (s_set 9 sc_due_of.nd (se_sub (x_eb (se_cb len_s call_len T.z_len (x_abc (x_eb (x_le (sl_lc (j := 10) rfl sc_due_of.nd rfl (si_listB (sb_var 4)) (blkOk_by (N := N_due_of) (sc := defScope s_due_of) (own := [("_law_row", 10)]) (by decide +kernel)) (fun _ _ _ _ _ => (sts_one (x_wt (sw_and (st_cmp eq2_s (op_eq2 hu) (x_eb (se_ix (sb_var 10) (x_eb se_int))) (x_eb (se_ix (sb_var 7) (x_eb se_int))) (nomark _)) (sw_and1 (st_cmp eq2_s (op_eq2 hu) (x_eb (se_ix (sb_var 10) (x_eb se_int))) (x_eb (se_ix (sb_var 8) (x_eb se_int))) (nomark _))))))) (fun _ _ _ _ _ => (se_var 10)) (fun _ _ _ _ _ => pg_name sc_due_of.nd rfl (Or.inl rfl))))) sab_nil))) (x_eb (se_ix (sb_var 8) (x_eb se_int)))))
    (ss_cons (s_if (st_cmp lt_s op_lt (sb_var 9) (x_eb se_int) (nomark _)) (ss_one (s_app 3 (se_tup (x_ac se_str (x_ac (se_ix (sb_var 7) (x_eb se_int)) (x_ac (se_ix (sb_var 8) (x_eb se_int)) (x_ac (se_neg (sb_var 9)) sa_nil))))) (by exact (ps_expr (pe_bm PySem.F.plainAttrs_list PySem.F.slot_list_append PySem.F.type_list_append mt_append (pv 3) (pa_cons (x_pe (K := K) (se_tup (x_ac se_str (x_ac (se_ix (sb_var 7) (x_eb se_int)) (x_ac (se_ix (sb_var 8) (x_eb se_int)) (x_ac (se_neg (sb_var 9)) sa_nil)))))) pa_nil)))))) ss_nil)
    (ss_one (s_if (st_cmp gt_s op_gt (sb_var 9) (x_eb se_int) (nomark _)) (ss_one (s_app 3 (se_tup (x_ac se_str (x_ac (se_ix (sb_var 7) (x_eb se_int)) (x_ac (se_ix (sb_var 8) (x_eb se_int)) (x_ac (se_var 9) sa_nil))))) (by exact (ps_expr (pe_bm PySem.F.plainAttrs_list PySem.F.slot_list_append PySem.F.type_list_append mt_append (pv 3) (pa_cons (x_pe (K := K) (se_tup (x_ac se_str (x_ac (se_ix (sb_var 7) (x_eb se_int)) (x_ac (se_ix (sb_var 8) (x_eb se_int)) (x_ac (se_var 9) sa_nil)))))) pa_nil)))))) ss_nil)))))))
    (ss_one (s_ret (se_var 3))))))))⟩

abbrev N_kinds : List Str := ["_law_found", "_law_fault"]
theorem sc_kinds : FnScope N_kinds ["_law_found"] (defScope s_kinds) := ⟨rfl, rfl, rfl, by decide +kernel, rfl, by decide +kernel, by decide +kernel⟩
def b_kinds : SS := (sSeq (sFor (iL (eVar 0)) (tg1 1) (sIf (tOrF (tNotF (bF (eIsi .tuple (eVarB 1)))) (tNotF (bF (eCall F_int (eCons (eOp gIx (eVarB 1) (eUn gNeg (eC (.int 1)))) eNil))))) (sRet (eC (.bool false))) sNext))
  (sRet (eC (.bool true))))
def F_kinds : List PyData → Option PyData := runF N_kinds 1 b_kinds
theorem ok_kinds (T : Txt K mg) : PF P w K mg base 2 "_law_kinds" F_kinds := by
  obtain ⟨fd, F⟩ := T.f_kinds
  refine pf_mk (k := 1) F sc_kinds T.g_kinds (fun _ _ _ _ _ _ us hl => match us, hl with | [_], _ => rfl) fun cdv A outer s H E hr => ?_
  have hu := hr.units
  have hv := hv_of hr
  exact ⟨_, ((ss_cons (s_for PassesOwn.never rfl (si_list (se_var 0)) (pg_name (i := 1) sc_kinds.nd rfl (by first | exact Or.inl rfl | exact Or.inr rfl)) (tg1_ok 1) (ss_one (s_if (x_wt (sw_or (st_not (st_val (se_isi .tuple T.z_isinstance T.z_tuple (sb_var 1)))) (sw_or1 (st_not (st_val (se_call (ok_int T) hr (x_ac (se_ix (sb_var 1) (x_eb (se_neg (x_eb se_int)))) sa_nil))))))) (ss_one (s_ret se_bool)) ss_nil)))
    (ss_one (s_ret se_bool))))⟩

end
end RK
namespace RK
open PySem PySem.Spec PyProof.Rows L2 RT
/-! ### reading methods of the book -/
section
variable {P : Program} {w : World} {K : PySem.W.Frag} {mg : Str → Option Value} {base : Heap}
theorem scB_rests_of : FnScope ["self", "name"] ["self", "name"] (defScope m_book_rests_of) := ⟨rfl, rfl, rfl, by decide +kernel, rfl, by decide +kernel, by decide +kernel⟩
theorem okB_rests_of (T : Txt K mg) {f : Addr} {fd : FuncData} (F : FunD K "rests_of" "Book.rests_of" (defArgs m_book_rests_of) (defBody m_book_rests_of) (defScope m_book_rests_of) [] [] f fd) : FnOk P w K mg base (L2.CX P w) 1 f fd ["self", "name"] (spR K fr_rests_of) := by
  refine F.ok scB_rests_of (fun vs H Q E h => ?_) (fun cdv A outer s H vs Q E hr h => ?_)
  · obtain ⟨G, R, a, β, us, ds, rfl, h1, h2, h3, h4, h5, q⟩ := h
    obtain ⟨n, rfl⟩ := s1_inv q
    rw [List.length_cons, h5.len]; rfl
  · obtain ⟨G, R, a, β, us, ds, rfl, h1, h2, h3, h4, h5, q⟩ := h
    have hu := hu_of hr
    obtain ⟨n, rfl⟩ := s1_inv q
    obtain ⟨dx, dS, dL, dR, dT, dN, pe, sh, b⟩ := h4
    obtain ⟨v, rfl, r⟩ := h5.one
    have := Bp.str (H := H) (.inl r)
    subst this
    have T' := T.bk
    have ob := h2 _ _ b.ob
    have cR := h2 _ _ b.cR
    refine ⟨_, pss_cons (ps_if (pt_cmp (pc_dnotin hu (pv 1) (pe_fld (pv 0) rfl))) (pss_one (ps_raise rfl (takes_of rfl rfl rfl rfl) (pmk_own PySem.F.excBase_ValueError T.e_Missing.x T.e_Missing.g T.e_Missing.k (raises_own T.e_Missing.b T.e_Missing.t) rfl))) pss_nil)
      (pss_one (ps_ret (pe_callTy call_list_of (by rfl) T.z_list (by decide +kernel) (pa_cons (pe_dget hu (pe_fld (pv 0) rfl) (pv 1) (fun _ _ => rfl)) pa_nil) (by decide) (by decide)))), ?_⟩
    refine ⟨_, rfl, _, rfl, a, _, dx, _, _, rfl, ob, T'.cl, T'.nR, lk_R, dR, _, rfl, DGet.k (k := Sum.inr n) cR, _, rfl, ?_⟩
    have q' : (mis (findP β n) fun p => .list (p.rests.map stD)).goes _ _ := q
    cases hp : findP β n with
    | none =>
      rw [hp] at q'
      rw [(b.noPerson hp).2.2]
      refine iteT ?_
      exact q' H G (Grow.refl h1)
    | some p =>
      rw [hp] at q'
      obtain ⟨x, hx, e1, e2, e3, e4, e5⟩ := b.person hp
      rw [e5]
      refine iteF ?_
      obtain ⟨vs, l1, l2⟩ := b.pr x hx
      refine ⟨_, rfl, a, _, dx, _, _, rfl, ob, T'.cl, T'.nR, lk_R, _, rfl, dR, _, rfl, by rw [← e5]; exact DGet.k (k := Sum.inr n) cR, x.2.2, vs, rfl, .inl (SqL.of (h2 _ _ l1)), fun l hl => ?_⟩
      rw [e1] at l2
      exact q' (.ref l) _ _ ((Grow.refl h1).new hl) (.inl (.lst upd_same (dpa_mono (Same.upd_new (Same.refl G) (h1.free hl)) _ l2)))
end
section
variable {P : Program} {w : World} {K : PySem.W.Frag} {mg : Str → Option Value} {base : Heap}
theorem scB_stretch_of : FnScope ["self", "shift"] ["self", "shift"] (defScope m_book_stretch_of) := ⟨rfl, rfl, rfl, by decide +kernel, rfl, by decide +kernel, by decide +kernel⟩
theorem okB_stretch_of (T : Txt K mg) {f : Addr} {fd : FuncData} (F : FunD K "stretch_of" "Book.stretch_of" (defArgs m_book_stretch_of) (defBody m_book_stretch_of) (defScope m_book_stretch_of) [] [] f fd) : FnOk P w K mg base (L2.CX P w) 1 f fd ["self", "shift"] (spR K fr_stretch_of) := by
  refine F.ok scB_stretch_of (fun vs H Q E h => ?_) (fun cdv A outer s H vs Q E hr h => ?_)
  · obtain ⟨G, R, a, β, us, ds, rfl, h1, h2, h3, h4, h5, q⟩ := h
    obtain ⟨n, rfl⟩ := s1_inv q
    rw [List.length_cons, h5.len]; rfl
  · obtain ⟨G, R, a, β, us, ds, rfl, h1, h2, h3, h4, h5, q⟩ := h
    have hu := hu_of hr
    obtain ⟨n, rfl⟩ := s1_inv q
    obtain ⟨dx, dS, dL, dR, dT, dN, pe, sh, b⟩ := h4
    obtain ⟨v, rfl, r⟩ := h5.one
    have := r.s
    subst this
    have T' := T.bk
    have ob := h2 _ _ b.ob
    have cT := h2 _ _ b.cT
    refine ⟨_, pss_cons (ps_if (pt_cmp (pc_dnotin hu (pv 1) (pe_fld (pv 0) rfl))) (pss_one (ps_raise rfl (takes_of rfl rfl rfl rfl) (pmk_own PySem.F.excBase_ValueError T.e_Missing.x T.e_Missing.g T.e_Missing.k (raises_own T.e_Missing.b T.e_Missing.t) rfl))) pss_nil)
      (pss_one (ps_ret (pe_dget hu (pe_fld (pv 0) rfl) (pv 1) (fun _ _ => rfl)))), ?_⟩
    refine ⟨_, rfl, _, rfl, a, _, dx, _, _, rfl, ob, T'.cl, T'.nT, lk_T, dT, _, rfl, DGet.k (k := Sum.inr n) cT, _, rfl, ?_⟩
    have q' : (mis (findS β n) fun s => stD (s.b, s.e)).goes _ _ := q
    cases hp : findS β n with
    | none =>
      rw [hp] at q'
      rw [(b.noShift hp).1]
      refine iteT ?_
      exact q' H G (Grow.refl h1)
    | some s =>
      rw [hp] at q'
      obtain ⟨x, hx, e1, e2, e3, e4⟩ := b.shift hp
      rw [e3]
      refine iteF ?_
      have hs := b.st x hx
      rw [e1] at hs
      exact ⟨_, rfl, a, _, dx, _, _, rfl, ob, T'.cl, T'.nT, lk_T, _, rfl, dT, _, rfl, by rw [← e3]; exact DGet.k (k := Sum.inr n) cT, q' _ H G (Grow.refl h1) (.inl hs)⟩
theorem F_meets_eq (a b c d : Int) : F_meets [stD (a, b), stD (c, d)] = some (.bool (meetsB (a, b) (c, d))) := by
  unfold F_meets
  rw [runF_eq]
  simp [b_meets, rho0, stD, meetsB]
  split <;> simp_all <;> omega
theorem scB_may : FnScope ["self", "name", "shift", "skill", "stretch", "rest"] ["self", "name", "shift", "skill"] (defScope m_book_may) := ⟨rfl, rfl, rfl, by decide +kernel, rfl, by decide +kernel, by decide +kernel⟩
theorem inV_strs (k : Str) (l : List Str) : inV (.str k) (l.map V.str) = decide (k ∈ l) := by
  unfold inV
  induction l with
  | nil => rfl
  | cons z l ih =>
    rw [List.map_cons, List.any_cons, ih]
    have : eqV (V.str z) (V.str k) = (z == k) := rfl
    rw [this]
    by_cases h : z = k
    · subst h
      simp
    · have h2 : ¬ k = z := fun e => h e.symm
      simp [h, h2]
theorem okB_may (T : Txt K mg) {f : Addr} {fd : FuncData} (F : FunD K "may" "Book.may" (defArgs m_book_may) (defBody m_book_may) (defScope m_book_may) [] [] f fd) : FnOk P w K mg base (L2.CX P w) 2 f fd ["self", "name", "shift", "skill"] (spR K fr_may) := by
  obtain ⟨fdR, FR⟩ := T.f_book_rests_of
  obtain ⟨fdT, FT⟩ := T.f_book_stretch_of
  have GR : FnOk P w K mg base (L2.CX P w) 1 _ fdR ["self", "name"] (spR K fr_rests_of) := okB_rests_of T FR
  have GT : FnOk P w K mg base (L2.CX P w) 1 _ fdT ["self", "shift"] (spR K fr_stretch_of) := okB_stretch_of T FT
  have bR : Binds K fdR ["self", "name"] [] := FR.bindsN fun _ _ _ _ _ _ us hl => match us, hl with | [_, _], _ => rfl
  have bT : Binds K fdT ["self", "shift"] [] := FT.bindsN fun _ _ _ _ _ _ us hl => match us, hl with | [_, _], _ => rfl
  obtain ⟨fm, fdm, psm, GM, gm, km, bm⟩ := (ok_meets (P := P) (w := w) (base := base) T).ex
  refine F.ok scB_may (fun vs H Q E h => ?_) (fun cdv A outer s H vs Q E hr h => ?_)
  · obtain ⟨G, R, a, β, us, ds, rfl, h1, h2, h3, h4, h5, q⟩ := h
    obtain ⟨n, k, l, rfl⟩ := s3_inv q
    rw [List.length_cons, h5.len]; rfl
  · obtain ⟨G, R, a, β, us, ds, rfl, h1, h2, h3, h4, h5, q⟩ := h
    have hu := hu_of hr
    obtain ⟨n, sn, k, rfl⟩ := s3_inv q
    obtain ⟨v1, v2, v3, rfl, r1, r2, r3⟩ := h5.three
    have := r1.s
    subst this
    have := r2.s
    subst this
    have := r3.s
    subst this
    have T' := T.bk
    have hm : bkNo "rests_of" := bkNo_of (by decide +kernel)
    have hm2 : bkNo "stretch_of" := bkNo_of (by decide +kernel)
    have B0 := h4
    obtain ⟨dx, dS, dL, dR, dT, dN, pe, sh, b⟩ := h4
    have ob := h2 _ _ b.ob
    have cS := h2 _ _ b.cS
    have tk : Takes (cxOf (L2.CX P w) P w K mg base ["self", "name", "shift", "skill", "stretch", "rest"] "Book.may" (defScope m_book_may) f cdv A outer s H E) (fun cls d _ H => E cls d H) := takes_of rfl rfl rfl rfl
    refine ⟨_, pss_cons (ps_set (i := 4) scB_may.nd rfl (Or.inl rfl) (pe_methW tk (pv 0) T.cl_book T.me_book_stretch_of GT hr (by decide) bT (pa_cons (pv 2) pa_nil)))
      (pss_cons (ps_for (passes_of rfl) rfl (pi_list (pe_methW tk (pv 0) T.cl_book T.me_book_rests_of GR hr (by decide) bR (pa_cons (pv 1) pa_nil))) (pg_name (i := 5) scB_may.nd rfl (Or.inl rfl))
        (pss_one (ps_if (pt_val (pe_call GM hr (by rfl) gm km bm .nil pass0 (pa_cons (pv 5) (pa_cons (pv 4) pa_nil)))) (pss_one (ps_ret pe_bl)) pss_nil)))
      (pss_one (ps_ret (pe_cmpR op_in_seq (pv 3) (pe_dget hu (pe_fld (pv 0) rfl) (pv 1) (fun _ _ => rfl)) (by rfl))))), ?_⟩
    refine ⟨_, rfl, a, dx, _, rfl, ob, hm2 _ _ _ _ _, _, rfl, ?_⟩
    refine ⟨G, R, a, β, _, [.str sn], rfl, h1, h2, h3, B0, .cons (.inl (.str sn)) .nil, ?_⟩
    show (mis (findS β sn) fun s => stD (s.b, s.e)).goes _ _
    have q2 : (match findS β sn with
      | none => .exc "Missing"
      | some sh => mis (findP β n) fun p => .bool (mayB p sh k) : Res).goes _ _ := q
    cases hS : findS β sn with
    | none =>
      rw [hS] at q2
      exact q2
    | some s0 =>
      rw [hS] at q2
      intro v4 H1 G1 g1 r4
      show gName 4 v4 _ H1 _
      refine ⟨_, rfl, a, dx, _, rfl, g1.h _ _ ob, hm _ _ _ _ _, _, rfl, ?_⟩
      refine ⟨G1, R, a, β, _, [.str n], rfl, g1.sub, h2.trans g1.h, g1.apart h2 h3, B0.mono g1.f (Same.refl R), .cons (.inl (.str n)) .nil, ?_⟩
      show (mis (findP β n) fun p => .list (p.rests.map stD)).goes _ _
      have q3 : (mis (findP β n) fun p => .bool (mayB p s0 k)).goes _ _ := q2
      cases hP : findP β n with
      | none =>
        rw [hP] at q3
        exact fun H' G' g => q3 H' G' (g1.trans g)
      | some p0 =>
        rw [hP] at q3
        have q4 : ∀ v H' G', Grow H G H' G' → Rp K G' v (.bool (mayB p0 s0 k)) → Q v H' := q3
        intro v H2 G2 g2 rv
        obtain ⟨p, vs, rfl, hp2, hA⟩ := Bp.list (G := G2) (H := H2) g2.sub (.inl rv)
        have g12 := g1.trans g2
        refine ⟨p, rfl, ⟨vs, SqL.of hp2⟩, for_list (K := K) (a := p) (xs := vs) (fun i σ H3 => ∃ (G3 : Hp) (o5 : Option V), σ = [some (.ref a), some (.str n), some (.str sn), some (.str k), some v4, o5] ∧ Grow H2 G2 H3 G3 ∧ (p0.rests.take i).any (fun r => meetsB r (s0.b, s0.e)) = false)
          ⟨G2, none, rfl, Grow.refl g2.sub, rfl⟩ (fun i σ H _ ⟨_, _, _, g, _⟩ => SqL.of (g.h _ _ hp2)) ?_ ?_⟩
        · rintro i x σ H3 hi ⟨G3, o5, rfl, g3, hj⟩
          obtain ⟨dd, hd, rx⟩ := hA.getV hi
          obtain ⟨r, hr, rfl⟩ : ∃ r, p0.rests[i]? = some r ∧ dd = stD r := by
            rw [List.getElem?_map] at hd
            cases e : p0.rests[i]? with
            | none => rw [e] at hd; cases hd
            | some r => rw [e] at hd; exact ⟨r, rfl, (Option.some.inj hd).symm⟩
          refine ⟨_, rfl, _, rfl, G3, [stD r, stD (s0.b, s0.e)], .bool (meetsB r (s0.b, s0.e)), g3.sub, .cons ((Rp.mono g3.f (.inl rx))) (.cons (r4.mono (g2.f.trans g3.f)) .nil), F_meets_eq _ _ _ _, fun v5 H4 G4 g4 r5 => ?_⟩
          refine ⟨_, r5.bl, ?_⟩
          cases hmm : meetsB r (s0.b, s0.e) with
          | true =>
            refine iteT ?_
            have e : mayB p0 s0 k = false := by
              have : (p0.rests.any fun r => meetsB r (s0.b, s0.e)) = true := List.any_eq_true.mpr ⟨r, List.mem_of_getElem? hr, hmm⟩
              simp [mayB, this]
            rw [e] at q4
            exact q4 _ H4 G4 ((g12.trans g3).trans g4) (rp_bool _)
          | false =>
            refine iteF ?_
            refine ⟨G4, _, rfl, g3.trans g4, ?_⟩
            rw [List.take_add_one, hr]
            simp [hj, hmm]
        · rintro σ H3 ⟨G3, o5, rfl, g3, hj⟩
          have hl : vs.length = p0.rests.length := by rw [hA.len, List.length_map]
          rw [hl, List.take_length] at hj
          obtain ⟨x, hx, e1, e2, e3, e4, e5⟩ := b.person hP
          have g13 := g12.trans g3
          have e : mayB p0 s0 k = decide (k ∈ p0.skills) := by simp [mayB, hj]
          rw [e] at q4
          refine ⟨_, rfl, _, rfl, a, _, dx, _, _, rfl, g13.h _ _ ob, T'.cl, T'.nS, lk_S, _, rfl, dS, _, rfl, by rw [← e3]; exact DGet.k (k := Sum.inr n) (g13.h _ _ cS), x.2.1, x.1.skills.map V.str, rfl, .inl (SqL.of (g13.h _ _ (h2 _ _ (b.ps x hx)))), rfl, by simp [flatV], ?_⟩
          have : inV (.str k) (x.1.skills.map V.str) = decide (k ∈ p0.skills) := by rw [inV_strs, e1]
          show Q (.bl (inV (.str k) (x.1.skills.map V.str))) H3
          rw [this]
          exact q4 _ H3 G3 g13 (rp_bool _)
end
section
variable {P : Program} {w : World} {K : PySem.W.Frag} {mg : Str → Option Value} {base : Heap}
theorem scB_limit_of : FnScope ["self", "name"] ["self", "name"] (defScope m_book_limit_of) := ⟨rfl, rfl, rfl, by decide +kernel, rfl, by decide +kernel, by decide +kernel⟩
theorem okB_limit_of (T : Txt K mg) {f : Addr} {fd : FuncData} (F : FunD K "limit_of" "Book.limit_of" (defArgs m_book_limit_of) (defBody m_book_limit_of) (defScope m_book_limit_of) [] [] f fd) : FnOk P w K mg base (L2.CX P w) 1 f fd ["self", "name"] (spR K fr_limit_of) := by
  refine F.ok scB_limit_of (fun vs H Q E h => ?_) (fun cdv A outer s H vs Q E hr h => ?_)
  · obtain ⟨G, R, a, β, us, ds, rfl, h1, h2, h3, h4, h5, q⟩ := h
    obtain ⟨n, rfl⟩ := s1_inv q
    rw [List.length_cons, h5.len]; rfl
  · obtain ⟨G, R, a, β, us, ds, rfl, h1, h2, h3, h4, h5, q⟩ := h
    have hu := hu_of hr
    obtain ⟨n, rfl⟩ := s1_inv q
    obtain ⟨dx, dS, dL, dR, dT, dN, pe, sh, b⟩ := h4
    obtain ⟨v, rfl, r⟩ := h5.one
    have := r.s
    subst this
    have T' := T.bk
    have ob := h2 _ _ b.ob
    have cL := h2 _ _ b.cL
    refine ⟨_, pss_cons (ps_if (pt_cmp (pc_dnotin hu (pv 1) (pe_fld (pv 0) rfl))) (pss_one (ps_raise rfl (takes_of rfl rfl rfl rfl) (pmk_own PySem.F.excBase_ValueError T.e_Missing.x T.e_Missing.g T.e_Missing.k (raises_own T.e_Missing.b T.e_Missing.t) rfl))) pss_nil)
      (pss_one (ps_ret (pe_dget hu (pe_fld (pv 0) rfl) (pv 1) (fun _ _ => rfl)))), ?_⟩
    refine ⟨_, rfl, _, rfl, a, _, dx, _, _, rfl, ob, T'.cl, T'.nL, lk_L, dL, _, rfl, DGet.k (k := Sum.inr n) cL, _, rfl, ?_⟩
    have q' : (mis (findP β n) fun p => .int p.limit).goes _ _ := q
    cases hp : findP β n with
    | none =>
      rw [hp] at q'
      rw [(b.noPerson hp).2.1]
      refine iteT ?_
      exact q' H G (Grow.refl h1)
    | some p =>
      rw [hp] at q'
      obtain ⟨x, hx, e1, e2, e3, e4, e5⟩ := b.person hp
      rw [e4]
      refine iteF ?_
      exact ⟨_, rfl, a, _, dx, _, _, rfl, ob, T'.cl, T'.nL, lk_L, _, rfl, dL, _, rfl, by rw [← e4]; exact DGet.k (k := Sum.inr n) cL, q' _ H G (Grow.refl h1) (rp_int _)⟩
theorem scB_people : FnScope ["self"] ["self"] (defScope m_book_people) := ⟨rfl, rfl, rfl, by decide +kernel, rfl, by decide +kernel, by decide +kernel⟩
theorem okB_people (T : Txt K mg) {f : Addr} {fd : FuncData} (F : FunD K "people" "Book.people" (defArgs m_book_people) (defBody m_book_people) (defScope m_book_people) [] [] f fd) : FnOk P w K mg base (L2.CX P w) 1 f fd ["self"] (spR K fr_people) := by
  refine F.ok scB_people (fun vs H Q E h => ?_) (fun cdv A outer s H vs Q E hr h => ?_)
  · obtain ⟨G, R, a, β, us, ds, rfl, h1, h2, h3, h4, h5, q⟩ := h
    have := s0_inv q
    subst this
    rw [List.length_cons, h5.len]; rfl
  · obtain ⟨G, R, a, β, us, ds, rfl, h1, h2, h3, h4, h5, q⟩ := h
    have := s0_inv q
    subst this
    cases h5
    obtain ⟨dx, dS, dL, dR, dT, dN, pe, sh, b⟩ := h4
    have T' := T.bk
    have ob := h2 _ _ b.ob
    have cS := h2 _ _ b.cS
    refine ⟨_, pss_one (ps_ret (pe_callTy (call_list_dK rfl) (by rfl) T.z_list (by decide +kernel) (pa_cons (pe_fld (pv 0) rfl) pa_nil) (by decide) (by decide))), ?_⟩
    refine ⟨_, rfl, a, _, dx, _, _, rfl, ob, T'.cl, T'.nS, lk_S, dS, kvS pe, rfl, cS, fun l hl => ?_⟩
    have e : (kvS pe).map (fun kv => kV kv.1) = (β.people.map fun p => p.name).map V.str := by
      unfold kvS
      rw [← b.pn, List.map_map, List.map_map, List.map_map]
      rfl
    rw [e]
    have q' : ∀ v H' G', Grow H G H' G' → Rp K G' v (.list (β.people.map fun p => .str p.name)) → Q v H' := q
    refine q' (.ref l) _ _ ((Grow.refl h1).new hl) (.inl (.lst upd_same ?_))
    have e2 : (β.people.map fun p => PyData.str p.name) = (β.people.map fun p => p.name).map PyData.str := by rw [List.map_map]; rfl
    rw [e2]
    exact dq_strs _
theorem scB_shifts : FnScope ["self"] ["self"] (defScope m_book_shifts) := ⟨rfl, rfl, rfl, by decide +kernel, rfl, by decide +kernel, by decide +kernel⟩
theorem okB_shifts (T : Txt K mg) {f : Addr} {fd : FuncData} (F : FunD K "shifts" "Book.shifts" (defArgs m_book_shifts) (defBody m_book_shifts) (defScope m_book_shifts) [] [] f fd) : FnOk P w K mg base (L2.CX P w) 1 f fd ["self"] (spR K fr_shifts) := by
  refine F.ok scB_shifts (fun vs H Q E h => ?_) (fun cdv A outer s H vs Q E hr h => ?_)
  · obtain ⟨G, R, a, β, us, ds, rfl, h1, h2, h3, h4, h5, q⟩ := h
    have := s0_inv q
    subst this
    rw [List.length_cons, h5.len]; rfl
  · obtain ⟨G, R, a, β, us, ds, rfl, h1, h2, h3, h4, h5, q⟩ := h
    have := s0_inv q
    subst this
    cases h5
    obtain ⟨dx, dS, dL, dR, dT, dN, pe, sh, b⟩ := h4
    have T' := T.bk
    have ob := h2 _ _ b.ob
    have cN := h2 _ _ b.cN
    refine ⟨_, pss_one (ps_ret (pe_callTy (call_list_dK rfl) (by rfl) T.z_list (by decide +kernel) (pa_cons (pe_fld (pv 0) rfl) pa_nil) (by decide) (by decide))), ?_⟩
    refine ⟨_, rfl, a, _, dx, _, _, rfl, ob, T'.cl, T'.nN, lk_N, dN, kvN sh, rfl, cN, fun l hl => ?_⟩
    have e : (kvN sh).map (fun kv => kV kv.1) = (β.shifts.map fun p => p.name).map V.str := by
      unfold kvN
      rw [← b.sn, List.map_map, List.map_map, List.map_map]
      rfl
    rw [e]
    have q' : ∀ v H' G', Grow H G H' G' → Rp K G' v (.list (β.shifts.map fun p => .str p.name)) → Q v H' := q
    refine q' (.ref l) _ _ ((Grow.refl h1).new hl) (.inl (.lst upd_same ?_))
    have e2 : (β.shifts.map fun p => PyData.str p.name) = (β.shifts.map fun p => p.name).map PyData.str := by rw [List.map_map]; rfl
    rw [e2]
    exact dq_strs _
theorem scB_count_of : FnScope ["self", "shift", "skill"] ["self", "shift", "skill"] (defScope m_book_count_of) := ⟨rfl, rfl, rfl, by decide +kernel, rfl, by decide +kernel, by decide +kernel⟩
theorem valV_kvC (s : Shift) (k : Str) : valV (kvC s.needs) (Sum.inr k) = (needOf s k).map V.int := by
  unfold kvC needOf
  rw [valV_map (fun x : Str × Int => x.1) (fun x => V.int x.2), Option.map_map]
  rfl
theorem okB_count_of (T : Txt K mg) {f : Addr} {fd : FuncData} (F : FunD K "count_of" "Book.count_of" (defArgs m_book_count_of) (defBody m_book_count_of) (defScope m_book_count_of) [] [] f fd) : FnOk P w K mg base (L2.CX P w) 1 f fd ["self", "shift", "skill"] (spR K fr_count_of) := by
  refine F.ok scB_count_of (fun vs H Q E h => ?_) (fun cdv A outer s H vs Q E hr h => ?_)
  · obtain ⟨G, R, a, β, us, ds, rfl, h1, h2, h3, h4, h5, q⟩ := h
    obtain ⟨n, k, rfl⟩ := s2_inv q
    rw [List.length_cons, h5.len]; rfl
  · obtain ⟨G, R, a, β, us, ds, rfl, h1, h2, h3, h4, h5, q⟩ := h
    have hu := hu_of hr
    obtain ⟨n, k, rfl⟩ := s2_inv q
    obtain ⟨dx, dS, dL, dR, dT, dN, pe, sh, b⟩ := h4
    obtain ⟨v, u, rfl, r, r2⟩ := h5.two
    have := r.s
    subst this
    have := r2.s
    subst this
    have T' := T.bk
    have ob := h2 _ _ b.ob
    have cN := h2 _ _ b.cN
    refine ⟨_, pss_cons (ps_if (pw_or (pt_cmp (pc_dnotin hu (pv 1) (pe_fld (pv 0) rfl))) (pw_or1 (pt_cmp (pc_dnotin hu (pv 2) (pe_dget hu (pe_fld (pv 0) rfl) (pv 1) (fun _ _ => rfl)))))).pt (pss_one (ps_raise rfl (takes_of rfl rfl rfl rfl) (pmk_own PySem.F.excBase_ValueError T.e_Missing.x T.e_Missing.g T.e_Missing.k (raises_own T.e_Missing.b T.e_Missing.t) rfl))) pss_nil)
      (pss_one (ps_ret (pe_dget hu (pe_dget hu (pe_fld (pv 0) rfl) (pv 1) (fun _ _ => rfl)) (pv 2) (fun _ _ => rfl)))), ?_⟩
    refine ⟨_, rfl, _, rfl, a, _, dx, _, _, rfl, ob, T'.cl, T'.nN, lk_N, dN, _, rfl, DGet.k (k := Sum.inr n) cN, _, rfl, ?_⟩
    have q' : (mis ((findS β n).bind fun s => needOf s k) .int).goes _ _ := q
    cases hp : findS β n with
    | none =>
      rw [hp] at q'
      rw [(b.noShift hp).2]
      refine iteT ?_
      exact q' H G (Grow.refl h1)
    | some s0 =>
      rw [hp] at q'
      obtain ⟨x, hx, e1, e2, e3, e4⟩ := b.shift hp
      rw [e4]
      refine iteF ?_
      have hc := h2 _ _ (b.sc x hx)
      rw [e1] at hc
      refine ⟨_, rfl, _, rfl, a, _, dx, _, _, rfl, ob, T'.cl, T'.nN, lk_N, _, rfl, dN, .ref x.2.2, rfl, by rw [← e4]; exact DGet.k (k := Sum.inr n) cN, ?_⟩
      refine ⟨x.2.2, _, rfl, DGet.k (k := Sum.inr k) hc, _, rfl, ?_⟩
      rw [valV_kvC]
      cases hk : needOf s0 k with
      | none =>
        have q2 : (mis (needOf s0 k) PyData.int).goes _ _ := q'
        rw [hk] at q2
        refine iteT ?_
        exact q2 H G (Grow.refl h1)
      | some c =>
        have q2 : (mis (needOf s0 k) PyData.int).goes _ _ := q'
        rw [hk] at q2
        refine iteF ?_
        refine ⟨_, rfl, a, _, dx, _, _, rfl, ob, T'.cl, T'.nN, lk_N, _, rfl, dN, .ref x.2.2, rfl, by rw [← e4]; exact DGet.k (k := Sum.inr n) cN, ?_⟩
        refine ⟨_, rfl, x.2.2, .int c, rfl, ?_, q2 _ H G (Grow.refl h1) (rp_int _)⟩
        have : valV (kvC s0.needs) (Sum.inr k) = some (.int c) := by rw [valV_kvC, hk]; rfl
        rw [← this]
        exact DGet.k (k := Sum.inr k) hc
end
section
variable {P : Program} {w : World} {K : PySem.W.Frag} {mg : Str → Option Value} {base : Heap}
theorem upd_comm2 {H : Hp} {a b : Addr} {o u : HO} (h : a ≠ b) : upd (upd H a o) b u = upd (upd H b u) a o := by
  funext c
  unfold upd
  by_cases h1 : c = b
  · rw [if_pos h1, if_neg (fun z => h (z.symm.trans h1)), if_pos h1]
  · rw [if_neg h1]
    by_cases h2 : c = a
    · rw [if_pos h2, if_pos h2]
    · rw [if_neg h2, if_neg h2, if_neg h1]
theorem upd_back {H : Hp} {a : Addr} {o u : HO} (h : H a = some u) : upd (upd H a o) a u = H := by
  funext c
  unfold upd
  by_cases h1 : c = a
  · rw [if_pos h1, h1, h]
  · rw [if_neg h1, if_neg h1]
theorem scB_posts : FnScope ["self", "found", "shift", "skill"] ["self"] (defScope m_book_posts) := ⟨rfl, rfl, rfl, by decide +kernel, rfl, by decide +kernel, by decide +kernel⟩
theorem okB_posts (T : Txt K mg) {f : Addr} {fd : FuncData} (F : FunD K "posts" "Book.posts" (defArgs m_book_posts) (defBody m_book_posts) (defScope m_book_posts) [] [] f fd) : FnOk P w K mg base (L2.CX P w) 1 f fd ["self"] (spR K fr_posts) := by
  refine F.ok scB_posts (fun vs H Q E h => ?_) (fun cdv A outer s H vs Q E hr h => ?_)
  · obtain ⟨G, R, a, β, us, ds, rfl, h1, h2, h3, h4, h5, q⟩ := h
    have := s0_inv q
    subst this
    rw [List.length_cons, h5.len]; rfl
  · obtain ⟨G, R, a, β, us, ds, rfl, h1, h2, h3, h4, h5, q⟩ := h
    have hu := hu_of hr
    have := s0_inv q
    subst this
    cases h5
    obtain ⟨dx, dS, dL, dR, dT, dN, pe, sh, b⟩ := h4
    have T' := T.bk
    have ob := h2 _ _ b.ob
    have cN := h2 _ _ b.cN
    refine ⟨_, pss_cons (ps_set (i := 1) scB_posts.nd rfl (Or.inl rfl) (pe_lst pa_nil))
      (pss_cons (ps_lock (ps_for (passes_of rfl) rfl (pi_keys (pe_fld (pv 0) rfl)) (pg_name (i := 2) scB_posts.nd rfl (Or.inl rfl))
        (pss_one (ps_lock (ps_for (passes_of rfl) rfl (pi_keys (pe_dget hu (pe_fld (pv 0) rfl) (pv 2) (fun _ _ => rfl))) (pg_name (i := 3) scB_posts.nd rfl (Or.inl rfl))
          (pss_one (ps_expr (pe_bm PySem.F.plainAttrs_list PySem.F.slot_list_append PySem.F.type_list_append mt_append (pv 1) (pa_cons (pe_tup (pa_cons (pv 2) (pa_cons (pv 3) pa_nil))) pa_nil)))))))))
      (pss_one (ps_ret (pv 1)))), ?_⟩
    refine ⟨by decide, fun p hp => ?_⟩
    have adN := ne_of ob cN (by intro z; cases z)
    have apa := ne_of_none ob hp
    have pN := ne_of_none cN hp
    refine ⟨dN, .dK (kvN sh), by rw [upd_ne pN]; exact cN, trivial, fun od => ?_⟩
    refine ⟨_, rfl, a, _, dx, _, _, rfl, by rw [upd_ne adN, upd_ne apa]; exact ob, T'.cl, T'.nN, lk_N, dN, od, rfl, .inl ⟨kvN sh, upd_same, ?_⟩⟩
    refine for_keys (d := dN) (o := od) (kvs := kvN sh) (fun i σ H3 => ∃ (Hu Gu : Hp) (acc : List V) (s2 s3 : Option V), σ = [some (.ref a), some (.ref p), s2, s3] ∧ H3 = upd Hu dN (.frz od (.dK (kvN sh))) ∧ Grow H G Hu Gu ∧ Hu p = some (.lst acc) ∧ Gu p = none ∧ acc.length ≤ 1000 * i ∧
      DqAll K Gu acc (((sh.take i).flatMap fun x => x.1.needs.map fun n => (x.1.name, n.1)).map postD))
      ⟨upd H p (.lst []), G, [], none, none, rfl, rfl, (Grow.refl h1).beside hp, upd_same, h1.free hp, Nat.zero_le _, .nil⟩ (fun i σ H3 _ h => by obtain ⟨_, _, _, _, _, _, rfl, _⟩ := h; exact upd_same) ?_ ?_
    · rintro i k v σ H3 hi ⟨Hu, Gu, acc, s2, s3, rfl, rfl, g, hpu, gpu, hl, hA⟩
      unfold kvN at hi
      rw [List.getElem?_map] at hi
      cases hx : sh[i]? with
      | none => rw [hx] at hi; cases hi
      | some x =>
      rw [hx] at hi
      cases hi
      have hxm := List.mem_of_getElem? hx
      have hc := g.h _ _ (h2 _ _ (b.sc x hxm))
      have cNu := g.h _ _ cN
      have obu := g.h _ _ ob
      have nCN : x.2.2 ≠ dN := fun z => b.nn x hxm (by rw [z]; simp)
      have nCp : x.2.2 ≠ p := ne_of hc hpu (by intro z; cases z)
      have naC := ne_of obu hc (by intro z; cases z)
      obtain ⟨y, hy, y1, y2, y3, y4⟩ := b.shift (n := x.1.name) (s := x.1) (by
        have nodup := b.us
        unfold findS
        rw [← b.sn] at nodup ⊢
        cases hf : (sh.map (·.1)).find? fun s => decide (s.name = x.1.name) with
        | none => rw [List.find?_eq_none] at hf; exact absurd (decide_eq_true rfl) (hf x.1 (List.mem_map_of_mem hxm))
        | some z =>
          have e1 := List.mem_of_find?_eq_some hf
          have e2 : z.name = x.1.name := of_decide_eq_true (by simpa using List.find?_some hf)
          rw [nodup_inj nodup e1 (List.mem_map_of_mem hxm) e2])
      have exy : y = x := nodup_inj (f := fun x : Shift × Addr × Addr => x.1.name) b.snames hy hxm (by rw [y1])
      subst exy
      refine ⟨y.2.2, .dK (kvC y.1.needs), by rw [upd_ne nCN]; exact hc, trivial, fun od2 => ?_⟩
      refine ⟨_, rfl, a, _, dx, _, _, rfl, by rw [upd_ne naC, upd_ne adN]; exact obu, T'.cl, T'.nN, lk_N, _, rfl, dN, .ref y.2.2, rfl, .inl ⟨kvN sh, Sum.inr y.1.name, .inr ⟨od, by rw [upd_ne (Ne.symm nCN)]; exact upd_same⟩, rfl, y4.symm⟩, y.2.2, od2, rfl, .inl ⟨kvC y.1.needs, upd_same, ?_⟩⟩
      refine for_keys (d := y.2.2) (o := od2) (kvs := kvC y.1.needs) (fun j σ H4 => ∃ (Hv Gv : Hp) (acc : List V) (s3 : Option V), σ = [some (.ref a), some (.ref p), some (.str y.1.name), s3] ∧ H4 = upd (upd Hv dN (.frz od (.dK (kvN sh)))) y.2.2 (.frz od2 (.dK (kvC y.1.needs))) ∧ Grow H G Hv Gv ∧ Hv p = some (.lst acc) ∧ Gv p = none ∧ acc.length ≤ 1000 * i + j ∧
        DqAll K Gv acc ((((sh.take i).flatMap fun x => x.1.needs.map fun n => (x.1.name, n.1)) ++ (y.1.needs.take j).map fun n => (y.1.name, n.1)).map postD))
        ⟨Hu, Gu, acc, _, rfl, rfl, g, hpu, gpu, hl, by simpa using hA⟩ (fun j σ H3 _ h => by obtain ⟨_, _, _, _, _, rfl, _⟩ := h; exact upd_same) ?_ ?_
      · rintro j k v σ H4 hj ⟨Hv, Gv, acc2, s3', rfl, rfl, g2, hpv, gpv, hl2, hA2⟩
        unfold kvC at hj
        rw [List.getElem?_map] at hj
        cases hn : y.1.needs[j]? with
        | none => rw [hn] at hj; cases hj
        | some nd =>
        rw [hn] at hj
        cases hj
        have npN : p ≠ dN := Ne.symm pN
        have npC : p ≠ y.2.2 := Ne.symm nCp
        have hp4 : (upd (upd Hv dN (.frz od (.dK (kvN sh)))) y.2.2 (.frz od2 (.dK (kvC y.1.needs)))) p = some (.lst acc2) := by rw [upd_ne npC, upd_ne npN]; exact hpv
        refine ⟨.ref p, rfl, .inl ⟨rfl, acc2, SqL.of hp4⟩, _, rfl, _, rfl, by show 2 ≤ sizeLine; decide, fun t ht => ?_⟩
        have htC : t ≠ y.2.2 := fun z => by rw [z, upd_same] at ht; cases ht
        rw [upd_ne htC] at ht
        have htN : t ≠ dN := fun z => by rw [z, upd_same] at ht; cases ht
        rw [upd_ne htN] at ht
        have htp : p ≠ t := ne_of_none hpv ht
        have jl : j < y.1.needs.length := (List.getElem?_eq_some_iff.mp hn).1
        have il : i < sh.length := (List.getElem?_eq_some_iff.mp hx).1
        have s1000 := (b.sz.2.2.2 y.1 (by rw [← b.sn]; exact List.mem_map_of_mem hxm))
        have s1000' : sh.length ≤ 1000 := by
          have := congrArg List.length b.sn
          rw [List.length_map] at this
          rw [this]
          exact b.sz.2.1
        refine ⟨p, acc2, .ref t, rfl, rfl, by rw [upd_ne htp]; exact hp4, Nat.lt_of_le_of_lt (show acc2.length ≤ 2000000 by omega) (by decide), ?_⟩
        have gn := g2.new (o := .tup [.str y.1.name, .str nd.1]) ht
        refine ⟨upd (upd Hv t (.tup [.str y.1.name, .str nd.1])) p (.lst (acc2 ++ [.ref t])), upd Gv t (.tup [.str y.1.name, .str nd.1]), acc2 ++ [.ref t], _, rfl, ?_, ⟨fun c o e => ?_, gn.f, fun c o e => ?_, gn.no⟩, upd_same, ?_, ?_, ?_⟩
        · rw [upd_comm2 (a := y.2.2) (b := t) (Ne.symm htC), upd_comm2 (a := dN) (b := t) (Ne.symm htN), upd_comm2 (a := y.2.2) (b := p) nCp, upd_comm2 (a := dN) (b := p) pN]
          rfl
        · rw [upd_ne (ne_of_none e hp)]; exact gn.h c o e
        · rw [upd_ne (ne_of_none e (by rw [upd_ne htp]; exact gpv))]; exact gn.sub c o e
        · rw [upd_ne htp]; exact gpv
        · rw [List.length_append, List.length_singleton]; omega
        · have e : ((((sh.take i).flatMap fun x => x.1.needs.map fun n => (x.1.name, n.1)) ++ (y.1.needs.take (j + 1)).map fun n => (y.1.name, n.1)).map postD) = ((((sh.take i).flatMap fun x => x.1.needs.map fun n => (x.1.name, n.1)) ++ (y.1.needs.take j).map fun n => (y.1.name, n.1)).map postD) ++ [postD (y.1.name, nd.1)] := by
            rw [List.take_add_one, hn]
            simp only [Option.toList_some, List.map_append, List.map_cons, List.map_nil, List.append_assoc]
          rw [e]
          refine (dpa_mono (Same.upd_new (Same.refl Gv) (g2.sub.free ht)) _ hA2).append (.cons ?_ .nil)
          exact .tup (.inl (.inl upd_same)) (.cons (.str _) (.cons (.str _) .nil))
      · rintro σ H4 ⟨Hv, Gv, acc2, s3', rfl, rfl, g2, hpv, gpv, hl2, hA2⟩
        have hl3 : (kvC y.1.needs).length = y.1.needs.length := by unfold kvC; rw [List.length_map]
        have s1000 := (b.sz.2.2.2 y.1 (by rw [← b.sn]; exact List.mem_map_of_mem hxm))
        refine ⟨upd_same, Hv, Gv, acc2, _, _, rfl, ?_, g2, hpv, gpv, by omega, ?_⟩
        · rw [upd_back]
          rw [upd_ne nCN]
          exact g2.h _ _ (h2 _ _ (b.sc y hxm))
        · rw [hl3, List.take_length] at hA2
          rw [List.take_add_one, hx]
          simpa using hA2
    · rintro σ H3 ⟨Hu, Gu, acc, s2, s3, rfl, rfl, g, hpu, gpu, hl, hA⟩
      refine ⟨upd_same, _, rfl, ?_⟩
      rw [upd_back (g.h _ _ cN)]
      have hl3 : (kvN sh).length = sh.length := by unfold kvN; rw [List.length_map]
      rw [hl3, List.take_length] at hA
      have q' : ∀ v H' G', Grow H G H' G' → Rp K G' v (.list ((postsB β).map postD)) → Q v H' := q
      refine q' (.ref p) Hu (upd Gu p (.lst acc)) (g.within hp gpu hpu) (.inl (.lst upd_same ?_))
      have e : postsB β = sh.flatMap fun x => x.1.needs.map fun n => (x.1.name, n.1) := by
        unfold postsB
        rw [← b.sn, List.flatMap_map]
      rw [e]
      exact dpa_mono (Same.upd_new (Same.refl Gu) gpu) _ hA
end
end RK
namespace RK
open PySem PySem.Spec PyProof.Rows L2 RT
/-! ### methods that change the book -/
section
variable {P : Program} {w : World} {K : PySem.W.Frag} {mg : Str → Option Value} {base : Heap}
theorem putF_book (dS dL dR dT dN : Addr) : putF "needs" (.ref dN) (putF "stretches" (.ref dT) (putF "rests" (.ref dR) (putF "limits" (.ref dL) (putF "skills" (.ref dS) [])))) = bkFs dS dL dR dT dN := by
  have h : ∀ {a b : Str} {v : V}, (a == b) = false → ¬ a = b := fun h e => by rw [e] at h; simp at h
  have h1 : ¬ (("skills" : Str) = "limits") := by decide +kernel
  have h2 : ¬ (("skills" : Str) = "rests") := by decide +kernel
  have h3 : ¬ (("skills" : Str) = "stretches") := by decide +kernel
  have h4 : ¬ (("skills" : Str) = "needs") := by decide +kernel
  have h5 : ¬ (("limits" : Str) = "rests") := by decide +kernel
  have h6 : ¬ (("limits" : Str) = "stretches") := by decide +kernel
  have h7 : ¬ (("limits" : Str) = "needs") := by decide +kernel
  have h8 : ¬ (("rests" : Str) = "stretches") := by decide +kernel
  have h9 : ¬ (("rests" : Str) = "needs") := by decide +kernel
  have h10 : ¬ (("stretches" : Str) = "needs") := by decide +kernel
  simp [putF, bkFs, h1, h2, h3, h4, h5, h6, h7, h8, h9, h10]
theorem putF_lt {f : Str} {v : V} {n : Nat} : ∀ {fs : List (Str × V)}, fs.length < n → (putF f v fs).length < n + 1
  | [], h => by simp only [putF, List.length_cons, List.length_nil] at h ⊢; omega
  | (g, x) :: r, h => by
    simp only [putF]
    split
    · simp only [List.length_cons] at h ⊢; omega
    · have := putF_lt (f := f) (v := v) (n := n - 1) (fs := r) (by simp only [List.length_cons] at h; omega)
      simp only [List.length_cons] at h ⊢; omega
theorem scB_init : FnScope ["self"] ["self"] (defScope m_book_init) := ⟨rfl, rfl, rfl, by decide +kernel, rfl, by decide +kernel, by decide +kernel⟩
theorem okB_init (T : Txt K mg) {f : Addr} {fd : FuncData} (F : FunD K "__init__" "Book.__init__" (defArgs m_book_init) (defBody m_book_init) (defScope m_book_init) [] [] f fd) : FnOk P w K mg base CX0 1 f fd ["self"] (spInit K) := by
  refine F.ok scB_init (fun vs H Q E h => ?_) (fun cdv A outer s H vs Q E hr h => ?_)
  · obtain ⟨p, dx, rfl, _⟩ := h
    rfl
  · obtain ⟨p, dx, rfl, hp, hx, k⟩ := h
    have T' := T.bk
    refine ⟨_, pss_cons (ps_fld (pv 0) pe_dnewK rfl) (pss_cons (ps_fld (pv 0) pe_dnewK rfl) (pss_cons (ps_fld (pv 0) pe_dnewK rfl) (pss_cons (ps_fld (pv 0) pe_dnewK rfl) (pss_one (ps_fld (pv 0) pe_dnewK rfl))))), ?_⟩
    have npx : p ≠ dx := ne_of hp hx (by intro z; cases z)
    intro dS hS
    have nS : p ≠ dS := ne_of_none hp hS
    refine ⟨_, rfl, p, _, dx, [], rfl, by rw [upd_ne nS]; exact hp, T'.cl, T'.nS, by decide, ?_⟩
    intro dL hL
    have nL : p ≠ dL := ne_of_none (H := upd (upd H dS (.dK [])) p _) upd_same hL
    refine ⟨_, rfl, p, _, dx, _, rfl, by rw [upd_ne nL]; exact upd_same, T'.cl, T'.nL, Nat.lt_of_lt_of_le (putF_lt (n := 1) (by decide)) (by decide), ?_⟩
    intro dR hR
    have nR : p ≠ dR := ne_of_none (H := upd (upd (upd (upd H dS (.dK [])) p _) dL (.dK [])) p _) upd_same hR
    refine ⟨_, rfl, p, _, dx, _, rfl, by rw [upd_ne nR]; exact upd_same, T'.cl, T'.nR, Nat.lt_of_lt_of_le (putF_lt (n := 2) (putF_lt (n := 1) (by decide))) (by decide), ?_⟩
    intro dT hT
    have nT : p ≠ dT := ne_of_none (H := upd (upd (upd (upd (upd (upd H dS (.dK [])) p _) dL (.dK [])) p _) dR (.dK [])) p _) upd_same hT
    refine ⟨_, rfl, p, _, dx, _, rfl, by rw [upd_ne nT]; exact upd_same, T'.cl, T'.nT, Nat.lt_of_lt_of_le (putF_lt (n := 3) (putF_lt (n := 2) (putF_lt (n := 1) (by decide)))) (by decide), ?_⟩
    intro dN hN
    have nN : p ≠ dN := ne_of_none (H := upd (upd (upd (upd (upd (upd (upd (upd H dS (.dK [])) p _) dL (.dK [])) p _) dR (.dK [])) p _) dT (.dK [])) p _) upd_same hN
    refine ⟨_, rfl, p, _, dx, _, rfl, by rw [upd_ne nN]; exact upd_same, T'.cl, T'.nN, Nat.lt_of_lt_of_le (putF_lt (n := 4) (putF_lt (n := 3) (putF_lt (n := 2) (putF_lt (n := 1) (by decide))))) (by decide), ?_⟩
    have a1 : H dL = none ∧ dL ≠ dS := by
      rw [upd_ne (Ne.symm nL)] at hL
      by_cases e : dL = dS
      · rw [e, upd_same] at hL; cases hL
      · rw [upd_ne e] at hL; exact ⟨hL, e⟩
    have a2 : H dR = none ∧ dR ≠ dS ∧ dR ≠ dL := by
      rw [upd_ne (Ne.symm nR)] at hR
      by_cases e : dR = dL
      · rw [e, upd_same] at hR; cases hR
      · rw [upd_ne e, upd_ne (Ne.symm nR)] at hR
        by_cases e2 : dR = dS
        · rw [e2, upd_same] at hR; cases hR
        · rw [upd_ne e2] at hR; exact ⟨hR, e2, e⟩
    have a3 : H dT = none ∧ dT ≠ dS ∧ dT ≠ dL ∧ dT ≠ dR := by
      rw [upd_ne (Ne.symm nT)] at hT
      by_cases e : dT = dR
      · rw [e, upd_same] at hT; cases hT
      · rw [upd_ne e, upd_ne (Ne.symm nT)] at hT
        by_cases e2 : dT = dL
        · rw [e2, upd_same] at hT; cases hT
        · rw [upd_ne e2, upd_ne (Ne.symm nT)] at hT
          by_cases e3 : dT = dS
          · rw [e3, upd_same] at hT; cases hT
          · rw [upd_ne e3] at hT; exact ⟨hT, e3, e2, e⟩
    have a4 : H dN = none ∧ dN ≠ dS ∧ dN ≠ dL ∧ dN ≠ dR ∧ dN ≠ dT := by
      rw [upd_ne (Ne.symm nN)] at hN
      by_cases e : dN = dT
      · rw [e, upd_same] at hN; cases hN
      · rw [upd_ne e, upd_ne (Ne.symm nN)] at hN
        by_cases e2 : dN = dR
        · rw [e2, upd_same] at hN; cases hN
        · rw [upd_ne e2, upd_ne (Ne.symm nN)] at hN
          by_cases e3 : dN = dL
          · rw [e3, upd_same] at hN; cases hN
          · rw [upd_ne e3, upd_ne (Ne.symm nN)] at hN
            by_cases e4 : dN = dS
            · rw [e4, upd_same] at hN; cases hN
            · rw [upd_ne e4] at hN; exact ⟨hN, e4, e3, e2, e⟩
    obtain ⟨hL0, b1⟩ := a1
    obtain ⟨hR0, b2, b3⟩ := a2
    obtain ⟨hT0, b4, b5, b6⟩ := a3
    obtain ⟨hN0, b7, b8, b9, b10⟩ := a4
    have cS : dx ≠ dS := ne_of_none hx hS
    have cL : dx ≠ dL := ne_of_none hx hL0
    have cR : dx ≠ dR := ne_of_none hx hR0
    have cT : dx ≠ dT := ne_of_none hx hT0
    have cN : dx ≠ dN := ne_of_none hx hN0
    rw [putF_book]
    refine k _ (upd (upd (upd (upd (upd (upd (upd (fun _ => none) dx (.own p)) dS (.dK [])) dL (.dK [])) dR (.dK [])) dT (.dK [])) dN (.dK [])) p (.ins (He.ga K "Book") dx (bkFs dS dL dR dT dN))) (fun b o hb e => ?_) (fun b o e => ?_) (fun b e => ?_) (fun F => ?_)
    · have h1 := ne_of_none e hS
      have h2 := ne_of_none e hL0
      have h3 := ne_of_none e hR0
      have h4 := ne_of_none e hT0
      have h5 := ne_of_none e hN0
      simp only [upd, hb, h1, h2, h3, h4, h5, if_false]
      exact e
    · unfold upd at e ⊢
      by_cases q0 : b = p
      · rw [if_pos q0] at e ⊢; exact e
      · rw [if_neg q0] at e ⊢
        by_cases q5 : b = dN
        · rw [if_pos q5] at e ⊢; exact e
        · rw [if_neg q5] at e ⊢
          rw [if_neg q0]
          by_cases q4 : b = dT
          · rw [if_pos q4] at e ⊢; exact e
          · rw [if_neg q4] at e ⊢
            rw [if_neg q0]
            by_cases q3 : b = dR
            · rw [if_pos q3] at e ⊢; exact e
            · rw [if_neg q3] at e ⊢
              rw [if_neg q0]
              by_cases q2 : b = dL
              · rw [if_pos q2] at e ⊢; exact e
              · rw [if_neg q2] at e ⊢
                rw [if_neg q0]
                by_cases q1 : b = dS
                · rw [if_pos q1] at e ⊢; exact e
                · rw [if_neg q1] at e ⊢
                  by_cases q6 : b = dx
                  · rw [if_pos q6] at e
                    rw [q6, hx]
                    exact e
                  · rw [if_neg q6] at e; cases e
    · unfold upd at e
      by_cases q0 : b = p
      · exact .inl q0
      · by_cases q6 : b = dx
        · exact .inr (.inl q6)
        · refine .inr (.inr ?_)
          by_cases q5 : b = dN
          · rw [q5]; exact hN0
          · by_cases q4 : b = dT
            · rw [q4]; exact hT0
            · by_cases q3 : b = dR
              · rw [q3]; exact hR0
              · by_cases q2 : b = dL
                · rw [q2]; exact hL0
                · by_cases q1 : b = dS
                  · rw [q1]; exact hS
                  · exact absurd (by rw [if_neg q0, if_neg q5, if_neg q4, if_neg q3, if_neg q2, if_neg q1, if_neg q6]) e
    · refine ⟨dx, dS, dL, dR, dT, dN, [], [], { pn := rfl, sn := rfl, ob := upd_same, ow := ?_, cS := ?_, cL := ?_, cR := ?_, cT := ?_, cN := ?_, nd := ?_, ps := fun _ h => absurd h List.not_mem_nil, pr := fun _ h => absurd h List.not_mem_nil, st := fun _ h => absurd h List.not_mem_nil, sc := fun _ h => absurd h List.not_mem_nil, rn := List.nodup_nil, rs := fun _ h => absurd h List.not_mem_nil, nn := fun _ h => absurd h List.not_mem_nil, un := List.nodup_nil, us := List.nodup_nil, sz := ⟨by decide, by decide, fun _ h => absurd h List.not_mem_nil, fun _ h => absurd h List.not_mem_nil⟩ }⟩
      · simp [upd, Ne.symm npx, cS, cL, cR, cT, cN]
      · simp [upd, Ne.symm nS, Ne.symm b1, Ne.symm b2, Ne.symm b4, Ne.symm b7, kvS]
      · simp [upd, Ne.symm nL, Ne.symm b3, Ne.symm b5, Ne.symm b8, kvL]
      · simp [upd, Ne.symm nR, Ne.symm b6, Ne.symm b9, kvR]
      · simp [upd, Ne.symm nT, Ne.symm b10, kvT]
      · simp [upd, Ne.symm nN, kvN]
      · simp [Ne.symm b1, Ne.symm b2, Ne.symm b4, Ne.symm b7, Ne.symm b3, Ne.symm b5, Ne.symm b8, Ne.symm b6, Ne.symm b9, Ne.symm b10]
end
end RK
namespace RK
open PySem PySem.Spec PyProof.Rows L2 RT
section
variable {P : Program} {w : World} {K : PySem.W.Frag} {mg : Str → Option Value} {base : Heap}
/-- whether a value is a stretch; which -/
def isSt (d : PyData) : Option (Option (Int × Int)) := match F_is_stretch [d] with
  | some (.bool false) => some none
  | some (.bool true) => (match d with
    | .tuple [.int x, .int y] => some (some (x, y))
    | _ => none)
  | _ => none
theorem isSt_none {d : PyData} (h : isSt d = some none) : F_is_stretch [d] = some (.bool false) := by
  unfold isSt at h
  split at h
  · assumption
  · split at h <;> cases h
  · cases h
theorem isSt_some {d : PyData} {r : Int × Int} (h : isSt d = some (some r)) : F_is_stretch [d] = some (.bool true) ∧ d = stD r := by
  unfold isSt at h
  split at h
  · cases h
  · split at h
    · cases h
      exact ⟨by assumption, rfl⟩
    · cases h
  · cases h
def ms (g : Str → PyData → RM) : List PyData → RM
  | [.str n, d] => g n d
  | _ => .no
theorem ms_inv {g : Str → PyData → RM} {ds : List PyData} {A : BookSt → PyData → Prop} {B : Str → Prop} (q : (ms g ds).goes A B) : ∃ n d, ds = [.str n, d] := by
  unfold ms at q
  split at q
  · exact ⟨_, _, rfl⟩
  · exact (show False from q).elim
def addRest (β : BookSt) (n : Str) (d : PyData) : RM := match findP β n with
  | none => .exc "Missing"
  | some p => match isSt d with
    | none => .no
    | some none => .exc "BadStretch"
    | some (some r) => if p.rests.length < 1000 then .done (restB β n r) .none else .no
def fm_add_rest (β : BookSt) : List PyData → RM := ms (addRest β)
theorem scB_add_rest : FnScope ["self", "name", "stretch"] ["self", "name", "stretch"] (defScope m_book_add_rest) := ⟨rfl, rfl, rfl, by decide +kernel, rfl, by decide +kernel, by decide +kernel⟩
theorem okB_add_rest (T : Txt K mg) {f : Addr} {fd : FuncData} (F : FunD K "add_rest" "Book.add_rest" (defArgs m_book_add_rest) (defBody m_book_add_rest) (defScope m_book_add_rest) [] [] f fd) : FnOk P w K mg base (L2.CX P w) 3 f fd ["self", "name", "stretch"] (spM K fm_add_rest) := by
  obtain ⟨fm, fdm, psm, GM, gm, km, bm⟩ := (ok_is_stretch (P := P) (w := w) (base := base) T).ex
  refine F.ok scB_add_rest (fun vs H Q E h => ?_) (fun cdv A outer s H vs Q E hr h => ?_)
  · obtain ⟨G, R, a, β, us, ds, rfl, h1, h2, h3, h4, h5, q⟩ := h
    obtain ⟨n, d, rfl⟩ := ms_inv q
    rw [List.length_cons, h5.len]; rfl
  · obtain ⟨G, R, a, β, us, ds, rfl, h1, h2, h3, h4, h5, q⟩ := h
    have hu := hu_of hr
    obtain ⟨n, d, rfl⟩ := ms_inv q
    obtain ⟨v1, v2, rfl, r1, r2⟩ := h5.two
    have := r1.s
    subst this
    have T' := T.bk
    obtain ⟨dx, dS, dL, dR, dT, dN, pe, sh, b⟩ := h4
    have ob := h2 _ _ b.ob
    have cR := h2 _ _ b.cR
    refine ⟨_, pss_cons (ps_if (pt_cmp (pc_dnotin hu (pv 1) (pe_fld (pv 0) rfl))) (pss_one (ps_raise rfl (takes_of rfl rfl rfl rfl) (pmk_own PySem.F.excBase_ValueError T.e_Missing.x T.e_Missing.g T.e_Missing.k (raises_own T.e_Missing.b T.e_Missing.t) rfl))) pss_nil)
      (pss_cons (ps_if (pt_not (pt_val (pe_call GM hr (by rfl) gm km bm .nil pass0 (pa_cons (pv 2) pa_nil)))) (pss_one (ps_raise rfl (takes_of rfl rfl rfl rfl) (pmk_own PySem.F.excBase_ValueError T.e_BadStretch.x T.e_BadStretch.g T.e_BadStretch.k (raises_own T.e_BadStretch.b T.e_BadStretch.t) rfl))) pss_nil)
      (pss_one (ps_expr (pe_bm PySem.F.plainAttrs_list PySem.F.slot_list_append PySem.F.type_list_append mt_append (pe_dget hu (pe_fld (pv 0) rfl) (pv 1) (fun _ _ => rfl)) (pa_cons (pv 2) pa_nil))))), ?_⟩
    refine ⟨_, rfl, _, rfl, a, _, dx, _, _, rfl, ob, T'.cl, T'.nR, lk_R, dR, _, rfl, DGet.k (k := Sum.inr n) cR, _, rfl, ?_⟩
    have q1 : (addRest β n d).goes _ _ := q
    unfold addRest at q1
    cases hp : findP β n with
    | none =>
      rw [hp] at q1
      rw [(b.noPerson hp).2.2]
      refine iteT ?_
      exact q1 H G (Grow.refl h1)
    | some p =>
      rw [hp] at q1
      obtain ⟨x, hx, e1, e2, e3, e4, e5⟩ := b.person hp
      rw [e5]
      refine iteF ?_
      obtain ⟨vs, l1, l2⟩ := b.pr x hx
      cases hs : isSt d with
      | none => simp only [hs] at q1; exact (show False from q1).elim
      | some o =>
        cases o with
        | none =>
          simp only [hs] at q1
          refine ⟨_, rfl, G, [d], .bool false, h1, .cons r2 .nil, isSt_none hs, fun v5 H4 G4 g4 r5 => ?_⟩
          refine ⟨_, r5.bl, ?_⟩
          exact q1 H4 G4 g4
        | some r =>
          simp only [hs] at q1
          by_cases hlen : p.rests.length < 1000
          · rw [if_pos hlen] at q1
            obtain ⟨i1, rfl⟩ := isSt_some hs
            refine ⟨_, rfl, G, [stD r], .bool true, h1, .cons r2 .nil, i1, fun v5 H4 G4 g4 r5 => ?_⟩
            refine ⟨_, r5.bl, ?_⟩
            have hx2 := g4.h _ _ (h2 _ _ l1)
            refine ⟨_, rfl, a, _, dx, _, _, rfl, g4.h _ _ ob, T'.cl, T'.nR, lk_R, _, rfl, dR, .ref x.2.2, rfl, by rw [← e5]; exact DGet.k (k := Sum.inr n) (g4.h _ _ cR), ?_⟩
            refine ⟨.inl ⟨rfl, vs, SqL.of hx2⟩, ?_⟩
            refine ⟨_, rfl, x.2.2, vs, v2, rfl, rfl, hx2, ?_, ?_⟩
            · have : vs.length = x.1.rests.length := by rw [l2.len, List.length_map]
              rw [this, e1]
              exact Nat.lt_of_lt_of_le hlen (by decide)
            · have hv : Dq K G4 v2 (stD r) := (r2.mono g4.f).dp
              have nG : G4 x.2.2 = none := g4.apart h2 h3 _ (by rw [l1]; intro z; cases z)
              have B := b.rest (n := n) (r := r) (v := v2) hx e2 l1 l2 g4.f hv (by rw [e1]; exact hlen)
              refine q1 .non _ G4 (upd R x.2.2 (.lst (vs ++ [v2]))) ⟨fun y o hy hz => ?_, fun y hy => ?_, g4.f, fun y o hy => ?_, g4.no⟩ (fun y o hy => ?_) (fun y hy => ?_) (fun y hy => ?_) ⟨dx, dS, dL, dR, dT, dN, _, sh, B⟩ rp_non
              · rw [upd_ne (fun z => by rw [z] at hy; have hy' : R x.2.2 = none := hy; rw [l1] at hy'; cases hy')]
                exact g4.h y o hz
              · by_cases z : y = x.2.2
                · rw [z, upd_same]; intro q; cases q
                · rw [upd_ne z]; intro q; exact hy (g4.h.free q)
              · rw [upd_ne (ne_of_none hy nG)]
                exact g4.sub y o hy
              · by_cases z : y = x.2.2
                · rw [z, upd_same] at hy ⊢; exact hy
                · rw [upd_ne z] at hy ⊢; exact g4.h y o (h2 y o hy)
              · by_cases z : y = x.2.2
                · rw [z]; exact nG
                · rw [upd_ne z] at hy; exact g4.apart h2 h3 y hy
              · by_cases z : y = x.2.2
                · rw [z, l1]; exact .inl (by intro q; cases q)
                · rw [upd_ne z] at hy; exact .inl hy
          · rw [if_neg hlen] at q1; exact (show False from q1).elim
end
end RK
namespace RK
open PySem PySem.Spec PyProof.Rows L2 RT
section
variable {P : Program} {w : World} {K : PySem.W.Frag} {mg : Str → Option Value} {base : Heap}
def nameB (k : Str) : Option Bool := match F_is_name [.str k] with
  | some (.bool b) => some b
  | _ => none
theorem nameB_ok {k : Str} {b : Bool} (h : nameB k = some b) : F_is_name [.str k] = some (.bool b) := by
  unfold nameB at h
  split at h
  · cases h; assumption
  · cases h
/-- what the walk along skills ends with: an error's class, or none -/
def skErr : List Str → List Str → Option (Option Str)
  | _, [] => some none
  | seen, k :: l => match nameB k with
    | none => none
    | some false => some (some "BadName")
    | some true => if k ∈ seen then some (some "Twice") else skErr (seen ++ [k]) l
/-- a whole number within bounds -/
def numOk (m : Int) (d : PyData) : Option (Option Int) := match F_is_whole [d] with
  | some (.bool false) => some none
  | some (.bool true) => (match d with
    | .int i => some (if 1 ≤ i ∧ i ≤ m then some i else none)
    | _ => none)
  | _ => none
def addPerson (β : BookSt) (n : Str) (sk : List PyData) (d : PyData) : RM := match nameB n with
  | none => .no
  | some false => .exc "BadName"
  | some true => match gJoin.strsD sk with
    | none => .no
    | some l => if l.length ≤ 1000 ∧ β.people.length < 1000 then (match skErr [] l with
      | none => .no
      | some (some c) => .exc c
      | some none => match numOk 31 d with
        | none => .no
        | some none => .exc "BadCount"
        | some (some i) => match findP β n with
          | some _ => .exc "Twice"
          | none => .done ⟨β.people ++ [⟨n, l, i, []⟩], β.shifts⟩ .none) else .no
def fm_add_person (β : BookSt) : List PyData → RM
  | [.str n, .list sk, d] => addPerson β n sk d
  | _ => .no
theorem fm_add_person_inv {β : BookSt} {ds : List PyData} {A : BookSt → PyData → Prop} {B : Str → Prop} (q : (fm_add_person β ds).goes A B) : ∃ n sk d, ds = [.str n, .list sk, d] := by
  unfold fm_add_person at q
  split at q
  · exact ⟨_, _, _, rfl⟩
  · exact (show False from q).elim
def kvSeen (l : List Str) : List (Key × V) := l.map fun k => (Sum.inr k, V.bl true)
theorem kvSeen_val (k : Str) (l : List Str) : (valV (kvSeen l) (Sum.inr k)).isSome = decide (k ∈ l) := by
  unfold kvSeen
  rw [valV_map (fun x : Str => x) (fun _ => V.bl true)]
  induction l with
  | nil => rfl
  | cons z l ih =>
    rw [List.find?_cons]
    by_cases h : z = k
    · simp [h]
    · have h2 : ¬ k = z := fun e => h e.symm
      rw [decide_eq_false h]
      simp only [ih, List.mem_cons, h2, false_or]
theorem scB_add_person : FnScope ["self", "name", "skills", "limit", "seen", "skill"] ["self", "name", "skills", "limit"] (defScope m_book_add_person) := ⟨rfl, rfl, rfl, by decide +kernel, rfl, by decide +kernel, by decide +kernel⟩
theorem okB_add_person (T : Txt K mg) {f : Addr} {fd : FuncData} (F : FunD K "add_person" "Book.add_person" (defArgs m_book_add_person) (defBody m_book_add_person) (defScope m_book_add_person) [] [] f fd) : FnOk P w K mg base (L2.CX P w) 2 f fd ["self", "name", "skills", "limit"] (spM K fm_add_person) := by
  obtain ⟨fm, fdm, psm, GM, gm, km, bm⟩ := (ok_is_name (P := P) (w := w) (base := base) T).ex
  obtain ⟨fw, fdw, psw, GW, gw, kw, bw⟩ := (ok_is_whole (P := P) (w := w) (base := base) T).ex
  refine F.ok scB_add_person (fun vs H Q E h => ?_) (fun cdv A outer s H vs Q E hr h => ?_)
  · obtain ⟨G, R, a, β, us, ds, rfl, h1, h2, h3, h4, h5, q⟩ := h
    obtain ⟨n, sk, d, rfl⟩ := fm_add_person_inv q
    rw [List.length_cons, h5.len]; rfl
  · obtain ⟨G, R, a, β, us, ds, rfl, h1, h2, h3, h4, h5, q⟩ := h
    have hu := hu_of hr
    obtain ⟨n, sk, d, rfl⟩ := fm_add_person_inv q
    obtain ⟨v1, v2, v3, rfl, r1, r2, r3⟩ := h5.three
    have := r1.s
    subst this
    have T' := T.bk
    obtain ⟨dx, dS, dL, dR, dT, dN, pe, sh, b⟩ := h4
    have ob := h2 _ _ b.ob
    have cS := h2 _ _ b.cS
    have cL := h2 _ _ b.cL
    have cR := h2 _ _ b.cR
    have q1 : (addPerson β n sk d).goes _ _ := q
    unfold addPerson at q1
    refine ⟨_, pss_cons (ps_if (pt_not (pt_val (pe_call GM hr (by rfl) gm km bm .nil pass0 (pa_cons (pv 1) pa_nil)))) (pss_one (ps_raise rfl (takes_of rfl rfl rfl rfl) (pmk_own PySem.F.excBase_ValueError T.e_BadName.x T.e_BadName.g T.e_BadName.k (raises_own T.e_BadName.b T.e_BadName.t) rfl))) pss_nil)
      (pss_cons (ps_set (i := 4) scB_add_person.nd rfl (Or.inl rfl) pe_dnewK)
      (pss_cons (ps_for (passes_of rfl) rfl (pi_list (pv 2)) (pg_name (i := 5) scB_add_person.nd rfl (Or.inl rfl))
        (pss_cons (ps_if (pt_not (pt_val (pe_call GM hr (by rfl) gm km bm .nil pass0 (pa_cons (pv 5) pa_nil)))) (pss_one (ps_raise rfl (takes_of rfl rfl rfl rfl) (pmk_own PySem.F.excBase_ValueError T.e_BadName.x T.e_BadName.g T.e_BadName.k (raises_own T.e_BadName.b T.e_BadName.t) rfl))) pss_nil)
        (pss_cons (ps_if (pt_cmp (pc_din hu (pv 5) (pv 4))) (pss_one (ps_raise rfl (takes_of rfl rfl rfl rfl) (pmk_own PySem.F.excBase_ValueError T.e_Twice.x T.e_Twice.g T.e_Twice.k (raises_own T.e_Twice.b T.e_Twice.t) rfl))) pss_nil)
        (pss_one (ps_dput hu (pv 4) (pv 5) pe_bl rfl)))))
      (pss_cons (ps_if (pw_or (pt_not (pt_val (pe_call GW hr (by rfl) gw kw bw .nil pass0 (pa_cons (pv 3) pa_nil)))) (pw_or1 (pt_not (pt_chain op_le op_le pe_int (pv 3) (x_pe (K := K) (se_globI T.c_MOST_DAYS)))))).pt (pss_one (ps_raise rfl (takes_of rfl rfl rfl rfl) (pmk_own PySem.F.excBase_ValueError T.e_BadCount.x T.e_BadCount.g T.e_BadCount.k (raises_own T.e_BadCount.b T.e_BadCount.t) rfl))) pss_nil)
      (pss_cons (ps_if (pt_cmp (pc_din hu (pv 1) (pe_fld (pv 0) rfl))) (pss_one (ps_raise rfl (takes_of rfl rfl rfl rfl) (pmk_own PySem.F.excBase_ValueError T.e_Twice.x T.e_Twice.g T.e_Twice.k (raises_own T.e_Twice.b T.e_Twice.t) rfl))) pss_nil)
      (pss_cons (ps_dput hu (pe_fld (pv 0) rfl) (pv 1) (pe_callTy call_list_of (by rfl) T.z_list (by decide +kernel) (pa_cons (pv 2) pa_nil) (by decide) (by decide)) rfl)
      (pss_cons (ps_dput hu (pe_fld (pv 0) rfl) (pv 1) (pv 3) rfl)
      (pss_one (ps_dput hu (pe_fld (pv 0) rfl) (pv 1) (pe_lst pa_nil) rfl)))))))), ?_⟩
    -- the name
    cases hn : nameB n with
    | none => rw [hn] at q1; exact (show False from q1).elim
    | some bn =>
    rw [hn] at q1
    refine ⟨_, rfl, G, [.str n], .bool bn, h1, .cons (.inl (.str n)) .nil, nameB_ok hn, fun v5 H1 G1 g1 r5 => ?_⟩
    refine ⟨_, r5.bl, ?_⟩
    cases bn with
    | false => exact q1 H1 G1 g1
    | true =>
    refine iteF ?_
    -- seen
    intro dsn hdsn
    cases hl : gJoin.strsD sk with
    | none => simp only [hl] at q1; exact (show False from q1).elim
    | some l =>
    simp only [hl] at q1
    have esk := strsD_ok hl
    subst esk
    by_cases hz' : ¬ (l.length ≤ 1000 ∧ β.people.length < 1000)
    · rw [if_neg hz'] at q1; exact (show False from q1).elim
    have hz := Decidable.not_not.mp hz'
    rw [if_pos hz] at q1
    obtain ⟨p2, ws, rfl, hp2, hA⟩ := Bp.list (G := G) (H := H) h1 (.inl r2)
    have := strs_dpa l hA
    subst this
    have gd : Grow H G (upd H1 dsn (.dK [])) G1 := g1.beside hdsn
    have nG : G1 dsn = none := g1.sub.free hdsn
    have nH : H dsn = none := g1.h.free hdsn
    refine ⟨_, rfl, p2, rfl, ⟨_, SqL.of (gd.h _ _ hp2)⟩, for_list (K := K) (a := p2) (xs := l.map V.str) (fun i σ H3 => ∃ (G3 : Hp) (o5 : Option V), σ = [some (.ref a), some (.str n), some (.ref p2), some v3, some (.ref dsn), o5] ∧ Grow H G H3 G3 ∧ G3 dsn = none ∧ H3 dsn = some (.dK (kvSeen (l.take i))) ∧ skErr [] l = skErr (l.take i) (l.drop i))
      ⟨G1, none, rfl, gd, nG, upd_same, rfl⟩ (fun i σ H _ ⟨_, _, _, g, _⟩ => SqL.of (g.h _ _ hp2)) ?_ ?_⟩
    · rintro i x σ H3 hi ⟨G3, o5, rfl, g3, nG3, hds, hsk⟩
      rw [List.getElem?_map] at hi
      cases hli : l[i]? with
      | none => rw [hli] at hi; cases hi
      | some k =>
      rw [hli] at hi
      cases hi
      rw [drop_cons_of hli] at hsk
      cases hnk : nameB k with
      | none =>
        rw [hsk] at q1
        simp only [skErr, hnk] at q1
        exact (show False from q1).elim
      | some bk =>
      refine ⟨_, rfl, G3, [.str k], .bool bk, g3.sub, .cons (.inl (.str k)) .nil, nameB_ok hnk, fun v6 H4 G4 g4 r6 => ?_⟩
      refine ⟨_, r6.bl, ?_⟩
      cases bk with
      | false =>
        rw [hsk] at q1
        simp only [skErr, hnk] at q1
        exact q1 H4 G4 (g3.trans g4)
      | true =>
      refine iteF ?_
      have hds4 := g4.h _ _ hds
      refine ⟨_, rfl, _, rfl, dsn, _, rfl, DGet.k (k := Sum.inr k) hds4, _, rfl, ?_⟩
      rw [kvSeen_val]
      by_cases hm : k ∈ l.take i
      · rw [decide_eq_true hm]
        refine iteT ?_
        rw [hsk] at q1
        simp only [skErr, hnk, if_pos hm] at q1
        exact q1 H4 G4 (g3.trans g4)
      · rw [decide_eq_false hm]
        refine iteF ?_
        have hv : valV (kvSeen (l.take i)) (Sum.inr k) = none := by
          have := kvSeen_val k (l.take i)
          rw [decide_eq_false hm] at this
          cases e : valV (kvSeen (l.take i)) (Sum.inr k) with
          | none => rfl
          | some u => rw [e] at this; cases this
        have hlen : (kvSeen (l.take i)).length < sizeLine := by
          have : (kvSeen (l.take i)).length ≤ l.length := by unfold kvSeen; rw [List.length_map, List.length_take]; omega
          exact Nat.lt_of_le_of_lt (Nat.le_trans this hz.1) (by decide)
        refine ⟨_, rfl, _, rfl, dsn, _, rfl, DPut.k (k := Sum.inr k) hds4 hlen, ?_⟩
        have nG4 : G4 dsn = none := g4.no _ nG3 (by rw [hds]; intro z; cases z)
        have g34 := g3.trans g4
        refine ⟨G4, _, rfl, ⟨fun y o e => ?_, g34.f, fun y o e => ?_, g34.no⟩, nG4, ?_, ?_⟩
        · rw [upd_ne (ne_of_none e nH)]; exact g34.h y o e
        · rw [upd_ne (ne_of_none e nG4)]; exact g34.sub y o e
        · rw [upd_same, putK_new _ hv, List.take_add_one, hli]
          simp [kvSeen]
        · rw [hsk]
          simp only [skErr, hnk, if_neg hm]
          rw [List.take_add_one, hli]
          rfl
    · rintro σ H3 ⟨G3, o5, rfl, g3, nG3, hds, hsk⟩
      rw [List.length_map, List.take_length, List.drop_length] at hsk
      rw [hsk] at q1
      simp only [skErr] at q1
      -- the limit
      cases hw : numOk 31 d with
      | none => simp only [hw] at q1; exact (show False from q1).elim
      | some o =>
      have hW : ∃ bw : Bool, F_is_whole [d] = some (.bool bw) ∧ (bw = false → o = none) ∧ (bw = true → ∃ i, d = .int i ∧ o = if 1 ≤ i ∧ i ≤ 31 then some i else none) := by
        unfold numOk at hw
        split at hw
        · exact ⟨false, by assumption, fun _ => (Option.some.inj hw).symm, fun z => Bool.noConfusion z⟩
        · split at hw
          · rename_i i hh
            exact ⟨true, by assumption, fun z => Bool.noConfusion z, fun _ => ⟨i, rfl, (Option.some.inj hw).symm⟩⟩
          · cases hw
        · cases hw
      obtain ⟨bw', hW1, hW2, hW3⟩ := hW
      refine ⟨_, rfl, G3, [d], .bool bw', g3.sub, .cons (r3.mono g3.f) .nil, hW1, fun v7 H4 G4 g4 r7 => ?_⟩
      refine ⟨_, r7.bl, ?_⟩
      have g34 := g3.trans g4
      cases bw' with
      | false =>
        rw [hW2 rfl] at hw
        simp only [hw] at q1
        refine iteT ?_
        exact q1 H4 G4 g34
      | true =>
      obtain ⟨i, rfl, ho⟩ := hW3 rfl
      refine iteF ?_
      have e3 := Bp.int (H := H) (.inl r3)
      subst e3
      refine ⟨_, rfl, _, _, rfl, rfl, _, rfl, ?_⟩
      by_cases b1 : 1 ≤ i
      case neg =>
        rw [decide_eq_false b1]
        refine iteF ?_
        refine ⟨_, rfl, ?_⟩
        have : o = none := by rw [ho, if_neg (fun z => b1 z.1)]
        rw [this] at hw
        simp only [hw] at q1
        exact q1 H4 G4 g34
      rw [decide_eq_true b1]
      refine iteT ?_
      refine ⟨_, _, rfl, rfl, _, rfl, ?_⟩
      by_cases b2 : i ≤ 31
      case neg =>
        rw [decide_eq_false b2]
        refine iteT ?_
        have : o = none := by rw [ho, if_neg (fun z => b2 z.2)]
        rw [this] at hw
        simp only [hw] at q1
        exact q1 H4 G4 g34
      rw [decide_eq_true b2]
      refine iteF ?_
      have eo : o = some i := by rw [ho, if_pos ⟨b1, b2⟩]
      rw [eo] at hw
      simp only [hw] at q1
      have ob4 := g34.h _ _ ob
      have cS4 := g34.h _ _ cS
      have cL4 := g34.h _ _ cL
      have cR4 := g34.h _ _ cR
      refine ⟨_, rfl, _, rfl, a, _, dx, _, _, rfl, ob4, T'.cl, T'.nS, lk_S, dS, _, rfl, DGet.k (k := Sum.inr n) cS4, _, rfl, ?_⟩
      cases hp : findP β n with
      | some p =>
        rw [hp] at q1
        obtain ⟨x, hx, e1, e2, e3, e4, e5⟩ := b.person hp
        rw [e3]
        refine iteT ?_
        exact q1 H4 G4 g34
      | none =>
      rw [hp] at q1
      obtain ⟨vS, vL, vR⟩ := b.noPerson hp
      rw [vS]
      refine iteF ?_
      have lpe : pe.length < 1000 := by
        have := congrArg List.length b.pn
        rw [List.length_map] at this
        omega
      have nd := b.nd
      simp only [List.nodup_cons, List.mem_cons, List.not_mem_nil, or_false, not_or] at nd
      obtain ⟨⟨n1, n2, n3, n4⟩, ⟨n5, n6, n7⟩, ⟨n8, n9⟩, n10, _⟩ := nd
      refine ⟨_, rfl, p2, l.map V.str, rfl, .inl (SqL.of (g34.h _ _ hp2)), fun pS hpS => ?_⟩
      have aS := ne_of_none ob4 hpS
      have dSS := ne_of_none cS4 hpS
      have dLS := ne_of_none cL4 hpS
      have dRS := ne_of_none cR4 hpS
      refine ⟨_, rfl, a, _, dx, _, _, rfl, by rw [upd_ne aS]; exact ob4, T'.cl, T'.nS, lk_S, _, rfl, dS, _, rfl, DPut.k (k := Sum.inr n) (by rw [upd_ne dSS]; exact cS4) (Nat.lt_trans (by unfold kvS; rw [List.length_map]; exact lpe) (by decide)), ?_⟩
      rw [putK_new _ vS]
      have adS := ne_of ob4 cS4 (by intro z; cases z)
      have adL := ne_of ob4 cL4 (by intro z; cases z)
      have adR := ne_of ob4 cR4 (by intro z; cases z)
      refine ⟨_, rfl, _, rfl, a, _, dx, _, _, rfl, by rw [upd_ne adS, upd_ne aS]; exact ob4, T'.cl, T'.nL, lk_L, _, rfl, dL, _, rfl, DPut.k (k := Sum.inr n) (by rw [upd_ne (Ne.symm n1), upd_ne dLS]; exact cL4) (Nat.lt_trans (by unfold kvL; rw [List.length_map]; exact lpe) (by decide)), ?_⟩
      rw [putK_new _ vL]
      refine ⟨by decide, fun pR hpR => ?_⟩
      have hpR1 : pR ≠ dL := fun z => by rw [z, upd_same] at hpR; cases hpR
      rw [upd_ne hpR1] at hpR
      have hpR2 : pR ≠ dS := fun z => by rw [z, upd_same] at hpR; cases hpR
      rw [upd_ne hpR2] at hpR
      have hpR3 : pR ≠ pS := fun z => by rw [z, upd_same] at hpR; cases hpR
      rw [upd_ne hpR3] at hpR
      have aR := ne_of_none ob4 hpR
      have dRR := ne_of_none cR4 hpR
      refine ⟨_, rfl, a, _, dx, _, _, rfl, by rw [upd_ne aR, upd_ne adL, upd_ne adS, upd_ne aS]; exact ob4, T'.cl, T'.nR, lk_R, _, rfl, dR, _, rfl, DPut.k (k := Sum.inr n) (by rw [upd_ne dRR, upd_ne (Ne.symm n5), upd_ne (Ne.symm n2), upd_ne dRS]; exact cR4) (Nat.lt_trans (by unfold kvR; rw [List.length_map]; exact lpe) (by decide)), ?_⟩
      rw [putK_new _ vR]
      have hS0 : H pS = none := g34.h.free hpS
      have hR0 : H pR = none := g34.h.free hpR
      have B := b.addP (p := ⟨n, l, i, []⟩) (pS := pS) (pR := pR) (R' := upd (upd (upd (upd (upd R pS (.lst (l.map V.str))) dS (.dK (kvS pe ++ [(Sum.inr n, .ref pS)]))) dL (.dK (kvL pe ++ [(Sum.inr n, .int i)]))) pR (.lst [])) dR (.dK (kvR pe ++ [(Sum.inr n, .ref pR)]))) hp g34.f (h2.free hS0) (h2.free hR0) (Ne.symm hpR3) rfl hz.1 hz.2
        (by rw [upd_ne n2, upd_ne (Ne.symm hpR2), upd_ne n1, upd_same]) (by rw [upd_ne n5, upd_ne (Ne.symm hpR1), upd_same]) upd_same
        (by rw [upd_ne (Ne.symm dRS), upd_ne (Ne.symm hpR3), upd_ne (Ne.symm dLS), upd_ne (Ne.symm dSS), upd_same]) (by rw [upd_ne (Ne.symm dRR), upd_same])
        (fun y y1 y2 y3 y4 => by
          have z1 : y ≠ pS := fun z => y4 (by rw [z]; exact h2.free hS0)
          have z2 : y ≠ pR := fun z => y4 (by rw [z]; exact h2.free hR0)
          rw [upd_ne y3, upd_ne z2, upd_ne y2, upd_ne y1, upd_ne z1])
      have gG : ∀ {y}, H4 y = none → G4 y = none := fun h => g34.sub.free h
      have gp := g34.apart h2 h3
      have rS : R dS ≠ none := by rw [b.cS]; intro z; cases z
      have rL : R dL ≠ none := by rw [b.cL]; intro z; cases z
      have rR : R dR ≠ none := by rw [b.cR]; intro z; cases z
      refine q1 .non _ G4 _ ⟨fun y o hy hz2 => ?_, fun y hy => ?_, g34.f, fun y o hy => ?_, g34.no⟩ (fun y o hy => ?_) (fun y hy => ?_) (fun y hy => ?_) ⟨dx, dS, dL, dR, dT, dN, _, sh, B⟩ rp_non
      · have hy' : R y = none := hy
        have hz3 : H y = some o := hz2
        rw [upd_ne (fun z : y = dR => rR (by rw [← z]; exact hy')), upd_ne (ne_of_none hz3 hR0), upd_ne (fun z : y = dL => rL (by rw [← z]; exact hy')), upd_ne (fun z : y = dS => rS (by rw [← z]; exact hy')), upd_ne (ne_of_none hz3 hS0)]
        exact g34.h y o hz3
      · have h4 : H4 y ≠ none := fun z => hy (g34.h.free z)
        unfold upd
        split
        · intro z; cases z
        · split
          · intro z; cases z
          · split
            · intro z; cases z
            · split
              · intro z; cases z
              · split
                · intro z; cases z
                · exact h4
      · rw [upd_ne (ne_of_none hy (gp dR rR)), upd_ne (ne_of_none hy (gG hpR)), upd_ne (ne_of_none hy (gp dL rL)), upd_ne (ne_of_none hy (gp dS rS)), upd_ne (ne_of_none hy (gG hpS))]
        exact g34.sub y o hy
      · unfold upd at hy ⊢
        by_cases z1 : y = dR
        · rw [if_pos z1] at hy ⊢; exact hy
        · rw [if_neg z1] at hy ⊢
          by_cases z2 : y = pR
          · rw [if_pos z2] at hy ⊢; exact hy
          · rw [if_neg z2] at hy ⊢
            by_cases z3 : y = dL
            · rw [if_pos z3] at hy ⊢; exact hy
            · rw [if_neg z3] at hy ⊢
              by_cases z4 : y = dS
              · rw [if_pos z4] at hy ⊢; exact hy
              · rw [if_neg z4] at hy ⊢
                by_cases z5 : y = pS
                · rw [if_pos z5] at hy ⊢; exact hy
                · rw [if_neg z5] at hy ⊢
                  exact g34.h y o (h2 y o hy)
      · by_cases z1 : y = dR
        · rw [z1]; exact gp dR rR
        · rw [upd_ne z1] at hy
          by_cases z2 : y = pR
          · rw [z2]; exact gG hpR
          · rw [upd_ne z2] at hy
            by_cases z3 : y = dL
            · rw [z3]; exact gp dL rL
            · rw [upd_ne z3] at hy
              by_cases z4 : y = dS
              · rw [z4]; exact gp dS rS
              · rw [upd_ne z4] at hy
                by_cases z5 : y = pS
                · rw [z5]; exact gG hpS
                · rw [upd_ne z5] at hy
                  exact gp y hy
      · by_cases z1 : y = dR
        · exact .inl (by rw [z1]; exact rR)
        · rw [upd_ne z1] at hy
          by_cases z2 : y = pR
          · exact .inr (by rw [z2]; exact hR0)
          · rw [upd_ne z2] at hy
            by_cases z3 : y = dL
            · exact .inl (by rw [z3]; exact rL)
            · rw [upd_ne z3] at hy
              by_cases z4 : y = dS
              · exact .inl (by rw [z4]; exact rS)
              · rw [upd_ne z4] at hy
                by_cases z5 : y = pS
                · exact .inr (by rw [z5]; exact hS0)
                · rw [upd_ne z5] at hy
                  exact .inl hy
end
end RK
namespace RK
open PySem PySem.Spec PyProof.Rows L2 RT
section
variable {P : Program} {w : World} {K : PySem.W.Frag} {mg : Str → Option Value} {base : Heap}
def needsOf : List PyData → Option (List (Str × PyData))
  | [] => some []
  | .tuple [.str k, c] :: l => (needsOf l).map ((k, c) :: ·)
  | _ :: _ => none
def needD (p : Str × PyData) : PyData := .tuple [.str p.1, p.2]
theorem needsOf_ok : ∀ {ds : List PyData} {l : List (Str × PyData)}, needsOf ds = some l → ds = l.map needD
  | [], l, h => by cases h; rfl
  | .tuple [.str k, c] :: ds, l, h => by
    cases e : needsOf ds with
    | none => simp [needsOf, e] at h
    | some m =>
      simp [needsOf, e] at h
      subst h
      rw [needsOf_ok e]; rfl
  | .none :: _, _, h => by cases h
  | .bool _ :: _, _, h => by cases h
  | .int _ :: _, _, h => by cases h
  | .str _ :: _, _, h => by cases h
  | .list _ :: _, _, h => by cases h
  | .dict _ :: _, _, h => by cases h
  | .tuple [] :: _, _, h => by cases h
  | .tuple [_] :: _, _, h => by simp [needsOf] at h
  | .tuple (_ :: _ :: _ :: _) :: _, _, h => by simp [needsOf] at h
  | .tuple [.none, _] :: _, _, h => by cases h
  | .tuple [.bool _, _] :: _, _, h => by cases h
  | .tuple [.int _, _] :: _, _, h => by cases h
  | .tuple [.list _, _] :: _, _, h => by cases h
  | .tuple [.tuple _, _] :: _, _, h => by cases h
  | .tuple [.dict _, _] :: _, _, h => by cases h
/-- what the walk along the needs ends with -/
def ndErr : List (Str × Int) → List (Str × PyData) → Option (Sum Str (List (Str × Int)))
  | acc, [] => some (.inr acc)
  | acc, (k, c) :: l => match nameB k with
    | none => none
    | some false => some (.inl "BadName")
    | some true => if k ∈ acc.map (·.1) then some (.inl "Twice") else match numOk 9 c with
      | none => none
      | some none => some (.inl "BadCount")
      | some (some i) => ndErr (acc ++ [(k, i)]) l
def oneDay (r : Int × Int) : Option Bool := match F_in_one_day [stD r] with
  | some (.bool b) => some b
  | _ => none
theorem oneDay_ok {r : Int × Int} {b : Bool} (h : oneDay r = some b) : F_in_one_day [stD r] = some (.bool b) := by
  unfold oneDay at h
  split at h
  · cases h; assumption
  · cases h
def addShift (β : BookSt) (n : Str) (d : PyData) (nd : List PyData) : RM := match nameB n with
  | none => .no
  | some false => .exc "BadName"
  | some true => match isSt d with
    | none => .no
    | some none => .exc "BadStretch"
    | some (some r) => match oneDay r with
      | none => .no
      | some false => .exc "BadStretch"
      | some true => match needsOf nd with
        | none => .no
        | some l => if l.length ≤ 1000 ∧ β.shifts.length < 1000 then (match ndErr [] l with
          | none => .no
          | some (.inl c) => .exc c
          | some (.inr cs) => match findS β n with
            | some _ => .exc "Twice"
            | none => .done ⟨β.people, β.shifts ++ [⟨n, r.1, r.2, cs⟩]⟩ .none) else .no
def fm_add_shift (β : BookSt) : List PyData → RM
  | [.str n, d, .list nd] => addShift β n d nd
  | _ => .no
theorem fm_add_shift_inv {β : BookSt} {ds : List PyData} {A : BookSt → PyData → Prop} {B : Str → Prop} (q : (fm_add_shift β ds).goes A B) : ∃ n d nd, ds = [.str n, d, .list nd] := by
  unfold fm_add_shift at q
  split at q
  · exact ⟨_, _, _, rfl⟩
  · exact (show False from q).elim
theorem kvC_val (k : Str) (l : List (Str × Int)) : (valV (kvC l) (Sum.inr k)).isSome = decide (k ∈ l.map (·.1)) := by
  unfold kvC
  rw [valV_map (fun x : Str × Int => x.1) (fun x => V.int x.2)]
  induction l with
  | nil => rfl
  | cons z l ih =>
    rw [List.find?_cons]
    by_cases h : z.1 = k
    · simp [h]
    · have h2 : ¬ k = z.1 := fun e => h e.symm
      rw [decide_eq_false h]
      simp only [ih, List.map_cons, List.mem_cons, h2, false_or]
theorem scB_add_shift : FnScope ["self", "name", "stretch", "needs", "counts", "need"] ["self", "name", "stretch", "needs"] (defScope m_book_add_shift) := ⟨rfl, rfl, rfl, by decide +kernel, rfl, by decide +kernel, by decide +kernel⟩
theorem okB_add_shift (T : Txt K mg) {f : Addr} {fd : FuncData} (F : FunD K "add_shift" "Book.add_shift" (defArgs m_book_add_shift) (defBody m_book_add_shift) (defScope m_book_add_shift) [] [] f fd) : FnOk P w K mg base (L2.CX P w) 3 f fd ["self", "name", "stretch", "needs"] (spM K fm_add_shift) := by
  obtain ⟨fm, fdm, psm, GM, gm, km, bm⟩ := (ok_is_name (P := P) (w := w) (base := base) T).ex
  obtain ⟨fw, fdw, psw, GW, gw, kw, bw⟩ := (ok_is_whole (P := P) (w := w) (base := base) T).ex
  obtain ⟨fs, fds, pss', GS, gs, ks, bs⟩ := (ok_is_stretch (P := P) (w := w) (base := base) T).ex
  obtain ⟨fo, fdo, pso, GO, go, ko, bo⟩ := (ok_in_one_day (P := P) (w := w) (base := base) T).ex
  refine F.ok scB_add_shift (fun vs H Q E h => ?_) (fun cdv A outer s H vs Q E hr h => ?_)
  · obtain ⟨G, R, a, β, us, ds, rfl, h1, h2, h3, h4, h5, q⟩ := h
    obtain ⟨n, d, nd, rfl⟩ := fm_add_shift_inv q
    rw [List.length_cons, h5.len]; rfl
  · obtain ⟨G, R, a, β, us, ds, rfl, h1, h2, h3, h4, h5, q⟩ := h
    have hu := hu_of hr
    obtain ⟨n, d, ndl, rfl⟩ := fm_add_shift_inv q
    obtain ⟨v1, v2, v3, rfl, r1, r2, r3⟩ := h5.three
    have := r1.s
    subst this
    have T' := T.bk
    obtain ⟨dx, dS, dL, dR, dT, dN, pe, sh, b⟩ := h4
    have ob := h2 _ _ b.ob
    have cT := h2 _ _ b.cT
    have cN := h2 _ _ b.cN
    have q1 : (addShift β n d ndl).goes _ _ := q
    unfold addShift at q1
    have hr1 : Room 1 _ := hr.mono (by decide)
    refine ⟨_, pss_cons (ps_if (pt_not (pt_val (pe_call GM hr1 (by rfl) gm km bm .nil pass0 (pa_cons (pv 1) pa_nil)))) (pss_one (ps_raise rfl (takes_of rfl rfl rfl rfl) (pmk_own PySem.F.excBase_ValueError T.e_BadName.x T.e_BadName.g T.e_BadName.k (raises_own T.e_BadName.b T.e_BadName.t) rfl))) pss_nil)
      (pss_cons (ps_if (pw_or (pt_not (pt_val (pe_call GS hr (by rfl) gs ks bs .nil pass0 (pa_cons (pv 2) pa_nil)))) (pw_or1 (pt_not (pt_val (pe_call GO hr1 (by rfl) go ko bo .nil pass0 (pa_cons (pv 2) pa_nil)))))).pt (pss_one (ps_raise rfl (takes_of rfl rfl rfl rfl) (pmk_own PySem.F.excBase_ValueError T.e_BadStretch.x T.e_BadStretch.g T.e_BadStretch.k (raises_own T.e_BadStretch.b T.e_BadStretch.t) rfl))) pss_nil)
      (pss_cons (ps_set (i := 4) scB_add_shift.nd rfl (Or.inl rfl) pe_dnewK)
      (pss_cons (ps_for (passes_of rfl) rfl (pi_list (pv 3)) (pg_name (i := 5) scB_add_shift.nd rfl (Or.inl rfl))
        (pss_cons (ps_if (pt_not (pt_val (pe_call GM hr1 (by rfl) gm km bm .nil pass0 (pa_cons (pe_ix ix_tup (pv 5) pe_int (fun _ _ => rfl)) pa_nil)))) (pss_one (ps_raise rfl (takes_of rfl rfl rfl rfl) (pmk_own PySem.F.excBase_ValueError T.e_BadName.x T.e_BadName.g T.e_BadName.k (raises_own T.e_BadName.b T.e_BadName.t) rfl))) pss_nil)
        (pss_cons (ps_if (pt_cmp (pc_din hu (pe_ix ix_tup (pv 5) pe_int (fun _ _ => rfl)) (pv 4))) (pss_one (ps_raise rfl (takes_of rfl rfl rfl rfl) (pmk_own PySem.F.excBase_ValueError T.e_Twice.x T.e_Twice.g T.e_Twice.k (raises_own T.e_Twice.b T.e_Twice.t) rfl))) pss_nil)
        (pss_cons (ps_if (pw_or (pt_not (pt_val (pe_call GW hr1 (by rfl) gw kw bw .nil pass0 (pa_cons (pe_ix ix_tup (pv 5) pe_int (fun _ _ => rfl)) pa_nil)))) (pw_or1 (pt_not (pt_chain op_le op_le pe_int (pe_ix ix_tup (pv 5) pe_int (fun _ _ => rfl)) (x_pe (K := K) (se_globI T.c_MOST_COUNT)))))).pt (pss_one (ps_raise rfl (takes_of rfl rfl rfl rfl) (pmk_own PySem.F.excBase_ValueError T.e_BadCount.x T.e_BadCount.g T.e_BadCount.k (raises_own T.e_BadCount.b T.e_BadCount.t) rfl))) pss_nil)
        (pss_one (ps_dput hu (pv 4) (pe_ix ix_tup (pv 5) pe_int (fun _ _ => rfl)) (pe_ix ix_tup (pv 5) pe_int (fun _ _ => rfl)) rfl))))))
      (pss_cons (ps_if (pt_cmp (pc_din hu (pv 1) (pe_fld (pv 0) rfl))) (pss_one (ps_raise rfl (takes_of rfl rfl rfl rfl) (pmk_own PySem.F.excBase_ValueError T.e_Twice.x T.e_Twice.g T.e_Twice.k (raises_own T.e_Twice.b T.e_Twice.t) rfl))) pss_nil)
      (pss_cons (ps_dput hu (pe_fld (pv 0) rfl) (pv 1) (pv 2) rfl)
      (pss_one (ps_dput hu (pe_fld (pv 0) rfl) (pv 1) (pv 4) rfl))))))), ?_⟩
    -- the name
    cases hn : nameB n with
    | none => rw [hn] at q1; exact (show False from q1).elim
    | some bn =>
    rw [hn] at q1
    refine ⟨_, rfl, G, [.str n], .bool bn, h1, .cons (.inl (.str n)) .nil, nameB_ok hn, fun v5 H1 G1 g1 r5 => ?_⟩
    refine ⟨_, r5.bl, ?_⟩
    cases bn with
    | false => exact q1 H1 G1 g1
    | true =>
    refine iteF ?_
    -- the stretch
    cases hs : isSt d with
    | none => simp only [hs] at q1; exact (show False from q1).elim
    | some os =>
    cases os with
    | none =>
      simp only [hs] at q1
      refine ⟨_, rfl, G1, [d], .bool false, g1.sub, .cons (r2.mono g1.f) .nil, isSt_none hs, fun v5 H2 G2 g2 r5 => ?_⟩
      refine ⟨_, r5.bl, ?_⟩
      refine iteT ?_
      exact q1 H2 G2 (g1.trans g2)
    | some r =>
    simp only [hs] at q1
    obtain ⟨i1, rfl⟩ := isSt_some hs
    refine ⟨_, rfl, G1, [stD r], .bool true, g1.sub, .cons (r2.mono g1.f) .nil, i1, fun v5 H2 G2 g2 r5 => ?_⟩
    refine ⟨_, r5.bl, ?_⟩
    refine iteF ?_
    cases hd : oneDay r with
    | none => simp only [hd] at q1; exact (show False from q1).elim
    | some bd =>
    simp only [hd] at q1
    have g12 := g1.trans g2
    refine ⟨_, rfl, G2, [stD r], .bool bd, g12.sub, .cons (r2.mono g12.f) .nil, oneDay_ok hd, fun v6 H3 G3 g3 r6 => ?_⟩
    refine ⟨_, r6.bl, ?_⟩
    have g13 := g12.trans g3
    cases bd with
    | false => exact q1 H3 G3 g13
    | true =>
    refine iteF ?_
    -- counts
    intro dC hdC
    cases hl : needsOf ndl with
    | none => simp only [hl] at q1; exact (show False from q1).elim
    | some l =>
    simp only [hl] at q1
    have esk := needsOf_ok hl
    subst esk
    by_cases hz' : ¬ (l.length ≤ 1000 ∧ β.shifts.length < 1000)
    · rw [if_neg hz'] at q1; exact (show False from q1).elim
    have hz := Decidable.not_not.mp hz'
    rw [if_pos hz] at q1
    obtain ⟨p2, ws, rfl, hp2, hA⟩ := Bp.list (G := G) (H := H) h1 (.inl r3)
    have gd : Grow H G (upd H3 dC (.dK [])) G3 := g13.beside hdC
    have nG : G3 dC = none := g13.sub.free hdC
    have nH : H dC = none := g13.h.free hdC
    have hwl : ws.length = l.length := by rw [hA.len, List.length_map]
    refine ⟨_, rfl, p2, rfl, ⟨_, SqL.of (gd.h _ _ hp2)⟩, for_list (K := K) (a := p2) (xs := ws) (fun i σ H5 => ∃ (G5 : Hp) (o5 : Option V) (acc : List (Str × Int)), σ = [some (.ref a), some (.str n), some v2, some (.ref p2), some (.ref dC), o5] ∧ Grow H G H5 G5 ∧ G5 dC = none ∧ H5 dC = some (.dK (kvC acc)) ∧ acc.length = i ∧ ndErr [] l = ndErr acc (l.drop i))
      ⟨G3, none, [], rfl, gd, nG, upd_same, rfl, rfl⟩ (fun i σ H _ ⟨_, _, _, _, g, _⟩ => SqL.of (g.h _ _ hp2)) ?_ ?_⟩
    · rintro i x σ H5 hi ⟨G5, o5, acc, rfl, g5, nG5, hds, hac, hsk⟩
      obtain ⟨dd, hdd, rx⟩ := hA.getV hi
      rw [List.getElem?_map] at hdd
      cases hli : l[i]? with
      | none => rw [hli] at hdd; cases hdd
      | some kc =>
      rw [hli] at hdd
      have ed : needD kc = dd := Option.some.inj hdd
      subst ed
      obtain ⟨k, c⟩ := kc
      obtain ⟨t, us', rfl, ht, hus⟩ := Bp.tuple (G := G5) (H := H5) g5.sub (.inl ((Rp.mono g5.f (.inl rx)) : Rp K G5 x (.tuple [.str k, c])))
      cases hus with
      | @cons u1 _ _ _ y1 hus2 =>
      cases hus2 with
      | @cons u2 _ _ _ y2 hus3 =>
      cases hus3
      cases y1
      rw [drop_cons_of hli] at hsk
      cases hnk : nameB k with
      | none =>
        rw [hsk] at q1
        simp only [ndErr, hnk] at q1
        exact (show False from q1).elim
      | some bk =>
      refine ⟨_, rfl, t, [.str k, u2], 0, .str k, rfl, rfl, ht, rfl, G5, [.str k], .bool bk, g5.sub, .cons (.inl (.str k)) .nil, nameB_ok hnk, fun v6 H6 G6 g6 r6 => ?_⟩
      refine ⟨_, r6.bl, ?_⟩
      have g56 := g5.trans g6
      cases bk with
      | false =>
        rw [hsk] at q1
        simp only [ndErr, hnk] at q1
        exact q1 H6 G6 g56
      | true =>
      refine iteF ?_
      have ht6 : SqT K H6 t [.str k, u2] := same_t g6.h ht
      have hds6 := g6.h _ _ hds
      refine ⟨_, rfl, t, [.str k, u2], 0, .str k, rfl, rfl, ht6, rfl, _, rfl, dC, _, rfl, DGet.k (k := Sum.inr k) hds6, _, rfl, ?_⟩
      rw [kvC_val]
      by_cases hm : k ∈ acc.map (·.1)
      · rw [decide_eq_true hm]
        refine iteT ?_
        rw [hsk] at q1
        simp only [ndErr, hnk, if_pos hm] at q1
        exact q1 H6 G6 g56
      · rw [decide_eq_false hm]
        refine iteF ?_
        cases hw : numOk 9 c with
        | none =>
          rw [hsk] at q1
          simp only [ndErr, hnk, if_neg hm, hw] at q1
          exact (show False from q1).elim
        | some o =>
        have hW : ∃ bw : Bool, F_is_whole [c] = some (.bool bw) ∧ (bw = false → o = none) ∧ (bw = true → ∃ i, c = .int i ∧ o = if 1 ≤ i ∧ i ≤ 9 then some i else none) := by
          unfold numOk at hw
          split at hw
          · exact ⟨false, by assumption, fun _ => (Option.some.inj hw).symm, fun z => Bool.noConfusion z⟩
          · split at hw
            · rename_i i hh
              exact ⟨true, by assumption, fun z => Bool.noConfusion z, fun _ => ⟨i, rfl, (Option.some.inj hw).symm⟩⟩
            · cases hw
          · cases hw
        obtain ⟨bw', hW1, hW2, hW3⟩ := hW
        refine ⟨_, rfl, t, [.str k, u2], 1, u2, rfl, rfl, ht6, rfl, G6, [c], .bool bw', g56.sub, .cons (.inl (dp_mono g6.f _ y2)) .nil, hW1, fun v7 H7 G7 g7 r7 => ?_⟩
        refine ⟨_, r7.bl, ?_⟩
        have g57 := g56.trans g7
        have bad : o = none → ∀ H' G', Grow H G H' G' → E (.ref (He.ga K "BadCount")) none H' := fun eo => by
          rw [hsk] at q1
          rw [eo] at hw
          simp only [ndErr, hnk, if_neg hm, hw] at q1
          exact q1
        cases bw' with
        | false =>
          refine iteT ?_
          exact bad (hW2 rfl) H7 G7 g57
        | true =>
        obtain ⟨j, rfl, ho⟩ := hW3 rfl
        cases y2
        refine iteF ?_
        have ht7 : SqT K H7 t [.str k, .int j] := same_t g7.h ht6
        refine ⟨_, rfl, t, [.str k, .int j], 1, .int j, rfl, rfl, ht7, rfl, _, _, rfl, rfl, _, rfl, ?_⟩
        by_cases b1 : 1 ≤ j
        case neg =>
          rw [decide_eq_false b1]
          refine iteF ?_
          refine ⟨_, rfl, ?_⟩
          exact bad (by rw [ho, if_neg (fun z => b1 z.1)]) H7 G7 g57
        rw [decide_eq_true b1]
        refine iteT ?_
        refine ⟨_, _, rfl, rfl, _, rfl, ?_⟩
        by_cases b2 : j ≤ 9
        case neg =>
          rw [decide_eq_false b2]
          refine iteT ?_
          exact bad (by rw [ho, if_neg (fun z => b2 z.2)]) H7 G7 g57
        rw [decide_eq_true b2]
        refine iteF ?_
        have eo : o = some j := by rw [ho, if_pos ⟨b1, b2⟩]
        rw [eo] at hw
        have hv : valV (kvC acc) (Sum.inr k) = none := by
          have := kvC_val k acc
          rw [decide_eq_false hm] at this
          cases e : valV (kvC acc) (Sum.inr k) with
          | none => rfl
          | some u => rw [e] at this; cases this
        have hil : i < l.length := (List.getElem?_eq_some_iff.mp hli).1
        have hlen : (kvC acc).length < sizeLine := by
          have : (kvC acc).length ≤ 1000 := by unfold kvC; rw [List.length_map, hac]; omega
          exact Nat.lt_of_le_of_lt this (by decide)
        have hds7 := g7.h _ _ hds6
        refine ⟨_, rfl, t, [.str k, .int j], 1, .int j, rfl, rfl, ht7, rfl, _, rfl, _, rfl, t, [.str k, .int j], 0, .str k, rfl, rfl, ht7, rfl, dC, _, rfl, DPut.k (k := Sum.inr k) hds7 hlen, ?_⟩
        have nG7 : G7 dC = none := (g6.trans g7).no _ nG5 (by rw [hds]; intro z; cases z)
        refine ⟨G7, _, acc ++ [(k, j)], rfl, ⟨fun y o e => ?_, g57.f, fun y o e => ?_, g57.no⟩, nG7, ?_, ?_, ?_⟩
        · rw [upd_ne (ne_of_none e nH)]; exact g57.h y o e
        · rw [upd_ne (ne_of_none e nG7)]; exact g57.sub y o e
        · rw [upd_same, putK_new _ hv]
          simp [kvC]
        · rw [List.length_append, hac]; rfl
        · rw [hsk]
          simp only [ndErr, hnk, if_neg hm, hw]
    · rintro σ H5 ⟨G5, o5, acc, rfl, g5, nG5, hds, hac, hsk⟩
      rw [hwl] at hsk hac
      rw [List.drop_length] at hsk
      rw [hsk] at q1
      simp only [ndErr] at q1
      have ob5 := g5.h _ _ ob
      have cT5 := g5.h _ _ cT
      have cN5 := g5.h _ _ cN
      obtain ⟨t2, us2, rfl, ht2, _⟩ := Bp.tuple (G := G) (H := H) h1 (.inl r2)
      have hst : Dq K G (.ref t2) (stD r) := r2.dp
      refine ⟨_, rfl, _, rfl, a, _, dx, _, _, rfl, ob5, T'.cl, T'.nN, lk_N, dN, _, rfl, DGet.k (k := Sum.inr n) cN5, _, rfl, ?_⟩
      cases hp : findS β n with
      | some p =>
        rw [hp] at q1
        obtain ⟨x, hx, e1, e2, e3, e4⟩ := b.shift hp
        rw [e4]
        refine iteT ?_
        exact q1 H5 G5 g5
      | none =>
      rw [hp] at q1
      obtain ⟨vT, vN⟩ := b.noShift hp
      rw [vN]
      refine iteF ?_
      have lsh : sh.length < 1000 := by
        have := congrArg List.length b.sn
        rw [List.length_map] at this
        omega
      have nd := b.nd
      simp only [List.nodup_cons, List.mem_cons, List.not_mem_nil, or_false, not_or] at nd
      obtain ⟨⟨n1, n2, n3, n4⟩, ⟨n5, n6, n7⟩, ⟨n8, n9⟩, n10, _⟩ := nd
      have adT := ne_of ob5 cT5 (by intro z; cases z)
      refine ⟨_, rfl, _, rfl, a, _, dx, _, _, rfl, ob5, T'.cl, T'.nT, lk_T, _, rfl, dT, _, rfl, DPut.k (k := Sum.inr n) cT5 (Nat.lt_trans (by unfold kvT; rw [List.length_map]; exact lsh) (by decide)), ?_⟩
      rw [putK_new _ vT]
      refine ⟨_, rfl, _, rfl, a, _, dx, _, _, rfl, by rw [upd_ne adT]; exact ob5, T'.cl, T'.nN, lk_N, _, rfl, dN, _, rfl, DPut.k (k := Sum.inr n) (by rw [upd_ne (Ne.symm n10)]; exact cN5) (Nat.lt_trans (by unfold kvN; rw [List.length_map]; exact lsh) (by decide)), ?_⟩
      rw [putK_new _ vN]
      have rT : R dT ≠ none := by rw [b.cT]; intro z; cases z
      have rN : R dN ≠ none := by rw [b.cN]; intro z; cases z
      have dCT : dT ≠ dC := ne_of_none cT nH
      have dCN : dN ≠ dC := ne_of_none cN nH
      have rC : R dC = none := h2.free nH
      have B := b.addS (s := ⟨n, r.1, r.2, acc⟩) (t := t2) (dC := dC) (R' := upd (upd (upd R dC (.dK (kvC acc))) dT (.dK (kvT sh ++ [(Sum.inr n, .ref t2)]))) dN (.dK (kvN sh ++ [(Sum.inr n, .ref dC)]))) hp g5.f rC (dp_mono g5.f _ hst) (by rw [hac]; exact hz.1) hz.2
        (by rw [upd_ne n10, upd_same]) upd_same (by rw [upd_ne (Ne.symm dCN), upd_ne (Ne.symm dCT), upd_same])
        (fun y y1 y2 y3 => by
          have z1 : y ≠ dC := fun z => y3 (by rw [z]; exact rC)
          rw [upd_ne y2, upd_ne y1, upd_ne z1])
      have gp := g5.apart h2 h3
      refine q1 .non _ G5 _ ⟨fun y o hy hz2 => ?_, fun y hy => ?_, g5.f, fun y o hy => ?_, g5.no⟩ (fun y o hy => ?_) (fun y hy => ?_) (fun y hy => ?_) ⟨dx, dS, dL, dR, dT, dN, pe, _, B⟩ rp_non
      · have hy' : R y = none := hy
        have hz3 : H y = some o := hz2
        rw [upd_ne (fun z : y = dN => rN (by rw [← z]; exact hy')), upd_ne (fun z : y = dT => rT (by rw [← z]; exact hy'))]
        exact g5.h y o hz3
      · have h4 : H5 y ≠ none := fun z => hy (g5.h.free z)
        unfold upd
        split
        · intro z; cases z
        · split
          · intro z; cases z
          · exact h4
      · rw [upd_ne (ne_of_none hy (gp dN rN)), upd_ne (ne_of_none hy (gp dT rT))]
        exact g5.sub y o hy
      · unfold upd at hy ⊢
        by_cases z1 : y = dN
        · rw [if_pos z1] at hy ⊢; exact hy
        · rw [if_neg z1] at hy ⊢
          by_cases z2 : y = dT
          · rw [if_pos z2] at hy ⊢; exact hy
          · rw [if_neg z2] at hy ⊢
            by_cases z3 : y = dC
            · rw [if_pos z3] at hy
              rw [z3, hds]; exact hy
            · rw [if_neg z3] at hy
              exact g5.h y o (h2 y o hy)
      · by_cases z1 : y = dN
        · rw [z1]; exact gp dN rN
        · rw [upd_ne z1] at hy
          by_cases z2 : y = dT
          · rw [z2]; exact gp dT rT
          · rw [upd_ne z2] at hy
            by_cases z3 : y = dC
            · rw [z3]; exact nG5
            · rw [upd_ne z3] at hy
              exact gp y hy
      · by_cases z1 : y = dN
        · exact .inl (by rw [z1]; exact rN)
        · rw [upd_ne z1] at hy
          by_cases z2 : y = dT
          · exact .inl (by rw [z2]; exact rT)
          · rw [upd_ne z2] at hy
            by_cases z3 : y = dC
            · exact .inr (by rw [z3]; exact nH)
            · rw [upd_ne z3] at hy
              exact .inl hy
end
end RK
namespace RK
open PySem PySem.Spec PyProof.Rows L2 RT
section
variable {P : Program} {w : World} {K : PySem.W.Frag} {mg : Str → Option Value} {base : Heap}
theorem noB_of {m : Str} (h : noFl flB m) : ∃ fl, KdC kB "Book" fl ∧ noFl fl m := ⟨flB, kcB, h⟩
theorem mr_may (T : Txt K mg) : MethR P w K mg base 2 "may" fr_may := by
  obtain ⟨fd, F⟩ := T.f_book_may
  exact ⟨⟨_, fd, _, okB_may T F, T.me_book_may, F.bindsN fun _ _ _ _ _ _ us hl => match us, hl with | [_, _, _, _], _ => rfl⟩, T.cl_book, noB_of (by unfold noFl; decide +kernel)⟩
theorem mr_rests_of (T : Txt K mg) : MethR P w K mg base 1 "rests_of" fr_rests_of := by
  obtain ⟨fd, F⟩ := T.f_book_rests_of
  exact ⟨⟨_, fd, _, okB_rests_of T F, T.me_book_rests_of, F.bindsN fun _ _ _ _ _ _ us hl => match us, hl with | [_, _], _ => rfl⟩, T.cl_book, noB_of (by unfold noFl; decide +kernel)⟩
theorem mr_stretch_of (T : Txt K mg) : MethR P w K mg base 1 "stretch_of" fr_stretch_of := by
  obtain ⟨fd, F⟩ := T.f_book_stretch_of
  exact ⟨⟨_, fd, _, okB_stretch_of T F, T.me_book_stretch_of, F.bindsN fun _ _ _ _ _ _ us hl => match us, hl with | [_, _], _ => rfl⟩, T.cl_book, noB_of (by unfold noFl; decide +kernel)⟩
theorem mr_limit_of (T : Txt K mg) : MethR P w K mg base 1 "limit_of" fr_limit_of := by
  obtain ⟨fd, F⟩ := T.f_book_limit_of
  exact ⟨⟨_, fd, _, okB_limit_of T F, T.me_book_limit_of, F.bindsN fun _ _ _ _ _ _ us hl => match us, hl with | [_, _], _ => rfl⟩, T.cl_book, noB_of (by unfold noFl; decide +kernel)⟩
theorem mr_people (T : Txt K mg) : MethR P w K mg base 1 "people" fr_people := by
  obtain ⟨fd, F⟩ := T.f_book_people
  exact ⟨⟨_, fd, _, okB_people T F, T.me_book_people, F.bindsN fun _ _ _ _ _ _ us hl => match us, hl with | [_], _ => rfl⟩, T.cl_book, noB_of (by unfold noFl; decide +kernel)⟩
theorem mr_shifts (T : Txt K mg) : MethR P w K mg base 1 "shifts" fr_shifts := by
  obtain ⟨fd, F⟩ := T.f_book_shifts
  exact ⟨⟨_, fd, _, okB_shifts T F, T.me_book_shifts, F.bindsN fun _ _ _ _ _ _ us hl => match us, hl with | [_], _ => rfl⟩, T.cl_book, noB_of (by unfold noFl; decide +kernel)⟩
theorem mr_posts (T : Txt K mg) : MethR P w K mg base 1 "posts" fr_posts := by
  obtain ⟨fd, F⟩ := T.f_book_posts
  exact ⟨⟨_, fd, _, okB_posts T F, T.me_book_posts, F.bindsN fun _ _ _ _ _ _ us hl => match us, hl with | [_], _ => rfl⟩, T.cl_book, noB_of (by unfold noFl; decide +kernel)⟩
theorem mr_count_of (T : Txt K mg) : MethR P w K mg base 1 "count_of" fr_count_of := by
  obtain ⟨fd, F⟩ := T.f_book_count_of
  exact ⟨⟨_, fd, _, okB_count_of T F, T.me_book_count_of, F.bindsN fun _ _ _ _ _ _ us hl => match us, hl with | [_, _, _], _ => rfl⟩, T.cl_book, noB_of (by unfold noFl; decide +kernel)⟩
theorem mm_add_person (T : Txt K mg) : MethM P w K mg base 2 "add_person" fm_add_person := by
  obtain ⟨fd, F⟩ := T.f_book_add_person
  exact ⟨⟨_, fd, _, okB_add_person T F, T.me_book_add_person, F.bindsN fun _ _ _ _ _ _ us hl => match us, hl with | [_, _, _, _], _ => rfl⟩, T.cl_book, noB_of (by unfold noFl; decide +kernel)⟩
theorem mm_add_rest (T : Txt K mg) : MethM P w K mg base 3 "add_rest" fm_add_rest := by
  obtain ⟨fd, F⟩ := T.f_book_add_rest
  exact ⟨⟨_, fd, _, okB_add_rest T F, T.me_book_add_rest, F.bindsN fun _ _ _ _ _ _ us hl => match us, hl with | [_, _, _], _ => rfl⟩, T.cl_book, noB_of (by unfold noFl; decide +kernel)⟩
theorem mm_add_shift (T : Txt K mg) : MethM P w K mg base 3 "add_shift" fm_add_shift := by
  obtain ⟨fd, F⟩ := T.f_book_add_shift
  exact ⟨⟨_, fd, _, okB_add_shift T F, T.me_book_add_shift, F.bindsN fun _ _ _ _ _ _ us hl => match us, hl with | [_, _, _, _], _ => rfl⟩, T.cl_book, noB_of (by unfold noFl; decide +kernel)⟩
theorem pe_book {X : Cx} {p pos : Pos} {j : Nat} (T : Txt X.K X.mg) (hr : Room j X.A) (hj : 2 ≤ j) (hg : Gl X "Book" := by rfl) : PE X (.Call (.Name "Book" p) [] [] pos) (tMake (He.ga X.K "Book") (spInit X.K) [] E0 tNil) := by
  obtain ⟨fd, F⟩ := T.f_book_init
  have b : Binds X.K fd ["self"] [] := F.bindsN fun _ _ _ _ _ _ us hl => match us, hl with | [_], _ => rfl
  exact pe_make0 T.mk_book (okB_init (P := X.prog) (w := X.w) (base := X.base) T F) (hr.mono hj) hg T.gc_book b .nil pass0
end
end RK
namespace RK
open PySem PySem.Spec PyProof.Rows L2 RT
section
variable {P : Program} {w : World} {K : PySem.W.Frag} {mg : Str → Option Value} {base : Heap}
def csRotaError : Str → Option Bool := fun c => if c = "BadName" then some true else if c = "BadStretch" then some true else if c = "BadCount" then some true else if c = "Twice" then some true else if c = "Missing" then some true else none
theorem csRotaError_ok (T : Txt K mg) (c : Str) (b : Bool) (h : csRotaError c = some b) : PySem.W.exmOne K (.ref (He.ga K c)) (.ref (He.ga K "RotaError")) = some b := by
  unfold csRotaError at h
  split at h
  · rename_i e; subst e; cases h; exact T.x_BadName_RotaError
  · split at h
    · rename_i e; subst e; cases h; exact T.x_BadStretch_RotaError
    · split at h
      · rename_i e; subst e; cases h; exact T.x_BadCount_RotaError
      · split at h
        · rename_i e; subst e; cases h; exact T.x_Twice_RotaError
        · split at h
          · rename_i e; subst e; cases h; exact T.x_Missing_RotaError
          · cases h
end
noncomputable section
variable {P : Program} {w : World} {K : PySem.W.Frag} {mg : Str → Option Value} {base : Heap}
abbrev N_rested : List Str := ["_law_book", "_law_person_here", "_law_rest"]
theorem sc_rested : FnScope N_rested ["_law_book", "_law_person_here"] (defScope s_rested) := ⟨rfl, rfl, rfl, by decide +kernel, rfl, by decide +kernel, by decide +kernel⟩
def b_rested : SS := (sFor (iL (eOp gIx (eVarB 1) (eC (.int 3)))) (tg1 2) (sMut kB 0 fm_add_rest (eCons (eOp gIx (eVarB 1) (eC (.int 0))) (eCons (eVar 2) eNil))))
def fm_rested := runM N_rested 2 b_rested
theorem pm_rested (T : Txt K mg) : PFM P w K mg base 4 "_law_rested" fm_rested := by
  obtain ⟨fd, F⟩ := T.f_rested
  refine ⟨_, fd, ["_law_book", "_law_person_here"], ?_, T.g_rested, F.kp, F.bindsN fun _ _ _ _ _ _ us hl => match us, hl with | [_, _], _ => rfl⟩
  refine F.ok sc_rested (fun vs H Q E h => ?_) (fun cdv A outer s H vs Q E hr h => ?_)
  · obtain ⟨G, R, a, β, us, ds, rfl, h1, h2, h3, h4, h5, q⟩ := h
    have := runM_len q
    rw [List.length_cons, h5.len, this]; rfl
  · have hu := hr.units
    have hv := hv_of hr
    exact sp_runM (n := 2) (b := b_rested) (by decide) (fun a => ((ss_one (s_for PassesOwn.never rfl (si_list (se_ix (sb_var 1) (x_eb se_int))) (pg_name (i := 2) sc_rested.nd rfl (by first | exact Or.inl rfl | exact Or.inr rfl)) (tg1_ok 2) (ss_one (s_mut 0 (mm_add_rest T) hr (x_ac (se_ix (sb_var 1) (x_eb se_int)) (x_ac (se_var 2) sa_nil)) (pv 0))))))) h

abbrev N_refused_deed : List Str := ["_law_book", "_law_people", "_law_shifts", "_law_way"]
theorem sc_refused_deed : FnScope N_refused_deed ["_law_book", "_law_people", "_law_shifts", "_law_way"] (defScope s_refused_deed) := ⟨rfl, rfl, rfl, by decide +kernel, rfl, by decide +kernel, by decide +kernel⟩
def b_refused_deed (bk : Addr → Option ObjSt) : SS := (sSeq (sTry (sIf (bF (eOp gEq (eVarB 3) (eC (.int 0)))) (sDropX (xMeth kB bk 0 (excOf fm_add_rest) (eCons (eOp gIx (eOp gIx (eVarB 1) (eUn gNeg (eC (.int 1)))) (eC (.int 0))) (eCons (eTupD (eCons (eUn gNeg (eC (.int 1))) (eCons (eC (.int 2000000)) eNil))) eNil)))) (sIf (bF (eOp gEq (eVarB 3) (eC (.int 1)))) (sDropX (xMeth kB bk 0 (excOf fm_add_person) (eCons (eOp gIx (eOp gIx (eVarB 1) (eC (.int 0))) (eC (.int 0))) (eCons (eList (eLstD (eCons (eC (.str "x")) eNil))) (eCons (eC (.int 1)) eNil))))) (sIf (bF (eOp gEq (eVarB 3) (eC (.int 2)))) (sDropX (xMeth kB bk 0 (excOf fm_add_shift) (eCons (eOp gIx (eOp gIx (eVarB 2) (eUn gNeg (eC (.int 1)))) (eC (.int 0))) (eCons (eOp gIx (eOp gIx (eVarB 2) (eC (.int 0))) (eC (.int 1))) (eCons (eList (eLstD (eCons (eTupD (eCons (eC (.str "x")) (eCons (eC (.int 9)) eNil))) eNil))) eNil))))) (sIf (bF (eOp gEq (eVarB 3) (eC (.int 3)))) (sDropX (xMeth kB bk 0 (excOf fm_add_shift) (eCons (eC (.str "new")) (eCons (eTupD (eCons (eC (.int 0)) (eCons (eC (.int 30)) eNil))) (eCons (eList (eLstD (eCons (eTupD (eCons (eC (.str "x")) (eCons (eC (.int 9)) eNil))) eNil))) eNil))))) (sIf (bF (eOp gEq (eVarB 3) (eC (.int 4)))) (sDropX (xMeth kB bk 0 (excOf fm_add_person) (eCons (eC (.str "new")) (eCons (eList (eLstD (eCons (eC (.str "x")) (eCons (eC (.str "x")) eNil)))) (eCons (eC (.int 3)) eNil))))) (sDropX (xMeth kB bk 0 (excOf fm_add_shift) (eCons (eC (.str "new")) (eCons (eTupD (eCons (eC (.int 0)) (eCons (eC (.int 8)) eNil))) (eCons (eList (eLstD (eCons (eTupD (eCons (eC (.str "x")) (eCons (eC (.int 9)) eNil))) (eCons (eTupD (eCons (eC (.str "y")) (eCons (eC (.int 0)) eNil))) eNil)))) eNil)))))))))) csRotaError (sRet (eC (.bool true))))
  (sRet (eC (.bool false))))
noncomputable def fr_refused_deed : BookSt → List PyData → Res := frOf kB N_refused_deed 4 b_refused_deed
theorem pr_refused_deed (T : Txt K mg) : PFR P w K mg base 4 "_law_refused_deed" fr_refused_deed := by
  have hF := frOf_ok kB N_refused_deed 4 b_refused_deed
  obtain ⟨fd, F⟩ := T.f_refused_deed
  refine ⟨_, fd, ["_law_book", "_law_people", "_law_shifts", "_law_way"], ?_, T.g_refused_deed, F.kp, F.bindsN fun _ _ _ _ _ _ us hl => match us, hl with | [_, _, _, _], _ => rfl⟩
  refine F.ok sc_refused_deed (fun vs H Q E h => spR_len hF h) (fun cdv A outer s H vs Q E hr h => ?_)
  have hu := hr.units
  have hv := hv_of hr
  exact sp_run (kd := kB) (n := 4) (b := b_refused_deed) (fun B => ⟨_, (ss_cons (s_try (cs := csRotaError) (y := "RotaError") rfl rfl ⟨by rfl, by decide, .inl T.gh_RotaError⟩ takes0 (csRotaError_ok T) (fun w' pn xe tk => (ss_one (s_if (st_cmp eq2_s (op_eq2 hu) (sb_var 3) (x_eb se_int) (nomark _)) (ss_one (s_exprX (sx_meth 0 tk (mm_add_rest T).exc hr (x_ac (se_ix (x_eb (se_ix (sb_var 1) (x_eb (se_neg (x_eb se_int))))) (x_eb se_int)) (x_ac (se_tup (x_ac (se_neg (x_eb se_int)) (x_ac se_int sa_nil))) sa_nil)) (pv 0)))) (ss_one (s_if (st_cmp eq2_s (op_eq2 hu) (sb_var 3) (x_eb se_int) (nomark _)) (ss_one (s_exprX (sx_meth 0 tk (mm_add_person T).exc hr (x_ac (se_ix (x_eb (se_ix (sb_var 1) (x_eb se_int))) (x_eb se_int)) (x_ac (x_le (sl_lst (x_ac se_str sa_nil))) (x_ac se_int sa_nil))) (pv 0)))) (ss_one (s_if (st_cmp eq2_s (op_eq2 hu) (sb_var 3) (x_eb se_int) (nomark _)) (ss_one (s_exprX (sx_meth 0 tk (mm_add_shift T).exc hr (x_ac (se_ix (x_eb (se_ix (sb_var 2) (x_eb (se_neg (x_eb se_int))))) (x_eb se_int)) (x_ac (se_ix (x_eb (se_ix (sb_var 2) (x_eb se_int))) (x_eb se_int)) (x_ac (x_le (sl_lst (x_ac (se_tup (x_ac se_str (x_ac se_int sa_nil))) sa_nil))) sa_nil))) (pv 0)))) (ss_one (s_if (st_cmp eq2_s (op_eq2 hu) (sb_var 3) (x_eb se_int) (nomark _)) (ss_one (s_exprX (sx_meth 0 tk (mm_add_shift T).exc hr (x_ac se_str (x_ac (se_tup (x_ac se_int (x_ac se_int sa_nil))) (x_ac (x_le (sl_lst (x_ac (se_tup (x_ac se_str (x_ac se_int sa_nil))) sa_nil))) sa_nil))) (pv 0)))) (ss_one (s_if (st_cmp eq2_s (op_eq2 hu) (sb_var 3) (x_eb se_int) (nomark _)) (ss_one (s_exprX (sx_meth 0 tk (mm_add_person T).exc hr (x_ac se_str (x_ac (x_le (sl_lst (x_ac se_str (x_ac se_str sa_nil)))) (x_ac se_int sa_nil))) (pv 0)))) (ss_one (s_exprX (sx_meth 0 tk (mm_add_shift T).exc hr (x_ac se_str (x_ac (se_tup (x_ac se_int (x_ac se_int sa_nil))) (x_ac (x_le (sl_lst (x_ac (se_tup (x_ac se_str (x_ac se_int sa_nil))) (x_ac (se_tup (x_ac se_str (x_ac se_int sa_nil))) sa_nil)))) sa_nil))) (pv 0))))))))))))))) (fun a pn => (ss_one (s_ret se_bool))))
    (ss_one (s_ret se_bool)))⟩) hF h

abbrev N_book_of : List Str := ["_law_people", "_law_shifts", "_law_turn", "_law_book", "_law_many", "_law_person_here", "_law_shift_here", "_law_way"]
theorem sc_book_of : FnScope N_book_of ["_law_people", "_law_shifts", "_law_turn"] (defScope s_book_of) := ⟨rfl, rfl, rfl, by decide +kernel, rfl, by decide +kernel, by decide +kernel⟩
def b_book_of : SS := (sSeq (sMkB 3)
  (sSeq (sSet 4 (eOp gIx (eList (eLstD (eCons (eCall gLen (eCons (eVarB 0) eNil)) (eCons (eC (.int 0)) (eCons (eOp gMod (eOp gFdiv (eVarB 2) (eC (.int 4))) (eOp gAdd (eCall gLen (eCons (eVarB 0) eNil)) (eC (.int 1)))) (eCons (eCall gLen (eCons (eVarB 0) eNil)) eNil)))))) (eOp gMod (eVarB 2) (eC (.int 4)))))
  (sSeq (sFor (iL (eList (lSl (eVarB 0) oNone (oSome (eVarB 4))))) (tg1 5) (sSeq (sMut kB 3 fm_add_person (eCons (eOp gIx (eVarB 5) (eC (.int 0))) (eCons (eList (eCallL gListOf (eCons (eOp gIx (eVarB 5) (eC (.int 1))) eNil))) (eCons (eOp gIx (eVarB 5) (eC (.int 2))) eNil))))
  (sIf (bF (eOp gNe (eOp gMod (eVarB 2) (eC (.int 4))) (eC (.int 3)))) (sMut kB 3 fm_rested (eCons (eVar 5) eNil)) sNext)))
  (sSeq (sFor (iL (eVar 1)) (tg1 6) (sMut kB 3 fm_add_shift (eCons (eOp gIx (eVarB 6) (eC (.int 0))) (eCons (eOp gIx (eVarB 6) (eC (.int 1))) (eCons (eList (eCallL gListOf (eCons (eOp gIx (eVarB 6) (eC (.int 2))) eNil))) eNil)))))
  (sSeq (sFor (iL (eList (lSl (eVarB 0) (oSome (eVarB 4)) oNone))) (tg1 5) (sSeq (sMut kB 3 fm_add_person (eCons (eOp gIx (eVarB 5) (eC (.int 0))) (eCons (eList (eCallL gListOf (eCons (eOp gIx (eVarB 5) (eC (.int 1))) eNil))) (eCons (eOp gIx (eVarB 5) (eC (.int 2))) eNil))))
  (sMut kB 3 fm_rested (eCons (eVar 5) eNil))))
  (sSeq (sIf (bF (eOp gEq (eOp gMod (eVarB 2) (eC (.int 4))) (eC (.int 3)))) (sFor (iL (eVar 0)) (tg1 5) (sMut kB 3 fm_rested (eCons (eVar 5) eNil))) sNext)
  (sSeq (sFor (iR2 (eCons (eOp gIx (eList (eLstD (eCons (eC (.int 0)) (eCons (eC (.int 2)) eNil)))) (eCall gInt (eCons (eOp gEq (eVarB 0) (eList (eLstD eNil))) eNil))) (eCons (eC (.int 6)) eNil))) (tg1 7) (sIf (tOrF (bF (eOp gNe (eVarB 7) (eC (.int 2)))) (bF (eOp gNe (eVarB 1) (eList (eLstD eNil))))) (sDrop (eMeth kB noB.bk 3 fr_refused_deed (eCons (eVar 0) (eCons (eVar 1) (eCons (eVar 7) eNil))))) sNext))
  (sRetO 3))))))))
def fn_book_of := runNew kB N_book_of 3 b_book_of
theorem pn_book_of (T : Txt K mg) : PFN P w K mg base 5 kB "_law_book_of" fn_book_of := by
  obtain ⟨fd, F⟩ := T.f_book_of
  refine ⟨_, fd, ["_law_people", "_law_shifts", "_law_turn"], ?_, T.g_book_of, F.kp, F.bindsN fun _ _ _ _ _ _ us hl => match us, hl with | [_, _, _], _ => rfl⟩
  refine F.ok sc_book_of (fun vs H Q E h => ?_) (fun cdv A outer s H vs Q E hr h => ?_)
  · obtain ⟨G, ds, β, h1, h5, q, _⟩ := h
    have := runNew_len q
    rw [h5.len, this]; rfl
  · have hu := hr.units
    have hv := hv_of hr
    exact sp_runN (n := 3) (b := b_book_of) ((ss_cons (s_mkB 3 rfl (by exact (ps_set (i := 3) sc_book_of.nd rfl (Or.inl rfl) (pe_book T hr (by decide)))))
    (ss_cons (s_set 4 sc_book_of.nd (se_ix (x_eb (x_le (sl_lst (x_ac (se_cb len_s call_len T.z_len (x_abc (sb_var 0) sab_nil)) (x_ac se_int (x_ac (se_mod (x_eb (se_fdiv (sb_var 2) (x_eb se_int))) (x_eb (se_add (x_eb (se_cb len_s call_len T.z_len (x_abc (sb_var 0) sab_nil))) (x_eb se_int)))) (x_ac (se_cb len_s call_len T.z_len (x_abc (sb_var 0) sab_nil)) sa_nil))))))) (x_eb (se_mod (sb_var 2) (x_eb se_int)))))
    (ss_cons (s_for PassesOwn.never rfl (si_list (x_le (sl_sl (sb_var 0) so_none (so_some (sb_var 4))))) (pg_name (i := 5) sc_book_of.nd rfl (by first | exact Or.inl rfl | exact Or.inr rfl)) (tg1_ok 5) (ss_cons (s_mut 3 (mm_add_person T) hr (x_ac (se_ix (sb_var 5) (x_eb se_int)) (x_ac (x_le (sl_ct listOf_s call_list_of T.z_list (x_abc (x_eb (se_ix (sb_var 5) (x_eb se_int))) sab_nil))) (x_ac (se_ix (sb_var 5) (x_eb se_int)) sa_nil))) (pv 3))
    (ss_one (s_if (st_cmp ne2_s (op_ne2 hu) (x_eb (se_mod (sb_var 2) (x_eb se_int))) (x_eb se_int) (nomark _)) (ss_one (s_callM 3 (pm_rested T) hr (x_ac (se_var 5) sa_nil) (pv 3))) ss_nil))))
    (ss_cons (s_for PassesOwn.never rfl (si_list (se_var 1)) (pg_name (i := 6) sc_book_of.nd rfl (by first | exact Or.inl rfl | exact Or.inr rfl)) (tg1_ok 6) (ss_one (s_mut 3 (mm_add_shift T) hr (x_ac (se_ix (sb_var 6) (x_eb se_int)) (x_ac (se_ix (sb_var 6) (x_eb se_int)) (x_ac (x_le (sl_ct listOf_s call_list_of T.z_list (x_abc (x_eb (se_ix (sb_var 6) (x_eb se_int))) sab_nil))) sa_nil))) (pv 3))))
    (ss_cons (s_for PassesOwn.never rfl (si_list (x_le (sl_sl (sb_var 0) (so_some (sb_var 4)) so_none))) (pg_name (i := 5) sc_book_of.nd rfl (by first | exact Or.inl rfl | exact Or.inr rfl)) (tg1_ok 5) (ss_cons (s_mut 3 (mm_add_person T) hr (x_ac (se_ix (sb_var 5) (x_eb se_int)) (x_ac (x_le (sl_ct listOf_s call_list_of T.z_list (x_abc (x_eb (se_ix (sb_var 5) (x_eb se_int))) sab_nil))) (x_ac (se_ix (sb_var 5) (x_eb se_int)) sa_nil))) (pv 3))
    (ss_one (s_callM 3 (pm_rested T) hr (x_ac (se_var 5) sa_nil) (pv 3)))))
    (ss_cons (s_if (st_cmp eq2_s (op_eq2 hu) (x_eb (se_mod (sb_var 2) (x_eb se_int))) (x_eb se_int) (nomark _)) (ss_one (s_for PassesOwn.never rfl (si_list (se_var 0)) (pg_name (i := 5) sc_book_of.nd rfl (by first | exact Or.inl rfl | exact Or.inr rfl)) (tg1_ok 5) (ss_one (s_callM 3 (pm_rested T) hr (x_ac (se_var 5) sa_nil) (pv 3))))) ss_nil)
    (ss_cons (s_for PassesOwn.never rfl (si_range2 T.z_range (x_abc (x_eb (se_ix (x_eb (x_le (sl_lst (x_ac se_int (x_ac se_int sa_nil))))) (x_eb (se_ct int_s call_int1 T.z_int (x_abc (x_eb (se_cmp eq2_s (op_eq2 hu) (sb_var 0) (x_eb (x_le (sl_lst sa_nil))) (nomark _))) sab_nil))))) (x_abc (x_eb se_int) sab_nil))) (pg_name (i := 7) sc_book_of.nd rfl (by first | exact Or.inl rfl | exact Or.inr rfl)) (tg1_ok 7) (ss_one (s_if (x_wt (sw_or (st_cmp ne2_s (op_ne2 hu) (sb_var 7) (x_eb se_int) (nomark _)) (sw_or1 (st_cmp ne2_s (op_ne2 hu) (sb_var 1) (x_eb (x_le (sl_lst sa_nil))) (nomark _))))) (ss_one (s_expr (se_callR 3 (pr_refused_deed T) hr (x_ac (se_var 0) (x_ac (se_var 1) (x_ac (se_var 7) sa_nil))) (pv 3)))) ss_nil)))
    (ss_one (s_retO 3 (pv 3))))))))))) h

abbrev N_is_known : List Str := ["book", "row"]
theorem sc_is_known : FnScope N_is_known ["book", "row"] (defScope s_is_known) := ⟨rfl, rfl, rfl, by decide +kernel, rfl, by decide +kernel, by decide +kernel⟩
def b_is_known (bk : Addr → Option ObjSt) : SS := (sRet (eAndF (eOp gIn (eTupD (eCons (eOp gIx (eVarB 1) (eC (.int 0))) (eCons (eOp gIx (eVarB 1) (eC (.int 1))) eNil))) (eMeth kB bk 0 fr_posts eNil)) (eOp gIn (eOp gIx (eVarB 1) (eC (.int 2))) (eMeth kB bk 0 fr_people eNil))))
noncomputable def fr_is_known : BookSt → List PyData → Res := frOf kB N_is_known 2 b_is_known
theorem pr_is_known (T : Txt K mg) : PFR P w K mg base 2 "is_known" fr_is_known := by
  have hF := frOf_ok kB N_is_known 2 b_is_known
  obtain ⟨fd, F⟩ := T.f_is_known
  refine ⟨_, fd, ["book", "row"], ?_, T.g_is_known, F.kp, F.bindsN fun _ _ _ _ _ _ us hl => match us, hl with | [_, _], _ => rfl⟩
  refine F.ok sc_is_known (fun vs H Q E h => spR_len hF h) (fun cdv A outer s H vs Q E hr h => ?_)
  have hu := hr.units
  have hv := hv_of hr
  exact sp_run (kd := kB) (n := 2) (b := b_is_known) (fun B => ⟨_, (ss_one (s_ret (se_and (se_cmp in2_s (op_in2 hv) (x_eb (se_tup (x_ac (se_ix (sb_var 1) (x_eb se_int)) (x_ac (se_ix (sb_var 1) (x_eb se_int)) sa_nil)))) (x_eb (se_meth0 0 (mr_posts T) hr (pv 0))) (by rfl)) (se_one (se_cmp in2_s (op_in2 hv) (x_eb (se_ix (sb_var 1) (x_eb se_int))) (x_eb (se_meth0 0 (mr_people T) hr (pv 0))) (by rfl))))))⟩) hF h

abbrev N_fault_of : List Str := ["book", "row", "ahead", "day", "own", "other"]
theorem sc_fault_of : FnScope N_fault_of ["book", "row", "ahead"] (defScope s_fault_of) := ⟨rfl, rfl, rfl, by decide +kernel, rfl, by decide +kernel, by decide +kernel⟩
def b_fault_of (bk : Addr → Option ObjSt) : SS := (sSeq (sIf (tNotF (bF (eMeth kB bk 0 fr_is_known (eCons (eVar 1) eNil)))) (sRet (eC (.str "stranger"))) sNext)
  (sSeq (sIf (tNotF (bF (eMeth kB bk 0 fr_may (eCons (eOp gIx (eVarB 1) (eC (.int 2))) (eCons (eOp gIx (eVarB 1) (eC (.int 0))) (eCons (eOp gIx (eVarB 1) (eC (.int 1))) eNil)))))) (sRet (eC (.str "unfit"))) sNext)
  (sSeq (sSet 3 (eCall F_day_of (eCons (eMeth kB bk 0 fr_stretch_of (eCons (eOp gIx (eVarB 1) (eC (.int 0))) eNil)) eNil)))
  (sSeq (sSet 4 (eList (lLc (iL (eVarB 2)) 5 (bF (eOp gEq (eOp gIx (eVarB 5) (eC (.int 2))) (eOp gIx (eVarB 1) (eC (.int 2))))) (eVar 5))))
  (sSeq (sIf (bF (eOp gIn (eVarB 3) (eList (lLc (iL (eVarB 4)) 5 tYesF (eCall F_day_of (eCons (eMeth kB bk 0 fr_stretch_of (eCons (eOp gIx (eVarB 5) (eC (.int 0))) eNil)) eNil)))))) (sRet (eC (.str "twice"))) sNext)
  (sSeq (sIf (bF (eOp gGe (eCall gLen (eCons (eVarB 4) eNil)) (eMeth kB bk 0 fr_limit_of (eCons (eOp gIx (eVarB 1) (eC (.int 2))) eNil)))) (sRet (eC (.str "over"))) sNext)
  (sRet (eC (.str "")))))))))
noncomputable def fr_fault_of : BookSt → List PyData → Res := frOf kB N_fault_of 3 b_fault_of
theorem pr_fault_of (T : Txt K mg) : PFR P w K mg base 3 "fault_of" fr_fault_of := by
  have hF := frOf_ok kB N_fault_of 3 b_fault_of
  obtain ⟨fd, F⟩ := T.f_fault_of
  refine ⟨_, fd, ["book", "row", "ahead"], ?_, T.g_fault_of, F.kp, F.bindsN fun _ _ _ _ _ _ us hl => match us, hl with | [_, _, _], _ => rfl⟩
  refine F.ok sc_fault_of (fun vs H Q E h => spR_len hF h) (fun cdv A outer s H vs Q E hr h => ?_)
  have hu := hr.units
  have hv := hv_of hr
  exact sp_run (kd := kB) (n := 3) (b := b_fault_of) (fun B => ⟨_, (ss_cons (s_if (st_not (st_val (se_callR 0 (pr_is_known T) hr (x_ac (se_var 1) sa_nil) (pv 0)))) (ss_one (s_ret se_str)) ss_nil)
    (ss_cons (s_if (st_not (st_val (se_meth 0 (mr_may T) hr (x_ac (se_ix (sb_var 1) (x_eb se_int)) (x_ac (se_ix (sb_var 1) (x_eb se_int)) (x_ac (se_ix (sb_var 1) (x_eb se_int)) sa_nil))) (pv 0)))) (ss_one (s_ret se_str)) ss_nil)
    (ss_cons (s_set 3 sc_fault_of.nd (se_call (ok_day_of T) hr (x_ac (se_meth 0 (mr_stretch_of T) hr (x_ac (se_ix (sb_var 1) (x_eb se_int)) sa_nil) (pv 0)) sa_nil)))
    (ss_cons (s_setLcE 4 (by exact (sl_lc (j := 5) rfl sc_fault_of.nd rfl (si_listB (sb_var 2)) (blkOk_by (N := N_fault_of) (sc := defScope s_fault_of) (own := [("other", 5)]) (by decide +kernel)) (fun _ _ _ _ _ => (sts_one (st_cmp eq2_s (op_eq2 hu) (x_eb (se_ix (sb_var 5) (x_eb se_int))) (x_eb (se_ix (sb_var 1) (x_eb se_int))) (nomark _)))) (fun _ _ _ _ _ => (se_var 5)) (fun _ _ _ _ _ => pg_name sc_fault_of.nd rfl (Or.inl rfl)))) (by exact (ps_setLc (i := 4) (own := [("other", 5)]) (g := gName 5) rfl sc_fault_of.nd rfl rfl (sw_true rfl rfl rfl (by decide +kernel)) (x_pi (K := K) (si_listB (sb_var 2))) (blkOk_by (N := N_fault_of) (sc := defScope s_fault_of) (own := [("other", 5)]) (by decide +kernel)) (fun _ _ _ _ _ => pg_name sc_fault_of.nd rfl (Or.inl rfl)) (fun _ _ _ _ _ => (pts_one (x_pt (K := K) (st_cmp eq2_s (op_eq2 hu) (x_eb (se_ix (sb_var 5) (x_eb se_int))) (x_eb (se_ix (sb_var 1) (x_eb se_int))) (nomark _))))) (fun _ _ _ _ _ => (x_pe (K := K) (se_var 5))))))
    (ss_cons (s_if (st_cmp in2_s (op_in2 hv) (sb_var 3) (x_eb (x_le (sl_lc (j := 5) rfl sc_fault_of.nd rfl (si_listB (sb_var 4)) (blkOk_by (N := N_fault_of) (sc := defScope s_fault_of) (own := [("other", 5)]) (by decide +kernel)) (fun _ _ _ _ _ => sts_nil) (fun _ _ _ _ _ => (se_call (ok_day_of T) hr (x_ac (se_meth 0 (mr_stretch_of T) hr (x_ac (se_ix (sb_var 5) (x_eb se_int)) sa_nil) (pv 0)) sa_nil))) (fun _ _ _ _ _ => pg_name sc_fault_of.nd rfl (Or.inl rfl))))) (by rfl)) (ss_one (s_ret se_str)) ss_nil)
    (ss_cons (s_if (st_cmp ge_s op_ge (x_eb (se_cb len_s call_len T.z_len (x_abc (sb_var 4) sab_nil))) (x_eb (se_meth 0 (mr_limit_of T) hr (x_ac (se_ix (sb_var 1) (x_eb se_int)) sa_nil) (pv 0))) (nomark _)) (ss_one (s_ret se_str)) ss_nil)
    (ss_one (s_ret se_str))))))))⟩) hF h

abbrev N_faults : List Str := ["book", "rows", "found", "ahead", "place", "row", "word", "post", "many", "count"]
theorem sc_faults : FnScope N_faults ["book", "rows"] (defScope s_faults) := ⟨rfl, rfl, rfl, by decide +kernel, rfl, by decide +kernel, by decide +kernel⟩
def b_faults (bk : Addr → Option ObjSt) : SS := (sSeq (sSetL 2 (eLstD eNil))
  (sSeq (sSetL 3 (eLstD eNil))
  (sSeq (sFor (iE (eCons (eVar 1) eNil)) (tg2 4 5) (sSeq (sSet 6 (fun ρ => onlyS (eMeth kB bk 0 fr_fault_of (eCons (eVar 5) (eCons (eVarB 3) eNil)) ρ)))
  (sSeq (sIf (bF (eOp gNe (eVarB 6) (eC (.str "")))) (sApp 2 (eTupD (eCons (eVar 6) (eCons (eVar 4) eNil)))) sNext)
  (sIf (bF (eOp gNe (eVarB 6) (eC (.str "stranger")))) (sApp 3 (eVar 5)) sNext))))
  (sSeq (sFor (iL (eMeth kB bk 0 fr_posts eNil)) (tg1 7) (sSeq (sSet 8 (eCall gLen (eCons (eList (lLc (iL (eVarB 3)) 5 (bF (eOp gEq (eTupD (eCons (eOp gIx (eVarB 5) (eC (.int 0))) (eCons (eOp gIx (eVarB 5) (eC (.int 1))) eNil))) (eVarB 7))) (eVar 5))) eNil)))
  (sSeq (sSet 9 (eMeth kB bk 0 fr_count_of (eCons (eOp gIx (eVarB 7) (eC (.int 0))) (eCons (eOp gIx (eVarB 7) (eC (.int 1))) eNil))))
  (sSeq (sIf (bF (eOp gLt (eVarB 8) (eVarB 9))) (sApp 2 (eTupD (eCons (eC (.str "few")) (eCons (eOp gIx (eVarB 7) (eC (.int 0))) (eCons (eOp gIx (eVarB 7) (eC (.int 1))) (eCons (eOp gMinus (eVarB 9) (eVarB 8)) eNil)))))) sNext)
  (sIf (bF (eOp gGt (eVarB 8) (eVarB 9))) (sApp 2 (eTupD (eCons (eC (.str "many")) (eCons (eOp gIx (eVarB 7) (eC (.int 0))) (eCons (eOp gIx (eVarB 7) (eC (.int 1))) (eCons (eOp gMinus (eVarB 8) (eVarB 9)) eNil)))))) sNext)))))
  (sRetL 2)))))
noncomputable def frl_faults : BookSt → List PyData → Option (List PyData) := frLOf kB N_faults 2 b_faults
theorem prl_faults (T : Txt K mg) : PFRL P w K mg base 4 kB "faults" frl_faults := by
  obtain ⟨fd, F⟩ := T.f_faults
  refine ⟨_, fd, ["book", "rows"], ?_, T.g_faults, F.kp, F.bindsN fun _ _ _ _ _ _ us hl => match us, hl with | [_, _], _ => rfl⟩
  refine F.ok sc_faults (fun vs H Q E h => spRL_len h) (fun cdv A outer s H vs Q E hr h => ?_)
  have hu := hr.units
  have hv := hv_of hr
  exact sp_runRL (kd := kB) (n := 2) (b := b_faults) (fun B => ⟨_, (ss_cons (s_setL 2 sc_faults.nd (sl_lst sa_nil))
    (ss_cons (s_setL 3 sc_faults.nd (sl_lst sa_nil))
    (ss_cons (s_for PassesOwn.never rfl (si_enum T.z_enumerate (x_ac (se_var 1) sa_nil)) (pg_tup (by rfl) (pgs_cons (pg_name (i := 4) sc_faults.nd rfl (by first | exact Or.inl rfl | exact Or.inr rfl)) (pgs_cons (pg_name (i := 5) sc_faults.nd rfl (by first | exact Or.inl rfl | exact Or.inr rfl)) pgs_nil))) (tg2_ok 4 5) (ss_cons (s_set 6 sc_faults.nd (se_callRB 0 (pr_fault_of T) hr (sca_e (se_var 5) (sca_own 3 (pv 3) sca_nil)) (pv 0)))
    (ss_cons (s_if (st_cmp ne2_s (op_ne2 hu) (sb_var 6) (x_eb se_str) (nomark _)) (ss_one (s_app 2 (se_tup (x_ac (se_var 6) (x_ac (se_var 4) sa_nil))) (by exact (ps_expr (pe_bm PySem.F.plainAttrs_list PySem.F.slot_list_append PySem.F.type_list_append mt_append (pv 2) (pa_cons (x_pe (K := K) (se_tup (x_ac (se_var 6) (x_ac (se_var 4) sa_nil)))) pa_nil)))))) ss_nil)
    (ss_one (s_if (st_cmp ne2_s (op_ne2 hu) (sb_var 6) (x_eb se_str) (nomark _)) (ss_one (s_app 3 (se_var 5) (by exact (ps_expr (pe_bm PySem.F.plainAttrs_list PySem.F.slot_list_append PySem.F.type_list_append mt_append (pv 3) (pa_cons (x_pe (K := K) (se_var 5)) pa_nil)))))) ss_nil)))))
    (ss_cons (s_for PassesOwn.never rfl (si_list (se_meth0 0 (mr_posts T) hr (pv 0))) (pg_name (i := 7) sc_faults.nd rfl (by first | exact Or.inl rfl | exact Or.inr rfl)) (tg1_ok 7) (ss_cons (s_set 8 sc_faults.nd (se_cb len_s call_len T.z_len (x_abc (x_eb (x_le (sl_lc (j := 5) rfl sc_faults.nd rfl (si_listB (sb_var 3)) (blkOk_by (N := N_faults) (sc := defScope s_faults) (own := [("row", 5)]) (by decide +kernel)) (fun _ _ _ _ _ => (sts_one (st_cmp eq2_s (op_eq2 hu) (x_eb (se_tup (x_ac (se_ix (sb_var 5) (x_eb se_int)) (x_ac (se_ix (sb_var 5) (x_eb se_int)) sa_nil)))) (sb_var 7) (nomark _)))) (fun _ _ _ _ _ => (se_var 5)) (fun _ _ _ _ _ => pg_name sc_faults.nd rfl (Or.inl rfl))))) sab_nil)))
    (ss_cons (s_set 9 sc_faults.nd (se_meth 0 (mr_count_of T) hr (x_ac (se_ix (sb_var 7) (x_eb se_int)) (x_ac (se_ix (sb_var 7) (x_eb se_int)) sa_nil)) (pv 0)))
    (ss_cons (s_if (st_cmp lt_s op_lt (sb_var 8) (sb_var 9) (nomark _)) (ss_one (s_app 2 (se_tup (x_ac se_str (x_ac (se_ix (sb_var 7) (x_eb se_int)) (x_ac (se_ix (sb_var 7) (x_eb se_int)) (x_ac (se_sub (sb_var 9) (sb_var 8)) sa_nil))))) (by exact (ps_expr (pe_bm PySem.F.plainAttrs_list PySem.F.slot_list_append PySem.F.type_list_append mt_append (pv 2) (pa_cons (x_pe (K := K) (se_tup (x_ac se_str (x_ac (se_ix (sb_var 7) (x_eb se_int)) (x_ac (se_ix (sb_var 7) (x_eb se_int)) (x_ac (se_sub (sb_var 9) (sb_var 8)) sa_nil)))))) pa_nil)))))) ss_nil)
    (ss_one (s_if (st_cmp gt_s op_gt (sb_var 8) (sb_var 9) (nomark _)) (ss_one (s_app 2 (se_tup (x_ac se_str (x_ac (se_ix (sb_var 7) (x_eb se_int)) (x_ac (se_ix (sb_var 7) (x_eb se_int)) (x_ac (se_sub (sb_var 8) (sb_var 9)) sa_nil))))) (by exact (ps_expr (pe_bm PySem.F.plainAttrs_list PySem.F.slot_list_append PySem.F.type_list_append mt_append (pv 2) (pa_cons (x_pe (K := K) (se_tup (x_ac se_str (x_ac (se_ix (sb_var 7) (x_eb se_int)) (x_ac (se_ix (sb_var 7) (x_eb se_int)) (x_ac (se_sub (sb_var 8) (sb_var 9)) sa_nil)))))) pa_nil)))))) ss_nil))))))
    (ss_one (s_retL 2 (pv 2)))))))⟩) h

abbrev N_gone_along : List Str := ["_law_people", "_law_shifts", "_law_more", "_law_rows", "_law_shift_here", "_law_need", "_law_turn"]
theorem sc_gone_along : FnScope N_gone_along ["_law_people", "_law_shifts", "_law_more"] (defScope s_gone_along) := ⟨rfl, rfl, rfl, by decide +kernel, rfl, by decide +kernel, by decide +kernel⟩
def b_gone_along : SS := (sSeq (sSetL 3 (eLstD eNil))
  (sSeq (sFor (iL (eVar 1)) (tg1 4) (sFor (iL (eOp gIx (eVarB 4) (eC (.int 2)))) (tg1 5) (sFor (iR1 (eCons (eOp gIx (eVarB 5) (eC (.int 1))) eNil)) (tg1 6) (sSetL 3 (lAdd (eVarB 3) (eCall (fun ds => onlyF (F_first ds)) (eCons (eVarB 3) (eCons (eVarB 0) (eCons (eVarB 1) (eCons (eVarB 4) (eCons (eOp gIx (eVarB 5) (eC (.int 0))) (eCons (eVarB 2) eNil))))))))))))
  (sRetL 3)))
def fl_gone_along : List PyData → Option (List PyData) := runL N_gone_along 3 b_gone_along
theorem pl_gone_along (T : Txt K mg) : PFL P w K mg base 3 "_law_gone_along" fl_gone_along := by
  obtain ⟨fd, F⟩ := T.f_gone_along
  refine ⟨_, fd, ["_law_people", "_law_shifts", "_law_more"], ?_, T.g_gone_along, F.kp, F.bindsN fun _ _ _ _ _ _ us hl => match us, hl with | [_, _, _], _ => rfl⟩
  refine F.ok sc_gone_along (fun vs H Q E h => spNewL_len h) (fun cdv A outer s H vs Q E hr h => ?_)
  have hu := hr.units
  have hv := hv_of hr
  exact sp_runL (n := 3) (b := b_gone_along) ⟨_, (ss_cons (s_setL 3 sc_gone_along.nd (sl_lst sa_nil))
    (ss_cons (s_for PassesOwn.never rfl (si_list (se_var 1)) (pg_name (i := 4) sc_gone_along.nd rfl (by first | exact Or.inl rfl | exact Or.inr rfl)) (tg1_ok 4) (ss_one (s_for PassesOwn.never rfl (si_list (se_ix (sb_var 4) (x_eb se_int))) (pg_name (i := 5) sc_gone_along.nd rfl (by first | exact Or.inl rfl | exact Or.inr rfl)) (tg1_ok 5) (ss_one (s_for PassesOwn.never rfl (si_range1 T.z_range (x_abc (x_eb (se_ix (sb_var 5) (x_eb se_int))) sab_nil)) (pg_name (i := 6) sc_gone_along.nd rfl (by first | exact Or.inl rfl | exact Or.inr rfl)) (tg1_ok 6) (ss_one (s_setL 3 sc_gone_along.nd (sl_add (sb_var 3) (sb_callBF (ok_first T) hr (x_abc (sb_var 3) (x_abc (sb_var 0) (x_abc (sb_var 1) (x_abc (sb_var 4) (x_abc (x_eb (se_ix (sb_var 5) (x_eb se_int))) (x_abc (sb_var 2) sab_nil)))))))))))))))
    (ss_one (s_retL 3 (pv 3)))))⟩ h
end
end RK
namespace RK
open PySem PySem.Spec PyProof.Rows L2 RT
theorem F_cell_eq (ns : List Int) (k : Nat) : F_cell [scrD ns, .int (k : Nat)] = some (.int (cell ns k)) := by
  have h := cell_ev ns k
  unfold F_cell
  rw [runF_eq]
  simp [b_cell, rho0, scrD, lSl, oSome, cutA_one] at h ⊢
  rw [h]
  rfl
def sg1 : Str := "!\"#$&'()*+,-./0123456789:;<=>?"
def sg2 : Str := "@ABCDEFGHIJKLMNOPQRSTUVWXYZ[\\]^_`"
def sg3 : Str := "abcdefghijklmnopqrstuvwxyz{|}~"
def sgs : Str := sg1 ++ sg2 ++ sg3
theorem sgs_len : sgs.length = 93 := by decide +kernel
theorem sg1_len : sg1.length = 30 := by decide +kernel
theorem sg2_len : sg2.length = 33 := by decide +kernel
theorem sg3_len : sg3.length = 30 := by decide +kernel
def sg (c : Int) : Nat := (sgs.cps.toList[(c % 93).toNat]?).getD 0
theorem sg_at (c : Int) : atI sgs.cps.toList (c % 93) = some (sg c) ∧ sg c ∈ sgs.cps.toList := by
  have hl : sgs.cps.toList.length = 93 := by
    have h := sgs_len
    simpa [Str.length] using h
  obtain ⟨x, h1, h2⟩ := atI_mod sgs.cps.toList c 93 (by rw [hl]; rfl) (by decide)
  have e : sg c = x := by
    rw [atI_pos _ _ (Int.emod_nonneg _ (by decide))] at h2
    unfold sg
    rw [h2]; rfl
  rw [e]
  exact ⟨h2, h1⟩
theorem F_sign_eq (c : Int) : F_sign [.int c] = some (.str ⟨#[sg c]⟩) := by
  have e1 : gAdd (.str sg1) (.str sg2) = some (.str (sg1 ++ sg2)) := by
    rw [gAdd_strE, if_pos (by rw [sg1_len, sg2_len]; decide)]
  have e2 : gAdd (.str (sg1 ++ sg2)) (.str sg3) = some (.str sgs) := by
    rw [gAdd_strE, if_pos (by decide +kernel)]
    rfl
  have e3 : gIx (.str sgs) (.int (c % 93)) = some (.str ⟨#[sg c]⟩) := by
    rw [gIx_str _ _ (by rw [sgs_len]; decide), (sg_at c).1]
    rfl
  unfold F_sign
  rw [runF_eq]
  simp [b_sign, rho0]
  rw [show ("!\"#$&'()*+,-./0123456789:;<=>?" : Str) = sg1 from rfl, show ("@ABCDEFGHIJKLMNOPQRSTUVWXYZ[\\]^_`" : Str) = sg2 from rfl, show ("abcdefghijklmnopqrstuvwxyz{|}~" : Str) = sg3 from rfl, e1]
  simp [e2, e3]
def SGN : Str := "!\"#$&'()*+,-./0123456789:;<=>?@ABCDEFGHIJKLMNOPQRSTUVWXYZ[\\]^_`abcdefghijklmnopqrstuvwxyz{|}~"
/-- whether a text is a name -/
def isName (z : Str) : Bool := decide (1 ≤ z.length) && decide (z.length ≤ 20) && z.cps.toList.all fun c => decide (c ∈ SGN.cps.toList)
theorem gNotIn_sign (c : Nat) (z : Str) : gNotIn (.str ⟨#[c]⟩) (.str z) = some (.bool (!decide (c ∈ z.cps.toList))) := rfl
theorem F_is_name_eq (z : Str) (hz : z.length ≤ LIM) : F_is_name [.str z] = some (.bool (isName z)) := by
  unfold F_is_name
  rw [runF_eq]
  obtain ⟨s', r', e⟩ := forF_find0 (j := 1) (ρ := [.val (.str z), .no]) (r := .bool false) (body := (sIf (bF (eOp gNotIn (eVarB 1) (eC (.str "!\"#$&'()*+,-./0123456789:;<=>?@ABCDEFGHIJKLMNOPQRSTUVWXYZ[\\]^_`abcdefghijklmnopqrstuvwxyz{|}~")))) (sRet (eC (.bool false))) sNext))
    (fun d => match d with | .str x => !x.cps.toList.all fun c => decide (c ∈ SGN.cps.toList) | _ => true) (ds := signsD z) (by simp) (fun d hd => by
      obtain ⟨c, _, rfl⟩ := mem_signsD hd
      rw [show ("!\"#$&'()*+,-./0123456789:;<=>?@ABCDEFGHIJKLMNOPQRSTUVWXYZ[\\]^_`abcdefghijklmnopqrstuvwxyz{|}~" : Str) = SGN from rfl]
      simp [gNotIn_sign])
  have e2 : ((signsD z).any fun d => match d with | .str x => !x.cps.toList.all fun c => decide (c ∈ SGN.cps.toList) | _ => true) = !z.cps.toList.all fun c => decide (c ∈ SGN.cps.toList) := by
    unfold signsD
    rw [List.any_map, List.all_eq_not_any_not, Bool.not_not]
    congr 1
    funext c
    simp
  rw [e2] at e
  unfold isName
  generalize (z.cps.toList.all fun c => decide (c ∈ SGN.cps.toList)) = b at e ⊢
  simp [b_is_name, rho0, N_is_name, sgD_str z hz, hz, e]
  cases b <;> simp <;> (repeat' split) <;> simp_all <;> omega
/-! joined signs -/
theorem join_ones : ∀ cs : List Nat, Txt.join "" (cs.map fun c => (⟨#[c]⟩ : Str)) = ⟨cs.toArray⟩ := by
  intro cs
  rw [TL.join_eq]
  have h : ∀ cs : List Nat, (Str.join "" (cs.map fun c => (⟨#[c]⟩ : Str))).cps.toList = cs := by
    intro cs
    induction cs with
    | nil => rfl
    | cons c r ih =>
      cases r with
      | nil => rfl
      | cons d r =>
        show ((⟨#[c]⟩ : Str) ++ "" ++ Str.join "" ((d :: r).map fun c => (⟨#[c]⟩ : Str))).cps.toList = _
        have e : ∀ x y : Str, (x ++ y).cps.toList = x.cps.toList ++ y.cps.toList := fun x y => by
          show (x.cps ++ y.cps).toList = _
          simp
        rw [e, e, ih]
        rfl
  have e := h cs
  cases hh : Str.join "" (cs.map fun c => (⟨#[c]⟩ : Str)) with
  | mk a =>
    rw [hh] at e
    rw [← e]

theorem sg_mem (c : Int) : sg c ∈ SGN.cps.toList := by
  have h := (sg_at c).2
  rw [show SGN.cps.toList = sgs.cps.toList from by decide +kernel]
  exact h
theorem isName_codes (cs : List Nat) : isName ⟨cs.toArray⟩ = (decide (1 ≤ cs.length) && decide (cs.length ≤ 20) && cs.all fun c => decide (c ∈ SGN.cps.toList)) := by
  simp [isName, Str.length]
theorem gJoin_ones (cs : List Nat) (h : cs.length ≤ LIM) : gJoin (.str "") (.list (cs.map fun c => PyData.str ⟨#[c]⟩)) = some (.str ⟨cs.toArray⟩) := by
  have e := gJoin_strs "" (cs.map fun c => (⟨#[c]⟩ : Str)) (by
    rw [List.map_map]
    have : ((cs.map ((·.length) ∘ fun c => (⟨#[c]⟩ : Str))).sum) = cs.length := by
      induction cs with
      | nil => rfl
      | cons c r ih => 
        have := ih (by simp at h ⊢; omega)
        simp [Str.length] at this ⊢
        omega
    rw [this]
    simpa [Str.length, show (Str.ofString "").cps.size = 0 from rfl] using h)
  rw [join_ones, List.map_map] at e
  exact e
/-! ### names, by codes -/
def tailC (c : Int) : List Nat := (List.range (c % 20).toNat).map fun (k : Nat) => sg (c / 20 + 5 * (k : Int) * (c % 7))
theorem tailC_len (c : Int) : (tailC c).length ≤ 19 := by
  have h1 := Int.emod_nonneg c (show (20 : Int) ≠ 0 by decide)
  have h2 := Int.emod_lt_of_pos c (show (0 : Int) < 20 by decide)
  simp only [tailC, List.length_map, List.length_range]
  omega
theorem tailC_mem {c : Int} {x : Nat} (h : x ∈ tailC c) : x ∈ SGN.cps.toList := by
  simp only [tailC, List.mem_map] at h
  obtain ⟨i, _, rfl⟩ := h
  exact sg_mem _
theorem F_sign_S (c : Int) : F_sign [.int c] = some (.str (SX.S [sg c])) := F_sign_eq c
theorem F_tail_eq (c : Int) : F_tail [.int c] = some (.str (SX.S (tailC c))) := by
  have n0 := Int.emod_nonneg c (show (20 : Int) ≠ 0 by decide)
  have n1 := Int.emod_lt_of_pos c (show (0 : Int) < 20 by decide)
  have e : lcF 1 tYesF (eCall F_sign (eCons (eOp gAdd (eOp gFdiv (eVarB 0) (eC (.int 20))) (eOp gMul (eOp gMul (eC (.int 5)) (eVarB 1)) (eOp gMod (eVarB 0) (eC (.int 7))))) eNil)) [.val (.int c), .no] (rangeD 0 (c % 20).toNat) = some ((tailC c).map fun c => PyData.str ⟨#[c]⟩) := by
    rw [lcF_map (fun d => match d with | .int i => .str ⟨#[sg (c / 20 + 5 * i * (c % 7))]⟩ | _ => .none)]
    · congr 1
      simp [rangeD, tailC]
    · intro d hd
      obtain ⟨i, hi, rfl⟩ := mem_rangeD hd
      have m1 : gMul (.int 5) (.int (0 + (i : Int))) = some (.int (5 * (0 + (i : Int)))) := gMul_int _ _ (cMul_l (by decide))
      have m2 : gMul (.int (5 * (0 + (i : Int)))) (.int (c % 7)) = some (.int (5 * (0 + (i : Int)) * (c % 7))) := gMul_int _ _ (cMul_l (by omega))
      rw [Int.zero_add] at m1 m2 ⊢
      simp [m1, m2, F_sign_eq]
  have gj := gJoin_ones (tailC c) (by have := tailC_len c; unfold LIM; omega)
  have b1 : c % 20 ≤ 1000000 := by omega
  have b2 : -1000000 ≤ c % 20 := by omega
  have b3 : (c % 20).toNat ≤ LIM := by unfold LIM; omega
  unfold F_tail
  rw [runF_eq]
  simp [b_tail, rho0, N_tail, b1, b2, b3, e, gj]
theorem F_name_by_S (p c : Int) : F_name_by [.int p, .int c] = some (.str (SX.S (tailC c ++ [sg p]))) := by
  have g := gAdd_S (tailC c) [sg p] (by have := tailC_len c; simp [LIM]; omega)
  unfold F_name_by
  rw [runF_eq]
  simp [b_name_by, rho0, N_name_by, F_tail_eq, F_sign_S, g]
theorem F_int_int (i : Int) : F_int [.int i] = some (.bool true) := by
  unfold F_int
  rw [runF_eq]
  simp [b_int, rho0, N_int]
/-- a name: by its codes -/
def nmC (l : List Nat) : Prop := 1 ≤ l.length ∧ l.length ≤ 20 ∧ ∀ x ∈ l, x ∈ SGN.cps.toList
theorem nmC_ok {l : List Nat} (h : nmC l) : isName (SX.S l) = true := by
  obtain ⟨h1, h2, h3⟩ := h
  show isName ⟨l.toArray⟩ = true
  rw [isName_codes, decide_eq_true h1, decide_eq_true h2, Bool.true_and, Bool.true_and, List.all_eq_true]
  intro x hx
  exact decide_eq_true (h3 x hx)
theorem name_by_nm (p c : Int) : nmC (tailC c ++ [sg p]) := by
  refine ⟨by simp, by have := tailC_len c; simp; omega, fun x hx => ?_⟩
  rcases List.mem_append.mp hx with h | h
  · exact tailC_mem h
  · obtain rfl := List.mem_singleton.mp h
    exact sg_mem _
/-! ### what is called by a number -/
def baseC (one : Int) : List Nat := (List.range 20).map fun (j : Nat) => sg (54 + (one + 3 * (j : Int)) % 34)
theorem baseC_len (one : Int) : (baseC one).length = 20 := by simp [baseC]
theorem baseC_mem {one : Int} {x : Nat} (h : x ∈ baseC one) : x ∈ SGN.cps.toList := by
  simp only [baseC, List.mem_map] at h
  obtain ⟨i, _, rfl⟩ := h
  exact sg_mem _
def offC (one : Int) : Int := if one / 1024 % 4 = 0 then 0 else if one / 1024 % 4 = 1 then 31 else if one / 1024 % 4 = 2 then 40 else one / 4096 % 43
theorem offC_rng (one : Int) : 0 ≤ offC one ∧ offC one ≤ 42 := by
  unfold offC
  split
  · omega
  · split
    · omega
    · split <;> omega
def atC (one : Int) (n : Nat) : Nat := if one / 64 % 2 = 1 then (one / 256 % (n + 1)).toNat else if one / 256 % 2 = 0 then 0 else n
def pointC (one : Int) (k : Nat) : Nat := sg (((k / 2 + 32 * (k % 2) : Nat) : Int) + offC one)
def calledC (one c sort : Int) (k : Nat) : List Nat :=
  if one / 64 % 4 = 3 then (if k < 20 then (if one / 256 % 2 = 0 then (baseC one).take (k + 1) else (baseC one).drop (19 - k)) else (baseC one).take 18 ++ [sg ((k : Int) - 20)] ++ [sg (k : Int)])
  else
    let t := tailC (if 0 < sort ∧ one % 8 ≠ 1 then c / 3 + sort else c)
    t.take (atC one t.length) ++ [pointC one k] ++ t.drop (atC one t.length)
theorem calledC_nm (one c sort : Int) (k : Nat) : nmC (calledC one c sort k) := by
  have bl := baseC_len one
  unfold calledC
  split
  · split
    · split
      · refine ⟨by simp [bl]; omega, by simp [bl]; omega, fun x hx => baseC_mem (List.mem_of_mem_take hx)⟩
      · refine ⟨by simp [bl]; omega, by simp [bl], fun x hx => baseC_mem (List.mem_of_mem_drop hx)⟩
    · refine ⟨by simp, by simp [bl], fun x hx => ?_⟩
      simp only [List.mem_append, List.mem_singleton] at hx
      rcases hx with (h | rfl) | rfl
      · exact baseC_mem (List.mem_of_mem_take h)
      · exact sg_mem _
      · exact sg_mem _
  · have tl := tailC_len (if 0 < sort ∧ one % 8 ≠ 1 then c / 3 + sort else c)
    generalize hT : tailC (if 0 < sort ∧ one % 8 ≠ 1 then c / 3 + sort else c) = t at tl
    have tm : ∀ x ∈ t, x ∈ SGN.cps.toList := fun x hx => by rw [← hT] at hx; exact tailC_mem hx
    refine ⟨by simp only [List.length_append, List.length_singleton]; omega, ?_, fun x hx => ?_⟩
    · simp only [List.length_append, List.length_singleton, List.length_take, List.length_drop]
      omega
    · simp only [List.mem_append, List.mem_singleton] at hx
      rcases hx with (h | rfl) | h
      · exact tm x (List.mem_of_mem_take h)
      · exact sg_mem _
      · exact tm x (List.mem_of_mem_drop h)
theorem sgs_nodup : sgs.cps.toList.Nodup := by decide +kernel
theorem sg_inj {a b : Int} (ha : 0 ≤ a ∧ a < 93) (hb : 0 ≤ b ∧ b < 93) (h : sg a = sg b) : a = b := by
  have hl : sgs.cps.toList.length = 93 := by
    have h := sgs_len
    simpa [Str.length] using h
  have ea : a % 93 = a := Int.emod_eq_of_lt ha.1 ha.2
  have eb : b % 93 = b := Int.emod_eq_of_lt hb.1 hb.2
  unfold sg at h
  rw [ea, eb] at h
  have la : a.toNat < sgs.cps.toList.length := by omega
  have lb : b.toNat < sgs.cps.toList.length := by omega
  rw [List.getElem?_eq_getElem la, List.getElem?_eq_getElem lb] at h
  have := (List.getElem_inj (h₀ := la) (h₁ := lb) sgs_nodup).mp (by simpa using h)
  omega
theorem pointC_inj {one : Int} {k k' : Nat} (hk : k < 36) (hk' : k' < 36) (h : pointC one k = pointC one k') : k = k' := by
  have ho := offC_rng one
  unfold pointC at h
  have := sg_inj (by omega) (by omega) h
  omega
theorem calledC_inj {one : Int} {c : Nat → Int} {sort : Int} {k k' : Nat} (hc : one / 64 % 2 = 1 → c k = c k') (hk : k < 36) (hk' : k' < 36) (h : calledC one (c k) sort k = calledC one (c k') sort k') : k = k' := by
  have bl := baseC_len one
  unfold calledC at h
  by_cases h3 : one / 64 % 4 = 3
  · rw [if_pos h3, if_pos h3] at h
    by_cases k1 : k < 20
    · rw [if_pos k1] at h
      by_cases k2 : k' < 20
      · rw [if_pos k2] at h
        split at h
        · have := congrArg List.length h
          simp [bl] at this
          omega
        · have := congrArg List.length h
          simp [bl] at this
          omega
      · rw [if_neg k2] at h
        exfalso
        have key : ∀ x ∈ (baseC one), x ≠ sg ((k' : Int) - 20) := fun x hx hh => by
          simp only [baseC, List.mem_map] at hx
          obtain ⟨j, _, rfl⟩ := hx
          have := sg_inj (by omega) (by omega) hh
          omega
        have hm : sg ((k' : Int) - 20) ∈ (baseC one).take 18 ++ [sg ((k' : Int) - 20)] ++ [sg (k' : Int)] := by simp
        rw [← h] at hm
        split at hm
        · exact key _ (List.mem_of_mem_take hm) rfl
        · exact key _ (List.mem_of_mem_drop hm) rfl
    · rw [if_neg k1] at h
      by_cases k2 : k' < 20
      · rw [if_pos k2] at h
        exfalso
        have key : ∀ x ∈ (baseC one), x ≠ sg ((k : Int) - 20) := fun x hx hh => by
          simp only [baseC, List.mem_map] at hx
          obtain ⟨j, _, rfl⟩ := hx
          have := sg_inj (by omega) (by omega) hh
          omega
        have hm : sg ((k : Int) - 20) ∈ (baseC one).take 18 ++ [sg ((k : Int) - 20)] ++ [sg (k : Int)] := by simp
        rw [h] at hm
        split at hm
        · exact key _ (List.mem_of_mem_take hm) rfl
        · exact key _ (List.mem_of_mem_drop hm) rfl
      · rw [if_neg k2] at h
        have := congrArg List.getLast? h
        simp at this
        have := sg_inj (by omega) (by omega) this
        omega
  · rw [if_neg h3, if_neg h3] at h
    simp only at h
    by_cases h2 : one / 64 % 2 = 1
    · rw [hc h2] at h
      generalize tailC (if 0 < sort ∧ one % 8 ≠ 1 then c k' / 3 + sort else c k') = t at h
      rw [List.append_assoc, List.append_assoc] at h
      have := List.append_cancel_left h
      have := (List.cons.inj this).1
      exact pointC_inj hk hk' this
    · have ha : ∀ n, atC one n = if one / 256 % 2 = 0 then 0 else n := fun n => by unfold atC; rw [if_neg h2]
      rw [ha, ha] at h
      by_cases h4 : one / 256 % 2 = 0
      · rw [if_pos h4, if_pos h4] at h
        simp at h
        exact pointC_inj hk hk' h.1
      · rw [if_neg h4, if_neg h4] at h
        have := congrArg List.getLast? h
        simp at this
        exact pointC_inj hk hk' this
/-- the cell behind a number -/
def cellC (ns : List Int) (k : Nat) : Int := if cell ns 1 / 64 % 2 = 0 then cell ns (2 + k % 16) else cell ns 1
def called (ns : List Int) (sort : Int) (k : Nat) : Str := SX.S (calledC (cell ns 1) (cellC ns k) sort k)
theorem called_ok (ns : List Int) (sort : Int) (k : Nat) : isName (called ns sort k) = true := nmC_ok (calledC_nm _ _ _ _)
theorem called_inj (ns : List Int) (sort : Int) {k k' : Nat} (hk : k < 36) (hk' : k' < 36) (h : called ns sort k = called ns sort k') : k = k' :=
  calledC_inj (c := cellC ns) (fun h2 => by unfold cellC; rw [if_neg (by omega), if_neg (by omega)]) hk hk' (SX.S_inj h)
theorem pick2 {α : Type} (a b : α) (i : Int) : atI [a, b] (i % 2) = some (if i % 2 = 0 then a else b) := by
  have h1 := Int.emod_nonneg i (show (2 : Int) ≠ 0 by decide)
  have h2 := Int.emod_lt_of_pos i (show (0 : Int) < 2 by decide)
  by_cases h : i % 2 = 0
  · rw [h]; simp
  · have : i % 2 = 1 := by omega
    rw [this]; simp
theorem pick4 {α : Type} (a b c d : α) (i : Int) : atI [a, b, c, d] (i % 4) = some (if i % 4 = 0 then a else if i % 4 = 1 then b else if i % 4 = 2 then c else d) := by
  have h1 := Int.emod_nonneg i (show (4 : Int) ≠ 0 by decide)
  have h2 := Int.emod_lt_of_pos i (show (0 : Int) < 4 by decide)
  have : i % 4 = 0 ∨ i % 4 = 1 ∨ i % 4 = 2 ∨ i % 4 = 3 := by omega
  rcases this with h | h | h | h <;> rw [h] <;> simp
theorem F_called_eq (ns : List Int) (sort : Int) (k : Nat) : F_called [scrD ns, .int sort, .int (k : Int)] = some (.str (called ns sort k)) := by
  have c1 := F_cell_eq ns 1
  have c2 := F_cell_eq ns (2 + k % 16)
  have e2 : ((2 + k % 16 : Nat) : Int) = 2 + (k : Int) % 16 := by omega
  rw [e2] at c2
  simp only [Int.cast_ofNat_Int] at c1
  generalize hone : cell ns 1 = one at c1
  have hbase : lcF 6 tYesF (eCall F_sign (eCons (eOp gAdd (eC (.int 54)) (eOp gMod (eOp gAdd (eVarB 3) (eOp gMul (eC (.int 3)) (eVarB 6))) (eC (.int 34)))) eNil)) [.val (scrD ns), .val (.int sort), .val (.int (k : Int)), .val (.int one), .val (.int (cellC ns k)), .no, .no, .no, .no, .no] (rangeD 0 20) = some ((baseC one).map fun c => PyData.str ⟨#[c]⟩) := by
    rw [lcF_map (fun d => match d with | .int i => .str ⟨#[sg (54 + (one + 3 * i) % 34)]⟩ | _ => .none)]
    · congr 1
    · intro d hd
      obtain ⟨i, hi, rfl⟩ := mem_rangeD hd
      have m1 : gMul (.int 3) (.int (0 + (i : Int))) = some (.int (3 * (0 + (i : Int)))) := gMul_int _ _ (cMul_l (by decide))
      rw [Int.zero_add] at m1 ⊢
      simp [m1, F_sign_eq]
  have gj := gJoin_ones (baseC one) (by rw [baseC_len]; decide)
  have p64 : atI [PyData.int (cell ns (2 + k % 16)), .int one] (one / 64 % 2) = some (.int (cellC ns k)) := by
    rw [pick2]
    unfold cellC
    rw [hone]
    split <;> rfl
  have bl := baseC_len one
  have l20 : 20 ≤ LIM := by decide
  have gj : gJoin (.str "") (.list ((baseC one).map fun c => PyData.str ⟨#[c]⟩)) = some (.str (SX.S (baseC one))) := gj
  have lB : (SX.S (baseC one)).length ≤ LIM := by rw [SX.S_len, bl]; decide
  unfold F_called called
  rw [runF_eq, hone]
  by_cases h3 : one / 64 % 4 = 3
  · by_cases k1 : k < 20
    · have k1' : (k : Int) < 20 := by omega
      have s1 : cutS (SX.S (baseC one)) none (some ((k : Int) + 1)) = SX.S ((baseC one).take (k + 1)) := by
        rw [cutS_S, cutA_toI _ _ (by omega), show ((k : Int) + 1).toNat = k + 1 by omega]
      have s2 : cutS (SX.S (baseC one)) (some (19 - (k : Int))) none = SX.S ((baseC one).drop (19 - k)) := by
        rw [cutS_S, cutA_fromI _ _ (by omega), show ((19 : Int) - (k : Int)).toNat = 19 - k by omega]
      have ec : calledC one (cellC ns k) sort k = if one / 256 % 2 = 0 then (baseC one).take (k + 1) else (baseC one).drop (19 - k) := by
        unfold calledC
        rw [if_pos h3, if_pos k1]
      have p256 : atI [PyData.str (SX.S ((baseC one).take (k + 1))), .str (SX.S ((baseC one).drop (19 - k)))] (one / 256 % 2) = some (.str (SX.S (calledC one (cellC ns k) sort k))) := by
        rw [pick2, ec]
        split <;> rfl
      simp [b_called, rho0, N_called, c1, c2, p64, hbase, gj, l20, h3, k1', eSlS, oSome, oNone, s1, s2, p256, lB]
    · have k1' : ¬ (k : Int) < 20 := by omega
      have s1 : cutS (SX.S (baseC one)) none (some 18) = SX.S ((baseC one).take 18) := by
        rw [cutS_S, cutA_toI _ _ (by omega), show (18 : Int).toNat = 18 from rfl]
      have g1 := gAdd_S ((baseC one).take 18) [sg ((k : Int) - 20)] (by simp [LIM]; omega)
      have g2 := gAdd_S ((baseC one).take 18 ++ [sg ((k : Int) - 20)]) [sg (k : Int)] (by simp [LIM]; omega)
      have ec : calledC one (cellC ns k) sort k = (baseC one).take 18 ++ [sg ((k : Int) - 20)] ++ [sg (k : Int)] := by
        unfold calledC
        rw [if_pos h3, if_neg k1]
      simp [b_called, rho0, N_called, c1, c2, p64, hbase, gj, l20, h3, k1', eSlS, oSome, oNone, s1, lB, F_sign_S, g1, g2, ec]
  · -- a tail with one sign
    have pT : atI [PyData.int (cellC ns k), .int (cellC ns k / 3 + sort)] (if 0 < sort ∧ one % 8 ≠ 1 then 1 else 0) = some (.int (if 0 < sort ∧ one % 8 ≠ 1 then cellC ns k / 3 + sort else cellC ns k)) := by
      split <;> simp
    have tl := tailC_len (if 0 < sort ∧ one % 8 ≠ 1 then cellC ns k / 3 + sort else cellC ns k)
    have ft := F_tail_eq (if 0 < sort ∧ one % 8 ≠ 1 then cellC ns k / 3 + sort else cellC ns k)
    have ec : calledC one (cellC ns k) sort k = (tailC (if 0 < sort ∧ one % 8 ≠ 1 then cellC ns k / 3 + sort else cellC ns k)).take (atC one (tailC (if 0 < sort ∧ one % 8 ≠ 1 then cellC ns k / 3 + sort else cellC ns k)).length) ++ [pointC one k] ++ (tailC (if 0 < sort ∧ one % 8 ≠ 1 then cellC ns k / 3 + sort else cellC ns k)).drop (atC one (tailC (if 0 < sort ∧ one % 8 ≠ 1 then cellC ns k / 3 + sort else cellC ns k)).length) := by
      unfold calledC
      rw [if_neg h3]
    rw [ec]
    have gi0 : gInt [.bool false] = some (.int 0) := rfl
    have gi1 : gInt [.bool true] = some (.int 1) := rfl
    have sp : (¬ 0 < sort ∨ (0 < sort ∧ one % 8 = 1)) ∨ (0 < sort ∧ one % 8 ≠ 1) := by
      by_cases q1 : 0 < sort
      · by_cases q2 : one % 8 = 1
        · exact .inl (.inr ⟨q1, q2⟩)
        · exact .inr ⟨q1, q2⟩
      · exact .inl (.inl q1)
    obtain ⟨cc, hcc⟩ : ∃ cc, cc = if 0 < sort ∧ one % 8 ≠ 1 then cellC ns k / 3 + sort else cellC ns k := ⟨_, rfl⟩
    rw [← hcc] at ft tl ⊢
    clear ec pT
    have a0 : 0 ≤ (atC one (tailC cc).length : Int) := Int.natCast_nonneg _
    have p4 : atI [PyData.int 0, .int 31, .int 40, .int (one / 4096 % 43)] (one / 1024 % 4) = some (.int (offC one)) := by
      rw [pick4]
      unfold offC
      split
      · rfl
      · split
        · rfl
        · split <;> rfl
    have m32 : gMul (.int 32) (.int ((k : Int) % 2)) = some (.int (32 * ((k : Int) % 2))) := gMul_int _ _ (cMul_l (by decide))
    have fs : F_sign [.int ((k : Int) / 2 + 32 * ((k : Int) % 2) + offC one)] = some (.str (SX.S [pointC one k])) := by
      rw [F_sign_S]
      unfold pointC
      rw [show (((k / 2 + 32 * (k % 2) : Nat)) : Int) = (k : Int) / 2 + 32 * ((k : Int) % 2) by omega]
    have lt : (SX.S (tailC cc)).length ≤ LIM := by rw [SX.S_len]; unfold LIM; omega
    have s1 : cutS (SX.S (tailC cc)) none (some (atC one (tailC cc).length : Int)) = SX.S ((tailC cc).take (atC one (tailC cc).length)) := by
      rw [cutS_S, cutA_to]
    have s2 : cutS (SX.S (tailC cc)) (some (atC one (tailC cc).length : Int)) none = SX.S ((tailC cc).drop (atC one (tailC cc).length)) := by
      rw [cutS_S, cutA_from]
    have g1 := gAdd_S ((tailC cc).take (atC one (tailC cc).length)) [pointC one k] (by simp [LIM]; omega)
    have g2 := gAdd_S ((tailC cc).take (atC one (tailC cc).length) ++ [pointC one k]) ((tailC cc).drop (atC one (tailC cc).length)) (by simp [LIM]; omega)
    have sl : (SX.S (tailC cc)).length = (tailC cc).length := SX.S_len _
    have gl : gLen [.str (SX.S (tailC cc))] = some (.int ((tailC cc).length : Nat)) := by
      rw [← sl]
      simp only [gLen, lt, if_true]
    have lt2 : (tailC cc).length ≤ LIM := by unfold LIM; omega
    have p2 : atI [PyData.int 0, .int ((tailC cc).length : Nat)] (one / 256 % 2) = some (.int (if one / 256 % 2 = 0 then 0 else ((tailC cc).length : Nat))) := by
      rw [pick2]; split <;> rfl
    by_cases h2 : one / 64 % 2 = 1
    · have q2 : (one / 64 % 2 == 1) = true := by simp [h2]
      have e8 : (atC one (tailC cc).length : Int) = one / 256 % ((tailC cc).length + 1) := by
        unfold atC
        rw [if_pos h2]
        have := Int.emod_nonneg (one / 256) (show ((tailC cc).length : Int) + 1 ≠ 0 by omega)
        omega
      have cp : 0 < ((tailC cc).length : Int) + 1 ∧ ((tailC cc).length : Int) + 1 < 1073741824 := by omega
      rw [e8] at s1 s2
      rcases sp with (s0 | s0) | s0
      · have e0 : cc = cellC ns k := by rw [hcc, if_neg (fun z => s0 z.1)]
        subst e0
        have d0 : decide (0 < sort) = false := by simpa using s0
        simp [b_called, rho0, N_called, c1, c2, p64, hbase, gj, l20, h3, q2, eSlS, oSome, oNone, lt, gi0, gi1, ft, gl, sl, lt2, p2, cp, s1, s2, m32, p4, fs, g1, g2, s0]
      · have e0 : cc = cellC ns k := by rw [hcc, if_neg (fun z => z.2 s0.2)]
        subst e0
        simp [b_called, rho0, N_called, c1, c2, p64, hbase, gj, l20, h3, q2, eSlS, oSome, oNone, lt, gi0, gi1, ft, gl, sl, lt2, p2, cp, s1, s2, m32, p4, fs, g1, g2, s0.1, s0.2]
      · have e0 : cc = cellC ns k / 3 + sort := by rw [hcc, if_pos s0]
        subst e0
        have q8 : (one % 8 == 1) = false := by simpa using s0.2
        simp [b_called, rho0, N_called, c1, c2, p64, hbase, gj, l20, h3, q2, eSlS, oSome, oNone, lt, gi0, gi1, ft, gl, sl, lt2, p2, cp, s1, s2, m32, p4, fs, g1, g2, s0.1, q8]
    · have q2 : (one / 64 % 2 == 1) = false := by simp [h2]
      have e8 : (atC one (tailC cc).length : Int) = if one / 256 % 2 = 0 then 0 else ((tailC cc).length : Int) := by
        unfold atC
        rw [if_neg h2]
        split <;> rfl
      rw [e8] at s1 s2
      rcases sp with (s0 | s0) | s0
      · have e0 : cc = cellC ns k := by rw [hcc, if_neg (fun z => s0 z.1)]
        subst e0
        have d0 : decide (0 < sort) = false := by simpa using s0
        simp [b_called, rho0, N_called, c1, c2, p64, hbase, gj, l20, h3, q2, eSlS, oSome, oNone, lt, gi0, gi1, ft, gl, sl, lt2, p2, s1, s2, m32, p4, fs, g1, g2, s0]
      · have e0 : cc = cellC ns k := by rw [hcc, if_neg (fun z => z.2 s0.2)]
        subst e0
        simp [b_called, rho0, N_called, c1, c2, p64, hbase, gj, l20, h3, q2, eSlS, oSome, oNone, lt, gi0, gi1, ft, gl, sl, lt2, p2, s1, s2, m32, p4, fs, g1, g2, s0.1, s0.2]
      · have e0 : cc = cellC ns k / 3 + sort := by rw [hcc, if_pos s0]
        subst e0
        have q8 : (one % 8 == 1) = false := by simpa using s0.2
        simp [b_called, rho0, N_called, c1, c2, p64, hbase, gj, l20, h3, q2, eSlS, oSome, oNone, lt, gi0, gi1, ft, gl, sl, lt2, p2, s1, s2, m32, p4, fs, g1, g2, s0.1, q8]
end RK
namespace RK
open PySem PySem.Spec PyProof.Rows L2 RT
/-! ### people and shifts as data -/
def ndD (n : Str × Int) : PyData := .tuple [.str n.1, .int n.2]
def perD (p : Person) : PyData := .tuple [.str p.name, .list (p.skills.map .str), .int p.limit, .list (p.rests.map stD)]
def shD (s : Shift) : PyData := .tuple [.str s.name, stD (s.b, s.e), .list (s.needs.map ndD)]
structure GP (p : Person) : Prop where
  nm : isName p.name = true
  sk : ∀ k ∈ p.skills, isName k = true
  nd : p.skills.Nodup
  sl : p.skills.length ≤ 15
  lim : 1 ≤ p.limit ∧ p.limit ≤ 31
  rs : ∀ r ∈ p.rests, 0 ≤ r.1 ∧ r.1 < r.2 ∧ r.2 ≤ 1000000
  rl : p.rests.length ≤ 3
structure GS (s : Shift) : Prop where
  nm : isName s.name = true
  st : 0 ≤ s.b ∧ s.b < s.e ∧ s.e ≤ 1000000
  day : (s.e - 1) / 24 = s.b / 24
  nk : ∀ n ∈ s.needs, isName n.1 = true ∧ 1 ≤ n.2 ∧ n.2 ≤ 9
  nd : (s.needs.map (·.1)).Nodup
  nl : s.needs.length ≤ 6
theorem gIn_strsN (neg : Bool) (k : Str) (o : List Str) : alt (gInF neg) (alt (gInL neg) (gInS neg)) (.str k) (.list (o.map .str)) = some (.bool (if neg then !decide (k ∈ o) else decide (k ∈ o))) := by
  have hs : (o.map PyData.str).all scalD = true := by rw [List.all_map]; simp [List.all_eq_true]
  have he : ((o.map PyData.str).any fun z => eqFl z (.str k)) = decide (k ∈ o) := by
    rw [List.any_map, Bool.eq_iff_iff, List.any_eq_true, decide_eq_true_eq]
    constructor
    · rintro ⟨x, hx, h⟩
      have : x = k := by simpa [eqFl] using h
      exact this ▸ hx
    · intro h
      exact ⟨k, h, by simp [eqFl]⟩
  have h1 : gInF neg (.str k) (.list (o.map .str)) = some (.bool (if neg then !decide (k ∈ o) else decide (k ∈ o))) := by
    unfold gInF
    simp only [he]
    rw [if_pos ⟨rfl, hs⟩]
  unfold alt
  rw [h1]
theorem gIn_strs (k : Str) (o : List Str) : gIn (.str k) (.list (o.map .str)) = some (.bool (decide (k ∈ o))) := gIn_strsN false k o
theorem gNotIn_strs (k : Str) (o : List Str) : gNotIn (.str k) (.list (o.map .str)) = some (.bool (!decide (k ∈ o))) := gIn_strsN true k o
/-- a menu of skills picked by a test: a part of it, in order -/
def skI (sk : List Str) : PyData → Str
  | .int i => sk.getD i.toNat ""
  | _ => ""
theorem skI_all (sk : List Str) : (rangeD 0 sk.length).map (skI sk) = sk := by
  apply List.ext_getElem
  · simp
  · intro i h1 h2
    simp [rangeD, skI]
    rw [List.getElem?_eq_getElem (by simpa using h2)]
    rfl
theorem skI_sub (sk : List Str) (p : PyData → Bool) : (((rangeD 0 sk.length).filter p).map (skI sk)).Sublist sk := by
  have : (((rangeD 0 sk.length).filter p).map (skI sk)).Sublist ((rangeD 0 sk.length).map (skI sk)) := List.Sublist.map _ List.filter_sublist
  rwa [skI_all] at this
theorem strs_data (l : List Str) : (l.map PyData.str).all dataD = true := by
  rw [List.all_map, List.all_eq_true]
  intro x _
  rfl
theorem pickI {l : List Int} {i n : Int} (hn : n = (l.length : Int)) (h0 : 0 < n) : ∃ m, m ∈ l ∧ atI (l.map PyData.int) (i % n) = some (.int m) := by
  obtain ⟨x, h1, h2⟩ := atI_mod (l.map PyData.int) i n (by simpa using hn) h0
  obtain ⟨m, hm, rfl⟩ := List.mem_map.mp h1
  exact ⟨m, hm, h2⟩
def someL (c : Int) (n : Nat) : List Str := (List.range n).map fun (j : Nat) => SX.S (tailC c ++ [sg (40 + (j : Int))])
theorem someL_ok (c : Int) (n : Nat) : ∀ k ∈ someL c n, isName k = true := fun k hk => by
  obtain ⟨j, _, rfl⟩ := List.mem_map.mp hk
  exact nmC_ok (name_by_nm _ c)
theorem someL_nd (c : Int) (n : Nat) (hn : n ≤ 9) : (someL c n).Nodup := by
  unfold someL
  rw [List.nodup_iff_pairwise_ne, List.pairwise_map]
  refine List.Pairwise.imp_of_mem ?_ (List.nodup_iff_pairwise_ne.mp List.nodup_range)
  intro a b ha hb hab h
  have := SX.S_inj h
  have := congrArg List.getLast? this
  simp at this
  have ha := List.mem_range.mp ha
  have hb := List.mem_range.mp hb
  have := sg_inj (by omega) (by omega) this
  omega
def rhoP (name : Str) (c gap : Int) (sk some own : PyData) (rs : List PyData) (s9 s10 : Sl) : Rho := [.val (.str name), .val (.int c), .val sk, .val (.int gap), .val some, .no, .val own, .no, .own rs, s9, s10]
theorem restsP (name : Str) (c gap : Int) (hg : 1 ≤ gap ∧ gap ≤ 40) (sk some own : PyData) (n : Nat) (hn : n ≤ 3) (s9 s10 : Sl) :
    ∃ ρ', forF (tg1 9) (sSeq (sSet 10 (eOp gAdd (eOp gMul (eOp gMul (eC (.int 24)) (eVarB 3)) (eOp gMod (eOp gAdd (eOp gFdiv (eVarB 1) (eC (.int 256))) (eVarB 9)) (eC (.int 3)))) (eOp gMod (eOp gFdiv (eVarB 1) (eC (.int 768))) (eC (.int 24)))))
  (sApp 8 (eTupD (eCons (eVar 10) (eCons (eOp gAdd (eOp gAdd (eVarB 10) (eC (.int 1))) (eOp gMod (eOp gAdd (eOp gFdiv (eVarB 1) (eC (.int 18432))) (eOp gMul (eC (.int 7)) (eVarB 9))) (eC (.int 30)))) eNil))))) (rangeD 0 n) (rhoP name c gap sk some own [] s9 s10) = .nx ρ' ∧
      ∃ (rs : List (Int × Int)) (s9 s10 : Sl), ρ' = rhoP name c gap sk some own (rs.map stD) s9 s10 ∧ rs.length = n ∧ ∀ r ∈ rs, 0 ≤ r.1 ∧ r.1 < r.2 ∧ r.2 ≤ 1000000 := by
  refine forF_rng (fun k ρ => ∃ (rs : List (Int × Int)) (s9 s10 : Sl), ρ = rhoP name c gap sk some own (rs.map stD) s9 s10 ∧ rs.length = k ∧ ∀ r ∈ rs, 0 ≤ r.1 ∧ r.1 < r.2 ∧ r.2 ≤ 1000000) ⟨[], s9, s10, rfl, rfl, fun _ h => absurd h List.not_mem_nil⟩ ?_
  rintro k _ hk ⟨rs, t9, t10, rfl, hl, hr⟩
  have m1 : gMul (.int 24) (.int gap) = Option.some (.int (24 * gap)) := gMul_int _ _ (cMul_l (by decide))
  have m2 : gMul (.int (24 * gap)) (.int ((c / 256 + (k : Int)) % 3)) = Option.some (.int (24 * gap * ((c / 256 + (k : Int)) % 3))) := gMul_int _ _ (cMul_l (by omega))
  have m3 : gMul (.int 7) (.int (k : Int)) = Option.some (.int (7 * (k : Int))) := gMul_int _ _ (cMul_l (by decide))
  have q1 := Int.emod_nonneg (c / 256 + (k : Int)) (show (3 : Int) ≠ 0 by decide)
  have q2 := Int.emod_lt_of_pos (c / 256 + (k : Int)) (show (0 : Int) < 3 by decide)
  have q3 := Int.emod_nonneg (c / 768) (show (24 : Int) ≠ 0 by decide)
  have q4 := Int.emod_lt_of_pos (c / 768) (show (0 : Int) < 24 by decide)
  have q5 := Int.emod_nonneg (c / 18432 + 7 * (k : Int)) (show (30 : Int) ≠ 0 by decide)
  have q6 := Int.emod_lt_of_pos (c / 18432 + 7 * (k : Int)) (show (0 : Int) < 30 by decide)
  have q7 : 0 ≤ 24 * gap * ((c / 256 + (k : Int)) % 3) := Int.mul_nonneg (by omega) q1
  have q8 : 24 * gap * ((c / 256 + (k : Int)) % 3) ≤ 960 * 2 := Int.mul_le_mul (by omega) (by omega) q1 (by omega)
  have ll : (rs.map stD).length ≤ LIM := by rw [List.length_map]; unfold LIM; omega
  generalize hB : 24 * gap * ((c / 256 + (k : Int)) % 3) + c / 768 % 24 = b
  generalize hE : b + 1 + (c / 18432 + 7 * (k : Int)) % 30 = e
  refine ⟨rhoP name c gap sk some own ((rs ++ [(b, e)]).map stD) (.val (.int k)) (.val (.int b)), ?_, rs ++ [(b, e)], _, _, rfl, by simp [hl], fun r hr' => ?_⟩
  · rw [List.length_map] at ll
    simp [rhoP, m1, m2, m3, hB, hE, stD, ll]
  · rcases List.mem_append.mp hr' with h | h
    · exact hr r h
    · obtain rfl := List.mem_singleton.mp h
      simp only
      omega
def skP (c : Int) (sk : List Str) : List Str := ((rangeD 0 6).filter fun d => match d with
  | .int i => c / (([1, 2, 4, 8, 3, 5] : List Int).getD i.toNat 0) % 2 == 1
  | _ => false).map (skI sk)
def selP (c : Int) (sk : List Str) (n : Nat) : List Str := (someL c n).filter (fun x => !decide (x ∈ sk))
def ownP (c : Int) (sk : List Str) (n : Nat) : List Str := selP c sk n ++ skP c sk
theorem ownP_ok (c : Int) (sk : List Str) (n : Nat) (hn : n ≤ 9) (hl : sk.length = 6) (hk : ∀ k ∈ sk, isName k = true) (hd : sk.Nodup) : (∀ k ∈ ownP c sk n, isName k = true) ∧ (ownP c sk n).Nodup ∧ (ownP c sk n).length ≤ 15 := by
  have hs := skI_sub sk fun d => match d with
    | .int i => c / (([1, 2, 4, 8, 3, 5] : List Int).getD i.toNat 0) % 2 == 1
    | _ => false
  rw [hl] at hs
  unfold ownP selP skP
  refine ⟨fun k h => ?_, ?_, ?_⟩
  · rcases List.mem_append.mp h with h | h
    · exact someL_ok c n k (List.mem_filter.mp h).1
    · exact hk k (hs.subset h)
  · rw [List.nodup_append]
    refine ⟨(someL_nd c n hn).filter _, hs.nodup hd, fun a ha b hb hab => ?_⟩
    have h1 := (List.mem_filter.mp ha).2
    have h2 := hs.subset hb
    rw [hab] at h1
    simp [h2] at h1
  · rw [List.length_append]
    have h1 := List.length_filter_le (fun x => !decide (x ∈ sk)) (someL c n)
    have h2 := hs.length_le
    have h3 : (someL c n).length = n := by simp [someL]
    omega
theorem F_person_ok (name : Str) (hnm : isName name = true) (c gap : Int) (hg : 1 ≤ gap ∧ gap ≤ 40) (sk : List Str) (hl : sk.length = 6) (hk : ∀ k ∈ sk, isName k = true) (hd : sk.Nodup) :
    ∃ p, F_person [.str name, .int c, .list (sk.map .str), .int gap] = some (perD p) ∧ p.name = name ∧ GP p := by
  obtain ⟨n, hn, en⟩ := pickI (l := [0, 0, 0, 9]) (i := c / 32) (n := 4) rfl (by decide)
  obtain ⟨m, hm, em⟩ := pickI (l := [0, 1, 3, 2]) (i := c / 64) (n := 4) rfl (by decide)
  have hn9 : 0 ≤ n ∧ n ≤ 9 := by simp at hn; omega
  have hm3 : 0 ≤ m ∧ m ≤ 3 := by simp at hm; omega
  have e4 : lcF 5 tYesF (eCall F_name_by (eCons (eOp gAdd (eC (.int 40)) (eVarB 5)) (eCons (eVar 1) eNil))) [.val (.str name), .val (.int c), .val (.list (sk.map .str)), .val (.int gap), .no, .no, .no, .no, .no, .no, .no] (rangeD 0 n.toNat) = some ((someL c n.toNat).map .str) := by
    rw [lcF_map (fun d => match d with | .int i => .str (SX.S (tailC c ++ [sg (40 + i)])) | _ => .none)]
    · congr 1
      unfold rangeD someL
      rw [List.map_map, List.map_map]
      apply List.map_congr_left
      intro j _
      simp
    · intro d hd
      obtain ⟨i, hi, rfl⟩ := mem_rangeD hd
      simp [F_name_by_S]
  have e6 : lcF 7 (bF (eOp gNotIn (eVarB 7) (eVarB 2))) (eVar 7) [.val (.str name), .val (.int c), .val (.list (sk.map .str)), .val (.int gap), .val (.list ((someL c n.toNat).map .str)), .no, .no, .no, .no, .no, .no] ((someL c n.toNat).map .str) = some ((selP c sk n.toNat).map .str) := by
    rw [lcF_filter (fun d => match d with | .str x => !decide (x ∈ sk) | _ => false) id]
    · rw [List.filter_map, List.map_map]
      rfl
    · intro d hd
      obtain ⟨x, _, rfl⟩ := List.mem_map.mp hd
      simp [gNotIn_strs]
    · intro d hd _
      obtain ⟨x, _, rfl⟩ := List.mem_map.mp hd
      simp
  have six : sk = [sk.getD 0 "", sk.getD 1 "", sk.getD 2 "", sk.getD 3 "", sk.getD 4 "", sk.getD 5 ""] := by
    match sk, hl with
    | [_, _, _, _, _, _], _ => rfl
  have e7 : ∀ x : PyData, lcF 5 (bF (eOp gEq (eOp gMod (eOp gFdiv (eVarB 1) (eOp gIx (eList (eLstD (eCons (eC (.int 1)) (eCons (eC (.int 2)) (eCons (eC (.int 4)) (eCons (eC (.int 8)) (eCons (eC (.int 3)) (eCons (eC (.int 5)) eNil)))))))) (eVarB 5))) (eC (.int 2))) (eC (.int 1)))) (eOp gIx (eVarB 2) (eVarB 5)) [.val (.str name), .val (.int c), .val (.list (sk.map .str)), .val (.int gap), .val (.list ((someL c n.toNat).map .str)), .no, .val x, .no, .no, .no, .no] (rangeD 0 6) =
      some ((skP c sk).map .str) := fun x => by
    unfold skP
    rw [lcF_filter (fun d => match d with
        | .int i => c / (([1, 2, 4, 8, 3, 5] : List Int).getD i.toNat 0) % 2 == 1
        | _ => false) (fun d => .str (skI sk d))]
    · rw [List.map_map]; rfl
    · intro d hd
      obtain ⟨i, hi, rfl⟩ := mem_rangeD hd
      have hi' : i = 0 ∨ i = 1 ∨ i = 2 ∨ i = 3 ∨ i = 4 ∨ i = 5 := by omega
      rcases hi' with rfl | rfl | rfl | rfl | rfl | rfl <;> simp [atI_pos]
    · intro d hd _
      obtain ⟨i, hi, rfl⟩ := mem_rangeD hd
      have h1 : (sk.map PyData.str)[i]? = some (.str (skI sk (.int (0 + (i : Int))))) := by
        rw [List.getElem?_map, List.getElem?_eq_getElem (by omega)]
        simp [skI]
        rw [List.getElem?_eq_getElem (by omega)]
        rfl
      simpa [atI_pos] using h1
  obtain ⟨ρ', e9, rs, s9, s10, rfl, hrl, hrs⟩ := restsP name c gap hg (.list (sk.map .str)) (.list ((someL c n.toNat).map .str)) (.list ((ownP c sk n.toNat).map .str)) m.toNat (by omega) .no .no
  obtain ⟨l, hl4, el⟩ := pickI (l := [1, 2, 3, 1 + c / 256 % 31]) (i := c / 16) (n := 4) rfl (by decide)
  obtain ⟨o1, o2, o3⟩ := ownP_ok c sk n.toNat (by omega) hl hk hd
  refine ⟨⟨name, ownP c sk n.toNat, l, rs⟩, ?_, rfl, ⟨hnm, o1, o2, o3, ?_, hrs, by show rs.length ≤ 3; omega⟩⟩
  · have b1 : n ≤ 1000000 ∧ -1000000 ≤ n := by omega
    have b2 : m ≤ 1000000 ∧ -1000000 ≤ m := by omega
    have b3 : n.toNat ≤ LIM := by unfold LIM; omega
    have b4 : (someL c n.toNat).length ≤ LIM := by rw [show (someL c n.toNat).length = n.toNat by simp [someL]]; exact b3
    have b5 : (selP c sk n.toNat).length + (skP c sk).length ≤ LIM := by
      have : (ownP c sk n.toNat).length ≤ 15 := o3
      unfold ownP at this
      rw [List.length_append] at this
      exact Nat.le_trans this (by decide)
    have l6 : 6 ≤ LIM := by decide
    have e9' := e9
    unfold rhoP ownP at e9'
    unfold F_person
    rw [runF_eq]
    simp only [List.map_cons, List.map_nil, List.map_append] at en em el e9'
    simp [b_person, rho0, N_person, en, em, el, b1, b2, b3, b4, b5, e4, e6, e7, l6, e9', perD, ownP]
  · simp at hl4
    simp only
    omega
end RK
namespace RK
open PySem PySem.Spec PyProof.Rows L2 RT
/-! ### a shift -/
def menuP : List (List Int) := [[0], [1], [2], [0, 1], [3, 2], [0, 1, 2], [5, 3, 1, 0, 2, 4], []]
theorem menuP_ok : ∀ l ∈ menuP, (∀ i ∈ l, 0 ≤ i ∧ i < 6) ∧ l.Nodup ∧ l.length ≤ 6 := by decide
theorem skI_inj {sk : List Str} (hd : sk.Nodup) {i j : Int} (hi : 0 ≤ i ∧ i < sk.length) (hj : 0 ≤ j ∧ j < sk.length) (h : skI sk (.int i) = skI sk (.int j)) : i = j := by
  have h1 : i.toNat < sk.length := by omega
  have h2 : j.toNat < sk.length := by omega
  simp only [skI, List.getD_eq_getElem?_getD, List.getElem?_eq_getElem h1, List.getElem?_eq_getElem h2, Option.getD_some] at h
  have := (List.getElem_inj hd).mp h
  omega
theorem skI_mem {sk : List Str} {i : Int} (hi : 0 ≤ i ∧ i < sk.length) : skI sk (.int i) ∈ sk := by
  have h1 : i.toNat < sk.length := by omega
  simp only [skI, List.getD_eq_getElem?_getD, List.getElem?_eq_getElem h1, Option.getD_some]
  exact List.getElem_mem h1
theorem skI_at {sk : List Str} {i : Int} (hi : 0 ≤ i ∧ i < sk.length) : atI (sk.map PyData.str) i = some (.str (skI sk (.int i))) := by
  have h1 : i.toNat < sk.length := by omega
  rw [atI_pos _ _ hi.1, List.getElem?_map, List.getElem?_eq_getElem h1]
  simp only [skI, List.getD_eq_getElem?_getD, List.getElem?_eq_getElem h1, Option.getD_some]
  rfl
def ndsS (c most : Int) (sk : List Str) (pl : List Int) : List (Str × Int) := pl.map fun i => (skI sk (.int i), 1 + (c / 2304 + i) % most)
theorem F_shift_ok (name : Str) (hnm : isName name = true) (c gap : Int) (hg : 1 ≤ gap ∧ gap ≤ 40) (sk : List Str) (hl : sk.length = 6) (hk : ∀ k ∈ sk, isName k = true) (hd : sk.Nodup) :
    ∃ s, F_shift [.str name, .int c, .list (sk.map .str), .int gap] = some (shD s) ∧ s.name = name ∧ GS s := by
  obtain ⟨x, hx, ex⟩ := atI_mod (menuP.map fun l => PyData.list (l.map PyData.int)) (c / 72) 8 rfl (by decide)
  obtain ⟨pl, hpl, rfl⟩ := List.mem_map.mp hx
  obtain ⟨p1, p2, p3⟩ := menuP_ok pl hpl
  obtain ⟨most, hm, em⟩ := pickI (l := [2, 2, 3, 9]) (i := c / 576) (n := 4) rfl (by decide)
  have hm9 : 2 ≤ most ∧ most ≤ 9 := by simp at hm; omega
  have m1 : gMul (.int 24) (.int gap) = Option.some (.int (24 * gap)) := gMul_int _ _ (cMul_l (by decide))
  have m2 : gMul (.int (24 * gap)) (.int (c % 3)) = Option.some (.int (24 * gap * (c % 3))) := gMul_int _ _ (cMul_l (by omega))
  have m3 : gMul (.int 8) (.int (c / 3 % 3)) = Option.some (.int (8 * (c / 3 % 3))) := gMul_int _ _ (cMul_l (by decide))
  have q1 := Int.emod_nonneg c (show (3 : Int) ≠ 0 by decide)
  have q2 := Int.emod_lt_of_pos c (show (0 : Int) < 3 by decide)
  have q3 := Int.emod_nonneg (c / 3) (show (3 : Int) ≠ 0 by decide)
  have q4 := Int.emod_lt_of_pos (c / 3) (show (0 : Int) < 3 by decide)
  have q7 : 0 ≤ 24 * gap * (c % 3) := Int.mul_nonneg (by omega) q1
  have q8 : 24 * gap * (c % 3) ≤ 960 * 2 := Int.mul_le_mul (by omega) (by omega) q1 (by omega)
  generalize hB : 24 * gap * (c % 3) + 8 * (c / 3 % 3) = b at *
  have b0 : 0 ≤ b ∧ b ≤ 1936 := by omega
  have c24 : 0 < 24 - b % 24 ∧ 24 - b % 24 < 1073741824 := by omega
  have y1 := Int.emod_nonneg (c / 9) (show (24 - b % 24 : Int) ≠ 0 by omega)
  have y2 := Int.emod_lt_of_pos (c / 9) (show (0 : Int) < 24 - b % 24 by omega)
  have e8 : lcF 8 tYesF (eTupD (eCons (eOp gIx (eVarB 2) (eVarB 8)) (eCons (eOp gAdd (eC (.int 1)) (eOp gMod (eOp gAdd (eOp gFdiv (eVarB 1) (eC (.int 2304))) (eVarB 8)) (eVarB 6))) eNil))) [.val (.str name), .val (.int c), .val (.list (sk.map .str)), .val (.int gap), .val (.int b), .val (.list (pl.map PyData.int)), .val (.int most), .no, .no] (pl.map PyData.int) = some ((ndsS c most sk pl).map ndD) := by
    rw [lcF_map (fun d => match d with | .int i => ndD (skI sk (.int i), 1 + (c / 2304 + i) % most) | _ => .none)]
    · unfold ndsS
      rw [List.map_map, List.map_map]
      rfl
    · intro d hdm
      obtain ⟨i, hi, rfl⟩ := List.mem_map.mp hdm
      have hi6 := p1 i hi
      have ha := skI_at (sk := sk) (i := i) (by omega)
      have cm : 0 < most ∧ most < 1073741824 := by omega
      simp [ha, cm, ndD]
  refine ⟨⟨name, b, b + 1 + c / 9 % (24 - b % 24), ndsS c most sk pl⟩, ?_, rfl, ⟨hnm, ?_, ?_, fun n hn => ?_, ?_, ?_⟩⟩
  · have l1 : pl.length ≤ LIM := Nat.le_trans p3 (by decide)
    have gm : gMod (.int (c / 9)) (.int (24 - b % 24)) = some (.int (c / 9 % (24 - b % 24))) := gMod_int _ _ (cPos_of c24.1 c24.2)
    unfold F_shift
    rw [runF_eq]
    simp only [menuP, List.map_cons, List.map_nil] at ex em
    simp [b_shift, rho0, N_shift, m1, m2, m3, hB, ex, em, e8, l1, gm, shD, stD]
  · simp only; omega
  · simp only; omega
  · unfold ndsS at hn
    obtain ⟨i, hi, rfl⟩ := List.mem_map.mp hn
    have hi6 := p1 i hi
    have := Int.emod_nonneg (c / 2304 + i) (show most ≠ 0 by omega)
    have := Int.emod_lt_of_pos (c / 2304 + i) (show 0 < most by omega)
    refine ⟨hk _ (skI_mem (by omega)), ?_, ?_⟩ <;> simp only <;> omega
  · unfold ndsS
    rw [List.map_map, List.nodup_iff_pairwise_ne, List.pairwise_map]
    refine List.Pairwise.imp_of_mem ?_ (List.nodup_iff_pairwise_ne.mp p2)
    intro i j hi hj hij h
    exact hij (skI_inj hd (by have := p1 i hi; omega) (by have := p1 j hj; omega) h)
  · unfold ndsS
    rw [List.length_map]
    exact p3
end RK
namespace RK
open PySem PySem.Spec PyProof.Rows L2 RT
/-! ### tight parts -/
def rowC (r : List Int) : Cell := .lst (r.map .int)
theorem augRow_map {C : List (List Int)} {r : List Int} {a b : Nat} {x e : Int} (hr : C[a]? = some r) (hx : r[b]? = some x) : augRow (C.map rowC) (a : Int) (b : Int) e = some ((C.set a (r.set b (x + e))).map rowC) := by
  have h1 : (C.map rowC)[(a : Int).toNat]? = some (.lst (r.map .int)) := by
    rw [Int.toNat_natCast, List.getElem?_map, hr]; rfl
  have h2 : (r.map PyData.int)[(b : Int).toNat]? = some (.int x) := by
    rw [Int.toNat_natCast, List.getElem?_map, hx]; rfl
  unfold augRow
  rw [h1]
  simp only [h2]
  rw [if_pos ⟨Int.natCast_nonneg _, Int.natCast_nonneg _⟩, Int.toNat_natCast, Int.toNat_natCast, List.map_set]
  unfold rowC
  rw [List.map_set]
theorem sAugRow_at {i : Nat} {fa fb fe : SE} {ρ : Rho} {C : List (List Int)} {r : List Int} {a b : Nat} {x e : Int} (h : ρ[i]? = some (.obj (.row (C.map rowC)))) (ha : fa ρ = some (.int (a : Int))) (hb : fb ρ = some (.int (b : Int))) (he : fe ρ = some (.int e))
    (hr : C[a]? = some r) (hx : r[b]? = some x) : sAugRow i fa fb fe ρ = .nx (ρ.set i (.obj (.row ((C.set a (r.set b (x + e))).map rowC)))) := by
  unfold sAugRow
  rw [h, ha, hb, he]
  simp only [slO_row, augRow_map hr hx]
/-- rows of four, each number from nought up to its row's bound -/
def MatOk (C : List (List Int)) (D : Nat) (B : Nat → Int) : Prop := C.length = D ∧ ∀ (a : Nat) (r : List Int), C[a]? = some r → r.length = 4 ∧ ∀ x ∈ r, 0 ≤ x ∧ x ≤ B a
theorem MatOk.inc {C : List (List Int)} {D : Nat} {B B' : Nat → Int} (h : MatOk C D B) {a b : Nat} (ha : a < D) (hb : b < 4) (e : Int) (he : 0 ≤ e) (hB : ∀ k, k ≠ a → B k ≤ B' k) (hBa : B a + e ≤ B' a) :
    ∃ r x, C[a]? = some r ∧ r[b]? = some x ∧ MatOk (C.set a (r.set b (x + e))) D B' := by
  obtain ⟨hl, hr⟩ := h
  have h1 : C[a]? = some C[a] := List.getElem?_eq_getElem (by omega)
  obtain ⟨q1, q2⟩ := hr a _ h1
  have h2 : (C[a])[b]? = some (C[a])[b] := List.getElem?_eq_getElem (by omega)
  refine ⟨_, _, h1, h2, by rw [List.length_set]; exact hl, fun k r hk => ?_⟩
  by_cases hka : a = k
  · subst hka
    rw [List.getElem?_set_self (by omega)] at hk
    cases hk
    refine ⟨by rw [List.length_set]; exact q1, fun y hy => ?_⟩
    rcases List.mem_or_eq_of_mem_set hy with hy | rfl
    · have := q2 y hy; omega
    · have := q2 _ (List.mem_of_getElem? h2); omega
  · rw [List.getElem?_set_ne hka] at hk
    obtain ⟨z1, z2⟩ := hr k r hk
    refine ⟨z1, fun y hy => ?_⟩
    have := z2 y hy
    have := hB k (Ne.symm hka)
    omega
theorem MatOk.le {C : List (List Int)} {D : Nat} {B B' : Nat → Int} (h : MatOk C D B) (hB : ∀ k, k < D → B k ≤ B' k) : MatOk C D B' := by
  obtain ⟨hl, hr⟩ := h
  refine ⟨hl, fun k r hk => ?_⟩
  obtain ⟨z1, z2⟩ := hr k r hk
  have hkl := (List.getElem?_eq_some_iff.mp hk).1
  refine ⟨z1, fun y hy => ?_⟩
  have := z2 y hy
  have := hB k (by omega)
  omega
def rhoT (ns : List Int) (sk : List Str) (gap f : Int) (C : List (List Int)) (s5 s6 s7 s8 s9 s11 s12 s13 s14 s15 : Sl) : Rho := [.val (scrD ns), .val (.list (sk.map .str)), .val (.int gap), .val (.int f), .obj (.row (C.map rowC)), s5, s6, s7, s8, s9, .no, s11, s12, s13, s14, s15]
theorem pickN {l : List Int} {d : Nat} (h : d < l.length) : atI (l.map PyData.int) (d : Int) = some (.int l[d]) := by
  rw [atI_pos _ _ (Int.natCast_nonneg d), Int.toNat_natCast, List.getElem?_map, List.getElem?_eq_getElem h]
  rfl
theorem tightDay (ns : List Int) (sk : List Str) (gap f : Int) (D : Nat) (hD : D ≤ 3) (k : Nat) (C : List (List Int)) (hC : MatOk C D fun _ => (k : Int)) (s5 s6 s7 : Sl) (c : Int) (ow : List Int) (hw : ow.length = 4) (s12 s13 s14 s15 : Sl) :
    ∃ ρ', forF (tg1 5) (sIf (bF (eOp gGt (eOp gMod (eOp gFdiv (eVarB 8) (eOp gIx (eList (eLstD (eCons (eC (.int 1024)) (eCons (eC (.int 4096)) (eCons (eC (.int 16384)) eNil))))) (eVarB 5))) (eC (.int 4))) (eC (.int 0)))) (sSeq (sAugRow 4 (eVar 5) (eOp gMod (eOp gFdiv (eVarB 8) (eOp gIx (eList (eLstD (eCons (eC (.int 16)) (eCons (eC (.int 64)) (eCons (eC (.int 256)) eNil))))) (eVarB 5))) (eC (.int 4))) (eC (.int 1)))
  (sSeq (sPut 9 (eOp gMod (eOp gFdiv (eVarB 8) (eOp gIx (eList (eLstD (eCons (eC (.int 16)) (eCons (eC (.int 64)) (eCons (eC (.int 256)) eNil))))) (eVarB 5))) (eC (.int 4))) (eC (.int 1)))
  (sSet 11 (eOp gAdd (eVarB 11) (eC (.int 1)))))) sNext) (rangeD 0 D) (rhoT ns sk gap f C s5 s6 s7 (.val (.int c)) (.own (ow.map .int)) (.val (.int 0)) s12 s13 s14 s15) = .nx ρ' ∧
      ∃ (C' : List (List Int)) (s5 : Sl) (ow' : List Int) (ld : Int), ρ' = rhoT ns sk gap f C' s5 s6 s7 (.val (.int c)) (.own (ow'.map .int)) (.val (.int ld)) s12 s13 s14 s15 ∧ MatOk C' D (fun r => if r < D then (k : Int) + 1 else k) ∧ ow'.length = 4 ∧ 0 ≤ ld ∧ ld ≤ D := by
  refine forF_rng (fun d ρ => ∃ (C' : List (List Int)) (s5 : Sl) (ow' : List Int) (ld : Int), ρ = rhoT ns sk gap f C' s5 s6 s7 (.val (.int c)) (.own (ow'.map .int)) (.val (.int ld)) s12 s13 s14 s15 ∧ MatOk C' D (fun r => if r < d then (k : Int) + 1 else k) ∧ ow'.length = 4 ∧ 0 ≤ ld ∧ ld ≤ d)
    ⟨C, s5, ow, 0, rfl, hC.le (fun r _ => by simp), hw, by omega, by omega⟩ ?_
  rintro d _ hd ⟨C', t5, ow', ld, rfl, hm, hw', l0, l1⟩
  have d3 : d < 3 := by omega
  have p1 := pickN (l := [1024, 4096, 16384]) (d := d) d3
  have p2 := pickN (l := [16, 64, 256]) (d := d) d3
  simp only [List.map_cons, List.map_nil] at p1 p2
  have r1 : (1 : Int) ≤ ([1024, 4096, 16384] : List Int)[d] ∧ ([1024, 4096, 16384] : List Int)[d] ≤ 16384 := by
    have : d = 0 ∨ d = 1 ∨ d = 2 := by omega
    rcases this with rfl | rfl | rfl <;> simp
  have r2 : (1 : Int) ≤ ([16, 64, 256] : List Int)[d] ∧ ([16, 64, 256] : List Int)[d] ≤ 256 := by
    have : d = 0 ∨ d = 1 ∨ d = 2 := by omega
    rcases this with rfl | rfl | rfl <;> simp
  generalize ([1024, 4096, 16384] : List Int)[d] = v1 at p1 r1
  generalize ([16, 64, 256] : List Int)[d] = v2 at p2 r2
  have z1 : 0 < v1 ∧ v1 < 1073741824 := by omega
  have z2 : 0 < v2 ∧ v2 < 1073741824 := by omega
  by_cases ht : 0 < c / v1 % 4
  · have y1 := Int.emod_nonneg (c / v2) (show (4 : Int) ≠ 0 by decide)
    have y2 := Int.emod_lt_of_pos (c / v2) (show (0 : Int) < 4 by decide)
    obtain ⟨b, hb⟩ : ∃ b : Nat, c / v2 % 4 = (b : Int) := ⟨(c / v2 % 4).toNat, by omega⟩
    have hb4 : b < 4 := by omega
    obtain ⟨r, x, e1, e2, hm'⟩ := hm.inc (B' := fun r => if r < d + 1 then (k : Int) + 1 else k) hd hb4 1 (by decide) (fun j hj => by
      show (if j < d then (k : Int) + 1 else k) ≤ (if j < d + 1 then (k : Int) + 1 else k)
      split <;> split <;> omega) (by
      show (if d < d then (k : Int) + 1 else k) + 1 ≤ (if d < d + 1 then (k : Int) + 1 else k)
      split <;> split <;> omega)
    refine ⟨rhoT ns sk gap f (C'.set d (r.set b (x + 1))) (.val (.int d)) s6 s7 (.val (.int c)) (.own ((ow'.set b 1).map .int)) (.val (.int (ld + 1))) s12 s13 s14 s15, ?_, _, _, _, _, rfl, hm', by rw [List.length_set]; exact hw', by omega, by omega⟩
    have aug : sAugRow 4 (eVar 5) (eOp gMod (eOp gFdiv (eVarB 8) (eOp gIx (eList (eLstD (eCons (eC (.int 16)) (eCons (eC (.int 64)) (eCons (eC (.int 256)) eNil))))) (eVarB 5))) (eC (.int 4))) (eC (.int 1)) (rhoT ns sk gap f C' (.val (.int d)) s6 s7 (.val (.int c)) (.own (ow'.map .int)) (.val (.int ld)) s12 s13 s14 s15) =
        .nx (rhoT ns sk gap f (C'.set d (r.set b (x + 1))) (.val (.int d)) s6 s7 (.val (.int c)) (.own (ow'.map .int)) (.val (.int ld)) s12 s13 s14 s15) := by
      rw [sAugRow_at (C := C') (r := r) (a := d) (b := b) (x := x) (e := 1) rfl rfl (by simp [rhoT, p2, z2, hb]) rfl e1 e2]
      rfl
    have ix : ixN (ow'.map PyData.int).length (b : Int) = some b := by
      rw [ixN_of (by omega) (by rw [List.length_map]; omega), Int.toNat_natCast]
    rw [List.length_map] at ix
    have hset : (ow'.map PyData.int).set b (.int 1) = (ow'.set b 1).map .int := by rw [List.map_set]
    have e0 : (rhoT ns sk gap f C' t5 s6 s7 (.val (.int c)) (.own (ow'.map .int)) (.val (.int ld)) s12 s13 s14 s15).set 5 (.val (.int d)) = rhoT ns sk gap f C' (.val (.int d)) s6 s7 (.val (.int c)) (.own (ow'.map .int)) (.val (.int ld)) s12 s13 s14 s15 := rfl
    rw [e0, sIf_eq]
    have tst : bF (eOp gGt (eOp gMod (eOp gFdiv (eVarB 8) (eOp gIx (eList (eLstD (eCons (eC (.int 1024)) (eCons (eC (.int 4096)) (eCons (eC (.int 16384)) eNil))))) (eVarB 5))) (eC (.int 4))) (eC (.int 0))) (rhoT ns sk gap f C' (.val (.int d)) s6 s7 (.val (.int c)) (.own (ow'.map .int)) (.val (.int ld)) s12 s13 s14 s15) = some true := by
      simp [rhoT, p1, z1, ht]
    rw [tst, outB_some, if_pos rfl, sSeq_eq, aug, thn_nx]
    simp [rhoT, p2, z2, hb, ix]
  · refine ⟨rhoT ns sk gap f C' (.val (.int d)) s6 s7 (.val (.int c)) (.own (ow'.map .int)) (.val (.int ld)) s12 s13 s14 s15, ?_, _, _, _, _, rfl, hm.le (fun j _ => ?_), hw', l0, by omega⟩
    · simp [rhoT, p1, z1, ht]
    · show (if j < d then (k : Int) + 1 else k) ≤ (if j < d + 1 then (k : Int) + 1 else k)
      split <;> split <;> omega
end RK
namespace RK
open PySem PySem.Spec PyProof.Rows L2 RT
theorem skI_take (sk : List Str) (n : Nat) (hn : n ≤ sk.length) : (rangeD 0 n).map (skI sk) = sk.take n := by
  apply List.ext_getElem
  · simp [hn]
  · intro i h1 h2
    have hi : i < n := by simpa using h1
    simp [rangeD, skI]
    rw [List.getElem?_eq_getElem (by omega)]
    rfl
theorem skI_subN (sk : List Str) (n : Nat) (hn : n ≤ sk.length) (p : PyData → Bool) : (((rangeD 0 n).filter p).map (skI sk)).Sublist sk := by
  have : (((rangeD 0 n).filter p).map (skI sk)).Sublist ((rangeD 0 n).map (skI sk)) := List.Sublist.map _ List.filter_sublist
  rw [skI_take sk n hn] at this
  exact this.trans (List.take_sublist _ _)
def skT (ow : List Int) (sk : List Str) : List Str := ((rangeD 0 4).filter fun d => match d with
  | .int i => ow.getD i.toNat 0 == 1
  | _ => false).map (skI sk)
theorem getI {l : List Int} {i : Nat} (h : i < l.length) : atI (l.map PyData.int) (i : Int) = some (.int (l.getD i 0)) := by
  rw [pickN h, List.getD_eq_getElem?_getD, List.getElem?_eq_getElem h]
  rfl
theorem lcSkT (sk : List Str) (hl : sk.length = 6) (ow : List Int) (hw : ow.length = 4) (ρ : Rho) (h1 : ρ[1]? = some (.val (.list (sk.map .str)))) (h9 : ρ[9]? = some (.own (ow.map .int))) (hlen : 10 < ρ.length) :
    lcF 10 (bF (eOp gEq (eOp gIx (eVarB 9) (eVarB 10)) (eC (.int 1)))) (eOp gIx (eVarB 1) (eVarB 10)) ρ (rangeD 0 4) = some ((skT ow sk).map .str) := by
  have g1 : ∀ d, (ρ.set 10 (.val d))[1]? = some (.val (.list (sk.map .str))) := fun d => by rw [List.getElem?_set_ne (by decide)]; exact h1
  have g9 : ∀ d, (ρ.set 10 (.val d))[9]? = some (.own (ow.map .int)) := fun d => by rw [List.getElem?_set_ne (by decide)]; exact h9
  have g10 : ∀ d, (ρ.set 10 (.val d))[10]? = some (.val d) := fun d => List.getElem?_set_self hlen
  unfold skT
  rw [lcF_filter (fun d => match d with
    | .int i => ow.getD i.toNat 0 == 1
    | _ => false) (fun d => .str (skI sk d))]
  · rw [List.map_map]; rfl
  · intro d hd
    obtain ⟨i, hi, rfl⟩ := mem_rangeD hd
    have := getI (l := ow) (i := i) (by omega)
    rw [Int.zero_add]
    simp only [bF_eq, eOp_eq, eVarB_eq, g9, g10, slB_own, slB_val, Option.bind_some, gIx_list, this, eC_eq, gEq_int, truD_bool, Int.toNat_natCast]
  · intro d hd _
    obtain ⟨i, hi, rfl⟩ := mem_rangeD hd
    have := skI_at (sk := sk) (i := (i : Int)) (by omega)
    rw [Int.zero_add]
    simp only [eOp_eq, eVarB_eq, g1, g10, slB_val, Option.bind_some, gIx_list, this, dataD_str, and_self]
theorem lcOwn (c : Int) (ρ : Rho) (h8 : ρ[8]? = some (.val (.int c))) (hlen : 10 < ρ.length) :
    ∃ ow : List Int, lcF 10 tYesF (eOp gMod (eOp gFdiv (eVarB 8) (eOp gIx (eList (eLstD (eCons (eC (.int 1)) (eCons (eC (.int 2)) (eCons (eC (.int 4)) (eCons (eC (.int 8)) eNil)))))) (eVarB 10))) (eC (.int 2))) ρ (rangeD 0 4) = some (ow.map .int) ∧ ow.length = 4 := by
  have g8 : ∀ d, (ρ.set 10 (.val d))[8]? = some (.val (.int c)) := fun d => by rw [List.getElem?_set_ne (by decide)]; exact h8
  have g10 : ∀ d, (ρ.set 10 (.val d))[10]? = some (.val d) := fun d => List.getElem?_set_self hlen
  refine ⟨[c / 1 % 2, c / 2 % 2, c / 4 % 2, c / 8 % 2], ?_, rfl⟩
  rw [lcF_map (fun d => match d with
    | .int i => .int (c / (([1, 2, 4, 8] : List Int).getD i.toNat 1) % 2)
    | _ => .none)]
  · rfl
  · intro d hd
    obtain ⟨i, hi, rfl⟩ := mem_rangeD hd
    have hi' : i = 0 ∨ i = 1 ∨ i = 2 ∨ i = 3 := by omega
    rcases hi' with rfl | rfl | rfl | rfl <;> simp [g8, g10, atI_pos]
theorem skT_ok (ow : List Int) {sk : List Str} (hl : sk.length = 6) (hk : ∀ k ∈ sk, isName k = true) (hd : sk.Nodup) : (∀ k ∈ skT ow sk, isName k = true) ∧ (skT ow sk).Nodup ∧ (skT ow sk).length ≤ 15 := by
  have hs := skI_subN sk 4 (by omega) fun d => match d with
    | .int i => ow.getD i.toNat 0 == 1
    | _ => false
  refine ⟨fun k h => hk k (hs.subset h), hs.nodup hd, ?_⟩
  have := hs.length_le
  unfold skT
  omega
/-- people and shifts called by their numbers -/
def PplAt (ns : List Int) (n : Nat) (ps : List Person) : Prop := ps.map (·.name) = (List.range n).map (called ns 0) ∧ ∀ p ∈ ps, GP p
def ShfAt (ns : List Int) (n : Nat) (ss : List Shift) : Prop := ss.map (·.name) = (List.range n).map (called ns 1) ∧ ∀ s ∈ ss, GS s
theorem PplAt.nil (ns : List Int) : PplAt ns 0 [] := ⟨rfl, fun _ h => absurd h List.not_mem_nil⟩
theorem ShfAt.nil (ns : List Int) : ShfAt ns 0 [] := ⟨rfl, fun _ h => absurd h List.not_mem_nil⟩
theorem PplAt.app {ns : List Int} {n : Nat} {ps : List Person} (h : PplAt ns n ps) {p : Person} (hp : GP p) (hn : p.name = called ns 0 n) : PplAt ns (n + 1) (ps ++ [p]) := by
  refine ⟨by rw [List.map_append, h.1, List.range_succ, List.map_append]; simp [hn], fun q hq => ?_⟩
  rcases List.mem_append.mp hq with hq | hq
  · exact h.2 q hq
  · obtain rfl := List.mem_singleton.mp hq; exact hp
theorem ShfAt.app {ns : List Int} {n : Nat} {ps : List Shift} (h : ShfAt ns n ps) {p : Shift} (hp : GS p) (hn : p.name = called ns 1 n) : ShfAt ns (n + 1) (ps ++ [p]) := by
  refine ⟨by rw [List.map_append, h.1, List.range_succ, List.map_append]; simp [hn], fun q hq => ?_⟩
  rcases List.mem_append.mp hq with hq | hq
  · exact h.2 q hq
  · obtain rfl := List.mem_singleton.mp hq; exact hp
theorem PplAt.len {ns : List Int} {n : Nat} {ps : List Person} (h : PplAt ns n ps) : ps.length = n := by
  have := congrArg List.length h.1
  simpa using this
theorem ShfAt.len {ns : List Int} {n : Nat} {ps : List Shift} (h : ShfAt ns n ps) : ps.length = n := by
  have := congrArg List.length h.1
  simpa using this
theorem tightPeople (ns : List Int) (sk : List Str) (hl : sk.length = 6) (hk : ∀ k ∈ sk, isName k = true) (hd : sk.Nodup) (gap f : Int) (D : Nat) (hD : 1 ≤ D ∧ D ≤ 3) (n : Nat) (hn : n ≤ 7) (C : List (List Int)) (hC : MatOk C D fun _ => 0) :
    ∃ ρ', forF (tg1 7) (sSeq (sSet 8 (eCall F_cell (eCons (eVar 0) (eCons (eOp gAdd (eC (.int 2)) (eVarB 7)) eNil))))
  (sSeq (sSetL 9 (lLc (iR1 (eCons (eC (.int 4)) eNil)) 10 tYesF (eOp gMod (eOp gFdiv (eVarB 8) (eOp gIx (eList (eLstD (eCons (eC (.int 1)) (eCons (eC (.int 2)) (eCons (eC (.int 4)) (eCons (eC (.int 8)) eNil)))))) (eVarB 10))) (eC (.int 2)))))
  (sSeq (sSet 11 (eC (.int 0)))
  (sSeq (sFor (iR1 (eCons (eRowLen 4) eNil)) (tg1 5) (sIf (bF (eOp gGt (eOp gMod (eOp gFdiv (eVarB 8) (eOp gIx (eList (eLstD (eCons (eC (.int 1024)) (eCons (eC (.int 4096)) (eCons (eC (.int 16384)) eNil))))) (eVarB 5))) (eC (.int 4))) (eC (.int 0)))) (sSeq (sAugRow 4 (eVar 5) (eOp gMod (eOp gFdiv (eVarB 8) (eOp gIx (eList (eLstD (eCons (eC (.int 16)) (eCons (eC (.int 64)) (eCons (eC (.int 256)) eNil))))) (eVarB 5))) (eC (.int 4))) (eC (.int 1)))
  (sSeq (sPut 9 (eOp gMod (eOp gFdiv (eVarB 8) (eOp gIx (eList (eLstD (eCons (eC (.int 16)) (eCons (eC (.int 64)) (eCons (eC (.int 256)) eNil))))) (eVarB 5))) (eC (.int 4))) (eC (.int 1)))
  (sSet 11 (eOp gAdd (eVarB 11) (eC (.int 1)))))) sNext))
  (sSeq (sSet 12 (eList (lLc (iR1 (eCons (eC (.int 4)) eNil)) 10 (bF (eOp gEq (eOp gIx (eVarB 9) (eVarB 10)) (eC (.int 1)))) (eOp gIx (eVarB 1) (eVarB 10)))))
  (sApp 6 (eTupD (eCons (eCall F_called (eCons (eVar 0) (eCons (eC (.int 0)) (eCons (eVar 7) eNil)))) (eCons (eVar 12) (eCons (eCall gMax (eCons (eC (.int 1)) (eCons (eVarB 11) eNil))) (eCons (eList (eLstD eNil)) eNil))))))))))) (rangeD 0 n) (rhoT ns sk gap f C .no (.own []) .no .no .no .no .no .no .no .no) = .nx ρ' ∧
      ∃ (C' : List (List Int)) (ps : List Person) (s5 s7 s8 s9 s11 s12 : Sl), ρ' = rhoT ns sk gap f C' s5 (.own (ps.map perD)) s7 s8 s9 s11 s12 .no .no .no ∧ MatOk C' D (fun _ => (n : Int)) ∧ PplAt ns n ps := by
  refine forF_rng (fun k ρ => ∃ (C' : List (List Int)) (ps : List Person) (s5 s7 s8 s9 s11 s12 : Sl), ρ = rhoT ns sk gap f C' s5 (.own (ps.map perD)) s7 s8 s9 s11 s12 .no .no .no ∧ MatOk C' D (fun _ => (k : Int)) ∧ PplAt ns k ps)
    ⟨C, [], _, _, _, _, _, _, rfl, hC, PplAt.nil ns⟩ ?_
  rintro k _ hkn ⟨C', ps, s5, s7, s8, s9, s11, s12, rfl, hm, hp⟩
  have fc := F_cell_eq ns (2 + k)
  rw [show ((2 + k : Nat) : Int) = 2 + (k : Int) by omega] at fc
  generalize cell ns (2 + k) = c at fc
  obtain ⟨ow, eo, ho⟩ := lcOwn c (rhoT ns sk gap f C' s5 (.own (ps.map perD)) (.val (.int k)) (.val (.int c)) s9 s11 s12 .no .no .no) rfl (by simp [rhoT])
  obtain ⟨_, ed, C2, t5, ow2, ld, rfl, hm2, ho2, l0, l1⟩ := tightDay ns sk gap f D hD.2 k C' hm s5 (.own (ps.map perD)) (.val (.int k)) c ow ho s12 .no .no .no
  have es := lcSkT sk hl ow2 ho2 (rhoT ns sk gap f C2 t5 (.own (ps.map perD)) (.val (.int k)) (.val (.int c)) (.own (ow2.map .int)) (.val (.int ld)) s12 .no .no .no) rfl rfl (by simp [rhoT])
  obtain ⟨k1, k2, k3⟩ := skT_ok ow2 hl hk hd
  have fn := F_called_eq ns 0 k
  have ll : ps.length ≤ LIM := by rw [hp.len]; exact Nat.le_trans (by omega : k ≤ 7) (by decide)
  refine ⟨rhoT ns sk gap f C2 t5 (.own ((ps ++ [(⟨called ns 0 k, skT ow2 sk, if ld > 1 then ld else 1, []⟩ : Person)]).map perD)) (.val (.int k)) (.val (.int c)) (.own (ow2.map .int)) (.val (.int ld)) (.val (.list ((skT ow2 sk).map .str))) .no .no .no, ?_, C2, _, _, _, _, _, _, _, rfl, ?_, hp.app ⟨called_ok _ _ _, k1, k2, k3, ?_, (fun _ h => absurd h List.not_mem_nil), Nat.zero_le _⟩ rfl⟩
  · have lD : ((C'.map rowC).length : Int) = D := by rw [List.length_map, hm.1]
    have b1 : (D : Int) ≤ 1000000 ∧ -1000000 ≤ (D : Int) := by omega
    have l4 : 4 ≤ LIM := by decide
    have mx : gMax [.int 1, .int ld] = some (.int (if ld > 1 then ld else 1)) := rfl
    unfold rhoT at eo ed es ⊢
    rw [List.length_map] at lD
    simp [fc, eo, l4, eRowLen, lD, b1, ed, es, fn, mx, ll, perD]
  · refine hm2.le fun r hr => ?_
    rw [if_pos hr]
    simp
  · show 1 ≤ (if ld > 1 then ld else 1) ∧ (if ld > 1 then ld else 1) ≤ 31
    split <;> omega
end RK
namespace RK
open PySem PySem.Spec PyProof.Rows L2 RT
theorem eRow_at {i : Nat} {fb : SE} {ρ : Rho} {C : List (List Int)} {r : List Int} {d : Nat} (h : ρ[i]? = some (.obj (.row (C.map rowC)))) (hb : fb ρ = some (.int (d : Int))) (hr : C[d]? = some r) : eRow i fb ρ = some (.list (r.map .int)) := by
  unfold eRow
  rw [h, hb]
  simp only [slO_row, Option.bind_some]
  rw [atI_pos _ _ (Int.natCast_nonneg d), Int.toNat_natCast, List.getElem?_map, hr]
  rfl
def turnL (t : Int) : List Int := [(0 + t) % 4, (1 + t) % 4, (2 + t) % 4, (3 + t) % 4]
theorem turnL_ok (t : Int) : (∀ i ∈ turnL t, 0 ≤ i ∧ i < 4) ∧ (turnL t).Nodup := by
  unfold turnL
  refine ⟨fun i hi => ?_, ?_⟩
  · simp only [List.mem_cons, List.not_mem_nil, or_false] at hi
    omega
  · simp only [List.nodup_cons, List.mem_cons, List.not_mem_nil, or_false, not_or, List.nodup_nil, and_true, not_false_eq_true]
    omega
def ndsT (sk : List Str) (r : List Int) (t : Int) : List (Str × Int) := ((turnL t).filter fun i => decide (0 < r.getD i.toNat 0)).map fun i => (skI sk (.int i), r.getD i.toNat 0)
theorem lcTurn (ns : List Int) (d : Nat) (ρ : Rho) (h0 : ρ[0]? = some (.val (scrD ns))) (h5 : ρ[5]? = some (.val (.int (d : Int)))) (hlen : 10 < ρ.length) (hd : d < 3) :
    lcF 10 tYesF (eOp gMod (eOp gAdd (eVarB 10) (eOp gFdiv (eCall F_cell (eCons (eVar 0) (eCons (eC (.int 21)) eNil))) (eOp gAdd (eC (.int 1)) (eVarB 5)))) (eC (.int 4))) ρ (rangeD 0 4) = some ((turnL (cell ns 21 / (1 + (d : Int)))).map .int) := by
  have fc := F_cell_eq ns 21
  simp only [Int.cast_ofNat_Int] at fc
  have g0 : ∀ x, (ρ.set 10 (.val x))[0]? = some (.val (scrD ns)) := fun x => by rw [List.getElem?_set_ne (by decide)]; exact h0
  have g5 : ∀ x, (ρ.set 10 (.val x))[5]? = some (.val (.int (d : Int))) := fun x => by rw [List.getElem?_set_ne (by decide)]; exact h5
  have g10 : ∀ x, (ρ.set 10 (.val x))[10]? = some (.val x) := fun x => List.getElem?_set_self hlen
  have gf : gFdiv (.int (cell ns 21)) (.int (1 + (d : Int))) = some (.int (cell ns 21 / (1 + (d : Int)))) := gFdiv_int _ _ (cPos_of (by omega) (by omega))
  rw [lcF_map (fun x => match x with
    | .int i => .int ((i + cell ns 21 / (1 + (d : Int))) % 4)
    | _ => .none)]
  · rfl
  · intro x hx
    obtain ⟨i, hi, rfl⟩ := mem_rangeD hx
    simp [g0, g5, g10, fc, gf]
theorem lcNds (sk : List Str) (hl : sk.length = 6) (C : List (List Int)) (r : List Int) (d : Nat) (hr : C[d]? = some r) (h4 : r.length = 4) (t : Int) (ρ : Rho) (h1 : ρ[1]? = some (.val (.list (sk.map .str)))) (hC : ρ[4]? = some (.obj (.row (C.map rowC)))) (h5 : ρ[5]? = some (.val (.int (d : Int)))) (hlen : 10 < ρ.length) :
    lcF 10 (bF (eOp gGt (eOp gIx (eRow 4 (eVarB 5)) (eVarB 10)) (eC (.int 0)))) (eTupD (eCons (eOp gIx (eVarB 1) (eVarB 10)) (eCons (eOp gIx (eRow 4 (eVarB 5)) (eVarB 10)) eNil))) ρ ((turnL t).map .int) = some ((ndsT sk r t).map ndD) := by
  obtain ⟨t1, t2⟩ := turnL_ok t
  have g1 : ∀ x, (ρ.set 10 (.val x))[1]? = some (.val (.list (sk.map .str))) := fun x => by rw [List.getElem?_set_ne (by decide)]; exact h1
  have g5 : ∀ x, (ρ.set 10 (.val x))[5]? = some (.val (.int (d : Int))) := fun x => by rw [List.getElem?_set_ne (by decide)]; exact h5
  have g10 : ∀ x, (ρ.set 10 (.val x))[10]? = some (.val x) := fun x => List.getElem?_set_self hlen
  have gr : ∀ x, eRow 4 (eVarB 5) (ρ.set 10 (.val x)) = some (.list (r.map .int)) := fun x => eRow_at (C := C) (d := d) (by rw [List.getElem?_set_ne (by decide)]; exact hC) (by rw [eVarB_eq, g5]; rfl) hr
  rw [lcF_filter (fun x => match x with
    | .int i => decide (0 < r.getD i.toNat 0)
    | _ => false) (fun x => match x with
    | .int i => ndD (skI sk (.int i), r.getD i.toNat 0)
    | _ => .none)]
  · unfold ndsT
    rw [List.filter_map, List.map_map, List.map_map]
    rfl
  · intro x hx
    obtain ⟨i, hi, rfl⟩ := List.mem_map.mp hx
    have hi4 := t1 i hi
    have := getI (l := r) (i := i.toNat) (by omega)
    rw [Int.toNat_of_nonneg hi4.1] at this
    simp only [bF_eq, eOp_eq, gr, eVarB_eq, g10, slB_val, Option.bind_some, gIx_list, this, eC_eq, gGt_int, truD_bool]
  · intro x hx _
    obtain ⟨i, hi, rfl⟩ := List.mem_map.mp hx
    have hi4 := t1 i hi
    have h2 := getI (l := r) (i := i.toNat) (by omega)
    rw [Int.toNat_of_nonneg hi4.1] at h2
    have h3 := skI_at (sk := sk) (i := i) (by omega)
    simp [gr, g1, g10, h2, h3, ndD]
theorem ndsT_ok {sk : List Str} (hl : sk.length = 6) (hk : ∀ k ∈ sk, isName k = true) (hd : sk.Nodup) {r : List Int} (h4 : r.length = 4) (hr : ∀ x ∈ r, 0 ≤ x ∧ x ≤ 9) (t : Int) : (∀ n ∈ ndsT sk r t, isName n.1 = true ∧ 1 ≤ n.2 ∧ n.2 ≤ 9) ∧ ((ndsT sk r t).map (·.1)).Nodup ∧ (ndsT sk r t).length ≤ 6 := by
  obtain ⟨t1, t2⟩ := turnL_ok t
  unfold ndsT
  refine ⟨fun n hn => ?_, ?_, ?_⟩
  · obtain ⟨i, hi, rfl⟩ := List.mem_map.mp hn
    obtain ⟨hi1, hi2⟩ := List.mem_filter.mp hi
    have hi4 := t1 i hi1
    have hp : 0 < r.getD i.toNat 0 := by simpa using hi2
    refine ⟨hk _ (skI_mem (by omega)), by simp only; omega, ?_⟩
    have : r.getD i.toNat 0 ∈ r := by
      rw [List.getD_eq_getElem?_getD, List.getElem?_eq_getElem (by omega)]
      exact List.getElem_mem _
    exact (hr _ this).2
  · rw [List.map_map, List.nodup_iff_pairwise_ne, List.pairwise_map]
    refine List.Pairwise.imp_of_mem ?_ (List.nodup_iff_pairwise_ne.mp (t2.filter _))
    intro i j hi hj hij h
    have hi := t1 i (List.mem_filter.mp hi).1
    have hj := t1 j (List.mem_filter.mp hj).1
    exact hij (skI_inj hd (by omega) (by omega) h)
  · rw [List.length_map]
    exact Nat.le_trans (List.length_filter_le _ _) (by simp [turnL])
theorem tightShifts (ns : List Int) (sk : List Str) (hl : sk.length = 6) (hk : ∀ k ∈ sk, isName k = true) (hd : sk.Nodup) (gap f : Int) (hg : 1 ≤ gap ∧ gap ≤ 40) (D : Nat) (hD : D ≤ 3) (C : List (List Int)) (hC : MatOk C D fun _ => 8) (s5 s6 s7 s8 s9 s11 s12 : Sl) :
    ∃ ρ', forF (tg1 5) (sSeq (sSet 14 (eList (lLc (iR1 (eCons (eC (.int 4)) eNil)) 10 tYesF (eOp gMod (eOp gAdd (eVarB 10) (eOp gFdiv (eCall F_cell (eCons (eVar 0) (eCons (eC (.int 21)) eNil))) (eOp gAdd (eC (.int 1)) (eVarB 5)))) (eC (.int 4))))))
  (sSeq (sSet 15 (eList (lLc (iL (eVarB 14)) 10 (bF (eOp gGt (eOp gIx (eRow 4 (eVarB 5)) (eVarB 10)) (eC (.int 0)))) (eTupD (eCons (eOp gIx (eVarB 1) (eVarB 10)) (eCons (eOp gIx (eRow 4 (eVarB 5)) (eVarB 10)) eNil))))))
  (sApp 13 (eTupD (eCons (eCall F_called (eCons (eVar 0) (eCons (eC (.int 1)) (eCons (eVar 5) eNil)))) (eCons (eTupD (eCons (eOp gAdd (eOp gMul (eOp gMul (eC (.int 24)) (eVarB 2)) (eVarB 5)) (eC (.int 5))) (eCons (eOp gAdd (eOp gMul (eOp gMul (eC (.int 24)) (eVarB 2)) (eVarB 5)) (eC (.int 13))) eNil))) (eCons (eVar 15) eNil))))))) (rangeD 0 D) (rhoT ns sk gap f C s5 s6 s7 s8 s9 s11 s12 (.own []) .no .no) = .nx ρ' ∧
      ∃ (ss : List Shift) (s5 s14 s15 : Sl), ρ' = rhoT ns sk gap f C s5 s6 s7 s8 s9 s11 s12 (.own (ss.map shD)) s14 s15 ∧ ShfAt ns D ss := by
  refine forF_rng (fun k ρ => ∃ (ss : List Shift) (s5 s14 s15 : Sl), ρ = rhoT ns sk gap f C s5 s6 s7 s8 s9 s11 s12 (.own (ss.map shD)) s14 s15 ∧ ShfAt ns k ss) ⟨[], _, _, _, rfl, ShfAt.nil ns⟩ ?_
  rintro d _ hdD ⟨ss, t5, t14, t15, rfl, hs⟩
  obtain ⟨c1, c2⟩ := hC
  have hr : C[d]? = some C[d] := List.getElem?_eq_getElem (by omega)
  obtain ⟨r1, r2⟩ := c2 d _ hr
  generalize C[d] = r at hr r1 r2
  have e14 := lcTurn ns d (rhoT ns sk gap f C (.val (.int d)) s6 s7 s8 s9 s11 s12 (.own (ss.map shD)) t14 t15) rfl rfl (by simp [rhoT]) (by omega)
  generalize cell ns 21 / (1 + (d : Int)) = t at e14
  have e15 := lcNds sk hl C r d hr r1 t (rhoT ns sk gap f C (.val (.int d)) s6 s7 s8 s9 s11 s12 (.own (ss.map shD)) (.val (.list ((turnL t).map .int))) t15) rfl rfl rfl (by simp [rhoT])
  obtain ⟨k1, k2, k3⟩ := ndsT_ok hl hk hd r1 (fun x hx => ⟨(r2 x hx).1, Int.le_trans (r2 x hx).2 (show (8 : Int) ≤ 9 by decide)⟩) t
  have fn := F_called_eq ns 1 d
  have m1 : gMul (.int 24) (.int gap) = some (.int (24 * gap)) := gMul_int _ _ (cMul_l (by decide))
  have m2 : gMul (.int (24 * gap)) (.int (d : Int)) = some (.int (24 * gap * (d : Int))) := gMul_int _ _ (cMul_l (by omega))
  have q7 : 0 ≤ gap * (d : Int) := Int.mul_nonneg (by omega) (by omega)
  have q8 : gap * (d : Int) ≤ 40 * 2 := Int.mul_le_mul (by omega) (by omega) (by omega) (by omega)
  have q9 : 24 * gap * (d : Int) = 24 * (gap * (d : Int)) := Int.mul_assoc _ _ _
  have ll : ss.length ≤ LIM := by rw [hs.len]; exact Nat.le_trans (by omega : d ≤ 7) (by decide)
  refine ⟨rhoT ns sk gap f C (.val (.int d)) s6 s7 s8 s9 s11 s12 (.own ((ss ++ [(⟨called ns 1 d, 24 * gap * (d : Int) + 5, 24 * gap * (d : Int) + 13, ndsT sk r t⟩ : Shift)]).map shD)) (.val (.list ((turnL t).map .int))) (.val (.list ((ndsT sk r t).map ndD))), ?_, _, _, _, _, rfl, hs.app ⟨called_ok _ _ _, ?_, ?_, k1, k2, k3⟩ rfl⟩
  · have l4 : 4 ≤ LIM := by decide
    have lt : (turnL t).length ≤ LIM := by simp [turnL]; decide
    unfold rhoT at e14 e15 ⊢
    simp [l4, e14, lt, e15, fn, m1, m2, ll, shD, stD]
  · simp only
    omega
  · simp only
    rw [q9]
    omega
end RK
namespace RK
open PySem PySem.Spec PyProof.Rows L2 RT
theorem rowsF_const (j : Nat) (el : SA) (ρ : Rho) (e : List PyData) : ∀ {ds : List PyData}, (∀ d, d ∈ ds → el (ρ.set j (.val d)) = some e) → rowsF j el ρ ds = some (List.replicate ds.length (.lst e))
  | [], _ => rfl
  | d :: ds, h => by
    have ih := rowsF_const j el ρ e (ds := ds) fun d' hd => h d' (List.mem_cons_of_mem _ hd)
    simp [rowsF, h d List.mem_cons_self, ih, List.replicate_succ]
theorem F_tight_ok (ns : List Int) (gap : Int) (hg : 1 ≤ gap ∧ gap ≤ 40) (sk : List Str) (hl : sk.length = 6) (hk : ∀ k ∈ sk, isName k = true) (hd : sk.Nodup) :
    ∃ ps ss n m, F_tight [scrD ns, .list (sk.map .str), .int gap] = some (.tuple [.list (ps.map perD), .list (ss.map shD)]) ∧ PplAt ns n ps ∧ ShfAt ns m ss ∧ n ≤ 36 ∧ m ≤ 14 := by
  have fc0 := F_cell_eq ns 0
  simp only [Int.cast_ofNat_Int] at fc0
  generalize cell ns 0 = f at fc0
  obtain ⟨D, hDe, hD⟩ : ∃ D : Nat, 1 + f / 64 % 3 = (D : Int) ∧ 1 ≤ D ∧ D ≤ 3 := ⟨(1 + f / 64 % 3).toNat, by omega, by omega, by omega⟩
  obtain ⟨n, hne, hn⟩ : ∃ n : Nat, 2 + f / 8 % 6 = (n : Int) ∧ n ≤ 7 := ⟨(2 + f / 8 % 6).toNat, by omega, by omega⟩
  have hC0 : MatOk (List.replicate D [0, 0, 0, 0]) D fun _ => 0 := by
    refine ⟨by simp, fun a r hr => ?_⟩
    have := List.mem_of_getElem? hr
    rw [List.mem_replicate] at this
    rw [this.2]
    simp
  obtain ⟨_, e1, C1, ps, s5, s7, s8, s9, s11, s12, rfl, hC1, hps⟩ := tightPeople ns sk hl hk hd gap f D hD n hn _ hC0
  have fc20 := F_cell_eq ns 20
  simp only [Int.cast_ofNat_Int] at fc20
  generalize cell ns 20 = c20 at fc20
  obtain ⟨b, hbe, hb⟩ : ∃ b : Nat, c20 % 4 = (b : Int) ∧ b < 4 := ⟨(c20 % 4).toNat, by omega, by omega⟩
  obtain ⟨r, x, hr, hx, hC2⟩ := hC1.inc (a := 0) (b := b) (B' := fun _ => 8) (by omega) hb (if (c20 / 4 % 4 == 0) = true then 1 else 0) (by split <;> omega) (fun k _ => by show (n : Int) ≤ 8; omega) (by show (n : Int) + _ ≤ 8; split <;> omega)
  obtain ⟨_, e3, ss, t5, t14, t15, rfl, hss⟩ := tightShifts ns sk hl hk hd gap f hg D hD.2 _ hC2 s5 (.own (ps.map perD)) s7 s8 s9 s11 s12
  refine ⟨ps, ss, n, D, ?_, hps, hss, by omega, by omega⟩
  have b1 : (D : Int) ≤ 1000000 ∧ -1000000 ≤ (D : Int) := by omega
  have b2 : (n : Int) ≤ 1000000 ∧ -1000000 ≤ (n : Int) := by omega
  have bD : D ≤ LIM := Nat.le_trans hD.2 (by decide)
  have er : sMkRows 4 (iR1 (eCons (eOp gAdd (eC (.int 1)) (eOp gMod (eOp gFdiv (eVarB 3) (eC (.int 64))) (eC (.int 3)))) eNil)) 5 (eLstD (eCons (eC (.int 0)) (eCons (eC (.int 0)) (eCons (eC (.int 0)) (eCons (eC (.int 0)) eNil))))) [.val (scrD ns), .val (.list (sk.map .str)), .val (.int gap), .val (.int f), .no, .no, .no, .no, .no, .no, .no, .no, .no, .no, .no, .no] =
      .nx [.val (scrD ns), .val (.list (sk.map .str)), .val (.int gap), .val (.int f), .obj (.row ((List.replicate D [0, 0, 0, 0]).map rowC)), .no, .no, .no, .no, .no, .no, .no, .no, .no, .no, .no] := by
    have h1 : iR1 (eCons (eOp gAdd (eC (.int 1)) (eOp gMod (eOp gFdiv (eVarB 3) (eC (.int 64))) (eC (.int 3)))) eNil) [.val (scrD ns), .val (.list (sk.map .str)), .val (.int gap), .val (.int f), .no, .no, .no, .no, .no, .no, .no, .no, .no, .no, .no, .no] = some (rangeD 0 D) := by
      simp [hDe, b1]
    unfold sMkRows
    rw [h1]
    simp only [rangeD_len, bD, if_true]
    rw [rowsF_const 5 _ _ [.int 0, .int 0, .int 0, .int 0] (fun d _ => by simp)]
    simp [rowC]
  have ea : sAugRow 4 (eC (.int 0)) (eOp gMod (eCall F_cell (eCons (eVar 0) (eCons (eC (.int 20)) eNil))) (eC (.int 4))) (eCall gInt (eCons (eOp gEq (eOp gMod (eOp gFdiv (eCall F_cell (eCons (eVar 0) (eCons (eC (.int 20)) eNil))) (eC (.int 4))) (eC (.int 4))) (eC (.int 0))) eNil)) (rhoT ns sk gap f C1 s5 (.own (ps.map perD)) s7 s8 s9 s11 s12 .no .no .no) =
      .nx (rhoT ns sk gap f (C1.set 0 (r.set b (x + (if (c20 / 4 % 4 == 0) = true then 1 else 0)))) s5 (.own (ps.map perD)) s7 s8 s9 s11 s12 .no .no .no) := by
    rw [sAugRow_at (C := C1) (r := r) (a := 0) (b := b) (x := x) (e := if (c20 / 4 % 4 == 0) = true then 1 else 0) rfl rfl (by simp [rhoT, fc20, hbe]) (by simp [rhoT, fc20]) hr hx]
    rfl
  generalize (C1.set 0 (r.set b (x + (if (c20 / 4 % 4 == 0) = true then 1 else 0)))) = C2 at ea e3 hC2
  have lC : ((C2.map rowC).length : Int) = D := by rw [List.length_map, hC2.1]
  rw [List.length_map] at lC
  unfold F_tight
  rw [runF_eq]
  have es : b_tight (rho0 N_tight [scrD ns, .list (sk.map .str), .int gap]) = .rt (.tuple [.list (ps.map perD), .list (ss.map shD)]) ((rhoT ns sk gap f C2 t5 (.own (ps.map perD)) s7 s8 s9 s11 s12 (.own (ss.map shD)) t14 t15).map frz1) := by
    unfold b_tight
    rw [sSeq_eq]
    have a0 : sSet 3 (eCall F_cell (eCons (eVar 0) (eCons (eC (.int 0)) eNil))) (rho0 N_tight [scrD ns, .list (sk.map .str), .int gap]) = .nx [.val (scrD ns), .val (.list (sk.map .str)), .val (.int gap), .val (.int f), .no, .no, .no, .no, .no, .no, .no, .no, .no, .no, .no, .no] := by
      simp [rho0, N_tight, fc0]
    rw [a0, thn_nx, sSeq_eq, er, thn_nx, sSeq_eq]
    have a1 : sSetL 6 (eLstD eNil) [.val (scrD ns), .val (.list (sk.map .str)), .val (.int gap), .val (.int f), .obj (.row ((List.replicate D [0, 0, 0, 0]).map rowC)), .no, .no, .no, .no, .no, .no, .no, .no, .no, .no, .no] = .nx (rhoT ns sk gap f (List.replicate D [0, 0, 0, 0]) .no (.own []) .no .no .no .no .no .no .no .no) := by
      simp [rhoT]
    rw [a1, thn_nx, sSeq_eq, sFor_eq]
    have i1 : iR1 (eCons (eOp gAdd (eC (.int 2)) (eOp gMod (eOp gFdiv (eVarB 3) (eC (.int 8))) (eC (.int 6)))) eNil) (rhoT ns sk gap f (List.replicate D [0, 0, 0, 0]) .no (.own []) .no .no .no .no .no .no .no .no) = some (rangeD 0 n) := by
      simp [rhoT, hne, b2]
    rw [i1, outL_some, e1, thn_nx, sSeq_eq, ea, thn_nx, sSeq_eq]
    have a2 : sSetL 13 (eLstD eNil) (rhoT ns sk gap f C2 s5 (.own (ps.map perD)) s7 s8 s9 s11 s12 .no .no .no) = .nx (rhoT ns sk gap f C2 s5 (.own (ps.map perD)) s7 s8 s9 s11 s12 (.own []) .no .no) := by
      simp [rhoT]
    rw [a2, thn_nx, sSeq_eq, sFor_eq]
    have i2 : iR1 (eCons (eRowLen 4) eNil) (rhoT ns sk gap f C2 s5 (.own (ps.map perD)) s7 s8 s9 s11 s12 (.own []) .no .no) = some (rangeD 0 D) := by
      simp [rhoT, eRowLen, lC, b1]
    rw [i2, outL_some, e3, thn_nx]
    simp [rhoT]
  rw [es]
  simp
end RK
namespace RK
open PySem PySem.Spec PyProof.Rows L2 RT
/-! ### the parts of a book -/
structure GM (ps : List Person) (ss : List Shift) : Prop where
  pn : (ps.map (·.name)).Nodup
  sn : (ss.map (·.name)).Nodup
  gp : ∀ p ∈ ps, GP p
  gs : ∀ s ∈ ss, GS s
  pl : ps.length ≤ 36
  sl : ss.length ≤ 14
theorem nodup_called (ns : List Int) (sort : Int) {idx : List Nat} (h : idx.Nodup) (hb : ∀ i ∈ idx, i < 36) : (idx.map (called ns sort)).Nodup := by
  rw [List.nodup_iff_pairwise_ne, List.pairwise_map]
  refine List.Pairwise.imp_of_mem ?_ (List.nodup_iff_pairwise_ne.mp h)
  intro i j hi hj hij e
  exact hij (called_inj ns sort (hb i hi) (hb j hj) e)
theorem rng36 {n : Nat} (h : n ≤ 36) : ∀ i ∈ List.range n, i < 36 := fun i hi => by
  have := List.mem_range.mp hi
  omega
def rhoQ (ns : List Int) (sk : List Str) (f gap : Int) (s5 s6 s7 s8 s9 s10 : Sl) : Rho := [.val (scrD ns), .val (.int f), .val (.int gap), .val (.list (sk.map .str)), .no, s5, s6, s7, s8, s9, s10]
theorem partsPeople (ns : List Int) (sk : List Str) (hl : sk.length = 6) (hk : ∀ k ∈ sk, isName k = true) (hd : sk.Nodup) (f gap : Int) (hg : 1 ≤ gap ∧ gap ≤ 40) (n : Nat) (hn : n ≤ 36) (s5 s7 s8 s9 s10 : Sl) :
    ∃ ρ', forF (tg1 7) (sSeq (sSet 8 (eOp gAdd (eCall F_cell (eCons (eVar 0) (eCons (eOp gAdd (eC (.int 2)) (eOp gMod (eVarB 7) (eC (.int 16)))) eNil))) (eOp gMul (eC (.int 5)) (eOp gFdiv (eVarB 7) (eC (.int 16))))))
  (sApp 6 (eCall F_person (eCons (eCall F_called (eCons (eVar 0) (eCons (eC (.int 0)) (eCons (eVar 7) eNil)))) (eCons (eVar 8) (eCons (eVar 3) (eCons (eVar 2) eNil))))))) (rangeD 0 n) (rhoQ ns sk f gap s5 (.own []) s7 s8 s9 s10) = .nx ρ' ∧
      ∃ (ps : List Person) (s7 s8 : Sl), ρ' = rhoQ ns sk f gap s5 (.own (ps.map perD)) s7 s8 s9 s10 ∧ PplAt ns n ps := by
  refine forF_rng (fun k ρ => ∃ (ps : List Person) (s7 s8 : Sl), ρ = rhoQ ns sk f gap s5 (.own (ps.map perD)) s7 s8 s9 s10 ∧ PplAt ns k ps) ⟨[], _, _, rfl, PplAt.nil ns⟩ ?_
  rintro k _ hkn ⟨ps, t7, t8, rfl, hp⟩
  have fc := F_cell_eq ns (2 + k % 16)
  rw [show ((2 + k % 16 : Nat) : Int) = 2 + (k : Int) % 16 by omega] at fc
  have m5 : gMul (.int 5) (.int ((k : Int) / 16)) = some (.int (5 * ((k : Int) / 16))) := gMul_int _ _ (cMul_l (by decide))
  obtain ⟨p, ep, hpn, gp⟩ := F_person_ok (called ns 0 k) (called_ok _ _ _) (cell ns (2 + k % 16) + 5 * ((k : Int) / 16)) gap hg sk hl hk hd
  have fn := F_called_eq ns 0 k
  have ll : ps.length ≤ LIM := by rw [hp.len]; exact Nat.le_trans (by omega : k ≤ 36) (by decide)
  have dp : dataD (perD p) = true := rfl
  refine ⟨rhoQ ns sk f gap s5 (.own ((ps ++ [p]).map perD)) (.val (.int k)) (.val (.int (cell ns (2 + k % 16) + 5 * ((k : Int) / 16)))) s9 s10, ?_, _, _, _, rfl, hp.app gp hpn⟩
  unfold rhoQ
  simp [fc, m5, fn, ep, ll, dp]
theorem partsShifts (ns : List Int) (sk : List Str) (hl : sk.length = 6) (hk : ∀ k ∈ sk, isName k = true) (hd : sk.Nodup) (f gap : Int) (hg : 1 ≤ gap ∧ gap ≤ 40) (n : Nat) (hn : n ≤ 4) (s5 s6 s7 s8 s10 : Sl) :
    ∃ ρ', forF (tg1 7) (sApp 9 (eCall F_shift (eCons (eCall F_called (eCons (eVar 0) (eCons (eC (.int 1)) (eCons (eVar 7) eNil)))) (eCons (eCall F_cell (eCons (eVar 0) (eCons (eOp gAdd (eC (.int 20)) (eVarB 7)) eNil))) (eCons (eVar 3) (eCons (eVar 2) eNil)))))) (rangeD 0 n) (rhoQ ns sk f gap s5 s6 s7 s8 (.own []) s10) = .nx ρ' ∧
      ∃ (ss : List Shift) (s7 : Sl), ρ' = rhoQ ns sk f gap s5 s6 s7 s8 (.own (ss.map shD)) s10 ∧ ShfAt ns n ss := by
  refine forF_rng (fun k ρ => ∃ (ss : List Shift) (s7 : Sl), ρ = rhoQ ns sk f gap s5 s6 s7 s8 (.own (ss.map shD)) s10 ∧ ShfAt ns k ss) ⟨[], _, rfl, ShfAt.nil ns⟩ ?_
  rintro k _ hkn ⟨ss, t7, rfl, hs⟩
  have fc := F_cell_eq ns (20 + k)
  rw [show ((20 + k : Nat) : Int) = 20 + (k : Int) by omega] at fc
  obtain ⟨s, es, hsn, gs⟩ := F_shift_ok (called ns 1 k) (called_ok _ _ _) (cell ns (20 + k)) gap hg sk hl hk hd
  have fn := F_called_eq ns 1 k
  have ll : ss.length ≤ LIM := by rw [hs.len]; exact Nat.le_trans (by omega : k ≤ 36) (by decide)
  have dp : dataD (shD s) = true := rfl
  refine ⟨rhoQ ns sk f gap s5 s6 (.val (.int k)) s8 (.own ((ss ++ [s]).map shD)) s10, ?_, _, _, rfl, hs.app gs hsn⟩
  unfold rhoQ
  simp [fc, fn, es, ll, dp]
/-- shifts called by 0 .. a - 1 and by 5 .. 5 + b - 1 -/
def ShfTo (ns : List Int) (a b : Nat) (ss : List Shift) : Prop := ss.map (·.name) = (List.range a ++ (List.range b).map (5 + ·)).map (called ns 1) ∧ ∀ s ∈ ss, GS s
theorem ShfTo.len {ns : List Int} {a b : Nat} {ss : List Shift} (h : ShfTo ns a b ss) : ss.length = a + b := by
  have := congrArg List.length h.1
  simpa using this
theorem partsMore (ns : List Int) (sk : List Str) (hl : sk.length = 6) (hk : ∀ k ∈ sk, isName k = true) (hd : sk.Nodup) (f gap : Int) (hg : 1 ≤ gap ∧ gap ≤ 40) (a : Nat) (ha : a ≤ 4) (n : Nat) (hn : n ≤ 9) (ss0 : List Shift) (h0 : ShfAt ns a ss0) (s5 s6 s7 s8 s10 : Sl) :
    ∃ ρ', forF (tg1 7) (sSeq (sSet 10 (eOp gMul (eC (.int 24)) (eOp gAdd (eOp gMul (eC (.int 3)) (eVarB 2)) (eVarB 7))))
  (sApp 9 (eTupD (eCons (eCall F_called (eCons (eVar 0) (eCons (eC (.int 1)) (eCons (eOp gAdd (eC (.int 5)) (eVarB 7)) eNil)))) (eCons (eTupD (eCons (eVar 10) (eCons (eOp gAdd (eVarB 10) (eC (.int 24))) eNil))) (eCons (eList (eLstD (eCons (eTupD (eCons (eOp gIx (eVarB 3) (eOp gMod (eVarB 7) (eC (.int 4)))) (eCons (eC (.int 1)) eNil))) eNil))) eNil)))))) (rangeD 0 n) (rhoQ ns sk f gap s5 s6 s7 s8 (.own (ss0.map shD)) s10) = .nx ρ' ∧
      ∃ (ss : List Shift) (s7 s10 : Sl), ρ' = rhoQ ns sk f gap s5 s6 s7 s8 (.own (ss.map shD)) s10 ∧ ShfTo ns a n ss := by
  refine forF_rng (fun k ρ => ∃ (ss : List Shift) (s7 s10 : Sl), ρ = rhoQ ns sk f gap s5 s6 s7 s8 (.own (ss.map shD)) s10 ∧ ShfTo ns a k ss) ⟨ss0, _, _, rfl, by rw [h0.1]; simp, h0.2⟩ ?_
  rintro k _ hkn ⟨ss, t7, t10, rfl, hs⟩
  have m3 : gMul (.int 3) (.int gap) = some (.int (3 * gap)) := gMul_int _ _ (cMul_l (by decide))
  have m24 : gMul (.int 24) (.int (3 * gap + (k : Int))) = some (.int (24 * (3 * gap + (k : Int)))) := gMul_int _ _ (cMul_l (by decide))
  have fn := F_called_eq ns 1 (5 + k)
  rw [show ((5 + k : Nat) : Int) = 5 + (k : Int) by omega] at fn
  have k4 : 0 ≤ (k : Int) % 4 ∧ (k : Int) % 4 < sk.length := by omega
  have ix := skI_at (sk := sk) (i := (k : Int) % 4) k4
  have ll : ss.length ≤ LIM := by rw [hs.len]; exact Nat.le_trans (by omega : a + k ≤ 36) (by decide)
  generalize hq : 3 * gap + (k : Int) = q at m24
  have hq2 : 0 ≤ q ∧ q ≤ 200 := by omega
  refine ⟨rhoQ ns sk f gap s5 s6 (.val (.int k)) s8 (.own ((ss ++ [(⟨called ns 1 (5 + k), 24 * q, 24 * q + 24, [(skI sk (.int ((k : Int) % 4)), 1)]⟩ : Shift)]).map shD)) (.val (.int (24 * q))), ?_, _, _, _, rfl, ?_, fun s hs' => ?_⟩
  · unfold rhoQ
    simp [m3, hq, m24, fn, ix, ll, shD, stD, ndD]
  · rw [List.map_append, hs.1, List.range_succ, List.map_append, List.map_append, List.map_append]
    simp
  · rcases List.mem_append.mp hs' with h | h
    · exact hs.2 s h
    · obtain rfl := List.mem_singleton.mp h
      refine ⟨called_ok _ _ _, ?_, ?_, fun n hn => ?_, by simp, by simp⟩
      · simp only; omega
      · simp only; omega
      · obtain rfl := List.mem_singleton.mp hn
        exact ⟨hk _ (skI_mem k4), Int.le_refl 1, show (1 : Int) ≤ 9 by decide⟩
theorem F_parts_ok (ns : List Int) : ∃ ps ss, F_parts [scrD ns] = some (.tuple [.list (ps.map perD), .list (ss.map shD)]) ∧ GM ps ss := by
  have fc0 := F_cell_eq ns 0
  have fc1 := F_cell_eq ns 1
  simp only [Int.cast_ofNat_Int] at fc0 fc1
  generalize cell ns 0 = f at fc0
  generalize cell ns 1 = one at fc1
  obtain ⟨gap, hgm, eg⟩ := pickI (l := [1, 1, 2, 1 + f / 4096 % 40]) (i := one / 8) (n := 4) rfl (by decide)
  have hg : 1 ≤ gap ∧ gap ≤ 40 := by simp at hgm; omega
  simp only [List.map_cons, List.map_nil] at eg
  obtain ⟨sk, hsk⟩ : ∃ sk : List Str, sk = (List.range 6).map (called ns 2) := ⟨_, rfl⟩
  have hl : sk.length = 6 := by rw [hsk]; simp
  have hk : ∀ k ∈ sk, isName k = true := fun k hk => by
    rw [hsk] at hk
    obtain ⟨i, _, rfl⟩ := List.mem_map.mp hk
    exact called_ok _ _ _
  have hd : sk.Nodup := by rw [hsk]; exact nodup_called ns 2 List.nodup_range (rng36 (by decide))
  have e3 : lcF 4 tYesF (eCall F_called (eCons (eVar 0) (eCons (eC (.int 2)) (eCons (eVar 4) eNil)))) [.val (scrD ns), .val (.int f), .val (.int gap), .no, .no, .no, .no, .no, .no, .no, .no] (rangeD 0 6) = some (sk.map .str) := by
    rw [lcF_map (fun d => match d with | .int i => .str (called ns 2 i.toNat) | _ => .none)]
    · rw [hsk]
      unfold rangeD
      rw [List.map_map, List.map_map]
      congr 1
    · intro d hd
      obtain ⟨i, hi, rfl⟩ := mem_rangeD hd
      have := F_called_eq ns 2 i
      rw [Int.zero_add]
      simp [this]
  have l6 : 6 ≤ LIM := by decide
  by_cases h1 : f % 2 = 1
  · obtain ⟨ps, ss, n, m, et, hp, hs, hn, hm⟩ := F_tight_ok ns gap hg sk hl hk hd
    refine ⟨ps, ss, ?_, by rw [hp.1]; exact nodup_called ns 0 List.nodup_range (rng36 hn), by rw [hs.1]; exact nodup_called ns 1 List.nodup_range (rng36 (by omega)), hp.2, hs.2, by rw [hp.len]; exact hn, by rw [hs.len]; exact hm⟩
    unfold F_parts
    rw [runF_eq]
    simp [b_parts, rho0, N_parts, fc0, fc1, eg, e3, l6, h1, et]
  · obtain ⟨mo, hmo, em⟩ := pickI (l := [0, 0, 0, 9]) (i := f / 16) (n := 4) rfl (by decide)
    have hmo9 : 0 ≤ mo ∧ mo ≤ 9 := by simp at hmo; omega
    obtain ⟨ex, hex, ee⟩ := pickI (l := [0, 0, 0, 0, 0, 0, 3, 9]) (i := f / 64) (n := 8) rfl (by decide)
    have hex9 : 0 ≤ ex ∧ ex ≤ 9 := by simp at hex; omega
    simp only [List.map_cons, List.map_nil] at em ee
    obtain ⟨n, hne, hn⟩ : ∃ n : Nat, f / 2 % 8 + mo + (if f / 64 % 16 = 3 then 20 else 0) = (n : Int) ∧ n ≤ 36 := by
      refine ⟨(f / 2 % 8 + mo + (if f / 64 % 16 = 3 then 20 else 0)).toNat, ?_, ?_⟩ <;> split <;> omega
    obtain ⟨a, hae, ha⟩ : ∃ a : Nat, f / 1024 % 5 = (a : Int) ∧ a ≤ 4 := ⟨(f / 1024 % 5).toNat, by omega, by omega⟩
    obtain ⟨b, hbe, hb⟩ : ∃ b : Nat, ex = (b : Int) ∧ b ≤ 9 := ⟨ex.toNat, by omega, by omega⟩
    subst hbe
    have p20 : atI [PyData.int 0, .int 20] (if f / 64 % 16 = 3 then 1 else 0) = some (.int (if f / 64 % 16 = 3 then 20 else 0)) := by split <;> simp
    obtain ⟨_, e6, ps, s7, s8, rfl, hp⟩ := partsPeople ns sk hl hk hd f gap hg n hn (.val (.int (f / 2 % 8 + mo))) .no .no .no .no
    obtain ⟨_, e9, ss, t7, rfl, hs⟩ := partsShifts ns sk hl hk hd f gap hg a ha (.val (.int (f / 2 % 8 + mo))) (.own (ps.map perD)) s7 s8 .no
    obtain ⟨_, e10, ss2, u7, u10, rfl, hs2⟩ := partsMore ns sk hl hk hd f gap hg a ha b hb ss hs (.val (.int (f / 2 % 8 + mo))) (.own (ps.map perD)) t7 s8 .no
    have sn : (ss2.map (·.name)).Nodup := by
      rw [hs2.1]
      refine nodup_called ns 1 ?_ fun i hi => ?_
      · rw [List.nodup_append]
        refine ⟨List.nodup_range, ?_, fun x hx y hy hxy => ?_⟩
        · rw [List.nodup_iff_pairwise_ne, List.pairwise_map]
          exact (List.nodup_iff_pairwise_ne.mp List.nodup_range).imp fun h e => h (by omega)
        · obtain ⟨j, _, rfl⟩ := List.mem_map.mp hy
          have := List.mem_range.mp hx
          omega
      · rcases List.mem_append.mp hi with h | h
        · have := List.mem_range.mp h; omega
        · obtain ⟨j, hj, rfl⟩ := List.mem_map.mp h
          have := List.mem_range.mp hj
          omega
    refine ⟨ps, ss2, ?_, by rw [hp.1]; exact nodup_called ns 0 List.nodup_range (rng36 hn), sn, hp.2, hs2.2, by rw [hp.len]; exact hn, by rw [hs2.len]; omega⟩
    have b1 : (n : Int) ≤ 1000000 ∧ -1000000 ≤ (n : Int) := by omega
    have b2 : (a : Int) ≤ 1000000 ∧ -1000000 ≤ (a : Int) := by omega
    have b3 : (b : Int) ≤ 1000000 ∧ -1000000 ≤ (b : Int) := by omega
    unfold rhoQ at e6 e9 e10
    unfold F_parts
    rw [runF_eq]
    simp [b_parts, rho0, N_parts, fc0, fc1, eg, e3, l6, h1, em, p20, hne, b1, e6, hae, b2, e9, ee, b3, e10]
end RK
namespace RK
open PySem PySem.Spec PyProof.Rows L2 RT
/-! ### methods of a book at good data -/
theorem skErr_ok : ∀ (l seen : List Str), (∀ k ∈ l, nameB k = some true) → (seen ++ l).Nodup → skErr seen l = some none
  | [], _, _, _ => rfl
  | k :: l, seen, h, nd => by
    have h1 := h k List.mem_cons_self
    have hk : k ∉ seen := fun hm => by
      rw [List.nodup_append] at nd
      exact nd.2.2 k hm k List.mem_cons_self rfl
    have nd2 : (seen ++ [k] ++ l).Nodup := by
      rw [List.append_assoc]
      exact nd
    simp only [skErr, h1, if_neg hk]
    exact skErr_ok l (seen ++ [k]) (fun x hx => h x (List.mem_cons_of_mem _ hx)) nd2
theorem F_is_whole_int (i : Int) : F_is_whole [.int i] = some (.bool true) := by
  unfold F_is_whole; rw [runF_eq]; simp [b_is_whole, rho0]
theorem numOk_int (m i : Int) : numOk m (.int i) = some (if 1 ≤ i ∧ i ≤ m then some i else none) := by
  unfold numOk; rw [F_is_whole_int]
theorem st2 (x y : Int) : F_is_stretch [stD (x, y)] = some (.bool (decide (0 ≤ x) && decide (x < y) && decide (y ≤ 1000000))) := by
  unfold F_is_stretch stD; rw [runF_eq]
  by_cases h1 : 0 ≤ x <;> by_cases h2 : x < y <;> by_cases h3 : y ≤ 1000000 <;> simp [b_is_stretch, rho0, F_is_whole_int, h1, h2, h3]
theorem isSt_st (x y : Int) : isSt (stD (x, y)) = some (if 0 ≤ x ∧ x < y ∧ y ≤ 1000000 then some (x, y) else none) := by
  unfold isSt
  rw [st2]
  by_cases h1 : 0 ≤ x <;> by_cases h2 : x < y <;> by_cases h3 : y ≤ 1000000 <;> simp [h1, h2, h3, stD]
theorem oneDay_eq (x y : Int) : oneDay (x, y) = some ((y - 1) / 24 == x / 24) := by
  unfold oneDay F_in_one_day stD; rw [runF_eq]
  simp [b_in_one_day, rho0]
theorem gEq_nil (l : List PyData) (h : okDs l = true) (hd : (PyData.list l).depth ≤ 64) : gEq (.list l) (.list []) = some (.bool l.isEmpty) := by
  have h1 := okD_lay (.list l) (by simpa [okD] using h)
  have h2 : SeqAt.shaped (.list l) = true := by simp [SeqAt.shaped, h1, hd]
  have h3 : SeqAt.shaped (.list []) = true := by decide
  show gEqD (.list l) (.list []) = _
  unfold gEqD
  rw [if_pos ⟨rfl, rfl, h2, h3⟩]
  cases l <;> simp [PyData.eqv, PyData.eqvAll]
theorem okDs_st (rs : List (Int × Int)) : okDs (rs.map stD) = true ∧ (PyData.list (rs.map stD)).depth ≤ 64 := by
  refine ⟨?_, ?_⟩
  · rw [okDs_all, List.all_map, List.all_eq_true]
    intro r _
    simp [stD, okD, okDs]
  · have : PyData.depthAll (rs.map stD) ≤ 1 := depthAll_le fun d hd => by
      obtain ⟨r, _, rfl⟩ := List.mem_map.mp hd
      simp [stD, PyData.depth, PyData.depthAll]
    simp only [PyData.depth]
    omega

theorem nameB_of {z : Str} (h : isName z = true) : nameB z = some true := by
  have hl : z.length ≤ LIM := by
    unfold isName at h
    simp only [Bool.and_eq_true, decide_eq_true_eq] at h
    exact Nat.le_trans h.1.2 (by decide)
  unfold nameB
  rw [F_is_name_eq _ hl, h]
theorem SGN_small : ∀ c ∈ SGN.cps.toList, c < 0x110000 := by
  have : (SGN.cps.toList.all fun x => decide (x < 0x110000)) = true := by decide +kernel
  rw [List.all_eq_true] at this
  exact fun c hc => by simpa using this c hc
theorem okD_name {z : Str} (h : isName z = true) : okD (.str z) = true := by
  unfold isName at h
  simp only [Bool.and_eq_true, List.all_eq_true, decide_eq_true_eq] at h
  have : ∀ c ∈ z.cps.toList, c < 0x110000 := fun c hc => SGN_small c (h.2 c hc)
  show z.cps.all (fun c => decide (c < 0x110000)) = true
  rw [← Array.all_toList, List.all_eq_true]
  intro c hc
  exact decide_eq_true (this c hc)
theorem findP_none {ps : List Person} {ss : List Shift} {n : Str} (h : ∀ p ∈ ps, p.name ≠ n) : findP ⟨ps, ss⟩ n = none := by
  unfold findP
  rw [List.find?_eq_none]
  intro p hp
  simpa using h p hp
theorem findS_none {ps : List Person} {ss : List Shift} {n : Str} (h : ∀ s ∈ ss, s.name ≠ n) : findS ⟨ps, ss⟩ n = none := by
  unfold findS
  rw [List.find?_eq_none]
  intro p hp
  simpa using h p hp
theorem findP_at {ps : List Person} {ss : List Shift} (nd : (ps.map (·.name)).Nodup) {p : Person} (hp : p ∈ ps) : findP ⟨ps, ss⟩ p.name = some p := by
  unfold findP
  cases e : ps.find? fun q => decide (q.name = p.name) with
  | none =>
    rw [List.find?_eq_none] at e
    have := e p hp
    simp at this
  | some q =>
    have h1 := List.find?_some e
    have h2 := List.mem_of_find?_eq_some e
    have : q.name = p.name := by simpa using h1
    rw [nodup_inj nd h2 hp this]
theorem findS_at {ps : List Person} {ss : List Shift} (nd : (ss.map (·.name)).Nodup) {p : Shift} (hp : p ∈ ss) : findS ⟨ps, ss⟩ p.name = some p := by
  unfold findS
  cases e : ss.find? fun q => decide (q.name = p.name) with
  | none =>
    rw [List.find?_eq_none] at e
    have := e p hp
    simp at this
  | some q =>
    have h1 := List.find?_some e
    have h2 := List.mem_of_find?_eq_some e
    have : q.name = p.name := by simpa using h1
    rw [nodup_inj nd h2 hp this]
def bare (p : Person) : Person := { p with rests := [] }
theorem fm_person_ok {ps : List Person} {ss : List Shift} {p : Person} (g : GP p) (hn : ∀ q ∈ ps, q.name ≠ p.name) (hl : ps.length < 1000) : fm_add_person ⟨ps, ss⟩ [.str p.name, .list (p.skills.map .str), .int p.limit] = .done ⟨ps ++ [bare p], ss⟩ .none := by
  have sk := skErr_ok p.skills [] (fun k hk => nameB_of (g.sk k hk)) (by rw [List.nil_append]; exact g.nd)
  have gg : p.skills.length ≤ 1000 ∧ ps.length < 1000 := ⟨Nat.le_trans g.sl (by decide), hl⟩
  show addPerson _ _ _ _ = _
  unfold addPerson
  simp only [nameB_of g.nm, strsD_map, sk, numOk_int, if_pos g.lim, if_pos gg, findP_none hn]
  rfl
theorem ndErr_ok : ∀ (l acc : List (Str × Int)), (∀ n ∈ l, isName n.1 = true ∧ 1 ≤ n.2 ∧ n.2 ≤ 9) → ((acc ++ l).map (·.1)).Nodup → ndErr acc (l.map fun n => (n.1, .int n.2)) = some (.inr (acc ++ l))
  | [], acc, _, _ => by simp [ndErr]
  | n :: l, acc, h, nd => by
    obtain ⟨h1, h2⟩ := h n List.mem_cons_self
    have hk : n.1 ∉ acc.map (·.1) := fun hm => by
      rw [List.map_append, List.nodup_append] at nd
      exact nd.2.2 n.1 hm n.1 (by simp) rfl
    have ih := ndErr_ok l (acc ++ [n]) (fun x hx => h x (List.mem_cons_of_mem _ hx)) (by rw [List.append_assoc]; exact nd)
    rw [List.append_assoc] at ih
    simp only [List.map_cons, ndErr, nameB_of h1, if_neg hk, numOk_int, if_pos h2]
    exact ih
theorem needsOf_map : ∀ l : List (Str × Int), needsOf (l.map ndD) = some (l.map fun n => (n.1, .int n.2))
  | [] => rfl
  | n :: l => by
    show (needsOf (l.map ndD)).map _ = _
    rw [needsOf_map l]
    rfl
theorem fm_shift_ok {ps : List Person} {ss : List Shift} {s : Shift} (g : GS s) (hn : ∀ q ∈ ss, q.name ≠ s.name) (hl : ss.length < 1000) : fm_add_shift ⟨ps, ss⟩ [.str s.name, stD (s.b, s.e), .list (s.needs.map ndD)] = .done ⟨ps, ss ++ [s]⟩ .none := by
  have hd' : oneDay (s.b, s.e) = some true := by rw [oneDay_eq, g.day]; simp
  have gg : (s.needs.map fun n => (n.1, PyData.int n.2)).length ≤ 1000 ∧ ss.length < 1000 := ⟨by rw [List.length_map]; exact Nat.le_trans g.nl (by decide), hl⟩
  have nd := ndErr_ok s.needs [] g.nk (by rw [List.nil_append]; exact g.nd)
  show addShift _ _ _ _ = _
  unfold addShift
  simp only [nameB_of g.nm, isSt_st, if_pos g.st, hd', needsOf_map, nd, if_pos gg, findS_none hn, List.nil_append]
/-- rests more of a person -/
def restsB (β : BookSt) (n : Str) (rs : List (Int × Int)) : BookSt := { β with people := β.people.map fun q => if q.name = n then { q with rests := q.rests ++ rs } else q }
theorem restsB_nil (β : BookSt) (n : Str) : restsB β n [] = β := by
  unfold restsB
  cases β with
  | mk ps ss =>
    congr 1
    conv => rhs; rw [← List.map_id ps]
    apply List.map_congr_left
    intro q _
    split <;> simp
theorem restsB_cons (β : BookSt) (n : Str) (r : Int × Int) (rs : List (Int × Int)) : restsB (restB β n r) n rs = restsB β n (r :: rs) := by
  unfold restsB restB
  simp only [List.map_map]
  congr 1
  apply List.map_congr_left
  intro q _
  by_cases h : q.name = n
  · simp [restP, h]
  · simp [restP, h]
theorem restsB_mid (L M : List Person) (ss : List Shift) (p : Person) (h : ∀ q ∈ L ++ M, q.name ≠ p.name) : restsB ⟨L ++ bare p :: M, ss⟩ p.name p.rests = ⟨L ++ p :: M, ss⟩ := by
  have id_on : ∀ l : List Person, (∀ q ∈ l, q.name ≠ p.name) → (l.map fun q => if q.name = p.name then { q with rests := q.rests ++ p.rests } else q) = l := fun l hl => by
    conv => rhs; rw [← List.map_id l]
    apply List.map_congr_left
    intro q hq
    rw [if_neg (hl q hq)]
    rfl
  unfold restsB
  simp only [List.map_append, List.map_cons]
  rw [id_on L fun q hq => h q (List.mem_append_left _ hq), id_on M fun q hq => h q (List.mem_append_right _ hq)]
  congr 2
  simp [bare]
theorem fm_rest_ok {β : BookSt} {n : Str} {p : Person} {r : Int × Int} (hp : findP β n = some p) (hr : 0 ≤ r.1 ∧ r.1 < r.2 ∧ r.2 ≤ 1000000) (hl : p.rests.length < 1000) : fm_add_rest β [.str n, stD r] = .done (restB β n r) .none := by
  obtain ⟨x, y⟩ := r
  show addRest _ _ _ = _
  unfold addRest
  rw [hp, isSt_st, if_pos hr]
  simp only [if_pos hl]
theorem findP_rest {β : BookSt} {n : Str} {p : Person} (r : Int × Int) (hp : findP β n = some p) : findP (restB β n r) n = some { p with rests := p.rests ++ [r] } := by
  unfold findP restB at *
  rw [List.find?_map]
  have e : ((fun p : Person => decide (p.name = n)) ∘ restP n r) = fun p => decide (p.name = n) := by
    funext q
    simp [restP_name]
  have hn : p.name = n := by simpa using List.find?_some hp
  rw [e, hp]
  simp [restP, hn]
theorem runMG_nx {S : Type} {kd : Kd S} {N : List Str} {n : Nat} {b : SS} {β s : S} {ds : List PyData} (h : ds.length + 1 = n) {ρ : Rho} (e : b (.obj (kd.inj β) :: rho0 (N.drop 1) ds) = .nx ρ) (h0 : ρ[0]? = some (.obj (kd.inj s))) : runMG kd N n b β ds = .done s .none := by
  unfold runMG runO
  simp only [h, if_true, e, h0, slO_any, RMG.prj, kd.pi]
theorem fm_rested_ok {β : BookSt} {p q : Person} (hp : findP β p.name = some q) (hr : ∀ r ∈ p.rests, 0 ≤ r.1 ∧ r.1 < r.2 ∧ r.2 ≤ 1000000) (hl : q.rests.length + p.rests.length < 1000) : fm_rested β [perD p] = .done (restsB β p.name p.rests) .none := by
  have key : ∀ (rs : List (Int × Int)) (β : BookSt) (q : Person) (s2 : Sl), findP β p.name = some q → (∀ r ∈ rs, 0 ≤ r.1 ∧ r.1 < r.2 ∧ r.2 ≤ 1000000) → q.rests.length + rs.length < 1000 →
      ∃ s2', forF (tg1 2) (sMut kB 0 fm_add_rest (eCons (eOp gIx (eVarB 1) (eC (.int 0))) (eCons (eVar 2) eNil))) (rs.map stD) [.obj (.book β), .val (perD p), s2] = .nx [.obj (.book (restsB β p.name rs)), .val (perD p), s2'] := by
    intro rs
    induction rs with
    | nil => intro β q s2 _ _ _; exact ⟨s2, by rw [restsB_nil]; rfl⟩
    | cons r rs ih =>
      intro β q s2 hq hr hl
      have h1 := fm_rest_ok hq (hr r List.mem_cons_self) (by simp at hl; omega)
      obtain ⟨s2', e⟩ := ih (restB β p.name r) _ (.val (stD r)) (findP_rest r hq) (fun x hx => hr x (List.mem_cons_of_mem _ hx)) (by simp at hl ⊢; omega)
      refine ⟨s2', ?_⟩
      rw [List.map_cons, forF_cons1]
      have st : sMut kB 0 fm_add_rest (eCons (eOp gIx (eVarB 1) (eC (.int 0))) (eCons (eVar 2) eNil)) (([.obj (.book β), .val (perD p), s2] : Rho).set 2 (.val (stD r))) = .nx [.obj (.book (restB β p.name r)), .val (perD p), .val (stD r)] := by
        simp [perD, h1]
      rw [st, thn_nx, e, restsB_cons]
  obtain ⟨s2', e⟩ := key p.rests β q .no hp hr hl
  have hlen : (p.rests.map stD).length ≤ LIM := by rw [List.length_map]; exact Nat.le_trans (by omega : p.rests.length ≤ 1000) (by decide)
  rw [List.length_map] at hlen
  refine runMG_nx (kd := kB) (N := N_rested) (n := 2) (b := b_rested) rfl (ρ := [.obj (.book (restsB β p.name p.rests)), .val (perD p), s2']) ?_ rfl
  unfold b_rested
  rw [sFor_eq]
  have : iL (eOp gIx (eVarB 1) (eC (.int 3))) (.obj (.book β) :: rho0 (N_rested.drop 1) [perD p]) = some (p.rests.map stD) := by
    simp [rho0, N_rested, perD, hlen]
  rw [this, outL_some]
  exact e
end RK
namespace RK
open PySem PySem.Spec PyProof.Rows L2 RT
/-! ### a book built of parts -/
theorem GM.dropP {ps : List Person} {ss : List Shift} (g : GM ps ss) : GM ps.dropLast ss.dropLast := by
  have s1 := List.dropLast_sublist ps
  have s2 := List.dropLast_sublist ss
  exact ⟨(s1.map _).nodup g.pn, (s2.map _).nodup g.sn, fun p hp => g.gp p (s1.subset hp), fun s hs => g.gs s (s2.subset hs), Nat.le_trans s1.length_le g.pl, Nat.le_trans s2.length_le g.sl⟩
theorem lay_name {z : Str} (h : isName z = true) : (PyData.str z).canLay0 = true := by
  have := okD_name h
  rwa [okD] at this
theorem okDs_per {ps : List Person} (h : ∀ p ∈ ps, GP p) : okDs (ps.map perD) = true ∧ (PyData.list (ps.map perD)).depth ≤ 64 := by
  refine ⟨?_, ?_⟩
  · rw [okDs_all, List.all_map, List.all_eq_true]
    intro p hp
    have g := h p hp
    have h1 : okDs (p.skills.map .str) = true := by
      rw [okDs_all, List.all_map, List.all_eq_true]
      intro k hk
      exact okD_name (g.sk k hk)
    have h2 := (okDs_st p.rests).1
    have h3 := lay_name g.nm
    show okD (perD p) = true
    unfold perD
    rw [okD]
    simp only [okDs, h3, okD, h1, h2, Bool.true_and, Bool.and_true]
  · have : PyData.depthAll (ps.map perD) ≤ 10 := depthAll_le fun d hd => by
      obtain ⟨p, _, rfl⟩ := List.mem_map.mp hd
      have d1 : PyData.depthAll (p.skills.map .str) ≤ 1 := depthAll_le fun d hd => by
        obtain ⟨r, _, rfl⟩ := List.mem_map.mp hd
        simp [PyData.depth]
      have d2 : PyData.depthAll (p.rests.map stD) ≤ 2 := depthAll_le fun d hd => by
        obtain ⟨r, _, rfl⟩ := List.mem_map.mp hd
        simp [stD, PyData.depth, PyData.depthAll]
      simp only [perD, PyData.depth, PyData.depthAll]
      omega
    simp only [PyData.depth]
    omega
theorem okDs_sh {ss : List Shift} (h : ∀ p ∈ ss, GS p) : okDs (ss.map shD) = true ∧ (PyData.list (ss.map shD)).depth ≤ 64 := by
  refine ⟨?_, ?_⟩
  · rw [okDs_all, List.all_map, List.all_eq_true]
    intro p hp
    have g := h p hp
    have h1 : okDs (p.needs.map ndD) = true := by
      rw [okDs_all, List.all_map, List.all_eq_true]
      intro k hk
      show okD (ndD k) = true
      unfold ndD
      rw [okD]
      simp only [okDs, lay_name (g.nk k hk).1, okD, Bool.true_and]
    have h3 := lay_name g.nm
    show okD (shD p) = true
    unfold shD stD
    rw [okD]
    simp only [okDs, h3, okD, h1, Bool.true_and, Bool.and_true]
  · have : PyData.depthAll (ss.map shD) ≤ 10 := depthAll_le fun d hd => by
      obtain ⟨p, _, rfl⟩ := List.mem_map.mp hd
      have d1 : PyData.depthAll (p.needs.map ndD) ≤ 2 := depthAll_le fun d hd => by
        obtain ⟨r, _, rfl⟩ := List.mem_map.mp hd
        simp [ndD, PyData.depth, PyData.depthAll]
      simp only [shD, stD, PyData.depth, PyData.depthAll]
      omega
    simp only [PyData.depth]
    omega
theorem isEmpty_map {α β : Type} (f : α → β) (l : List α) : (l.map f).isEmpty = l.isEmpty := by cases l <;> rfl
theorem gNe_nil (l : List PyData) (h : okDs l = true) (hd : (PyData.list l).depth ≤ 64) : gNe (.list l) (.list []) = some (.bool (!l.isEmpty)) := by
  have h1 := okD_lay (.list l) (by simpa [okD] using h)
  have h2 : SeqAt.shaped (.list l) = true := by simp [SeqAt.shaped, h1, hd]
  have h3 : SeqAt.shaped (.list []) = true := by decide
  show gNeD (.list l) (.list []) = _
  unfold gNeD
  rw [if_pos ⟨rfl, rfl, h2, h3⟩]
  cases l <;> simp [PyData.eqv, PyData.eqvAll]
theorem atI_last {α : Type} {l : List α} {x : α} (h : l.getLast? = some x) : atI l (-1) = some x := by
  have hl : 0 < l.length := by
    cases l with
    | nil => simp at h
    | cons a r => simp
  unfold atI ixN
  rw [if_neg (by decide), if_pos (by omega), Option.bind_some]
  rw [List.getLast?_eq_getElem?] at h
  rw [← h]
  congr 1
  omega
theorem atI_head {α : Type} {l : List α} {x : α} (h : l.head? = some x) : atI l 0 = some x := by
  cases l with
  | nil => simp at h
  | cons a r => simp at h ⊢; exact h
theorem xName : isName "x" = true := by decide +kernel
theorem yName : isName "y" = true := by decide +kernel
theorem newName : isName "new" = true := by decide +kernel
theorem refused_ok {ps : List Person} {ss : List Shift} (g : GM ps ss) (way : Nat) (hw : way < 6) (h0 : way < 2 → ps ≠ []) (h2 : way = 2 → ss ≠ []) : fr_refused_deed ⟨ps, ss⟩ [.list (ps.map perD), .list (ss.map shD), .int (way : Int)] = .ret (.bool true) := by
  unfold fr_refused_deed
  refine frOf_eq fun a => ?_
  rw [runF_eq]
  have rc : ∀ x y z, rcv kB (only a (.book ⟨ps, ss⟩)) [.val (refD a), x, y, z] 0 = some ⟨ps, ss⟩ := fun x y z => rcv_ref a _ _ 0 rfl
  have e : ∃ c, (c = "BadName" ∨ c = "BadStretch" ∨ c = "BadCount" ∨ c = "Twice" ∨ c = "Missing") ∧ (sIf (bF (eOp gEq (eVarB 3) (eC (.int 0)))) (sDropX (xMeth kB (only a (.book ⟨ps, ss⟩)) 0 (excOf fm_add_rest) (eCons (eOp gIx (eOp gIx (eVarB 1) (eUn gNeg (eC (.int 1)))) (eC (.int 0))) (eCons (eTupD (eCons (eUn gNeg (eC (.int 1))) (eCons (eC (.int 2000000)) eNil))) eNil)))) (sIf (bF (eOp gEq (eVarB 3) (eC (.int 1)))) (sDropX (xMeth kB (only a (.book ⟨ps, ss⟩)) 0 (excOf fm_add_person) (eCons (eOp gIx (eOp gIx (eVarB 1) (eC (.int 0))) (eC (.int 0))) (eCons (eList (eLstD (eCons (eC (.str "x")) eNil))) (eCons (eC (.int 1)) eNil))))) (sIf (bF (eOp gEq (eVarB 3) (eC (.int 2)))) (sDropX (xMeth kB (only a (.book ⟨ps, ss⟩)) 0 (excOf fm_add_shift) (eCons (eOp gIx (eOp gIx (eVarB 2) (eUn gNeg (eC (.int 1)))) (eC (.int 0))) (eCons (eOp gIx (eOp gIx (eVarB 2) (eC (.int 0))) (eC (.int 1))) (eCons (eList (eLstD (eCons (eTupD (eCons (eC (.str "x")) (eCons (eC (.int 9)) eNil))) eNil))) eNil))))) (sIf (bF (eOp gEq (eVarB 3) (eC (.int 3)))) (sDropX (xMeth kB (only a (.book ⟨ps, ss⟩)) 0 (excOf fm_add_shift) (eCons (eC (.str "new")) (eCons (eTupD (eCons (eC (.int 0)) (eCons (eC (.int 30)) eNil))) (eCons (eList (eLstD (eCons (eTupD (eCons (eC (.str "x")) (eCons (eC (.int 9)) eNil))) eNil))) eNil))))) (sIf (bF (eOp gEq (eVarB 3) (eC (.int 4)))) (sDropX (xMeth kB (only a (.book ⟨ps, ss⟩)) 0 (excOf fm_add_person) (eCons (eC (.str "new")) (eCons (eList (eLstD (eCons (eC (.str "x")) (eCons (eC (.str "x")) eNil)))) (eCons (eC (.int 3)) eNil))))) (sDropX (xMeth kB (only a (.book ⟨ps, ss⟩)) 0 (excOf fm_add_shift) (eCons (eC (.str "new")) (eCons (eTupD (eCons (eC (.int 0)) (eCons (eC (.int 8)) eNil))) (eCons (eList (eLstD (eCons (eTupD (eCons (eC (.str "x")) (eCons (eC (.int 9)) eNil))) (eCons (eTupD (eCons (eC (.str "y")) (eCons (eC (.int 0)) eNil))) eNil)))) eNil)))))))))) (rho0 N_refused_deed (refD a :: [.list (ps.map perD), .list (ss.map shD), .int (way : Int)])) = .ex c (rho0 N_refused_deed (refD a :: [.list (ps.map perD), .list (ss.map shD), .int (way : Int)])) := by
    have hw6 : way = 0 ∨ way = 1 ∨ way = 2 ∨ way = 3 ∨ way = 4 ∨ way = 5 := by omega
    rcases hw6 with rfl | rfl | rfl | rfl | rfl | rfl
    · obtain ⟨p, hp⟩ : ∃ p, ps.getLast? = some p := by
        cases hl : ps.getLast? with
        | none => exact absurd (List.getLast?_eq_none_iff.mp hl) (h0 (by decide))
        | some p => exact ⟨p, rfl⟩
      have hm := List.mem_of_getLast? hp
      have i1 : atI (ps.map perD) (-1) = some (perD p) := atI_last (by rw [List.getLast?_map, hp]; rfl)
      have ex : excOf fm_add_rest ⟨ps, ss⟩ [.str p.name, stD (-1, 2000000)] = .exc "BadStretch" := by
        have : fm_add_rest ⟨ps, ss⟩ [.str p.name, stD (-1, 2000000)] = .exc "BadStretch" := by
          show addRest ⟨ps, ss⟩ p.name (stD (-1, 2000000)) = _
          unfold addRest
          rw [findP_at g.pn hm, isSt_st]
          rfl
        unfold excOf
        rw [this]
      refine ⟨"BadStretch", by simp, ?_⟩
      unfold stD at ex
      simp [rho0, N_refused_deed, sDropX, xMeth, rc, i1, perD, ex]
    · obtain ⟨p, hp⟩ : ∃ p, ps.head? = some p := by
        cases ps with
        | nil => exact absurd rfl (h0 (by decide))
        | cons p _ => exact ⟨p, rfl⟩
      have hm := List.mem_of_head? hp
      have i1 : atI (ps.map perD) 0 = some (perD p) := atI_head (by rw [List.head?_map, hp]; rfl)
      have ex : excOf fm_add_person ⟨ps, ss⟩ [.str p.name, .list [.str "x"], .int 1] = .exc "Twice" := by
        have : fm_add_person ⟨ps, ss⟩ [.str p.name, .list ((["x"] : List Str).map .str), .int 1] = .exc "Twice" := by
          have sk := skErr_ok ["x"] [] (fun k hk => by obtain rfl := List.mem_singleton.mp hk; exact nameB_of xName) (by simp)
          have gg : (["x"] : List Str).length ≤ 1000 ∧ ps.length < 1000 := ⟨by simp, Nat.lt_of_le_of_lt g.pl (by decide)⟩
          have l1 : (1 : Int) ≤ 1 ∧ (1 : Int) ≤ 31 := by decide
          show addPerson ⟨ps, ss⟩ p.name ((["x"] : List Str).map .str) (.int 1) = _
          unfold addPerson
          simp only [nameB_of (g.gp p hm).nm, strsD_map, sk, numOk_int, if_pos l1, if_pos gg, findP_at g.pn hm]
        unfold excOf
        have e2 : fm_add_person ⟨ps, ss⟩ [.str p.name, .list [.str "x"], .int 1] = .exc "Twice" := this
        rw [e2]
      refine ⟨"Twice", by simp, ?_⟩
      simp [rho0, N_refused_deed, sDropX, xMeth, rc, i1, perD, ex]
    · obtain ⟨s, hs⟩ : ∃ s, ss.getLast? = some s := by
        cases hl : ss.getLast? with
        | none => exact absurd (List.getLast?_eq_none_iff.mp hl) (h2 rfl)
        | some p => exact ⟨p, rfl⟩
      obtain ⟨s0, hs0⟩ : ∃ s, ss.head? = some s := by
        cases ss with
        | nil => exact absurd rfl (h2 rfl)
        | cons p _ => exact ⟨p, rfl⟩
      have hm := List.mem_of_getLast? hs
      have hm0 := List.mem_of_head? hs0
      have i1 : atI (ss.map shD) (-1) = some (shD s) := atI_last (by rw [List.getLast?_map, hs]; rfl)
      have i0 : atI (ss.map shD) 0 = some (shD s0) := atI_head (by rw [List.head?_map, hs0]; rfl)
      have ex : excOf fm_add_shift ⟨ps, ss⟩ [.str s.name, stD (s0.b, s0.e), .list [.tuple [.str "x", .int 9]]] = .exc "Twice" := by
        have : fm_add_shift ⟨ps, ss⟩ [.str s.name, stD (s0.b, s0.e), .list (([("x", 9)] : List (Str × Int)).map ndD)] = .exc "Twice" := by
          have nd := ndErr_ok [("x", 9)] [] (fun n hn => by obtain rfl := List.mem_singleton.mp hn; exact ⟨xName, by decide, by decide⟩) (by simp)
          have hd' : oneDay (s0.b, s0.e) = some true := by rw [oneDay_eq, (g.gs s0 hm0).day]; simp
          have gg : (([("x", 9)] : List (Str × Int)).map fun n => (n.1, PyData.int n.2)).length ≤ 1000 ∧ ss.length < 1000 := ⟨by simp, Nat.lt_of_le_of_lt g.sl (by decide)⟩
          show addShift ⟨ps, ss⟩ s.name (stD (s0.b, s0.e)) (([("x", 9)] : List (Str × Int)).map ndD) = _
          unfold addShift
          simp only [nameB_of (g.gs s hm).nm, isSt_st, if_pos (g.gs s0 hm0).st, hd', needsOf_map, nd, if_pos gg, findS_at g.sn hm]
        unfold excOf
        have e2 : fm_add_shift ⟨ps, ss⟩ [.str s.name, stD (s0.b, s0.e), .list [.tuple [.str "x", .int 9]]] = .exc "Twice" := this
        rw [e2]
      refine ⟨"Twice", by simp, ?_⟩
      unfold stD at ex
      simp [rho0, N_refused_deed, sDropX, xMeth, rc, i1, i0, shD, stD, ex]
    · have ex : excOf fm_add_shift ⟨ps, ss⟩ [.str "new", stD (0, 30), .list [.tuple [.str "x", .int 9]]] = .exc "BadStretch" := by
        have : fm_add_shift ⟨ps, ss⟩ [.str "new", stD (0, 30), .list [.tuple [.str "x", .int 9]]] = .exc "BadStretch" := by
          have st : (0 : Int) ≤ 0 ∧ (0 : Int) < 30 ∧ (30 : Int) ≤ 1000000 := by decide
          have hd' : oneDay (0, 30) = some false := by rw [oneDay_eq]; decide
          show addShift ⟨ps, ss⟩ "new" (stD (0, 30)) [.tuple [.str "x", .int 9]] = _
          unfold addShift
          simp only [nameB_of newName, isSt_st, if_pos st, hd']
        unfold excOf
        rw [this]
      refine ⟨"BadStretch", by simp, ?_⟩
      unfold stD at ex
      simp [rho0, N_refused_deed, sDropX, xMeth, rc, ex]
    · have ex : excOf fm_add_person ⟨ps, ss⟩ [.str "new", .list [.str "x", .str "x"], .int 3] = .exc "Twice" := by
        have : fm_add_person ⟨ps, ss⟩ [.str "new", .list ((["x", "x"] : List Str).map .str), .int 3] = .exc "Twice" := by
          have sk : skErr [] ["x", "x"] = some (some ("Twice" : Str)) := by simp [skErr, nameB_of xName]
          have gg : (["x", "x"] : List Str).length ≤ 1000 ∧ ps.length < 1000 := ⟨by simp, Nat.lt_of_le_of_lt g.pl (by decide)⟩
          show addPerson ⟨ps, ss⟩ "new" ((["x", "x"] : List Str).map .str) (.int 3) = _
          unfold addPerson
          simp only [nameB_of newName, strsD_map, sk, if_pos gg]
        unfold excOf
        have e2 : fm_add_person ⟨ps, ss⟩ [.str "new", .list [.str "x", .str "x"], .int 3] = .exc "Twice" := this
        rw [e2]
      refine ⟨"Twice", by simp, ?_⟩
      simp [rho0, N_refused_deed, sDropX, xMeth, rc, ex]
    · have ex : excOf fm_add_shift ⟨ps, ss⟩ [.str "new", stD (0, 8), .list [.tuple [.str "x", .int 9], .tuple [.str "y", .int 0]]] = .exc "BadCount" := by
        have : fm_add_shift ⟨ps, ss⟩ [.str "new", stD (0, 8), .list (([("x", 9), ("y", 0)] : List (Str × Int)).map ndD)] = .exc "BadCount" := by
          have yx : ¬ ("y" : Str) = "x" := by decide +kernel
          have l9 : (1 : Int) ≤ 9 ∧ (9 : Int) ≤ 9 := by decide
          have l0 : ¬ ((1 : Int) ≤ 0 ∧ (0 : Int) ≤ 9) := by decide
          have nd : ndErr [] (([("x", 9), ("y", 0)] : List (Str × Int)).map fun n => (n.1, PyData.int n.2)) = some (.inl "BadCount") := by
            simp only [List.map_cons, List.map_nil, ndErr, nameB_of xName, nameB_of yName, numOk_int, if_pos l9, if_neg l0, List.nil_append]
            simp [yx]
          have hd' : oneDay (0, 8) = some true := by rw [oneDay_eq]; decide
          have st : (0 : Int) ≤ 0 ∧ (0 : Int) < 8 ∧ (8 : Int) ≤ 1000000 := by decide
          have gg : (([("x", 9), ("y", 0)] : List (Str × Int)).map fun n => (n.1, PyData.int n.2)).length ≤ 1000 ∧ ss.length < 1000 := ⟨by simp, Nat.lt_of_le_of_lt g.sl (by decide)⟩
          show addShift ⟨ps, ss⟩ "new" (stD (0, 8)) (([("x", 9), ("y", 0)] : List (Str × Int)).map ndD) = _
          unfold addShift
          simp only [nameB_of newName, isSt_st, if_pos st, hd', needsOf_map, nd, if_pos gg]
        unfold excOf
        have e2 : fm_add_shift ⟨ps, ss⟩ [.str "new", stD (0, 8), .list [.tuple [.str "x", .int 9], .tuple [.str "y", .int 0]]] = .exc "BadCount" := this
        rw [e2]
      refine ⟨"BadCount", by simp, ?_⟩
      unfold stD at ex
      simp [rho0, N_refused_deed, sDropX, xMeth, rc, ex]
  obtain ⟨c, hc, e⟩ := e
  have cs : csRotaError c = some true := by rcases hc with rfl | rfl | rfl | rfl | rfl <;> decide +kernel
  have hb : b_refused_deed (only a (.book ⟨ps, ss⟩)) (rho0 N_refused_deed (refD a :: [.list (ps.map perD), .list (ss.map shD), .int (way : Int)])) = .rt (.bool true) ((rho0 N_refused_deed (refD a :: [.list (ps.map perD), .list (ss.map shD), .int (way : Int)])).map frz1) := by
    unfold b_refused_deed
    rw [sSeq_eq]
    unfold sTry
    rw [e]
    simp [cs]
  rw [hb]
  simp
end RK
namespace RK
open PySem PySem.Spec PyProof.Rows L2 RT
def rhoB (P : List Person) (S : List Shift) (t : Int) (β : BookSt) (m : Int) (s5 s6 s7 : Sl) : Rho := [.val (.list (P.map perD)), .val (.list (S.map shD)), .val (.int t), .obj (.book β), .val (.int m), s5, s6, s7]
theorem gListOf_list (l : List PyData) (h : l.length ≤ LIM) : gListOf [.list l] = some l := by simp [gListOf, h]
theorem addP_at (P : List Person) (S : List Shift) (t : Int) (Q : List Person) (ss : List Shift) (m : Int) (p : Person) (s6 s7 : Sl) (g : GP p) (hn : ∀ q ∈ Q, q.name ≠ p.name) (hl : Q.length < 1000) :
    sMut kB 3 fm_add_person (eCons (eOp gIx (eVarB 5) (eC (.int 0))) (eCons (eList (eCallL gListOf (eCons (eOp gIx (eVarB 5) (eC (.int 1))) eNil))) (eCons (eOp gIx (eVarB 5) (eC (.int 2))) eNil))) (rhoB P S t ⟨Q, ss⟩ m (.val (perD p)) s6 s7) =
      .nx (rhoB P S t ⟨Q ++ [bare p], ss⟩ m (.val (perD p)) s6 s7) := by
  have h := fm_person_ok (ss := ss) g hn hl
  have gl := gListOf_list (p.skills.map .str) (by rw [List.length_map]; exact Nat.le_trans g.sl (by decide))
  unfold rhoB
  simp [perD, gl, h]
theorem rested_at (P : List Person) (S : List Shift) (t : Int) (β : BookSt) (m : Int) (p q : Person) (s6 s7 : Sl) (g : GP p) (hq : findP β p.name = some q) (hl : q.rests.length ≤ 3) :
    sMut kB 3 fm_rested (eCons (eVar 5) eNil) (rhoB P S t β m (.val (perD p)) s6 s7) = .nx (rhoB P S t (restsB β p.name p.rests) m (.val (perD p)) s6 s7) := by
  have h := fm_rested_ok (p := p) hq g.rs (by have := g.rl; omega)
  unfold rhoB
  simp [h]
theorem find_last {Q : List Person} {ss : List Shift} {p : Person} (nd : ((Q ++ [p]).map (·.name)).Nodup) : findP ⟨Q ++ [bare p], ss⟩ p.name = some (bare p) := by
  have h : ((Q ++ [bare p]).map (·.name)).Nodup := by
    have : (Q ++ [bare p]).map (·.name) = (Q ++ [p]).map (·.name) := by simp [bare]
    rw [this]; exact nd
  exact findP_at h (p := bare p) (by simp)
theorem nodup_ne {α β : Type} {f : α → β} {Q L : List α} {p : α} (nd : ((Q ++ p :: L).map f).Nodup) : ∀ q ∈ Q, f q ≠ f p := fun q hq e => by
  rw [List.map_append, List.nodup_append] at nd
  exact nd.2.2 (f q) (List.mem_map_of_mem hq) (f p) (by simp) e
theorem loopA (P : List Person) (S : List Shift) (t : Int) (ht : t % 4 ≠ 3) (ss : List Shift) (m : Int) (s6 s7 : Sl) : ∀ (L Q : List Person) (s5 : Sl), ((Q ++ L).map (·.name)).Nodup → (∀ p ∈ L, GP p) → (Q ++ L).length < 1000 →
    ∃ s5', forF (tg1 5) (sSeq (sMut kB 3 fm_add_person (eCons (eOp gIx (eVarB 5) (eC (.int 0))) (eCons (eList (eCallL gListOf (eCons (eOp gIx (eVarB 5) (eC (.int 1))) eNil))) (eCons (eOp gIx (eVarB 5) (eC (.int 2))) eNil))))
  (sIf (bF (eOp gNe (eOp gMod (eVarB 2) (eC (.int 4))) (eC (.int 3)))) (sMut kB 3 fm_rested (eCons (eVar 5) eNil)) sNext)) (L.map perD) (rhoB P S t ⟨Q, ss⟩ m s5 s6 s7) = .nx (rhoB P S t ⟨Q ++ L, ss⟩ m s5' s6 s7)
  | [], Q, s5, _, _, _ => ⟨s5, by rw [List.append_nil]; rfl⟩
  | p :: L, Q, s5, nd, hg, hl => by
    have g := hg p List.mem_cons_self
    have hn := nodup_ne nd
    have e1 := addP_at P S t Q ss m p s6 s7 g hn (by simp at hl; omega)
    have nd1 : ((Q ++ [p]).map (·.name)).Nodup := by
      have : Q ++ p :: L = Q ++ [p] ++ L := by simp
      rw [this, List.map_append] at nd
      exact (List.nodup_append.mp nd).1
    have e2 := rested_at P S t ⟨Q ++ [bare p], ss⟩ m p (bare p) s6 s7 g (find_last nd1) (by simp [bare])
    rw [restsB_mid Q [] ss p (by simpa using hn)] at e2
    obtain ⟨s5', e⟩ := loopA P S t ht ss m s6 s7 L (Q ++ [p]) (.val (perD p)) (by simpa using nd) (fun q hq => hg q (List.mem_cons_of_mem _ hq)) (by simpa using hl)
    refine ⟨s5', ?_⟩
    rw [List.map_cons, forF_cons1]
    have e0 : (rhoB P S t ⟨Q, ss⟩ m s5 s6 s7).set 5 (.val (perD p)) = rhoB P S t ⟨Q, ss⟩ m (.val (perD p)) s6 s7 := rfl
    have tst : bF (eOp gNe (eOp gMod (eVarB 2) (eC (.int 4))) (eC (.int 3))) (rhoB P S t ⟨Q ++ [bare p], ss⟩ m (.val (perD p)) s6 s7) = some true := by simp [rhoB, ht]
    rw [e0, sSeq_eq, e1, thn_nx, sIf_eq, tst, outB_some, if_pos rfl, e2, thn_nx, e, List.append_assoc]
    rfl
theorem loopA3 (P : List Person) (S : List Shift) (t : Int) (ht : t % 4 = 3) (ss : List Shift) (m : Int) (s6 s7 : Sl) : ∀ (L Q : List Person) (s5 : Sl), ((Q ++ L).map (·.name)).Nodup → (∀ p ∈ L, GP p) → (Q ++ L).length < 1000 →
    ∃ s5', forF (tg1 5) (sSeq (sMut kB 3 fm_add_person (eCons (eOp gIx (eVarB 5) (eC (.int 0))) (eCons (eList (eCallL gListOf (eCons (eOp gIx (eVarB 5) (eC (.int 1))) eNil))) (eCons (eOp gIx (eVarB 5) (eC (.int 2))) eNil))))
  (sIf (bF (eOp gNe (eOp gMod (eVarB 2) (eC (.int 4))) (eC (.int 3)))) (sMut kB 3 fm_rested (eCons (eVar 5) eNil)) sNext)) (L.map perD) (rhoB P S t ⟨Q.map bare, ss⟩ m s5 s6 s7) = .nx (rhoB P S t ⟨(Q ++ L).map bare, ss⟩ m s5' s6 s7)
  | [], Q, s5, _, _, _ => ⟨s5, by rw [List.append_nil]; rfl⟩
  | p :: L, Q, s5, nd, hg, hl => by
    have g := hg p List.mem_cons_self
    have hn := nodup_ne nd
    have e1 := addP_at P S t (Q.map bare) ss m p s6 s7 g (fun q hq => by
      obtain ⟨q', hq', rfl⟩ := List.mem_map.mp hq
      exact hn q' hq') (by simp at hl ⊢; omega)
    obtain ⟨s5', e⟩ := loopA3 P S t ht ss m s6 s7 L (Q ++ [p]) (.val (perD p)) (by simpa using nd) (fun q hq => hg q (List.mem_cons_of_mem _ hq)) (by simpa using hl)
    refine ⟨s5', ?_⟩
    rw [List.map_cons, forF_cons1]
    have e0 : (rhoB P S t ⟨Q.map bare, ss⟩ m s5 s6 s7).set 5 (.val (perD p)) = rhoB P S t ⟨Q.map bare, ss⟩ m (.val (perD p)) s6 s7 := rfl
    have tst : bF (eOp gNe (eOp gMod (eVarB 2) (eC (.int 4))) (eC (.int 3))) (rhoB P S t ⟨Q.map bare ++ [bare p], ss⟩ m (.val (perD p)) s6 s7) = some false := by simp [rhoB, ht]
    have em : Q.map bare ++ [bare p] = (Q ++ [p]).map bare := by simp
    rw [e0, sSeq_eq, e1, thn_nx, sIf_eq, tst, outB_some, if_neg (by decide), sNext_eq, thn_nx, em, e, List.append_assoc]
    rfl
theorem loopS (P : List Person) (S : List Shift) (t : Int) (Q : List Person) (m : Int) (s5 s7 : Sl) : ∀ (L T : List Shift) (s6 : Sl), ((T ++ L).map (·.name)).Nodup → (∀ s ∈ L, GS s) → (T ++ L).length < 1000 →
    ∃ s6', forF (tg1 6) (sMut kB 3 fm_add_shift (eCons (eOp gIx (eVarB 6) (eC (.int 0))) (eCons (eOp gIx (eVarB 6) (eC (.int 1))) (eCons (eList (eCallL gListOf (eCons (eOp gIx (eVarB 6) (eC (.int 2))) eNil))) eNil)))) (L.map shD) (rhoB P S t ⟨Q, T⟩ m s5 s6 s7) = .nx (rhoB P S t ⟨Q, T ++ L⟩ m s5 s6' s7)
  | [], T, s6, _, _, _ => ⟨s6, by rw [List.append_nil]; rfl⟩
  | s :: L, T, s6, nd, hg, hl => by
    have g := hg s List.mem_cons_self
    have h := fm_shift_ok (ps := Q) g (nodup_ne nd) (by simp at hl; omega)
    have gl := gListOf_list (s.needs.map ndD) (by rw [List.length_map]; exact Nat.le_trans g.nl (by decide))
    obtain ⟨s6', e⟩ := loopS P S t Q m s5 s7 L (T ++ [s]) (.val (shD s)) (by simpa using nd) (fun q hq => hg q (List.mem_cons_of_mem _ hq)) (by simpa using hl)
    refine ⟨s6', ?_⟩
    rw [List.map_cons, forF_cons1]
    have e1 : sMut kB 3 fm_add_shift (eCons (eOp gIx (eVarB 6) (eC (.int 0))) (eCons (eOp gIx (eVarB 6) (eC (.int 1))) (eCons (eList (eCallL gListOf (eCons (eOp gIx (eVarB 6) (eC (.int 2))) eNil))) eNil))) ((rhoB P S t ⟨Q, T⟩ m s5 s6 s7).set 6 (.val (shD s))) = .nx (rhoB P S t ⟨Q, T ++ [s]⟩ m s5 (.val (shD s)) s7) := by
      unfold stD at h
      unfold rhoB
      simp [shD, stD, gl, h]
    rw [e1, thn_nx, e, List.append_assoc]
    rfl
theorem loopB (P : List Person) (S : List Shift) (t : Int) (ss : List Shift) (m : Int) (s6 s7 : Sl) : ∀ (L Q : List Person) (s5 : Sl), ((Q ++ L).map (·.name)).Nodup → (∀ p ∈ L, GP p) → (Q ++ L).length < 1000 →
    ∃ s5', forF (tg1 5) (sSeq (sMut kB 3 fm_add_person (eCons (eOp gIx (eVarB 5) (eC (.int 0))) (eCons (eList (eCallL gListOf (eCons (eOp gIx (eVarB 5) (eC (.int 1))) eNil))) (eCons (eOp gIx (eVarB 5) (eC (.int 2))) eNil))))
  (sMut kB 3 fm_rested (eCons (eVar 5) eNil))) (L.map perD) (rhoB P S t ⟨Q, ss⟩ m s5 s6 s7) = .nx (rhoB P S t ⟨Q ++ L, ss⟩ m s5' s6 s7)
  | [], Q, s5, _, _, _ => ⟨s5, by rw [List.append_nil]; rfl⟩
  | p :: L, Q, s5, nd, hg, hl => by
    have g := hg p List.mem_cons_self
    have hn := nodup_ne nd
    have e1 := addP_at P S t Q ss m p s6 s7 g hn (by simp at hl; omega)
    have nd1 : ((Q ++ [p]).map (·.name)).Nodup := by
      have : Q ++ p :: L = Q ++ [p] ++ L := by simp
      rw [this, List.map_append] at nd
      exact (List.nodup_append.mp nd).1
    have e2 := rested_at P S t ⟨Q ++ [bare p], ss⟩ m p (bare p) s6 s7 g (find_last nd1) (by simp [bare])
    rw [restsB_mid Q [] ss p (by simpa using hn)] at e2
    obtain ⟨s5', e⟩ := loopB P S t ss m s6 s7 L (Q ++ [p]) (.val (perD p)) (by simpa using nd) (fun q hq => hg q (List.mem_cons_of_mem _ hq)) (by simpa using hl)
    refine ⟨s5', ?_⟩
    rw [List.map_cons, forF_cons1]
    have e0 : (rhoB P S t ⟨Q, ss⟩ m s5 s6 s7).set 5 (.val (perD p)) = rhoB P S t ⟨Q, ss⟩ m (.val (perD p)) s6 s7 := rfl
    rw [e0, sSeq_eq, e1, thn_nx, e2, thn_nx, e, List.append_assoc]
    rfl
theorem loopR (P : List Person) (S : List Shift) (t : Int) (ss : List Shift) (m : Int) (s6 s7 : Sl) : ∀ (L Q : List Person) (s5 : Sl), ((Q ++ L).map (·.name)).Nodup → (∀ p ∈ L, GP p) →
    ∃ s5', forF (tg1 5) (sMut kB 3 fm_rested (eCons (eVar 5) eNil)) (L.map perD) (rhoB P S t ⟨Q ++ L.map bare, ss⟩ m s5 s6 s7) = .nx (rhoB P S t ⟨Q ++ L, ss⟩ m s5' s6 s7)
  | [], Q, s5, _, _ => ⟨s5, rfl⟩
  | p :: L, Q, s5, nd, hg => by
    have g := hg p List.mem_cons_self
    have hn := nodup_ne nd
    have hn2 : ∀ q ∈ L, q.name ≠ p.name := fun q hq e => by
      rw [List.map_append, List.nodup_append, List.map_cons, List.nodup_cons] at nd
      exact nd.2.1.1 (e ▸ List.mem_map_of_mem hq)
    have ndb : ((Q ++ bare p :: L.map bare).map (·.name)).Nodup := by
      have : (Q ++ bare p :: L.map bare).map (·.name) = (Q ++ p :: L).map (·.name) := by
        simp only [List.map_append, List.map_cons, List.map_map]
        rfl
      rw [this]; exact nd
    have hf : findP ⟨Q ++ bare p :: L.map bare, ss⟩ p.name = some (bare p) := findP_at ndb (p := bare p) (by simp)
    have e2 := rested_at P S t ⟨Q ++ bare p :: L.map bare, ss⟩ m p (bare p) s6 s7 g hf (by simp [bare])
    rw [restsB_mid Q (L.map bare) ss p (fun q hq => by
      rcases List.mem_append.mp hq with h | h
      · exact hn q h
      · obtain ⟨q', hq', rfl⟩ := List.mem_map.mp h
        exact hn2 q' hq')] at e2
    obtain ⟨s5', e⟩ := loopR P S t ss m s6 s7 L (Q ++ [p]) (.val (perD p)) (by simpa using nd) (fun q hq => hg q (List.mem_cons_of_mem _ hq))
    refine ⟨s5', ?_⟩
    rw [List.map_cons, List.map_cons, forF_cons1]
    have e0 : (rhoB P S t ⟨Q ++ bare p :: L.map bare, ss⟩ m s5 s6 s7).set 5 (.val (perD p)) = rhoB P S t ⟨Q ++ bare p :: L.map bare, ss⟩ m (.val (perD p)) s6 s7 := rfl
    have ea : Q ++ p :: L.map bare = Q ++ [p] ++ L.map bare := by simp
    rw [e0, e2, thn_nx, ea, e, List.append_assoc]
    rfl
theorem runNew_ro {S : Type} {kd : Kd S} {N : List Str} {n : Nat} {b : SS} {s : S} {ds : List PyData} {i : Nat} {ρ : Rho} (h : ds.length = n) (e : b (rho0 N ds) = .ro i ρ) (h0 : ρ[i]? = some (.obj (kd.inj s))) : runNew kd N n b ds = some s := by
  unfold runNew
  simp only [h, if_true, e, h0, slO_inj]
theorem book_of_ok {ps : List Person} {ss : List Shift} (g : GM ps ss) (t : Int) : fn_book_of [.list (ps.map perD), .list (ss.map shD), .int t] = some ⟨ps, ss⟩ := by
  have pl := g.pl
  have sl := g.sl
  have lp : ps.length ≤ LIM := Nat.le_trans pl (by decide)
  have lss : ss.length ≤ LIM := Nat.le_trans sl (by decide)
  -- how many come ahead of the shifts
  obtain ⟨mn, hmn, em, h3⟩ : ∃ mn : Nat, mn ≤ ps.length ∧ atI [PyData.int (ps.length : Nat), .int 0, .int (t / 4 % ((ps.length : Nat) + 1)), .int (ps.length : Nat)] (t % 4) = some (.int (mn : Int)) ∧ (t % 4 = 3 → mn = ps.length) := by
    rw [pick4]
    have h1 := Int.emod_nonneg (t / 4) (show ((ps.length : Nat) : Int) + 1 ≠ 0 by omega)
    have h2 := Int.emod_lt_of_pos (t / 4) (show (0 : Int) < ((ps.length : Nat) : Int) + 1 by omega)
    split
    · exact ⟨ps.length, Nat.le_refl _, rfl, fun _ => rfl⟩
    · split
      · rename_i h; exact ⟨0, Nat.zero_le _, rfl, fun z => by omega⟩
      · split
        · rename_i h
          refine ⟨(t / 4 % ((ps.length : Nat) + 1)).toNat, by omega, ?_, fun z => by omega⟩
          rw [Int.toNat_of_nonneg h1]
        · exact ⟨ps.length, Nat.le_refl _, rfl, fun _ => rfl⟩
  have cp : 0 < ((ps.length : Nat) : Int) + 1 ∧ ((ps.length : Nat) : Int) + 1 < 1073741824 := by omega
  have gm : gMod (.int (t / 4)) (.int (((ps.length : Nat) : Int) + 1)) = some (.int (t / 4 % (((ps.length : Nat) : Int) + 1))) := gMod_int _ _ (cPos_of cp.1 cp.2)
  have tk : cutA (ps.map perD) none (some (mn : Int)) = (ps.take mn).map perD := by rw [cutA_to, List.map_take]
  have dk : cutA (ps.map perD) (some (mn : Int)) none = (ps.drop mn).map perD := by rw [cutA_from, List.map_drop]
  have nd := g.pn
  have td : ps.take mn ++ ps.drop mn = ps := List.take_append_drop mn ps
  have ndt : ((ps.take mn).map (·.name)).Nodup := ((List.take_sublist mn ps).map _).nodup nd
  have gt : ∀ p ∈ ps.take mn, GP p := fun p hp => g.gp p (List.mem_of_mem_take hp)
  have gd : ∀ p ∈ ps.drop mn, GP p := fun p hp => g.gp p (List.mem_of_mem_drop hp)
  -- up to the last loop
  have main : ∃ s5 s6, ∀ kk : SS, (sSeq (sFor (iL (eList (lSl (eVarB 0) oNone (oSome (eVarB 4))))) (tg1 5) (sSeq (sMut kB 3 fm_add_person (eCons (eOp gIx (eVarB 5) (eC (.int 0))) (eCons (eList (eCallL gListOf (eCons (eOp gIx (eVarB 5) (eC (.int 1))) eNil))) (eCons (eOp gIx (eVarB 5) (eC (.int 2))) eNil))))
  (sIf (bF (eOp gNe (eOp gMod (eVarB 2) (eC (.int 4))) (eC (.int 3)))) (sMut kB 3 fm_rested (eCons (eVar 5) eNil)) sNext)))
  (sSeq (sFor (iL (eVar 1)) (tg1 6) (sMut kB 3 fm_add_shift (eCons (eOp gIx (eVarB 6) (eC (.int 0))) (eCons (eOp gIx (eVarB 6) (eC (.int 1))) (eCons (eList (eCallL gListOf (eCons (eOp gIx (eVarB 6) (eC (.int 2))) eNil))) eNil)))))
  (sSeq (sFor (iL (eList (lSl (eVarB 0) (oSome (eVarB 4)) oNone))) (tg1 5) (sSeq (sMut kB 3 fm_add_person (eCons (eOp gIx (eVarB 5) (eC (.int 0))) (eCons (eList (eCallL gListOf (eCons (eOp gIx (eVarB 5) (eC (.int 1))) eNil))) (eCons (eOp gIx (eVarB 5) (eC (.int 2))) eNil))))
  (sMut kB 3 fm_rested (eCons (eVar 5) eNil))))
  (sSeq (sIf (bF (eOp gEq (eOp gMod (eVarB 2) (eC (.int 4))) (eC (.int 3)))) (sFor (iL (eVar 0)) (tg1 5) (sMut kB 3 fm_rested (eCons (eVar 5) eNil))) sNext) kk)))) (rhoB ps ss t ⟨[], []⟩ mn .no .no .no) = kk (rhoB ps ss t ⟨ps, ss⟩ mn s5 s6 .no) := by
    have i1 : iL (eList (lSl (eVarB 0) oNone (oSome (eVarB 4)))) (rhoB ps ss t ⟨[], []⟩ mn .no .no .no) = some ((ps.take mn).map perD) := by
      have hl : (List.take mn (ps.map perD)).length ≤ LIM := by
        rw [List.length_take, List.length_map]
        exact Nat.le_trans (Nat.min_le_right _ _) lp
      have ll := lstD_list _ hl
      simp [rhoB, lSl, oNone, oSome, tk, lp, ll]
    have i2 : ∀ β s5, iL (eVar 1) (rhoB ps ss t β mn s5 .no .no) = some (ss.map shD) := fun β s5 => by simp [rhoB, lss]
    have i3 : ∀ β s5 s6, iL (eList (lSl (eVarB 0) (oSome (eVarB 4)) oNone)) (rhoB ps ss t β mn s5 s6 .no) = some ((ps.drop mn).map perD) := fun β s5 s6 => by
      have hl : (List.drop mn (ps.map perD)).length ≤ LIM := by
        rw [List.length_drop, List.length_map]
        exact Nat.le_trans (Nat.sub_le _ _) lp
      have ll := lstD_list _ hl
      simp [rhoB, lSl, oNone, oSome, dk, lp, ll]
    have i4 : ∀ β s5 s6, iL (eVar 0) (rhoB ps ss t β mn s5 s6 .no) = some (ps.map perD) := fun β s5 s6 => by simp [rhoB, lp]
    by_cases ht : t % 4 = 3
    · have hm := h3 ht
      have etk : ps.take mn = ps := by rw [hm, List.take_length]
      have edr : ps.drop mn = [] := by rw [hm, List.drop_length]
      obtain ⟨s5, e1⟩ := loopA3 ps ss t ht [] mn .no .no ps [] .no (by simpa using nd) g.gp (by simp; omega)
      simp only [List.map_nil, List.nil_append] at e1
      obtain ⟨s6, e2⟩ := loopS ps ss t (ps.map bare) mn s5 .no ss [] .no (by simpa using g.sn) g.gs (by simp; omega)
      simp only [List.nil_append] at e2
      obtain ⟨s5', e4⟩ := loopR ps ss t ss mn s6 .no ps [] s5 (by simpa using nd) g.gp
      simp only [List.nil_append] at e4
      refine ⟨s5', s6, fun kk => ?_⟩
      have tst : bF (eOp gEq (eOp gMod (eVarB 2) (eC (.int 4))) (eC (.int 3))) (rhoB ps ss t ⟨ps.map bare, ss⟩ mn s5 s6 .no) = some true := by simp [rhoB, ht]
      rw [sSeq_eq, sFor_eq, i1, outL_some, etk, e1, thn_nx, sSeq_eq, sFor_eq, i2, outL_some, e2, thn_nx, sSeq_eq, sFor_eq, i3, outL_some, edr, List.map_nil, forF_nil, thn_nx, sSeq_eq, sIf_eq, tst, outB_some, if_pos rfl, sFor_eq, i4, outL_some, e4, thn_nx]
    · obtain ⟨s5, e1⟩ := loopA ps ss t ht [] mn .no .no (ps.take mn) [] .no (by simpa using ndt) gt (by simp; omega)
      simp only [List.nil_append] at e1
      obtain ⟨s6, e2⟩ := loopS ps ss t (ps.take mn) mn s5 .no ss [] .no (by simpa using g.sn) g.gs (by simp; omega)
      simp only [List.nil_append] at e2
      obtain ⟨s5', e3⟩ := loopB ps ss t ss mn s6 .no (ps.drop mn) (ps.take mn) s5 (by rw [td]; exact nd) gd (by rw [td]; omega)
      rw [td] at e3
      refine ⟨s5', s6, fun kk => ?_⟩
      have tst : bF (eOp gEq (eOp gMod (eVarB 2) (eC (.int 4))) (eC (.int 3))) (rhoB ps ss t ⟨ps, ss⟩ mn s5' s6 .no) = some false := by simp [rhoB, ht]
      rw [sSeq_eq, sFor_eq, i1, outL_some, e1, thn_nx, sSeq_eq, sFor_eq, i2, outL_some, e2, thn_nx, sSeq_eq, sFor_eq, i3, outL_some, e3, thn_nx, sSeq_eq, sIf_eq, tst, outB_some, if_neg (by decide), sNext_eq, thn_nx]
  obtain ⟨s5, s6, main⟩ := main
  -- the refused deeds
  obtain ⟨k1, k2⟩ := okDs_per g.gp
  obtain ⟨k3, k4⟩ := okDs_sh g.gs
  obtain ⟨lo, hlo, hlo6, hlo0⟩ : ∃ lo : Nat, atI [PyData.int 0, .int 2] (if ps = [] then 1 else 0) = some (.int (lo : Int)) ∧ lo ≤ 2 ∧ (lo < 2 → ps ≠ []) := by
    cases ps with
    | nil => exact ⟨2, by simp, by decide, fun h => absurd h (by decide)⟩
    | cons p r => exact ⟨0, by simp, by decide, fun _ => by simp⟩
  have last : ∃ s7, forF (tg1 7) (sIf (tOrF (bF (eOp gNe (eVarB 7) (eC (.int 2)))) (bF (eOp gNe (eVarB 1) (eList (eLstD eNil))))) (sDrop (eMeth kB noB.bk 3 fr_refused_deed (eCons (eVar 0) (eCons (eVar 1) (eCons (eVar 7) eNil))))) sNext) (rangeD (lo : Int) (6 - lo)) (rhoB ps ss t ⟨ps, ss⟩ mn s5 s6 .no) = .nx (rhoB ps ss t ⟨ps, ss⟩ mn s5 s6 s7) := by
    obtain ⟨ρ', e, s7, rfl⟩ := forF_inv0 (j := 7) (body := (sIf (tOrF (bF (eOp gNe (eVarB 7) (eC (.int 2)))) (bF (eOp gNe (eVarB 1) (eList (eLstD eNil))))) (sDrop (eMeth kB noB.bk 3 fr_refused_deed (eCons (eVar 0) (eCons (eVar 1) (eCons (eVar 7) eNil))))) sNext)) (ds := rangeD (lo : Int) (6 - lo)) (fun _ ρ => ∃ s7, ρ = rhoB ps ss t ⟨ps, ss⟩ mn s5 s6 s7) ⟨.no, rfl⟩ (by
      rintro k d _ hd ⟨s7, rfl⟩
      obtain ⟨i, hi, rfl⟩ := mem_rangeD (List.mem_of_getElem? hd)
      refine ⟨rhoB ps ss t ⟨ps, ss⟩ mn s5 s6 (.val (.int ((lo + i : Nat) : Int))), ?_, _, rfl⟩
      have el : ((lo : Int) + (i : Int)) = ((lo + i : Nat) : Int) := by omega
      rw [el]
      have e0 : (rhoB ps ss t ⟨ps, ss⟩ mn s5 s6 s7).set 7 (.val (.int ((lo + i : Nat) : Int))) = rhoB ps ss t ⟨ps, ss⟩ mn s5 s6 (.val (.int ((lo + i : Nat) : Int))) := rfl
      rw [e0]
      generalize hw : lo + i = w
      have ne1 := gNe_nil (ss.map shD) k3 k4
      rw [isEmpty_map] at ne1
      have rd := fun h2 => refused_ok g w (by omega) (fun hw2 => hlo0 (by omega)) h2
      have em1 : ∀ h2 : w = 2 → ss ≠ [], eMeth kB noB.bk 3 fr_refused_deed (eCons (eVar 0) (eCons (eVar 1) (eCons (eVar 7) eNil))) (rhoB ps ss t ⟨ps, ss⟩ mn s5 s6 (.val (.int (w : Int)))) = some (.bool true) := fun h2 => by
        rw [eMeth_eq, rcv_obj _ _ _ (.book ⟨ps, ss⟩) rfl]
        simp [rhoB, rd h2, Res.ok]
      by_cases hw2 : w = 2
      · subst hw2
        by_cases hs : ss = []
        · have t1 : tOrF (bF (eOp gNe (eVarB 7) (eC (.int 2)))) (bF (eOp gNe (eVarB 1) (eList (eLstD eNil)))) (rhoB ps ss t ⟨ps, ss⟩ mn s5 s6 (.val (.int ((2 : Nat) : Int)))) = some false := by
            simp [rhoB, ne1, hs]
            have := gNe_nil [] rfl (by decide)
            simp [this]
          rw [sIf_eq, t1, outB_some, if_neg (by decide), sNext_eq]
        · have t1 : tOrF (bF (eOp gNe (eVarB 7) (eC (.int 2)))) (bF (eOp gNe (eVarB 1) (eList (eLstD eNil)))) (rhoB ps ss t ⟨ps, ss⟩ mn s5 s6 (.val (.int ((2 : Nat) : Int)))) = some true := by
            have he : ss.isEmpty = false := by cases ss with
              | nil => exact absurd rfl hs
              | cons _ _ => rfl
            rw [he] at ne1
            simp [rhoB, ne1]
          rw [sIf_eq, t1, outB_some, if_pos rfl, sDrop_eq, em1 fun _ => hs, outV_some]
      · have t1 : tOrF (bF (eOp gNe (eVarB 7) (eC (.int 2)))) (bF (eOp gNe (eVarB 1) (eList (eLstD eNil)))) (rhoB ps ss t ⟨ps, ss⟩ mn s5 s6 (.val (.int (w : Int)))) = some true := by
          have : ((w : Int) == 2) = false := by
            rw [beq_eq_false_iff_ne]
            omega
          simp [rhoB, this]
        rw [sIf_eq, t1, outB_some, if_pos rfl, sDrop_eq, em1 fun h => absurd h hw2, outV_some])
    exact ⟨s7, e⟩
  obtain ⟨s7, last⟩ := last
  have hb : b_book_of (rho0 N_book_of [.list (ps.map perD), .list (ss.map shD), .int t]) = .ro 3 (rhoB ps ss t ⟨ps, ss⟩ mn s5 s6 s7) := by
    unfold b_book_of
    rw [sSeq_eq, sMkB_eq, thn_nx, sSeq_eq]
    have a0 : sSet 4 (eOp gIx (eList (eLstD (eCons (eCall gLen (eCons (eVarB 0) eNil)) (eCons (eC (.int 0)) (eCons (eOp gMod (eOp gFdiv (eVarB 2) (eC (.int 4))) (eOp gAdd (eCall gLen (eCons (eVarB 0) eNil)) (eC (.int 1)))) (eCons (eCall gLen (eCons (eVarB 0) eNil)) eNil)))))) (eOp gMod (eVarB 2) (eC (.int 4)))) ((rho0 N_book_of [.list (ps.map perD), .list (ss.map shD), .int t]).set 3 (.obj (.book ⟨[], []⟩))) = .nx (rhoB ps ss t ⟨[], []⟩ mn .no .no .no) := by
      simp [rho0, N_book_of, rhoB, gm, em]
    rw [a0, thn_nx, main, sSeq_eq, sFor_eq]
    have i5 : iR2 (eCons (eOp gIx (eList (eLstD (eCons (eC (.int 0)) (eCons (eC (.int 2)) eNil)))) (eCall gInt (eCons (eOp gEq (eVarB 0) (eList (eLstD eNil))) eNil))) (eCons (eC (.int 6)) eNil)) (rhoB ps ss t ⟨ps, ss⟩ mn s5 s6 .no) = some (rangeD (lo : Int) (6 - lo)) := by
      have eq := gEq_nil (ps.map perD) k1 k2
      rw [isEmpty_map] at eq
      have b1 : (lo : Int) ≤ 1000000 ∧ -1000000 ≤ (lo : Int) := by omega
      have l6 : ((6 : Int) - (lo : Int)).toNat = 6 - lo := by omega
      simp [rhoB, eq, hlo, b1, l6]
    rw [i5, outL_some, last, thn_nx]
    rfl
  exact runNew_ro (kd := kB) rfl hb rfl
end RK
namespace RK
open PySem PySem.Spec PyProof.Rows L2 RT
/-! ### posts, what is wanted of them, room -/
theorem lcF_mapped {α : Type} {j : Nat} {tst : STe} {el : SE} {ρ : Rho} (f : α → PyData) (p : α → Bool) (g : α → PyData) : ∀ {l : List α}, (∀ x, x ∈ l → tst (ρ.set j (.val (f x))) = some (p x)) → (∀ x, x ∈ l → p x = true → el (ρ.set j (.val (f x))) = some (g x) ∧ dataD (g x) = true) → lcF j tst el ρ (l.map f) = some ((l.filter p).map g)
  | [], _, _ => rfl
  | x :: l, h, h' => by
    have ih := lcF_mapped f p g (l := l) (fun y hy => h y (List.mem_cons_of_mem _ hy)) fun y hy => h' y (List.mem_cons_of_mem _ hy)
    have h1 := h x List.mem_cons_self
    cases hp : p x with
    | true =>
      obtain ⟨h2, h3⟩ := h' x List.mem_cons_self hp
      simp [lcF, h1, hp, h2, h3, ih]
    | false => simp [lcF, h1, hp, ih]
theorem lcF_mappedT {α : Type} {j : Nat} {el : SE} {ρ : Rho} (f : α → PyData) (g : α → PyData) : ∀ {l : List α}, (∀ x, x ∈ l → el (ρ.set j (.val (f x))) = some (g x) ∧ dataD (g x) = true) → lcF j tYesF el ρ (l.map f) = some (l.map g)
  | [], _ => rfl
  | x :: l, h => by
    have ih := lcF_mappedT f g (l := l) fun y hy => h y (List.mem_cons_of_mem _ hy)
    obtain ⟨h2, h3⟩ := h x List.mem_cons_self
    simp [lcF, h2, h3, ih]
theorem gIn_intsN (neg : Bool) (k : Int) (o : List Int) : alt (gInF neg) (alt (gInL neg) (gInS neg)) (.int k) (.list (o.map .int)) = some (.bool (if neg then !decide (k ∈ o) else decide (k ∈ o))) := by
  have hs : (o.map PyData.int).all scalD = true := by rw [List.all_map]; simp [List.all_eq_true]
  have he : ((o.map PyData.int).any fun z => eqFl z (.int k)) = decide (k ∈ o) := by
    rw [List.any_map, Bool.eq_iff_iff, List.any_eq_true, decide_eq_true_eq]
    constructor
    · rintro ⟨x, hx, h⟩
      have : x = k := by simpa [eqFl] using h
      exact this ▸ hx
    · intro h
      exact ⟨k, h, by simp [eqFl]⟩
  have h1 : gInF neg (.int k) (.list (o.map .int)) = some (.bool (if neg then !decide (k ∈ o) else decide (k ∈ o))) := by
    unfold gInF
    simp only [he]
    rw [if_pos ⟨rfl, hs⟩]
  unfold alt
  rw [h1]
theorem gNotIn_ints (k : Int) (o : List Int) : gNotIn (.int k) (.list (o.map .int)) = some (.bool (!decide (k ∈ o))) := gIn_intsN true k o
theorem eqv_postD (p q : Str × Str) : PyData.eqv (postD q) (postD p) = decide (q = p) := by
  obtain ⟨a, b⟩ := p
  obtain ⟨c, d⟩ := q
  simp only [postD, PyData.eqv, PyData.eqvAll, Bool.and_true]
  rw [Bool.eq_iff_iff]
  simp
def okP (p : Str × Str) : Prop := okD (.str p.1) = true ∧ okD (.str p.2) = true
theorem shaped_post {p : Str × Str} (h : okP p) : SeqAt.shaped (postD p) = true := by
  have h1 : (postD p).canLay0 = true := by
    have := okD_lay (postD p) (by simp only [postD, okD, okDs, Bool.and_true]; have := h.1; have := h.2; simp only [okD] at *; simp [*])
    exact this
  have h2 : (postD p).depth ≤ 64 := by simp [postD, PyData.depth, PyData.depthAll]
  simp [SeqAt.shaped, h1, h2]
theorem shaped_posts {T : List (Str × Str)} (h : ∀ p ∈ T, okP p) : SeqAt.shaped (.list (T.map postD)) = true := by
  have h1 : (PyData.list (T.map postD)).canLay0 = true := by
    refine okD_lay _ ?_
    rw [okD, okDs_all, List.all_map, List.all_eq_true]
    intro p hp
    have := h p hp
    show okD (postD p) = true
    simp only [postD, okD, okDs, Bool.and_true]
    have h1 := this.1
    have h2 := this.2
    simp only [okD] at h1 h2
    simp [h1, h2]
  have h2 : (PyData.list (T.map postD)).depth ≤ 64 := by
    have : PyData.depthAll (T.map postD) ≤ 5 := depthAll_le fun d hd => by
      obtain ⟨p, _, rfl⟩ := List.mem_map.mp hd
      simp [postD, PyData.depth, PyData.depthAll]
    simp only [PyData.depth]
    omega
  simp [SeqAt.shaped, h1, h2]
theorem gIn_posts {p : Str × Str} {T : List (Str × Str)} (hp : okP p) (hT : ∀ p ∈ T, okP p) : gIn (postD p) (.list (T.map postD)) = some (.bool (decide (p ∈ T))) := by
  have h0 : gInF false (postD p) (.list (T.map postD)) = none := by
    unfold gInF postD
    simp [scalD]
  have he : ((T.map postD).any fun z => PyData.eqv z (postD p)) = decide (p ∈ T) := by
    rw [List.any_map, Bool.eq_iff_iff, List.any_eq_true, decide_eq_true_eq]
    constructor
    · rintro ⟨x, hx, h⟩
      have h' : PyData.eqv (postD x) (postD p) = true := h
      rw [eqv_postD, decide_eq_true_eq] at h'
      exact h' ▸ hx
    · intro h
      exact ⟨p, h, by show PyData.eqv (postD p) (postD p) = true; rw [eqv_postD]; simp⟩
  have h1 : gInL false (postD p) (.list (T.map postD)) = some (.bool (decide (p ∈ T))) := by
    have s1 := shaped_post hp
    have s2 := shaped_posts hT
    have s3 : dataD (postD p) = true := rfl
    simp only [gInL, s1, s2, s3, and_self, if_true, he]
    rfl
  unfold gIn alt
  rw [h0]
  simp only [h1]
/-- the posts with their shifts -/
abbrev SN := Shift × (Str × Int)
def allN (ss : List Shift) : List SN := ss.flatMap fun s => s.needs.map fun n => (s, n)
def keyN (x : SN) : Str × Str := (x.1.name, x.2.1)
theorem postsB_eq (ps : List Person) (ss : List Shift) : postsB ⟨ps, ss⟩ = (allN ss).map keyN := by
  unfold postsB allN
  simp only [List.map_flatMap, List.map_map]
  rfl
theorem allN_mem {ss : List Shift} {x : SN} (h : x ∈ allN ss) : x.1 ∈ ss ∧ x.2 ∈ x.1.needs := by
  unfold allN at h
  obtain ⟨s, hs, hx⟩ := List.mem_flatMap.mp h
  obtain ⟨n, hn, rfl⟩ := List.mem_map.mp hx
  exact ⟨hs, hn⟩
theorem allN_len {ss : List Shift} (h : ∀ s ∈ ss, GS s) (hl : ss.length ≤ 14) : (allN ss).length ≤ 84 := by
  have : ∀ l : List Shift, (∀ s ∈ l, GS s) → (allN l).length ≤ 6 * l.length := by
    intro l
    induction l with
    | nil => intro _; simp [allN]
    | cons s l ih =>
      intro h
      have h1 := ih fun x hx => h x (List.mem_cons_of_mem _ hx)
      have h2 := (h s List.mem_cons_self).nl
      unfold allN at h1 ⊢
      simp only [List.flatMap_cons, List.length_append, List.length_map, List.length_cons] at h1 ⊢
      omega
  have := this ss h
  omega
def wantP (ss : List Shift) (T : List (Str × Str)) : Int := (((allN ss).filter fun x => decide (keyN x ∈ T)).map fun x => x.2.2).sum
def dayS (s : Shift) : Int := s.b / 24
def dayStep (p : Person) (T : List (Str × Str)) (acc : List Int) (x : SN) : List Int := if keyN x ∈ T ∧ mayB p x.1 x.2.1 = true ∧ dayS x.1 ∉ acc then acc ++ [dayS x.1] else acc
def daysP (p : Person) (ss : List Shift) (T : List (Str × Str)) : List Int := (allN ss).foldl (dayStep p T) []
def minI (i j : Int) : Int := if j < i then j else i
def roomP (ps : List Person) (ss : List Shift) (T : List (Str × Str)) : Int := (ps.map fun p => minI p.limit (daysP p ss T).length).sum
theorem gSum_ints (l : List Int) : gSum [.list (l.map .int)] = some (.int l.sum) := by
  simp only [gSum, intsD_map, Option.map_some]
theorem mayL (p : Person) (g : GP p) (s : Shift) (gs : GS s) (k : Str) : F_may [perD p, shD s, .str k] = some (.bool (mayB p s k)) := by
  have ll : p.rests.length ≤ LIM := Nat.le_trans g.rl (by decide)
  obtain ⟨s', r', e⟩ := forF_find0 (j := 3) (ρ := [.val (perD p), .val (shD s), .val (.str k), .no]) (r := .bool false) (body := (sIf (bF (eOp gLt (eCall gMax (eCons (eOp gIx (eVarB 3) (eC (.int 0))) (eCons (eOp gIx (eOp gIx (eVarB 1) (eC (.int 1))) (eC (.int 0))) eNil))) (eCall gMin (eCons (eOp gIx (eVarB 3) (eC (.int 1))) (eCons (eOp gIx (eOp gIx (eVarB 1) (eC (.int 1))) (eC (.int 1))) eNil))))) (sRet (eC (.bool false))) sNext))
    (fun d => match d with
      | .tuple [.int x, .int y] => meetsB (x, y) (s.b, s.e)
      | _ => false) (ds := p.rests.map stD) (by simp) (fun d hd => by
      obtain ⟨r, hr, rfl⟩ := List.mem_map.mp hd
      obtain ⟨x, y⟩ := r
      have hr' := g.rs _ hr
      have st := gs.st
      have key : decide ((if s.b > x then s.b else x) < (if s.e < y then s.e else y)) = meetsB (x, y) (s.b, s.e) := by
        unfold meetsB
        simp only at hr'
        rw [Bool.eq_iff_iff]
        simp only [Bool.and_eq_true, decide_eq_true_eq]
        split <;> split <;> omega
      rw [sIf_eq]
      have t1 : bF (eOp gLt (eCall gMax (eCons (eOp gIx (eVarB 3) (eC (.int 0))) (eCons (eOp gIx (eOp gIx (eVarB 1) (eC (.int 1))) (eC (.int 0))) eNil))) (eCall gMin (eCons (eOp gIx (eVarB 3) (eC (.int 1))) (eCons (eOp gIx (eOp gIx (eVarB 1) (eC (.int 1))) (eC (.int 1))) eNil)))) (([.val (perD p), .val (shD s), .val (.str k), .no] : Rho).set 3 (.val (stD (x, y)))) = some (meetsB (x, y) (s.b, s.e)) := by
        rw [← key]
        simp [perD, shD, stD]
      rw [t1, outB_some]
      simp only [stD]
      by_cases hm : meetsB (x, y) (s.b, s.e) = true
      · simp [hm]
      · simp [hm])
  have ea : ((p.rests.map stD).any fun d => match d with
      | .tuple [.int x, .int y] => meetsB (x, y) (s.b, s.e)
      | _ => false) = p.rests.any fun r => meetsB r (s.b, s.e) := by
    rw [List.any_map]
    rfl
  rw [ea] at e
  have gi := gIn_strs k p.skills
  unfold F_may
  rw [runF_eq]
  have hb : b_may (rho0 N_may [perD p, shD s, .str k]) = (if (p.rests.any fun r => meetsB r (s.b, s.e)) = true then .rt (.bool false) r' else .rt (.bool (decide (k ∈ p.skills))) ([.val (perD p), .val (shD s), .val (.str k), frz1 s'])) := by
    unfold b_may
    rw [sSeq_eq, sFor_eq]
    have i1 : iL (eOp gIx (eVarB 0) (eC (.int 3))) (rho0 N_may [perD p, shD s, .str k]) = some (p.rests.map stD) := by
      simp [rho0, N_may, perD, ll]
    have r0 : rho0 N_may [perD p, shD s, .str k] = [.val (perD p), .val (shD s), .val (.str k), .no] := rfl
    rw [i1, outL_some, r0, e]
    split
    · rw [thn_rt]
    · rw [thn_nx]
      simp [perD, gi]
  rw [hb]
  unfold mayB
  generalize (p.rests.any fun r => meetsB r (s.b, s.e)) = q
  cases q <;> simp
theorem okP_need {s : Shift} (g : GS s) {n : Str × Int} (hn : n ∈ s.needs) : okP (s.name, n.1) := ⟨okD_name g.nm, okD_name (g.nk n hn).1⟩
end RK
namespace RK
open PySem PySem.Spec PyProof.Rows L2 RT
/-! ### the program's answers at a good book -/
theorem needOf_at {s : Shift} (nd : (s.needs.map (·.1)).Nodup) {n : Str × Int} (hn : n ∈ s.needs) : needOf s n.1 = some n.2 := by
  unfold needOf
  cases e : s.needs.find? fun q => decide (q.1 = n.1) with
  | none =>
    rw [List.find?_eq_none] at e
    have := e n hn
    simp at this
  | some q =>
    have h1 := List.find?_some e
    have h2 := List.mem_of_find?_eq_some e
    have : q.1 = n.1 := by simpa using h1
    rw [nodup_inj nd h2 hn this]
    rfl
section
variable {ps : List Person} {ss : List Shift} (g : GM ps ss)
include g
theorem count_at {x : SN} (hx : x ∈ allN ss) : fr_count_of ⟨ps, ss⟩ [.str x.1.name, .str x.2.1] = .ret (.int x.2.2) := by
  obtain ⟨h1, h2⟩ := allN_mem hx
  simp [fr_count_of, s2, findS_at g.sn h1, needOf_at (g.gs _ h1).nd h2, mis]
theorem may_at {p : Person} (hp : p ∈ ps) {x : SN} (hx : x ∈ allN ss) : fr_may ⟨ps, ss⟩ [.str p.name, .str x.1.name, .str x.2.1] = .ret (.bool (mayB p x.1 x.2.1)) := by
  obtain ⟨h1, h2⟩ := allN_mem hx
  simp [fr_may, s3, findS_at g.sn h1, findP_at g.pn hp, mis]
theorem stretch_at {x : SN} (hx : x ∈ allN ss) : fr_stretch_of ⟨ps, ss⟩ [.str x.1.name] = .ret (stD (x.1.b, x.1.e)) := by
  obtain ⟨h1, h2⟩ := allN_mem hx
  simp [fr_stretch_of, s1, findS_at g.sn h1, mis]
theorem limit_at {p : Person} (hp : p ∈ ps) : fr_limit_of ⟨ps, ss⟩ [.str p.name] = .ret (.int p.limit) := by
  simp [fr_limit_of, s1, findP_at g.pn hp, mis]
theorem posts_at : fr_posts ⟨ps, ss⟩ [] = .ret (.list (((allN ss).map keyN).map postD)) := by
  simp [fr_posts, s0, postsB_eq]
theorem people_at : fr_people ⟨ps, ss⟩ [] = .ret (.list ((ps.map (·.name)).map .str)) := by
  simp [fr_people, s0]
end
theorem day_of_at (s : Shift) : F_day_of [stD (s.b, s.e)] = some (.int (dayS s)) := by
  unfold F_day_of
  rw [runF_eq]
  simp [b_day_of, rho0, stD, dayS]
end RK
namespace RK
open PySem PySem.Spec PyProof.Rows L2 RT
theorem bookAt (a : Addr) (β : BookSt) (ρ : Rho) (i : Nat) (h : ρ[i]? = some (.val (refD a))) : rcv kB (only a (.book β)) ρ i = some β := by
  rw [rcv_ref a _ ρ i h]
section
variable {ps : List Person} {ss : List Shift} (g : GM ps ss)
include g
theorem postsI_at (a : Addr) (ρ : Rho) (h : ρ[0]? = some (.val (refD a))) : eMeth kB (only a (.book ⟨ps, ss⟩)) 0 fr_posts eNil ρ = some (.list ((allN ss).map fun x => postD (keyN x))) := by
  rw [eMeth_eq, bookAt a _ ρ 0 h, Option.bind_some, eNil_eq, Option.bind_some, posts_at g]
  simp only [List.map_map, Res.ok, Function.comp_def]
theorem allN_lim : (allN ss).length ≤ LIM := Nat.le_trans (allN_len g.gs g.sl) (by decide)
theorem okP_at {x : SN} (hx : x ∈ allN ss) : okP (keyN x) := okP_need (g.gs _ (allN_mem hx).1) (allN_mem hx).2
end
end RK
namespace RK
open PySem PySem.Spec PyProof.Rows L2 RT
theorem GM.sub {ps : List Person} {ss : List Shift} (g : GM ps ss) {Q : List Person} {T : List Shift} (s1 : Q.Sublist ps) (s2 : T.Sublist ss) : GM Q T :=
  ⟨(s1.map _).nodup g.pn, (s2.map _).nodup g.sn, fun p hp => g.gp p (s1.subset hp), fun s hs => g.gs s (s2.subset hs), Nat.le_trans s1.length_le g.pl, Nat.le_trans s2.length_le g.sl⟩
theorem GM.bareL {Q : List Person} {p : Person} {T : List Shift} (g : GM (Q ++ [p]) T) : GM (Q ++ [bare p]) T := by
  refine ⟨?_, g.sn, ?_, g.gs, ?_, g.sl⟩
  · have : (Q ++ [bare p]).map (·.name) = (Q ++ [p]).map (·.name) := by simp [bare]
    rw [this]; exact g.pn
  · intro q hq
    rcases List.mem_append.mp hq with h | h
    · exact g.gp q (List.mem_append_left _ h)
    · have hp := g.gp p (by simp)
      rw [List.mem_singleton] at h
      subst h
      exact ⟨hp.nm, hp.sk, hp.nd, hp.sl, hp.lim, fun r hr => by simp [bare] at hr, by simp [bare]⟩
  · have := g.pl
    simpa using this
end RK
namespace RK
open PySem PySem.Spec PyProof.Rows L2 RT
/-! ### rows, and the word of one -/
structure Row where
  sh : Str
  sk : Str
  pe : Str
def rowD (r : Row) : PyData := .tuple [.str r.sh, .str r.sk, .str r.pe]
def okR (r : Row) : Prop := okD (.str r.sh) = true ∧ okD (.str r.sk) = true ∧ okD (.str r.pe) = true
def keyR (r : Row) : Str × Str := (r.sh, r.sk)
/-- the post and the person of a row, where both stand -/
def findN (ss : List Shift) (r : Row) : Option SN := (allN ss).find? fun x => decide (keyN x = keyR r)
def findQ (ps : List Person) (r : Row) : Option Person := ps.find? fun q => decide (q.name = r.pe)
def dayR (ss : List Shift) (r : Row) : Int := match findN ss r with
  | some x => dayS x.1
  | none => 0
def ownR (ahead : List Row) (r : Row) : List Row := ahead.filter fun o => decide (o.pe = r.pe)
def wordB (ps : List Person) (ss : List Shift) (r : Row) (ahead : List Row) : Str := match findN ss r, findQ ps r with
  | some x, some q => if mayB q x.1 x.2.1 = true then
      (if dayS x.1 ∈ (ownR ahead r).map (dayR ss) then "twice" else if (q.limit : Int) ≤ ((ownR ahead r).length : Nat) then "over" else "")
    else "unfit"
  | _, _ => "stranger"
/-- rows whose posts and people stand -/
def known (ps : List Person) (ss : List Shift) (r : Row) : Prop := (findN ss r).isSome = true ∧ (findQ ps r).isSome = true
theorem wordB_known {ps : List Person} {ss : List Shift} {r : Row} {ahead : List Row} (h : wordB ps ss r ahead ≠ "stranger") : known ps ss r := by
  unfold wordB at h
  unfold known
  cases e1 : findN ss r with
  | none => rw [e1] at h; exact absurd rfl h
  | some x =>
    cases e2 : findQ ps r with
    | none => rw [e1, e2] at h; exact absurd rfl h
    | some q => exact ⟨rfl, rfl⟩
theorem findN_some {ss : List Shift} {r : Row} {x : SN} (h : findN ss r = some x) : x ∈ allN ss ∧ keyN x = keyR r := by
  unfold findN at h
  exact ⟨List.mem_of_find?_eq_some h, by simpa using List.find?_some h⟩
theorem findN_none {ss : List Shift} {r : Row} (h : findN ss r = none) : keyR r ∉ (allN ss).map keyN := fun hm => by
  unfold findN at h
  obtain ⟨x, hx, e⟩ := List.mem_map.mp hm
  rw [List.find?_eq_none] at h
  have := h x hx
  simp [e] at this
theorem findQ_some {ps : List Person} {r : Row} {q : Person} (h : findQ ps r = some q) : q ∈ ps ∧ q.name = r.pe := by
  unfold findQ at h
  exact ⟨List.mem_of_find?_eq_some h, by simpa using List.find?_some h⟩
theorem findQ_none {ps : List Person} {r : Row} (h : findQ ps r = none) : r.pe ∉ ps.map (·.name) := fun hm => by
  unfold findQ at h
  obtain ⟨x, hx, e⟩ := List.mem_map.mp hm
  rw [List.find?_eq_none] at h
  have := h x hx
  simp [e] at this
/-- the list of faults -/
def stepB (ps : List Person) (ss : List Shift) (a : List PyData × List Row) (k : Nat) (r : Row) : List PyData × List Row :=
  let w := wordB ps ss r a.2
  (if w = "" then a.1 else a.1 ++ [.tuple [.str w, .int (k : Int)]], if w = "stranger" then a.2 else a.2 ++ [r])
def goB (ps : List Person) (ss : List Shift) : Nat → List PyData × List Row → List Row → List PyData × List Row
  | _, a, [] => a
  | k, a, r :: rs => goB ps ss (k + 1) (stepB ps ss a k r) rs
def manyB (ahead : List Row) (x : SN) : Nat := (ahead.filter fun r => decide (keyR r = keyN x)).length
def moreB (ahead : List Row) (acc : List PyData) (x : SN) : List PyData :=
  let m : Int := (manyB ahead x : Nat)
  let a := if m < x.2.2 then acc ++ [.tuple [.str "few", .str x.1.name, .str x.2.1, .int (x.2.2 - m)]] else acc
  if x.2.2 < m then a ++ [.tuple [.str "many", .str x.1.name, .str x.2.1, .int (m - x.2.2)]] else a
def dueB (ps : List Person) (ss : List Shift) (rows : List Row) : List PyData :=
  let a := goB ps ss 0 ([], []) rows
  (allN ss).foldl (moreB a.2) a.1
theorem goB_len (ps : List Person) (ss : List Shift) : ∀ (rs : List Row) (k : Nat) (a : List PyData × List Row), (goB ps ss k a rs).1.length ≤ a.1.length + rs.length ∧ (goB ps ss k a rs).2.length ≤ a.2.length + rs.length
  | [], k, a => ⟨Nat.le_refl _, Nat.le_refl _⟩
  | r :: rs, k, a => by
    have h := goB_len ps ss rs (k + 1) (stepB ps ss a k r)
    have h1 : (stepB ps ss a k r).1.length ≤ a.1.length + 1 := by
      unfold stepB
      simp only
      split <;> simp
    have h2 : (stepB ps ss a k r).2.length ≤ a.2.length + 1 := by
      unfold stepB
      simp only
      split <;> simp
    simp only [goB, List.length_cons]
    omega
theorem goB_known (ps : List Person) (ss : List Shift) : ∀ (rs : List Row) (k : Nat) (a : List PyData × List Row), (∀ r ∈ a.2, known ps ss r) → ∀ r ∈ (goB ps ss k a rs).2, known ps ss r
  | [], k, a, h => h
  | r :: rs, k, a, h => by
    refine goB_known ps ss rs (k + 1) (stepB ps ss a k r) ?_
    unfold stepB
    simp only
    split
    · exact h
    · rename_i hw
      intro x hx
      rcases List.mem_append.mp hx with h1 | h1
      · exact h x h1
      · rw [List.mem_singleton] at h1
        subst h1
        exact wordB_known hw
theorem goB_sub (ps : List Person) (ss : List Shift) (P : Row → Prop) : ∀ (rs : List Row) (k : Nat) (a : List PyData × List Row), (∀ r ∈ a.2, P r) → (∀ r ∈ rs, P r) → ∀ r ∈ (goB ps ss k a rs).2, P r
  | [], k, a, h, _ => h
  | r :: rs, k, a, h, hr => by
    refine goB_sub ps ss P rs (k + 1) (stepB ps ss a k r) ?_ fun x hx => hr x (List.mem_cons_of_mem _ hx)
    unfold stepB
    simp only
    split
    · exact h
    · intro x hx
      rcases List.mem_append.mp hx with h1 | h1
      · exact h x h1
      · rw [List.mem_singleton] at h1
        subst h1
        exact hr _ List.mem_cons_self
/-- what an entry looks like -/
def okF (d : PyData) : Prop := okD d = true ∧ d.depth ≤ 4 ∧ flatD d = true ∧ ∃ l i, d = .tuple (l ++ [.int i])
theorem okF_pair {w : Str} (h : okD (.str w) = true) (k : Int) : okF (.tuple [.str w, .int k]) := by
  refine ⟨by simpa [okD, okDs] using h, by simp [PyData.depth, PyData.depthAll], by simp [flatD, flatDs], [.str w], k, rfl⟩
theorem okF_four {w s k : Str} (h : okD (.str w) = true) (h2 : okD (.str s) = true) (h3 : okD (.str k) = true) (i : Int) : okF (.tuple [.str w, .str s, .str k, .int i]) := by
  refine ⟨?_, by simp [PyData.depth, PyData.depthAll], by simp [flatD, flatDs], [.str w, .str s, .str k], i, rfl⟩
  simp only [okD, okDs, Bool.and_true] at *
  simp [h, h2, h3]
theorem wordB_ok (ps : List Person) (ss : List Shift) (r : Row) (ahead : List Row) : okD (.str (wordB ps ss r ahead)) = true := by
  unfold wordB
  split
  · split
    · split
      · decide +kernel
      · split <;> decide +kernel
    · decide +kernel
  · decide +kernel
theorem goB_okF (ps : List Person) (ss : List Shift) : ∀ (rs : List Row) (k : Nat) (a : List PyData × List Row), (∀ d ∈ a.1, okF d) → ∀ d ∈ (goB ps ss k a rs).1, okF d
  | [], k, a, h => h
  | r :: rs, k, a, h => by
    refine goB_okF ps ss rs (k + 1) (stepB ps ss a k r) ?_
    unfold stepB
    simp only
    split
    · exact h
    · intro x hx
      rcases List.mem_append.mp hx with h1 | h1
      · exact h x h1
      · rw [List.mem_singleton] at h1
        subst h1
        exact okF_pair (wordB_ok ps ss r a.2) _
theorem okD_few : okD (.str "few") = true := by decide +kernel
theorem okD_many : okD (.str "many") = true := by decide +kernel
theorem moreB_okF {ahead : List Row} {acc : List PyData} {x : SN} (h : ∀ d ∈ acc, okF d) (hx : okP (keyN x)) : ∀ d ∈ moreB ahead acc x, okF d := by
  unfold moreB
  simp only
  have h1 : ∀ d ∈ (if ((manyB ahead x : Nat) : Int) < x.2.2 then acc ++ [.tuple [.str "few", .str x.1.name, .str x.2.1, .int (x.2.2 - ((manyB ahead x : Nat) : Int))]] else acc), okF d := by
    split
    · intro d hd
      rcases List.mem_append.mp hd with h2 | h2
      · exact h d h2
      · rw [List.mem_singleton] at h2
        subst h2
        exact okF_four okD_few hx.1 hx.2 _
    · exact h
  split
  · intro d hd
    rcases List.mem_append.mp hd with h2 | h2
    · exact h1 d h2
    · rw [List.mem_singleton] at h2
      subst h2
      exact okF_four okD_many hx.1 hx.2 _
  · exact h1
theorem moreB_len (ahead : List Row) (acc : List PyData) (x : SN) : (moreB ahead acc x).length ≤ acc.length + 2 := by
  unfold moreB
  simp only
  split <;> split <;> simp
theorem foldl_more_okF {ahead : List Row} : ∀ (l : List SN) (acc : List PyData), (∀ x ∈ l, okP (keyN x)) → (∀ d ∈ acc, okF d) → ∀ d ∈ l.foldl (moreB ahead) acc, okF d
  | [], acc, _, h => h
  | x :: l, acc, hx, h => foldl_more_okF l (moreB ahead acc x) (fun y hy => hx y (List.mem_cons_of_mem _ hy)) (moreB_okF h (hx x List.mem_cons_self))
theorem foldl_more_len {ahead : List Row} : ∀ (l : List SN) (acc : List PyData), (l.foldl (moreB ahead) acc).length ≤ acc.length + 2 * l.length
  | [], acc => Nat.le_refl _
  | x :: l, acc => by
    have h := foldl_more_len (ahead := ahead) l (moreB ahead acc x)
    have h2 := moreB_len ahead acc x
    simp only [List.foldl_cons, List.length_cons]
    omega
theorem dueB_ok {ps : List Person} {ss : List Shift} (hss : ∀ x ∈ allN ss, okP (keyN x)) (rows : List Row) : ∀ d ∈ dueB ps ss rows, okF d :=
  foldl_more_okF _ _ hss (goB_okF ps ss rows 0 ([], []) fun d hd => by cases hd)
theorem dueB_len {ps : List Person} {ss : List Shift} (rows : List Row) : (dueB ps ss rows).length ≤ rows.length + 2 * (allN ss).length := by
  have h1 := (goB_len ps ss rows 0 ([], [])).1
  have h2 := foldl_more_len (ahead := (goB ps ss 0 ([], []) rows).2) (allN ss) (goB ps ss 0 ([], []) rows).1
  show ((allN ss).foldl (moreB (goB ps ss 0 ([], []) rows).2) (goB ps ss 0 ([], []) rows).1).length ≤ _
  simp only [List.length_nil] at h1
  omega
end RK
namespace RK
open PySem PySem.Spec PyProof.Rows L2 RT
theorem gIn_ints (k : Int) (o : List Int) : gIn (.int k) (.list (o.map .int)) = some (.bool (decide (k ∈ o))) := gIn_intsN false k o
theorem findN_is {ss : List Shift} {r : Row} : (findN ss r).isSome = decide (keyR r ∈ (allN ss).map keyN) := by
  cases e : findN ss r with
  | none => simp [findN_none e]
  | some x =>
    obtain ⟨h1, h2⟩ := findN_some e
    have : keyR r ∈ (allN ss).map keyN := by rw [← h2]; exact List.mem_map_of_mem h1
    simp [this]
theorem findQ_is {ps : List Person} {r : Row} : (findQ ps r).isSome = decide (r.pe ∈ ps.map (·.name)) := by
  cases e : findQ ps r with
  | none => simp [findQ_none e]
  | some x =>
    obtain ⟨h1, h2⟩ := findQ_some e
    have : r.pe ∈ ps.map (·.name) := by rw [← h2]; exact List.mem_map_of_mem h1
    simp [this]
section
variable {ps : List Person} {ss : List Shift} (g : GM ps ss)
include g
theorem known_ok {r : Row} (hr : okR r) : fr_is_known ⟨ps, ss⟩ [rowD r] = .ret (.bool ((findN ss r).isSome && (findQ ps r).isSome)) := by
  refine frOf_eq fun a => ?_
  rw [runF_eq]
  have hk : only a (kB.inj ⟨ps, ss⟩) = only a (.book ⟨ps, ss⟩) := rfl
  have h0 : rho0 N_is_known [refD a, rowD r] = [.val (refD a), .val (rowD r)] := by simp [rho0, N_is_known]
  have v1 : eMeth kB (only a (.book ⟨ps, ss⟩)) 0 fr_posts eNil [.val (refD a), .val (rowD r)] = some (.list (((allN ss).map keyN).map postD)) := by
    rw [eMeth_eq, bookAt a _ _ 0 rfl, Option.bind_some, eNil_eq, Option.bind_some, posts_at g]
    rfl
  have v2 : eMeth kB (only a (.book ⟨ps, ss⟩)) 0 fr_people eNil [.val (refD a), .val (rowD r)] = some (.list ((ps.map (·.name)).map .str)) := by
    rw [eMeth_eq, bookAt a _ _ 0 rfl, Option.bind_some, eNil_eq, Option.bind_some, people_at g]
    rfl
  have oP : ∀ p ∈ (allN ss).map keyN, okP p := fun p hp => by
    obtain ⟨x, hx, rfl⟩ := List.mem_map.mp hp
    exact okP_at g hx
  have g1 : gIn (.tuple [.str r.sh, .str r.sk]) (.list (((allN ss).map keyN).map postD)) = some (.bool (decide (keyR r ∈ (allN ss).map keyN))) := gIn_posts (p := keyR r) ⟨hr.1, hr.2.1⟩ oP
  have g2 := gIn_strs r.pe (ps.map (·.name))
  rw [findN_is, findQ_is]
  have hb : ∃ ρ, b_is_known (only a (kB.inj ⟨ps, ss⟩)) (rho0 N_is_known [refD a, rowD r]) = .rt (.bool (decide (keyR r ∈ (allN ss).map keyN) && decide (r.pe ∈ ps.map (·.name)))) ρ := by
    unfold b_is_known
    have hm : ([.val (refD a), .val (rowD r)] : Rho).map frz1 = [.val (refD a), .val (rowD r)] := rfl
    have v : eAndF (eOp gIn (eTupD (eCons (eOp gIx (eVarB 1) (eC (.int 0))) (eCons (eOp gIx (eVarB 1) (eC (.int 1))) eNil))) (eMeth kB (only a (.book ⟨ps, ss⟩)) 0 fr_posts eNil)) (eOp gIn (eOp gIx (eVarB 1) (eC (.int 2))) (eMeth kB (only a (.book ⟨ps, ss⟩)) 0 fr_people eNil)) [.val (refD a), .val (rowD r)] = some (.bool (decide (keyR r ∈ (allN ss).map keyN) && decide (r.pe ∈ ps.map (·.name)))) := by
      rw [eAndF_eq, eOp_eq, eOp_eq, v1, v2]
      generalize decide (keyR r ∈ (allN ss).map keyN) = b1 at g1 ⊢
      generalize decide (r.pe ∈ ps.map (·.name)) = b2 at g2 ⊢
      generalize PyData.list (((allN ss).map keyN).map postD) = d1 at g1 ⊢
      generalize PyData.list ((ps.map (·.name)).map PyData.str) = d2 at g2 ⊢
      cases b1 <;> simp [rowD, g1, g2]
    rw [hk, h0, sRet_eq, hm, v]
    exact ⟨_, rfl⟩
  obtain ⟨ρ, hb⟩ := hb
  show (if (2 : Nat) = 2 then _ else _) = _
  rw [if_pos rfl, hb]
  rfl
theorem fault_ok {r : Row} (hr : okR r) {ahead : List Row} (hk : ∀ o ∈ ahead, known ps ss o) (hl : ahead.length ≤ 1000) : fr_fault_of ⟨ps, ss⟩ [rowD r, .list (ahead.map rowD)] = .ret (.str (wordB ps ss r ahead)) := by
  refine frOf_eq fun a => ?_
  rw [runF_eq]
  have hk0 : only a (kB.inj ⟨ps, ss⟩) = only a (.book ⟨ps, ss⟩) := rfl
  have h0 : rho0 N_fault_of [refD a, rowD r, .list (ahead.map rowD)] = [.val (refD a), .val (rowD r), .val (.list (ahead.map rowD)), .no, .no, .no] := by simp [rho0, N_fault_of]
  have kn := known_ok g hr
  have ll : ahead.length ≤ LIM := Nat.le_trans hl (by decide)
  have hb : ∃ ρ, b_fault_of (only a (kB.inj ⟨ps, ss⟩)) (rho0 N_fault_of [refD a, rowD r, .list (ahead.map rowD)]) = .rt (.str (wordB ps ss r ahead)) ρ := by
    unfold b_fault_of
    rw [hk0, h0]
    have t1 : tNotF (bF (eMeth kB (only a (.book ⟨ps, ss⟩)) 0 fr_is_known (eCons (eVar 1) eNil))) [.val (refD a), .val (rowD r), .val (.list (ahead.map rowD)), .no, .no, .no] = some (!((findN ss r).isSome && (findQ ps r).isSome)) := by
      rw [tNotF_eq, bF_eq, eMeth_eq, bookAt a _ _ 0 rfl, Option.bind_some]
      simp [kn, Res.ok]
    rw [sSeq_eq, sIf_eq, t1]
    unfold wordB
    cases e1 : findN ss r with
    | none => simp
    | some x =>
      cases e2 : findQ ps r with
      | none => simp
      | some q =>
        obtain ⟨hx, ex⟩ := findN_some e1
        obtain ⟨hq, eq⟩ := findQ_some e2
        obtain ⟨sh, sk, pe⟩ := r
        simp only [keyN, keyR, Prod.mk.injEq] at ex eq
        obtain ⟨ex1, ex2⟩ := ex
        have fm := may_at g hq hx
        have fs := stretch_at g hx
        have fl := limit_at g hq
        have fd := day_of_at x.1
        rw [ex1, ex2, eq] at fm
        rw [ex1] at fs
        rw [eq] at fl
        simp only [Option.isSome_some, Bool.and_self, Bool.not_true, outB_some, Bool.false_eq_true, if_false, sNext_eq, thn_nx]
        have t2 : tNotF (bF (eMeth kB (only a (.book ⟨ps, ss⟩)) 0 fr_may (eCons (eOp gIx (eVarB 1) (eC (.int 2))) (eCons (eOp gIx (eVarB 1) (eC (.int 0))) (eCons (eOp gIx (eVarB 1) (eC (.int 1))) eNil))))) [.val (refD a), .val (rowD ⟨sh, sk, pe⟩), .val (.list (ahead.map rowD)), .no, .no, .no] = some (!(mayB q x.1 x.2.1)) := by
          rw [tNotF_eq, bF_eq, eMeth_eq, bookAt a _ _ 0 rfl, Option.bind_some]
          simp [rowD, fm, Res.ok, ex2]
        rw [sSeq_eq, sIf_eq, t2]
        cases hm : mayB q x.1 x.2.1 with
        | false => simp
        | true =>
          simp only [Bool.not_true, outB_some, Bool.false_eq_true, if_false, sNext_eq, thn_nx, if_true]
          have s3 : sSet 3 (eCall F_day_of (eCons (eMeth kB (only a (.book ⟨ps, ss⟩)) 0 fr_stretch_of (eCons (eOp gIx (eVarB 1) (eC (.int 0))) eNil)) eNil)) [.val (refD a), .val (rowD ⟨sh, sk, pe⟩), .val (.list (ahead.map rowD)), .no, .no, .no] = .nx [.val (refD a), .val (rowD ⟨sh, sk, pe⟩), .val (.list (ahead.map rowD)), .val (.int (dayS x.1)), .no, .no] := by
            have v : eMeth kB (only a (.book ⟨ps, ss⟩)) 0 fr_stretch_of (eCons (eOp gIx (eVarB 1) (eC (.int 0))) eNil) [.val (refD a), .val (rowD ⟨sh, sk, pe⟩), .val (.list (ahead.map rowD)), .no, .no, .no] = some (stD (x.1.b, x.1.e)) := by
              rw [eMeth_eq, bookAt a _ _ 0 rfl, Option.bind_some]
              simp [rowD, fs, Res.ok]
            rw [sSet_eq, eCall_eq, eCons_eq, v]
            simp [fd]
          have lc4 : lcF 5 (bF (eOp gEq (eOp gIx (eVarB 5) (eC (.int 2))) (eOp gIx (eVarB 1) (eC (.int 2))))) (eVar 5) [.val (refD a), .val (rowD ⟨sh, sk, pe⟩), .val (.list (ahead.map rowD)), .val (.int (dayS x.1)), .no, .no] (ahead.map rowD) = some ((ownR ahead ⟨sh, sk, pe⟩).map rowD) := by
            rw [lcF_mapped rowD (fun o => decide (o.pe = pe)) rowD]
            · rfl
            · intro o _
              simp only [rowD, bF_eq, eOp_eq, eVarB_eq, eC_eq, List.set_cons_succ, List.set_cons_zero, List.getElem?_cons_succ, List.getElem?_cons_zero, slB_val, Option.bind_some, gIx_tuple, atI_2, gEq_str, truD_bool]
              rw [Option.some.injEq, Bool.eq_iff_iff]
              simp
            · intro o _ _
              exact ⟨rfl, rfl⟩
          have s4 : sSet 4 (eList (lLc (iL (eVarB 2)) 5 (bF (eOp gEq (eOp gIx (eVarB 5) (eC (.int 2))) (eOp gIx (eVarB 1) (eC (.int 2))))) (eVar 5))) [.val (refD a), .val (rowD ⟨sh, sk, pe⟩), .val (.list (ahead.map rowD)), .val (.int (dayS x.1)), .no, .no] = .nx [.val (refD a), .val (rowD ⟨sh, sk, pe⟩), .val (.list (ahead.map rowD)), .val (.int (dayS x.1)), .val (.list ((ownR ahead ⟨sh, sk, pe⟩).map rowD)), .no] := by
            have i1 : iL (eVarB 2) [.val (refD a), .val (rowD ⟨sh, sk, pe⟩), .val (.list (ahead.map rowD)), .val (.int (dayS x.1)), .no, .no] = some (ahead.map rowD) := by simp [ll]
            rw [sSet_eq, eList_eq, lLc_eq, i1, Option.bind_some, if_pos (by rw [List.length_map]; exact ll), lc4]
            rfl
          have lo : (ownR ahead ⟨sh, sk, pe⟩).length ≤ LIM := Nat.le_trans (List.length_filter_le _ _) ll
          have lc5 : lcF 5 tYesF (eCall F_day_of (eCons (eMeth kB (only a (.book ⟨ps, ss⟩)) 0 fr_stretch_of (eCons (eOp gIx (eVarB 5) (eC (.int 0))) eNil)) eNil)) [.val (refD a), .val (rowD ⟨sh, sk, pe⟩), .val (.list (ahead.map rowD)), .val (.int (dayS x.1)), .val (.list ((ownR ahead ⟨sh, sk, pe⟩).map rowD)), .no] ((ownR ahead ⟨sh, sk, pe⟩).map rowD) = some (((ownR ahead ⟨sh, sk, pe⟩).map (dayR ss)).map .int) := by
            rw [lcF_mappedT rowD (fun o => .int (dayR ss o))]
            · rw [List.map_map]; rfl
            · intro o ho
              refine ⟨?_, rfl⟩
              have ko := (hk o (List.mem_filter.mp ho).1).1
              cases e3 : findN ss o with
              | none => rw [e3] at ko; cases ko
              | some y =>
                obtain ⟨hy, ey⟩ := findN_some e3
                have fy := stretch_at g hy
                have dy := day_of_at y.1
                simp only [keyN, keyR, Prod.mk.injEq] at ey
                rw [ey.1] at fy
                have v : eMeth kB (only a (.book ⟨ps, ss⟩)) 0 fr_stretch_of (eCons (eOp gIx (eVarB 5) (eC (.int 0))) eNil) [.val (refD a), .val (rowD ⟨sh, sk, pe⟩), .val (.list (ahead.map rowD)), .val (.int (dayS x.1)), .val (.list ((ownR ahead ⟨sh, sk, pe⟩).map rowD)), .val (rowD o)] = some (stD (y.1.b, y.1.e)) := by
                  rw [eMeth_eq, bookAt a _ _ 0 rfl, Option.bind_some]
                  simp [rowD, fy, Res.ok]
                show eCall F_day_of _ [.val (refD a), .val (rowD ⟨sh, sk, pe⟩), .val (.list (ahead.map rowD)), .val (.int (dayS x.1)), .val (.list ((ownR ahead ⟨sh, sk, pe⟩).map rowD)), .val (rowD o)] = _
                rw [eCall_eq, eCons_eq, v]
                simp [dy, dayR, e3]
          have t5 : bF (eOp gIn (eVarB 3) (eList (lLc (iL (eVarB 4)) 5 tYesF (eCall F_day_of (eCons (eMeth kB (only a (.book ⟨ps, ss⟩)) 0 fr_stretch_of (eCons (eOp gIx (eVarB 5) (eC (.int 0))) eNil)) eNil))))) [.val (refD a), .val (rowD ⟨sh, sk, pe⟩), .val (.list (ahead.map rowD)), .val (.int (dayS x.1)), .val (.list ((ownR ahead ⟨sh, sk, pe⟩).map rowD)), .no] = some (decide (dayS x.1 ∈ (ownR ahead ⟨sh, sk, pe⟩).map (dayR ss))) := by
            have i1 : iL (eVarB 4) [.val (refD a), .val (rowD ⟨sh, sk, pe⟩), .val (.list (ahead.map rowD)), .val (.int (dayS x.1)), .val (.list ((ownR ahead ⟨sh, sk, pe⟩).map rowD)), .no] = some ((ownR ahead ⟨sh, sk, pe⟩).map rowD) := by simp [lo]
            have gi := gIn_ints (dayS x.1) ((ownR ahead ⟨sh, sk, pe⟩).map (dayR ss))
            rw [bF_eq, eOp_eq, eList_eq, lLc_eq, i1, Option.bind_some, if_pos (by rw [List.length_map]; exact lo), lc5]
            show ((some (PyData.int (dayS x.1))).bind fun z => (some (PyData.list _)).bind fun y => gIn z y).bind truD = _
            rw [Option.bind_some, Option.bind_some, gi]
            rfl
          have t6 : bF (eOp gGe (eCall gLen (eCons (eVarB 4) eNil)) (eMeth kB (only a (.book ⟨ps, ss⟩)) 0 fr_limit_of (eCons (eOp gIx (eVarB 1) (eC (.int 2))) eNil))) [.val (refD a), .val (rowD ⟨sh, sk, pe⟩), .val (.list (ahead.map rowD)), .val (.int (dayS x.1)), .val (.list ((ownR ahead ⟨sh, sk, pe⟩).map rowD)), .no] = some (decide (q.limit ≤ ((ownR ahead ⟨sh, sk, pe⟩).length : Nat))) := by
            have v : eMeth kB (only a (.book ⟨ps, ss⟩)) 0 fr_limit_of (eCons (eOp gIx (eVarB 1) (eC (.int 2))) eNil) [.val (refD a), .val (rowD ⟨sh, sk, pe⟩), .val (.list (ahead.map rowD)), .val (.int (dayS x.1)), .val (.list ((ownR ahead ⟨sh, sk, pe⟩).map rowD)), .no] = some (.int q.limit) := by
              rw [eMeth_eq, bookAt a _ _ 0 rfl, Option.bind_some]
              simp [rowD, fl, Res.ok]
            rw [bF_eq, eOp_eq, v]
            simp
          rw [sSeq_eq, s3, thn_nx, sSeq_eq, s4, thn_nx, sSeq_eq, sIf_eq, t5, outB_some]
          by_cases c1 : dayS x.1 ∈ (ownR ahead ⟨sh, sk, pe⟩).map (dayR ss)
          · simp only [c1, decide_true, if_true]
            exact ⟨_, rfl⟩
          · simp only [c1, decide_false, Bool.false_eq_true, if_false, sNext_eq, thn_nx]
            rw [sSeq_eq, sIf_eq, t6, outB_some]
            by_cases c2 : q.limit ≤ ((ownR ahead ⟨sh, sk, pe⟩).length : Nat)
            · simp only [c2, decide_true, if_true]
              exact ⟨_, rfl⟩
            · simp only [c2, decide_false, Bool.false_eq_true, if_false, sNext_eq, thn_nx]
              exact ⟨_, rfl⟩
  obtain ⟨ρ, hb⟩ := hb
  show (if (3 : Nat) = 3 then _ else _) = _
  rw [if_pos rfl, hb]
  rfl
end
end RK
namespace RK
open PySem PySem.Spec PyProof.Rows L2 RT
theorem forF_cons2 {a : SS} (i j : Nat) (x y : PyData) (ds : List PyData) (ρ : Rho) : forF (tg2 i j) a (.tuple [x, y] :: ds) ρ = (a ((ρ.set i (.val x)).set j (.val y))).thn (forF (tg2 i j) a ds) := by
  simp only [forF, tg2]
  cases a ((ρ.set i (.val x)).set j (.val y)) <;> rfl
theorem gEq_posts {p q : Str × Str} (hp : okP p) (hq : okP q) : gEq (postD p) (postD q) = some (.bool (decide (p = q))) := by
  have h1 := shaped_post hp
  have h2 := shaped_post hq
  have e := eqv_postD q p
  show gEqD (postD p) (postD q) = _
  unfold gEqD
  simp only [h1, h2, e]
  rfl
def rhoF (a : Addr) (rows : List Row) (found : List PyData) (ahead : List Row) (s4 s5 s6 s7 s8 s9 : Sl) : Rho := [.val (refD a), .val (.list (rows.map rowD)), .own found, .own (ahead.map rowD), s4, s5, s6, s7, s8, s9]
section
variable {ps : List Person} {ss : List Shift} (g : GM ps ss)
include g
theorem faults1 (a : Addr) (rows : List Row) : ∀ (rs : List Row) (k : Nat) (A : List PyData × List Row) (s4 s5 s6 : Sl), (∀ r ∈ rs, okR r) → (∀ r ∈ A.2, known ps ss r) → A.1.length + rs.length ≤ 1000 → A.2.length + rs.length ≤ 1000 →
    ∃ s4' s5' s6', forF (tg2 4 5) (sSeq (sSet 6 (fun ρ => onlyS (eMeth kB (only a (.book ⟨ps, ss⟩)) 0 fr_fault_of (eCons (eVar 5) (eCons (eVarB 3) eNil)) ρ)))
  (sSeq (sIf (bF (eOp gNe (eVarB 6) (eC (.str "")))) (sApp 2 (eTupD (eCons (eVar 6) (eCons (eVar 4) eNil)))) sNext)
  (sIf (bF (eOp gNe (eVarB 6) (eC (.str "stranger")))) (sApp 3 (eVar 5)) sNext))) (enumD k (rs.map rowD)) (rhoF a rows A.1 A.2 s4 s5 s6 .no .no .no) = .nx (rhoF a rows (goB ps ss k A rs).1 (goB ps ss k A rs).2 s4' s5' s6' .no .no .no)
  | [], k, A, s4, s5, s6, _, _, _, _ => ⟨s4, s5, s6, rfl⟩
  | r :: rs, k, A, s4, s5, s6, hr, hk, l1, l2 => by
    have l2' : A.2.length ≤ 1000 := by omega
    have fw := fault_ok g (hr r List.mem_cons_self) hk l2'
    have kn : ∀ o ∈ (stepB ps ss A k r).2, known ps ss o := by
      unfold stepB
      simp only
      split
      · exact hk
      · rename_i hw
        intro x hx
        rcases List.mem_append.mp hx with h1 | h1
        · exact hk x h1
        · rw [List.mem_singleton] at h1
          subst h1
          exact wordB_known hw
    have h1 : (stepB ps ss A k r).1.length ≤ A.1.length + 1 := by
      unfold stepB
      simp only
      split <;> simp
    have h2 : (stepB ps ss A k r).2.length ≤ A.2.length + 1 := by
      unfold stepB
      simp only
      split <;> simp
    obtain ⟨s4', s5', s6', e⟩ := faults1 a rows rs (k + 1) (stepB ps ss A k r) (.val (.int (k : Nat))) (.val (rowD r)) (.val (.str (wordB ps ss r A.2))) (fun x hx => hr x (List.mem_cons_of_mem _ hx)) kn (by simp at l1; omega) (by simp at l2; omega)
    refine ⟨s4', s5', s6', ?_⟩
    rw [List.map_cons, enumD, forF_cons2]
    have c1 : sSet 6 (fun ρ => onlyS (eMeth kB (only a (.book ⟨ps, ss⟩)) 0 fr_fault_of (eCons (eVar 5) (eCons (eVarB 3) eNil)) ρ)) (((rhoF a rows A.1 A.2 s4 s5 s6 .no .no .no).set 4 (.val (.int (k : Nat)))).set 5 (.val (rowD r))) = .nx (rhoF a rows A.1 A.2 (.val (.int (k : Nat))) (.val (rowD r)) (.val (.str (wordB ps ss r A.2))) .no .no .no) := by
      have v : onlyS (eMeth kB (only a (.book ⟨ps, ss⟩)) 0 fr_fault_of (eCons (eVar 5) (eCons (eVarB 3) eNil)) (((rhoF a rows A.1 A.2 s4 s5 s6 .no .no .no).set 4 (.val (.int (k : Nat)))).set 5 (.val (rowD r)))) = some (.str (wordB ps ss r A.2)) := by
        rw [eMeth_eq, bookAt a _ _ 0 rfl, Option.bind_some]
        simp [rhoF, fw, Res.ok]
      rw [sSet_eq, v]
      rfl
    rw [sSeq_eq, c1, thn_nx, sSeq_eq]
    have lA1 : A.1.length ≤ LIM := by unfold LIM; omega
    have lA2 : A.2.length ≤ LIM := by unfold LIM; omega
    have c2 : (sIf (bF (eOp gNe (eVarB 6) (eC (.str "")))) (sApp 2 (eTupD (eCons (eVar 6) (eCons (eVar 4) eNil)))) sNext) (rhoF a rows A.1 A.2 (.val (.int (k : Nat))) (.val (rowD r)) (.val (.str (wordB ps ss r A.2))) .no .no .no) = .nx (rhoF a rows (stepB ps ss A k r).1 A.2 (.val (.int (k : Nat))) (.val (rowD r)) (.val (.str (wordB ps ss r A.2))) .no .no .no) := by
      unfold stepB
      generalize wordB ps ss r A.2 = w
      by_cases hw : w = ""
      · simp [hw, rhoF]
      · simp [hw, rhoF, lA1, dataD]
    have c3 : (sIf (bF (eOp gNe (eVarB 6) (eC (.str "stranger")))) (sApp 3 (eVar 5)) sNext) (rhoF a rows (stepB ps ss A k r).1 A.2 (.val (.int (k : Nat))) (.val (rowD r)) (.val (.str (wordB ps ss r A.2))) .no .no .no) = .nx (rhoF a rows (stepB ps ss A k r).1 (stepB ps ss A k r).2 (.val (.int (k : Nat))) (.val (rowD r)) (.val (.str (wordB ps ss r A.2))) .no .no .no) := by
      generalize (stepB ps ss A k r).1 = f1
      have e2 : (stepB ps ss A k r).2 = if wordB ps ss r A.2 = "stranger" then A.2 else A.2 ++ [r] := rfl
      rw [e2]
      generalize wordB ps ss r A.2 = w
      by_cases hw : w = "stranger"
      · simp [hw, rhoF]
      · have dr : dataD (rowD r) = true := rfl
        simp [hw, rhoF, lA2, dr]
    rw [c2, thn_nx, c3, thn_nx]
    exact e
theorem faults2 (a : Addr) (rows ahead : List Row) (hah : ∀ r ∈ ahead, okR r) (hl : ahead.length ≤ 1000) (s4 s5 s6 : Sl) : ∀ (L : List SN) (acc : List PyData) (s7 s8 s9 : Sl), (∀ x ∈ L, x ∈ allN ss) → acc.length + 2 * L.length ≤ 2000 →
    ∃ s7' s8' s9', forF (tg1 7) (sSeq (sSet 8 (eCall gLen (eCons (eList (lLc (iL (eVarB 3)) 5 (bF (eOp gEq (eTupD (eCons (eOp gIx (eVarB 5) (eC (.int 0))) (eCons (eOp gIx (eVarB 5) (eC (.int 1))) eNil))) (eVarB 7))) (eVar 5))) eNil)))
  (sSeq (sSet 9 (eMeth kB (only a (.book ⟨ps, ss⟩)) 0 fr_count_of (eCons (eOp gIx (eVarB 7) (eC (.int 0))) (eCons (eOp gIx (eVarB 7) (eC (.int 1))) eNil))))
  (sSeq (sIf (bF (eOp gLt (eVarB 8) (eVarB 9))) (sApp 2 (eTupD (eCons (eC (.str "few")) (eCons (eOp gIx (eVarB 7) (eC (.int 0))) (eCons (eOp gIx (eVarB 7) (eC (.int 1))) (eCons (eOp gMinus (eVarB 9) (eVarB 8)) eNil)))))) sNext)
  (sIf (bF (eOp gGt (eVarB 8) (eVarB 9))) (sApp 2 (eTupD (eCons (eC (.str "many")) (eCons (eOp gIx (eVarB 7) (eC (.int 0))) (eCons (eOp gIx (eVarB 7) (eC (.int 1))) (eCons (eOp gMinus (eVarB 8) (eVarB 9)) eNil)))))) sNext)))) (L.map fun x => postD (keyN x)) (rhoF a rows acc ahead s4 s5 s6 s7 s8 s9) = .nx (rhoF a rows (L.foldl (moreB ahead) acc) ahead s4 s5 s6 s7' s8' s9')
  | [], acc, s7, s8, s9, _, _ => ⟨s7, s8, s9, rfl⟩
  | x :: L, acc, s7, s8, s9, hL, hla => by
    have hx := hL x List.mem_cons_self
    have ml := moreB_len ahead acc x
    obtain ⟨s7', s8', s9', e⟩ := faults2 a rows ahead hah hl s4 s5 s6 L (moreB ahead acc x) (.val (postD (keyN x))) (.val (.int (manyB ahead x : Nat))) (.val (.int x.2.2)) (fun y hy => hL y (List.mem_cons_of_mem _ hy)) (by simp at hla; omega)
    refine ⟨s7', s8', s9', ?_⟩
    rw [List.map_cons, forF_cons1]
    show ((sSeq _ _ (rhoF a rows acc ahead s4 s5 s6 (.val (postD (keyN x))) s8 s9)).thn _) = _
    have ll : ahead.length ≤ LIM := Nat.le_trans hl (by decide)
    have lc : lcF 5 (bF (eOp gEq (eTupD (eCons (eOp gIx (eVarB 5) (eC (.int 0))) (eCons (eOp gIx (eVarB 5) (eC (.int 1))) eNil))) (eVarB 7))) (eVar 5) (rhoF a rows acc ahead s4 s5 s6 (.val (postD (keyN x))) s8 s9) (ahead.map rowD) = some ((ahead.filter fun r => decide (keyR r = keyN x)).map rowD) := by
      rw [lcF_mapped rowD (fun r => decide (keyR r = keyN x)) rowD]
      · intro r hr
        have o := hah r hr
        have ge := gEq_posts (p := keyR r) (q := keyN x) ⟨o.1, o.2.1⟩ (okP_at g hx)
        have ge' : gEq (.tuple [.str r.sh, .str r.sk]) (postD (keyN x)) = some (.bool (decide (keyR r = keyN x))) := ge
        generalize postD (keyN x) = pd at ge' ⊢
        simp [rhoF, rowD, ge']
      · intro r _ _
        exact ⟨rfl, rfl⟩
    have i3 : iL (eVarB 3) (rhoF a rows acc ahead s4 s5 s6 (.val (postD (keyN x))) s8 s9) = some (ahead.map rowD) := by simp [rhoF, ll]
    have c1 : sSet 8 (eCall gLen (eCons (eList (lLc (iL (eVarB 3)) 5 (bF (eOp gEq (eTupD (eCons (eOp gIx (eVarB 5) (eC (.int 0))) (eCons (eOp gIx (eVarB 5) (eC (.int 1))) eNil))) (eVarB 7))) (eVar 5))) eNil)) (rhoF a rows acc ahead s4 s5 s6 (.val (postD (keyN x))) s8 s9) = .nx (rhoF a rows acc ahead s4 s5 s6 (.val (postD (keyN x))) (.val (.int (manyB ahead x : Nat))) s9) := by
      rw [sSet_eq, eCall_eq, eCons_eq, eList_eq, lLc_eq, i3, Option.bind_some, if_pos (by rw [List.length_map]; exact ll), lc]
      simp [rhoF, manyB]
    have fc := count_at g hx
    have c2 : sSet 9 (eMeth kB (only a (.book ⟨ps, ss⟩)) 0 fr_count_of (eCons (eOp gIx (eVarB 7) (eC (.int 0))) (eCons (eOp gIx (eVarB 7) (eC (.int 1))) eNil))) (rhoF a rows acc ahead s4 s5 s6 (.val (postD (keyN x))) (.val (.int (manyB ahead x : Nat))) s9) = .nx (rhoF a rows acc ahead s4 s5 s6 (.val (postD (keyN x))) (.val (.int (manyB ahead x : Nat))) (.val (.int x.2.2))) := by
      have v : eMeth kB (only a (.book ⟨ps, ss⟩)) 0 fr_count_of (eCons (eOp gIx (eVarB 7) (eC (.int 0))) (eCons (eOp gIx (eVarB 7) (eC (.int 1))) eNil)) (rhoF a rows acc ahead s4 s5 s6 (.val (postD (keyN x))) (.val (.int (manyB ahead x : Nat))) s9) = some (.int x.2.2) := by
        rw [eMeth_eq, bookAt a _ _ 0 rfl, Option.bind_some]
        simp [rhoF, postD, keyN, fc, Res.ok]
      rw [sSet_eq, v]
      rfl
    rw [sSeq_eq, c1, thn_nx, sSeq_eq, c2, thn_nx, sSeq_eq]
    have la : acc.length ≤ LIM := by unfold LIM; omega
    have la2 : acc.length + 1 ≤ LIM := by unfold LIM; omega
    have fin : (((sIf (bF (eOp gLt (eVarB 8) (eVarB 9))) (sApp 2 (eTupD (eCons (eC (.str "few")) (eCons (eOp gIx (eVarB 7) (eC (.int 0))) (eCons (eOp gIx (eVarB 7) (eC (.int 1))) (eCons (eOp gMinus (eVarB 9) (eVarB 8)) eNil)))))) sNext) (rhoF a rows acc ahead s4 s5 s6 (.val (postD (keyN x))) (.val (.int (manyB ahead x : Nat))) (.val (.int x.2.2)))).thn
        (sIf (bF (eOp gGt (eVarB 8) (eVarB 9))) (sApp 2 (eTupD (eCons (eC (.str "many")) (eCons (eOp gIx (eVarB 7) (eC (.int 0))) (eCons (eOp gIx (eVarB 7) (eC (.int 1))) (eCons (eOp gMinus (eVarB 8) (eVarB 9)) eNil)))))) sNext)) = .nx (rhoF a rows (moreB ahead acc x) ahead s4 s5 s6 (.val (postD (keyN x))) (.val (.int (manyB ahead x : Nat))) (.val (.int x.2.2))) := by
      have em : moreB ahead acc x = (if x.2.2 < ((manyB ahead x : Nat) : Int) then (if ((manyB ahead x : Nat) : Int) < x.2.2 then acc ++ [.tuple [.str "few", .str x.1.name, .str x.2.1, .int (x.2.2 - ((manyB ahead x : Nat) : Int))]] else acc) ++ [.tuple [.str "many", .str x.1.name, .str x.2.1, .int (((manyB ahead x : Nat) : Int) - x.2.2)]] else (if ((manyB ahead x : Nat) : Int) < x.2.2 then acc ++ [.tuple [.str "few", .str x.1.name, .str x.2.1, .int (x.2.2 - ((manyB ahead x : Nat) : Int))]] else acc)) := rfl
      rw [em]
      generalize ((manyB ahead x : Nat) : Int) = m
      by_cases h1 : m < x.2.2
      · have h2 : ¬ x.2.2 < m := by omega
        simp [h1, h2, rhoF, postD, keyN, la, dataD]
      · by_cases h2 : x.2.2 < m
        · simp [h1, h2, rhoF, postD, keyN, la, dataD]
        · simp [h1, h2, rhoF, postD, keyN]
    rw [fin, thn_nx, e]
    rfl
theorem faults_ok {rows : List Row} (hr : ∀ r ∈ rows, okR r) (hl : rows.length ≤ 1000) : frl_faults ⟨ps, ss⟩ [.list (rows.map rowD)] = some (dueB ps ss rows) := by
  refine frLOf_eq fun a => ?_
  have hk : only a (kB.inj ⟨ps, ss⟩) = only a (.book ⟨ps, ss⟩) := rfl
  have h0 : rho0 N_faults [refD a, .list (rows.map rowD)] = [.val (refD a), .val (.list (rows.map rowD)), .no, .no, .no, .no, .no, .no, .no, .no] := by simp [rho0, N_faults]
  have ll : rows.length ≤ LIM := Nat.le_trans hl (by decide)
  obtain ⟨s4, s5, s6, e1⟩ := faults1 g a rows rows 0 ([], []) .no .no .no hr (fun r h => by cases h) (by simpa using hl) (by simpa using hl)
  have gl := goB_len ps ss rows 0 ([], [])
  have al := allN_len g.gs g.sl
  obtain ⟨s7, s8, s9, e2⟩ := faults2 g a rows (goB ps ss 0 ([], []) rows).2 (goB_sub ps ss okR rows 0 ([], []) (fun r h => by cases h) hr) (by have := gl.2; simp at this; omega) s4 s5 s6 (allN ss) (goB ps ss 0 ([], []) rows).1 .no .no .no (fun _ h => h) (by have := gl.1; simp at this; omega)
  have i1 : iE (eCons (eVar 1) eNil) (rhoF a rows [] [] .no .no .no .no .no .no) = some (enumD 0 (rows.map rowD)) := by
    simp [rhoF, iE, ll]
  have la := allN_lim g
  have i2 : iL (eMeth kB (only a (.book ⟨ps, ss⟩)) 0 fr_posts eNil) (rhoF a rows (goB ps ss 0 ([], []) rows).1 (goB ps ss 0 ([], []) rows).2 s4 s5 s6 .no .no .no) = some ((allN ss).map fun x => postD (keyN x)) := by
    have := postsI_at g a (rhoF a rows (goB ps ss 0 ([], []) rows).1 (goB ps ss 0 ([], []) rows).2 s4 s5 s6 .no .no .no) rfl
    simp [iL, this, la, lstD]
  have hb : b_faults (only a (kB.inj ⟨ps, ss⟩)) (rho0 N_faults [refD a, .list (rows.map rowD)]) = .ro 2 (rhoF a rows (dueB ps ss rows) (goB ps ss 0 ([], []) rows).2 s4 s5 s6 s7 s8 s9) := by
    unfold b_faults
    rw [hk, h0, sSeq_eq]
    have a0 : sSetL 2 (eLstD eNil) [.val (refD a), .val (.list (rows.map rowD)), .no, .no, .no, .no, .no, .no, .no, .no] = .nx [.val (refD a), .val (.list (rows.map rowD)), .own [], .no, .no, .no, .no, .no, .no, .no] := rfl
    rw [a0, thn_nx, sSeq_eq]
    have a1 : sSetL 3 (eLstD eNil) [.val (refD a), .val (.list (rows.map rowD)), .own [], .no, .no, .no, .no, .no, .no, .no] = .nx (rhoF a rows [] [] .no .no .no .no .no .no) := rfl
    rw [a1, thn_nx, sSeq_eq, sFor_eq, i1, outL_some, e1, thn_nx, sSeq_eq, sFor_eq, i2, outL_some, e2, thn_nx]
    rfl
  exact runL_eq rfl hb rfl
end
end RK
namespace RK
open PySem PySem.Spec PyProof.Rows L2 RT
theorem filter_one {α β : Type} [DecidableEq β] {f : α → β} {l : List α} (nd : (l.map f).Nodup) {s : α} (hs : s ∈ l) (P : α → Bool) (hP : P s = true) : (l.filter fun x => decide (f x = f s) && P x) = [s] := by
  induction l with
  | nil => cases hs
  | cons a l ih =>
    rw [List.map_cons, List.nodup_cons] at nd
    rcases List.mem_cons.mp hs with rfl | h
    · have : (l.filter fun x => decide (f x = f s) && P x) = [] := by
        rw [List.filter_eq_nil_iff]
        intro x hx
        have : f x ≠ f s := fun e => nd.1 (e ▸ List.mem_map_of_mem hx)
        simp [this]
      rw [List.filter_cons, this]
      simp [hP]
    · have hne : f a ≠ f s := fun e => nd.1 (e ▸ List.mem_map_of_mem h)
      rw [List.filter_cons, if_neg (by simp [hne]), ih nd.2 h]
theorem filter_none {α β : Type} [DecidableEq β] {f : α → β} {l : List α} {b : β} (h : b ∉ l.map f) : (l.filter fun x => decide (f x = b)) = [] := by
  rw [List.filter_eq_nil_iff]
  intro x hx
  have : f x ≠ b := fun e => h (e ▸ List.mem_map_of_mem hx)
  simp [this]
section
variable {ps : List Person} {ss : List Shift} (g : GM ps ss)
include g
theorem shift_one {r : Row} {x : SN} (h : findN ss r = some x) : (ss.filter fun s => decide (s.name = r.sh)) = [x.1] := by
  obtain ⟨h1, h2⟩ := findN_some h
  have hn : x.1.name = r.sh := congrArg Prod.fst h2
  have := filter_one g.sn (allN_mem h1).1 (fun _ => true) rfl
  rw [hn] at this
  simpa using this
theorem taken_ok (q : Person) {rows : List Row} (hk : ∀ r ∈ rows, known ps ss r) (hl : rows.length ≤ 1000) : F_taken [.list (rows.map rowD), perD q, .list (ss.map shD)] = some (.list (((rows.filter fun o => decide (o.pe = q.name)).map (dayR ss)).map .int)) := by
  have lr : rows.length ≤ LIM := Nat.le_trans hl (by decide)
  have ls : ss.length ≤ LIM := Nat.le_trans g.sl (by decide)
  have loop : ∀ (L : List Row) (acc : List Int) (s4 : Sl), (∀ r ∈ L, known ps ss r) → acc.length + L.length ≤ 2000 → ∃ s4', forF (tg1 4) (sIf (bF (eOp gEq (eOp gIx (eVarB 4) (eC (.int 2))) (eOp gIx (eVarB 1) (eC (.int 0))))) (sSet 3 (eOp gAdd (eVarB 3) (eList (lLc (iL (eVarB 2)) 5 (bF (eOp gEq (eOp gIx (eVarB 5) (eC (.int 0))) (eOp gIx (eVarB 4) (eC (.int 0))))) (eOp gFdiv (eOp gIx (eOp gIx (eVarB 5) (eC (.int 1))) (eC (.int 0))) (eC (.int 24))))))) sNext) (L.map rowD) [.val (.list (rows.map rowD)), .val (perD q), .val (.list (ss.map shD)), .val (.list (acc.map .int)), s4, .no] =
      .nx [.val (.list (rows.map rowD)), .val (perD q), .val (.list (ss.map shD)), .val (.list ((acc ++ (L.filter fun o => decide (o.pe = q.name)).map (dayR ss)).map .int)), s4', .no] := by
    intro L
    induction L with
    | nil => intro acc s4 _ _; exact ⟨s4, by simp [forF]⟩
    | cons r L ih =>
      intro acc s4 hL hla
      rw [List.map_cons, forF_cons1]
      have kr := (hL r List.mem_cons_self).1
      cases e1 : findN ss r with
      | none => rw [e1] at kr; cases kr
      | some x =>
        have one := shift_one g e1
        have dr : dayR ss r = dayS x.1 := by unfold dayR; rw [e1]
        by_cases hq : r.pe = q.name
        · obtain ⟨s4', e⟩ := ih (acc ++ [dayR ss r]) (.val (rowD r)) (fun y hy => hL y (List.mem_cons_of_mem _ hy)) (by simp at hla ⊢; omega)
          refine ⟨s4', ?_⟩
          have lc : lcF 5 (bF (eOp gEq (eOp gIx (eVarB 5) (eC (.int 0))) (eOp gIx (eVarB 4) (eC (.int 0))))) (eOp gFdiv (eOp gIx (eOp gIx (eVarB 5) (eC (.int 1))) (eC (.int 0))) (eC (.int 24))) [.val (.list (rows.map rowD)), .val (perD q), .val (.list (ss.map shD)), .val (.list (acc.map .int)), .val (rowD r), .no] (ss.map shD) = some [.int (dayR ss r)] := by
            rw [lcF_mapped shD (fun s => decide (s.name = r.sh)) (fun s => .int (dayS s)), one, dr]
            · rfl
            · intro s _
              simp only [shD, rowD, bF_eq, eOp_eq, eVarB_eq, eC_eq, List.set_cons_succ, List.set_cons_zero, List.getElem?_cons_succ, List.getElem?_cons_zero, slB_val, Option.bind_some, gIx_tuple, atI_0, gEq_str, truD_bool]
              rw [Option.some.injEq, Bool.eq_iff_iff]
              simp
            · intro s _ _
              simp [shD, stD, dayS]
          have i2 : iL (eVarB 2) [.val (.list (rows.map rowD)), .val (perD q), .val (.list (ss.map shD)), .val (.list (acc.map .int)), .val (rowD r), .no] = some (ss.map shD) := by simp [ls]
          have tst : bF (eOp gEq (eOp gIx (eVarB 4) (eC (.int 2))) (eOp gIx (eVarB 1) (eC (.int 0)))) [.val (.list (rows.map rowD)), .val (perD q), .val (.list (ss.map shD)), .val (.list (acc.map .int)), .val (rowD r), .no] = some true := by simp [rowD, perD, hq]
          have la : acc.length + 1 ≤ LIM := by unfold LIM; simp at hla; omega
          have st : sSet 3 (eOp gAdd (eVarB 3) (eList (lLc (iL (eVarB 2)) 5 (bF (eOp gEq (eOp gIx (eVarB 5) (eC (.int 0))) (eOp gIx (eVarB 4) (eC (.int 0))))) (eOp gFdiv (eOp gIx (eOp gIx (eVarB 5) (eC (.int 1))) (eC (.int 0))) (eC (.int 24)))))) [.val (.list (rows.map rowD)), .val (perD q), .val (.list (ss.map shD)), .val (.list (acc.map .int)), .val (rowD r), .no] = .nx [.val (.list (rows.map rowD)), .val (perD q), .val (.list (ss.map shD)), .val (.list ((acc ++ [dayR ss r]).map .int)), .val (rowD r), .no] := by
            rw [sSet_eq, eOp_eq, eList_eq, lLc_eq, i2, Option.bind_some, if_pos (by rw [List.length_map]; exact ls), lc]
            have ga : gAdd (.list (acc.map .int)) (.list [.int (dayR ss r)]) = some (.list ((acc ++ [dayR ss r]).map .int)) := by
              show (if (acc.map PyData.int).length + 1 ≤ LIM then _ else _) = _
              rw [if_pos (by rw [List.length_map]; exact la), List.map_append]
              rfl
            show outV ((some (PyData.list (acc.map .int))).bind fun z => (some (PyData.list [.int (dayR ss r)])).bind fun y => gAdd z y) _ = _
            rw [Option.bind_some, Option.bind_some, ga]
            rfl
          show ((sIf _ _ _ [.val (.list (rows.map rowD)), .val (perD q), .val (.list (ss.map shD)), .val (.list (acc.map .int)), .val (rowD r), .no]).thn _) = _
          rw [sIf_eq, tst, outB_some, if_pos rfl, st, thn_nx, e, List.filter_cons, if_pos (by simpa using hq)]
          simp
        · obtain ⟨s4', e⟩ := ih acc (.val (rowD r)) (fun y hy => hL y (List.mem_cons_of_mem _ hy)) (by simp at hla; omega)
          refine ⟨s4', ?_⟩
          have tst : bF (eOp gEq (eOp gIx (eVarB 4) (eC (.int 2))) (eOp gIx (eVarB 1) (eC (.int 0)))) [.val (.list (rows.map rowD)), .val (perD q), .val (.list (ss.map shD)), .val (.list (acc.map .int)), .val (rowD r), .no] = some false := by simp [rowD, perD, hq]
          show ((sIf _ _ _ [.val (.list (rows.map rowD)), .val (perD q), .val (.list (ss.map shD)), .val (.list (acc.map .int)), .val (rowD r), .no]).thn _) = _
          rw [sIf_eq, tst, outB_some, if_neg (by decide), sNext_eq, thn_nx, e, List.filter_cons, if_neg (by simpa using hq)]
  obtain ⟨s4', e⟩ := loop rows [] .no hk (by simp; omega)
  unfold F_taken
  rw [runF_eq]
  have h0 : rho0 N_taken [.list (rows.map rowD), perD q, .list (ss.map shD)] = [.val (.list (rows.map rowD)), .val (perD q), .val (.list (ss.map shD)), .no, .no, .no] := by simp [rho0, N_taken]
  have hb : ∃ ρ, b_taken (rho0 N_taken [.list (rows.map rowD), perD q, .list (ss.map shD)]) = .rt (.list (((rows.filter fun o => decide (o.pe = q.name)).map (dayR ss)).map .int)) ρ := by
    unfold b_taken
    rw [h0, sSeq_eq]
    have a0 : sSet 3 (eList (eLstD eNil)) [.val (.list (rows.map rowD)), .val (perD q), .val (.list (ss.map shD)), .no, .no, .no] = .nx [.val (.list (rows.map rowD)), .val (perD q), .val (.list (ss.map shD)), .val (.list (([] : List Int).map .int)), .no, .no] := rfl
    have i0 : iL (eVar 0) [.val (.list (rows.map rowD)), .val (perD q), .val (.list (ss.map shD)), .val (.list (([] : List Int).map .int)), .no, .no] = some (rows.map rowD) := by simp [lr]
    rw [a0, thn_nx, sSeq_eq, sFor_eq, i0, outL_some, e, thn_nx, List.nil_append]
    exact ⟨_, rfl⟩
  obtain ⟨ρ, hb⟩ := hb
  show (if (3 : Nat) = 3 then _ else _) = _
  rw [if_pos rfl, hb]
  rfl
theorem okR_of {s : Shift} (hs : s ∈ ss) {n : Str × Int} (hn : n ∈ s.needs) {q : Person} (hq : q ∈ ps) : okR ⟨s.name, n.1, q.name⟩ ∧ known ps ss ⟨s.name, n.1, q.name⟩ := by
  have o := okP_need (g.gs s hs) hn
  refine ⟨⟨o.1, o.2, okD_name (g.gp q hq).nm⟩, ?_, ?_⟩
  · rw [findN_is, decide_eq_true_eq]
    refine List.mem_map.mpr ⟨(s, n), ?_, rfl⟩
    unfold allN
    exact List.mem_flatMap.mpr ⟨s, hs, List.mem_map.mpr ⟨n, hn, rfl⟩⟩
  · rw [findQ_is, decide_eq_true_eq]
    exact List.mem_map_of_mem hq
theorem first_ok {s : Shift} (hs : s ∈ ss) {n : Str × Int} (hn : n ∈ s.needs) (more : Int) {rows : List Row} (hk : ∀ r ∈ rows, known ps ss r) (hl : rows.length ≤ 1000) :
    ∃ rs : List Row, F_first [.list (rows.map rowD), .list (ps.map perD), .list (ss.map shD), shD s, .str n.1, .int more] = some (.list (rs.map rowD)) ∧ rs.length ≤ 1 ∧ ∀ r ∈ rs, okR r ∧ known ps ss r := by
  have lp : ps.length ≤ LIM := Nat.le_trans g.pl (by decide)
  have loop : ∀ (L : List Person) (s6 s7 : Sl), (∀ q ∈ L, q ∈ ps) → (∃ s6' s7', forF (tg1 6) (sSeq (sSet 7 (eCall F_taken (eCons (eVar 0) (eCons (eVar 6) (eCons (eVar 2) eNil)))))
  (sIf (tAndF (bF (eCall F_may (eCons (eVar 6) (eCons (eVar 3) (eCons (eVar 4) eNil))))) (tAndF (bF (eOp gNotIn (eOp gFdiv (eOp gIx (eOp gIx (eVarB 3) (eC (.int 1))) (eC (.int 0))) (eC (.int 24))) (eVarB 7))) (bF (eOp gLt (eCall gLen (eCons (eVarB 7) eNil)) (eOp gAdd (eOp gIx (eVarB 6) (eC (.int 2))) (eVarB 5)))))) (sRet (eList (eLstD (eCons (eTupD (eCons (eOp gIx (eVarB 3) (eC (.int 0))) (eCons (eVar 4) (eCons (eOp gIx (eVarB 6) (eC (.int 0))) eNil)))) eNil)))) sNext)) (L.map perD) [.val (.list (rows.map rowD)), .val (.list (ps.map perD)), .val (.list (ss.map shD)), .val (shD s), .val (.str n.1), .val (.int more), s6, s7] = .nx [.val (.list (rows.map rowD)), .val (.list (ps.map perD)), .val (.list (ss.map shD)), .val (shD s), .val (.str n.1), .val (.int more), s6', s7']) ∨
      ∃ ρ, ∃ q ∈ ps, forF (tg1 6) (sSeq (sSet 7 (eCall F_taken (eCons (eVar 0) (eCons (eVar 6) (eCons (eVar 2) eNil)))))
  (sIf (tAndF (bF (eCall F_may (eCons (eVar 6) (eCons (eVar 3) (eCons (eVar 4) eNil))))) (tAndF (bF (eOp gNotIn (eOp gFdiv (eOp gIx (eOp gIx (eVarB 3) (eC (.int 1))) (eC (.int 0))) (eC (.int 24))) (eVarB 7))) (bF (eOp gLt (eCall gLen (eCons (eVarB 7) eNil)) (eOp gAdd (eOp gIx (eVarB 6) (eC (.int 2))) (eVarB 5)))))) (sRet (eList (eLstD (eCons (eTupD (eCons (eOp gIx (eVarB 3) (eC (.int 0))) (eCons (eVar 4) (eCons (eOp gIx (eVarB 6) (eC (.int 0))) eNil)))) eNil)))) sNext)) (L.map perD) [.val (.list (rows.map rowD)), .val (.list (ps.map perD)), .val (.list (ss.map shD)), .val (shD s), .val (.str n.1), .val (.int more), s6, s7] = .rt (.list [rowD ⟨s.name, n.1, q.name⟩]) ρ := by
    intro L
    induction L with
    | nil => intro s6 s7 _; exact .inl ⟨s6, s7, rfl⟩
    | cons q L ih =>
      intro s6 s7 hL
      have hq := hL q List.mem_cons_self
      rw [List.map_cons, forF_cons1]
      have ft := taken_ok g q hk hl
      have fm := mayL q (g.gp q hq) s (g.gs s hs) n.1
      generalize hd : (rows.filter fun o => decide (o.pe = q.name)).map (dayR ss) = days at ft
      have gn := gNotIn_ints (dayS s) days
      have c1 : sSet 7 (eCall F_taken (eCons (eVar 0) (eCons (eVar 6) (eCons (eVar 2) eNil)))) [.val (.list (rows.map rowD)), .val (.list (ps.map perD)), .val (.list (ss.map shD)), .val (shD s), .val (.str n.1), .val (.int more), .val (perD q), s7] = .nx [.val (.list (rows.map rowD)), .val (.list (ps.map perD)), .val (.list (ss.map shD)), .val (shD s), .val (.str n.1), .val (.int more), .val (perD q), .val (.list (days.map .int))] := by simp [ft]
      have t1 : (tAndF (bF (eCall F_may (eCons (eVar 6) (eCons (eVar 3) (eCons (eVar 4) eNil))))) (tAndF (bF (eOp gNotIn (eOp gFdiv (eOp gIx (eOp gIx (eVarB 3) (eC (.int 1))) (eC (.int 0))) (eC (.int 24))) (eVarB 7))) (bF (eOp gLt (eCall gLen (eCons (eVarB 7) eNil)) (eOp gAdd (eOp gIx (eVarB 6) (eC (.int 2))) (eVarB 5)))))) [.val (.list (rows.map rowD)), .val (.list (ps.map perD)), .val (.list (ss.map shD)), .val (shD s), .val (.str n.1), .val (.int more), .val (perD q), .val (.list (days.map .int))] = some (mayB q s n.1 && (!decide (dayS s ∈ days) && decide ((days.length : Int) < q.limit + more))) := by
        have ta : bF (eCall F_may (eCons (eVar 6) (eCons (eVar 3) (eCons (eVar 4) eNil)))) [.val (.list (rows.map rowD)), .val (.list (ps.map perD)), .val (.list (ss.map shD)), .val (shD s), .val (.str n.1), .val (.int more), .val (perD q), .val (.list (days.map .int))] = some (mayB q s n.1) := by simp [fm]
        have tb : bF (eOp gNotIn (eOp gFdiv (eOp gIx (eOp gIx (eVarB 3) (eC (.int 1))) (eC (.int 0))) (eC (.int 24))) (eVarB 7)) [.val (.list (rows.map rowD)), .val (.list (ps.map perD)), .val (.list (ss.map shD)), .val (shD s), .val (.str n.1), .val (.int more), .val (perD q), .val (.list (days.map .int))] = some (!decide (dayS s ∈ days)) := by
          have cd : dayS s = s.b / 24 := rfl
          rw [cd] at gn ⊢
          generalize decide (s.b / 24 ∈ days) = bb at gn ⊢
          simp [shD, stD, gn]
        have tc : bF (eOp gLt (eCall gLen (eCons (eVarB 7) eNil)) (eOp gAdd (eOp gIx (eVarB 6) (eC (.int 2))) (eVarB 5))) [.val (.list (rows.map rowD)), .val (.list (ps.map perD)), .val (.list (ss.map shD)), .val (shD s), .val (.str n.1), .val (.int more), .val (perD q), .val (.list (days.map .int))] = some (decide ((days.length : Int) < q.limit + more)) := by simp [perD]
        rw [tAndF_eq, tAndF_eq, ta, tb, tc]
        cases mayB q s n.1 <;> cases (!decide (dayS s ∈ days)) <;> rfl
      have stp : (sSeq (sSet 7 (eCall F_taken (eCons (eVar 0) (eCons (eVar 6) (eCons (eVar 2) eNil)))))
  (sIf (tAndF (bF (eCall F_may (eCons (eVar 6) (eCons (eVar 3) (eCons (eVar 4) eNil))))) (tAndF (bF (eOp gNotIn (eOp gFdiv (eOp gIx (eOp gIx (eVarB 3) (eC (.int 1))) (eC (.int 0))) (eC (.int 24))) (eVarB 7))) (bF (eOp gLt (eCall gLen (eCons (eVarB 7) eNil)) (eOp gAdd (eOp gIx (eVarB 6) (eC (.int 2))) (eVarB 5)))))) (sRet (eList (eLstD (eCons (eTupD (eCons (eOp gIx (eVarB 3) (eC (.int 0))) (eCons (eVar 4) (eCons (eOp gIx (eVarB 6) (eC (.int 0))) eNil)))) eNil)))) sNext)) [.val (.list (rows.map rowD)), .val (.list (ps.map perD)), .val (.list (ss.map shD)), .val (shD s), .val (.str n.1), .val (.int more), .val (perD q), s7] =
          if (mayB q s n.1 && (!decide (dayS s ∈ days) && decide ((days.length : Int) < q.limit + more))) = true then .rt (.list [rowD ⟨s.name, n.1, q.name⟩]) [.val (.list (rows.map rowD)), .val (.list (ps.map perD)), .val (.list (ss.map shD)), .val (shD s), .val (.str n.1), .val (.int more), .val (perD q), .val (.list (days.map .int))] else .nx [.val (.list (rows.map rowD)), .val (.list (ps.map perD)), .val (.list (ss.map shD)), .val (shD s), .val (.str n.1), .val (.int more), .val (perD q), .val (.list (days.map .int))] := by
        rw [sSeq_eq, c1, thn_nx, sIf_eq, t1, outB_some]
        split
        · simp [shD, perD, rowD]
        · rfl
      show (_ ∨ _)
      by_cases hc : (mayB q s n.1 && (!decide (dayS s ∈ days) && decide ((days.length : Int) < q.limit + more))) = true
      · rw [if_pos hc] at stp
        refine .inr ⟨[.val (.list (rows.map rowD)), .val (.list (ps.map perD)), .val (.list (ss.map shD)), .val (shD s), .val (.str n.1), .val (.int more), .val (perD q), .val (.list (days.map .int))], q, hq, ?_⟩
        refine (congrArg (fun o : Out => o.thn _) stp).trans ?_
        rw [thn_rt]
      · rw [if_neg hc] at stp
        rcases ih (.val (perD q)) (.val (.list (days.map .int))) (fun y hy => hL y (List.mem_cons_of_mem _ hy)) with ⟨s6', s7', e⟩ | ⟨ρ, q', hq', e⟩
        · refine .inl ⟨s6', s7', ?_⟩
          refine (congrArg (fun o : Out => o.thn _) stp).trans ?_
          rw [thn_nx, e]
        · refine .inr ⟨ρ, q', hq', ?_⟩
          refine (congrArg (fun o : Out => o.thn _) stp).trans ?_
          rw [thn_nx, e]
  have h0 : rho0 N_first [.list (rows.map rowD), .list (ps.map perD), .list (ss.map shD), shD s, .str n.1, .int more] = [.val (.list (rows.map rowD)), .val (.list (ps.map perD)), .val (.list (ss.map shD)), .val (shD s), .val (.str n.1), .val (.int more), .no, .no] := by simp [rho0, N_first]
  have i1 : iL (eVar 1) [.val (.list (rows.map rowD)), .val (.list (ps.map perD)), .val (.list (ss.map shD)), .val (shD s), .val (.str n.1), .val (.int more), .no, .no] = some (ps.map perD) := by simp [lp]
  unfold F_first
  rw [runF_eq]
  show ∃ rs : List Row, (if (6 : Nat) = 6 then _ else _) = _ ∧ _
  rcases loop ps .no .no (fun _ h => h) with ⟨s6', s7', e⟩ | ⟨ρ, q', hq', e⟩
  · refine ⟨[], ?_, by simp, fun r h => by cases h⟩
    have hb : ∃ ρ, b_first (rho0 N_first [.list (rows.map rowD), .list (ps.map perD), .list (ss.map shD), shD s, .str n.1, .int more]) = .rt (.list []) ρ := by
      unfold b_first
      rw [h0, sSeq_eq, sFor_eq, i1, outL_some, e, thn_nx]
      exact ⟨_, rfl⟩
    obtain ⟨ρ, hb⟩ := hb
    rw [if_pos rfl, hb]
    rfl
  · refine ⟨[⟨s.name, n.1, q'.name⟩], ?_, by simp, fun r h => ?_⟩
    · have hb : b_first (rho0 N_first [.list (rows.map rowD), .list (ps.map perD), .list (ss.map shD), shD s, .str n.1, .int more]) = .rt (.list [rowD ⟨s.name, n.1, q'.name⟩]) ρ := by
        unfold b_first
        rw [h0, sSeq_eq, sFor_eq, i1, outL_some, e, thn_rt]
      rw [if_pos rfl, hb]
      rfl
    · rw [List.mem_singleton] at h
      subst h
      exact okR_of g hs hn hq'
end
end RK
namespace RK
open PySem PySem.Spec PyProof.Rows L2 RT
def rhoG (ps : List Person) (ss : List Shift) (more : Int) (rows : List Row) (s4 s5 s6 : Sl) : Rho := [.val (.list (ps.map perD)), .val (.list (ss.map shD)), .val (.int more), .own (rows.map rowD), s4, s5, s6]
def okK (ps : List Person) (ss : List Shift) (r : Row) : Prop := okR r ∧ known ps ss r
theorem flat_row (r : Row) : flatD (rowD r) = true := rfl
theorem flat_rows (rs : List Row) : flatDs (rs.map rowD) = true := by
  rw [flatDs_all, List.all_map, List.all_eq_true]
  intro r _
  exact flat_row r
section
variable {ps : List Person} {ss : List Shift} (g : GM ps ss)
include g
theorem gone1 {s : Shift} (hs : s ∈ ss) {n : Str × Int} (hn : n ∈ s.needs) (more : Int) : ∀ (m : Nat) (ds : List PyData) (rows : List Row) (s6 : Sl), ds.length = m → (∀ r ∈ rows, okK ps ss r) → rows.length + m ≤ 1000 →
    ∃ rows' s6', forF (tg1 6) (sSetL 3 (lAdd (eVarB 3) (eCall (fun ds => onlyF (F_first ds)) (eCons (eVarB 3) (eCons (eVarB 0) (eCons (eVarB 1) (eCons (eVarB 4) (eCons (eOp gIx (eVarB 5) (eC (.int 0))) (eCons (eVarB 2) eNil))))))))) ds (rhoG ps ss more rows (.val (shD s)) (.val (ndD n)) s6) = .nx (rhoG ps ss more rows' (.val (shD s)) (.val (ndD n)) s6') ∧ rows'.length ≤ rows.length + m ∧ ∀ r ∈ rows', okK ps ss r
  | _, [], rows, s6, hm, h, _ => ⟨rows, s6, rfl, by omega, h⟩
  | 0, d :: ds, rows, s6, hm, _, _ => by simp at hm
  | m + 1, d :: ds, rows, s6, hm, h, hl => by
    obtain ⟨rs, e1, l1, h1⟩ := first_ok g hs hn more (rows := rows) (fun r hr => (h r hr).2) (by omega)
    have hh : ∀ r ∈ rows ++ rs, okK ps ss r := fun r hr => by
      rcases List.mem_append.mp hr with h2 | h2
      · exact h r h2
      · exact h1 r h2
    obtain ⟨rows', s6', e2, l2, h2⟩ := gone1 hs hn more m ds (rows ++ rs) (.val d) (by simpa using hm) hh (by rw [List.length_append]; omega)
    refine ⟨rows', s6', ?_, by rw [List.length_append] at l2; omega, h2⟩
    rw [forF_cons1]
    have st : sSetL 3 (lAdd (eVarB 3) (eCall (fun ds => onlyF (F_first ds)) (eCons (eVarB 3) (eCons (eVarB 0) (eCons (eVarB 1) (eCons (eVarB 4) (eCons (eOp gIx (eVarB 5) (eC (.int 0))) (eCons (eVarB 2) eNil)))))))) (rhoG ps ss more rows (.val (shD s)) (.val (ndD n)) (.val d)) = .nx (rhoG ps ss more (rows ++ rs) (.val (shD s)) (.val (ndD n)) (.val d)) := by
      have v : eCall (fun ds => onlyF (F_first ds)) (eCons (eVarB 3) (eCons (eVarB 0) (eCons (eVarB 1) (eCons (eVarB 4) (eCons (eOp gIx (eVarB 5) (eC (.int 0))) (eCons (eVarB 2) eNil)))))) (rhoG ps ss more rows (.val (shD s)) (.val (ndD n)) (.val d)) = some (.list (rs.map rowD)) := by
        have fl := flat_rows rs
        simp [rhoG, ndD, e1, fl]
      have ga : gAdd (.list (rows.map rowD)) (.list (rs.map rowD)) = some (.list ((rows ++ rs).map rowD)) := by
        show (if (rows.map rowD).length + (rs.map rowD).length ≤ LIM then _ else _) = _
        rw [if_pos (by rw [List.length_map, List.length_map]; unfold LIM; omega), List.map_append]
      have va : lAdd (eVarB 3) (eCall (fun ds => onlyF (F_first ds)) (eCons (eVarB 3) (eCons (eVarB 0) (eCons (eVarB 1) (eCons (eVarB 4) (eCons (eOp gIx (eVarB 5) (eC (.int 0))) (eCons (eVarB 2) eNil))))))) (rhoG ps ss more rows (.val (shD s)) (.val (ndD n)) (.val d)) = some ((rows ++ rs).map rowD) := by
        rw [lAdd_eq, v]
        show (((some (PyData.list (rows.map rowD))).bind fun x => (some (PyData.list (rs.map rowD))).bind fun y => gAdd x y).bind lisD) = _
        rw [Option.bind_some, Option.bind_some, ga]
        rfl
      rw [sSetL_eq, va]
      rfl
    show ((sSetL 3 _ (rhoG ps ss more rows (.val (shD s)) (.val (ndD n)) (.val d))).thn _) = _
    rw [st, thn_nx, e2]
theorem gone2 {s : Shift} (hs : s ∈ ss) (more : Int) : ∀ (L : List (Str × Int)) (rows : List Row) (s5 s6 : Sl), (∀ n ∈ L, n ∈ s.needs) → (∀ r ∈ rows, okK ps ss r) → rows.length + 9 * L.length ≤ 1000 →
    ∃ rows' s5' s6', forF (tg1 5) (sFor (iR1 (eCons (eOp gIx (eVarB 5) (eC (.int 1))) eNil)) (tg1 6) (sSetL 3 (lAdd (eVarB 3) (eCall (fun ds => onlyF (F_first ds)) (eCons (eVarB 3) (eCons (eVarB 0) (eCons (eVarB 1) (eCons (eVarB 4) (eCons (eOp gIx (eVarB 5) (eC (.int 0))) (eCons (eVarB 2) eNil)))))))))) (L.map ndD) (rhoG ps ss more rows (.val (shD s)) s5 s6) = .nx (rhoG ps ss more rows' (.val (shD s)) s5' s6') ∧ rows'.length ≤ rows.length + 9 * L.length ∧ ∀ r ∈ rows', okK ps ss r
  | [], rows, s5, s6, _, h, _ => ⟨rows, s5, s6, rfl, by simp, h⟩
  | n :: L, rows, s5, s6, hL, h, hl => by
    have hn := hL n List.mem_cons_self
    have nk := (g.gs s hs).nk n hn
    obtain ⟨rows1, s6a, e1, l1, h1⟩ := gone1 g hs hn more n.2.toNat (rangeD 0 n.2.toNat) rows s6 (by simp) h (by simp at hl; omega)
    obtain ⟨rows', s5', s6', e2, l2, h2⟩ := gone2 hs more L rows1 (.val (ndD n)) s6a (fun x hx => hL x (List.mem_cons_of_mem _ hx)) h1 (by simp at hl; omega)
    refine ⟨rows', s5', s6', ?_, by simp; omega, h2⟩
    rw [List.map_cons, forF_cons1]
    have i1 : iR1 (eCons (eOp gIx (eVarB 5) (eC (.int 1))) eNil) (rhoG ps ss more rows (.val (shD s)) (.val (ndD n)) s6) = some (rangeD 0 n.2.toNat) := by
      have hc : n.2 ≤ 1000000 ∧ -1000000 ≤ n.2 := by omega
      simp [rhoG, ndD, hc]
    show ((sFor _ _ _ (rhoG ps ss more rows (.val (shD s)) (.val (ndD n)) s6)).thn _) = _
    rw [sFor_eq, i1, outL_some, e1, thn_nx, e2]
theorem gone3 (more : Int) : ∀ (L : List Shift) (rows : List Row) (s4 s5 s6 : Sl), (∀ s ∈ L, s ∈ ss) → (∀ r ∈ rows, okK ps ss r) → rows.length + 54 * L.length ≤ 1000 →
    ∃ rows' s4' s5' s6', forF (tg1 4) (sFor (iL (eOp gIx (eVarB 4) (eC (.int 2)))) (tg1 5) (sFor (iR1 (eCons (eOp gIx (eVarB 5) (eC (.int 1))) eNil)) (tg1 6) (sSetL 3 (lAdd (eVarB 3) (eCall (fun ds => onlyF (F_first ds)) (eCons (eVarB 3) (eCons (eVarB 0) (eCons (eVarB 1) (eCons (eVarB 4) (eCons (eOp gIx (eVarB 5) (eC (.int 0))) (eCons (eVarB 2) eNil))))))))))) (L.map shD) (rhoG ps ss more rows s4 s5 s6) = .nx (rhoG ps ss more rows' s4' s5' s6') ∧ rows'.length ≤ rows.length + 54 * L.length ∧ ∀ r ∈ rows', okK ps ss r
  | [], rows, s4, s5, s6, _, h, _ => ⟨rows, s4, s5, s6, rfl, by simp, h⟩
  | s :: L, rows, s4, s5, s6, hL, h, hl => by
    have hs := hL s List.mem_cons_self
    have nl := (g.gs s hs).nl
    have ll : s.needs.length ≤ LIM := Nat.le_trans nl (by decide)
    obtain ⟨rows1, s5a, s6a, e1, l1, h1⟩ := gone2 g hs more s.needs rows s5 s6 (fun _ h => h) h (by simp at hl; omega)
    obtain ⟨rows', s4', s5', s6', e2, l2, h2⟩ := gone3 more L rows1 (.val (shD s)) s5a s6a (fun x hx => hL x (List.mem_cons_of_mem _ hx)) h1 (by simp at hl; omega)
    refine ⟨rows', s4', s5', s6', ?_, by simp; omega, h2⟩
    rw [List.map_cons, forF_cons1]
    have i1 : iL (eOp gIx (eVarB 4) (eC (.int 2))) (rhoG ps ss more rows (.val (shD s)) s5 s6) = some (s.needs.map ndD) := by
      simp [rhoG, shD, ll]
    show ((sFor _ _ _ (rhoG ps ss more rows (.val (shD s)) s5 s6)).thn _) = _
    rw [sFor_eq, i1, outL_some, e1, thn_nx, e2]
theorem gone_ok (more : Int) : ∃ rows : List Row, fl_gone_along [.list (ps.map perD), .list (ss.map shD), .int more] = some (rows.map rowD) ∧ rows.length ≤ 756 ∧ ∀ r ∈ rows, okK ps ss r := by
  have ls : ss.length ≤ LIM := Nat.le_trans g.sl (by decide)
  have sl := g.sl
  obtain ⟨rows, s4, s5, s6, e, l, h⟩ := gone3 g more ss [] .no .no .no (fun _ h => h) (fun r h => by cases h) (by simp; omega)
  refine ⟨rows, ?_, by simp at l; omega, h⟩
  have h0 : rho0 N_gone_along [.list (ps.map perD), .list (ss.map shD), .int more] = [.val (.list (ps.map perD)), .val (.list (ss.map shD)), .val (.int more), .no, .no, .no, .no] := by simp [rho0, N_gone_along]
  have i1 : iL (eVar 1) (rhoG ps ss more [] .no .no .no) = some (ss.map shD) := by simp [rhoG, ls]
  have hb : b_gone_along (rho0 N_gone_along [.list (ps.map perD), .list (ss.map shD), .int more]) = .ro 3 (rhoG ps ss more rows s4 s5 s6) := by
    unfold b_gone_along
    rw [h0, sSeq_eq]
    have a0 : sSetL 3 (eLstD eNil) [.val (.list (ps.map perD)), .val (.list (ss.map shD)), .val (.int more), .no, .no, .no, .no] = .nx (rhoG ps ss more [] .no .no .no) := rfl
    rw [a0, thn_nx, sSeq_eq, sFor_eq, i1, outL_some, e, thn_nx]
    rfl
  exact runL_eq rfl hb rfl
end
theorem okDs_nd {L : List (Str × Int)} (h : ∀ n ∈ L, isName n.1 = true) : okDs (L.map ndD) = true ∧ (PyData.list (L.map ndD)).depth ≤ 64 := by
  refine ⟨?_, ?_⟩
  · rw [okDs_all, List.all_map, List.all_eq_true]
    intro n hn
    have h1 := okD_name (h n hn)
    show okD (ndD n) = true
    simp only [ndD, okD, okDs, Bool.and_true] at h1 ⊢
    exact h1
  · have : PyData.depthAll (L.map ndD) ≤ 5 := depthAll_le fun d hd => by
      obtain ⟨p, _, rfl⟩ := List.mem_map.mp hd
      simp [ndD, PyData.depth, PyData.depthAll]
    simp only [PyData.depth]
    omega
section
variable {ps : List Person} {ss : List Shift} (g : GM ps ss)
include g
theorem row_by_ok (c : Int) : ∃ r : Row, F_row_by [.int c, .list (ps.map perD), .list (ss.map shD)] = some (rowD r) ∧ okR r := by
  have oP := okDs_per g.gp
  have oS := okDs_sh g.gs
  have neP := gNe_nil (ps.map perD) oP.1 oP.2
  have neS := gNe_nil (ss.map shD) oS.1 oS.2
  have lp : ps.length ≤ LIM := Nat.le_trans g.pl (by decide)
  have ls : ss.length ≤ LIM := Nat.le_trans g.sl (by decide)
  have pl := g.pl
  have sl := g.sl
  have zz : okD (.str "z z") = true := by decide +kernel
  -- the shift
  obtain ⟨s0, k1, k2, k3, c3⟩ : ∃ s0 : Shift, okD (.str s0.name) = true ∧ (∀ n ∈ s0.needs, isName n.1 = true) ∧ s0.needs.length ≤ 6 ∧ ∀ u4 u5, (sIf (tAndF (bF (eOp gNe (eVarB 2) (eList (eLstD eNil)))) (bF (eOp gNe (eOp gMod (eVarB 0) (eC (.int 11))) (eC (.int 10))))) (sSet 3 (eOp gIx (eVarB 2) (eOp gMod (eOp gFdiv (eVarB 0) (eC (.int 11))) (eCall gLen (eCons (eVarB 2) eNil))))) sNext) [.val (.int c), .val (.list (ps.map perD)), .val (.list (ss.map shD)), .val (.tuple [.str "z z", .tuple [.int 0, .int 1], .list []]), u4, u5] = .nx [.val (.int c), .val (.list (ps.map perD)), .val (.list (ss.map shD)), .val (shD s0), u4, u5] := by
    cases ss with
    | nil =>
      refine ⟨⟨"z z", 0, 1, []⟩, zz, fun n h => (by cases h), Nat.zero_le _, fun u4 u5 => ?_⟩
      simp only [List.map_nil, List.isEmpty_nil, Bool.not_true] at neS
      simp [neS, shD, stD]
    | cons a l =>
      have n0 : (0 : Int) < ((a :: l).length : Nat) := by simp
      have n1 : (((a :: l).length : Nat) : Int) < 1073741824 := by omega
      have hE' : ((a :: l).map shD).isEmpty = false := rfl
      rw [hE'] at neS
      by_cases h10 : c % 11 = 10
      · refine ⟨⟨"z z", 0, 1, []⟩, zz, fun n h => (by cases h), Nat.zero_le _, fun u4 u5 => ?_⟩
        generalize (a :: l).map shD = L at neS
        simp [neS, h10, shD, stD]
      · obtain ⟨d, hd, ha⟩ := atI_mod ((a :: l).map shD) (c / 11) ((a :: l).length : Nat) (by simp) n0
        obtain ⟨s, hs, rfl⟩ := List.mem_map.mp hd
        have gs := g.gs s hs
        have gm := gMod_int (c / 11) ((a :: l).length : Nat) (cPos_of n0 n1)
        have ln : gLen [.list ((a :: l).map shD)] = some (.int ((a :: l).length : Nat)) := by simp
        refine ⟨s, okD_name gs.nm, fun n hn => (gs.nk n hn).1, gs.nl, fun u4 u5 => ?_⟩
        generalize (a :: l).length = n at *
        generalize (a :: l).map shD = L at *
        simp [neS, h10, ln, gm, ha]
  have oN := okDs_nd k2
  have neN := gNe_nil (s0.needs.map ndD) oN.1 oN.2
  -- the skill
  obtain ⟨k, ok1, c5⟩ : ∃ k : Str, okD (.str k) = true ∧ ∀ u5, (sIf (tAndF (bF (eOp gNe (eOp gIx (eVarB 3) (eC (.int 2))) (eList (eLstD eNil)))) (bF (eOp gNe (eOp gMod (eVarB 0) (eC (.int 11))) (eC (.int 9))))) (sSet 4 (eOp gIx (eOp gIx (eOp gIx (eVarB 3) (eC (.int 2))) (eOp gMod (eOp gFdiv (eVarB 0) (eC (.int 143))) (eCall gLen (eCons (eOp gIx (eVarB 3) (eC (.int 2))) eNil)))) (eC (.int 0)))) sNext) [.val (.int c), .val (.list (ps.map perD)), .val (.list (ss.map shD)), .val (shD s0), .val (.str "z z"), u5] = .nx [.val (.int c), .val (.list (ps.map perD)), .val (.list (ss.map shD)), .val (shD s0), .val (.str k), u5] := by
    obtain ⟨n0', b0, e0, needs⟩ := s0
    simp only at k2 k3 neN
    cases needs with
    | nil =>
      refine ⟨"z z", zz, fun u5 => ?_⟩
      simp only [List.map_nil, List.isEmpty_nil, Bool.not_true] at neN
      simp [neN, shD]
    | cons a l =>
      have n0 : (0 : Int) < ((a :: l).length : Nat) := by simp
      have n1 : (((a :: l).length : Nat) : Int) < 1073741824 := by omega
      have hE' : ((a :: l).map ndD).isEmpty = false := rfl
      rw [hE'] at neN
      by_cases h10 : c % 11 = 9
      · refine ⟨"z z", zz, fun u5 => ?_⟩
        generalize hL : (a :: l).map ndD = L at *
        simp [neN, h10, shD, hL]
      · obtain ⟨d, hd, ha⟩ := atI_mod ((a :: l).map ndD) (c / 143) ((a :: l).length : Nat) (by simp) n0
        obtain ⟨n, hn, rfl⟩ := List.mem_map.mp hd
        have gm := gMod_int (c / 143) ((a :: l).length : Nat) (cPos_of n0 n1)
        have ln : gLen [.list ((a :: l).map ndD)] = some (.int ((a :: l).length : Nat)) := by simp
        refine ⟨n.1, okD_name (k2 n hn), fun u5 => ?_⟩
        have hs : shD ⟨n0', b0, e0, a :: l⟩ = .tuple [.str n0', stD (b0, e0), .list ((a :: l).map ndD)] := rfl
        rw [hs]
        generalize (a :: l).length = m at *
        generalize (a :: l).map ndD = L at *
        simp [neN, h10, ln, gm, ha, ndD]
  -- the first shift's skill
  obtain ⟨k', ok2, c6⟩ : ∃ k' : Str, okD (.str k') = true ∧ ∀ u5, (sIf (tAndF (bF (eOp gNe (eVarB 2) (eList (eLstD eNil)))) (tAndF (bF (eOp gNe (eOp gIx (eOp gIx (eVarB 2) (eC (.int 0))) (eC (.int 2))) (eList (eLstD eNil)))) (bF (eOp gEq (eOp gMod (eVarB 0) (eC (.int 11))) (eC (.int 7)))))) (sSet 4 (eOp gIx (eOp gIx (eOp gIx (eOp gIx (eVarB 2) (eC (.int 0))) (eC (.int 2))) (eC (.int 0))) (eC (.int 0)))) sNext) [.val (.int c), .val (.list (ps.map perD)), .val (.list (ss.map shD)), .val (shD s0), .val (.str k), u5] = .nx [.val (.int c), .val (.list (ps.map perD)), .val (.list (ss.map shD)), .val (shD s0), .val (.str k'), u5] := by
    cases ss with
    | nil =>
      refine ⟨k, ok1, fun u5 => ?_⟩
      simp only [List.map_nil, List.isEmpty_nil, Bool.not_true] at neS
      simp [neS]
    | cons a l =>
      have gs := g.gs a List.mem_cons_self
      have hE' : ((a :: l).map shD).isEmpty = false := rfl
      rw [hE'] at neS
      have oA := okDs_nd fun n hn => (gs.nk n hn).1
      have neA := gNe_nil (a.needs.map ndD) oA.1 oA.2
      have h0 : atI ((a :: l).map shD) 0 = some (shD a) := by simp
      generalize (a :: l).map shD = L at neS h0
      have hs : shD a = .tuple [.str a.name, stD (a.b, a.e), .list (a.needs.map ndD)] := rfl
      by_cases h7 : c % 11 = 7
      · cases hn : a.needs with
        | nil =>
          refine ⟨k, ok1, fun u5 => ?_⟩
          rw [hn, List.map_nil] at neA hs
          simp only [List.isEmpty_nil, Bool.not_true] at neA
          rw [hs] at h0
          generalize shD s0 = d0
          simp [neS, h0, neA]
        | cons b l2 =>
          refine ⟨b.1, okD_name (gs.nk b (by rw [hn]; exact List.mem_cons_self)).1, fun u5 => ?_⟩
          rw [hn] at neA hs
          have hE2 : ((b :: l2).map ndD).isEmpty = false := rfl
          rw [hE2] at neA
          have hb0 : atI ((b :: l2).map ndD) 0 = some (ndD b) := by simp
          rw [hs] at h0
          generalize (b :: l2).map ndD = L2 at neA h0 hb0
          generalize shD s0 = d0
          simp [neS, h0, neA, h7, hb0, ndD]
      · refine ⟨k, ok1, fun u5 => ?_⟩
        rw [hs] at h0
        generalize hb : (a.needs.map ndD).isEmpty = bb at neA
        generalize a.needs.map ndD = L2 at neA h0
        generalize shD s0 = d0
        cases bb <;> simp [neS, h0, neA, h7]
  -- the person
  obtain ⟨q, ok3, c8⟩ : ∃ q : Str, okD (.str q) = true ∧ (sIf (tAndF (bF (eOp gNe (eVarB 1) (eList (eLstD eNil)))) (bF (eOp gNe (eOp gMod (eVarB 0) (eC (.int 11))) (eC (.int 8))))) (sSet 5 (eOp gIx (eOp gIx (eVarB 1) (eOp gMod (eOp gFdiv (eVarB 0) (eC (.int 572))) (eCall gLen (eCons (eVarB 1) eNil)))) (eC (.int 0)))) sNext) [.val (.int c), .val (.list (ps.map perD)), .val (.list (ss.map shD)), .val (shD s0), .val (.str k'), .val (.str "z z")] = .nx [.val (.int c), .val (.list (ps.map perD)), .val (.list (ss.map shD)), .val (shD s0), .val (.str k'), .val (.str q)] := by
    cases ps with
    | nil =>
      refine ⟨"z z", zz, ?_⟩
      simp only [List.map_nil, List.isEmpty_nil, Bool.not_true] at neP
      generalize shD s0 = d0
      simp [neP]
    | cons a l =>
      have n0 : (0 : Int) < ((a :: l).length : Nat) := by simp
      have n1 : (((a :: l).length : Nat) : Int) < 1073741824 := by omega
      have hE' : ((a :: l).map perD).isEmpty = false := rfl
      rw [hE'] at neP
      by_cases h8 : c % 11 = 8
      · refine ⟨"z z", zz, ?_⟩
        generalize (a :: l).map perD = L at neP
        generalize shD s0 = d0
        simp [neP, h8]
      · obtain ⟨d, hd, ha⟩ := atI_mod ((a :: l).map perD) (c / 572) ((a :: l).length : Nat) (by simp) n0
        obtain ⟨p, hp, rfl⟩ := List.mem_map.mp hd
        have gm := gMod_int (c / 572) ((a :: l).length : Nat) (cPos_of n0 n1)
        have ln : gLen [.list ((a :: l).map perD)] = some (.int ((a :: l).length : Nat)) := by simp
        refine ⟨p.name, okD_name (g.gp p hp).nm, ?_⟩
        generalize shD s0 = d0
        generalize (a :: l).length = m at *
        generalize (a :: l).map perD = L at *
        simp [neP, h8, ln, gm, ha, perD]
  refine ⟨⟨s0.name, k', q⟩, ?_, k1, ok2, ok3⟩
  unfold F_row_by
  rw [runF_eq]
  have h0 : rho0 N_row_by [.int c, .list (ps.map perD), .list (ss.map shD)] = [.val (.int c), .val (.list (ps.map perD)), .val (.list (ss.map shD)), .no, .no, .no] := by simp [rho0, N_row_by]
  have hb : ∃ ρ, b_row_by (rho0 N_row_by [.int c, .list (ps.map perD), .list (ss.map shD)]) = .rt (rowD ⟨s0.name, k', q⟩) ρ := by
    unfold b_row_by
    rw [h0, sSeq_eq]
    have a0 : sSet 3 (eTupD (eCons (eC (.str "z z")) (eCons (eTupD (eCons (eC (.int 0)) (eCons (eC (.int 1)) eNil))) (eCons (eList (eLstD eNil)) eNil)))) [.val (.int c), .val (.list (ps.map perD)), .val (.list (ss.map shD)), .no, .no, .no] = .nx [.val (.int c), .val (.list (ps.map perD)), .val (.list (ss.map shD)), .val (.tuple [.str "z z", .tuple [.int 0, .int 1], .list []]), .no, .no] := rfl
    rw [a0, thn_nx, sSeq_eq, c3, thn_nx, sSeq_eq]
    have a4 : sSet 4 (eC (.str "z z")) [.val (.int c), .val (.list (ps.map perD)), .val (.list (ss.map shD)), .val (shD s0), .no, .no] = .nx [.val (.int c), .val (.list (ps.map perD)), .val (.list (ss.map shD)), .val (shD s0), .val (.str "z z"), .no] := rfl
    rw [a4, thn_nx, sSeq_eq, c5, thn_nx, sSeq_eq, c6, thn_nx, sSeq_eq]
    have a5 : sSet 5 (eC (.str "z z")) [.val (.int c), .val (.list (ps.map perD)), .val (.list (ss.map shD)), .val (shD s0), .val (.str k'), .no] = .nx [.val (.int c), .val (.list (ps.map perD)), .val (.list (ss.map shD)), .val (shD s0), .val (.str k'), .val (.str "z z")] := rfl
    rw [a5, thn_nx, sSeq_eq, c8, thn_nx]
    refine ⟨[.val (.int c), .val (.list (ps.map perD)), .val (.list (ss.map shD)), .val (shD s0), .val (.str k'), .val (.str q)], ?_⟩
    simp [shD, rowD]
  obtain ⟨ρ, hb⟩ := hb
  show (if (3 : Nat) = 3 then _ else _) = _
  rw [if_pos rfl, hb]
  rfl
end
end RK
namespace RK
open PySem PySem.Spec PyProof.Rows L2 RT
section
variable {ps : List Person} {ss : List Shift} (g : GM ps ss)
include g
theorem pickS {r : Row} : (ss.filter fun s => decide (s.name = r.sh) && decide (r.sk ∈ s.needs.map (·.1))) = match findN ss r with
  | some x => [x.1]
  | none => [] := by
  cases e : findN ss r with
  | some x =>
    obtain ⟨h1, h2⟩ := findN_some e
    obtain ⟨m1, m2⟩ := allN_mem h1
    have hn : x.1.name = r.sh := congrArg Prod.fst h2
    have hk : x.2.1 = r.sk := congrArg Prod.snd h2
    have := filter_one g.sn m1 (fun s => decide (r.sk ∈ s.needs.map (·.1))) (by rw [decide_eq_true_eq, ← hk]; exact List.mem_map_of_mem m2)
    rw [hn] at this
    exact this
  | none =>
    have hn := findN_none e
    show _ = []
    rw [List.filter_eq_nil_iff]
    intro s hs
    simp only [Bool.and_eq_true, decide_eq_true_eq, not_and]
    intro h1 h2
    obtain ⟨n, h3, h4⟩ := List.mem_map.mp h2
    refine hn (List.mem_map.mpr ⟨(s, n), ?_, ?_⟩)
    · unfold allN
      exact List.mem_flatMap.mpr ⟨s, hs, List.mem_map.mpr ⟨n, h3, rfl⟩⟩
    · simp [keyN, keyR, h1, h4]
theorem pickQ {r : Row} : (ps.filter fun q => decide (q.name = r.pe)) = match findQ ps r with
  | some q => [q]
  | none => [] := by
  cases e : findQ ps r with
  | some q =>
    obtain ⟨h1, h2⟩ := findQ_some e
    have := filter_one g.pn h1 (fun _ => true) rfl
    rw [h2] at this
    simpa using this
  | none => exact filter_none (findQ_none e)
theorem word_ok {r : Row} (hr : okR r) {ahead : List Row} (hk : ∀ o ∈ ahead, known ps ss o) (hl : ahead.length ≤ 1000) : F_word_of [rowD r, .list (ahead.map rowD), .list (ps.map perD), .list (ss.map shD)] = some (.str (wordB ps ss r ahead)) := by
  have lp : ps.length ≤ LIM := Nat.le_trans g.pl (by decide)
  have ls : ss.length ≤ LIM := Nat.le_trans g.sl (by decide)
  have h0 : rho0 N_word_of [rowD r, .list (ahead.map rowD), .list (ps.map perD), .list (ss.map shD)] = [.val (rowD r), .val (.list (ahead.map rowD)), .val (.list (ps.map perD)), .val (.list (ss.map shD)), .no, .no, .no, .no, .no] := by simp [rho0, N_word_of]
  unfold F_word_of
  rw [runF_eq]
  have lc1 : lcF 5 (tAndF (bF (eOp gEq (eOp gIx (eVarB 5) (eC (.int 0))) (eOp gIx (eVarB 0) (eC (.int 0))))) (bF (eOp gIn (eOp gIx (eVarB 0) (eC (.int 1))) (eList (lLc (iL (eOp gIx (eVarB 5) (eC (.int 2)))) 6 tYesF (eOp gIx (eVarB 6) (eC (.int 0)))))))) (eVar 5) [.val (rowD r), .val (.list (ahead.map rowD)), .val (.list (ps.map perD)), .val (.list (ss.map shD)), .no, .no, .no, .no, .no] (ss.map shD) = some ((ss.filter fun s => decide (s.name = r.sh) && decide (r.sk ∈ s.needs.map (·.1))).map shD) := by
    rw [lcF_mapped shD (fun s => decide (s.name = r.sh) && decide (r.sk ∈ s.needs.map (·.1))) shD]
    · intro s hs
      have ln : s.needs.length ≤ LIM := Nat.le_trans (g.gs s hs).nl (by decide)
      show tAndF _ _ [.val (rowD r), .val (.list (ahead.map rowD)), .val (.list (ps.map perD)), .val (.list (ss.map shD)), .no, .val (shD s), .no, .no, .no] = _
      have ta : bF (eOp gEq (eOp gIx (eVarB 5) (eC (.int 0))) (eOp gIx (eVarB 0) (eC (.int 0)))) [.val (rowD r), .val (.list (ahead.map rowD)), .val (.list (ps.map perD)), .val (.list (ss.map shD)), .no, .val (shD s), .no, .no, .no] = some (decide (s.name = r.sh)) := by
        simp only [shD, rowD, bF_eq, eOp_eq, eVarB_eq, eC_eq, List.getElem?_cons_succ, List.getElem?_cons_zero, slB_val, Option.bind_some, gIx_tuple, atI_0, gEq_str, truD_bool]
        rw [Option.some.injEq, Bool.eq_iff_iff]
        simp
      have lc2 : lcF 6 tYesF (eOp gIx (eVarB 6) (eC (.int 0))) [.val (rowD r), .val (.list (ahead.map rowD)), .val (.list (ps.map perD)), .val (.list (ss.map shD)), .no, .val (shD s), .no, .no, .no] (s.needs.map ndD) = some ((s.needs.map (·.1)).map .str) := by
        rw [lcF_mappedT ndD (fun n => .str n.1)]
        · rw [List.map_map]; rfl
        · intro n _
          refine ⟨?_, rfl⟩
          simp [ndD]
      have gi := gIn_strs r.sk (s.needs.map (·.1))
      have i1 : iL (eOp gIx (eVarB 5) (eC (.int 2))) [.val (rowD r), .val (.list (ahead.map rowD)), .val (.list (ps.map perD)), .val (.list (ss.map shD)), .no, .val (shD s), .no, .no, .no] = some (s.needs.map ndD) := by simp [shD, ln]
      have v : eList (lLc (iL (eOp gIx (eVarB 5) (eC (.int 2)))) 6 tYesF (eOp gIx (eVarB 6) (eC (.int 0)))) [.val (rowD r), .val (.list (ahead.map rowD)), .val (.list (ps.map perD)), .val (.list (ss.map shD)), .no, .val (shD s), .no, .no, .no] = some (.list ((s.needs.map (·.1)).map .str)) := by
        rw [eList_eq, lLc_eq, i1, Option.bind_some, if_pos (by rw [List.length_map]; exact ln), lc2]
        rfl
      have tb : bF (eOp gIn (eOp gIx (eVarB 0) (eC (.int 1))) (eList (lLc (iL (eOp gIx (eVarB 5) (eC (.int 2)))) 6 tYesF (eOp gIx (eVarB 6) (eC (.int 0)))))) [.val (rowD r), .val (.list (ahead.map rowD)), .val (.list (ps.map perD)), .val (.list (ss.map shD)), .no, .val (shD s), .no, .no, .no] = some (decide (r.sk ∈ s.needs.map (·.1))) := by
        rw [bF_eq, eOp_eq, v]
        generalize decide (r.sk ∈ s.needs.map (·.1)) = bb at gi ⊢
        generalize PyData.list ((s.needs.map (·.1)).map PyData.str) = dd at gi ⊢
        simp [rowD, gi]
      rw [tAndF_eq, ta, tb]
      cases decide (s.name = r.sh) <;> rfl
    · intro s _ _
      exact ⟨rfl, rfl⟩
  have i3 : iL (eVarB 3) [.val (rowD r), .val (.list (ahead.map rowD)), .val (.list (ps.map perD)), .val (.list (ss.map shD)), .no, .no, .no, .no, .no] = some (ss.map shD) := by simp [ls]
  rw [pickS g] at lc1
  have oS : okDs ((match findN ss r with | some x => [x.1] | none => []).map shD) = true ∧ (PyData.list ((match findN ss r with | some x => [x.1] | none => []).map shD)).depth ≤ 64 := okDs_sh fun s hs => by
    cases e : findN ss r with
    | none => rw [e] at hs; cases hs
    | some x =>
      rw [e] at hs
      rw [List.mem_singleton.mp hs]
      exact g.gs _ (allN_mem (findN_some e).1).1
  have geS := gEq_nil _ oS.1 oS.2
  have s4 : sSet 4 (eList (lLc (iL (eVarB 3)) 5 (tAndF (bF (eOp gEq (eOp gIx (eVarB 5) (eC (.int 0))) (eOp gIx (eVarB 0) (eC (.int 0))))) (bF (eOp gIn (eOp gIx (eVarB 0) (eC (.int 1))) (eList (lLc (iL (eOp gIx (eVarB 5) (eC (.int 2)))) 6 tYesF (eOp gIx (eVarB 6) (eC (.int 0)))))))) (eVar 5))) [.val (rowD r), .val (.list (ahead.map rowD)), .val (.list (ps.map perD)), .val (.list (ss.map shD)), .no, .no, .no, .no, .no] = .nx [.val (rowD r), .val (.list (ahead.map rowD)), .val (.list (ps.map perD)), .val (.list (ss.map shD)), .val (.list ((match findN ss r with | some x => [x.1] | none => []).map shD)), .no, .no, .no, .no] := by
    rw [sSet_eq, eList_eq, lLc_eq, i3, Option.bind_some, if_pos (by rw [List.length_map]; exact ls), lc1]
    rfl
  generalize hA : (match findN ss r with | some x => [x.1] | none => []) = fs at lc1 oS geS s4
  have lc7 : lcF 5 (bF (eOp gEq (eOp gIx (eVarB 5) (eC (.int 0))) (eOp gIx (eVarB 0) (eC (.int 2))))) (eVar 5) [.val (rowD r), .val (.list (ahead.map rowD)), .val (.list (ps.map perD)), .val (.list (ss.map shD)), .val (.list (fs.map shD)), .no, .no, .no, .no] (ps.map perD) = some ((ps.filter fun q => decide (q.name = r.pe)).map perD) := by
    rw [lcF_mapped perD (fun q => decide (q.name = r.pe)) perD]
    · intro q _
      simp only [perD, rowD, bF_eq, eOp_eq, eVarB_eq, eC_eq, List.set_cons_succ, List.set_cons_zero, List.getElem?_cons_succ, List.getElem?_cons_zero, slB_val, Option.bind_some, gIx_tuple, atI_0, atI_2, gEq_str, truD_bool]
      rw [Option.some.injEq, Bool.eq_iff_iff]
      simp
    · intro q _ _
      exact ⟨rfl, rfl⟩
  rw [pickQ g] at lc7
  have oP : okDs ((match findQ ps r with | some x => [x] | none => []).map perD) = true ∧ (PyData.list ((match findQ ps r with | some x => [x] | none => []).map perD)).depth ≤ 64 := okDs_per fun s hs => by
    cases e : findQ ps r with
    | none => rw [e] at hs; cases hs
    | some x =>
      rw [e] at hs
      rw [List.mem_singleton.mp hs]
      exact g.gp _ (findQ_some e).1
  have geP := gEq_nil _ oP.1 oP.2
  have i2 : iL (eVarB 2) [.val (rowD r), .val (.list (ahead.map rowD)), .val (.list (ps.map perD)), .val (.list (ss.map shD)), .val (.list (fs.map shD)), .no, .no, .no, .no] = some (ps.map perD) := by simp [lp]
  have s7 : sSet 7 (eList (lLc (iL (eVarB 2)) 5 (bF (eOp gEq (eOp gIx (eVarB 5) (eC (.int 0))) (eOp gIx (eVarB 0) (eC (.int 2))))) (eVar 5))) [.val (rowD r), .val (.list (ahead.map rowD)), .val (.list (ps.map perD)), .val (.list (ss.map shD)), .val (.list (fs.map shD)), .no, .no, .no, .no] = .nx [.val (rowD r), .val (.list (ahead.map rowD)), .val (.list (ps.map perD)), .val (.list (ss.map shD)), .val (.list (fs.map shD)), .no, .no, .val (.list ((match findQ ps r with | some x => [x] | none => []).map perD)), .no] := by
    rw [sSet_eq, eList_eq, lLc_eq, i2, Option.bind_some, if_pos (by rw [List.length_map]; exact lp), lc7]
    rfl
  generalize hB : (match findQ ps r with | some x => [x] | none => []) = fq at lc7 oP geP s7
  have t1 : (tOrF (bF (eOp gEq (eVarB 4) (eList (eLstD eNil)))) (bF (eOp gEq (eVarB 7) (eList (eLstD eNil))))) [.val (rowD r), .val (.list (ahead.map rowD)), .val (.list (ps.map perD)), .val (.list (ss.map shD)), .val (.list (fs.map shD)), .no, .no, .val (.list (fq.map perD)), .no] = some (fs.isEmpty || fq.isEmpty) := by
    rw [isEmpty_map] at geS geP
    generalize fs.map shD = L1 at geS ⊢
    generalize fq.map perD = L2 at geP ⊢
    generalize fs.isEmpty = b1 at geS ⊢
    generalize fq.isEmpty = b2 at geP ⊢
    cases b1 <;> simp [geS, geP]
  have hb : ∃ ρ, b_word_of (rho0 N_word_of [rowD r, .list (ahead.map rowD), .list (ps.map perD), .list (ss.map shD)]) = .rt (.str (wordB ps ss r ahead)) ρ := by
    unfold b_word_of
    rw [h0, sSeq_eq, s4, thn_nx, sSeq_eq, s7, thn_nx, sSeq_eq, sIf_eq, t1, outB_some]
    unfold wordB
    cases e1 : findN ss r with
    | none =>
      rw [e1] at hA
      subst hA
      exact ⟨_, rfl⟩
    | some x =>
      rw [e1] at hA
      subst hA
      cases e2 : findQ ps r with
      | none =>
        rw [e2] at hB
        subst hB
        exact ⟨_, rfl⟩
      | some q =>
        rw [e2] at hB
        subst hB
        obtain ⟨hx, ex⟩ := findN_some e1
        obtain ⟨hq, eq⟩ := findQ_some e2
        have hs := (allN_mem hx).1
        have gs := g.gs _ hs
        have gq := g.gp _ hq
        have fm := mayL q gq x.1 gs r.sk
        have ft := taken_ok g q hk hl
        have ekk : x.2.1 = r.sk := congrArg Prod.snd ex
        rw [eq] at ft
        have eo : (ahead.filter fun o => decide (o.pe = r.pe)) = ownR ahead r := rfl
        rw [eo] at ft
        dsimp only
        rw [ekk]
        simp only [List.isEmpty_cons, Bool.or_self, Bool.false_eq_true, if_false, sNext_eq, thn_nx]
        have t2 : tNotF (bF (eCall F_may (eCons (eOp gIx (eVarB 7) (eC (.int 0))) (eCons (eOp gIx (eVarB 4) (eC (.int 0))) (eCons (eOp gIx (eVarB 0) (eC (.int 1))) eNil))))) [.val (rowD r), .val (.list (ahead.map rowD)), .val (.list (ps.map perD)), .val (.list (ss.map shD)), .val (.list ([x.1].map shD)), .no, .no, .val (.list ([q].map perD)), .no] = some (!(mayB q x.1 r.sk)) := by
          simp [rowD, fm]
        rw [sSeq_eq, sIf_eq, t2]
        cases hm : mayB q x.1 r.sk with
        | false => simp
        | true =>
          simp only [Bool.not_true, outB_some, Bool.false_eq_true, if_false, sNext_eq, thn_nx, if_true]
          have s8 : sSet 8 (eCall F_taken (eCons (eVar 1) (eCons (eOp gIx (eVarB 7) (eC (.int 0))) (eCons (eVar 3) eNil)))) [.val (rowD r), .val (.list (ahead.map rowD)), .val (.list (ps.map perD)), .val (.list (ss.map shD)), .val (.list ([x.1].map shD)), .no, .no, .val (.list ([q].map perD)), .no] = .nx [.val (rowD r), .val (.list (ahead.map rowD)), .val (.list (ps.map perD)), .val (.list (ss.map shD)), .val (.list ([x.1].map shD)), .no, .no, .val (.list ([q].map perD)), .val (.list (((ownR ahead r).map (dayR ss)).map .int))] := by simp [ft]
          have gi := gIn_ints (dayS x.1) ((ownR ahead r).map (dayR ss))
          have t3 : bF (eOp gIn (eOp gFdiv (eOp gIx (eOp gIx (eOp gIx (eVarB 4) (eC (.int 0))) (eC (.int 1))) (eC (.int 0))) (eC (.int 24))) (eVarB 8)) [.val (rowD r), .val (.list (ahead.map rowD)), .val (.list (ps.map perD)), .val (.list (ss.map shD)), .val (.list ([x.1].map shD)), .no, .no, .val (.list ([q].map perD)), .val (.list (((ownR ahead r).map (dayR ss)).map .int))] = some (decide (dayS x.1 ∈ (ownR ahead r).map (dayR ss))) := by
            have cd : dayS x.1 = x.1.b / 24 := rfl
            rw [cd] at gi ⊢
            generalize decide (x.1.b / 24 ∈ (ownR ahead r).map (dayR ss)) = bb at gi ⊢
            generalize PyData.list (((ownR ahead r).map (dayR ss)).map PyData.int) = dd at gi ⊢
            simp [shD, stD, gi]
          have t4 : bF (eOp gGe (eCall gLen (eCons (eVarB 8) eNil)) (eOp gIx (eOp gIx (eVarB 7) (eC (.int 0))) (eC (.int 2)))) [.val (rowD r), .val (.list (ahead.map rowD)), .val (.list (ps.map perD)), .val (.list (ss.map shD)), .val (.list ([x.1].map shD)), .no, .no, .val (.list ([q].map perD)), .val (.list (((ownR ahead r).map (dayR ss)).map .int))] = some (decide (q.limit ≤ ((ownR ahead r).length : Nat))) := by
            simp [perD]
          rw [sSeq_eq, s8, thn_nx, sSeq_eq, sIf_eq, t3, outB_some]
          by_cases c1 : dayS x.1 ∈ (ownR ahead r).map (dayR ss)
          · simp only [c1, decide_true, if_true]
            exact ⟨_, rfl⟩
          · simp only [c1, decide_false, Bool.false_eq_true, if_false, sNext_eq, thn_nx]
            rw [sSeq_eq, sIf_eq, t4, outB_some]
            by_cases c2 : q.limit ≤ ((ownR ahead r).length : Nat)
            · simp only [c2, decide_true, if_true]
              exact ⟨_, rfl⟩
            · simp only [c2, decide_false, Bool.false_eq_true, if_false, sNext_eq, thn_nx]
              exact ⟨_, rfl⟩
  obtain ⟨ρ, hb⟩ := hb
  show (if (4 : Nat) = 4 then _ else _) = _
  rw [if_pos rfl, hb]
  rfl
end
end RK
namespace RK
open PySem PySem.Spec PyProof.Rows L2 RT
def rhoD (ps : List Person) (ss : List Shift) (rows : List Row) (due : List PyData) (ahead : List Row) (s5 s6 s7 s8 s9 : Sl) : Rho := [.val (.list (rows.map rowD)), .val (.list (ps.map perD)), .val (.list (ss.map shD)), .own due, .own (ahead.map rowD), s5, s6, s7, s8, s9, .no]
theorem rangeD_range' (n : Nat) : rangeD 0 n = (List.range' 0 n).map fun i => .int (i : Nat) := by
  unfold rangeD
  rw [List.range_eq_range']
  apply List.map_congr_left
  intro i _
  simp
section
variable {ps : List Person} {ss : List Shift} (g : GM ps ss)
include g
theorem due1 (rows : List Row) : ∀ (rs pre : List Row) (A : List PyData × List Row) (s5 s6 : Sl), rows = pre ++ rs → (∀ r ∈ rs, okR r) → (∀ r ∈ A.2, known ps ss r) → A.1.length + rs.length ≤ 1000 → A.2.length + rs.length ≤ 1000 →
    ∃ s5' s6', forF (tg1 5) (sSeq (sSet 6 (eCall (fun ds => onlyS (F_word_of ds)) (eCons (eOp gIx (eVarB 0) (eVarB 5)) (eCons (eVarB 4) (eCons (eVarB 1) (eCons (eVarB 2) eNil))))))
  (sSeq (sIf (bF (eOp gNe (eVarB 6) (eC (.str "")))) (sApp 3 (eTupD (eCons (eVar 6) (eCons (eVar 5) eNil)))) sNext)
  (sIf (bF (eOp gNe (eVarB 6) (eC (.str "stranger")))) (sApp 4 (eOp gIx (eVarB 0) (eVarB 5))) sNext))) ((List.range' pre.length rs.length).map fun i => .int (i : Nat)) (rhoD ps ss rows A.1 A.2 s5 s6 .no .no .no) = .nx (rhoD ps ss rows (goB ps ss pre.length A rs).1 (goB ps ss pre.length A rs).2 s5' s6' .no .no .no)
  | [], pre, A, s5, s6, _, _, _, _, _ => ⟨s5, s6, rfl⟩
  | r :: rs, pre, A, s5, s6, hrows, hr, hk, l1, l2 => by
    have l2' : A.2.length ≤ 1000 := by omega
    have fw := word_ok g (hr r List.mem_cons_self) hk l2'
    have kn : ∀ o ∈ (stepB ps ss A pre.length r).2, known ps ss o := by
      unfold stepB
      simp only
      split
      · exact hk
      · rename_i hw
        intro x hx
        rcases List.mem_append.mp hx with h1 | h1
        · exact hk x h1
        · rw [List.mem_singleton] at h1
          subst h1
          exact wordB_known hw
    have h1 : (stepB ps ss A pre.length r).1.length ≤ A.1.length + 1 := by
      unfold stepB
      simp only
      split <;> simp
    have h2 : (stepB ps ss A pre.length r).2.length ≤ A.2.length + 1 := by
      unfold stepB
      simp only
      split <;> simp
    obtain ⟨s5', s6', e⟩ := due1 rows rs (pre ++ [r]) (stepB ps ss A pre.length r) (.val (.int (pre.length : Nat))) (.val (.str (wordB ps ss r A.2))) (by simpa using hrows) (fun x hx => hr x (List.mem_cons_of_mem _ hx)) kn (by simp at l1; omega) (by simp at l2; omega)
    refine ⟨s5', s6', ?_⟩
    have hx : atI (rows.map rowD) ((pre.length : Nat) : Int) = some (rowD r) := by
      rw [atI_pos _ _ (by omega), List.getElem?_map]
      have : rows[((pre.length : Nat) : Int).toNat]? = some r := by
        rw [Int.toNat_natCast, hrows, List.getElem?_append_right (Nat.le_refl _)]
        simp
      rw [this]
      rfl
    rw [List.length_cons, List.range'_succ, List.map_cons, forF_cons1]
    have c1 : sSet 6 (eCall (fun ds => onlyS (F_word_of ds)) (eCons (eOp gIx (eVarB 0) (eVarB 5)) (eCons (eVarB 4) (eCons (eVarB 1) (eCons (eVarB 2) eNil))))) ((rhoD ps ss rows A.1 A.2 s5 s6 .no .no .no).set 5 (.val (.int (pre.length : Nat)))) = .nx (rhoD ps ss rows A.1 A.2 (.val (.int (pre.length : Nat))) (.val (.str (wordB ps ss r A.2))) .no .no .no) := by
      generalize (pre.length : Nat) = k at hx
      simp [rhoD, hx, fw]
    rw [sSeq_eq, c1, thn_nx, sSeq_eq]
    have lA1 : A.1.length ≤ LIM := by unfold LIM; omega
    have lA2 : A.2.length ≤ LIM := by unfold LIM; omega
    have c2 : (sIf (bF (eOp gNe (eVarB 6) (eC (.str "")))) (sApp 3 (eTupD (eCons (eVar 6) (eCons (eVar 5) eNil)))) sNext) (rhoD ps ss rows A.1 A.2 (.val (.int (pre.length : Nat))) (.val (.str (wordB ps ss r A.2))) .no .no .no) = .nx (rhoD ps ss rows (stepB ps ss A pre.length r).1 A.2 (.val (.int (pre.length : Nat))) (.val (.str (wordB ps ss r A.2))) .no .no .no) := by
      unfold stepB
      generalize wordB ps ss r A.2 = w
      by_cases hw : w = ""
      · simp [hw, rhoD]
      · simp [hw, rhoD, lA1, dataD]
    have c3 : (sIf (bF (eOp gNe (eVarB 6) (eC (.str "stranger")))) (sApp 4 (eOp gIx (eVarB 0) (eVarB 5))) sNext) (rhoD ps ss rows (stepB ps ss A pre.length r).1 A.2 (.val (.int (pre.length : Nat))) (.val (.str (wordB ps ss r A.2))) .no .no .no) = .nx (rhoD ps ss rows (stepB ps ss A pre.length r).1 (stepB ps ss A pre.length r).2 (.val (.int (pre.length : Nat))) (.val (.str (wordB ps ss r A.2))) .no .no .no) := by
      generalize (stepB ps ss A pre.length r).1 = f1
      have e2 : (stepB ps ss A pre.length r).2 = if wordB ps ss r A.2 = "stranger" then A.2 else A.2 ++ [r] := rfl
      rw [e2]
      generalize wordB ps ss r A.2 = w
      have dr : dataD (rowD r) = true := rfl
      generalize (pre.length : Nat) = k at hx
      by_cases hw : w = "stranger"
      · simp [hw, rhoD]
      · simp [hw, rhoD, lA2, hx, dr]
    rw [c2, thn_nx, c3, thn_nx]
    have ep : (pre ++ [r]).length = pre.length + 1 := by simp
    rw [ep] at e
    exact e
omit g in
theorem more_step (rows ahead : List Row) (hl : ahead.length ≤ 1000) (x : SN) (acc : List PyData) (ha : acc.length ≤ 5000) (s5 s6 s9 : Sl) :
    (sSeq (sSet 9 (eOp gMinus (eCall gLen (eCons (eList (lLc (iL (eVarB 4)) 10 (tAndF (bF (eOp gEq (eOp gIx (eVarB 10) (eC (.int 0))) (eOp gIx (eVarB 7) (eC (.int 0))))) (bF (eOp gEq (eOp gIx (eVarB 10) (eC (.int 1))) (eOp gIx (eVarB 8) (eC (.int 0)))))) (eVar 10))) eNil)) (eOp gIx (eVarB 8) (eC (.int 1)))))
  (sSeq (sIf (bF (eOp gLt (eVarB 9) (eC (.int 0)))) (sApp 3 (eTupD (eCons (eC (.str "few")) (eCons (eOp gIx (eVarB 7) (eC (.int 0))) (eCons (eOp gIx (eVarB 8) (eC (.int 0))) (eCons (eUn gNeg (eVarB 9)) eNil)))))) sNext)
  (sIf (bF (eOp gGt (eVarB 9) (eC (.int 0)))) (sApp 3 (eTupD (eCons (eC (.str "many")) (eCons (eOp gIx (eVarB 7) (eC (.int 0))) (eCons (eOp gIx (eVarB 8) (eC (.int 0))) (eCons (eVar 9) eNil)))))) sNext))) (rhoD ps ss rows acc ahead s5 s6 (.val (shD x.1)) (.val (ndD x.2)) s9) =
      .nx (rhoD ps ss rows (moreB ahead acc x) ahead s5 s6 (.val (shD x.1)) (.val (ndD x.2)) (.val (.int ((manyB ahead x : Nat) - x.2.2)))) := by
  have ll : ahead.length ≤ LIM := Nat.le_trans hl (by decide)
  have lc : lcF 10 (tAndF (bF (eOp gEq (eOp gIx (eVarB 10) (eC (.int 0))) (eOp gIx (eVarB 7) (eC (.int 0))))) (bF (eOp gEq (eOp gIx (eVarB 10) (eC (.int 1))) (eOp gIx (eVarB 8) (eC (.int 0)))))) (eVar 10) (rhoD ps ss rows acc ahead s5 s6 (.val (shD x.1)) (.val (ndD x.2)) s9) (ahead.map rowD) = some ((ahead.filter fun r => decide (keyR r = keyN x)).map rowD) := by
    rw [lcF_mapped rowD (fun r => decide (keyR r = keyN x)) rowD]
    · intro r _
      have e : decide (keyR r = keyN x) = (decide (r.sh = x.1.name) && decide (r.sk = x.2.1)) := by
        rw [Bool.eq_iff_iff]
        simp [keyR, keyN]
      rw [e]
      by_cases h1 : r.sh = x.1.name <;> by_cases h2 : r.sk = x.2.1 <;> simp [rhoD, rowD, shD, ndD, h1, h2]
    · intro r _ _
      exact ⟨rfl, rfl⟩
  have i4 : iL (eVarB 4) (rhoD ps ss rows acc ahead s5 s6 (.val (shD x.1)) (.val (ndD x.2)) s9) = some (ahead.map rowD) := by simp [rhoD, ll]
  have c1 : sSet 9 (eOp gMinus (eCall gLen (eCons (eList (lLc (iL (eVarB 4)) 10 (tAndF (bF (eOp gEq (eOp gIx (eVarB 10) (eC (.int 0))) (eOp gIx (eVarB 7) (eC (.int 0))))) (bF (eOp gEq (eOp gIx (eVarB 10) (eC (.int 1))) (eOp gIx (eVarB 8) (eC (.int 0)))))) (eVar 10))) eNil)) (eOp gIx (eVarB 8) (eC (.int 1)))) (rhoD ps ss rows acc ahead s5 s6 (.val (shD x.1)) (.val (ndD x.2)) s9) = .nx (rhoD ps ss rows acc ahead s5 s6 (.val (shD x.1)) (.val (ndD x.2)) (.val (.int ((manyB ahead x : Nat) - x.2.2)))) := by
    rw [sSet_eq, eOp_eq, eCall_eq, eCons_eq, eList_eq, lLc_eq, i4, Option.bind_some, if_pos (by rw [List.length_map]; exact ll), lc]
    simp [rhoD, manyB, ndD]
  rw [sSeq_eq, c1, thn_nx, sSeq_eq]
  have la : acc.length ≤ LIM := by unfold LIM; omega
  have em : moreB ahead acc x = (if x.2.2 < ((manyB ahead x : Nat) : Int) then (if ((manyB ahead x : Nat) : Int) < x.2.2 then acc ++ [.tuple [.str "few", .str x.1.name, .str x.2.1, .int (x.2.2 - ((manyB ahead x : Nat) : Int))]] else acc) ++ [.tuple [.str "many", .str x.1.name, .str x.2.1, .int (((manyB ahead x : Nat) : Int) - x.2.2)]] else (if ((manyB ahead x : Nat) : Int) < x.2.2 then acc ++ [.tuple [.str "few", .str x.1.name, .str x.2.1, .int (x.2.2 - ((manyB ahead x : Nat) : Int))]] else acc)) := rfl
  rw [em]
  generalize ((manyB ahead x : Nat) : Int) = m
  by_cases h1 : m < x.2.2
  · have h2 : ¬ x.2.2 < m := by omega
    have h3 : m - x.2.2 < 0 := by omega
    have h4 : ¬ 0 < m - x.2.2 := by omega
    have h5 : -(m - x.2.2) = x.2.2 - m := by omega
    simp only [h1, h2, if_true, if_false]
    generalize hz : m - x.2.2 = z at h3 h4 h5
    simp [h3, h4, h5, rhoD, shD, ndD, la, dataD]
  · by_cases h2 : x.2.2 < m
    · have h3 : ¬ m - x.2.2 < 0 := by omega
      have h4 : 0 < m - x.2.2 := by omega
      simp only [h1, h2, if_true, if_false]
      generalize m - x.2.2 = z at h3 h4
      simp [h3, h4, rhoD, shD, ndD, la, dataD]
    · have h3 : ¬ m - x.2.2 < 0 := by omega
      have h4 : ¬ 0 < m - x.2.2 := by omega
      simp only [h1, h2, if_false]
      generalize m - x.2.2 = z at h3 h4
      simp [h3, h4, rhoD]
omit g in
theorem due2 (rows ahead : List Row) (hl : ahead.length ≤ 1000) (s : Shift) (s5 s6 : Sl) : ∀ (L : List (Str × Int)) (acc : List PyData) (s8 s9 : Sl), acc.length + 2 * L.length ≤ 5000 →
    ∃ s8' s9', forF (tg1 8) (sSeq (sSet 9 (eOp gMinus (eCall gLen (eCons (eList (lLc (iL (eVarB 4)) 10 (tAndF (bF (eOp gEq (eOp gIx (eVarB 10) (eC (.int 0))) (eOp gIx (eVarB 7) (eC (.int 0))))) (bF (eOp gEq (eOp gIx (eVarB 10) (eC (.int 1))) (eOp gIx (eVarB 8) (eC (.int 0)))))) (eVar 10))) eNil)) (eOp gIx (eVarB 8) (eC (.int 1)))))
  (sSeq (sIf (bF (eOp gLt (eVarB 9) (eC (.int 0)))) (sApp 3 (eTupD (eCons (eC (.str "few")) (eCons (eOp gIx (eVarB 7) (eC (.int 0))) (eCons (eOp gIx (eVarB 8) (eC (.int 0))) (eCons (eUn gNeg (eVarB 9)) eNil)))))) sNext)
  (sIf (bF (eOp gGt (eVarB 9) (eC (.int 0)))) (sApp 3 (eTupD (eCons (eC (.str "many")) (eCons (eOp gIx (eVarB 7) (eC (.int 0))) (eCons (eOp gIx (eVarB 8) (eC (.int 0))) (eCons (eVar 9) eNil)))))) sNext))) (L.map ndD) (rhoD ps ss rows acc ahead s5 s6 (.val (shD s)) s8 s9) = .nx (rhoD ps ss rows ((L.map fun n => ((s, n) : SN)).foldl (moreB ahead) acc) ahead s5 s6 (.val (shD s)) s8' s9')
  | [], acc, s8, s9, _ => ⟨s8, s9, rfl⟩
  | n :: L, acc, s8, s9, ha => by
    have ml := moreB_len ahead acc (s, n)
    obtain ⟨s8', s9', e⟩ := due2 rows ahead hl s s5 s6 L (moreB ahead acc (s, n)) (.val (ndD n)) (.val (.int ((manyB ahead (s, n) : Nat) - n.2))) (by simp at ha; omega)
    refine ⟨s8', s9', ?_⟩
    rw [List.map_cons, forF_cons1]
    have st := more_step (ps := ps) (ss := ss) rows ahead hl (s, n) acc (by omega) s5 s6 s9
    refine (congrArg (fun o : Out => o.thn _) st).trans ?_
    rw [thn_nx, e]
    rfl
theorem due3 (rows ahead : List Row) (hl : ahead.length ≤ 1000) (s5 s6 : Sl) : ∀ (L : List Shift) (acc : List PyData) (s7 s8 s9 : Sl), (∀ s ∈ L, s ∈ ss) → acc.length + 12 * L.length ≤ 5000 →
    ∃ s7' s8' s9', forF (tg1 7) (sFor (iL (eOp gIx (eVarB 7) (eC (.int 2)))) (tg1 8) (sSeq (sSet 9 (eOp gMinus (eCall gLen (eCons (eList (lLc (iL (eVarB 4)) 10 (tAndF (bF (eOp gEq (eOp gIx (eVarB 10) (eC (.int 0))) (eOp gIx (eVarB 7) (eC (.int 0))))) (bF (eOp gEq (eOp gIx (eVarB 10) (eC (.int 1))) (eOp gIx (eVarB 8) (eC (.int 0)))))) (eVar 10))) eNil)) (eOp gIx (eVarB 8) (eC (.int 1)))))
  (sSeq (sIf (bF (eOp gLt (eVarB 9) (eC (.int 0)))) (sApp 3 (eTupD (eCons (eC (.str "few")) (eCons (eOp gIx (eVarB 7) (eC (.int 0))) (eCons (eOp gIx (eVarB 8) (eC (.int 0))) (eCons (eUn gNeg (eVarB 9)) eNil)))))) sNext)
  (sIf (bF (eOp gGt (eVarB 9) (eC (.int 0)))) (sApp 3 (eTupD (eCons (eC (.str "many")) (eCons (eOp gIx (eVarB 7) (eC (.int 0))) (eCons (eOp gIx (eVarB 8) (eC (.int 0))) (eCons (eVar 9) eNil)))))) sNext)))) (L.map shD) (rhoD ps ss rows acc ahead s5 s6 s7 s8 s9) = .nx (rhoD ps ss rows ((allN L).foldl (moreB ahead) acc) ahead s5 s6 s7' s8' s9')
  | [], acc, s7, s8, s9, _, _ => ⟨s7, s8, s9, rfl⟩
  | s :: L, acc, s7, s8, s9, hL, ha => by
    have hs := hL s List.mem_cons_self
    have nl := (g.gs s hs).nl
    have ll : s.needs.length ≤ LIM := Nat.le_trans nl (by decide)
    obtain ⟨s8a, s9a, e1⟩ := due2 (ps := ps) (ss := ss) rows ahead hl s s5 s6 s.needs acc s8 s9 (by simp at ha; omega)
    have fl := foldl_more_len (ahead := ahead) (s.needs.map fun n => ((s, n) : SN)) acc
    obtain ⟨s7', s8', s9', e2⟩ := due3 rows ahead hl s5 s6 L ((s.needs.map fun n => ((s, n) : SN)).foldl (moreB ahead) acc) (.val (shD s)) s8a s9a (fun x hx => hL x (List.mem_cons_of_mem _ hx)) (by simp at ha fl; omega)
    refine ⟨s7', s8', s9', ?_⟩
    rw [List.map_cons, forF_cons1]
    have i1 : iL (eOp gIx (eVarB 7) (eC (.int 2))) (rhoD ps ss rows acc ahead s5 s6 (.val (shD s)) s8 s9) = some (s.needs.map ndD) := by simp [rhoD, shD, ll]
    have ea : (allN (s :: L)).foldl (moreB ahead) acc = (allN L).foldl (moreB ahead) ((s.needs.map fun n => ((s, n) : SN)).foldl (moreB ahead) acc) := by
      unfold allN
      rw [List.flatMap_cons, List.foldl_append]
    show ((sFor _ _ _ (rhoD ps ss rows acc ahead s5 s6 (.val (shD s)) s8 s9)).thn _) = _
    rw [sFor_eq, i1, outL_some, e1, thn_nx, e2, ea]
theorem due_ok {rows : List Row} (hr : ∀ r ∈ rows, okR r) (hl : rows.length ≤ 1000) : F_due_of [.list (rows.map rowD), .list (ps.map perD), .list (ss.map shD)] = some (.list (dueB ps ss rows)) := by
  have ll : rows.length ≤ LIM := Nat.le_trans hl (by decide)
  have ls : ss.length ≤ LIM := Nat.le_trans g.sl (by decide)
  have sl := g.sl
  have gl := goB_len ps ss rows 0 ([], [])
  obtain ⟨s5, s6, e1⟩ := due1 g rows rows [] ([], []) .no .no rfl hr (fun r h => by cases h) (by simpa using hl) (by simpa using hl)
  obtain ⟨s7, s8, s9, e2⟩ := due3 g rows (goB ps ss 0 ([], []) rows).2 (by have := gl.2; simp at this; omega) s5 s6 ss (goB ps ss 0 ([], []) rows).1 .no .no .no (fun _ h => h) (by have := gl.1; simp at this; omega)
  unfold F_due_of
  rw [runF_eq]
  have h0 : rho0 N_due_of [.list (rows.map rowD), .list (ps.map perD), .list (ss.map shD)] = [.val (.list (rows.map rowD)), .val (.list (ps.map perD)), .val (.list (ss.map shD)), .no, .no, .no, .no, .no, .no, .no, .no] := by simp [rho0, N_due_of]
  have i1 : iR1 (eCons (eCall gLen (eCons (eVarB 0) eNil)) eNil) (rhoD ps ss rows [] [] .no .no .no .no .no) = some ((List.range' 0 rows.length).map fun i => .int (i : Nat)) := by
    rw [← rangeD_range']
    have hc : ((rows.length : Nat) : Int) ≤ 1000000 ∧ (-1000000 : Int) ≤ ((rows.length : Nat) : Int) := by omega
    simp [rhoD, hc]
  have i2 : iL (eVar 2) (rhoD ps ss rows (goB ps ss 0 ([], []) rows).1 (goB ps ss 0 ([], []) rows).2 s5 s6 .no .no .no) = some (ss.map shD) := by simp [rhoD, ls]
  have hb : ∃ ρ, b_due_of (rho0 N_due_of [.list (rows.map rowD), .list (ps.map perD), .list (ss.map shD)]) = .rt (.list (dueB ps ss rows)) ρ := by
    unfold b_due_of
    rw [h0, sSeq_eq]
    have a0 : sSetL 3 (eLstD eNil) [.val (.list (rows.map rowD)), .val (.list (ps.map perD)), .val (.list (ss.map shD)), .no, .no, .no, .no, .no, .no, .no, .no] = .nx [.val (.list (rows.map rowD)), .val (.list (ps.map perD)), .val (.list (ss.map shD)), .own [], .no, .no, .no, .no, .no, .no, .no] := rfl
    have a1 : sSetL 4 (eLstD eNil) [.val (.list (rows.map rowD)), .val (.list (ps.map perD)), .val (.list (ss.map shD)), .own [], .no, .no, .no, .no, .no, .no, .no] = .nx (rhoD ps ss rows [] [] .no .no .no .no .no) := rfl
    rw [a0, thn_nx, sSeq_eq, a1, thn_nx, sSeq_eq, sFor_eq, i1, outL_some]
    have e1' := e1
    simp only [List.length_nil] at e1'
    rw [e1', thn_nx, sSeq_eq, sFor_eq, i2, outL_some, e2, thn_nx]
    exact ⟨_, rfl⟩
  obtain ⟨ρ, hb⟩ := hb
  show (if (3 : Nat) = 3 then _ else _) = _
  rw [if_pos rfl, hb]
  rfl
end
theorem atI_end {α : Type} (l : List α) (x : α) : atI (l ++ [x]) (-1) = some x := atI_last (by simp)
theorem kinds_ok {l : List PyData} (h : ∀ d ∈ l, okF d) (hl : l.length ≤ LIM) : F_kinds [.list l] = some (.bool true) := by
  have loop : ∀ (L : List PyData) (s1 : Sl), (∀ d ∈ L, okF d) → ∃ s1', forF (tg1 1) (sIf (tOrF (tNotF (bF (eIsi .tuple (eVarB 1)))) (tNotF (bF (eCall F_int (eCons (eOp gIx (eVarB 1) (eUn gNeg (eC (.int 1)))) eNil))))) (sRet (eC (.bool false))) sNext) L [.val (.list l), s1] = .nx [.val (.list l), s1'] := by
    intro L
    induction L with
    | nil => intro s1 _; exact ⟨s1, rfl⟩
    | cons d L ih =>
      intro s1 hL
      obtain ⟨_, _, _, m, i, rfl⟩ := hL d List.mem_cons_self
      obtain ⟨s1', e⟩ := ih (.val (.tuple (m ++ [.int i]))) fun y hy => hL y (List.mem_cons_of_mem _ hy)
      refine ⟨s1', ?_⟩
      rw [forF_cons1]
      have fi := F_int_int i
      have ae := atI_end m (PyData.int i)
      generalize m ++ [PyData.int i] = M at ae e ⊢
      have st : (sIf (tOrF (tNotF (bF (eIsi .tuple (eVarB 1)))) (tNotF (bF (eCall F_int (eCons (eOp gIx (eVarB 1) (eUn gNeg (eC (.int 1)))) eNil))))) (sRet (eC (.bool false))) sNext) [.val (.list l), .val (.tuple M)] = .nx [.val (.list l), .val (.tuple M)] := by
        simp [ae, fi]
      show ((sIf _ _ _ [.val (.list l), .val (.tuple M)]).thn _) = _
      rw [st, thn_nx, e]
  obtain ⟨s1, e⟩ := loop l .no h
  unfold F_kinds
  rw [runF_eq]
  have h0 : rho0 N_kinds [.list l] = [.val (.list l), .no] := by simp [rho0, N_kinds]
  have i0 : iL (eVar 0) [.val (.list l), .no] = some l := by
    rw [iL_eq]
    exact lstD_list _ hl
  have hb : ∃ ρ, b_kinds (rho0 N_kinds [.list l]) = .rt (.bool true) ρ := by
    unfold b_kinds
    rw [h0, sSeq_eq, sFor_eq, i0, outL_some, e, thn_nx]
    exact ⟨_, rfl⟩
  obtain ⟨ρ, hb⟩ := hb
  show (if (1 : Nat) = 1 then _ else _) = _
  rw [if_pos rfl, hb]
  rfl
end RK
namespace RK
open PySem PySem.Spec PyProof.Rows L2 RT
noncomputable section
variable {P : Program} {w : World} {K : PySem.W.Frag} {mg : Str → Option Value} {base : Heap}
abbrev N_law : List Str := ["_law_script", "_law_made", "_law_way", "_law_rows", "_law_k", "_law_cell_here", "_law_book", "_law_handed", "_law_late", "_law_turn", "_law_shift_here", "_law_person_here", "_law_answers", "_law_some", "_law_found"]
theorem sc_law : FnScope N_law ["_law_script"] (defScope s_law) := ⟨rfl, rfl, rfl, by decide +kernel, rfl, by decide +kernel, by decide +kernel⟩
def b_law : SS := (sSeq (sSet 1 (eCall F_parts (eCons (eVar 0) eNil)))
  (sSeq (sSet 2 (eCall F_cell (eCons (eVar 0) (eCons (eC (.int 29)) eNil))))
  (sSeq (sSetL 3 (eCallL fl_gone_along (eCons (eOp gIx (eVarB 1) (eC (.int 0))) (eCons (eOp gIx (eVarB 1) (eC (.int 1))) (eCons (eCall gInt (eCons (eOp gEq (eOp gMod (eOp gFdiv (eVarB 2) (eC (.int 84))) (eC (.int 3))) (eC (.int 0))) eNil)) eNil)))))
  (sSeq (sIf (bF (eOp gGt (eOp gMod (eVarB 2) (eC (.int 3))) (eC (.int 0)))) (sFor (iR1 (eCons (eOp gMod (eOp gFdiv (eVarB 2) (eC (.int 3))) (eC (.int 7))) eNil)) (tg1 4) (sSeq (sSet 5 (eCall F_cell (eCons (eVar 0) (eCons (eOp gAdd (eC (.int 30)) (eVarB 4)) eNil))))
  (sIns 3 (eOp gMod (eCall F_cell (eCons (eVar 0) (eCons (eOp gAdd (eC (.int 40)) (eVarB 4)) eNil))) (eOp gAdd (eCall gLen (eCons (eVarB 3) eNil)) (eC (.int 1)))) (eCall F_row_by (eCons (eVar 5) (eCons (eOp gIx (eVarB 1) (eC (.int 0))) (eCons (eOp gIx (eVarB 1) (eC (.int 1))) eNil))))))) sNext)
  (sSeq (sIf (bF (eOp gEq (eOp gMod (eVarB 2) (eC (.int 3))) (eC (.int 2)))) (sSetL 3 (lLc (iR1 (eCons (eCall gLen (eCons (eVarB 3) eNil)) eNil)) 4 (bF (eOp gGt (eOp gMod (eOp gAdd (eVarB 4) (eOp gFdiv (eVarB 2) (eC (.int 21)))) (eC (.int 4))) (eC (.int 0)))) (eOp gIx (eVarB 3) (eVarB 4)))) sNext)
  (sSeq (sSetB 6 kB fn_book_of (eCons (eList (lSl (eOp gIx (eVarB 1) (eC (.int 0))) oNone (oSome (eUn gNeg (eC (.int 1)))))) (eCons (eList (lSl (eOp gIx (eVarB 1) (eC (.int 1))) oNone (oSome (eUn gNeg (eC (.int 1)))))) (eCons (eCall F_cell (eCons (eVar 0) (eCons (eC (.int 25)) eNil))) eNil))))
  (sSeq (sSetL 7 (eCallL gListOf (eCons (eVarB 3) eNil)))
  (sSeq (sSet 8 (eCall F_cell (eCons (eVar 0) (eCons (eC (.int 27)) eNil))))
  (sSeq (sFor (iR1 (eCons (eC (.int 2)) eNil)) (tg1 9) (sSeq (sDrop (eList (fun ρ => onlyFs (eMethL kB noB.bk 6 frl_faults (eCons (eVarB 7) eNil) ρ))))
  (sSeq (sFor (iL (eList (lSl (eList (lSl (eOp gIx (eVarB 1) (eC (.int 1))) (oSome (eUn gNeg (eC (.int 1)))) oNone)) oNone (oSome (eOp gMod (eOp gAdd (eVarB 8) (eVarB 9)) (eC (.int 2))))))) (tg1 10) (sMut kB 6 fm_add_shift (eCons (eOp gIx (eVarB 10) (eC (.int 0))) (eCons (eOp gIx (eVarB 10) (eC (.int 1))) (eCons (eList (eCallL gListOf (eCons (eOp gIx (eVarB 10) (eC (.int 2))) eNil))) eNil)))))
  (sFor (iL (eList (lSl (eList (lSl (eOp gIx (eVarB 1) (eC (.int 0))) (oSome (eUn gNeg (eC (.int 1)))) oNone)) oNone (oSome (eOp gMod (eOp gAdd (eOp gAdd (eVarB 8) (eVarB 9)) (eC (.int 1))) (eC (.int 2))))))) (tg1 11) (sSeq (sMut kB 6 fm_add_person (eCons (eOp gIx (eVarB 11) (eC (.int 0))) (eCons (eList (eCallL gListOf (eCons (eOp gIx (eVarB 11) (eC (.int 1))) eNil))) (eCons (eOp gIx (eVarB 11) (eC (.int 2))) eNil))))
  (sSeq (sDrop (eList (fun ρ => onlyFs (eMethL kB noB.bk 6 frl_faults (eCons (eVarB 7) eNil) ρ))))
  (sMut kB 6 fm_rested (eCons (eVar 11) eNil))))))))
  (sSeq (sFrzI 3 (sSet 12 (eList (lLc (iT (eTupD (eCons (eVar 3) (eCons (eList (lSl (eVarB 3) (oSome (eC (.int 1))) oNone)) eNil)))) 13 tYesF (eList (eMethL kB noB.bk 6 frl_faults (eCons (eList (eCallL gListOf (eCons (eVarB 13) eNil))) eNil)))))))
  (sSeq (sFor (iT (eTupD (eCons (eVar 3) (eCons (eList (lSl (eVarB 3) (oSome (eC (.int 1))) oNone)) (eCons (eList (lStep (-1) (eVarB 3))) (eCons (eVar 3) eNil)))))) (tg1 13) (sSeq (sClr 7)
  (sSeq (sExt 7 (eVarB 13))
  (sSeq (sSetL 14 (fun ρ => onlyFs (eMethL kB noB.bk 6 frl_faults (eCons (eVarB 7) eNil) ρ)))
  (sSeq (sIf (tOrF (tNotF (bF (eIsi .list (eVarB 14)))) (tOrF (tNotF (bF (eCall (fun ds => onlyS (F_kinds ds)) (eCons (eVarB 14) eNil)))) (bF (eOp gNe (eVarB 7) (eVarB 13))))) (sRet (eC (.bool false))) sNext)
  (sSeq (sIf (bF (eOp gNe (eVarB 14) (eCall F_due_of (eCons (eVar 13) (eCons (eOp gIx (eVarB 1) (eC (.int 0))) (eCons (eOp gIx (eVarB 1) (eC (.int 1))) eNil)))))) (sRet (eC (.bool false))) sNext)
  (sClr 14)))))))
  (sRet (eOp gEq (eVarB 12) (eList (lLc (iT (eTupD (eCons (eVar 3) (eCons (eList (lSl (eVarB 3) (oSome (eC (.int 1))) oNone)) eNil)))) 13 tYesF (eCall F_due_of (eCons (eVar 13) (eCons (eOp gIx (eVarB 1) (eC (.int 0))) (eCons (eOp gIx (eVarB 1) (eC (.int 1))) eNil)))))))))))))))))))
def F_law : List PyData → Option PyData := runF N_law 1 b_law
theorem okf_law (T : Txt K mg) {f : Addr} {fd : FuncData} (F : FunD K "law" "law" (defArgs s_law) (defBody s_law) (defScope s_law) [] [] f fd) : FnOk P w K mg base CX0 6 f fd ["_law_script"] (spPure K F_law) := by
  refine fn_mk (k := 5) F sc_law fun cdv A outer s H E hr => ?_
  have hu := hr.units
  have hv := hv_of hr
  exact ⟨_, ((ss_cons (s_set 1 sc_law.nd (se_call (ok_parts T) hr (x_ac (se_var 0) sa_nil)))
    (ss_cons (s_set 2 sc_law.nd (se_call (ok_cell T) hr (x_ac (se_var 0) (x_ac se_int sa_nil))))
    (ss_cons (s_setL 3 sc_law.nd (sl_callL (pl_gone_along T) hr (x_ac (se_ix (sb_var 1) (x_eb se_int)) (x_ac (se_ix (sb_var 1) (x_eb se_int)) (x_ac (se_ct int_s call_int1 T.z_int (x_abc (x_eb (se_cmp eq2_s (op_eq2 hu) (x_eb (se_mod (x_eb (se_fdiv (sb_var 2) (x_eb se_int))) (x_eb se_int))) (x_eb se_int) (nomark _))) sab_nil)) sa_nil)))))
    (ss_cons (s_if (st_cmp gt_s op_gt (x_eb (se_mod (sb_var 2) (x_eb se_int))) (x_eb se_int) (nomark _)) (ss_one (s_for PassesOwn.never rfl (si_range1 T.z_range (x_abc (x_eb (se_mod (x_eb (se_fdiv (sb_var 2) (x_eb se_int))) (x_eb se_int))) sab_nil)) (pg_name (i := 4) sc_law.nd rfl (by first | exact Or.inl rfl | exact Or.inr rfl)) (tg1_ok 4) (ss_cons (s_set 5 sc_law.nd (se_call (ok_cell T) hr (x_ac (se_var 0) (x_ac (se_add (x_eb se_int) (sb_var 4)) sa_nil))))
    (ss_one (s_ins 3 (se_mod (x_eb (se_call (ok_cell T) hr (x_ac (se_var 0) (x_ac (se_add (x_eb se_int) (sb_var 4)) sa_nil)))) (x_eb (se_add (x_eb (se_cb len_s call_len T.z_len (x_abc (sb_var 3) sab_nil))) (x_eb se_int)))) (se_call (ok_row_by T) hr (x_ac (se_var 5) (x_ac (se_ix (sb_var 1) (x_eb se_int)) (x_ac (se_ix (sb_var 1) (x_eb se_int)) sa_nil)))) (by exact (ps_expr (pe_bm PySem.F.plainAttrs_list PySem.F.slot_list_insert PySem.F.type_list_insert mt_insert (pv 3) (pa_cons (x_pe (K := K) (se_mod (x_eb (se_call (ok_cell T) hr (x_ac (se_var 0) (x_ac (se_add (x_eb se_int) (sb_var 4)) sa_nil)))) (x_eb (se_add (x_eb (se_cb len_s call_len T.z_len (x_abc (sb_var 3) sab_nil))) (x_eb se_int))))) (pa_cons (x_pe (K := K) (se_call (ok_row_by T) hr (x_ac (se_var 5) (x_ac (se_ix (sb_var 1) (x_eb se_int)) (x_ac (se_ix (sb_var 1) (x_eb se_int)) sa_nil))))) pa_nil)))))))))) ss_nil)
    (ss_cons (s_if (st_cmp eq2_s (op_eq2 hu) (x_eb (se_mod (sb_var 2) (x_eb se_int))) (x_eb se_int) (nomark _)) (ss_one (s_setL 3 sc_law.nd (sl_lc (j := 4) rfl sc_law.nd rfl (x_ib (si_range1 T.z_range (x_abc (x_eb (se_cb len_s call_len T.z_len (x_abc (sb_var 3) sab_nil))) sab_nil))) (blkOk_by (N := N_law) (sc := defScope s_law) (own := [("_law_k", 4)]) (by decide +kernel)) (fun _ _ _ _ _ => (sts_one (st_cmp gt_s op_gt (x_eb (se_mod (x_eb (se_add (sb_var 4) (x_eb (se_fdiv (sb_var 2) (x_eb se_int))))) (x_eb se_int))) (x_eb se_int) (nomark _)))) (fun _ _ _ _ _ => (se_ix (sb_var 3) (sb_var 4))) (fun _ _ _ _ _ => pg_name sc_law.nd rfl (Or.inl rfl))))) ss_nil)
    (ss_cons (s_setB 6 (pn_book_of T) hr rfl sc_law.nd (x_ac (x_le (sl_sl (x_eb (se_ix (sb_var 1) (x_eb se_int))) so_none (so_some (x_eb (se_neg (x_eb se_int)))))) (x_ac (x_le (sl_sl (x_eb (se_ix (sb_var 1) (x_eb se_int))) so_none (so_some (x_eb (se_neg (x_eb se_int)))))) (x_ac (se_call (ok_cell T) hr (x_ac (se_var 0) (x_ac se_int sa_nil))) sa_nil))))
    (ss_cons (s_setL 7 sc_law.nd (sl_ct listOf_s call_list_of T.z_list (x_abc (sb_var 3) sab_nil)))
    (ss_cons (s_set 8 sc_law.nd (se_call (ok_cell T) hr (x_ac (se_var 0) (x_ac se_int sa_nil))))
    (ss_cons (s_for PassesOwn.never rfl (si_range1 T.z_range (x_abc (x_eb se_int) sab_nil)) (pg_name (i := 9) sc_law.nd rfl (by first | exact Or.inl rfl | exact Or.inr rfl)) (tg1_ok 9) (ss_cons (s_expr (x_le (sl_callRLB 6 (prl_faults T) hr (sca_own 7 (pv 7) sca_nil) (pv 6))))
    (ss_cons (s_for PassesOwn.never rfl (si_list (x_le (sl_sl (x_eb (x_le (sl_sl (x_eb (se_ix (sb_var 1) (x_eb se_int))) (so_some (x_eb (se_neg (x_eb se_int)))) so_none))) so_none (so_some (x_eb (se_mod (x_eb (se_add (sb_var 8) (sb_var 9))) (x_eb se_int))))))) (pg_name (i := 10) sc_law.nd rfl (by first | exact Or.inl rfl | exact Or.inr rfl)) (tg1_ok 10) (ss_one (s_mut 6 (mm_add_shift T) hr (x_ac (se_ix (sb_var 10) (x_eb se_int)) (x_ac (se_ix (sb_var 10) (x_eb se_int)) (x_ac (x_le (sl_ct listOf_s call_list_of T.z_list (x_abc (x_eb (se_ix (sb_var 10) (x_eb se_int))) sab_nil))) sa_nil))) (pv 6))))
    (ss_one (s_for PassesOwn.never rfl (si_list (x_le (sl_sl (x_eb (x_le (sl_sl (x_eb (se_ix (sb_var 1) (x_eb se_int))) (so_some (x_eb (se_neg (x_eb se_int)))) so_none))) so_none (so_some (x_eb (se_mod (x_eb (se_add (x_eb (se_add (sb_var 8) (sb_var 9))) (x_eb se_int))) (x_eb se_int))))))) (pg_name (i := 11) sc_law.nd rfl (by first | exact Or.inl rfl | exact Or.inr rfl)) (tg1_ok 11) (ss_cons (s_mut 6 (mm_add_person T) hr (x_ac (se_ix (sb_var 11) (x_eb se_int)) (x_ac (x_le (sl_ct listOf_s call_list_of T.z_list (x_abc (x_eb (se_ix (sb_var 11) (x_eb se_int))) sab_nil))) (x_ac (se_ix (sb_var 11) (x_eb se_int)) sa_nil))) (pv 6))
    (ss_cons (s_expr (x_le (sl_callRLB 6 (prl_faults T) hr (sca_own 7 (pv 7) sca_nil) (pv 6))))
    (ss_one (s_callM 6 (pm_rested T) hr (x_ac (se_var 11) sa_nil) (pv 6))))))))))
    (ss_cons (s_frzI 3 (s_setLcE 12 (by exact (sl_lc (j := 13) rfl sc_law.nd rfl (x_ib (si_tup (se_tup (x_ac (se_var 3) (x_ac (x_le (sl_sl (sb_var 3) (so_some (x_eb se_int)) so_none)) sa_nil))))) (blkOk_by (N := N_law) (sc := defScope s_law) (own := [("_law_some", 13)]) (by decide +kernel)) (fun _ _ _ _ _ => sts_nil) (fun _ _ _ _ _ => (x_le (sl_callRL 6 (prl_faults T) hr (x_ac (x_le (sl_ct listOf_s call_list_of T.z_list (x_abc (sb_var 13) sab_nil))) sa_nil) (pv 6)))) (fun _ _ _ _ _ => pg_name sc_law.nd rfl (Or.inl rfl)))) (by exact (ps_setLc (i := 12) (own := [("_law_some", 13)]) (g := gName 13) rfl sc_law.nd rfl rfl (sw_true rfl rfl rfl (by decide +kernel)) (x_pi (K := K) (x_ib (si_tup (se_tup (x_ac (se_var 3) (x_ac (x_le (sl_sl (sb_var 3) (so_some (x_eb se_int)) so_none)) sa_nil)))))) (blkOk_by (N := N_law) (sc := defScope s_law) (own := [("_law_some", 13)]) (by decide +kernel)) (fun _ _ _ _ _ => pg_name sc_law.nd rfl (Or.inl rfl)) (fun _ _ _ _ _ => pts_nil) (fun _ _ _ _ _ => (x_pe (K := K) (x_le (sl_callRL 6 (prl_faults T) hr (x_ac (x_le (sl_ct listOf_s call_list_of T.z_list (x_abc (sb_var 13) sab_nil))) sa_nil) (pv 6)))))))))
    (ss_cons (s_for PassesOwn.never rfl (si_tup (se_tup (x_ac (se_var 3) (x_ac (x_le (sl_sl (sb_var 3) (so_some (x_eb se_int)) so_none)) (x_ac (x_le (sl_stepM (sb_var 3))) (x_ac (se_var 3) sa_nil)))))) (pg_name (i := 13) sc_law.nd rfl (by first | exact Or.inl rfl | exact Or.inr rfl)) (tg1_ok 13) (ss_cons (s_clr 7 (by exact (ps_expr (pe_bm0 PySem.F.plainAttrs_list PySem.F.slot_list_clear PySem.F.type_list_clear mt_clear (pv 7)))))
    (ss_cons (s_ext 7 (sb_var 13) (by exact (ps_expr (pe_bm PySem.F.plainAttrs_list PySem.F.slot_list_extend PySem.F.type_list_extend mt_extend (pv 7) (pa_cons (x_peB (K := K) (sb_var 13)) pa_nil)))))
    (ss_cons (s_setL 14 sc_law.nd (sl_callRLB 6 (prl_faults T) hr (sca_own 7 (pv 7) sca_nil) (pv 6)))
    (ss_cons (s_if (x_wt (sw_or (st_not (st_val (se_isi .list T.z_isinstance T.z_list (sb_var 14)))) (sw_or (st_not (st_val (se_callB (ok_kinds T) hr (x_abc (sb_var 14) sab_nil)))) (sw_or1 (st_cmp ne2_s (op_ne2 hu) (sb_var 7) (sb_var 13) (nomark _)))))) (ss_one (s_ret se_bool)) ss_nil)
    (ss_cons (s_if (st_cmp ne2_s (op_ne2 hu) (sb_var 14) (x_eb (se_call (ok_due_of T) hr (x_ac (se_var 13) (x_ac (se_ix (sb_var 1) (x_eb se_int)) (x_ac (se_ix (sb_var 1) (x_eb se_int)) sa_nil))))) (nomark _)) (ss_one (s_ret se_bool)) ss_nil)
    (ss_one (s_clr 14 (by exact (ps_expr (pe_bm0 PySem.F.plainAttrs_list PySem.F.slot_list_clear PySem.F.type_list_clear mt_clear (pv 14))))))))))))
    (ss_one (s_ret (se_cmp eq2_s (op_eq2 hu) (sb_var 12) (x_eb (x_le (sl_lc (j := 13) rfl sc_law.nd rfl (x_ib (si_tup (se_tup (x_ac (se_var 3) (x_ac (x_le (sl_sl (sb_var 3) (so_some (x_eb se_int)) so_none)) sa_nil))))) (blkOk_by (N := N_law) (sc := defScope s_law) (own := [("_law_some", 13)]) (by decide +kernel)) (fun _ _ _ _ _ => sts_nil) (fun _ _ _ _ _ => (se_call (ok_due_of T) hr (x_ac (se_var 13) (x_ac (se_ix (sb_var 1) (x_eb se_int)) (x_ac (se_ix (sb_var 1) (x_eb se_int)) sa_nil))))) (fun _ _ _ _ _ => pg_name sc_law.nd rfl (Or.inl rfl))))) (nomark _))))))))))))))))⟩
end
end RK
namespace RK
open PySem PySem.Spec PyProof.Rows L2 RT
abbrev lawLevel : Nat := 6
abbrev madeD (ps : List Person) (ss : List Shift) : PyData := .tuple [.list (ps.map perD), .list (ss.map shD)]
theorem okDs_rows {T : List Row} (h : ∀ p ∈ T, okR p) : okDs (T.map rowD) = true ∧ (PyData.list (T.map rowD)).depth ≤ 64 := by
  refine ⟨?_, ?_⟩
  · rw [okDs_all, List.all_map, List.all_eq_true]
    intro p hp
    have := h p hp
    show okD (rowD p) = true
    have h1 := this.1
    have h2 := this.2.1
    have h3 := this.2.2
    simp only [rowD, okD, okDs, Bool.and_true] at h1 h2 h3 ⊢
    simp [h1, h2, h3]
  · have : PyData.depthAll (T.map rowD) ≤ 5 := depthAll_le fun d hd => by
      obtain ⟨p, _, rfl⟩ := List.mem_map.mp hd
      simp [rowD, PyData.depth, PyData.depthAll]
    simp only [PyData.depth]
    omega
theorem okDs_due {l : List PyData} (h : ∀ d ∈ l, okF d) : okDs l = true ∧ (PyData.list l).depth ≤ 16 ∧ flatDs l = true := by
  refine ⟨?_, ?_, ?_⟩
  · rw [okDs_all, List.all_eq_true]
    exact fun d hd => (h d hd).1
  · have : PyData.depthAll l ≤ 5 := depthAll_le fun d hd => by have := (h d hd).2.1; omega
    simp only [PyData.depth]
    omega
  · rw [flatDs_all, List.all_eq_true]
    exact fun d hd => (h d hd).2.2.1
def rhoX (S M : PyData) (W : Int) (s3 s4 s5 : Sl) (β : BookSt) (H : List Row) (lt : Int) (s9 s10 s11 s12 s13 s14 : Sl) : Rho := [.val S, .val M, .val (.int W), s3, s4, s5, .obj (.book β), .own (H.map rowD), .val (.int lt), s9, s10, s11, s12, s13, s14]
section
variable {S M : PyData} {W lt : Int} {s3 s4 s5 : Sl} {H : List Row} (hH : ∀ p ∈ H, okR p) (hHl : H.length ≤ 1000)
include hH hHl
theorem faultX {ps : List Person} {ss : List Shift} (g : GM ps ss) (s9 s10 s11 s12 s13 s14 : Sl) : onlyFs (eMethL kB noB.bk 6 frl_faults (eCons (eVarB 7) eNil) (rhoX S M W s3 s4 s5 ⟨ps, ss⟩ H lt s9 s10 s11 s12 s13 s14)) = some (dueB ps ss H) := by
  have hw := faults_ok g hH hHl
  have fl := (okDs_due (dueB_ok (ps := ps) (fun x hx => okP_at g hx) H)).2.2
  rw [eMethL_eq, rcv_obj _ _ 6 (.book ⟨ps, ss⟩) rfl]
  simp [rhoX, kB, hw, fl]
theorem lateS (Q : List Person) (s9 s11 s12 s13 s14 : Sl) : ∀ (L T : List Shift) (s10 : Sl), ((T ++ L).map (·.name)).Nodup → (∀ s ∈ L, GS s) → (T ++ L).length < 1000 →
    ∃ s10', forF (tg1 10) (sMut kB 6 fm_add_shift (eCons (eOp gIx (eVarB 10) (eC (.int 0))) (eCons (eOp gIx (eVarB 10) (eC (.int 1))) (eCons (eList (eCallL gListOf (eCons (eOp gIx (eVarB 10) (eC (.int 2))) eNil))) eNil)))) (L.map shD) (rhoX S M W s3 s4 s5 ⟨Q, T⟩ H lt s9 s10 s11 s12 s13 s14) = .nx (rhoX S M W s3 s4 s5 ⟨Q, T ++ L⟩ H lt s9 s10' s11 s12 s13 s14)
  | [], T, s10, _, _, _ => ⟨s10, by rw [List.append_nil]; rfl⟩
  | s :: L, T, s10, nd, hg, hl => by
    have g := hg s List.mem_cons_self
    have h := fm_shift_ok (ps := Q) g (nodup_ne nd) (by simp at hl; omega)
    have gl := gListOf_list (s.needs.map ndD) (by rw [List.length_map]; exact Nat.le_trans g.nl (by decide))
    obtain ⟨s10', e⟩ := lateS Q s9 s11 s12 s13 s14 L (T ++ [s]) (.val (shD s)) (by simpa using nd) (fun q hq => hg q (List.mem_cons_of_mem _ hq)) (by simpa using hl)
    refine ⟨s10', ?_⟩
    rw [List.map_cons, forF_cons1]
    have e1 : sMut kB 6 fm_add_shift (eCons (eOp gIx (eVarB 10) (eC (.int 0))) (eCons (eOp gIx (eVarB 10) (eC (.int 1))) (eCons (eList (eCallL gListOf (eCons (eOp gIx (eVarB 10) (eC (.int 2))) eNil))) eNil))) ((rhoX S M W s3 s4 s5 ⟨Q, T⟩ H lt s9 s10 s11 s12 s13 s14).set 10 (.val (shD s))) = .nx (rhoX S M W s3 s4 s5 ⟨Q, T ++ [s]⟩ H lt s9 (.val (shD s)) s11 s12 s13 s14) := by
      unfold stD at h
      unfold rhoX
      simp [shD, stD, gl, h]
    rw [e1, thn_nx, e, List.append_assoc]
    rfl
theorem lateP (T : List Shift) (s9 s10 s12 s13 s14 : Sl) : ∀ (L Q : List Person) (s11 : Sl), GM (Q ++ L) T →
    ∃ s11', forF (tg1 11) (sSeq (sMut kB 6 fm_add_person (eCons (eOp gIx (eVarB 11) (eC (.int 0))) (eCons (eList (eCallL gListOf (eCons (eOp gIx (eVarB 11) (eC (.int 1))) eNil))) (eCons (eOp gIx (eVarB 11) (eC (.int 2))) eNil))))
  (sSeq (sDrop (eList (fun ρ => onlyFs (eMethL kB noB.bk 6 frl_faults (eCons (eVarB 7) eNil) ρ))))
  (sMut kB 6 fm_rested (eCons (eVar 11) eNil)))) (L.map perD) (rhoX S M W s3 s4 s5 ⟨Q, T⟩ H lt s9 s10 s11 s12 s13 s14) = .nx (rhoX S M W s3 s4 s5 ⟨Q ++ L, T⟩ H lt s9 s10 s11' s12 s13 s14)
  | [], Q, s11, _ => ⟨s11, by rw [List.append_nil]; rfl⟩
  | p :: L, Q, s11, g => by
    have gp := g.gp p (by simp)
    have nd := g.pn
    have hn := nodup_ne nd
    have h := fm_person_ok (ss := T) gp hn (by have := g.pl; simp at this; omega)
    have gl := gListOf_list (p.skills.map .str) (by rw [List.length_map]; exact Nat.le_trans gp.sl (by decide))
    have e1 : sMut kB 6 fm_add_person (eCons (eOp gIx (eVarB 11) (eC (.int 0))) (eCons (eList (eCallL gListOf (eCons (eOp gIx (eVarB 11) (eC (.int 1))) eNil))) (eCons (eOp gIx (eVarB 11) (eC (.int 2))) eNil))) ((rhoX S M W s3 s4 s5 ⟨Q, T⟩ H lt s9 s10 s11 s12 s13 s14).set 11 (.val (perD p))) = .nx (rhoX S M W s3 s4 s5 ⟨Q ++ [bare p], T⟩ H lt s9 s10 (.val (perD p)) s12 s13 s14) := by
      unfold rhoX
      simp [perD, gl, h]
    have ea : Q ++ p :: L = Q ++ [p] ++ L := by simp
    have g1 : GM (Q ++ [p]) T := g.sub (by rw [ea]; exact List.sublist_append_left _ _) (List.Sublist.refl _)
    have rw1 := faultX (S := S) (M := M) (W := W) (s3 := s3) (s4 := s4) (s5 := s5) (lt := lt) hH hHl g1.bareL s9 s10 (.val (perD p)) s12 s13 s14
    have hr := fm_rested_ok (p := p) (find_last (ss := T) g1.pn) gp.rs (by simp [bare]; have := gp.rl; omega)
    rw [restsB_mid Q [] T p (by simpa using hn)] at hr
    have e3 : sMut kB 6 fm_rested (eCons (eVar 11) eNil) (rhoX S M W s3 s4 s5 ⟨Q ++ [bare p], T⟩ H lt s9 s10 (.val (perD p)) s12 s13 s14) = .nx (rhoX S M W s3 s4 s5 ⟨Q ++ [p], T⟩ H lt s9 s10 (.val (perD p)) s12 s13 s14) := by
      unfold rhoX
      simp [hr]
    obtain ⟨s11', e⟩ := lateP T s9 s10 s12 s13 s14 L (Q ++ [p]) (.val (perD p)) (by rw [← ea]; exact g)
    refine ⟨s11', ?_⟩
    rw [List.map_cons, forF_cons1, sSeq_eq, e1, thn_nx, sSeq_eq, sDrop_eq, eList_eq, rw1]
    show ((Out.nx _).thn _).thn _ = _
    rw [thn_nx, e3, thn_nx, e, List.append_assoc]
    rfl
end
section
variable {S : PyData} {W lt : Int} {s4 s5 : Sl} {ps : List Person} {ss : List Shift} (g : GM ps ss)
include g
/-- one late turn -/
theorem F_late {s3 : Sl} {H : List Row} (hH : ∀ p ∈ H, okR p) (hHl : H.length ≤ 1000) (t : Int) (Q : List Person) (T : List Shift) (L : List Person) (M : List Shift)
    (gq : GM (Q ++ L) (T ++ M)) (hL : ((ps.drop (ps.length - 1)).map perD).take ((lt + t + 1) % 2).toNat = L.map perD) (hM : ((ss.drop (ss.length - 1)).map shD).take ((lt + t) % 2).toNat = M.map shD) (s10 s11 s12 s13 s14 : Sl) :
    ∃ s10' s11', (sSeq (sDrop (eList (fun ρ => onlyFs (eMethL kB noB.bk 6 frl_faults (eCons (eVarB 7) eNil) ρ))))
  (sSeq (sFor (iL (eList (lSl (eList (lSl (eOp gIx (eVarB 1) (eC (.int 1))) (oSome (eUn gNeg (eC (.int 1)))) oNone)) oNone (oSome (eOp gMod (eOp gAdd (eVarB 8) (eVarB 9)) (eC (.int 2))))))) (tg1 10) (sMut kB 6 fm_add_shift (eCons (eOp gIx (eVarB 10) (eC (.int 0))) (eCons (eOp gIx (eVarB 10) (eC (.int 1))) (eCons (eList (eCallL gListOf (eCons (eOp gIx (eVarB 10) (eC (.int 2))) eNil))) eNil)))))
  (sFor (iL (eList (lSl (eList (lSl (eOp gIx (eVarB 1) (eC (.int 0))) (oSome (eUn gNeg (eC (.int 1)))) oNone)) oNone (oSome (eOp gMod (eOp gAdd (eOp gAdd (eVarB 8) (eVarB 9)) (eC (.int 1))) (eC (.int 2))))))) (tg1 11) (sSeq (sMut kB 6 fm_add_person (eCons (eOp gIx (eVarB 11) (eC (.int 0))) (eCons (eList (eCallL gListOf (eCons (eOp gIx (eVarB 11) (eC (.int 1))) eNil))) (eCons (eOp gIx (eVarB 11) (eC (.int 2))) eNil))))
  (sSeq (sDrop (eList (fun ρ => onlyFs (eMethL kB noB.bk 6 frl_faults (eCons (eVarB 7) eNil) ρ))))
  (sMut kB 6 fm_rested (eCons (eVar 11) eNil))))))) (rhoX S (madeD ps ss) W s3 s4 s5 ⟨Q, T⟩ H lt (.val (.int t)) s10 s11 s12 s13 s14) = .nx (rhoX S (madeD ps ss) W s3 s4 s5 ⟨Q ++ L, T ++ M⟩ H lt (.val (.int t)) s10' s11' s12 s13 s14) := by
  have g0 : GM Q T := gq.sub (List.sublist_append_left _ _) (List.sublist_append_left _ _)
  have w1 := faultX (S := S) (M := madeD ps ss) (W := W) (s3 := s3) (s4 := s4) (s5 := s5) (lt := lt) hH hHl g0 (.val (.int t)) s10 s11 s12 s13 s14
  obtain ⟨s10', e1⟩ := lateS (S := S) (M := madeD ps ss) (W := W) (s3 := s3) (s4 := s4) (s5 := s5) (lt := lt) hH hHl Q (.val (.int t)) s11 s12 s13 s14 M T s10 gq.sn (fun s hs => gq.gs s (List.mem_append_right _ hs)) (by have := gq.sl; omega)
  obtain ⟨s11', e2⟩ := lateP (S := S) (M := madeD ps ss) (W := W) (s3 := s3) (s4 := s4) (s5 := s5) (lt := lt) hH hHl (T ++ M) (.val (.int t)) s10' s12 s13 s14 L Q s11 gq
  have lP : ps.length ≤ LIM := Nat.le_trans g.pl (by decide)
  have lS : ss.length ≤ LIM := Nat.le_trans g.sl (by decide)
  have dP : (ps.drop (ps.length - 1)).length ≤ LIM := by rw [List.length_drop]; omega
  have dS : (ss.drop (ss.length - 1)).length ≤ LIM := by rw [List.length_drop]; omega
  have m0 : 0 ≤ (lt + t) % 2 := Int.emod_nonneg _ (by decide)
  have m1 : 0 ≤ (lt + t + 1) % 2 := Int.emod_nonneg _ (by decide)
  have cS : cutA (ss.map shD) (some (-1)) none = (ss.drop (ss.length - 1)).map shD := by rw [cutA_lastL, List.length_map, List.map_drop]
  have cP : cutA (ps.map perD) (some (-1)) none = (ps.drop (ps.length - 1)).map perD := by rw [cutA_lastL, List.length_map, List.map_drop]
  have tS := cutA_toI ((ss.drop (ss.length - 1)).map shD) _ m0
  have tP := cutA_toI ((ps.drop (ps.length - 1)).map perD) _ m1
  rw [hM] at tS
  rw [hL] at tP
  have lM : M.length ≤ LIM := by
    have := gq.sl
    rw [List.length_append] at this
    exact Nat.le_trans (by omega : M.length ≤ 14) (by decide)
  have lL : L.length ≤ LIM := by
    have := gq.pl
    rw [List.length_append] at this
    exact Nat.le_trans (by omega : L.length ≤ 36) (by decide)
  have i1 : iL (eList (lSl (eList (lSl (eOp gIx (eVarB 1) (eC (.int 1))) (oSome (eUn gNeg (eC (.int 1)))) oNone)) oNone (oSome (eOp gMod (eOp gAdd (eVarB 8) (eVarB 9)) (eC (.int 2)))))) (rhoX S (madeD ps ss) W s3 s4 s5 ⟨Q, T⟩ H lt (.val (.int t)) s10 s11 s12 s13 s14) = some (M.map shD) := by
    rw [iL_eq, eList_eq]
    have a1 : (lSl (eOp gIx (eVarB 1) (eC (.int 1))) (oSome (eUn gNeg (eC (.int 1)))) oNone) (rhoX S (madeD ps ss) W s3 s4 s5 ⟨Q, T⟩ H lt (.val (.int t)) s10 s11 s12 s13 s14) = some ((ss.drop (ss.length - 1)).map shD) := by
      rw [← cS]
      simp [rhoX, madeD, lSl, oSome, oNone, lS]
    have a2 : (lSl (eList (lSl (eOp gIx (eVarB 1) (eC (.int 1))) (oSome (eUn gNeg (eC (.int 1)))) oNone)) oNone (oSome (eOp gMod (eOp gAdd (eVarB 8) (eVarB 9)) (eC (.int 2))))) (rhoX S (madeD ps ss) W s3 s4 s5 ⟨Q, T⟩ H lt (.val (.int t)) s10 s11 s12 s13 s14) = some (M.map shD) := by
      generalize lSl (eOp gIx (eVarB 1) (eC (.int 1))) (oSome (eUn gNeg (eC (.int 1)))) oNone = f at a1 ⊢
      rw [← tS]
      unfold rhoX at a1 ⊢
      simp [lSl, oSome, oNone, a1, dS]
    rw [a2]
    exact lstD_list _ (by rw [List.length_map]; exact lM)
  have i2 : iL (eList (lSl (eList (lSl (eOp gIx (eVarB 1) (eC (.int 0))) (oSome (eUn gNeg (eC (.int 1)))) oNone)) oNone (oSome (eOp gMod (eOp gAdd (eOp gAdd (eVarB 8) (eVarB 9)) (eC (.int 1))) (eC (.int 2)))))) (rhoX S (madeD ps ss) W s3 s4 s5 ⟨Q, T ++ M⟩ H lt (.val (.int t)) s10' s11 s12 s13 s14) = some (L.map perD) := by
    rw [iL_eq, eList_eq]
    have a1 : (lSl (eOp gIx (eVarB 1) (eC (.int 0))) (oSome (eUn gNeg (eC (.int 1)))) oNone) (rhoX S (madeD ps ss) W s3 s4 s5 ⟨Q, T ++ M⟩ H lt (.val (.int t)) s10' s11 s12 s13 s14) = some ((ps.drop (ps.length - 1)).map perD) := by
      rw [← cP]
      simp [rhoX, madeD, lSl, oSome, oNone, lP]
    have a2 : (lSl (eList (lSl (eOp gIx (eVarB 1) (eC (.int 0))) (oSome (eUn gNeg (eC (.int 1)))) oNone)) oNone (oSome (eOp gMod (eOp gAdd (eOp gAdd (eVarB 8) (eVarB 9)) (eC (.int 1))) (eC (.int 2))))) (rhoX S (madeD ps ss) W s3 s4 s5 ⟨Q, T ++ M⟩ H lt (.val (.int t)) s10' s11 s12 s13 s14) = some (L.map perD) := by
      generalize lSl (eOp gIx (eVarB 1) (eC (.int 0))) (oSome (eUn gNeg (eC (.int 1)))) oNone = f at a1 ⊢
      rw [← tP]
      unfold rhoX at a1 ⊢
      simp [lSl, oSome, oNone, a1, dP]
    rw [a2]
    exact lstD_list _ (by rw [List.length_map]; exact lL)
  refine ⟨s10', s11', ?_⟩
  rw [sSeq_eq, sDrop_eq, eList_eq, w1]
  show (Out.nx _).thn _ = _
  rw [thn_nx, sSeq_eq, sFor_eq, i1, outL_some, e1, thn_nx, sFor_eq, i2, outL_some, e2]
/-- one list handed in, compared -/
theorem F_same {s3 : Sl} {T : List Row} (hT : ∀ p ∈ T, okR p) (hTl : T.length ≤ 1000) {H : List Row} (s9 s10 s11 s12 s14 : Sl) :
    (sSeq (sClr 7)
  (sSeq (sExt 7 (eVarB 13))
  (sSeq (sSetL 14 (fun ρ => onlyFs (eMethL kB noB.bk 6 frl_faults (eCons (eVarB 7) eNil) ρ)))
  (sSeq (sIf (tOrF (tNotF (bF (eIsi .list (eVarB 14)))) (tOrF (tNotF (bF (eCall (fun ds => onlyS (F_kinds ds)) (eCons (eVarB 14) eNil)))) (bF (eOp gNe (eVarB 7) (eVarB 13))))) (sRet (eC (.bool false))) sNext)
  (sSeq (sIf (bF (eOp gNe (eVarB 14) (eCall F_due_of (eCons (eVar 13) (eCons (eOp gIx (eVarB 1) (eC (.int 0))) (eCons (eOp gIx (eVarB 1) (eC (.int 1))) eNil)))))) (sRet (eC (.bool false))) sNext)
  (sClr 14)))))) (rhoX S (madeD ps ss) W s3 s4 s5 ⟨ps, ss⟩ H lt s9 s10 s11 s12 (.val (.list (T.map rowD))) s14) =
      .nx (rhoX S (madeD ps ss) W s3 s4 s5 ⟨ps, ss⟩ T lt s9 s10 s11 s12 (.val (.list (T.map rowD))) (.own [])) := by
  have c1 : sClr 7 (rhoX S (madeD ps ss) W s3 s4 s5 ⟨ps, ss⟩ H lt s9 s10 s11 s12 (.val (.list (T.map rowD))) s14) = .nx (rhoX S (madeD ps ss) W s3 s4 s5 ⟨ps, ss⟩ [] lt s9 s10 s11 s12 (.val (.list (T.map rowD))) s14) := by
    rw [sClr_eq]
    rfl
  have lT : T.length ≤ LIM := Nat.le_trans hTl (by decide)
  have c2 : sExt 7 (eVarB 13) (rhoX S (madeD ps ss) W s3 s4 s5 ⟨ps, ss⟩ [] lt s9 s10 s11 s12 (.val (.list (T.map rowD))) s14) = .nx (rhoX S (madeD ps ss) W s3 s4 s5 ⟨ps, ss⟩ T lt s9 s10 s11 s12 (.val (.list (T.map rowD))) s14) := by
    rw [sExt_eq]
    unfold rhoX
    simp [lT]
  have w1 := faultX (S := S) (M := madeD ps ss) (W := W) (s3 := s3) (s4 := s4) (s5 := s5) (lt := lt) hT hTl g s9 s10 s11 s12 (.val (.list (T.map rowD))) s14
  have c3 : sSetL 14 (fun ρ => onlyFs (eMethL kB noB.bk 6 frl_faults (eCons (eVarB 7) eNil) ρ)) (rhoX S (madeD ps ss) W s3 s4 s5 ⟨ps, ss⟩ T lt s9 s10 s11 s12 (.val (.list (T.map rowD))) s14) = .nx (rhoX S (madeD ps ss) W s3 s4 s5 ⟨ps, ss⟩ T lt s9 s10 s11 s12 (.val (.list (T.map rowD))) (.own (dueB ps ss T))) := by
    rw [sSetL_eq, w1]
    rfl
  have o := okDs_rows hT
  have ne := gNe_same o.1 o.2
  have dk := dueB_ok (fun x hx => okP_at g hx) (ps := ps) T
  have od := okDs_due dk
  have nd := gNe_same od.1 (Nat.le_trans od.2.1 (by decide))
  have ld : (dueB ps ss T).length ≤ LIM := by
    have h1 := dueB_len (ps := ps) (ss := ss) T
    have h2 := allN_len g.gs g.sl
    exact Nat.le_trans (by omega : _ ≤ 2000) (by decide)
  have fk := kinds_ok dk ld
  have fd := due_ok g hT hTl
  generalize dueB ps ss T = DD at *
  rw [sSeq_eq, c1, thn_nx, sSeq_eq, c2, thn_nx, sSeq_eq, c3, thn_nx]
  unfold rhoX madeD
  generalize T.map rowD = TT at *
  simp [fk, ne, fd, nd]
theorem F_all {s3 : Sl} {ds : List PyData} : ∀ (h : ∀ d ∈ ds, ∃ T : List Row, (∀ p ∈ T, okR p) ∧ T.length ≤ 1000 ∧ d = .list (T.map rowD)) {H : List Row} (s9 s10 s11 s12 s13 s14 : Sl),
    ∃ H' s13' s14', forF (tg1 13) (sSeq (sClr 7)
  (sSeq (sExt 7 (eVarB 13))
  (sSeq (sSetL 14 (fun ρ => onlyFs (eMethL kB noB.bk 6 frl_faults (eCons (eVarB 7) eNil) ρ)))
  (sSeq (sIf (tOrF (tNotF (bF (eIsi .list (eVarB 14)))) (tOrF (tNotF (bF (eCall (fun ds => onlyS (F_kinds ds)) (eCons (eVarB 14) eNil)))) (bF (eOp gNe (eVarB 7) (eVarB 13))))) (sRet (eC (.bool false))) sNext)
  (sSeq (sIf (bF (eOp gNe (eVarB 14) (eCall F_due_of (eCons (eVar 13) (eCons (eOp gIx (eVarB 1) (eC (.int 0))) (eCons (eOp gIx (eVarB 1) (eC (.int 1))) eNil)))))) (sRet (eC (.bool false))) sNext)
  (sClr 14)))))) ds (rhoX S (madeD ps ss) W s3 s4 s5 ⟨ps, ss⟩ H lt s9 s10 s11 s12 s13 s14) = .nx (rhoX S (madeD ps ss) W s3 s4 s5 ⟨ps, ss⟩ H' lt s9 s10 s11 s12 s13' s14') := by
  induction ds with
  | nil => intro _ H s9 s10 s11 s12 s13 s14; exact ⟨H, s13, s14, rfl⟩
  | cons d ds ih =>
    intro h H s9 s10 s11 s12 s13 s14
    obtain ⟨T, hT, hTl, rfl⟩ := h d List.mem_cons_self
    obtain ⟨H', s13', s14', e⟩ := ih (fun d hd => h d (List.mem_cons_of_mem _ hd)) (H := T) s9 s10 s11 s12 (.val (.list (T.map rowD))) (.own [])
    refine ⟨H', s13', s14', ?_⟩
    rw [forF_cons1]
    have e2 := F_same (S := S) (W := W) (s3 := s3) (s4 := s4) (s5 := s5) (lt := lt) g hT hTl (H := H) s9 s10 s11 s12 s14
    refine (congrArg (fun o : Out => o.thn _) e2).trans ?_
    rw [thn_nx, e]
end
end RK
namespace RK
open PySem PySem.Spec PyProof.Rows L2 RT
theorem dropLast_drop {α : Type} (l : List α) : l.dropLast ++ l.drop (l.length - 1) = l := by
  rw [List.dropLast_eq_take]
  exact List.take_append_drop _ _
theorem lcF_exT {α : Type} {j : Nat} {tst : STe} {el : SE} {ρ : Rho} (enc : α → PyData) (P : α → Prop) : ∀ {ds : List PyData}, (∀ d, d ∈ ds → (∃ b, tst (ρ.set j (.val d)) = some b) ∧ ∃ x, el (ρ.set j (.val d)) = some (enc x) ∧ dataD (enc x) = true ∧ P x) →
    ∃ xs : List α, lcF j tst el ρ ds = some (xs.map enc) ∧ xs.length ≤ ds.length ∧ ∀ x ∈ xs, P x
  | [], _ => ⟨[], rfl, Nat.le_refl _, fun x h => by cases h⟩
  | d :: ds, h => by
    obtain ⟨xs, e, l, hp⟩ := lcF_exT enc P (ds := ds) fun d hd => h d (List.mem_cons_of_mem _ hd)
    obtain ⟨⟨b, hb⟩, x, hx, dx, px⟩ := h d List.mem_cons_self
    cases b with
    | false => exact ⟨xs, by simp [lcF, hb, e], by simp; omega, hp⟩
    | true =>
      refine ⟨x :: xs, by simp [lcF, hb, hx, dx, e], by simp; omega, fun y hy => ?_⟩
      rcases List.mem_cons.mp hy with rfl | h2
      · exact px
      · exact hp y h2
def rhoY (S M : PyData) (W : Int) (rows : List Row) (s4 s5 : Sl) : Rho := [.val S, .val M, .val (.int W), .own (rows.map rowD), s4, s5, .no, .no, .no, .no, .no, .no, .no, .no, .no]
theorem insertL (ns : List Int) {ps : List Person} {ss : List Shift} (g : GM ps ss) (W : Int) : ∀ (m : Nat) (ds : List PyData) (rows : List Row) (s4 s5 : Sl), ds.length = m → (∀ d ∈ ds, ∃ i : Nat, i < 7 ∧ d = .int (i : Nat)) → (∀ r ∈ rows, okR r) → rows.length + m ≤ 900 →
    ∃ rows' s4' s5', forF (tg1 4) (sSeq (sSet 5 (eCall F_cell (eCons (eVar 0) (eCons (eOp gAdd (eC (.int 30)) (eVarB 4)) eNil))))
  (sIns 3 (eOp gMod (eCall F_cell (eCons (eVar 0) (eCons (eOp gAdd (eC (.int 40)) (eVarB 4)) eNil))) (eOp gAdd (eCall gLen (eCons (eVarB 3) eNil)) (eC (.int 1)))) (eCall F_row_by (eCons (eVar 5) (eCons (eOp gIx (eVarB 1) (eC (.int 0))) (eCons (eOp gIx (eVarB 1) (eC (.int 1))) eNil)))))) ds (rhoY (scrD ns) (madeD ps ss) W rows s4 s5) = .nx (rhoY (scrD ns) (madeD ps ss) W rows' s4' s5') ∧ rows'.length ≤ rows.length + m ∧ ∀ r ∈ rows', okR r
  | _, [], rows, s4, s5, hm, _, h, _ => ⟨rows, s4, s5, rfl, by omega, h⟩
  | 0, d :: ds, rows, s4, s5, hm, _, _, _ => by simp at hm
  | m + 1, d :: ds, rows, s4, s5, hm, hd, h, hl => by
    obtain ⟨i, hi, rfl⟩ := hd d List.mem_cons_self
    have c30 := F_cell_eq ns (30 + i)
    have c40 := F_cell_eq ns (40 + i)
    have e30 : ((30 + i : Nat) : Int) = 30 + (i : Int) := by omega
    have e40 : ((40 + i : Nat) : Int) = 40 + (i : Int) := by omega
    rw [e30] at c30
    rw [e40] at c40
    obtain ⟨r, hr, okr⟩ := row_by_ok g (cell ns (30 + i))
    have c0 : (0 : Int) < (rows.length : Nat) + 1 := by omega
    have c1 : ((rows.length : Nat) : Int) + 1 < 1073741824 := by omega
    have gm := gMod_int (cell ns (40 + i)) (((rows.length : Nat) : Int) + 1) (cPos_of c0 c1)
    have m0 := Int.emod_nonneg (cell ns (40 + i)) (show ((rows.length : Nat) : Int) + 1 ≠ 0 by omega)
    have m1 := Int.emod_lt_of_pos (cell ns (40 + i)) c0
    generalize hk : cell ns (40 + i) % (((rows.length : Nat) : Int) + 1) = k at gm m0 m1
    obtain ⟨rows', s4', s5', e2, l2, h2⟩ := insertL ns g W m ds (rows.take k.toNat ++ [r] ++ rows.drop k.toNat) (.val (.int (i : Nat))) (.val (.int (cell ns (30 + i)))) (by simpa using hm) (fun d hd' => hd d (List.mem_cons_of_mem _ hd')) (fun x hx => by
      rcases List.mem_append.mp hx with h3 | h3
      · rcases List.mem_append.mp h3 with h4 | h4
        · exact h x (List.mem_of_mem_take h4)
        · rw [List.mem_singleton.mp h4]; exact okr
      · exact h x (List.mem_of_mem_drop h3)) (by simp; omega)
    refine ⟨rows', s4', s5', ?_, by simp at l2; omega, h2⟩
    rw [forF_cons1]
    have a1 : sSet 5 (eCall F_cell (eCons (eVar 0) (eCons (eOp gAdd (eC (.int 30)) (eVarB 4)) eNil))) (rhoY (scrD ns) (madeD ps ss) W rows (.val (.int (i : Nat))) s5) = .nx (rhoY (scrD ns) (madeD ps ss) W rows (.val (.int (i : Nat))) (.val (.int (cell ns (30 + i))))) := by
      simp [rhoY, c30]
    have lr : rows.length ≤ LIM := by unfold LIM; omega
    have a2 : sIns 3 (eOp gMod (eCall F_cell (eCons (eVar 0) (eCons (eOp gAdd (eC (.int 40)) (eVarB 4)) eNil))) (eOp gAdd (eCall gLen (eCons (eVarB 3) eNil)) (eC (.int 1)))) (eCall F_row_by (eCons (eVar 5) (eCons (eOp gIx (eVarB 1) (eC (.int 0))) (eCons (eOp gIx (eVarB 1) (eC (.int 1))) eNil)))) (rhoY (scrD ns) (madeD ps ss) W rows (.val (.int (i : Nat))) (.val (.int (cell ns (30 + i))))) = .nx (rhoY (scrD ns) (madeD ps ss) W (rows.take k.toNat ++ [r] ++ rows.drop k.toNat) (.val (.int (i : Nat))) (.val (.int (cell ns (30 + i))))) := by
      rw [sIns_own 3 _ _ _ (rows.map rowD) k (rowD r) rfl (by simp [rhoY, c40, gm]) (by simp [rhoY, madeD, hr]) rfl (by rw [List.length_map]; exact lr) m0 (by unfold LIM; omega)]
      rw [← List.map_take, ← List.map_drop]
      unfold rhoY
      rw [List.map_append, List.map_append]
      rfl
    show ((sSeq _ _ (rhoY (scrD ns) (madeD ps ss) W rows (.val (.int (i : Nat))) s5)).thn _) = _
    rw [sSeq_eq, a1, thn_nx, a2, thn_nx, e2]
theorem law_true (ns : List Int) (h : ns.length ≤ 63) : F_law [scrD ns] = some (.bool true) := by
  obtain ⟨ps, ss, hp, g⟩ := F_parts_ok ns
  have c25 := F_cell_eq ns 25
  have c27 := F_cell_eq ns 27
  have c29 := F_cell_eq ns 29
  have lP : ps.length ≤ LIM := Nat.le_trans g.pl (by decide)
  have lS : ss.length ≤ LIM := Nat.le_trans g.sl (by decide)
  generalize hW : cell ns 29 = W at c29
  -- the rows
  obtain ⟨r0, hg0, lg0, hk0⟩ := gone_ok g (if W / 84 % 3 = 0 then 1 else 0)
  have rows1 : ∃ rows s4 s5, (sIf (bF (eOp gGt (eOp gMod (eVarB 2) (eC (.int 3))) (eC (.int 0)))) (sFor (iR1 (eCons (eOp gMod (eOp gFdiv (eVarB 2) (eC (.int 3))) (eC (.int 7))) eNil)) (tg1 4) (sSeq (sSet 5 (eCall F_cell (eCons (eVar 0) (eCons (eOp gAdd (eC (.int 30)) (eVarB 4)) eNil))))
  (sIns 3 (eOp gMod (eCall F_cell (eCons (eVar 0) (eCons (eOp gAdd (eC (.int 40)) (eVarB 4)) eNil))) (eOp gAdd (eCall gLen (eCons (eVarB 3) eNil)) (eC (.int 1)))) (eCall F_row_by (eCons (eVar 5) (eCons (eOp gIx (eVarB 1) (eC (.int 0))) (eCons (eOp gIx (eVarB 1) (eC (.int 1))) eNil))))))) sNext) (rhoY (scrD ns) (madeD ps ss) W r0 .no .no) = .nx (rhoY (scrD ns) (madeD ps ss) W rows s4 s5) ∧ rows.length ≤ 800 ∧ ∀ r ∈ rows, okR r := by
    have k0 : 0 ≤ W / 3 % 7 := Int.emod_nonneg _ (by decide)
    have k1 : W / 3 % 7 < 7 := Int.emod_lt_of_pos _ (by decide)
    obtain ⟨rows, s4, s5, e, l, hr⟩ := insertL ns g W (W / 3 % 7).toNat (rangeD 0 (W / 3 % 7).toNat) r0 .no .no (by simp) (fun d hd => by
      obtain ⟨i, hi, rfl⟩ := mem_rangeD hd
      exact ⟨i, by omega, by simp⟩) (fun r hr => (hk0 r hr).1) (by omega)
    have i4 : iR1 (eCons (eOp gMod (eOp gFdiv (eVarB 2) (eC (.int 3))) (eC (.int 7))) eNil) (rhoY (scrD ns) (madeD ps ss) W r0 .no .no) = some (rangeD 0 (W / 3 % 7).toNat) := by
      have hc : W / 3 % 7 ≤ 1000000 ∧ -1000000 ≤ W / 3 % 7 := by omega
      simp [rhoY, hc]
    have tst : bF (eOp gGt (eOp gMod (eVarB 2) (eC (.int 3))) (eC (.int 0))) (rhoY (scrD ns) (madeD ps ss) W r0 .no .no) = some (decide (0 < W % 3)) := by simp [rhoY]
    rw [sIf_eq, tst, outB_some]
    by_cases hc : 0 < W % 3
    · refine ⟨rows, s4, s5, ?_, by omega, hr⟩
      rw [if_pos (by simpa using hc), sFor_eq, i4, outL_some, e]
    · refine ⟨r0, .no, .no, ?_, by omega, fun r hr => (hk0 r hr).1⟩
      rw [if_neg (by simpa using hc)]
      rfl
  obtain ⟨r1, s4, s5, e1, l1, h1⟩ := rows1
  have rows2 : ∃ rows, (sIf (bF (eOp gEq (eOp gMod (eVarB 2) (eC (.int 3))) (eC (.int 2)))) (sSetL 3 (lLc (iR1 (eCons (eCall gLen (eCons (eVarB 3) eNil)) eNil)) 4 (bF (eOp gGt (eOp gMod (eOp gAdd (eVarB 4) (eOp gFdiv (eVarB 2) (eC (.int 21)))) (eC (.int 4))) (eC (.int 0)))) (eOp gIx (eVarB 3) (eVarB 4)))) sNext) (rhoY (scrD ns) (madeD ps ss) W r1 s4 s5) = .nx (rhoY (scrD ns) (madeD ps ss) W rows s4 s5) ∧ rows.length ≤ 800 ∧ ∀ r ∈ rows, okR r := by
    have tst : bF (eOp gEq (eOp gMod (eVarB 2) (eC (.int 3))) (eC (.int 2))) (rhoY (scrD ns) (madeD ps ss) W r1 s4 s5) = some (decide (W % 3 = 2)) := by
      by_cases hc : W % 3 = 2 <;> simp [rhoY, hc]
    rw [sIf_eq, tst, outB_some]
    by_cases hc : W % 3 = 2
    · have i4 : iR1 (eCons (eCall gLen (eCons (eVarB 3) eNil)) eNil) (rhoY (scrD ns) (madeD ps ss) W r1 s4 s5) = some (rangeD 0 r1.length) := by
        have hc : ((r1.length : Nat) : Int) ≤ 1000000 ∧ (-1000000 : Int) ≤ ((r1.length : Nat) : Int) := by omega
        simp [rhoY, hc]
      obtain ⟨xs, lc, lx, hx⟩ := lcF_exT (j := 4) (tst := bF (eOp gGt (eOp gMod (eOp gAdd (eVarB 4) (eOp gFdiv (eVarB 2) (eC (.int 21)))) (eC (.int 4))) (eC (.int 0)))) (el := eOp gIx (eVarB 3) (eVarB 4)) (ρ := rhoY (scrD ns) (madeD ps ss) W r1 s4 s5) rowD okR (ds := rangeD 0 r1.length) fun d hd => by
        obtain ⟨i, hi, rfl⟩ := mem_rangeD hd
        refine ⟨⟨decide (0 < ((0 + (i : Int)) + W / 21) % 4), by simp [rhoY]⟩, r1[i], ?_, rfl, h1 _ (List.getElem_mem hi)⟩
        have ha : atI (r1.map rowD) ((i : Nat) : Int) = some (rowD r1[i]) := by
          rw [atI_pos _ _ (by omega), List.getElem?_map, Int.toNat_natCast, List.getElem?_eq_getElem hi]
          rfl
        simp [rhoY, ha]
      refine ⟨xs, ?_, by rw [rangeD_len] at lx; omega, hx⟩
      have ll : (rangeD 0 r1.length).length ≤ LIM := by rw [rangeD_len]; unfold LIM; omega
      rw [if_pos (by simpa using hc), sSetL_eq, lLc_eq, i4, Option.bind_some, if_pos ll, lc]
      rfl
    · refine ⟨r1, ?_, l1, h1⟩
      rw [if_neg (by simpa using hc)]
      rfl
  obtain ⟨rows, e2, l2, h2⟩ := rows2
  have lR : rows.length ≤ LIM := by unfold LIM; omega
  have l2' : rows.length ≤ 1000 := by omega
  -- the book
  have gd := g.dropP
  have bo := book_of_ok gd (cell ns 25)
  have cp := cutA_init (ps.map perD)
  have cs := cutA_init (ss.map shD)
  rw [← List.map_dropLast] at cp cs
  have lP' : ps.dropLast.length ≤ LIM := Nat.le_trans gd.pl (by decide)
  have lS' : ss.dropLast.length ≤ LIM := Nat.le_trans gd.sl (by decide)
  have gl := gListOf_list (rows.map rowD) (by rw [List.length_map]; exact lR)
  have ml2 : ∀ x : Int, x % 2 = 0 ∨ x % 2 = 1 := fun x => by omega
  have dp := dropLast_drop ps
  have ds := dropLast_drop ss
  have tkP : ((ps.drop (ps.length - 1)).map perD).take 1 = (ps.drop (ps.length - 1)).map perD := List.take_of_length_le (by simp; omega)
  have tkS : ((ss.drop (ss.length - 1)).map shD).take 1 = (ss.drop (ss.length - 1)).map shD := List.take_of_length_le (by simp; omega)
  have late : ∃ s10 s11, forF (tg1 9) (sSeq (sDrop (eList (fun ρ => onlyFs (eMethL kB noB.bk 6 frl_faults (eCons (eVarB 7) eNil) ρ))))
  (sSeq (sFor (iL (eList (lSl (eList (lSl (eOp gIx (eVarB 1) (eC (.int 1))) (oSome (eUn gNeg (eC (.int 1)))) oNone)) oNone (oSome (eOp gMod (eOp gAdd (eVarB 8) (eVarB 9)) (eC (.int 2))))))) (tg1 10) (sMut kB 6 fm_add_shift (eCons (eOp gIx (eVarB 10) (eC (.int 0))) (eCons (eOp gIx (eVarB 10) (eC (.int 1))) (eCons (eList (eCallL gListOf (eCons (eOp gIx (eVarB 10) (eC (.int 2))) eNil))) eNil)))))
  (sFor (iL (eList (lSl (eList (lSl (eOp gIx (eVarB 1) (eC (.int 0))) (oSome (eUn gNeg (eC (.int 1)))) oNone)) oNone (oSome (eOp gMod (eOp gAdd (eOp gAdd (eVarB 8) (eVarB 9)) (eC (.int 1))) (eC (.int 2))))))) (tg1 11) (sSeq (sMut kB 6 fm_add_person (eCons (eOp gIx (eVarB 11) (eC (.int 0))) (eCons (eList (eCallL gListOf (eCons (eOp gIx (eVarB 11) (eC (.int 1))) eNil))) (eCons (eOp gIx (eVarB 11) (eC (.int 2))) eNil))))
  (sSeq (sDrop (eList (fun ρ => onlyFs (eMethL kB noB.bk 6 frl_faults (eCons (eVarB 7) eNil) ρ))))
  (sMut kB 6 fm_rested (eCons (eVar 11) eNil))))))) (rangeD 0 2) (rhoX (scrD ns) (madeD ps ss) W (.own (rows.map rowD)) s4 s5 ⟨ps.dropLast, ss.dropLast⟩ rows (cell ns 27) .no .no .no .no .no .no) =
      .nx (rhoX (scrD ns) (madeD ps ss) W (.own (rows.map rowD)) s4 s5 ⟨ps, ss⟩ rows (cell ns 27) (.val (.int 1)) s10 s11 .no .no .no) := by
    have r2 : rangeD 0 2 = [.int 0, .int 1] := rfl
    rw [r2]
    rcases ml2 (cell ns 27) with e | e
    · have a0 : (cell ns 27 + 0) % 2 = 0 := by omega
      have a1 : (cell ns 27 + 0 + 1) % 2 = 1 := by omega
      have b0 : (cell ns 27 + 1) % 2 = 1 := by omega
      have b1 : (cell ns 27 + 1 + 1) % 2 = 0 := by omega
      obtain ⟨u9, u10, e1⟩ := F_late (S := scrD ns) (W := W) (lt := cell ns 27) (s3 := .own (rows.map rowD)) (s4 := s4) (s5 := s5) g h2 l2' 0 ps.dropLast ss.dropLast (ps.drop (ps.length - 1)) [] (by rw [dp, List.append_nil]; exact g.sub (List.Sublist.refl _) (List.dropLast_sublist _)) (by rw [a1]; exact tkP) (by rw [a0]; rfl) .no .no .no .no .no
      rw [dp, List.append_nil] at e1
      obtain ⟨v9, v10, e2⟩ := F_late (S := scrD ns) (W := W) (lt := cell ns 27) (s3 := .own (rows.map rowD)) (s4 := s4) (s5 := s5) g h2 l2' 1 ps ss.dropLast [] (ss.drop (ss.length - 1)) (by rw [ds, List.append_nil]; exact g) (by rw [b1]; rfl) (by rw [b0]; exact tkS) u9 u10 .no .no .no
      rw [ds, List.append_nil] at e2
      refine ⟨v9, v10, ?_⟩
      rw [forF_cons1]
      refine (congrArg (fun o : Out => o.thn _) e1).trans ?_
      rw [thn_nx, forF_cons1]
      refine (congrArg (fun o : Out => o.thn _) e2).trans ?_
      rw [thn_nx]
      rfl
    · have a0 : (cell ns 27 + 0) % 2 = 1 := by omega
      have a1 : (cell ns 27 + 0 + 1) % 2 = 0 := by omega
      have b0 : (cell ns 27 + 1) % 2 = 0 := by omega
      have b1 : (cell ns 27 + 1 + 1) % 2 = 1 := by omega
      obtain ⟨u9, u10, e1⟩ := F_late (S := scrD ns) (W := W) (lt := cell ns 27) (s3 := .own (rows.map rowD)) (s4 := s4) (s5 := s5) g h2 l2' 0 ps.dropLast ss.dropLast [] (ss.drop (ss.length - 1)) (by rw [ds, List.append_nil]; exact g.sub (List.dropLast_sublist _) (List.Sublist.refl _)) (by rw [a1]; rfl) (by rw [a0]; exact tkS) .no .no .no .no .no
      rw [ds, List.append_nil] at e1
      obtain ⟨v9, v10, e2⟩ := F_late (S := scrD ns) (W := W) (lt := cell ns 27) (s3 := .own (rows.map rowD)) (s4 := s4) (s5 := s5) g h2 l2' 1 ps.dropLast ss (ps.drop (ps.length - 1)) [] (by rw [dp, List.append_nil]; exact g) (by rw [b1]; exact tkP) (by rw [b0]; rfl) u9 u10 .no .no .no
      rw [dp, List.append_nil] at e2
      refine ⟨v9, v10, ?_⟩
      rw [forF_cons1]
      refine (congrArg (fun o : Out => o.thn _) e1).trans ?_
      rw [thn_nx, forF_cons1]
      refine (congrArg (fun o : Out => o.thn _) e2).trans ?_
      rw [thn_nx]
      rfl
  obtain ⟨s10, s11, e8⟩ := late
  -- the answers
  have t1 : cutA (rows.map rowD) (some 1) none = (rows.drop 1).map rowD := by
    have := cutA_from (rows.map rowD) 1
    rw [List.map_drop]
    exact this
  have t2 : pk (-1) (rows.map rowD) = (pk (-1) rows).map rowD := pk_map (-1) rowD rows
  have pl2 := pk_len (-1 : Int) (by decide) rows
  have hd1 : ∀ p ∈ rows.drop 1, okR p := fun p hp => h2 p (List.mem_of_mem_drop hp)
  have ld1 : (rows.drop 1).length ≤ 1000 := by rw [List.length_drop]; omega
  have fa0 := faults_ok g h2 l2'
  have fa1 := faults_ok g hd1 ld1
  have du0 := due_ok g h2 l2'
  have du1 := due_ok g hd1 ld1
  have od0 := okDs_due (dueB_ok (ps := ps) (fun x hx => okP_at g hx) rows)
  have od1 := okDs_due (dueB_ok (ps := ps) (fun x hx => okP_at g hx) (rows.drop 1))
  have gl1 := gListOf_list ((rows.drop 1).map rowD) (by rw [List.length_map]; exact Nat.le_trans ld1 (by decide))
  obtain ⟨H', s13', s14', e13⟩ := F_all (S := scrD ns) (W := W) (lt := cell ns 27) (s3 := .val (.list (rows.map rowD))) (s4 := s4) (s5 := s5) g (ds := [.list (rows.map rowD), .list ((rows.drop 1).map rowD), .list ((pk (-1) rows).map rowD), .list (rows.map rowD)]) (fun d hd => by
    simp only [List.mem_cons, List.not_mem_nil, or_false] at hd
    rcases hd with rfl | rfl | rfl | rfl
    · exact ⟨rows, h2, l2', rfl⟩
    · exact ⟨rows.drop 1, hd1, ld1, rfl⟩
    · exact ⟨pk (-1) rows, fun p hp => h2 p (pk_mem hp), by omega, rfl⟩
    · exact ⟨rows, h2, l2', rfl⟩) (H := rows) (.val (.int 1)) s10 s11 (.val (.list [.list (dueB ps ss rows), .list (dueB ps ss (rows.drop 1))])) .no .no
  unfold F_law
  rw [runF_eq]
  have hb : ∃ ρ, b_law (rho0 N_law [scrD ns]) = .rt (.bool true) ρ := by
    unfold b_law
    have r0' : rho0 N_law [scrD ns] = [.val (scrD ns), .no, .no, .no, .no, .no, .no, .no, .no, .no, .no, .no, .no, .no, .no] := by simp [rho0, N_law]
    have a1 : sSet 1 (eCall F_parts (eCons (eVar 0) eNil)) [.val (scrD ns), .no, .no, .no, .no, .no, .no, .no, .no, .no, .no, .no, .no, .no, .no] = .nx [.val (scrD ns), .val (madeD ps ss), .no, .no, .no, .no, .no, .no, .no, .no, .no, .no, .no, .no, .no] := by simp [hp, madeD]
    have a2 : sSet 2 (eCall F_cell (eCons (eVar 0) (eCons (eC (.int 29)) eNil))) [.val (scrD ns), .val (madeD ps ss), .no, .no, .no, .no, .no, .no, .no, .no, .no, .no, .no, .no, .no] = .nx [.val (scrD ns), .val (madeD ps ss), .val (.int W), .no, .no, .no, .no, .no, .no, .no, .no, .no, .no, .no, .no] := by
      have c' : F_cell [scrD ns, .int 29] = some (.int W) := c29
      simp [c']
    have a3 : sSetL 3 (eCallL fl_gone_along (eCons (eOp gIx (eVarB 1) (eC (.int 0))) (eCons (eOp gIx (eVarB 1) (eC (.int 1))) (eCons (eCall gInt (eCons (eOp gEq (eOp gMod (eOp gFdiv (eVarB 2) (eC (.int 84))) (eC (.int 3))) (eC (.int 0))) eNil)) eNil)))) [.val (scrD ns), .val (madeD ps ss), .val (.int W), .no, .no, .no, .no, .no, .no, .no, .no, .no, .no, .no, .no] = .nx (rhoY (scrD ns) (madeD ps ss) W r0 .no .no) := by
      unfold madeD rhoY
      by_cases hc : W / 84 % 3 = 0
      · rw [if_pos hc] at hg0
        simp [hc, hg0]
      · rw [if_neg hc] at hg0
        simp [hc, hg0]
    have x1 : eList (lSl (eOp gIx (eVarB 1) (eC (.int 0))) oNone (oSome (eUn gNeg (eC (.int 1))))) (rhoY (scrD ns) (madeD ps ss) W rows s4 s5) = some (.list (ps.dropLast.map perD)) := by
      rw [← cp]
      simp [rhoY, madeD, lSl, oSome, oNone, lP]
    have x2 : eList (lSl (eOp gIx (eVarB 1) (eC (.int 1))) oNone (oSome (eUn gNeg (eC (.int 1))))) (rhoY (scrD ns) (madeD ps ss) W rows s4 s5) = some (.list (ss.dropLast.map shD)) := by
      rw [← cs]
      simp [rhoY, madeD, lSl, oSome, oNone, lS]
    have x3 : eCall F_cell (eCons (eVar 0) (eCons (eC (.int 25)) eNil)) (rhoY (scrD ns) (madeD ps ss) W rows s4 s5) = some (.int (cell ns 25)) := by
      have c' : F_cell [scrD ns, .int 25] = some (.int (cell ns 25)) := c25
      simp [rhoY, c']
    have a6 : sSetB 6 kB fn_book_of (eCons (eList (lSl (eOp gIx (eVarB 1) (eC (.int 0))) oNone (oSome (eUn gNeg (eC (.int 1)))))) (eCons (eList (lSl (eOp gIx (eVarB 1) (eC (.int 1))) oNone (oSome (eUn gNeg (eC (.int 1)))))) (eCons (eCall F_cell (eCons (eVar 0) (eCons (eC (.int 25)) eNil))) eNil))) (rhoY (scrD ns) (madeD ps ss) W rows s4 s5) = .nx [.val (scrD ns), .val (madeD ps ss), .val (.int W), .own (rows.map rowD), s4, s5, .obj (.book ⟨ps.dropLast, ss.dropLast⟩), .no, .no, .no, .no, .no, .no, .no, .no] := by
      unfold sSetB
      rw [eCons_eq, eCons_eq, eCons_eq, eNil_eq, x1, x2, x3]
      simp only [Option.bind_some, bo]
      rfl
    have a7 : sSetL 7 (eCallL gListOf (eCons (eVarB 3) eNil)) [.val (scrD ns), .val (madeD ps ss), .val (.int W), .own (rows.map rowD), s4, s5, .obj (.book ⟨ps.dropLast, ss.dropLast⟩), .no, .no, .no, .no, .no, .no, .no, .no] = .nx [.val (scrD ns), .val (madeD ps ss), .val (.int W), .own (rows.map rowD), s4, s5, .obj (.book ⟨ps.dropLast, ss.dropLast⟩), .own (rows.map rowD), .no, .no, .no, .no, .no, .no, .no] := by simp [gl]
    have a8 : sSet 8 (eCall F_cell (eCons (eVar 0) (eCons (eC (.int 27)) eNil))) [.val (scrD ns), .val (madeD ps ss), .val (.int W), .own (rows.map rowD), s4, s5, .obj (.book ⟨ps.dropLast, ss.dropLast⟩), .own (rows.map rowD), .no, .no, .no, .no, .no, .no, .no] = .nx (rhoX (scrD ns) (madeD ps ss) W (.own (rows.map rowD)) s4 s5 ⟨ps.dropLast, ss.dropLast⟩ rows (cell ns 27) .no .no .no .no .no .no) := by
      have c' : F_cell [scrD ns, .int 27] = some (.int (cell ns 27)) := c27
      unfold rhoX
      simp [c']
    have i9 : iR1 (eCons (eC (.int 2)) eNil) (rhoX (scrD ns) (madeD ps ss) W (.own (rows.map rowD)) s4 s5 ⟨ps.dropLast, ss.dropLast⟩ rows (cell ns 27) .no .no .no .no .no .no) = some (rangeD 0 2) := by simp
    -- the two answers
    have z1 : ∀ s10 s11 s12 s13 s14 H, eList (lSl (eVarB 3) (oSome (eC (.int 1))) oNone) (rhoX (scrD ns) (madeD ps ss) W (.val (.list (rows.map rowD))) s4 s5 ⟨ps, ss⟩ H (cell ns 27) (.val (.int 1)) s10 s11 s12 s13 s14) = some (.list ((rows.drop 1).map rowD)) := fun s10 s11 s12 s13 s14 H => by
      rw [← t1]
      simp [rhoX, lSl, oSome, oNone, lR]
    have iT2 : ∀ s10 s11 s12 s13 s14 H, iT (eTupD (eCons (eVar 3) (eCons (eList (lSl (eVarB 3) (oSome (eC (.int 1))) oNone)) eNil))) (rhoX (scrD ns) (madeD ps ss) W (.val (.list (rows.map rowD))) s4 s5 ⟨ps, ss⟩ H (cell ns 27) (.val (.int 1)) s10 s11 s12 s13 s14) = some [.list (rows.map rowD), .list ((rows.drop 1).map rowD)] := fun s10 s11 s12 s13 s14 H => by
      rw [iT_eq, eTupD_eq, eCons_eq, eCons_eq, z1]
      rfl
    have lc12 : lcF 13 tYesF (eList (eMethL kB noB.bk 6 frl_faults (eCons (eList (eCallL gListOf (eCons (eVarB 13) eNil))) eNil))) (rhoX (scrD ns) (madeD ps ss) W (.val (.list (rows.map rowD))) s4 s5 ⟨ps, ss⟩ rows (cell ns 27) (.val (.int 1)) s10 s11 .no .no .no) [.list (rows.map rowD), .list ((rows.drop 1).map rowD)] = some [.list (dueB ps ss rows), .list (dueB ps ss (rows.drop 1))] := by
      have v : ∀ T : List Row, gListOf [.list (T.map rowD)] = some (T.map rowD) → frl_faults ⟨ps, ss⟩ [.list (T.map rowD)] = some (dueB ps ss T) → eList (eMethL kB noB.bk 6 frl_faults (eCons (eList (eCallL gListOf (eCons (eVarB 13) eNil))) eNil)) ((rhoX (scrD ns) (madeD ps ss) W (.val (.list (rows.map rowD))) s4 s5 ⟨ps, ss⟩ rows (cell ns 27) (.val (.int 1)) s10 s11 .no .no .no).set 13 (.val (.list (T.map rowD)))) = some (.list (dueB ps ss T)) := fun T hg hf => by
        rw [eList_eq, eMethL_eq, rcv_obj _ _ 6 (.book ⟨ps, ss⟩) rfl]
        simp [rhoX, kB, hg, hf]
      have v0 := v rows gl fa0
      have v1 := v (rows.drop 1) gl1 fa1
      simp only [lcF, tYesF, v0, v1]
      rfl
    have a12 : (sFrzI 3 (sSet 12 (eList (lLc (iT (eTupD (eCons (eVar 3) (eCons (eList (lSl (eVarB 3) (oSome (eC (.int 1))) oNone)) eNil)))) 13 tYesF (eList (eMethL kB noB.bk 6 frl_faults (eCons (eList (eCallL gListOf (eCons (eVarB 13) eNil))) eNil))))))) (rhoX (scrD ns) (madeD ps ss) W (.own (rows.map rowD)) s4 s5 ⟨ps, ss⟩ rows (cell ns 27) (.val (.int 1)) s10 s11 .no .no .no) = .nx (rhoX (scrD ns) (madeD ps ss) W (.val (.list (rows.map rowD))) s4 s5 ⟨ps, ss⟩ rows (cell ns 27) (.val (.int 1)) s10 s11 (.val (.list [.list (dueB ps ss rows), .list (dueB ps ss (rows.drop 1))])) .no .no) := by
      rw [sFrzI_eq]
      show sSet 12 _ (rhoX (scrD ns) (madeD ps ss) W (.val (.list (rows.map rowD))) s4 s5 ⟨ps, ss⟩ rows (cell ns 27) (.val (.int 1)) s10 s11 .no .no .no) = _
      rw [sSet_eq, eList_eq, lLc_eq, iT2, Option.bind_some, if_pos (show [PyData.list (rows.map rowD), PyData.list ((rows.drop 1).map rowD)].length ≤ LIM from (show (2 : Nat) ≤ LIM by decide)), lc12]
      rfl
    have i13 : iT (eTupD (eCons (eVar 3) (eCons (eList (lSl (eVarB 3) (oSome (eC (.int 1))) oNone)) (eCons (eList (lStep (-1) (eVarB 3))) (eCons (eVar 3) eNil))))) (rhoX (scrD ns) (madeD ps ss) W (.val (.list (rows.map rowD))) s4 s5 ⟨ps, ss⟩ rows (cell ns 27) (.val (.int 1)) s10 s11 (.val (.list [.list (dueB ps ss rows), .list (dueB ps ss (rows.drop 1))])) .no .no) = some [.list (rows.map rowD), .list ((rows.drop 1).map rowD), .list ((pk (-1) rows).map rowD), .list (rows.map rowD)] := by
      have z2 : eList (lStep (-1) (eVarB 3)) (rhoX (scrD ns) (madeD ps ss) W (.val (.list (rows.map rowD))) s4 s5 ⟨ps, ss⟩ rows (cell ns 27) (.val (.int 1)) s10 s11 (.val (.list [.list (dueB ps ss rows), .list (dueB ps ss (rows.drop 1))])) .no .no) = some (.list ((pk (-1) rows).map rowD)) := by
        rw [← t2]
        simp [rhoX, lR]
      rw [iT_eq, eTupD_eq, eCons_eq, eCons_eq, eCons_eq, eCons_eq, z1, z2]
      rfl
    -- the last
    have lcE : ∀ s13 s14 H, lcF 13 tYesF (eCall F_due_of (eCons (eVar 13) (eCons (eOp gIx (eVarB 1) (eC (.int 0))) (eCons (eOp gIx (eVarB 1) (eC (.int 1))) eNil)))) (rhoX (scrD ns) (madeD ps ss) W (.val (.list (rows.map rowD))) s4 s5 ⟨ps, ss⟩ H (cell ns 27) (.val (.int 1)) s10 s11 (.val (.list [.list (dueB ps ss rows), .list (dueB ps ss (rows.drop 1))])) s13 s14) [.list (rows.map rowD), .list ((rows.drop 1).map rowD)] = some [.list (dueB ps ss rows), .list (dueB ps ss (rows.drop 1))] := fun s13 s14 H => by
      have v : ∀ T : List Row, F_due_of [.list (T.map rowD), .list (ps.map perD), .list (ss.map shD)] = some (.list (dueB ps ss T)) → eCall F_due_of (eCons (eVar 13) (eCons (eOp gIx (eVarB 1) (eC (.int 0))) (eCons (eOp gIx (eVarB 1) (eC (.int 1))) eNil))) ((rhoX (scrD ns) (madeD ps ss) W (.val (.list (rows.map rowD))) s4 s5 ⟨ps, ss⟩ H (cell ns 27) (.val (.int 1)) s10 s11 (.val (.list [.list (dueB ps ss rows), .list (dueB ps ss (rows.drop 1))])) s13 s14).set 13 (.val (.list (T.map rowD)))) = some (.list (dueB ps ss T)) := fun T hf => by
        simp [rhoX, madeD, hf]
      have v0 := v rows du0
      have v1 := v (rows.drop 1) du1
      simp only [lcF, tYesF, v0, v1]
      rfl
    have ge : gEq (.list [.list (dueB ps ss rows), .list (dueB ps ss (rows.drop 1))]) (.list [.list (dueB ps ss rows), .list (dueB ps ss (rows.drop 1))]) = some (.bool true) := gEq_same (by rw [okDs, okDs, okDs, okD, okD, od0.1, od1.1]; rfl) (by
      have q0 := od0.2.1
      have q1 := od1.2.1
      simp only [PyData.depth, PyData.depthAll] at q0 q1 ⊢
      omega)
    rw [r0', sSeq_eq, a1, thn_nx, sSeq_eq, a2, thn_nx, sSeq_eq, a3, thn_nx, sSeq_eq, e1, thn_nx, sSeq_eq, e2, thn_nx, sSeq_eq, a6, thn_nx, sSeq_eq, a7, thn_nx, sSeq_eq, a8, thn_nx, sSeq_eq, sFor_eq, i9, outL_some, e8, thn_nx, sSeq_eq, a12, thn_nx, sSeq_eq, sFor_eq, i13, outL_some, e13, thn_nx, sRet_eq]
    -- all own lists become data
    have fr : ∃ s4' s5' s10' s11' s13'' s14'', (rhoX (scrD ns) (madeD ps ss) W (.val (.list (rows.map rowD))) s4 s5 ⟨ps, ss⟩ H' (cell ns 27) (.val (.int 1)) s10 s11 (.val (.list [.list (dueB ps ss rows), .list (dueB ps ss (rows.drop 1))])) s13' s14').map frz1 = [.val (scrD ns), .val (madeD ps ss), .val (.int W), .val (.list (rows.map rowD)), s4', s5', .obj (.book ⟨ps, ss⟩), .val (.list (H'.map rowD)), .val (.int (cell ns 27)), .val (.int 1), s10', s11', .val (.list [.list (dueB ps ss rows), .list (dueB ps ss (rows.drop 1))]), s13'', s14''] := ⟨_, _, _, _, _, _, rfl⟩
    obtain ⟨s4', s5', s10', s11', s13'', s14'', fr⟩ := fr
    rw [fr]
    have lcF' : lcF 13 tYesF (eCall F_due_of (eCons (eVar 13) (eCons (eOp gIx (eVarB 1) (eC (.int 0))) (eCons (eOp gIx (eVarB 1) (eC (.int 1))) eNil)))) [.val (scrD ns), .val (madeD ps ss), .val (.int W), .val (.list (rows.map rowD)), s4', s5', .obj (.book ⟨ps, ss⟩), .val (.list (H'.map rowD)), .val (.int (cell ns 27)), .val (.int 1), s10', s11', .val (.list [.list (dueB ps ss rows), .list (dueB ps ss (rows.drop 1))]), s13'', s14''] [.list (rows.map rowD), .list ((rows.drop 1).map rowD)] = some [.list (dueB ps ss rows), .list (dueB ps ss (rows.drop 1))] := by
      have v : ∀ T : List Row, F_due_of [.list (T.map rowD), .list (ps.map perD), .list (ss.map shD)] = some (.list (dueB ps ss T)) → eCall F_due_of (eCons (eVar 13) (eCons (eOp gIx (eVarB 1) (eC (.int 0))) (eCons (eOp gIx (eVarB 1) (eC (.int 1))) eNil))) (([.val (scrD ns), .val (madeD ps ss), .val (.int W), .val (.list (rows.map rowD)), s4', s5', .obj (.book ⟨ps, ss⟩), .val (.list (H'.map rowD)), .val (.int (cell ns 27)), .val (.int 1), s10', s11', .val (.list [.list (dueB ps ss rows), .list (dueB ps ss (rows.drop 1))]), s13'', s14''] : Rho).set 13 (.val (.list (T.map rowD)))) = some (.list (dueB ps ss T)) := fun T hf => by
        simp [madeD, hf]
      have v0 := v rows du0
      have v1 := v (rows.drop 1) du1
      simp only [lcF, tYesF, v0, v1]
      rfl
    have zE : eList (lSl (eVarB 3) (oSome (eC (.int 1))) oNone) [.val (scrD ns), .val (madeD ps ss), .val (.int W), .val (.list (rows.map rowD)), s4', s5', .obj (.book ⟨ps, ss⟩), .val (.list (H'.map rowD)), .val (.int (cell ns 27)), .val (.int 1), s10', s11', .val (.list [.list (dueB ps ss rows), .list (dueB ps ss (rows.drop 1))]), s13'', s14''] = some (.list ((rows.drop 1).map rowD)) := by
      rw [← t1]
      simp [lSl, oSome, oNone, lR]
    have iE2 : iT (eTupD (eCons (eVar 3) (eCons (eList (lSl (eVarB 3) (oSome (eC (.int 1))) oNone)) eNil))) [.val (scrD ns), .val (madeD ps ss), .val (.int W), .val (.list (rows.map rowD)), s4', s5', .obj (.book ⟨ps, ss⟩), .val (.list (H'.map rowD)), .val (.int (cell ns 27)), .val (.int 1), s10', s11', .val (.list [.list (dueB ps ss rows), .list (dueB ps ss (rows.drop 1))]), s13'', s14''] = some [.list (rows.map rowD), .list ((rows.drop 1).map rowD)] := by
      rw [iT_eq, eTupD_eq, eCons_eq, eCons_eq, zE]
      rfl
    have vE : eOp gEq (eVarB 12) (eList (lLc (iT (eTupD (eCons (eVar 3) (eCons (eList (lSl (eVarB 3) (oSome (eC (.int 1))) oNone)) eNil)))) 13 tYesF (eCall F_due_of (eCons (eVar 13) (eCons (eOp gIx (eVarB 1) (eC (.int 0))) (eCons (eOp gIx (eVarB 1) (eC (.int 1))) eNil)))))) [.val (scrD ns), .val (madeD ps ss), .val (.int W), .val (.list (rows.map rowD)), s4', s5', .obj (.book ⟨ps, ss⟩), .val (.list (H'.map rowD)), .val (.int (cell ns 27)), .val (.int 1), s10', s11', .val (.list [.list (dueB ps ss rows), .list (dueB ps ss (rows.drop 1))]), s13'', s14''] = some (.bool true) := by
      rw [eOp_eq, eList_eq, lLc_eq, iE2, Option.bind_some, if_pos (show [PyData.list (rows.map rowD), PyData.list ((rows.drop 1).map rowD)].length ≤ LIM from (show (2 : Nat) ≤ LIM by decide)), lcF']
      exact ge
    rw [vE]
    exact ⟨_, rfl⟩
  obtain ⟨ρ, hb⟩ := hb
  show (if (1 : Nat) = 1 then _ else _) = _
  rw [if_pos rfl, hb]
  rfl
end RK
namespace RK
open PySem PySem.Spec PyProof.Rows L2 RT
def d_is_whole : He.DefD := ⟨("is_whole", none), "is_whole", "is_whole", defArgs s_is_whole, defBody s_is_whole, defScope s_is_whole, [], []⟩
def d_is_stretch : He.DefD := ⟨("is_stretch", none), "is_stretch", "is_stretch", defArgs s_is_stretch, defBody s_is_stretch, defScope s_is_stretch, [], []⟩
def d_meets : He.DefD := ⟨("meets", none), "meets", "meets", defArgs s_meets, defBody s_meets, defScope s_meets, [], []⟩
def d_day_of : He.DefD := ⟨("day_of", none), "day_of", "day_of", defArgs s_day_of, defBody s_day_of, defScope s_day_of, [], []⟩
def d_in_one_day : He.DefD := ⟨("in_one_day", none), "in_one_day", "in_one_day", defArgs s_in_one_day, defBody s_in_one_day, defScope s_in_one_day, [], []⟩
def d_is_known : He.DefD := ⟨("is_known", none), "is_known", "is_known", defArgs s_is_known, defBody s_is_known, defScope s_is_known, [], []⟩
def d_fault_of : He.DefD := ⟨("fault_of", none), "fault_of", "fault_of", defArgs s_fault_of, defBody s_fault_of, defScope s_fault_of, [], []⟩
def d_faults : He.DefD := ⟨("faults", none), "faults", "faults", defArgs s_faults, defBody s_faults, defScope s_faults, [], []⟩
def d_is_name : He.DefD := ⟨("is_name", none), "is_name", "is_name", defArgs s_is_name, defBody s_is_name, defScope s_is_name, [], []⟩
def d_cell : He.DefD := ⟨("_law_cell", none), "_law_cell", "_law_cell", defArgs s_cell, defBody s_cell, defScope s_cell, [], []⟩
def d_sign : He.DefD := ⟨("_law_sign", none), "_law_sign", "_law_sign", defArgs s_sign, defBody s_sign, defScope s_sign, [], []⟩
def d_tail : He.DefD := ⟨("_law_tail", none), "_law_tail", "_law_tail", defArgs s_tail, defBody s_tail, defScope s_tail, [], []⟩
def d_name_by : He.DefD := ⟨("_law_name_by", none), "_law_name_by", "_law_name_by", defArgs s_name_by, defBody s_name_by, defScope s_name_by, [], []⟩
def d_int : He.DefD := ⟨("_law_int", none), "_law_int", "_law_int", defArgs s_int, defBody s_int, defScope s_int, [], []⟩
def d_called : He.DefD := ⟨("_law_called", none), "_law_called", "_law_called", defArgs s_called, defBody s_called, defScope s_called, [], []⟩
def d_person : He.DefD := ⟨("_law_person", none), "_law_person", "_law_person", defArgs s_person, defBody s_person, defScope s_person, [], []⟩
def d_shift : He.DefD := ⟨("_law_shift", none), "_law_shift", "_law_shift", defArgs s_shift, defBody s_shift, defScope s_shift, [], []⟩
def d_tight : He.DefD := ⟨("_law_tight", none), "_law_tight", "_law_tight", defArgs s_tight, defBody s_tight, defScope s_tight, [], []⟩
def d_parts : He.DefD := ⟨("_law_parts", none), "_law_parts", "_law_parts", defArgs s_parts, defBody s_parts, defScope s_parts, [], []⟩
def d_rested : He.DefD := ⟨("_law_rested", none), "_law_rested", "_law_rested", defArgs s_rested, defBody s_rested, defScope s_rested, [], []⟩
def d_refused_deed : He.DefD := ⟨("_law_refused_deed", none), "_law_refused_deed", "_law_refused_deed", defArgs s_refused_deed, defBody s_refused_deed, defScope s_refused_deed, [], []⟩
def d_book_of : He.DefD := ⟨("_law_book_of", none), "_law_book_of", "_law_book_of", defArgs s_book_of, defBody s_book_of, defScope s_book_of, [], []⟩
def d_may : He.DefD := ⟨("_law_may", none), "_law_may", "_law_may", defArgs s_may, defBody s_may, defScope s_may, [], []⟩
def d_taken : He.DefD := ⟨("_law_taken", none), "_law_taken", "_law_taken", defArgs s_taken, defBody s_taken, defScope s_taken, [], []⟩
def d_first : He.DefD := ⟨("_law_first", none), "_law_first", "_law_first", defArgs s_first, defBody s_first, defScope s_first, [], []⟩
def d_gone_along : He.DefD := ⟨("_law_gone_along", none), "_law_gone_along", "_law_gone_along", defArgs s_gone_along, defBody s_gone_along, defScope s_gone_along, [], []⟩
def d_row_by : He.DefD := ⟨("_law_row_by", none), "_law_row_by", "_law_row_by", defArgs s_row_by, defBody s_row_by, defScope s_row_by, [], []⟩
def d_word_of : He.DefD := ⟨("_law_word_of", none), "_law_word_of", "_law_word_of", defArgs s_word_of, defBody s_word_of, defScope s_word_of, [], []⟩
def d_due_of : He.DefD := ⟨("_law_due_of", none), "_law_due_of", "_law_due_of", defArgs s_due_of, defBody s_due_of, defScope s_due_of, [], []⟩
def d_kinds : He.DefD := ⟨("_law_kinds", none), "_law_kinds", "_law_kinds", defArgs s_kinds, defBody s_kinds, defScope s_kinds, [], []⟩
def d_law : He.DefD := ⟨("law", none), "law", "law", defArgs s_law, defBody s_law, defScope s_law, [], []⟩
def d_book_init : He.DefD := ⟨("Book", some "__init__"), "__init__", "Book.__init__", defArgs m_book_init, defBody m_book_init, defScope m_book_init, [], []⟩
def d_book_add_person : He.DefD := ⟨("Book", some "add_person"), "add_person", "Book.add_person", defArgs m_book_add_person, defBody m_book_add_person, defScope m_book_add_person, [], []⟩
def d_book_add_rest : He.DefD := ⟨("Book", some "add_rest"), "add_rest", "Book.add_rest", defArgs m_book_add_rest, defBody m_book_add_rest, defScope m_book_add_rest, [], []⟩
def d_book_add_shift : He.DefD := ⟨("Book", some "add_shift"), "add_shift", "Book.add_shift", defArgs m_book_add_shift, defBody m_book_add_shift, defScope m_book_add_shift, [], []⟩
def d_book_people : He.DefD := ⟨("Book", some "people"), "people", "Book.people", defArgs m_book_people, defBody m_book_people, defScope m_book_people, [], []⟩
def d_book_shifts : He.DefD := ⟨("Book", some "shifts"), "shifts", "Book.shifts", defArgs m_book_shifts, defBody m_book_shifts, defScope m_book_shifts, [], []⟩
def d_book_posts : He.DefD := ⟨("Book", some "posts"), "posts", "Book.posts", defArgs m_book_posts, defBody m_book_posts, defScope m_book_posts, [], []⟩
def d_book_rests_of : He.DefD := ⟨("Book", some "rests_of"), "rests_of", "Book.rests_of", defArgs m_book_rests_of, defBody m_book_rests_of, defScope m_book_rests_of, [], []⟩
def d_book_limit_of : He.DefD := ⟨("Book", some "limit_of"), "limit_of", "Book.limit_of", defArgs m_book_limit_of, defBody m_book_limit_of, defScope m_book_limit_of, [], []⟩
def d_book_stretch_of : He.DefD := ⟨("Book", some "stretch_of"), "stretch_of", "Book.stretch_of", defArgs m_book_stretch_of, defBody m_book_stretch_of, defScope m_book_stretch_of, [], []⟩
def d_book_count_of : He.DefD := ⟨("Book", some "count_of"), "count_of", "Book.count_of", defArgs m_book_count_of, defBody m_book_count_of, defScope m_book_count_of, [], []⟩
def d_book_may : He.DefD := ⟨("Book", some "may"), "may", "Book.may", defArgs m_book_may, defBody m_book_may, defScope m_book_may, [], []⟩
def fn : List He.DefD := [d_is_whole, d_is_stretch, d_meets, d_day_of, d_in_one_day, d_is_known, d_fault_of, d_faults, d_is_name, d_cell, d_sign, d_tail, d_name_by, d_int, d_called, d_person, d_shift, d_tight, d_parts, d_rested, d_refused_deed, d_book_of, d_may, d_taken, d_first, d_gone_along, d_row_by, d_word_of, d_due_of, d_kinds, d_law, d_book_init, d_book_add_person, d_book_add_rest, d_book_add_shift, d_book_people, d_book_shifts, d_book_posts, d_book_rests_of, d_book_limit_of, d_book_stretch_of, d_book_count_of, d_book_may]
def fa : List He.Fa := [.glo "is_whole", .glo "is_stretch", .glo "meets", .glo "day_of", .glo "in_one_day", .glo "is_known", .glo "fault_of", .glo "faults", .glo "is_name", .glo "_law_cell", .glo "_law_sign", .glo "_law_tail", .glo "_law_name_by", .glo "_law_int", .glo "_law_called", .glo "_law_person", .glo "_law_shift", .glo "_law_tight", .glo "_law_parts", .glo "_law_rested", .glo "_law_refused_deed", .glo "_law_book_of", .glo "_law_may", .glo "_law_taken", .glo "_law_first", .glo "_law_gone_along", .glo "_law_row_by", .glo "_law_word_of", .glo "_law_due_of", .glo "_law_kinds", .glo "law", .free "bool", .free "enumerate", .free "int", .free "isinstance", .free "len", .free "list", .free "max", .free "min", .free "range", .free "sum", .free "tuple", .int "DAY" 24, .int "LAST" 1000000, .int "MOST" 20, .int "MOST_COUNT" 9, .int "MOST_DAYS" 31, .str "SIGNS" "!\"#$&'()*+,-./0123456789:;<=>?@ABCDEFGHIJKLMNOPQRSTUVWXYZ[\\]^_`abcdefghijklmnopqrstuvwxyz{|}~", .cls "Book", .mkr "Book", .glo "Book", .noat "Book" "skills", .noat "Book" "limits", .noat "Book" "rests", .noat "Book" "stretches", .noat "Book" "needs", .meth "Book" "add_person", .meth "Book" "add_rest", .meth "Book" "add_shift", .meth "Book" "people", .meth "Book" "shifts", .meth "Book" "posts", .meth "Book" "rests_of", .meth "Book" "limit_of", .meth "Book" "stretch_of", .meth "Book" "count_of", .meth "Book" "may", .glo "BadCount", .exc "BadCount", .glo "BadName", .exc "BadName", .glo "BadStretch", .exc "BadStretch", .glo "Missing", .exc "Missing", .glo "Twice", .exc "Twice", .glo "RotaError", .exm "BadName" "RotaError" true, .exm "BadStretch" "RotaError" true, .exm "BadCount" "RotaError" true, .exm "Twice" "RotaError" true, .exm "Missing" "RotaError" true]
abbrev R : PySem.W.OpenRow := PySem.W.OpenLaw.row PySem.Challenge.rw_rota_k09_faults_told
abbrev hk : PySem.W.Hook := He.hookD 5 fa fn
def ob (s : PySem.W.SharedT) : He.AlD := He.obsDG 5 fa fn (HandSHeadRun.getT s)
theorem ob_eq (s : PySem.W.SharedT) : ob s = hk.obs s.abs := He.obsDG_eq (HandSHeadRun.getT_eq s)
abbrev loose : List Str := [("_wall" : Str), ("LAST" : Str), ("DAY" : Str), ("is_whole" : Str), ("is_stretch" : Str), ("meets" : Str), ("day_of" : Str), ("in_one_day" : Str), ("is_known" : Str), ("fault_of" : Str), ("faults" : Str), ("RotaError" : Str), ("BadName" : Str), ("BadStretch" : Str), ("BadCount" : Str), ("Twice" : Str), ("Missing" : Str), ("MOST" : Str), ("SIGNS" : Str), ("is_name" : Str), ("MOST_DAYS" : Str), ("MOST_COUNT" : Str), ("Book" : Str), ("_law_cell" : Str), ("_law_sign" : Str), ("_law_tail" : Str), ("_law_name_by" : Str), ("_law_int" : Str), ("_law_called" : Str), ("_law_person" : Str), ("_law_shift" : Str), ("_law_tight" : Str), ("_law_parts" : Str), ("_law_rested" : Str), ("_law_refused_deed" : Str), ("_law_book_of" : Str), ("_law_may" : Str), ("_law_taken" : Str), ("_law_first" : Str), ("_law_gone_along" : Str), ("_law_row_by" : Str), ("_law_word_of" : Str), ("_law_due_of" : Str), ("_law_kinds" : Str)]
theorem run (w : World) : HandSHeadRun.RunEq R (PySem.W.view R.prog [50]) hk ob 14000 loose w := by
  intro os
  kernel_rfl
theorem txt {K : PySem.W.Frag} {h : Heap} {mg : Str → Option Value} (X : K.In h) (G : h.Ns mainGlobals mg) (c : He.SaysD fa fn K) : Txt K mg where
  f_is_whole := c.def_ 0 (d := d_is_whole) rfl
  g_is_whole := He.glo_ok X G (c.fact 0 (f := .glo "is_whole") rfl)
  f_is_stretch := c.def_ 1 (d := d_is_stretch) rfl
  g_is_stretch := He.glo_ok X G (c.fact 1 (f := .glo "is_stretch") rfl)
  f_meets := c.def_ 2 (d := d_meets) rfl
  g_meets := He.glo_ok X G (c.fact 2 (f := .glo "meets") rfl)
  f_day_of := c.def_ 3 (d := d_day_of) rfl
  g_day_of := He.glo_ok X G (c.fact 3 (f := .glo "day_of") rfl)
  f_in_one_day := c.def_ 4 (d := d_in_one_day) rfl
  g_in_one_day := He.glo_ok X G (c.fact 4 (f := .glo "in_one_day") rfl)
  f_is_known := c.def_ 5 (d := d_is_known) rfl
  g_is_known := He.glo_ok X G (c.fact 5 (f := .glo "is_known") rfl)
  f_fault_of := c.def_ 6 (d := d_fault_of) rfl
  g_fault_of := He.glo_ok X G (c.fact 6 (f := .glo "fault_of") rfl)
  f_faults := c.def_ 7 (d := d_faults) rfl
  g_faults := He.glo_ok X G (c.fact 7 (f := .glo "faults") rfl)
  f_is_name := c.def_ 8 (d := d_is_name) rfl
  g_is_name := He.glo_ok X G (c.fact 8 (f := .glo "is_name") rfl)
  f_cell := c.def_ 9 (d := d_cell) rfl
  g_cell := He.glo_ok X G (c.fact 9 (f := .glo "_law_cell") rfl)
  f_sign := c.def_ 10 (d := d_sign) rfl
  g_sign := He.glo_ok X G (c.fact 10 (f := .glo "_law_sign") rfl)
  f_tail := c.def_ 11 (d := d_tail) rfl
  g_tail := He.glo_ok X G (c.fact 11 (f := .glo "_law_tail") rfl)
  f_name_by := c.def_ 12 (d := d_name_by) rfl
  g_name_by := He.glo_ok X G (c.fact 12 (f := .glo "_law_name_by") rfl)
  f_int := c.def_ 13 (d := d_int) rfl
  g_int := He.glo_ok X G (c.fact 13 (f := .glo "_law_int") rfl)
  f_called := c.def_ 14 (d := d_called) rfl
  g_called := He.glo_ok X G (c.fact 14 (f := .glo "_law_called") rfl)
  f_person := c.def_ 15 (d := d_person) rfl
  g_person := He.glo_ok X G (c.fact 15 (f := .glo "_law_person") rfl)
  f_shift := c.def_ 16 (d := d_shift) rfl
  g_shift := He.glo_ok X G (c.fact 16 (f := .glo "_law_shift") rfl)
  f_tight := c.def_ 17 (d := d_tight) rfl
  g_tight := He.glo_ok X G (c.fact 17 (f := .glo "_law_tight") rfl)
  f_parts := c.def_ 18 (d := d_parts) rfl
  g_parts := He.glo_ok X G (c.fact 18 (f := .glo "_law_parts") rfl)
  f_rested := c.def_ 19 (d := d_rested) rfl
  g_rested := He.glo_ok X G (c.fact 19 (f := .glo "_law_rested") rfl)
  f_refused_deed := c.def_ 20 (d := d_refused_deed) rfl
  g_refused_deed := He.glo_ok X G (c.fact 20 (f := .glo "_law_refused_deed") rfl)
  f_book_of := c.def_ 21 (d := d_book_of) rfl
  g_book_of := He.glo_ok X G (c.fact 21 (f := .glo "_law_book_of") rfl)
  f_may := c.def_ 22 (d := d_may) rfl
  g_may := He.glo_ok X G (c.fact 22 (f := .glo "_law_may") rfl)
  f_taken := c.def_ 23 (d := d_taken) rfl
  g_taken := He.glo_ok X G (c.fact 23 (f := .glo "_law_taken") rfl)
  f_first := c.def_ 24 (d := d_first) rfl
  g_first := He.glo_ok X G (c.fact 24 (f := .glo "_law_first") rfl)
  f_gone_along := c.def_ 25 (d := d_gone_along) rfl
  g_gone_along := He.glo_ok X G (c.fact 25 (f := .glo "_law_gone_along") rfl)
  f_row_by := c.def_ 26 (d := d_row_by) rfl
  g_row_by := He.glo_ok X G (c.fact 26 (f := .glo "_law_row_by") rfl)
  f_word_of := c.def_ 27 (d := d_word_of) rfl
  g_word_of := He.glo_ok X G (c.fact 27 (f := .glo "_law_word_of") rfl)
  f_due_of := c.def_ 28 (d := d_due_of) rfl
  g_due_of := He.glo_ok X G (c.fact 28 (f := .glo "_law_due_of") rfl)
  f_kinds := c.def_ 29 (d := d_kinds) rfl
  g_kinds := He.glo_ok X G (c.fact 29 (f := .glo "_law_kinds") rfl)
  f_law := c.def_ 30 (d := d_law) rfl
  g_law := He.glo_ok X G (c.fact 30 (f := .glo "law") rfl)
  z_bool := He.free_ok X G (c.fact 31 (f := .free "bool") rfl)
  z_enumerate := He.free_ok X G (c.fact 32 (f := .free "enumerate") rfl)
  z_int := He.free_ok X G (c.fact 33 (f := .free "int") rfl)
  z_isinstance := He.free_ok X G (c.fact 34 (f := .free "isinstance") rfl)
  z_len := He.free_ok X G (c.fact 35 (f := .free "len") rfl)
  z_list := He.free_ok X G (c.fact 36 (f := .free "list") rfl)
  z_max := He.free_ok X G (c.fact 37 (f := .free "max") rfl)
  z_min := He.free_ok X G (c.fact 38 (f := .free "min") rfl)
  z_range := He.free_ok X G (c.fact 39 (f := .free "range") rfl)
  z_sum := He.free_ok X G (c.fact 40 (f := .free "sum") rfl)
  z_tuple := He.free_ok X G (c.fact 41 (f := .free "tuple") rfl)
  c_DAY := He.int_ok X G (c.fact 42 (f := .int "DAY" 24) rfl)
  c_LAST := He.int_ok X G (c.fact 43 (f := .int "LAST" 1000000) rfl)
  c_MOST := He.int_ok X G (c.fact 44 (f := .int "MOST" 20) rfl)
  c_MOST_COUNT := He.int_ok X G (c.fact 45 (f := .int "MOST_COUNT" 9) rfl)
  c_MOST_DAYS := He.int_ok X G (c.fact 46 (f := .int "MOST_DAYS" 31) rfl)
  c_SIGNS := He.str_ok X G (c.fact 47 (f := .str "SIGNS" "!\"#$&'()*+,-./0123456789:;<=>?@ABCDEFGHIJKLMNOPQRSTUVWXYZ[\\]^_`abcdefghijklmnopqrstuvwxyz{|}~") rfl)
  cl_book := He.cls_ok (c.fact 48 (f := .cls "Book") rfl)
  mk_book := He.mkr_ok (c.fact 49 (f := .mkr "Book") rfl)
  gc_book := He.glo_ok X G (c.fact 50 (f := .glo "Book") rfl)
  n_book_skills := He.noat_ok (c.fact 51 (f := .noat "Book" "skills") rfl)
  n_book_limits := He.noat_ok (c.fact 52 (f := .noat "Book" "limits") rfl)
  n_book_rests := He.noat_ok (c.fact 53 (f := .noat "Book" "rests") rfl)
  n_book_stretches := He.noat_ok (c.fact 54 (f := .noat "Book" "stretches") rfl)
  n_book_needs := He.noat_ok (c.fact 55 (f := .noat "Book" "needs") rfl)
  f_book_init := c.def_ 31 (d := d_book_init) rfl
  f_book_add_person := c.def_ 32 (d := d_book_add_person) rfl
  me_book_add_person := He.meth_ok (c.fact 56 (f := .meth "Book" "add_person") rfl)
  f_book_add_rest := c.def_ 33 (d := d_book_add_rest) rfl
  me_book_add_rest := He.meth_ok (c.fact 57 (f := .meth "Book" "add_rest") rfl)
  f_book_add_shift := c.def_ 34 (d := d_book_add_shift) rfl
  me_book_add_shift := He.meth_ok (c.fact 58 (f := .meth "Book" "add_shift") rfl)
  f_book_people := c.def_ 35 (d := d_book_people) rfl
  me_book_people := He.meth_ok (c.fact 59 (f := .meth "Book" "people") rfl)
  f_book_shifts := c.def_ 36 (d := d_book_shifts) rfl
  me_book_shifts := He.meth_ok (c.fact 60 (f := .meth "Book" "shifts") rfl)
  f_book_posts := c.def_ 37 (d := d_book_posts) rfl
  me_book_posts := He.meth_ok (c.fact 61 (f := .meth "Book" "posts") rfl)
  f_book_rests_of := c.def_ 38 (d := d_book_rests_of) rfl
  me_book_rests_of := He.meth_ok (c.fact 62 (f := .meth "Book" "rests_of") rfl)
  f_book_limit_of := c.def_ 39 (d := d_book_limit_of) rfl
  me_book_limit_of := He.meth_ok (c.fact 63 (f := .meth "Book" "limit_of") rfl)
  f_book_stretch_of := c.def_ 40 (d := d_book_stretch_of) rfl
  me_book_stretch_of := He.meth_ok (c.fact 64 (f := .meth "Book" "stretch_of") rfl)
  f_book_count_of := c.def_ 41 (d := d_book_count_of) rfl
  me_book_count_of := He.meth_ok (c.fact 65 (f := .meth "Book" "count_of") rfl)
  f_book_may := c.def_ 42 (d := d_book_may) rfl
  me_book_may := He.meth_ok (c.fact 66 (f := .meth "Book" "may") rfl)
  e_BadCount := ⟨He.glo_ok X G (c.fact 67 (f := .glo "BadCount") rfl), (He.exc_ok (c.fact 68 (f := .exc "BadCount") rfl)).1, (He.exc_ok (c.fact 68 (f := .exc "BadCount") rfl)).2.1, (He.exc_ok (c.fact 68 (f := .exc "BadCount") rfl)).2.2.1, (He.exc_ok (c.fact 68 (f := .exc "BadCount") rfl)).2.2.2⟩
  e_BadName := ⟨He.glo_ok X G (c.fact 69 (f := .glo "BadName") rfl), (He.exc_ok (c.fact 70 (f := .exc "BadName") rfl)).1, (He.exc_ok (c.fact 70 (f := .exc "BadName") rfl)).2.1, (He.exc_ok (c.fact 70 (f := .exc "BadName") rfl)).2.2.1, (He.exc_ok (c.fact 70 (f := .exc "BadName") rfl)).2.2.2⟩
  e_BadStretch := ⟨He.glo_ok X G (c.fact 71 (f := .glo "BadStretch") rfl), (He.exc_ok (c.fact 72 (f := .exc "BadStretch") rfl)).1, (He.exc_ok (c.fact 72 (f := .exc "BadStretch") rfl)).2.1, (He.exc_ok (c.fact 72 (f := .exc "BadStretch") rfl)).2.2.1, (He.exc_ok (c.fact 72 (f := .exc "BadStretch") rfl)).2.2.2⟩
  e_Missing := ⟨He.glo_ok X G (c.fact 73 (f := .glo "Missing") rfl), (He.exc_ok (c.fact 74 (f := .exc "Missing") rfl)).1, (He.exc_ok (c.fact 74 (f := .exc "Missing") rfl)).2.1, (He.exc_ok (c.fact 74 (f := .exc "Missing") rfl)).2.2.1, (He.exc_ok (c.fact 74 (f := .exc "Missing") rfl)).2.2.2⟩
  e_Twice := ⟨He.glo_ok X G (c.fact 75 (f := .glo "Twice") rfl), (He.exc_ok (c.fact 76 (f := .exc "Twice") rfl)).1, (He.exc_ok (c.fact 76 (f := .exc "Twice") rfl)).2.1, (He.exc_ok (c.fact 76 (f := .exc "Twice") rfl)).2.2.1, (He.exc_ok (c.fact 76 (f := .exc "Twice") rfl)).2.2.2⟩
  gh_RotaError := He.glo_ok X G (c.fact 77 (f := .glo "RotaError") rfl)
  x_BadName_RotaError := He.exm_ok (c.fact 78 (f := .exm "BadName" "RotaError" true) rfl)
  x_BadStretch_RotaError := He.exm_ok (c.fact 79 (f := .exm "BadStretch" "RotaError" true) rfl)
  x_BadCount_RotaError := He.exm_ok (c.fact 80 (f := .exm "BadCount" "RotaError" true) rfl)
  x_Twice_RotaError := He.exm_ok (c.fact 81 (f := .exm "Twice" "RotaError" true) rfl)
  x_Missing_RotaError := He.exm_ok (c.fact 82 (f := .exm "Missing" "RotaError" true) rfl)
theorem facts {P : Program} {w : World} {K : PySem.W.Frag} {h : Heap} {mg : Str → Option Value} {f : Addr} (X : K.In h) (G : h.Ns mainGlobals mg) (hfa : mg ("law" : Str) = some (.ref f)) (c : He.SaysD fa fn K) :
    ∃ fd : FuncData, (∀ (s : Shared) (v : Value), BindsTo s fd ⟨[v], []⟩ [("_law_script", v)]) ∧ ∀ base : Heap, K.In base → base.Ns mainGlobals mg → FnOk P w K mg base CX0 lawLevel f fd ["_law_script"] (spPure K F_law) := by
  have T := txt X G c
  obtain ⟨fd, F⟩ := T.f_law
  have e := hfa.symm.trans T.g_law
  cases e
  have b := FunD.bindsA (ps := ["_law_script"]) F fun _ _ _ _ _ _ us hl => match us, hl with | [_], _ => rfl
  exact ⟨fd, fun s v => b s [v] rfl, fun base _ _ => okf_law T F⟩
end RK
open PySem PySem.W PySem.Calls PyProof.Rows
set_option maxRecDepth 100000 in
set_option maxHeartbeats 0 in
theorem PySem.Challenge.cw_rota_k09_faults_told_holds : PySem.Challenge.rw_rota_k09_faults_told.Holds := by
  w_on; o_law
  refine HandSHeadRun.head_any (r := OpenLaw.row PySem.Challenge.rw_rota_k09_faults_told) (q := view (OpenLaw.row PySem.Challenge.rw_rota_k09_faults_told).prog [50]) (H := RK.hk) (ob := RK.ob) (M := 14000) (loose := RK.loose) (d := HandSHeadRun.topDef (OpenLaw.row PySem.Challenge.rw_rota_k09_faults_told).prog 50) (kwd := []) RK.ob_eq
    (by kernel_rfl) (fun s => by kernel_rfl) RK.run (by kernel_rfl) (by kernel_rfl) (by kernel_rfl) (by rfl) (by first | assumption | decide +kernel) (by decide +kernel) ⟨rfl, rfl, rfl, rfl, rfl, by decide +kernel⟩ ?hw ?hc
  case hw => w_witness2
  case hc =>
    refine L2.walk_ofE (l := PySem.Challenge.rw_rota_k09_faults_told) (n := 63) (k := RK.lawLevel) (x := "_law_script") (CX := L2.CX0) rfl (by decide) (by kernel_rfl) ⟨rfl, by decide, by decide⟩ ?F (fun _ _ _ _ z => z)
    intro w mg fa h Y G hmg0
    obtain ⟨K, KX, c⟩ := Y
    have hmg : mg ("law" : PySem.Str) = some (.ref fa) := by
      have e : (HandSHeadRun.topDef (OpenLaw.row PySem.Challenge.rw_rota_k09_faults_told).prog 50).name = ("law" : PySem.Str) := by kernel_rfl
      rw [← e]
      exact hmg0
    obtain ⟨fd, hb, hF⟩ := RK.facts (P := (PySem.Challenge.rw_rota_k09_faults_told).prog) (w := w) KX G hmg c
    exact ⟨K, fd, RT.spPure K RK.F_law, KX, hb, fun H a ns hl _ hS => RT.law_sp (RK.law_true ns hl) hS, hF⟩
