import PyProof.Rows.All
import Wide.All
import OpenK.AllK
import Wide.FinOn
import KE.KStateDown
import HandS.ForMost
import HandS.More
import HandS.Deep
import HandS.Defaults
import HandS.HeadHook1
import HandS.Style
import HandS.IsInst
import HandS.ForExc
import HandS.WordsExc
import HandS.ExcOwn
import HandS.TryOnly
import HandS.HeadHook2
import HandS.ExcIs
import HandS.Iter
import KE.KRevSl
import HandS.Conv
import HandS.Small
import HandS.Codes
import HandS.SortInts
import KE.GoesComp
import KE.GoesRaise
import HandS.Comp
import HandS.ExcCtx
import PyProof.StrLoop
import HandS.Hot
import HandS.HotCalls
import HandS.SuiteRaise
import Lean
import HandS.Head0
import HandS.Head1
import HandS.Head2
import HandS.HeadEnd
import PySem.Challenge.RW_rota_k07_lines_read
set_option Elab.async false
set_option linter.all false
set_option maxRecDepth 100000
set_option maxHeartbeats 4000000
/-! Plain data over the heap: what an expression, a test, a statement makes of data, as total functions. -/
namespace RT
open PySem PySem.Spec PyProof.Rows L2

/-! ### data in a part of the heap -/
mutual
inductive Dq (K : PySem.W.Frag) (H : Hp) : V → PyData → Prop
  | non : Dq K H .non .none
  | bl (b : Bool) : Dq K H (.bl b) (.bool b)
  | int (i : Int) : Dq K H (.int i) (.int i)
  | str (x : Str) : Dq K H (.str x) (.str x)
  | lst {a : Addr} {xs : List V} {ds : List PyData} : H a = some (.lst xs) → DqAll K H xs ds → Dq K H (.ref a) (.list ds)
  | tup {a : Addr} {xs : List V} {ds : List PyData} : SqT K H a xs → DqAll K H xs ds → Dq K H (.ref a) (.tuple ds)
inductive DqAll (K : PySem.W.Frag) (H : Hp) : List V → List PyData → Prop
  | nil : DqAll K H [] []
  | cons {v : V} {vs : List V} {d : PyData} {ds : List PyData} : Dq K H v d → DqAll K H vs ds → DqAll K H (v :: vs) (d :: ds)
end
mutual
theorem dq_dp {K : PySem.W.Frag} {F : Hp} : ∀ (d : PyData) {v : V}, Dq K F v d → Dp K F v d
  | .none, _, h => by cases h; exact .non
  | .bool b, _, h => by cases h; exact .bl b
  | .int i, _, h => by cases h; exact .int i
  | .str x, _, h => by cases h; exact .str x
  | .list ds, _, h => by
    cases h with
    | lst hs ha => exact .lst (.inl (.inl hs)) (dqa_dpa ds ha)
  | .tuple ds, _, h => by
    cases h with
    | tup hs ha => exact .tup hs (dqa_dpa ds ha)
  | .dict _, _, h => by cases h
theorem dqa_dpa {K : PySem.W.Frag} {F : Hp} : ∀ (ds : List PyData) {vs : List V}, DqAll K F vs ds → DpAll K F vs ds
  | [], _, h => by cases h; exact .nil
  | d :: ds, _, h => by
    cases h with
    | cons h1 h2 => exact .cons (dq_dp d h1) (dqa_dpa ds h2)
end
theorem same_rd {H H' : Hp} {a : Addr} {u : HO} (e : Same H H') (h : Rd H a u) : Rd H' a u := by
  rcases h with h | ⟨o, h⟩
  · exact .inl (e _ _ h)
  · exact .inr ⟨o, e _ _ h⟩
theorem same_t {K : PySem.W.Frag} {H H' : Hp} {a : Addr} {xs : List V} (e : Same H H') (h : SqT K H a xs) : SqT K H' a xs := by
  rcases h with (h | ⟨o, h⟩) | h
  · exact .inl (.inl (e _ _ h))
  · exact .inl (.inr ⟨o, e _ _ h⟩)
  · exact .inr h
mutual
theorem dp_mono {K : PySem.W.Frag} {F G : Hp} (e : Same F G) : ∀ (d : PyData) {v : V}, Dq K F v d → Dq K G v d
  | .none, _, h => by cases h; exact .non
  | .bool b, _, h => by cases h; exact .bl b
  | .int i, _, h => by cases h; exact .int i
  | .str x, _, h => by cases h; exact .str x
  | .list ds, _, h => by
    cases h with
    | lst hs ha => exact .lst (e _ _ hs) (dpa_mono e ds ha)
  | .tuple ds, _, h => by
    cases h with
    | tup hs ha => exact .tup (same_t e hs) (dpa_mono e ds ha)
  | .dict _, _, h => by cases h
theorem dpa_mono {K : PySem.W.Frag} {F G : Hp} (e : Same F G) : ∀ (ds : List PyData) {vs : List V}, DqAll K F vs ds → DqAll K G vs ds
  | [], _, h => by cases h; exact .nil
  | d :: ds, _, h => by
    cases h with
    | cons h1 h2 => exact .cons (dp_mono e d h1) (dpa_mono e ds h2)
end
theorem DqAll.len {K : PySem.W.Frag} {F : Hp} : ∀ {vs : List V} {ds : List PyData}, DqAll K F vs ds → vs.length = ds.length
  | [], [], _ => rfl
  | [], _ :: _, h => by cases h
  | _ :: _, [], h => by cases h
  | v :: vs, d :: ds, h => by
    cases h with
    | cons h1 h2 => exact congrArg Nat.succ (DqAll.len h2)
theorem DqAll.get {K : PySem.W.Frag} {F : Hp} : ∀ {vs : List V} {ds : List PyData} {i : Nat} {d : PyData}, DqAll K F vs ds → ds[i]? = some d → ∃ v, vs[i]? = some v ∧ Dq K F v d
  | [], [], _, _, _, e => by simp at e
  | [], _ :: _, _, _, h, _ => by cases h
  | _ :: _, [], _, _, h, _ => by cases h
  | v :: vs, d :: ds, 0, _, h, e => by
    cases h with
    | cons h1 h2 =>
      simp at e; subst e
      exact ⟨v, rfl, h1⟩
  | v :: vs, d :: ds, i + 1, _, h, e => by
    cases h with
    | cons h1 h2 =>
      obtain ⟨u, e1, e2⟩ := DqAll.get (i := i) h2 (by simpa using e)
      exact ⟨u, by simpa using e1, e2⟩
theorem DqAll.getV {K : PySem.W.Frag} {F : Hp} : ∀ {vs : List V} {ds : List PyData} {i : Nat} {v : V}, DqAll K F vs ds → vs[i]? = some v → ∃ d, ds[i]? = some d ∧ Dq K F v d
  | [], _, _, _, _, e => by simp at e
  | _ :: _, [], _, _, h, _ => by cases h
  | v :: vs, d :: ds, 0, _, h, e => by
    cases h with
    | cons h1 h2 =>
      simp at e; subst e
      exact ⟨d, rfl, h1⟩
  | v :: vs, d :: ds, i + 1, _, h, e => by
    cases h with
    | cons h1 h2 =>
      obtain ⟨u, e1, e2⟩ := DqAll.getV (i := i) h2 (by simpa using e)
      exact ⟨u, by simpa using e1, e2⟩
theorem DqAll.append {K : PySem.W.Frag} {F : Hp} : ∀ {vs ws : List V} {ds es : List PyData}, DqAll K F vs ds → DqAll K F ws es → DqAll K F (vs ++ ws) (ds ++ es)
  | [], _, [], _, _, h => h
  | [], _, _ :: _, _, h, _ => by cases h
  | _ :: _, _, [], _, h, _ => by cases h
  | v :: vs, ws, d :: ds, es, h, q => by
    cases h with
    | cons h1 h2 => exact .cons h1 (DqAll.append h2 q)
theorem DqAll.set {K : PySem.W.Frag} {F : Hp} {v : V} {d : PyData} (hv : Dq K F v d) : ∀ {vs : List V} {ds : List PyData} (i : Nat), DqAll K F vs ds → DqAll K F (vs.set i v) (ds.set i d)
  | [], [], _, h => h
  | [], _ :: _, _, h => by cases h
  | _ :: _, [], _, h => by cases h
  | _ :: _, _ :: _, 0, h => by
    cases h with
    | cons h1 h2 => exact .cons hv h2
  | _ :: _, _ :: _, i + 1, h => by
    cases h with
    | cons h1 h2 => exact .cons h1 (DqAll.set hv i h2)
theorem DqAll.take {K : PySem.W.Frag} {F : Hp} : ∀ {vs : List V} {ds : List PyData} (n : Nat), DqAll K F vs ds → DqAll K F (vs.take n) (ds.take n)
  | [], [], n, h => by simpa using h
  | [], _ :: _, _, h => by cases h
  | _ :: _, [], _, h => by cases h
  | _ :: _, _ :: _, 0, h => .nil
  | _ :: _, _ :: _, n + 1, h => by
    cases h with
    | cons h1 h2 => exact .cons h1 (DqAll.take n h2)
theorem DqAll.drop {K : PySem.W.Frag} {F : Hp} : ∀ {vs : List V} {ds : List PyData} (n : Nat), DqAll K F vs ds → DqAll K F (vs.drop n) (ds.drop n)
  | [], [], n, h => by simpa using h
  | [], _ :: _, _, h => by cases h
  | _ :: _, [], _, h => by cases h
  | _ :: _, _ :: _, 0, h => h
  | _ :: _, _ :: _, n + 1, h => by
    cases h with
    | cons h1 h2 => exact DqAll.drop n h2
theorem dpa_ints {K : PySem.W.Frag} {F : Hp} : ∀ (ns : List Int), DqAll K F (ns.map V.int) (ns.map PyData.int)
  | [] => .nil
  | n :: ns => .cons (.int n) (dpa_ints ns)
theorem ints_dpa {K : PySem.W.Frag} {F : Hp} : ∀ (ns : List Int) {vs : List V}, DqAll K F vs (ns.map PyData.int) → vs = ns.map V.int
  | [], vs, h => by cases h; rfl
  | n :: ns, vs, h => by
    cases h with
    | cons h1 h2 =>
      cases h1
      rw [ints_dpa ns h2]; rfl
theorem strs_dpa {K : PySem.W.Frag} {F : Hp} : ∀ (ns : List Str) {vs : List V}, DqAll K F vs (ns.map PyData.str) → vs = ns.map V.str
  | [], vs, h => by cases h; rfl
  | n :: ns, vs, h => by
    cases h with
    | cons h1 h2 =>
      cases h1
      rw [strs_dpa ns h2]; rfl

/-! ### an opaque object -/
def refD (a : Addr) : PyData := .dict [(.int (a : Nat), .none)]
/-- the script as it was handed in -/
def scrD (ns : List Int) : PyData := .dict [(.none, .list (ns.map .int))]
def Rp (K : PySem.W.Frag) (F : Hp) (v : V) (d : PyData) : Prop := Dq K F v d ∨ (∃ a, v = .ref a ∧ d = refD a) ∨ ∃ a ns, v = .ref a ∧ d = scrD ns ∧ SqL K F a (ns.map V.int)
theorem Rp.mono {K : PySem.W.Frag} {F G : Hp} {v : V} {d : PyData} (e : Same F G) (h : Rp K F v d) : Rp K G v d := h.imp (dp_mono e d) fun h => h.imp id fun ⟨a, ns, h1, h2, h3⟩ => ⟨a, ns, h1, h2, e.seq h3⟩
/-- what is read for a moment: data, or an own list -/
def Bp (K : PySem.W.Frag) (G H : Hp) (v : V) (d : PyData) : Prop := Rp K G v d ∨ ∃ p vs ds, v = .ref p ∧ d = .list ds ∧ H p = some (.lst vs) ∧ DqAll K G vs ds

/-! ### the heap grows, a part of it stands -/
structure Grow (H F H' G : Hp) : Prop where
  h : Same H H'
  f : Same F G
  sub : Same G H'
  no : ∀ a, F a = none → H a ≠ none → G a = none
theorem Grow.refl {H F : Hp} (e : Same F H) : Grow H F H F := ⟨Same.refl H, Same.refl F, e, fun _ h _ => h⟩
theorem Grow.trans {H F H1 G1 H2 G2 : Hp} (a : Grow H F H1 G1) (b : Grow H1 G1 H2 G2) : Grow H F H2 G2 :=
  ⟨a.h.trans b.h, a.f.trans b.f, b.sub, fun x h1 h2 => b.no x (a.no x h1 h2) fun z => h2 (a.h.free z)⟩
theorem Same.upd_new {H H' : Hp} {p : Addr} {o : HO} (e : Same H H') (hp : H' p = none) : Same H (upd H' p o) := fun b u q => by
  rw [upd_ne (ne_of_none (e b u q) hp)]; exact e b u q
/-- a new object, laid beside: not in the standing part | in it -/
theorem Grow.beside {H F H' G : Hp} {p : Addr} {o : HO} (g : Grow H F H' G) (hp : H' p = none) : Grow H F (upd H' p o) G :=
  ⟨Same.upd_new g.h hp, g.f, Same.upd_new g.sub hp, g.no⟩
theorem Grow.within {H F H' G : Hp} {p : Addr} {o : HO} (g : Grow H F H' G) (hp : H p = none) (hG : G p = none) (ho : H' p = some o) : Grow H F H' (upd G p o) :=
  ⟨g.h, Same.upd_new g.f hG, fun b u q => by
    by_cases hb : b = p
    · subst hb; rw [upd_same] at q; cases q; exact ho
    · rw [upd_ne hb] at q; exact g.sub b u q, fun a h1 h2 => by
    by_cases hb : a = p
    · subst hb; exact absurd hp h2
    · rw [upd_ne hb]; exact g.no a h1 h2⟩
theorem Grow.new {H F H' G : Hp} {p : Addr} {o : HO} (g : Grow H F H' G) (hp : H' p = none) : Grow H F (upd H' p o) (upd G p o) :=
  (g.beside (o := o) hp).within (g.h.free hp) (g.sub.free hp) upd_same
theorem Bp.mono {K : PySem.W.Frag} {F G H H' : Hp} {v : V} {d : PyData} (e : Same F G) (e' : Same H H') (h : Bp K F H v d) : Bp K G H' v d :=
  h.imp (Rp.mono e) fun ⟨p, vs, ds, e1, e2, e3, e4⟩ => ⟨p, vs, ds, e1, e2, e' _ _ e3, dpa_mono e ds e4⟩
/-- what is read stands in the whole heap -/
theorem Bp.all {K : PySem.W.Frag} {G H : Hp} {v : V} {d : PyData} (e : Same G H) (h : Bp K G H v d) : Rp K H v d := by
  rcases h with h | ⟨p, vs, ds, rfl, rfl, h, q⟩
  · exact h.mono e
  · exact .inl (.lst h (dpa_mono e ds q))
theorem Rp.dp {K : PySem.W.Frag} {G : Hp} {v : V} {d : PyData} (h : Rp K G v d) (n : ∀ l, d ≠ .dict l := by intro l z; cases z) : Dq K G v d := by
  rcases h with h | ⟨a, _, rfl⟩ | ⟨a, ns, _, rfl, _⟩
  · exact h
  · exact absurd rfl (n _)
  · exact absurd rfl (n _)
theorem Bp.int {K : PySem.W.Frag} {G H : Hp} {v : V} {i : Int} (h : Bp K G H v (.int i)) : v = .int i := by
  rcases h with (h | ⟨a, _, z⟩ | ⟨a, ns, _, z, _⟩) | ⟨p, vs, ds, _, z, _⟩
  · cases h; rfl
  · cases z
  · cases z
  · cases z
theorem Bp.str {K : PySem.W.Frag} {G H : Hp} {v : V} {i : Str} (h : Bp K G H v (.str i)) : v = .str i := by
  rcases h with (h | ⟨a, _, z⟩ | ⟨a, ns, _, z, _⟩) | ⟨p, vs, ds, _, z, _⟩
  · cases h; rfl
  · cases z
  · cases z
  · cases z
theorem Bp.bool {K : PySem.W.Frag} {G H : Hp} {v : V} {i : Bool} (h : Bp K G H v (.bool i)) : v = .bl i := by
  rcases h with (h | ⟨a, _, z⟩ | ⟨a, ns, _, z, _⟩) | ⟨p, vs, ds, _, z, _⟩
  · cases h; rfl
  · cases z
  · cases z
  · cases z
theorem Bp.non {K : PySem.W.Frag} {G H : Hp} {v : V} (h : Bp K G H v .none) : v = .non := by
  rcases h with (h | ⟨a, _, z⟩ | ⟨a, ns, _, z, _⟩) | ⟨p, vs, ds, _, z, _⟩
  · cases h; rfl
  · cases z
  · cases z
  · cases z
/-- a list that is read: its items are data that stand -/
theorem Bp.list {K : PySem.W.Frag} {G H : Hp} {v : V} {ds : List PyData} (e : Same G H) (h : Bp K G H v (.list ds)) : ∃ p vs, v = .ref p ∧ H p = some (.lst vs) ∧ DqAll K G vs ds := by
  rcases h with (h | ⟨a, _, z⟩ | ⟨a, ns, _, z, _⟩) | ⟨p, vs, ds, rfl, z, h, q⟩
  · cases h with
    | lst hs ha => exact ⟨_, _, rfl, e _ _ hs, ha⟩
  · cases z
  · cases z
  · cases z; exact ⟨p, vs, rfl, h, q⟩
theorem Bp.tuple {K : PySem.W.Frag} {G H : Hp} {v : V} {ds : List PyData} (e : Same G H) (h : Bp K G H v (.tuple ds)) : ∃ p vs, v = .ref p ∧ SqT K H p vs ∧ DqAll K G vs ds := by
  rcases h with (h | ⟨a, _, z⟩ | ⟨a, ns, _, z, _⟩) | ⟨p, vs, ds, rfl, z, h, q⟩
  · cases h with
    | tup hs ha => exact ⟨_, _, rfl, same_t e hs, ha⟩
  · cases z
  · cases z
  · cases z

theorem Bp.scr {K : PySem.W.Frag} {G H : Hp} {v : V} {ds : List PyData} (e : Same G H) (h : Bp K G H v (.dict [(.none, .list ds)])) : ∃ p vs, v = .ref p ∧ SqL K H p vs ∧ DqAll K G vs ds := by
  rcases h with (h | ⟨a, _, z⟩ | ⟨a, ns, rfl, z, h⟩) | ⟨p, vs, ds, rfl, z, h, q⟩
  · cases h
  · cases z
  · cases z; exact ⟨a, _, rfl, e.seq h, dpa_ints ns⟩
  · cases z

/-! ### objects of the program -/
structure Person where
  name : Str
  skills : List Str
  limit : Int
  rests : List (Int × Int)
structure Shift where
  name : Str
  b : Int
  e : Int
  needs : List (Str × Int)
structure BookSt where
  people : List Person
  shifts : List Shift
def stD (p : Int × Int) : PyData := .tuple [.int p.1, .int p.2]
def bkFs (dS dL dR dT dN : Addr) : List (Str × V) := [("skills", .ref dS), ("limits", .ref dL), ("rests", .ref dR), ("stretches", .ref dT), ("needs", .ref dN)]
abbrev PE3 := List (Person × Addr × Addr)
abbrev SE3 := List (Shift × Addr × Addr)
def kvS (pe : PE3) : List (Key × V) := pe.map fun x => (Sum.inr x.1.name, V.ref x.2.1)
def kvL (pe : PE3) : List (Key × V) := pe.map fun x => (Sum.inr x.1.name, V.int x.1.limit)
def kvR (pe : PE3) : List (Key × V) := pe.map fun x => (Sum.inr x.1.name, V.ref x.2.2)
def kvT (sh : SE3) : List (Key × V) := sh.map fun x => (Sum.inr x.1.name, V.ref x.2.1)
def kvN (sh : SE3) : List (Key × V) := sh.map fun x => (Sum.inr x.1.name, V.ref x.2.2)
def kvC (l : List (Str × Int)) : List (Key × V) := l.map fun n => (Sum.inr n.1, V.int n.2)
/-- a book at a, its parts in the region R; the stretches are data in F -/
structure BookIn (K : PySem.W.Frag) (F R : Hp) (a : Addr) (β : BookSt) (dx dS dL dR dT dN : Addr) (pe : PE3) (sh : SE3) : Prop where
  pn : pe.map (·.1) = β.people
  sn : sh.map (·.1) = β.shifts
  ob : R a = some (.ins (He.ga K "Book") dx (bkFs dS dL dR dT dN))
  ow : R dx = some (.own a)
  cS : R dS = some (.dK (kvS pe))
  cL : R dL = some (.dK (kvL pe))
  cR : R dR = some (.dK (kvR pe))
  cT : R dT = some (.dK (kvT sh))
  cN : R dN = some (.dK (kvN sh))
  nd : [dS, dL, dR, dT, dN].Nodup
  ps : ∀ x ∈ pe, R x.2.1 = some (.lst (x.1.skills.map V.str))
  pr : ∀ x ∈ pe, ∃ vs, R x.2.2 = some (.lst vs) ∧ DqAll K F vs (x.1.rests.map stD)
  st : ∀ x ∈ sh, Dq K F (.ref x.2.1) (stD (x.1.b, x.1.e))
  sc : ∀ x ∈ sh, R x.2.2 = some (.dK (kvC x.1.needs))
  rn : (pe.map (·.2.2)).Nodup
  rs : ∀ x ∈ pe, ∀ y ∈ pe, x.2.1 ≠ y.2.2
  nn : ∀ x ∈ sh, x.2.2 ∉ [dS, dL, dR, dT, dN]
  un : (β.people.map (·.name)).Nodup
  us : (β.shifts.map (·.name)).Nodup
  sz : β.people.length ≤ 1000 ∧ β.shifts.length ≤ 1000 ∧ (∀ p ∈ β.people, p.rests.length ≤ 1000 ∧ p.skills.length ≤ 1000) ∧ ∀ s ∈ β.shifts, s.needs.length ≤ 1000
def BookAt (K : PySem.W.Frag) (F R : Hp) (a : Addr) (β : BookSt) : Prop := ∃ dx dS dL dR dT dN pe sh, BookIn K F R a β dx dS dL dR dT dN pe sh
theorem BookIn.mono {K : PySem.W.Frag} {F G R R' : Hp} {a : Addr} {β : BookSt} {dx dS dL dR dT dN : Addr} {pe : PE3} {sh : SE3} (h : BookIn K F R a β dx dS dL dR dT dN pe sh) (e : Same F G) (e' : Same R R') : BookIn K G R' a β dx dS dL dR dT dN pe sh where
  pn := h.pn
  sn := h.sn
  ob := e' _ _ h.ob
  ow := e' _ _ h.ow
  cS := e' _ _ h.cS
  cL := e' _ _ h.cL
  cR := e' _ _ h.cR
  cT := e' _ _ h.cT
  cN := e' _ _ h.cN
  nd := h.nd
  ps := fun x hx => e' _ _ (h.ps x hx)
  pr := fun x hx => let ⟨vs, h1, h2⟩ := h.pr x hx; ⟨vs, e' _ _ h1, dpa_mono e _ h2⟩
  st := fun x hx => dp_mono e _ (h.st x hx)
  sc := fun x hx => e' _ _ (h.sc x hx)
  rn := h.rn
  rs := h.rs
  nn := h.nn
  un := h.un
  us := h.us
  sz := h.sz
theorem BookAt.mono {K : PySem.W.Frag} {F G R R' : Hp} {a : Addr} {β : BookSt} (h : BookAt K F R a β) (e : Same F G) (e' : Same R R') : BookAt K G R' a β := by
  obtain ⟨dx, dS, dL, dR, dT, dN, pe, sh, h⟩ := h
  exact ⟨dx, dS, dL, dR, dT, dN, pe, sh, h.mono e e'⟩
/-- a deal: the limits by names; places, days, able, who -/
structure DealSt where
  limits : List (Str × Int)
  ls : List (List PyData)
def nmD : List Str := ["places", "days", "able", "who"]
def kvD (l : List (Str × Int)) : List (Key × V) := l.map fun n => (Sum.inr n.1, V.int n.2)
def dlFs (dL : Addr) (as : List Addr) : List (Str × V) := ("limits", .ref dL) :: nmD.zip (as.map V.ref)
structure DealIn (K : PySem.W.Frag) (F R : Hp) (a : Addr) (δ : DealSt) (dx dL : Addr) (as : List Addr) : Prop where
  ob : R a = some (.ins (He.ga K "Deal") dx (dlFs dL as))
  ow : R dx = some (.own a)
  cL : R dL = some (.dK (kvD δ.limits))
  la : as.length = δ.ls.length
  ll : as.length ≤ 4
  ls : ∀ (j : Nat) (p : Addr) (ds : List PyData), as[j]? = some p → δ.ls[j]? = some ds → ∃ vs, R p = some (.lst vs) ∧ DqAll K F vs ds
  nd : as.Nodup
def DealAt (K : PySem.W.Frag) (F R : Hp) (a : Addr) (δ : DealSt) : Prop := ∃ dx dL as, DealIn K F R a δ dx dL as
theorem DealAt.mono {K : PySem.W.Frag} {F G R R' : Hp} {a : Addr} {δ : DealSt} (h : DealAt K F R a δ) (e : Same F G) (e' : Same R R') : DealAt K G R' a δ := by
  obtain ⟨dx, dL, as, h⟩ := h
  exact ⟨dx, dL, as, e' _ _ h.ob, e' _ _ h.ow, e' _ _ h.cL, h.la, h.ll, fun j p ds h1 h2 => let ⟨vs, q1, q2⟩ := h.ls j p ds h1 h2; ⟨vs, e' _ _ q1, dpa_mono e _ q2⟩, h.nd⟩
/-- a list whose items are data, or lists of its own -/
inductive Cell where
  | dat (d : PyData) | lst (ds : List PyData)
inductive CellOk (K : PySem.W.Frag) (F R : Hp) (a : Addr) : V → Cell → Prop
  | dat {v : V} {d : PyData} : Dq K F v d → CellOk K F R a v (.dat d)
  | lst {p : Addr} {vs : List V} {ds : List PyData} : p ≠ a → R p = some (.lst vs) → DqAll K F vs ds → CellOk K F R a (.ref p) (.lst ds)
structure RowIn (K : PySem.W.Frag) (F R : Hp) (a : Addr) (cs : List Cell) (vs : List V) : Prop where
  ob : R a = some (.lst vs)
  len : vs.length = cs.length
  el : ∀ (i : Nat) (v : V) (c : Cell), vs[i]? = some v → cs[i]? = some c → CellOk K F R a v c
  dis : ∀ (i j : Nat) (p : Addr) (ds es : List PyData), i ≠ j → vs[i]? = some (.ref p) → cs[i]? = some (.lst ds) → vs[j]? = some (.ref p) → cs[j]? = some (.lst es) → False
def RowAt (K : PySem.W.Frag) (F R : Hp) (a : Addr) (cs : List Cell) : Prop := ∃ vs, RowIn K F R a cs vs
theorem CellOk.mono {K : PySem.W.Frag} {F G R R' : Hp} {a : Addr} {v : V} {c : Cell} (h : CellOk K F R a v c) (e : Same F G) (e' : Same R R') : CellOk K G R' a v c := by
  cases h with
  | dat h => exact .dat (dp_mono e _ h)
  | lst h1 h2 h3 => exact .lst h1 (e' _ _ h2) (dpa_mono e _ h3)
theorem RowAt.mono {K : PySem.W.Frag} {F G R R' : Hp} {a : Addr} {cs : List Cell} (h : RowAt K F R a cs) (e : Same F G) (e' : Same R R') : RowAt K G R' a cs := by
  obtain ⟨vs, h⟩ := h
  exact ⟨vs, e' _ _ h.ob, h.len, fun i v c h1 h2 => (h.el i v c h1 h2).mono e e', h.dis⟩
/-- a dict by whole numbers -/
def kvI (l : List (Int × V)) : List (Key × V) := l.map fun n => (Sum.inl n.1, n.2)
inductive KvAll (K : PySem.W.Frag) (F : Hp) : List (Int × V) → List (Int × PyData) → Prop
  | nil : KvAll K F [] []
  | cons {k : Int} {v : V} {d : PyData} {kv : List (Int × V)} {l : List (Int × PyData)} : Dq K F v d → KvAll K F kv l → KvAll K F ((k, v) :: kv) ((k, d) :: l)
theorem KvAll.mono {K : PySem.W.Frag} {F G : Hp} (e : Same F G) : ∀ {kv : List (Int × V)} {l : List (Int × PyData)}, KvAll K F kv l → KvAll K G kv l
  | _, _, .nil => .nil
  | _, _, .cons h t => .cons (dp_mono e _ h) (KvAll.mono e t)
def DctAt (K : PySem.W.Frag) (F R : Hp) (a : Addr) (l : List (Int × PyData)) : Prop := ∃ kv : List (Int × V), R a = some (.dK (kvI kv)) ∧ KvAll K F kv l
theorem DctAt.mono {K : PySem.W.Frag} {F G R R' : Hp} {a : Addr} {l : List (Int × PyData)} (h : DctAt K F R a l) (e : Same F G) (e' : Same R R') : DctAt K G R' a l := by
  obtain ⟨kv, h1, h2⟩ := h
  exact ⟨kv, e' _ _ h1, h2.mono e⟩
/-- a new tuple of a text and a list of its own -/
def PairAt (K : PySem.W.Frag) (F R : Hp) (a : Addr) (x : Str) (ds : List PyData) : Prop := ∃ p vs, R a = some (.tup [.str x, .ref p]) ∧ R p = some (.lst vs) ∧ DqAll K F vs ds
theorem PairAt.mono {K : PySem.W.Frag} {F G R R' : Hp} {a : Addr} {x : Str} {ds : List PyData} (h : PairAt K F R a x ds) (e : Same F G) (e' : Same R R') : PairAt K G R' a x ds := by
  obtain ⟨p, vs, h1, h2, h3⟩ := h
  exact ⟨p, vs, e' _ _ h1, e' _ _ h2, dpa_mono e _ h3⟩
inductive ObjSt where
  | book (β : BookSt) | deal (δ : DealSt) | row (cs : List Cell) | dct (l : List (Int × PyData)) | pair (x : Str) (ds : List PyData) | raw (C : Str)
def ObjAt (K : PySem.W.Frag) (F R : Hp) (a : Addr) : ObjSt → Prop
  | .book β => BookAt K F R a β
  | .deal δ => DealAt K F R a δ
  | .row cs => RowAt K F R a cs
  | .dct l => DctAt K F R a l
  | .pair x ds => PairAt K F R a x ds
  | .raw C => ∃ dx, R a = some (.ins (He.ga K C) dx []) ∧ R dx = some (.own a)
theorem ObjAt.mono {K : PySem.W.Frag} {F G R R' : Hp} {a : Addr} {o : ObjSt} (h : ObjAt K F R a o) (e : Same F G) (e' : Same R R') : ObjAt K G R' a o := by
  cases o with
  | book β => exact BookAt.mono h e e'
  | deal δ => exact DealAt.mono h e e'
  | row cs => exact RowAt.mono h e e'
  | dct l => exact DctAt.mono h e e'
  | pair x ds => exact PairAt.mono h e e'
  | raw C =>
    obtain ⟨dx, h1, h2⟩ := h
    exact ⟨dx, e' _ _ h1, e' _ _ h2⟩
/-- a region for each slot -/
abbrev Rg := Nat → Hp
/-- two parts that have no address in common -/
def Apart (R F : Hp) : Prop := ∀ a, R a ≠ none → F a = none
theorem Apart.sym {R F : Hp} (h : Apart R F) : Apart F R := fun a ha => by
  cases e : R a with
  | none => rfl
  | some o => exact absurd (h a (by rw [e]; intro z; cases z)) ha
/-! ### environments -/
/-- what stands while a function runs: an object's region that is read, the data that it names, what the object is -/
structure Bs where
  h : Hp
  f : Hp
  bk : Addr → Option ObjSt
  o : Option Addr := none
inductive Sl where
  | no | val (d : PyData) | own (ds : List PyData) | obj (o : ObjSt)
abbrev Rho := List Sl
abbrev SE := Rho → Option PyData
abbrev STe := Rho → Option Bool
abbrev SA := Rho → Option (List PyData)
inductive Out where
  | no | nx (r : Rho) | rt (d : PyData) (r : Rho) | ex (c : Str) (r : Rho) | ro (i : Nat) (r : Rho)
abbrev SS := Rho → Out
structure EnvOk (K : PySem.W.Frag) (B : Bs) (R : Rg) (F H : Hp) (σ : L2.St) (ρ : Rho) : Prop where
  bs : Same B.f F
  bh : Same B.h H
  bF : Apart B.h F
  bo : ∀ a o, B.bk a = some o → ObjAt K B.f B.h a o
  ex : Same F H
  rh : ∀ i, Same (R i) H
  rF : ∀ i, Apart (R i) F
  rB : ∀ i, Apart (R i) B.h
  rr : ∀ i j, i ≠ j → Apart (R i) (R j)
  len : ρ.length = σ.length
  val : ∀ (i : Nat) (d : PyData), ρ[i]? = some (.val d) → ∃ v, σ[i]? = some (some v) ∧ Rp K F v d
  own : ∀ (i : Nat) (ds : List PyData), ρ[i]? = some (.own ds) → ∃ p vs, σ[i]? = some (some (.ref p)) ∧ H p = some (.lst vs) ∧ DqAll K F vs ds ∧ F p = none ∧ (∀ i, R i p = none) ∧ B.h p = none
  dis : ∀ (i j : Nat) (ds es : List PyData) (p : Addr), i ≠ j → ρ[i]? = some (.own ds) → ρ[j]? = some (.own es) → σ[i]? = some (some (.ref p)) → σ[j]? = some (some (.ref p)) → False
  obj : ∀ (i : Nat) (o : ObjSt), ρ[i]? = some (.obj o) → ∃ a, σ[i]? = some (some (.ref a)) ∧ ObjAt K F (R i) a o
  oa : ∀ a0, B.o = some a0 → ∀ (o : ObjSt) (a : Addr), ρ[0]? = some (.obj o) → σ[0]? = some (some (.ref a)) → a = a0
theorem Grow.apart {H F H' G R : Hp} (g : Grow H F H' G) (e : Same R H) (h : Apart R F) : Apart R G := fun a ha => g.no a (h a ha) fun z => ha (e.free z)
theorem EnvOk.grow {K : PySem.W.Frag} {B : Bs} {R : Rg} {F H G H' : Hp} {σ : L2.St} {ρ : Rho} (e : EnvOk K B R F H σ ρ) (g : Grow H F H' G) : EnvOk K B R G H' σ ρ where
  bs := e.bs.trans g.f
  bh := e.bh.trans g.h
  bF := g.apart e.bh e.bF
  bo := e.bo
  ex := g.sub
  rh := fun i => (e.rh i).trans g.h
  rF := fun i => g.apart (e.rh i) (e.rF i)
  rB := e.rB
  rr := e.rr
  len := e.len
  val := fun i d h => let ⟨v, h1, h2⟩ := e.val i d h; ⟨v, h1, h2.mono g.f⟩
  own := fun i ds h => let ⟨p, vs, h1, h2, h3, h4, h5⟩ := e.own i ds h; ⟨p, vs, h1, g.h _ _ h2, dpa_mono g.f ds h3, g.no p h4 (by rw [h2]; intro z; cases z), h5⟩
  dis := e.dis
  obj := fun i o h => let ⟨a, h1, h2⟩ := e.obj i o h; ⟨a, h1, h2.mono g.f (Same.refl (R i))⟩
  oa := e.oa

/-! ### what an expression's reading does -/
def EOk (K : PySem.W.Frag) (B : Bs) (t : TE) (f : SE) : Prop := ∀ (R : Rg) (F H : Hp) (σ : L2.St) (ρ : Rho) (d : PyData), EnvOk K B R F H σ ρ → f ρ = some d → ∀ Q : VK, (∀ v H' G, Grow H F H' G → Rp K G v d → Q v H') → t σ H Q
def BOk (K : PySem.W.Frag) (B : Bs) (t : TE) (f : SE) : Prop := ∀ (R : Rg) (F H : Hp) (σ : L2.St) (ρ : Rho) (d : PyData), EnvOk K B R F H σ ρ → f ρ = some d → ∀ Q : VK, (∀ v H' G, Grow H F H' G → Bp K G H' v d → Q v H') → t σ H Q
/-- a new list -/
def LOk (K : PySem.W.Frag) (B : Bs) (t : TE) (f : SA) : Prop := ∀ (R : Rg) (F H : Hp) (σ : L2.St) (ρ : Rho) (ds : List PyData), EnvOk K B R F H σ ρ → f ρ = some ds → ∀ Q : VK,
  (∀ p vs H' G, Grow H F H' G → H p = none → G p = none → H' p = some (.lst vs) → DqAll K G vs ds → Q (.ref p) H') → t σ H Q
def TOk (K : PySem.W.Frag) (B : Bs) (t : TT) (f : STe) : Prop := ∀ (R : Rg) (F H : Hp) (σ : L2.St) (ρ : Rho) (b : Bool), EnvOk K B R F H σ ρ → f ρ = some b → ∀ Q : Bool → Hp → Prop, (∀ H' G, Grow H F H' G → Q b H') → t σ H Q
/-- arguments that stand | that are read for a moment -/
inductive RpAll (K : PySem.W.Frag) (F : Hp) : List V → List PyData → Prop
  | nil : RpAll K F [] []
  | cons {v : V} {vs : List V} {d : PyData} {ds : List PyData} : Rp K F v d → RpAll K F vs ds → RpAll K F (v :: vs) (d :: ds)
inductive BpAll (K : PySem.W.Frag) (G H : Hp) : List V → List PyData → Prop
  | nil : BpAll K G H [] []
  | cons {v : V} {vs : List V} {d : PyData} {ds : List PyData} : Bp K G H v d → BpAll K G H vs ds → BpAll K G H (v :: vs) (d :: ds)
def AOk (K : PySem.W.Frag) (B : Bs) (t : TA) (f : SA) : Prop := ∀ (R : Rg) (F H : Hp) (σ : L2.St) (ρ : Rho) (ds : List PyData), EnvOk K B R F H σ ρ → f ρ = some ds → ∀ Q : List V → Hp → Prop, (∀ vs H' G, Grow H F H' G → RpAll K G vs ds → Q vs H') → t σ H Q
def ABOk (K : PySem.W.Frag) (B : Bs) (t : TA) (f : SA) : Prop := ∀ (R : Rg) (F H : Hp) (σ : L2.St) (ρ : Rho) (ds : List PyData), EnvOk K B R F H σ ρ → f ρ = some ds → ∀ Q : List V → Hp → Prop, (∀ vs H' G, Grow H F H' G → BpAll K G H' vs ds → Q vs H') → t σ H Q

structure SemE (X : Cx) (K : PySem.W.Frag) (B : Bs) (e : Expr) (t : TE) (f : SE) : Prop where
  pe : PE X e t
  ok : EOk K B t f
structure SemB (X : Cx) (K : PySem.W.Frag) (B : Bs) (e : Expr) (t : TE) (f : SE) : Prop where
  pe : PE X e t
  ok : BOk K B t f
structure SemL (X : Cx) (K : PySem.W.Frag) (B : Bs) (e : Expr) (t : TE) (f : SA) : Prop where
  pe : PE X e t
  ok : LOk K B t f
structure SemT (X : Cx) (K : PySem.W.Frag) (B : Bs) (e : Expr) (t : TT) (f : STe) : Prop where
  pt : PT X e t
  ok : TOk K B t f
structure SemW (X : Cx) (K : PySem.W.Frag) (B : Bs) (e : Expr) (t : TT) (f : STe) : Prop where
  pw : PW X e t
  ok : TOk K B t f
structure SemA (X : Cx) (K : PySem.W.Frag) (B : Bs) (es : List Expr) (t : TA) (f : SA) : Prop where
  pa : PA X es t
  ok : AOk K B t f
structure SemAB (X : Cx) (K : PySem.W.Frag) (B : Bs) (es : List Expr) (t : TA) (f : SA) : Prop where
  pa : PA X es t
  ok : ABOk K B t f

/-! ### the functions that the terms make -/
def eVar (i : Nat) : SE := fun ρ => match ρ[i]? with
  | some (.val d) => some d
  | _ => none
def eVarB (i : Nat) : SE := fun ρ => match ρ[i]? with
  | some (.val d) => some d
  | some (.own ds) => some (.list ds)
  | _ => none
def eC (d : PyData) : SE := fun _ => some d
def eOp (g : PyData → PyData → Option PyData) (f1 f2 : SE) : SE := fun ρ => (f1 ρ).bind fun x => (f2 ρ).bind fun y => g x y
def eUn (g : PyData → Option PyData) (f1 : SE) : SE := fun ρ => (f1 ρ).bind g
def eNil : SA := fun _ => some []
def eCons (f : SE) (g : SA) : SA := fun ρ => (f ρ).bind fun d => (g ρ).bind fun ds => some (d :: ds)
def eTup (g : SA) : SE := fun ρ => (g ρ).map .tuple
def eList (g : SA) : SE := fun ρ => (g ρ).map .list
def eCall (F : List PyData → Option PyData) (g : SA) : SE := fun ρ => (g ρ).bind F
/-- a value without parts -/
def scalD : PyData → Bool
  | .none => true
  | .bool _ => true
  | .int _ => true
  | .str _ => true
  | _ => false
def onlyS (o : Option PyData) : Option PyData := o.bind fun d => if scalD d then some d else none
theorem rp_scal {K : PySem.W.Frag} {G G' : Hp} {v : V} {d : PyData} (h : Rp K G v d) (s : scalD d = true) : Rp K G' v d := by
  rcases h with h | ⟨a, rfl, rfl⟩ | ⟨a, ns, _, rfl, _⟩
  · cases h with
    | non => exact .inl .non
    | bl b => exact .inl (.bl b)
    | int i => exact .inl (.int i)
    | str x => exact .inl (.str x)
    | lst _ _ => cases s
    | tup _ _ => cases s
  · cases s
  · cases s

section
variable {X : Cx} {K : PySem.W.Frag} {B : Bs} {e e1 e2 : Expr} {es : List Expr} {t t1 t2 : TE} {ta : TA} {f f1 f2 : SE} {g : SA} {pos : Pos}
theorem EOk.b (h : EOk K B t f) : BOk K B t f := fun R F H σ ρ d E q Q k => h R F H σ ρ d E q Q fun v H' G g r => k v H' G g (.inl r)
theorem SemE.b (h : SemE X K B e t f) : SemB X K B e t f := ⟨h.pe, h.ok.b⟩
theorem LOk.toE {f : SA} (h : LOk K B t f) : EOk K B t (eList f) := fun R F H σ ρ d E q Q k => by
  cases hf : f ρ with
  | none => simp [eList, hf] at q
  | some ds =>
    simp [eList, hf] at q
    subst q
    refine h R F H σ ρ ds E hf Q fun p vs H' G g h1 h2 h3 h4 => k _ H' _ (g.within h1 h2 h3) (.inl (.lst upd_same (dpa_mono (Same.upd_new (Same.refl G) h2) ds h4)))
theorem SemL.toE {f : SA} (h : SemL X K B e t f) : SemE X K B e t (eList f) := ⟨h.pe, h.ok.toE⟩
theorem var_ok (i : Nat) : EOk K B (tVar i) (eVar i) := fun R F H σ ρ d E q Q k => by
  unfold eVar at q
  split at q
  · rename_i d' h
    cases q
    obtain ⟨v, h1, h2⟩ := E.val i _ h
    exact ⟨v, h1, k v H F (Grow.refl E.ex) h2⟩
  · cases q
theorem varB_ok (i : Nat) : BOk K B (tVar i) (eVarB i) := fun R F H σ ρ d E q Q k => by
  unfold eVarB at q
  split at q
  · rename_i d' h
    cases q
    obtain ⟨v, h1, h2⟩ := E.val i _ h
    exact ⟨v, h1, k v H F (Grow.refl E.ex) (.inl h2)⟩
  · rename_i ds h
    cases q
    obtain ⟨p, vs, h1, h2, h3, h4, _⟩ := E.own i _ h
    exact ⟨.ref p, h1, k _ H F (Grow.refl E.ex) (.inr ⟨p, vs, ds, rfl, rfl, h2, h3⟩)⟩
  · cases q
theorem c_ok {v : V} {d : PyData} (h : ∀ F, Rp K F v d) : EOk K B (tC v) (eC d) := fun R F H σ ρ d' E q Q k => by
  cases q
  exact k v H F (Grow.refl E.ex) (h F)
theorem nil_ok : AOk K B tNil eNil := fun R F H σ ρ d E q Q k => by
  cases q
  exact k [] H F (Grow.refl E.ex) .nil
theorem nilB_ok : ABOk K B tNil eNil := fun R F H σ ρ d E q Q k => by
  cases q
  exact k [] H F (Grow.refl E.ex) .nil
theorem cons_ok (h1 : EOk K B t f) (h2 : AOk K B ta g) : AOk K B (tCons t ta) (eCons f g) := fun R F H σ ρ ds E q Q k => by
  cases hf : f ρ with
  | none => simp [eCons, hf] at q
  | some d =>
    cases hg : g ρ with
    | none => simp [eCons, hf, hg] at q
    | some es =>
      simp [eCons, hf, hg] at q
      subst q
      exact h1 R F H σ ρ d E hf _ fun v H1 G1 g1 r1 => h2 R G1 H1 σ ρ es (E.grow g1) hg _ fun vs H2 G2 g2 r2 => k _ H2 G2 (g1.trans g2) (.cons (r1.mono g2.f) r2)
theorem consB_ok (h1 : BOk K B t f) (h2 : ABOk K B ta g) : ABOk K B (tCons t ta) (eCons f g) := fun R F H σ ρ ds E q Q k => by
  cases hf : f ρ with
  | none => simp [eCons, hf] at q
  | some d =>
    cases hg : g ρ with
    | none => simp [eCons, hf, hg] at q
    | some es =>
      simp [eCons, hf, hg] at q
      subst q
      exact h1 R F H σ ρ d E hf _ fun v H1 G1 g1 r1 => h2 R G1 H1 σ ρ es (E.grow g1) hg _ fun vs H2 G2 g2 r2 => k _ H2 G2 (g1.trans g2) (.cons (r1.mono g2.f g2.h) r2)
/-- no opaque object among them -/
def dataD : PyData → Bool
  | .dict _ => false
  | _ => true
theorem RpAll.dp {K : PySem.W.Frag} {F : Hp} : ∀ {vs : List V} {ds : List PyData}, RpAll K F vs ds → ds.all dataD = true → DqAll K F vs ds
  | [], [], _, _ => .nil
  | [], _ :: _, h, _ => by cases h
  | _ :: _, [], h, _ => by cases h
  | v :: vs, d :: ds, h, a => by
    cases h with
    | cons h1 h2 =>
      rw [List.all_cons, Bool.and_eq_true] at a
      exact .cons (h1.dp (by rintro l rfl; cases a.1)) (RpAll.dp h2 a.2)
def eTupD (g : SA) : SE := fun ρ => (g ρ).bind fun ds => if ds.all dataD = true ∧ ds.length ≤ 1000 then some (.tuple ds) else none
def eLstD (g : SA) : SA := fun ρ => (g ρ).bind fun ds => if ds.all dataD = true ∧ ds.length ≤ 1000 then some ds else none
theorem RpAll.len {K : PySem.W.Frag} {F : Hp} : ∀ {vs : List V} {ds : List PyData}, RpAll K F vs ds → vs.length = ds.length
  | [], [], _ => rfl
  | [], _ :: _, h => by cases h
  | _ :: _, [], h => by cases h
  | v :: vs, d :: ds, h => by
    cases h with
    | cons h1 h2 => exact congrArg Nat.succ (RpAll.len h2)
theorem le_line {n : Nat} (h : n ≤ 1000) : n ≤ sizeLine := Nat.le_trans h (by decide)
theorem tup_ok (h : AOk K B ta g) : EOk K B (tTup ta) (eTupD g) := fun R F H σ ρ d E q Q k => by
  cases hg : g ρ with
  | none => simp [eTupD, hg] at q
  | some ds =>
    simp only [eTupD, hg, Option.bind_some] at q
    split at q
    · rename_i c
      cases q
      refine h R F H σ ρ ds E hg _ fun vs H1 G1 g1 r1 => ⟨le_line (by rw [r1.len]; exact c.2), fun p hp => k _ _ _ (g1.new (o := .tup vs) hp) (.inl (.tup (.inl (.inl upd_same)) ?_))⟩
      exact dpa_mono (Same.upd_new (Same.refl G1) (g1.sub.free hp)) ds (r1.dp c.1)
    · cases q
theorem lst_ok (h : AOk K B ta g) : LOk K B (tLst ta) (eLstD g) := fun R F H σ ρ d E q Q k => by
  cases hg : g ρ with
  | none => simp [eLstD, hg] at q
  | some ds =>
    simp only [eLstD, hg, Option.bind_some] at q
    split at q
    · rename_i c
      cases q
      refine h R F H σ ρ _ E hg _ fun vs H1 G1 g1 r1 => ⟨le_line (by rw [r1.len]; exact c.2), fun p hp => k p vs _ G1 (g1.beside (o := .lst vs) hp) (g1.h.free hp) (g1.sub.free hp) upd_same (r1.dp c.1)⟩
    · cases q
theorem SemE.cons (h1 : SemE X K B e t f) (h2 : SemA X K B es ta g) (hs : starEach (e :: es) X.env = (false, eval e X.env) :: starEach es X.env := by rfl) : SemA X K B (e :: es) (tCons t ta) (eCons f g) := ⟨pa_cons h1.pe h2.pa hs, cons_ok h1.ok h2.ok⟩
theorem SemB.cons (h1 : SemB X K B e t f) (h2 : SemAB X K B es ta g) (hs : starEach (e :: es) X.env = (false, eval e X.env) :: starEach es X.env := by rfl) : SemAB X K B (e :: es) (tCons t ta) (eCons f g) := ⟨pa_cons h1.pe h2.pa hs, consB_ok h1.ok h2.ok⟩
theorem sa_nil : SemA X K B [] tNil eNil := ⟨pa_nil, nil_ok⟩
theorem sab_nil : SemAB X K B [] tNil eNil := ⟨pa_nil, nilB_ok⟩
end
end RT
namespace RT
open PySem PySem.Spec PyProof.Rows L2
/-! ### operators on data -/
def OpS (K : PySem.W.Frag) (r : R2) (g : PyData → PyData → Option PyData) : Prop := ∀ (G H : Hp) (x y : V) (d1 d2 d : PyData), Same G H → Bp K G H x d1 → Bp K G H y d2 → g d1 d2 = some d → ∀ Q : VK, (∀ v H' G', Grow H G H' G' → Rp K G' v d → Q v H') → r x y H Q
def CallS (K : PySem.W.Frag) (r : List V → Hp → VK → Prop) (g : List PyData → Option PyData) : Prop := ∀ (G H : Hp) (xs : List V) (ds : List PyData) (d : PyData), Same G H → BpAll K G H xs ds → g ds = some d → ∀ Q : VK, (∀ v H' G', Grow H G H' G' → Rp K G' v d → Q v H') → r xs H Q
/-- a new list handed back -/
def CallL (K : PySem.W.Frag) (r : List V → Hp → VK → Prop) (g : List PyData → Option (List PyData)) : Prop := ∀ (G H : Hp) (xs : List V) (ds : List PyData) (es : List PyData), Same G H → BpAll K G H xs ds → g ds = some es → ∀ Q : VK,
  (∀ p vs H' G', Grow H G H' G' → H p = none → G' p = none → H' p = some (.lst vs) → DqAll K G' vs es → Q (.ref p) H') → r xs H Q
def alt (g g' : PyData → PyData → Option PyData) : PyData → PyData → Option PyData := fun a b => match g a b with
  | some d => some d
  | none => g' a b
theorem OpS.or {K : PySem.W.Frag} {r r' : R2} {g g' : PyData → PyData → Option PyData} (h : OpS K r g) (h' : OpS K r' g') : OpS K (fun x y H Q => r x y H Q ∨ r' x y H Q) (alt g g') := fun G H x y d1 d2 d e b1 b2 q Q k => by
  unfold alt at q
  split at q
  · rename_i d' hd
    cases q
    exact .inl (h G H x y d1 d2 _ e b1 b2 hd Q k)
  · exact .inr (h' G H x y d1 d2 d e b1 b2 q Q k)
section
variable {K : PySem.W.Frag} {B : Bs} {t t1 t2 : TE} {f f1 f2 : SE} {ta : TA} {sa : SA}
theorem op_ok {r : R2} {g : PyData → PyData → Option PyData} (ho : OpS K r g) (h1 : BOk K B t1 f1) (h2 : BOk K B t2 f2) : EOk K B (tOp r t1 t2) (eOp g f1 f2) := fun R F H σ ρ d E q Q k => by
  cases e1 : f1 ρ with
  | none => simp [eOp, e1] at q
  | some x =>
    cases e2 : f2 ρ with
    | none => simp [eOp, e1, e2] at q
    | some y =>
      have q' : g x y = some d := by simpa [eOp, e1, e2] using q
      exact h1 R F H σ ρ x E e1 _ fun v H1 G1 g1 b1 => h2 R G1 H1 σ ρ y (E.grow g1) e2 _ fun u H2 G2 g2 b2 => ho G2 H2 v u x y d g2.sub (b1.mono g2.f g2.h) b2 q' Q fun z H3 G3 g3 r3 => k z H3 G3 ((g1.trans g2).trans g3) r3
theorem un_ok {r : V → Hp → VK → Prop} {g : PyData → Option PyData} (ho : ∀ (G H : Hp) (x : V) (d1 d : PyData), Same G H → Bp K G H x d1 → g d1 = some d → ∀ Q : VK, (∀ v H' G', Grow H G H' G' → Rp K G' v d → Q v H') → r x H Q) (h1 : BOk K B t1 f1) :
    EOk K B (tUn r t1) (eUn g f1) := fun R F H σ ρ d E q Q k => by
  cases e1 : f1 ρ with
  | none => simp [eUn, e1] at q
  | some x =>
    have q' : g x = some d := by simpa [eUn, e1] using q
    exact h1 R F H σ ρ x E e1 _ fun v H1 G1 g1 b1 => ho G1 H1 v x d g1.sub b1 q' Q fun z H3 G3 g3 r3 => k z H3 G3 (g1.trans g3) r3
theorem cb_ok {r : List V → Hp → VK → Prop} {g : List PyData → Option PyData} (ho : CallS K r g) (h : ABOk K B ta sa) : EOk K B (tCB r ta) (eCall g sa) := fun R F H σ ρ d E q Q k => by
  cases e1 : sa ρ with
  | none => simp [eCall, e1] at q
  | some ds =>
    have q' : g ds = some d := by simpa [eCall, e1] using q
    exact h R F H σ ρ ds E e1 _ fun vs H1 G1 g1 b1 => ho G1 H1 vs ds d g1.sub b1 q' Q fun z H3 G3 g3 r3 => k z H3 G3 (g1.trans g3) r3
def eCallL (g : List PyData → Option (List PyData)) (sa : SA) : SA := fun ρ => (sa ρ).bind g
theorem cbL_ok {r : List V → Hp → VK → Prop} {g : List PyData → Option (List PyData)} (ho : CallL K r g) (h : ABOk K B ta sa) : LOk K B (tCB r ta) (eCallL g sa) := fun R F H σ ρ d E q Q k => by
  cases e1 : sa ρ with
  | none => simp [eCallL, e1] at q
  | some ds =>
    have q' : g ds = some d := by simpa [eCallL, e1] using q
    exact h R F H σ ρ ds E e1 _ fun vs H1 G1 g1 b1 => ho G1 H1 vs ds d g1.sub b1 q' Q fun p us H3 G3 g3 h1 h2 h3 h4 => k p us H3 G3 (g1.trans g3) (g1.h.free h1) h2 h3 h4
end
/-! ### one by one -/
section
variable {K : PySem.W.Frag}
def gI (c : Int → Int → Bool) (g : Int → Int → PyData) : PyData → PyData → Option PyData
  | .int i, .int j => if c i j = true then some (g i j) else none
  | _, _ => none
def yesC : Int → Int → Bool := fun _ _ => true
theorem rI_s {C : Int → Int → Prop} {g : Int → Int → V} {g' : Int → Int → PyData} {c : Int → Int → Bool} (hC : ∀ i j, c i j = true → C i j) (hg : ∀ F i j, Rp K F (g i j) (g' i j)) : OpS K (rI C g) (gI c g') := fun G H x y d1 d2 d e b1 b2 q Q k => by
  cases d1 with
  | int i =>
    cases d2 with
    | int j =>
      simp only [gI] at q
      split at q
      · rename_i hc
        cases q
        cases b1.int
        cases b2.int
        exact ⟨i, j, rfl, rfl, hC i j hc, k _ H G (Grow.refl e) (hg G i j)⟩
      · cases q
    | _ => simp [gI] at q
  | _ => simp [gI] at q
theorem rI0_s {g : Int → Int → V} {g' : Int → Int → PyData} (hg : ∀ F i j, Rp K F (g i j) (g' i j)) : OpS K (rI0 g) (gI yesC g') := fun G H x y d1 d2 d e b1 b2 q Q k => by
  cases d1 with
  | int i =>
    cases d2 with
    | int j =>
      simp [gI, yesC] at q
      subst q
      cases b1.int
      cases b2.int
      exact ⟨i, j, rfl, rfl, k _ H G (Grow.refl e) (hg G i j)⟩
    | _ => simp [gI] at q
  | _ => simp [gI] at q
theorem rp_int {F : Hp} (i : Int) : Rp K F (.int i) (.int i) := .inl (.int i)
theorem rp_bool {F : Hp} (i : Bool) : Rp K F (.bl i) (.bool i) := .inl (.bl i)
theorem rp_str {F : Hp} (i : Str) : Rp K F (.str i) (.str i) := .inl (.str i)
theorem rp_non {F : Hp} : Rp K F .non .none := .inl .non

def LIM : Nat := 1000000
theorem lim_line {n : Nat} (h : n ≤ LIM) : n ≤ sizeLine := Nat.le_trans h (by decide)
/-- + -/
def gAddS : PyData → PyData → Option PyData
  | .str x, .str y => if x.length + y.length ≤ LIM then some (.str (x ++ y)) else none
  | _, _ => none
def gAddL : PyData → PyData → Option PyData
  | .list x, .list y => if x.length + y.length ≤ LIM then some (.list (x ++ y)) else none
  | _, _ => none
def rAddS2 : R2 := fun x y H Q => ∃ i j, x = .str i ∧ y = .str j ∧ i.length + j.length ≤ sizeLine ∧ Q (.str (i ++ j)) H
theorem addS_s : OpS K rAddS2 gAddS := fun G H x y d1 d2 d e b1 b2 q Q k => by
  cases d1 with
  | str i =>
    cases d2 with
    | str j =>
      simp only [gAddS] at q
      split at q
      · rename_i hc
        cases q
        cases b1.str
        cases b2.str
        exact ⟨i, j, rfl, rfl, lim_line hc, k _ H G (Grow.refl e) (rp_str _)⟩
      · cases q
    | _ => simp [gAddS] at q
  | _ => simp [gAddS] at q

theorem addL_s : OpS K rCat gAddL := fun G H x y d1 d2 d e b1 b2 q Q k => by
  cases d1 with
  | list i =>
    cases d2 with
    | list j =>
      simp only [gAddL] at q
      split at q
      · rename_i hc
        cases q
        obtain ⟨p1, vs, rfl, h1, a1⟩ := b1.list e
        obtain ⟨p2, ws, rfl, h2, a2⟩ := b2.list e
        refine ⟨p1, p2, vs, ws, rfl, rfl, h1, h2, lim_line (by rw [a1.len, a2.len]; exact hc), fun p hp => k _ _ _ ((Grow.refl e).new hp) (.inl (.lst upd_same ?_))⟩
        exact dpa_mono (Same.upd_new (Same.refl G) (e.free hp)) _ (a1.append a2)
      · cases q
    | _ => simp [gAddL] at q
  | _ => simp [gAddL] at q
def gAddI : PyData → PyData → Option PyData := gI yesC fun i j => .int (i + j)
def rAdd3 : R2 := fun x y H Q => (rI0 fun i j => .int (i + j)) x y H Q ∨ (rAddS2 x y H Q ∨ rCat x y H Q)
def gAdd : PyData → PyData → Option PyData := alt gAddI (alt gAddS gAddL)
theorem op_add3 {X : Cx} : OpR X (binaryOp .Add) rAdd3 := op_add.or (op_add_str.or op_cat)
theorem add3_s : OpS K rAdd3 gAdd := (rI0_s fun F i j => rp_int _).or (addS_s.or addL_s)
def gMinus : PyData → PyData → Option PyData := gI yesC fun i j => .int (i - j)
theorem sub_s : OpS K (rI0 fun i j => .int (i - j)) gMinus := rI0_s fun F i j => rp_int _
/-- *: ints, one of them small; a list, a text times an int -/
def cMul (i j : Int) : Bool := decide (i.natAbs ≤ 1000000000) || decide (j.natAbs ≤ 1000000000)
def gMulI : PyData → PyData → Option PyData := gI cMul fun i j => .int (i * j)
theorem mulI_s : OpS K (rI CMul fun i j => .int (i * j)) gMulI := rI_s (fun i j h => by
  unfold cMul at h
  rw [Bool.or_eq_true, decide_eq_true_eq, decide_eq_true_eq] at h
  rcases h with h | h
  · exact .inl (by omega)
  · exact .inr (by omega)) fun F i j => rp_int _
def gMulL : PyData → PyData → Option PyData
  | .list x, .int k => if k ≤ 1000000 ∧ -1000000 ≤ k ∧ x.length * k.toNat ≤ LIM then some (.list (List.replicate k.toNat x).flatten) else none
  | _, _ => none
theorem dqa_rep {F : Hp} {vs : List V} {ds : List PyData} (h : DqAll K F vs ds) : ∀ n : Nat, DqAll K F (List.replicate n vs).flatten (List.replicate n ds).flatten
  | 0 => .nil
  | n + 1 => by
    rw [List.replicate_succ, List.replicate_succ, List.flatten_cons, List.flatten_cons]
    exact h.append (dqa_rep h n)
theorem mulL_s : OpS K rRep gMulL := fun G H x y d1 d2 d e b1 b2 q Q k => by
  cases d1 with
  | list i =>
    cases d2 with
    | int j =>
      simp only [gMulL] at q
      split at q
      · rename_i hc
        obtain ⟨c1, c2, c3⟩ := hc
        cases q
        obtain ⟨p1, vs, rfl, h1, a1⟩ := b1.list e
        cases b2.int
        refine ⟨p1, j, vs, rfl, rfl, h1, by omega, by omega, lim_line (by rw [a1.len]; exact c3), fun p hp => k _ _ _ ((Grow.refl e).new hp) (.inl (.lst upd_same ?_))⟩
        exact dpa_mono (Same.upd_new (Same.refl G) (e.free hp)) _ (dqa_rep a1 _)
      · cases q
    | _ => simp [gMulL] at q
  | _ => simp [gMulL] at q
def rMulS : R2 := fun x y H Q => ∃ z n, x = .str z ∧ y = .int n ∧ MulOk z n ∧ Q (.str (Txt.mul z n)) H
theorem op_mulS {X : Cx} : OpR X (binaryOp .Mult) rMulS := by
  intro pins s σ H x y v u Q I rx ry h
  obtain ⟨z, n, rfl, rfl, hm, q⟩ := h
  obtain ⟨t, rfl⟩ := rx
  obtain ⟨t', rfl⟩ := ry
  exact PySem.SB.mul hm fun t' k => ⟨.str _, H, I.tok _, ⟨_, rfl⟩, q⟩
def gMulS : PyData → PyData → Option PyData
  | .str x, .int k => if x.length ≤ 1000 ∧ k ≤ 1000 ∧ -1000 ≤ k then some (.str (Txt.mul x k)) else none
  | _, _ => none
theorem mulS_s : OpS K rMulS gMulS := fun G H x y d1 d2 d e b1 b2 q Q k => by
  cases d1 with
  | str i =>
    cases d2 with
    | int j =>
      simp only [gMulS] at q
      split at q
      · rename_i hc
        obtain ⟨c1, c2, c3⟩ := hc
        cases q
        cases b1.str
        cases b2.int
        exact ⟨i, j, rfl, rfl, PyProof.Rows.mulOk_of 1000 1000 c1 (by omega) (by omega) (by decide) (by decide), k _ H G (Grow.refl e) (rp_str _)⟩
      · cases q
    | _ => simp [gMulS] at q
  | _ => simp [gMulS] at q
def rMul3 : R2 := fun x y H Q => (rI CMul fun i j => .int (i * j)) x y H Q ∨ (rRep x y H Q ∨ rMulS x y H Q)
def gMul : PyData → PyData → Option PyData := alt gMulI (alt gMulL gMulS)
theorem op_mul3 {X : Cx} : OpR X (binaryOp .Mult) rMul3 := op_mul.or (op_rep.or op_mulS)
theorem mul3_s : OpS K rMul3 gMul := mulI_s.or (mulL_s.or mulS_s)
def cPos (_ j : Int) : Bool := decide (0 < j) && decide (j < 1073741824)
def gFdiv : PyData → PyData → Option PyData := gI cPos fun i j => .int (i / j)
def gMod : PyData → PyData → Option PyData := gI cPos fun i j => .int (i % j)
theorem cPos_ok {i j : Int} (h : cPos i j = true) : 0 < j ∧ j < 1073741824 := by
  unfold cPos at h
  rw [Bool.and_eq_true, decide_eq_true_eq, decide_eq_true_eq] at h
  exact h
theorem fdiv_s : OpS K (rI CDiv fun i j => .int (i / j)) gFdiv := rI_s (fun i j h => cPos_ok h) fun F i j => rp_int _
theorem mod_s : OpS K (rI (fun _ j => 0 < j) fun i j => .int (i % j)) gMod := rI_s (fun i j h => (cPos_ok h).1) fun F i j => rp_int _
def gLt : PyData → PyData → Option PyData := gI yesC fun i j => .bool (decide (i < j))
def gLe : PyData → PyData → Option PyData := gI yesC fun i j => .bool (decide (i ≤ j))
def gGt : PyData → PyData → Option PyData := gI yesC fun i j => .bool (decide (j < i))
def gGe : PyData → PyData → Option PyData := gI yesC fun i j => .bool (decide (j ≤ i))
theorem lt_s : OpS K (rI0 fun i j => .bl (decide (i < j))) gLt := rI0_s fun F i j => rp_bool _
theorem le_s : OpS K (rI0 fun i j => .bl (decide (i ≤ j))) gLe := rI0_s fun F i j => rp_bool _
theorem gt_s : OpS K (rI0 fun i j => .bl (decide (j < i))) gGt := rI0_s fun F i j => rp_bool _
theorem ge_s : OpS K (rI0 fun i j => .bl (decide (j ≤ i))) gGe := rI0_s fun F i j => rp_bool _
/-- == and != of data -/
def gEqD : PyData → PyData → Option PyData := fun a b => if dataD a = true ∧ dataD b = true ∧ SeqAt.shaped a = true ∧ SeqAt.shaped b = true then some (.bool (PyData.eqv a b)) else none
def gNeD : PyData → PyData → Option PyData := fun a b => if dataD a = true ∧ dataD b = true ∧ SeqAt.shaped a = true ∧ SeqAt.shaped b = true then some (.bool (!PyData.eqv a b)) else none
theorem Bp.dp {G H : Hp} {v : V} {d : PyData} (e : Same G H) (h : Bp K G H v d) (n : dataD d = true) : Dp K H v d := dq_dp d ((h.all e).dp (by rintro l rfl; cases n))
theorem eqD0_s : OpS K (rEqD K) gEqD := fun G H x y d1 d2 d e b1 b2 q Q k => by
  unfold gEqD at q
  split at q
  · rename_i hc
    obtain ⟨c1, c2, c3, c4⟩ := hc
    cases q
    exact ⟨d1, d2, b1.dp e c1, b2.dp e c2, c3, c4, k _ H G (Grow.refl e) (rp_bool _)⟩
  · cases q
theorem neD0_s : OpS K (rNeD K) gNeD := fun G H x y d1 d2 d e b1 b2 q Q k => by
  unfold gNeD at q
  split at q
  · rename_i hc
    obtain ⟨c1, c2, c3, c4⟩ := hc
    cases q
    exact ⟨d1, d2, b1.dp e c1, b2.dp e c2, c3, c4, k _ H G (Grow.refl e) (rp_bool _)⟩
  · cases q
/-- two values without parts -/
def eqSc : PyData → PyData → Option Bool
  | .int i, .int j => some (i == j)
  | .str i, .str j => some (i == j)
  | .bool i, .bool j => some (i == j)
  | .none, .none => some true
  | .int _, .str _ => some false
  | .str _, .int _ => some false
  | .none, .int _ => some false
  | .int _, .none => some false
  | .none, .str _ => some false
  | .str _, .none => some false
  | _, _ => none
def gEqS : PyData → PyData → Option PyData := fun a b => (eqSc a b).map .bool
def gNeS : PyData → PyData → Option PyData := fun a b => (eqSc a b).map fun c => .bool (!c)
theorem eqSc_ok {G H : Hp} {x y : V} {d1 d2 : PyData} {c : Bool} (b1 : Bp K G H x d1) (b2 : Bp K G H y d2) (q : eqSc d1 d2 = some c) : scal x y = true ∧ c = decide (x = y) := by
  unfold eqSc at q
  split at q
  · cases b1.int; cases b2.int; cases q; exact ⟨rfl, dec_int.symm⟩
  · cases b1.str; cases b2.str; cases q; exact ⟨rfl, dec_str.symm⟩
  · cases b1.bool; cases b2.bool; cases q; exact ⟨rfl, dec_bl.symm⟩
  · cases b1.non; cases b2.non; cases q; exact ⟨rfl, rfl⟩
  · cases b1.int; cases b2.str; cases q; exact ⟨rfl, (decide_eq_false (by intro z; cases z)).symm⟩
  · cases b1.str; cases b2.int; cases q; exact ⟨rfl, (decide_eq_false (by intro z; cases z)).symm⟩
  · cases b1.non; cases b2.int; cases q; exact ⟨rfl, (decide_eq_false (by intro z; cases z)).symm⟩
  · cases b1.int; cases b2.non; cases q; exact ⟨rfl, (decide_eq_false (by intro z; cases z)).symm⟩
  · cases b1.non; cases b2.str; cases q; exact ⟨rfl, (decide_eq_false (by intro z; cases z)).symm⟩
  · cases b1.str; cases b2.non; cases q; exact ⟨rfl, (decide_eq_false (by intro z; cases z)).symm⟩
  · cases q
theorem eqS_s : OpS K rEq gEqS := fun G H x y d1 d2 d e b1 b2 q Q k => by
  cases hc : eqSc d1 d2 with
  | none => simp [gEqS, hc] at q
  | some c =>
    simp [gEqS, hc] at q
    subst q
    obtain ⟨h1, h2⟩ := eqSc_ok b1 b2 hc
    exact ⟨h1, k _ H G (Grow.refl e) (by rw [h2]; exact rp_bool _)⟩
theorem neS_s : OpS K rNe gNeS := fun G H x y d1 d2 d e b1 b2 q Q k => by
  cases hc : eqSc d1 d2 with
  | none => simp [gNeS, hc] at q
  | some c =>
    simp [gNeS, hc] at q
    subst q
    obtain ⟨h1, h2⟩ := eqSc_ok b1 b2 hc
    exact ⟨h1, k _ H G (Grow.refl e) (by rw [h2]; exact rp_bool _)⟩
def rEq2 (K : PySem.W.Frag) : R2 := fun x y H Q => rEq x y H Q ∨ rEqD K x y H Q
def rNe2 (K : PySem.W.Frag) : R2 := fun x y H Q => rNe x y H Q ∨ rNeD K x y H Q
def gEq : PyData → PyData → Option PyData := alt gEqS gEqD
def gNe : PyData → PyData → Option PyData := alt gNeS gNeD
theorem op_eq2 {X : Cx} (hu : X.A.units + 64 < cLine) : OpR X (compareOp .Eq) (rEq2 X.K) := op_eq.or (op_eqD hu)
theorem op_ne2 {X : Cx} (hu : X.A.units + 64 < cLine) : OpR X (compareOp .NotEq) (rNe2 X.K) := op_ne.or (op_neD hu)
theorem eq2_s : OpS K (rEq2 K) gEq := eqS_s.or eqD0_s
theorem ne2_s : OpS K (rNe2 K) gNe := neS_s.or neD0_s
/-- in a list, a tuple of values without parts -/
def eqFl : PyData → PyData → Bool
  | .none, .none => true
  | .bool a, .bool b => a == b
  | .bool a, .int b => (if a then 1 else 0) == b
  | .int a, .bool b => a == (if b then 1 else 0)
  | .int a, .int b => a == b
  | .str a, .str b => a == b
  | _, _ => false
def gInF (neg : Bool) : PyData → PyData → Option PyData
  | d, .list ds => if scalD d = true ∧ ds.all scalD = true then some (.bool (if neg then !ds.any fun z => eqFl z d else ds.any fun z => eqFl z d)) else none
  | d, .tuple ds => if scalD d = true ∧ ds.all scalD = true then some (.bool (if neg then !ds.any fun z => eqFl z d else ds.any fun z => eqFl z d)) else none
  | _, _ => none
theorem flat_of {G : Hp} {v : V} {d : PyData} (h : Dq K G v d) (hs : scalD d = true) : flatV v = true := by
  cases h with
  | non => rfl
  | bl b => rfl
  | int i => rfl
  | str x => rfl
  | lst _ _ => cases hs
  | tup _ _ => cases hs
theorem eqFl_of {G : Hp} {x y : V} {d e : PyData} (h : Dq K G x d) (h' : Dq K G y e) (hs : scalD d = true) (hs' : scalD e = true) : eqV x y = eqFl d e := by
  cases h with
  | non => cases h' with
    | lst _ _ => cases hs'
    | tup _ _ => cases hs'
    | _ => rfl
  | bl b => cases h' with
    | lst _ _ => cases hs'
    | tup _ _ => cases hs'
    | _ => rfl
  | int i => cases h' with
    | lst _ _ => cases hs'
    | tup _ _ => cases hs'
    | _ => rfl
  | str x => cases h' with
    | lst _ _ => cases hs'
    | tup _ _ => cases hs'
    | _ => rfl
  | lst _ _ => cases hs
  | tup _ _ => cases hs
theorem flats_of {G : Hp} : ∀ {vs : List V} {ds : List PyData}, DqAll K G vs ds → ds.all scalD = true → vs.all flatV = true
  | [], [], _, _ => rfl
  | [], _ :: _, h, _ => by cases h
  | _ :: _, [], h, _ => by cases h
  | v :: vs, d :: ds, h, a => by
    cases h with
    | cons h1 h2 =>
      rw [List.all_cons, Bool.and_eq_true] at a ⊢
      exact ⟨flat_of h1 a.1, flats_of h2 a.2⟩
theorem inV_of {G : Hp} {x : V} {d : PyData} (hx : Dq K G x d) (hs : scalD d = true) : ∀ {vs : List V} {ds : List PyData}, DqAll K G vs ds → ds.all scalD = true → inV x vs = ds.any fun z => eqFl z d
  | [], [], _, _ => rfl
  | [], _ :: _, h, _ => by cases h
  | _ :: _, [], h, _ => by cases h
  | v :: vs, e :: ds, h, a => by
    cases h with
    | cons h1 h2 =>
      rw [List.all_cons, Bool.and_eq_true] at a
      have ih := inV_of hx hs h2 a.2
      unfold inV at ih ⊢
      rw [List.any_cons, List.any_cons, ih, eqFl_of h1 hx a.1 hs]
theorem scal_not {G H : Hp} {v : V} {d : PyData} (b : Bp K G H v d) (hs : scalD d = true) : Dq K G v d := by
  rcases b with b | ⟨p, vs, ds, _, rfl, _⟩
  · exact b.dp (by rintro l rfl; cases hs)
  · cases hs
theorem inF_s (neg : Bool) : OpS K (rIn K neg) (gInF neg) := fun G H x y d1 d2 d e b1 b2 q Q k => by
  unfold gInF at q
  split at q
  · split at q
    · rename_i hc
      obtain ⟨c1, c2⟩ := hc
      cases q
      obtain ⟨p, vs, rfl, h1, a1⟩ := b2.list e
      have hx := scal_not b1 c1
      refine ⟨p, vs, rfl, .inl (.inl (.inl h1)), flat_of hx c1, flats_of a1 c2, ?_⟩
      rw [inV_of hx c1 a1 c2]
      exact k _ H G (Grow.refl e) (rp_bool _)
    · cases q
  · split at q
    · rename_i hc
      obtain ⟨c1, c2⟩ := hc
      cases q
      obtain ⟨p, vs, rfl, h1, a1⟩ := b2.tuple e
      have hx := scal_not b1 c1
      refine ⟨p, vs, rfl, .inr h1, flat_of hx c1, flats_of a1 c2, ?_⟩
      rw [inV_of hx c1 a1 c2]
      exact k _ H G (Grow.refl e) (rp_bool _)
    · cases q
  · cases q
/-- in, not in: a list of data; a sign in a text; a text in a text -/
def gInL (neg : Bool) : PyData → PyData → Option PyData
  | d, .list ds => if dataD d = true ∧ SeqAt.shaped d = true ∧ SeqAt.shaped (.list ds) = true then some (.bool (if neg then !ds.any fun z => PyData.eqv z d else ds.any fun z => PyData.eqv z d)) else none
  | _, _ => none
theorem inL_s : OpS K (rInD K) (gInL false) := fun G H x y d1 d2 d e b1 b2 q Q k => by
  cases d2 with
  | list ds =>
    simp only [gInL] at q
    split at q
    · rename_i hc
      obtain ⟨c1, c2, c3⟩ := hc
      cases q
      exact ⟨d1, ds, b1.dp e c1, b2.dp e rfl, c2, c3, k _ H G (Grow.refl e) (rp_bool _)⟩
    · cases q
  | _ => simp [gInL] at q
theorem notInL_s : OpS K (rNotInD K) (gInL true) := fun G H x y d1 d2 d e b1 b2 q Q k => by
  cases d2 with
  | list ds =>
    simp only [gInL] at q
    split at q
    · rename_i hc
      obtain ⟨c1, c2, c3⟩ := hc
      cases q
      exact ⟨d1, ds, b1.dp e c1, b2.dp e rfl, c2, c3, k _ H G (Grow.refl e) (rp_bool _)⟩
    · cases q
  | _ => simp [gInL] at q
def rInSg (neg : Bool) : R2 := fun x y H Q => ∃ (c : Nat) (z : Str), x = .str ⟨#[c]⟩ ∧ y = .str z ∧ Q (.bl (if neg then !decide (c ∈ z.cps.toList) else decide (c ∈ z.cps.toList))) H
def gInS (neg : Bool) : PyData → PyData → Option PyData
  | .str x, .str z => match x.cps.toList with
    | [c] => some (.bool (if neg then !decide (c ∈ z.cps.toList) else decide (c ∈ z.cps.toList)))
    | _ => none
  | _, _ => none
theorem inS_s (neg : Bool) : OpS K (rInSg neg) (gInS neg) := fun G H x y d1 d2 d e b1 b2 q Q k => by
  cases d1 with
  | str i =>
    cases d2 with
    | str j =>
      simp only [gInS] at q
      split at q
      · rename_i c hc
        cases q
        cases b1.str
        cases b2.str
        have ei : i = ⟨#[c]⟩ := Str.ext' (Array.toList_inj.mp hc)
        exact ⟨c, j, by rw [ei], rfl, k _ H G (Grow.refl e) (rp_bool _)⟩
      · cases q
    | _ => simp [gInS] at q
  | _ => simp [gInS] at q
def rIn2 (K : PySem.W.Frag) : R2 := fun x y H Q => rIn K false x y H Q ∨ (rInD K x y H Q ∨ rInSg false x y H Q)
def rNotIn2 (K : PySem.W.Frag) : R2 := fun x y H Q => rIn K true x y H Q ∨ (rNotInD K x y H Q ∨ rInSg true x y H Q)
def gIn : PyData → PyData → Option PyData := alt (gInF false) (alt (gInL false) (gInS false))
def gNotIn : PyData → PyData → Option PyData := alt (gInF true) (alt (gInL true) (gInS true))
theorem op_in2 {X : Cx} (hu : X.A.units + 65 < cLine) : OpR X (compareOp .In) (rIn2 X.K) := op_in_seq.or ((op_inD hu).or op_in_sign)
theorem op_notIn2 {X : Cx} (hu : X.A.units + 65 < cLine) : OpR X (compareOp .NotIn) (rNotIn2 X.K) := op_notIn_seq.or ((op_notInD hu).or op_notIn_sign)
theorem in2_s : OpS K (rIn2 K) gIn := (inF_s false).or (inL_s.or (inS_s false))
theorem notIn2_s : OpS K (rNotIn2 K) gNotIn := (inF_s true).or (notInL_s.or (inS_s true))
/-- is, is not: None on the right; two truths -/
def rIs2 : R2 := fun x y H Q => (y = .non ∧ Q (.bl (decide (x = .non))) H) ∨ rIsB x y H Q
def rIsNot2 : R2 := fun x y H Q => (y = .non ∧ Q (.bl (!decide (x = .non))) H) ∨ rNotB x y H Q
end
end RT
namespace RT
open PySem PySem.Spec PyProof.Rows L2
/-! ### is None, is True -/
def isRhs : V → Bool
  | .non => true
  | .bl _ => true
  | _ => false
def isLhs : V → Bool
  | .non => true
  | .bl _ => true
  | .int _ => true
  | .str _ => true
  | .ref _ => true
  | _ => false
def rIsP : R2 := fun x y H Q => isLhs x = true ∧ isRhs y = true ∧ Q (.bl (decide (x = y))) H
def rIsNotP : R2 := fun x y H Q => isLhs x = true ∧ isRhs y = true ∧ Q (.bl (!decide (x = y))) H
section
variable {X : Cx}
theorem plain_of {x y : V} {v u : Value} (hx : isLhs x = true) (hy : isRhs y = true) (rx : RelV x v) (ry : RelV y u) : plainIs v u = true ∧ (v == u) = decide (x = y) := by
  cases y with
  | non =>
    cases (show u = Value.none from ry)
    refine ⟨?_, rx.none_iff⟩
    cases x with
    | non => cases (show v = Value.none from rx); rfl
    | bl b => cases (show v = Value.bool b from rx); rfl
    | int i => obtain ⟨t, rfl⟩ := rx; rfl
    | str i => obtain ⟨t, rfl⟩ := rx; rfl
    | ref a => cases (show v = Value.ref a from rx); rfl
    | _ => cases hx
  | bl c =>
    cases (show u = Value.bool c from ry)
    cases x with
    | non => cases (show v = Value.none from rx); exact ⟨rfl, by simp⟩
    | bl b =>
      cases (show v = Value.bool b from rx)
      refine ⟨rfl, ?_⟩
      cases b <;> cases c <;> decide
    | int i => obtain ⟨t, rfl⟩ := rx; exact ⟨rfl, by simp⟩
    | str i => obtain ⟨t, rfl⟩ := rx; exact ⟨rfl, by simp⟩
    | ref a => cases (show v = Value.ref a from rx); exact ⟨rfl, by simp⟩
    | _ => cases hx
  | _ => cases hy
theorem op_isP : OpR X (compareOp .Is) rIsP := by
  intro pins s σ H x y v u Q I rx ry h
  obtain ⟨hx, hy, q⟩ := h
  obtain ⟨p1, p2⟩ := plain_of hx hy rx ry
  refine wpAny_is_plain p1 ?_
  rw [p2]
  exact ⟨.bl _, H, I, rfl, q⟩
theorem op_isNotP : OpR X (compareOp .IsNot) rIsNotP := by
  intro pins s σ H x y v u Q I rx ry h
  obtain ⟨hx, hy, q⟩ := h
  obtain ⟨p1, p2⟩ := plain_of hx hy rx ry
  refine wpAny_isNot_plain p1 ?_
  rw [p2]
  exact ⟨.bl _, H, I, rfl, q⟩
end
section
variable {K : PySem.W.Frag}
/-- is: the right side None, True or False -/
def isD : PyData → PyData → Option Bool
  | .none, .none => some true
  | .bool _, .none => some false
  | .int _, .none => some false
  | .str _, .none => some false
  | .list _, .none => some false
  | .tuple _, .none => some false
  | .bool a, .bool b => some (a == b)
  | .none, .bool _ => some false
  | .int _, .bool _ => some false
  | .str _, .bool _ => some false
  | .list _, .bool _ => some false
  | .tuple _, .bool _ => some false
  | _, _ => none
def gIs : PyData → PyData → Option PyData := fun a b => (isD a b).map .bool
def gIsNot : PyData → PyData → Option PyData := fun a b => (isD a b).map fun c => .bool (!c)
theorem isD_ok {G H : Hp} {x y : V} {d1 d2 : PyData} {c : Bool} (e : Same G H) (b1 : Bp K G H x d1) (b2 : Bp K G H y d2) (q : isD d1 d2 = some c) : isLhs x = true ∧ isRhs y = true ∧ c = decide (x = y) := by
  cases d2 with
  | none =>
    cases b2.non
    cases d1 with
    | none => cases b1.non; cases q; exact ⟨rfl, rfl, rfl⟩
    | bool b => cases b1.bool; cases q; exact ⟨rfl, rfl, by simp⟩
    | int i => cases b1.int; cases q; exact ⟨rfl, rfl, by simp⟩
    | str i => cases b1.str; cases q; exact ⟨rfl, rfl, by simp⟩
    | list l => obtain ⟨p, vs, rfl, _⟩ := b1.list e; cases q; exact ⟨rfl, rfl, by simp⟩
    | tuple l => obtain ⟨p, vs, rfl, _⟩ := b1.tuple e; cases q; exact ⟨rfl, rfl, by simp⟩
    | _ => cases q
  | bool b' =>
    cases b2.bool
    cases d1 with
    | none => cases b1.non; cases q; exact ⟨rfl, rfl, by simp⟩
    | bool b => cases b1.bool; cases q; refine ⟨rfl, rfl, ?_⟩; cases b <;> cases b' <;> decide
    | int i => cases b1.int; cases q; exact ⟨rfl, rfl, by simp⟩
    | str i => cases b1.str; cases q; exact ⟨rfl, rfl, by simp⟩
    | list l => obtain ⟨p, vs, rfl, _⟩ := b1.list e; cases q; exact ⟨rfl, rfl, by simp⟩
    | tuple l => obtain ⟨p, vs, rfl, _⟩ := b1.tuple e; cases q; exact ⟨rfl, rfl, by simp⟩
    | _ => cases q
  | _ => cases d1 <;> cases q
theorem is_s : OpS K rIsP gIs := fun G H x y d1 d2 d e b1 b2 q Q k => by
  cases hc : isD d1 d2 with
  | none => simp [gIs, hc] at q
  | some c =>
    simp [gIs, hc] at q
    subst q
    obtain ⟨h1, h2, h3⟩ := isD_ok e b1 b2 hc
    exact ⟨h1, h2, k _ H G (Grow.refl e) (by rw [h3]; exact rp_bool _)⟩
theorem isNot_s : OpS K rIsNotP gIsNot := fun G H x y d1 d2 d e b1 b2 q Q k => by
  cases hc : isD d1 d2 with
  | none => simp [gIsNot, hc] at q
  | some c =>
    simp [gIsNot, hc] at q
    subst q
    obtain ⟨h1, h2, h3⟩ := isD_ok e b1 b2 hc
    exact ⟨h1, h2, k _ H G (Grow.refl e) (by rw [h3]; exact rp_bool _)⟩

/-! ### an item, a slice -/
def gIx0 : PyData → PyData → Option PyData
  | .list ds, .int i => atI ds i
  | .tuple ds, .int i => atI ds i
  | .str z, .int i => if z.length ≤ LIM then (atI z.cps.toList i).map fun c => .str ⟨#[c]⟩ else none
  | _, _ => none
theorem atI_of {F : Hp} {vs : List V} {ds : List PyData} {i : Int} {d : PyData} (h : DqAll K F vs ds) (q : atI ds i = some d) : ∃ v, atI vs i = some v ∧ Dq K F v d := by
  unfold atI at q ⊢
  rw [h.len]
  cases hx : ixN ds.length i with
  | none => rw [hx] at q; cases q
  | some j =>
    rw [hx] at q
    exact h.get q
theorem ix0_s : OpS K (rIx K) gIx0 := fun G H x y d1 d2 d e b1 b2 q Q k => by
  cases d2 with
  | int i =>
    cases b2.int
    cases d1 with
    | list ds =>
      obtain ⟨p, vs, rfl, h1, a1⟩ := b1.list e
      obtain ⟨v, h2, h3⟩ := atI_of a1 q
      exact .inl ⟨p, vs, i, v, rfl, rfl, .inl (.inl h1), h2, k v H G (Grow.refl e) (.inl h3)⟩
    | tuple ds =>
      obtain ⟨p, vs, rfl, h1, a1⟩ := b1.tuple e
      obtain ⟨v, h2, h3⟩ := atI_of a1 q
      exact .inr (.inl ⟨p, vs, i, v, rfl, rfl, h1, h2, k v H G (Grow.refl e) (.inl h3)⟩)
    | str z =>
      cases b1.str
      simp only [gIx0] at q
      split at q
      · rename_i hz
        cases hc : atI z.cps.toList i with
        | none => simp [hc] at q
        | some c =>
          simp [hc] at q
          subst q
          exact .inr (.inr ⟨z, i, c, rfl, rfl, lim_line hz, hc, k _ H G (Grow.refl e) (rp_str _)⟩)
      · cases q
    | _ => cases q
  | _ => cases d1 <;> cases q
/-- an item of the script -/
def gIxS : PyData → PyData → Option PyData
  | .dict [(.none, .list ds)], .int i => atI ds i
  | _, _ => none
theorem ixS_s : OpS K (rIx K) gIxS := fun G H x y d1 d2 d e b1 b2 q Q k => by
  unfold gIxS at q
  split at q
  · cases b2.int
    obtain ⟨p, vs, rfl, h1, a1⟩ := b1.scr e
    obtain ⟨v, h2, h3⟩ := atI_of a1 q
    exact .inl ⟨p, vs, _, v, rfl, rfl, h1, h2, k v H G (Grow.refl e) (.inl h3)⟩
  · cases q
theorem OpS.alt {r : R2} {g g' : PyData → PyData → Option PyData} (h : OpS K r g) (h' : OpS K r g') : OpS K r (RT.alt g g') := fun G H x y d1 d2 d e b1 b2 q Q k => by
  unfold RT.alt at q
  split at q
  · rename_i d' hd
    cases q
    exact h G H x y d1 d2 _ e b1 b2 hd Q k
  · exact h' G H x y d1 d2 d e b1 b2 q Q k
def gIx : PyData → PyData → Option PyData := alt gIx0 gIxS
theorem ix_s : OpS K (rIx K) gIx := ix0_s.alt ixS_s
def cutA {α : Type} (xs : List α) (lo hi : Option Int) : List α := (xs.drop (HT.sIx xs.length 0 lo)).take (HT.sIx xs.length xs.length hi - HT.sIx xs.length 0 lo)
/-- a part of a slice -/
abbrev SO := Rho → Option (Option Int)
def oNone : SO := fun _ => some none
def oSome (f : SE) : SO := fun ρ => (f ρ).bind fun d => match d with
  | .int i => some (some i)
  | _ => none
def OOk (K : PySem.W.Frag) (B : Bs) (t : TO) (f : SO) : Prop := ∀ (R : Rg) (F H : Hp) (σ : L2.St) (ρ : Rho) (o : Option Int), EnvOk K B R F H σ ρ → f ρ = some o → ∀ Q : Option Int → Hp → Prop, (∀ H' G, Grow H F H' G → Q o H') → t σ H Q
structure SemO (X : Cx) (K : PySem.W.Frag) (B : Bs) (e : Option Expr) (t : TO) (f : SO) : Prop where
  po : PO X e t
  ok : OOk K B t f
theorem so_none {X : Cx} {K : PySem.W.Frag} {B : Bs} : SemO X K B none tNoPart oNone := ⟨po_none, fun R F H σ ρ o E q Q k => by
  cases q
  exact k H F (Grow.refl E.ex)⟩
theorem so_some {X : Cx} {K : PySem.W.Frag} {B : Bs} {e : Expr} {t : TE} {f : SE} (h : SemB X K B e t f) : SemO X K B (some e) (tPart t) (oSome f) := ⟨po_some h.pe, fun R F H σ ρ o E q Q k => by
  cases e1 : f ρ with
  | none => simp [oSome, e1] at q
  | some d =>
    cases d with
    | int i =>
      simp [oSome, e1] at q
      subst q
      exact h.ok _ F H σ ρ _ E e1 _ fun v H1 G1 g1 b1 => ⟨i, b1.int, k H1 G1 g1⟩
    | _ => simp [oSome, e1] at q⟩
def lSl (f : SE) (a b : SO) : SA := fun ρ => (f ρ).bind fun d => (a ρ).bind fun lo => (b ρ).bind fun hi => match d with
  | .list ds => some (cutA ds lo hi)
  | .dict [(.none, .list ds)] => some (cutA ds lo hi)
  | _ => none
def eSlS (f : SE) (a b : SO) : SE := fun ρ => (f ρ).bind fun d => (a ρ).bind fun lo => (b ρ).bind fun hi => match d with
  | .str z => if z.length ≤ LIM then some (.str (cutS z lo hi)) else none
  | _ => none
theorem cutV_dq {F : Hp} {vs : List V} {ds : List PyData} (h : DqAll K F vs ds) (lo hi : Option Int) : DqAll K F (cutV vs lo hi) (cutA ds lo hi) := by
  unfold cutV cutA
  rw [h.len]
  exact (h.drop _).take _
theorem lSl_inv {f : SE} {a b : SO} {ρ : Rho} {ds : List PyData} (q : lSl f a b ρ = some ds) : ∃ d lo hi es, f ρ = some d ∧ a ρ = some lo ∧ b ρ = some hi ∧ (d = .list es ∨ d = .dict [(.none, .list es)]) ∧ ds = cutA es lo hi := by
  unfold lSl at q
  cases e0 : f ρ with
  | none => simp [e0] at q
  | some d =>
    cases e1 : a ρ with
    | none => simp [e0, e1] at q
    | some lo =>
      cases e2 : b ρ with
      | none => simp [e0, e1, e2] at q
      | some hi =>
        rw [e0, e1, e2, Option.bind_some, Option.bind_some, Option.bind_some] at q
        split at q
        · rename_i es
          cases q
          exact ⟨_, lo, hi, es, rfl, rfl, rfl, .inl rfl, rfl⟩
        · rename_i es
          cases q
          exact ⟨_, lo, hi, es, rfl, rfl, rfl, .inr rfl, rfl⟩
        · cases q
theorem slL_ok {B : Bs} {te : TE} {tl th : TO} {f : SE} {a b : SO} (h : BOk K B te f) (h1 : OOk K B tl a) (h2 : OOk K B th b) : LOk K B (tSl (rSlL K) te tl th) (lSl f a b) := fun R F H σ ρ ds E q Q k => by
  obtain ⟨d, lo, hi, es, e0, e1, e2, hd, rfl⟩ := lSl_inv q
  refine h _ F H σ ρ _ E e0 _ fun v H1 G1 g1 b1 => h1 _ G1 H1 σ ρ _ (E.grow g1) e1 _ fun H2 G2 g2 => h2 _ G2 H2 σ ρ _ ((E.grow g1).grow g2) e2 _ fun H3 G3 g3 => ?_
  have b3 := b1.mono (g2.f.trans g3.f) (g2.h.trans g3.h)
  have z : ∃ p vs, v = .ref p ∧ SqL K H3 p vs ∧ DqAll K G3 vs es := by
    rcases hd with rfl | rfl
    · obtain ⟨p, vs, e1, e2, e3⟩ := b3.list g3.sub
      exact ⟨p, vs, e1, .inl (.inl e2), e3⟩
    · exact b3.scr g3.sub
  obtain ⟨p, vs, rfl, hR, hA⟩ := z
  exact ⟨p, vs, rfl, hR, fun q hq => k q _ _ G3 (((g1.trans g2).trans g3).beside hq) (((g1.trans g2).trans g3).h.free hq) (g3.sub.free hq) upd_same (cutV_dq hA lo hi)⟩
theorem slS_ok {B : Bs} {te : TE} {tl th : TO} {f : SE} {a b : SO} (h : BOk K B te f) (h1 : OOk K B tl a) (h2 : OOk K B th b) : EOk K B (tSl rSlS te tl th) (eSlS f a b) := fun R F H σ ρ d' E q Q k => by
  cases e0 : f ρ with
  | none => simp [eSlS, e0] at q
  | some d =>
    cases e1 : a ρ with
    | none => simp [eSlS, e0, e1] at q
    | some lo =>
      cases e2 : b ρ with
      | none => simp [eSlS, e0, e1, e2] at q
      | some hi =>
        cases d with
        | str z =>
          simp only [eSlS, e0, e1, e2, Option.bind_some] at q
          split at q
          · rename_i hz
            cases q
            refine h _ F H σ ρ _ E e0 _ fun v H1 G1 g1 b1 => h1 _ G1 H1 σ ρ _ (E.grow g1) e1 _ fun H2 G2 g2 => h2 _ G2 H2 σ ρ _ ((E.grow g1).grow g2) e2 _ fun H3 G3 g3 => ?_
            exact ⟨z, b1.str, lim_line hz, k _ H3 G3 ((g1.trans g2).trans g3) (rp_str _)⟩
          · cases q
        | _ => simp [eSlS, e0, e1, e2] at q

/-! ### built-ins -/
theorem BpAll.two {G H : Hp} {vs : List V} {a b : PyData} (h : BpAll K G H vs [a, b]) : ∃ x y, vs = [x, y] ∧ Bp K G H x a ∧ Bp K G H y b := by
  cases h with
  | cons h1 h2 =>
    cases h2 with
    | cons h2 h3 =>
      cases h3
      exact ⟨_, _, rfl, h1, h2⟩
theorem BpAll.one {G H : Hp} {vs : List V} {a : PyData} (h : BpAll K G H vs [a]) : ∃ x, vs = [x] ∧ Bp K G H x a := by
  cases h with
  | cons h1 h2 =>
    cases h2
    exact ⟨_, rfl, h1⟩
def gLen : List PyData → Option PyData
  | [.list ds] => some (.int (ds.length : Nat))
  | [.tuple ds] => some (.int (ds.length : Nat))
  | [.dict [(.none, .list ds)]] => some (.int (ds.length : Nat))
  | [.str z] => if z.length ≤ LIM then some (.int (z.length : Nat)) else none
  | _ => none
def rLenA (K : PySem.W.Frag) : List V → Hp → VK → Prop := fun xs H Q => ∃ x n, xs = [x] ∧ LenV K x H n ∧ Q (.int n) H
theorem len_s : CallS K (rLenA K) gLen := fun G H xs ds d e b q Q k => by
  match ds, q with
  | [.list es], q =>
    cases q
    obtain ⟨x, rfl, b1⟩ := b.one
    obtain ⟨p, vs, rfl, h1, a1⟩ := b1.list e
    exact ⟨.ref p, vs.length, rfl, .inl ⟨vs, .inl (.inl h1), rfl⟩, k _ H G (Grow.refl e) (by rw [a1.len]; exact rp_int _)⟩
  | [.dict [(.none, .list es)]], q =>
    cases q
    obtain ⟨x, rfl, b1⟩ := b.one
    obtain ⟨p, vs, rfl, h1, a1⟩ := b1.scr e
    exact ⟨.ref p, vs.length, rfl, .inl ⟨vs, h1, rfl⟩, k _ H G (Grow.refl e) (by rw [a1.len]; exact rp_int _)⟩
  | [.tuple es], q =>
    cases q
    obtain ⟨x, rfl, b1⟩ := b.one
    obtain ⟨p, vs, rfl, h1, a1⟩ := b1.tuple e
    exact ⟨.ref p, vs.length, rfl, .inr ⟨vs, h1, rfl⟩, k _ H G (Grow.refl e) (by rw [a1.len]; exact rp_int _)⟩
  | [.str z], q =>
    simp only [gLen] at q
    split at q
    · rename_i hz
      cases q
      obtain ⟨x, rfl, b1⟩ := b.one
      cases b1.str
      exact ⟨.str z, z.length, rfl, ⟨lim_line hz, rfl⟩, k _ H G (Grow.refl e) (rp_int _)⟩
    · cases q
def gMax : List PyData → Option PyData
  | [.int i, .int j] => some (.int (if j > i then j else i))
  | _ => none
def gMin : List PyData → Option PyData
  | [.int i, .int j] => some (.int (if j < i then j else i))
  | _ => none
def rMax2 : List V → Hp → VK → Prop := fun xs H Q => ∃ i j, xs = [.int i, .int j] ∧ Q (.int (if j > i then j else i)) H
def rMin2 : List V → Hp → VK → Prop := fun xs H Q => ∃ i j, xs = [.int i, .int j] ∧ Q (.int (if j < i then j else i)) H
theorem max_s : CallS K rMax2 gMax := fun G H xs ds d e b q Q k => by
  match ds, q with
  | [.int i, .int j], q =>
    cases q
    obtain ⟨x, y, rfl, b1, b2⟩ := b.two
    cases b1.int
    cases b2.int
    exact ⟨i, j, rfl, k _ H G (Grow.refl e) (rp_int _)⟩
theorem min_s : CallS K rMin2 gMin := fun G H xs ds d e b q Q k => by
  match ds, q with
  | [.int i, .int j], q =>
    cases q
    obtain ⟨x, y, rfl, b1, b2⟩ := b.two
    cases b1.int
    cases b2.int
    exact ⟨i, j, rfl, k _ H G (Grow.refl e) (rp_int _)⟩
def gInt : List PyData → Option PyData
  | [.int i] => some (.int i)
  | [.bool b] => some (.int (if b then 1 else 0))
  | _ => none
def rInt1 : List V → Hp → VK → Prop := fun xs H Q => (∃ i, xs = [.int i] ∧ Q (.int i) H) ∨ ∃ k, xs = [.bl k] ∧ Q (.int (if k then 1 else 0)) H
theorem int_s : CallS K rInt1 gInt := fun G H xs ds d e b q Q k => by
  match ds, q with
  | [.int i], q =>
    cases q
    obtain ⟨x, rfl, b1⟩ := b.one
    cases b1.int
    exact .inl ⟨i, rfl, k _ H G (Grow.refl e) (rp_int _)⟩
  | [.bool c], q =>
    cases q
    obtain ⟨x, rfl, b1⟩ := b.one
    cases b1.bool
    exact .inr ⟨c, rfl, k _ H G (Grow.refl e) (rp_int _)⟩
/-- list(..) of a list, a tuple: a new list -/
def gListOf : List PyData → Option (List PyData)
  | [.list ds] => some ds
  | [.tuple ds] => some ds
  | _ => none
def rListOf (K : PySem.W.Frag) : List V → Hp → VK → Prop := fun xs H Q => ∃ p ys, xs = [.ref p] ∧ (SqL K H p ys ∨ SqT K H p ys) ∧ ∀ l, H l = none → Q (.ref l) (upd H l (.lst ys))
theorem listOf_s : CallL K (rListOf K) gListOf := fun G H xs ds d e b q Q k => by
  match ds, q with
  | [.list es], q =>
    cases q
    obtain ⟨x, rfl, b1⟩ := b.one
    obtain ⟨p, vs, rfl, h1, a1⟩ := b1.list e
    exact ⟨p, vs, rfl, .inl (.inl (.inl h1)), fun l hl => k l vs _ G ((Grow.refl e).beside hl) hl (e.free hl) upd_same a1⟩
  | [.tuple es], q =>
    cases q
    obtain ⟨x, rfl, b1⟩ := b.one
    obtain ⟨p, vs, rfl, h1, a1⟩ := b1.tuple e
    exact ⟨p, vs, rfl, .inr h1, fun l hl => k l vs _ G ((Grow.refl e).beside hl) hl (e.free hl) upd_same a1⟩
/-- sum(..) of a list of ints -/
def intsD : List PyData → Option (List Int)
  | [] => some []
  | .int i :: ds => (intsD ds).map (i :: ·)
  | _ :: _ => none
theorem intsD_ok : ∀ {ds : List PyData} {ns : List Int}, intsD ds = some ns → ds = ns.map PyData.int
  | [], ns, h => by cases h; rfl
  | .int i :: ds, ns, h => by
    cases e : intsD ds with
    | none => simp [intsD, e] at h
    | some ms =>
      simp [intsD, e] at h
      subst h
      rw [intsD_ok e]; rfl
  | .none :: _, _, h => by cases h
  | .bool _ :: _, _, h => by cases h
  | .str _ :: _, _, h => by cases h
  | .list _ :: _, _, h => by cases h
  | .tuple _ :: _, _, h => by cases h
  | .dict _ :: _, _, h => by cases h
theorem intsD_map (ns : List Int) : intsD (ns.map PyData.int) = some ns := by
  induction ns with
  | nil => rfl
  | cons n ns ih => simp [intsD, ih]
def gSum : List PyData → Option PyData
  | [.list ds] => (intsD ds).map fun ns => .int ns.sum
  | _ => none
theorem sum_s : CallS K (rSum K) gSum := fun G H xs ds d e b q Q k => by
  match ds, q with
  | [.list es], q =>
    cases hn : intsD es with
    | none => simp [gSum, hn] at q
    | some ns =>
      simp [gSum, hn] at q
      subst q
      obtain ⟨x, rfl, b1⟩ := b.one
      obtain ⟨p, vs, rfl, h1, a1⟩ := b1.list e
      rw [intsD_ok hn] at a1
      have ev := ints_dpa ns a1
      subst ev
      exact ⟨p, ns, rfl, .inl (.inl h1), k _ H G (Grow.refl e) (rp_int _)⟩
/-! ### isinstance of a built-in class -/
inductive TyN where
  | bool | int | str | list | tuple
def tyn : TyN → String
  | .bool => "bool"
  | .int => "int"
  | .str => "str"
  | .list => "list"
  | .tuple => "tuple"
def tyD : PyData → String
  | .none => "NoneType"
  | .bool _ => "bool"
  | .int _ => "int"
  | .str _ => "str"
  | .list _ => "list"
  | .tuple _ => "tuple"
  | .dict _ => "dict"
def isiD : TyN → PyData → Bool
  | .bool, .bool _ => true
  | .int, .bool _ => true
  | .int, .int _ => true
  | .str, .str _ => true
  | .list, .list _ => true
  | .tuple, .tuple _ => true
  | _, _ => false
theorem kitB_bool : ∀ T : TyN, kitB "bool" (tyn T) = some (isiD T (.bool true)) := fun T => by cases T <;> decide +kernel
theorem kitB_int : ∀ T : TyN, kitB "int" (tyn T) = some (isiD T (.int 0)) := fun T => by cases T <;> decide +kernel
theorem kitB_str : ∀ T : TyN, kitB "str" (tyn T) = some (isiD T (.str Str.empty)) := fun T => by cases T <;> decide +kernel
theorem kitB_list : ∀ T : TyN, kitB "list" (tyn T) = some (isiD T (.list [])) := fun T => by cases T <;> decide +kernel
theorem kitB_tuple : ∀ T : TyN, kitB "tuple" (tyn T) = some (isiD T (.tuple [])) := fun T => by cases T <;> decide +kernel
theorem kitB_none : ∀ T : TyN, kitB "NoneType" (tyn T) = some (isiD T .none) := fun T => by cases T <;> decide +kernel
theorem kitB_ok (T : TyN) (d : PyData) (hd : dataD d = true) : kitB (tyD d) (tyn T) = some (isiD T d) := by
  cases d with
  | dict _ => cases hd
  | none => exact kitB_none T
  | bool _ => have h := kitB_bool T; cases T <;> exact h
  | int _ => have h := kitB_int T; cases T <;> exact h
  | str _ => have h := kitB_str T; cases T <;> exact h
  | list _ => have h := kitB_list T; cases T <;> exact h
  | tuple _ => have h := kitB_tuple T; cases T <;> exact h
theorem sqt_ty {H : Hp} {a : Addr} {xs : List V} (h : SqT K H a xs) : TyX K H (.ref a) (.type "tuple") := by
  rcases h with (h | ⟨o, h⟩) | ⟨o, its, n, hk, hc, _⟩
  · exact .base (.tup h)
  · exact .fTuple h
  · exact .kTuple hk hc
theorem bp_ty {G H : Hp} {v : V} {d : PyData} (e : Same G H) (h : Bp K G H v d) (hd : dataD d = true) : TyX K H v (.type (tyD d)) := by
  cases d with
  | none => cases h.non; exact .base .non
  | bool b => cases h.bool; exact .base (.bl b)
  | int b => cases h.int; exact .base (.int b)
  | str b => cases h.str; exact .base (.str b)
  | list l => obtain ⟨p, vs, rfl, h1, _⟩ := h.list e; exact .base (.lst h1)
  | tuple l => obtain ⟨p, vs, rfl, h1, _⟩ := h.tuple e; exact sqt_ty h1
  | dict _ => cases hd
def eIsi (T : TyN) (f : SE) : SE := fun ρ => (f ρ).bind fun d => if dataD d = true then some (.bool (isiD T d)) else none
theorem isi_ok {B : Bs} {t : TE} {f : SE} (T : TyN) (h : BOk K B t f) : EOk K B (tCB (rIsi K) (tCons t (tCons (tC (.ty (tyn T))) tNil))) (eIsi T f) := fun R F H σ ρ d E q Q k => by
  cases e0 : f ρ with
  | none => simp [eIsi, e0] at q
  | some x =>
    simp only [eIsi, e0, Option.bind_some] at q
    split at q
    · rename_i hd
      cases q
      refine h _ F H σ ρ _ E e0 _ fun v H1 G1 g1 b1 => ?_
      exact ⟨v, .ty (tyn T), .type (tyD x), .type (tyn T), isiD T x, rfl, .ty _, bp_ty g1.sub b1 hd, kit_ty (kitB_ok T x hd), k _ H1 G1 g1 (rp_bool _)⟩
    · cases q
end
end RT
namespace RT
open PySem PySem.Spec PyProof.Rows L2
/-! ### tests -/
def bF (f : SE) : STe := fun ρ => (f ρ).bind fun d => match d with
  | .bool b => some b
  | _ => none
def tAndF (f g : STe) : STe := fun ρ => (f ρ).bind fun b => if b = true then g ρ else some false
def tOrF (f g : STe) : STe := fun ρ => (f ρ).bind fun b => if b = true then some true else g ρ
def tNotF (f : STe) : STe := fun ρ => (f ρ).map (!·)
def eAndF (f g : SE) : SE := fun ρ => (bF f ρ).bind fun b => if b = true then g ρ else some (.bool false)
def eOrF (f g : SE) : SE := fun ρ => (bF f ρ).bind fun b => if b = true then some (.bool true) else g ρ
def eNotF (f : SE) : SE := fun ρ => (bF f ρ).map fun b => .bool (!b)
def eIfF (t : STe) (f g : SE) : SE := fun ρ => (t ρ).bind fun b => if b = true then f ρ else g ρ
def eChainF (g g' : PyData → PyData → Option PyData) (f1 f2 f3 : SE) : SE := fun ρ => (f1 ρ).bind fun x => (f2 ρ).bind fun y => (g x y).bind fun z => match z with
  | .bool true => (f3 ρ).bind fun u => g' y u
  | .bool false => some (.bool false)
  | _ => none
theorem Rp.bl {K : PySem.W.Frag} {G : Hp} {v : V} {b : Bool} (h : Rp K G v (.bool b)) : v = .bl b := Bp.bool (H := G) (.inl h)
section
variable {K : PySem.W.Frag} {B : Bs} {t t1 t2 t3 : TE} {tt u : TT} {f f1 f2 f3 : SE} {g h : STe}
theorem bF_some {ρ : Rho} {b : Bool} (q : bF f ρ = some b) : f ρ = some (.bool b) := by
  unfold bF at q
  cases e : f ρ with
  | none => simp [e] at q
  | some d =>
    cases d with
    | bool c => simp [e] at q; rw [q]
    | _ => simp [e] at q
theorem tB_ok (k : EOk K B t f) : TOk K B (tB t) (bF f) := fun R F H σ ρ b E q Q kk => k _ F H σ ρ _ E (bF_some q) _ fun v H1 G1 g1 r => ⟨b, r.bl, kk H1 G1 g1⟩
theorem tTest_ok (k : EOk K B t f) : TOk K B (tTest t) (bF f) := fun R F H σ ρ b E q Q kk => k _ F H σ ρ _ E (bF_some q) _ fun v H1 G1 g1 r => ⟨b, r.bl, kk H1 G1 g1⟩
theorem tAnd_ok (k1 : TOk K B tt g) (k2 : TOk K B u h) : TOk K B (tAnd tt u) (tAndF g h) := fun R F H σ ρ b E q Q kk => by
  cases e1 : g ρ with
  | none => simp [tAndF, e1] at q
  | some c =>
    refine k1 _ F H σ ρ c E e1 _ fun H1 G1 g1 => ?_
    cases c with
    | true =>
      have q' : h ρ = some b := by simpa [tAndF, e1] using q
      show u σ H1 Q
      exact k2 _ G1 H1 σ ρ b (E.grow g1) q' Q fun H2 G2 g2 => kk H2 G2 (g1.trans g2)
    | false =>
      have q' : b = false := by simpa [tAndF, e1] using q.symm
      subst q'
      show Q false H1
      exact kk H1 G1 g1
theorem tOr_ok (k1 : TOk K B tt g) (k2 : TOk K B u h) : TOk K B (tOr tt u) (tOrF g h) := fun R F H σ ρ b E q Q kk => by
  cases e1 : g ρ with
  | none => simp [tOrF, e1] at q
  | some c =>
    refine k1 _ F H σ ρ c E e1 _ fun H1 G1 g1 => ?_
    cases c with
    | true =>
      have q' : b = true := by simpa [tOrF, e1] using q.symm
      subst q'
      show Q true H1
      exact kk H1 G1 g1
    | false =>
      have q' : h ρ = some b := by simpa [tOrF, e1] using q
      show u σ H1 Q
      exact k2 _ G1 H1 σ ρ b (E.grow g1) q' Q fun H2 G2 g2 => kk H2 G2 (g1.trans g2)
theorem tNot_ok (k1 : TOk K B tt g) : TOk K B (tNot tt) (tNotF g) := fun R F H σ ρ b E q Q kk => by
  cases e1 : g ρ with
  | none => simp [tNotF, e1] at q
  | some c =>
    have q' : b = !c := by simpa [tNotF, e1] using q.symm
    subst q'
    exact k1 _ F H σ ρ c E e1 _ fun H1 G1 g1 => kk H1 G1 g1
theorem andV_ok (k1 : EOk K B t1 f1) (k2 : EOk K B t2 f2) : EOk K B (tAndV t1 t2) (eAndF f1 f2) := fun R F H σ ρ d E q Q kk => by
  cases e1 : bF f1 ρ with
  | none => simp [eAndF, e1] at q
  | some c =>
    refine k1 _ F H σ ρ _ E (bF_some e1) _ fun v H1 G1 g1 r => ⟨c, r.bl, ?_⟩
    cases c with
    | true =>
      have q' : f2 ρ = some d := by simpa [eAndF, e1] using q
      show t2 σ H1 Q
      exact k2 _ G1 H1 σ ρ d (E.grow g1) q' Q fun v H2 G2 g2 r2 => kk v H2 G2 (g1.trans g2) r2
    | false =>
      have q' : d = .bool false := by simpa [eAndF, e1] using q.symm
      subst q'
      show Q (.bl false) H1
      exact kk _ H1 G1 g1 (rp_bool _)
theorem orV_ok (k1 : EOk K B t1 f1) (k2 : EOk K B t2 f2) : EOk K B (tOrV t1 t2) (eOrF f1 f2) := fun R F H σ ρ d E q Q kk => by
  cases e1 : bF f1 ρ with
  | none => simp [eOrF, e1] at q
  | some c =>
    refine k1 _ F H σ ρ _ E (bF_some e1) _ fun v H1 G1 g1 r => ⟨c, r.bl, ?_⟩
    cases c with
    | true =>
      have q' : d = .bool true := by simpa [eOrF, e1] using q.symm
      subst q'
      show Q (.bl true) H1
      exact kk _ H1 G1 g1 (rp_bool _)
    | false =>
      have q' : f2 ρ = some d := by simpa [eOrF, e1] using q
      show t2 σ H1 Q
      exact k2 _ G1 H1 σ ρ d (E.grow g1) q' Q fun v H2 G2 g2 r2 => kk v H2 G2 (g1.trans g2) r2
theorem notV_ok (k1 : EOk K B t1 f1) : EOk K B (tNotV t1) (eNotF f1) := fun R F H σ ρ d E q Q kk => by
  cases e1 : bF f1 ρ with
  | none => simp [eNotF, e1] at q
  | some c =>
    have q' : d = .bool (!c) := by simpa [eNotF, e1] using q.symm
    subst q'
    exact k1 _ F H σ ρ _ E (bF_some e1) _ fun v H1 G1 g1 r => ⟨c, r.bl, kk _ H1 G1 g1 (rp_bool _)⟩
theorem if_ok (k0 : TOk K B tt g) (k1 : EOk K B t1 f1) (k2 : EOk K B t2 f2) : EOk K B (tIf tt t1 t2) (eIfF g f1 f2) := fun R F H σ ρ d E q Q kk => by
  cases e1 : g ρ with
  | none => simp [eIfF, e1] at q
  | some c =>
    refine k0 _ F H σ ρ c E e1 _ fun H1 G1 g1 => ?_
    cases c with
    | true =>
      have q' : f1 ρ = some d := by simpa [eIfF, e1] using q
      show t1 σ H1 Q
      exact k1 _ G1 H1 σ ρ d (E.grow g1) q' Q fun v H2 G2 g2 r2 => kk v H2 G2 (g1.trans g2) r2
    | false =>
      have q' : f2 ρ = some d := by simpa [eIfF, e1] using q
      show t2 σ H1 Q
      exact k2 _ G1 H1 σ ρ d (E.grow g1) q' Q fun v H2 G2 g2 r2 => kk v H2 G2 (g1.trans g2) r2
theorem chain_ok {r r' : R2} {gg gg' : PyData → PyData → Option PyData} (o1 : OpS K r gg) (o2 : OpS K r' gg') (k1 : BOk K B t1 f1) (k2 : BOk K B t2 f2) (k3 : BOk K B t3 f3) : EOk K B (tChain r r' t1 t2 t3) (eChainF gg gg' f1 f2 f3) := fun R F H σ ρ d E q Q kk => by
  cases e1 : f1 ρ with
  | none => simp [eChainF, e1] at q
  | some x =>
    cases e2 : f2 ρ with
    | none => simp [eChainF, e1, e2] at q
    | some y =>
      cases e3 : gg x y with
      | none => simp [eChainF, e1, e2, e3] at q
      | some z =>
        cases z with
        | bool c =>
          refine k1 _ F H σ ρ x E e1 _ fun v H1 G1 g1 b1 => k2 _ G1 H1 σ ρ y (E.grow g1) e2 _ fun u H2 G2 g2 b2 => o1 G2 H2 v u x y _ g2.sub (b1.mono g2.f g2.h) b2 e3 _ fun w H3 G3 g3 r3 => ⟨c, r3.bl, ?_⟩
          cases c with
          | true =>
            cases e4 : f3 ρ with
            | none => simp [eChainF, e1, e2, e3, e4] at q
            | some u' =>
              have q' : gg' y u' = some d := by simpa [eChainF, e1, e2, e3, e4] using q
              show t3 σ H3 _
              exact k3 _ G3 H3 σ ρ u' (((E.grow g1).grow g2).grow g3) e4 _ fun w' H4 G4 g4 b4 => o2 G4 H4 u w' y u' d g4.sub (b2.mono (g3.f.trans g4.f) (g3.h.trans g4.h)) b4 q' Q fun z H5 G5 g5 r5 => kk z H5 G5 ((((g1.trans g2).trans g3).trans g4).trans g5) r5
          | false =>
            have q' : d = .bool false := by simpa [eChainF, e1, e2, e3] using q.symm
            subst q'
            show Q (.bl false) H3
            exact kk _ H3 G3 ((g1.trans g2).trans g3) (rp_bool _)
        | _ => simp [eChainF, e1, e2, e3] at q
end
/-- a op1 b op2 c op3 d -/
def tChain3 (r r' r2 : R2) (ta tb tc td : TE) : TE := fun σ H Q => ta σ H fun x H1 => tb σ H1 fun y H2 => r x y H2 fun z H3 => ∃ k, z = .bl k ∧
  (if k = true then tc σ H3 fun w' H4 => r' y w' H4 (fun z H5 => ∃ k, z = .bl k ∧ (if k = true then td σ H5 fun w2 H6 => r2 w' w2 H6 Q else Q (.bl false) H5)) else Q (.bl false) H3)
theorem pe_chain3 {X : Cx} {a b c d : Expr} {ta tb tc td : TE} {r r' r2 : R2} {pos : Pos} {op op' op2 : CmpOp} (ho : OpR X (compareOp op) r) (ho' : OpR X (compareOp op') r') (ho2 : OpR X (compareOp op2) r2) (ha : PE X a ta) (hb : PE X b tb) (hc : PE X c tc) (hd : PE X d td)
    (hm : lastMarks [op, op', op2] [b, c, d] = false := by with_unfolding_all rfl) : PE X (.Compare a [op, op', op2] [b, c, d] pos) (tChain3 r r' r2 ta tb tc td) := by
  refine ⟨fun pins s σ H Q I h => ?_⟩
  refine Compare_chain (thn (ha.run pins s σ H _ I h) fun v s1 ⟨x, H1, I1, r1, q1⟩ => chain_link (thn (hb.run pins s1 σ H1 _ I1 q1) fun u s2 ⟨y, H2, I2, r2, q2⟩ =>
    thn (ho pins s2 σ H2 x y v u _ I2 r1 r2 q2) fun d s3 ⟨z, H3, I3, r3, k, e, q3⟩ => ?_)) hm
  subst e
  cases r3
  refine wpAny_truthy_bool ?_
  cases k with
  | false => exact ite_ff ⟨.bl false, H3, I3, rfl, q3⟩
  | true =>
    refine ite_tt (chain_link (thn (hc.run pins s3 σ H3 _ I3 q3) fun w' s4 ⟨z', H4, I4, r4, q4⟩ => thn (ho' pins s4 σ H4 y z' u w' _ I4 r2 r4 q4) fun d2 s5 ⟨zz, H5, I5, r5, k2, e2, q5⟩ => ?_))
    subst e2
    cases r5
    refine wpAny_truthy_bool ?_
    cases k2 with
    | false => exact ite_ff ⟨.bl false, H5, I5, rfl, q5⟩
    | true => exact ite_tt (chain_last (thn (hd.run pins s5 σ H5 _ I5 q5) fun w2 s6 ⟨z2, H6, I6, r6, q6⟩ => ho2 pins s6 σ H6 z' z2 w' w2 Q I6 r4 r6 q6))
def eChain3F (g g' g2 : PyData → PyData → Option PyData) (f1 f2 f3 f4 : SE) : SE := fun ρ => (f1 ρ).bind fun x => (f2 ρ).bind fun y => (g x y).bind fun z => match z with
  | .bool true => (f3 ρ).bind fun u => (g' y u).bind fun z => match z with
    | .bool true => (f4 ρ).bind fun u2 => g2 u u2
    | .bool false => some (.bool false)
    | _ => none
  | .bool false => some (.bool false)
  | _ => none
theorem chain3_ok {K : PySem.W.Frag} {B : Bs} {t1 t2 t3 t4 : TE} {f1 f2 f3 f4 : SE} {r r' r2 : R2} {gg gg' gg2 : PyData → PyData → Option PyData} (o1 : OpS K r gg) (o2 : OpS K r' gg') (o3 : OpS K r2 gg2) (k1 : BOk K B t1 f1) (k2 : BOk K B t2 f2) (k3 : BOk K B t3 f3) (k4 : BOk K B t4 f4) :
    EOk K B (tChain3 r r' r2 t1 t2 t3 t4) (eChain3F gg gg' gg2 f1 f2 f3 f4) := fun R F H σ ρ d E q Q kk => by
  cases e1 : f1 ρ with
  | none => simp [eChain3F, e1] at q
  | some x =>
    cases e2 : f2 ρ with
    | none => simp [eChain3F, e1, e2] at q
    | some y =>
      cases e3 : gg x y with
      | none => simp [eChain3F, e1, e2, e3] at q
      | some z =>
        cases z with
        | bool c =>
          refine k1 _ F H σ ρ x E e1 _ fun v H1 G1 g1 b1 => k2 _ G1 H1 σ ρ y (E.grow g1) e2 _ fun u H2 G2 g2 b2 => o1 G2 H2 v u x y _ g2.sub (b1.mono g2.f g2.h) b2 e3 _ fun w H3 G3 g3 r3 => ⟨c, r3.bl, ?_⟩
          cases c with
          | true =>
            cases e4 : f3 ρ with
            | none => simp [eChain3F, e1, e2, e3, e4] at q
            | some u' =>
              cases e5 : gg' y u' with
              | none => simp [eChain3F, e1, e2, e3, e4, e5] at q
              | some z5 =>
                cases z5 with
                | bool c5 =>
                  show t3 σ H3 _
                  refine k3 _ G3 H3 σ ρ u' (((E.grow g1).grow g2).grow g3) e4 _ fun w' H4 G4 g4 b4 => o2 G4 H4 u w' y u' _ g4.sub (b2.mono (g3.f.trans g4.f) (g3.h.trans g4.h)) b4 e5 _ fun z H5 G5 g5 r5 => ⟨c5, r5.bl, ?_⟩
                  have gA := (((g1.trans g2).trans g3).trans g4).trans g5
                  cases c5 with
                  | true =>
                    cases e6 : f4 ρ with
                    | none => simp [eChain3F, e1, e2, e3, e4, e5, e6] at q
                    | some u2 =>
                      have q' : gg2 u' u2 = some d := by simpa [eChain3F, e1, e2, e3, e4, e5, e6] using q
                      show t4 σ H5 _
                      exact k4 _ G5 H5 σ ρ u2 (E.grow gA) e6 _ fun w6 H6 G6 g6 b6 => o3 G6 H6 w' w6 u' u2 d g6.sub (b4.mono (g5.f.trans g6.f) (g5.h.trans g6.h)) b6 q' Q fun z H7 G7 g7 r7 => kk z H7 G7 ((gA.trans g6).trans g7) r7
                  | false =>
                    have q' : d = .bool false := by simpa [eChain3F, e1, e2, e3, e4, e5] using q.symm
                    subst q'
                    show Q (.bl false) H5
                    exact kk _ H5 G5 gA (rp_bool _)
                | _ => simp [eChain3F, e1, e2, e3, e4, e5] at q
          | false =>
            have q' : d = .bool false := by simpa [eChain3F, e1, e2, e3] using q.symm
            subst q'
            show Q (.bl false) H3
            exact kk _ H3 G3 ((g1.trans g2).trans g3) (rp_bool _)
        | _ => simp [eChain3F, e1, e2, e3] at q

/-! ### what is walked -/
structure WalksD (K : PySem.W.Frag) (Al : Hp → Hp → Prop) (J : It) (ds : List PyData) : Prop where
  go : ∀ i G' H', Al G' H' → i < ds.length → J.go i H'
  yld : ∀ i G' H' x H'' d, Al G' H' → ds[i]? = some d → J.yld i H' x H'' → ∃ G'', Grow H' G' H'' G'' ∧ Rp K G'' x d
  stop : ∀ G' H', Al G' H' → J.stop ds.length H'
/-- over data that stand | over data that are read for a moment (nothing is changed meanwhile) -/
def IOk (K : PySem.W.Frag) (B : Bs) (wi : TI) (f : SA) : Prop := ∀ (R : Rg) (F H : Hp) (σ : L2.St) (ρ : Rho) (ds : List PyData), EnvOk K B R F H σ ρ → f ρ = some ds → ∀ R : It → Hp → Prop,
  (∀ J H1 G1, Grow H F H1 G1 → WalksD K (fun G' H' => Same G1 G' ∧ Same G' H') J ds → R J H1) → wi σ H R
def IBOk (K : PySem.W.Frag) (B : Bs) (wi : TI) (f : SA) : Prop := ∀ (R : Rg) (F H : Hp) (σ : L2.St) (ρ : Rho) (ds : List PyData), EnvOk K B R F H σ ρ → f ρ = some ds → ∀ R : It → Hp → Prop,
  (∀ J H1 G1, Grow H F H1 G1 → WalksD K (fun G' H' => Same G1 G' ∧ Same G' H' ∧ Same H1 H') J ds → R J H1) → wi σ H R
theorem WalksD.imp {K : PySem.W.Frag} {Al Al' : Hp → Hp → Prop} {J : It} {ds : List PyData} (h : WalksD K Al J ds) (hi : ∀ G' H', Al' G' H' → Al G' H') : WalksD K Al' J ds :=
  ⟨fun i G' H' a => h.go i G' H' (hi _ _ a), fun i G' H' x H'' d a => h.yld i G' H' x H'' d (hi _ _ a), fun G' H' a => h.stop G' H' (hi _ _ a)⟩
theorem IOk.b {K : PySem.W.Frag} {B : Bs} {wi : TI} {f : SA} (h : IOk K B wi f) : IBOk K B wi f := fun R F H σ ρ ds E q R k => h _ F H σ ρ ds E q R fun J H1 G1 g1 w => k J H1 G1 g1 (w.imp fun G' H' a => ⟨a.1, a.2.1⟩)
def iL (f : SE) : SA := fun ρ => (f ρ).bind fun d => match d with
  | .list ds => if ds.length ≤ LIM then some ds else none
  | _ => none
def iT (f : SE) : SA := fun ρ => (f ρ).bind fun d => match d with
  | .tuple ds => if ds.length ≤ LIM then some ds else none
  | _ => none
def signsD (z : Str) : List PyData := z.cps.toList.map fun c => .str ⟨#[c]⟩
def iS (f : SE) : SA := fun ρ => (f ρ).bind fun d => match d with
  | .str z => if z.length ≤ LIM then some (signsD z) else none
  | _ => none
def rangeD (lo : Int) (n : Nat) : List PyData := (List.range n).map fun i => .int (lo + (i : Nat))
def iR1 (f : SA) : SA := fun ρ => (f ρ).bind fun ds => match ds with
  | [.int j] => if j ≤ 1000000 ∧ -1000000 ≤ j then some (rangeD 0 j.toNat) else none
  | _ => none
def iR2 (f : SA) : SA := fun ρ => (f ρ).bind fun ds => match ds with
  | [.int i, .int j] => if (j ≤ 1000000 ∧ -1000000 ≤ j) ∧ i ≤ 1000000 ∧ -1000000 ≤ i then some (rangeD i (j - i).toNat) else none
  | _ => none
def enumD : Nat → List PyData → List PyData
  | _, [] => []
  | n, d :: ds => .tuple [.int (n : Nat), d] :: enumD (n + 1) ds
def iE (f : SA) : SA := fun ρ => (f ρ).bind fun ds => match ds with
  | [.list es] => if es.length ≤ LIM then some (enumD 0 es) else none
  | _ => none
theorem enumD_get : ∀ (ds : List PyData) (n i : Nat), (enumD n ds)[i]? = (ds[i]?).map fun d => .tuple [.int ((n + i : Nat) : Nat), d]
  | [], n, i => by simp [enumD]
  | d :: ds, n, 0 => by simp [enumD]
  | d :: ds, n, i + 1 => by
    rw [enumD, List.getElem?_cons_succ, enumD_get ds (n + 1) i, List.getElem?_cons_succ]
    have e : n + 1 + i = n + (i + 1) := by omega
    rw [e]
theorem enumD_len : ∀ (ds : List PyData) (n : Nat), (enumD n ds).length = ds.length
  | [], n => rfl
  | d :: ds, n => by simp [enumD, enumD_len ds (n + 1)]
section
variable {K : PySem.W.Frag} {B : Bs} {t : TE} {ta : TA} {f : SE} {sa : SA}
theorem walks_list {G1 : Hp} {a : Addr} {vs : List V} {ds : List PyData} {Al : Hp → Hp → Prop} (hA : DqAll K G1 vs ds) (h1 : ∀ G' H', Al G' H' → H' a = some (.lst vs)) (h2 : ∀ G' H', Al G' H' → Same G1 G' ∧ Same G' H') : WalksD K Al (Itl K a) ds where
  go := fun i G' H' al hi => by
    obtain ⟨d, hd⟩ : ∃ d, ds[i]? = some d := ⟨ds[i], List.getElem?_eq_getElem hi⟩
    obtain ⟨v, hv, _⟩ := hA.get hd
    exact ⟨vs, v, .inl (.inl (h1 _ _ al)), hv⟩
  yld := fun i G' H' x H'' d al hd y => by
    obtain ⟨e, y⟩ := y
    subst e
    have hx := y vs (.inl (.inl (h1 _ _ al)))
    obtain ⟨d', hd', r⟩ := hA.getV hx
    rw [hd] at hd'; cases hd'
    exact ⟨G', Grow.refl (h2 _ _ al).2, .inl (dpa_mono' (h2 _ _ al).1 r)⟩
  stop := fun G' H' al => ⟨vs, .inl (.inl (h1 _ _ al)), by rw [hA.len]; exact Nat.le_refl _⟩
where dpa_mono' {F G : Hp} (e : Same F G) {v : V} {d : PyData} (h : Dq K F v d) : Dq K G v d := dp_mono e d h
theorem iListB_ok (h : BOk K B t f) : IBOk K B (iList K t) (iL f) := fun R F H σ ρ ds E q R k => by
  cases e0 : f ρ with
  | none => simp [iL, e0] at q
  | some d =>
    cases d with
    | list es =>
      simp only [iL, e0, Option.bind_some] at q
      split at q
      · cases q
        refine h _ F H σ ρ _ E e0 _ fun v H1 G1 g1 b1 => ?_
        obtain ⟨p, vs, rfl, hR, hA⟩ := b1.list g1.sub
        exact ⟨p, rfl, ⟨vs, .inl (.inl hR)⟩, k _ H1 G1 g1 (walks_list hA (fun G' H' al => al.2.2 _ _ hR) fun G' H' al => ⟨al.1, al.2.1⟩)⟩
      · cases q
    | _ => simp [iL, e0] at q
theorem iList_ok (h : EOk K B t f) : IOk K B (iList K t) (iL f) := fun R F H σ ρ ds E q R k => by
  cases e0 : f ρ with
  | none => simp [iL, e0] at q
  | some d =>
    cases d with
    | list es =>
      simp only [iL, e0, Option.bind_some] at q
      split at q
      · cases q
        refine h _ F H σ ρ _ E e0 _ fun v H1 G1 g1 r1 => ?_
        have r2 := r1.dp
        cases r2 with
        | lst hR hA => exact ⟨_, rfl, ⟨_, .inl (.inl (g1.sub _ _ hR))⟩, k _ H1 G1 g1 (walks_list hA (fun G' H' al => (al.1.trans al.2) _ _ hR) fun G' H' al => al)⟩
      · cases q
    | _ => simp [iL, e0] at q
theorem iTup_ok (h : EOk K B t f) : IOk K B (iTup K t) (iT f) := fun R F H σ ρ ds E q R k => by
  cases e0 : f ρ with
  | none => simp [iT, e0] at q
  | some d =>
    cases d with
    | tuple es =>
      simp only [iT, e0, Option.bind_some] at q
      split at q
      · cases q
        refine h _ F H σ ρ _ E e0 _ fun v H1 G1 g1 r1 => ?_
        have r2 := r1.dp
        cases r2 with
        | @tup a vs _ hR hA =>
          refine ⟨a, rfl, ⟨vs, same_t g1.sub hR⟩, k _ H1 G1 g1 ⟨fun i G' H' al hi => ?_, fun i G' H' x H'' d al hd y => ?_, fun G' H' al => ⟨vs, same_t (al.1.trans al.2) hR, by rw [hA.len]; exact Nat.le_refl _⟩⟩⟩
          · obtain ⟨d, hd⟩ : ∃ d, ds[i]? = some d := ⟨ds[i], List.getElem?_eq_getElem hi⟩
            obtain ⟨v, hv, _⟩ := hA.get hd
            exact ⟨vs, v, same_t (al.1.trans al.2) hR, hv⟩
          · obtain ⟨e, y⟩ := y
            subst e
            have hx := y vs (same_t (al.1.trans al.2) hR)
            obtain ⟨d', hd', r⟩ := hA.getV hx
            rw [hd] at hd'; cases hd'
            exact ⟨G', Grow.refl al.2, .inl (dp_mono al.1 d r)⟩
      · cases q
    | _ => simp [iT, e0] at q
theorem iStr_ok (h : EOk K B t f) : IOk K B (iStr t) (iS f) := fun R F H σ ρ ds E q R k => by
  cases e0 : f ρ with
  | none => simp [iS, e0] at q
  | some d =>
    cases d with
    | str z =>
      simp only [iS, e0, Option.bind_some] at q
      split at q
      · cases q
        refine h _ F H σ ρ _ E e0 _ fun v H1 G1 g1 r1 => ?_
        have hl : (signsD z).length = z.cps.size := by simp [signsD]
        refine ⟨z, Bp.str (H := G1) (.inl r1), k _ H1 G1 g1 ⟨fun i G' H' al hi => by rw [hl] at hi; exact hi, fun i G' H' x H'' d al hd y => ?_, fun G' H' al => by rw [hl]; exact Nat.le_refl _⟩⟩
        obtain ⟨e, c, hc, rfl⟩ := y
        subst e
        refine ⟨G', Grow.refl al.2, ?_⟩
        have ec : z.cps.toList[i]? = some c := by simpa using hc
        have : d = .str ⟨#[c]⟩ := by
          unfold signsD at hd
          rw [List.getElem?_map, ec] at hd
          exact (Option.some.inj hd).symm
        rw [this]
        exact rp_str _
      · cases q
    | _ => simp [iS, e0] at q
theorem walks_range {Al : Hp → Hp → Prop} (lo : Int) (n : Nat) (h2 : ∀ G' H', Al G' H' → Same G' H') : WalksD K Al (Itr lo n) (rangeD lo n) where
  go := fun i G' H' al hi => by
    have h : i < n := by simpa [rangeD] using hi
    exact h
  yld := fun i G' H' x H'' d al hd y => by
    obtain ⟨e, y⟩ := y
    subst e
    subst y
    refine ⟨G', Grow.refl (h2 _ _ al), ?_⟩
    unfold rangeD at hd
    rw [List.getElem?_map] at hd
    cases hr : (List.range n)[i]? with
    | none => rw [hr] at hd; cases hd
    | some j =>
      have hi : i < n := by
        have := (List.getElem?_eq_some_iff.mp hr).1
        simpa using this
      have hj : j = i := by rw [List.getElem?_range hi] at hr; exact (Option.some.inj hr).symm
      rw [hr] at hd
      cases hd
      rw [hj]
      exact rp_int _
  stop := fun G' H' al => by simp [rangeD, Itr]
theorem ABOk.ints1 {F H : Hp} {σ : L2.St} {ρ : Rho} {i : Int} (h : ABOk K B ta sa) (E : EnvOk K B R F H σ ρ) (q : sa ρ = some [.int i]) {Q : List V → Hp → Prop} (k : ∀ H' G, Grow H F H' G → Q [.int i] H') : ta σ H Q :=
  h _ F H σ ρ _ E q Q fun vs H' G g b => by
    obtain ⟨x, rfl, b1⟩ := b.one
    cases b1.int
    exact k H' G g
theorem iRng1_ok (h : ABOk K B ta sa) : IOk K B (iRng1 ta) (iR1 sa) := fun R F H σ ρ ds E q R k => by
  cases e0 : sa ρ with
  | none => simp [iR1, e0] at q
  | some es =>
    match es, e0, q with
    | [.int j], e0, q =>
      simp only [iR1, e0, Option.bind_some] at q
      split at q
      · rename_i hj
        cases q
        exact h.ints1 E e0 fun H1 G1 g1 => ⟨j, rfl, by omega, by omega, k _ H1 G1 g1 (walks_range _ _ fun G' H' al => al.2)⟩
      · cases q
    | [], e0, q => simp [iR1, e0] at q
    | .none :: _, e0, q => simp [iR1, e0] at q
    | .bool _ :: _, e0, q => simp [iR1, e0] at q
    | .str _ :: _, e0, q => simp [iR1, e0] at q
    | .list _ :: _, e0, q => simp [iR1, e0] at q
    | .tuple _ :: _, e0, q => simp [iR1, e0] at q
    | .dict _ :: _, e0, q => simp [iR1, e0] at q
    | .int _ :: _ :: _, e0, q => simp [iR1, e0] at q
theorem iR2_inv {ρ : Rho} {ds : List PyData} (q : iR2 sa ρ = some ds) : ∃ i j, sa ρ = some [.int i, .int j] ∧ ((j ≤ 1000000 ∧ -1000000 ≤ j) ∧ i ≤ 1000000 ∧ -1000000 ≤ i) ∧ ds = rangeD i (j - i).toNat := by
  unfold iR2 at q
  cases e0 : sa ρ with
  | none => simp [e0] at q
  | some es =>
    rw [e0, Option.bind_some] at q
    split at q
    · rename_i i j
      split at q
      · rename_i hc
        cases q
        exact ⟨i, j, rfl, hc, rfl⟩
      · cases q
    · cases q
theorem iRng2_ok (h : ABOk K B ta sa) : IOk K B (iRng2 ta) (iR2 sa) := fun R F H σ ρ ds E q R k => by
  obtain ⟨i, j, e0, hc, rfl⟩ := iR2_inv q
  refine h _ F H σ ρ _ E e0 _ fun vs H1 G1 g1 b => ?_
  obtain ⟨x, y, rfl, b1, b2⟩ := b.two
  cases b1.int
  cases b2.int
  exact ⟨i, j, rfl, by omega, k _ H1 G1 g1 (walks_range _ _ fun G' H' al => al.2)⟩
theorem iE_inv {ρ : Rho} {ds : List PyData} (q : iE sa ρ = some ds) : ∃ es, sa ρ = some [.list es] ∧ ds = enumD 0 es := by
  unfold iE at q
  cases e0 : sa ρ with
  | none => simp [e0] at q
  | some es =>
    rw [e0, Option.bind_some] at q
    split at q
    · rename_i fs
      split at q
      · cases q
        exact ⟨fs, rfl, rfl⟩
      · cases q
    · cases q
theorem RpAll.one {F : Hp} {vs : List V} {a : PyData} (h : RpAll K F vs [a]) : ∃ x, vs = [x] ∧ Rp K F x a := by
  cases h with
  | cons h1 h2 =>
    cases h2
    exact ⟨_, rfl, h1⟩
theorem iEnum_ok (h : AOk K B ta sa) : IOk K B (iEnum K ta) (iE sa) := fun R F H σ ρ ds E q R k => by
  obtain ⟨es, e0, rfl⟩ := iE_inv q
  refine h _ F H σ ρ _ E e0 _ fun ws H1 G1 g1 b => ?_
  obtain ⟨x, rfl, b1⟩ := b.one
  have r2 := b1.dp
  cases r2 with
  | @lst a vs _ hR hA =>
    refine ⟨a, vs, rfl, .inl (.inl (g1.sub _ _ hR)), k _ H1 G1 g1 ⟨fun i G' H' al hi => ?_, fun i G' H' x H'' d al hd y => ?_, fun G' H' al => ⟨vs, .inl (.inl ((al.1.trans al.2) _ _ hR)), by rw [hA.len, enumD_len]; exact Nat.le_refl _⟩⟩⟩
    · rw [enumD_len] at hi
      obtain ⟨d, hd⟩ : ∃ d, es[i]? = some d := ⟨es[i], List.getElem?_eq_getElem hi⟩
      obtain ⟨v, hv, _⟩ := hA.get hd
      exact ⟨vs, v, .inl (.inl ((al.1.trans al.2) _ _ hR)), hv⟩
    · obtain ⟨T, v, rfl, hT, rfl, y⟩ := y
      have hx := y vs (.inl (.inl ((al.1.trans al.2) _ _ hR)))
      obtain ⟨d', hd', r⟩ := hA.getV hx
      rw [enumD_get, hd'] at hd
      have hd2 : d = .tuple [.int ((0 + i : Nat) : Nat), d'] := (Option.some.inj hd).symm
      have e00 : 0 + i = i := Nat.zero_add i
      rw [e00] at hd2
      subst hd2
      refine ⟨_, (Grow.refl al.2).new hT, .inl (.tup (.inl (.inl upd_same)) (.cons (.int _) (.cons ?_ .nil)))⟩
      exact dp_mono (al.1.trans (Same.upd_new (Same.refl G') (al.2.free hT))) d' r
end
end RT
namespace RT
open PySem PySem.Spec PyProof.Rows L2
/-! ### a comprehension: one name, its slot j -/
def lcF (j : Nat) (tst : STe) (el : SE) (ρ : Rho) : List PyData → Option (List PyData)
  | [] => some []
  | d :: ds => (tst (ρ.set j (.val d))).bind fun b =>
    if b = true then (el (ρ.set j (.val d))).bind fun e => if dataD e = true then (lcF j tst el ρ ds).map (e :: ·) else none
    else lcF j tst el ρ ds
def lLc (src : SA) (j : Nat) (tst : STe) (el : SE) : SA := fun ρ => (src ρ).bind fun ds => if ds.length ≤ LIM then lcF j tst el ρ ds else none
def tYesF : STe := fun _ => some true
theorem yes_ok {K : PySem.W.Frag} {B : Bs} : TOk K B tYes tYesF := fun R F H σ ρ b E q Q k => by
  cases q
  exact k H F (Grow.refl E.ex)
theorem EnvOk.setV {K : PySem.W.Frag} {B : Bs} {R : Rg} {F H : Hp} {σ : L2.St} {ρ : Rho} {v : V} {d : PyData} (E : EnvOk K B R F H σ ρ) (j : Nat) (r : Rp K F v d) : EnvOk K B R F H (σ.set j (some v)) (ρ.set j (.val d)) where
  bs := E.bs
  bh := E.bh
  bF := E.bF
  bo := E.bo
  rh := E.rh
  rF := E.rF
  rB := E.rB
  rr := E.rr
  obj := fun i o h => by
    by_cases hij : j = i
    · subst hij
      by_cases hj : j < ρ.length
      · rw [List.getElem?_set_self hj] at h
        cases h
      · rw [List.getElem?_eq_none (by simpa using hj)] at h
        cases h
    · rw [List.getElem?_set_ne hij] at h ⊢
      exact E.obj i o h
  oa := fun a0 q o a h h2 => by
    by_cases hij : j = 0
    · subst hij
      by_cases hj : 0 < ρ.length
      · rw [List.getElem?_set_self hj] at h
        cases h
      · rw [List.getElem?_eq_none (by simpa using hj)] at h
        cases h
    · rw [List.getElem?_set_ne hij] at h h2
      exact E.oa a0 q o a h h2
  ex := E.ex
  len := by simp [E.len]
  val := fun i d' h => by
    by_cases hij : j = i
    · subst hij
      by_cases hj : j < ρ.length
      · rw [List.getElem?_set_self hj] at h
        cases h
        exact ⟨v, by rw [List.getElem?_set_self (by rw [← E.len]; exact hj)], r⟩
      · rw [List.getElem?_eq_none (by simpa using hj)] at h
        cases h
    · rw [List.getElem?_set_ne hij] at h ⊢
      exact E.val i d' h
  own := fun i ds h => by
    by_cases hij : j = i
    · subst hij
      by_cases hj : j < ρ.length
      · rw [List.getElem?_set_self hj] at h
        cases h
      · rw [List.getElem?_eq_none (by simpa using hj)] at h
        cases h
    · rw [List.getElem?_set_ne hij] at h ⊢
      exact E.own i ds h
  dis := fun i k ds es p hik h1 h2 h3 h4 => by
    by_cases hij : j = i
    · subst hij
      by_cases hj : j < ρ.length
      · rw [List.getElem?_set_self hj] at h1
        cases h1
      · rw [List.getElem?_eq_none (by simpa using hj)] at h1
        cases h1
    · by_cases hkj : j = k
      · subst hkj
        by_cases hj : j < ρ.length
        · rw [List.getElem?_set_self hj] at h2
          cases h2
        · rw [List.getElem?_eq_none (by simpa using hj)] at h2
          cases h2
      · rw [List.getElem?_set_ne hij] at h1 h3
        rw [List.getElem?_set_ne hkj] at h2 h4
        exact E.dis i k ds es p hik h1 h2 h3 h4
theorem EnvOk.setN {K : PySem.W.Frag} {B : Bs} {R : Rg} {F H : Hp} {σ : L2.St} {ρ : Rho} (E : EnvOk K B R F H σ ρ) (j : Nat) (o : Option V) : EnvOk K B R F H (σ.set j o) (ρ.set j .no) where
  bs := E.bs
  bh := E.bh
  bF := E.bF
  bo := E.bo
  rh := E.rh
  rF := E.rF
  rB := E.rB
  rr := E.rr
  obj := fun i o h => by
    by_cases hij : j = i
    · subst hij
      by_cases hj : j < ρ.length
      · rw [List.getElem?_set_self hj] at h
        cases h
      · rw [List.getElem?_eq_none (by simpa using hj)] at h
        cases h
    · rw [List.getElem?_set_ne hij] at h ⊢
      exact E.obj i o h
  oa := fun a0 q o a h h2 => by
    by_cases hij : j = 0
    · subst hij
      by_cases hj : 0 < ρ.length
      · rw [List.getElem?_set_self hj] at h
        cases h
      · rw [List.getElem?_eq_none (by simpa using hj)] at h
        cases h
    · rw [List.getElem?_set_ne hij] at h h2
      exact E.oa a0 q o a h h2
  ex := E.ex
  len := by simp [E.len]
  val := fun i d' h => by
    by_cases hij : j = i
    · subst hij
      by_cases hj : j < ρ.length
      · rw [List.getElem?_set_self hj] at h
        cases h
      · rw [List.getElem?_eq_none (by simpa using hj)] at h
        cases h
    · rw [List.getElem?_set_ne hij] at h ⊢
      exact E.val i d' h
  own := fun i ds h => by
    by_cases hij : j = i
    · subst hij
      by_cases hj : j < ρ.length
      · rw [List.getElem?_set_self hj] at h
        cases h
      · rw [List.getElem?_eq_none (by simpa using hj)] at h
        cases h
    · rw [List.getElem?_set_ne hij] at h ⊢
      exact E.own i ds h
  dis := fun i k ds es p hik h1 h2 h3 h4 => by
    by_cases hij : j = i
    · subst hij
      by_cases hj : j < ρ.length
      · rw [List.getElem?_set_self hj] at h1
        cases h1
      · rw [List.getElem?_eq_none (by simpa using hj)] at h1
        cases h1
    · by_cases hkj : j = k
      · subst hkj
        by_cases hj : j < ρ.length
        · rw [List.getElem?_set_self hj] at h2
          cases h2
        · rw [List.getElem?_eq_none (by simpa using hj)] at h2
          cases h2
      · rw [List.getElem?_set_ne hij] at h1 h3
        rw [List.getElem?_set_ne hkj] at h2 h4
        exact E.dis i k ds es p hik h1 h2 h3 h4
theorem wipe1 (σ : L2.St) (j : Nat) : wipe σ [j] = σ.set j none := rfl
theorem wipe_back (σ : L2.St) (j : Nat) (o : Option V) : wipe ((wipe σ [j]).set j o) [j] = wipe σ [j] := by
  show ((σ.set j none).set j o).set j none = σ.set j none
  rw [List.set_set, List.set_set]
theorem drop_cons_of {α : Type} : ∀ {l : List α} {i : Nat} {x : α}, l[i]? = some x → l.drop i = x :: l.drop (i + 1)
  | [], i, x, h => by simp at h
  | a :: l, 0, x, h => by simp at h; subst h; rfl
  | a :: l, i + 1, x, h => by
    show l.drop i = x :: l.drop (i + 1)
    exact drop_cons_of (by simpa using h)
theorem lc_ok {K : PySem.W.Frag} {B : Bs} {wi : TI} {src : SA} {j : Nat} {tt : TT} {te : TE} {tst : STe} {el : SE} (hi : IBOk K B wi src) (ht : TOk K B tt tst) (he : EOk K B te el) : LOk K B (tLc wi (gName j) tt te [j]) (lLc src j tst el) := fun R F H σ ρ out E q Q k => by
  cases e0 : src ρ with
  | none => simp [lLc, e0] at q
  | some ds =>
    simp only [lLc, e0, Option.bind_some] at q
    split at q
    · rename_i hlen
      refine hi _ F H σ ρ ds E e0 _ fun J H1 G1 g1 w D hD => ?_
      have E1 : EnvOk K B R G1 H1 σ ρ := E.grow g1
      have hG1 : G1 D = none := g1.sub.free hD
      -- W: the turn, the measure, what the new list holds
      refine ⟨fun i m H' => m = ds.length - i ∧ i ≤ ds.length ∧ ∃ (G' : Hp) (acc : List V) (es rest : List PyData), Grow H1 G1 H' G' ∧ G' D = none ∧ H' D = some (.lst acc) ∧ DqAll K G' acc es ∧ acc.length ≤ i ∧ lcF j tst el ρ (ds.drop i) = some rest ∧ out = es ++ rest,
        ⟨ds.length, by simp, Nat.zero_le _, G1, [], [], out, (Grow.refl g1.sub).beside hD, hG1, upd_same, .nil, Nat.le_refl _, q, rfl⟩, ?_⟩
      rintro i m H' ⟨rfl, hile, G', acc, es, rest, g', hD', hacc, hA, hal, hr, hout⟩
      have al : Same G1 G' ∧ Same G' H' ∧ Same H1 H' := ⟨g'.f, g'.sub, g'.h⟩
      by_cases hlt : i < ds.length
      · refine .inr ⟨w.go i G' H' al hlt, fun H2 => ∃ m', m' < ds.length - i ∧ (m' = ds.length - (i + 1) ∧ i + 1 ≤ ds.length ∧ ∃ (G' : Hp) (acc : List V) (es rest : List PyData), Grow H1 G1 H2 G' ∧ G' D = none ∧ H2 D = some (.lst acc) ∧ DqAll K G' acc es ∧ acc.length ≤ i + 1 ∧ lcF j tst el ρ (ds.drop (i + 1)) = some rest ∧ out = es ++ rest),
          fun H2 h => h, fun x H2 y => ?_⟩
        have hd : ds[i]? = some ds[i] := List.getElem?_eq_getElem hlt
        obtain ⟨G2, g2, r2⟩ := w.yld i G' H' x H2 _ al hd y
        rw [drop_cons_of hd] at hr
        have E2 : EnvOk K B R G2 H2 ((wipe σ [j]).set j (some x)) (ρ.set j (.val ds[i])) := by
          have z := (((E1.grow g').grow g2).setN j none).setV j r2
          have e : (ρ.set j .no).set j (.val ds[i]) = ρ.set j (.val ds[i]) := List.set_set ..
          rw [e] at z
          exact z
        have nD : ∀ {H3 G3 : Hp}, Grow H2 G2 H3 G3 → G3 D = none ∧ H3 D = some (.lst acc) := fun g3 => by
          have z : Grow H' G' _ _ := g2.trans g3
          exact ⟨z.no D hD' (by rw [hacc]; intro z; cases z), z.h _ _ hacc⟩
        refine ⟨wipe_back σ j (some x), ?_⟩
        cases et : tst (ρ.set j (.val ds[i])) with
        | none => simp [lcF, et] at hr
        | some b =>
          refine ht _ G2 H2 _ _ b E2 et _ fun H3 G3 g3 => ?_
          cases b with
          | false =>
            have hr' : lcF j tst el ρ (ds.drop (i + 1)) = some rest := by simpa [lcF, et] using hr
            show ∃ m', _
            exact ⟨_, by omega, rfl, hlt, G3, acc, es, rest, (g'.trans g2).trans g3, (nD g3).1, (nD g3).2, dpa_mono (g2.f.trans g3.f) es hA, by omega, hr', hout⟩
          | true =>
            show te _ H3 _
            cases ee : el (ρ.set j (.val ds[i])) with
            | none => simp [lcF, et, ee] at hr
            | some e =>
              by_cases hde : dataD e = true
              · cases hrr : lcF j tst el ρ (ds.drop (i + 1)) with
                | none => simp [lcF, et, ee, hde, hrr] at hr
                | some rest' =>
                  have hr' : rest = e :: rest' := by simpa [lcF, et, ee, hde, hrr] using hr.symm
                  refine he _ G3 H3 _ _ e (E2.grow g3) ee _ fun y H4 G4 g4 r4 => ?_
                  have n4 := nD (g3.trans g4)
                  have gg := ((g'.trans g2).trans g3).trans g4
                  refine ⟨acc, n4.2, Nat.lt_of_lt_of_le (show acc.length < LIM + 1 by omega) (by decide), ds.length - (i + 1), by omega, rfl, hlt, G4, acc ++ [y], es ++ [e], rest', ⟨?_, gg.f, ?_, gg.no⟩, n4.1, upd_same, ?_, by rw [List.length_append]; simp; omega, rfl, by rw [hout, hr']; simp⟩
                  · intro b o z
                    rw [upd_ne (ne_of_none z hD)]
                    exact gg.h b o z
                  · intro b o z
                    rw [upd_ne (ne_of_none z n4.1)]
                    exact gg.sub b o z
                  · exact (dpa_mono ((g2.f.trans g3.f).trans g4.f) es hA).append (.cons (r4.dp (by rintro l rfl; cases hde)) .nil)
              · simp [lcF, et, ee, hde] at hr
      · have e : i = ds.length := by omega
        subst e
        rw [List.drop_length] at hr
        cases hr
        rw [List.append_nil] at hout
        subst hout
        exact .inl ⟨w.stop G' H' al, k D acc H' G' (g1.trans g') (g1.h.free hD) hD' hacc hA⟩
    · cases q
end RT
namespace RT
open PySem PySem.Spec PyProof.Rows L2
/-! ### statements -/
/-- where a function began: what it may change, the heap, the data -/
structure St0 where
  m : Hp
  h : Hp
  g : Hp
structure GrowM (Z : St0) (H F : Hp) : Prop where
  h : ∀ a o, Z.m a = none → Z.h a = some o → H a = some o
  al : ∀ a, Z.h a ≠ none → H a ≠ none
  f : Same Z.g F
  sub : Same F H
  no : ∀ a, Z.g a = none → Z.h a ≠ none → F a = none
theorem GrowM.grow {Z : St0} {H F H' G : Hp} (a : GrowM Z H F) (g : Grow H F H' G) : GrowM Z H' G where
  h := fun x o h1 h2 => g.h x o (a.h x o h1 h2)
  al := fun x h1 h2 => a.al x h1 (g.h.free h2)
  f := a.f.trans g.f
  sub := g.sub
  no := fun x h1 h2 => g.no x (a.no x h1 h2) (a.al x h2)
structure StOk (K : PySem.W.Frag) (B : Bs) (Z : St0) (R : Rg) (F H : Hp) (σ : L2.St) (ρ : Rho) : Prop where
  env : EnvOk K B R F H σ ρ
  gr : GrowM Z H F
  fr : ∀ (i : Nat) (ds : List PyData) (p : Addr), ρ[i]? = some (.own ds) → σ[i]? = some (some (.ref p)) → Z.h p = none
  fo : ∀ i a, R i a ≠ none → Z.m a ≠ none ∨ Z.h a = none
abbrev XW := Str → L2.St → Hp → Prop
/-- what is wanted of an outcome -/
def Goes (K : PySem.W.Frag) (B : Bs) (Z : St0) (F : Hp) (D : Ends) (W : XW) : Out → Prop
  | .no => False
  | .nx ρ => ∀ σ H R F', StOk K B Z R F' H σ ρ → Same F F' → D.nx σ H
  | .rt d ρ => ∀ v σ H R F', StOk K B Z R F' H σ ρ → Same F F' → Rp K F' v d → D.rt v H
  | .ex c ρ => ∀ σ H R F', StOk K B Z R F' H σ ρ → Same F F' → W c σ H
  | .ro i ρ => ∀ v σ H R F', StOk K B Z R F' H σ ρ → σ[i]? = some (some v) → Same F F' → D.rt v H
def SSOk (K : PySem.W.Frag) (B : Bs) (W : XW) (t : TS) (f : SS) : Prop := ∀ (Z : St0) (R : Rg) (F H : Hp) (σ : L2.St) (ρ : Rho) (D : Ends), StOk K B Z R F H σ ρ → Goes K B Z F D W (f ρ) → t D σ H
structure SemS (X : Cx) (K : PySem.W.Frag) (B : Bs) (W : XW) (st : Stmt) (t : TS) (f : SS) : Prop where
  ps : PS X st t
  ok : SSOk K B W t f
structure SemSs (X : Cx) (K : PySem.W.Frag) (B : Bs) (W : XW) (st : List Stmt) (t : TS) (f : SS) : Prop where
  ps : PSs X st t
  ok : SSOk K B W t f
def sSeq (f g : SS) : SS := fun ρ => match f ρ with
  | .no => .no
  | .nx r => g r
  | .rt d r => .rt d r
  | .ex c r => .ex c r
  | .ro i r => .ro i r
def sNext : SS := fun ρ => .nx ρ
def sSet (i : Nat) (f : SE) : SS := fun ρ => match f ρ with
  | some d => .nx (ρ.set i (.val d))
  | none => .no
def sSetL (i : Nat) (f : SA) : SS := fun ρ => match f ρ with
  | some ds => .nx (ρ.set i (.own ds))
  | none => .no
def sDrop (f : SE) : SS := fun ρ => match f ρ with
  | some _ => .nx ρ
  | none => .no
def sIf (t : STe) (f g : SS) : SS := fun ρ => match t ρ with
  | some true => f ρ
  | some false => g ρ
  | none => .no
def frz1 : Sl → Sl
  | .own ds => .val (.list ds)
  | s => s
def sRet (f : SE) : SS := fun ρ => match f (ρ.map frz1) with
  | some d => .rt d (ρ.map frz1)
  | none => .no
def sRetN : SS := fun ρ => .rt .none ρ
def sApp (i : Nat) (f : SE) : SS := fun ρ => match ρ[i]?, f ρ with
  | some (.own ds), some d => if dataD d = true ∧ ds.length ≤ LIM then .nx (ρ.set i (.own (ds ++ [d]))) else .no
  | _, _ => .no
def sPut (i : Nat) (ix f : SE) : SS := fun ρ => match ρ[i]?, f ρ, ix ρ with
  | some (.own ds), some d, some (.int k) => match ixN ds.length k with
    | some j => if dataD d = true then .nx (ρ.set i (.own (ds.set j d))) else .no
    | none => .no
  | _, _, _ => .no
def forF (tg : PyData → Rho → Option Rho) (body : SS) : List PyData → Rho → Out
  | [], ρ => .nx ρ
  | d :: ds, ρ => match tg d ρ with
    | none => .no
    | some r => match body r with
      | .no => .no
      | .nx r2 => forF tg body ds r2
      | .rt e r2 => .rt e r2
      | .ex c r2 => .ex c r2
      | .ro i r2 => .ro i r2
def sFor (src : SA) (tg : PyData → Rho → Option Rho) (body : SS) : SS := fun ρ => match src ρ with
  | some ds => forF tg body ds ρ
  | none => .no
def tg1 (j : Nat) : PyData → Rho → Option Rho := fun d ρ => some (ρ.set j (.val d))
def tg2 (i j : Nat) : PyData → Rho → Option Rho := fun d ρ => match d with
  | .tuple [a, b] => some ((ρ.set i (.val a)).set j (.val b))
  | _ => none

section
variable {K : PySem.W.Frag} {B : Bs} {Z : St0} {R : Rg} {F F' H : Hp} {W : XW} {σ : L2.St} {ρ : Rho} {D : Ends}
theorem Goes.mono {o : Out} (h : Goes K B Z F D W o) (e : Same F F') : Goes K B Z F' D W o := by
  cases o with
  | no => exact h
  | nx r => exact fun σ H R F2 s e2 => h σ H R F2 s (e.trans e2)
  | rt d r => exact fun v σ H R F2 s e2 r => h v σ H R F2 s (e.trans e2) r
  | ex c r => exact fun σ H R F2 s e2 => h σ H R F2 s (e.trans e2)
  | ro i r => exact fun v σ H R F2 s e1 e2 => h v σ H R F2 s e1 (e.trans e2)
theorem StOk.grow {G H' : Hp} (s : StOk K B Z R F H σ ρ) (g : Grow H F H' G) : StOk K B Z R G H' σ ρ := ⟨s.env.grow g, s.gr.grow g, s.fr, s.fo⟩
theorem StOk.setV {v : V} {d : PyData} (s : StOk K B Z R F H σ ρ) (j : Nat) (r : Rp K F v d) : StOk K B Z R F H (σ.set j (some v)) (ρ.set j (.val d)) :=
  ⟨s.env.setV j r, s.gr, fun i ds p h1 h2 => by
    by_cases hij : j = i
    · subst hij
      by_cases hj : j < ρ.length
      · rw [List.getElem?_set_self hj] at h1
        cases h1
      · rw [List.getElem?_eq_none (by simpa using hj)] at h1
        cases h1
    · rw [List.getElem?_set_ne hij] at h1 h2
      exact s.fr i ds p h1 h2, s.fo⟩
theorem next_ok : SSOk K B W tNext sNext := fun Z R F H σ ρ D s g => g σ H R F s (Same.refl F)
theorem seq_ok {t u : TS} {f g : SS} (k1 : SSOk K B W t f) (k2 : SSOk K B W u g) : SSOk K B W (tSeq t u) (sSeq f g) := fun Z R F H σ ρ D s hg => by
  refine k1 Z R F H σ ρ _ s ?_
  unfold sSeq at hg
  cases e : f ρ with
  | no => rw [e] at hg; exact hg
  | nx r =>
    rw [e] at hg
    exact fun σ' H' R' F' s' e' => k2 Z R' F' H' σ' r D s' (Goes.mono (o := g r) hg e')
  | rt d r => rw [e] at hg; exact hg
  | ex c r => rw [e] at hg; exact hg
  | ro i r => rw [e] at hg; exact hg
theorem set_ok {te : TE} {f : SE} (i : Nat) (k : EOk K B te f) : SSOk K B W (tAsg te (gName i)) (sSet i f) := fun Z R F H σ ρ D s hg => by
  unfold sSet at hg
  cases e : f ρ with
  | none => rw [e] at hg; exact hg.elim
  | some d =>
    rw [e] at hg
    exact k _ F H σ ρ d s.env e _ fun v H' G g r => hg _ H' R G ((s.grow g).setV i r) g.f
theorem StOk.setL {p : Addr} {vs : List V} {ds : List PyData} {H' G : Hp} (s : StOk K B Z R F H σ ρ) (g : Grow H F H' G) (j : Nat) (h1 : H p = none) (h2 : G p = none) (h3 : H' p = some (.lst vs)) (h4 : DqAll K G vs ds) :
    StOk K B Z R G H' (σ.set j (some (.ref p))) (ρ.set j (.own ds)) := by
  have s' := s.grow g
  have old : ∀ (i : Nat) (es : List PyData), ρ[i]? = some (.own es) → σ[i]? = some (some (.ref p)) → False := fun i es q1 q2 => by
    obtain ⟨p', vs', e1, e2, _⟩ := s.env.own i es q1
    rw [q2] at e1; cases e1
    rw [h1] at e2; cases e2
  refine ⟨⟨s'.env.bs, s'.env.bh, s'.env.bF, s'.env.bo, s'.env.ex, s'.env.rh, s'.env.rF, s'.env.rB, s'.env.rr, by simp [s'.env.len], fun i d h => ?_, fun i es h => ?_, fun i k es fs q hik q1 q2 q3 q4 => ?_, fun i o h => ?_, fun a0 q o a h h2 => ?_⟩, s'.gr, fun i es q q1 q2 => ?_, s.fo⟩
  · by_cases hij : j = i
    · subst hij
      by_cases hj : j < ρ.length
      · rw [List.getElem?_set_self hj] at h
        cases h
      · rw [List.getElem?_eq_none (by simpa using hj)] at h
        cases h
    · rw [List.getElem?_set_ne hij] at h ⊢
      exact s'.env.val i d h
  · by_cases hij : j = i
    · subst hij
      by_cases hj : j < ρ.length
      · rw [List.getElem?_set_self hj] at h
        cases h
        exact ⟨p, vs, by rw [List.getElem?_set_self (by rw [← s.env.len]; exact hj)], h3, h4, h2, fun i => (s.env.rh i).free h1, s.env.bh.free h1⟩
      · rw [List.getElem?_eq_none (by simpa using hj)] at h
        cases h
    · rw [List.getElem?_set_ne hij] at h ⊢
      exact s'.env.own i es h
  · by_cases hij : j = i
    · subst hij
      have hjl : j < ρ.length := by
        have := (List.getElem?_eq_some_iff.mp q1).1
        simpa using this
      rw [List.getElem?_set_self (by rw [← s.env.len]; exact hjl)] at q3
      cases q3
      rw [List.getElem?_set_ne hik] at q2 q4
      exact old k fs q2 q4
    · by_cases hkj : j = k
      · subst hkj
        have hjl : j < ρ.length := by
          have := (List.getElem?_eq_some_iff.mp q2).1
          simpa using this
        rw [List.getElem?_set_self (by rw [← s.env.len]; exact hjl)] at q4
        cases q4
        rw [List.getElem?_set_ne hij] at q1 q3
        exact old i es q1 q3
      · rw [List.getElem?_set_ne hij] at q1 q3
        rw [List.getElem?_set_ne hkj] at q2 q4
        exact s.env.dis i k es fs q hik q1 q2 q3 q4
  · by_cases hij : j = i
    · subst hij
      by_cases hj : j < ρ.length
      · rw [List.getElem?_set_self hj] at h
        cases h
      · rw [List.getElem?_eq_none (by simpa using hj)] at h
        cases h
    · rw [List.getElem?_set_ne hij] at h ⊢
      exact s'.env.obj i o h
  · by_cases hij : j = 0
    · subst hij
      by_cases hj : 0 < ρ.length
      · rw [List.getElem?_set_self hj] at h
        cases h
      · rw [List.getElem?_eq_none (by simpa using hj)] at h
        cases h
    · rw [List.getElem?_set_ne hij] at h h2
      exact s.env.oa a0 q o a h h2
  · by_cases hij : j = i
    · subst hij
      have hjl : j < ρ.length := by
        have := (List.getElem?_eq_some_iff.mp q1).1
        simpa using this
      rw [List.getElem?_set_self (by rw [← s.env.len]; exact hjl)] at q2
      cases q2
      cases z : Z.h p with
      | none => rfl
      | some u => exact absurd h1 (s.gr.al p (by rw [z]; intro q; cases q))
    · rw [List.getElem?_set_ne hij] at q1 q2
      exact s.fr i es q q1 q2
theorem setL_ok {te : TE} {f : SA} (i : Nat) (k : LOk K B te f) : SSOk K B W (tAsg te (gName i)) (sSetL i f) := fun Z R F H σ ρ D s hg => by
  unfold sSetL at hg
  cases e : f ρ with
  | none => rw [e] at hg; exact hg.elim
  | some ds =>
    rw [e] at hg
    exact k _ F H σ ρ ds s.env e _ fun p vs H' G g h1 h2 h3 h4 => hg _ H' R G (s.setL g i h1 h2 h3 h4) g.f
theorem drop_ok {te : TE} {f : SE} (k : EOk K B te f) : SSOk K B W (tDrop te) (sDrop f) := fun Z R F H σ ρ D s hg => by
  unfold sDrop at hg
  cases e : f ρ with
  | none => rw [e] at hg; exact hg.elim
  | some d =>
    rw [e] at hg
    exact k _ F H σ ρ d s.env e _ fun v H' G g r => hg _ H' R G (s.grow g) g.f
theorem ifS_ok {tc : TT} {t u : TS} {c : STe} {f g : SS} (k0 : TOk K B tc c) (k1 : SSOk K B W t f) (k2 : SSOk K B W u g) : SSOk K B W (tIfS tc t u) (sIf c f g) := fun Z R F H σ ρ D s hg => by
  unfold sIf at hg
  cases e : c ρ with
  | none => rw [e] at hg; exact hg.elim
  | some b =>
    rw [e] at hg
    refine k0 _ F H σ ρ b s.env e _ fun H' G g => ?_
    cases b with
    | true =>
      show t D σ H'
      exact k1 Z R G H' σ ρ D (s.grow g) (Goes.mono hg g.f)
    | false =>
      show u D σ H'
      exact k2 Z R G H' σ ρ D (s.grow g) (Goes.mono hg g.f)
/-- own lists become data -/
theorem StOk.frz (s : StOk K B Z R F H σ ρ) : ∃ F', Same F F' ∧ StOk K B Z R F' H σ (ρ.map frz1) := by
  classical
  let own : Addr → Prop := fun a => ∃ (i : Nat) (ds : List PyData), ρ[i]? = some (.own ds) ∧ σ[i]? = some (some (.ref a))
  have oF : ∀ a, own a → F a = none ∧ (∃ u, H a = some u) ∧ Z.h a = none ∧ (∀ i, R i a = none) ∧ B.h a = none := fun a ⟨i, ds, h1, h2⟩ => by
    obtain ⟨p, vs, e1, e2, e3, e4, e5, e6⟩ := s.env.own i ds h1
    rw [h2] at e1; cases e1
    exact ⟨e4, ⟨_, e2⟩, s.fr i ds a h1 h2, e5, e6⟩
  have sm : Same F (fun a => if own a then H a else F a) := fun a o h => by
    by_cases ho : own a
    · rw [(oF a ho).1] at h; cases h
    · show (if own a then H a else F a) = some o
      rw [if_neg ho]; exact h
  have sb : Same (fun a => if own a then H a else F a) H := fun a o h => by
    have h' : (if own a then H a else F a) = some o := h
    by_cases ho : own a
    · rw [if_pos ho] at h'; exact h'
    · rw [if_neg ho] at h'; exact s.env.ex a o h'
  have val2 : ∀ (i : Nat) (x : Sl), (ρ.map frz1)[i]? = some x → ∃ y, ρ[i]? = some y ∧ frz1 y = x := fun i x h => by
    rw [List.getElem?_map] at h
    cases e : ρ[i]? with
    | none => rw [e] at h; cases h
    | some y => rw [e] at h; exact ⟨y, rfl, Option.some.inj h⟩
  have noown : ∀ (i : Nat) (ds : List PyData), (ρ.map frz1)[i]? = some (.own ds) → False := fun i ds h => by
    obtain ⟨y, _, e⟩ := val2 i _ h
    cases y <;> cases e
  refine ⟨_, sm, ⟨s.env.bs.trans sm, s.env.bh, fun a ha => ?_, s.env.bo, sb, s.env.rh, fun i a ha => ?_, s.env.rB, s.env.rr, by simp [s.env.len], fun i d h => ?_, fun i ds h => (noown i ds h).elim, fun i j ds es p _ h _ _ _ => noown i ds h, fun i o h => ?_, fun a0 q o a h h2 => ?_⟩, ⟨s.gr.h, s.gr.al, s.gr.f.trans sm, sb, fun a h1 h2 => ?_⟩, fun i ds p h _ => (noown i ds h).elim, s.fo⟩
  · show (if own a then H a else F a) = none
    by_cases ho : own a
    · exact absurd (oF a ho).2.2.2.2 ha
    · rw [if_neg ho]; exact s.env.bF a ha
  · show (if own a then H a else F a) = none
    by_cases ho : own a
    · exact absurd ((oF a ho).2.2.2.1 i) ha
    · rw [if_neg ho]; exact s.env.rF i a ha
  · obtain ⟨y, hy, e⟩ := val2 i _ h
    cases y with
    | no => cases e
    | val d' =>
      cases e
      obtain ⟨v, e1, e2⟩ := s.env.val i d hy
      exact ⟨v, e1, e2.mono sm⟩
    | own ds =>
      cases e
      obtain ⟨p, vs, e1, e2, e3, e4, _⟩ := s.env.own i ds hy
      refine ⟨.ref p, e1, .inl (.lst ?_ (dpa_mono sm ds e3))⟩
      show (if own p then H p else F p) = some (.lst vs)
      rw [if_pos ⟨i, ds, hy, e1⟩]
      exact e2
    | obj o => cases e
  · obtain ⟨y, hy, e⟩ := val2 i _ h
    cases y with
    | no => cases e
    | val d' => cases e
    | own ds => cases e
    | obj o' =>
      cases e
      obtain ⟨a, e1, e2⟩ := s.env.obj i o hy
      exact ⟨a, e1, e2.mono sm (Same.refl (R i))⟩
  · obtain ⟨y, hy, e⟩ := val2 0 _ h
    cases y with
    | no => cases e
    | val d' => cases e
    | own ds => cases e
    | obj o' =>
      cases e
      exact s.env.oa a0 q o a hy h2
  · show (if own a then H a else F a) = none
    by_cases ho : own a
    · exact absurd (oF a ho).2.2.1 h2
    · rw [if_neg ho]
      exact s.gr.no a h1 h2
theorem ret_ok {te : TE} {f : SE} (k : EOk K B te f) : SSOk K B W (tRet te) (sRet f) := fun Z R F H σ ρ D s hg => by
  unfold sRet at hg
  obtain ⟨F', e1, s'⟩ := s.frz
  cases e : f (ρ.map frz1) with
  | none => rw [e] at hg; exact hg.elim
  | some d =>
    rw [e] at hg
    exact k _ F' H σ _ d s'.env e _ fun v H' G g r => hg v σ H' R G (s'.grow g) (e1.trans g.f) r
theorem retN_ok : SSOk K B W tRetN sRetN := fun Z R F H σ ρ D s hg => hg .non σ H R F s (Same.refl F) rp_non
/-- an own list changes -/
theorem StOk.upd {p : Addr} {vs : List V} {ds es : List PyData} (s : StOk K B Z R F H σ ρ) (j : Nat) (h1 : ρ[j]? = some (.own ds)) (h2 : σ[j]? = some (some (.ref p))) (h4 : DqAll K F vs es) :
    StOk K B Z R F (L2.upd H p (.lst vs)) σ (ρ.set j (.own es)) := by
  obtain ⟨p', vs', e1, e2, e3, e4, e5, e6⟩ := s.env.own j ds h1
  rw [h2] at e1; cases e1
  have hp := s.fr j ds p h1 h2
  have sub : Same F (L2.upd H p (.lst vs)) := fun a o h => by
    rw [upd_ne (ne_of_none h e4)]; exact s.env.ex a o h
  refine ⟨⟨s.env.bs, fun a o h => by rw [upd_ne (ne_of_none h e6)]; exact s.env.bh a o h, s.env.bF, s.env.bo, sub, fun i a o h => by rw [upd_ne (ne_of_none h (e5 i))]; exact s.env.rh i a o h, s.env.rF, s.env.rB, s.env.rr, by simp [s.env.len], fun i d h => ?_, fun i fs h => ?_, fun i k fs gs q hik q1 q2 q3 q4 => ?_, fun i o h => ?_, fun a0 q o a h hs => ?_⟩,
    ⟨fun a o h0 h => by rw [upd_ne (ne_of_none h hp)]; exact s.gr.h a o h0 h, fun a h0 => by
      by_cases ha : a = p
      · rw [ha, upd_same]; intro z; cases z
      · rw [upd_ne ha]; exact s.gr.al a h0, s.gr.f, sub, s.gr.no⟩, fun i fs q q1 q2 => ?_, s.fo⟩
  · by_cases hij : j = i
    · subst hij
      rw [List.getElem?_set_self (List.getElem?_eq_some_iff.mp h1).1] at h
      cases h
    · rw [List.getElem?_set_ne hij] at h
      exact s.env.val i d h
  · by_cases hij : j = i
    · subst hij
      rw [List.getElem?_set_self (List.getElem?_eq_some_iff.mp h1).1] at h
      cases h
      exact ⟨p, vs, h2, upd_same, h4, e4, e5, e6⟩
    · rw [List.getElem?_set_ne hij] at h
      obtain ⟨p2, vs2, g1, g2, g3, g4, g5⟩ := s.env.own i fs h
      refine ⟨p2, vs2, g1, ?_, g3, g4, g5⟩
      rw [upd_ne (fun z => s.env.dis i j fs ds p2 (Ne.symm hij) h h1 g1 (by rw [z]; exact h2))]
      exact g2
  · by_cases hij : j = i
    · subst hij
      rw [List.getElem?_set_ne hik] at q2
      exact s.env.dis j k ds gs q hik h1 q2 q3 q4
    · by_cases hkj : j = k
      · subst hkj
        rw [List.getElem?_set_ne hij] at q1
        exact s.env.dis i j fs ds q hik q1 h1 q3 q4
      · rw [List.getElem?_set_ne hij] at q1
        rw [List.getElem?_set_ne hkj] at q2
        exact s.env.dis i k fs gs q hik q1 q2 q3 q4
  · by_cases hij : j = i
    · subst hij
      rw [List.getElem?_set_self (List.getElem?_eq_some_iff.mp h1).1] at h
      cases h
    · rw [List.getElem?_set_ne hij] at h
      exact s.env.obj i o h
  · by_cases hij : j = 0
    · subst hij
      rw [List.getElem?_set_self (List.getElem?_eq_some_iff.mp h1).1] at h
      cases h
    · rw [List.getElem?_set_ne hij] at h
      exact s.env.oa a0 q o a h hs
  · by_cases hij : j = i
    · subst hij
      exact s.fr j ds q h1 q2
    · rw [List.getElem?_set_ne hij] at q1
      exact s.fr i fs q q1 q2
theorem app_okS {te : TE} {f : SE} (i : Nat) (k : EOk K B te f) : SSOk K B W (tDrop (tBM K "list" rAppend (tVar i) (tCons te tNil))) (sApp i f) := fun Z R F H σ ρ D s hg => by
  unfold sApp at hg
  split at hg
  · rename_i ds d h1 h2
    split at hg
    · rename_i hc
      obtain ⟨p, vs, e1, e2, e3, e4, _⟩ := s.env.own i ds h1
      refine ⟨.ref p, e1, .inl ⟨rfl, vs, .inl (.inl e2)⟩, ?_⟩
      refine k _ F H σ ρ d s.env h2 _ fun v H' G g r => ?_
      refine ⟨p, vs, v, rfl, rfl, g.h _ _ e2, Nat.lt_of_lt_of_le (show vs.length < LIM + 1 by rw [e3.len]; omega) (by decide), ?_⟩
      exact hg _ _ R G ((s.grow g).upd i h1 e1 ((dpa_mono g.f ds e3).append (.cons (r.dp (by rintro l rfl; cases hc.1)) .nil))) g.f
    · exact hg.elim
  · exact hg.elim
theorem put_okS {te tix : TE} {f ix : SE} (i : Nat) (k : EOk K B te f) (kx : EOk K B tix ix) : SSOk K B W (tAsg te (gSub (tVar i) tix rSetL)) (sPut i ix f) := fun Z R F H σ ρ D s hg => by
  unfold sPut at hg
  split at hg
  · rename_i ds d kk h1 h2 h3
    split at hg
    · rename_i j hj
      split at hg
      · rename_i hc
        obtain ⟨p, vs, e1, e2, e3, e4, _⟩ := s.env.own i ds h1
        refine k _ F H σ ρ d s.env h2 _ fun v H' G g r => ⟨.ref p, e1, ?_⟩
        refine kx _ G H' σ ρ _ (s.env.grow g) h3 _ fun u H2 G2 g2 r2 => ?_
        refine ⟨p, vs, kk, j, rfl, Bp.int (H := G2) (.inl r2), (g.trans g2).h _ _ e2, by rw [e3.len]; exact hj, ?_⟩
        exact hg _ _ R G2 (((s.grow g).grow g2).upd i h1 e1 ((dpa_mono (g.f.trans g2.f) ds e3).set ((r.mono g2.f).dp (by rintro l rfl; cases hc)) j)) (g.f.trans g2.f)
      · exact hg.elim
    · exact hg.elim
  · exact hg.elim
/-- a target -/
def TGOk (K : PySem.W.Frag) (g : TG) (tg : PyData → Rho → Option Rho) : Prop := ∀ (B : Bs) (Z : St0) (R : Rg) (F H : Hp) (σ : L2.St) (ρ ρ1 : Rho) (v : V) (d : PyData), StOk K B Z R F H σ ρ → Rp K F v d → tg d ρ = some ρ1 →
  ∀ Q : L2.St → Hp → Prop, (∀ σ1, StOk K B Z R F H σ1 ρ1 → Q σ1 H) → g v σ H Q
theorem tg1_ok (j : Nat) : TGOk K (gName j) (tg1 j) := fun B Z R F H σ ρ ρ1 v d s r q Q k => by
  cases q
  exact k _ (s.setV j r)
theorem tg2_ok (i j : Nat) : TGOk K (gTup K 2 (gCons (gName i) (gCons (gName j) gNil))) (tg2 i j) := fun B Z R F H σ ρ ρ1 v d s r q Q k => by
  unfold tg2 at q
  split at q
  · rename_i a b
    cases q
    have r2 := r.dp
    cases r2 with
    | @tup p vs _ hs ha =>
      cases ha with
      | @cons v1 _ _ _ h1 h2 =>
        cases h2 with
        | @cons v2 _ _ _ h2 h3 =>
          cases h3
          refine ⟨p, [v1, v2], rfl, same_t s.env.ex hs, rfl, v1, [v2], rfl, v2, [], rfl, rfl, ?_⟩
          exact k _ ((s.setV i (.inl h1)).setV j (.inl h2))
  · cases q
theorem for_okS {wi : TI} {g : TG} {tb : TS} {src : SA} {tg : PyData → Rho → Option Rho} {body : SS} (hi : IOk K B wi src) (ht : TGOk K g tg) (kb : SSOk K B W tb body) : SSOk K B W (tFor wi g tb) (sFor src tg body) := fun Z R F H σ ρ D s hg => by
  unfold sFor at hg
  cases e0 : src ρ with
  | none => rw [e0] at hg; exact hg.elim
  | some ds =>
    rw [e0] at hg
    refine hi _ F H σ ρ ds s.env e0 _ fun J H1 G1 g1 w => ?_
    have s1 := s.grow g1
    refine ⟨fun i m σ' H' => m = ds.length - i ∧ i ≤ ds.length ∧ ∃ (R' : Rg) (F' : Hp) (ρ' : Rho), StOk K B Z R' F' H' σ' ρ' ∧ Same G1 F' ∧ Goes K B Z F' D W (forF tg body (ds.drop i) ρ'),
      ⟨ds.length, by simp, Nat.zero_le _, R, G1, ρ, s1, Same.refl G1, Goes.mono hg g1.f⟩, ?_⟩
    rintro i m σ' H' ⟨rfl, hile, R', F', ρ', s', e', hg'⟩
    have al : Same G1 F' ∧ Same F' H' := ⟨e', s'.env.ex⟩
    by_cases hlt : i < ds.length
    · have hd : ds[i]? = some ds[i] := List.getElem?_eq_getElem hlt
      rw [drop_cons_of hd] at hg'
      refine .inr ⟨w.go i F' H' al hlt, fun σ2 H2 => ∃ m', m' < ds.length - i ∧ (m' = ds.length - (i + 1) ∧ i + 1 ≤ ds.length ∧ ∃ (R' : Rg) (F' : Hp) (ρ' : Rho), StOk K B Z R' F' H2 σ2 ρ' ∧ Same G1 F' ∧ Goes K B Z F' D W (forF tg body (ds.drop (i + 1)) ρ')),
        fun σ2 H2 h => h, fun x H2 y => ?_⟩
      obtain ⟨F2, g2, r2⟩ := w.yld i F' H' x H2 _ al hd y
      unfold forF at hg'
      cases et : tg ds[i] ρ' with
      | none => rw [et] at hg'; exact hg'.elim
      | some r =>
        rw [et] at hg'
        refine ht B Z R' F2 H2 σ' ρ' r x _ (s'.grow g2) r2 et _ fun σ1 s3 => ?_
        refine kb Z R' F2 H2 σ1 r _ s3 ?_
        cases eb : body r with
        | no =>
          simp only [eb] at hg'
          exact hg'.elim
        | nx r2 =>
          simp only [eb] at hg'
          exact fun σ4 H4 R4 F4 s4 e4 => ⟨_, by omega, rfl, hlt, R4, F4, r2, s4, (e'.trans g2.f).trans e4, Goes.mono hg' (g2.f.trans e4)⟩
        | rt d r2 =>
          simp only [eb] at hg'
          exact Goes.mono (o := .rt d r2) hg' g2.f
        | ex c r2 =>
          simp only [eb] at hg'
          exact Goes.mono (o := .ex c r2) hg' g2.f
        | ro i r2 =>
          simp only [eb] at hg'
          exact Goes.mono (o := .ro i r2) hg' g2.f
    · have e : i = ds.length := by omega
      subst e
      rw [List.drop_length] at hg'
      exact .inl ⟨w.stop F' H' al, hg' σ' H' R' F' s' (Same.refl F')⟩
end
end RT
namespace RT
open PySem PySem.Spec PyProof.Rows L2
/-! ### the words of a derivation -/
section
variable {X : Cx} {K : PySem.W.Frag} {B : Bs} {W : XW} {e a b c d : Expr} {es : List Expr} {t t1 t2 t3 t4 : TE} {ta : TA} {f f1 f2 f3 f4 : SE} {sa : SA} {pos : Pos} {tt u : TT} {g h : STe}
theorem se_var (i : Nat) {x : Str} {pos : Pos} (hN : X.N[i]? = some x := by rfl) (hv : Vis X.env.scope x := by first | exact Or.inl rfl | exact Or.inr (Or.inl rfl) | exact Or.inr (Or.inr rfl)) (hd : (x == ("__debug__" : Str)) = false := by decide)
    (hcd : (x == ("__classdict__" : Str)) = false := by decide) : SemE X K B (.Name x pos) (tVar i) (eVar i) := ⟨pe_var hN hv hd hcd, var_ok i⟩
theorem sb_var (i : Nat) {x : Str} {pos : Pos} (hN : X.N[i]? = some x := by rfl) (hv : Vis X.env.scope x := by first | exact Or.inl rfl | exact Or.inr (Or.inl rfl) | exact Or.inr (Or.inr rfl)) (hd : (x == ("__debug__" : Str)) = false := by decide)
    (hcd : (x == ("__classdict__" : Str)) = false := by decide) : SemB X K B (.Name x pos) (tVar i) (eVarB i) := ⟨pe_var hN hv hd hcd, varB_ok i⟩
theorem se_int {i j} : SemE X K B (.Constant (.int i) j pos) (tC (.int i)) (eC (.int i)) := ⟨pe_int, c_ok fun _ => rp_int _⟩
theorem se_str {i j} : SemE X K B (.Constant (.str i) j pos) (tC (.str i)) (eC (.str i)) := ⟨pe_str, c_ok fun _ => rp_str _⟩
theorem se_bool {i j} : SemE X K B (.Constant (.bool i) j pos) (tC (.bl i)) (eC (.bool i)) := ⟨pe_bl, c_ok fun _ => rp_bool _⟩
theorem se_none {j} : SemE X K B (.Constant .none j pos) (tC .non) (eC .none) := ⟨pe_non, c_ok fun _ => rp_non⟩
theorem se_globI {x : Str} {i : Int} (hm : ∃ tk, X.mg x = some (.int i tk)) (hg : Gl X x := by rfl) (hd : (x == ("__debug__" : Str)) = false := by decide) : SemE X K B (.Name x pos) (tC (.int i)) (eC (.int i)) :=
  let ⟨tk, hm⟩ := hm; ⟨pe_glob hg hm ⟨tk, rfl⟩ hd, c_ok fun _ => rp_int _⟩
theorem se_globS {x : Str} {i : Str} (hm : ∃ tk, X.mg x = some (.str i tk)) (hg : Gl X x := by rfl) (hd : (x == ("__debug__" : Str)) = false := by decide) : SemE X K B (.Name x pos) (tC (.str i)) (eC (.str i)) :=
  let ⟨tk, hm⟩ := hm; ⟨pe_glob hg hm ⟨tk, rfl⟩ hd, c_ok fun _ => rp_str _⟩
/-- two-place -/
theorem se_op {op : Operator} {r : R2} {gg : PyData → PyData → Option PyData} (hs : OpS K r gg) (ho : OpR X (binaryOp op) r) (h1 : SemB X K B a t1 f1) (h2 : SemB X K B b t2 f2) : SemE X K B (.BinOp a op b pos) (tOp r t1 t2) (eOp gg f1 f2) := ⟨pe_op ho h1.pe h2.pe, op_ok hs h1.ok h2.ok⟩
theorem se_add (h1 : SemB X K B a t1 f1) (h2 : SemB X K B b t2 f2) : SemE X K B (.BinOp a .Add b pos) (tOp rAdd3 t1 t2) (eOp gAdd f1 f2) := se_op add3_s op_add3 h1 h2
theorem se_sub (h1 : SemB X K B a t1 f1) (h2 : SemB X K B b t2 f2) : SemE X K B (.BinOp a .Sub b pos) (tOp (rI0 fun i j => .int (i - j)) t1 t2) (eOp gMinus f1 f2) := se_op sub_s op_sub h1 h2
theorem se_mul (h1 : SemB X K B a t1 f1) (h2 : SemB X K B b t2 f2) : SemE X K B (.BinOp a .Mult b pos) (tOp rMul3 t1 t2) (eOp gMul f1 f2) := se_op mul3_s op_mul3 h1 h2
theorem se_fdiv (h1 : SemB X K B a t1 f1) (h2 : SemB X K B b t2 f2) : SemE X K B (.BinOp a .FloorDiv b pos) (tOp (rI CDiv fun i j => .int (i / j)) t1 t2) (eOp gFdiv f1 f2) := se_op fdiv_s op_fdiv h1 h2
theorem se_mod (h1 : SemB X K B a t1 f1) (h2 : SemB X K B b t2 f2) : SemE X K B (.BinOp a .Mod b pos) (tOp (rI (fun _ j => 0 < j) fun i j => .int (i % j)) t1 t2) (eOp gMod f1 f2) := se_op mod_s op_mod h1 h2
def gNeg : PyData → Option PyData
  | .int i => some (.int (-i))
  | _ => none
theorem se_neg (h1 : SemB X K B a t1 f1) : SemE X K B (.UnaryOp .USub a pos) (tUn (rU fun i => .int (-i)) t1) (eUn gNeg f1) := ⟨pe_un un_neg h1.pe, un_ok (fun G H x d1 d e b q Q k => by
  cases d1 with
  | int i =>
    cases q
    exact ⟨i, b.int, k _ H G (Grow.refl e) (rp_int _)⟩
  | _ => cases q) h1.ok⟩
/-- comparisons, as values and as tests -/
theorem se_cmp {op : CmpOp} {r : R2} {gg : PyData → PyData → Option PyData} (hs : OpS K r gg) (ho : OpR X (compareOp op) r) (h1 : SemB X K B a t1 f1) (h2 : SemB X K B b t2 f2) (hm : behindInMarks op b = false) : SemE X K B (.Compare a [op] [b] pos) (tOp r t1 t2) (eOp gg f1 f2) :=
  ⟨pe_cmpR ho h1.pe h2.pe hm, op_ok hs h1.ok h2.ok⟩
theorem st_cmp {op : CmpOp} {r : R2} {gg : PyData → PyData → Option PyData} (hs : OpS K r gg) (ho : OpR X (compareOp op) r) (h1 : SemB X K B a t1 f1) (h2 : SemB X K B b t2 f2) (hm : behindInMarks op b = false) : SemT X K B (.Compare a [op] [b] pos) (tTest (tOp r t1 t2)) (bF (eOp gg f1 f2)) :=
  ⟨pt_cmpR ho h1.pe h2.pe hm, tTest_ok (op_ok hs h1.ok h2.ok)⟩
theorem se_chain {op op' : CmpOp} {r r' : R2} {gg gg' : PyData → PyData → Option PyData} (hs : OpS K r gg) (ho : OpR X (compareOp op) r) (hs' : OpS K r' gg') (ho' : OpR X (compareOp op') r') (h1 : SemB X K B a t1 f1) (h2 : SemB X K B b t2 f2) (h3 : SemB X K B c t3 f3)
    (hm : lastMarks [op, op'] [b, c] = false := by with_unfolding_all rfl) : SemE X K B (.Compare a [op, op'] [b, c] pos) (tChain r r' t1 t2 t3) (eChainF gg gg' f1 f2 f3) := ⟨pe_chain ho ho' h1.pe h2.pe h3.pe hm, chain_ok hs hs' h1.ok h2.ok h3.ok⟩
theorem st_chain {op op' : CmpOp} {r r' : R2} {gg gg' : PyData → PyData → Option PyData} (hs : OpS K r gg) (ho : OpR X (compareOp op) r) (hs' : OpS K r' gg') (ho' : OpR X (compareOp op') r') (h1 : SemB X K B a t1 f1) (h2 : SemB X K B b t2 f2) (h3 : SemB X K B c t3 f3)
    (hm : lastMarks [op, op'] [b, c] = false := by with_unfolding_all rfl) : SemT X K B (.Compare a [op, op'] [b, c] pos) (tTest (tChain r r' t1 t2 t3)) (bF (eChainF gg gg' f1 f2 f3)) := ⟨pt_chain ho ho' h1.pe h2.pe h3.pe hm, tTest_ok (chain_ok hs hs' h1.ok h2.ok h3.ok)⟩
theorem se_chain3 {op op' op2 : CmpOp} {r r' r2 : R2} {gg gg' gg2 : PyData → PyData → Option PyData} (hs : OpS K r gg) (ho : OpR X (compareOp op) r) (hs' : OpS K r' gg') (ho' : OpR X (compareOp op') r') (hs2 : OpS K r2 gg2) (ho2 : OpR X (compareOp op2) r2)
    (h1 : SemB X K B a t1 f1) (h2 : SemB X K B b t2 f2) (h3 : SemB X K B c t3 f3) (h4 : SemB X K B d t4 f4) (hm : lastMarks [op, op', op2] [b, c, d] = false := by with_unfolding_all rfl) : SemE X K B (.Compare a [op, op', op2] [b, c, d] pos) (tChain3 r r' r2 t1 t2 t3 t4) (eChain3F gg gg' gg2 f1 f2 f3 f4) :=
  ⟨pe_chain3 ho ho' ho2 h1.pe h2.pe h3.pe h4.pe hm, chain3_ok hs hs' hs2 h1.ok h2.ok h3.ok h4.ok⟩
/-- tests -/
theorem st_val (h : SemE X K B e t f) (he : ∀ whole, isTrue e X.env whole = (do let v ← whole; standAt e.pos; holding [v] (truthy v)) := by intro _; rfl) : SemT X K B e (tB t) (bF f) := ⟨pt_val h.pe he, tB_ok h.ok⟩
theorem st_not (h : SemT X K B e tt g) : SemT X K B (.UnaryOp .Not e pos) (tNot tt) (tNotF g) := ⟨pt_not h.pt, tNot_ok h.ok⟩
theorem SemW.toT (h : SemW X K B e tt g) : SemT X K B e tt g := ⟨h.pw.pt, h.ok⟩
theorem sw_and1 (h1 : SemT X K B a tt g) : SemW X K B (.BoolOp .And [a] pos) tt g := ⟨pw_and1 h1.pt, h1.ok⟩
theorem sw_or1 (h1 : SemT X K B a tt g) : SemW X K B (.BoolOp .Or [a] pos) tt g := ⟨pw_or1 h1.pt, h1.ok⟩
theorem sw_and (h1 : SemT X K B a tt g) (h2 : SemW X K B (.BoolOp .And (b :: es) pos) u h) : SemW X K B (.BoolOp .And (a :: b :: es) pos) (tAnd tt u) (tAndF g h) := ⟨pw_and h1.pt h2.pw, tAnd_ok h1.ok h2.ok⟩
theorem sw_or (h1 : SemT X K B a tt g) (h2 : SemW X K B (.BoolOp .Or (b :: es) pos) u h) : SemW X K B (.BoolOp .Or (a :: b :: es) pos) (tOr tt u) (tOrF g h) := ⟨pw_or h1.pt h2.pw, tOr_ok h1.ok h2.ok⟩
theorem x_wt (h : SemW X K B e tt g) : SemT X K B e tt g := h.toT
theorem x_eb (h : SemE X K B e t f) : SemB X K B e t f := h.b
theorem x_le {sa : SA} (h : SemL X K B e t sa) : SemE X K B e t (eList sa) := h.toE
theorem x_ac (h1 : SemE X K B e t f) (h2 : SemA X K B es ta sa) (hs : starEach (e :: es) X.env = (false, eval e X.env) :: starEach es X.env := by rfl) : SemA X K B (e :: es) (tCons t ta) (eCons f sa) := h1.cons h2 hs
theorem x_abc (h1 : SemB X K B e t f) (h2 : SemAB X K B es ta sa) (hs : starEach (e :: es) X.env = (false, eval e X.env) :: starEach es X.env := by rfl) : SemAB X K B (e :: es) (tCons t ta) (eCons f sa) := h1.cons h2 hs
theorem se_one {op} (h : SemE X K B a t f) : SemE X K B (.BoolOp op [a] pos) t f := ⟨pe_one h.pe, h.ok⟩
theorem se_and (h1 : SemE X K B a t1 f1) (h2 : SemE X K B (.BoolOp .And (b :: es) pos) t2 f2) : SemE X K B (.BoolOp .And (a :: b :: es) pos) (tAndV t1 t2) (eAndF f1 f2) := ⟨pe_and h1.pe h2.pe, andV_ok h1.ok h2.ok⟩
theorem se_or (h1 : SemE X K B a t1 f1) (h2 : SemE X K B (.BoolOp .Or (b :: es) pos) t2 f2) : SemE X K B (.BoolOp .Or (a :: b :: es) pos) (tOrV t1 t2) (eOrF f1 f2) := ⟨pe_or h1.pe h2.pe, orV_ok h1.ok h2.ok⟩
theorem se_not (h1 : SemE X K B a t1 f1) : SemE X K B (.UnaryOp .Not a pos) (tNotV t1) (eNotF f1) := ⟨pe_not h1.pe, notV_ok h1.ok⟩
theorem se_if (h0 : SemT X K B c tt g) (h1 : SemE X K B a t1 f1) (h2 : SemE X K B b t2 f2) : SemE X K B (.IfExp c a b pos) (tIf tt t1 t2) (eIfF g f1 f2) := ⟨pe_ifExp h0.pt h1.pe h2.pe, if_ok h0.ok h1.ok h2.ok⟩
/-- items, slices, displays -/
theorem se_ix (h1 : SemB X K B a t1 f1) (h2 : SemB X K B b t2 f2) (hs : PlainIx b := by exact fun _ _ => rfl) (hK : X.K = K := by rfl) : SemE X K B (.Subscript a b pos) (tOp (rIx K) t1 t2) (eOp gIx f1 f2) := by
  subst hK
  exact ⟨pe_ix ix_seq h1.pe h2.pe hs, op_ok ix_s h1.ok h2.ok⟩
theorem sl_sl {lo hi : Option Expr} {tl th : TO} {oa ob : SO} {p2 : Pos} (h : SemB X K B a t f) (h1 : SemO X K B lo tl oa) (h2 : SemO X K B hi th ob) (hK : X.K = K := by rfl) : SemL X K B (.Subscript a (.Slice lo hi none p2) pos) (tSl (rSlL K) t tl th) (lSl f oa ob) := by
  subst hK
  exact ⟨pe_slice sl_list h.pe h1.po h2.po, slL_ok h.ok h1.ok h2.ok⟩
theorem se_slS {lo hi : Option Expr} {tl th : TO} {oa ob : SO} {p2 : Pos} (h : SemB X K B a t f) (h1 : SemO X K B lo tl oa) (h2 : SemO X K B hi th ob) : SemE X K B (.Subscript a (.Slice lo hi none p2) pos) (tSl rSlS t tl th) (eSlS f oa ob) := ⟨pe_slice sl_str h.pe h1.po h2.po, slS_ok h.ok h1.ok h2.ok⟩
theorem se_tup {x1} (h : SemA X K B es ta sa) : SemE X K B (.Tuple es x1 pos) (tTup ta) (eTupD sa) := ⟨pe_tup h.pa, tup_ok h.ok⟩
theorem sl_lst (h : SemA X K B es ta sa) : SemL X K B (.List es pos) (tLst ta) (eLstD sa) := ⟨pe_lst h.pa, lst_ok h.ok⟩
/-- built-ins by their names -/
theorem se_cb {id : String} {x : Str} {p : Pos} {r : List V → Hp → VK → Prop} {gg : List PyData → Option PyData} (hs : CallS K r gg) (hc : CallR X (.builtin id) r) (hm : X.mg x = none) (ha : SemAB X K B (e :: es) ta sa) (hg : Gl X x := by rfl) (hv : bootBuiltins x = some (.builtin id) := by decide +kernel)
    (hn : x ≠ "__name__" := by decide) (hdb : (x == ("__debug__" : Str)) = false := by decide) (he : starEach (e :: es) X.env = (false, eval e X.env) :: starEach es X.env := by rfl) (hpl : (backTo pos (starEach es X.env)).any (·.1) = false := by rfl) :
    SemE X K B (.Call (.Name x p) (e :: es) [] pos) (tCB r ta) (eCall gg sa) := ⟨pe_callB hc hg hm hv ha.pa hn hdb he hpl, cb_ok hs ha.ok⟩
theorem se_ct {T : String} {x : Str} {p : Pos} {r : List V → Hp → VK → Prop} {gg : List PyData → Option PyData} (hs : CallS K r gg) (hc : CallR X (.type T) r) (hm : X.mg x = none) (ha : SemAB X K B (e :: es) ta sa) (hg : Gl X x := by rfl) (hv : bootBuiltins x = some (.type T) := by decide +kernel)
    (hn : x ≠ "__name__" := by decide) (hdb : (x == ("__debug__" : Str)) = false := by decide) (he : starEach (e :: es) X.env = (false, eval e X.env) :: starEach es X.env := by rfl) (hpl : (backTo pos (starEach es X.env)).any (·.1) = false := by rfl) :
    SemE X K B (.Call (.Name x p) (e :: es) [] pos) (tCB r ta) (eCall gg sa) := ⟨pe_callTy hc hg hm hv ha.pa hn hdb he hpl, cb_ok hs ha.ok⟩
theorem sl_ct {T : String} {x : Str} {p : Pos} {r : List V → Hp → VK → Prop} {gg : List PyData → Option (List PyData)} (hs : CallL K r gg) (hc : CallR X (.type T) r) (hm : X.mg x = none) (ha : SemAB X K B (e :: es) ta sa) (hg : Gl X x := by rfl) (hv : bootBuiltins x = some (.type T) := by decide +kernel)
    (hn : x ≠ "__name__" := by decide) (hdb : (x == ("__debug__" : Str)) = false := by decide) (he : starEach (e :: es) X.env = (false, eval e X.env) :: starEach es X.env := by rfl) (hpl : (backTo pos (starEach es X.env)).any (·.1) = false := by rfl) :
    SemL X K B (.Call (.Name x p) (e :: es) [] pos) (tCB r ta) (eCallL gg sa) := ⟨pe_callTy hc hg hm hv ha.pa hn hdb he hpl, cbL_ok hs ha.ok⟩
theorem se_isi {p p2 : Pos} {x : Str} (T : TyN) (hm : X.mg "isinstance" = none) (hm2 : X.mg x = none) (h : SemB X K B a t f) (hv : bootBuiltins x = some (.type (tyn T)) := by decide +kernel) (hg : Gl X "isinstance" := by rfl) (hg2 : Gl X x := by rfl) (hn : x ≠ "__name__" := by decide) (hd : (x == ("__debug__" : Str)) = false := by decide)
    (hs1 : starEach (a :: [.Name x p2]) X.env = (false, eval a X.env) :: starEach [.Name x p2] X.env := by rfl) (hs2 : starEach [.Name x p2] X.env = (false, eval (.Name x p2) X.env) :: starEach [] X.env := by rfl) (hpl : (backTo pos (starEach [Expr.Name x p2] X.env)).any (·.1) = false := by rfl) (hK : X.K = K := by rfl) :
    SemE X K B (.Call (.Name "isinstance" p) [a, .Name x p2] [] pos) (tCB (rIsi K) (tCons t (tCons (tC (.ty (tyn T))) tNil))) (eIsi T f) := by
  subst hK
  exact ⟨pe_callB call_isi hg hm (by decide +kernel) (pa_cons h.pe (pa_cons (pe_bltn hg2 hm2 hv rfl hn hd) pa_nil hs2) hs1) (by decide) (by decide) hs1 hpl, isi_ok T h.ok⟩
/-- sep.join(texts) -/
def gJoin : PyData → PyData → Option PyData
  | .str z, .list ds => (strsD ds).bind fun ys => if (ys.map (·.length)).sum + ys.length * z.length ≤ LIM then some (.str (Txt.join z ys)) else none
  | _, _ => none
where strsD : List PyData → Option (List Str)
  | [] => some []
  | .str x :: ds => (strsD ds).map (x :: ·)
  | _ :: _ => none
theorem strsD_ok : ∀ {ds : List PyData} {ns : List Str}, gJoin.strsD ds = some ns → ds = ns.map PyData.str
  | [], ns, h => by cases h; rfl
  | .str i :: ds, ns, h => by
    cases e : gJoin.strsD ds with
    | none => simp [gJoin.strsD, e] at h
    | some ms =>
      simp [gJoin.strsD, e] at h
      subst h
      rw [strsD_ok e]; rfl
  | .none :: _, _, h => by cases h
  | .bool _ :: _, _, h => by cases h
  | .int _ :: _, _, h => by cases h
  | .list _ :: _, _, h => by cases h
  | .tuple _ :: _, _, h => by cases h
  | .dict _ :: _, _, h => by cases h
theorem strsD_map (ns : List Str) : gJoin.strsD (ns.map PyData.str) = some ns := by
  induction ns with
  | nil => rfl
  | cons n ns ih => simp [gJoin.strsD, ih]
abbrev rJoin (K : PySem.W.Frag) : V → List V → Hp → VK → Prop := fun x xs H Q => ∃ a p, ∃ ys : List Str, x = .str a ∧ xs = [.ref p] ∧ (SqL K H p (ys.map V.str) ∨ SqT K H p (ys.map V.str)) ∧
  (ys.map (·.length)).sum + ys.length * a.length ≤ 16777216 ∧ Q (.str (Txt.join a ys)) H
theorem join_ok (h1 : BOk K B t1 f1) (h2 : BOk K B t2 f2) : EOk K B (tM1 (rJoin K) t1 t2) (eOp gJoin f1 f2) := fun R F H σ ρ dd E q Q k => by
  cases e1 : f1 ρ with
  | none => simp [eOp, e1] at q
  | some x =>
    cases e2 : f2 ρ with
    | none => simp [eOp, e1, e2] at q
    | some y =>
      have q' : gJoin x y = some dd := by simpa [eOp, e1, e2] using q
      unfold gJoin at q'
      split at q'
      · rename_i z ds
        cases hn : gJoin.strsD ds with
        | none => simp [hn] at q'
        | some ys =>
          rw [hn, Option.bind_some] at q'
          split at q'
          · rename_i hz
            cases q'
            refine h1 _ F H σ ρ _ E e1 _ fun v H1 G1 g1 b1 => ⟨⟨z, b1.str⟩, ?_⟩
            refine h2 _ G1 H1 σ ρ _ (E.grow g1) e2 _ fun w H2 G2 g2 b2 => ?_
            obtain ⟨p, vs, rfl, hp, hA⟩ := b2.list g2.sub
            rw [strsD_ok hn] at hA
            have ev := strs_dpa ys hA
            subst ev
            exact ⟨z, p, ys, b1.str, rfl, .inl (.inl (.inl hp)), Nat.le_trans hz (by decide), k _ H2 G2 (g1.trans g2) (rp_str _)⟩
          · cases q'
      · cases q'
theorem se_join {apos : Pos} (h1 : SemB X K B a t1 f1) (h2 : SemB X K B b t2 f2) (hs : starEach [b] X.env = [(false, eval b X.env)] := by rfl) (hbase : attributeBase a "join" X.env (eval a X.env) = eval a X.env := by rfl) (hline : (apos.endLine == pos.line) = true := by rfl) (hK : X.K = K := by rfl) :
    SemE X K B (.Call (.Attribute a "join" apos) [b] [] pos) (tM1 (rJoin K) t1 t2) (eOp gJoin f1 f2) := by
  subst hK
  exact ⟨pe_join h1.pe h2.pe hs hbase hline, join_ok h1.ok h2.ok⟩
end
/-! ### what is walked, comprehensions -/
structure SemI (X : Cx) (K : PySem.W.Frag) (B : Bs) (tg : Expr) (iter : Expr) (wi : TI) (f : SA) : Prop where
  pi : PI X tg iter wi
  ok : IOk K B wi f
structure SemIB (X : Cx) (K : PySem.W.Frag) (B : Bs) (tg : Expr) (iter : Expr) (wi : TI) (f : SA) : Prop where
  pi : PI X tg iter wi
  ok : IBOk K B wi f
structure SemTs (X : Cx) (K : PySem.W.Frag) (B : Bs) (ifs : List Expr) (t : TT) (f : STe) : Prop where
  pts : PTs X ifs t
  ok : TOk K B t f
section
variable {X : Cx} {K : PySem.W.Frag} {B : Bs} {W : XW} {tg e a b : Expr} {t : TE} {f : SE} {ta : TA} {sa : SA} {pos p : Pos} {wi : TI}
theorem SemI.toB (h : SemI X K B tg e wi sa) : SemIB X K B tg e wi sa := ⟨h.pi, h.ok.b⟩
theorem si_list (h : SemE X K B e t f) (hK : X.K = K := by rfl) : SemI X K B tg e (iList K t) (iL f) := by
  subst hK
  exact ⟨pi_list h.pe, iList_ok h.ok⟩
theorem si_listB (h : SemB X K B e t f) (hK : X.K = K := by rfl) : SemIB X K B tg e (iList K t) (iL f) := by
  subst hK
  exact ⟨pi_list h.pe, iListB_ok h.ok⟩
theorem si_tup (h : SemE X K B e t f) (hK : X.K = K := by rfl) : SemI X K B tg e (iTup K t) (iT f) := by
  subst hK
  exact ⟨pi_tup h.pe, iTup_ok h.ok⟩
theorem si_str (h : SemE X K B e t f) : SemI X K B tg e (iStr t) (iS f) := ⟨pi_str h.pe, iStr_ok h.ok⟩
theorem si_range1 (hm : X.mg "range" = none) (ha : SemAB X K B [a] ta sa) (hg : Gl X "range" := by rfl) (hs : starEach [a] X.env = [(false, eval a X.env)] := by rfl) : SemI X K B tg (.Call (.Name "range" p) [a] [] pos) (iRng1 ta) (iR1 sa) := ⟨pi_range1 hg hm ha.pa hs, iRng1_ok ha.ok⟩
theorem si_range2 (hm : X.mg "range" = none) (ha : SemAB X K B [a, b] ta sa) (hg : Gl X "range" := by rfl) (hs : starEach [a, b] X.env = [(false, eval a X.env), (false, eval b X.env)] := by rfl) (hs2 : starEach [b] X.env = [(false, eval b X.env)] := by rfl) : SemI X K B tg (.Call (.Name "range" p) [a, b] [] pos) (iRng2 ta) (iR2 sa) :=
  ⟨pi_range2 hg hm ha.pa hs hs2, iRng2_ok ha.ok⟩
theorem si_enum {elts : List Expr} {kk : Nat} {tpos : Pos} (hm : X.mg "enumerate" = none) (ha : SemA X K B [e] ta sa) (hg : Gl X "enumerate" := by rfl) (hs : starEach [e] X.env = [(false, eval e X.env)] := by rfl) (hK : X.K = K := by rfl) : SemI X K B (.Tuple elts kk tpos) (.Call (.Name "enumerate" p) [e] [] pos) (iEnum K ta) (iE sa) := by
  subst hK
  exact ⟨pi_enum hg hm ha.pa hs, iEnum_ok ha.ok⟩
theorem x_ib (h : SemI X K B tg e wi sa) : SemIB X K B tg e wi sa := h.toB
theorem sts_nil : SemTs X K B [] tYes tYesF := ⟨pts_nil, yes_ok⟩
theorem sts_one {tt : TT} {g : STe} (h : SemT X K B e tt g) : SemTs X K B [e] tt g := ⟨pts_one h.pt, h.ok⟩
theorem sl_lc {elt iter : Expr} {x : Str} {xp : Pos} {ifs : List Expr} {scope : Scope} {j : Nat} {tt : TT} {te : TE} {tst : STe} {el : SE} (hc : X.calm = true) (hN : X.N.Nodup) (hj : X.N[j]? = some x) (hi : SemIB X K B (.Name x xp) iter wi sa) (ok : BlkOk X.N X.env.scope scope [(x, j)])
    (ht : ∀ (s : Shared) (H : Hp) (C : Addr) (cl : List (Str × Addr)) (fp : List Addr), SemTs (X.blk s H scope (compEnvC scope cl C X.env) fp) K B ifs tt tst)
    (he : ∀ (s : Shared) (H : Hp) (C : Addr) (cl : List (Str × Addr)) (fp : List Addr), SemE (X.blk s H scope (compEnvC scope cl C X.env) fp) K B elt te el)
    (hgn : ∀ (s : Shared) (H : Hp) (C : Addr) (cl : List (Str × Addr)) (fp : List Addr), PG (X.blk s H scope (compEnvC scope cl C X.env) fp) (.Name x xp) (gName j))
    (hs : ∀ x, foldedSetIterable iter X.env x = pure x := by intro _; rfl) : SemL X K B (.ListComp elt [⟨.Name x xp, iter, ifs, 0⟩] scope pos) (tLc wi (gName j) tt te [j]) (lLc sa j tst el) :=
  ⟨pe_lc (own := [(x, j)]) hc hN hi.pi ok hgn (fun s H C cl fp => (ht s H C cl fp).pts) (fun s H C cl fp => (he s H C cl fp).pe) hs, lc_ok hi.ok (ht X.s_0 (fun _ => none) 0 [] []).ok (he X.s_0 (fun _ => none) 0 [] []).ok⟩
end
/-! ### statements -/
section
variable {X : Cx} {K : PySem.W.Frag} {B : Bs} {W : XW} {e a b : Expr} {st : Stmt} {rest : List Stmt} {t u : TS} {f g : SS} {te tx : TE} {fe fx : SE} {pos : Pos}
theorem ss_nil : SemSs X K B W [] tNext sNext := ⟨pss_nil, next_ok⟩
theorem ss_cons (h1 : SemS X K B W st t f) (h2 : SemSs X K B W rest u g) : SemSs X K B W (st :: rest) (tSeq t u) (sSeq f g) := ⟨pss_cons h1.ps h2.ps, seq_ok h1.ok h2.ok⟩
theorem ss_one (h1 : SemS X K B W st t f) : SemSs X K B W [st] t f := ⟨pss_one h1.ps, h1.ok⟩
theorem s_ret (h : SemE X K B e te fe) : SemS X K B W (.Return (some e) pos) (tRet te) (sRet fe) := ⟨ps_ret h.pe, ret_ok h.ok⟩
theorem s_retN : SemS X K B W (.Return none pos) tRetN sRetN := ⟨ps_retN, retN_ok⟩
theorem s_set (i : Nat) {x : Str} {pos' : Pos} (hN : X.N.Nodup) (he : SemE X K B e te fe) (hi : X.N[i]? = some x := by rfl) (hx : Loc X.env.scope x := by first | exact Or.inl rfl | exact Or.inr rfl) (hs : swapsWith e (some (.Name x pos')) pos.line X.env = pure false := by rfl)
    (hf : X.fn x = true ∨ X.env.scope.names.lookup x = some .local := by first | exact .inl rfl | exact .inr rfl) : SemS X K B W (.Assign [.Name x pos'] e pos) (tAsg te (gName i)) (sSet i fe) := ⟨ps_set hN hi hx he.pe hs hf, set_ok i he.ok⟩
theorem s_setL (i : Nat) {x : Str} {pos' : Pos} {sa : SA} (hN : X.N.Nodup) (he : SemL X K B e te sa) (hi : X.N[i]? = some x := by rfl) (hx : Loc X.env.scope x := by first | exact Or.inl rfl | exact Or.inr rfl) (hs : swapsWith e (some (.Name x pos')) pos.line X.env = pure false := by rfl)
    (hf : X.fn x = true ∨ X.env.scope.names.lookup x = some .local := by first | exact .inl rfl | exact .inr rfl) : SemS X K B W (.Assign [.Name x pos'] e pos) (tAsg te (gName i)) (sSetL i sa) := ⟨ps_set hN hi hx he.pe hs hf, setL_ok i he.ok⟩
theorem s_expr (he : SemE X K B e te fe) (hs : swapsWith e none pos.line X.env = pure false := by rfl) : SemS X K B W (.Expr e pos) (tDrop te) (sDrop fe) := ⟨ps_expr he.pe hs, drop_ok he.ok⟩
theorem s_if {tc : TT} {c : STe} {ss us : List Stmt} (h0 : SemT X K B e tc c) (h1 : SemSs X K B W ss t f) (h2 : SemSs X K B W us u g) : SemS X K B W (.If e ss us pos) (tIfS tc t u) (sIf c f g) := ⟨ps_if h0.pt h1.ps h2.ps, ifS_ok h0.ok h1.ok h2.ok⟩
theorem s_for {tg iter : Expr} {body : List Stmt} {wi : TI} {gg : TG} {sa : SA} {tgf : PyData → Rho → Option Rho} (hp : PassesOwn (model X.prog X.w) X.A X.env X.xe) (hc : X.calm = true) (hi : SemI X K B tg iter wi sa) (hg : PG X tg gg) (ht : TGOk K gg tgf) (hb : SemSs X K B W body t f)
    (hs : ∀ x, foldedSetIterable iter X.env x = pure x := by intro _; rfl) : SemS X K B W (.For tg iter body [] pos) (tFor wi gg t) (sFor sa tgf f) := ⟨ps_for hp hc hi.pi hg hb.ps hs, for_okS hi.ok ht hb.ok⟩
/-- xs.append(e), xs[i] = e: an own list's name -/
theorem s_app (i : Nat) {x : Str} {p apos cpos : Pos} (he : SemE X K B e te fe) (ps : PS X (.Expr (.Call (.Attribute (.Name x p) "append" apos) [e] [] cpos) pos) (tDrop (tBM K "list" rAppend (tVar i) (tCons te tNil)))) :
    SemS X K B W (.Expr (.Call (.Attribute (.Name x p) "append" apos) [e] [] cpos) pos) (tDrop (tBM K "list" rAppend (tVar i) (tCons te tNil))) (sApp i fe) := ⟨ps, app_okS i he.ok⟩
theorem s_put (i : Nat) {x : Str} {p p2 : Pos} (he : SemE X K B e te fe) (hx : SemE X K B a tx fx) (ps : PS X (.Assign [.Subscript (.Name x p) a p2] e pos) (tAsg te (gSub (tVar i) tx rSetL))) :
    SemS X K B W (.Assign [.Subscript (.Name x p) a p2] e pos) (tAsg te (gSub (tVar i) tx rSetL)) (sPut i fx fe) := ⟨ps, put_okS i he.ok hx.ok⟩
end
/-! ### functions of data -/
section
variable {X : Cx} {K : PySem.W.Frag} {B : Bs} {W : XW} {e : Expr} {st : Stmt} {te : TE} {sa : SA}
theorem s_setLcE (i : Nat) {x : Str} {p pos : Pos} (h : SemL X K B e te sa) (ps : PS X (.Assign [.Name x p] e pos) (tAsg te (gName i))) : SemS X K B W (.Assign [.Name x p] e pos) (tAsg te (gName i)) (sSet i (eList sa)) := ⟨ps, set_ok i h.toE.ok⟩
theorem s_setLcL (i : Nat) {x : Str} {p pos : Pos} (h : SemL X K B e te sa) (ps : PS X (.Assign [.Name x p] e pos) (tAsg te (gName i))) : SemS X K B W (.Assign [.Name x p] e pos) (tAsg te (gName i)) (sSetL i sa) := ⟨ps, setL_ok i h.ok⟩
end
abbrev noB : Bs := ⟨fun _ => none, fun _ => none, fun _ => none, none⟩
abbrev W0 : XW := fun _ _ _ => False
abbrev noH : Hp := fun _ => none
abbrev noR : Rg := fun _ => noH
def spPure (K : PySem.W.Frag) (F : List PyData → Option PyData) : Sp := fun vs H Q _ => ∃ (G : Hp) (ds : List PyData) (d : PyData), Same G H ∧ RpAll K G vs ds ∧ F ds = some d ∧ ∀ v H' G', Grow H G H' G' → Rp K G' v d → Q v H'
def rho0 (N : List Str) (ds : List PyData) : Rho := ds.map .val ++ List.replicate (N.length - ds.length) .no
def runF (N : List Str) (n : Nat) (b : SS) : List PyData → Option PyData := fun ds => if ds.length = n then (match b (rho0 N ds) with
  | .rt d _ => some d
  | .nx _ => some .none
  | .no => none
  | .ex _ _ => none
  | .ro _ _ => none) else none
theorem RpAll.two {K : PySem.W.Frag} {F : Hp} {vs : List V} {d e : PyData} (h : RpAll K F vs [d, e]) : ∃ v u, vs = [v, u] ∧ Rp K F v d ∧ Rp K F u e := by
  cases h with
  | cons r r2 => obtain ⟨u, rfl, r3⟩ := r2.one; exact ⟨_, _, rfl, r, r3⟩
theorem RpAll.three {K : PySem.W.Frag} {F : Hp} {vs : List V} {d e f : PyData} (h : RpAll K F vs [d, e, f]) : ∃ v u t, vs = [v, u, t] ∧ Rp K F v d ∧ Rp K F u e ∧ Rp K F t f := by
  cases h with
  | cons r r2 => obtain ⟨u, t, rfl, r3, r4⟩ := r2.two; exact ⟨_, _, _, rfl, r, r3, r4⟩
theorem Rp.s {K : PySem.W.Frag} {F : Hp} {v : V} {z : Str} (h : Rp K F v (.str z)) : v = .str z := Bp.str (H := F) (.inl h)
theorem RpAll.get {K : PySem.W.Frag} {F : Hp} : ∀ {vs : List V} {ds : List PyData} {i : Nat} {d : PyData}, RpAll K F vs ds → ds[i]? = some d → ∃ v, vs[i]? = some v ∧ Rp K F v d
  | [], [], _, _, _, e => by simp at e
  | [], _ :: _, _, _, h, _ => by cases h
  | _ :: _, [], _, _, h, _ => by cases h
  | v :: vs, d :: ds, 0, _, h, e => by
    cases h with
    | cons h1 h2 =>
      simp at e; subst e
      exact ⟨v, rfl, h1⟩
  | v :: vs, d :: ds, i + 1, _, h, e => by
    cases h with
    | cons h1 h2 =>
      obtain ⟨u, e1, e2⟩ := RpAll.get (i := i) h2 (by simpa using e)
      exact ⟨u, by simpa using e1, e2⟩
/-- what a function finds that reads an object -/
structure BsOk (K : PySem.W.Frag) (B : Bs) (G H : Hp) : Prop where
  bs : Same B.f G
  bh : Same B.h H
  bF : Apart B.h G
  bo : ∀ a o, B.bk a = some o → ObjAt K B.f B.h a o
theorem bsOk_no {K : PySem.W.Frag} {G H : Hp} : BsOk K noB G H := ⟨fun _ _ z => (nomatch z), fun _ _ z => (nomatch z), fun _ z => absurd rfl z, fun _ _ z => (nomatch z)⟩
theorem start_ok {K : PySem.W.Frag} {B : Bs} {G H : Hp} {N : List Str} {vs : List V} {ds : List PyData} (b : BsOk K B G H) (e : Same G H) (h : RpAll K G vs ds) : StOk K B ⟨noH, H, G⟩ noR G H (start N vs) (rho0 N ds) := by
  have hl := h.len
  have shape : ∀ (i : Nat) (x : Sl), (rho0 N ds)[i]? = some x → x = .no ∨ ∃ d, ds[i]? = some d ∧ x = .val d := fun i x q => by
    unfold rho0 at q
    rcases Nat.lt_or_ge i (ds.map Sl.val).length with hi | hi
    · rw [List.getElem?_append_left hi, List.getElem?_map] at q
      cases z : ds[i]? with
      | none => rw [z] at q; cases q
      | some d => rw [z] at q; cases q; exact .inr ⟨d, rfl, rfl⟩
    · rw [List.getElem?_append_right hi] at q
      have := List.mem_of_getElem? q
      rw [List.mem_replicate] at this
      exact .inl this.2
  have no : ∀ (i : Nat) (es : List PyData), (rho0 N ds)[i]? = some (.own es) → False := fun i es q => by
    rcases shape i _ q with z | ⟨d, _, z⟩ <;> cases z
  have no2 : ∀ (i : Nat) (o : ObjSt), (rho0 N ds)[i]? = some (.obj o) → False := fun i es q => by
    rcases shape i _ q with z | ⟨d, _, z⟩ <;> cases z
  refine ⟨⟨b.bs, b.bh, b.bF, b.bo, e, (fun _ _ _ z => nomatch z), (fun _ _ z => absurd rfl z), (fun _ _ z => absurd rfl z), (fun _ _ _ _ z => absurd rfl z), ?_, fun i d q => ?_, fun i es q => (no i es q).elim, fun i j es fs p _ q _ _ _ => no i es q, fun i o q => (no2 i o q).elim, fun a0 _ o a q _ => (no2 0 o q).elim⟩,
    ⟨fun _ _ _ z => z, fun _ z => z, Same.refl G, e, fun _ z _ => z⟩, fun i es p q _ => (no i es q).elim, fun _ _ z => absurd rfl z⟩
  · unfold rho0 L2.start
    simp [hl]
  · rcases shape i _ q with z | ⟨d', h1, z⟩
    · cases z
    · cases z
      obtain ⟨v, h2, h3⟩ := h.get h1
      refine ⟨v, ?_, h3⟩
      unfold L2.start
      rw [List.getElem?_append_left (by rw [List.length_map]; exact (List.getElem?_eq_some_iff.mp h2).1), List.getElem?_map, h2]
      rfl
theorem GrowM.pure {H G H' G' : Hp} (g : GrowM ⟨noH, H, G⟩ H' G') : Grow H G H' G' := ⟨fun a o h => g.h a o rfl h, g.f, g.sub, g.no⟩
def spB (K : PySem.W.Frag) (F : (Addr → Option ObjSt) → List PyData → Option PyData) : Sp := fun vs H Q _ => ∃ (B : Bs) (G : Hp) (ds : List PyData) (d : PyData), BsOk K B G H ∧ Same G H ∧ RpAll K G vs ds ∧ F B.bk ds = some d ∧ ∀ v H' G', Grow H G H' G' → Rp K G' v d → Q v H'
theorem sp_bodyB {K : PySem.W.Frag} {B : Bs} {N : List Str} {n : Nat} {b : SS} {t : TS} (k : SSOk K B W0 t b) {vs : List V} {H G : Hp} {ds : List PyData} {d : PyData} {Q : VK} (bo : BsOk K B G H) (e : Same G H) (hR : RpAll K G vs ds) (hF : runF N n b ds = some d) (hQ : ∀ v H' G', Grow H G H' G' → Rp K G' v d → Q v H') :
    t { nx := fun _ H' => Q .non H', rt := Q } (start N vs) H := by
  refine k ⟨noH, H, G⟩ noR G H _ _ _ (start_ok bo e hR) ?_
  unfold runF at hF
  split at hF
  · cases hb : b (rho0 N ds) with
    | no => rw [hb] at hF; cases hF
    | nx r =>
      rw [hb] at hF
      cases hF
      exact fun σ H' R' F' s _ => hQ .non H' F' s.gr.pure rp_non
    | rt d' r =>
      rw [hb] at hF
      cases hF
      exact fun v σ H' R' F' s _ r => hQ v H' F' s.gr.pure r
    | ex c r => rw [hb] at hF; cases hF
    | ro i r => rw [hb] at hF; cases hF
  · cases hF
theorem sp_body {K : PySem.W.Frag} {N : List Str} {n : Nat} {b : SS} {t : TS} (k : SSOk K noB W0 t b) {vs : List V} {H : Hp} {Q : VK} {E : XK} (h : spPure K (runF N n b) vs H Q E) : t { nx := fun _ H' => Q .non H', rt := Q } (start N vs) H := by
  obtain ⟨G, ds, d, e, hR, hF, hQ⟩ := h
  exact sp_bodyB k bsOk_no e hR hF hQ
theorem x_pe {X : Cx} {K : PySem.W.Frag} {e : Expr} {t : TE} {f : SE} (h : SemE X K noB e t f) : PE X e t := h.pe
theorem x_pt {X : Cx} {K : PySem.W.Frag} {e : Expr} {t : TT} {f : STe} (h : SemT X K noB e t f) : PT X e t := h.pt
theorem x_pi {X : Cx} {K : PySem.W.Frag} {tg e : Expr} {t : TI} {f : SA} (h : SemIB X K noB tg e t f) : PI X tg e t := h.pi
/-- the module's name x is a function of data, of level k -/
structure PF (P : Program) (w : World) (K : PySem.W.Frag) (mg : Str → Option Value) (base : Heap) (k : Nat) (x : Str) (F : List PyData → Option PyData) : Prop where
  ex : ∃ (f : Addr) (fd : FuncData) (ps : List Str), FnOk P w K mg base CX0 k f fd ps (spPure K F) ∧ mg x = some (.ref f) ∧ PySem.W.keepIn K (.ref f) = true ∧ Binds K fd ps []
theorem fn_mk {P : Program} {w : World} {K : PySem.W.Frag} {mg : Str → Option Value} {base : Heap} {k : Nat} {x : Str} {st : Stmt} {N ps : List Str} {b : SS} {f : Addr} {fd : FuncData} (F : FunD K x x (defArgs st) (defBody st) (defScope st) [] [] f fd) (S : FnScope N ps (defScope st))
    (body : ∀ (cdv : Value) (A : Around) (outer : List Env) (s : Shared) (H : Hp) (E : XK), Room k (A.deeper (envOfC x (defScope st) s.heap.objs.size f cdv)) → ∃ t, SemSs (cxOf CX0 P w K mg base N x (defScope st) f cdv A outer s H E).nox K noB W0 (defBody st) t b) :
    FnOk P w K mg base CX0 (k + 1) f fd ps (spPure K (runF N ps.length b)) := by
  refine F.ok S (fun vs H Q E h => ?_) (fun cdv A outer s H vs Q E hr h => ?_)
  · obtain ⟨G, ds, d, _, hR, hF, _⟩ := h
    unfold runF at hF
    split at hF
    · rename_i hl
      rw [hR.len]; exact hl
    · cases hF
  · obtain ⟨t, ht⟩ := body cdv A outer s H E hr
    exact ⟨t, ht.ps.nox, sp_body ht.ok h⟩
theorem pf_mk {P : Program} {w : World} {K : PySem.W.Frag} {mg : Str → Option Value} {base : Heap} {k : Nat} {x : Str} {st : Stmt} {N ps : List Str} {b : SS} {f : Addr} {fd : FuncData} (F : FunD K x x (defArgs st) (defBody st) (defScope st) [] [] f fd) (S : FnScope N ps (defScope st)) (hm : mg x = some (.ref f))
    (hb : ∀ (kV doc pm : Value) (an : Option Addr) (cdv ct : Value) (us : List Value), us.length = ps.length → bindArgs (PySem.W.fnOf x x (defArgs st) (defBody st) (defScope st) .none kV doc pm an cdv ct) ⟨us, []⟩ = pure (ps.zip us))
    (body : ∀ (cdv : Value) (A : Around) (outer : List Env) (s : Shared) (H : Hp) (E : XK), Room k (A.deeper (envOfC x (defScope st) s.heap.objs.size f cdv)) → ∃ t, SemSs (cxOf CX0 P w K mg base N x (defScope st) f cdv A outer s H E).nox K noB W0 (defBody st) t b) :
    PF P w K mg base (k + 1) x (runF N ps.length b) := ⟨f, fd, ps, fn_mk F S body, hm, F.kp, F.bindsN hb⟩
theorem hv_of {k : Nat} {A : Around} (hr : Room k A) : A.units + 65 < cLine := by have := hr.un; omega
theorem PF.imp {P : Program} {w : World} {K : PySem.W.Frag} {mg : Str → Option Value} {base : Heap} {k : Nat} {x : Str} {F F' : List PyData → Option PyData} (h : PF P w K mg base k x F) (hi : ∀ ds d, F' ds = some d → F ds = some d) : PF P w K mg base k x F' := by
  obtain ⟨f, fd, ps, h1, h2⟩ := h.ex
  refine ⟨f, fd, ps, h1.imp (fun vs H Q E ⟨G, ds, d, e, hR, hF, hQ⟩ => ⟨G, ds, d, e, hR, hi ds d hF, hQ⟩), h2⟩
section
variable {X : Cx} {K : PySem.W.Frag} {B : Bs} {W : XW} {e : Expr} {es : List Expr} {ta : TA} {sa : SA} {x : Str} {p pos : Pos} {k j : Nat} {F : List PyData → Option PyData}
theorem callP_ok (ha : AOk K B ta sa) : EOk K B (tCall (spPure K F) [] E0 ta) (eCall F sa) := fun Rg F' H σ ρ d E q Q kk => by
  cases e1 : sa ρ with
  | none => simp [eCall, e1] at q
  | some ds =>
    have q' : F ds = some d := by simpa [eCall, e1] using q
    refine ha _ F' H σ ρ ds E e1 _ fun vs H1 G1 g1 r1 => ?_
    rw [List.append_nil]
    exact ⟨G1, ds, d, g1.sub, r1, q', fun v H' G' g r => kk v H' G' (g1.trans g) r⟩
theorem BpAll.all {G H : Hp} (e : Same G H) : ∀ {vs : List V} {ds : List PyData}, BpAll K G H vs ds → RpAll K H vs ds
  | [], [], _ => .nil
  | [], _ :: _, h => by cases h
  | _ :: _, [], h => by cases h
  | v :: vs, d :: ds, h => by
    cases h with
    | cons h1 h2 => exact .cons (h1.all e) (BpAll.all e h2)
/-- own lists handed in for a moment: what comes back is a value without parts -/
theorem callPB_ok (ha : ABOk K B ta sa) : EOk K B (tCall (spPure K F) [] E0 ta) (eCall (fun ds => onlyS (F ds)) sa) := fun Rg F' H σ ρ d E q Q kk => by
  cases e1 : sa ρ with
  | none => simp [eCall, e1] at q
  | some ds =>
    have q' : onlyS (F ds) = some d := by simpa [eCall, e1] using q
    unfold onlyS at q'
    cases e2 : F ds with
    | none => simp [e2] at q'
    | some d' =>
      rw [e2, Option.bind_some] at q'
      split at q'
      · rename_i hs
        cases q'
        refine ha _ F' H σ ρ ds E e1 _ fun vs H1 G1 g1 r1 => ?_
        rw [List.append_nil]
        exact ⟨H1, ds, _, Same.refl H1, BpAll.all g1.sub r1, e2, fun v H' G' g r => kk v H' G1 (g1.trans ⟨g.h, Same.refl G1, g1.sub.trans g.h, fun _ z _ => z⟩) (rp_scal r hs)⟩
      · cases q'
theorem se_call (C : PF X.prog X.w K X.mg X.base k x F) (hr : Room j X.A) (ha : SemA X K B (e :: es) ta sa) (hk : k ≤ j := by decide) (hg : Gl X x := by rfl) (hdb : (x == ("__debug__" : Str)) = false := by decide)
    (he : starEach (e :: es) X.env = (false, eval e X.env) :: starEach es X.env := by rfl) (hpl : (backTo pos (starEach es X.env)).any (·.1) = false := by rfl) (hK : X.K = K := by rfl) : SemE X K B (.Call (.Name x p) (e :: es) [] pos) (tCall (spPure K F) [] E0 ta) (eCall F sa) := by
  subst hK
  obtain ⟨f, fd, ps, h1, h2, h3, h4⟩ := C.ex
  exact ⟨pe_call h1 (hr.mono hk) hg h2 h3 h4 .nil pass0 ha.pa hdb he hpl, callP_ok ha.ok⟩
theorem se_callB (C : PF X.prog X.w K X.mg X.base k x F) (hr : Room j X.A) (ha : SemAB X K B (e :: es) ta sa) (hk : k ≤ j := by decide) (hg : Gl X x := by rfl) (hdb : (x == ("__debug__" : Str)) = false := by decide)
    (he : starEach (e :: es) X.env = (false, eval e X.env) :: starEach es X.env := by rfl) (hpl : (backTo pos (starEach es X.env)).any (·.1) = false := by rfl) (hK : X.K = K := by rfl) : SemE X K B (.Call (.Name x p) (e :: es) [] pos) (tCall (spPure K F) [] E0 ta) (eCall (fun ds => onlyS (F ds)) sa) := by
  subst hK
  obtain ⟨f, fd, ps, h1, h2, h3, h4⟩ := C.ex
  exact ⟨pe_call h1 (hr.mono hk) hg h2 h3 h4 .nil pass0 ha.pa hdb he hpl, callPB_ok ha.ok⟩
end
/-- the law's own promise out of its function of data -/
theorem law_sp {K : PySem.W.Frag} {F : List PyData → Option PyData} {H : Hp} {a : Addr} {ns : List Int} (h : F [scrD ns] = some (.bool true)) (hS : SqL K H a (ns.map V.int)) : spPure K F [.ref a] H (fun v _ => v = .bl true) fun _ _ _ => False :=
  ⟨H, [scrD ns], .bool true, Same.refl H, .cons (.inr (.inr ⟨a, ns, rfl, rfl, hS⟩)) .nil, h, fun v H' G' _ r => r.bl⟩
end RT
/-! How the functions are reckoned: rows for simp. -/
namespace RT
open PySem PySem.Spec PyProof.Rows L2
def Out.thn : Out → (Rho → Out) → Out
  | .no, _ => .no
  | .nx r, g => g r
  | .rt d r, _ => .rt d r
  | .ex c r, _ => .ex c r
  | .ro i r, _ => .ro i r
def Out.res : Out → Option PyData
  | .no => none
  | .nx _ => some .none
  | .rt d _ => some d
  | .ex _ _ => none
  | .ro _ _ => none
section
variable {f f1 f2 f3 f4 : SE} {g : SA} {ρ : Rho} {t u : STe} {a b : SS} {c : Prop} [Decidable c]
@[simp] theorem thn_no (g : Rho → Out) : Out.thn .no g = .no := rfl
@[simp] theorem thn_nx (g : Rho → Out) (r : Rho) : Out.thn (.nx r) g = g r := rfl
@[simp] theorem thn_rt (g : Rho → Out) (d : PyData) (r : Rho) : Out.thn (.rt d r) g = .rt d r := rfl
@[simp] theorem thn_ro (g : Rho → Out) (i : Nat) (r : Rho) : Out.thn (.ro i r) g = .ro i r := rfl
@[simp] theorem thn_ex (g : Rho → Out) (c : Str) (r : Rho) : Out.thn (.ex c r) g = .ex c r := rfl
@[simp] theorem thn_ite (x y : Out) (g : Rho → Out) : Out.thn (if c then x else y) g = if c then x.thn g else y.thn g := by split <;> rfl
@[simp] theorem res_no : Out.res .no = none := rfl
@[simp] theorem res_nx (r : Rho) : Out.res (.nx r) = some .none := rfl
@[simp] theorem res_rt (d : PyData) (r : Rho) : Out.res (.rt d r) = some d := rfl
@[simp] theorem res_ex (c : Str) (r : Rho) : Out.res (.ex c r) = none := rfl
@[simp] theorem res_ite (x y : Out) : Out.res (if c then x else y) = if c then x.res else y.res := by split <;> rfl
@[simp] theorem bind_ite {α β : Type} (x y : Option α) (g : α → Option β) : (if c then x else y).bind g = if c then x.bind g else y.bind g := by split <;> rfl
@[simp] theorem map_ite {α β : Type} (x y : Option α) (g : α → β) : (if c then x else y).map g = if c then x.map g else y.map g := by split <;> rfl
theorem runF_eq (N : List Str) (n : Nat) (b : SS) (ds : List PyData) : runF N n b ds = if ds.length = n then (b (rho0 N ds)).res else none := by
  unfold runF
  split
  · cases b (rho0 N ds) <;> rfl
  · rfl
@[simp] theorem sSeq_eq : sSeq a b ρ = (a ρ).thn b := by unfold sSeq; cases a ρ <;> rfl
@[simp] theorem sNext_eq : sNext ρ = .nx ρ := rfl
def outV (o : Option PyData) (k : PyData → Out) : Out := match o with
  | some d => k d
  | none => .no
@[simp] theorem outV_some (d : PyData) (k : PyData → Out) : outV (some d) k = k d := rfl
@[simp] theorem outV_none (k : PyData → Out) : outV none k = .no := rfl
@[simp] theorem outV_ite (x y : Option PyData) (k : PyData → Out) : outV (if c then x else y) k = if c then outV x k else outV y k := by split <;> rfl
def outL (o : Option (List PyData)) (k : List PyData → Out) : Out := match o with
  | some d => k d
  | none => .no
@[simp] theorem outL_some (d : List PyData) (k : List PyData → Out) : outL (some d) k = k d := rfl
@[simp] theorem outL_none (k : List PyData → Out) : outL none k = .no := rfl
@[simp] theorem outL_ite (x y : Option (List PyData)) (k : List PyData → Out) : outL (if c then x else y) k = if c then outL x k else outL y k := by split <;> rfl
def outB (o : Option Bool) (k : Bool → Out) : Out := match o with
  | some d => k d
  | none => .no
@[simp] theorem outB_some (d : Bool) (k : Bool → Out) : outB (some d) k = k d := rfl
@[simp] theorem outB_none (k : Bool → Out) : outB none k = .no := rfl
@[simp] theorem outB_ite (x y : Option Bool) (k : Bool → Out) : outB (if c then x else y) k = if c then outB x k else outB y k := by split <;> rfl
@[simp] theorem sSet_eq (i : Nat) : sSet i f ρ = outV (f ρ) fun d => .nx (ρ.set i (.val d)) := by unfold sSet; cases f ρ <;> rfl
@[simp] theorem sSetL_eq (i : Nat) : sSetL i g ρ = outL (g ρ) fun d => .nx (ρ.set i (.own d)) := by unfold sSetL; cases g ρ <;> rfl
@[simp] theorem sDrop_eq : sDrop f ρ = outV (f ρ) fun _ => .nx ρ := by unfold sDrop; cases f ρ <;> rfl
@[simp] theorem sIf_eq : sIf t a b ρ = outB (t ρ) fun z => if z = true then a ρ else b ρ := by
  unfold sIf
  cases t ρ with
  | none => rfl
  | some z => cases z <;> rfl
@[simp] theorem sRet_eq : sRet f ρ = outV (f (ρ.map frz1)) (fun d => .rt d (ρ.map frz1)) := by unfold sRet; cases f (ρ.map frz1) <;> rfl
@[simp] theorem sRetN_eq : sRetN ρ = .rt .none ρ := rfl
@[simp] theorem frz1_own (ds : List PyData) : frz1 (.own ds) = .val (.list ds) := rfl
@[simp] theorem frz1_val (d : PyData) : frz1 (.val d) = .val d := rfl
@[simp] theorem frz1_no : frz1 .no = .no := rfl
@[simp] theorem sFor_eq (tg : PyData → Rho → Option Rho) : sFor g tg a ρ = outL (g ρ) fun ds => forF tg a ds ρ := by unfold sFor; cases g ρ <;> rfl
theorem forF_nil (tg : PyData → Rho → Option Rho) : forF tg a [] ρ = .nx ρ := rfl
theorem forF_cons1 (j : Nat) (d : PyData) (ds : List PyData) : forF (tg1 j) a (d :: ds) ρ = (a (ρ.set j (.val d))).thn (forF (tg1 j) a ds) := by
  simp only [forF, tg1]
  cases a (ρ.set j (.val d)) <;> rfl
/-- a slot -/
def slV : Option Sl → Option PyData
  | some (.val d) => some d
  | _ => none
def slB : Option Sl → Option PyData
  | some (.val d) => some d
  | some (.own ds) => some (.list ds)
  | _ => none
@[simp] theorem slV_val (d : PyData) : slV (some (.val d)) = some d := rfl
@[simp] theorem slB_val (d : PyData) : slB (some (.val d)) = some d := rfl
@[simp] theorem slB_own (d : List PyData) : slB (some (.own d)) = some (.list d) := rfl
@[simp] theorem eVar_eq (i : Nat) : eVar i ρ = slV ρ[i]? := by
  unfold eVar slV
  cases ρ[i]? with
  | none => rfl
  | some s => cases s <;> rfl
@[simp] theorem eVarB_eq (i : Nat) : eVarB i ρ = slB ρ[i]? := by
  unfold eVarB slB
  cases ρ[i]? with
  | none => rfl
  | some s => cases s <;> rfl
@[simp] theorem eC_eq (d : PyData) : eC d ρ = some d := rfl
@[simp] theorem eOp_eq (gg : PyData → PyData → Option PyData) : eOp gg f1 f2 ρ = (f1 ρ).bind fun x => (f2 ρ).bind fun y => gg x y := rfl
@[simp] theorem eUn_eq (gg : PyData → Option PyData) : eUn gg f1 ρ = (f1 ρ).bind gg := rfl
@[simp] theorem eNil_eq : eNil ρ = some [] := rfl
@[simp] theorem eCons_eq : eCons f g ρ = (f ρ).bind fun d => (g ρ).bind fun ds => some (d :: ds) := rfl
@[simp] theorem eTupD_eq : eTupD g ρ = (g ρ).bind fun ds => if ds.all dataD = true ∧ ds.length ≤ 1000 then some (.tuple ds) else none := rfl
@[simp] theorem eLstD_eq : eLstD g ρ = (g ρ).bind fun ds => if ds.all dataD = true ∧ ds.length ≤ 1000 then some ds else none := rfl
@[simp] theorem eList_eq : eList g ρ = (g ρ).map .list := rfl
@[simp] theorem eCall_eq (F : List PyData → Option PyData) : eCall F g ρ = (g ρ).bind F := rfl
@[simp] theorem eCallL_eq (F : List PyData → Option (List PyData)) : eCallL F g ρ = (g ρ).bind F := rfl
@[simp] theorem onlyS_eq (o : Option PyData) : onlyS o = o.bind fun d => if scalD d then some d else none := rfl
/-- a truth -/
def truD : PyData → Option Bool
  | .bool b => some b
  | _ => none
@[simp] theorem truD_bool (b : Bool) : truD (.bool b) = some b := rfl
@[simp] theorem bF_eq : bF f ρ = (f ρ).bind truD := by unfold bF truD; cases f ρ <;> rfl
@[simp] theorem tAndF_eq : tAndF t u ρ = (t ρ).bind fun b => if b = true then u ρ else some false := rfl
@[simp] theorem tOrF_eq : tOrF t u ρ = (t ρ).bind fun b => if b = true then some true else u ρ := rfl
@[simp] theorem tNotF_eq : tNotF t ρ = (t ρ).map (!·) := rfl
@[simp] theorem tYesF_eq : tYesF ρ = some true := rfl
@[simp] theorem eAndF_eq : eAndF f1 f2 ρ = ((f1 ρ).bind truD).bind fun b => if b = true then f2 ρ else some (.bool false) := by unfold eAndF; rw [bF_eq]
@[simp] theorem eOrF_eq : eOrF f1 f2 ρ = ((f1 ρ).bind truD).bind fun b => if b = true then some (.bool true) else f2 ρ := by unfold eOrF; rw [bF_eq]
@[simp] theorem eNotF_eq : eNotF f1 ρ = ((f1 ρ).bind truD).map fun b => .bool (!b) := by unfold eNotF; rw [bF_eq]
@[simp] theorem eIfF_eq : eIfF t f1 f2 ρ = (t ρ).bind fun b => if b = true then f1 ρ else f2 ρ := rfl
@[simp] theorem eChainF_eq (gg gg' : PyData → PyData → Option PyData) : eChainF gg gg' f1 f2 f3 ρ = (f1 ρ).bind fun x => (f2 ρ).bind fun y => ((gg x y).bind truD).bind fun z => if z = true then (f3 ρ).bind fun u => gg' y u else some (.bool false) := by
  unfold eChainF
  cases f1 ρ with
  | none => rfl
  | some x =>
    cases f2 ρ with
    | none => rfl
    | some y =>
      simp only [Option.bind_some]
      cases gg x y with
      | none => rfl
      | some z =>
        cases z with
        | bool b => cases b <;> rfl
        | _ => rfl
@[simp] theorem eChain3F_eq (gg gg' g2 : PyData → PyData → Option PyData) : eChain3F gg gg' g2 f1 f2 f3 f4 ρ = (f1 ρ).bind fun x => (f2 ρ).bind fun y => ((gg x y).bind truD).bind fun z => if z = true then (f3 ρ).bind fun u => ((gg' y u).bind truD).bind fun z => if z = true then (f4 ρ).bind fun u2 => g2 u u2 else some (.bool false) else some (.bool false) := by
  unfold eChain3F
  cases f1 ρ with
  | none => rfl
  | some x =>
    cases f2 ρ with
    | none => rfl
    | some y =>
      simp only [Option.bind_some]
      cases gg x y with
      | none => rfl
      | some z =>
        cases z with
        | bool b =>
          cases b with
          | false => rfl
          | true =>
            simp only [Option.bind_some, truD_bool, if_true]
            cases f3 ρ with
            | none => rfl
            | some u =>
              simp only [Option.bind_some]
              cases gg' y u with
              | none => rfl
              | some z =>
                cases z with
                | bool b => cases b <;> rfl
                | _ => rfl
        | _ => rfl
end
/-! ### operators -/
@[simp] theorem gAdd_int (i j : Int) : gAdd (.int i) (.int j) = some (.int (i + j)) := rfl
theorem gAdd_strE (x y : Str) : gAdd (.str x) (.str y) = if x.length + y.length ≤ LIM then some (.str (x ++ y)) else none := by
  unfold gAdd alt gAddI gI gAddS
  simp only
  split <;> rename_i h <;> split at h <;> simp_all [gAddL]
theorem gAdd_listE (x y : List PyData) : gAdd (.list x) (.list y) = if x.length + y.length ≤ LIM then some (.list (x ++ y)) else none := by
  unfold gAdd alt gAddI gI gAddS gAddL
  rfl
@[simp] theorem gAdd_str (x y : Str) (h : x.length + y.length ≤ LIM) : gAdd (.str x) (.str y) = some (.str (x ++ y)) := by rw [gAdd_strE, if_pos h]
@[simp] theorem gAdd_list (x y : List PyData) (h : x.length + y.length ≤ LIM) : gAdd (.list x) (.list y) = some (.list (x ++ y)) := by rw [gAdd_listE, if_pos h]
@[simp] theorem gMinus_int (i j : Int) : gMinus (.int i) (.int j) = some (.int (i - j)) := rfl
@[simp] theorem gMul_int (i j : Int) (h : cMul i j = true) : gMul (.int i) (.int j) = some (.int (i * j)) := by
  unfold gMul alt gMulI gI
  simp only [h, if_true]
@[simp] theorem gMul_list (x : List PyData) (k : Int) (h : k ≤ 1000000 ∧ -1000000 ≤ k ∧ x.length * k.toNat ≤ LIM) : gMul (.list x) (.int k) = some (.list (List.replicate k.toNat x).flatten) := by
  unfold gMul alt gMulI gI gMulL
  simp only [h, if_true]
  simp
@[simp] theorem gMul_str (x : Str) (k : Int) (h : x.length ≤ 1000 ∧ k ≤ 1000 ∧ -1000 ≤ k) : gMul (.str x) (.int k) = some (.str (Txt.mul x k)) := by
  unfold gMul alt gMulI gI gMulL gMulS
  simp only [h, if_true]
  simp
@[simp] theorem gFdiv_int (i j : Int) (h : cPos i j = true) : gFdiv (.int i) (.int j) = some (.int (i / j)) := by
  unfold gFdiv gI
  simp only [h, if_true]
@[simp] theorem gMod_int (i j : Int) (h : cPos i j = true) : gMod (.int i) (.int j) = some (.int (i % j)) := by
  unfold gMod gI
  simp only [h, if_true]
theorem cPos_of {i j : Int} (h1 : 0 < j) (h2 : j < 1073741824) : cPos i j = true := by simp [cPos, h1, h2]
theorem cMul_l {i j : Int} (h : i.natAbs ≤ 1000000000) : cMul i j = true := by simp [cMul, h]
theorem cMul_r {i j : Int} (h : j.natAbs ≤ 1000000000) : cMul i j = true := by simp [cMul, h]
@[simp] theorem cPos_def (i j : Int) : cPos i j = (decide (0 < j) && decide (j < 1073741824)) := rfl
@[simp] theorem gNeg_int (i : Int) : gNeg (.int i) = some (.int (-i)) := rfl
@[simp] theorem gLt_int (i j : Int) : gLt (.int i) (.int j) = some (.bool (decide (i < j))) := rfl
@[simp] theorem gLe_int (i j : Int) : gLe (.int i) (.int j) = some (.bool (decide (i ≤ j))) := rfl
@[simp] theorem gGt_int (i j : Int) : gGt (.int i) (.int j) = some (.bool (decide (j < i))) := rfl
@[simp] theorem gGe_int (i j : Int) : gGe (.int i) (.int j) = some (.bool (decide (j ≤ i))) := rfl
@[simp] theorem gEq_int (i j : Int) : gEq (.int i) (.int j) = some (.bool (i == j)) := rfl
@[simp] theorem gNe_int (i j : Int) : gNe (.int i) (.int j) = some (.bool (!(i == j))) := rfl
@[simp] theorem gEq_str (i j : Str) : gEq (.str i) (.str j) = some (.bool (i == j)) := rfl
@[simp] theorem gNe_str (i j : Str) : gNe (.str i) (.str j) = some (.bool (!(i == j))) := rfl
@[simp] theorem gEq_bool (i j : Bool) : gEq (.bool i) (.bool j) = some (.bool (i == j)) := rfl
@[simp] theorem gNe_bool (i j : Bool) : gNe (.bool i) (.bool j) = some (.bool (!(i == j))) := rfl
@[simp] theorem gEq_ns (i : Str) : gEq .none (.str i) = some (.bool false) := rfl
@[simp] theorem gIx_list (ds : List PyData) (i : Int) : gIx (.list ds) (.int i) = atI ds i := by
  unfold gIx alt gIx0 gIxS
  simp only
  split
  · rename_i h; exact h.symm
  · rename_i h; rw [h]
@[simp] theorem gIx_tuple (ds : List PyData) (i : Int) : gIx (.tuple ds) (.int i) = atI ds i := by
  unfold gIx alt gIx0 gIxS
  simp only
  split
  · rename_i h; exact h.symm
  · rename_i h; rw [h]
@[simp] theorem gIx_str (z : Str) (i : Int) (h : z.length ≤ LIM) : gIx (.str z) (.int i) = (atI z.cps.toList i).map fun c => .str ⟨#[c]⟩ := by
  unfold gIx alt gIx0 gIxS
  simp only [h, if_true]
  split
  · rename_i h; exact h.symm
  · rename_i h; rw [h]
@[simp] theorem gIx_scr (ns : List Int) (i : Int) : gIx (scrD ns) (.int i) = atI (ns.map .int) i := rfl
@[simp] theorem atI_0 {α : Type} (a : α) (l : List α) : atI (a :: l) 0 = some a := by
  unfold atI ixN
  simp
@[simp] theorem atI_1 {α : Type} (a b : α) (l : List α) : atI (a :: b :: l) 1 = some b := by
  have h : (1 : Int) < ((l.length : Int) + 1 + 1) := by omega
  unfold atI ixN
  simp [h]
@[simp] theorem atI_2 {α : Type} (a b c : α) (l : List α) : atI (a :: b :: c :: l) 2 = some c := by
  have h : (2 : Int) < ((l.length : Int) + 1 + 1 + 1) := by omega
  unfold atI ixN
  simp [h]
@[simp] theorem atI_3 {α : Type} (a b c d : α) (l : List α) : atI (a :: b :: c :: d :: l) 3 = some d := by
  have h : (3 : Int) < ((l.length : Int) + 1 + 1 + 1 + 1) := by omega
  unfold atI ixN
  simp [h]
theorem atI_pos {α : Type} (l : List α) (i : Int) (h : 0 ≤ i) : atI l i = l[i.toNat]? := by
  unfold atI ixN
  rw [if_pos h]
  by_cases h2 : i < (l.length : Int)
  · rw [if_pos h2]; rfl
  · rw [if_neg h2, List.getElem?_eq_none (by omega)]; rfl
@[simp] theorem dataD_int (i : Int) : dataD (.int i) = true := rfl
@[simp] theorem dataD_str (i : Str) : dataD (.str i) = true := rfl
@[simp] theorem dataD_bool (i : Bool) : dataD (.bool i) = true := rfl
@[simp] theorem dataD_none : dataD .none = true := rfl
@[simp] theorem dataD_list (l : List PyData) : dataD (.list l) = true := rfl
@[simp] theorem dataD_tuple (l : List PyData) : dataD (.tuple l) = true := rfl
@[simp] theorem scalD_int (i : Int) : scalD (.int i) = true := rfl
@[simp] theorem scalD_str (i : Str) : scalD (.str i) = true := rfl
@[simp] theorem scalD_bool (i : Bool) : scalD (.bool i) = true := rfl
@[simp] theorem scalD_none : scalD .none = true := rfl
@[simp] theorem gMax_int (i j : Int) : gMax [.int i, .int j] = some (.int (if j > i then j else i)) := rfl
@[simp] theorem gMin_int (i j : Int) : gMin [.int i, .int j] = some (.int (if j < i then j else i)) := rfl
@[simp] theorem gLen_list (ds : List PyData) : gLen [.list ds] = some (.int (ds.length : Nat)) := rfl
@[simp] theorem gLen_tuple (ds : List PyData) : gLen [.tuple ds] = some (.int (ds.length : Nat)) := rfl
@[simp] theorem gLen_scr (ns : List Int) : gLen [scrD ns] = some (.int (ns.length : Nat)) := by simp [gLen, scrD]
@[simp] theorem gLen_str (z : Str) (h : z.length ≤ LIM) : gLen [.str z] = some (.int (z.length : Nat)) := by simp [gLen, h]
@[simp] theorem gInt_int (i : Int) : gInt [.int i] = some (.int i) := rfl
@[simp] theorem gInt_bool (b : Bool) : gInt [.bool b] = some (.int (if b then 1 else 0)) := rfl
@[simp] theorem gListOf_list (ds : List PyData) : gListOf [.list ds] = some ds := rfl
@[simp] theorem gListOf_tuple (ds : List PyData) : gListOf [.tuple ds] = some ds := rfl
@[simp] theorem eIsi_eq (T : TyN) (f : SE) (ρ : Rho) : eIsi T f ρ = (f ρ).bind fun d => if dataD d = true then some (.bool (isiD T d)) else none := rfl
@[simp] theorem isi_bb (b : Bool) : isiD .bool (.bool b) = true := rfl
@[simp] theorem isi_bi (b : Int) : isiD .bool (.int b) = false := rfl
@[simp] theorem isi_bn : isiD .bool .none = false := rfl
@[simp] theorem isi_bs (b : Str) : isiD .bool (.str b) = false := rfl
@[simp] theorem isi_bt (b : List PyData) : isiD .bool (.tuple b) = false := rfl
@[simp] theorem isi_ib (b : Bool) : isiD .int (.bool b) = true := rfl
@[simp] theorem isi_ii (b : Int) : isiD .int (.int b) = true := rfl
@[simp] theorem isi_in : isiD .int .none = false := rfl
@[simp] theorem isi_is (b : Str) : isiD .int (.str b) = false := rfl
@[simp] theorem isi_it (b : List PyData) : isiD .int (.tuple b) = false := rfl
@[simp] theorem isi_ss (b : Str) : isiD .str (.str b) = true := rfl
@[simp] theorem isi_ll (b : List PyData) : isiD .list (.list b) = true := rfl
@[simp] theorem isi_tt (b : List PyData) : isiD .tuple (.tuple b) = true := rfl
/-! ### is -/
@[simp] theorem gIs_i (i : Int) (b : Bool) : gIs (.int i) (.bool b) = some (.bool false) := rfl
@[simp] theorem gIsNot_i (i : Int) (b : Bool) : gIsNot (.int i) (.bool b) = some (.bool true) := rfl
@[simp] theorem gIs_b (a b : Bool) : gIs (.bool a) (.bool b) = some (.bool (a == b)) := rfl
@[simp] theorem gIsNot_b (a b : Bool) : gIsNot (.bool a) (.bool b) = some (.bool (!(a == b))) := rfl
@[simp] theorem gIs_nn : gIs .none .none = some (.bool true) := rfl
@[simp] theorem gIs_bn (a : Bool) : gIs (.bool a) .none = some (.bool false) := rfl
@[simp] theorem gIs_in (a : Int) : gIs (.int a) .none = some (.bool false) := rfl
@[simp] theorem gIs_sn (a : Str) : gIs (.str a) .none = some (.bool false) := rfl
@[simp] theorem gIs_tn (a : List PyData) : gIs (.tuple a) .none = some (.bool false) := rfl
@[simp] theorem gIs_ln (a : List PyData) : gIs (.list a) .none = some (.bool false) := rfl
/-! ### the script's cells -/
def cell (ns : List Int) (k : Nat) : Int := (ns[k]?).getD 0
theorem cutA_one {α : Type} (l : List α) (k : Nat) : cutA l (some (k : Int)) (some ((k : Int) + 1)) = (l[k]?).toList := by
  unfold cutA
  have e1 : ((k : Int) + 1) = ((k + 1 : Nat) : Int) := by omega
  rw [HT.sIx_nat, e1, HT.sIx_nat]
  by_cases h : k < l.length
  · have h1 : min k l.length = k := by omega
    have h2 : min (k + 1) l.length - k = 1 := by omega
    rw [h1, h2, drop_cons_of (List.getElem?_eq_getElem h), List.getElem?_eq_getElem h]
    rfl
  · have h1 : min k l.length = l.length := by omega
    rw [h1, List.drop_length, List.getElem?_eq_none (by omega)]
    simp
theorem cell_ev (ns : List Int) (k : Nat) : (gAdd (.list (cutA (ns.map .int) (some (k : Int)) (some ((k : Int) + 1)))) (.list [.int 0])).bind (fun x => gIx x (.int 0)) = some (.int (cell ns k)) := by
  rw [cutA_one, List.getElem?_map]
  cases h : ns[k]? with
  | none => rw [gAdd_list _ _ (by simp [LIM])]; simp [cell, h]
  | some v => rw [gAdd_list _ _ (by simp [LIM])]; simp [cell, h]
/-! ### an item of a menu, at a remainder -/
theorem atI_mod {α : Type} (l : List α) (i : Int) (n : Int) (hn : n = (l.length : Int)) (h0 : 0 < n) : ∃ x, x ∈ l ∧ atI l (i % n) = some x := by
  have h1 := Int.emod_nonneg i (show n ≠ 0 by omega)
  have h2 := Int.emod_lt_of_pos i h0
  rw [atI_pos _ _ h1]
  have h3 : (i % n).toNat < l.length := by omega
  exact ⟨l[(i % n).toNat], List.getElem_mem h3, List.getElem?_eq_getElem h3⟩
/-! ### loops and comprehensions, the usual ones -/
theorem set_get {α : Type} {l : List α} {j : Nat} {x : α} (h : l[j]? = some x) : l.set j x = l := by
  obtain ⟨h1, h2⟩ := List.getElem?_eq_some_iff.mp h
  subst h2
  exact List.set_getElem_self h1
/-- a loop that looks for one and hands back at once -/
theorem forF_find {j : Nat} {body : SS} {ρ : Rho} {r : PyData} (p : PyData → Bool) : ∀ {ds : List PyData} {s : Sl}, j < ρ.length → (∀ d, d ∈ ds → body (ρ.set j (.val d)) = if p d = true then .rt r ((ρ.set j (.val d)).map frz1) else .nx (ρ.set j (.val d))) →
    ∃ s' r', forF (tg1 j) body ds (ρ.set j s) = if ds.any p = true then .rt r r' else .nx (ρ.set j s')
  | [], s, hj, h => ⟨s, [], by simp [forF]⟩
  | d :: ds, s, hj, h => by
    obtain ⟨s', r', e⟩ := forF_find p (ds := ds) (s := .val d) hj fun d' hd => h d' (List.mem_cons_of_mem _ hd)
    cases hp : p d with
    | true =>
      refine ⟨s', (ρ.set j (.val d)).map frz1, ?_⟩
      rw [forF_cons1, List.set_set, h d List.mem_cons_self]
      simp [hp]
    | false =>
      refine ⟨s', r', ?_⟩
      rw [forF_cons1, List.set_set, h d List.mem_cons_self]
      simp [hp, e]
theorem forF_find0 {j : Nat} {body : SS} {ρ : Rho} {r : PyData} (p : PyData → Bool) {ds : List PyData} (hj : j < ρ.length) (h : ∀ d, d ∈ ds → body (ρ.set j (.val d)) = if p d = true then .rt r ((ρ.set j (.val d)).map frz1) else .nx (ρ.set j (.val d))) :
    ∃ s' r', forF (tg1 j) body ds ρ = if ds.any p = true then .rt r r' else .nx (ρ.set j s') := by
  have e : ρ.set j ρ[j] = ρ := List.set_getElem_self hj
  obtain ⟨s', r', q⟩ := forF_find p (ds := ds) (s := ρ[j]) hj h
  rw [e] at q
  exact ⟨s', r', q⟩
/-- a comprehension without a test | with one -/
theorem lcF_map {j : Nat} {el : SE} {ρ : Rho} (g : PyData → PyData) : ∀ {ds : List PyData}, (∀ d, d ∈ ds → el (ρ.set j (.val d)) = some (g d) ∧ dataD (g d) = true) → lcF j tYesF el ρ ds = some (ds.map g)
  | [], _ => rfl
  | d :: ds, h => by
    have ih := lcF_map g (ds := ds) fun d' hd => h d' (List.mem_cons_of_mem _ hd)
    obtain ⟨h1, h2⟩ := h d List.mem_cons_self
    simp [lcF, h1, h2, ih]
theorem lcF_filter {j : Nat} {tst : STe} {el : SE} {ρ : Rho} (p : PyData → Bool) (g : PyData → PyData) : ∀ {ds : List PyData}, (∀ d, d ∈ ds → tst (ρ.set j (.val d)) = some (p d)) → (∀ d, d ∈ ds → p d = true → el (ρ.set j (.val d)) = some (g d) ∧ dataD (g d) = true) → lcF j tst el ρ ds = some ((ds.filter p).map g)
  | [], _, _ => rfl
  | d :: ds, h, h' => by
    have ih := lcF_filter p g (ds := ds) (fun d' hd => h d' (List.mem_cons_of_mem _ hd)) fun d' hd => h' d' (List.mem_cons_of_mem _ hd)
    have h1 := h d List.mem_cons_self
    cases hp : p d with
    | true =>
      obtain ⟨h2, h3⟩ := h' d List.mem_cons_self hp
      simp [lcF, h1, hp, h2, h3, ih]
    | false => simp [lcF, h1, hp, ih]
@[simp] theorem rangeD_len (lo : Int) (n : Nat) : (rangeD lo n).length = n := by simp [rangeD]
theorem mem_rangeD {lo : Int} {n : Nat} {d : PyData} (h : d ∈ rangeD lo n) : ∃ i : Nat, i < n ∧ d = .int (lo + i) := by
  unfold rangeD at h
  obtain ⟨i, h1, h2⟩ := List.mem_map.mp h
  exact ⟨i, by simpa using h1, h2.symm⟩
@[simp] theorem signsD_len (z : Str) : (signsD z).length = z.length := by simp [signsD, Str.length]
theorem mem_signsD {z : Str} {d : PyData} (h : d ∈ signsD z) : ∃ c, c ∈ z.cps.toList ∧ d = .str ⟨#[c]⟩ := by
  unfold signsD at h
  obtain ⟨c, h1, h2⟩ := List.mem_map.mp h
  exact ⟨c, h1, h2.symm⟩
@[simp] theorem lLc_eq (src : SA) (j : Nat) (t : STe) (f : SE) (ρ : Rho) : lLc src j t f ρ = (src ρ).bind fun ds => if ds.length ≤ LIM then lcF j t f ρ ds else none := rfl
@[simp] theorem iR1_eq (f : SA) (ρ : Rho) : iR1 f ρ = (f ρ).bind fun ds => match ds with
  | [.int j] => if j ≤ 1000000 ∧ -1000000 ≤ j then some (rangeD 0 j.toNat) else none
  | _ => none := rfl
@[simp] theorem iR2_eq (f : SA) (ρ : Rho) : iR2 f ρ = (f ρ).bind fun ds => match ds with
  | [.int i, .int j] => if (j ≤ 1000000 ∧ -1000000 ≤ j) ∧ i ≤ 1000000 ∧ -1000000 ≤ i then some (rangeD i (j - i).toNat) else none
  | _ => none := rfl
def lstD : PyData → Option (List PyData)
  | .list ds => if ds.length ≤ LIM then some ds else none
  | _ => none
@[simp] theorem lstD_list (ds : List PyData) (h : ds.length ≤ LIM) : lstD (.list ds) = some ds := by simp [lstD, h]
@[simp] theorem iL_eq (f : SE) (ρ : Rho) : iL f ρ = (f ρ).bind lstD := by unfold iL lstD; cases f ρ <;> rfl
def tupD : PyData → Option (List PyData)
  | .tuple ds => if ds.length ≤ LIM then some ds else none
  | _ => none
@[simp] theorem tupD_tup (ds : List PyData) (h : ds.length ≤ LIM) : tupD (.tuple ds) = some ds := by simp [tupD, h]
@[simp] theorem iT_eq (f : SE) (ρ : Rho) : iT f ρ = (f ρ).bind tupD := by unfold iT tupD; cases f ρ <;> rfl
def sgD : PyData → Option (List PyData)
  | .str z => if z.length ≤ LIM then some (signsD z) else none
  | _ => none
@[simp] theorem sgD_str (z : Str) (h : z.length ≤ LIM) : sgD (.str z) = some (signsD z) := by simp [sgD, h]
@[simp] theorem iS_eq (f : SE) (ρ : Rho) : iS f ρ = (f ρ).bind sgD := by unfold iS sgD; cases f ρ <;> rfl
/-- an own list's changes -/
def ownL : Option Sl → Option (List PyData)
  | some (.own ds) => some ds
  | _ => none
@[simp] theorem ownL_own (ds : List PyData) : ownL (some (.own ds)) = some ds := rfl
@[simp] theorem sApp_eq (i : Nat) (f : SE) (ρ : Rho) : sApp i f ρ = outL (ownL ρ[i]?) fun ds => outV (f ρ) fun d => if dataD d = true ∧ ds.length ≤ LIM then .nx (ρ.set i (.own (ds ++ [d]))) else .no := by
  unfold sApp
  cases h : ρ[i]? with
  | none => rfl
  | some s =>
    cases s with
    | own ds => cases f ρ <;> rfl
    | _ => rfl
def outI (o : Option PyData) (k : Int → Out) : Out := match o with
  | some (.int i) => k i
  | _ => .no
@[simp] theorem outI_int (i : Int) (k : Int → Out) : outI (some (.int i)) k = k i := rfl
def outN (o : Option Nat) (k : Nat → Out) : Out := match o with
  | some i => k i
  | none => .no
@[simp] theorem outN_some (i : Nat) (k : Nat → Out) : outN (some i) k = k i := rfl
@[simp] theorem sPut_eq (i : Nat) (ix f : SE) (ρ : Rho) : sPut i ix f ρ = outL (ownL ρ[i]?) fun ds => outV (f ρ) fun d => outI (ix ρ) fun k => outN (ixN ds.length k) fun j => if dataD d = true then .nx (ρ.set i (.own (ds.set j d))) else .no := by
  unfold sPut
  cases h : ρ[i]? with
  | none => rfl
  | some s =>
    cases s with
    | own ds =>
      cases f ρ with
      | none => rfl
      | some d =>
        cases ix ρ with
        | none => rfl
        | some k =>
          cases k with
          | int k =>
            show (match ixN ds.length k with
              | some j => _
              | none => Out.no) = outN (ixN ds.length k) _
            cases ixN ds.length k <;> rfl
          | _ => rfl
    | _ => rfl
theorem ixN_of {n : Nat} {i : Int} (h0 : 0 ≤ i) (h1 : i < n) : ixN n i = some i.toNat := by
  unfold ixN
  rw [if_pos h0, if_pos h1]
/-! ### joined texts -/
theorem gJoin_strs (z : Str) (ys : List Str) (h : (ys.map (·.length)).sum + ys.length * z.length ≤ LIM) : gJoin (.str z) (.list (ys.map .str)) = some (.str (Txt.join z ys)) := by
  unfold gJoin
  simp only [strsD_map, Option.bind_some, h, if_true]
end RT
/-! More words: what is never reached, texts split. -/
namespace RT
open PySem PySem.Spec PyProof.Rows L2
def sNo : SS := fun _ => .no
@[simp] theorem sNo_eq (ρ : Rho) : sNo ρ = .no := rfl
def gSplit : PyData → PyData → Option (List PyData)
  | .str a, .str b => if 0 < b.length ∧ a.length + 2 ≤ LIM then some ((Txt.split a b).map .str) else none
  | _, _ => none
@[simp] theorem gSplit_str (a b : Str) (h : 0 < b.length) (h2 : a.length + 2 ≤ LIM) : gSplit (.str a) (.str b) = some ((Txt.split a b).map .str) := by
  simp [gSplit, h, h2]
def lOp (g : PyData → PyData → Option (List PyData)) (f1 f2 : SE) : SA := fun ρ => (f1 ρ).bind fun x => (f2 ρ).bind fun y => g x y
@[simp] theorem lOp_eq (g : PyData → PyData → Option (List PyData)) (f1 f2 : SE) (ρ : Rho) : lOp g f1 f2 ρ = (f1 ρ).bind fun x => (f2 ρ).bind fun y => g x y := rfl
section
variable {X : Cx} {K : PySem.W.Frag} {B : Bs} {W : XW} {e a b : Expr} {t t1 t2 : TE} {f f1 f2 : SE} {ta : TA} {sa : SA} {pos p : Pos} {st : Stmt}
theorem s_never : SemS X K B W st tNever sNo := ⟨ps_never, fun _ _ _ _ _ _ _ _ h => h.elim⟩
abbrev rSplit : V → List V → Hp → VK → Prop := fun x xs H Q => ∃ a b, x = .str a ∧ xs = [.str b] ∧ (b.length == 0) = false ∧ a.length + 2 ≤ sizeLine ∧ rNewStrs (Txt.split a b) H Q
theorem dq_strs {F : Hp} : ∀ ns : List Str, DqAll K F (ns.map V.str) (ns.map PyData.str)
  | [] => .nil
  | n :: ns => .cons (.str n) (dq_strs ns)
theorem split_ok (h1 : BOk K B t1 f1) (h2 : BOk K B t2 f2) : LOk K B (tM1 rSplit t1 t2) (lOp gSplit f1 f2) := fun R F H σ ρ ds E q Q k => by
  cases e1 : f1 ρ with
  | none => simp [e1] at q
  | some x =>
    cases e2 : f2 ρ with
    | none => simp [e1, e2] at q
    | some y =>
      have q' : gSplit x y = some ds := by simpa [e1, e2] using q
      unfold gSplit at q'
      split at q'
      · rename_i z y
        split at q'
        · rename_i hz
          cases q'
          refine h1 R F H σ ρ _ E e1 _ fun v H1 G1 g1 b1 => ⟨⟨z, b1.str⟩, ?_⟩
          refine h2 R G1 H1 σ ρ _ (E.grow g1) e2 _ fun w H2 G2 g2 b2 => ?_
          refine ⟨z, y, b1.str, by rw [b2.str], by simpa using (show y.length ≠ 0 by omega), lim_line hz.2, fun p hp => ?_⟩
          exact k p _ _ G2 ((g1.trans g2).beside hp) ((g1.trans g2).h.free hp) ((g1.trans g2).sub.free hp) upd_same (dq_strs _)
        · cases q'
      · cases q'
theorem sl_split {apos : Pos} (h1 : SemB X K B a t1 f1) (h2 : SemB X K B b t2 f2) (hs : starEach [b] X.env = [(false, eval b X.env)] := by rfl) (hbase : attributeBase a "split" X.env (eval a X.env) = eval a X.env := by rfl) (hline : (apos.endLine == pos.line) = true := by rfl) :
    SemL X K B (.Call (.Attribute a "split" apos) [b] [] pos) (tM1 rSplit t1 t2) (lOp gSplit f1 f2) := ⟨pe_split h1.pe h2.pe hs hbase hline, split_ok h1.ok h2.ok⟩
end
end RT
/-! ### loops that carry a state; data that can be compared -/
namespace RT
open PySem PySem.Spec PyProof.Rows L2
theorem forF_list {j : Nat} {body : SS} (R : Nat → Rho) : ∀ {ds : List PyData} (n : Nat), (∀ k d, ds[k]? = some d → body ((R (n + k)).set j (.val d)) = .nx (R (n + k + 1))) → forF (tg1 j) body ds (R n) = .nx (R (n + ds.length))
  | [], n, _ => rfl
  | d :: ds, n, h => by
    have h0 := h 0 d rfl
    rw [Nat.add_zero] at h0
    rw [forF_cons1, h0, thn_nx]
    have := forF_list R (ds := ds) (n + 1) fun k d' hd => by
      have := h (k + 1) d' (by simpa using hd)
      rw [show n + 1 + k = n + (k + 1) by omega]
      exact this
    rw [this, List.length_cons]
    congr 2
    omega
theorem forF_range {j : Nat} {body : SS} (R : Nat → Rho) (n : Nat) (h : ∀ k : Nat, k < n → body ((R k).set j (.val (.int (k : Int)))) = .nx (R (k + 1))) : forF (tg1 j) body (rangeD 0 n) (R 0) = .nx (R n) := by
  have := forF_list (j := j) (body := body) R (ds := rangeD 0 n) 0 fun k d hd => by
    have hk : k < n := by
      have := (List.getElem?_eq_some_iff.mp hd).1
      simpa using this
    have hd' : d = .int (k : Int) := by
      simp [rangeD, hk] at hd
      exact hd.symm
    rw [hd', Nat.zero_add]
    exact h k hk
  rw [this, rangeD_len, Nat.zero_add]
mutual
/-- data that == may look at -/
def okD : PyData → Bool
  | .str x => PyData.canLay0 (.str x)
  | .list l => okDs l
  | .tuple l => okDs l
  | .dict _ => false
  | _ => true
def okDs : List PyData → Bool
  | [] => true
  | x :: l => okD x && okDs l
end
mutual
theorem okD_lay : ∀ d, okD d = true → d.canLay0 = true
  | .none, _ => by simp [PyData.canLay0]
  | .bool _, _ => by simp [PyData.canLay0]
  | .int _, _ => by simp [PyData.canLay0]
  | .str x, h => by simpa [okD] using h
  | .list l, h => by
    have := okDs_lay l (by simpa [okD] using h)
    simpa [PyData.canLay0] using this
  | .tuple l, h => by
    have := okDs_lay l (by simpa [okD] using h)
    simpa [PyData.canLay0] using this
  | .dict _, h => by simp [okD] at h
theorem okDs_lay : ∀ l, okDs l = true → PyData.canLayAll0 l = true
  | [], _ => by simp [PyData.canLayAll0]
  | x :: l, h => by
    have h' : okD x = true ∧ okDs l = true := by simpa [okDs] using h
    simp [PyData.canLayAll0, okD_lay x h'.1, okDs_lay l h'.2]
end
theorem okDs_all {l : List PyData} : okDs l = l.all okD := by
  induction l with
  | nil => rfl
  | cons x l ih => simp [okDs, ih]
theorem okD_data {d : PyData} (h : okD d = true) : dataD d = true := by
  cases d <;> first | rfl | simp [okD] at h
theorem gEq_same {l : List PyData} (h : okDs l = true) (hd : (PyData.list l).depth ≤ 64) : gEq (.list l) (.list l) = some (.bool true) := by
  have h1 := okD_lay (.list l) (by simpa [okD] using h)
  have h2 : SeqAt.shaped (.list l) = true := by simp [SeqAt.shaped, h1, hd]
  show gEqD (.list l) (.list l) = _
  unfold gEqD
  rw [if_pos ⟨rfl, rfl, h2, h2⟩, SeqAt.eqv_refl _ h1]
theorem gNe_same {l : List PyData} (h : okDs l = true) (hd : (PyData.list l).depth ≤ 64) : gNe (.list l) (.list l) = some (.bool false) := by
  have h1 := okD_lay (.list l) (by simpa [okD] using h)
  have h2 : SeqAt.shaped (.list l) = true := by simp [SeqAt.shaped, h1, hd]
  show gNeD (.list l) (.list l) = _
  unfold gNeD
  rw [if_pos ⟨rfl, rfl, h2, h2⟩, SeqAt.eqv_refl _ h1]
  rfl
theorem depthAll_le {n : Nat} : ∀ {l : List PyData}, (∀ d ∈ l, d.depth ≤ n) → PyData.depthAll l ≤ n
  | [], _ => by simp [PyData.depthAll]
  | d :: l, h => by
    have h1 := h d List.mem_cons_self
    have h2 := depthAll_le fun e he => h e (List.mem_cons_of_mem _ he)
    simp only [PyData.depthAll]
    omega
end RT
/-! Objects of the program: methods that read, that change, that raise. -/
namespace RT
open PySem PySem.Spec PyProof.Rows L2
/-! ### what a call may do -/
inductive Res where
  | no | ret (d : PyData) | exc (c : Str)
def Res.goes (r : Res) (A : PyData → Prop) (B : Str → Prop) : Prop := match r with
  | .no => False
  | .ret d => A d
  | .exc c => B c
def Res.ok : Res → Option PyData
  | .ret d => some d
  | _ => none
/-- what is raised, by the name of its own class -/
abbrev wx (K : PySem.W.Frag) (w : WX) : XW := fun c σ H => w (.ref (He.ga K c)) none σ H
abbrev WxNo : WX := fun _ _ _ _ => False
def EXOk (K : PySem.W.Frag) (B : Bs) (w : WX) (t : TE) (f : Rho → Res) : Prop := ∀ (R : Rg) (F H : Hp) (σ : L2.St) (ρ : Rho) (Q : VK), EnvOk K B R F H σ ρ →
  (f ρ).goes (fun d => ∀ v H' G, Grow H F H' G → Rp K G v d → Q v H') (fun c => ∀ H' G, Grow H F H' G → wx K w c σ H') → t σ H Q
structure SemX (X : Cx) (K : PySem.W.Frag) (B : Bs) (w : WX) (e : Expr) (t : TE) (f : Rho → Res) : Prop where
  pe : PE X e t
  ok : EXOk K B w t f
def sDropX (f : Rho → Res) : SS := fun ρ => match f ρ with
  | .no => .no
  | .ret _ => .nx ρ
  | .exc c => .ex c ρ
def sSetX (i : Nat) (f : Rho → Res) : SS := fun ρ => match f ρ with
  | .no => .no
  | .ret d => .nx (ρ.set i (.val d))
  | .exc c => .ex c ρ
def sEx (c : Str) : SS := fun ρ => .ex c ρ
section
variable {X : Cx} {K : PySem.W.Frag} {B : Bs} {w : WX} {e : Expr} {te : TE} {f : Rho → Res} {pos : Pos}
theorem dropX_ok (k : EXOk K B w te f) : SSOk K B (wx K w) (tDrop te) (sDropX f) := fun Z R F H σ ρ D s hg => by
  unfold sDropX at hg
  refine k R F H σ ρ _ s.env ?_
  cases e : f ρ with
  | no => rw [e] at hg; exact hg.elim
  | ret d => rw [e] at hg; exact fun v H' G g _ => hg σ H' R G (s.grow g) g.f
  | exc c => rw [e] at hg; exact fun H' G g => hg σ H' R G (s.grow g) g.f
theorem setX_ok (i : Nat) (k : EXOk K B w te f) : SSOk K B (wx K w) (tAsg te (gName i)) (sSetX i f) := fun Z R F H σ ρ D s hg => by
  unfold sSetX at hg
  refine k R F H σ ρ _ s.env ?_
  cases e : f ρ with
  | no => rw [e] at hg; exact hg.elim
  | ret d => rw [e] at hg; exact fun v H' G g r => hg _ H' R G ((s.grow g).setV i r) g.f
  | exc c => rw [e] at hg; exact fun H' G g => hg σ H' R G (s.grow g) g.f
theorem s_exprX (he : SemX X K B w e te f) (hs : swapsWith e none pos.line X.env = pure false := by rfl) : SemS X K B (wx K w) (.Expr e pos) (tDrop te) (sDropX f) := ⟨ps_expr he.pe hs, dropX_ok he.ok⟩
theorem s_setX (i : Nat) {x : Str} {pos' : Pos} (hN : X.N.Nodup) (he : SemX X K B w e te f) (hi : X.N[i]? = some x := by rfl) (hx : Loc X.env.scope x := by first | exact Or.inl rfl | exact Or.inr rfl) (hs : swapsWith e (some (.Name x pos')) pos.line X.env = pure false := by rfl)
    (hf : X.fn x = true ∨ X.env.scope.names.lookup x = some .local := by first | exact .inl rfl | exact .inr rfl) : SemS X K B (wx K w) (.Assign [.Name x pos'] e pos) (tAsg te (gName i)) (sSetX i f) := ⟨ps_set hN hi hx he.pe hs hf, setX_ok i he.ok⟩
/-- an own class of exceptions -/
structure ExT (K : PySem.W.Frag) (mg : Str → Option Value) (c : Str) : Prop where
  g : mg c = some (.ref (He.ga K c))
  x : PySem.W.excIn K (He.ga K c) He.veBase "ValueError.__new__" = true
  k : PySem.W.keepIn K (.ref (He.ga K c)) = true
  b : PySem.W.subIn K (.ref (He.ga K c)) (.type "BaseException") = some true
  t : PySem.W.typeIn K (.ref (He.ga K c)) = some (.type "type")
theorem s_raise {x m : Str} {j : Nat} {p p2 pos2 : Pos} (hc : X.calm = true) (tk : Takes X w) (T : ExT X.K X.mg x) (hg : Gl X x := by rfl) (hdb : (x == ("__debug__" : Str)) = false := by decide) (hK : X.K = K := by rfl) :
    SemS X K B (wx K w) (.Raise (some (.Call (.Name x p) [.Constant (.str m) j p2] [] pos)) none pos2) (fun _ σ H => w (.ref (He.ga K x)) none σ H) (sEx x) := by
  subst hK
  exact ⟨ps_raise hc tk (pmk_own PySem.F.excBase_ValueError T.x T.g T.k (raises_own T.b T.t) hg hdb), fun Z R F H σ ρ D s hg => hg σ H R F s (Same.refl F)⟩
end
/-! ### a method's call, what is raised wished at the caller's slots -/
def tMethS (C : Addr) (m : Str) (sp : Sp) (E : L2.St → XK) (ta : TE) (t : TA) : TE := fun σ H Q => ta σ H fun x H1 => ∃ a dx fs, x = .ref a ∧ H1 a = some (.ins C dx fs) ∧ fs.lookup m = none ∧ t σ H1 fun vs H2 => sp (x :: vs) H2 Q (E σ)
theorem pe_methW {X : Cx} {w : WX} {C f : Addr} {fd : FuncData} {ps : List Str} {m : Str} {k j : Nat} {sp : Sp} {o e : Expr} {es : List Expr} {ta : TE} {t : TA} {apos pos : Pos} {pl : Sem Bool} (tk : Takes X w) (ho : PE X o ta) (cl : Cls X.K C) (me : Meth X.K C m f)
    (G : FnOk X.prog X.w X.K X.mg X.base (L2.CX X.prog X.w) k f fd ps sp) (hr : Room j X.A) (hk : k ≤ j) (bd : Binds X.K fd ps []) (hp : PA X (e :: es) t)
    (h1 : starEach (e :: es) X.env = (false, eval e X.env) :: starEach es X.env := by rfl) (h2 : (backTo pos (starEach es X.env)).any (·.1) = false := by rfl)
    (h3 : eval (.Call (.Attribute o m apos) (e :: es) [] pos) X.env = (eval o X.env >>= fun ov => standAt apos.atName >>= fun _ => holding [ov] (getMethod ov m pl) >>= fun r => callWith pos r.1 r.2 (backTo pos (starEach (e :: es) X.env)) (backToKw pos (keywordEach [] X.env))) := by rfl) :
    PE X (.Call (.Attribute o m apos) (e :: es) [] pos) (tMethS C m sp (WE w) ta t) :=
  ⟨fun pins s σ H Q I h => PySem.W.methodCall_KW (pl := pl) (thn (ho.run pins s σ H _ I h) fun u s1 ⟨x, Ha, Ia, rx, a, dx, fs, ex, ea, lk, q⟩ => by
    cases ex
    cases rx
    exact getmeth_ok Ia ea cl me lk (PySem.W.callWith_K (first := [.ref a]) (h₀ := X.base) Ia.ok.mod.kin me.kp (thn (hp.run pos pins s1 σ Ha _ Ia q) fun us s2 ⟨vs, Hb, Ib, rv, q2⟩ => ⟨Ib.kIn, run_fnS (us := .ref a :: us) (vs := .ref a :: vs) G (hr.mono hk) bd (passAt tk σ) Ib (.cons rfl rv) q2⟩) h1 h2)) h3⟩
end RT
/-! Objects in slots: made, read, changed. -/
namespace RT
open PySem PySem.Spec PyProof.Rows L2
/-- a kind of objects -/
structure Kd (S : Type) where
  inj : S → ObjSt
  prj : ObjSt → Option S
  ok : ∀ {o : ObjSt} {s : S}, prj o = some s → o = inj s
  pi : ∀ s, prj (inj s) = some s
/-- of a class, with fields -/
structure KdC {S : Type} (kd : Kd S) (C : Str) (fl : List Str) : Prop where
  ins : ∀ {K : PySem.W.Frag} {F R : Hp} {a : Addr} {s : S}, ObjAt K F R a (kd.inj s) → ∃ dx fs, R a = some (.ins (He.ga K C) dx fs) ∧ ∀ n, n ∈ fs.map (·.1) → n ∈ fl
abbrev kB : Kd BookSt where
  inj := .book
  prj := fun o => match o with
    | .book β => some β
    | _ => none
  ok := fun {o s} h => by cases o <;> simp at h; subst h; rfl
  pi := fun _ => rfl
abbrev kD : Kd DealSt where
  inj := .deal
  prj := fun o => match o with
    | .deal δ => some δ
    | _ => none
  ok := fun {o s} h => by cases o <;> simp at h; subst h; rfl
  pi := fun _ => rfl
abbrev kW : Kd (List Cell) where
  inj := .row
  prj := fun o => match o with
    | .row δ => some δ
    | _ => none
  ok := fun {o s} h => by cases o <;> simp at h; subst h; rfl
  pi := fun _ => rfl
abbrev kT : Kd (List (Int × PyData)) where
  inj := .dct
  prj := fun o => match o with
    | .dct δ => some δ
    | _ => none
  ok := fun {o s} h => by cases o <;> simp at h; subst h; rfl
  pi := fun _ => rfl
abbrev kA : Kd ObjSt where
  inj := fun o => o
  prj := some
  ok := fun h => Option.some.inj h
  pi := fun _ => rfl
def flB : List Str := ["skills", "limits", "rests", "stretches", "needs"]
def flD : List Str := "limits" :: nmD
theorem kcB : KdC kB "Book" flB := ⟨fun {K F R a s} h => by
  obtain ⟨dx, dS, dL, dR, dT, dN, pe, sh, h⟩ := h
  exact ⟨dx, _, h.ob, fun n hn => hn⟩⟩
theorem kcD : KdC kD "Deal" flD := ⟨fun {K F R a s} h => by
  obtain ⟨dx, dL, as, h⟩ := h
  refine ⟨dx, _, h.ob, fun n hn => ?_⟩
  obtain ⟨⟨f, v⟩, hm, rfl⟩ := List.mem_map.mp hn
  rcases List.mem_cons.mp hm with e | hm
  · cases e; exact List.mem_cons_self
  · exact List.mem_cons_of_mem _ (List.of_mem_zip hm).1⟩
theorem lookup_no {α : Type} {m : Str} : ∀ {fs : List (Str × α)}, (fs.map (·.1)).all (fun f => !(m == f)) = true → fs.lookup m = none
  | [], _ => rfl
  | (f, v) :: fs, h => by
    simp only [List.map_cons, List.all_cons, Bool.and_eq_true, Bool.not_eq_true'] at h
    rw [List.lookup_cons, h.1]
    exact lookup_no h.2
/-- no field has the method's name -/
def noFl (fl : List Str) (m : Str) : Prop := fl.all (fun f => !(m == f)) = true
theorem noFl_sub {fl : List Str} {m : Str} {ns : List Str} (h : ∀ n, n ∈ ns → n ∈ fl) (hn : noFl fl m) : ns.all (fun f => !(m == f)) = true := by
  unfold noFl at hn
  rw [List.all_eq_true] at hn ⊢
  exact fun n hm => hn n (h n hm)
/-! ### promises -/
inductive RMG (S : Type) where
  | no | done (s : S) (d : PyData) | exc (c : Str)
abbrev RM := RMG BookSt
def RMG.goes {S : Type} (r : RMG S) (A : S → PyData → Prop) (B : Str → Prop) : Prop := match r with
  | .no => False
  | .done β d => A β d
  | .exc c => B c
/-- a reading method (or function): the object first -/
def spRG {S : Type} (K : PySem.W.Frag) (kd : Kd S) (Fr : S → List PyData → Res) : Sp := fun vs H Q E => ∃ (G R : Hp) (a : Addr) (β : S) (us : List V) (ds : List PyData), vs = .ref a :: us ∧ Same G H ∧ Same R H ∧ Apart R G ∧ ObjAt K G R a (kd.inj β) ∧ RpAll K G us ds ∧
  (Fr β ds).goes (fun d => ∀ v H' G', Grow H G H' G' → Rp K G' v d → Q v H') (fun c => ∀ H' G', Grow H G H' G' → E (.ref (He.ga K c)) none H')
/-- one that may change the object -/
def spMG {S : Type} (K : PySem.W.Frag) (kd : Kd S) (Fm : S → List PyData → RMG S) : Sp := fun vs H Q E => ∃ (G R : Hp) (a : Addr) (β : S) (us : List V) (ds : List PyData), vs = .ref a :: us ∧ Same G H ∧ Same R H ∧ Apart R G ∧ ObjAt K G R a (kd.inj β) ∧ RpAll K G us ds ∧
  (Fm β ds).goes (fun β' d => ∀ v H' G' R', GrowM ⟨R, H, G⟩ H' G' → Same R' H' → Apart R' G' → (∀ x, R' x ≠ none → R x ≠ none ∨ H x = none) → ObjAt K G' R' a (kd.inj β') → Rp K G' v d → Q v H') (fun c => ∀ H' G', Grow H G H' G' → E (.ref (He.ga K c)) none H')
/-- one that may change the object, others being read -/
def spMB (K : PySem.W.Frag) (Fm : (Addr → Option ObjSt) → ObjSt → List PyData → RMG ObjSt) : Sp := fun vs H Q E => ∃ (B : Bs) (G R : Hp) (a : Addr) (o : ObjSt) (us : List V) (ds : List PyData), vs = .ref a :: us ∧ Same G H ∧ Same R H ∧ Apart R G ∧ BsOk K B G H ∧ Apart R B.h ∧ ObjAt K G R a o ∧ RpAll K G us ds ∧
  (Fm B.bk o ds).goes (fun o' d => ∀ v H' G' R', GrowM ⟨R, H, G⟩ H' G' → Same R' H' → Apart R' G' → (∀ x, R' x ≠ none → R x ≠ none ∨ H x = none) → ObjAt K G' R' a o' → Rp K G' v d → Q v H') (fun c => ∀ H' G', Grow H G H' G' → E (.ref (He.ga K c)) none H')
def spR (K : PySem.W.Frag) (Fr : BookSt → List PyData → Res) : Sp := fun vs H Q E => ∃ (G R : Hp) (a : Addr) (β : BookSt) (us : List V) (ds : List PyData), vs = .ref a :: us ∧ Same G H ∧ Same R H ∧ Apart R G ∧ BookAt K G R a β ∧ RpAll K G us ds ∧
  (Fr β ds).goes (fun d => ∀ v H' G', Grow H G H' G' → Rp K G' v d → Q v H') (fun c => ∀ H' G', Grow H G H' G' → E (.ref (He.ga K c)) none H')
def spM (K : PySem.W.Frag) (Fm : BookSt → List PyData → RM) : Sp := fun vs H Q E => ∃ (G R : Hp) (a : Addr) (β : BookSt) (us : List V) (ds : List PyData), vs = .ref a :: us ∧ Same G H ∧ Same R H ∧ Apart R G ∧ BookAt K G R a β ∧ RpAll K G us ds ∧
  (Fm β ds).goes (fun β' d => ∀ v H' G' R', GrowM ⟨R, H, G⟩ H' G' → Same R' H' → Apart R' G' → (∀ x, R' x ≠ none → R x ≠ none ∨ H x = none) → BookAt K G' R' a β' → Rp K G' v d → Q v H') (fun c => ∀ H' G', Grow H G H' G' → E (.ref (He.ga K c)) none H')
theorem spR_eq (K : PySem.W.Frag) (Fr : BookSt → List PyData → Res) : spRG K kB Fr = spR K Fr := rfl
theorem spM_eq (K : PySem.W.Frag) (Fm : BookSt → List PyData → RM) : spMG K kB Fm = spM K Fm := rfl
def addrOf : PyData → Option Addr
  | .dict [(.int a, .none)] => some a.toNat
  | _ => none
theorem addrOf_ok {d : PyData} {a : Addr} (h : addrOf d = some a) {K : PySem.W.Frag} {F : Hp} {v : V} (r : Rp K F v d) : v = .ref a := by
  unfold addrOf at h
  split at h
  · rename_i i
    cases h
    rcases r with r | ⟨b, rfl, e⟩ | ⟨b, ns, _, e, _⟩
    · cases r
    · unfold refD at e
      cases e
      rfl
    · cases e
  · cases h
/-- the object that slot i names -/
def rcv {S : Type} (kd : Kd S) (bk : Addr → Option ObjSt) (ρ : Rho) (i : Nat) : Option S := match ρ[i]? with
  | some (.obj o) => kd.prj o
  | some (.val d) => ((addrOf d).bind bk).bind kd.prj
  | _ => none
theorem rcv_ok {S : Type} {kd : Kd S} {K : PySem.W.Frag} {B : Bs} {R : Rg} {F H : Hp} {σ : L2.St} {ρ : Rho} {i : Nat} {β : S} (E : EnvOk K B R F H σ ρ) (h : rcv kd B.bk ρ i = some β) : ∃ a R', σ[i]? = some (some (.ref a)) ∧ ObjAt K F R' a (kd.inj β) ∧ Same R' H ∧ Apart R' F := by
  unfold rcv at h
  split at h
  · rename_i o e
    have := kd.ok h
    subst this
    obtain ⟨a, h1, h2⟩ := E.obj i _ e
    exact ⟨a, R i, h1, h2, E.rh i, E.rF i⟩
  · rename_i d e
    cases ha : addrOf d with
    | none => rw [ha] at h; cases h
    | some a =>
      rw [ha, Option.bind_some] at h
      cases ho : B.bk a with
      | none => rw [ho] at h; cases h
      | some o =>
        rw [ho, Option.bind_some] at h
        have := kd.ok h
        subst this
        obtain ⟨v, h1, h2⟩ := E.val i d e
        have := addrOf_ok ha h2
        subst this
        exact ⟨a, B.h, h1, (E.bo a _ ho).mono E.bs (Same.refl _), E.bh, E.bF⟩
  · cases h
theorem BookAt.ins {K : PySem.W.Frag} {F R H : Hp} {a : Addr} {β : BookSt} (h : BookAt K F R a β) (e : Same R H) : ∃ dx dS dL dR dT dN, H a = some (.ins (He.ga K "Book") dx (bkFs dS dL dR dT dN)) := by
  obtain ⟨dx, dS, dL, dR, dT, dN, pe, sh, h⟩ := h
  exact ⟨dx, dS, dL, dR, dT, dN, e _ _ h.ob⟩
def xMeth {S : Type} (kd : Kd S) (bk : Addr → Option ObjSt) (i : Nat) (Fr : S → List PyData → Res) (sa : SA) : Rho → Res := fun ρ => match rcv kd bk ρ i, sa ρ with
  | some β, some ds => Fr β ds
  | _, _ => .no
def eMeth {S : Type} (kd : Kd S) (bk : Addr → Option ObjSt) (i : Nat) (Fr : S → List PyData → Res) (sa : SA) : SE := fun ρ => (xMeth kd bk i Fr sa ρ).ok
def bkNo (m : Str) : Prop := ∀ dS dL dR dT dN, (bkFs dS dL dR dT dN).lookup m = none
theorem bkNo_of {m : Str} (h : (["skills", "limits", "rests", "stretches", "needs"] : List Str).all (fun f => !(m == f)) = true) : bkNo m := fun dS dL dR dT dN => by
  simp only [List.all_cons, List.all_nil, Bool.and_true, Bool.and_eq_true, Bool.not_eq_true'] at h
  obtain ⟨h1, h2, h3, h4, h5⟩ := h
  simp [bkFs, List.lookup, h1, h2, h3, h4, h5]
section
variable {S : Type} {kd : Kd S} {C : Str} {fl : List Str} {X : Cx} {K : PySem.W.Frag} {B : Bs} {w : WX} {e : Expr} {ta : TA} {sa : SA} {i : Nat} {m : Str} {Fr : S → List PyData → Res}
theorem methX_ok (kc : KdC kd C fl) (hn : noFl fl m) (ha : AOk K B ta sa) : EXOk K B w (tMethS (He.ga K C) m (spRG K kd Fr) (WE w) (tVar i) ta) (xMeth kd B.bk i Fr sa) := fun R F H σ ρ Q E q => by
  unfold xMeth at q
  cases e1 : rcv kd B.bk ρ i with
  | none => rw [e1] at q; exact (show False from q).elim
  | some β =>
    cases e2 : sa ρ with
    | none => rw [e1, e2] at q; exact (show False from q).elim
    | some ds =>
      rw [e1, e2] at q
      obtain ⟨a, R', s1, bA, sR, ap⟩ := rcv_ok E e1
      obtain ⟨dx, fs, ho, hf⟩ := kc.ins bA
      refine ⟨.ref a, s1, a, dx, _, rfl, sR _ _ ho, lookup_no (noFl_sub hf hn), ?_⟩
      refine ha _ F H σ ρ ds E e2 _ fun vs H1 G1 g1 r1 => ?_
      refine ⟨G1, R', a, β, vs, ds, rfl, g1.sub, sR.trans g1.h, g1.apart sR ap, bA.mono g1.f (Same.refl _), r1, ?_⟩
      cases e3 : Fr β ds with
      | no => simp only [e3] at q; exact (show False from q).elim
      | ret d => simp only [e3] at q ⊢; exact fun v H' G' g r => q v H' G' (g1.trans g) r
      | exc c => simp only [e3] at q ⊢; exact fun H' G' g => q H' G' (g1.trans g)
theorem meth_okE (kc : KdC kd C fl) (hn : noFl fl m) (ha : AOk K B ta sa) : EOk K B (tMeth (He.ga K C) m (spRG K kd Fr) [] E0 (tVar i) ta) (eMeth kd B.bk i Fr sa) := fun R F H σ ρ d E q Q k => by
  unfold eMeth xMeth at q
  cases e1 : rcv kd B.bk ρ i with
  | none => rw [e1] at q; cases q
  | some β =>
    cases e2 : sa ρ with
    | none => rw [e1, e2] at q; cases q
    | some ds =>
      rw [e1, e2] at q
      obtain ⟨a, R', s1, bA, sR, ap⟩ := rcv_ok E e1
      obtain ⟨dx, fs, ho, hf⟩ := kc.ins bA
      refine ⟨.ref a, s1, a, dx, _, rfl, sR _ _ ho, lookup_no (noFl_sub hf hn), ?_⟩
      refine ha _ F H σ ρ ds E e2 _ fun vs H1 G1 g1 r1 => ?_
      rw [List.append_nil]
      refine ⟨G1, R', a, β, vs, ds, rfl, g1.sub, sR.trans g1.h, g1.apart sR ap, bA.mono g1.f (Same.refl _), r1, ?_⟩
      cases e3 : Fr β ds with
      | no => simp [e3, Res.ok] at q
      | ret d' =>
        simp [e3, Res.ok] at q
        subst q
        exact fun v H' G' g r => k v H' G' (g1.trans g) r
      | exc c => simp [e3, Res.ok] at q
end
/-! ### an object is made, changed -/
/-- a slot's object -/
def slO {S : Type} (kd : Kd S) : Option Sl → Option S
  | some (.obj o) => kd.prj o
  | _ => none
theorem slO_ok {S : Type} {kd : Kd S} {x : Option Sl} {s : S} (h : slO kd x = some s) : x = some (.obj (kd.inj s)) := by
  unfold slO at h
  split at h
  · rw [kd.ok h]
  · cases h
def updR (R : Rg) (i : Nat) (Rn : Hp) : Rg := fun j => if j = i then Rn else R j
theorem updR_same {R : Rg} {i : Nat} {Rn : Hp} : updR R i Rn i = Rn := if_pos rfl
theorem updR_ne {R : Rg} {i j : Nat} {Rn : Hp} (h : j ≠ i) : updR R i Rn j = R j := if_neg h
def sMkB (i : Nat) : SS := fun ρ => .nx (ρ.set i (.obj (.book ⟨[], []⟩)))
def sMut {S : Type} (kd : Kd S) (i : Nat) (Fm : S → List PyData → RMG S) (sa : SA) : SS := fun ρ => match slO kd ρ[i]?, sa ρ with
  | some β, some ds => (match Fm β ds with
    | .no => .no
    | .done β' _ => .nx (ρ.set i (.obj (kd.inj β')))
    | .exc c => .ex c ρ)
  | _, _ => .no
/-- x = o.m(..): slot j gets what comes back -/
def sMutS {S : Type} (kd : Kd S) (i j : Nat) (Fm : S → List PyData → RMG S) (sa : SA) : SS := fun ρ => match slO kd ρ[i]?, sa ρ with
  | some β, some ds => (match Fm β ds with
    | .no => .no
    | .done β' d => .nx ((ρ.set i (.obj (kd.inj β'))).set j (.val d))
    | .exc c => .ex c ρ)
  | _, _ => .no
theorem EnvOk.setO {K : PySem.W.Frag} {B : Bs} {R : Rg} {R' F G H H' : Hp} {σ : L2.St} {ρ : Rho} {i : Nat} {a : Addr} {o : ObjSt} {x : Option V} (E : EnvOk K B R F H σ ρ) (hx : i < ρ.length → (σ.set i x)[i]? = some (some (.ref a)))
    (f : Same F G) (sub : Same G H') (hB : Same B.h H') (bF : Apart B.h G) (rh : Same R' H') (rF : Apart R' G) (rB : Apart R' B.h) (oth : ∀ j, j ≠ i → Same (R j) H' ∧ Apart (R j) G ∧ Apart R' (R j)) (hO : ObjAt K G R' a o)
    (hoa : i = 0 → ∀ a0, B.o = some a0 → a = a0) (own : ∀ p vs, H p = some (.lst vs) → F p = none → (∀ j, R j p = none) → H' p = some (.lst vs) ∧ G p = none ∧ R' p = none) : EnvOk K B (updR R i R') G H' (σ.set i x) (ρ.set i (.obj o)) where
  bs := E.bs.trans f
  bh := hB
  bF := bF
  bo := E.bo
  ex := sub
  rh := fun j => by
    by_cases h : j = i
    · subst h; rw [updR_same]; exact rh
    · rw [updR_ne h]; exact (oth j h).1
  rF := fun j => by
    by_cases h : j = i
    · subst h; rw [updR_same]; exact rF
    · rw [updR_ne h]; exact (oth j h).2.1
  rB := fun j => by
    by_cases h : j = i
    · subst h; rw [updR_same]; exact rB
    · rw [updR_ne h]; exact E.rB j
  rr := fun j k hjk => by
    by_cases h : j = i
    · subst h
      rw [updR_same, updR_ne (Ne.symm hjk)]
      exact (oth k (Ne.symm hjk)).2.2
    · by_cases h2 : k = i
      · subst h2
        rw [updR_same, updR_ne hjk]
        exact (oth j hjk).2.2.sym
      · rw [updR_ne h, updR_ne h2]; exact E.rr j k hjk
  len := by simp [E.len]
  val := fun j d h => by
    by_cases hij : i = j
    · subst hij
      by_cases hj : i < ρ.length
      · rw [List.getElem?_set_self hj] at h
        cases h
      · rw [List.getElem?_eq_none (by simpa using hj)] at h
        cases h
    · rw [List.getElem?_set_ne hij] at h ⊢
      obtain ⟨v, h1, h2⟩ := E.val j d h
      exact ⟨v, h1, h2.mono f⟩
  own := fun j ds h => by
    by_cases hij : i = j
    · subst hij
      by_cases hj : i < ρ.length
      · rw [List.getElem?_set_self hj] at h
        cases h
      · rw [List.getElem?_eq_none (by simpa using hj)] at h
        cases h
    · rw [List.getElem?_set_ne hij] at h ⊢
      obtain ⟨p, vs, h1, h2, h3, h4, h5, h6⟩ := E.own j ds h
      obtain ⟨k1, k2, k3⟩ := own p vs h2 h4 h5
      refine ⟨p, vs, h1, k1, dpa_mono f ds h3, k2, fun k => ?_, h6⟩
      by_cases hk : k = i
      · subst hk; rw [updR_same]; exact k3
      · rw [updR_ne hk]; exact h5 k
  dis := fun j k ds es p hjk h1 h2 h3 h4 => by
    by_cases hij : i = j
    · subst hij
      by_cases hj : i < ρ.length
      · rw [List.getElem?_set_self hj] at h1
        cases h1
      · rw [List.getElem?_eq_none (by simpa using hj)] at h1
        cases h1
    · by_cases hik : i = k
      · subst hik
        by_cases hj : i < ρ.length
        · rw [List.getElem?_set_self hj] at h2
          cases h2
        · rw [List.getElem?_eq_none (by simpa using hj)] at h2
          cases h2
      · rw [List.getElem?_set_ne hij] at h1 h3
        rw [List.getElem?_set_ne hik] at h2 h4
        exact E.dis j k ds es p hjk h1 h2 h3 h4
  obj := fun j o' h => by
    by_cases hij : i = j
    · subst hij
      by_cases hj : i < ρ.length
      · rw [List.getElem?_set_self hj] at h
        cases h
        exact ⟨a, hx hj, by rw [updR_same]; exact hO⟩
      · rw [List.getElem?_eq_none (by simpa using hj)] at h
        cases h
    · rw [List.getElem?_set_ne hij] at h ⊢
      obtain ⟨b, h1, h2⟩ := E.obj j o' h
      exact ⟨b, h1, by rw [updR_ne (Ne.symm hij)]; exact h2.mono f (Same.refl _)⟩
  oa := fun a0 q o' a' h hs => by
    by_cases hij : i = 0
    · subst hij
      by_cases hj : 0 < ρ.length
      · rw [hx hj] at hs
        cases hs
        exact hoa rfl a0 q
      · rw [List.getElem?_eq_none (by simpa using hj)] at h
        cases h
    · rw [List.getElem?_set_ne hij] at h hs
      exact E.oa a0 q o' a' h hs
theorem frO {ρ : Rho} {σ : L2.St} {i : Nat} {o : ObjSt} {x : Option V} {h : Hp} (fr : ∀ (j : Nat) (ds : List PyData) (p : Addr), ρ[j]? = some (.own ds) → σ[j]? = some (some (.ref p)) → h p = none) :
    ∀ (j : Nat) (ds : List PyData) (p : Addr), (ρ.set i (.obj o))[j]? = some (.own ds) → (σ.set i x)[j]? = some (some (.ref p)) → h p = none := fun j ds p h1 h2 => by
  by_cases hij : i = j
  · subst hij
    by_cases hj : i < ρ.length
    · rw [List.getElem?_set_self hj] at h1
      cases h1
    · rw [List.getElem?_eq_none (by simpa using hj)] at h1
      cases h1
  · rw [List.getElem?_set_ne hij] at h1 h2
    exact fr j ds p h1 h2
theorem same_set {σ : L2.St} {i : Nat} {a : Addr} (hs : σ[i]? = some (some (V.ref a))) : σ.set i (some (.ref a)) = σ := by
  obtain ⟨h1, h2⟩ := List.getElem?_eq_some_iff.mp hs
  rw [← h2]
  exact List.set_getElem_self h1
/-- behind a change of the object -/
theorem StOk.mut {K : PySem.W.Frag} {B : Bs} {Z : St0} {R : Rg} {F H R' G' H' : Hp} {σ : L2.St} {ρ : Rho} {i : Nat} {a : Addr} {o' : ObjSt} (s : StOk K B Z R F H σ ρ) (hs : σ[i]? = some (some (.ref a)))
    (g : GrowM ⟨R i, H, F⟩ H' G') (rh : Same R' H') (rF : Apart R' G') (rn : ∀ x, R' x ≠ none → R i x ≠ none ∨ H x = none) (ho : i = 0 → ∀ a0, B.o = some a0 → a = a0) (bA : ObjAt K G' R' a o') : StOk K B Z (updR R i R') G' H' σ (ρ.set i (.obj o')) := by
  have e := same_set hs
  have zh : ∀ x, Z.h x ≠ none → H x ≠ none := s.gr.al
  have rz : ∀ x, Z.m x = none → Z.h x ≠ none → R i x = none := fun x h1 h2 => by
    cases hR : R i x with
    | none => rfl
    | some o => rcases s.fo i x (by rw [hR]; intro z; cases z) with h | h
                · exact absurd h1 h
                · exact absurd h h2
  refine ⟨?_, ⟨fun x o h1 h2 => ?_, fun x h => g.al x (zh x h), s.gr.f.trans g.f, g.sub, fun x h1 h2 => g.no x (s.gr.no x h1 h2) (zh x h2)⟩, ?_, fun j x h => ?_⟩
  · have := s.env.setO (i := i) (x := some (.ref a)) (R' := R') (G := G') (H' := H') (o := o') (fun hj => by rw [List.getElem?_set_self (by rw [← s.env.len]; exact hj)]) g.f g.sub
      (fun x o h => g.h x o (by cases hR : R i x with
        | none => exact hR
        | some u => have := s.env.rB i x (by rw [hR]; intro z; cases z); rw [this] at h; cases h) (s.env.bh x o h))
      (fun x h => g.no x (s.env.bF x h) fun z => h (s.env.bh.free z)) rh rF
      (fun x h => by
        rcases rn x h with z | z
        · exact s.env.rB i x z
        · exact s.env.bh.free z)
      (fun j hj => ⟨fun x o h => g.h x o (by cases hR : R i x with
        | none => exact hR
        | some u => have := s.env.rr i j (Ne.symm hj) x (by rw [hR]; intro z; cases z); rw [this] at h; cases h) (s.env.rh j x o h),
        fun x h => g.no x (s.env.rF j x h) fun z => h ((s.env.rh j).free z),
        fun x h => by
          rcases rn x h with z | z
          · exact s.env.rr i j (Ne.symm hj) x z
          · exact (s.env.rh j).free z⟩) bA ho
      (fun p vs h1 h2 h3 => ⟨g.h p _ (h3 i) h1, g.no p h2 (by show H p ≠ none; rw [h1]; intro z; cases z), by
        cases hR : R' p with
        | none => rfl
        | some u => rcases rn p (by rw [hR]; intro z; cases z) with z | z
                    · exact absurd (h3 i) z
                    · rw [h1] at z; cases z⟩)
    rw [e] at this
    exact this
  · have h0 : Z.h x ≠ none := by rw [h2]; intro z; cases z
    exact g.h x o (rz x h1 h0) (s.gr.h x o h1 h2)
  · have := frO (i := i) (o := o') (x := some (.ref a)) s.fr
    rw [e] at this
    exact this
  · by_cases hj : j = i
    · subst hj
      rw [updR_same] at h
      rcases rn x h with z | z
      · exact s.fo j x z
      · refine .inr ?_
        cases hz : Z.h x with
        | none => rfl
        | some u => exact absurd z (zh x (by rw [hz]; intro q; cases q))
    · rw [updR_ne hj] at h
      exact s.fo j x h
section
variable {S : Type} {kd : Kd S} {C : Str} {fl : List Str} {X : Cx} {K : PySem.W.Frag} {B : Bs} {w : WX} {e : Expr} {ta : TA} {sa : SA} {i j : Nat} {m : Str} {Fm : S → List PyData → RMG S}
theorem mut_sp {Z : St0} {R : Rg} {F H : Hp} {σ : L2.St} {ρ : Rho} {D : Ends} {W : XW} {E : XK} (s : StOk K B Z R F H σ ρ) (hg : Goes K B Z F D W (sMut kd i Fm sa ρ)) (hE : ∀ c H', W c σ H' → E (.ref (He.ga K c)) none H') :
    ∃ a R' ds β, σ[i]? = some (some (.ref a)) ∧ Same R' H ∧ ObjAt K F R' a (kd.inj β) ∧ sa ρ = some ds ∧ ∀ H1 G1 vs, Grow H F H1 G1 → RpAll K G1 vs ds → spMG K kd Fm (.ref a :: vs) H1 (fun _ H' => D.nx σ H') E := by
  unfold sMut at hg
  split at hg
  · rename_i β ds h1 h2
    have h0 := slO_ok h1
    obtain ⟨a, s1, bA⟩ := s.env.obj i _ h0
    refine ⟨a, R i, ds, β, s1, s.env.rh i, bA, h2, fun H1 G1 vs g1 r1 => ?_⟩
    have s' := s.grow g1
    refine ⟨G1, R i, a, β, vs, ds, rfl, g1.sub, s'.env.rh i, s'.env.rF i, bA.mono g1.f (Same.refl _), r1, ?_⟩
    cases e3 : Fm β ds with
    | no => simp only [e3] at hg; exact hg.elim
    | done β' d =>
      simp only [e3] at hg ⊢
      exact fun v H' G' R' g rh rF rn bA' r => hg σ H' _ G' (s'.mut s1 g rh rF rn (fun hi a0 q => by subst hi; exact s.env.oa a0 q _ a h0 s1) bA') (g1.f.trans g.f)
    | exc c =>
      simp only [e3] at hg ⊢
      exact fun H' G' g => hE c H' (hg σ H' R G' (s'.grow g) (g1.f.trans g.f))
  · exact hg.elim
theorem mutX_ok (kc : KdC kd C fl) (hn : noFl fl m) (ha : AOk K B ta sa) : SSOk K B (wx K w) (tDrop (tMethS (He.ga K C) m (spMG K kd Fm) (WE w) (tVar i) ta)) (sMut kd i Fm sa) := fun Z R F H σ ρ D s hg => by
  obtain ⟨a, R', ds, β, s1, sR, bA, hs, k⟩ := mut_sp (E := WE w σ) s hg fun c H' h => h
  obtain ⟨dx, fs, ho, hf⟩ := kc.ins bA
  exact ⟨.ref a, s1, a, dx, fs, rfl, sR _ _ ho, lookup_no (noFl_sub hf hn), ha _ F H σ ρ ds s.env hs _ fun vs H1 G1 g1 r1 => k H1 G1 vs g1 r1⟩
theorem mut_okS (kc : KdC kd C fl) (hn : noFl fl m) (ha : AOk K B ta sa) : SSOk K B W0 (tDrop (tMeth (He.ga K C) m (spMG K kd Fm) [] E0 (tVar i) ta)) (sMut kd i Fm sa) := fun Z R F H σ ρ D s hg => by
  obtain ⟨a, R', ds, β, s1, sR, bA, hs, k⟩ := mut_sp (E := E0) s hg fun c H' h => h
  obtain ⟨dx, fs, ho, hf⟩ := kc.ins bA
  refine ⟨.ref a, s1, a, dx, fs, rfl, sR _ _ ho, lookup_no (noFl_sub hf hn), ha _ F H σ ρ ds s.env hs _ fun vs H1 G1 g1 r1 => ?_⟩
  rw [List.append_nil]
  exact k H1 G1 vs g1 r1
/-- a mutating function: f(book, ..) -/
theorem mutF_ok (ha : AOk K B ta sa) : SSOk K B W0 (tDrop (tCall (spMG K kd Fm) [] E0 (tCons (tVar i) ta))) (sMut kd i Fm sa) := fun Z R F H σ ρ D s hg => by
  obtain ⟨a, R', ds, β, s1, sR, bA, hs, k⟩ := mut_sp (E := E0) s hg fun c H' h => h
  refine ⟨.ref a, s1, ha _ F H σ ρ ds s.env hs _ fun vs H1 G1 g1 r1 => ?_⟩
  show spMG K kd Fm ((.ref a :: vs) ++ []) H1 _ E0
  rw [List.append_nil]
  exact k H1 G1 vs g1 r1
theorem mutS_sp {Z : St0} {R : Rg} {F H : Hp} {σ : L2.St} {ρ : Rho} {D : Ends} {W : XW} {E : XK} (s : StOk K B Z R F H σ ρ) (hg : Goes K B Z F D W (sMutS kd i j Fm sa ρ)) (hE : ∀ c H', W c σ H' → E (.ref (He.ga K c)) none H') :
    ∃ a R' ds β, σ[i]? = some (some (.ref a)) ∧ Same R' H ∧ ObjAt K F R' a (kd.inj β) ∧ sa ρ = some ds ∧ ∀ H1 G1 vs, Grow H F H1 G1 → RpAll K G1 vs ds → spMG K kd Fm (.ref a :: vs) H1 (fun v H' => D.nx (σ.set j (some v)) H') E := by
  unfold sMutS at hg
  split at hg
  · rename_i β ds h1 h2
    have h0 := slO_ok h1
    obtain ⟨a, s1, bA⟩ := s.env.obj i _ h0
    refine ⟨a, R i, ds, β, s1, s.env.rh i, bA, h2, fun H1 G1 vs g1 r1 => ?_⟩
    have s' := s.grow g1
    refine ⟨G1, R i, a, β, vs, ds, rfl, g1.sub, s'.env.rh i, s'.env.rF i, bA.mono g1.f (Same.refl _), r1, ?_⟩
    cases e3 : Fm β ds with
    | no => simp only [e3] at hg; exact hg.elim
    | done β' d =>
      simp only [e3] at hg ⊢
      exact fun v H' G' R' g rh rF rn bA' r => hg _ H' _ G' ((s'.mut s1 g rh rF rn (fun hi a0 q => by subst hi; exact s.env.oa a0 q _ a h0 s1) bA').setV j r) (g1.f.trans g.f)
    | exc c =>
      simp only [e3] at hg ⊢
      exact fun H' G' g => hE c H' (hg σ H' R G' (s'.grow g) (g1.f.trans g.f))
  · exact hg.elim
theorem mutS_okS (kc : KdC kd C fl) (hn : noFl fl m) (ha : AOk K B ta sa) : SSOk K B W0 (tAsg (tMeth (He.ga K C) m (spMG K kd Fm) [] E0 (tVar i) ta) (gName j)) (sMutS kd i j Fm sa) := fun Z R F H σ ρ D s hg => by
  obtain ⟨a, R', ds, β, s1, sR, bA, hs, k⟩ := mutS_sp (E := E0) s hg fun c H' h => h
  obtain ⟨dx, fs, ho, hf⟩ := kc.ins bA
  refine ⟨.ref a, s1, a, dx, fs, rfl, sR _ _ ho, lookup_no (noFl_sub hf hn), ha _ F H σ ρ ds s.env hs _ fun vs H1 G1 g1 r1 => ?_⟩
  rw [List.append_nil]
  exact k H1 G1 vs g1 r1
end
def spInit (K : PySem.W.Frag) : Sp := fun vs H Q _ => ∃ p dx, vs = [.ref p] ∧ H p = some (.ins (He.ga K "Book") dx []) ∧ H dx = some (.own p) ∧
  ∀ H' R', (∀ b o, b ≠ p → H b = some o → H' b = some o) → Same R' H' → (∀ x, R' x ≠ none → x = p ∨ x = dx ∨ H x = none) → (∀ F, BookAt K F R' p ⟨[], []⟩) → Q .non H'
/-- a new object, laid beside -/
theorem StOk.newO {K : PySem.W.Frag} {B : Bs} {Z : St0} {R : Rg} {F H R' G' H' : Hp} {σ : L2.St} {ρ : Rho} {i : Nat} {a : Addr} {o' : ObjSt} (s : StOk K B Z R F H σ ρ) (hB : i = 0 → B.o = none) (g : Grow H F H' G') (rh : Same R' H') (rF : Apart R' G') (rn : ∀ x, R' x ≠ none → H x = none) (bA : ObjAt K G' R' a o') :
    StOk K B Z (updR R i R') G' H' (σ.set i (some (.ref a))) (ρ.set i (.obj o')) := by
  have s' := s.grow g
  refine ⟨?_, s'.gr, frO s'.fr, fun j x hx => ?_⟩
  · exact s.env.setO (fun hj => by rw [List.getElem?_set_self (by rw [← s.env.len]; exact hj)]) g.f g.sub s'.env.bh s'.env.bF rh rF (fun y hy => s.env.bh.free (rn y hy))
      (fun j hj => ⟨s'.env.rh j, s'.env.rF j, fun x hx => (s.env.rh j).free (rn x hx)⟩) bA (fun hi a0 q => by rw [hB hi] at q; cases q)
      fun p vs h1 h2 h3 => ⟨g.h p _ h1, g.no p h2 (by rw [h1]; intro z; cases z), by
        cases e : R' p with
        | none => rfl
        | some u => have := rn p (by rw [e]; intro z; cases z); rw [this] at h1; cases h1⟩
  · by_cases hj : j = i
    · subst hj
      rw [updR_same] at hx
      refine .inr ?_
      cases e : Z.h x with
      | none => rfl
      | some u => exact absurd (rn x hx) (s.gr.al x (by rw [e]; intro z; cases z))
    · rw [updR_ne hj] at hx
      exact s.fo j x hx
theorem mk_okS {K : PySem.W.Frag} {B : Bs} {W : XW} {i : Nat} (hB : B.o = none) : SSOk K B W (tAsg (tMake (He.ga K "Book") (spInit K) [] E0 tNil) (gName i)) (sMkB i) := fun Z R F H σ ρ D s hg => by
  intro x dx hx hdx hne
  have nx : ∀ b o, H b = some o → (upd (upd H dx (.own x)) x (.ins (He.ga K "Book") dx [])) b = some o := fun b o e => by
    rw [upd_ne (ne_of_none e hx), upd_ne (ne_of_none e hdx)]; exact e
  refine ⟨x, dx, rfl, upd_same, by rw [upd_ne hne]; exact upd_same, fun H' R' kp rh rn bA => ⟨rfl, ?_⟩⟩
  have hH : Same H H' := fun b o e => kp b o (ne_of_none e hx) (nx b o e)
  have rn' : ∀ y, R' y ≠ none → H y = none := fun y hy => by
    rcases rn y hy with rfl | rfl | z
    · exact hx
    · exact hdx
    · cases e : H y with
      | none => rfl
      | some o => rw [nx y o e] at z; cases z
  exact hg _ H' _ F (s.newO (fun _ => hB) ⟨hH, Same.refl F, s.env.ex.trans hH, fun _ z _ => z⟩ rh (fun y hy => s.env.ex.free (rn' y hy)) rn' (bA F)) (Same.refl F)
/-- what a changing method raises, it raises ahead of any change -/
def excOf {S : Type} (Fm : S → List PyData → RMG S) : S → List PyData → Res := fun β ds => match Fm β ds with
  | .exc c => .exc c
  | _ => .no
theorem spM_of_R {S : Type} {kd : Kd S} {K : PySem.W.Frag} {Fm : S → List PyData → RMG S} (vs : List V) (H : Hp) (Q : VK) (E : XK) (h : spRG K kd (excOf Fm) vs H Q E) : spMG K kd Fm vs H Q E := by
  obtain ⟨G, R, a, β, us, ds, e, h1, h2, h3, h4, h5, q⟩ := h
  refine ⟨G, R, a, β, us, ds, e, h1, h2, h3, h4, h5, ?_⟩
  unfold excOf at q
  cases e : Fm β ds with
  | no => simp only [e] at q; exact (show False from q).elim
  | done β' d => simp only [e] at q; exact (show False from q).elim
  | exc c => simp only [e] at q; exact q
/-- a reading function: f(book, ..), the object in slot i -/
def tCallB {S : Type} (K : PySem.W.Frag) (kd : Kd S) (Fr : S → List PyData → Res) (i : Nat) (ta : TA) : TE := tCall (spRG K kd Fr) [] E0 (tCons (tVar i) ta)
theorem callR_ok {S : Type} {kd : Kd S} {K : PySem.W.Frag} {B : Bs} {ta : TA} {sa : SA} {i : Nat} {Fr : S → List PyData → Res} (ha : AOk K B ta sa) : EOk K B (tCallB K kd Fr i ta) (eMeth kd B.bk i Fr sa) := fun R F H σ ρ d E q Q k => by
  unfold eMeth xMeth at q
  cases e1 : rcv kd B.bk ρ i with
  | none => rw [e1] at q; cases q
  | some β =>
    cases e2 : sa ρ with
    | none => rw [e1, e2] at q; cases q
    | some ds =>
      rw [e1, e2] at q
      obtain ⟨a, R', s1, bA, sR, ap⟩ := rcv_ok E e1
      refine ⟨.ref a, s1, ha _ F H σ ρ ds E e2 _ fun vs H1 G1 g1 r1 => ?_⟩
      show spRG K kd Fr ((.ref a :: vs) ++ []) H1 Q E0
      rw [List.append_nil]
      refine ⟨G1, R', a, β, vs, ds, rfl, g1.sub, sR.trans g1.h, g1.apart sR ap, bA.mono g1.f (Same.refl _), r1, ?_⟩
      cases e3 : Fr β ds with
      | no => simp [e3, Res.ok] at q
      | ret d' =>
        simp [e3, Res.ok] at q
        subst q
        exact fun v H' G' g r => k v H' G' (g1.trans g) r
      | exc c => simp [e3, Res.ok] at q
/-! ### own lists handed in for a moment beside an object -/
def Cp (K : PySem.W.Frag) (B : Bs) (R : Rg) (G H : Hp) (v : V) (d : PyData) : Prop := Rp K G v d ∨ ∃ p vs ds, v = .ref p ∧ d = .list ds ∧ H p = some (.lst vs) ∧ DqAll K G vs ds ∧ (∀ i, R i p = none) ∧ B.h p = none
inductive CpAll (K : PySem.W.Frag) (B : Bs) (R : Rg) (G H : Hp) : List V → List PyData → Prop
  | nil : CpAll K B R G H [] []
  | cons {v : V} {vs : List V} {d : PyData} {ds : List PyData} : Cp K B R G H v d → CpAll K B R G H vs ds → CpAll K B R G H (v :: vs) (d :: ds)
def CAOk (K : PySem.W.Frag) (B : Bs) (t : TA) (f : SA) : Prop := ∀ (R : Rg) (F H : Hp) (σ : L2.St) (ρ : Rho) (ds : List PyData), EnvOk K B R F H σ ρ → f ρ = some ds → ∀ Q : List V → Hp → Prop, (∀ vs H' G, Grow H F H' G → CpAll K B R G H' vs ds → Q vs H') → t σ H Q
structure SemCA (X : Cx) (K : PySem.W.Frag) (B : Bs) (es : List Expr) (t : TA) (f : SA) : Prop where
  pa : PA X es t
  ok : CAOk K B t f
theorem Cp.mono {K : PySem.W.Frag} {B : Bs} {R : Rg} {G G' H H' : Hp} {v : V} {d : PyData} (e : Same G G') (e' : Same H H') (h : Cp K B R G H v d) : Cp K B R G' H' v d :=
  h.imp (Rp.mono e) fun ⟨p, vs, ds, h1, h2, h3, h4, h5⟩ => ⟨p, vs, ds, h1, h2, e' _ _ h3, dpa_mono e _ h4, h5⟩
section
variable {X : Cx} {K : PySem.W.Frag} {B : Bs} {e : Expr} {es : List Expr} {t : TE} {ta : TA} {f : SE} {sa : SA}
theorem sca_nil : SemCA X K B [] tNil eNil := ⟨pa_nil, fun R F H σ ρ d E q Q k => by
  cases q
  exact k [] H F (Grow.refl E.ex) .nil⟩
theorem sca_e (h1 : SemE X K B e t f) (h2 : SemCA X K B es ta sa) (hs : starEach (e :: es) X.env = (false, eval e X.env) :: starEach es X.env := by rfl) : SemCA X K B (e :: es) (tCons t ta) (eCons f sa) := ⟨pa_cons h1.pe h2.pa hs, fun R F H σ ρ ds E q Q k => by
  cases hf : f ρ with
  | none => simp [eCons, hf] at q
  | some d =>
    cases hg : sa ρ with
    | none => simp [eCons, hf, hg] at q
    | some es =>
      simp [eCons, hf, hg] at q
      subst q
      exact h1.ok R F H σ ρ d E hf _ fun v H1 G1 g1 r1 => h2.ok R G1 H1 σ ρ es (E.grow g1) hg _ fun vs H2 G2 g2 r2 => k _ H2 G2 (g1.trans g2) (.cons (.inl (r1.mono g2.f)) r2)⟩
theorem sca_own (i : Nat) (hp : PE X e (tVar i)) (h2 : SemCA X K B es ta sa) (hs : starEach (e :: es) X.env = (false, eval e X.env) :: starEach es X.env := by rfl) : SemCA X K B (e :: es) (tCons (tVar i) ta) (eCons (eVarB i) sa) := ⟨pa_cons hp h2.pa hs, fun R F H σ ρ ds E q Q k => by
  have q : (eVarB i ρ).bind (fun d => (sa ρ).bind fun ds => some (d :: ds)) = some ds := q
  cases hf : eVarB i ρ with
  | none => rw [hf] at q; cases q
  | some d =>
    cases hg : sa ρ with
    | none => rw [hf, hg] at q; cases q
    | some es =>
      rw [hf, hg] at q
      cases q
      unfold eVarB at hf
      split at hf
      · rename_i d' h
        cases hf
        obtain ⟨v, h1, h3⟩ := E.val i _ h
        exact ⟨v, h1, h2.ok R F H σ ρ es E hg _ fun vs H2 G2 g2 r2 => k _ H2 G2 g2 (.cons (.inl (h3.mono g2.f)) r2)⟩
      · rename_i ds h
        cases hf
        obtain ⟨p, vs, h1, h3, h4, h5, h6, h7⟩ := E.own i _ h
        exact ⟨.ref p, h1, h2.ok R F H σ ρ es E hg _ fun us H2 G2 g2 r2 => k _ H2 G2 g2 (.cons (.inr ⟨p, vs, ds, rfl, rfl, g2.h _ _ h3, dpa_mono g2.f _ h4, h6, h7⟩) r2)⟩
      · cases hf⟩
end
/-- the heap without a part -/
def cutR (H R : Hp) : Hp := fun a => match R a with
  | none => H a
  | some _ => none
theorem cutR_same {H R G : Hp} (e : Same G H) (ap : Apart R G) : Same G (cutR H R) := fun a o h => by
  unfold cutR
  cases hR : R a with
  | none => exact e a o h
  | some u => have := ap a (by rw [hR]; intro z; cases z); rw [this] at h; cases h
theorem cutR_sub {H R : Hp} : Same (cutR H R) H := fun a o h => by
  unfold cutR at h
  split at h
  · exact h
  · cases h
theorem cutR_apart {H R : Hp} : Apart R (cutR H R) := fun a ha => by
  unfold cutR
  cases hR : R a with
  | none => exact absurd hR ha
  | some u => rfl
theorem CpAll.all {K : PySem.W.Frag} {B : Bs} {R : Rg} {G H R' : Hp} (e : Same G H) (ap : Apart R' G) (hR : ∀ p, (∀ i, R i p = none) → B.h p = none → R' p = none) : ∀ {vs : List V} {ds : List PyData}, CpAll K B R G H vs ds → RpAll K (cutR H R') vs ds
  | [], [], _ => .nil
  | [], _ :: _, h => by cases h
  | _ :: _, [], h => by cases h
  | v :: vs, d :: ds, h => by
    cases h with
    | cons h1 h2 =>
      refine .cons ?_ (CpAll.all e ap hR h2)
      rcases h1 with h1 | ⟨p, us, es, rfl, rfl, h3, h4, h5, h6⟩
      · exact h1.mono (cutR_same e ap)
      · refine .inl (.lst ?_ (dpa_mono (cutR_same e ap) _ h4))
        unfold cutR
        rw [hR p h5 h6]
        exact h3
/-- the object in slot i: where its region lies -/
theorem rcv_ok2 {S : Type} {kd : Kd S} {K : PySem.W.Frag} {B : Bs} {R : Rg} {F H : Hp} {σ : L2.St} {ρ : Rho} {i : Nat} {β : S} (E : EnvOk K B R F H σ ρ) (h : rcv kd B.bk ρ i = some β) : ∃ a R', σ[i]? = some (some (.ref a)) ∧ ObjAt K F R' a (kd.inj β) ∧ Same R' H ∧ Apart R' F ∧ ∀ p, (∀ i, R i p = none) → B.h p = none → R' p = none := by
  unfold rcv at h
  split at h
  · rename_i o e
    have := kd.ok h
    subst this
    obtain ⟨a, h1, h2⟩ := E.obj i _ e
    exact ⟨a, R i, h1, h2, E.rh i, E.rF i, fun p h _ => h i⟩
  · rename_i d e
    cases ha : addrOf d with
    | none => rw [ha] at h; cases h
    | some a =>
      rw [ha, Option.bind_some] at h
      cases ho : B.bk a with
      | none => rw [ho] at h; cases h
      | some o =>
        rw [ho, Option.bind_some] at h
        have := kd.ok h
        subst this
        obtain ⟨v, h1, h2⟩ := E.val i d e
        have := addrOf_ok ha h2
        subst this
        exact ⟨a, B.h, h1, (E.bo a _ ho).mono E.bs (Same.refl _), E.bh, E.bF, fun p _ h => h⟩
  · cases h
/-- own lists handed in for a moment, the object in slot i: what comes back is a value without parts -/
theorem callRB_ok {S : Type} {kd : Kd S} {K : PySem.W.Frag} {B : Bs} {ta : TA} {sa : SA} {i : Nat} {Fr : S → List PyData → Res} (ha : CAOk K B ta sa) : EOk K B (tCallB K kd Fr i ta) (fun ρ => onlyS (eMeth kd B.bk i Fr sa ρ)) := fun R F H σ ρ d E q Q k => by
  have q : (eMeth kd B.bk i Fr sa ρ).bind (fun d => if scalD d then some d else none) = some d := q
  unfold eMeth xMeth at q
  cases e1 : rcv kd B.bk ρ i with
  | none => rw [e1] at q; cases q
  | some β =>
    cases e2 : sa ρ with
    | none => rw [e1, e2] at q; cases q
    | some ds =>
      rw [e1, e2] at q
      obtain ⟨a, R', s1, bA, sR, ap, hR⟩ := rcv_ok2 E e1
      refine ⟨.ref a, s1, ha _ F H σ ρ ds E e2 _ fun vs H1 G1 g1 r1 => ?_⟩
      show spRG K kd Fr ((.ref a :: vs) ++ []) H1 Q E0
      rw [List.append_nil]
      have ap1 : Apart R' G1 := g1.apart sR ap
      refine ⟨cutR H1 R', R', a, β, vs, ds, rfl, cutR_sub, sR.trans g1.h, cutR_apart, bA.mono (g1.f.trans (cutR_same g1.sub ap1)) (Same.refl _), r1.all g1.sub ap1 hR, ?_⟩
      cases e3 : Fr β ds with
      | no => simp [e3, Res.ok] at q
      | ret d' =>
        simp only [e3, Res.ok, Option.bind_some] at q
        split at q
        · rename_i hs
          cases q
          exact fun v H' G' g r => k v H' G1 (g1.trans ⟨g.h, Same.refl G1, g1.sub.trans g.h, fun _ z _ => z⟩) (rp_scal r hs)
        · cases q
      | exc c => simp [e3, Res.ok] at q
end RT
/-! What a book's methods do; functions that are handed a book; try. -/
namespace RT
open PySem PySem.Spec PyProof.Rows L2
/-! ### the methods, plainly -/
def findP (β : BookSt) (n : Str) : Option Person := β.people.find? fun p => decide (p.name = n)
def findS (β : BookSt) (n : Str) : Option Shift := β.shifts.find? fun s => decide (s.name = n)
def meetsB (r s : Int × Int) : Bool := decide (r.1 < s.2) && decide (s.1 < r.2)
def mayB (p : Person) (s : Shift) (k : Str) : Bool := !(p.rests.any fun r => meetsB r (s.b, s.e)) && decide (k ∈ p.skills)
def postsB (β : BookSt) : List (Str × Str) := β.shifts.flatMap fun s => s.needs.map fun n => (s.name, n.1)
def postD (p : Str × Str) : PyData := .tuple [.str p.1, .str p.2]
def s0 (r : Res) : List PyData → Res
  | [] => r
  | _ => .no
def s1 (g : Str → Res) : List PyData → Res
  | [.str n] => g n
  | _ => .no
def s2 (g : Str → Str → Res) : List PyData → Res
  | [.str n, .str k] => g n k
  | _ => .no
def s3 (g : Str → Str → Str → Res) : List PyData → Res
  | [.str n, .str k, .str l] => g n k l
  | _ => .no
theorem s0_inv {r : Res} {ds : List PyData} {A : PyData → Prop} {B : Str → Prop} (q : (s0 r ds).goes A B) : ds = [] := by
  unfold s0 at q
  split at q
  · rfl
  · exact (show False from q).elim
theorem s1_inv {g : Str → Res} {ds : List PyData} {A : PyData → Prop} {B : Str → Prop} (q : (s1 g ds).goes A B) : ∃ n, ds = [.str n] := by
  unfold s1 at q
  split at q
  · exact ⟨_, rfl⟩
  · exact (show False from q).elim
theorem s2_inv {g : Str → Str → Res} {ds : List PyData} {A : PyData → Prop} {B : Str → Prop} (q : (s2 g ds).goes A B) : ∃ n k, ds = [.str n, .str k] := by
  unfold s2 at q
  split at q
  · exact ⟨_, _, rfl⟩
  · exact (show False from q).elim
theorem s3_inv {g : Str → Str → Str → Res} {ds : List PyData} {A : PyData → Prop} {B : Str → Prop} (q : (s3 g ds).goes A B) : ∃ n k l, ds = [.str n, .str k, .str l] := by
  unfold s3 at q
  split at q
  · exact ⟨_, _, _, rfl⟩
  · exact (show False from q).elim
def fr_people (β : BookSt) : List PyData → Res := s0 (.ret (.list (β.people.map fun p => .str p.name)))
def fr_shifts (β : BookSt) : List PyData → Res := s0 (.ret (.list (β.shifts.map fun p => .str p.name)))
def fr_posts (β : BookSt) : List PyData → Res := s0 (.ret (.list ((postsB β).map postD)))
def mis {α : Type} (o : Option α) (g : α → PyData) : Res := match o with
  | some p => .ret (g p)
  | none => .exc "Missing"
def fr_skills_of (β : BookSt) : List PyData → Res := s1 fun n => mis (findP β n) fun p => .list (p.skills.map .str)
def fr_rests_of (β : BookSt) : List PyData → Res := s1 fun n => mis (findP β n) fun p => .list (p.rests.map stD)
def fr_limit_of (β : BookSt) : List PyData → Res := s1 fun n => mis (findP β n) fun p => .int p.limit
def fr_stretch_of (β : BookSt) : List PyData → Res := s1 fun n => mis (findS β n) fun s => stD (s.b, s.e)
def needOf (s : Shift) (k : Str) : Option Int := (s.needs.find? fun n => decide (n.1 = k)).map (·.2)
def fr_count_of (β : BookSt) : List PyData → Res := s2 fun n k => mis ((findS β n).bind fun s => needOf s k) .int
def fr_may (β : BookSt) : List PyData → Res := s3 fun n s k => match findS β s with
  | none => .exc "Missing"
  | some sh => mis (findP β n) fun p => .bool (mayB p sh k)
/-! ### dicts by names -/
theorem valV_map {α : Type} (nm : α → Str) (v : α → V) (n : Str) : ∀ l : List α, valV (l.map fun x => ((Sum.inr (nm x) : Key), v x)) (Sum.inr n) = (l.find? fun x => decide (nm x = n)).map v
  | [] => rfl
  | x :: l => by
    rw [List.map_cons, List.find?_cons]
    by_cases h : nm x = n
    · rw [valV_pos (by show (Sum.inr (nm x) : Key) = Sum.inr n; rw [h]), decide_eq_true h]
      rfl
    · rw [valV_neg (by intro z; exact h (Sum.inr.inj z)), decide_eq_false h]
      exact valV_map nm v n l
theorem find_fst {α β : Type} (p : α → Bool) : ∀ l : List (α × β), ((l.find? fun x => p x.1).map (·.1)) = (l.map (·.1)).find? p
  | [] => rfl
  | x :: l => by
    rw [List.map_cons, List.find?_cons, List.find?_cons]
    cases p x.1 with
    | true => rfl
    | false => exact find_fst p l
section
variable {K : PySem.W.Frag} {F R : Hp} {a : Addr} {β : BookSt} {dx dS dL dR dT dN : Addr} {pe : PE3} {sh : SE3}
theorem BookIn.fp (b : BookIn K F R a β dx dS dL dR dT dN pe sh) (n : Str) : ((pe.find? fun x => decide (x.1.name = n)).map (·.1)) = findP β n := by
  have := find_fst (fun p : Person => decide (p.name = n)) pe
  rw [this, b.pn]
  rfl
theorem BookIn.fs (b : BookIn K F R a β dx dS dL dR dT dN pe sh) (n : Str) : ((sh.find? fun x => decide (x.1.name = n)).map (·.1)) = findS β n := by
  have := find_fst (fun p : Shift => decide (p.name = n)) sh
  rw [this, b.sn]
  rfl
theorem BookIn.person (b : BookIn K F R a β dx dS dL dR dT dN pe sh) {n : Str} {p : Person} (h : findP β n = some p) : ∃ x ∈ pe, x.1 = p ∧ x.1.name = n ∧ valV (kvS pe) (Sum.inr n) = some (.ref x.2.1) ∧ valV (kvL pe) (Sum.inr n) = some (.int p.limit) ∧ valV (kvR pe) (Sum.inr n) = some (.ref x.2.2) := by
  rw [← b.fp n] at h
  cases e : pe.find? fun x => decide (x.1.name = n) with
  | none => rw [e] at h; cases h
  | some x =>
    rw [e] at h
    have hx : x.1 = p := Option.some.inj h
    have hm := List.mem_of_find?_eq_some e
    have hn : x.1.name = n := of_decide_eq_true (by simpa using List.find?_some e)
    refine ⟨x, hm, hx, hn, ?_, ?_, ?_⟩
    · unfold kvS; rw [valV_map (fun x : Person × Addr × Addr => x.1.name) (fun x => V.ref x.2.1), e]; rfl
    · unfold kvL; rw [valV_map (fun x : Person × Addr × Addr => x.1.name) (fun x => V.int x.1.limit), e, ← hx]; rfl
    · unfold kvR; rw [valV_map (fun x : Person × Addr × Addr => x.1.name) (fun x => V.ref x.2.2), e]; rfl
theorem BookIn.noPerson (b : BookIn K F R a β dx dS dL dR dT dN pe sh) {n : Str} (h : findP β n = none) : valV (kvS pe) (Sum.inr n) = none ∧ valV (kvL pe) (Sum.inr n) = none ∧ valV (kvR pe) (Sum.inr n) = none := by
  rw [← b.fp n] at h
  have e : (pe.find? fun x => decide (x.1.name = n)) = none := by
    cases e : pe.find? fun x => decide (x.1.name = n) with
    | none => rfl
    | some x => rw [e] at h; cases h
  refine ⟨?_, ?_, ?_⟩
  · unfold kvS; rw [valV_map (fun x : Person × Addr × Addr => x.1.name) (fun x => V.ref x.2.1), e]; rfl
  · unfold kvL; rw [valV_map (fun x : Person × Addr × Addr => x.1.name) (fun x => V.int x.1.limit), e]; rfl
  · unfold kvR; rw [valV_map (fun x : Person × Addr × Addr => x.1.name) (fun x => V.ref x.2.2), e]; rfl
theorem BookIn.shift (b : BookIn K F R a β dx dS dL dR dT dN pe sh) {n : Str} {s : Shift} (h : findS β n = some s) : ∃ x ∈ sh, x.1 = s ∧ x.1.name = n ∧ valV (kvT sh) (Sum.inr n) = some (.ref x.2.1) ∧ valV (kvN sh) (Sum.inr n) = some (.ref x.2.2) := by
  rw [← b.fs n] at h
  cases e : sh.find? fun x => decide (x.1.name = n) with
  | none => rw [e] at h; cases h
  | some x =>
    rw [e] at h
    have hx : x.1 = s := Option.some.inj h
    have hm := List.mem_of_find?_eq_some e
    have hn : x.1.name = n := of_decide_eq_true (by simpa using List.find?_some e)
    refine ⟨x, hm, hx, hn, ?_, ?_⟩
    · unfold kvT; rw [valV_map (fun x : Shift × Addr × Addr => x.1.name) (fun x => V.ref x.2.1), e]; rfl
    · unfold kvN; rw [valV_map (fun x : Shift × Addr × Addr => x.1.name) (fun x => V.ref x.2.2), e]; rfl
theorem BookIn.noShift (b : BookIn K F R a β dx dS dL dR dT dN pe sh) {n : Str} (h : findS β n = none) : valV (kvT sh) (Sum.inr n) = none ∧ valV (kvN sh) (Sum.inr n) = none := by
  rw [← b.fs n] at h
  have e : (sh.find? fun x => decide (x.1.name = n)) = none := by
    cases e : sh.find? fun x => decide (x.1.name = n) with
    | none => rfl
    | some x => rw [e] at h; cases h
  refine ⟨?_, ?_⟩
  · unfold kvT; rw [valV_map (fun x : Shift × Addr × Addr => x.1.name) (fun x => V.ref x.2.1), e]; rfl
  · unfold kvN; rw [valV_map (fun x : Shift × Addr × Addr => x.1.name) (fun x => V.ref x.2.2), e]; rfl
end
/-! ### the class -/
structure BkT (K : PySem.W.Frag) (mg : Str → Option Value) : Prop where
  cl : Cls K (He.ga K "Book")
  nS : NoAttr K (He.ga K "Book") "skills"
  nL : NoAttr K (He.ga K "Book") "limits"
  nR : NoAttr K (He.ga K "Book") "rests"
  nT : NoAttr K (He.ga K "Book") "stretches"
  nN : NoAttr K (He.ga K "Book") "needs"
section
variable {K : PySem.W.Frag} {mg : Str → Option Value} {F R H : Hp} {a : Addr} {β : BookSt} {dx dS dL dR dT dN : Addr} {pe : PE3} {sh : SE3} {σ : L2.St} {Q : VK} {i : Nat}
theorem lk_S : (bkFs dS dL dR dT dN).lookup ("skills" : Str) = some (.ref dS) := by simp [bkFs, List.lookup]
theorem lk_L : (bkFs dS dL dR dT dN).lookup ("limits" : Str) = some (.ref dL) := by
  have h : (("limits" : Str) == "skills") = false := by decide +kernel
  simp [bkFs, List.lookup, h]
theorem lk_R : (bkFs dS dL dR dT dN).lookup ("rests" : Str) = some (.ref dR) := by
  have h : (("rests" : Str) == "skills") = false := by decide +kernel
  have h2 : (("rests" : Str) == "limits") = false := by decide +kernel
  simp [bkFs, List.lookup, h, h2]
theorem lk_T : (bkFs dS dL dR dT dN).lookup ("stretches" : Str) = some (.ref dT) := by
  have h : (("stretches" : Str) == "skills") = false := by decide +kernel
  have h2 : (("stretches" : Str) == "limits") = false := by decide +kernel
  have h3 : (("stretches" : Str) == "rests") = false := by decide +kernel
  simp [bkFs, List.lookup, h, h2, h3]
theorem lk_N : (bkFs dS dL dR dT dN).lookup ("needs" : Str) = some (.ref dN) := by
  have h : (("needs" : Str) == "skills") = false := by decide +kernel
  have h2 : (("needs" : Str) == "limits") = false := by decide +kernel
  have h3 : (("needs" : Str) == "rests") = false := by decide +kernel
  have h4 : (("needs" : Str) == "stretches") = false := by decide +kernel
  simp [bkFs, List.lookup, h, h2, h3, h4]
/-- self.f, the book in slot i -/
theorem rd_fld (T : BkT K mg) (hs : σ[i]? = some (some (.ref a))) (ho : H a = some (.ins (He.ga K "Book") dx (bkFs dS dL dR dT dN))) {f : Str} {v : V} (na : NoAttr K (He.ga K "Book") f) (lk : (bkFs dS dL dR dT dN).lookup f = some v) (q : Q v H) : tFld K (tVar i) f σ H Q :=
  ⟨_, hs, a, _, dx, _, v, rfl, ho, T.cl, na, lk, q⟩
end
/-! ### functions that are handed an object -/
def runO (N : List Str) (n : Nat) (b : SS) : ObjSt → List PyData → RMG ObjSt := fun o ds => if ds.length + 1 = n then (match b (.obj o :: rho0 (N.drop 1) ds) with
  | .rt d ρ => (match slO kA ρ[0]? with
    | some o' => .done o' d
    | none => .no)
  | .nx ρ => (match slO kA ρ[0]? with
    | some o' => .done o' .none
    | none => .no)
  | _ => .no) else .no
def RMG.prj {S : Type} (kd : Kd S) : RMG ObjSt → RMG S
  | .done o d => (match kd.prj o with
    | some s => .done s d
    | none => .no)
  | .exc c => .exc c
  | .no => .no
def runMG {S : Type} (kd : Kd S) (N : List Str) (n : Nat) (b : SS) : S → List PyData → RMG S := fun β ds => (runO N n b (kd.inj β) ds).prj kd
abbrev runM (N : List Str) (n : Nat) (b : SS) : BookSt → List PyData → RM := runMG kB N n b
def rg0 (R : Hp) : Rg := fun i => if i = 0 then R else noH
theorem rg0_0 (R : Hp) : rg0 R 0 = R := rfl
theorem rg0_s (R : Hp) (i : Nat) : rg0 R (i + 1) = noH := rfl
theorem rho0_shape {N : List Str} {ds : List PyData} {i : Nat} {x : Sl} (q : (rho0 N ds)[i]? = some x) : x = .no ∨ ∃ d, x = .val d := by
  unfold rho0 at q
  rcases Nat.lt_or_ge i (ds.map Sl.val).length with hi | hi
  · rw [List.getElem?_append_left hi, List.getElem?_map] at q
    cases z : ds[i]? with
    | none => rw [z] at q; cases q
    | some d => rw [z] at q; cases q; exact .inr ⟨d, rfl⟩
  · rw [List.getElem?_append_right hi] at q
    have := List.mem_of_getElem? q
    rw [List.mem_replicate] at this
    exact .inl this.2
theorem startO_ok {K : PySem.W.Frag} {B : Bs} {G H R : Hp} {a : Addr} {o : ObjSt} {N : List Str} {us : List V} {ds : List PyData} (b : BsOk K B G H) (apB : Apart R B.h) (e : Same G H) (eR : Same R H) (ap : Apart R G) (bA : ObjAt K G R a o) (h : RpAll K G us ds) (hN : 0 < N.length) :
    StOk K { B with o := some a } ⟨R, H, G⟩ (rg0 R) G H (start N (.ref a :: us)) (.obj o :: rho0 (N.drop 1) ds) := by
  have s := (start_ok (N := N.drop 1) b e h).env
  have es : start N (.ref a :: us) = some (.ref a) :: start (N.drop 1) us := by
    unfold L2.start
    rw [List.map_cons, List.cons_append, List.length_cons, List.length_drop]
    congr 3
    omega
  rw [es]
  refine ⟨⟨b.bs, b.bh, b.bF, b.bo, e, fun i => ?_, fun i => ?_, fun i => ?_, fun i j hij => ?_, ?_, fun i d q => ?_, fun i es' q => ?_, fun i j x y p _ q q2 _ _ => ?_, fun i o q => ?_, fun a0 q o a' h1 h2 => ?_⟩,
    ⟨fun _ _ _ z => z, fun _ z => z, Same.refl G, e, fun _ z _ => z⟩, fun i es' p q _ => ?_, fun i x z => ?_⟩
  · cases i with
    | zero => exact eR
    | succ i => exact fun _ _ z => nomatch z
  · cases i with
    | zero => exact ap
    | succ i => exact fun _ z => absurd rfl z
  · cases i with
    | zero => exact apB
    | succ i => exact fun _ z => absurd rfl z
  · cases i with
    | zero =>
      cases j with
      | zero => exact absurd rfl hij
      | succ j => exact fun _ _ => rfl
    | succ i => exact fun _ z => absurd rfl z
  · have := s.len
    simp only [List.length_cons] at this ⊢
    omega
  · cases i with
    | zero => simp at q
    | succ i => simpa using s.val i d (by simpa using q)
  · cases i with
    | zero => simp at q
    | succ i => rcases rho0_shape (show (rho0 (N.drop 1) ds)[i]? = some (.own es') by simpa using q) with z | ⟨d, z⟩ <;> cases z
  · cases i with
    | zero => simp at q
    | succ i => rcases rho0_shape (show (rho0 (N.drop 1) ds)[i]? = some (.own x) by simpa using q) with z | ⟨d, z⟩ <;> cases z
  · cases i with
    | zero =>
      simp at q
      subst q
      exact ⟨a, rfl, bA⟩
    | succ i => rcases rho0_shape (show (rho0 (N.drop 1) ds)[i]? = some (.obj o) by simpa using q) with z | ⟨d, z⟩ <;> cases z
  · cases q
    simp at h2
    exact h2.symm
  · cases i with
    | zero => simp at q
    | succ i => rcases rho0_shape (show (rho0 (N.drop 1) ds)[i]? = some (.own es') by simpa using q) with z | ⟨d, z⟩ <;> cases z
  · cases i with
    | zero => exact .inl z
    | succ i => exact absurd rfl z
/-- the body of a function that changes the object handed in, others being read -/
theorem sp_bodyO {K : PySem.W.Frag} {B : Bs} {N : List Str} {n : Nat} {b : SS} {t : TS} {G H R : Hp} {a : Addr} {o : ObjSt} {us : List V} {ds : List PyData} {Q : VK} {C : Str → Prop} {W : XW} (hN : 0 < N.length) (hB : BsOk K B G H) (apB : Apart R B.h) (e : Same G H) (eR : Same R H) (ap : Apart R G) (bA : ObjAt K G R a o) (r : RpAll K G us ds)
    (k : SSOk K { B with o := some a } W t b)
    (q : (runO N n b o ds).goes (fun o' d => ∀ v H' G' R', GrowM ⟨R, H, G⟩ H' G' → Same R' H' → Apart R' G' → (∀ x, R' x ≠ none → R x ≠ none ∨ H x = none) → ObjAt K G' R' a o' → Rp K G' v d → Q v H') C) : t { nx := fun _ H' => Q .non H', rt := Q } (start N (.ref a :: us)) H := by
  refine k ⟨R, H, G⟩ (rg0 R) G H _ _ _ (startO_ok hB apB e eR ap bA r hN) ?_
  have fin : ∀ {ρ : Rho} {o' : ObjSt} {σ : L2.St} {H' F' : Hp} {R' : Rg}, slO kA ρ[0]? = some o' → StOk K { B with o := some a } ⟨R, H, G⟩ R' F' H' σ ρ → GrowM ⟨R, H, G⟩ H' F' ∧ Same (R' 0) H' ∧ Apart (R' 0) F' ∧ (∀ x, R' 0 x ≠ none → R x ≠ none ∨ H x = none) ∧ ObjAt K F' (R' 0) a o' := fun {ρ o' σ H' F' R'} hb s => by
    have hb' := slO_ok hb
    obtain ⟨a', h1, h2⟩ := s.env.obj 0 _ hb'
    have := s.env.oa a rfl _ a' hb' h1
    subst this
    exact ⟨s.gr, s.env.rh 0, s.env.rF 0, s.fo 0, h2⟩
  unfold runO at q
  split at q
  · cases hb : b (.obj o :: rho0 (N.drop 1) ds) with
    | no => rw [hb] at q; exact (show False from q).elim
    | ex c r => rw [hb] at q; exact (show False from q).elim
    | ro i r => rw [hb] at q; exact (show False from q).elim
    | nx ρ =>
      rw [hb] at q
      cases h0 : slO kA ρ[0]? with
      | none => simp only [h0] at q; exact (show False from q).elim
      | some o' =>
        simp only [h0] at q
        exact fun σ H' R' F' s _ => by
          obtain ⟨x1, x2, x3, x4, x5⟩ := fin h0 s
          exact q .non H' F' _ x1 x2 x3 x4 x5 rp_non
    | rt d' ρ =>
      rw [hb] at q
      cases h0 : slO kA ρ[0]? with
      | none => simp only [h0] at q; exact (show False from q).elim
      | some o' =>
        simp only [h0] at q
        exact fun v σ H' R' F' s _ r => by
          obtain ⟨x1, x2, x3, x4, x5⟩ := fin h0 s
          exact q v H' F' _ x1 x2 x3 x4 x5 r
  · exact (show False from q).elim
theorem sp_bodyM {S : Type} {kd : Kd S} {K : PySem.W.Frag} {N : List Str} {n : Nat} {b : SS} {t : TS} {vs : List V} {H : Hp} {Q : VK} {E : XK} {W : XW} (hN : 0 < N.length)
    (k : ∀ a, SSOk K ⟨fun _ => none, fun _ => none, fun _ => none, some a⟩ W t b) (h : spMG K kd (runMG kd N n b) vs H Q E) : t { nx := fun _ H' => Q .non H', rt := Q } (start N vs) H := by
  obtain ⟨G, R, a, β, us, ds, rfl, e, eR, ap, bA, r, q⟩ := h
  refine sp_bodyO (n := n) (C := fun c => ∀ H' G', Grow H G H' G' → E (.ref (He.ga K c)) none H') hN (bsOk_no (G := G) (H := H)) (fun _ _ => rfl) e eR ap bA r (k a) ?_
  unfold runMG at q
  cases eq : runO N n b (kd.inj β) ds with
  | no => rw [eq] at q; exact q
  | exc c => rw [eq] at q; exact q
  | done o d =>
    rw [eq] at q
    unfold RMG.prj at q
    cases eo : kd.prj o with
    | none => simp only [eo] at q; exact (show False from q).elim
    | some s =>
      simp only [eo] at q
      rw [kd.ok eo]
      exact q
/-- others read: their states by addresses -/
def runMB (N : List Str) (n : Nat) (b : (Addr → Option ObjSt) → SS) : (Addr → Option ObjSt) → ObjSt → List PyData → RMG ObjSt := fun bk => runO N n (b bk)
theorem sp_bodyMB {K : PySem.W.Frag} {N : List Str} {n : Nat} {b : (Addr → Option ObjSt) → SS} {t : TS} {vs : List V} {H : Hp} {Q : VK} {E : XK} {W : XW} (hN : 0 < N.length)
    (k : ∀ (B : Bs), SSOk K B W t (b B.bk)) (h : spMB K (runMB N n b) vs H Q E) : t { nx := fun _ H' => Q .non H', rt := Q } (start N vs) H := by
  obtain ⟨B, G, R, a, o, us, ds, rfl, e, eR, ap, hB, apB, bA, r, q⟩ := h
  exact sp_bodyO (n := n) (b := b B.bk) hN hB apB e eR ap bA r (k { B with o := some a }) q
/-! ### reading functions -/
def only (a : Addr) (o : ObjSt) : Addr → Option ObjSt := fun b => if b = a then some o else none
theorem only_ok {K : PySem.W.Frag} {G R : Hp} {a : Addr} {o : ObjSt} (h : ObjAt K G R a o) : ∀ b o', only a o b = some o' → ObjAt K G R b o' := fun b o' hb => by
  have hb' : (if b = a then some o else none) = some o' := hb
  split at hb'
  · rename_i hh
    cases hb'
    subst hh
    exact h
  · cases hb'
theorem sp_bodyR {S : Type} {kd : Kd S} {K : PySem.W.Frag} {N : List Str} {n : Nat} {b : (Addr → Option ObjSt) → SS} {t : TS} {Fr : S → List PyData → Res} {vs : List V} {H : Hp} {Q : VK} {E : XK}
    (hF : ∀ a β ds, match Fr β ds with
      | .ret d => runF N n (b (only a (kd.inj β))) (refD a :: ds) = some d
      | .exc _ => False
      | .no => True)
    (k : ∀ B : Bs, SSOk K B W0 t (b B.bk)) (h : spRG K kd Fr vs H Q E) : t { nx := fun _ H' => Q .non H', rt := Q } (start N vs) H := by
  obtain ⟨G, R, a, β, us, ds, rfl, e, eR, ap, bA, r, q⟩ := h
  have hf := hF a β ds
  cases e3 : Fr β ds with
  | no => rw [e3] at q; exact (show False from q).elim
  | exc c => rw [e3] at hf; exact hf.elim
  | ret d =>
    rw [e3] at q hf
    have bo : BsOk K ⟨R, G, only a (kd.inj β), none⟩ G H := ⟨Same.refl G, eR, ap, only_ok bA⟩
    exact sp_bodyB (k ⟨R, G, only a (kd.inj β), none⟩) bo e (.cons (.inr (.inl ⟨a, rfl, rfl⟩)) r) hf q
/-! ### try -/
def sTry (f : SS) (cs : Str → Option Bool) (g : SS) : SS := fun ρ => match f ρ with
  | .ex c r => (match cs c with
    | some true => g r
    | some false => .ex c r
    | none => .no)
  | o => o
theorem try_ok {K : PySem.W.Frag} {B : Bs} {Wout : WX} {y : Str} {cs : Str → Option Bool} {tb : WX → TS} {ts : TS} {f g : SS} (hx : ∀ c b, cs c = some b → PySem.W.exmOne K (.ref (He.ga K c)) (.ref (He.ga K y)) = some b)
    (kb : ∀ w : WX, SSOk K B (wx K w) (tb w) f) (ks : SSOk K B (wx K Wout) ts g) : SSOk K B (wx K Wout) (fun D σ H => tb (wOnly K (.ref (He.ga K y)) (fun _ _ _ => ts) Wout D) D σ H) (sTry f cs g) := fun Z R F H σ ρ D s hg => by
  refine kb _ Z R F H σ ρ D s ?_
  unfold sTry at hg
  cases e : f ρ with
  | no => rw [e] at hg; exact hg
  | nx r => rw [e] at hg; exact hg
  | rt d r => rw [e] at hg; exact hg
  | ro i r => rw [e] at hg; exact hg
  | ex c r =>
    rw [e] at hg
    cases ec : cs c with
    | none => simp only [ec] at hg; exact hg.elim
    | some b =>
      cases b with
      | true =>
        simp only [ec] at hg
        exact fun σ' H' R' F' s' e' => ⟨true, hx c true ec, fun _ a _ => ks Z R' F' H' σ' r D s' (Goes.mono (o := g r) hg e'), fun z => Bool.noConfusion z⟩
      | false =>
        simp only [ec] at hg
        exact fun σ' H' R' F' s' e' => ⟨false, hx c false ec, fun z => Bool.noConfusion z, fun _ => hg σ' H' R' F' s' e'⟩
theorem s_try {X : Cx} {K : PySem.W.Frag} {B : Bs} {Wout : WX} {y : Str} {cs : Str → Option Bool} {tb : WX → TS} {ts : TS} {f g : SS} {body suite : List Stmt} {b0 : Stmt} {np pos pos' : Pos} (hs : X.stack = X.env :: X.outer) (hf : X.env.frame = some X.env.locals) (hc : Names X y (.ref (He.ga X.K y))) (tk : Takes X Wout)
    (hx : ∀ c b, cs c = some b → PySem.W.exmOne K (.ref (He.ga K c)) (.ref (He.ga K y)) = some b)
    (hb : ∀ (w : WX) (pn : List (Addr × Obj)) (xe : Value → Shared → Prop), Takes (X.tr pn xe) w → SemSs (X.tr pn xe) K B (wx K w) body (tb w) f)
    (hsu : ∀ (a : Addr) (pn : List (Addr × Obj)), SemSs (X.suite a pn) K B (wx K Wout) (b0 :: suite) ts g) (hK : X.K = K := by rfl) :
    SemS X K B (wx K Wout) (.Try body [.ExceptHandler (some (.Name y np)) none (b0 :: suite) pos'] [] [] pos) (fun D σ H => tb (wOnly X.K (.ref (He.ga X.K y)) (fun _ _ _ => ts) Wout D) D σ H) (sTry f cs g) := by
  subst hK
  exact ⟨ps_try_only hs hf hc tk (fun w pn xe t _ => (hb w pn xe t).ps) fun a oe cls d pn _ _ => (hsu a _).ps, try_ok hx (fun w => (hb w [] (fun _ _ => True) (fun _ _ _ => trivial)).ok) (hsu 0 []).ok⟩
end RT
/-! A book's parts, changed. -/
namespace RT
open PySem PySem.Spec PyProof.Rows L2
theorem nodup_inj {α β : Type} {f : α → β} : ∀ {l : List α} {x y : α}, (l.map f).Nodup → x ∈ l → y ∈ l → f x = f y → x = y
  | [], _, _, _, h, _, _ => absurd h List.not_mem_nil
  | z :: l, x, y, nd, hx, hy, e => by
    rw [List.map_cons, List.nodup_cons] at nd
    rcases List.mem_cons.mp hx with ex | hx1
    · rcases List.mem_cons.mp hy with ey | hy1
      · rw [ex, ey]
      · subst ex
        exact absurd (e ▸ List.mem_map_of_mem hy1) nd.1
    · rcases List.mem_cons.mp hy with ey | hy1
      · subst ey
        exact absurd (e ▸ List.mem_map_of_mem hx1) nd.1
      · exact nodup_inj nd.2 hx1 hy1 e
def restP (n : Str) (r : Int × Int) (q : Person) : Person := if q.name = n then { q with rests := q.rests ++ [r] } else q
def restB (β : BookSt) (n : Str) (r : Int × Int) : BookSt := { β with people := β.people.map (restP n r) }
theorem restP_name (n : Str) (r : Int × Int) (q : Person) : (restP n r q).name = q.name := by unfold restP; split <;> rfl
theorem restP_skills (n : Str) (r : Int × Int) (q : Person) : (restP n r q).skills = q.skills := by unfold restP; split <;> rfl
theorem restP_limit (n : Str) (r : Int × Int) (q : Person) : (restP n r q).limit = q.limit := by unfold restP; split <;> rfl
section
variable {K : PySem.W.Frag} {F G R : Hp} {a : Addr} {β : BookSt} {dx dS dL dR dT dN : Addr} {pe : PE3} {sh : SE3}
theorem BookIn.names (b : BookIn K F R a β dx dS dL dR dT dN pe sh) : (pe.map fun x => x.1.name).Nodup := by
  have := b.un
  rw [← b.pn, List.map_map] at this
  exact this
theorem BookIn.snames (b : BookIn K F R a β dx dS dL dR dT dN pe sh) : (sh.map fun x => x.1.name).Nodup := by
  have := b.us
  rw [← b.sn, List.map_map] at this
  exact this
theorem BookIn.rest (b : BookIn K F R a β dx dS dL dR dT dN pe sh) {n : Str} {x : Person × Addr × Addr} {r : Int × Int} {vs : List V} {v : V} (hx : x ∈ pe) (hn : x.1.name = n) (hl : R x.2.2 = some (.lst vs)) (hA : DqAll K F vs (x.1.rests.map stD)) (e : Same F G) (hv : Dq K G v (stD r)) (hz : x.1.rests.length < 1000) :
    BookIn K G (upd R x.2.2 (.lst (vs ++ [v]))) a (restB β n r) dx dS dL dR dT dN (pe.map fun y => (restP n r y.1, y.2)) sh := by
  have other : ∀ {y o}, R y = some o → (∀ l, o ≠ .lst l) → (upd R x.2.2 (.lst (vs ++ [v]))) y = some o := fun {y o} h hne => by
    rw [upd_ne (ne_of h hl (hne vs))]
    exact h
  have one : ∀ y ∈ pe, y.1.name = n → y = x := fun y hy h => nodup_inj (f := fun x : Person × Addr × Addr => x.1.name) b.names hy hx (h.trans hn.symm)
  refine { pn := ?_, sn := b.sn, ob := other b.ob (fun _ z => nomatch z), ow := other b.ow (fun _ z => nomatch z), cS := ?_, cL := ?_, cR := ?_, cT := other b.cT (fun _ z => nomatch z), cN := other b.cN (fun _ z => nomatch z), nd := b.nd, ps := ?_, pr := ?_, st := fun y hy => dp_mono e _ (b.st y hy), sc := fun y hy => other (b.sc y hy) (fun _ z => nomatch z), rn := ?_, rs := ?_, nn := b.nn, un := ?_, us := b.us, sz := ?_ }
  · unfold restB
    rw [← b.pn, List.map_map, List.map_map]
    rfl
  · rw [other b.cS (fun _ z => nomatch z)]
    unfold kvS
    rw [List.map_map]
    congr 2
    apply List.map_congr_left
    intro y _
    simp [restP_name]
  · rw [other b.cL (fun _ z => nomatch z)]
    unfold kvL
    rw [List.map_map]
    congr 2
    apply List.map_congr_left
    intro y _
    simp [restP_name, restP_limit]
  · rw [other b.cR (fun _ z => nomatch z)]
    unfold kvR
    rw [List.map_map]
    congr 2
    apply List.map_congr_left
    intro y _
    simp [restP_name]
  · intro y' hy'
    obtain ⟨y, hy, rfl⟩ := List.mem_map.mp hy'
    rw [upd_ne (b.rs y hy x hx), b.ps y hy]
    simp [restP_skills]
  · intro y' hy'
    obtain ⟨y, hy, rfl⟩ := List.mem_map.mp hy'
    by_cases h : y.1.name = n
    · have := one y hy h
      subst this
      refine ⟨vs ++ [v], upd_same, ?_⟩
      have e2 : (restP n r y.1).rests = y.1.rests ++ [r] := by unfold restP; rw [if_pos h]
      rw [e2, List.map_append]
      exact (dpa_mono e _ hA).append (.cons hv .nil)
    · obtain ⟨ws, h1, h2⟩ := b.pr y hy
      refine ⟨ws, ?_, ?_⟩
      · rw [upd_ne]
        · exact h1
        · intro z
          have := nodup_inj (f := fun x : Person × Addr × Addr => x.2.2) b.rn hy hx z
          exact h (this ▸ hn)
      · have e2 : (restP n r y.1).rests = y.1.rests := by unfold restP; rw [if_neg h]
        rw [e2]
        exact dpa_mono e _ h2
  · rw [List.map_map]
    exact b.rn
  · intro y' hy' z' hz'
    obtain ⟨y, hy, rfl⟩ := List.mem_map.mp hy'
    obtain ⟨z, hz, rfl⟩ := List.mem_map.mp hz'
    exact b.rs y hy z hz
  · have := b.un
    unfold restB
    rw [List.map_map]
    have e3 : ((fun p : Person => p.name) ∘ restP n r) = fun p => p.name := by funext q; exact restP_name n r q
    rw [e3]
    exact this
  · obtain ⟨s1, s2, s3, s4⟩ := b.sz
    refine ⟨by simpa [restB] using s1, s2, ?_, s4⟩
    intro p hp
    unfold restB at hp
    obtain ⟨q, hq, rfl⟩ := List.mem_map.mp hp
    obtain ⟨t1, t2⟩ := s3 q hq
    refine ⟨?_, by rw [restP_skills]; exact t2⟩
    unfold restP
    split
    · rename_i h
      have : ∃ y ∈ pe, y.1 = q := by
        rw [← b.pn] at hq
        obtain ⟨y, hy, e⟩ := List.mem_map.mp hq
        exact ⟨y, hy, e⟩
      obtain ⟨y, hy, rfl⟩ := this
      have := one y hy h
      subst this
      simp only [List.length_append, List.length_singleton]
      omega
    · exact t1
theorem BookIn.addP (b : BookIn K F R a β dx dS dL dR dT dN pe sh) {p : Person} {pS pR : Addr} {R' : Hp} (hf : findP β p.name = none) (e : Same F G) (nS : R pS = none) (nR : R pR = none) (nSR : pS ≠ pR) (hr : p.rests = []) (hz : p.skills.length ≤ 1000) (hz2 : β.people.length < 1000)
    (hdS : R' dS = some (.dK (kvS pe ++ [(Sum.inr p.name, .ref pS)]))) (hdL : R' dL = some (.dK (kvL pe ++ [(Sum.inr p.name, .int p.limit)]))) (hdR : R' dR = some (.dK (kvR pe ++ [(Sum.inr p.name, .ref pR)])))
    (hpS : R' pS = some (.lst (p.skills.map V.str))) (hpR : R' pR = some (.lst [])) (ho : ∀ y, y ≠ dS → y ≠ dL → y ≠ dR → R y ≠ none → R' y = R y) :
    BookIn K G R' a ⟨β.people ++ [p], β.shifts⟩ dx dS dL dR dT dN (pe ++ [(p, pS, pR)]) sh := by
  have keep : ∀ {y o}, R y = some o → (∀ l, o ≠ .dK l) → R' y = some o := fun {y o} h hne => by
    rw [ho y (ne_of h b.cS (hne _)) (ne_of h b.cL (hne _)) (ne_of h b.cR (hne _)) (by rw [h]; intro z; cases z)]
    exact h
  have nd := b.nd
  simp only [List.nodup_cons, List.mem_cons, List.not_mem_nil, or_false, not_or] at nd
  obtain ⟨⟨n1, n2, n3, n4⟩, ⟨n5, n6, n7⟩, ⟨n8, n9⟩, n10, _⟩ := nd
  have hn : p.name ∉ β.people.map (·.name) := fun hm => by
    obtain ⟨q, hq, hqe⟩ := List.mem_map.mp hm
    unfold findP at hf
    rw [List.find?_eq_none] at hf
    exact hf q hq (by simp [hqe])
  refine { pn := ?_, sn := b.sn, ob := keep b.ob (fun _ z => nomatch z), ow := keep b.ow (fun _ z => nomatch z), cS := by rw [hdS]; simp [kvS], cL := by rw [hdL]; simp [kvL], cR := by rw [hdR]; simp [kvR], cT := ?_, cN := ?_, nd := b.nd, ps := ?_, pr := ?_, st := fun y hy => dp_mono e _ (b.st y hy), sc := ?_, rn := ?_, rs := ?_, nn := b.nn, un := ?_, us := b.us, sz := ?_ }
  · rw [List.map_append, b.pn]; rfl
  · rw [ho dT (Ne.symm n3) (Ne.symm n6) (Ne.symm n8) (by rw [b.cT]; intro z; cases z)]; exact b.cT
  · rw [ho dN (Ne.symm n4) (Ne.symm n7) (Ne.symm n9) (by rw [b.cN]; intro z; cases z)]; exact b.cN
  · intro y hy
    rcases List.mem_append.mp hy with hy | hy
    · exact keep (b.ps y hy) (fun _ z => nomatch z)
    · obtain rfl := List.mem_singleton.mp hy
      exact hpS
  · intro y hy
    rcases List.mem_append.mp hy with hy | hy
    · obtain ⟨vs, h1, h2⟩ := b.pr y hy
      exact ⟨vs, keep h1 (fun _ z => nomatch z), dpa_mono e _ h2⟩
    · obtain rfl := List.mem_singleton.mp hy
      refine ⟨[], hpR, ?_⟩
      show DqAll K G [] (p.rests.map stD)
      rw [hr]
      exact .nil
  · intro y hy
    have := b.nn y hy
    simp only [List.mem_cons, List.not_mem_nil, or_false, not_or] at this
    rw [ho y.2.2 this.1 this.2.1 this.2.2.1 (by rw [b.sc y hy]; intro z; cases z)]
    exact b.sc y hy
  · rw [List.map_append, List.nodup_append]
    refine ⟨b.rn, by simp, fun u hu v hv => ?_⟩
    obtain ⟨y, hy, rfl⟩ := List.mem_map.mp hu
    simp at hv
    subst hv
    obtain ⟨vs, h1, _⟩ := b.pr y hy
    exact ne_of_none h1 nR
  · intro y hy z hz
    rcases List.mem_append.mp hy with hy | hy
    · rcases List.mem_append.mp hz with hz | hz
      · exact b.rs y hy z hz
      · obtain rfl := List.mem_singleton.mp hz
        exact ne_of_none (b.ps y hy) nR
    · obtain rfl := List.mem_singleton.mp hy
      rcases List.mem_append.mp hz with hz | hz
      · obtain ⟨vs, h1, _⟩ := b.pr z hz
        exact Ne.symm (ne_of_none h1 nS)
      · obtain rfl := List.mem_singleton.mp hz
        exact nSR
  · show ((β.people ++ [p]).map (·.name)).Nodup
    rw [List.map_append, List.nodup_append]
    refine ⟨b.un, by simp, fun u hu v hv => ?_⟩
    simp at hv
    subst hv
    rintro rfl
    exact hn hu
  · obtain ⟨t1, t2, t3, t4⟩ := b.sz
    refine ⟨by simp only [List.length_append, List.length_singleton]; omega, t2, ?_, t4⟩
    intro q hq
    rcases List.mem_append.mp hq with hq | hq
    · exact t3 q hq
    · obtain rfl := List.mem_singleton.mp hq
      exact ⟨by rw [hr]; simp, hz⟩
theorem BookIn.addS (b : BookIn K F R a β dx dS dL dR dT dN pe sh) {s : Shift} {t dC : Addr} {R' : Hp} (hf : findS β s.name = none) (e : Same F G) (nC : R dC = none) (hst : Dq K G (.ref t) (stD (s.b, s.e))) (hz : s.needs.length ≤ 1000) (hz2 : β.shifts.length < 1000)
    (hdT : R' dT = some (.dK (kvT sh ++ [(Sum.inr s.name, .ref t)]))) (hdN : R' dN = some (.dK (kvN sh ++ [(Sum.inr s.name, .ref dC)])))
    (hdC : R' dC = some (.dK (kvC s.needs))) (ho : ∀ y, y ≠ dT → y ≠ dN → R y ≠ none → R' y = R y) :
    BookIn K G R' a ⟨β.people, β.shifts ++ [s]⟩ dx dS dL dR dT dN pe (sh ++ [(s, t, dC)]) := by
  have keep : ∀ {y o}, R y = some o → (∀ l, o ≠ .dK l) → R' y = some o := fun {y o} h hne => by
    rw [ho y (ne_of h b.cT (hne _)) (ne_of h b.cN (hne _)) (by rw [h]; intro z; cases z)]
    exact h
  have nd := b.nd
  simp only [List.nodup_cons, List.mem_cons, List.not_mem_nil, or_false, not_or] at nd
  obtain ⟨⟨n1, n2, n3, n4⟩, ⟨n5, n6, n7⟩, ⟨n8, n9⟩, n10, _⟩ := nd
  have hn : s.name ∉ β.shifts.map (·.name) := fun hm => by
    obtain ⟨q, hq, hqe⟩ := List.mem_map.mp hm
    unfold findS at hf
    rw [List.find?_eq_none] at hf
    exact hf q hq (by simp [hqe])
  refine { pn := b.pn, sn := ?_, ob := keep b.ob (fun _ z => nomatch z), ow := keep b.ow (fun _ z => nomatch z), cS := ?_, cL := ?_, cR := ?_, cT := by rw [hdT]; simp [kvT], cN := by rw [hdN]; simp [kvN], nd := b.nd, ps := fun y hy => keep (b.ps y hy) (fun _ z => nomatch z), pr := ?_, st := ?_, sc := ?_, rn := b.rn, rs := b.rs, nn := ?_, un := b.un, us := ?_, sz := ?_ }
  · rw [List.map_append, b.sn]; rfl
  · rw [ho dS n3 n4 (by rw [b.cS]; intro z; cases z)]; exact b.cS
  · rw [ho dL n6 n7 (by rw [b.cL]; intro z; cases z)]; exact b.cL
  · rw [ho dR n8 n9 (by rw [b.cR]; intro z; cases z)]; exact b.cR
  · intro y hy
    obtain ⟨vs, h1, h2⟩ := b.pr y hy
    exact ⟨vs, keep h1 (fun _ z => nomatch z), dpa_mono e _ h2⟩
  · intro y hy
    rcases List.mem_append.mp hy with hy | hy
    · exact dp_mono e _ (b.st y hy)
    · obtain rfl := List.mem_singleton.mp hy
      exact hst
  · intro y hy
    rcases List.mem_append.mp hy with hy | hy
    · have := b.nn y hy
      simp only [List.mem_cons, List.not_mem_nil, or_false, not_or] at this
      rw [ho y.2.2 this.2.2.2.1 this.2.2.2.2 (by rw [b.sc y hy]; intro z; cases z)]
      exact b.sc y hy
    · obtain rfl := List.mem_singleton.mp hy
      exact hdC
  · intro y hy
    rcases List.mem_append.mp hy with hy | hy
    · exact b.nn y hy
    · obtain rfl := List.mem_singleton.mp hy
      simp only [List.mem_cons, List.not_mem_nil, or_false, not_or]
      exact ⟨Ne.symm (ne_of_none b.cS nC), Ne.symm (ne_of_none b.cL nC), Ne.symm (ne_of_none b.cR nC), Ne.symm (ne_of_none b.cT nC), Ne.symm (ne_of_none b.cN nC)⟩
  · show ((β.shifts ++ [s]).map (·.name)).Nodup
    rw [List.map_append, List.nodup_append]
    refine ⟨b.us, by simp, fun u hu v hv => ?_⟩
    simp at hv
    subst hv
    rintro rfl
    exact hn hu
  · obtain ⟨t1, t2, t3, t4⟩ := b.sz
    refine ⟨t1, by simp only [List.length_append, List.length_singleton]; omega, t3, ?_⟩
    intro q hq
    rcases List.mem_append.mp hq with hq | hq
    · exact t4 q hq
    · obtain rfl := List.mem_singleton.mp hq
      exact hz
end
end RT
/-! Words for books. -/
namespace RT
open PySem PySem.Spec PyProof.Rows L2
section
variable {S : Type}
structure MethRG (P : Program) (w : World) (K : PySem.W.Frag) (mg : Str → Option Value) (base : Heap) (k : Nat) (kd : Kd S) (C : Str) (m : Str) (Fr : S → List PyData → Res) : Prop where
  ex : ∃ (f : Addr) (fd : FuncData) (ps : List Str), FnOk P w K mg base (L2.CX P w) k f fd ps (spRG K kd Fr) ∧ Meth K (He.ga K C) m f ∧ Binds K fd ps []
  cl : Cls K (He.ga K C)
  no : ∃ fl, KdC kd C fl ∧ noFl fl m
structure MethMG (P : Program) (w : World) (K : PySem.W.Frag) (mg : Str → Option Value) (base : Heap) (k : Nat) (kd : Kd S) (C : Str) (m : Str) (Fm : S → List PyData → RMG S) : Prop where
  ex : ∃ (f : Addr) (fd : FuncData) (ps : List Str), FnOk P w K mg base (L2.CX P w) k f fd ps (spMG K kd Fm) ∧ Meth K (He.ga K C) m f ∧ Binds K fd ps []
  cl : Cls K (He.ga K C)
  no : ∃ fl, KdC kd C fl ∧ noFl fl m
/-- a reading function of the module -/
structure PFRG (P : Program) (w : World) (K : PySem.W.Frag) (mg : Str → Option Value) (base : Heap) (k : Nat) (kd : Kd S) (x : Str) (Fr : S → List PyData → Res) : Prop where
  ex : ∃ (f : Addr) (fd : FuncData) (ps : List Str), FnOk P w K mg base CX0 k f fd ps (spRG K kd Fr) ∧ mg x = some (.ref f) ∧ PySem.W.keepIn K (.ref f) = true ∧ Binds K fd ps []
/-- a changing one -/
structure PFMG (P : Program) (w : World) (K : PySem.W.Frag) (mg : Str → Option Value) (base : Heap) (k : Nat) (kd : Kd S) (x : Str) (Fm : S → List PyData → RMG S) : Prop where
  ex : ∃ (f : Addr) (fd : FuncData) (ps : List Str), FnOk P w K mg base CX0 k f fd ps (spMG K kd Fm) ∧ mg x = some (.ref f) ∧ PySem.W.keepIn K (.ref f) = true ∧ Binds K fd ps []
theorem MethMG.exc {P : Program} {w : World} {K : PySem.W.Frag} {mg : Str → Option Value} {base : Heap} {k : Nat} {kd : Kd S} {C m : Str} {Fm : S → List PyData → RMG S} (M : MethMG P w K mg base k kd C m Fm) : MethRG P w K mg base k kd C m (excOf Fm) := by
  obtain ⟨f, fd, ps, G, me, b⟩ := M.ex
  exact ⟨⟨f, fd, ps, G.imp spM_of_R, me, b⟩, M.cl, M.no⟩
end
abbrev MethR (P : Program) (w : World) (K : PySem.W.Frag) (mg : Str → Option Value) (base : Heap) (k : Nat) (m : Str) (Fr : BookSt → List PyData → Res) : Prop := MethRG P w K mg base k kB "Book" m Fr
abbrev MethM (P : Program) (w : World) (K : PySem.W.Frag) (mg : Str → Option Value) (base : Heap) (k : Nat) (m : Str) (Fm : BookSt → List PyData → RM) : Prop := MethMG P w K mg base k kB "Book" m Fm
abbrev PFR (P : Program) (w : World) (K : PySem.W.Frag) (mg : Str → Option Value) (base : Heap) (k : Nat) (x : Str) (Fr : BookSt → List PyData → Res) : Prop := PFRG P w K mg base k kB x Fr
abbrev PFM (P : Program) (w : World) (K : PySem.W.Frag) (mg : Str → Option Value) (base : Heap) (k : Nat) (x : Str) (Fm : BookSt → List PyData → RM) : Prop := PFMG P w K mg base k kB x Fm
section
variable {S : Type} {kd : Kd S} {C : Str} {X : Cx} {K : PySem.W.Frag} {B : Bs} {w : WX} {W : XW} {e : Expr} {es : List Expr} {ta : TA} {sa : SA} {x m : Str} {p ap pos pos2 : Pos} {k j : Nat} {Fr : S → List PyData → Res} {Fm : S → List PyData → RMG S}
theorem se_meth (i : Nat) {pl : Sem Bool} (M : MethRG X.prog X.w K X.mg X.base k kd C m Fr) (hr : Room j X.A) (ha : SemA X K B (e :: es) ta sa) (hp : PE X (.Name x p) (tVar i)) (hk : k ≤ j := by decide)
    (hst : starEach (e :: es) X.env = (false, eval e X.env) :: starEach es X.env := by rfl) (hpl : (backTo pos (starEach es X.env)).any (·.1) = false := by rfl)
    (ht : eval (.Call (.Attribute (.Name x p) m ap) (e :: es) [] pos) X.env = (do
      let ov ← eval (.Name x p) X.env
      standAt ap.atName
      let (f, first) ← holding [ov] (getMethod ov m pl)
      callWith pos f first (backTo pos (starEach (e :: es) X.env)) (backToKw pos (keywordEach [] X.env))) := by rfl) (hK : X.K = K := by rfl) :
    SemE X K B (.Call (.Attribute (.Name x p) m ap) (e :: es) [] pos) (tMeth (He.ga K C) m (spRG K kd Fr) [] E0 (tVar i) ta) (eMeth kd B.bk i Fr sa) := by
  subst hK
  obtain ⟨f, fd, ps, G, me, b⟩ := M.ex
  obtain ⟨fl, kc, no⟩ := M.no
  exact ⟨pe_meth hp M.cl me G (hr.mono hk) b .nil passL ha.pa hst hpl ht, meth_okE kc no ha.ok⟩
theorem se_meth0 (i : Nat) {pl : Sem Bool} (M : MethRG X.prog X.w K X.mg X.base k kd C m Fr) (hr : Room j X.A) (hp : PE X (.Name x p) (tVar i)) (hk : k ≤ j := by decide)
    (ht : eval (.Call (.Attribute (.Name x p) m ap) [] [] pos) X.env = (do
      let ov ← eval (.Name x p) X.env
      standAt ap.atName
      let (f, first) ← holding [ov] (getMethod ov m pl)
      callWith pos f first (backTo pos (starEach [] X.env)) (backToKw pos (keywordEach [] X.env))) := by rfl) (hK : X.K = K := by rfl) :
    SemE X K B (.Call (.Attribute (.Name x p) m ap) [] [] pos) (tMeth (He.ga K C) m (spRG K kd Fr) [] E0 (tVar i) tNil) (eMeth kd B.bk i Fr eNil) := by
  subst hK
  obtain ⟨f, fd, ps, G, me, b⟩ := M.ex
  obtain ⟨fl, kc, no⟩ := M.no
  exact ⟨pe_meth0 hp M.cl me G (hr.mono hk) b .nil passL ht, meth_okE kc no nil_ok⟩
theorem sx_meth (i : Nat) {pl : Sem Bool} (tk : Takes X w) (M : MethRG X.prog X.w K X.mg X.base k kd C m Fr) (hr : Room j X.A) (ha : SemA X K B (e :: es) ta sa) (hp : PE X (.Name x p) (tVar i)) (hk : k ≤ j := by decide)
    (hst : starEach (e :: es) X.env = (false, eval e X.env) :: starEach es X.env := by rfl) (hpl : (backTo pos (starEach es X.env)).any (·.1) = false := by rfl)
    (ht : eval (.Call (.Attribute (.Name x p) m ap) (e :: es) [] pos) X.env = (eval (.Name x p) X.env >>= fun ov => standAt ap.atName >>= fun _ => holding [ov] (getMethod ov m pl) >>= fun r => callWith pos r.1 r.2 (backTo pos (starEach (e :: es) X.env)) (backToKw pos (keywordEach [] X.env))) := by rfl) (hK : X.K = K := by rfl) :
    SemX X K B w (.Call (.Attribute (.Name x p) m ap) (e :: es) [] pos) (tMethS (He.ga K C) m (spRG K kd Fr) (WE w) (tVar i) ta) (xMeth kd B.bk i Fr sa) := by
  subst hK
  obtain ⟨f, fd, ps, G, me, b⟩ := M.ex
  obtain ⟨fl, kc, no⟩ := M.no
  exact ⟨pe_methW tk hp M.cl me G hr hk b ha.pa hst hpl ht, methX_ok kc no ha.ok⟩
/-- book.m(..) that changes it, a statement -/
theorem s_mut (i : Nat) {pl : Sem Bool} (M : MethMG X.prog X.w K X.mg X.base k kd C m Fm) (hr : Room j X.A) (ha : SemA X K B (e :: es) ta sa) (hp : PE X (.Name x p) (tVar i)) (hk : k ≤ j := by decide)
    (hst : starEach (e :: es) X.env = (false, eval e X.env) :: starEach es X.env := by rfl) (hpl : (backTo pos (starEach es X.env)).any (·.1) = false := by rfl)
    (ht : eval (.Call (.Attribute (.Name x p) m ap) (e :: es) [] pos) X.env = (do
      let ov ← eval (.Name x p) X.env
      standAt ap.atName
      let (f, first) ← holding [ov] (getMethod ov m pl)
      callWith pos f first (backTo pos (starEach (e :: es) X.env)) (backToKw pos (keywordEach [] X.env))) := by rfl)
    (hs : swapsWith (.Call (.Attribute (.Name x p) m ap) (e :: es) [] pos) none pos2.line X.env = pure false := by rfl) (hK : X.K = K := by rfl) :
    SemS X K B W0 (.Expr (.Call (.Attribute (.Name x p) m ap) (e :: es) [] pos) pos2) (tDrop (tMeth (He.ga K C) m (spMG K kd Fm) [] E0 (tVar i) ta)) (sMut kd i Fm sa) := by
  subst hK
  obtain ⟨f, fd, ps, G, me, b⟩ := M.ex
  obtain ⟨fl, kc, no⟩ := M.no
  exact ⟨ps_expr (pe_meth hp M.cl me G (hr.mono hk) b .nil passL ha.pa hst hpl ht) hs, mut_okS kc no ha.ok⟩
/-- y = book.m(..) that changes it -/
theorem s_mutS (i l : Nat) {pl : Sem Bool} {y : Str} {p3 : Pos} (M : MethMG X.prog X.w K X.mg X.base k kd C m Fm) (hr : Room j X.A) (hN : X.N.Nodup) (ha : SemA X K B (e :: es) ta sa) (hp : PE X (.Name x p) (tVar i)) (hl : X.N[l]? = some y := by rfl) (hk : k ≤ j := by decide)
    (hx : Loc X.env.scope y := by first | exact Or.inl rfl | exact Or.inr rfl)
    (hst : starEach (e :: es) X.env = (false, eval e X.env) :: starEach es X.env := by rfl) (hpl : (backTo pos (starEach es X.env)).any (·.1) = false := by rfl)
    (ht : eval (.Call (.Attribute (.Name x p) m ap) (e :: es) [] pos) X.env = (do
      let ov ← eval (.Name x p) X.env
      standAt ap.atName
      let (f, first) ← holding [ov] (getMethod ov m pl)
      callWith pos f first (backTo pos (starEach (e :: es) X.env)) (backToKw pos (keywordEach [] X.env))) := by rfl)
    (hs : swapsWith (.Call (.Attribute (.Name x p) m ap) (e :: es) [] pos) (some (.Name y p3)) pos2.line X.env = pure false := by rfl) (hf : X.fn y = true ∨ X.env.scope.names.lookup y = some .local := by first | exact .inl rfl | exact .inr rfl) (hK : X.K = K := by rfl) :
    SemS X K B W0 (.Assign [.Name y p3] (.Call (.Attribute (.Name x p) m ap) (e :: es) [] pos) pos2) (tAsg (tMeth (He.ga K C) m (spMG K kd Fm) [] E0 (tVar i) ta) (gName l)) (sMutS kd i l Fm sa) := by
  subst hK
  obtain ⟨f, fd, ps, G, me, b⟩ := M.ex
  obtain ⟨fl, kc, no⟩ := M.no
  exact ⟨ps_set hN hl hx (pe_meth hp M.cl me G (hr.mono hk) b .nil passL ha.pa hst hpl ht) hs hf, mutS_okS kc no ha.ok⟩
/-- f(book, ..) that reads -/
theorem se_callR (i : Nat) {y : Str} {p2 : Pos} (C : PFRG X.prog X.w K X.mg X.base k kd x Fr) (hr : Room j X.A) (ha : SemA X K B es ta sa) (hp : PE X (.Name y p2) (tVar i)) (hk : k ≤ j := by decide) (hg : Gl X x := by rfl) (hdb : (x == ("__debug__" : Str)) = false := by decide)
    (he : starEach (.Name y p2 :: es) X.env = (false, eval (.Name y p2) X.env) :: starEach es X.env := by rfl) (hpl : (backTo pos (starEach es X.env)).any (·.1) = false := by rfl) (hK : X.K = K := by rfl) :
    SemE X K B (.Call (.Name x p) (.Name y p2 :: es) [] pos) (tCallB K kd Fr i ta) (eMeth kd B.bk i Fr sa) := by
  subst hK
  obtain ⟨f, fd, ps, h1, h2, h3, h4⟩ := C.ex
  exact ⟨pe_call h1 (hr.mono hk) hg h2 h3 h4 .nil pass0 (pa_cons hp ha.pa he) hdb he hpl, callR_ok ha.ok⟩
/-- f(book, ..), own lists handed in for a moment -/
theorem se_callRB (i : Nat) {y : Str} {p2 : Pos} (C : PFRG X.prog X.w K X.mg X.base k kd x Fr) (hr : Room j X.A) (ha : SemCA X K B es ta sa) (hp : PE X (.Name y p2) (tVar i)) (hk : k ≤ j := by decide) (hg : Gl X x := by rfl) (hdb : (x == ("__debug__" : Str)) = false := by decide)
    (he : starEach (.Name y p2 :: es) X.env = (false, eval (.Name y p2) X.env) :: starEach es X.env := by rfl) (hpl : (backTo pos (starEach es X.env)).any (·.1) = false := by rfl) (hK : X.K = K := by rfl) :
    SemE X K B (.Call (.Name x p) (.Name y p2 :: es) [] pos) (tCallB K kd Fr i ta) (fun ρ => onlyS (eMeth kd B.bk i Fr sa ρ)) := by
  subst hK
  obtain ⟨f, fd, ps, h1, h2, h3, h4⟩ := C.ex
  exact ⟨pe_call h1 (hr.mono hk) hg h2 h3 h4 .nil pass0 (pa_cons hp ha.pa he) hdb he hpl, callRB_ok ha.ok⟩
/-- f(book, ..) that changes it, a statement -/
theorem s_callM (i : Nat) {y : Str} {p2 : Pos} (C : PFMG X.prog X.w K X.mg X.base k kd x Fm) (hr : Room j X.A) (ha : SemA X K B es ta sa) (hp : PE X (.Name y p2) (tVar i)) (hk : k ≤ j := by decide) (hg : Gl X x := by rfl) (hdb : (x == ("__debug__" : Str)) = false := by decide)
    (he : starEach (.Name y p2 :: es) X.env = (false, eval (.Name y p2) X.env) :: starEach es X.env := by rfl) (hpl : (backTo pos (starEach es X.env)).any (·.1) = false := by rfl)
    (hs : swapsWith (.Call (.Name x p) (.Name y p2 :: es) [] pos) none pos2.line X.env = pure false := by rfl) (hK : X.K = K := by rfl) :
    SemS X K B W0 (.Expr (.Call (.Name x p) (.Name y p2 :: es) [] pos) pos2) (tDrop (tCall (spMG K kd Fm) [] E0 (tCons (tVar i) ta))) (sMut kd i Fm sa) := by
  subst hK
  obtain ⟨f, fd, ps, h1, h2, h3, h4⟩ := C.ex
  exact ⟨ps_expr (pe_call h1 (hr.mono hk) hg h2 h3 h4 .nil pass0 (pa_cons hp ha.pa he) hdb he hpl) hs, mutF_ok ha.ok⟩
/-- x = Book() -/
theorem s_mkB (i : Nat) {y : Str} {p2 : Pos} (hB : B.o = none) (ps : PS X (.Assign [.Name x p] (.Call (.Name y p2) [] [] pos) pos2) (tAsg (tMake (He.ga K "Book") (spInit K) [] E0 tNil) (gName i))) :
    SemS X K B W (.Assign [.Name x p] (.Call (.Name y p2) [] [] pos) pos2) (tAsg (tMake (He.ga K "Book") (spInit K) [] E0 tNil) (gName i)) (sMkB i) := ⟨ps, mk_okS hB⟩
end
/-- own lists become data, then f -/
def sFrz (f : SS) : SS := fun ρ => f (ρ.map frz1)
@[simp] theorem sFrz_eq (f : SS) (ρ : Rho) : sFrz f ρ = f (ρ.map frz1) := rfl
theorem s_frz {X : Cx} {K : PySem.W.Frag} {B : Bs} {W : XW} {st : Stmt} {t : TS} {f : SS} (h : SemS X K B W st t f) : SemS X K B W st t (sFrz f) := ⟨h.ps, fun Z R F H σ ρ D s hg => by
  obtain ⟨F', e1, s'⟩ := s.frz
  exact h.ok Z R F' H σ _ D s' (Goes.mono hg e1)⟩
/-- a reading function: its derivation for any object that is read, its value where it is handed that one -/
theorem sp_run {S : Type} {kd : Kd S} {X : Cx} {K : PySem.W.Frag} {N : List Str} {n : Nat} {st : List Stmt} {b : (Addr → Option ObjSt) → SS} {Fr : S → List PyData → Res} {vs : List V} {H : Hp} {Q : VK} {E : XK}
    (k : ∀ B : Bs, ∃ t, SemSs X.nox K B W0 st t (b B.bk)) (hF : ∀ a β ds, match Fr β ds with
      | .ret d => runF N n (b (only a (kd.inj β))) (refD a :: ds) = some d
      | .exc _ => False
      | .no => True) (h : spRG K kd Fr vs H Q E) : ∃ t, PSs X st t ∧ t { nx := fun _ H' => Q .non H', rt := Q } (start N vs) H := by
  obtain ⟨G, R, a, β, us, ds, rfl, e, eR, ap, bA, r, q⟩ := h
  have hf := hF a β ds
  cases e3 : Fr β ds with
  | no => rw [e3] at q; exact (show False from q).elim
  | exc c => rw [e3] at hf; exact hf.elim
  | ret d =>
    rw [e3] at q hf
    have bo : BsOk K ⟨R, G, only a (kd.inj β), none⟩ G H := ⟨Same.refl G, eR, ap, only_ok bA⟩
    obtain ⟨t, ht⟩ := k ⟨R, G, only a (kd.inj β), none⟩
    exact ⟨t, ht.ps.nox, sp_bodyB ht.ok bo e (.cons (.inr (.inl ⟨a, rfl, rfl⟩)) r) hf q⟩
/-! ### rows to reckon -/
@[simp] theorem sMkB_eq (i : Nat) (ρ : Rho) : sMkB i ρ = .nx (ρ.set i (.obj (.book ⟨[], []⟩))) := rfl
section
variable {S : Type} {kd : Kd S}
def outM (o : RMG S) (k : S → PyData → Out) (kx : Str → Out) : Out := match o with
  | .no => .no
  | .done β d => k β d
  | .exc c => kx c
@[simp] theorem outM_done (β : S) (d : PyData) (k : S → PyData → Out) (kx : Str → Out) : outM (.done β d) k kx = k β d := rfl
@[simp] theorem outM_exc (c : Str) (k : S → PyData → Out) (kx : Str → Out) : outM (.exc c) k kx = kx c := rfl
@[simp] theorem slO_inj (β : S) : slO kd (some (.obj (kd.inj β))) = some β := kd.pi β
@[simp] theorem slO_book (β : BookSt) : slO kB (some (.obj (.book β))) = some β := rfl
@[simp] theorem slO_deal (β : DealSt) : slO kD (some (.obj (.deal β))) = some β := rfl
@[simp] theorem slO_row (β : List Cell) : slO kW (some (.obj (.row β))) = some β := rfl
@[simp] theorem slO_dct (β : List (Int × PyData)) : slO kT (some (.obj (.dct β))) = some β := rfl
@[simp] theorem slO_any (β : ObjSt) : slO kA (some (.obj β)) = some β := rfl
def outO (o : Option S) (k : S → Out) : Out := match o with
  | some β => k β
  | none => .no
@[simp] theorem outO_some (β : S) (k : S → Out) : outO (some β) k = k β := rfl
@[simp] theorem sMut_eq (i : Nat) (Fm : S → List PyData → RMG S) (sa : SA) (ρ : Rho) : sMut kd i Fm sa ρ = outO (slO kd ρ[i]?) fun β => outL (sa ρ) fun ds => outM (Fm β ds) (fun β' _ => .nx (ρ.set i (.obj (kd.inj β')))) (fun c => .ex c ρ) := by
  unfold sMut
  cases slO kd ρ[i]? with
  | none => rfl
  | some s =>
    cases sa ρ with
    | none => rfl
    | some ds =>
      simp only [outO_some, outL_some]
      cases Fm s ds <;> rfl
@[simp] theorem sMutS_eq (i j : Nat) (Fm : S → List PyData → RMG S) (sa : SA) (ρ : Rho) : sMutS kd i j Fm sa ρ = outO (slO kd ρ[i]?) fun β => outL (sa ρ) fun ds => outM (Fm β ds) (fun β' d => .nx ((ρ.set i (.obj (kd.inj β'))).set j (.val d))) (fun c => .ex c ρ) := by
  unfold sMutS
  cases slO kd ρ[i]? with
  | none => rfl
  | some s =>
    cases sa ρ with
    | none => rfl
    | some ds =>
      simp only [outO_some, outL_some]
      cases Fm s ds <;> rfl
theorem rcv_obj (bk : Addr → Option ObjSt) (ρ : Rho) (i : Nat) (o : ObjSt) (h : ρ[i]? = some (.obj o)) : rcv kd bk ρ i = kd.prj o := by unfold rcv; rw [h]
theorem rcv_ref (a : Addr) (o : ObjSt) (ρ : Rho) (i : Nat) (h : ρ[i]? = some (.val (refD a))) : rcv kd (only a o) ρ i = kd.prj o := by
  unfold rcv
  rw [h]
  simp [refD, addrOf, only]
theorem eMeth_eq (bk : Addr → Option ObjSt) (i : Nat) (Fr : S → List PyData → Res) (sa : SA) (ρ : Rho) : eMeth kd bk i Fr sa ρ = (rcv kd bk ρ i).bind fun β => (sa ρ).bind fun ds => (Fr β ds).ok := by
  unfold eMeth xMeth
  cases rcv kd bk ρ i with
  | none => rfl
  | some β => cases sa ρ <;> rfl
end
@[simp] theorem frz1_obj (o : ObjSt) : frz1 (.obj o) = .obj o := rfl
end RT
/-! A caught exception asked for its class; a head that looks at more. -/
namespace RT
open PySem PySem.Spec PyProof.Rows L2
theorem vals_refs : ∀ {ds : List Addr} {us : List Value}, Vals (ds.map V.ref) us → us = ds.map Value.ref
  | [], us, h => by cases h; rfl
  | d :: ds, us, h => by
    cases h with
    | cons r rs =>
      cases r
      rw [vals_refs rs]
      rfl
/-- isinstance(e, (C1, C2, ..)), e the exception that the suite holds -/
def rIsET (K : PySem.W.Frag) (D a : Addr) : List V → Hp → VK → Prop := fun xs H Q => ∃ (tp : Addr) (ds : List Addr) (b : Bool), xs = [.ref a, .ref tp] ∧ H tp = some (.tup (ds.map V.ref)) ∧ PySem.W.kitAny K (.ref D) (ds.map Value.ref) = some b ∧ Q (.bl b) H
theorem call_isET {X : Cx} {a D : Addr} {oe : Obj} {pn : List (Addr × Obj)} (C : ExcC X.K D) (hz : Zc (.ref D) none oe) (hf : ∃ vs, oe.data = .fields vs) : CallR (X.suite a ((a, oe) :: pn)) (.builtin "isinstance") (rIsET X.K D a) := fun pins s σ H xs us Q I r h => by
  obtain ⟨tp, ds, b, rfl, hT, e, q⟩ := h
  cases r with
  | cons rx rr =>
  cases rr with
  | cons rt rr =>
  cases rr
  cases rx
  cases rt
  obtain ⟨_, its, rv, o, k1, k2, n, k3⟩ := (show ObjOk X.prog X.w H s.heap tp (.tup (ds.map V.ref)) from I.hok tp _ hT)
  have ei := vals_refs rv
  subst ei
  obtain ⟨oc, od, dt, sl⟩ := o
  simp only at k2 k3
  subst k2 k3
  obtain ⟨hget, _⟩ := I.pin (a, oe) (List.mem_append.mpr (.inl List.mem_cons_self))
  obtain ⟨vs, hv⟩ := hf
  have J : PySem.W.InstAt s.heap a oe D none := by
    obtain ⟨oc2, od2, oda, osl⟩ := oe
    obtain ⟨h1, h2⟩ := hz
    dsimp only at h1 h2 hv
    subst h1 h2 hv
    exact ⟨hget, rfl, rfl, trivial⟩
  exact PySem.W.kia_tup (PySem.W.handS_kitx_exc C.hg C.hk C.hs C.hd C.ha C.hn C.ht C.hm) I.kIn J k1 e (fun z => nomatch z) fun tk => ⟨.bl b, H, I.kept (t' := tk) fun _ _ z => z, rfl, q⟩
/-- the facts of a class, looked at once -/
def excB (K : PySem.W.Frag) (D : Addr) : Bool := decide (PySem.W.findIn K (.ref D) "__getattribute__" = some (some (.builtin "BaseException.__getattribute__"))) && (decide (PySem.W.findIn K (.ref D) "__getattr__" = some none) && (decide (PySem.W.subIn K (.ref D) (.type "BaseException") = some true) &&
  (PySem.W.hasDictIn K D && (decide (PySem.W.findIn K (.ref D) "__class__" = some (some (.builtin "object.__class__"))) && (decide (PySem.W.specialIn K (.builtin "object.__class__") "__get__" = some (some (.builtin "getset_descriptor.__get__"))) && (decide (PySem.W.takesIn K (.builtin "object.__class__") = some true) && decide (PySem.W.mroIn K D (.type "object") = some true)))))))
theorem excB_ok {K : PySem.W.Frag} {D : Addr} (h : excB K D = true) : ExcC K D := by
  unfold excB at h
  simp only [Bool.and_eq_true, decide_eq_true_eq] at h
  obtain ⟨h1, h2, h3, h4, h5, h6, h7, h8⟩ := h
  exact ⟨h1, h2, h3, h4, h5, h6, h7, h8⟩
def kitB1 (K : PySem.W.Frag) (D : Addr) (c : Value) (b : Bool) : Bool := decide (PySem.W.kitOne K (.ref D) c = some b)
def kitBs (K : PySem.W.Frag) (D : Addr) (cs : List Value) (b : Bool) : Bool := decide (PySem.W.kitAny K (.ref D) cs = some b)
/-- a head's look at facts, defs, and one more thing -/
def hookP (n : Nat) (fa : List He.Fa) (fn : List He.DefD) (ex : PySem.W.Frag → Bool) : PySem.W.Hook where
  α := He.AlD × Bool
  obs := fun s => (He.obsDG n fa fn s.heap.get?, ex (He.frG s.heap.get? (He.asD s.heap.get? n)))
  val := fun _ => (He.valD fn, true)
  says := fun _ h => ∃ K : PySem.W.Frag, K.In h ∧ He.SaysD fa fn K ∧ ex K = true
  of := fun _ _ e => ⟨_, He.frG_in, congrArg Prod.fst e, congrArg Prod.snd e⟩
  keeps := fun _ _ _ h k => by
    obtain ⟨K, hK, c⟩ := h
    exact ⟨K, PySem.W.Frag.In.keeps hK k, c⟩
def obsP (n : Nat) (fa : List He.Fa) (fn : List He.DefD) (ex : PySem.W.Frag → Bool) (g : Addr → Option Obj) : He.AlD × Bool := (He.obsDG n fa fn g, ex (He.frG g (He.asD g n)))
theorem obsP_eq {n : Nat} {fa : List He.Fa} {fn : List He.DefD} {ex : PySem.W.Frag → Bool} {g : Addr → Option Obj} {s : Shared} (h : ∀ a, g a = s.heap.get? a) : obsP n fa fn ex g = (hookP n fa fn ex).obs s := by
  cases (funext h : g = s.heap.get?)
  rfl
end RT
/-! A walk along a locked dict's keys. -/
namespace RT
open PySem PySem.Spec PyProof.Rows L2
theorem for_keys {d : Addr} {o : Obj} {kvs : List (Key × V)} {g : TG} {tb : TS} {D : Ends} {σ : L2.St} {H : Hp} (Pv : Nat → L2.St → Hp → Prop) (h0 : Pv 0 σ H) (hl : ∀ i σ H, i ≤ kvs.length → Pv i σ H → H d = some (.frz o (.dK kvs)))
    (hs : ∀ i k v σ H, kvs[i]? = some (k, v) → Pv i σ H → g (kV k) σ H fun σ2 H2 => tb { D with nx := Pv (i + 1), ct := Pv (i + 1), bk := D.nx } σ2 H2) (hd : ∀ σ H, Pv kvs.length σ H → D.nx σ H) :
    ∃ W : Nat → Nat → L2.St → Hp → Prop, (∃ m, W 0 m σ H) ∧ ∀ i m σ H, W i m σ H →
      ((Itk d o kvs).stop i H ∧ D.nx σ H) ∨ ((Itk d o kvs).go i H ∧ ∃ N : L2.St → Hp → Prop, (∀ σ' H', N σ' H' → ∃ m', m' < m ∧ W (i + 1) m' σ' H') ∧ ∀ x H', (Itk d o kvs).yld i H x H' → g x σ H' fun σ2 H2 => tb { D with nx := N, ct := N, bk := D.nx } σ2 H2) := by
  refine ⟨fun i m σ H => m = kvs.length - i ∧ i ≤ kvs.length ∧ Pv i σ H, ⟨_, rfl, Nat.zero_le _, h0⟩, fun i m σ H w => ?_⟩
  obtain ⟨rfl, hi, p⟩ := w
  have hk := hl i σ H hi p
  rcases Nat.lt_or_ge i kvs.length with lt | ge
  · refine .inr ⟨⟨hk, lt⟩, Pv (i + 1), fun σ' H' q => ⟨kvs.length - (i + 1), by omega, rfl, lt, q⟩, fun x H' y => ?_⟩
    obtain ⟨rfl, k, v, e, rfl⟩ := y
    exact hs i k v σ H' e p
  · have e : i = kvs.length := Nat.le_antisymm hi ge
    subst e
    exact .inl ⟨⟨hk, Nat.le_refl _⟩, hd σ H p⟩
end RT
/-! Functions that hand back a new book. -/
namespace RT
open PySem PySem.Spec PyProof.Rows L2
section
variable {S : Type}
def spNew (K : PySem.W.Frag) (kd : Kd S) (Ff : List PyData → Option S) : Sp := fun vs H Q _ => ∃ (G : Hp) (ds : List PyData) (β : S), Same G H ∧ RpAll K G vs ds ∧ Ff ds = some β ∧
  ∀ a H' G' R', Grow H G H' G' → Same R' H' → Apart R' G' → (∀ x, R' x ≠ none → H x = none) → ObjAt K G' R' a (kd.inj β) → Q (.ref a) H'
def sRetO (i : Nat) : SS := fun ρ => match ρ[i]? with
  | some (.obj _) => .ro i ρ
  | _ => .no
def runNew (kd : Kd S) (N : List Str) (n : Nat) (b : SS) : List PyData → Option S := fun ds => if ds.length = n then (match b (rho0 N ds) with
  | .ro i ρ => slO kd ρ[i]?
  | _ => none) else none
def sSetB (i : Nat) (kd : Kd S) (Ff : List PyData → Option S) (sa : SA) : SS := fun ρ => match (sa ρ).bind Ff with
  | some β => .nx (ρ.set i (.obj (kd.inj β)))
  | none => .no
theorem retO_ok {K : PySem.W.Frag} {B : Bs} {W : XW} (i : Nat) : SSOk K B W (tRet (tVar i)) (sRetO i) := fun Z R F H σ ρ D s hg => by
  unfold sRetO at hg
  split at hg
  · rename_i o e
    obtain ⟨a, h1, _⟩ := s.env.obj i _ e
    exact ⟨.ref a, h1, hg (.ref a) σ H R F s h1 (Same.refl F)⟩
  · exact hg.elim
theorem sp_bodyN {kd : Kd S} {K : PySem.W.Frag} {N : List Str} {n : Nat} {b : SS} {t : TS} {vs : List V} {H : Hp} {Q : VK} {E : XK} (k : SSOk K noB W0 t b) (h : spNew K kd (runNew kd N n b) vs H Q E) : t { nx := fun _ H' => Q .non H', rt := Q } (start N vs) H := by
  obtain ⟨G, ds, β, e, hR, hF, hQ⟩ := h
  refine k ⟨noH, H, G⟩ noR G H _ _ _ (start_ok bsOk_no e hR) ?_
  unfold runNew at hF
  split at hF
  · cases hb : b (rho0 N ds) with
    | no => rw [hb] at hF; cases hF
    | nx r => rw [hb] at hF; cases hF
    | rt d r => rw [hb] at hF; cases hF
    | ex c r => rw [hb] at hF; cases hF
    | ro i r =>
      rw [hb] at hF
      have ho := slO_ok (show slO kd r[i]? = some β from hF)
      exact fun v σ H' R' F' s hv _ => by
        obtain ⟨a, h1, h2⟩ := s.env.obj i _ ho
        rw [h1] at hv
        cases hv
        exact hQ a H' F' (R' i) s.gr.pure (s.env.rh i) (s.env.rF i) (fun x hx => (s.fo i x hx).elim (fun z => absurd rfl z) id) h2
  · cases hF
theorem setB_ok {kd : Kd S} {K : PySem.W.Frag} {B : Bs} {W : XW} {ta : TA} {sa : SA} {Ff : List PyData → Option S} (i : Nat) (hB : B.o = none) (ha : AOk K B ta sa) : SSOk K B W (tAsg (tCall (spNew K kd Ff) [] E0 ta) (gName i)) (sSetB i kd Ff sa) := fun Z R F H σ ρ D s hg => by
  unfold sSetB at hg
  cases e1 : sa ρ with
  | none => rw [e1] at hg; exact hg.elim
  | some ds =>
    rw [e1, Option.bind_some] at hg
    cases e2 : Ff ds with
    | none => rw [e2] at hg; exact hg.elim
    | some β =>
      simp only [e2] at hg
      refine ha _ F H σ ρ ds s.env e1 _ fun vs H1 G1 g1 r1 => ?_
      show spNew K kd Ff (vs ++ []) H1 _ E0
      rw [List.append_nil]
      exact ⟨G1, ds, β, g1.sub, r1, e2, fun a H' G' R' g rh rF rn bA => hg _ H' _ G' ((s.grow g1).newO (fun _ => hB) g rh rF rn bA) (g1.f.trans g.f)⟩
/-- a function that hands back a new object -/
structure PFN (P : Program) (w : World) (K : PySem.W.Frag) (mg : Str → Option Value) (base : Heap) (k : Nat) (kd : Kd S) (x : Str) (Ff : List PyData → Option S) : Prop where
  ex : ∃ (f : Addr) (fd : FuncData) (ps : List Str), FnOk P w K mg base CX0 k f fd ps (spNew K kd Ff) ∧ mg x = some (.ref f) ∧ PySem.W.keepIn K (.ref f) = true ∧ Binds K fd ps []
end
section
variable {S : Type} {kd : Kd S} {X : Cx} {K : PySem.W.Frag} {B : Bs} {W : XW} {e : Expr} {es : List Expr} {ta : TA} {sa : SA} {x y : Str} {p p2 pos pos2 : Pos} {k j : Nat} {Ff : List PyData → Option S}
theorem s_retO (i : Nat) (hp : PE X e (tVar i)) : SemS X K B W (.Return (some e) pos) (tRet (tVar i)) (sRetO i) := ⟨ps_ret hp, retO_ok i⟩
theorem s_setB (i : Nat) (C : PFN X.prog X.w K X.mg X.base k kd x Ff) (hr : Room j X.A) (hB : B.o = none) (hN : X.N.Nodup) (ha : SemA X K B (e :: es) ta sa) (hi : X.N[i]? = some y := by rfl) (hk : k ≤ j := by decide) (hx : Loc X.env.scope y := by first | exact Or.inl rfl | exact Or.inr rfl)
    (hs : swapsWith (.Call (.Name x p) (e :: es) [] pos) (some (.Name y p2)) pos2.line X.env = pure false := by rfl) (hf : X.fn y = true ∨ X.env.scope.names.lookup y = some .local := by first | exact .inl rfl | exact .inr rfl)
    (hg : Gl X x := by rfl) (hdb : (x == ("__debug__" : Str)) = false := by decide) (he : starEach (e :: es) X.env = (false, eval e X.env) :: starEach es X.env := by rfl) (hpl : (backTo pos (starEach es X.env)).any (·.1) = false := by rfl) (hK : X.K = K := by rfl) :
    SemS X K B W (.Assign [.Name y p2] (.Call (.Name x p) (e :: es) [] pos) pos2) (tAsg (tCall (spNew K kd Ff) [] E0 ta) (gName i)) (sSetB i kd Ff sa) := by
  subst hK
  obtain ⟨f, fd, ps, h1, h2, h3, h4⟩ := C.ex
  exact ⟨ps_set hN hi hx (pe_call h1 (hr.mono hk) hg h2 h3 h4 .nil pass0 ha.pa hdb he hpl) hs hf, setB_ok i hB ha.ok⟩
end
/-- the object handed in, nothing read -/
abbrev oB (a : Addr) : Bs := ⟨fun _ => none, fun _ => none, fun _ => none, some a⟩
/-- a changing function: its derivation, whatever object is handed in (its reading must not name it) -/
theorem sp_runM {S : Type} {kd : Kd S} {X : Cx} {K : PySem.W.Frag} {N : List Str} {n : Nat} {st : List Stmt} {b : SS} {t : TS} {vs : List V} {H : Hp} {Q : VK} {E : XK} (hN : 0 < N.length)
    (k : ∀ a, SemSs X.nox K (oB a) W0 st t b) (h : spMG K kd (runMG kd N n b) vs H Q E) : ∃ t, PSs X st t ∧ t { nx := fun _ H' => Q .non H', rt := Q } (start N vs) H :=
  ⟨t, (k 0).ps.nox, sp_bodyM hN (fun a => (k a).ok) h⟩
theorem sp_runMB {X : Cx} {K : PySem.W.Frag} {N : List Str} {n : Nat} {st : List Stmt} {b : (Addr → Option ObjSt) → SS} {t : TS} {vs : List V} {H : Hp} {Q : VK} {E : XK} (hN : 0 < N.length)
    (k : ∀ B : Bs, SemSs X.nox K B W0 st t (b B.bk)) (h : spMB K (runMB N n b) vs H Q E) : ∃ t, PSs X st t ∧ t { nx := fun _ H' => Q .non H', rt := Q } (start N vs) H :=
  ⟨t, (k noB).ps.nox, sp_bodyMB hN (fun B => (k B).ok) h⟩
theorem sp_runN {S : Type} {kd : Kd S} {X : Cx} {K : PySem.W.Frag} {N : List Str} {n : Nat} {st : List Stmt} {b : SS} {t : TS} {vs : List V} {H : Hp} {Q : VK} {E : XK}
    (k : SemSs X.nox K noB W0 st t b) (h : spNew K kd (runNew kd N n b) vs H Q E) : ∃ t, PSs X st t ∧ t { nx := fun _ H' => Q .non H', rt := Q } (start N vs) H := ⟨t, k.ps.nox, sp_bodyN k.ok h⟩
theorem runO_len {N : List Str} {n : Nat} {b : SS} {o : ObjSt} {ds : List PyData} {A : ObjSt → PyData → Prop} {C : Str → Prop} (q : (runO N n b o ds).goes A C) : ds.length + 1 = n := by
  unfold runO at q
  split at q
  · assumption
  · exact (show False from q).elim
theorem runM_len {S : Type} {kd : Kd S} {N : List Str} {n : Nat} {b : SS} {β : S} {ds : List PyData} {A : S → PyData → Prop} {C : Str → Prop} (q : (runMG kd N n b β ds).goes A C) : ds.length + 1 = n := by
  unfold runMG runO at q
  split at q
  · assumption
  · exact (show False from q).elim
theorem runNew_len {S : Type} {kd : Kd S} {N : List Str} {n : Nat} {b : SS} {ds : List PyData} {β : S} (q : runNew kd N n b ds = some β) : ds.length = n := by
  unfold runNew at q
  split at q
  · assumption
  · cases q
theorem spR_len {S : Type} {kd : Kd S} {K : PySem.W.Frag} {N : List Str} {n : Nat} {b : (Addr → Option ObjSt) → SS} {Fr : S → List PyData → Res} {vs : List V} {H : Hp} {Q : VK} {E : XK}
    (hF : ∀ a β ds, match Fr β ds with
      | .ret d => runF N n (b (only a (kd.inj β))) (refD a :: ds) = some d
      | .exc _ => False
      | .no => True) (h : spRG K kd Fr vs H Q E) : vs.length = n := by
  obtain ⟨G, R, a, β, us, ds, rfl, h1, h2, h3, h4, h5, q⟩ := h
  have hf := hF a β ds
  cases e : Fr β ds with
  | no => rw [e] at q; exact (show False from q).elim
  | exc c => rw [e] at hf; exact hf.elim
  | ret d =>
    rw [e] at hf
    have hf' : runF N n (b (only a (kd.inj β))) (refD a :: ds) = some d := hf
    unfold runF at hf'
    split at hf'
    · rename_i hl
      rw [List.length_cons, h5.len]
      simpa using hl
    · cases hf'
end RT
/-! Own lists emptied, drawn out; lists of own lists; slices with a step. -/
namespace RT
open PySem PySem.Spec PyProof.Rows L2
def sClr (i : Nat) : SS := fun ρ => match ρ[i]? with
  | some (.own _) => .nx (ρ.set i (.own []))
  | _ => .no
def sExt (i : Nat) (f : SE) : SS := fun ρ => match ρ[i]?, f ρ with
  | some (.own ds), some (.list es) => if ds.length + es.length ≤ LIM then .nx (ρ.set i (.own (ds ++ es))) else .no
  | _, _ => .no
def sIns (i : Nat) (ix f : SE) : SS := fun ρ => match ρ[i]?, ix ρ, f ρ with
  | some (.own ds), some (.int k), some d => if dataD d = true ∧ ds.length ≤ LIM ∧ 0 ≤ k ∧ k ≤ LIM then .nx (ρ.set i (.own (ds.take k.toNat ++ [d] ++ ds.drop k.toNat))) else .no
  | _, _, _ => .no
def sPop0 (i j : Nat) : SS := fun ρ => match ρ[i]? with
  | some (.own (d :: ds)) => .nx ((ρ.set i (.own ds)).set j (.val d))
  | _ => .no
section
variable {X : Cx} {K : PySem.W.Frag} {B : Bs} {W : XW} {te tix : TE} {f ix : SE} {i j : Nat}
theorem lim_sz {n : Nat} (h : n ≤ LIM) : n ≤ sizeLine := Nat.le_trans h (by decide)
theorem clr_okS (i : Nat) : SSOk K B W (tDrop (tBM0 K "list" rClear (tVar i))) (sClr i) := fun Z R F H σ ρ D s hg => by
  unfold sClr at hg
  split at hg
  · rename_i ds h1
    obtain ⟨p, vs, e1, e2, e3, e4, _⟩ := s.env.own i ds h1
    exact ⟨.ref p, e1, .inl ⟨rfl, vs, .inl (.inl e2)⟩, p, vs, rfl, rfl, e2, hg _ _ R F (s.upd i h1 e1 .nil) (Same.refl F)⟩
  · exact hg.elim
theorem ext_okS (i : Nat) (k : BOk K B te f) : SSOk K B W (tDrop (tBM K "list" rExtend (tVar i) (tCons te tNil))) (sExt i f) := fun Z R F H σ ρ D s hg => by
  unfold sExt at hg
  split at hg
  · rename_i ds es h1 h2
    split at hg
    · rename_i hc
      obtain ⟨p, vs, e1, e2, e3, e4, _⟩ := s.env.own i ds h1
      refine ⟨.ref p, e1, .inl ⟨rfl, vs, .inl (.inl e2)⟩, ?_⟩
      refine k _ F H σ ρ _ s.env h2 _ fun v H' G g b => ?_
      obtain ⟨q, us, rfl, hq, hA⟩ := b.list g.sub
      refine ⟨p, q, vs, us, rfl, rfl, g.h _ _ e2, hq, ?_, ?_⟩
      · rw [e3.len, hA.len]; exact lim_sz hc
      · exact hg _ _ R G ((s.grow g).upd i h1 e1 ((dpa_mono g.f ds e3).append hA)) g.f
    · exact hg.elim
  · exact hg.elim
theorem ins_okS (i : Nat) (kx : EOk K B tix ix) (k : EOk K B te f) : SSOk K B W (tDrop (tBM K "list" (fun x vs H Q => ∃ (l : Addr) (xs : List V) (i : Int) (y : V), x = .ref l ∧ vs = [.int i, y] ∧ H l = some (.lst xs) ∧ xs.length < sizeLine ∧ 0 ≤ i ∧ i < 2 ^ 63 ∧ Q .non (upd H l (.lst (xs.take i.toNat ++ [y] ++ xs.drop i.toNat)))) (tVar i) (tCons tix (tCons te tNil)))) (sIns i ix f) := fun Z R F H σ ρ D s hg => by
  unfold sIns at hg
  split at hg
  · rename_i ds kk d h1 h2 h3
    split at hg
    · rename_i hc
      obtain ⟨p, vs, e1, e2, e3, e4, _⟩ := s.env.own i ds h1
      refine ⟨.ref p, e1, .inl ⟨rfl, vs, .inl (.inl e2)⟩, ?_⟩
      refine kx _ F H σ ρ _ s.env h2 _ fun u H1 G1 g1 r1 => ?_
      refine k _ G1 H1 σ ρ _ (s.env.grow g1) h3 _ fun v H2 G2 g2 r2 => ?_
      have eu := Bp.int (H := G1) (.inl r1)
      subst eu
      have g := g1.trans g2
      refine ⟨p, vs, kk, v, rfl, rfl, g.h _ _ e2, ?_, hc.2.2.1, ?_, ?_⟩
      · rw [e3.len]; exact Nat.lt_of_lt_of_le (show ds.length < LIM + 1 by omega) (by decide)
      · exact Int.lt_of_le_of_lt hc.2.2.2 (by decide)
      · have hA := dpa_mono g.f ds e3
        exact hg _ _ R G2 ((s.grow g).upd i h1 e1 (((hA.take _).append (.cons (r2.dp (by rintro l rfl; cases hc.1)) .nil)).append (hA.drop _))) g.f
    · exact hg.elim
  · exact hg.elim
theorem StOk.set2 {Z : St0} {R : Rg} {F H : Hp} {σ : L2.St} {ρ : Rho} {v : V} {d : PyData} (s : StOk K B Z R F H σ ρ) (j : Nat) (r : Rp K F v d) : StOk K B Z R F H (σ.set j (some v)) (ρ.set j (.val d)) := s.setV j r
theorem pop0_okS (i j : Nat) : SSOk K B W (tAsg (tBM K "list" rPopAt (tVar i) (tCons (tC (.int 0)) tNil)) (gName j)) (sPop0 i j) := fun Z R F H σ ρ D s hg => by
  unfold sPop0 at hg
  split at hg
  · rename_i d ds h1
    obtain ⟨p, vs, e1, e2, e3, e4, _⟩ := s.env.own i _ h1
    cases e3 with
    | @cons v vs _ _ hd htl =>
      refine ⟨.ref p, e1, .inl ⟨rfl, _, .inl (.inl e2)⟩, p, _, 0, 0, v, rfl, rfl, e2, by decide, by decide, ?_, rfl, ?_⟩
      · unfold seqIndex?
        simp
      · exact hg _ _ R F ((s.upd i h1 e1 htl).set2 j (.inl hd)) (Same.refl F)
  · exact hg.elim
end
@[simp] theorem sClr_eq (i : Nat) (ρ : Rho) : sClr i ρ = outL (ownL ρ[i]?) fun _ => .nx (ρ.set i (.own [])) := by
  unfold sClr
  cases ρ[i]? with
  | none => rfl
  | some s => cases s <;> rfl
@[simp] theorem sPop0_own (i j : Nat) (ρ : Rho) (d : PyData) (ds : List PyData) (h : ρ[i]? = some (.own (d :: ds))) : sPop0 i j ρ = .nx ((ρ.set i (.own ds)).set j (.val d)) := by
  unfold sPop0; rw [h]
def lisD : PyData → Option (List PyData)
  | .list ds => some ds
  | _ => none
@[simp] theorem lisD_list (ds : List PyData) : lisD (.list ds) = some ds := rfl
@[simp] theorem sExt_eq (i : Nat) (f : SE) (ρ : Rho) : sExt i f ρ = outL (ownL ρ[i]?) fun ds => outL ((f ρ).bind lisD) fun es => if ds.length + es.length ≤ LIM then .nx (ρ.set i (.own (ds ++ es))) else .no := by
  unfold sExt
  cases ρ[i]? with
  | none => rfl
  | some s =>
    cases s with
    | own ds =>
      cases f ρ with
      | none => rfl
      | some d => cases d <;> rfl
    | _ => rfl
theorem sIns_own (i : Nat) (ix f : SE) (ρ : Rho) (ds : List PyData) (k : Int) (d : PyData) (h1 : ρ[i]? = some (.own ds)) (h2 : ix ρ = some (.int k)) (h3 : f ρ = some d) (hd : dataD d = true) (hl : ds.length ≤ LIM) (h0 : 0 ≤ k) (hk : k ≤ LIM) :
    sIns i ix f ρ = .nx (ρ.set i (.own (ds.take k.toNat ++ [d] ++ ds.drop k.toNat))) := by
  unfold sIns
  rw [h1, h2, h3]
  simp [hd, hl, h0, hk]
/-! ### lists of own lists -/
def cellD : Cell → PyData
  | .dat d => d
  | .lst ds => .list ds
def eRow (i : Nat) (fa : SE) : SE := fun ρ => (slO kW ρ[i]?).bind fun cs => match fa ρ with
  | some (.int k) => (atI cs k).map cellD
  | _ => none
def eRowLen (i : Nat) : SE := fun ρ => (slO kW ρ[i]?).map fun cs => .int (cs.length : Nat)
theorem atI_some {α β : Type} {l : List α} {m : List β} {i : Int} {x : α} (hl : l.length = m.length) (h : atI l i = some x) : ∃ (j : Nat) (y : β), l[j]? = some x ∧ m[j]? = some y ∧ atI m i = some y := by
  unfold atI at h ⊢
  cases e : ixN l.length i with
  | none => rw [e] at h; cases h
  | some j =>
    rw [e, Option.bind_some] at h
    have hj : j < m.length := by
      have := (List.getElem?_eq_some_iff.mp h).1
      omega
    rw [← hl, e, Option.bind_some]
    exact ⟨j, m[j], h, List.getElem?_eq_getElem hj, List.getElem?_eq_getElem hj⟩
section
variable {X : Cx} {K : PySem.W.Frag} {B : Bs} {W : XW} {ta tb te : TE} {fa fb fe : SE} {i j : Nat}
theorem row_okB (i : Nat) (ka : BOk K B ta fa) : BOk K B (tOp (rIx K) (tVar i) ta) (eRow i fa) := fun R F H σ ρ d E q Q k => by
  unfold eRow at q
  cases ho : slO kW ρ[i]? with
  | none => rw [ho] at q; cases q
  | some cs =>
    rw [ho, Option.bind_some] at q
    split at q
    · rename_i kk hk
      obtain ⟨a, h1, vs, hr⟩ := E.obj i _ (slO_ok ho)
      refine ⟨.ref a, h1, ?_⟩
      refine ka _ F H σ ρ _ E hk _ fun u H1 G1 g1 b1 => ?_
      have eu := b1.int
      subst eu
      cases hc : atI cs kk with
      | none => rw [hc] at q; cases q
      | some c =>
        rw [hc] at q
        cases q
        obtain ⟨m, v, x1, x2, x3⟩ := atI_some hr.len.symm hc
        refine .inl ⟨a, vs, kk, v, rfl, rfl, .inl (.inl (g1.h _ _ (E.rh i _ _ hr.ob))), x3, k v H1 G1 g1 ?_⟩
        have hel := hr.el m v c x2 x1
        cases hel with
        | dat hd => exact .inl (.inl (dp_mono g1.f _ hd))
        | lst n1 n2 n3 => exact .inr ⟨_, _, _, rfl, rfl, g1.h _ _ (E.rh i _ _ n2), dpa_mono g1.f _ n3⟩
    · cases q
theorem rowLen_ok (i : Nat) : EOk K B (tCB (rLenA K) (tCons (tVar i) tNil)) (eRowLen i) := fun R F H σ ρ d E q Q k => by
  unfold eRowLen at q
  cases ho : slO kW ρ[i]? with
  | none => rw [ho] at q; cases q
  | some cs =>
    rw [ho] at q
    cases q
    obtain ⟨a, h1, vs, hr⟩ := E.obj i _ (slO_ok ho)
    exact ⟨.ref a, h1, .ref a, cs.length, rfl, .inl ⟨vs, .inl (.inl (E.rh i _ _ hr.ob)), hr.len.symm⟩, k _ H F (Grow.refl E.ex) (rp_int _)⟩
/-- o[k], k from nought, of a list -/
def rIxP (K : PySem.W.Frag) : V → V → Hp → VK → Prop := fun x y H Q => ∃ p xs i v, x = .ref p ∧ y = .int i ∧ SqL K H p xs ∧ 0 ≤ i ∧ xs[i.toNat]? = some v ∧ Q v H
theorem get_listP : PGet X (rIxP X.K) := by
  intro pins s σ H x y v u Q I rx ry h
  obtain ⟨p, xs, i, z, rfl, rfl, hq, h0, he, q⟩ := h
  cases rx
  obtain ⟨t, rfl⟩ := ry
  obtain ⟨its, r, pl, hz⟩ := I.list hq
  obtain ⟨w, ew, rw'⟩ := r.get he
  have hl := r.length
  have hn := line63
  have hj := (List.getElem?_eq_some_iff.mp he).1
  exact wpAny_getItem_list (Q := EP X pins σ Q) pl.isList h0 (by omega) (by simpa using ew) ⟨z, H, I, rw', q⟩
def augRow (cs : List Cell) (a b e : Int) : Option (List Cell) := match cs[a.toNat]? with
  | some (.lst ds) => (match ds[b.toNat]? with
    | some (.int x) => if 0 ≤ a ∧ 0 ≤ b then some (cs.set a.toNat (.lst (ds.set b.toNat (.int (x + e))))) else none
    | _ => none)
  | _ => none
/-- x[a][b] += e -/
def sAugRow (i : Nat) (fa fb fe : SE) : SS := fun ρ => match slO kW ρ[i]?, fa ρ, fb ρ, fe ρ with
  | some cs, some (.int a), some (.int b), some (.int e) => (match augRow cs a b e with
    | some cs' => .nx (ρ.set i (.obj (.row cs')))
    | none => .no)
  | _, _, _, _ => .no
theorem augRow_okS (i : Nat) (ka : EOk K B ta fa) (kb : EOk K B tb fb) (ke : EOk K B te fe) : SSOk K B W (tAugS (tOp (rIx K) (tVar i) ta) tb te (rIxP K) (ipI fun i j => i + j) rSetL) (sAugRow i fa fb fe) := fun Z R F H σ ρ D s hg => by
  unfold sAugRow at hg
  split at hg
  · rename_i cs a b e h1 h2 h3 h4
    split at hg
    · rename_i cs' hc
      unfold augRow at hc
      split at hc
      · rename_i ds hds
        split at hc
        · rename_i x hx
          split at hc
          · rename_i hab
            cases hc
            obtain ⟨r, o1, vs, hr⟩ := s.env.obj i _ (slO_ok h1)
            have hlt := (List.getElem?_eq_some_iff.mp hds).1
            have hvl : a.toNat < vs.length := by rw [hr.len]; exact hlt
            obtain ⟨v, hv⟩ : ∃ v, vs[a.toNat]? = some v := ⟨vs[a.toNat], List.getElem?_eq_getElem hvl⟩
            have hel := hr.el _ v _ hv hds
            cases hel with
            | @lst p us _ n1 n2 n3 =>
            refine ⟨.ref r, o1, ?_⟩
            refine ka _ F H σ ρ _ s.env h2 _ fun u H1 G1 g1 r1 => ?_
            have eu := Bp.int (H := G1) (.inl r1)
            subst eu
            refine .inl ⟨r, vs, a, .ref p, rfl, rfl, .inl (.inl (g1.h _ _ (s.env.rh i _ _ hr.ob))), ?_, ?_⟩
            · rw [atI_pos _ _ hab.1]; exact hv
            refine kb _ G1 H1 σ ρ _ (s.env.grow g1) h3 _ fun u H2 G2 g2 r2 => ?_
            have eu := Bp.int (H := G2) (.inl r2)
            subst eu
            have g12 := g1.trans g2
            obtain ⟨z, hz, hzr⟩ := n3.get hx
            cases hzr
            refine ⟨p, us, b, _, rfl, rfl, .inl (.inl (g12.h _ _ (s.env.rh i _ _ n2))), hab.2, hz, ?_⟩
            refine ke _ G2 H2 σ ρ _ (s.env.grow g12) h4 _ fun u H3 G3 g3 r3 => ?_
            have eu := Bp.int (H := G3) (.inl r3)
            subst eu
            refine ⟨x, e, rfl, rfl, ?_⟩
            have g := g12.trans g3
            have hbl := (List.getElem?_eq_some_iff.mp hz).1
            refine ⟨p, us, b, b.toNat, rfl, rfl, g.h _ _ (s.env.rh i _ _ n2), ?_, ?_⟩
            · unfold ixN
              rw [if_pos hab.2, if_pos (by omega)]
            have s' := s.grow g
            have np : ∀ {y : Addr} {o : HO}, R i y = none → H3 y = some o → y ≠ p := fun {y o} h _ hh => by rw [hh, n2] at h; cases h
            refine hg σ _ _ G3 (s'.mut (R' := upd (R i) p (.lst (us.set b.toNat (.int (x + e))))) o1 ⟨fun y o h1 h2 => ?_, fun y hy => ?_, Same.refl _, fun y o h => ?_, fun y h _ => h⟩ (fun y o h => ?_) (fun y hy => ?_) (fun y hy => .inl ?_) (fun hi a0 q => by subst hi; exact s.env.oa a0 q _ r (slO_ok h1) o1) ?_) g.f
            · rw [upd_ne (np h1 h2)]; exact h2
            · by_cases hyp : y = p
              · subst hyp; rw [upd_same]; intro z; cases z
              · rw [upd_ne hyp]; exact hy
            · have : y ≠ p := fun hh => by
                subst hh
                have := s'.env.rF i y (by rw [n2]; intro z; cases z)
                rw [this] at h; cases h
              rw [upd_ne this]; exact s'.env.ex _ _ h
            · by_cases hyp : y = p
              · subst hyp; rw [upd_same] at h ⊢; exact h
              · rw [upd_ne hyp] at h ⊢; exact s'.env.rh i _ _ h
            · refine s'.env.rF i y ?_
              by_cases hyp : y = p
              · subst hyp; rw [n2]; intro z; cases z
              · rw [upd_ne hyp] at hy; exact hy
            · by_cases hyp : y = p
              · subst hyp; rw [n2]; intro z; cases z
              · rw [upd_ne hyp] at hy; exact hy
            · refine ⟨vs, by rw [upd_ne (Ne.symm n1)]; exact hr.ob, by rw [List.length_set]; exact hr.len, fun m w c q1 q2 => ?_, fun m m2 pp ds2 es2 hmm q1 q2 q3 q4 => ?_⟩
              · by_cases hm : a.toNat = m
                · subst hm
                  rw [List.getElem?_set_self hlt] at q2
                  cases q2
                  rw [hv] at q1
                  cases q1
                  exact .lst n1 upd_same ((dpa_mono g.f _ n3).set (.int _) _)
                · rw [List.getElem?_set_ne hm] at q2
                  have hel2 := hr.el m w c q1 q2
                  cases hel2 with
                  | dat hd => exact .dat (dp_mono g.f _ hd)
                  | @lst p2 us2 ds2 m1 m2 m3 =>
                    refine .lst m1 ?_ (dpa_mono g.f _ m3)
                    rw [upd_ne]
                    · exact m2
                    · intro hh
                      subst hh
                      exact hr.dis _ _ _ _ _ hm hv hds q1 q2
              · have back : ∀ {m : Nat} {ds2 : List PyData}, (cs.set a.toNat (.lst (ds.set b.toNat (.int (x + e)))))[m]? = some (.lst ds2) → ∃ ds3, cs[m]? = some (.lst ds3) := fun {m ds2} q => by
                  by_cases hm : a.toNat = m
                  · subst hm; exact ⟨ds, hds⟩
                  · rw [List.getElem?_set_ne hm] at q; exact ⟨_, q⟩
                obtain ⟨d3, b1⟩ := back q2
                obtain ⟨d4, b2⟩ := back q4
                exact hr.dis m m2 pp d3 d4 hmm q1 b1 q3 b2
          · cases hc
        · cases hc
      · cases hc
    · exact hg.elim
  · exact hg.elim
/-- [[..] for x in ..]: a list of own lists -/
def rowsF (j : Nat) (el : SA) (ρ : Rho) : List PyData → Option (List Cell)
  | [] => some []
  | d :: ds => (el (ρ.set j (.val d))).bind fun e => (rowsF j el ρ ds).map (Cell.lst e :: ·)
def sMkRows (i : Nat) (src : SA) (j : Nat) (el : SA) : SS := fun ρ => match src ρ with
  | some ds => if ds.length ≤ LIM then (match rowsF j el ρ ds with
    | some cs => .nx (ρ.set i (.obj (.row cs)))
    | none => .no) else .no
  | none => .no
theorem mkRows_okS {wi : TI} {src el : SA} (hB : i = 0 → B.o = none) (hi : IBOk K B wi src) (he : LOk K B te el) : SSOk K B W (tAsg (tLc wi (gName j) tYes te [j]) (gName i)) (sMkRows i src j el) := fun Z R F H σ ρ D s hg => by
  unfold sMkRows at hg
  cases e0 : src ρ with
  | none => rw [e0] at hg; exact hg.elim
  | some ds =>
    simp only [e0] at hg
    split at hg
    · rename_i hlen
      cases eq : rowsF j el ρ ds with
      | none => rw [eq] at hg; exact hg.elim
      | some out =>
      rw [eq] at hg
      have E := s.env
      refine hi _ F H σ ρ ds E e0 _ fun J H1 G1 g1 w D' hD => ?_
      have E1 : EnvOk K B R G1 H1 σ ρ := E.grow g1
      have hG1 : G1 D' = none := g1.sub.free hD
      refine ⟨fun n m H' => m = ds.length - n ∧ n ≤ ds.length ∧ ∃ (G' : Hp) (acc : List V) (es rest : List Cell), Grow H1 G1 H' G' ∧ G' D' = none ∧ H' D' = some (.lst acc) ∧ acc.length = es.length ∧ es.length ≤ n ∧
          (∀ (k : Nat) (v : V) (c : Cell), acc[k]? = some v → es[k]? = some c → ∃ (p : Addr) (vs : List V) (xs : List PyData), v = .ref p ∧ c = .lst xs ∧ p ≠ D' ∧ H1 p = none ∧ G' p = none ∧ H' p = some (.lst vs) ∧ DqAll K G' vs xs) ∧
          (∀ (k l : Nat) (p : Addr), k ≠ l → acc[k]? = some (V.ref p) → acc[l]? = some (.ref p) → False) ∧ rowsF j el ρ (ds.drop n) = some rest ∧ out = es ++ rest,
        ⟨ds.length, by simp, Nat.zero_le _, G1, [], [], out, (Grow.refl g1.sub).beside hD, hG1, upd_same, rfl, Nat.le_refl _, fun k v c q => by simp at q, fun k l p _ q => by simp at q, eq, rfl⟩, ?_⟩
      rintro n m H' ⟨rfl, hile, G', acc, es, rest, g', hD', hacc, hal, hel, hA, hdis, hr, hout⟩
      have al : Same G1 G' ∧ Same G' H' ∧ Same H1 H' := ⟨g'.f, g'.sub, g'.h⟩
      by_cases hlt : n < ds.length
      · refine .inr ⟨w.go n G' H' al hlt, fun H2 => ∃ m', m' < ds.length - n ∧ (m' = ds.length - (n + 1) ∧ n + 1 ≤ ds.length ∧ ∃ (G' : Hp) (acc : List V) (es rest : List Cell), Grow H1 G1 H2 G' ∧ G' D' = none ∧ H2 D' = some (.lst acc) ∧ acc.length = es.length ∧ es.length ≤ n + 1 ∧
            (∀ (k : Nat) (v : V) (c : Cell), acc[k]? = some v → es[k]? = some c → ∃ (p : Addr) (vs : List V) (xs : List PyData), v = .ref p ∧ c = .lst xs ∧ p ≠ D' ∧ H1 p = none ∧ G' p = none ∧ H2 p = some (.lst vs) ∧ DqAll K G' vs xs) ∧
            (∀ (k l : Nat) (p : Addr), k ≠ l → acc[k]? = some (V.ref p) → acc[l]? = some (.ref p) → False) ∧ rowsF j el ρ (ds.drop (n + 1)) = some rest ∧ out = es ++ rest),
          fun H2 h => h, fun x H2 y => ?_⟩
        have hd : ds[n]? = some ds[n] := List.getElem?_eq_getElem hlt
        obtain ⟨G2, g2, r2⟩ := w.yld n G' H' x H2 _ al hd y
        rw [drop_cons_of hd] at hr
        have E2 : EnvOk K B R G2 H2 ((wipe σ [j]).set j (some x)) (ρ.set j (.val ds[n])) := by
          have z := (((E1.grow g').grow g2).setN j none).setV j r2
          have e : (ρ.set j .no).set j (.val ds[n]) = ρ.set j (.val ds[n]) := List.set_set ..
          rw [e] at z
          exact z
        refine ⟨wipe_back σ j (some x), ?_⟩
        show te _ H2 _
        cases ee : el (ρ.set j (.val ds[n])) with
        | none => simp [rowsF, ee] at hr
        | some e =>
          cases hrr : rowsF j el ρ (ds.drop (n + 1)) with
          | none => simp [rowsF, ee, hrr] at hr
          | some rest' =>
            have hr' : rest = .lst e :: rest' := by simpa [rowsF, ee, hrr] using hr.symm
            refine he _ G2 H2 _ _ e E2 ee _ fun p vs H4 G4 g4 p1 p2 p3 p4 => ?_
            have gg := (g'.trans g2).trans g4
            have gt := g2.trans g4
            have hD4 : H4 D' = some (.lst acc) := gt.h _ _ hacc
            have nD4 : G4 D' = none := gt.no D' hD' (by rw [hacc]; intro z; cases z)
            have pD : p ≠ D' := fun hh => by
              have := g2.h _ _ hacc
              rw [hh, this] at p1; cases p1
            refine ⟨acc, hD4, Nat.lt_of_lt_of_le (show acc.length < LIM + 1 by omega) (by decide), ds.length - (n + 1), by omega, rfl, hlt, G4, acc ++ [.ref p], es ++ [.lst e], rest', ⟨?_, gg.f, ?_, gg.no⟩, nD4, upd_same, by simp [hal], by simp; omega, ?_, ?_, rfl, by rw [hout, hr']; simp⟩
            · intro b o z
              rw [upd_ne (ne_of_none z hD)]
              exact gg.h b o z
            · intro b o z
              rw [upd_ne (ne_of_none z nD4)]
              exact gg.sub b o z
            · intro k v c q1 q2
              rcases Nat.lt_or_ge k acc.length with hk | hk
              · rw [List.getElem?_append_left hk] at q1
                rw [List.getElem?_append_left (by omega)] at q2
                obtain ⟨p', vs', xs', x1, x2, x3, x4, x5, x6, x7⟩ := hA k v c q1 q2
                refine ⟨p', vs', xs', x1, x2, x3, x4, gt.no p' x5 (by rw [x6]; intro z; cases z), ?_, dpa_mono gt.f _ x7⟩
                rw [upd_ne x3]
                exact gt.h _ _ x6
              · rw [List.getElem?_append_right hk] at q1
                rw [List.getElem?_append_right (by omega)] at q2
                have : k - acc.length = 0 := by
                  rcases Nat.eq_zero_or_pos (k - acc.length) with z | z
                  · exact z
                  · rw [List.getElem?_eq_none (by simp; omega)] at q1; cases q1
                have h2 : k - es.length = 0 := by omega
                rw [this] at q1
                rw [h2] at q2
                cases q1
                cases q2
                exact ⟨p, vs, e, rfl, rfl, pD, (g'.trans g2).h.free p1, p2, by rw [upd_ne pD]; exact p3, p4⟩
            · have old : ∀ k, acc[k]? = some (V.ref p) → False := fun k q => by
                have hk := (List.getElem?_eq_some_iff.mp q).1
                obtain ⟨c, hc⟩ : ∃ c, es[k]? = some c := ⟨es[k]'(by omega), List.getElem?_eq_getElem (by omega)⟩
                obtain ⟨p', vs', xs', x1, x2, x3, x4, x5, x6, x7⟩ := hA k _ c q hc
                cases x1
                have := g2.h _ _ x6
                rw [this] at p1; cases p1
              intro k l pp hkl q1 q2
              rcases Nat.lt_or_ge k acc.length with hk | hk
              · rw [List.getElem?_append_left hk] at q1
                rcases Nat.lt_or_ge l acc.length with hl | hl
                · rw [List.getElem?_append_left hl] at q2
                  exact hdis k l pp hkl q1 q2
                · rw [List.getElem?_append_right hl] at q2
                  rcases Nat.eq_zero_or_pos (l - acc.length) with z | z
                  · rw [z] at q2; cases q2; exact old k q1
                  · rw [List.getElem?_eq_none (by simp; omega)] at q2; cases q2
              · rw [List.getElem?_append_right hk] at q1
                rcases Nat.eq_zero_or_pos (k - acc.length) with z | z
                · rw [z] at q1
                  cases q1
                  rcases Nat.lt_or_ge l acc.length with hl | hl
                  · rw [List.getElem?_append_left hl] at q2
                    exact old l q2
                  · rw [List.getElem?_append_right hl] at q2
                    rcases Nat.eq_zero_or_pos (l - acc.length) with z2 | z2
                    · omega
                    · rw [List.getElem?_eq_none (by simp; omega)] at q2; cases q2
                · rw [List.getElem?_eq_none (by simp; omega)] at q1; cases q1
      · have e : n = ds.length := by omega
        subst e
        rw [List.drop_length] at hr
        cases hr
        rw [List.append_nil] at hout
        subst hout
        refine .inl ⟨w.stop G' H' al, ?_⟩
        -- the region: the list and its lists
        let S : Addr → Prop := fun y => y = D' ∨ V.ref y ∈ acc
        have mem : ∀ p, V.ref p ∈ acc → ∃ (k : Nat) (c : Cell) (vs : List V) (xs : List PyData), acc[k]? = some (.ref p) ∧ out[k]? = some c ∧ c = .lst xs ∧ p ≠ D' ∧ H1 p = none ∧ G' p = none ∧ H' p = some (.lst vs) ∧ DqAll K G' vs xs := fun p hp => by
          obtain ⟨k, hk⟩ := List.getElem?_of_mem hp
          have hkl := (List.getElem?_eq_some_iff.mp hk).1
          obtain ⟨c, hc⟩ : ∃ c, out[k]? = some c := ⟨out[k]'(by omega), List.getElem?_eq_getElem (by omega)⟩
          obtain ⟨p', vs', xs', x1, x2, x3, x4, x5, x6, x7⟩ := hA k _ c hk hc
          cases x1
          exact ⟨k, c, vs', xs', hk, hc, x2, x3, x4, x5, x6, x7⟩
        have hS : ∀ y, S y → H y = none ∧ G' y = none := fun y hy => by
          rcases hy with rfl | hy
          · exact ⟨g1.h.free hD, hD'⟩
          · obtain ⟨k, c, vs, xs, _, _, _, _, x4, x5, _⟩ := mem y hy
            exact ⟨g1.h.free x4, x5⟩
        have sub' : ∀ y o, (fun y => open Classical in if S y then H' y else none) y = some o → S y ∧ H' y = some o := fun y o h => by
          have h' : (open Classical in if S y then H' y else none) = some o := h
          split at h'
          · rename_i c; exact ⟨c, h'⟩
          · cases h'
        have inn : ∀ y o, S y → H' y = some o → (fun y => open Classical in if S y then H' y else none) y = some o := fun y o h1 h2 => by
          show (open Classical in if S y then H' y else none) = some o
          rw [if_pos h1]; exact h2
        refine hg _ H' _ G' (s.newO (R' := fun y => open Classical in if S y then H' y else none) hB (g1.trans g') (fun y o h => (sub' y o h).2) (fun y hy => ?_) (fun y hy => ?_) ?_) (g1.f.trans g'.f)
        · cases q : (fun y => open Classical in if S y then H' y else none) y with
          | none => exact absurd q hy
          | some o => exact (hS y (sub' y o q).1).2
        · cases q : (fun y => open Classical in if S y then H' y else none) y with
          | none => exact absurd q hy
          | some o => exact (hS y (sub' y o q).1).1
        · refine ⟨acc, inn _ _ (.inl rfl) hacc, hal, fun k v c q1 q2 => ?_, fun k l p ds2 es2 hkl q1 _ q3 _ => hdis k l p hkl q1 q3⟩
          obtain ⟨p', vs', xs', x1, x2, x3, x4, x5, x6, x7⟩ := hA k v c q1 q2
          subst x1 x2
          exact .lst x3 (inn _ _ (.inr (List.mem_of_getElem? q1)) x6) x7
    · exact hg.elim
end
end RT
/-! Slices with a step; words for what RV18 holds. -/
namespace RT
open PySem PySem.Spec PyProof.Rows L2
/-- xs[::k] -/
def pkIx (k : Int) (n : Nat) : List Nat := sliceRange (sliceBounds none none (some k) n).1 (sliceBounds none none (some k) n).2.1 (sliceBounds none none (some k) n).2.2
def pk {α : Type} (k : Int) (l : List α) : List α := (pkIx k l.length).filterMap (l[·]?)
theorem pkIx_len (k : Int) (hk : k ≠ 0) (n : Nat) : (pkIx k n).length ≤ n := by
  unfold pkIx
  refine sliceRange_length_le _ _ _ n (fun h => ?_) (fun h => ?_)
  · have h' : k > 0 := h
    simp [sliceBounds, h']
  · have h' : ¬ k > 0 := h
    simp [sliceBounds, h']
theorem pk_len {α : Type} (k : Int) (hk : k ≠ 0) (l : List α) : (pk k l).length ≤ l.length := Nat.le_trans (List.length_filterMap_le _ _) (pkIx_len k hk _)
theorem pk_mem {α : Type} {k : Int} {l : List α} {x : α} (h : x ∈ pk k l) : x ∈ l := by
  unfold pk at h
  obtain ⟨i, _, h2⟩ := List.mem_filterMap.mp h
  exact List.mem_of_getElem? h2
theorem pk_map {α β : Type} (k : Int) (f : α → β) (l : List α) : pk k (l.map f) = (pk k l).map f := by
  unfold pk
  rw [List.length_map, List.map_filterMap]
  congr 1
  funext i
  simp
theorem vals_pick {xs : List V} {its : List Value} (h : Vals xs its) : ∀ idx : List Nat, Vals (idx.filterMap (xs[·]?)) (idx.filterMap (its[·]?))
  | [] => .nil
  | i :: idx => by
    have ih := vals_pick h idx
    rw [List.filterMap_cons, List.filterMap_cons]
    cases e : xs[i]? with
    | none =>
      have : its[i]? = none := by
        rw [List.getElem?_eq_none_iff] at e ⊢
        rw [← h.length]; exact e
      rw [this]; exact ih
    | some v =>
      obtain ⟨w, ew, rw'⟩ := h.get e
      rw [ew]
      exact .cons rw' ih
theorem dq_pick {K : PySem.W.Frag} {F : Hp} {xs : List V} {ds : List PyData} (h : DqAll K F xs ds) : ∀ idx : List Nat, DqAll K F (idx.filterMap (xs[·]?)) (idx.filterMap (ds[·]?))
  | [] => .nil
  | i :: idx => by
    have ih := dq_pick h idx
    rw [List.filterMap_cons, List.filterMap_cons]
    cases e : xs[i]? with
    | none =>
      have : ds[i]? = none := by
        rw [List.getElem?_eq_none_iff] at e ⊢
        rw [← h.len]; exact e
      rw [this]; exact ih
    | some v =>
      obtain ⟨w, ew, rw'⟩ := h.getV e
      rw [ew]
      exact .cons rw' ih
def tStep (K : PySem.W.Frag) (k : Int) (te : TE) : TE := fun σ H Q => te σ H fun x H1 => ∃ a xs, x = .ref a ∧ SqL K H1 a xs ∧ ∀ p, H1 p = none → Q (.ref p) (upd H1 p (.lst (pk k xs)))
theorem pe_step {X : Cx} {e st : Expr} {te : TE} {tp : TO} {c : Int} {p3 pos : Pos} (hc : c ≠ 0) (he : PE X e te) (hst : PO X (some st) tp) (hv : ∀ σ H, tp σ H (fun o H4 => o = some c ∧ H4 = H))
    (hs : ∀ (a b : Addr), subscripted (.Slice none none (some st) p3) false (.ref a) (.ref b) = operate [.ref a, .ref b] (getItem (.ref a) (.ref b)) := by intro a b; with_unfolding_all rfl) : PE X (.Subscript e (.Slice none none (some st) p3) pos) (tStep X.K c te) := by
  refine ⟨fun pins s σ H Q I h => ?_⟩
  refine Subscript_ (thn (he.run pins s σ H _ I h) fun v s1 ⟨x, H1, I1, r1, q1⟩ => ?_)
  obtain ⟨a, xs, ex, hx, q⟩ := q1
  subst ex
  cases r1
  refine wpAny_Slice (thn (po_none.run pins s1 σ H1 (fun o H2 => o = none ∧ H2 = H1) I1 ⟨rfl, rfl⟩) fun vl s2 ⟨l, H2, I2, pl, el, e2⟩ => ?_)
  subst el e2
  refine thn (po_none.run pins s2 σ H2 (fun o H3 => o = none ∧ H3 = H2) I2 ⟨rfl, rfl⟩) fun vu s3 ⟨u, H3, I3, pu, eu, e3⟩ => ?_
  subst eu e3
  refine thn (hst.run pins s3 σ H3 (fun o H4 => o = some c ∧ H4 = H3) I3 (hv σ H3)) fun vs s4 ⟨o, H4, I4, ps, eo, e4⟩ => ?_
  subst eo e4
  have I5 : Inv X pins σ H4 { s4 with heap := s4.heap.push { cls := .type "slice", data := .fields #[vl, vu, vs] } } := I4.kept (t' := s4.toks) fun b ob q => Heap.get?_push_of_some _ q
  obtain ⟨its, r, ht, hz⟩ := I5.list hx
  have hlen := r.length
  show wpAny (model X.prog X.w) X.A (subscriptTail e (.Slice none none (some st) p3) (.ref a) (.ref s4.heap.objs.size)) (EP X pins σ Q) X.xe { s4 with heap := s4.heap.push { cls := .type "slice", data := .fields #[vl, vu, vs] } }
  refine tail_any (ops := [.ref a, .ref s4.heap.objs.size]) ht.isList.typeIs (PySem.slot_list_getitem.lookup) ?_ (hs _ _)
  refine wpAny_getItem_list_slice ht.isList (Heap.IsSliceOf.new _ vl vu vs) pl pu ps (by simpa using hc) ?_ (by rw [List.size_toArray]; omega)
  have ep : slicePick its.toArray none none (some c) = ((pkIx c xs.length).filterMap (its[·]?)).toArray := by
    unfold slicePick pkIx
    rw [List.size_toArray, ← hlen]
    congr 2
    funext i
    simp
  rw [ep]
  refine ⟨.ref _, _, I5.laid (t' := s4.toks) (o := .lst (pk c xs)) (fun b ob q => Heap.get?_push_of_some _ q) (Nat.le_refl _) ?_, rfl, q _ (I5.hok.fresh (Nat.le_refl _))⟩
  exact ⟨Nat.le_trans (pk_len c hc xs) hz, _, 0, vals_pick r _, Heap.get?_push_size _ rfl⟩
def lStep (k : Int) (f : SE) : SA := fun ρ => (f ρ).bind fun d => (lisD d).map (pk k)
@[simp] theorem lStep_eq (k : Int) (f : SE) (ρ : Rho) : lStep k f ρ = (f ρ).bind fun d => (lisD d).map (pk k) := rfl
section
variable {X : Cx} {K : PySem.W.Frag} {B : Bs} {W : XW} {e a b c : Expr} {es : List Expr} {te tx ta tb : TE} {fe fx fa fb f : SE} {sa el : SA} {i j : Nat} {x : Str} {p p2 pos pos2 : Pos}
theorem step_ok (k : Int) (h : BOk K B te f) : LOk K B (tStep K k te) (lStep k f) := fun R F H σ ρ ds E q Q kk => by
  unfold lStep at q
  cases e1 : f ρ with
  | none => rw [e1] at q; cases q
  | some d =>
    rw [e1, Option.bind_some] at q
    cases d with
    | list es =>
      cases q
      refine h R F H σ ρ _ E e1 _ fun v H1 G1 g1 b1 => ?_
      obtain ⟨p, vs, rfl, hp, hA⟩ := b1.list g1.sub
      refine ⟨p, vs, rfl, .inl (.inl hp), fun p' hp' => ?_⟩
      refine kk p' _ _ G1 (g1.beside hp') (g1.h.free hp') (g1.sub.free hp') upd_same ?_
      unfold pk
      rw [hA.len]
      exact dq_pick hA _
    | _ => cases q
theorem sl_step2 {kk : Nat} {p1 p3 : Pos} (h : SemB X K B e te f) (hK : X.K = K := by rfl) : SemL X K B (.Subscript e (.Slice none none (some (.Constant (.int 2) kk p1)) p3) pos) (tStep K 2 te) (lStep 2 f) := by
  subst hK
  exact ⟨pe_step (by decide) h.pe (po_some pe_int) (fun σ H => ⟨2, rfl, rfl, rfl⟩), step_ok 2 h.ok⟩
theorem sl_stepM {kk : Nat} {p1 p2 p3 : Pos} (h : SemB X K B e te f) (hK : X.K = K := by rfl) : SemL X K B (.Subscript e (.Slice none none (some (.UnaryOp .USub (.Constant (.int 1) kk p1) p2)) p3) pos) (tStep K (-1) te) (lStep (-1) f) := by
  subst hK
  exact ⟨pe_step (by decide) h.pe (po_some (pe_un un_neg pe_int)) (fun σ H => ⟨1, rfl, -1, rfl, rfl, rfl⟩), step_ok (-1) h.ok⟩
/-! ### words -/
theorem s_clr (i : Nat) {ap cp : Pos} (ps : PS X (.Expr (.Call (.Attribute (.Name x p) "clear" ap) [] [] cp) pos) (tDrop (tBM0 K "list" rClear (tVar i)))) : SemS X K B W (.Expr (.Call (.Attribute (.Name x p) "clear" ap) [] [] cp) pos) (tDrop (tBM0 K "list" rClear (tVar i))) (sClr i) := ⟨ps, clr_okS i⟩
theorem s_ext (i : Nat) {ap cp : Pos} (he : SemB X K B e te fe) (ps : PS X (.Expr (.Call (.Attribute (.Name x p) "extend" ap) [e] [] cp) pos) (tDrop (tBM K "list" rExtend (tVar i) (tCons te tNil)))) :
    SemS X K B W (.Expr (.Call (.Attribute (.Name x p) "extend" ap) [e] [] cp) pos) (tDrop (tBM K "list" rExtend (tVar i) (tCons te tNil))) (sExt i fe) := ⟨ps, ext_okS i he.ok⟩
theorem s_ins (i : Nat) {ap cp : Pos} (hx : SemE X K B a tx fx) (he : SemE X K B e te fe) (ps : PS X (.Expr (.Call (.Attribute (.Name x p) "insert" ap) [a, e] [] cp) pos) (tDrop (tBM K "list" (fun x vs H Q => ∃ (l : Addr) (xs : List V) (i : Int) (y : V), x = .ref l ∧ vs = [.int i, y] ∧ H l = some (.lst xs) ∧ xs.length < sizeLine ∧ 0 ≤ i ∧ i < 2 ^ 63 ∧ Q .non (upd H l (.lst (xs.take i.toNat ++ [y] ++ xs.drop i.toNat)))) (tVar i) (tCons tx (tCons te tNil))))) :
    SemS X K B W (.Expr (.Call (.Attribute (.Name x p) "insert" ap) [a, e] [] cp) pos) (tDrop (tBM K "list" (fun x vs H Q => ∃ (l : Addr) (xs : List V) (i : Int) (y : V), x = .ref l ∧ vs = [.int i, y] ∧ H l = some (.lst xs) ∧ xs.length < sizeLine ∧ 0 ≤ i ∧ i < 2 ^ 63 ∧ Q .non (upd H l (.lst (xs.take i.toNat ++ [y] ++ xs.drop i.toNat)))) (tVar i) (tCons tx (tCons te tNil)))) (sIns i fx fe) := ⟨ps, ins_okS i hx.ok he.ok⟩
/-- x[a], x a list of own lists -/
theorem sb_row (i : Nat) (hp : PE X (.Name x p) (tVar i)) (h2 : SemB X K B b tb fb) (hs : PlainIx b := by exact fun _ _ => rfl) (hK : X.K = K := by rfl) : SemB X K B (.Subscript (.Name x p) b pos) (tOp (rIx K) (tVar i) tb) (eRow i fb) := by
  subst hK
  exact ⟨pe_ix ix_seq hp h2.pe hs, row_okB i h2.ok⟩
theorem se_rowLen (i : Nat) {y : Str} {p2 : Pos} (hm : X.mg "len" = none) (hp : PE X (.Name y p2) (tVar i)) (hg : Gl X "len" := by rfl) (he : starEach [Expr.Name y p2] X.env = [(false, eval (.Name y p2) X.env)] := by rfl) (hpl : (backTo pos (starEach [] X.env)).any (·.1) = false := by rfl) (hK : X.K = K := by rfl) :
    SemE X K B (.Call (.Name "len" p) [.Name y p2] [] pos) (tCB (rLenA K) (tCons (tVar i) tNil)) (eRowLen i) := by
  subst hK
  exact ⟨pe_callB call_len hg hm (by decide +kernel) (pa_cons hp pa_nil he) (by decide) (by decide) he hpl, rowLen_ok i⟩
theorem s_augRow (i : Nat) {p3 : Pos} (ha : SemE X K B a ta fa) (hb : SemE X K B b tb fb) (he : SemE X K B e te fe) (ps : PS X (.AugAssign (.Subscript (.Subscript (.Name x p) a p2) b p3) .Add e pos) (tAugS (tOp (rIx K) (tVar i) ta) tb te (rIxP K) (ipI fun i j => i + j) rSetL)) :
    SemS X K B W (.AugAssign (.Subscript (.Subscript (.Name x p) a p2) b p3) .Add e pos) (tAugS (tOp (rIx K) (tVar i) ta) tb te (rIxP K) (ipI fun i j => i + j) rSetL) (sAugRow i fa fb fe) := ⟨ps, augRow_okS i ha.ok hb.ok he.ok⟩
theorem s_mkRows (i : Nat) {wi : TI} {y z : Str} {py xp spos : Pos} {scope : Scope} (hB : i = 0 → B.o = none) (hi : SemIB X K B (.Name z xp) e wi sa)
    (he : SemL (X.blk X.s_0 (fun _ => none) scope (compEnvC scope [] 0 X.env) []) K B a te el) (ps : PS X (.Assign [.Name y py] (.ListComp a [⟨.Name z xp, e, [], 0⟩] scope pos) spos) (tAsg (tLc wi (gName j) tYes te [j]) (gName i))) :
    SemS X K B W (.Assign [.Name y py] (.ListComp a [⟨.Name z xp, e, [], 0⟩] scope pos) spos) (tAsg (tLc wi (gName j) tYes te [j]) (gName i)) (sMkRows i sa j el) := ⟨ps, mkRows_okS hB hi.ok he.ok⟩
end
end RT
/-! Dicts by whole numbers; while; a call with two objects. -/
namespace RT
open PySem PySem.Spec PyProof.Rows L2
def lookI (l : List (Int × PyData)) (k : Int) : Option PyData := (l.find? fun x => decide (x.1 = k)).map (·.2)
def putI (l : List (Int × PyData)) (k : Int) (d : PyData) : List (Int × PyData) := if (l.any fun x => decide (x.1 = k)) = true then l.map (fun x => if x.1 = k then (x.1, d) else x) else l ++ [(k, d)]
def putV (l : List (Int × V)) (k : Int) (d : V) : List (Int × V) := if (l.any fun x => decide (x.1 = k)) = true then l.map (fun x => if x.1 = k then (x.1, d) else x) else l ++ [(k, d)]
section
variable {K : PySem.W.Frag} {F : Hp}
theorem kv_val {k : Int} : ∀ {kv : List (Int × V)} {l : List (Int × PyData)}, KvAll K F kv l → (lookI l k = none ∧ valV (kvI kv) (Sum.inl k) = none) ∨ ∃ v d, lookI l k = some d ∧ valV (kvI kv) (Sum.inl k) = some v ∧ Dq K F v d
  | _, _, .nil => .inl ⟨rfl, rfl⟩
  | (k', v) :: kv, (_, d) :: l, .cons h t => by
    by_cases e : k' = k
    · subst e
      exact .inr ⟨v, d, by simp [lookI], by unfold kvI; rw [List.map_cons, valV_pos rfl], h⟩
    · have e1 : lookI ((k', d) :: l) k = lookI l k := by simp [lookI, e]
      have e2 : valV (kvI ((k', v) :: kv)) (Sum.inl k) = valV (kvI kv) (Sum.inl k) := by
        unfold kvI; rw [List.map_cons, valV_neg (by intro z; exact e (Sum.inl.inj z))]
      rw [e1, e2]
      exact kv_val t
theorem KvAll.len : ∀ {kv : List (Int × V)} {l : List (Int × PyData)}, KvAll K F kv l → kv.length = l.length
  | _, _, .nil => rfl
  | _, _, .cons _ t => congrArg Nat.succ (KvAll.len t)
theorem KvAll.keys : ∀ {kv : List (Int × V)} {l : List (Int × PyData)}, KvAll K F kv l → kv.map (·.1) = l.map (·.1)
  | _, _, .nil => rfl
  | (k, _) :: _, _, .cons _ t => congrArg (k :: ·) (KvAll.keys t)
theorem KvAll.app {k : Int} {v : V} {d : PyData} (h : Dq K F v d) : ∀ {kv : List (Int × V)} {l : List (Int × PyData)}, KvAll K F kv l → KvAll K F (kv ++ [(k, v)]) (l ++ [(k, d)])
  | _, _, .nil => .cons h .nil
  | _, _, .cons h' t => .cons h' (KvAll.app h t)
theorem KvAll.rep {k : Int} {v : V} {d : PyData} (h : Dq K F v d) : ∀ {kv : List (Int × V)} {l : List (Int × PyData)}, KvAll K F kv l → KvAll K F (kv.map fun x => if x.1 = k then (x.1, v) else x) (l.map fun x => if x.1 = k then (x.1, d) else x)
  | _, _, .nil => .nil
  | (k', v') :: kv, (_, d') :: l, .cons h' t => by
    rw [List.map_cons, List.map_cons]
    by_cases e : k' = k
    · rw [if_pos e, if_pos e]; exact .cons h (KvAll.rep h t)
    · rw [if_neg e, if_neg e]; exact .cons h' (KvAll.rep h t)
theorem KvAll.any {k : Int} : ∀ {kv : List (Int × V)} {l : List (Int × PyData)}, KvAll K F kv l → (kv.any fun x => decide (x.1 = k)) = (l.any fun x => decide (x.1 = k))
  | _, _, .nil => rfl
  | _, _, .cons _ t => by rw [List.any_cons, List.any_cons, KvAll.any t]
theorem kv_put {k : Int} {v : V} {d : PyData} {kv : List (Int × V)} {l : List (Int × PyData)} (h : KvAll K F kv l) (hd : Dq K F v d) : KvAll K F (putV kv k v) (putI l k d) := by
  unfold putV putI
  rw [h.any]
  split
  · exact h.rep hd
  · exact h.app hd
theorem kvI_put (kv : List (Int × V)) (k : Int) (v : V) : putK (kvI kv) (Sum.inl k) v = kvI (putV kv k v) := by
  unfold putK putV kvI
  have e : ((kv.map fun n => ((Sum.inl n.1 : Key), n.2)).any fun x => decide (x.1 = Sum.inl k)) = (kv.any fun x => decide (x.1 = k)) := by
    rw [List.any_map]
    congr 1
    funext x
    simp
  rw [e]
  split
  · rw [List.map_map, List.map_map]
    apply List.map_congr_left
    intro x _
    by_cases h : x.1 = k
    · simp [h]
    · simp [h]
  · rw [List.map_append]; rfl
theorem putI_len (l : List (Int × PyData)) (k : Int) (d : PyData) : (putI l k d).length ≤ l.length + 1 := by
  unfold putI
  split
  · simp
  · simp
end
def sMkDct (i : Nat) : SS := fun ρ => .nx (ρ.set i (.obj (.dct [])))
/-- x = {k: v} -/
def sMkDct1 (i : Nat) (fk fv : SE) : SS := fun ρ => match fk ρ, fv ρ with
  | some (.int k), some d => if dataD d = true then .nx (ρ.set i (.obj (.dct [(k, d)]))) else .no
  | _, _ => .no
/-- x[k] = v -/
def sDSet (i : Nat) (fk fv : SE) : SS := fun ρ => match slO kT ρ[i]?, fk ρ, fv ρ with
  | some l, some (.int k), some d => if dataD d = true ∧ l.length ≤ LIM then .nx (ρ.set i (.obj (.dct (putI l k d)))) else .no
  | _, _, _ => .no
def eDKeys (bk : Addr → Option ObjSt) (i : Nat) : SA := fun ρ => (rcv kT bk ρ i).map fun l => l.map fun x => .int x.1
def eDGet (bk : Addr → Option ObjSt) (i : Nat) (fk : SE) : SE := fun ρ => (rcv kT bk ρ i).bind fun l => (fk ρ).bind fun d => match d with
  | .int k => lookI l k
  | _ => none
def eDNotIn (bk : Addr → Option ObjSt) (i : Nat) (fk : SE) : STe := fun ρ => (rcv kT bk ρ i).bind fun l => (fk ρ).bind fun d => match d with
  | .int k => some (!(lookI l k).isSome)
  | _ => none
section
variable {X : Cx} {K : PySem.W.Frag} {B : Bs} {W : XW} {tk tv te : TE} {fk fv f : SE} {i j : Nat}
theorem mkDct_okS (hB : i = 0 → B.o = none) : SSOk K B W (tAsg tDNewK (gName i)) (sMkDct i) := fun Z R F H σ ρ D s hg p hp => by
  have hF : F p = none := s.env.ex.free hp
  refine hg _ _ _ F (s.newO (R' := upd noH p (.dK [])) hB ((Grow.refl s.env.ex).beside hp) (fun y o h => ?_) (fun y hy => ?_) (fun y hy => ?_) ⟨[], upd_same, .nil⟩) (Same.refl F)
  · by_cases e : y = p
    · subst e; rw [upd_same] at h ⊢; exact h
    · rw [upd_ne e] at h; cases h
  · by_cases e : y = p
    · subst e; exact hF
    · exact absurd (upd_ne e) hy
  · by_cases e : y = p
    · subst e; exact hp
    · exact absurd (upd_ne e) hy
theorem dset_okS (kv : EOk K B tv fv) (kk : EOk K B tk fk) : SSOk K B W (tAsg tv (gSub (tVar i) tk rSetD)) (sDSet i fk fv) := fun Z R F H σ ρ D s hg => by
  unfold sDSet at hg
  split at hg
  · rename_i l k d h1 h2 h3
    split at hg
    · rename_i hc
      obtain ⟨a, o1, kvs, ha, hA⟩ := s.env.obj i _ (slO_ok h1)
      refine kv _ F H σ ρ d s.env h3 _ fun v H1 G1 g1 r1 => ⟨.ref a, o1, ?_⟩
      refine kk _ G1 H1 σ ρ _ (s.env.grow g1) h2 _ fun u H2 G2 g2 r2 => ?_
      have eu := Bp.int (H := G2) (.inl r2)
      subst eu
      have g := g1.trans g2
      have s' := s.grow g
      have hz : (kvI kvs).length < sizeLine := by
        unfold kvI
        rw [List.length_map, hA.len]
        exact Nat.lt_of_lt_of_le (show l.length < LIM + 1 by omega) (by decide)
      refine ⟨a, _, rfl, DPut.k (k := Sum.inl k) (g.h _ _ (s.env.rh i _ _ ha)) hz, ?_⟩
      have hd := (r1.mono g2.f).dp (by rintro l rfl; cases hc.1)
      rw [kvI_put]
      refine hg σ _ _ G2 (s'.mut (R' := upd (R i) a (.dK (kvI (putV kvs k v)))) o1 ⟨fun y o h1 h2 => ?_, fun y hy => ?_, Same.refl _, fun y o h => ?_, fun y h _ => h⟩ (fun y o h => ?_) (fun y hy => ?_) (fun y hy => .inl ?_) (fun hi a0 q => by subst hi; exact s.env.oa a0 q _ a (slO_ok h1) o1) ⟨_, upd_same, kv_put (hA.mono g.f) hd⟩) g.f
      · have h1' : R i y = none := h1
        have : y ≠ a := fun hh => by rw [hh, ha] at h1'; cases h1'
        rw [upd_ne this]; exact h2
      · by_cases hyp : y = a
        · subst hyp; rw [upd_same]; intro z; cases z
        · rw [upd_ne hyp]; exact hy
      · have : y ≠ a := fun hh => by
          subst hh
          have := s'.env.rF i y (by rw [ha]; intro z; cases z)
          rw [this] at h; cases h
        rw [upd_ne this]; exact s'.env.ex _ _ h
      · by_cases hyp : y = a
        · subst hyp; rw [upd_same] at h ⊢; exact h
        · rw [upd_ne hyp] at h ⊢; exact s'.env.rh i _ _ h
      · refine s'.env.rF i y ?_
        by_cases hyp : y = a
        · subst hyp; rw [ha]; intro z; cases z
        · rw [upd_ne hyp] at hy; exact hy
      · by_cases hyp : y = a
        · subst hyp; rw [ha]; intro z; cases z
        · rw [upd_ne hyp] at hy; exact hy
    · exact hg.elim
  · exact hg.elim
theorem mkDct1_okS (hB : i = 0 → B.o = none) (kk : EOk K B tk fk) (kv : EOk K B tv fv) : SSOk K B W (tAsg (tDisp [(tk, tv)]) (gName i)) (sMkDct1 i fk fv) := fun Z R F H σ ρ D s hg p hp => by
  unfold sMkDct1 at hg
  split at hg
  · rename_i k d h1 h2
    split at hg
    · rename_i hc
      have s0 := s.grow ((Grow.refl s.env.ex).beside (o := .dK []) hp)
      refine kk _ F _ σ ρ _ s0.env h1 _ fun u H1 G1 g1 r1 => ?_
      refine kv _ G1 H1 σ ρ _ (s0.env.grow g1) h2 _ fun v H2 G2 g2 r2 => ?_
      have eu := Bp.int (H := G1) (.inl r1)
      subst eu
      have g := g1.trans g2
      have e2 : H2 p = some (.dK []) := g.h _ _ upd_same
      have hF : F p = none := s.env.ex.free hp
      have hG : G2 p = none := g.no p hF (by rw [upd_same]; intro z; cases z)
      refine ⟨e2, [(Sum.inl k, v)], rfl, by simp, ?_⟩
      have em : mergeK [] [((Sum.inl k : Key), v)] = kvI [(k, v)] := rfl
      rw [em]
      have gr : Grow H F (upd H2 p (.dK (kvI [(k, v)]))) G2 := ⟨fun y o h => by
          have hne : y ≠ p := ne_of_none h hp
          rw [upd_ne hne]
          exact g.h _ _ (by rw [upd_ne hne]; exact h), g.f, fun y o h => by rw [upd_ne (ne_of_none h hG)]; exact g.sub _ _ h, fun y h1 h2 => g.no y h1 (by
          by_cases hyp : y = p
          · subst hyp; exact absurd hp h2
          · rw [upd_ne hyp]; exact h2)⟩
      refine hg _ _ _ G2 (s.newO (R' := upd noH p (.dK (kvI [(k, v)]))) hB gr (fun y o h => ?_) (fun y hy => ?_) (fun y hy => ?_) ⟨[(k, v)], upd_same, .cons (r2.dp (by rintro l rfl; cases hc)) .nil⟩) g.f
      · by_cases e : y = p
        · subst e; rw [upd_same] at h ⊢; exact h
        · rw [upd_ne e] at h; cases h
      · by_cases e : y = p
        · subst e; exact hG
        · exact absurd (upd_ne e) hy
      · by_cases e : y = p
        · subst e; exact hp
        · exact absurd (upd_ne e) hy
    · exact hg.elim
  · exact hg.elim
theorem dkeys_ok (i : Nat) : LOk K B (tCB rListD (tCons (tVar i) tNil)) (eDKeys B.bk i) := fun R F H σ ρ ds E q Q k => by
  unfold eDKeys at q
  cases ho : rcv kT B.bk ρ i with
  | none => rw [ho] at q; cases q
  | some l =>
    rw [ho] at q
    cases q
    obtain ⟨a, R', h1, ⟨kv, ha, hA⟩, sR, ap⟩ := rcv_ok E ho
    refine ⟨.ref a, h1, a, kvI kv, rfl, sR _ _ ha, fun p hp => ?_⟩
    have e : (kvI kv).map (fun kv => kV kv.1) = (l.map (·.1)).map V.int := by
      rw [← hA.keys]
      unfold kvI
      rw [List.map_map, List.map_map]
      rfl
    rw [e]
    have e2 : (l.map fun x => PyData.int x.1) = (l.map (·.1)).map PyData.int := by rw [List.map_map]; rfl
    refine k p _ _ F ((Grow.refl E.ex).beside hp) hp (E.ex.free hp) upd_same ?_
    show DqAll K F _ (l.map fun x => PyData.int x.1)
    rw [e2]
    exact dpa_ints _
theorem dget_ok (i : Nat) (kk : EOk K B tk fk) : EOk K B (tDGet (tVar i) tk) (eDGet B.bk i fk) := fun R F H σ ρ d E q Q k => by
  unfold eDGet at q
  cases ho : rcv kT B.bk ρ i with
  | none => rw [ho] at q; cases q
  | some l =>
    rw [ho, Option.bind_some] at q
    cases hk : fk ρ with
    | none => rw [hk] at q; cases q
    | some kd =>
      rw [hk, Option.bind_some] at q
      cases kd with
      | int n =>
        obtain ⟨a, R', h1, ⟨kv, ha, hA⟩, sR, ap⟩ := rcv_ok E ho
        refine ⟨.ref a, h1, ?_⟩
        refine kk _ F H σ ρ _ E hk _ fun u H1 G1 g1 r1 => ?_
        have eu := Bp.int (H := G1) (.inl r1)
        subst eu
        rcases kv_val (k := n) hA with ⟨z, _⟩ | ⟨v, d', z1, z2, z3⟩
        · have q' : lookI l n = some d := q
          rw [z] at q'; cases q'
        · have q' : lookI l n = some d := q
          rw [z1] at q'
          cases q'
          refine ⟨a, v, rfl, ?_, k v H1 G1 g1 (.inl (dp_mono g1.f _ z3))⟩
          rw [← z2]
          exact DGet.k (k := Sum.inl n) (g1.h _ _ (sR _ _ ha))
      | _ => cases q
theorem dnotin_ok (i : Nat) (kk : EOk K B tk fk) : TOk K B (tB (tDNotIn tk (tVar i))) (eDNotIn B.bk i fk) := fun R F H σ ρ b E q Q k => by
  unfold eDNotIn at q
  cases ho : rcv kT B.bk ρ i with
  | none => rw [ho] at q; cases q
  | some l =>
    rw [ho, Option.bind_some] at q
    cases hk : fk ρ with
    | none => rw [hk] at q; cases q
    | some kd =>
      rw [hk, Option.bind_some] at q
      cases kd with
      | int n =>
        have q' : some (!(lookI l n).isSome) = some b := q
        cases q'
        obtain ⟨a, R', h1, ⟨kv, ha, hA⟩, sR, ap⟩ := rcv_ok E ho
        refine kk _ F H σ ρ _ E hk _ fun u H1 G1 g1 r1 => ?_
        have eu := Bp.int (H := G1) (.inl r1)
        subst eu
        refine ⟨.ref a, h1, a, valV (kvI kv) (Sum.inl n), rfl, DGet.k (k := Sum.inl n) (g1.h _ _ (sR _ _ ha)), ?_⟩
        have e : (valV (kvI kv) (Sum.inl n)).isSome = (lookI l n).isSome := by
          rcases kv_val (k := n) hA with ⟨z1, z2⟩ | ⟨v, d', z1, z2, z3⟩
          · rw [z1, z2]; rfl
          · rw [z1, z2]; rfl
        rw [e]
        exact ⟨_, rfl, k H1 G1 g1⟩
      | _ => cases q
end
/-! ### while -/
def whF (t : STe) (body : SS) : Nat → Rho → Out
  | 0, _ => .no
  | n + 1, ρ => match t ρ with
    | none => .no
    | some b => if b = true then (match body ρ with
      | .nx r => whF t body n r
      | o => o) else .nx ρ
def sWhile (n : Nat) (t : STe) (body : SS) : SS := fun ρ => whF t body n ρ
theorem while_okS {K : PySem.W.Frag} {B : Bs} {W : XW} {tc : TT} {tb : TS} {t : STe} {body : SS} (n : Nat) (kt : TOk K B tc t) (kb : SSOk K B W tb body) : SSOk K B W (tWhile tc tb) (sWhile n t body) := fun Z R F H σ ρ D s hg => by
  refine ⟨fun m σ' H' => ∃ (R' : Rg) (F' : Hp) (ρ' : Rho), StOk K B Z R' F' H' σ' ρ' ∧ Same F F' ∧ Goes K B Z F' D W (whF t body m ρ'), ⟨n, R, F, ρ, s, Same.refl F, hg⟩, ?_⟩
  rintro m σ' H' ⟨R', F', ρ', s', e', hg'⟩
  cases m with
  | zero => exact hg'.elim
  | succ m =>
    unfold whF at hg'
    cases et : t ρ' with
    | none => simp only [et] at hg'; exact hg'.elim
    | some b =>
      simp only [et] at hg'
      refine kt _ F' H' σ' ρ' b s'.env et _ fun H1 G1 g1 => ?_
      cases b with
      | false =>
        rw [if_neg (by decide)] at hg' ⊢
        exact hg' σ' H1 R' G1 (s'.grow g1) g1.f
      | true =>
        rw [if_pos rfl] at hg' ⊢
        refine ⟨fun σ2 H2 => ∃ m', m' < m + 1 ∧ ∃ (R' : Rg) (F' : Hp) (ρ' : Rho), StOk K B Z R' F' H2 σ2 ρ' ∧ Same F F' ∧ Goes K B Z F' D W (whF t body m' ρ'), fun _ _ h => h, ?_⟩
        refine kb Z R' G1 H1 σ' ρ' _ (s'.grow g1) ?_
        cases eb : body ρ' with
        | no => simp only [eb] at hg'; exact hg'.elim
        | nx r =>
          simp only [eb] at hg'
          exact fun σ4 H4 R4 F4 s4 e4 => ⟨m, Nat.lt_succ_self m, R4, F4, r, s4, (e'.trans g1.f).trans e4, Goes.mono hg' (g1.f.trans e4)⟩
        | rt d r => simp only [eb] at hg'; exact Goes.mono (o := .rt d r) hg' g1.f
        | ex c r => simp only [eb] at hg'; exact Goes.mono (o := .ex c r) hg' g1.f
        | ro i r => simp only [eb] at hg'; exact Goes.mono (o := .ro i r) hg' g1.f
/-! ### words -/
section
variable {X : Cx} {K : PySem.W.Frag} {B : Bs} {W : XW} {e a b c : Expr} {tk tv te : TE} {fk fv f : SE} {i j : Nat} {x : Str} {p p2 pos pos2 : Pos}
theorem s_mkDct (i : Nat) (hB : i = 0 → B.o = none) (ps : PS X (.Assign [.Name x p] (.Dict [] [] pos) pos2) (tAsg tDNewK (gName i))) : SemS X K B W (.Assign [.Name x p] (.Dict [] [] pos) pos2) (tAsg tDNewK (gName i)) (sMkDct i) := ⟨ps, mkDct_okS hB⟩
theorem s_mkDct1 (i : Nat) (hB : i = 0 → B.o = none) (hk : SemE X K B a tk fk) (hv : SemE X K B b tv fv) (ps : PS X (.Assign [.Name x p] (.Dict [some a] [b] pos) pos2) (tAsg (tDisp [(tk, tv)]) (gName i))) : SemS X K B W (.Assign [.Name x p] (.Dict [some a] [b] pos) pos2) (tAsg (tDisp [(tk, tv)]) (gName i)) (sMkDct1 i fk fv) := ⟨ps, mkDct1_okS hB hk.ok hv.ok⟩
theorem s_dset (i : Nat) (hk : SemE X K B a tk fk) (hv : SemE X K B e tv fv) (ps : PS X (.Assign [.Subscript (.Name x p) a p2] e pos) (tAsg tv (gSub (tVar i) tk rSetD))) : SemS X K B W (.Assign [.Subscript (.Name x p) a p2] e pos) (tAsg tv (gSub (tVar i) tk rSetD)) (sDSet i fk fv) := ⟨ps, dset_okS hv.ok hk.ok⟩
theorem sl_dkeys (i : Nat) {y : Str} {p2 : Pos} (hm : X.mg "list" = none) (hp : PE X (.Name y p2) (tVar i)) (hc : X.calm = true := by rfl) (hg : Gl X "list" := by rfl) (he : starEach [Expr.Name y p2] X.env = [(false, eval (.Name y p2) X.env)] := by rfl) (hpl : (backTo pos (starEach [] X.env)).any (·.1) = false := by rfl) :
    SemL X K B (.Call (.Name "list" p) [.Name y p2] [] pos) (tCB rListD (tCons (tVar i) tNil)) (eDKeys B.bk i) :=
  ⟨pe_callTy (call_list_dK hc) hg hm (by decide +kernel) (pa_cons hp pa_nil he) (by decide) (by decide) he hpl, dkeys_ok i⟩
theorem se_dget (i : Nat) (hu : X.A.units + 1 < cLine) (hp : PE X (.Name x p) (tVar i)) (hk : SemE X K B a tk fk) (hs : NoSl a := by exact fun _ _ => rfl) : SemE X K B (.Subscript (.Name x p) a pos) (tDGet (tVar i) tk) (eDGet B.bk i fk) := ⟨pe_dget hu hp hk.pe hs, dget_ok i hk.ok⟩
theorem st_dnotin (i : Nat) (hu : X.A.units + 1 < cLine) (hp : PE X (.Name x p) (tVar i)) (hk : SemE X K B a tk fk) (h1 : behindInMarks .NotIn (.Name x p) = false := by rfl) : SemT X K B (.Compare a [.NotIn] [.Name x p] pos) (tB (tDNotIn tk (tVar i))) (eDNotIn B.bk i fk) := ⟨pt_cmp (pc_dnotin hu hk.pe hp) h1, dnotin_ok i hk.ok⟩
theorem s_while (n : Nat) {tc : TT} {tb : TS} {t : STe} {body : SS} {ss : List Stmt} (hp : PassesOwn (model X.prog X.w) X.A X.env X.xe) (ht : SemT X K B e tc t) (hb : SemSs X K B W ss tb body) : SemS X K B W (.While e ss [] pos) (tWhile tc tb) (sWhile n t body) := ⟨ps_while hp ht.pt hb.ps, while_okS n ht.ok hb.ok⟩
end
theorem hu1_of {k : Nat} {A : Around} (hr : Room k A) : A.units + 1 < cLine := by have := hr.un; omega
theorem x_peB {X : Cx} {K : PySem.W.Frag} {e : Expr} {t : TE} {f : SE} (h : SemB X K noB e t f) : PE X e t := h.pe
theorem x_peL {X : Cx} {K : PySem.W.Frag} {e : Expr} {t : TE} {f : SA} (h : SemL X K noB e t f) : PE X e t := h.pe
/-! ### rows to reckon -/
@[simp] theorem sMkDct_eq (i : Nat) (ρ : Rho) : sMkDct i ρ = .nx (ρ.set i (.obj (.dct []))) := rfl
theorem sDSet_at {i : Nat} {fk fv : SE} {ρ : Rho} {l : List (Int × PyData)} {k : Int} {d : PyData} (h1 : ρ[i]? = some (.obj (.dct l))) (h2 : fk ρ = some (.int k)) (h3 : fv ρ = some d) (hd : dataD d = true) (hl : l.length ≤ LIM) : sDSet i fk fv ρ = .nx (ρ.set i (.obj (.dct (putI l k d)))) := by
  unfold sDSet
  rw [h1, h2, h3]
  simp [hd, hl]
theorem eDKeys_obj (bk : Addr → Option ObjSt) (i : Nat) (ρ : Rho) (l : List (Int × PyData)) (h : ρ[i]? = some (.obj (.dct l))) : eDKeys bk i ρ = some (l.map fun x => .int x.1) := by
  unfold eDKeys
  rw [rcv_obj _ _ _ _ h]
  rfl
end RT
/-! A reading function's own value, whatever the address of the object is. -/
namespace RT
open PySem PySem.Spec PyProof.Rows L2
section
variable {S : Type}
open Classical in
noncomputable def frOf (kd : Kd S) (N : List Str) (n : Nat) (b : (Addr → Option ObjSt) → SS) : S → List PyData → Res := fun β ds =>
  if h : ∃ d, ∀ a, runF N n (b (only a (kd.inj β))) (refD a :: ds) = some d then .ret h.choose else .no
theorem frOf_ok (kd : Kd S) (N : List Str) (n : Nat) (b : (Addr → Option ObjSt) → SS) : ∀ a β ds, match frOf kd N n b β ds with
      | .ret d => runF N n (b (only a (kd.inj β))) (refD a :: ds) = some d
      | .exc _ => False
      | .no => True := fun a β ds => by
  unfold frOf
  by_cases h : ∃ d, ∀ a, runF N n (b (only a (kd.inj β))) (refD a :: ds) = some d
  · rw [dif_pos h]
    exact h.choose_spec a
  · rw [dif_neg h]
    trivial
theorem frOf_eq {kd : Kd S} {N : List Str} {n : Nat} {b : (Addr → Option ObjSt) → SS} {β : S} {ds : List PyData} {d : PyData} (h : ∀ a, runF N n (b (only a (kd.inj β))) (refD a :: ds) = some d) : frOf kd N n b β ds = .ret d := by
  unfold frOf
  have h' : ∃ d, ∀ a, runF N n (b (only a (kd.inj β))) (refD a :: ds) = some d := ⟨d, h⟩
  rw [dif_pos h']
  have := (h'.choose_spec 0).symm.trans (h 0)
  rw [Option.some.inj this]
end
end RT
/-! Loops and comprehensions by what holds of them; texts by their codes. -/
namespace RT
open PySem PySem.Spec PyProof.Rows L2
theorem forF_inv {j : Nat} {body : SS} (Inv : Nat → Rho → Prop) : ∀ {ds : List PyData} (n : Nat) {ρ : Rho}, Inv n ρ → (∀ k d ρ, ds[k]? = some d → Inv (n + k) ρ → ∃ ρ', body (ρ.set j (.val d)) = .nx ρ' ∧ Inv (n + k + 1) ρ') →
    ∃ ρ', forF (tg1 j) body ds ρ = .nx ρ' ∧ Inv (n + ds.length) ρ'
  | [], n, ρ, h, _ => ⟨ρ, rfl, h⟩
  | d :: ds, n, ρ, h, hs => by
    obtain ⟨ρ1, e1, i1⟩ := hs 0 d ρ rfl h
    obtain ⟨ρ2, e2, i2⟩ := forF_inv Inv (ds := ds) (n + 1) i1 fun k d' ρ hd hi => by
      have := hs (k + 1) d' ρ (by simpa using hd) (by rw [show n + (k + 1) = n + 1 + k by omega]; exact hi)
      rw [show n + (k + 1) + 1 = n + 1 + k + 1 by omega] at this
      exact this
    refine ⟨ρ2, ?_, ?_⟩
    · rw [forF_cons1, e1, thn_nx, e2]
    · rw [List.length_cons, show n + (ds.length + 1) = n + 1 + ds.length by omega]
      exact i2
theorem forF_inv0 {j : Nat} {body : SS} (Inv : Nat → Rho → Prop) {ds : List PyData} {ρ : Rho} (h : Inv 0 ρ) (hs : ∀ k d ρ, ds[k]? = some d → Inv k ρ → ∃ ρ', body (ρ.set j (.val d)) = .nx ρ' ∧ Inv (k + 1) ρ') :
    ∃ ρ', forF (tg1 j) body ds ρ = .nx ρ' ∧ Inv ds.length ρ' := by
  obtain ⟨ρ', e, i⟩ := forF_inv Inv 0 h fun k d ρ hd hi => by
    rw [Nat.zero_add] at hi ⊢
    exact hs k d ρ hd hi
  rw [Nat.zero_add] at i
  exact ⟨ρ', e, i⟩
theorem rangeD_get {n k : Nat} {d : PyData} (h : (rangeD 0 n)[k]? = some d) : k < n ∧ d = .int (k : Int) := by
  have hk : k < n := by
    have := (List.getElem?_eq_some_iff.mp h).1
    simpa using this
  refine ⟨hk, ?_⟩
  simp [rangeD, hk] at h
  exact h.symm
theorem forF_rng {j : Nat} {body : SS} (Inv : Nat → Rho → Prop) {n : Nat} {ρ : Rho} (h : Inv 0 ρ) (hs : ∀ k ρ, k < n → Inv k ρ → ∃ ρ', body (ρ.set j (.val (.int (k : Int)))) = .nx ρ' ∧ Inv (k + 1) ρ') : ∃ ρ', forF (tg1 j) body (rangeD 0 n) ρ = .nx ρ' ∧ Inv n ρ' := by
  obtain ⟨ρ', e, i⟩ := forF_inv0 (j := j) (body := body) (ds := rangeD 0 n) Inv h fun k d ρ hd hi => by
    obtain ⟨hk, rfl⟩ := rangeD_get hd
    exact hs k ρ hk hi
  rw [rangeD_len] at i
  exact ⟨ρ', e, i⟩
/-- a comprehension without a test, its items by what holds of them -/
theorem lcF_ex {α : Type} {j : Nat} {el : SE} {ρ : Rho} (enc : α → PyData) (P : PyData → α → Prop) : ∀ {ds : List PyData}, (∀ d, d ∈ ds → ∃ x, el (ρ.set j (.val d)) = some (enc x) ∧ dataD (enc x) = true ∧ P d x) →
    ∃ xs : List α, lcF j tYesF el ρ ds = some (xs.map enc) ∧ xs.length = ds.length ∧ ∀ (k : Nat) (d : PyData) (x : α), ds[k]? = some d → xs[k]? = some x → P d x
  | [], _ => ⟨[], rfl, rfl, fun k d x h => by simp at h⟩
  | d :: ds, h => by
    obtain ⟨x, e1, e2, hp⟩ := h d List.mem_cons_self
    obtain ⟨xs, e3, e4, hq⟩ := lcF_ex enc P (ds := ds) fun d' hd => h d' (List.mem_cons_of_mem _ hd)
    refine ⟨x :: xs, ?_, by simp [e4], fun k d' x' h1 h2 => ?_⟩
    · simp [lcF, e1, e2, e3]
    · cases k with
      | zero => simp at h1 h2; subst h1 h2; exact hp
      | succ k => exact hq k d' x' (by simpa using h1) (by simpa using h2)
/-- an item of a menu -/
def mnu {α : Type} (l : List α) (i : Int) : Option α := atI l (i % (l.length : Int))
theorem mnu_mem {α : Type} {l : List α} {i n : Int} (hn : n = (l.length : Int)) (h0 : 0 < n) : ∃ x, x ∈ l ∧ atI l (i % n) = some x := atI_mod l i n hn h0
/-! ### texts by codes -/
theorem cutS_S (l : List Nat) (lo hi : Option Int) : cutS (SX.S l) lo hi = SX.S (cutA l lo hi) := by
  unfold cutS cutA
  rw [SX.S_len]
theorem cutA_from {α : Type} (l : List α) (k : Nat) : cutA l (some (k : Int)) none = l.drop k := by
  unfold cutA
  rw [HT.sIx_nat]
  show (l.drop (min k l.length)).take (l.length - min k l.length) = l.drop k
  rw [List.take_of_length_le (by simp)]
  by_cases h : k ≤ l.length
  · rw [Nat.min_eq_left h]
  · rw [Nat.min_eq_right (by omega), List.drop_length, List.drop_eq_nil_of_le (by omega)]
theorem cutA_to {α : Type} (l : List α) (k : Nat) : cutA l none (some (k : Int)) = l.take k := by
  unfold cutA
  rw [HT.sIx_nat]
  show (l.drop 0).take (min k l.length - 0) = l.take k
  rw [List.drop_zero, Nat.sub_zero]
  by_cases h : k ≤ l.length
  · rw [Nat.min_eq_left h]
  · rw [Nat.min_eq_right (by omega), List.take_length, List.take_of_length_le (by omega)]
theorem cutA_fromI {α : Type} (l : List α) (i : Int) (h : 0 ≤ i) : cutA l (some i) none = l.drop i.toNat := by
  have := cutA_from l i.toNat
  rwa [Int.toNat_of_nonneg h] at this
theorem cutA_toI {α : Type} (l : List α) (i : Int) (h : 0 ≤ i) : cutA l none (some i) = l.take i.toNat := by
  have := cutA_to l i.toNat
  rwa [Int.toNat_of_nonneg h] at this
theorem cutA_init {α : Type} (l : List α) : cutA l none (some (-1)) = l.dropLast := by
  unfold cutA HT.sIx
  rw [List.dropLast_eq_take]
  cases l with
  | nil => rfl
  | cons x r =>
    simp
    omega
theorem cutA_lastL {α : Type} (l : List α) : cutA l (some (-1)) none = l.drop (l.length - 1) := by
  unfold cutA HT.sIx
  cases l with
  | nil => rfl
  | cons x r =>
    simp
    rw [List.take_of_length_le (by simp)]
    congr 1
    omega
theorem gAdd_S (a b : List Nat) (h : a.length + b.length ≤ LIM) : gAdd (.str (SX.S a)) (.str (SX.S b)) = some (.str (SX.S (a ++ b))) := by
  rw [gAdd_str _ _ (by rw [SX.S_len, SX.S_len]; exact h), SX.S_cat]
def strD : PyData → Option Str
  | .str z => if z.length ≤ LIM then some z else none
  | _ => none
theorem eSlS_S {f : SE} {a b : SO} {ρ : Rho} {l : List Nat} {lo hi : Option Int} (h1 : f ρ = some (.str (SX.S l))) (h2 : a ρ = some lo) (h3 : b ρ = some hi) (hl : l.length ≤ LIM) : eSlS f a b ρ = some (.str (SX.S (cutA l lo hi))) := by
  unfold eSlS
  rw [h1, h2, h3]
  simp only [Option.bind_some]
  rw [if_pos (by rw [SX.S_len]; exact hl), cutS_S]
end RT
/-! Functions that hand back a new book. -/
/-! Functions that hand back a new list; own lists handed in where a list of flat data comes back. -/
namespace RT
open PySem PySem.Spec PyProof.Rows L2
/-! ### data with no list in it -/
mutual
def flatD : PyData → Bool
  | .none => true
  | .bool _ => true
  | .int _ => true
  | .str _ => true
  | .tuple ds => flatDs ds
  | _ => false
def flatDs : List PyData → Bool
  | [] => true
  | d :: ds => flatD d && flatDs ds
end
theorem flatDs_all (ds : List PyData) : flatDs ds = ds.all flatD := by
  induction ds with
  | nil => rfl
  | cons d ds ih => rw [flatDs, ih]; rfl
section
variable {K : PySem.W.Frag} {G G' : Hp} (hG : ∀ a o, G a = some o → (∀ xs, o ≠ .lst xs) → G' a = some o)
include hG
mutual
theorem dq_flat : ∀ (d : PyData) {v : V}, flatD d = true → Dq K G v d → Dq K G' v d
  | .none, _, _, h => by cases h; exact .non
  | .bool b, _, _, h => by cases h; exact .bl b
  | .int i, _, _, h => by cases h; exact .int i
  | .str x, _, _, h => by cases h; exact .str x
  | .tuple ds, v, f, h => by
    have f' : flatDs ds = true := by simpa [flatD] using f
    cases h with
    | tup h1 h2 =>
      refine .tup ?_ (dqa_flat ds f' h2)
      rcases h1 with (h1 | ⟨o, h1⟩) | h1
      · exact .inl (.inl (hG _ _ h1 fun xs z => by cases z))
      · exact .inl (.inr ⟨o, hG _ _ h1 fun xs z => by cases z⟩)
      · exact .inr h1
  | .list ds, v, f, h => by simp [flatD] at f
  | .dict _, _, f, _ => by simp [flatD] at f
theorem dqa_flat : ∀ (ds : List PyData) {vs : List V}, flatDs ds = true → DqAll K G vs ds → DqAll K G' vs ds
  | [], _, _, h => by cases h; exact .nil
  | d :: ds, _, f, h => by
    rw [flatDs, Bool.and_eq_true] at f
    cases h with
    | cons h1 h2 => exact .cons (dq_flat d f.1 h1) (dqa_flat ds f.2 h2)
end
end
/-! ### a part of the heap with the lists beside it -/
def lstsOf (H : Hp) : Hp := fun a => match H a with
  | some (.lst xs) => some (.lst xs)
  | _ => none
def plusL (G H R : Hp) : Hp := fun a => match R a with
  | some _ => none
  | none => match G a with
    | some o => some o
    | none => lstsOf H a
theorem plusL_same {G H R : Hp} (ap : Apart R G) : Same G (plusL G H R) := fun a o h => by
  unfold plusL
  cases hR : R a with
  | none => simp only [h]
  | some u => have := ap a (by rw [hR]; intro z; cases z); rw [this] at h; cases h
theorem plusL_sub {G H R : Hp} (e : Same G H) : Same (plusL G H R) H := fun a o h => by
  unfold plusL at h
  split at h
  · cases h
  · split at h
    · rename_i o' h2
      cases h
      exact e _ _ h2
    · unfold lstsOf at h
      split at h
      · rename_i xs h3
        cases h
        exact h3
      · cases h
theorem plusL_apart {G H R : Hp} : Apart R (plusL G H R) := fun a ha => by
  unfold plusL
  cases hR : R a with
  | none => exact absurd hR ha
  | some u => rfl
theorem plusL_lst {G H R : Hp} {p : Addr} {xs : List V} (e : Same G H) (h : H p = some (.lst xs)) (hR : R p = none) : plusL G H R p = some (.lst xs) := by
  unfold plusL
  rw [hR]
  cases hG : G p with
  | none => simp [lstsOf, h]
  | some o =>
    have := e _ _ hG
    rw [h] at this
    cases this
    rfl
/-- what has come beside, the lists lent taken away -/
def lessL (G H G' : Hp) : Hp := fun a => match G a, H a with
  | none, some _ => none
  | _, _ => G' a
theorem lessL_flat {G H R H' G' : Hp} (e : Same G H) (g : Grow H (plusL G H R) H' G') : ∀ a o, G' a = some o → (∀ xs, o ≠ .lst xs) → lessL G H G' a = some o := fun a o h hn => by
  unfold lessL
  cases hG : G a with
  | some u => exact h
  | none =>
    cases hH : H a with
    | none => exact h
    | some u =>
      exfalso
      cases hp : plusL G H R a with
      | none =>
        have := g.no a hp (by rw [hH]; intro z; cases z)
        rw [this] at h
        cases h
      | some w =>
        have h2 := g.f _ _ hp
        rw [h2] at h
        cases h
        unfold plusL at hp
        split at hp
        · cases hp
        · rw [hG] at hp
          simp only at hp
          unfold lstsOf at hp
          split at hp
          · cases hp
            exact hn _ rfl
          · cases hp
theorem lessL_grow {G H R H' G' : Hp} (e : Same G H) (ap : Apart R G) (g : Grow H (plusL G H R) H' G') : Grow H G H' (lessL G H G') where
  h := g.h
  f := fun a o h => by
    have h2 := g.f _ _ (plusL_same (H := H) ap a o h)
    unfold lessL
    rw [h]
    exact h2
  sub := fun a o h => by
    unfold lessL at h
    split at h
    · cases h
    · exact g.sub _ _ h
  no := fun a h1 h2 => by
    unfold lessL
    rw [h1]
    cases hH : H a with
    | none => exact absurd hH h2
    | some u => rfl
theorem CpAll.allL {K : PySem.W.Frag} {B : Bs} {R : Rg} {G H R' : Hp} (e : Same G H) (ap : Apart R' G) (hR : ∀ p, (∀ i, R i p = none) → B.h p = none → R' p = none) : ∀ {vs : List V} {ds : List PyData}, CpAll K B R G H vs ds → RpAll K (plusL G H R') vs ds
  | [], [], _ => .nil
  | [], _ :: _, h => by cases h
  | _ :: _, [], h => by cases h
  | v :: vs, d :: ds, h => by
    cases h with
    | cons h1 h2 =>
      refine .cons ?_ (CpAll.allL e ap hR h2)
      rcases h1 with h1 | ⟨p, us, es, rfl, rfl, h3, h4, h5, h6⟩
      · exact h1.mono (plusL_same ap)
      · exact .inl (.lst (plusL_lst e h3 (hR p h5 h6)) (dpa_mono (plusL_same ap) _ h4))
theorem apart_noH {G : Hp} : Apart noH G := fun a ha => absurd rfl ha
theorem BpAll.allL {K : PySem.W.Frag} {G H : Hp} (e : Same G H) : ∀ {vs : List V} {ds : List PyData}, BpAll K G H vs ds → RpAll K (plusL G H noH) vs ds
  | [], [], _ => .nil
  | [], _ :: _, h => by cases h
  | _ :: _, [], h => by cases h
  | v :: vs, d :: ds, h => by
    cases h with
    | cons h1 h2 =>
      refine .cons ?_ (BpAll.allL e h2)
      rcases h1 with h1 | ⟨p, us, es, rfl, rfl, h3, h4⟩
      · exact h1.mono (plusL_same apart_noH)
      · exact .inl (.lst (plusL_lst e h3 rfl) (dpa_mono (plusL_same apart_noH) _ h4))
/-- a list of flat data -/
def flatL : PyData → Bool
  | .list es => flatDs es
  | _ => false
def onlyF (o : Option PyData) : Option PyData := o.bind fun d => if flatL d = true then some d else none
def onlyFs (o : Option (List PyData)) : Option (List PyData) := o.bind fun d => if flatDs d = true then some d else none
section
variable {K : PySem.W.Frag} {B : Bs} {ta : TA} {sa : SA}
/-- own lists handed in for a moment: a list of flat data comes back, to be read for a moment -/
theorem callPBF_ok {F : List PyData → Option PyData} (ha : ABOk K B ta sa) : BOk K B (tCall (spPure K F) [] E0 ta) (eCall (fun ds => onlyF (F ds)) sa) := fun Rg F' H σ ρ d E q Q kk => by
  cases e1 : sa ρ with
  | none => simp [eCall, e1] at q
  | some ds =>
    have q' : onlyF (F ds) = some d := by simpa [eCall, e1] using q
    unfold onlyF at q'
    cases e2 : F ds with
    | none => simp [e2] at q'
    | some d' =>
      rw [e2, Option.bind_some] at q'
      split at q'
      · rename_i hs
        cases q'
        refine ha _ F' H σ ρ ds E e1 _ fun vs H1 G1 g1 r1 => ?_
        rw [List.append_nil]
        refine ⟨plusL G1 H1 noH, ds, _, plusL_sub g1.sub, BpAll.allL g1.sub r1, e2, fun v H' G' g r => kk v H' _ (g1.trans (lessL_grow g1.sub apart_noH g)) ?_⟩
        cases d with
        | list es =>
          rcases r with r | ⟨a, _, z⟩ | ⟨a, ns, _, z, _⟩
          · cases r with
            | lst h1 h2 => exact .inr ⟨_, _, es, rfl, rfl, g.sub _ _ h1, dqa_flat (lessL_flat g1.sub g) es hs h2⟩
          · cases z
          · exact absurd z (by intro z; cases z)
        | _ => simp [flatL] at hs
      · cases q'
/-! ### functions that hand back a new list -/
def spNewL (K : PySem.W.Frag) (Ff : List PyData → Option (List PyData)) : Sp := fun vs H Q _ => ∃ (G : Hp) (ds es : List PyData), Same G H ∧ RpAll K G vs ds ∧ Ff ds = some es ∧
  ∀ p xs H' G', Grow H G H' G' → H p = none → G' p = none → H' p = some (.lst xs) → DqAll K G' xs es → Q (.ref p) H'
def spRL {S : Type} (K : PySem.W.Frag) (kd : Kd S) (Fr : S → List PyData → Option (List PyData)) : Sp := fun vs H Q _ => ∃ (G R : Hp) (a : Addr) (β : S) (us : List V) (ds es : List PyData), vs = .ref a :: us ∧ Same G H ∧ Same R H ∧ Apart R G ∧ ObjAt K G R a (kd.inj β) ∧ RpAll K G us ds ∧ Fr β ds = some es ∧
  ∀ p xs H' G', Grow H G H' G' → H p = none → G' p = none → H' p = some (.lst xs) → DqAll K G' xs es → Q (.ref p) H'
def sRetL (i : Nat) : SS := fun ρ => match ρ[i]? with
  | some (.own _) => .ro i ρ
  | _ => .no
def ownO : Option Sl → Option (List PyData)
  | some (.own es) => some es
  | _ => none
def runL (N : List Str) (n : Nat) (b : SS) : List PyData → Option (List PyData) := fun ds => if ds.length = n then (match b (rho0 N ds) with
  | .ro i ρ => ownO ρ[i]?
  | _ => none) else none
theorem retL_ok {W : XW} (i : Nat) : SSOk K B W (tRet (tVar i)) (sRetL i) := fun Z R F H σ ρ D s hg => by
  unfold sRetL at hg
  split at hg
  · rename_i o e
    obtain ⟨p, vs, h1, _⟩ := s.env.own i _ e
    exact ⟨.ref p, h1, hg (.ref p) σ H R F s h1 (Same.refl F)⟩
  · exact hg.elim
theorem sp_bodyBL {N : List Str} {n : Nat} {b : SS} {t : TS} (k : SSOk K B W0 t b) {vs : List V} {H G : Hp} {ds es : List PyData} {Q : VK} (bo : BsOk K B G H) (e : Same G H) (hR : RpAll K G vs ds) (hF : runL N n b ds = some es)
    (hQ : ∀ p xs H' G', Grow H G H' G' → H p = none → G' p = none → H' p = some (.lst xs) → DqAll K G' xs es → Q (.ref p) H') : t { nx := fun _ H' => Q .non H', rt := Q } (start N vs) H := by
  refine k ⟨noH, H, G⟩ noR G H _ _ _ (start_ok bo e hR) ?_
  unfold runL at hF
  split at hF
  · cases hb : b (rho0 N ds) with
    | no => rw [hb] at hF; cases hF
    | nx r => rw [hb] at hF; cases hF
    | rt d r => rw [hb] at hF; cases hF
    | ex c r => rw [hb] at hF; cases hF
    | ro i r =>
      rw [hb] at hF
      have ho : r[i]? = some (.own es) := by
        have hF' : ownO r[i]? = some es := hF
        unfold ownO at hF'
        split at hF'
        · rename_i es' h; cases hF'; exact h
        · cases hF'
      exact fun v σ H' R' F' s hv _ => by
        obtain ⟨p, vs, h1, h3, h4, h5, _⟩ := s.env.own i _ ho
        have hz := s.fr i _ p ho h1
        rw [h1] at hv
        cases hv
        exact hQ p vs H' F' s.gr.pure hz h5 h3 h4
  · cases hF
open Classical in
noncomputable def frLOf {S : Type} (kd : Kd S) (N : List Str) (n : Nat) (b : (Addr → Option ObjSt) → SS) : S → List PyData → Option (List PyData) := fun β ds =>
  if h : ∃ d, ∀ a, runL N n (b (only a (kd.inj β))) (refD a :: ds) = some d then some h.choose else none
theorem frLOf_ok {S : Type} {kd : Kd S} {N : List Str} {n : Nat} {b : (Addr → Option ObjSt) → SS} {β : S} {ds es : List PyData} (h : frLOf kd N n b β ds = some es) : ∀ a, runL N n (b (only a (kd.inj β))) (refD a :: ds) = some es := by
  unfold frLOf at h
  split at h
  · rename_i h2
    cases h
    exact h2.choose_spec
  · cases h
theorem frLOf_eq {S : Type} {kd : Kd S} {N : List Str} {n : Nat} {b : (Addr → Option ObjSt) → SS} {β : S} {ds es : List PyData} (h : ∀ a, runL N n (b (only a (kd.inj β))) (refD a :: ds) = some es) : frLOf kd N n b β ds = some es := by
  unfold frLOf
  have h' : ∃ d, ∀ a, runL N n (b (only a (kd.inj β))) (refD a :: ds) = some d := ⟨es, h⟩
  rw [dif_pos h']
  exact (h'.choose_spec 0).symm.trans (h 0)
theorem runL_len {N : List Str} {n : Nat} {b : SS} {ds es : List PyData} (q : runL N n b ds = some es) : ds.length = n := by
  unfold runL at q
  split at q
  · assumption
  · cases q
theorem sp_runL {X : Cx} {N : List Str} {n : Nat} {st : List Stmt} {b : SS} {vs : List V} {H : Hp} {Q : VK} {E : XK}
    (k : ∃ t, SemSs X.nox K noB W0 st t b) (h : spNewL K (runL N n b) vs H Q E) : ∃ t, PSs X st t ∧ t { nx := fun _ H' => Q .non H', rt := Q } (start N vs) H := by
  obtain ⟨G, ds, es, e, hR, hF, hQ⟩ := h
  obtain ⟨t, k⟩ := k
  exact ⟨t, k.ps.nox, sp_bodyBL k.ok bsOk_no e hR hF hQ⟩
theorem sp_runRL {S : Type} {kd : Kd S} {X : Cx} {N : List Str} {n : Nat} {st : List Stmt} {b : (Addr → Option ObjSt) → SS} {vs : List V} {H : Hp} {Q : VK} {E : XK}
    (k : ∀ B : Bs, ∃ t, SemSs X.nox K B W0 st t (b B.bk)) (h : spRL K kd (frLOf kd N n b) vs H Q E) : ∃ t, PSs X st t ∧ t { nx := fun _ H' => Q .non H', rt := Q } (start N vs) H := by
  obtain ⟨G, R, a, β, us, ds, es, rfl, e, eR, ap, bA, r, q, hQ⟩ := h
  have bo : BsOk K ⟨R, G, only a (kd.inj β), none⟩ G H := ⟨Same.refl G, eR, ap, only_ok bA⟩
  obtain ⟨t, k⟩ := k ⟨R, G, only a (kd.inj β), none⟩
  exact ⟨t, k.ps.nox, sp_bodyBL k.ok bo e (.cons (.inr (.inl ⟨a, rfl, rfl⟩)) r) (frLOf_ok q a) hQ⟩
theorem spNewL_len {N : List Str} {n : Nat} {b : SS} {vs : List V} {H : Hp} {Q : VK} {E : XK} (h : spNewL K (runL N n b) vs H Q E) : vs.length = n := by
  obtain ⟨G, ds, es, e, hR, hF, hQ⟩ := h
  rw [hR.len]
  exact runL_len hF
theorem spRL_len {S : Type} {kd : Kd S} {N : List Str} {n : Nat} {b : (Addr → Option ObjSt) → SS} {vs : List V} {H : Hp} {Q : VK} {E : XK} (h : spRL K kd (frLOf kd N n b) vs H Q E) : vs.length = n := by
  obtain ⟨G, R, a, β, us, ds, es, rfl, e, eR, ap, bA, r, q, hQ⟩ := h
  have := runL_len (frLOf_ok q a)
  rw [List.length_cons, r.len]
  simpa using this
structure PFL (P : Program) (w : World) (K : PySem.W.Frag) (mg : Str → Option Value) (base : Heap) (k : Nat) (x : Str) (Ff : List PyData → Option (List PyData)) : Prop where
  ex : ∃ (f : Addr) (fd : FuncData) (ps : List Str), FnOk P w K mg base CX0 k f fd ps (spNewL K Ff) ∧ mg x = some (.ref f) ∧ PySem.W.keepIn K (.ref f) = true ∧ Binds K fd ps []
structure PFRL {S : Type} (P : Program) (w : World) (K : PySem.W.Frag) (mg : Str → Option Value) (base : Heap) (k : Nat) (kd : Kd S) (x : Str) (Fr : S → List PyData → Option (List PyData)) : Prop where
  ex : ∃ (f : Addr) (fd : FuncData) (ps : List Str), FnOk P w K mg base CX0 k f fd ps (spRL K kd Fr) ∧ mg x = some (.ref f) ∧ PySem.W.keepIn K (.ref f) = true ∧ Binds K fd ps []
theorem callL_ok {Ff : List PyData → Option (List PyData)} (ha : AOk K B ta sa) : LOk K B (tCall (spNewL K Ff) [] E0 ta) (eCallL Ff sa) := fun R F H σ ρ es E q Q k => by
  unfold eCallL at q
  cases e1 : sa ρ with
  | none => rw [e1] at q; cases q
  | some ds =>
    rw [e1, Option.bind_some] at q
    refine ha _ F H σ ρ ds E e1 _ fun vs H1 G1 g1 r1 => ?_
    rw [List.append_nil]
    exact ⟨G1, ds, es, g1.sub, r1, q, fun p xs H' G' g h1 h2 h3 h4 => k p xs H' G' (g1.trans g) (g1.h.free h1) h2 h3 h4⟩
def eMethL {S : Type} (kd : Kd S) (bk : Addr → Option ObjSt) (i : Nat) (Fr : S → List PyData → Option (List PyData)) (sa : SA) : SA := fun ρ => (rcv kd bk ρ i).bind fun β => (sa ρ).bind fun ds => Fr β ds
theorem callRL_ok {S : Type} {kd : Kd S} {i : Nat} {Fr : S → List PyData → Option (List PyData)} (ha : AOk K B ta sa) : LOk K B (tCall (spRL K kd Fr) [] E0 (tCons (tVar i) ta)) (eMethL kd B.bk i Fr sa) := fun R F H σ ρ es E q Q k => by
  unfold eMethL at q
  cases e1 : rcv kd B.bk ρ i with
  | none => rw [e1] at q; cases q
  | some β =>
    cases e2 : sa ρ with
    | none => rw [e1, e2] at q; cases q
    | some ds =>
      rw [e1, e2, Option.bind_some, Option.bind_some] at q
      obtain ⟨a, R', s1, bA, sR, ap, hR⟩ := rcv_ok2 E e1
      refine ⟨.ref a, s1, ha _ F H σ ρ ds E e2 _ fun vs H1 G1 g1 r1 => ?_⟩
      show spRL K kd Fr ((.ref a :: vs) ++ []) H1 Q E0
      rw [List.append_nil]
      exact ⟨G1, R', a, β, vs, ds, es, rfl, g1.sub, sR.trans g1.h, g1.apart sR ap, bA.mono g1.f (Same.refl _), r1, q, fun p xs H' G' g h1 h2 h3 h4 => k p xs H' G' (g1.trans g) (g1.h.free h1) h2 h3 h4⟩
theorem callRLB_ok {S : Type} {kd : Kd S} {i : Nat} {Fr : S → List PyData → Option (List PyData)} (ha : CAOk K B ta sa) : LOk K B (tCall (spRL K kd Fr) [] E0 (tCons (tVar i) ta)) (fun ρ => onlyFs (eMethL kd B.bk i Fr sa ρ)) := fun R F H σ ρ es E q Q k => by
  have q : (eMethL kd B.bk i Fr sa ρ).bind (fun d => if flatDs d = true then some d else none) = some es := q
  unfold eMethL at q
  cases e1 : rcv kd B.bk ρ i with
  | none => rw [e1] at q; cases q
  | some β =>
    cases e2 : sa ρ with
    | none => rw [e1, e2] at q; cases q
    | some ds =>
      rw [e1, e2, Option.bind_some, Option.bind_some] at q
      cases e3 : Fr β ds with
      | none => rw [e3] at q; cases q
      | some es' =>
        rw [e3, Option.bind_some] at q
        split at q
        · rename_i hs
          cases q
          obtain ⟨a, R', s1, bA, sR, ap, hR⟩ := rcv_ok2 E e1
          refine ⟨.ref a, s1, ha _ F H σ ρ ds E e2 _ fun vs H1 G1 g1 r1 => ?_⟩
          show spRL K kd Fr ((.ref a :: vs) ++ []) H1 Q E0
          rw [List.append_nil]
          have ap1 : Apart R' G1 := g1.apart sR ap
          refine ⟨plusL G1 H1 R', R', a, β, vs, ds, es, rfl, plusL_sub g1.sub, sR.trans g1.h, plusL_apart, bA.mono (g1.f.trans (plusL_same ap1)) (Same.refl _), r1.allL g1.sub ap1 hR, e3, fun p xs H' G' g h1 h2 h3 h4 => ?_⟩
          refine k p xs H' _ (g1.trans (lessL_grow g1.sub ap1 g)) (g1.h.free h1) ?_ h3 (dqa_flat (lessL_flat g1.sub g) es hs h4)
          unfold lessL
          split
          · rfl
          · exact h2
        · cases q
/-- x + y, a new list -/
def lAdd (f1 f2 : SE) : SA := fun ρ => (eOp gAdd f1 f2 ρ).bind fun d => match d with
  | .list ds => some ds
  | _ => none
theorem addLL {G H : Hp} {x y : V} {d1 d2 : PyData} {es : List PyData} (e : Same G H) (b1 : Bp K G H x d1) (b2 : Bp K G H y d2) (q : gAdd d1 d2 = some (.list es)) {Q : VK}
    (k : ∀ p vs H' G', Grow H G H' G' → H p = none → G' p = none → H' p = some (.lst vs) → DqAll K G' vs es → Q (.ref p) H') : rAdd3 x y H Q := by
  cases d1 with
  | list i =>
    cases d2 with
    | list j =>
      have q' : (if i.length + j.length ≤ LIM then some (PyData.list (i ++ j)) else none) = some (.list es) := q
      split at q'
      · rename_i hc
        cases q'
        obtain ⟨p1, vs, rfl, h1, a1⟩ := b1.list e
        obtain ⟨p2, ws, rfl, h2, a2⟩ := b2.list e
        refine .inr (.inr ⟨p1, p2, vs, ws, rfl, rfl, h1, h2, lim_line (by rw [a1.len, a2.len]; exact hc), fun p hp => k p _ _ G ⟨Same.upd_new (Same.refl H) hp, Same.refl G, Same.upd_new e hp, fun _ h _ => h⟩ hp (e.free hp) upd_same (a1.append a2)⟩)
      · cases q'
    | _ => simp [gAdd, alt, gAddI, gI, gAddS, gAddL] at q
  | int i => cases d2 <;> simp [gAdd, alt, gAddI, gI, gAddS, gAddL, yesC] at q
  | str i =>
    cases d2 with
    | str j =>
      have q' : (if i.length + j.length ≤ LIM then some (PyData.str (i ++ j)) else none) = some (.list es) := by
        by_cases hc : i.length + j.length ≤ LIM
        · simp [gAdd, alt, gAddI, gI, gAddS, hc] at q
        · simp [gAdd, alt, gAddI, gI, gAddS, gAddL, hc] at q
      split at q' <;> cases q'
    | _ => simp [gAdd, alt, gAddI, gI, gAddS, gAddL] at q
  | _ => simp [gAdd, alt, gAddI, gI, gAddS, gAddL] at q
theorem addL_ok {t1 t2 : TE} {f1 f2 : SE} (h1 : BOk K B t1 f1) (h2 : BOk K B t2 f2) : LOk K B (tOp rAdd3 t1 t2) (lAdd f1 f2) := fun R F H σ ρ es E q Q k => by
  unfold lAdd eOp at q
  cases e1 : f1 ρ with
  | none => simp [e1] at q
  | some x =>
    cases e2 : f2 ρ with
    | none => simp [e1, e2] at q
    | some y =>
      rw [e1, e2, Option.bind_some, Option.bind_some] at q
      cases e3 : gAdd x y with
      | none => rw [e3] at q; cases q
      | some d =>
        rw [e3, Option.bind_some] at q
        cases d with
        | list ds =>
          cases q
          exact h1 R F H σ ρ x E e1 _ fun v H1 G1 g1 b1 => h2 R G1 H1 σ ρ y (E.grow g1) e2 _ fun u H2 G2 g2 b2 => addLL g2.sub (b1.mono g2.f g2.h) b2 e3 fun p vs H3 G3 g3 r1 r2 r3 r4 =>
            k p vs H3 G3 (g1.trans (g2.trans g3)) (g1.h.free (g2.h.free r1)) r2 r3 r4
        | _ => cases q
end
section
variable {S : Type} {kd : Kd S} {X : Cx} {K : PySem.W.Frag} {B : Bs} {W : XW} {e a b : Expr} {es : List Expr} {t1 t2 : TE} {f1 f2 : SE} {ta : TA} {sa : SA} {x y : Str} {p p2 pos pos2 : Pos} {k j : Nat} {F : List PyData → Option PyData} {Ff : List PyData → Option (List PyData)} {Fr : S → List PyData → Option (List PyData)}
theorem s_retL (i : Nat) (hp : PE X e (tVar i)) : SemS X K B W (.Return (some e) pos) (tRet (tVar i)) (sRetL i) := ⟨ps_ret hp, retL_ok i⟩
theorem sl_add (h1 : SemB X K B a t1 f1) (h2 : SemB X K B b t2 f2) : SemL X K B (.BinOp a .Add b pos) (tOp rAdd3 t1 t2) (lAdd f1 f2) := ⟨pe_op op_add3 h1.pe h2.pe, addL_ok h1.ok h2.ok⟩
theorem sb_callBF (C : PF X.prog X.w K X.mg X.base k x F) (hr : Room j X.A) (ha : SemAB X K B (e :: es) ta sa) (hk : k ≤ j := by decide) (hg : Gl X x := by rfl) (hdb : (x == ("__debug__" : Str)) = false := by decide)
    (he : starEach (e :: es) X.env = (false, eval e X.env) :: starEach es X.env := by rfl) (hpl : (backTo pos (starEach es X.env)).any (·.1) = false := by rfl) (hK : X.K = K := by rfl) : SemB X K B (.Call (.Name x p) (e :: es) [] pos) (tCall (spPure K F) [] E0 ta) (eCall (fun ds => onlyF (F ds)) sa) := by
  subst hK
  obtain ⟨f, fd, ps, h1, h2, h3, h4⟩ := C.ex
  exact ⟨pe_call h1 (hr.mono hk) hg h2 h3 h4 .nil pass0 ha.pa hdb he hpl, callPBF_ok ha.ok⟩
theorem sl_callL (C : PFL X.prog X.w K X.mg X.base k x Ff) (hr : Room j X.A) (ha : SemA X K B (e :: es) ta sa) (hk : k ≤ j := by decide) (hg : Gl X x := by rfl) (hdb : (x == ("__debug__" : Str)) = false := by decide)
    (he : starEach (e :: es) X.env = (false, eval e X.env) :: starEach es X.env := by rfl) (hpl : (backTo pos (starEach es X.env)).any (·.1) = false := by rfl) (hK : X.K = K := by rfl) : SemL X K B (.Call (.Name x p) (e :: es) [] pos) (tCall (spNewL K Ff) [] E0 ta) (eCallL Ff sa) := by
  subst hK
  obtain ⟨f, fd, ps, h1, h2, h3, h4⟩ := C.ex
  exact ⟨pe_call h1 (hr.mono hk) hg h2 h3 h4 .nil pass0 ha.pa hdb he hpl, callL_ok ha.ok⟩
theorem sl_callRL (i : Nat) (C : PFRL X.prog X.w K X.mg X.base k kd x Fr) (hr : Room j X.A) (ha : SemA X K B es ta sa) (hp : PE X (.Name y p2) (tVar i)) (hk : k ≤ j := by decide) (hg : Gl X x := by rfl) (hdb : (x == ("__debug__" : Str)) = false := by decide)
    (he : starEach (.Name y p2 :: es) X.env = (false, eval (.Name y p2) X.env) :: starEach es X.env := by rfl) (hpl : (backTo pos (starEach es X.env)).any (·.1) = false := by rfl) (hK : X.K = K := by rfl) :
    SemL X K B (.Call (.Name x p) (.Name y p2 :: es) [] pos) (tCall (spRL K kd Fr) [] E0 (tCons (tVar i) ta)) (eMethL kd B.bk i Fr sa) := by
  subst hK
  obtain ⟨f, fd, ps, h1, h2, h3, h4⟩ := C.ex
  exact ⟨pe_call h1 (hr.mono hk) hg h2 h3 h4 .nil pass0 (pa_cons hp ha.pa he) hdb he hpl, callRL_ok ha.ok⟩
theorem sl_callRLB (i : Nat) (C : PFRL X.prog X.w K X.mg X.base k kd x Fr) (hr : Room j X.A) (ha : SemCA X K B es ta sa) (hp : PE X (.Name y p2) (tVar i)) (hk : k ≤ j := by decide) (hg : Gl X x := by rfl) (hdb : (x == ("__debug__" : Str)) = false := by decide)
    (he : starEach (.Name y p2 :: es) X.env = (false, eval (.Name y p2) X.env) :: starEach es X.env := by rfl) (hpl : (backTo pos (starEach es X.env)).any (·.1) = false := by rfl) (hK : X.K = K := by rfl) :
    SemL X K B (.Call (.Name x p) (.Name y p2 :: es) [] pos) (tCall (spRL K kd Fr) [] E0 (tCons (tVar i) ta)) (fun ρ => onlyFs (eMethL kd B.bk i Fr sa ρ)) := by
  subst hK
  obtain ⟨f, fd, ps, h1, h2, h3, h4⟩ := C.ex
  exact ⟨pe_call h1 (hr.mono hk) hg h2 h3 h4 .nil pass0 (pa_cons hp ha.pa he) hdb he hpl, callRLB_ok ha.ok⟩
end
/-! ### one own list becomes data -/
theorem StOk.frzI {K : PySem.W.Frag} {B : Bs} {Z : St0} {R : Rg} {F H : Hp} {σ : L2.St} {ρ : Rho} (s : StOk K B Z R F H σ ρ) (j : Nat) {ds : List PyData} (hj : ρ[j]? = some (.own ds)) : ∃ F', Same F F' ∧ StOk K B Z R F' H σ (ρ.set j (.val (.list ds))) := by
  obtain ⟨p, vs, e1, e2, e3, e4, e5, e6⟩ := s.env.own j ds hj
  have hz := s.fr j ds p hj e1
  have jl : j < ρ.length := (List.getElem?_eq_some_iff.mp hj).1
  let F' : Hp := fun a => if a = p then some (.lst vs) else F a
  have sm : Same F F' := fun a o h => by
    show (if a = p then _ else F a) = some o
    by_cases ha : a = p
    · subst ha; rw [e4] at h; cases h
    · rw [if_neg ha]; exact h
  have sb : Same F' H := fun a o h => by
    have h' : (if a = p then some (.lst vs) else F a) = some o := h
    by_cases ha : a = p
    · subst ha; rw [if_pos rfl] at h'; rw [e2, h']
    · rw [if_neg ha] at h'; exact s.env.ex a o h'
  have oth : ∀ (i : Nat) (x : Sl), (ρ.set j (.val (.list ds)))[i]? = some x → (i = j ∧ x = .val (.list ds)) ∨ (i ≠ j ∧ ρ[i]? = some x) := fun i x h => by
    by_cases hi : i = j
    · subst hi
      rw [List.getElem?_set_self jl] at h
      cases h
      exact .inl ⟨rfl, rfl⟩
    · rw [List.getElem?_set_ne (Ne.symm hi)] at h
      exact .inr ⟨hi, h⟩
  refine ⟨F', sm, ⟨s.env.bs.trans sm, s.env.bh, fun a ha => ?_, s.env.bo, sb, s.env.rh, fun i a ha => ?_, s.env.rB, s.env.rr, by simp [s.env.len], fun i d h => ?_, fun i es h => ?_, fun i k es fs q hik h1 h2 h3 h4 => ?_, fun i o h => ?_, fun a0 q o a h h2 => ?_⟩, ⟨s.gr.h, s.gr.al, s.gr.f.trans sm, sb, fun a h1 h2 => ?_⟩, fun i es q h h2 => ?_, s.fo⟩
  · show (if a = p then _ else F a) = none
    by_cases hp : a = p
    · subst hp; exact absurd e6 ha
    · rw [if_neg hp]; exact s.env.bF a ha
  · show (if a = p then _ else F a) = none
    by_cases hp : a = p
    · subst hp; exact absurd (e5 i) ha
    · rw [if_neg hp]; exact s.env.rF i a ha
  · rcases oth i _ h with ⟨rfl, hx⟩ | ⟨hi, hx⟩
    · cases hx
      refine ⟨.ref p, e1, .inl (.lst ?_ (dpa_mono sm ds e3))⟩
      show (if p = p then _ else F p) = some (.lst vs)
      rw [if_pos rfl]
    · obtain ⟨v, h1, h2⟩ := s.env.val i d hx
      exact ⟨v, h1, h2.mono sm⟩
  · rcases oth i _ h with ⟨_, hx⟩ | ⟨hi, hx⟩
    · cases hx
    · obtain ⟨p', ws, h1, h2, h3, h4, h5⟩ := s.env.own i es hx
      refine ⟨p', ws, h1, h2, dpa_mono sm es h3, ?_, h5⟩
      show (if p' = p then _ else F p') = none
      by_cases hp : p' = p
      · subst hp
        exact (s.env.dis i j es ds p' hi hx hj h1 e1).elim
      · rw [if_neg hp]; exact h4
  · rcases oth i _ h1 with ⟨_, hx⟩ | ⟨_, hx⟩
    · cases hx
    · rcases oth k _ h2 with ⟨_, hy⟩ | ⟨_, hy⟩
      · cases hy
      · exact s.env.dis i k es fs q hik hx hy h3 h4
  · rcases oth i _ h with ⟨_, hx⟩ | ⟨_, hx⟩
    · cases hx
    · obtain ⟨a, h1, h2⟩ := s.env.obj i o hx
      exact ⟨a, h1, h2.mono sm (Same.refl (R i))⟩
  · rcases oth 0 _ h with ⟨_, hx⟩ | ⟨_, hx⟩
    · cases hx
    · exact s.env.oa a0 q o a hx h2
  · show (if a = p then _ else F a) = none
    by_cases hp : a = p
    · subst hp; exact absurd hz h2
    · rw [if_neg hp]; exact s.gr.no a h1 h2
  · rcases oth i _ h with ⟨_, hx⟩ | ⟨_, hx⟩
    · cases hx
    · exact s.fr i es q hx h2
def sFrzI (j : Nat) (f : SS) : SS := fun ρ => match ρ[j]? with
  | some (.own ds) => f (ρ.set j (.val (.list ds)))
  | _ => .no
theorem s_frzI {X : Cx} {K : PySem.W.Frag} {B : Bs} {W : XW} {st : Stmt} {t : TS} {f : SS} (j : Nat) (h : SemS X K B W st t f) : SemS X K B W st t (sFrzI j f) := ⟨h.ps, fun Z R F H σ ρ D s hg => by
  unfold sFrzI at hg
  split at hg
  · rename_i ds e
    obtain ⟨F', e1, s'⟩ := s.frzI j e
    exact h.ok Z R F' H σ _ D s' (Goes.mono hg e1)
  · exact hg.elim⟩
@[simp] theorem sFrzI_eq (j : Nat) (f : SS) (ρ : Rho) : sFrzI j f ρ = outL (ownL ρ[j]?) fun ds => f (ρ.set j (.val (.list ds))) := by
  unfold sFrzI
  cases ρ[j]? with
  | none => rfl
  | some x => cases x <;> rfl
@[simp] theorem sRetL_own {i : Nat} {ρ : Rho} {ds : List PyData} (h : ρ[i]? = some (.own ds)) : sRetL i ρ = .ro i ρ := by unfold sRetL; rw [h]
@[simp] theorem onlyF_list (es : List PyData) (h : flatDs es = true) : onlyF (some (.list es)) = some (.list es) := by
  show (if flatL (.list es) = true then _ else _) = _
  rw [if_pos (by exact h)]
@[simp] theorem onlyFs_some (es : List PyData) (h : flatDs es = true) : onlyFs (some es) = some es := by
  show (if flatDs es = true then _ else _) = _
  rw [if_pos h]
theorem lAdd_eq (f1 f2 : SE) (ρ : Rho) : lAdd f1 f2 ρ = ((f1 ρ).bind fun x => (f2 ρ).bind fun y => gAdd x y).bind lisD := by
  unfold lAdd eOp
  cases (f1 ρ).bind fun x => (f2 ρ).bind fun y => gAdd x y with
  | none => rfl
  | some d => cases d <;> rfl
theorem eMethL_eq {S : Type} {kd : Kd S} (bk : Addr → Option ObjSt) (i : Nat) (Fr : S → List PyData → Option (List PyData)) (sa : SA) (ρ : Rho) : eMethL kd bk i Fr sa ρ = (rcv kd bk ρ i).bind fun β => (sa ρ).bind fun ds => Fr β ds := rfl
theorem runL_eq {N : List Str} {n : Nat} {b : SS} {ds es : List PyData} {i : Nat} {ρ : Rho} (h : ds.length = n) (e : b (rho0 N ds) = .ro i ρ) (h0 : ρ[i]? = some (.own es)) : runL N n b ds = some es := by
  unfold runL
  simp only [h, if_true, e, h0]
  rfl
end RT
/-! Functions that hand back a new book. -/
/-! A deal's fields: read, changed. -/
namespace RT
open PySem PySem.Spec PyProof.Rows L2
structure DkT (K : PySem.W.Frag) : Prop where
  cl : Cls K (He.ga K "Deal")
  no : ∀ f, f ∈ flD → NoAttr K (He.ga K "Deal") f
theorem lk_Dl (dL : Addr) (as : List Addr) : (dlFs dL as).lookup ("limits" : Str) = some (.ref dL) := by simp [dlFs, List.lookup]
theorem lk_D {dL : Addr} {as : List Addr} {j : Nat} {f : Str} {p : Addr} (hf : nmD[j]? = some f) (hp : as[j]? = some p) : (dlFs dL as).lookup f = some (.ref p) := by
  have a1 : (("places" : Str) == "limits") = false := by decide +kernel
  have a2 : (("days" : Str) == "limits") = false := by decide +kernel
  have a3 : (("days" : Str) == "places") = false := by decide +kernel
  have a4 : (("able" : Str) == "limits") = false := by decide +kernel
  have a5 : (("able" : Str) == "places") = false := by decide +kernel
  have a6 : (("able" : Str) == "days") = false := by decide +kernel
  have a7 : (("who" : Str) == "limits") = false := by decide +kernel
  have a8 : (("who" : Str) == "places") = false := by decide +kernel
  have a9 : (("who" : Str) == "days") = false := by decide +kernel
  have a10 : (("who" : Str) == "able") = false := by decide +kernel
  match j, as, hf, hp with
  | 0, x :: _, hf, hp => simp [nmD] at hf hp; subst hf; subst hp; simp [dlFs, nmD, List.lookup, a1]
  | 1, _ :: x :: _, hf, hp => simp [nmD] at hf hp; subst hf; subst hp; simp [dlFs, nmD, List.lookup, a2, a3]
  | 2, _ :: _ :: x :: _, hf, hp => simp [nmD] at hf hp; subst hf; subst hp; simp [dlFs, nmD, List.lookup, a4, a5, a6]
  | 3, _ :: _ :: _ :: x :: _, hf, hp => simp [nmD] at hf hp; subst hf; subst hp; simp [dlFs, nmD, List.lookup, a7, a8, a9, a10]
  | j + 4, _, hf, _ => simp [nmD] at hf
/-- self.f, a list of the deal, read for a moment -/
def eFld (bk : Addr → Option ObjSt) (i j : Nat) : SE := fun ρ => (rcv kD bk ρ i).bind fun δ => (δ.ls[j]?).map .list
theorem fld_ok {K : PySem.W.Frag} {B : Bs} (T : DkT K) {i j : Nat} {f : Str} (hf : nmD[j]? = some f) : BOk K B (tFld K (tVar i) f) (eFld B.bk i j) := fun R F H σ ρ d E q Q k => by
  unfold eFld at q
  cases e1 : rcv kD B.bk ρ i with
  | none => rw [e1] at q; cases q
  | some δ =>
    rw [e1, Option.bind_some] at q
    cases e2 : δ.ls[j]? with
    | none => rw [e2] at q; cases q
    | some ds =>
      rw [e2] at q
      cases q
      obtain ⟨a, R', s1, bA, sR, ap, hR⟩ := rcv_ok2 E e1
      obtain ⟨dx, dL, as, h⟩ := (show DealAt K F R' a δ from bA)
      have hj : j < as.length := by rw [h.la]; exact (List.getElem?_eq_some_iff.mp e2).1
      obtain ⟨vs, h1, h2⟩ := h.ls j as[j] ds (List.getElem?_eq_getElem hj) e2
      exact ⟨.ref a, s1, a, _, dx, _, _, rfl, sR _ _ h.ob, T.cl, T.no f (List.mem_cons_of_mem _ (List.mem_of_getElem? hf)), lk_D hf (List.getElem?_eq_getElem hj), k _ H F (Grow.refl E.ex) (.inr ⟨as[j], vs, ds, rfl, rfl, sR _ _ h1, h2⟩)⟩
/-- self.limits[name] -/
def lookN (l : List (Str × Int)) (n : Str) : Option Int := (l.find? fun x => decide (x.1 = n)).map (·.2)
def putN (l : List (Str × Int)) (n : Str) (v : Int) : List (Str × Int) := if (l.any fun x => decide (x.1 = n)) = true then l.map (fun x => if x.1 = n then (x.1, v) else x) else l ++ [(n, v)]
def eLim (bk : Addr → Option ObjSt) (i : Nat) (f : SE) : SE := fun ρ => (rcv kD bk ρ i).bind fun δ => (f ρ).bind fun d => match d with
  | .str n => (lookN δ.limits n).map .int
  | _ => none
theorem lim_val (l : List (Str × Int)) (n : Str) : valV (kvD l) (Sum.inr n) = (lookN l n).map V.int := by
  unfold kvD lookN
  rw [valV_map]
  cases l.find? fun x => decide (x.1 = n) <;> rfl
theorem lim_ok {K : PySem.W.Frag} {B : Bs} (T : DkT K) {i : Nat} {tx : TE} {fx : SE} (hx : EOk K B tx fx) : EOk K B (tDGet (tFld K (tVar i) "limits") tx) (eLim B.bk i fx) := fun R F H σ ρ d E q Q k => by
  unfold eLim at q
  cases e1 : rcv kD B.bk ρ i with
  | none => rw [e1] at q; cases q
  | some δ =>
    rw [e1, Option.bind_some] at q
    cases e2 : fx ρ with
    | none => rw [e2] at q; cases q
    | some x =>
      rw [e2, Option.bind_some] at q
      cases x with
      | str n =>
        cases e3 : lookN δ.limits n with
        | none => simp [e3] at q
        | some v =>
          simp only [e3, Option.map_some, Option.some.injEq] at q
          subst q
          obtain ⟨a, R', s1, bA, sR, ap, hR⟩ := rcv_ok2 E e1
          obtain ⟨dx, dL, as, h⟩ := (show DealAt K F R' a δ from bA)
          refine ⟨.ref a, s1, a, _, dx, _, _, rfl, sR _ _ h.ob, T.cl, T.no _ List.mem_cons_self, lk_Dl dL as, ?_⟩
          refine hx R F H σ ρ _ E e2 _ fun u H2 G2 g2 r2 => ?_
          have hu := r2.s
          subst hu
          refine ⟨dL, .int v, rfl, ?_, k _ H2 G2 g2 (rp_int v)⟩
          have := DGet.k (k := Sum.inr n) (g2.h _ _ (sR _ _ h.cL))
          rw [lim_val, e3] at this
          exact this
      | _ => cases q
section
variable {X : Cx} {K : PySem.W.Frag} {B : Bs} {W : XW} {e e2 : Expr} {tx tv : TE} {fx fv : SE} {pos p2 : Pos} {i : Nat}
theorem sb_fld (T : DkT K) (i j : Nat) {f : Str} (hp : PE X e (tVar i)) (hf : nmD[j]? = some f := by rfl) (hb : attributeBase e f X.env (eval e X.env) = eval e X.env := by rfl) (hK : X.K = K := by rfl) : SemB X K B (.Attribute e f pos) (tFld K (tVar i) f) (eFld B.bk i j) := by
  subst hK
  exact ⟨pe_fld hp hb, fld_ok T hf⟩
theorem se_lim (T : DkT K) (i : Nat) (hu : X.A.units + 1 < cLine) (hx : SemE X K B e2 tx fx) (hp : PE X e (tVar i)) (hs : NoSl e2 := by exact fun _ _ => rfl) (hb : attributeBase e "limits" X.env (eval e X.env) = eval e X.env := by rfl) (hK : X.K = K := by rfl) :
    SemE X K B (.Subscript (.Attribute e "limits" p2) e2 pos) (tDGet (tFld K (tVar i) "limits") tx) (eLim B.bk i fx) := by
  subst hK
  exact ⟨pe_dget hu (pe_fld hp hb) hx.pe hs, lim_ok T hx.ok⟩
end
/-! ### changes -/
def setLs (δ : DealSt) (j : Nat) (ds : List PyData) : DealSt := ⟨δ.limits, δ.ls.set j ds⟩
theorem DealIn.fld {K : PySem.W.Frag} {F R : Hp} {a : Addr} {δ : DealSt} {dx dL : Addr} {as : List Addr} (h : DealIn K F R a δ dx dL as) {j : Nat} {p : Addr} {vs : List V} {es : List PyData} (hp : as[j]? = some p) (hv : DqAll K F vs es) (hj : j < δ.ls.length) : DealIn K F (upd R p (.lst vs)) a (setLs δ j es) dx dL as := by
  obtain ⟨us, hu, _⟩ := h.ls j p _ hp (List.getElem?_eq_getElem hj)
  have n1 : a ≠ p := fun e => by subst e; rw [h.ob] at hu; cases hu
  have n2 : dx ≠ p := fun e => by subst e; rw [h.ow] at hu; cases hu
  have n3 : dL ≠ p := fun e => by subst e; rw [h.cL] at hu; cases hu
  refine ⟨by rw [upd_ne n1]; exact h.ob, by rw [upd_ne n2]; exact h.ow, by rw [upd_ne n3]; exact h.cL, by unfold setLs; simpa using h.la, h.ll, fun j' p' ds h1 h2 => ?_, h.nd⟩
  by_cases e : j' = j
  · subst e
    rw [hp] at h1
    cases h1
    unfold setLs at h2
    rw [List.getElem?_set_self hj] at h2
    cases h2
    exact ⟨vs, upd_same, hv⟩
  · unfold setLs at h2
    rw [List.getElem?_set_ne (Ne.symm e)] at h2
    obtain ⟨ws, q1, q2⟩ := h.ls j' p' ds h1 h2
    refine ⟨ws, ?_, q2⟩
    rw [upd_ne]
    · exact q1
    · intro e2
      subst e2
      have l1 : j' < as.length := (List.getElem?_eq_some_iff.mp h1).1
      exact e ((List.getElem?_inj l1 h.nd).mp (h1.trans hp.symm))
/-- a list of the deal's region changes -/
theorem StOk.fld {K : PySem.W.Frag} {B : Bs} {Z : St0} {R : Rg} {F H : Hp} {σ : L2.St} {ρ : Rho} {i j : Nat} {a : Addr} {δ : DealSt} {dx dL p : Addr} {as : List Addr} {vs : List V} {es : List PyData} (s : StOk K B Z R F H σ ρ) (h0 : ρ[i]? = some (.obj (.deal δ))) (hs : σ[i]? = some (some (.ref a)))
    (h : DealIn K F (R i) a δ dx dL as) (hp : as[j]? = some p) (hj : j < δ.ls.length) (hv : DqAll K F vs es) : StOk K B Z (updR R i (L2.upd (R i) p (.lst vs))) F (L2.upd H p (.lst vs)) σ (ρ.set i (.obj (.deal (setLs δ j es)))) := by
  obtain ⟨us, hu, _⟩ := h.ls j p _ hp (List.getElem?_eq_getElem hj)
  have hRp : R i p ≠ none := by rw [hu]; intro z; cases z
  have hFp : F p = none := s.env.rF i p hRp
  refine s.mut hs ⟨fun x o h1 h2 => ?_, fun x h1 => ?_, Same.refl F, fun x o h1 => ?_, fun x h1 _ => h1⟩ (fun x o h1 => ?_) (fun x h1 => ?_) (fun x h1 => ?_) (fun hi a0 q => by subst hi; exact s.env.oa a0 q _ a h0 hs) ⟨dx, dL, as, h.fld hp hv hj⟩
  · rw [upd_ne (fun e => by subst e; exact hRp h1)]; exact h2
  · by_cases e : x = p
    · subst e; rw [upd_same]; intro z; cases z
    · rw [upd_ne e]; exact h1
  · rw [upd_ne (fun e => by subst e; rw [hFp] at h1; cases h1)]; exact s.env.ex x o h1
  · by_cases e : x = p
    · subst e; rw [upd_same] at h1 ⊢; exact h1
    · rw [upd_ne e] at h1 ⊢; exact s.env.rh i x o h1
  · by_cases e : x = p
    · subst e; exact hFp
    · rw [upd_ne e] at h1; exact s.env.rF i x h1
  · by_cases e : x = p
    · subst e; exact .inl hRp
    · rw [upd_ne e] at h1; exact .inl h1
/-- self.f.append(e) -/
def sFApp (i j : Nat) (f : SE) : SS := fun ρ => match slO kD ρ[i]?, f ρ with
  | some δ, some d => match δ.ls[j]? with
    | some ds => if dataD d = true ∧ ds.length ≤ LIM then .nx (ρ.set i (.obj (.deal (setLs δ j (ds ++ [d]))))) else .no
    | none => .no
  | _, _ => .no
theorem fapp_ok {K : PySem.W.Frag} {B : Bs} {W : XW} (T : DkT K) {te : TE} {f : SE} (i j : Nat) {nm : Str} (hf : nmD[j]? = some nm) (k : EOk K B te f) : SSOk K B W (tDrop (tBM K "list" rAppend (tFld K (tVar i) nm) (tCons te tNil))) (sFApp i j f) := fun Z R F H σ ρ D s hg => by
  unfold sFApp at hg
  split at hg
  · rename_i δ d h1 h2
    split at hg
    · rename_i ds e2
      split at hg
      · rename_i hc
        have h0 := slO_ok h1
        obtain ⟨a, s1, bA⟩ := s.env.obj i _ h0
        obtain ⟨dx, dL, as, h⟩ := (show DealAt K F (R i) a δ from bA)
        have hj : j < δ.ls.length := (List.getElem?_eq_some_iff.mp e2).1
        have hja : j < as.length := by rw [h.la]; exact hj
        obtain ⟨vs, q1, q2⟩ := h.ls j as[j] ds (List.getElem?_eq_getElem hja) e2
        have hH := s.env.rh i _ _ q1
        refine ⟨.ref a, s1, a, _, dx, _, _, rfl, s.env.rh i _ _ h.ob, T.cl, T.no nm (List.mem_cons_of_mem _ (List.mem_of_getElem? hf)), lk_D hf (List.getElem?_eq_getElem hja), .inl ⟨rfl, vs, .inl (.inl hH)⟩, ?_⟩
        refine k _ F H σ ρ d s.env h2 _ fun v H' G g r => ?_
        refine ⟨as[j], vs, v, rfl, rfl, g.h _ _ hH, Nat.lt_of_lt_of_le (show vs.length < LIM + 1 by rw [q2.len]; omega) (by decide), ?_⟩
        obtain ⟨dx', dL', as', h'⟩ := (show DealAt K G (R i) a δ from bA.mono g.f (Same.refl _))
        have s' := s.grow g
        have hd : DealIn K G (R i) a δ dx dL as := ⟨h.ob, h.ow, h.cL, h.la, h.ll, fun j p ds h1 h2 => let ⟨vs, q1, q2⟩ := h.ls j p ds h1 h2; ⟨vs, q1, dpa_mono g.f _ q2⟩, h.nd⟩
        exact hg _ _ _ G (s'.fld h0 s1 hd (List.getElem?_eq_getElem hja) hj ((dpa_mono g.f ds q2).append (.cons (r.dp (by rintro l rfl; cases hc.1)) .nil))) g.f
      · exact hg.elim
    · exact hg.elim
  · exact hg.elim
/-- self.f[x] = e -/
def sFPut (i j : Nat) (ix f : SE) : SS := fun ρ => match slO kD ρ[i]?, f ρ, ix ρ with
  | some δ, some d, some (.int kk) => (match δ.ls[j]? with
    | some ds => (match ixN ds.length kk with
      | some m => if dataD d = true then .nx (ρ.set i (.obj (.deal (setLs δ j (ds.set m d))))) else .no
      | none => .no)
    | none => .no)
  | _, _, _ => .no
theorem fput_ok {K : PySem.W.Frag} {B : Bs} {W : XW} (T : DkT K) {te tix : TE} {f ix : SE} (i j : Nat) {nm : Str} (hf : nmD[j]? = some nm) (k : EOk K B te f) (kx : EOk K B tix ix) : SSOk K B W (tAsg te (gSub (tFld K (tVar i) nm) tix rSetL)) (sFPut i j ix f) := fun Z R F H σ ρ D s hg => by
  unfold sFPut at hg
  split at hg
  · rename_i δ d kk h1 h2 h3
    split at hg
    · rename_i ds e2
      split at hg
      · rename_i m hm
        split at hg
        · rename_i hc
          have h0 := slO_ok h1
          obtain ⟨a, s1, bA⟩ := s.env.obj i _ h0
          obtain ⟨dx, dL, as, h⟩ := (show DealAt K F (R i) a δ from bA)
          have hj : j < δ.ls.length := (List.getElem?_eq_some_iff.mp e2).1
          have hja : j < as.length := by rw [h.la]; exact hj
          obtain ⟨vs, q1, q2⟩ := h.ls j as[j] ds (List.getElem?_eq_getElem hja) e2
          have hH := s.env.rh i _ _ q1
          have hO := s.env.rh i _ _ h.ob
          refine k _ F H σ ρ d s.env h2 _ fun v H' G g r => ⟨.ref a, s1, a, _, dx, _, _, rfl, g.h _ _ hO, T.cl, T.no nm (List.mem_cons_of_mem _ (List.mem_of_getElem? hf)), lk_D hf (List.getElem?_eq_getElem hja), ?_⟩
          refine kx _ G H' σ ρ _ (s.env.grow g) h3 _ fun u H2 G2 g2 r2 => ?_
          refine ⟨as[j], vs, kk, m, rfl, Bp.int (H := G2) (.inl r2), (g.trans g2).h _ _ hH, by rw [q2.len]; exact hm, ?_⟩
          have s' := (s.grow g).grow g2
          have hd : DealIn K G2 (R i) a δ dx dL as := ⟨h.ob, h.ow, h.cL, h.la, h.ll, fun j p ds h1 h2 => let ⟨vs, q1, q2⟩ := h.ls j p ds h1 h2; ⟨vs, q1, dpa_mono (g.f.trans g2.f) _ q2⟩, h.nd⟩
          exact hg _ _ _ G2 (s'.fld h0 s1 hd (List.getElem?_eq_getElem hja) hj ((dpa_mono (g.f.trans g2.f) ds q2).set ((r.mono g2.f).dp (by rintro l rfl; cases hc)) m)) (g.f.trans g2.f)
        · exact hg.elim
      · exact hg.elim
    · exact hg.elim
  · exact hg.elim
/-- self.limits[x] = e -/
theorem kvD_put (l : List (Str × Int)) (n : Str) (v : Int) : putK (kvD l) (Sum.inr n) (.int v) = kvD (putN l n v) := by
  unfold putK putN kvD
  have e : ((l.map fun n => ((Sum.inr n.1 : Key), V.int n.2)).any fun x => decide (x.1 = Sum.inr n)) = (l.any fun x => decide (x.1 = n)) := by
    rw [List.any_map]
    congr 1
    funext x
    simp
  rw [e]
  split
  · rw [List.map_map, List.map_map]
    apply List.map_congr_left
    intro x _
    by_cases h : x.1 = n
    · simp [h]
    · simp [h]
  · rw [List.map_append]; rfl
def sLPut (i : Nat) (ix f : SE) : SS := fun ρ => match slO kD ρ[i]?, f ρ, ix ρ with
  | some δ, some (.int v), some (.str n) => if δ.limits.length ≤ LIM then .nx (ρ.set i (.obj (.deal ⟨putN δ.limits n v, δ.ls⟩))) else .no
  | _, _, _ => .no
theorem lput_ok {K : PySem.W.Frag} {B : Bs} {W : XW} (T : DkT K) {te tix : TE} {f ix : SE} (i : Nat) (k : EOk K B te f) (kx : EOk K B tix ix) : SSOk K B W (sDPut (tFld K (tVar i) "limits") tix te) (sLPut i ix f) := fun Z R F H σ ρ D s hg => by
  unfold sLPut at hg
  split at hg
  · rename_i δ v n h1 h2 h3
    split at hg
    · rename_i hc
      have h0 := slO_ok h1
      obtain ⟨a, s1, bA⟩ := s.env.obj i _ h0
      obtain ⟨dx, dL, as, h⟩ := (show DealAt K F (R i) a δ from bA)
      have hO := s.env.rh i _ _ h.ob
      have hL := s.env.rh i _ _ h.cL
      refine k _ F H σ ρ _ s.env h2 _ fun u H' G g r => ?_
      have hu := Bp.int (H := G) (.inl r)
      subst hu
      refine ⟨.ref a, s1, a, _, dx, _, _, rfl, g.h _ _ hO, T.cl, T.no _ List.mem_cons_self, lk_Dl dL as, ?_⟩
      refine kx _ G H' σ ρ _ (s.env.grow g) h3 _ fun u H2 G2 g2 r2 => ?_
      have hu := r2.s
      subst hu
      refine ⟨dL, _, rfl, DPut.k (k := Sum.inr n) ((g.trans g2).h _ _ hL) (by
        have : (kvD δ.limits).length ≤ LIM := by unfold kvD; rw [List.length_map]; exact hc
        exact Nat.lt_of_le_of_lt this (by decide)), ?_⟩
      rw [kvD_put]
      have s' := (s.grow g).grow g2
      have hRp : R i dL ≠ none := by rw [h.cL]; intro z; cases z
      have hFp : G2 dL = none := s'.env.rF i dL hRp
      have n1 : a ≠ dL := fun e => by have := h.ob; rw [e, h.cL] at this; cases this
      have n2 : dx ≠ dL := fun e => by have := h.ow; rw [e, h.cL] at this; cases this
      refine hg _ _ _ G2 (s'.mut (R' := L2.upd (R i) dL (.dK (kvD (putN δ.limits n v)))) (G' := G2) s1 ⟨fun x o h1 h2 => ?_, fun x h1 => ?_, Same.refl G2, fun x o h1 => ?_, fun x h1 _ => h1⟩ (fun x o h1 => ?_) (fun x h1 => ?_) (fun x h1 => ?_) (fun hi a0 q => by subst hi; exact s.env.oa a0 q _ a h0 s1)
        (show DealAt K G2 _ a ⟨putN δ.limits n v, δ.ls⟩ from ⟨dx, dL, as, by rw [upd_ne n1]; exact h.ob, by rw [upd_ne n2]; exact h.ow, upd_same, h.la, h.ll, fun j p ds h1 h2 => ?_, h.nd⟩)) (g.f.trans g2.f)
      · rw [upd_ne (fun e => by subst e; exact hRp h1)]; exact h2
      · by_cases e : x = dL
        · subst e; rw [upd_same]; intro z; cases z
        · rw [upd_ne e]; exact h1
      · rw [upd_ne (fun e => by subst e; rw [hFp] at h1; cases h1)]; exact s'.env.ex x o h1
      · by_cases e : x = dL
        · subst e; rw [upd_same] at h1 ⊢; exact h1
        · rw [upd_ne e] at h1 ⊢; exact s'.env.rh i x o h1
      · by_cases e : x = dL
        · subst e; exact hFp
        · rw [upd_ne e] at h1; exact s'.env.rF i x h1
      · by_cases e : x = dL
        · subst e; exact .inl hRp
        · rw [upd_ne e] at h1; exact .inl h1
      · obtain ⟨vs, q1, q2⟩ := h.ls j p ds h1 h2
        have n3 : p ≠ dL := fun e => by rw [e, h.cL] at q1; cases q1
        exact ⟨vs, by rw [upd_ne n3]; exact q1, dpa_mono (g.f.trans g2.f) _ q2⟩
    · exact hg.elim
  · exact hg.elim
section
variable {X : Cx} {K : PySem.W.Frag} {B : Bs} {W : XW} {o e e2 value : Expr} {tx tv te : TE} {fx fv f : SE} {pos pos2 apos cpos p2 : Pos} {i j : Nat}
theorem s_fapp (T : DkT K) (i j : Nat) {nm : Str} (ha : SemE X K B e te f) (hp : PS X (.Expr (.Call (.Attribute (.Attribute o nm p2) "append" apos) [e] [] cpos) pos) (tDrop (tBM X.K "list" rAppend (tFld X.K (tVar i) nm) (tCons te tNil)))) (hf : nmD[j]? = some nm := by rfl) (hK : X.K = K := by rfl) :
    SemS X K B W (.Expr (.Call (.Attribute (.Attribute o nm p2) "append" apos) [e] [] cpos) pos) (tDrop (tBM K "list" rAppend (tFld K (tVar i) nm) (tCons te tNil))) (sFApp i j f) := by
  subst hK
  exact ⟨hp, fapp_ok T i j hf ha.ok⟩
theorem s_fput (T : DkT K) (i j : Nat) {nm : Str} (hv : SemE X K B value tv fv) (hx : SemE X K B e2 tx fx) (hp : PS X (.Assign [.Subscript (.Attribute o nm p2) e2 pos2] value pos) (tAsg tv (gSub (tFld X.K (tVar i) nm) tx rSetL))) (hf : nmD[j]? = some nm := by rfl) (hK : X.K = K := by rfl) :
    SemS X K B W (.Assign [.Subscript (.Attribute o nm p2) e2 pos2] value pos) (tAsg tv (gSub (tFld K (tVar i) nm) tx rSetL)) (sFPut i j fx fv) := by
  subst hK
  exact ⟨hp, fput_ok T i j hf hv.ok hx.ok⟩
theorem s_lput (T : DkT K) (i : Nat) (hu : X.A.units + 1 < cLine) (hv : SemE X K B value tv fv) (hx : SemE X K B e2 tx fx) (hp : PE X o (tVar i)) (hs : swapsWith value (some (.Subscript (.Attribute o "limits" p2) e2 pos2)) pos.line X.env = pure false := by rfl) (hb : attributeBase o "limits" X.env (eval o X.env) = eval o X.env := by rfl) (hK : X.K = K := by rfl) :
    SemS X K B W (.Assign [.Subscript (.Attribute o "limits" p2) e2 pos2] value pos) (sDPut (tFld K (tVar i) "limits") tx tv) (sLPut i fx fv) := by
  subst hK
  exact ⟨ps_dput hu (pe_fld hp hb) hx.pe hv.pe hs, lput_ok T i hv.ok hx.ok⟩
end
end RT
/-! Functions that hand back a new book. -/
/-! Objects that change while another is read; a deal made. -/
namespace RT
open PySem PySem.Spec PyProof.Rows L2
/-! ### changed, another one read -/
def sp2 (K : PySem.W.Frag) (Fm : ObjSt → ObjSt → List PyData → RMG ObjSt) : Sp := fun vs H Q E => ∃ (G R R2 : Hp) (a a2 : Addr) (o o2 : ObjSt) (us : List V) (ds : List PyData), vs = .ref a :: .ref a2 :: us ∧ Same G H ∧ Same R H ∧ Same R2 H ∧ Apart R G ∧ Apart R2 G ∧ Apart R R2 ∧ ObjAt K G R a o ∧ ObjAt K G R2 a2 o2 ∧ RpAll K G us ds ∧
  (Fm o2 o ds).goes (fun o' d => ∀ v H' G' R', GrowM ⟨R, H, G⟩ H' G' → Same R' H' → Apart R' G' → (∀ x, R' x ≠ none → R x ≠ none ∨ H x = none) → ObjAt K G' R' a o' → Rp K G' v d → Q v H') (fun c => ∀ H' G', Grow H G H' G' → E (.ref (He.ga K c)) none H')
open Classical in
noncomputable def moOf (N : List Str) (n : Nat) (b : (Addr → Option ObjSt) → SS) : ObjSt → ObjSt → List PyData → RMG ObjSt := fun o2 o ds =>
  if h : ∃ r : ObjSt × PyData, ∀ a, runO N n (b (only a o2)) o (refD a :: ds) = .done r.1 r.2 then .done h.choose.1 h.choose.2 else .no
theorem moOf_ok {N : List Str} {n : Nat} {b : (Addr → Option ObjSt) → SS} {o2 o o' : ObjSt} {ds : List PyData} {d : PyData} (h : moOf N n b o2 o ds = .done o' d) : ∀ a, runO N n (b (only a o2)) o (refD a :: ds) = .done o' d := by
  unfold moOf at h
  split at h
  · rename_i h2
    cases h
    exact h2.choose_spec
  · cases h
theorem moOf_eq {N : List Str} {n : Nat} {b : (Addr → Option ObjSt) → SS} {o2 o o' : ObjSt} {ds : List PyData} {d : PyData} (h : ∀ a, runO N n (b (only a o2)) o (refD a :: ds) = .done o' d) : moOf N n b o2 o ds = .done o' d := by
  unfold moOf
  have h' : ∃ r : ObjSt × PyData, ∀ a, runO N n (b (only a o2)) o (refD a :: ds) = .done r.1 r.2 := ⟨(o', d), h⟩
  rw [dif_pos h']
  have := (h'.choose_spec 0).symm.trans (h 0)
  injection this with e1 e2
  rw [e1, e2]
theorem sp_body2 {K : PySem.W.Frag} {N : List Str} {n : Nat} {b : (Addr → Option ObjSt) → SS} {t : TS} {vs : List V} {H : Hp} {Q : VK} {E : XK} {W : XW} (hN : 0 < N.length)
    (k : ∀ (B : Bs), SSOk K B W t (b B.bk)) (h : sp2 K (moOf N n b) vs H Q E) : t { nx := fun _ H' => Q .non H', rt := Q } (start N vs) H := by
  obtain ⟨G, R, R2, a, a2, o, o2, us, ds, rfl, e, eR, eR2, ap, ap2, apR, bA, bA2, r, q⟩ := h
  cases e3 : moOf N n b o2 o ds with
  | no => rw [e3] at q; exact (show False from q).elim
  | exc c =>
    unfold moOf at e3
    split at e3 <;> cases e3
  | done o' d =>
    rw [e3] at q
    have hf := moOf_ok e3 a2
    have hB : BsOk K ⟨R2, G, only a2 o2, none⟩ G H := ⟨Same.refl G, eR2, ap2, only_ok bA2⟩
    refine sp_bodyO (n := n) (b := b (only a2 o2)) (C := fun _ => True) hN hB apR e eR ap bA (.cons (.inr (.inl ⟨a2, rfl, rfl⟩)) r) (k { (⟨R2, G, only a2 o2, none⟩ : Bs) with o := some a }) ?_
    rw [hf]
    exact q
theorem sp2_len {K : PySem.W.Frag} {N : List Str} {n : Nat} {b : (Addr → Option ObjSt) → SS} {vs : List V} {H : Hp} {Q : VK} {E : XK} (h : sp2 K (moOf N n b) vs H Q E) : vs.length = n := by
  obtain ⟨G, R, R2, a, a2, o, o2, us, ds, rfl, e, eR, eR2, ap, ap2, apR, bA, bA2, r, q⟩ := h
  cases e3 : moOf N n b o2 o ds with
  | no => rw [e3] at q; exact (show False from q).elim
  | exc c =>
    unfold moOf at e3
    split at e3 <;> cases e3
  | done o' d =>
    have hf := moOf_ok e3 a2
    unfold runO at hf
    split at hf
    · rename_i hl
      rw [List.length_cons, List.length_cons, r.len]
      simpa using hl
    · cases hf
theorem sp_run2 {X : Cx} {K : PySem.W.Frag} {N : List Str} {n : Nat} {st : List Stmt} {b : (Addr → Option ObjSt) → SS} {t : TS} {vs : List V} {H : Hp} {Q : VK} {E : XK} (hN : 0 < N.length)
    (k : ∀ B : Bs, SemSs X.nox K B W0 st t (b B.bk)) (h : sp2 K (moOf N n b) vs H Q E) : ∃ t, PSs X st t ∧ t { nx := fun _ H' => Q .non H', rt := Q } (start N vs) H :=
  ⟨t, (k noB).ps.nox, sp_body2 hN (fun B => (k B).ok) h⟩
/-- a method that changes its object, its first argument an object that is read -/
structure Meth2 (P : Program) (w : World) (K : PySem.W.Frag) (mg : Str → Option Value) (base : Heap) (k : Nat) (C : Str) (m : Str) (Fm : ObjSt → ObjSt → List PyData → RMG ObjSt) : Prop where
  ex : ∃ (f : Addr) (fd : FuncData) (ps : List Str), FnOk P w K mg base (L2.CX P w) k f fd ps (sp2 K Fm) ∧ Meth K (He.ga K C) m f ∧ Binds K fd ps []
  cl : Cls K (He.ga K C)
def sMut2 {S : Type} (kd : Kd S) (i j : Nat) (Fm : ObjSt → ObjSt → List PyData → RMG ObjSt) (sa : SA) : SS := fun ρ => match slO kd ρ[i]?, slO kA ρ[j]?, sa ρ with
  | some s, some o2, some ds => (match Fm o2 (kd.inj s) ds with
    | .done o' _ => .nx (ρ.set i (.obj o'))
    | _ => .no)
  | _, _, _ => .no
theorem mut2_ok {S : Type} {kd : Kd S} {C : Str} {fl : List Str} {m : Str} {K : PySem.W.Frag} {B : Bs} {ta : TA} {sa : SA} {i j : Nat} {Fm : ObjSt → ObjSt → List PyData → RMG ObjSt} (kc : KdC kd C fl) (hn : noFl fl m) (hij : i ≠ j) (ha : AOk K B ta sa) :
    SSOk K B W0 (tDrop (tMeth (He.ga K C) m (sp2 K Fm) [] E0 (tVar i) (tCons (tVar j) ta))) (sMut2 kd i j Fm sa) := fun Z R F H σ ρ D s hg => by
  unfold sMut2 at hg
  split at hg
  · rename_i β o2 ds h1 h2 h3
    have h0 := slO_ok h1
    have h0' := slO_ok h2
    obtain ⟨a, s1, bA⟩ := s.env.obj i _ h0
    obtain ⟨a2, s2, bA2⟩ := s.env.obj j _ h0'
    obtain ⟨dx, fs, ho, hf⟩ := kc.ins bA
    refine ⟨.ref a, s1, a, dx, fs, rfl, s.env.rh i _ _ ho, lookup_no (noFl_sub hf hn), ?_⟩
    refine ⟨.ref a2, s2, ha _ F H σ ρ ds s.env h3 _ fun vs H1 G1 g1 r1 => ?_⟩
    show sp2 K Fm (.ref a :: ((.ref a2 :: vs) ++ [])) H1 _ E0
    rw [List.append_nil]
    have s' := s.grow g1
    cases e3 : Fm o2 (kd.inj β) ds with
    | no => simp only [e3] at hg; exact hg.elim
    | exc c => simp only [e3] at hg; exact hg.elim
    | done o' d =>
      simp only [e3] at hg
      refine ⟨G1, R i, R j, a, a2, kd.inj β, o2, vs, ds, rfl, g1.sub, s'.env.rh i, s'.env.rh j, s'.env.rF i, s'.env.rF j, s'.env.rr i j hij, bA.mono g1.f (Same.refl _), bA2.mono g1.f (Same.refl _), r1, ?_⟩
      rw [e3]
      exact fun v H' G' R' g rh rF rn bA' r => hg σ H' _ G' (s'.mut s1 g rh rF rn (fun hi a0 q => by subst hi; exact s.env.oa a0 q _ a h0 s1) bA') (g1.f.trans g.f)
  · exact hg.elim
/-! ### a deal from nothing -/
theorem putF_deal {dL p : Addr} : ∀ {as : List Addr} {f : Str}, as.length < 4 → nmD[as.length]? = some f → putF f (.ref p) (dlFs dL as) = dlFs dL (as ++ [p]) := by
  have a1 : ¬ (("limits" : Str) = "places") := by decide +kernel
  have a2 : ¬ (("limits" : Str) = "days") := by decide +kernel
  have a3 : ¬ (("places" : Str) = "days") := by decide +kernel
  have a4 : ¬ (("limits" : Str) = "able") := by decide +kernel
  have a5 : ¬ (("places" : Str) = "able") := by decide +kernel
  have a6 : ¬ (("days" : Str) = "able") := by decide +kernel
  have a7 : ¬ (("limits" : Str) = "who") := by decide +kernel
  have a8 : ¬ (("places" : Str) = "who") := by decide +kernel
  have a9 : ¬ (("days" : Str) = "who") := by decide +kernel
  have a10 : ¬ (("able" : Str) = "who") := by decide +kernel
  intro as f hl hf
  match as, hl, hf with
  | [], _, hf => simp [nmD] at hf; subst hf; simp [putF, dlFs, nmD, a1]
  | [_], _, hf => simp [nmD] at hf; subst hf; simp [putF, dlFs, nmD, a2, a3]
  | [_, _], _, hf => simp [nmD] at hf; subst hf; simp [putF, dlFs, nmD, a4, a5, a6]
  | [_, _, _], _, hf => simp [nmD] at hf; subst hf; simp [putF, dlFs, nmD, a7, a8, a9, a10]
/-- an object of the region written anew, beside a new one -/
theorem StOk.mutN {K : PySem.W.Frag} {B : Bs} {Z : St0} {R : Rg} {F H : Hp} {σ : L2.St} {ρ : Rho} {i : Nat} {a p : Addr} {o o' : ObjSt} {u w : HO} (s : StOk K B Z R F H σ ρ) (h0 : ρ[i]? = some (.obj o)) (hs : σ[i]? = some (some (.ref a))) (hp : H p = none) (ha : R i a ≠ none)
    (bA : ObjAt K F (L2.upd (L2.upd (R i) p u) a w) a o') : StOk K B Z (updR R i (L2.upd (L2.upd (R i) p u) a w)) F (L2.upd (L2.upd H p u) a w) σ (ρ.set i (.obj o')) := by
  have hFa : F a = none := s.env.rF i a ha
  have hFp : F p = none := by
    cases e : F p with
    | none => rfl
    | some x => have := s.env.ex p x e; rw [hp] at this; cases this
  refine s.mut hs ⟨fun x y h1 h2 => ?_, fun x h1 => ?_, Same.refl F, fun x y h1 => ?_, fun x h1 _ => h1⟩ (fun x y h1 => ?_) (fun x h1 => ?_) (fun x h1 => ?_) (fun hi a0 q => by subst hi; exact s.env.oa a0 q _ a h0 hs) bA
  · rw [upd_ne (fun e => by subst e; exact ha h1), upd_ne (fun e => by subst e; have h2' : H x = some y := h2; rw [hp] at h2'; cases h2')]
    exact h2
  · by_cases e : x = a
    · subst e; rw [upd_same]; intro z; cases z
    · rw [upd_ne e]
      by_cases e2 : x = p
      · subst e2; rw [upd_same]; intro z; cases z
      · rw [upd_ne e2]; exact h1
  · rw [upd_ne (fun e => by subst e; rw [hFa] at h1; cases h1), upd_ne (fun e => by subst e; rw [hFp] at h1; cases h1)]
    exact s.env.ex x y h1
  · by_cases e : x = a
    · subst e; rw [upd_same] at h1 ⊢; exact h1
    · rw [upd_ne e] at h1 ⊢
      by_cases e2 : x = p
      · subst e2; rw [upd_same] at h1 ⊢; exact h1
      · rw [upd_ne e2] at h1 ⊢; exact s.env.rh i x y h1
  · by_cases e : x = a
    · subst e; exact hFa
    · rw [upd_ne e] at h1
      by_cases e2 : x = p
      · subst e2; exact hFp
      · rw [upd_ne e2] at h1; exact s.env.rF i x h1
  · by_cases e : x = a
    · subst e; exact .inl ha
    · rw [upd_ne e] at h1
      by_cases e2 : x = p
      · subst e2; exact .inr hp
      · rw [upd_ne e2] at h1; exact .inl h1
/-- self.limits = {} -/
def sDInitL (i : Nat) : SS := fun ρ => match ρ[i]? with
  | some (.obj (.raw C)) => if C = "Deal" then .nx (ρ.set i (.obj (.deal ⟨[], []⟩))) else .no
  | _ => .no
theorem dInitL_ok {K : PySem.W.Frag} {B : Bs} {W : XW} (T : DkT K) (i : Nat) : SSOk K B W (sFld K (tVar i) tDNewK "limits") (sDInitL i) := fun Z R F H σ ρ D s hg => by
  unfold sDInitL at hg
  split at hg
  · rename_i C h0
    split at hg
    · rename_i hC
      subst hC
      obtain ⟨a, s1, dx, b1, b2⟩ := s.env.obj i _ h0
      intro p hp
      have hH := s.env.rh i _ _ b1
      have nap : a ≠ p := fun e => by rw [e, hp] at hH; cases hH
      have ndp : dx ≠ p := fun e => by have := s.env.rh i _ _ b2; rw [e, hp] at this; cases this
      have nad : dx ≠ a := fun e => by rw [e, b1] at b2; cases b2
      refine ⟨.ref a, s1, a, _, dx, [], rfl, by rw [upd_ne nap]; exact hH, T.cl, T.no _ List.mem_cons_self, by decide, ?_⟩
      refine hg σ _ _ F (s.mutN (o' := .deal ⟨[], []⟩) h0 s1 hp (by rw [b1]; intro z; cases z) (show DealAt K F _ a ⟨[], []⟩ from ⟨dx, p, [], upd_same, ?_, ?_, rfl, by decide, fun j q ds h1 h2 => by simp at h1, List.nodup_nil⟩)) (Same.refl F)
      · rw [upd_ne nad, upd_ne ndp]; exact b2
      · rw [upd_ne (Ne.symm nap), upd_same]; rfl
    · exact hg.elim
  · exact hg.elim
/-- self.f = [], the next one -/
def sDInitF (i j : Nat) : SS := fun ρ => match slO kD ρ[i]? with
  | some δ => if δ.ls.length = j then .nx (ρ.set i (.obj (.deal ⟨δ.limits, δ.ls ++ [[]]⟩))) else .no
  | none => .no
theorem dInitF_ok {K : PySem.W.Frag} {B : Bs} {W : XW} (T : DkT K) (i j : Nat) {f : Str} (hf : nmD[j]? = some f) : SSOk K B W (sFld K (tVar i) (tLst tNil) f) (sDInitF i j) := fun Z R F H σ ρ D s hg => by
  unfold sDInitF at hg
  split at hg
  · rename_i δ h1
    split at hg
    · rename_i hC
      have h0 := slO_ok h1
      obtain ⟨a, s1, bA⟩ := s.env.obj i _ h0
      obtain ⟨dx, dL, as, h⟩ := (show DealAt K F (R i) a δ from bA)
      have hj4 : j < 4 := (List.getElem?_eq_some_iff.mp hf).1
      have hla : as.length = j := h.la.trans hC
      refine ⟨by decide, fun p hp => ?_⟩
      have hH := s.env.rh i _ _ h.ob
      have old : ∀ x u, R i x = some u → x ≠ p := fun x u hx e => by have := s.env.rh i _ _ hx; rw [e, hp] at this; cases this
      have nap := old _ _ h.ob
      have ndp := old _ _ h.ow
      have nLp := old _ _ h.cL
      have nda : dx ≠ a := fun e => by have := h.ow; rw [e, h.ob] at this; cases this
      have nLa : dL ≠ a := fun e => by have := h.cL; rw [e, h.ob] at this; cases this
      have lf : (dlFs dL as).length < 1000 := by
        unfold dlFs
        simp only [List.length_cons, List.length_zip, nmD, List.length_map, List.length_nil]
        omega
      refine ⟨.ref a, s1, a, _, dx, dlFs dL as, rfl, by rw [upd_ne nap]; exact hH, T.cl, T.no _ (List.mem_cons_of_mem _ (List.mem_of_getElem? hf)), lf, ?_⟩
      rw [putF_deal (by omega) (by rw [hla]; exact hf)]
      have asp : p ∉ as := fun hm => by
        obtain ⟨k, hk, e⟩ := List.getElem_of_mem hm
        have hk' : k < δ.ls.length := by rw [← h.la]; exact hk
        obtain ⟨vs, q1, _⟩ := h.ls k p _ (by rw [List.getElem?_eq_getElem hk, e]) (List.getElem?_eq_getElem hk')
        exact old _ _ q1 rfl
      refine hg σ _ _ F (s.mutN (o' := .deal ⟨δ.limits, δ.ls ++ [[]]⟩) h0 s1 hp (by rw [h.ob]; intro z; cases z) (show DealAt K F _ a ⟨δ.limits, δ.ls ++ [[]]⟩ from ⟨dx, dL, as ++ [p], upd_same, ?_, ?_, by simp [h.la], by simp; omega, fun k q ds h2 h3 => ?_, ?_⟩)) (Same.refl F)
      · rw [upd_ne nda, upd_ne ndp]; exact h.ow
      · rw [upd_ne nLa, upd_ne nLp]; exact h.cL
      · by_cases hk : k < as.length
        · rw [List.getElem?_append_left hk] at h2
          rw [List.getElem?_append_left (by rw [← h.la]; exact hk)] at h3
          obtain ⟨vs, q1, q2⟩ := h.ls k q ds h2 h3
          have nq : q ≠ a := fun e => by rw [e, h.ob] at q1; cases q1
          exact ⟨vs, by rw [upd_ne nq, upd_ne (old _ _ q1)]; exact q1, q2⟩
        · have l2 := (List.getElem?_eq_some_iff.mp h2).1
          have hk2 : k = as.length := by simp at l2; omega
          subst hk2
          rw [List.getElem?_append_right (Nat.le_refl _)] at h2
          rw [h.la, List.getElem?_append_right (Nat.le_refl _)] at h3
          simp at h2 h3
          subst h2
          subst h3
          exact ⟨[], by rw [upd_ne (Ne.symm nap), upd_same], .nil⟩
      · rw [List.nodup_append]
        refine ⟨h.nd, by simp, fun x hx y hy e => ?_⟩
        rw [List.mem_singleton] at hy
        subst hy
        subst e
        exact asp hx
    · exact hg.elim
  · exact hg.elim
end RT
/-! Functions that hand back a new book. -/
/-! sorted(d) of any length; words for a deal's methods. -/
namespace L2
open PySem PySem.Spec PyProof.Rows
section
variable {X : Cx}
/-- sorted(d), the keys whole numbers -/
theorem sortedDI_any (hcalm : X.calm = true) : CallR X (.builtin "sorted") (fun xs H Q => ∃ (a : Addr) (kvs : List (Key × V)) (ks : List Int), xs = [.ref a] ∧ Rd H a (.dK kvs) ∧ kvs.map (·.1) = ks.map Sum.inl ∧ ks.length ≤ sizeLine ∧
    ∀ (ys : List Int) (p : Addr), ys.Perm ks → ys.Pairwise (· ≤ ·) → H p = none → Q (.ref p) (upd H p (.lst (ys.map V.int)))) := by
  rintro pins s σ H xs us Q I r ⟨a, kvs, ks, rfl, hd, hks, hz, q⟩
  obtain ⟨u, rfl, rx⟩ := vals1 r
  cases rx
  obtain ⟨z, lo, vs, rel, dd⟩ := dk_rd I.hok hd
  obtain ⟨ep, hat⟩ := dd.dictAt
  have hk : vs.map (·.1) = ks.map Sum.inl := rel.keys.symm.trans hks
  have hn : vs.length = ks.length := by simpa using congrArg List.length hk
  refine Calls.call_function_entry PyProof.Rows.kind_sorted PyProof.Rows.plain_sorted PyProof.Rows.entry_sorted (PyProof.Rows.args_sorted1 _) ?_
  unfold Builtin.«sorted»
  refine wpAny_bind (m := checkCount "sorted" 1 1 _) (wpAny_pure ?_)
  refine wpAny_bind (PySem.W.kdu_collect (A := X.A.in1) (PySem.W.kdl_dict (knd := mixKind X.prog X.w) (kvs := vs) (ep := ep) lo) (I.ok.hd hcalm) hat (by rw [hn]; exact hz) fun h' tk acc hkeep hacc => ?_)
  have la : acc.toList.length = ks.length := by rw [Array.length_toList, hacc.1, hn]
  have hint : IntsAre acc.toList ks := ints_each la fun j v e => by
    obtain ⟨k, x, e1, e2⟩ := hacc.2 j v (by rw [← Array.getElem?_toList]; exact e)
    have e3 : (ks.map Sum.inl)[j]? = some k := by rw [← hk, List.getElem?_map, e1]; rfl
    rw [List.getElem?_map] at e3
    obtain ⟨y, e4, rfl⟩ := Option.map_eq_some_iff.mp e3
    rcases keyIs_shape (show keyIs (Sum.inl y) v = true from e2) with ⟨i, t, ek, ev⟩ | ⟨_, _, ek, _⟩
    · cases ek
      exact ⟨y, t, e4, ev⟩
    · cases ek
  have I1 : Inv X pins σ H { s with heap := h', toks := tk } := I.kept hkeep
  refine wpAny_bind (wpAny_newList ?_ (by rw [la]; exact hz))
  have ho : (h'.push (seqObj "list" acc.toList.toArray 0)).get? h'.objs.size = some (seqObj "list" acc.toList.toArray 0) := Heap.get?_push_size _ rfl
  show wpAny _ _ _ _ _ { s with heap := h'.push (seqObj "list" acc.toList.toArray 0), toks := tk }
  refine wpAny_bind (wpAny_holding (wpAny_call_entry PyProof.Rows.slot_list_sort ⟨_, ho, rfl⟩ PyProof.Rows.entry_list_sort
    (SrtO.list_sort_ord (s := { s with heap := h'.push (seqObj "list" acc.toList.toArray 0), toks := tk }) SrtO.swo_int ho (by rw [la]; exact hz) (fun h2 => SrtO.ints_sortable hint h2) fun out h1 h2 => ⟨_, rfl, ?_⟩) (PyProof.Rows.args_list_sort _)))
  obtain ⟨k1, k2, k3⟩ := SrtO.ints_out hint h1 h2
  obtain ⟨e', he'⟩ := PyProof.Rows.sortedHeap_at (vs := acc.toList) (out := out.toArray) ho
  have hl : ((out.map SrtO.iv).map V.int).length ≤ sizeLine := by
    rw [List.length_map, k2.length_eq]
    exact hz
  refine wpAny_pure ⟨_, rfl, .ref h'.objs.size, upd H h'.objs.size (.lst ((out.map SrtO.iv).map V.int)), I1.laid (t' := tk) (fun b u e => ?_) (Nat.le_refl _)
    (show ObjOk X.prog X.w _ _ _ (.lst ((out.map SrtO.iv).map V.int)) from ⟨hl, out, e', vals_of_ints k1, he'⟩), rfl, q _ _ k2 k3 (I1.hok.fresh (Nat.le_refl _))⟩
  have hb : b < h'.objs.size := Heap.lt_size e
  rw [PyProof.Rows.sortedHeap_old (Nat.ne_of_lt hb) (by rw [size_push']; exact Nat.lt_succ_of_lt hb)]
  exact Heap.get?_push_of_some _ e
end
end L2
namespace RT
open PySem PySem.Spec PyProof.Rows L2
def sortI (l : List Int) : List Int := l.mergeSort fun a b => decide (a ≤ b)
theorem sortI_perm (l : List Int) : (sortI l).Perm l := List.mergeSort_perm l _
theorem sortI_le (l : List Int) : (sortI l).Pairwise (· ≤ ·) := by
  have := List.pairwise_mergeSort (le := fun (a b : Int) => decide (a ≤ b)) (fun a b c h1 h2 => by simp at *; omega) (fun a b => by simp; omega) l
  exact this.imp fun h => by simpa using h
theorem sortI_uniq {l ys : List Int} (h1 : ys.Perm l) (h2 : ys.Pairwise (· ≤ ·)) : ys = sortI l :=
  List.Perm.eq_of_pairwise (fun a b _ _ h h' => Int.le_antisymm h h') h2 (sortI_le l) (h1.trans (sortI_perm l).symm)
theorem sortI_mem {l : List Int} {x : Int} : x ∈ sortI l ↔ x ∈ l := (sortI_perm l).mem_iff
theorem sortI_len (l : List Int) : (sortI l).length = l.length := (sortI_perm l).length_eq
end RT
namespace RT
open PySem PySem.Spec PyProof.Rows L2
def rSortD : List V → Hp → VK → Prop := fun xs H Q => ∃ (a : Addr) (kvs : List (Key × V)) (ks : List Int), xs = [.ref a] ∧ Rd H a (.dK kvs) ∧ kvs.map (·.1) = ks.map Sum.inl ∧ ks.length ≤ sizeLine ∧
    ∀ (ys : List Int) (p : Addr), ys.Perm ks → ys.Pairwise (· ≤ ·) → H p = none → Q (.ref p) (upd H p (.lst (ys.map V.int)))
/-- sorted(d) -/
def eSortD (bk : Addr → Option ObjSt) (i : Nat) : SA := fun ρ => (rcv kT bk ρ i).bind fun l => if l.length ≤ LIM then some ((sortI (l.map (·.1))).map .int) else none
theorem sortD_ok {K : PySem.W.Frag} {B : Bs} (i : Nat) : LOk K B (tCB rSortD (tCons (tVar i) tNil)) (eSortD B.bk i) := fun R F H σ ρ ds E q Q k => by
  unfold eSortD at q
  cases ho : rcv kT B.bk ρ i with
  | none => rw [ho] at q; cases q
  | some l =>
    rw [ho, Option.bind_some] at q
    split at q
    · rename_i hl
      cases q
      obtain ⟨a, R', h1, ⟨kv, ha, hA⟩, sR, ap⟩ := rcv_ok E ho
      refine ⟨.ref a, h1, a, kvI kv, l.map (·.1), rfl, .inl (sR _ _ ha), ?_, by rw [List.length_map]; exact lim_line hl, fun ys p hp hs hH => ?_⟩
      · rw [← hA.keys]
        unfold kvI
        rw [List.map_map, List.map_map]
        rfl
      · rw [sortI_uniq hp hs]
        exact k p _ _ F ((Grow.refl E.ex).beside hH) hH (E.ex.free hH) upd_same (dpa_ints _)
    · cases q
section
variable {S : Type} {kd : Kd S} {X : Cx} {K : PySem.W.Frag} {B : Bs} {W : XW} {o e value : Expr} {es : List Expr} {ta : TA} {sa : SA} {x y f C m : Str} {p p2 ap pos pos2 : Pos} {i j k l : Nat} {Fm : ObjSt → ObjSt → List PyData → RMG ObjSt}
theorem sl_sortedD (i : Nat) {y : Str} {p2 : Pos} (hm : X.mg "sorted" = none) (hp : PE X (.Name y p2) (tVar i)) (hc : X.calm = true := by rfl) (hg : Gl X "sorted" := by rfl) (he : starEach [Expr.Name y p2] X.env = [(false, eval (.Name y p2) X.env)] := by rfl) (hpl : (backTo pos (starEach [] X.env)).any (·.1) = false := by rfl) :
    SemL X K B (.Call (.Name "sorted" p) [.Name y p2] [] pos) (tCB rSortD (tCons (tVar i) tNil)) (eSortD B.bk i) :=
  ⟨pe_callB (sortedDI_any hc) hg hm (by decide +kernel) (pa_cons hp pa_nil he) (by decide) (by decide) he hpl, sortD_ok i⟩
theorem s_mut2 (i j : Nat) {pl : Sem Bool} {fl : List Str} (M : Meth2 X.prog X.w K X.mg X.base k C m Fm) (kc : KdC kd C fl) (hn : noFl fl m) (hij : i ≠ j) (hr : Room l X.A) (ha : SemA X K B es ta sa) (hp : PE X (.Name x p) (tVar i)) (hq : PE X (.Name y p2) (tVar j)) (hk : k ≤ l := by decide)
    (hst : starEach (.Name y p2 :: es) X.env = (false, eval (.Name y p2) X.env) :: starEach es X.env := by rfl) (hpl : (backTo pos (starEach es X.env)).any (·.1) = false := by rfl)
    (ht : eval (.Call (.Attribute (.Name x p) m ap) (.Name y p2 :: es) [] pos) X.env = (do
      let ov ← eval (.Name x p) X.env
      standAt ap.atName
      let (f, first) ← holding [ov] (getMethod ov m pl)
      callWith pos f first (backTo pos (starEach (.Name y p2 :: es) X.env)) (backToKw pos (keywordEach [] X.env))) := by rfl)
    (hs : swapsWith (.Call (.Attribute (.Name x p) m ap) (.Name y p2 :: es) [] pos) none pos2.line X.env = pure false := by rfl) (hK : X.K = K := by rfl) :
    SemS X K B W0 (.Expr (.Call (.Attribute (.Name x p) m ap) (.Name y p2 :: es) [] pos) pos2) (tDrop (tMeth (He.ga K C) m (sp2 K Fm) [] E0 (tVar i) (tCons (tVar j) ta))) (sMut2 kd i j Fm sa) := by
  subst hK
  obtain ⟨f, fd, ps, G, me, b⟩ := M.ex
  exact ⟨ps_expr (pe_meth hp M.cl me G (hr.mono hk) b .nil passL (pa_cons hq ha.pa hst) hst hpl ht) hs, mut2_ok kc hn hij ha.ok⟩
theorem s_dInitL (T : DkT K) (i : Nat) (hp : PE X o (tVar i)) (hs : swapsWith (.Dict [] [] p2) (some (.Attribute o "limits" ap)) pos.line X.env = pure false := by rfl) (hK : X.K = K := by rfl) :
    SemS X K B W (.Assign [.Attribute o "limits" ap] (.Dict [] [] p2) pos) (sFld K (tVar i) tDNewK "limits") (sDInitL i) := by
  subst hK
  exact ⟨ps_fld hp pe_dnewK hs, dInitL_ok T i⟩
theorem s_dInitF (T : DkT K) (i j : Nat) (hp : PE X o (tVar i)) (hf : nmD[j]? = some f := by rfl) (hs : swapsWith (.List [] p2) (some (.Attribute o f ap)) pos.line X.env = pure false := by rfl) (hK : X.K = K := by rfl) :
    SemS X K B W (.Assign [.Attribute o f ap] (.List [] p2) pos) (sFld K (tVar i) (tLst tNil) f) (sDInitF i j) := by
  subst hK
  exact ⟨ps_fld hp (pe_lst pa_nil) hs, dInitF_ok T i j hf⟩
end
end RT
namespace RT
open PySem PySem.Spec PyProof.Rows L2
/-- y = Deal(book) -/
def sMkD (bk : Addr → Option ObjSt) (i j : Nat) (Fm : ObjSt → ObjSt → List PyData → RMG ObjSt) : SS := fun ρ => match rcv kB bk ρ j with
  | some β => (match Fm (.book β) (.raw "Deal") [] with
    | .done o' .none => .nx (ρ.set i (.obj o'))
    | _ => .no)
  | none => .no
theorem mkD_ok {K : PySem.W.Frag} {B : Bs} {W : XW} (i j : Nat) {Fm : ObjSt → ObjSt → List PyData → RMG ObjSt} (hB : i = 0 → B.o = none) : SSOk K B W (tAsg (tMake (He.ga K "Deal") (sp2 K Fm) [] E0 (tCons (tVar j) tNil)) (gName i)) (sMkD B.bk i j Fm) := fun Z R F H σ ρ D s hg => by
  unfold sMkD at hg
  cases e1 : rcv kB B.bk ρ j with
  | none => rw [e1] at hg; exact hg.elim
  | some β =>
    rw [e1] at hg
    cases e3 : Fm (.book β) (.raw "Deal") [] with
    | no => simp only [e3] at hg; exact hg.elim
    | exc c => simp only [e3] at hg; exact hg.elim
    | done o' d =>
      cases d with
      | none =>
        simp only [e3] at hg
        obtain ⟨a2, R2, s1, bA2, sR2, ap2, _⟩ := rcv_ok2 s.env e1
        refine ⟨.ref a2, s1, fun x dx hx hdx hne => ?_⟩
        have nx : ∀ b o, H b = some o → (L2.upd (L2.upd H dx (.own x)) x (.ins (He.ga K "Deal") dx [])) b = some o := fun b o e => by
          rw [upd_ne (ne_of_none e hx), upd_ne (ne_of_none e hdx)]; exact e
        show sp2 K Fm (.ref x :: ([.ref a2] ++ [])) _ _ _
        let R1 : Hp := L2.upd (L2.upd (fun _ => none) dx (.own x)) x (.ins (He.ga K "Deal") dx [])
        have r1 : ∀ b o, R1 b = some o → (b = x ∨ b = dx) := fun b o e => by
          have e' : (L2.upd (L2.upd (fun _ => none) dx (.own x)) x (.ins (He.ga K "Deal") dx []) : Hp) b = some o := e
          by_cases q1 : b = x
          · exact .inl q1
          · rw [upd_ne q1] at e'
            by_cases q2 : b = dx
            · exact .inr q2
            · rw [upd_ne q2] at e'; cases e'
        have r0 : ∀ b, H b ≠ none → R1 b = none := fun b hb => by
          cases e : R1 b with
          | none => rfl
          | some o =>
            rcases r1 b o e with rfl | rfl
            · exact absurd hx hb
            · exact absurd hdx hb
        have fr : ∀ b, R1 b ≠ none → H b = none := fun b hb => by
          cases e : R1 b with
          | none => exact absurd e hb
          | some o =>
            rcases r1 b o e with rfl | rfl
            · exact hx
            · exact hdx
        refine ⟨F, R1, R2, x, a2, .raw "Deal", .book β, [], [], rfl, fun b o e => nx b o (s.env.ex b o e), fun b o e => ?_, fun b o e => nx b o (sR2 b o e), fun b hb => s.env.ex.free (fr b hb), ap2, fun b hb => sR2.free (fr b hb), ⟨dx, upd_same, ?_⟩, bA2, .nil, ?_⟩
        · have e' : (L2.upd (L2.upd (fun _ => none) dx (.own x)) x (.ins (He.ga K "Deal") dx []) : Hp) b = some o := e
          by_cases q1 : b = x
          · subst q1; rw [upd_same] at e' ⊢; exact e'
          · rw [upd_ne q1] at e' ⊢
            by_cases q2 : b = dx
            · subst q2; rw [upd_same] at e' ⊢; exact e'
            · rw [upd_ne q2] at e'; cases e'
        · show (L2.upd (L2.upd (fun _ => none) dx (.own x)) x (.ins (He.ga K "Deal") dx []) : Hp) dx = _
          rw [upd_ne hne, upd_same]
        · rw [e3]
          intro v H' G' R' g rh rF rn bA r
          have hv : v = .non := by
            rcases r with r | ⟨_, _, z⟩ | ⟨_, _, _, z, _⟩
            · cases r; rfl
            · cases z
            · cases z
          have hH : Same H H' := fun b o e => g.h b o (r0 b (by rw [e]; intro z; cases z)) (nx b o e)
          have rn' : ∀ y, R' y ≠ none → H y = none := fun y hy => by
            rcases rn y hy with h1 | h1
            · exact fr y h1
            · cases e : H y with
              | none => rfl
              | some o => have := nx y o e; rw [h1] at this; cases this
          refine ⟨hv, hg _ H' _ G' (s.newO hB ⟨hH, g.f, g.sub, fun b h1 h2 => g.no b h1 ?_⟩ rh rF rn' bA) g.f⟩
          cases e : H b with
          | none => exact absurd e h2
          | some o =>
            intro z
            have z' : (L2.upd (L2.upd H dx (.own x)) x (.ins (He.ga K "Deal") dx []) : Hp) b = none := z
            rw [nx b o e] at z'
            cases z'
      | _ => simp only [e3] at hg; exact hg.elim
section
variable {X : Cx} {K : PySem.W.Frag} {B : Bs} {W : XW} {e : Expr} {x y : Str} {p p2 pos pos2 : Pos} {Fm : ObjSt → ObjSt → List PyData → RMG ObjSt}
theorem s_mkD (i j : Nat) (hB : i = 0 → B.o = none) (ps : PS X (.Assign [.Name x p] (.Call (.Name y p2) [e] [] pos) pos2) (tAsg (tMake (He.ga K "Deal") (sp2 K Fm) [] E0 (tCons (tVar j) tNil)) (gName i))) :
    SemS X K B W (.Assign [.Name x p] (.Call (.Name y p2) [e] [] pos) pos2) (tAsg (tMake (He.ga K "Deal") (sp2 K Fm) [] E0 (tCons (tVar j) tNil)) (gName i)) (sMkD B.bk i j Fm) := ⟨ps, mkD_ok i j hB⟩
end
end RT
/-! A walk along a deal's list, the regions standing still. -/
namespace RT
open PySem PySem.Spec PyProof.Rows L2
/-- a statement that goes on, no object's region touched -/
def SSOkR (K : PySem.W.Frag) (B : Bs) (t : TS) (f : SS) : Prop := ∀ (Z : St0) (R : Rg) (F H : Hp) (σ : L2.St) (ρ : Rho) (D : Ends), StOk K B Z R F H σ ρ →
  (match f ρ with
    | .nx r => ∀ σ H F', StOk K B Z R F' H σ r → Same F F' → D.nx σ H
    | _ => False) → t D σ H
theorem app_okR {K : PySem.W.Frag} {B : Bs} {te : TE} {f : SE} (i : Nat) (k : EOk K B te f) : SSOkR K B (tDrop (tBM K "list" rAppend (tVar i) (tCons te tNil))) (sApp i f) := fun Z R F H σ ρ D s hg => by
  unfold sApp at hg
  cases h1 : ρ[i]? with
  | none => simp [h1] at hg
  | some x =>
    cases x with
    | own ds =>
      cases h2 : f ρ with
      | none => simp [h1, h2] at hg
      | some d =>
        by_cases hc : dataD d = true ∧ ds.length ≤ LIM
        · simp only [h1, h2, hc, and_self, if_true] at hg
          obtain ⟨p, vs, e1, e2, e3, e4, _⟩ := s.env.own i ds h1
          refine ⟨.ref p, e1, .inl ⟨rfl, vs, .inl (.inl e2)⟩, ?_⟩
          refine k _ F H σ ρ d s.env h2 _ fun v H' G g r => ?_
          refine ⟨p, vs, v, rfl, rfl, g.h _ _ e2, Nat.lt_of_lt_of_le (show vs.length < LIM + 1 by rw [e3.len]; omega) (by decide), ?_⟩
          exact hg _ _ G ((s.grow g).upd i h1 e1 ((dpa_mono g.f ds e3).append (.cons (r.dp (by rintro l rfl; cases hc.1)) .nil))) g.f
        · simp only [h1, h2, hc, if_false] at hg
    | no => simp [h1] at hg
    | val d => simp [h1] at hg
    | obj o => simp [h1] at hg
def forX (tg : PyData → Rho → Option Rho) (body : SS) : List PyData → Rho → Out
  | [], ρ => .nx ρ
  | d :: ds, ρ => match tg d ρ with
    | none => .no
    | some r => match body r with
      | .nx r2 => forX tg body ds r2
      | _ => .no
def sForE (i j : Nat) (tg : PyData → Rho → Option Rho) (body : SS) : SS := fun ρ => match slO kD ρ[i]? with
  | some δ => (match δ.ls[j]? with
    | some ds => if ds.length ≤ LIM then forX tg body (enumD 0 ds) ρ else .no
    | none => .no)
  | none => .no
theorem forE_ok {K : PySem.W.Frag} {B : Bs} {W : XW} (T : DkT K) {g : TG} {tb : TS} {tg : PyData → Rho → Option Rho} {body : SS} (i j : Nat) {nm : Str} (hf : nmD[j]? = some nm) (ht : TGOk K g tg) (kb : SSOkR K B tb body) :
    SSOk K B W (tFor (iEnum K (tCons (tFld K (tVar i) nm) tNil)) g tb) (sForE i j tg body) := fun Z R F H σ ρ D s hg => by
  unfold sForE at hg
  split at hg
  · rename_i δ h1
    split at hg
    · rename_i es e2
      split at hg
      · rename_i hl
        have h0 := slO_ok h1
        obtain ⟨a, s1, bA⟩ := s.env.obj i _ h0
        obtain ⟨dx, dL, as, h⟩ := (show DealAt K F (R i) a δ from bA)
        have hj : j < δ.ls.length := (List.getElem?_eq_some_iff.mp e2).1
        have hja : j < as.length := by rw [h.la]; exact hj
        obtain ⟨vs, q1, hA⟩ := h.ls j as[j] es (List.getElem?_eq_getElem hja) e2
        have hH := s.env.rh i _ _ q1
        refine ⟨.ref a, s1, a, _, dx, _, _, rfl, s.env.rh i _ _ h.ob, T.cl, T.no nm (List.mem_cons_of_mem _ (List.mem_of_getElem? hf)), lk_D hf (List.getElem?_eq_getElem hja), as[j], vs, rfl, .inl (.inl hH), ?_⟩
        have w : WalksD K (fun G' H' => Same F G' ∧ Same G' H' ∧ Same (R i) H') (Ite K as[j]) (enumD 0 es) := by
          refine ⟨fun m G' H' al hi => ?_, fun m G' H' x H'' d al hd y => ?_, fun G' H' al => ⟨vs, .inl (.inl (al.2.2 _ _ q1)), by rw [hA.len, enumD_len]; exact Nat.le_refl _⟩⟩
          · rw [enumD_len] at hi
            obtain ⟨v, hv, _⟩ := hA.get (List.getElem?_eq_getElem hi)
            exact ⟨vs, v, .inl (.inl (al.2.2 _ _ q1)), hv⟩
          · obtain ⟨T', v, rfl, hT, rfl, y⟩ := y
            have hx := y vs (.inl (.inl (al.2.2 _ _ q1)))
            obtain ⟨d', hd', r⟩ := hA.getV hx
            rw [enumD_get, hd'] at hd
            have hd2 : d = .tuple [.int ((0 + m : Nat) : Nat), d'] := (Option.some.inj hd).symm
            have e00 : 0 + m = m := Nat.zero_add m
            rw [e00] at hd2
            subst hd2
            refine ⟨_, (Grow.refl al.2.1).new hT, .inl (.tup (.inl (.inl upd_same)) (.cons (.int _) (.cons ?_ .nil)))⟩
            exact dp_mono (al.1.trans (Same.upd_new (Same.refl G') (al.2.1.free hT))) d' r
        generalize hds : enumD 0 es = ds at hg w
        refine ⟨fun m k σ' H' => k = ds.length - m ∧ m ≤ ds.length ∧ ∃ (F' : Hp) (ρ' : Rho), StOk K B Z R F' H' σ' ρ' ∧ Same F F' ∧ Goes K B Z F' D W (forX tg body (ds.drop m) ρ'),
          ⟨ds.length, by simp, Nat.zero_le _, F, ρ, s, Same.refl F, hg⟩, ?_⟩
        rintro m k σ' H' ⟨rfl, hile, F', ρ', s', e', hg'⟩
        have al : Same F F' ∧ Same F' H' ∧ Same (R i) H' := ⟨e', s'.env.ex, s'.env.rh i⟩
        by_cases hlt : m < ds.length
        · have hd : ds[m]? = some ds[m] := List.getElem?_eq_getElem hlt
          rw [drop_cons_of hd] at hg'
          refine .inr ⟨w.go m F' H' al hlt, fun σ2 H2 => ∃ k', k' < ds.length - m ∧ (k' = ds.length - (m + 1) ∧ m + 1 ≤ ds.length ∧ ∃ (F' : Hp) (ρ' : Rho), StOk K B Z R F' H2 σ2 ρ' ∧ Same F F' ∧ Goes K B Z F' D W (forX tg body (ds.drop (m + 1)) ρ')),
            fun σ2 H2 h => h, fun x H2 y => ?_⟩
          obtain ⟨F2, g2, r2⟩ := w.yld m F' H' x H2 _ al hd y
          unfold forX at hg'
          cases et : tg ds[m] ρ' with
          | none => rw [et] at hg'; exact hg'.elim
          | some r =>
            rw [et] at hg'
            refine ht B Z R F2 H2 σ' ρ' r x _ (s'.grow g2) r2 et _ fun σ1 s3 => ?_
            refine kb Z R F2 H2 σ1 r _ s3 ?_
            cases eb : body r with
            | nx r2 =>
              simp only [eb] at hg' ⊢
              exact fun σ4 H4 F4 s4 e4 => ⟨_, by omega, rfl, hlt, F4, r2, s4, (e'.trans g2.f).trans e4, Goes.mono hg' (g2.f.trans e4)⟩
            | no => simp only [eb] at hg'; exact hg'.elim
            | rt d r2 => simp only [eb] at hg'; exact hg'.elim
            | ex c r2 => simp only [eb] at hg'; exact hg'.elim
            | ro i r2 => simp only [eb] at hg'; exact hg'.elim
        · have hm : m = ds.length := by omega
          subst hm
          rw [List.drop_length] at hg'
          exact .inl ⟨w.stop F' H' al, hg' _ H' R F' s' (Same.refl F')⟩
      · exact hg.elim
    · exact hg.elim
  · exact hg.elim
structure SemSR (X : Cx) (K : PySem.W.Frag) (B : Bs) (st : Stmt) (t : TS) (f : SS) : Prop where
  ps : PS X st t
  ok : SSOkR K B t f
section
variable {X : Cx} {K : PySem.W.Frag} {B : Bs} {W : XW} {o e : Expr} {te : TE} {fe : SE} {tg : Expr} {st : Stmt} {t : TS} {f : SS} {gg : TG} {tgf : PyData → Rho → Option Rho} {p pos : Pos}
theorem sr_app (i : Nat) {x : Str} {p apos cpos : Pos} (he : SemE X K B e te fe) (ps : PS X (.Expr (.Call (.Attribute (.Name x p) "append" apos) [e] [] cpos) pos) (tDrop (tBM K "list" rAppend (tVar i) (tCons te tNil)))) :
    SemSR X K B (.Expr (.Call (.Attribute (.Name x p) "append" apos) [e] [] cpos) pos) (tDrop (tBM K "list" rAppend (tVar i) (tCons te tNil))) (sApp i fe) := ⟨ps, app_okR i he.ok⟩
/-- for i, x in enumerate(d.f): one statement that touches no object -/
theorem s_forE (T : DkT K) (i j : Nat) {nm : Str} {elts : List Expr} {kk : Nat} {tpos p2 cpos : Pos} (hp : PassesOwn (model X.prog X.w) X.A X.env X.xe) (hc : X.calm = true) (hm : X.mg "enumerate" = none) (hv : PE X o (tVar i)) (hgt : PG X (.Tuple elts kk tpos) gg) (ht : TGOk K gg tgf) (hb : SemSR X K B st t f)
    (hf : nmD[j]? = some nm := by rfl) (hat : attributeBase o nm X.env (eval o X.env) = eval o X.env := by rfl) (hg : Gl X "enumerate" := by rfl) (hse : starEach [Expr.Attribute o nm p2] X.env = [(false, eval (.Attribute o nm p2) X.env)] := by rfl)
    (hs : ∀ x, foldedSetIterable (.Call (.Name "enumerate" p) [.Attribute o nm p2] [] cpos) X.env x = pure x := by intro _; rfl) (hK : X.K = K := by rfl) :
    SemS X K B W (.For (.Tuple elts kk tpos) (.Call (.Name "enumerate" p) [.Attribute o nm p2] [] cpos) [st] [] pos) (tFor (iEnum K (tCons (tFld K (tVar i) nm) tNil)) gg t) (sForE i j tgf f) := by
  subst hK
  exact ⟨ps_for hp hc (pi_enum hg hm (pa_cons (pe_fld hv hat) pa_nil hse) hse) hgt (pss_one hb.ps) hs, forE_ok T i j hf ht hb.ok⟩
end
theorem s_pop0 {X : Cx} {K : PySem.W.Frag} {B : Bs} {W : XW} (i j : Nat) {st : Stmt} (ps : PS X st (tAsg (tBM K "list" rPopAt (tVar i) (tCons (tC (.int 0)) tNil)) (gName j))) : SemS X K B W st (tAsg (tBM K "list" rPopAt (tVar i) (tCons (tC (.int 0)) tNil)) (gName j)) (sPop0 i j) := ⟨ps, pop0_okS i j⟩
end RT
/-! A call that reads an object that another call has just made. -/
namespace RT
open PySem PySem.Spec PyProof.Rows L2
section
variable {S : Type}
def eNewR (Fr : S → List PyData → Res) (Ff : List PyData → Option S) (sa : SA) : SE := fun ρ => ((sa ρ).bind Ff).bind fun β => (Fr β []).ok
theorem newR_ok {kd : Kd S} {K : PySem.W.Frag} {B : Bs} {ta : TA} {sa : SA} {Fr : S → List PyData → Res} {Ff : List PyData → Option S} (ha : AOk K B ta sa) : EOk K B (tCall (spRG K kd Fr) [] E0 (tCons (tCall (spNew K kd Ff) [] E0 ta) tNil)) (eNewR Fr Ff sa) := fun R F H σ ρ d E q Q k => by
  unfold eNewR at q
  cases e1 : sa ρ with
  | none => rw [e1] at q; cases q
  | some ds =>
    rw [e1, Option.bind_some] at q
    cases e2 : Ff ds with
    | none => rw [e2] at q; cases q
    | some β =>
      rw [e2, Option.bind_some] at q
      refine ha _ F H σ ρ ds E e1 _ fun vs H1 G1 g1 r1 => ?_
      show spNew K kd Ff (vs ++ []) H1 _ E0
      rw [List.append_nil]
      refine ⟨G1, ds, β, g1.sub, r1, e2, fun a H' G' R' g rh rF rn bA => ?_⟩
      show spRG K kd Fr ([.ref a] ++ []) H' Q E0
      refine ⟨G', R', a, β, [], [], rfl, g.sub, rh, rF, bA, .nil, ?_⟩
      cases e3 : Fr β [] with
      | ret d' =>
        rw [e3] at q
        cases q
        exact fun v H2 G2 g2 r2 => k v H2 G2 ((g1.trans g).trans g2) r2
      | exc c => rw [e3] at q; cases q
      | no => rw [e3] at q; cases q
end
section
variable {S : Type} {kd : Kd S} {X : Cx} {K : PySem.W.Frag} {B : Bs} {e : Expr} {es : List Expr} {ta : TA} {sa : SA} {x y : Str} {p p2 pos pos2 : Pos} {k k2 j : Nat} {Fr : S → List PyData → Res} {Ff : List PyData → Option S}
theorem se_newR (C : PFRG X.prog X.w K X.mg X.base k kd x Fr) (D : PFN X.prog X.w K X.mg X.base k2 kd y Ff) (hr : Room j X.A) (ha : SemA X K B (e :: es) ta sa) (hk : k ≤ j := by decide) (hk2 : k2 ≤ j := by decide)
    (hg : Gl X x := by rfl) (hdb : (x == ("__debug__" : Str)) = false := by decide) (hg2 : Gl X y := by rfl) (hdb2 : (y == ("__debug__" : Str)) = false := by decide)
    (he2 : starEach (e :: es) X.env = (false, eval e X.env) :: starEach es X.env := by rfl) (hpl2 : (backTo pos2 (starEach es X.env)).any (·.1) = false := by rfl)
    (he : starEach [.Call (.Name y p2) (e :: es) [] pos2] X.env = [(false, eval (.Call (.Name y p2) (e :: es) [] pos2) X.env)] := by rfl) (hpl : (backTo pos (starEach [] X.env)).any (·.1) = false := by rfl) (hK : X.K = K := by rfl) :
    SemE X K B (.Call (.Name x p) [.Call (.Name y p2) (e :: es) [] pos2] [] pos) (tCall (spRG K kd Fr) [] E0 (tCons (tCall (spNew K kd Ff) [] E0 ta) tNil)) (eNewR Fr Ff sa) := by
  subst hK
  obtain ⟨f, fd, ps, h1, h2, h3, h4⟩ := C.ex
  obtain ⟨f', fd', ps', q1, q2, q3, q4⟩ := D.ex
  exact ⟨pe_call h1 (hr.mono hk) hg h2 h3 h4 .nil pass0 (pa_cons (pe_call q1 (hr.mono hk2) hg2 q2 q3 q4 .nil pass0 ha.pa hdb2 he2 hpl2) pa_nil he) hdb he hpl, newR_ok ha.ok⟩
end
end RT
/-! A function that hands back a new pair: a text and a list of its own, which may be emptied later. -/
namespace RT
open PySem PySem.Spec PyProof.Rows L2
abbrev kP : Kd (Str × List PyData) where
  inj := fun q => .pair q.1 q.2
  prj := fun o => match o with
    | .pair x ds => some (x, ds)
    | _ => none
  ok := fun {o s} h => by cases o <;> simp at h; subst h; rfl
  pi := fun _ => rfl
def pairD (x : Str) (ds : List PyData) : PyData := .tuple [.str x, .list ds]
section
variable {K : PySem.W.Frag} {B : Bs} {Z : St0} {R : Rg} {F H : Hp} {σ : L2.St} {ρ : Rho} {i j : Nat} {a p : Addr} {x : Str} {ds : List PyData} {vs : List V}
/-- the pair's two cells -/
def pairR (a p : Addr) (x : Str) (vs : List V) : Hp := fun y => if y = a then some (.tup [.str x, .ref p]) else if y = p then some (.lst vs) else none
theorem pairR_a : pairR a p x vs a = some (.tup [.str x, .ref p]) := if_pos rfl
theorem pairR_p (h : p ≠ a) : pairR a p x vs p = some (.lst vs) := by
  unfold pairR
  rw [if_neg h, if_pos rfl]
theorem pairR_in {y : Addr} (h : pairR a p x vs y ≠ none) : y = a ∨ y = p := by
  unfold pairR at h
  by_cases h1 : y = a
  · exact .inl h1
  · rw [if_neg h1] at h
    by_cases h2 : y = p
    · exact .inr h2
    · rw [if_neg h2] at h
      exact absurd rfl h
theorem pairR_no {y : Addr} (h1 : y ≠ a) (h2 : y ≠ p) : pairR a p x vs y = none := by
  unfold pairR
  rw [if_neg h1, if_neg h2]
/-- an own list goes into a new pair -/
theorem StOk.ownPair (s : StOk K B Z R F H σ ρ) (hi : i ≠ 0) (hij : i ≠ j) (hj : ρ[j]? = some (.own ds)) (e1 : σ[j]? = some (some (.ref p))) (hp : H p = some (.lst vs)) (e3 : DqAll K F vs ds) (e4 : F p = none) (e5 : ∀ i, R i p = none) (e6 : B.h p = none) (ha : H a = none) :
    StOk K B Z (updR R i (pairR a p x vs)) F (L2.upd H a (.tup [.str x, .ref p])) (σ.set i (some (.ref a))) ((ρ.set j .no).set i (.obj (.pair x ds))) := by
  have pa : p ≠ a := fun e => by subst e; rw [ha] at hp; cases hp
  have nx : Same H (L2.upd H a (.tup [.str x, .ref p])) := Same.upd_new (Same.refl H) ha
  have at_ : ∀ (k : Nat) (y : Sl), ((ρ.set j .no).set i (.obj (.pair x ds)))[k]? = some y → (k = i ∧ y = .obj (.pair x ds)) ∨ (k ≠ i ∧ k = j ∧ y = .no) ∨ (k ≠ i ∧ k ≠ j ∧ ρ[k]? = some y) := fun k y h => by
    by_cases h1 : k = i
    · subst h1
      have hl := (List.getElem?_eq_some_iff.mp h).1
      rw [List.length_set] at hl
      rw [List.getElem?_set_self hl] at h
      cases h
      exact .inl ⟨rfl, rfl⟩
    · rw [List.getElem?_set_ne (Ne.symm h1)] at h
      by_cases h2 : k = j
      · subst h2
        have hl := (List.getElem?_eq_some_iff.mp h).1
        rw [List.length_set] at hl
        rw [List.getElem?_set_self hl] at h
        cases h
        exact .inr (.inl ⟨h1, rfl, rfl⟩)
      · rw [List.getElem?_set_ne (Ne.symm h2)] at h
        exact .inr (.inr ⟨h1, h2, h⟩)
  have sat : ∀ {k : Nat}, k ≠ i → (σ.set i (some (.ref a)))[k]? = σ[k]? := fun h => List.getElem?_set_ne (Ne.symm h)
  have un : ∀ {k : Nat} {es : List PyData} {q : Addr}, k ≠ i → k ≠ j → ρ[k]? = some (.own es) → σ[k]? = some (some (.ref q)) → q ≠ p := fun h1 h2 h3 h4 e => s.env.dis _ j _ ds p h2 h3 hj (e ▸ h4) e1
  refine ⟨⟨s.env.bs, s.env.bh.trans nx, s.env.bF, s.env.bo, s.env.ex.trans nx, fun k => ?_, fun k y hy => ?_, fun k y hy => ?_, fun k l hkl y hy => ?_, by simp [s.env.len], fun k d h => ?_, fun k es h => ?_, fun k l es fs q hkl h1 h2 h3 h4 => ?_, fun k o h => ?_, fun a0 q o b h h2 => ?_⟩, s.gr.grow (Grow.beside (Grow.refl s.env.ex) ha), fun k es q h1 h2 => ?_, fun k y hy => ?_⟩
  · by_cases h : k = i
    · subst h
      rw [updR_same]
      intro y u e
      rcases pairR_in (by rw [e]; intro z; cases z) with rfl | rfl
      · rw [pairR_a] at e
        rw [upd_same, e]
      · rw [pairR_p pa] at e
        rw [upd_ne pa, hp, e]
    · rw [updR_ne h]
      exact (s.env.rh k).trans nx
  · by_cases h : k = i
    · subst h
      rw [updR_same] at hy
      rcases pairR_in hy with rfl | rfl
      · exact s.env.ex.free ha
      · exact e4
    · rw [updR_ne h] at hy
      exact s.env.rF k y hy
  · by_cases h : k = i
    · subst h
      rw [updR_same] at hy
      rcases pairR_in hy with rfl | rfl
      · exact s.env.bh.free ha
      · exact e6
    · rw [updR_ne h] at hy
      exact s.env.rB k y hy
  · by_cases h : k = i
    · subst h
      rw [updR_same] at hy
      rw [updR_ne (Ne.symm hkl)]
      rcases pairR_in hy with rfl | rfl
      · exact (s.env.rh l).free ha
      · exact e5 l
    · rw [updR_ne h] at hy
      by_cases h2 : l = i
      · subst h2
        rw [updR_same]
        refine pairR_no (fun e => ?_) (fun e => ?_)
        · subst e
          exact hy ((s.env.rh k).free ha)
        · subst e
          exact hy (e5 k)
      · rw [updR_ne h2]
        exact s.env.rr k l hkl y hy
  · rcases at_ k _ h with ⟨_, e⟩ | ⟨_, _, e⟩ | ⟨h1, _, e⟩
    · cases e
    · cases e
    · obtain ⟨v, q1, q2⟩ := s.env.val k d e
      exact ⟨v, by rw [sat h1]; exact q1, q2⟩
  · rcases at_ k _ h with ⟨_, e⟩ | ⟨_, _, e⟩ | ⟨h1, h2, e⟩
    · cases e
    · cases e
    · obtain ⟨q, ws, q1, q2, q3, q4, q5, q6⟩ := s.env.own k es e
      have qa : q ≠ a := fun z => by subst z; rw [ha] at q2; cases q2
      refine ⟨q, ws, by rw [sat h1]; exact q1, by rw [upd_ne qa]; exact q2, q3, q4, fun l => ?_, q6⟩
      by_cases h3 : l = i
      · subst h3
        rw [updR_same]
        exact pairR_no qa (un h1 h2 e q1)
      · rw [updR_ne h3]
        exact q5 l
  · rcases at_ k _ h1 with ⟨_, e⟩ | ⟨_, _, e⟩ | ⟨k1, k2, e⟩
    · cases e
    · cases e
    · rcases at_ l _ h2 with ⟨_, e'⟩ | ⟨_, _, e'⟩ | ⟨l1, l2, e'⟩
      · cases e'
      · cases e'
      · rw [sat k1] at h3
        rw [sat l1] at h4
        exact s.env.dis k l es fs q hkl e e' h3 h4
  · rcases at_ k _ h with ⟨rfl, e⟩ | ⟨_, _, e⟩ | ⟨k1, k2, e⟩
    · cases e
      have hl := (List.getElem?_eq_some_iff.mp h).1
      simp only [List.length_set] at hl
      refine ⟨a, by rw [List.getElem?_set_self (by rw [← s.env.len]; exact hl)], ?_⟩
      rw [updR_same]
      exact ⟨p, vs, pairR_a, pairR_p pa, e3⟩
    · cases e
    · obtain ⟨b, q1, q2⟩ := s.env.obj k o e
      exact ⟨b, by rw [sat k1]; exact q1, by rw [updR_ne k1]; exact q2⟩
  · rcases at_ 0 _ h with ⟨e, _⟩ | ⟨_, _, e⟩ | ⟨k1, _, e⟩
    · exact absurd e.symm hi
    · cases e
    · rw [sat k1] at h2
      exact s.env.oa a0 q o b e h2
  · rcases at_ k _ h1 with ⟨_, e⟩ | ⟨_, _, e⟩ | ⟨k1, k2, e⟩
    · cases e
    · cases e
    · rw [sat k1] at h2
      exact s.fr k es q e h2
  · by_cases h : k = i
    · subst h
      rw [updR_same] at hy
      rcases pairR_in hy with rfl | rfl
      · right
        cases z : Z.h y with
        | none => rfl
        | some u => exact absurd ha (s.gr.al y (by rw [z]; intro q; cases q))
      · exact .inr (s.fr j ds y hj e1)
    · rw [updR_ne h] at hy
      exact s.fo k y hy
/-- return x, own list -/
def sRetPV (i j : Nat) (x : Str) : SS := fun ρ => match ρ[j]? with
  | some (.own ds) => if i < ρ.length then .ro i ((ρ.set j .no).set i (.obj (.pair x ds))) else .no
  | _ => .no
theorem retPV_ok {W : XW} (hi : i ≠ 0) (hij : i ≠ j) : SSOk K B W (tRet (tTup (tCons (tC (.str x)) (tCons (tVar j) tNil)))) (sRetPV i j x) := fun Z R F H σ ρ D s hg => by
  unfold sRetPV at hg
  split at hg
  · rename_i ds hj
    split at hg
    · rename_i hlen
      obtain ⟨p, vs, e1, hp, e3, e4, e5, e6⟩ := s.env.own j ds hj
      refine ⟨.ref p, e1, by show 2 ≤ sizeLine; decide, fun a ha => ?_⟩
      exact hg (.ref a) _ _ _ F (s.ownPair hi hij hj e1 hp e3 e4 e5 e6 ha) (by rw [List.getElem?_set_self (by rw [← s.env.len]; exact hlen)]) (Same.refl F)
    · exact hg.elim
  · exact hg.elim
/-- return x, a new list -/
def sRetPL (i : Nat) (x : Str) (f : SA) : SS := fun ρ => match f ρ with
  | some ds => if i < ρ.length then .ro i (ρ.set i (.obj (.pair x ds))) else .no
  | none => .no
theorem retPL_ok {W : XW} {te : TE} {f : SA} (hi : i ≠ 0) (k : LOk K B te f) : SSOk K B W (tRet (tTup (tCons (tC (.str x)) (tCons te tNil)))) (sRetPL i x f) := fun Z R F H σ ρ D s hg => by
  unfold sRetPL at hg
  split at hg
  · rename_i ds hf
    split at hg
    · rename_i hlen
      refine k _ F H σ ρ ds s.env hf _ fun p vs H1 G g h1 h2 h3 h4 => ?_
      refine ⟨by show 2 ≤ sizeLine; decide, fun a ha => ?_⟩
      have pa : p ≠ a := fun e => by subst e; rw [ha] at h3; cases h3
      refine hg (.ref a) _ _ _ G (s.newO (R' := pairR a p x vs) (a := a) (o' := .pair x ds) (fun e => absurd e hi) (g.beside ha) (fun y u e => ?_) (fun y hy => ?_) (fun y hy => ?_) ⟨p, vs, pairR_a, pairR_p pa, h4⟩) (by rw [List.getElem?_set_self (by rw [← s.env.len]; exact hlen)]) g.f
      · rcases pairR_in (by rw [e]; intro z; cases z) with rfl | rfl
        · rw [pairR_a] at e
          rw [upd_same, e]
        · rw [pairR_p pa] at e
          rw [upd_ne pa, h3, e]
      · rcases pairR_in hy with rfl | rfl
        · exact g.sub.free ha
        · exact h2
      · rcases pairR_in hy with rfl | rfl
        · exact g.h.free ha
        · exact h1
    · exact hg.elim
  · exact hg.elim
/-- the pair's list is emptied -/
def sPairClr (i : Nat) : SS := fun ρ => match ρ[i]? with
  | some (.obj (.pair x _)) => .nx (ρ.set i (.obj (.pair x [])))
  | _ => .no
theorem pairClr_ok {W : XW} : SSOk K B W (tDrop (tBM0 K "list" rClear (tOp (rIx K) (tVar i) (tC (.int 1))))) (sPairClr i) := fun Z R F H σ ρ D s hg => by
  unfold sPairClr at hg
  split at hg
  · rename_i x ds h0
    obtain ⟨a, hs, hP⟩ := s.env.obj i _ h0
    obtain ⟨p, vs, r1, r2, r3⟩ := (show PairAt K F (R i) a x ds from hP)
    have q1 := s.env.rh i _ _ r1
    have q2 := s.env.rh i _ _ r2
    have pa : a ≠ p := fun e => by subst e; rw [r1] at r2; cases r2
    have hRp : R i p ≠ none := by rw [r2]; intro z; cases z
    have hFp : F p = none := s.env.rF i p hRp
    refine ⟨.ref a, hs, .inr (.inl ⟨a, _, 1, .ref p, rfl, rfl, .inl (.inl q1), rfl, .inl ⟨rfl, vs, .inl (.inl q2)⟩, p, vs, rfl, rfl, q2, ?_⟩)⟩
    refine hg σ _ _ F (s.mut (R' := L2.upd (R i) p (.lst [])) (a := a) (o' := .pair x []) hs ⟨fun y o h1 h2 => ?_, fun y h1 => ?_, Same.refl F, fun y o h1 => ?_, fun y h1 _ => h1⟩ (fun y o h1 => ?_) (fun y h1 => ?_) (fun y h1 => ?_) (fun hi a0 q => by subst hi; exact s.env.oa a0 q _ a h0 hs) ⟨p, [], by rw [upd_ne pa]; exact r1, upd_same, .nil⟩) (Same.refl F)
    · rw [upd_ne (fun e => by subst e; exact hRp h1)]; exact h2
    · by_cases e : y = p
      · subst e; rw [upd_same]; intro z; cases z
      · rw [upd_ne e]; exact h1
    · rw [upd_ne (fun e => by subst e; rw [hFp] at h1; cases h1)]; exact s.env.ex y o h1
    · by_cases e : y = p
      · subst e; rw [upd_same] at h1 ⊢; exact h1
      · rw [upd_ne e] at h1 ⊢; exact s.env.rh i y o h1
    · by_cases e : y = p
      · subst e; exact hFp
      · rw [upd_ne e] at h1; exact s.env.rF i y h1
    · by_cases e : y = p
      · subst e; exact .inl hRp
      · rw [upd_ne e] at h1; exact .inl h1
  · exact hg.elim
/-- a pair seen as data for a moment -/
def joinR (F R : Hp) : Hp := fun y => match R y with
  | some o => some o
  | none => F y
theorem joinR_r {F R : Hp} {y : Addr} {o : HO} (h : R y = some o) : joinR F R y = some o := by
  unfold joinR
  rw [h]
theorem joinR_n {F R : Hp} {y : Addr} (h : R y = none) : joinR F R y = F y := by
  unfold joinR
  rw [h]
theorem EnvOk.frzP (E : EnvOk K B R F H σ ρ) (h0 : ρ[i]? = some (.obj (.pair x ds))) : EnvOk K B (updR R i noH) (joinR F (R i)) H σ (ρ.set i (.val (pairD x ds))) := by
  obtain ⟨a, hs, hP⟩ := E.obj i _ h0
  obtain ⟨p, vs, r1, r2, r3⟩ := (show PairAt K F (R i) a x ds from hP)
  have hl := (List.getElem?_eq_some_iff.mp h0).1
  have sm : Same F (joinR F (R i)) := fun y o e => by
    cases hr : R i y with
    | none => rw [joinR_n hr]; exact e
    | some u =>
      have := E.rF i y (by rw [hr]; intro z; cases z)
      rw [this] at e
      cases e
  have nj : ∀ {y : Addr}, F y = none → R i y = none → joinR F (R i) y = none := fun h1 h2 => by rw [joinR_n h2, h1]
  have at_ : ∀ (k : Nat) (y : Sl), (ρ.set i (.val (pairD x ds)))[k]? = some y → (k = i ∧ y = .val (pairD x ds)) ∨ (k ≠ i ∧ ρ[k]? = some y) := fun k y h => by
    by_cases h1 : k = i
    · subst h1
      rw [List.getElem?_set_self hl] at h
      cases h
      exact .inl ⟨rfl, rfl⟩
    · rw [List.getElem?_set_ne (Ne.symm h1)] at h
      exact .inr ⟨h1, h⟩
  refine ⟨E.bs.trans sm, E.bh, fun y hy => ?_, E.bo, fun y o e => ?_, fun k => ?_, fun k y hy => ?_, fun k y hy => ?_, fun k l hkl y hy => ?_, by simp [E.len], fun k d h => ?_, fun k es h => ?_, fun k l es fs q hkl h1 h2 h3 h4 => ?_, fun k o h => ?_, fun a0 q o b h h2 => ?_⟩
  · refine nj (E.bF y hy) ?_
    cases hr : R i y with
    | none => rfl
    | some u => exact absurd (E.rB i y (by rw [hr]; intro z; cases z)) hy
  · cases hr : R i y with
    | none => rw [joinR_n hr] at e; exact E.ex y o e
    | some u => rw [joinR_r hr] at e; rw [← e]; exact E.rh i y u hr
  · by_cases h : k = i
    · subst h
      rw [updR_same]
      intro y o e
      cases e
    · rw [updR_ne h]
      exact E.rh k
  · by_cases h : k = i
    · subst h
      rw [updR_same] at hy
      exact absurd rfl hy
    · rw [updR_ne h] at hy
      exact nj (E.rF k y hy) (E.rr k i h y hy)
  · by_cases h : k = i
    · subst h
      rw [updR_same] at hy
      exact absurd rfl hy
    · rw [updR_ne h] at hy
      exact E.rB k y hy
  · by_cases h : k = i
    · subst h
      rw [updR_same] at hy
      exact absurd rfl hy
    · rw [updR_ne h] at hy
      by_cases h2 : l = i
      · subst h2
        rw [updR_same]
      · rw [updR_ne h2]
        exact E.rr k l hkl y hy
  · rcases at_ k _ h with ⟨rfl, e⟩ | ⟨h1, e⟩
    · cases e
      exact ⟨.ref a, hs, .inl (.tup (.inl (.inl (joinR_r r1))) (.cons (.str x) (.cons (.lst (joinR_r r2) (dpa_mono sm ds r3)) .nil)))⟩
    · obtain ⟨v, q1, q2⟩ := E.val k d e
      exact ⟨v, q1, q2.mono sm⟩
  · rcases at_ k _ h with ⟨_, e⟩ | ⟨h1, e⟩
    · cases e
    · obtain ⟨q, ws, q1, q2, q3, q4, q5, q6⟩ := E.own k es e
      refine ⟨q, ws, q1, q2, dpa_mono sm es q3, nj q4 (q5 i), fun l => ?_, q6⟩
      by_cases h3 : l = i
      · subst h3
        rw [updR_same]
      · rw [updR_ne h3]
        exact q5 l
  · rcases at_ k _ h1 with ⟨_, e⟩ | ⟨_, e⟩
    · cases e
    · rcases at_ l _ h2 with ⟨_, e'⟩ | ⟨_, e'⟩
      · cases e'
      · exact E.dis k l es fs q hkl e e' h3 h4
  · rcases at_ k _ h with ⟨_, e⟩ | ⟨h1, e⟩
    · cases e
    · obtain ⟨b, q1, q2⟩ := E.obj k o e
      refine ⟨b, q1, ?_⟩
      rw [updR_ne h1]
      exact q2.mono sm (Same.refl _)
  · rcases at_ 0 _ h with ⟨_, e⟩ | ⟨_, e⟩
    · cases e
    · exact E.oa a0 q o b e h2
/-- a test that reads a pair -/
def tFz (i : Nat) (g : STe) : STe := fun ρ => match ρ[i]? with
  | some (.obj (.pair x ds)) => g (ρ.set i (.val (pairD x ds)))
  | _ => none
theorem tFz_ok {tt : TT} {g : STe} (i : Nat) (k : TOk K B tt g) : TOk K B tt (tFz i g) := fun R F H σ ρ b E q Q kk => by
  unfold tFz at q
  split at q
  · rename_i x ds h0
    exact k _ _ H σ _ b (E.frzP h0) q Q fun H' G g => kk H' F ⟨g.h, Same.refl F, E.ex.trans g.h, fun _ z _ => z⟩
  · cases q
end
/-! ### functions that read an object and hand back a new one -/
section
variable {S S2 : Type} {K : PySem.W.Frag}
def spRN (K : PySem.W.Frag) (kd : Kd S) (k2 : Kd S2) (Ff : S → List PyData → Option S2) : Sp := fun vs H Q _ => ∃ (G R : Hp) (a : Addr) (β : S) (us : List V) (ds : List PyData) (γ : S2), vs = .ref a :: us ∧ Same G H ∧ Same R H ∧ Apart R G ∧ ObjAt K G R a (kd.inj β) ∧ RpAll K G us ds ∧ Ff β ds = some γ ∧
  ∀ b H' G' R', Grow H G H' G' → Same R' H' → Apart R' G' → (∀ y, R' y ≠ none → H y = none) → ObjAt K G' R' b (k2.inj γ) → Q (.ref b) H'
open Classical in
noncomputable def rnOf (kd : Kd S) (k2 : Kd S2) (N : List Str) (n : Nat) (b : (Addr → Option ObjSt) → SS) : S → List PyData → Option S2 := fun β ds =>
  if h : ∃ γ, ∀ a, runNew k2 N n (b (only a (kd.inj β))) (refD a :: ds) = some γ then some h.choose else none
theorem rnOf_ok {kd : Kd S} {k2 : Kd S2} {N : List Str} {n : Nat} {b : (Addr → Option ObjSt) → SS} {β : S} {ds : List PyData} {γ : S2} (h : rnOf kd k2 N n b β ds = some γ) : ∀ a, runNew k2 N n (b (only a (kd.inj β))) (refD a :: ds) = some γ := by
  unfold rnOf at h
  split at h
  · rename_i h2
    cases h
    exact h2.choose_spec
  · cases h
theorem rnOf_eq {kd : Kd S} {k2 : Kd S2} {N : List Str} {n : Nat} {b : (Addr → Option ObjSt) → SS} {β : S} {ds : List PyData} {γ : S2} (h : ∀ a, runNew k2 N n (b (only a (kd.inj β))) (refD a :: ds) = some γ) : rnOf kd k2 N n b β ds = some γ := by
  unfold rnOf
  have h' : ∃ γ, ∀ a, runNew k2 N n (b (only a (kd.inj β))) (refD a :: ds) = some γ := ⟨γ, h⟩
  rw [dif_pos h']
  exact (h'.choose_spec 0).symm.trans (h 0)
theorem sp_bodyBN {k2 : Kd S2} {B : Bs} {N : List Str} {n : Nat} {b : SS} {t : TS} (k : SSOk K B W0 t b) {vs : List V} {H G : Hp} {ds : List PyData} {γ : S2} {Q : VK} (bo : BsOk K B G H) (e : Same G H) (hR : RpAll K G vs ds) (hF : runNew k2 N n b ds = some γ)
    (hQ : ∀ a H' G' R', Grow H G H' G' → Same R' H' → Apart R' G' → (∀ y, R' y ≠ none → H y = none) → ObjAt K G' R' a (k2.inj γ) → Q (.ref a) H') : t { nx := fun _ H' => Q .non H', rt := Q } (start N vs) H := by
  refine k ⟨noH, H, G⟩ noR G H _ _ _ (start_ok bo e hR) ?_
  unfold runNew at hF
  split at hF
  · cases hb : b (rho0 N ds) with
    | no => rw [hb] at hF; cases hF
    | nx r => rw [hb] at hF; cases hF
    | rt d r => rw [hb] at hF; cases hF
    | ex c r => rw [hb] at hF; cases hF
    | ro i r =>
      rw [hb] at hF
      have ho := slO_ok (show slO k2 r[i]? = some γ from hF)
      exact fun v σ H' R' F' s hv _ => by
        obtain ⟨a, h1, h2⟩ := s.env.obj i _ ho
        rw [h1] at hv
        cases hv
        exact hQ a H' F' (R' i) s.gr.pure (s.env.rh i) (s.env.rF i) (fun y hy => (s.fo i y hy).elim (fun z => absurd rfl z) id) h2
  · cases hF
theorem sp_runRN {kd : Kd S} {k2 : Kd S2} {X : Cx} {N : List Str} {n : Nat} {st : List Stmt} {b : (Addr → Option ObjSt) → SS} {vs : List V} {H : Hp} {Q : VK} {E : XK}
    (k : ∀ B : Bs, ∃ t, SemSs X.nox K B W0 st t (b B.bk)) (h : spRN K kd k2 (rnOf kd k2 N n b) vs H Q E) : ∃ t, PSs X st t ∧ t { nx := fun _ H' => Q .non H', rt := Q } (start N vs) H := by
  obtain ⟨G, R, a, β, us, ds, γ, rfl, e, eR, ap, bA, r, q, hQ⟩ := h
  have bo : BsOk K ⟨R, G, only a (kd.inj β), none⟩ G H := ⟨Same.refl G, eR, ap, only_ok bA⟩
  obtain ⟨t, k⟩ := k ⟨R, G, only a (kd.inj β), none⟩
  exact ⟨t, k.ps.nox, sp_bodyBN k.ok bo e (.cons (.inr (.inl ⟨a, rfl, rfl⟩)) r) (rnOf_ok q a) hQ⟩
theorem spRN_len {kd : Kd S} {k2 : Kd S2} {N : List Str} {n : Nat} {b : (Addr → Option ObjSt) → SS} {vs : List V} {H : Hp} {Q : VK} {E : XK} (h : spRN K kd k2 (rnOf kd k2 N n b) vs H Q E) : vs.length = n := by
  obtain ⟨G, R, a, β, us, ds, γ, rfl, e, eR, ap, bA, r, q, hQ⟩ := h
  have := runNew_len (rnOf_ok q a)
  rw [List.length_cons, r.len]
  simpa using this
structure PFRN (P : Program) (w : World) (K : PySem.W.Frag) (mg : Str → Option Value) (base : Heap) (k : Nat) (kd : Kd S) (k2 : Kd S2) (x : Str) (Ff : S → List PyData → Option S2) : Prop where
  ex : ∃ (f : Addr) (fd : FuncData) (ps : List Str), FnOk P w K mg base CX0 k f fd ps (spRN K kd k2 Ff) ∧ mg x = some (.ref f) ∧ PySem.W.keepIn K (.ref f) = true ∧ Binds K fd ps []
/-- y = f(o): slot i gets the new object, o in slot j -/
def sSetRN (bk : Addr → Option ObjSt) (i j : Nat) (kd : Kd S) (k2 : Kd S2) (Ff : S → List PyData → Option S2) : SS := fun ρ => match (rcv kd bk ρ j).bind fun β => Ff β [] with
  | some γ => .nx (ρ.set i (.obj (k2.inj γ)))
  | none => .no
theorem setRN_ok {kd : Kd S} {k2 : Kd S2} {B : Bs} {W : XW} {Ff : S → List PyData → Option S2} (i j : Nat) (hB : i = 0 → B.o = none) : SSOk K B W (tAsg (tCall (spRN K kd k2 Ff) [] E0 (tCons (tVar j) tNil)) (gName i)) (sSetRN B.bk i j kd k2 Ff) := fun Z R F H σ ρ D s hg => by
  unfold sSetRN at hg
  cases e1 : rcv kd B.bk ρ j with
  | none => rw [e1] at hg; exact hg.elim
  | some β =>
    rw [e1, Option.bind_some] at hg
    cases e2 : Ff β [] with
    | none => rw [e2] at hg; exact hg.elim
    | some γ =>
      simp only [e2] at hg
      obtain ⟨a, R', s1, bA, sR, ap⟩ := rcv_ok s.env e1
      refine ⟨.ref a, s1, ?_⟩
      show spRN K kd k2 Ff ([.ref a] ++ []) H (fun x H1 => gName i x σ H1 D.nx) E0
      exact ⟨F, R', a, β, [], [], γ, rfl, s.env.ex, sR, ap, bA, .nil, e2, fun b H' G' R2 g rh rF rn bA2 => hg _ H' _ G' (s.newO hB g rh rF rn bA2) g.f⟩
/-- f(Book()), handed nothing else -/
def eNewB (Fr : BookSt → List PyData → Res) : SE := fun _ => (Fr ⟨[], []⟩ []).ok
end
section
variable {S S2 : Type} {kd : Kd S} {k2 : Kd S2} {X : Cx} {K : PySem.W.Frag} {B : Bs} {W : XW} {e : Expr} {te : TE} {f : SA} {tt : TT} {g : STe} {x y z : Str} {p p2 p3 pos pos2 : Pos} {i j k l : Nat} {st : Stmt} {Ff : S → List PyData → Option S2} {Fr : BookSt → List PyData → Res}
theorem s_retPV (i j : Nat) {x : Str} (hi : i ≠ 0) (hij : i ≠ j) (ps : PS X st (tRet (tTup (tCons (tC (.str x)) (tCons (tVar j) tNil))))) : SemS X K B W st (tRet (tTup (tCons (tC (.str x)) (tCons (tVar j) tNil)))) (sRetPV i j x) := ⟨ps, retPV_ok hi hij⟩
theorem s_retPL (i : Nat) {x : Str} {j1 x1 cp pos rp} (hi : i ≠ 0) (h : SemL X K B e te f) (ps : PS X (.Return (some (.Tuple [.Constant (.str x) j1 cp, e] x1 pos)) rp) (tRet (tTup (tCons (tC (.str x)) (tCons te tNil))))) :
    SemS X K B W (.Return (some (.Tuple [.Constant (.str x) j1 cp, e] x1 pos)) rp) (tRet (tTup (tCons (tC (.str x)) (tCons te tNil)))) (sRetPL i x f) := ⟨ps, retPL_ok hi h.ok⟩
theorem s_pairClr (i : Nat) (ps : PS X st (tDrop (tBM0 K "list" rClear (tOp (rIx K) (tVar i) (tC (.int 1)))))) : SemS X K B W st (tDrop (tBM0 K "list" rClear (tOp (rIx K) (tVar i) (tC (.int 1))))) (sPairClr i) := ⟨ps, pairClr_ok⟩
theorem st_fz (i : Nat) (h : SemT X K B e tt g) : SemT X K B e tt (tFz i g) := ⟨h.pt, tFz_ok i h.ok⟩
theorem s_setRN (i j : Nat) (C : PFRN X.prog X.w K X.mg X.base k kd k2 x Ff) (hr : Room l X.A) (hB : i = 0 → B.o = none) (hN : X.N.Nodup) (hp : PE X (.Name z p3) (tVar j)) (hi : X.N[i]? = some y := by rfl) (hk : k ≤ l := by decide) (hx : Loc X.env.scope y := by first | exact Or.inl rfl | exact Or.inr rfl)
    (hs : swapsWith (.Call (.Name x p) [.Name z p3] [] pos) (some (.Name y p2)) pos2.line X.env = pure false := by rfl) (hf : X.fn y = true ∨ X.env.scope.names.lookup y = some .local := by first | exact .inl rfl | exact .inr rfl)
    (hg : Gl X x := by rfl) (hdb : (x == ("__debug__" : Str)) = false := by decide) (he : starEach [Expr.Name z p3] X.env = [(false, eval (.Name z p3) X.env)] := by rfl) (hpl : (backTo pos (starEach [] X.env)).any (·.1) = false := by rfl) (hK : X.K = K := by rfl) :
    SemS X K B W (.Assign [.Name y p2] (.Call (.Name x p) [.Name z p3] [] pos) pos2) (tAsg (tCall (spRN K kd k2 Ff) [] E0 (tCons (tVar j) tNil)) (gName i)) (sSetRN B.bk i j kd k2 Ff) := by
  subst hK
  obtain ⟨f, fd, ps, h1, h2, h3, h4⟩ := C.ex
  exact ⟨ps_set hN hi hx (pe_call h1 (hr.mono hk) hg h2 h3 h4 .nil pass0 (pa_cons hp pa_nil he) hdb he hpl) hs hf, setRN_ok i j hB⟩
/-- f(Book()) -/
theorem newB_ok : EOk K B (tCall (spRG K kB Fr) [] E0 (tCons (tMake (He.ga K "Book") (spInit K) [] E0 tNil) tNil)) (eNewB Fr) := fun R F H σ ρ d E q Q k => by
  intro x dx hx hdx hne
  have nx : ∀ b o, H b = some o → (upd (upd H dx (.own x)) x (.ins (He.ga K "Book") dx [])) b = some o := fun b o e => by
    rw [upd_ne (ne_of_none e hx), upd_ne (ne_of_none e hdx)]; exact e
  refine ⟨x, dx, rfl, upd_same, by rw [upd_ne hne]; exact upd_same, fun H' R' kp rh rn bA => ⟨rfl, ?_⟩⟩
  have hH : Same H H' := fun b o e => kp b o (ne_of_none e hx) (nx b o e)
  have rn' : ∀ y, R' y ≠ none → H y = none := fun y hy => by
    rcases rn y hy with rfl | rfl | z
    · exact hx
    · exact hdx
    · cases e : H y with
      | none => rfl
      | some o => rw [nx y o e] at z; cases z
  have gr : Grow H F H' F := ⟨hH, Same.refl F, E.ex.trans hH, fun _ z _ => z⟩
  show spRG K kB Fr ([.ref x] ++ []) H' Q E0
  refine ⟨F, R', x, ⟨[], []⟩, [], [], rfl, gr.sub, rh, (fun y hy => E.ex.free (rn' y hy)), bA F, .nil, ?_⟩
  unfold eNewB at q
  cases e3 : Fr ⟨[], []⟩ [] with
  | ret d' =>
    rw [e3] at q
    cases q
    exact fun v H2 G2 g2 r2 => k v H2 G2 (gr.trans g2) r2
  | exc c => rw [e3] at q; cases q
  | no => rw [e3] at q; cases q
theorem se_newB (C : PFRG X.prog X.w K X.mg X.base k kB x Fr) (hr : Room l X.A) (hp : PE X e (tMake (He.ga X.K "Book") (spInit X.K) [] E0 tNil)) (hk : k ≤ l := by decide) (hg : Gl X x := by rfl) (hdb : (x == ("__debug__" : Str)) = false := by decide)
    (he : starEach [e] X.env = [(false, eval e X.env)] := by rfl) (hpl : (backTo pos (starEach [] X.env)).any (·.1) = false := by rfl) (hK : X.K = K := by rfl) :
    SemE X K B (.Call (.Name x p) [e] [] pos) (tCall (spRG K kB Fr) [] E0 (tCons (tMake (He.ga K "Book") (spInit K) [] E0 tNil) tNil)) (eNewB Fr) := by
  subst hK
  obtain ⟨f, fd, ps, h1, h2, h3, h4⟩ := C.ex
  exact ⟨pe_call h1 (hr.mono hk) hg h2 h3 h4 .nil pass0 (pa_cons hp pa_nil he) hdb he hpl, newB_ok⟩
end
end RT
/-! A list comprehension whose element may raise. -/
namespace RT
open PySem PySem.Spec PyProof.Rows L2
/-- an exception out of a call in the block, wished at the slots around -/
theorem blk_out {X : Cx} {w : WX} {pins pins' : List (Addr × Obj)} {σ σ' : L2.St} {H3 H6 : Hp} {s3 s6 s' : Shared} {fp : List Addr} {ce : Env} {scope : Scope} {E : Value → Shared → Prop} {u : Value}
    (tk : Takes X w) (hs : X.stack = X.env :: X.outer) (hf : X.env.frame = some X.env.locals) (I3 : Inv X pins σ H3 s3) (hfp : ∀ b ∈ fp, FpOk X pins H3 b) (hC : s3.heap.objs.size ≤ ce.locals) (hcf : ce.frame = X.env.frame)
    (I6 : Inv ((X.blk s3 H3 scope ce fp).wish E) pins' σ' H6 s6) (c : L2.CX X.prog X.w X.stack H6 s6 (fun cls d H' => w cls d σ H') u s') :
    notedBy (model X.prog X.w) X.A ce (CompFails (model X.prog X.w) X.A X.xe ce) u s' := by
  obtain ⟨a, B, H', cls, d, rfl, fl, hok, ub, na, os, ag, hE⟩ := c
  have I7 : Inv X pins σ H6 s6 := I3.call' (ch := fp) I6.os I6.base I6.hok I6.bare fun b hb => ⟨(hfp b hb).2.2.2.1, (hfp b hb).2.1, (hfp b hb).2.2.2.2.1, (hfp b hb).2.2.2.2.2⟩
  have hfr : X.A.frames = some (X.env :: X.outer) := by rw [I3.ok.frames, hs]
  have nC6 : H6 ce.locals = none := I6.free
  obtain ⟨m, hn6, _⟩ := I6.loc
  have hn6 : s6.heap.Ns ce.locals m := hn6
  have Cfr : ce.locals ∉ frs X.stack := fun hm => by
    obtain ⟨_, o, ho, _⟩ := I3.stack.mem hm
    exact absurd (Nat.lt_of_lt_of_le (Heap.lt_size ho) hC) (Nat.lt_irrefl _)
  obtain ⟨oC, esC, epC, hoC, rC⟩ := id hn6
  have bC : B.get? ce.locals = some oC := ub.keep _ _ hoC nC6 Cfr
  have nC' : H' ce.locals = none := ub.free _ _ hoC nC6
  have aC : a ≠ ce.locals := fun z => by
    have := fl.2.1
    rw [z, bC] at this
    cases this
  show wpAny _ _ (noteFrame (.ref a) ce) _ _ s'
  rw [noteFrame_env _ hcf]
  have fl' : HandSPX.FlyingZ B (X.env :: X.outer) a (Zc cls d) s'.heap := by rw [← hs]; exact fl
  refine HandSPX.looks_onZ Zc.steady hfr hf fl' fun h1 hh1 up1 => ?_
  refine ⟨m, ⟨oC, esC, epC, hh1.1 _ _ bC, rC⟩, fun h2 m2 hn2 hs2 => ?_⟩
  obtain ⟨B', g1, g2⟩ := restrict B fun b => decide (b ≠ ce.locals)
  have gne : ∀ b, b ≠ ce.locals → B'.get? b = B.get? b := fun b hb => g1 b (by simp [hb])
  have gC : B'.get? ce.locals = none := g2 _ (by simp)
  have sub : ∀ b o, B'.get? b = some o → B.get? b = some o ∧ b ≠ ce.locals := fun b o e => by
    by_cases hb : b = ce.locals
    · rw [hb, gC] at e; cases e
    · exact ⟨by rw [← gne b hb]; exact e, hb⟩
  have nBB : ∀ b, B.get? b = none → B'.get? b = none := fun b e => by
    cases q : B'.get? b with
    | none => rfl
    | some o => rw [(sub b o q).1] at e; cases e
  have hh2 : HandSPX.HeldZ B' (X.env :: X.outer) a (Zc cls d) X.env.locals h2 := by
    obtain ⟨k1, k2, k3, oe, vs, T, oT, ts, he, hz, hd, hv1, hnT, hTe, hT, hdT, h3⟩ := hh1
    have ff : h2.FunFrames B (X.env :: X.outer) := Heap.FunFrames.sameBut hs2 hn2 k3
    have TC : T ≠ ce.locals := fun z => by rw [z, bC] at hnT; cases hnT
    refine ⟨fun b o e => ?_, nBB _ k2, funFrames_none ff fun b hb => nBB _ (ff.mem hb).1, oe, vs, T, oT, ts, (hs2.2 a aC).trans he, hz, hd, hv1, nBB _ hnT, hTe, (hs2.2 T TC).trans hT, hdT, h3⟩
    obtain ⟨e1, e2⟩ := sub b o e
    exact (hs2.2 b e2).trans (k1 b o e1)
  obtain ⟨k1, k2, k3, oe, vs, T, oT, ts, he, hz, hd, hv1, hr⟩ := id hh2
  unfold PySem.passOn
  refine wpAny_bind (wpAny_field he hd hv1 ?_)
  rw [if_neg (show ¬ ((Value.ref T == Value.none) = true) from by simp)]
  rw [hcf, hf]
  have fin : wpAny (model X.prog X.w) X.A (setFlight (.ref a) (some X.env.locals)) (fun _ s4 => wpAny (model X.prog X.w) X.A (throw (.ref a) : Sem Value) (fun _ _ => False) X.xe s4) X.xe { s' with heap := h2 } := by
    refine HandSPX.setFlight_onZ hh2 fun h3 hh3 up3 => wpAny_throw (tk _ _ ?_)
    obtain ⟨G, q1, q2⟩ := restrict h3 fun b => decide (b ≠ ce.locals) && ((B.get? b).isSome || decide (b ∈ frs X.stack))
    have st3 : B'.StaysIn h3 := hh3.1
    have gB : ∀ b o, b ≠ ce.locals → B.get? b = some o → G.get? b = some o := fun b o hb e => by
      rw [q1 b (by simp [hb, e])]
      exact st3 b o (by rw [gne b hb]; exact e)
    have gF : ∀ b, b ∈ frs X.stack → G.get? b = h3.get? b := fun b hb => q1 b (by simp [hb]; exact fun z => Cfr (z ▸ hb))
    have og : ∀ b o, G.get? b = some o → h3.get? b = some o ∧ b ≠ ce.locals ∧ ((B.get? b).isSome = true ∨ b ∈ frs X.stack) := fun b o e => by
      cases q : (decide (b ≠ ce.locals) && ((B.get? b).isSome || decide (b ∈ frs X.stack))) with
      | false => rw [q2 b q] at e; cases e
      | true =>
        rw [q1 b q] at e
        simp only [Bool.and_eq_true, Bool.or_eq_true, decide_eq_true_eq] at q
        exact ⟨e, q.1, q.2⟩
    have frSlot : ∀ b o, s6.heap.get? b = some o → b ∈ frs X.stack → ∃ sl, h3.get? b = some { o with slots := sl } := fun b o e hb => by
      obtain ⟨_, o', e', hnf⟩ := I7.stack.mem hb
      rw [e] at e'; cases e'
      obtain ⟨sl, e1⟩ := ub.slot b o e hb
      obtain ⟨sl2, e2⟩ := up1 b _ e1 hnf
      have bne : b ≠ ce.locals := fun z => Cfr (z ▸ hb)
      have e3 := (hs2.2 b bne).trans e2
      obtain ⟨sl3, e4⟩ := up3 b _ e3 hnf
      exact ⟨sl3, e4⟩
    have fC := I3.fpOk hC nC'
    have J : Inv X pins σ H' { s6 with heap := G, gens := s'.gens, drawn := s'.drawn, toks := s'.toks } := by
      refine I7.call (ch := [ce.locals]) ⟨fun b o e n hb hc => gB b o (by simpa using hc) (ub.keep b o e n hb), fun b o e n hb _ => ?_, fun b o e n _ => ub.free b o e n, fun b o e hc => ?_, ub.tups, ub.frzs, ub.tbls⟩ (fun b o e => ?_) ag (fun b hb => ?_)
      · obtain ⟨sl, q⟩ := frSlot b o e hb
        exact ⟨sl, by rw [gF b hb]; exact q⟩
      · by_cases hb : b ∈ frs X.stack
        · obtain ⟨sl, q⟩ := frSlot b o e hb
          exact ⟨_, by rw [gF b hb]; exact q⟩
        · obtain ⟨o', q⟩ := ub.there b o e hb
          exact ⟨o', gB b o' (by simpa using hc) q⟩
      · refine (hok b o e).stay (fun c v hc q => gB c v (fun z => ?_) q) (fun _ q => q) fun _ _ q => q
        subst z
        rcases hc with hc | hc
        · rw [hc, e] at nC'; cases nC'
        · rw [nC'] at hc; cases hc
      · have : b = ce.locals := by simpa using hb
        subst this
        exact ⟨fC.2.2.2.1, fC.2.1, fC.2.2.2.2.1, fC.2.2.2.2.2⟩
    refine ⟨a, B', _, pins, σ, H', cls, d, rfl, J, fun b o e hb => ?_, Heap.UpToSlots.of_keeps fun b o e => (og b o e).1, .inr (.inr (by rw [hs]; exact hh3)), na, os, ag, hE⟩
    obtain ⟨e1, e2, e3⟩ := og b o e
    rcases e3 with e3 | e3
    · obtain ⟨o', e4⟩ := Option.isSome_iff_exists.mp e3
      have z := st3 b o' (by rw [gne b e2]; exact e4)
      rw [e1] at z; cases z
      rw [gne b e2]; exact e4
    · exact absurd e3 hb
  first
    | exact wpAny_bind fin
    | exact wpAny_bind (wpAny_pure (wpAny_bind fin))
/-- [elt for x in xs], the element's exceptions wished at the slots around -/
def tLcX (wi : TI) (g : TG) (te : XK → TE) (w : WX) (vs : List Nat) : TE := fun σ H Q => wi σ H fun J Ha => ∀ L, Ha L = none → ∃ W : Nat → Nat → Hp → Prop, (∃ n, W 0 n (upd Ha L (.lst []))) ∧
  ∀ i n Hb, W i n Hb → (J.stop i Hb ∧ Q (.ref L) Hb) ∨ (J.go i Hb ∧ ∃ N : Hp → Prop, (∀ Hc, N Hc → ∃ n', n' < n ∧ W (i + 1) n' Hc) ∧
    ∀ x Hc, J.yld i Hb x Hc → g x (wipe σ vs) Hc fun τ Hd => wipe τ vs = wipe σ vs ∧ te (fun cls d He => w cls d σ He) τ Hd fun y He => ∃ ys, He L = some (.lst ys) ∧ ys.length < sizeLine ∧ N (upd He L (.lst (ys ++ [y]))))
section
variable {X : Cx} {w : WX} {elt tg iter : Expr} {scope : Scope} {own : List (Str × Nat)} {pos : Pos} {wi : TI} {g : TG} {te : XK → TE}
theorem pe_lcX (tk : Takes X w) (hst : X.stack = X.env :: X.outer) (hf : X.env.frame = some X.env.locals) (hc : X.calm = true) (hN : X.N.Nodup) (hi : PI X tg iter wi) (ok : BlkOk X.N X.env.scope scope own)
    (hg : ∀ (E : Value → Shared → Prop) (s : Shared) (H : Hp) (C : Addr) (cl : List (Str × Addr)) (fp : List Addr), PG ((X.blk s H scope (compEnvC scope cl C X.env) fp).wish E) tg g)
    (he : ∀ (V : XK) (E : Value → Shared → Prop) (s : Shared) (H : Hp) (C : Addr) (cl : List (Str × Addr)) (fp : List Addr), Passes (L2.CX X.prog X.w) ((X.blk s H scope (compEnvC scope cl C X.env) fp).wish E) V → PE ((X.blk s H scope (compEnvC scope cl C X.env) fp).wish E) elt (te V))
    (hs : ∀ x, foldedSetIterable iter X.env x = pure x := by intro _; rfl) : PE X (.ListComp elt [⟨tg, iter, [], 0⟩] scope pos) (tLcX wi g te w (own.map (·.2))) := by
  refine ⟨fun pins s0 σ H Q I h => ?_⟩
  rw [eval_ListComp]
  have cap : ∀ y ∈ scope.names, y.2 = .free → ∃ c, X.env.cells.lookup y.1 = some c := fun y hy e => (ok.free y hy e).elim (fun k => I.ok.has _ (.inl k)) fun k => I.ok.has _ (.inr k)
  refine comprehension_at (use := none) rfl hs (closure_ok cap) ok.kind (fun y hy e => by rw [ok.uniq y hy, e]) (thn (hi.run pins s0 σ H _ I h) fun xv s1 hx => thn hx fun itv s2 h2 => ?_)
  obtain ⟨it, fp, tn, J, H2, rfl, I2, T, st2, f2, q⟩ := h2
  refine wpAny_newObj_type (newEnv_comp ?_) (Nat.zero_le _)
  generalize hL : s2.heap.objs.size = L
  have nL : H2 L = none := I2.hok.fresh (Nat.le_of_eq hL)
  obtain ⟨W, ⟨n0, w0⟩, turn⟩ := q L nL
  generalize e3 : ({ s2 with heap := s2.heap.push { cls := .type "list", data := .seq ([] : List Value).toArray } } : Shared) = s3
  have hp3 : s3.heap = s2.heap.push { cls := .type "list", data := .seq ([] : List Value).toArray } := by rw [← e3]
  have kp3 : ∀ b o, s2.heap.get? b = some o → s3.heap.get? b = some o := fun b o e => by rw [hp3]; exact Heap.get?_push_of_some _ e
  have I3 : Inv X pins σ (upd H2 L (.lst [])) s3 := by
    rw [← e3]
    exact I2.laid (t' := s2.toks) (fun b o e => Heap.get?_push_of_some _ e) (Nat.le_of_eq hL) ⟨Nat.zero_le _, [], 0, .nil, by rw [← hL]; exact Heap.get?_push_size _ rfl⟩
  have f3 : ∀ b ∈ fp, FpOk X pins (upd H2 L (.lst [])) b ∧ b < s3.heap.objs.size := fun b hb => by
    obtain ⟨o, e, _⟩ := T.obj _ _ st2 b hb
    have lt := Heap.lt_size e
    exact ⟨⟨by rw [upd_ne (by rw [← hL]; exact Nat.ne_of_lt lt)]; exact (f2 b hb).1, (f2 b hb).2⟩, Heap.lt_size (kp3 _ _ e)⟩
  generalize hH3 : upd H2 L (.lst []) = H3 at I3 f3 w0
  have st3 : tn 0 s3.heap := T.keep _ _ _ st2 fun b _ o e => kp3 b o e
  have I4 := block_start I3 ok hN f3
  have pg := fun E => hg E s3 H3 s3.heap.objs.size (cellsFrom (s3.heap.objs.size + 1) scope.names (cloFrom X.env.cells scope.names [])) fp
  have pe := fun V E => he V E s3 H3 s3.heap.objs.size (cellsFrom (s3.heap.objs.size + 1) scope.names (cloFrom X.env.cells scope.names [])) fp
  show codeAny _ _ (.compStart (.ListComp elt [⟨tg, iter, [], 0⟩] scope pos) 0 (.ref it) (.ref L) (compEnvC scope (cellsFrom (s3.heap.objs.size + 1) scope.names (cloFrom X.env.cells scope.names [])) s3.heap.objs.size X.env))
    (compEnds (model X.prog X.w) X.A X.xe none (EP X pins σ Q) (.ref L) (compEnvC scope (cellsFrom (s3.heap.objs.size + 1) scope.names (cloFrom X.env.cells scope.names [])) s3.heap.objs.size X.env)) { s3 with heap := pushCells (s3.heap.push { cls := .type "dict", data := .dict #[] }) scope.names }
  generalize hce : compEnvC scope (cellsFrom (s3.heap.objs.size + 1) scope.names (cloFrom X.env.cells scope.names [])) s3.heap.objs.size X.env = ce at I4 pg pe ⊢
  have cL : ce.locals = s3.heap.objs.size := by subst hce; rfl
  have cF : ce.frame = X.env.frame := by subst hce; rfl
  generalize e4 : ({ s3 with heap := pushCells (s3.heap.push { cls := .type "dict", data := .dict #[] }) scope.names } : Shared) = s4 at I4 ⊢
  have st4 : tn 0 s4.heap := T.keep _ _ _ st3 fun b _ o e => by rw [← e4]; exact pushCells_keeps _ _ _ _ (Heap.get?_push_of_some _ e)
  generalize hE : notedBy (model X.prog X.w) X.A ce (CompFails (model X.prog X.w) X.A X.xe ce) = E
  have J4 := I4.wish E
  have stat : ∀ {τ : L2.St} {Ha : Hp} {sa : Shared}, Inv ((X.blk s3 H3 scope ce fp).wish E) [] τ Ha sa → (∀ b ∈ fp, Ha b = none) → ∀ b ∈ fp, FpOk ((X.blk s3 H3 scope ce fp).wish E) [] Ha b := fun {τ Ha sa} Ia no b hb =>
    ⟨no b hb, (Ia.ok.exf b hb).1, Ia.ok.exfs b hb, .inl hb, fun x c e => (Ia.ok.exf b hb).2 x c e, fun p hp => absurd (show p ∈ ([] : List (Addr × Obj)) ++ [] from hp) (by simp)⟩
  have pass : Passes (L2.CX X.prog X.w) ((X.blk s3 H3 scope ce fp).wish E) (fun cls d He => w cls d σ He) := fun pn τ Ha sa u sb Ia c => by
    show E u sb
    rw [← hE]
    exact blk_out tk hst hf I3 (fun b hb => (f3 b hb).1) (Nat.le_of_eq cL.symm) cF Ia c
  have pe' := pe _ E pass
  have loop : codeAny (model X.prog X.w) X.A (.compLoop (.ListComp elt [⟨tg, iter, [], 0⟩] scope pos) 0 (.ref it) (.ref L) ce) (compEnds (model X.prog X.w) X.A X.xe none (EP X pins σ Q) (.ref L) ce) s4 := by
    refine compLoop_any (fun n sa => ∃ i Ha, Inv ((X.blk s3 H3 scope ce fp).wish E) [] (wipe σ (own.map (·.2))) Ha sa ∧ tn i sa.heap ∧ (∀ b ∈ fp, Ha b = none) ∧ W i n Ha) ?_ n0 ⟨0, H3, J4, st4, fun b hb => (f3 b hb).1.1, w0⟩
    rintro n s5 ⟨i, H5, I5, st5, n5, w5⟩
    rcases turn i n H5 w5 with ⟨stop, qq⟩ | ⟨go, N, hNx, step⟩
    · refine thnF (T.done ((X.blk s3 H3 scope ce fp).wish E) rfl rfl rfl hc i [] s5 _ H5 (fun _ _ => False) I5 (stat I5 n5) st5 stop) fun r s6 ⟨hr, I6⟩ => ?_
      subst hr
      have I7 : Inv X pins σ H5 s6 := I3.call' (ch := fp) I6.os I6.base I6.hok I6.bare fun b hb => ⟨(f3 b hb).1.2.2.2.1, (f3 b hb).1.2.1, (f3 b hb).1.2.2.2.2.1, (f3 b hb).1.2.2.2.2.2⟩
      have nC : H5 ce.locals = none := I6.free
      obtain ⟨m, hn, _⟩ := I6.loc
      refine ⟨m, hn, fun h'' sb => ?_⟩
      obtain ⟨k0, k1, k2, k3, k4, k5⟩ := I3.fpOk (b := ce.locals) (Nat.le_of_eq cL.symm) nC
      exact ⟨.ref L, H5, I7.turned (t' := s6.toks) (fun b o hb e => (sb.2 b hb).trans e) k0 k1 k3 k4 k5, rfl, qq⟩
    · refine thnF (T.item ((X.blk s3 H3 scope ce fp).wish E) rfl rfl rfl hc i [] s5 _ H5 (fun _ _ => False) I5 (stat I5 n5) st5 go) fun r s6 ⟨u, hr, h6⟩ => ?_
      subst hr
      refine thnF h6 fun _ s7 ⟨x, H7, I7, r7, y7, st7, n7⟩ => ?_
      have I7' := I7.pinned (stat I7 n7) (T.obj _ _ st7)
      have run1 := (pg E).run _ s7 _ H7 x u _ I7' r7 (step x H7 y7)
      subst hE
      refine wpAny_mono run1 (fun _ s8 ⟨σ8, H8, I8, hw8, q8⟩ => ?_) fun _ _ z => z
      refine wpAny_tests_nil ?_
      simp only [if_true]
      refine wpAny_mono (pe'.run _ s8 σ8 H8 _ I8 q8) (fun z s10 ⟨yv, H10, I10, r10, ys, hL10, hz10, nx⟩ => ?_) fun _ _ z => z
      refine app_ok (X := (X.blk s3 H3 scope ce fp).wish _) I10 hL10 hz10 r10 fun s11 I11 => ?_
      obtain ⟨m', hm, w'⟩ := hNx _ nx
      have pin' : ∀ b ∈ fp, ∀ o, s7.heap.get? b = some o → s11.heap.get? b = some o ∧ _ := fun b hb o e =>
        let z := I11.pin (b, o) (List.mem_append_right _ (List.mem_append_right _ (mem_pinsAt hb e)))
        ⟨z.1, z.2.1⟩
      refine ⟨m', hm, i + 1, _, (I11.unpinned (pins := [])).weak (by rw [← hw8, wipe_length]) (fun j v e => ?_), T.keep _ _ _ st7 fun b hb o e => (pin' b hb o e).1, fun b hb => ?_, w'⟩
      · rw [← hw8] at e
        exact (wipe_some e).1
      · obtain ⟨o, e, _⟩ := T.obj _ _ st7 b hb
        exact (pin' b hb o e).2
  exact codeAny_compStart_list loop (T.self X.A 0 _ _ _ st4 loop)
end
end RT
/-! Functions of data that may raise. -/
namespace RT
open PySem PySem.Spec PyProof.Rows L2
def spX (K : PySem.W.Frag) (F : List PyData → Res) : Sp := fun vs H Q E => ∃ (G : Hp) (ds : List PyData), Same G H ∧ RpAll K G vs ds ∧
  (F ds).goes (fun d => ∀ v H' G', Grow H G H' G' → Rp K G' v d → Q v H') (fun c => ∀ H' G', Grow H G H' G' → E (.ref (He.ga K c)) none H')
def runX (N : List Str) (n : Nat) (b : SS) : List PyData → Res := fun ds => if ds.length = n then (match b (rho0 N ds) with
  | .rt d _ => .ret d
  | .nx _ => .ret .none
  | .ex c _ => .exc c
  | _ => .no) else .no
theorem runX_len {N : List Str} {n : Nat} {b : SS} {ds : List PyData} {A : PyData → Prop} {C : Str → Prop} (h : (runX N n b ds).goes A C) : ds.length = n := by
  unfold runX at h
  split at h
  · assumption
  · exact (show False from h).elim
abbrev wE (E : XK) : WX := fun cls d _ H => E cls d H
theorem sp_bodyX {K : PySem.W.Frag} {N : List Str} {n : Nat} {b : SS} {t : TS} {vs : List V} {H : Hp} {Q : VK} {E : XK} (k : SSOk K noB (wx K (wE E)) t b) (h : spX K (runX N n b) vs H Q E) : t { nx := fun _ H' => Q .non H', rt := Q } (start N vs) H := by
  obtain ⟨G, ds, e, hR, q⟩ := h
  refine k ⟨noH, H, G⟩ noR G H _ _ _ (start_ok bsOk_no e hR) ?_
  unfold runX at q
  split at q
  · cases hb : b (rho0 N ds) with
    | no => rw [hb] at q; exact (show False from q).elim
    | ro i r => rw [hb] at q; exact (show False from q).elim
    | nx r =>
      rw [hb] at q
      exact fun σ H' R' F' s _ => q .non H' F' s.gr.pure rp_non
    | rt d r =>
      rw [hb] at q
      exact fun v σ H' R' F' s _ r => q v H' F' s.gr.pure r
    | ex c r =>
      rw [hb] at q
      exact fun σ H' R' F' s _ => q H' F' s.gr.pure
  · exact (show False from q).elim
/-- the module's name x is a function of data that may raise -/
structure PFX (P : Program) (w : World) (K : PySem.W.Frag) (mg : Str → Option Value) (base : Heap) (k : Nat) (x : Str) (F : List PyData → Res) : Prop where
  ex : ∃ (f : Addr) (fd : FuncData) (ps : List Str), FnOk P w K mg base (L2.CX P w) k f fd ps (spX K F) ∧ mg x = some (.ref f) ∧ PySem.W.keepIn K (.ref f) = true ∧ Binds K fd ps []
theorem pfx_mk {P : Program} {w : World} {K : PySem.W.Frag} {mg : Str → Option Value} {base : Heap} {k : Nat} {x : Str} {st : Stmt} {N ps : List Str} {b : SS} {f : Addr} {fd : FuncData} (F : FunD K x x (defArgs st) (defBody st) (defScope st) [] [] f fd) (S : FnScope N ps (defScope st)) (hm : mg x = some (.ref f))
    (hb : ∀ (kV doc pm : Value) (an : Option Addr) (cdv ct : Value) (us : List Value), us.length = ps.length → bindArgs (PySem.W.fnOf x x (defArgs st) (defBody st) (defScope st) .none kV doc pm an cdv ct) ⟨us, []⟩ = pure (ps.zip us))
    (body : ∀ (cdv : Value) (A : Around) (outer : List Env) (s : Shared) (H : Hp) (E : XK), Room k (A.deeper (envOfC x (defScope st) s.heap.objs.size f cdv)) → ∃ t, SemSs (cxOf (L2.CX P w) P w K mg base N x (defScope st) f cdv A outer s H E) K noB (wx K (wE E)) (defBody st) t b) :
    PFX P w K mg base (k + 1) x (runX N ps.length b) := by
  refine ⟨f, fd, ps, F.ok S (fun vs H Q E h => ?_) (fun cdv A outer s H vs Q E hr h => ?_), hm, F.kp, F.bindsN hb⟩
  · obtain ⟨G, ds, e, hR, q⟩ := h
    rw [hR.len]; exact runX_len q
  · obtain ⟨t, ht⟩ := body cdv A outer s H E hr
    exact ⟨t, ht.ps, sp_bodyX ht.ok h⟩
/-! ### words -/
def xCall (F : List PyData → Res) (sa : SA) : Rho → Res := fun ρ => match sa ρ with
  | some ds => F ds
  | none => .no
/-- an element, whatever its exceptions are wished -/
def EVOk (K : PySem.W.Frag) (B : Bs) (te : XK → TE) (f : Rho → Res) : Prop := ∀ (V : XK) (R : Rg) (F H : Hp) (σ : L2.St) (ρ : Rho) (Q : VK), EnvOk K B R F H σ ρ →
  (f ρ).goes (fun d => ∀ v H' G, Grow H F H' G → Rp K G v d → Q v H') (fun c => ∀ H' G, Grow H F H' G → V (.ref (He.ga K c)) none H') → te V σ H Q
section
variable {X : Cx} {K : PySem.W.Frag} {B : Bs} {w : WX} {e : Expr} {es : List Expr} {ta : TA} {sa : SA} {x : Str} {p pos : Pos} {k j : Nat} {F : List PyData → Res} {te : TE} {f : Rho → Res}
theorem callV_ok (ha : AOk K B ta sa) : EVOk K B (fun V => tCall (spX K F) [] V ta) (xCall F sa) := fun V R F' H σ ρ Q E q => by
  unfold xCall at q
  cases e1 : sa ρ with
  | none => rw [e1] at q; exact (show False from q).elim
  | some ds =>
    rw [e1] at q
    refine ha _ F' H σ ρ ds E e1 _ fun vs H1 G1 g1 r1 => ?_
    rw [List.append_nil]
    refine ⟨G1, ds, g1.sub, r1, ?_⟩
    simp only at q
    cases e2 : F ds with
    | no => rw [e2] at q; exact q
    | ret d => rw [e2] at q; exact fun v H' G' g r => q v H' G' (g1.trans g) r
    | exc c => rw [e2] at q; exact fun H' G' g => q H' G' (g1.trans g)
theorem callX_ok (ha : AOk K B ta sa) : EXOk K B w (tCallS (spX K F) (WE w) ta) (xCall F sa) := fun R F' H σ ρ Q E q => by
  unfold xCall at q
  cases e1 : sa ρ with
  | none => rw [e1] at q; exact (show False from q).elim
  | some ds =>
    rw [e1] at q
    refine ha _ F' H σ ρ ds E e1 _ fun vs H1 G1 g1 r1 => ⟨G1, ds, g1.sub, r1, ?_⟩
    simp only at q
    cases e2 : F ds with
    | no => rw [e2] at q; exact q
    | ret d => rw [e2] at q; exact fun v H' G' g r => q v H' G' (g1.trans g) r
    | exc c => rw [e2] at q; exact fun H' G' g => q H' G' (g1.trans g)
theorem sx_call (C : PFX X.prog X.w K X.mg X.base k x F) (tk : Takes X w) (hr : Room j X.A) (ha : SemA X K B (e :: es) ta sa) (hk : k ≤ j := by decide) (hg : Gl X x := by rfl) (hdb : (x == ("__debug__" : Str)) = false := by decide)
    (he : starEach (e :: es) X.env = (false, eval e X.env) :: starEach es X.env := by rfl) (hpl : (backTo pos (starEach es X.env)).any (·.1) = false := by rfl) (hK : X.K = K := by rfl) :
    SemX X K B w (.Call (.Name x p) (e :: es) [] pos) (tCallS (spX K F) (WE w) ta) (xCall F sa) := by
  subst hK
  obtain ⟨f, fd, ps, h1, h2, h3, h4⟩ := C.ex
  exact ⟨pe_callS h1 (hr.mono hk) hg h2 h3 h4 (passAt tk) ha.pa hdb he hpl, callX_ok ha.ok⟩
end
/-! ### [f(..) for x in xs], slot j -/
def lcX (j : Nat) (f : Rho → Res) (ρ : Rho) : List PyData → Res
  | [] => .ret (.list [])
  | d :: ds => match f (ρ.set j (.val d)) with
    | .no => .no
    | .exc c => .exc c
    | .ret e => if dataD e = true then (match lcX j f ρ ds with
      | .ret (.list es) => .ret (.list (e :: es))
      | .exc c => .exc c
      | _ => .no) else .no
def xLc (src : SA) (j : Nat) (f : Rho → Res) : Rho → Res := fun ρ => match src ρ with
  | some ds => if ds.length ≤ LIM then lcX j f ρ ds else .no
  | none => .no
/-- the list so far, ahead -/
def preX (es : List PyData) : Res → Res
  | .ret (.list l) => .ret (.list (es ++ l))
  | .exc c => .exc c
  | _ => .no
theorem lcX_cases (j : Nat) (f : Rho → Res) (ρ : Rho) : ∀ ds, lcX j f ρ ds = .no ∨ (∃ c, lcX j f ρ ds = .exc c) ∨ ∃ l, lcX j f ρ ds = .ret (.list l)
  | [] => .inr (.inr ⟨[], rfl⟩)
  | d :: ds => by
    unfold lcX
    cases f (ρ.set j (.val d)) with
    | no => exact .inl rfl
    | exc c => exact .inr (.inl ⟨c, rfl⟩)
    | ret e =>
      simp only
      by_cases he : dataD e = true
      · rw [if_pos he]
        rcases lcX_cases j f ρ ds with h | ⟨c, h⟩ | ⟨l, h⟩ <;> rw [h]
        · exact .inl rfl
        · exact .inr (.inl ⟨c, rfl⟩)
        · exact .inr (.inr ⟨_, rfl⟩)
      · rw [if_neg he]
        exact .inl rfl
theorem preX_cons {j : Nat} {f : Rho → Res} {ρ : Rho} {d e : PyData} {ds es : List PyData} (h : f (ρ.set j (.val d)) = .ret e) (he : dataD e = true) : preX es (lcX j f ρ (d :: ds)) = preX (es ++ [e]) (lcX j f ρ ds) := by
  have : lcX j f ρ (d :: ds) = (match lcX j f ρ ds with
      | .ret (.list es) => .ret (.list (e :: es))
      | .exc c => .exc c
      | _ => .no) := by
    show (match f (ρ.set j (.val d)) with
    | .no => .no
    | .exc c => .exc c
    | .ret e => if dataD e = true then _ else .no : Res) = _
    rw [h]
    exact if_pos he
  rw [this]
  rcases lcX_cases j f ρ ds with h | ⟨c, h⟩ | ⟨l, h⟩ <;> rw [h]
  · rfl
  · rfl
  · simp [preX]
theorem preX_exc {j : Nat} {f : Rho → Res} {ρ : Rho} {d : PyData} {ds es : List PyData} {c : Str} (h : f (ρ.set j (.val d)) = .exc c) : preX es (lcX j f ρ (d :: ds)) = .exc c := by
  have : lcX j f ρ (d :: ds) = .exc c := by
    show (match f (ρ.set j (.val d)) with
    | .no => .no
    | .exc c => .exc c
    | .ret e => if dataD e = true then _ else .no : Res) = _
    rw [h]
  rw [this]; rfl
theorem preX_no {j : Nat} {f : Rho → Res} {ρ : Rho} {d : PyData} {ds es : List PyData} (h : f (ρ.set j (.val d)) = .no) : preX es (lcX j f ρ (d :: ds)) = .no := by
  have : lcX j f ρ (d :: ds) = .no := by
    show (match f (ρ.set j (.val d)) with
    | .no => .no
    | .exc c => .exc c
    | .ret e => if dataD e = true then _ else .no : Res) = _
    rw [h]
  rw [this]; rfl
theorem preX_bad {j : Nat} {f : Rho → Res} {ρ : Rho} {d e : PyData} {ds es : List PyData} (h : f (ρ.set j (.val d)) = .ret e) (he : ¬ dataD e = true) : preX es (lcX j f ρ (d :: ds)) = .no := by
  have : lcX j f ρ (d :: ds) = .no := by
    show (match f (ρ.set j (.val d)) with
    | .no => .no
    | .exc c => .exc c
    | .ret e => if dataD e = true then _ else .no : Res) = _
    rw [h]
    exact if_neg he
  rw [this]; rfl
theorem lcx_ok {K : PySem.W.Frag} {B : Bs} {w : WX} {wi : TI} {src : SA} {j : Nat} {te : XK → TE} {f : Rho → Res} (hi : IBOk K B wi src) (he : EVOk K B te f) : EXOk K B w (tLcX wi (gName j) te w [j]) (xLc src j f) := fun R F H σ ρ Q E q => by
  unfold xLc at q
  cases e0 : src ρ with
  | none => rw [e0] at q; exact (show False from q).elim
  | some ds =>
    rw [e0] at q
    simp only at q
    split at q
    · rename_i hlen
      refine hi _ F H σ ρ ds E e0 _ fun J H1 G1 g1 W D hD => ?_
      have E1 : EnvOk K B R G1 H1 σ ρ := E.grow g1
      have hG1 : G1 D = none := g1.sub.free hD
      have q0 : (preX [] (lcX j f ρ ds)).goes (fun d => ∀ v H' G, Grow H F H' G → Rp K G v d → Q v H') (fun c => ∀ H' G, Grow H F H' G → wx K w c σ H') := by
        rcases lcX_cases j f ρ ds with h | ⟨c, h⟩ | ⟨l, h⟩ <;> rw [h] at q ⊢ <;> exact q
      refine ⟨fun i m H' => m = ds.length - i ∧ i ≤ ds.length ∧ ∃ (G' : Hp) (acc : List V) (es : List PyData), Grow H1 G1 H' G' ∧ G' D = none ∧ H' D = some (.lst acc) ∧ DqAll K G' acc es ∧ acc.length ≤ i ∧
          (preX es (lcX j f ρ (ds.drop i))).goes (fun d => ∀ v H' G, Grow H F H' G → Rp K G v d → Q v H') (fun c => ∀ H' G, Grow H F H' G → wx K w c σ H'),
        ⟨ds.length, by simp, Nat.zero_le _, G1, [], [], (Grow.refl g1.sub).beside hD, hG1, upd_same, .nil, Nat.le_refl _, q0⟩, ?_⟩
      rintro i m H' ⟨rfl, hile, G', acc, es, g', hD', hacc, hA, hal, hr⟩
      have al : Same G1 G' ∧ Same G' H' ∧ Same H1 H' := ⟨g'.f, g'.sub, g'.h⟩
      by_cases hlt : i < ds.length
      · refine .inr ⟨W.go i G' H' al hlt, fun H2 => ∃ m', m' < ds.length - i ∧ (m' = ds.length - (i + 1) ∧ i + 1 ≤ ds.length ∧ ∃ (G' : Hp) (acc : List V) (es : List PyData), Grow H1 G1 H2 G' ∧ G' D = none ∧ H2 D = some (.lst acc) ∧ DqAll K G' acc es ∧ acc.length ≤ i + 1 ∧
            (preX es (lcX j f ρ (ds.drop (i + 1)))).goes (fun d => ∀ v H' G, Grow H F H' G → Rp K G v d → Q v H') (fun c => ∀ H' G, Grow H F H' G → wx K w c σ H')),
          fun H2 h => h, fun x H2 y => ?_⟩
        have hd : ds[i]? = some ds[i] := List.getElem?_eq_getElem hlt
        obtain ⟨G2, g2, r2⟩ := W.yld i G' H' x H2 _ al hd y
        rw [drop_cons_of hd] at hr
        have E2 : EnvOk K B R G2 H2 ((wipe σ [j]).set j (some x)) (ρ.set j (.val ds[i])) := by
          have z := (((E1.grow g').grow g2).setN j none).setV j r2
          have e : (ρ.set j .no).set j (.val ds[i]) = ρ.set j (.val ds[i]) := List.set_set ..
          rw [e] at z
          exact z
        refine ⟨wipe_back σ j (some x), ?_⟩
        refine he (fun cls d He => w cls d σ He) R G2 H2 _ _ _ E2 ?_
        cases ef : f (ρ.set j (.val ds[i])) with
        | no => rw [preX_no ef] at hr; exact hr
        | exc c =>
          rw [preX_exc ef] at hr
          exact fun H3 G3 g3 => hr H3 G3 (g1.trans ((g'.trans g2).trans g3))
        | ret e =>
          intro y H4 G4 g4 r4
          by_cases hde : dataD e = true
          · rw [preX_cons ef hde] at hr
            have gg : Grow H' G' H4 G4 := g2.trans g4
            have nD : G4 D = none ∧ H4 D = some (.lst acc) := ⟨gg.no D hD' (by rw [hacc]; intro z; cases z), gg.h _ _ hacc⟩
            have gt := g'.trans gg
            refine ⟨acc, nD.2, Nat.lt_of_lt_of_le (show acc.length < LIM + 1 by omega) (by decide), ds.length - (i + 1), by omega, rfl, hlt, G4, acc ++ [y], es ++ [e], ⟨?_, gt.f, ?_, gt.no⟩, nD.1, upd_same, ?_, by rw [List.length_append]; simp; omega, hr⟩
            · intro b o z
              rw [upd_ne (ne_of_none z hD)]
              exact gt.h b o z
            · intro b o z
              rw [upd_ne (ne_of_none z nD.1)]
              exact gt.sub b o z
            · exact (dpa_mono gg.f es hA).append (.cons (r4.dp (by rintro l rfl; cases hde)) .nil)
          · rw [preX_bad ef hde] at hr
            exact (show False from hr).elim
      · have e : i = ds.length := by omega
        subst e
        rw [List.drop_length] at hr
        have hr' : ∀ v H' G, Grow H F H' G → Rp K G v (.list (es ++ [])) → Q v H' := hr
        rw [List.append_nil] at hr'
        have gg := g1.trans g'
        exact .inl ⟨W.stop G' H' al, hr' (.ref D) H' _ (gg.within (g1.h.free hD) hD' hacc) (.inl (.lst upd_same (dpa_mono (Same.upd_new (Same.refl G') hD') es hA)))⟩
    · exact (show False from q).elim
section
variable {X : Cx} {K : PySem.W.Frag} {B : Bs} {w : WX} {e : Expr} {es : List Expr} {ta : TA} {sa : SA} {p pos : Pos} {te : TE} {f : Rho → Res}
def sRetX (f : Rho → Res) : SS := fun ρ => match f (ρ.map frz1) with
  | .no => .no
  | .ret d => .rt d (ρ.map frz1)
  | .exc c => .ex c (ρ.map frz1)
theorem retX_ok (k : EXOk K B w te f) : SSOk K B (wx K w) (tRet te) (sRetX f) := fun Z R F H σ ρ D s hg => by
  unfold sRetX at hg
  obtain ⟨F', e1, s'⟩ := s.frz
  refine k R F' H σ _ _ s'.env ?_
  cases e : f (ρ.map frz1) with
  | no => rw [e] at hg; exact hg
  | ret d => rw [e] at hg; exact fun v H' G g r => hg v σ H' R G (s'.grow g) (e1.trans g.f) r
  | exc c => rw [e] at hg; exact fun H' G g => hg σ H' R G (s'.grow g) (e1.trans g.f)
theorem s_retX (h : SemX X K B w e te f) : SemS X K B (wx K w) (.Return (some e) pos) (tRet te) (sRetX f) := ⟨ps_ret h.pe, retX_ok h.ok⟩
/-- [f(..) for x in xs], the call raising -/
theorem sx_lc {elt iter : Expr} {x : Str} {px : Pos} {scope : Scope} {j : Nat} {wi : TI} {src : SA} {tv : XK → TE} (tk : Takes X w) (hst : X.stack = X.env :: X.outer) (hf : X.env.frame = some X.env.locals) (hc : X.calm = true) (hN : X.N.Nodup) (hi : SemIB X K B (.Name x px) iter wi src) (ok : BlkOk X.N X.env.scope scope [(x, j)])
    (hv : EVOk K B tv f)
    (he : ∀ (V : XK) (E : Value → Shared → Prop) (s : Shared) (H : Hp) (C : Addr) (cl : List (Str × Addr)) (fp : List Addr), Passes (L2.CX X.prog X.w) ((X.blk s H scope (compEnvC scope cl C X.env) fp).wish E) V → PE ((X.blk s H scope (compEnvC scope cl C X.env) fp).wish E) elt (tv V))
    (hg : ∀ (E : Value → Shared → Prop) (s : Shared) (H : Hp) (C : Addr) (cl : List (Str × Addr)) (fp : List Addr), PG ((X.blk s H scope (compEnvC scope cl C X.env) fp).wish E) (.Name x px) (gName j))
    (hs : ∀ x, foldedSetIterable iter X.env x = pure x := by intro _; rfl) : SemX X K B w (.ListComp elt [⟨.Name x px, iter, [], 0⟩] scope pos) (tLcX wi (gName j) tv w [j]) (xLc src j f) :=
  ⟨pe_lcX tk hst hf hc hN hi.pi ok hg he hs, lcx_ok hi.ok hv⟩
end
end RT
/-! A list comprehension whose element may raise. -/
namespace RT
open PySem PySem.Spec PyProof.Rows L2
/-- an exception out of a call in the block, wished at the slots around -/
theorem blk_outN {X : Cx} {w : WX} {pins pins' : List (Addr × Obj)} {σ σ' : L2.St} {H3 H6 : Hp} {s3 s6 s' : Shared} {fp : List Addr} {ce : Env} {scope : Scope} {E : Value → Shared → Prop} {u : Value}
    (tk : L2N.Takes X w) (hs : X.stack = X.env :: X.outer) (hf : X.env.frame = some X.env.locals) (I3 : Inv X pins σ H3 s3) (hfp : ∀ b ∈ fp, FpOk X pins H3 b) (hC : s3.heap.objs.size ≤ ce.locals) (hcf : ce.frame = X.env.frame)
    (I6 : Inv ((X.blk s3 H3 scope ce fp).wish E) pins' σ' H6 s6) (c : L2N.CX X.prog X.w X.stack H6 s6 (fun cls d H' => w cls d σ H') u s') :
    notedBy (model X.prog X.w) X.A ce (CompFails (model X.prog X.w) X.A X.xe ce) u s' := by
  obtain ⟨a, B, H', cls, d, rfl, fl, hok, ub, na, os, ag, hE⟩ := c
  have I7 : Inv X pins σ H6 s6 := I3.call' (ch := fp) I6.os I6.base I6.hok I6.bare fun b hb => ⟨(hfp b hb).2.2.2.1, (hfp b hb).2.1, (hfp b hb).2.2.2.2.1, (hfp b hb).2.2.2.2.2⟩
  have hfr : X.A.frames = some (X.env :: X.outer) := by rw [I3.ok.frames, hs]
  have nC6 : H6 ce.locals = none := I6.free
  obtain ⟨m, hn6, _⟩ := I6.loc
  have hn6 : s6.heap.Ns ce.locals m := hn6
  have Cfr : ce.locals ∉ frs X.stack := fun hm => by
    obtain ⟨_, o, ho, _⟩ := I3.stack.mem hm
    exact absurd (Nat.lt_of_lt_of_le (Heap.lt_size ho) hC) (Nat.lt_irrefl _)
  obtain ⟨oC, esC, epC, hoC, rC⟩ := id hn6
  have bC : B.get? ce.locals = some oC := ub.keep _ _ hoC nC6 Cfr
  have nC' : H' ce.locals = none := ub.free _ _ hoC nC6
  have aC : a ≠ ce.locals := fun z => by
    have := fl.2.1
    rw [z, bC] at this
    cases this
  show wpAny _ _ (noteFrame (.ref a) ce) _ _ s'
  rw [noteFrame_env _ hcf]
  have fl' : HandSPX.FlyingZ B (X.env :: X.outer) a (L2N.Zn cls d) s'.heap := by rw [← hs]; exact fl
  refine PXN.looks_onZ L2N.Zn.steady hfr hf fl' fun h1 hh1 up1 => ?_
  refine ⟨m, ⟨oC, esC, epC, hh1.1 _ _ bC, rC⟩, fun h2 m2 hn2 hs2 => ?_⟩
  obtain ⟨B', g1, g2⟩ := restrict B fun b => decide (b ≠ ce.locals)
  have gne : ∀ b, b ≠ ce.locals → B'.get? b = B.get? b := fun b hb => g1 b (by simp [hb])
  have gC : B'.get? ce.locals = none := g2 _ (by simp)
  have sub : ∀ b o, B'.get? b = some o → B.get? b = some o ∧ b ≠ ce.locals := fun b o e => by
    by_cases hb : b = ce.locals
    · rw [hb, gC] at e; cases e
    · exact ⟨by rw [← gne b hb]; exact e, hb⟩
  have nBB : ∀ b, B.get? b = none → B'.get? b = none := fun b e => by
    cases q : B'.get? b with
    | none => rfl
    | some o => rw [(sub b o q).1] at e; cases e
  have hh2 : HandSPX.HeldZ B' (X.env :: X.outer) a (L2N.Zn cls d) X.env.locals h2 := by
    obtain ⟨k1, k2, k3, oe, vs, T, oT, ts, he, hz, hd, hv1, hnT, hTe, hT, hdT, h3⟩ := hh1
    have ff : h2.FunFrames B (X.env :: X.outer) := Heap.FunFrames.sameBut hs2 hn2 k3
    have TC : T ≠ ce.locals := fun z => by rw [z, bC] at hnT; cases hnT
    refine ⟨fun b o e => ?_, nBB _ k2, funFrames_none ff fun b hb => nBB _ (ff.mem hb).1, oe, vs, T, oT, ts, (hs2.2 a aC).trans he, hz, hd, hv1, nBB _ hnT, hTe, (hs2.2 T TC).trans hT, hdT, h3⟩
    obtain ⟨e1, e2⟩ := sub b o e
    exact (hs2.2 b e2).trans (k1 b o e1)
  obtain ⟨k1, k2, k3, oe, vs, T, oT, ts, he, hz, hd, hv1, hr⟩ := id hh2
  unfold PySem.passOn
  refine wpAny_bind (wpAny_field he hd hv1 ?_)
  rw [if_neg (show ¬ ((Value.ref T == Value.none) = true) from by simp)]
  rw [hcf, hf]
  have fin : wpAny (model X.prog X.w) X.A (setFlight (.ref a) (some X.env.locals)) (fun _ s4 => wpAny (model X.prog X.w) X.A (throw (.ref a) : Sem Value) (fun _ _ => False) X.xe s4) X.xe { s' with heap := h2 } := by
    refine HandSPX.setFlight_onZ hh2 fun h3 hh3 up3 => wpAny_throw (tk _ _ ?_)
    obtain ⟨G, q1, q2⟩ := restrict h3 fun b => decide (b ≠ ce.locals) && ((B.get? b).isSome || decide (b ∈ frs X.stack))
    have st3 : B'.StaysIn h3 := hh3.1
    have gB : ∀ b o, b ≠ ce.locals → B.get? b = some o → G.get? b = some o := fun b o hb e => by
      rw [q1 b (by simp [hb, e])]
      exact st3 b o (by rw [gne b hb]; exact e)
    have gF : ∀ b, b ∈ frs X.stack → G.get? b = h3.get? b := fun b hb => q1 b (by simp [hb]; exact fun z => Cfr (z ▸ hb))
    have og : ∀ b o, G.get? b = some o → h3.get? b = some o ∧ b ≠ ce.locals ∧ ((B.get? b).isSome = true ∨ b ∈ frs X.stack) := fun b o e => by
      cases q : (decide (b ≠ ce.locals) && ((B.get? b).isSome || decide (b ∈ frs X.stack))) with
      | false => rw [q2 b q] at e; cases e
      | true =>
        rw [q1 b q] at e
        simp only [Bool.and_eq_true, Bool.or_eq_true, decide_eq_true_eq] at q
        exact ⟨e, q.1, q.2⟩
    have frSlot : ∀ b o, s6.heap.get? b = some o → b ∈ frs X.stack → ∃ sl, h3.get? b = some { o with slots := sl } := fun b o e hb => by
      obtain ⟨_, o', e', hnf⟩ := I7.stack.mem hb
      rw [e] at e'; cases e'
      obtain ⟨sl, e1⟩ := ub.slot b o e hb
      obtain ⟨sl2, e2⟩ := up1 b _ e1 hnf
      have bne : b ≠ ce.locals := fun z => Cfr (z ▸ hb)
      have e3 := (hs2.2 b bne).trans e2
      obtain ⟨sl3, e4⟩ := up3 b _ e3 hnf
      exact ⟨sl3, e4⟩
    have fC := I3.fpOk hC nC'
    have J : Inv X pins σ H' { s6 with heap := G, gens := s'.gens, drawn := s'.drawn, toks := s'.toks } := by
      refine I7.call (ch := [ce.locals]) ⟨fun b o e n hb hc => gB b o (by simpa using hc) (ub.keep b o e n hb), fun b o e n hb _ => ?_, fun b o e n _ => ub.free b o e n, fun b o e hc => ?_, ub.tups, ub.frzs, ub.tbls⟩ (fun b o e => ?_) ag (fun b hb => ?_)
      · obtain ⟨sl, q⟩ := frSlot b o e hb
        exact ⟨sl, by rw [gF b hb]; exact q⟩
      · by_cases hb : b ∈ frs X.stack
        · obtain ⟨sl, q⟩ := frSlot b o e hb
          exact ⟨_, by rw [gF b hb]; exact q⟩
        · obtain ⟨o', q⟩ := ub.there b o e hb
          exact ⟨o', gB b o' (by simpa using hc) q⟩
      · refine (hok b o e).stay (fun c v hc q => gB c v (fun z => ?_) q) (fun _ q => q) fun _ _ q => q
        subst z
        rcases hc with hc | hc
        · rw [hc, e] at nC'; cases nC'
        · rw [nC'] at hc; cases hc
      · have : b = ce.locals := by simpa using hb
        subst this
        exact ⟨fC.2.2.2.1, fC.2.1, fC.2.2.2.2.1, fC.2.2.2.2.2⟩
    refine ⟨a, B', _, pins, σ, H', cls, d, rfl, J, fun b o e hb => ?_, Heap.UpToSlots.of_keeps fun b o e => (og b o e).1, .inr (.inr (by rw [hs]; exact hh3)), na, os, ag, hE⟩
    obtain ⟨e1, e2, e3⟩ := og b o e
    rcases e3 with e3 | e3
    · obtain ⟨o', e4⟩ := Option.isSome_iff_exists.mp e3
      have z := st3 b o' (by rw [gne b e2]; exact e4)
      rw [e1] at z; cases z
      rw [gne b e2]; exact e4
    · exact absurd e3 hb
  first
    | exact wpAny_bind fin
    | exact wpAny_bind (wpAny_pure (wpAny_bind fin))
section
variable {X : Cx} {w : WX} {elt tg iter : Expr} {scope : Scope} {own : List (Str × Nat)} {pos : Pos} {wi : TI} {g : TG} {te : XK → TE}
theorem pe_lcXN (tk : L2N.Takes X w) (hst : X.stack = X.env :: X.outer) (hf : X.env.frame = some X.env.locals) (hc : X.calm = true) (hN : X.N.Nodup) (hi : PI X tg iter wi) (ok : BlkOk X.N X.env.scope scope own)
    (hg : ∀ (E : Value → Shared → Prop) (s : Shared) (H : Hp) (C : Addr) (cl : List (Str × Addr)) (fp : List Addr), PG ((X.blk s H scope (compEnvC scope cl C X.env) fp).wish E) tg g)
    (he : ∀ (V : XK) (E : Value → Shared → Prop) (s : Shared) (H : Hp) (C : Addr) (cl : List (Str × Addr)) (fp : List Addr), Passes (L2N.CX X.prog X.w) ((X.blk s H scope (compEnvC scope cl C X.env) fp).wish E) V → PE ((X.blk s H scope (compEnvC scope cl C X.env) fp).wish E) elt (te V))
    (hs : ∀ x, foldedSetIterable iter X.env x = pure x := by intro _; rfl) : PE X (.ListComp elt [⟨tg, iter, [], 0⟩] scope pos) (tLcX wi g te w (own.map (·.2))) := by
  refine ⟨fun pins s0 σ H Q I h => ?_⟩
  rw [eval_ListComp]
  have cap : ∀ y ∈ scope.names, y.2 = .free → ∃ c, X.env.cells.lookup y.1 = some c := fun y hy e => (ok.free y hy e).elim (fun k => I.ok.has _ (.inl k)) fun k => I.ok.has _ (.inr k)
  refine comprehension_at (use := none) rfl hs (closure_ok cap) ok.kind (fun y hy e => by rw [ok.uniq y hy, e]) (thn (hi.run pins s0 σ H _ I h) fun xv s1 hx => thn hx fun itv s2 h2 => ?_)
  obtain ⟨it, fp, tn, J, H2, rfl, I2, T, st2, f2, q⟩ := h2
  refine wpAny_newObj_type (newEnv_comp ?_) (Nat.zero_le _)
  generalize hL : s2.heap.objs.size = L
  have nL : H2 L = none := I2.hok.fresh (Nat.le_of_eq hL)
  obtain ⟨W, ⟨n0, w0⟩, turn⟩ := q L nL
  generalize e3 : ({ s2 with heap := s2.heap.push { cls := .type "list", data := .seq ([] : List Value).toArray } } : Shared) = s3
  have hp3 : s3.heap = s2.heap.push { cls := .type "list", data := .seq ([] : List Value).toArray } := by rw [← e3]
  have kp3 : ∀ b o, s2.heap.get? b = some o → s3.heap.get? b = some o := fun b o e => by rw [hp3]; exact Heap.get?_push_of_some _ e
  have I3 : Inv X pins σ (upd H2 L (.lst [])) s3 := by
    rw [← e3]
    exact I2.laid (t' := s2.toks) (fun b o e => Heap.get?_push_of_some _ e) (Nat.le_of_eq hL) ⟨Nat.zero_le _, [], 0, .nil, by rw [← hL]; exact Heap.get?_push_size _ rfl⟩
  have f3 : ∀ b ∈ fp, FpOk X pins (upd H2 L (.lst [])) b ∧ b < s3.heap.objs.size := fun b hb => by
    obtain ⟨o, e, _⟩ := T.obj _ _ st2 b hb
    have lt := Heap.lt_size e
    exact ⟨⟨by rw [upd_ne (by rw [← hL]; exact Nat.ne_of_lt lt)]; exact (f2 b hb).1, (f2 b hb).2⟩, Heap.lt_size (kp3 _ _ e)⟩
  generalize hH3 : upd H2 L (.lst []) = H3 at I3 f3 w0
  have st3 : tn 0 s3.heap := T.keep _ _ _ st2 fun b _ o e => kp3 b o e
  have I4 := block_start I3 ok hN f3
  have pg := fun E => hg E s3 H3 s3.heap.objs.size (cellsFrom (s3.heap.objs.size + 1) scope.names (cloFrom X.env.cells scope.names [])) fp
  have pe := fun V E => he V E s3 H3 s3.heap.objs.size (cellsFrom (s3.heap.objs.size + 1) scope.names (cloFrom X.env.cells scope.names [])) fp
  show codeAny _ _ (.compStart (.ListComp elt [⟨tg, iter, [], 0⟩] scope pos) 0 (.ref it) (.ref L) (compEnvC scope (cellsFrom (s3.heap.objs.size + 1) scope.names (cloFrom X.env.cells scope.names [])) s3.heap.objs.size X.env))
    (compEnds (model X.prog X.w) X.A X.xe none (EP X pins σ Q) (.ref L) (compEnvC scope (cellsFrom (s3.heap.objs.size + 1) scope.names (cloFrom X.env.cells scope.names [])) s3.heap.objs.size X.env)) { s3 with heap := pushCells (s3.heap.push { cls := .type "dict", data := .dict #[] }) scope.names }
  generalize hce : compEnvC scope (cellsFrom (s3.heap.objs.size + 1) scope.names (cloFrom X.env.cells scope.names [])) s3.heap.objs.size X.env = ce at I4 pg pe ⊢
  have cL : ce.locals = s3.heap.objs.size := by subst hce; rfl
  have cF : ce.frame = X.env.frame := by subst hce; rfl
  generalize e4 : ({ s3 with heap := pushCells (s3.heap.push { cls := .type "dict", data := .dict #[] }) scope.names } : Shared) = s4 at I4 ⊢
  have st4 : tn 0 s4.heap := T.keep _ _ _ st3 fun b _ o e => by rw [← e4]; exact pushCells_keeps _ _ _ _ (Heap.get?_push_of_some _ e)
  generalize hE : notedBy (model X.prog X.w) X.A ce (CompFails (model X.prog X.w) X.A X.xe ce) = E
  have J4 := I4.wish E
  have stat : ∀ {τ : L2.St} {Ha : Hp} {sa : Shared}, Inv ((X.blk s3 H3 scope ce fp).wish E) [] τ Ha sa → (∀ b ∈ fp, Ha b = none) → ∀ b ∈ fp, FpOk ((X.blk s3 H3 scope ce fp).wish E) [] Ha b := fun {τ Ha sa} Ia no b hb =>
    ⟨no b hb, (Ia.ok.exf b hb).1, Ia.ok.exfs b hb, .inl hb, fun x c e => (Ia.ok.exf b hb).2 x c e, fun p hp => absurd (show p ∈ ([] : List (Addr × Obj)) ++ [] from hp) (by simp)⟩
  have pass : Passes (L2N.CX X.prog X.w) ((X.blk s3 H3 scope ce fp).wish E) (fun cls d He => w cls d σ He) := fun pn τ Ha sa u sb Ia c => by
    show E u sb
    rw [← hE]
    exact blk_outN tk hst hf I3 (fun b hb => (f3 b hb).1) (Nat.le_of_eq cL.symm) cF Ia c
  have pe' := pe _ E pass
  have loop : codeAny (model X.prog X.w) X.A (.compLoop (.ListComp elt [⟨tg, iter, [], 0⟩] scope pos) 0 (.ref it) (.ref L) ce) (compEnds (model X.prog X.w) X.A X.xe none (EP X pins σ Q) (.ref L) ce) s4 := by
    refine compLoop_any (fun n sa => ∃ i Ha, Inv ((X.blk s3 H3 scope ce fp).wish E) [] (wipe σ (own.map (·.2))) Ha sa ∧ tn i sa.heap ∧ (∀ b ∈ fp, Ha b = none) ∧ W i n Ha) ?_ n0 ⟨0, H3, J4, st4, fun b hb => (f3 b hb).1.1, w0⟩
    rintro n s5 ⟨i, H5, I5, st5, n5, w5⟩
    rcases turn i n H5 w5 with ⟨stop, qq⟩ | ⟨go, N, hNx, step⟩
    · refine thnF (T.done ((X.blk s3 H3 scope ce fp).wish E) rfl rfl rfl hc i [] s5 _ H5 (fun _ _ => False) I5 (stat I5 n5) st5 stop) fun r s6 ⟨hr, I6⟩ => ?_
      subst hr
      have I7 : Inv X pins σ H5 s6 := I3.call' (ch := fp) I6.os I6.base I6.hok I6.bare fun b hb => ⟨(f3 b hb).1.2.2.2.1, (f3 b hb).1.2.1, (f3 b hb).1.2.2.2.2.1, (f3 b hb).1.2.2.2.2.2⟩
      have nC : H5 ce.locals = none := I6.free
      obtain ⟨m, hn, _⟩ := I6.loc
      refine ⟨m, hn, fun h'' sb => ?_⟩
      obtain ⟨k0, k1, k2, k3, k4, k5⟩ := I3.fpOk (b := ce.locals) (Nat.le_of_eq cL.symm) nC
      exact ⟨.ref L, H5, I7.turned (t' := s6.toks) (fun b o hb e => (sb.2 b hb).trans e) k0 k1 k3 k4 k5, rfl, qq⟩
    · refine thnF (T.item ((X.blk s3 H3 scope ce fp).wish E) rfl rfl rfl hc i [] s5 _ H5 (fun _ _ => False) I5 (stat I5 n5) st5 go) fun r s6 ⟨u, hr, h6⟩ => ?_
      subst hr
      refine thnF h6 fun _ s7 ⟨x, H7, I7, r7, y7, st7, n7⟩ => ?_
      have I7' := I7.pinned (stat I7 n7) (T.obj _ _ st7)
      have run1 := (pg E).run _ s7 _ H7 x u _ I7' r7 (step x H7 y7)
      subst hE
      refine wpAny_mono run1 (fun _ s8 ⟨σ8, H8, I8, hw8, q8⟩ => ?_) fun _ _ z => z
      refine wpAny_tests_nil ?_
      simp only [if_true]
      refine wpAny_mono (pe'.run _ s8 σ8 H8 _ I8 q8) (fun z s10 ⟨yv, H10, I10, r10, ys, hL10, hz10, nx⟩ => ?_) fun _ _ z => z
      refine app_ok (X := (X.blk s3 H3 scope ce fp).wish _) I10 hL10 hz10 r10 fun s11 I11 => ?_
      obtain ⟨m', hm, w'⟩ := hNx _ nx
      have pin' : ∀ b ∈ fp, ∀ o, s7.heap.get? b = some o → s11.heap.get? b = some o ∧ _ := fun b hb o e =>
        let z := I11.pin (b, o) (List.mem_append_right _ (List.mem_append_right _ (mem_pinsAt hb e)))
        ⟨z.1, z.2.1⟩
      refine ⟨m', hm, i + 1, _, (I11.unpinned (pins := [])).weak (by rw [← hw8, wipe_length]) (fun j v e => ?_), T.keep _ _ _ st7 fun b hb o e => (pin' b hb o e).1, fun b hb => ?_, w'⟩
      · rw [← hw8] at e
        exact (wipe_some e).1
      · obtain ⟨o, e, _⟩ := T.obj _ _ st7 b hb
        exact (pin' b hb o e).2
  exact codeAny_compStart_list loop (T.self X.A 0 _ _ _ st4 loop)
end
end RT
/-! Within an except suite: walks over lists and texts, a comprehension whose element may raise. -/
namespace RT
open PySem PySem.Spec PyProof.Rows L2 L2H HotX
section
variable {prog : Program} {w : World} {A : Around} {E : Value → Shared → Prop} {s : Shared}
theorem list_end_hot {it l x1 : Addr} {i : Nat} {items} {Q : Option Value → Shared → Prop} (hot : HotAt A x1 s.heap) (hx1 : x1 ≠ it) (hit : s.heap.IsListIter it l i) (hl : s.heap.IsList l items) (hx : items[i]? = none)
    (hQ : ∀ h', Heap.ExtBut it s.heap h' → Q none { s with heap := h' }) : wpAny (model prog w) A (pyNext (.ref it)) Q E s := by
  obtain ⟨hh, o1, vs1, g1, d1, c1⟩ := hot
  obtain ⟨o, ho, hc, hd⟩ := id hit
  obtain ⟨ol, hol, _, nl, hdl⟩ := hl
  unfold pyNext
  refine wpAny_bind (wpAny_attempt (wpAny_callSpecial?_slot (name := Str.ofString "__next__") hit.typeIs slot_listiter_next
    (wpAny_call_entry slot_listiter_next hit.typeIs entry_listiter_next ?_ (args_listiter_next _))))
  show wpAny _ _ (field (.ref it) 0 >>= _) _ _ s
  refine wpAny_bind (wpAny_field ho hd (x := .ref l) rfl ?_)
  show wpAny _ _ (if (Value.ref l == Value.none) = true then _ else _) _ _ s
  rw [if_neg (show ¬ ((Value.ref l == Value.none) = true) from Bool.false_ne_true)]
  show wpAny _ _ (field (.ref it) 1 >>= _) _ _ s
  refine wpAny_bind (wpAny_field ho hd (x := .int i 0) rfl ?_)
  show wpAny _ _ (seqItems? (.ref l) >>= _) _ _ s
  refine wpAny_bind (wpAny_seqItems hol hdl ?_)
  simp only [Int.toNat_natCast, hx]
  refine wpAny_bind (wpAny_rule (wpAny_bind (wpAny_setField ho hd (by simp) ?_)))
  show wpAny _ _ (newExc (.type "StopIteration") [] >>= _) _ _ _
  refine wpAny_bind ?_
  simp only [newExc, newTuple]
  refine wpAny_bind (wpAny_newObj_type ?_ (by size_fits))
  refine wpAny_bind (m := firstArgMember _ _) (wpAny_of_eq (a := Value.none) (by first | rfl | (simp only [firstArgMember]; rfl)) ?_)
  refine wpAny_newObj_type ?_ (by size_fits)
  have gU := (Heap.get?_update_other s.heap (Obj.mapFields (·.setIfInBounds 0 Value.none)) (Ne.symm hx1)).trans g1
  refine raiseNew_hot ⟨hh, o1, vs1, Heap.get?_push_of_some _ (Heap.get?_push_of_some _ gU), d1, c1⟩ (Nat.ne_of_lt (Heap.lt_size (Heap.get?_push_of_some _ gU))) (Heap.get?_push_size _ rfl) rfl (by first | (simp; done) | (simp; omega) | (simp only [Array.size_append]; simp; omega)) ?_
  refine wpAny_bind (wpAny_isInstance (T := "StopIteration") (b := true) ⟨_, Heap.get?_update_self _ (Heap.get?_push_size _ rfl) rfl, rfl⟩ isSubtype_stop ?_)
  refine wpAny_pure (hQ _ fun b ob hb e => ?_)
  have e1 := (Heap.get?_update_other s.heap (Obj.mapFields (·.setIfInBounds 0 Value.none)) (Ne.symm hb)).trans e
  rw [Heap.get?_update_other _ _ (Nat.ne_of_gt (Heap.lt_size (Heap.get?_push_of_some _ e1)))]
  exact Heap.get?_push_of_some _ (Heap.get?_push_of_some _ e1)
theorem ascii_end_hot {it x1 : Addr} {x : Str} {t : Tok} {i : Nat} {Q : Option Value → Shared → Prop} (hot : HotAt A x1 s.heap) (hx1 : x1 ≠ it) (hit : s.heap.IsStrIter it "str_ascii_iterator" x t i) (hx : x.cps[i]? = none)
    (hQ : ∀ h', Heap.ExtBut it s.heap h' → Q none { s with heap := h' }) : wpAny (model prog w) A (pyNext (.ref it)) Q E s := by
  obtain ⟨hh, o1, vs1, g1, d1, c1⟩ := hot
  obtain ⟨o, ho, hc, hd⟩ := id hit
  unfold pyNext
  refine wpAny_bind (wpAny_attempt (wpAny_callSpecial?_slot (name := Str.ofString "__next__") hit.typeIs F.slot_str_ascii_iterator_next
    (wpAny_call_entry F.slot_str_ascii_iterator_next hit.typeIs F.entry_str_ascii_iterator_next ?_ (F.args_str_ascii_iterator_next_1 _))))
  show wpAny _ _ (field (.ref it) 0 >>= _) _ _ s
  refine wpAny_bind (wpAny_field ho hd (x := .str x t) rfl ?_)
  show wpAny _ _ (field (.ref it) 1 >>= _) _ _ s
  refine wpAny_bind (wpAny_field ho hd (x := .int i 0) rfl ?_)
  simp only [Int.toNat_natCast, hx]
  refine wpAny_bind (wpAny_rule (wpAny_bind (wpAny_setField ho hd (by simp) (wpAny_bind (wpAny_letGo ?_)))))
  show wpAny _ _ (newExc (.type "StopIteration") [] >>= _) _ _ _
  refine wpAny_bind ?_
  simp only [newExc, newTuple]
  refine wpAny_bind (wpAny_newObj_type ?_ (by size_fits))
  refine wpAny_bind (m := firstArgMember _ _) (wpAny_of_eq (a := Value.none) (by first | rfl | (simp only [firstArgMember]; rfl)) ?_)
  refine wpAny_newObj_type ?_ (by size_fits)
  have gU := (Heap.get?_update_other s.heap (Obj.mapFields (·.setIfInBounds 0 Value.none)) (Ne.symm hx1)).trans g1
  refine raiseNew_hot ⟨hh, o1, vs1, Heap.get?_push_of_some _ (Heap.get?_push_of_some _ gU), d1, c1⟩ (Nat.ne_of_lt (Heap.lt_size (Heap.get?_push_of_some _ gU))) (Heap.get?_push_size _ rfl) rfl (by first | (simp; done) | (simp; omega) | (simp only [Array.size_append]; simp; omega)) ?_
  refine wpAny_bind (wpAny_isInstance (T := "StopIteration") (b := true) ⟨_, Heap.get?_update_self _ (Heap.get?_push_size _ rfl) rfl, rfl⟩ isSubtype_stop ?_)
  refine wpAny_pure (hQ _ fun b ob hb e => ?_)
  have e1 := (Heap.get?_update_other s.heap (Obj.mapFields (·.setIfInBounds 0 Value.none)) (Ne.symm hb)).trans e
  rw [Heap.get?_update_other _ _ (Nat.ne_of_gt (Heap.lt_size (Heap.get?_push_of_some _ e1)))]
  exact Heap.get?_push_of_some _ (Heap.get?_push_of_some _ e1)
theorem wide_end_hot {it x1 : Addr} {x : Str} {t : Tok} {i : Nat} {Q : Option Value → Shared → Prop} (hot : HotAt A x1 s.heap) (hx1 : x1 ≠ it) (hit : s.heap.IsStrIter it "str_iterator" x t i) (hx : x.cps[i]? = none)
    (hQ : ∀ h', Heap.ExtBut it s.heap h' → Q none { s with heap := h' }) : wpAny (model prog w) A (pyNext (.ref it)) Q E s := by
  obtain ⟨hh, o1, vs1, g1, d1, c1⟩ := hot
  obtain ⟨o, ho, hc, hd⟩ := id hit
  unfold pyNext
  refine wpAny_bind (wpAny_attempt (wpAny_callSpecial?_slot (name := Str.ofString "__next__") hit.typeIs F.slot_str_iterator_next
    (wpAny_call_entry F.slot_str_iterator_next hit.typeIs F.entry_str_iterator_next ?_ (F.args_str_iterator_next_1 _))))
  show wpAny _ _ (field (.ref it) 0 >>= _) _ _ s
  refine wpAny_bind (wpAny_field ho hd (x := .str x t) rfl ?_)
  show wpAny _ _ (field (.ref it) 1 >>= _) _ _ s
  refine wpAny_bind (wpAny_field ho hd (x := .int i 0) rfl ?_)
  simp only [Int.toNat_natCast, hx]
  refine wpAny_bind (wpAny_rule (wpAny_bind (wpAny_setField ho hd (by simp) (wpAny_bind (wpAny_letGo ?_)))))
  show wpAny _ _ (newExc (.type "StopIteration") [] >>= _) _ _ _
  refine wpAny_bind ?_
  simp only [newExc, newTuple]
  refine wpAny_bind (wpAny_newObj_type ?_ (by size_fits))
  refine wpAny_bind (m := firstArgMember _ _) (wpAny_of_eq (a := Value.none) (by first | rfl | (simp only [firstArgMember]; rfl)) ?_)
  refine wpAny_newObj_type ?_ (by size_fits)
  have gU := (Heap.get?_update_other s.heap (Obj.mapFields (·.setIfInBounds 0 Value.none)) (Ne.symm hx1)).trans g1
  refine raiseNew_hot ⟨hh, o1, vs1, Heap.get?_push_of_some _ (Heap.get?_push_of_some _ gU), d1, c1⟩ (Nat.ne_of_lt (Heap.lt_size (Heap.get?_push_of_some _ gU))) (Heap.get?_push_size _ rfl) rfl (by first | (simp; done) | (simp; omega) | (simp only [Array.size_append]; simp; omega)) ?_
  refine wpAny_bind (wpAny_isInstance (T := "StopIteration") (b := true) ⟨_, Heap.get?_update_self _ (Heap.get?_push_size _ rfl) rfl, rfl⟩ isSubtype_stop ?_)
  refine wpAny_pure (hQ _ fun b ob hb e => ?_)
  have e1 := (Heap.get?_update_other s.heap (Obj.mapFields (·.setIfInBounds 0 Value.none)) (Ne.symm hb)).trans e
  rw [Heap.get?_update_other _ _ (Nat.ne_of_gt (Heap.lt_size (Heap.get?_push_of_some _ e1)))]
  exact Heap.get?_push_of_some _ (Heap.get?_push_of_some _ e1)
end
theorem turn_listH {P : Program} {w : World} {K : PySem.W.Frag} {tg : Expr} (a it : Addr) : TurnH P w K tg (Itl K a) [it] it (fun i h => h.IsListIter it a i) where
  mem := by simp
  obj := fun i h st b hb => by
    have e : b = it := by simpa using hb
    subst e
    obtain ⟨o, e, c, d⟩ := st
    exact ⟨o, e, fun v z => by rw [d] at z; cases z⟩
  keep := fun i h h' st k => st.at fun o e => k it (by simp) o e
  item := fun X hP hw hK hc i pins s σ H E I hf st hg => by
    subst hP hw hK
    obtain ⟨xs, x, hq, hx⟩ := hg
    obtain ⟨its, rv, p, hz⟩ := I.list hq
    obtain ⟨u, hu, ru⟩ := rv.get hx
    obtain ⟨f0, f1, f2, f3, f4, f5⟩ := hf it (by simp)
    refine wpAny_pyNext_list_item st p.isList (x := u) (by simpa using hu) fun h' st' sb => ?_
    have J : Inv X pins σ H { s with heap := h' } := I.turned (t' := s.toks) (fun b o hb e => (sb.2 b hb).trans e) f0 f1 f3 f4 f5
    obtain ⟨o, e, c, d⟩ := id st'
    exact ⟨u, rfl, go_of (s := { s with heap := h' }) e c d (by decide) ⟨x, H, J, ru, ⟨rfl, fun ys hy => by rw [I.list_inj hy hq]; exact hx⟩, st', fun b hb => (hf b hb).1⟩⟩
  done := fun X hP hw hK hc i pins s σ H E I hf st hg => by
    subst hP hw hK
    obtain ⟨xs, hq, hx⟩ := hg
    obtain ⟨its, rv, p, hz⟩ := I.list hq
    obtain ⟨f0, f1, f2, f3, f4, f5⟩ := hf it (by simp)
    obtain ⟨p1, ⟨hh, v1, e1, c1⟩, hp⟩ := hc
    have hl := rv.length
    exact list_end_hot ⟨hh, p1.2, v1, (I.pin p1 (List.mem_append_left _ hp)).1, e1, c1⟩ (f5 p1 (List.mem_append_left _ hp)) st p.isList (by simp; omega) fun h' eb => ⟨rfl, I.turned (t' := s.toks) (fun b o hb e => eb b o hb e) f0 f1 f3 f4 f5⟩
  self := fun _ _ _ _ _ st h => wpAny_pyIter_listiter st h
theorem turn_strH {P : Program} {w : World} {K : PySem.W.Frag} {tg : Expr} (it : Addr) (x : Str) (t : Tok) (ty : String) (hty : ty = "str_ascii_iterator" ∨ ty = "str_iterator") :
    TurnH P w K tg (Its x) [it] it (fun i h => h.IsStrIter it ty x t i) where
  mem := by simp
  obj := fun i h st b hb => by
    have e : b = it := by simpa using hb
    subst e
    obtain ⟨o, e, c, d⟩ := st
    exact ⟨o, e, fun v z => by rw [d] at z; cases z⟩
  keep := fun i h h' st k => let ⟨o, ho, r⟩ := st; ⟨o, k it (by simp) o ho, r⟩
  item := fun X hP hw hK hc i pins s σ H E I hf st hg => by
    subst hP hw hK
    obtain ⟨f0, f1, f2, f3, f4, f5⟩ := hf it (by simp)
    have hno : ["enumerate", "zip", "dict_itemiterator", "dict_reverseitemiterator", "odict_iterator", "itertools.zip_longest", "itertools.pairwise"].contains ty = false := by
      rcases hty with e | e <;> (rw [e]; decide)
    have hg' : i < x.cps.size := hg
    have cx : x.cps[i]? = some x.cps[i] := Array.getElem?_eq_getElem hg'
    have go : ∀ h', h'.IsStrIter it ty x t (i + 1) → Heap.SameBut it s.heap h' → ∃ u, some (Value.str ⟨#[x.cps[i]]⟩ s.toks) = some u ∧
        wpAny (model X.prog X.w) X.A (letOwnedTupleGo tg (.ref it) u) (fun _ s2 => ∃ y H', Inv X pins σ H' s2 ∧ RelV y u ∧ (Its x).yld i H y H' ∧ s2.heap.IsStrIter it ty x t (i + 1) ∧ ∀ b ∈ [it], H' b = none) E { s with heap := h', toks := s.toks + 1 } := fun h' st' sb => by
      have J : Inv X pins σ H { s with heap := h', toks := s.toks + 1 } := I.turned (fun b o hb e => (sb.2 b hb).trans e) f0 f1 f3 f4 f5
      obtain ⟨oi, e, cc, dd⟩ := id st'
      exact ⟨_, rfl, go_of (s := { s with heap := h', toks := s.toks + 1 }) e cc dd hno ⟨.str ⟨#[x.cps[i]]⟩, H, J, ⟨_, rfl⟩, ⟨rfl, _, cx, rfl⟩, st', fun b hb => (hf b hb).1⟩⟩
    rcases hty with e | e
    · subst e; exact wpAny_pyNext_ascii_item st cx go
    · subst e; exact wpAny_pyNext_wide_item st cx go
  done := fun X hP hw hK hc i pins s σ H E I hf st hg => by
    subst hP hw hK
    obtain ⟨f0, f1, f2, f3, f4, f5⟩ := hf it (by simp)
    obtain ⟨p1, ⟨hh, v1, e1, c1⟩, hp⟩ := hc
    have hx : x.cps[i]? = none := Array.getElem?_eq_none hg
    have hot : HotAt X.A p1.1 s.heap := ⟨hh, p1.2, v1, (I.pin p1 (List.mem_append_left _ hp)).1, e1, c1⟩
    have ne := f5 p1 (List.mem_append_left _ hp)
    rcases hty with e | e
    · subst e; exact ascii_end_hot hot ne st hx fun h' eb => ⟨rfl, I.turned (t' := s.toks) (fun b o hb e => eb b o hb e) f0 f1 f3 f4 f5⟩
    · subst e; exact wide_end_hot hot ne st hx fun h' eb => ⟨rfl, I.turned (t' := s.toks) (fun b o hb e => eb b o hb e) f0 f1 f3 f4 f5⟩
  self := fun A i s Q E st h => by
    rcases hty with e | e
    · subst e; exact wpAny_pyIter_striter_ascii st h
    · subst e; exact wpAny_pyIter_striter_wide st h
section
variable {X : Cx} {tg l e : Expr} {tl te : TE}
theorem pi_listH (hl : PE X l tl) : PIH X tg l (iList X.K tl) := by
  refine ⟨fun pins s σ H R I h => thn (hl.run pins s σ H _ I h) fun v s1 ⟨x, H1, I1, r1, q1⟩ => ?_⟩
  obtain ⟨a, rfl, ⟨xs, hq⟩, q⟩ := q1
  cases r1
  obtain ⟨its, rv, p, hz⟩ := I1.list hq
  refine wpAny_pyIter_list p.isList ⟨s1.heap.objs.size, [s1.heap.objs.size], _, _, H1, rfl, I1.kept (t' := s1.toks) fun b o e => Heap.get?_push_of_some _ e, turn_listH a _, ⟨_, Heap.get?_push_size _ rfl, rfl, rfl⟩, fun b hb => ?_, q⟩
  have e : b = s1.heap.objs.size := by simpa using hb
  subst e
  exact I1.fpOk (Nat.le_refl _) (I1.hok.fresh (Nat.le_refl _))
theorem pi_strH (he : PE X e te) : PIH X tg e (iStr te) := by
  refine ⟨fun pins s σ H R I h => thn (he.run pins s σ H _ I h) fun v s1 ⟨y, H1, I1, r1, x, ex, q⟩ => ?_⟩
  subst ex
  obtain ⟨t, rfl⟩ := r1
  have fp : ∀ b ∈ [s1.heap.objs.size], FpOk X pins H1 b := fun b hb => by
    have e : b = s1.heap.objs.size := by simpa using hb
    subst e
    exact I1.fpOk (Nat.le_refl _) (I1.hok.fresh (Nat.le_refl _))
  cases ha : x.cps.all (· < 128)
  · exact wpAny_pyIter_wide ha ⟨s1.heap.objs.size, [s1.heap.objs.size], _, _, H1, rfl, I1.kept (t' := s1.toks) fun b o e => Heap.get?_push_of_some _ e, turn_strH _ x t "str_iterator" (.inr rfl), ⟨_, Heap.get?_push_size _ rfl, rfl, rfl⟩, fp, q⟩
  · exact wpAny_pyIter_ascii ha ⟨s1.heap.objs.size, [s1.heap.objs.size], _, _, H1, rfl, I1.kept (t' := s1.toks) fun b o e => Heap.get?_push_of_some _ e, turn_strH _ x t "str_ascii_iterator" (.inl rfl), ⟨_, Heap.get?_push_size _ rfl, rfl, rfl⟩, fp, q⟩
end
end RT
/-! Within an except suite: a comprehension whose element may raise; words. -/
namespace RT
open PySem PySem.Spec PyProof.Rows L2 L2H HotX
/-- the block's context, the handled exception held -/
abbrev blkH (X : Cx) (s : Shared) (H : Hp) (scope : Scope) (ce : Env) (fp : List Addr) (E : Value → Shared → Prop) : Cx := { X.blk s H scope ce fp with pn := X.pn, xe := E }
section
variable {X : Cx} {s sa : Shared} {H Ha : Hp} {scope : Scope} {ce : Env} {fp : List Addr} {pn : List (Addr × Obj)} {τ : L2.St}
theorem toH (I : Inv (X.blk s H scope ce fp) pn τ Ha sa) (E : Value → Shared → Prop) (hp : ∀ p ∈ X.pn, sa.heap.get? p.1 = some p.2 ∧ Ha p.1 = none ∧ p.1 ≠ ce.locals ∧ p.1 ∉ frs X.stack ∧ ∀ v, p.2.data ≠ .cell v) : Inv (blkH X s H scope ce fp E) pn τ Ha sa :=
  ⟨⟨I.ok.mod, I.ok.kind, I.ok.glob, I.ok.blt, I.ok.above, I.ok.inj, I.ok.has, I.ok.cab, I.ok.hd, I.ok.frames, I.ok.stk, I.ok.exf, I.ok.bs, I.ok.bsz, I.ok.noex, I.ok.exfs, I.ok.funs, I.ok.frf⟩, I.os, I.bare, I.base, I.loc, I.cell, I.free, I.freeC,
    fun p hm => (List.mem_append.mp hm).elim (hp p) fun hm => I.pin p (List.mem_append_right _ hm), I.hok, I.len⟩
theorem ofH {E : Value → Shared → Prop} (I : Inv (blkH X s H scope ce fp E) pn τ Ha sa) : Inv (X.blk s H scope ce fp) pn τ Ha sa :=
  ⟨⟨I.ok.mod, I.ok.kind, I.ok.glob, I.ok.blt, I.ok.above, I.ok.inj, I.ok.has, I.ok.cab, I.ok.hd, I.ok.frames, I.ok.stk, I.ok.exf, I.ok.bs, I.ok.bsz, I.ok.noex, I.ok.exfs, I.ok.funs, I.ok.frf⟩, I.os, I.bare, I.base, I.loc, I.cell, I.free, I.freeC,
    fun p hm => I.pin p (List.mem_append_right _ (by simpa using hm)), I.hok, I.len⟩
end
section
variable {X : Cx} {w : WX} {elt tg iter : Expr} {scope : Scope} {own : List (Str × Nat)} {pos : Pos} {wi : TI} {g : TG} {te : XK → TE}
theorem pe_lcXH (tk : Takes X w) (hst : X.stack = X.env :: X.outer) (hf : X.env.frame = some X.env.locals) (hc : HotC X) (hN : X.N.Nodup) (hi : PIH X tg iter wi) (ok : BlkOk X.N X.env.scope scope own)
    (hg : ∀ (E : Value → Shared → Prop) (s : Shared) (H : Hp) (C : Addr) (cl : List (Str × Addr)) (fp : List Addr), PG (blkH X s H scope (compEnvC scope cl C X.env) fp E) tg g)
    (he : ∀ (V : XK) (E : Value → Shared → Prop) (s : Shared) (H : Hp) (C : Addr) (cl : List (Str × Addr)) (fp : List Addr), (∀ τ, PassesAt (L2.CX X.prog X.w) (blkH X s H scope (compEnvC scope cl C X.env) fp E) τ V) → PE (blkH X s H scope (compEnvC scope cl C X.env) fp E) elt (te V))
    (hs : ∀ x, foldedSetIterable iter X.env x = pure x := by intro _; rfl) : PE X (.ListComp elt [⟨tg, iter, [], 0⟩] scope pos) (tLcX wi g te w (own.map (·.2))) := by
  refine ⟨fun pins s0 σ H Q I h => ?_⟩
  rw [eval_ListComp]
  have cap : ∀ y ∈ scope.names, y.2 = .free → ∃ c, X.env.cells.lookup y.1 = some c := fun y hy e => (ok.free y hy e).elim (fun k => I.ok.has _ (.inl k)) fun k => I.ok.has _ (.inr k)
  refine comprehension_at (use := none) rfl hs (closure_ok cap) ok.kind (fun y hy e => by rw [ok.uniq y hy, e]) (thn (hi.run pins s0 σ H _ I h) fun xv s1 hx => thn hx fun itv s2 h2 => ?_)
  obtain ⟨it, fp, tn, J, H2, rfl, I2, T, st2, f2, q⟩ := h2
  refine wpAny_newObj_type (newEnv_comp ?_) (Nat.zero_le _)
  generalize hL : s2.heap.objs.size = L
  have nL : H2 L = none := I2.hok.fresh (Nat.le_of_eq hL)
  obtain ⟨W, ⟨n0, w0⟩, turn⟩ := q L nL
  generalize e3 : ({ s2 with heap := s2.heap.push { cls := .type "list", data := .seq ([] : List Value).toArray } } : Shared) = s3
  have hp3 : s3.heap = s2.heap.push { cls := .type "list", data := .seq ([] : List Value).toArray } := by rw [← e3]
  have kp3 : ∀ b o, s2.heap.get? b = some o → s3.heap.get? b = some o := fun b o e => by rw [hp3]; exact Heap.get?_push_of_some _ e
  have I3 : Inv X pins σ (upd H2 L (.lst [])) s3 := by
    rw [← e3]
    exact I2.laid (t' := s2.toks) (fun b o e => Heap.get?_push_of_some _ e) (Nat.le_of_eq hL) ⟨Nat.zero_le _, [], 0, .nil, by rw [← hL]; exact Heap.get?_push_size _ rfl⟩
  have f3 : ∀ b ∈ fp, FpOk X pins (upd H2 L (.lst [])) b ∧ b < s3.heap.objs.size := fun b hb => by
    obtain ⟨o, e, _⟩ := T.obj _ _ st2 b hb
    have lt := Heap.lt_size e
    exact ⟨⟨by rw [upd_ne (by rw [← hL]; exact Nat.ne_of_lt lt)]; exact (f2 b hb).1, (f2 b hb).2⟩, Heap.lt_size (kp3 _ _ e)⟩
  generalize hH3 : upd H2 L (.lst []) = H3 at I3 f3 w0
  have st3 : tn 0 s3.heap := T.keep _ _ _ st2 fun b _ o e => kp3 b o e
  have I4 := block_start I3 ok hN f3
  have pg := fun E => hg E s3 H3 s3.heap.objs.size (cellsFrom (s3.heap.objs.size + 1) scope.names (cloFrom X.env.cells scope.names [])) fp
  have pe := fun V E => he V E s3 H3 s3.heap.objs.size (cellsFrom (s3.heap.objs.size + 1) scope.names (cloFrom X.env.cells scope.names [])) fp
  show codeAny _ _ (.compStart (.ListComp elt [⟨tg, iter, [], 0⟩] scope pos) 0 (.ref it) (.ref L) (compEnvC scope (cellsFrom (s3.heap.objs.size + 1) scope.names (cloFrom X.env.cells scope.names [])) s3.heap.objs.size X.env))
    (compEnds (model X.prog X.w) X.A X.xe none (EP X pins σ Q) (.ref L) (compEnvC scope (cellsFrom (s3.heap.objs.size + 1) scope.names (cloFrom X.env.cells scope.names [])) s3.heap.objs.size X.env)) { s3 with heap := pushCells (s3.heap.push { cls := .type "dict", data := .dict #[] }) scope.names }
  generalize hce : compEnvC scope (cellsFrom (s3.heap.objs.size + 1) scope.names (cloFrom X.env.cells scope.names [])) s3.heap.objs.size X.env = ce at I4 pg pe ⊢
  have cL : ce.locals = s3.heap.objs.size := by subst hce; rfl
  have cF : ce.frame = X.env.frame := by subst hce; rfl
  generalize e4 : ({ s3 with heap := pushCells (s3.heap.push { cls := .type "dict", data := .dict #[] }) scope.names } : Shared) = s4 at I4 ⊢
  have st4 : tn 0 s4.heap := T.keep _ _ _ st3 fun b _ o e => by rw [← e4]; exact pushCells_keeps _ _ _ _ (Heap.get?_push_of_some _ e)
  generalize hE : notedBy (model X.prog X.w) X.A ce (CompFails (model X.prog X.w) X.A X.xe ce) = E
  have J4 : Inv (blkH X s3 H3 scope ce fp E) [] (wipe σ (own.map (·.2))) H3 s4 := toH I4 E fun p hp => by
    obtain ⟨q1, q2, q3, q4, q5⟩ := I3.pin p (List.mem_append_left _ hp)
    have lt := Heap.lt_size q1
    refine ⟨by rw [← e4]; exact pushCells_keeps _ _ _ _ (Heap.get?_push_of_some _ q1), q2, by rw [cL]; exact Nat.ne_of_lt lt, fun hm => (List.mem_cons.mp (I3.stkSub p.1 hm)).elim q3 q4, q5⟩
  have stat : ∀ {τ : L2.St} {Ha : Hp} {sa : Shared}, Inv (blkH X s3 H3 scope ce fp E) [] τ Ha sa → (∀ b ∈ fp, Ha b = none) → ∀ b ∈ fp, FpOk (blkH X s3 H3 scope ce fp E) [] Ha b := fun {τ Ha sa} Ia no b hb =>
    ⟨no b hb, (Ia.ok.exf b hb).1, Ia.ok.exfs b hb, .inl hb, fun x c e => (Ia.ok.exf b hb).2 x c e, fun p hp => (f3 b hb).1.2.2.2.2.2 p (List.mem_append_left _ (by simpa using hp))⟩
  have pass : ∀ τ, PassesAt (L2.CX X.prog X.w) (blkH X s3 H3 scope ce fp E) τ (fun cls d He => w cls d σ He) := fun τ pn Ha sa u sb Ia c => by
    show E u sb
    rw [← hE]
    exact blk_out tk hst hf I3 (fun b hb => (f3 b hb).1) (Nat.le_of_eq cL.symm) cF ((ofH Ia).wish E) c
  have pe' := pe _ E pass
  have loop : codeAny (model X.prog X.w) X.A (.compLoop (.ListComp elt [⟨tg, iter, [], 0⟩] scope pos) 0 (.ref it) (.ref L) ce) (compEnds (model X.prog X.w) X.A X.xe none (EP X pins σ Q) (.ref L) ce) s4 := by
    refine compLoop_any (fun n sa => ∃ i Ha, Inv (blkH X s3 H3 scope ce fp E) [] (wipe σ (own.map (·.2))) Ha sa ∧ tn i sa.heap ∧ (∀ b ∈ fp, Ha b = none) ∧ W i n Ha) ?_ n0 ⟨0, H3, J4, st4, fun b hb => (f3 b hb).1.1, w0⟩
    rintro n s5 ⟨i, H5, I5, st5, n5, w5⟩
    rcases turn i n H5 w5 with ⟨stop, qq⟩ | ⟨go, N, hNx, step⟩
    · refine thnF (T.done (blkH X s3 H3 scope ce fp E) rfl rfl rfl hc i [] s5 _ H5 (fun _ _ => False) I5 (stat I5 n5) st5 stop) fun r s6 ⟨hr, I6⟩ => ?_
      subst hr
      have I7 : Inv X pins σ H5 s6 := I3.call' (ch := fp) I6.os I6.base I6.hok I6.bare fun b hb => ⟨(f3 b hb).1.2.2.2.1, (f3 b hb).1.2.1, (f3 b hb).1.2.2.2.2.1, (f3 b hb).1.2.2.2.2.2⟩
      have nC : H5 ce.locals = none := I6.free
      obtain ⟨m, hn, _⟩ := I6.loc
      refine ⟨m, hn, fun h'' sb => ?_⟩
      obtain ⟨k0, k1, k2, k3, k4, k5⟩ := I3.fpOk (b := ce.locals) (Nat.le_of_eq cL.symm) nC
      exact ⟨.ref L, H5, I7.turned (t' := s6.toks) (fun b o hb e => (sb.2 b hb).trans e) k0 k1 k3 k4 k5, rfl, qq⟩
    · refine thnF (T.item (blkH X s3 H3 scope ce fp E) rfl rfl rfl hc i [] s5 _ H5 (fun _ _ => False) I5 (stat I5 n5) st5 go) fun r s6 ⟨u, hr, h6⟩ => ?_
      subst hr
      refine thnF h6 fun _ s7 ⟨x, H7, I7, r7, y7, st7, n7⟩ => ?_
      have I7' := I7.pinned (stat I7 n7) (T.obj _ _ st7)
      have run1 := (pg E).run _ s7 _ H7 x u _ I7' r7 (step x H7 y7)
      subst hE
      refine wpAny_mono run1 (fun _ s8 ⟨σ8, H8, I8, hw8, q8⟩ => ?_) fun _ _ z => z
      refine wpAny_tests_nil ?_
      simp only [if_true]
      refine wpAny_mono (pe'.run _ s8 σ8 H8 _ I8 q8) (fun z s10 ⟨yv, H10, I10, r10, ys, hL10, hz10, nx⟩ => ?_) fun _ _ z => z
      refine app_ok (X := blkH X s3 H3 scope ce fp _) I10 hL10 hz10 r10 fun s11 I11 => ?_
      obtain ⟨m', hm, w'⟩ := hNx _ nx
      have pin' : ∀ b ∈ fp, ∀ o, s7.heap.get? b = some o → s11.heap.get? b = some o ∧ _ := fun b hb o e =>
        let z := I11.pin (b, o) (List.mem_append_right _ (List.mem_append_right _ (mem_pinsAt hb e)))
        ⟨z.1, z.2.1⟩
      refine ⟨m', hm, i + 1, _, (I11.unpinned (pins := [])).weak (by rw [← hw8, wipe_length]) (fun j v e => ?_), T.keep _ _ _ st7 fun b hb o e => (pin' b hb o e).1, fun b hb => ?_, w'⟩
      · rw [← hw8] at e
        exact (wipe_some e).1
      · obtain ⟨o, e, _⟩ := T.obj _ _ st7 b hb
        exact (pin' b hb o e).2
  exact codeAny_compStart_list loop (T.self X.A 0 _ _ _ st4 loop)
end
end RT
/-! Words: where nothing is handled yet (what is raised has no context); within an except suite. -/
namespace RT
open PySem PySem.Spec PyProof.Rows L2 L2H HotX
/-! ### what is raised has no context -/
structure PFXN (P : Program) (w : World) (K : PySem.W.Frag) (mg : Str → Option Value) (base : Heap) (k : Nat) (x : Str) (F : List PyData → Res) : Prop where
  ex : ∃ (f : Addr) (fd : FuncData) (ps : List Str), FnOk P w K mg base (L2N.CX P w) k f fd ps (spX K F) ∧ mg x = some (.ref f) ∧ PySem.W.keepIn K (.ref f) = true ∧ Binds K fd ps []
theorem pfxN_mk {P : Program} {w : World} {K : PySem.W.Frag} {mg : Str → Option Value} {base : Heap} {k : Nat} {x : Str} {st : Stmt} {N ps : List Str} {b : SS} {f : Addr} {fd : FuncData} (F : FunD K x x (defArgs st) (defBody st) (defScope st) [] [] f fd) (S : FnScope N ps (defScope st)) (hm : mg x = some (.ref f))
    (hb : ∀ (kV doc pm : Value) (an : Option Addr) (cdv ct : Value) (us : List Value), us.length = ps.length → bindArgs (PySem.W.fnOf x x (defArgs st) (defBody st) (defScope st) .none kV doc pm an cdv ct) ⟨us, []⟩ = pure (ps.zip us))
    (body : ∀ (cdv : Value) (A : Around) (outer : List Env) (s : Shared) (H : Hp) (E : XK), Room k (A.deeper (envOfC x (defScope st) s.heap.objs.size f cdv)) → ∃ t, SemSs (cxOf (L2N.CX P w) P w K mg base N x (defScope st) f cdv A outer s H E) K noB (wx K (wE E)) (defBody st) t b) :
    PFXN P w K mg base (k + 1) x (runX N ps.length b) := by
  refine ⟨f, fd, ps, F.ok S (fun vs H Q E h => ?_) (fun cdv A outer s H vs Q E hr h => ?_), hm, F.kp, F.bindsN hb⟩
  · obtain ⟨G, ds, e, hR, q⟩ := h
    rw [hR.len]; exact runX_len q
  · obtain ⟨t, ht⟩ := body cdv A outer s H E hr
    exact ⟨t, ht.ps, sp_bodyX ht.ok h⟩
section
variable {X : Cx} {K : PySem.W.Frag} {B : Bs} {w : WX} {e : Expr} {es : List Expr} {ta : TA} {sa : SA} {x : Str} {p pos : Pos} {k j : Nat} {F : List PyData → Res} {f : Rho → Res}
theorem sxN_call (C : PFXN X.prog X.w K X.mg X.base k x F) (tk : L2N.Takes X w) (hr : Room j X.A) (ha : SemA X K B (e :: es) ta sa) (hk : k ≤ j := by decide) (hg : Gl X x := by rfl) (hdb : (x == ("__debug__" : Str)) = false := by decide)
    (he : starEach (e :: es) X.env = (false, eval e X.env) :: starEach es X.env := by rfl) (hpl : (backTo pos (starEach es X.env)).any (·.1) = false := by rfl) (hK : X.K = K := by rfl) :
    SemX X K B w (.Call (.Name x p) (e :: es) [] pos) (tCallS (spX K F) (WE w) ta) (xCall F sa) := by
  subst hK
  obtain ⟨f, fd, ps, h1, h2, h3, h4⟩ := C.ex
  exact ⟨pe_callS h1 (hr.mono hk) hg h2 h3 h4 (L2N.passAt tk) ha.pa hdb he hpl, callX_ok ha.ok⟩
theorem sxN_lc {elt iter : Expr} {x : Str} {px : Pos} {scope : Scope} {j : Nat} {wi : TI} {src : SA} {tv : XK → TE} (tk : L2N.Takes X w) (hst : X.stack = X.env :: X.outer) (hf : X.env.frame = some X.env.locals) (hc : X.calm = true) (hN : X.N.Nodup) (hi : SemIB X K B (.Name x px) iter wi src) (ok : BlkOk X.N X.env.scope scope [(x, j)])
    (hv : EVOk K B tv f)
    (he : ∀ (V : XK) (E : Value → Shared → Prop) (s : Shared) (H : Hp) (C : Addr) (cl : List (Str × Addr)) (fp : List Addr), Passes (L2N.CX X.prog X.w) ((X.blk s H scope (compEnvC scope cl C X.env) fp).wish E) V → PE ((X.blk s H scope (compEnvC scope cl C X.env) fp).wish E) elt (tv V))
    (hg : ∀ (E : Value → Shared → Prop) (s : Shared) (H : Hp) (C : Addr) (cl : List (Str × Addr)) (fp : List Addr), PG ((X.blk s H scope (compEnvC scope cl C X.env) fp).wish E) (.Name x px) (gName j))
    (hs : ∀ x, foldedSetIterable iter X.env x = pure x := by intro _; rfl) : SemX X K B w (.ListComp elt [⟨.Name x px, iter, [], 0⟩] scope pos) (tLcX wi (gName j) tv w [j]) (xLc src j f) :=
  ⟨pe_lcXN tk hst hf hc hN hi.pi ok hg he hs, lcx_ok hi.ok hv⟩
theorem sN_raise {x m : Str} {j : Nat} {p p2 pos2 : Pos} (hc : X.calm = true) (tk : L2N.Takes X w) (T : ExT X.K X.mg x) (hg : Gl X x := by rfl) (hdb : (x == ("__debug__" : Str)) = false := by decide) (hK : X.K = K := by rfl) :
    SemS X K B (wx K w) (.Raise (some (.Call (.Name x p) [.Constant (.str m) j p2] [] pos)) none pos2) (fun _ σ H => w (.ref (He.ga K x)) none σ H) (sEx x) := by
  subst hK
  exact ⟨L2N.ps_raise hc tk (L2N.pmk_own PySem.F.excBase_ValueError T.x T.g T.k (raises_own T.b T.t) hg hdb), fun Z R F H σ ρ D s hg => hg σ H R F s (Same.refl F)⟩
/-- try, the suite of an exception without a context: calls in the suite -/
theorem sN_try {Wout : WX} {y : Str} {cs : Str → Option Bool} {tb : WX → TS} {ts : TS} {f g : SS} {body suite : List Stmt} {b0 : Stmt} {np pos' : Pos} (hs : X.stack = X.env :: X.outer) (hf : X.env.frame = some X.env.locals) (hc : Names X y (.ref (He.ga X.K y)))
    (hpa : ∀ hd : Option Value, PassesOwnAt (model X.prog X.w) (X.A.mark hd) X.A X.env X.xe) (tk : Takes X Wout) (hx : ∀ c b, cs c = some b → PySem.W.exmOne K (.ref (He.ga K c)) (.ref (He.ga K y)) = some b)
    (hb : ∀ (w : WX) (pn : List (Addr × Obj)) (xe : Value → Shared → Prop), L2N.Takes (X.tr pn xe) w → SemSs (X.tr pn xe) K B (wx K w) body (tb w) f)
    (hsu : ∀ (a : Addr) (q : Addr × Obj) (pn : List (Addr × Obj)), HotC (suiteX X a (q :: pn)) → SemSs (suiteX X a (q :: pn)) K B (wx K Wout) (b0 :: suite) ts g) (hK : X.K = K := by rfl) :
    SemS X K B (wx K Wout) (.Try body [.ExceptHandler (some (.Name y np)) none (b0 :: suite) pos'] [] [] pos) (fun D σ H => tb (wOnly X.K (.ref (He.ga X.K y)) (fun _ _ _ => ts) Wout D) D σ H) (sTry f cs g) := by
  subst hK
  refine ⟨ps_try_onlyX hs hf hc hpa tk (fun w pn xe t _ _ => (hb w pn xe t).ps) fun a oe cls d pn _ _ _ hot => (hsu a _ _ hot).ps, try_ok hx (fun w => (hb w [] (fun _ _ => True) (fun _ _ _ => trivial)).ok) (hsu 0 (0, ⟨.none, none, .fields #[.none, .none, .none], #[]⟩) [] ⟨(0, ⟨.none, none, .fields #[.none, .none, .none], #[]⟩), ⟨rfl, _, rfl, rfl⟩, List.mem_cons_self⟩).ok⟩
end
/-! ### within a suite -/
structure PFH (P : Program) (w : World) (K : PySem.W.Frag) (mg : Str → Option Value) (base : Heap) (k : Nat) (x : Str) (F : List PyData → Option PyData) : Prop where
  ex : ∃ (f : Addr) (fd : FuncData) (ps : List Str), FnH P w K mg base CX0 k f fd ps (spPure K F) ∧ mg x = some (.ref f) ∧ PySem.W.keepIn K (.ref f) = true ∧ Binds K fd ps []
structure PFXH (P : Program) (w : World) (K : PySem.W.Frag) (mg : Str → Option Value) (base : Heap) (k : Nat) (x : Str) (F : List PyData → Res) : Prop where
  ex : ∃ (f : Addr) (fd : FuncData) (ps : List Str), FnH P w K mg base (L2.CX P w) k f fd ps (spX K F) ∧ mg x = some (.ref f) ∧ PySem.W.keepIn K (.ref f) = true ∧ Binds K fd ps []
theorem funH_ok {P : Program} {w : World} {K : PySem.W.Frag} {mg : Str → Option Value} {base : Heap} {x qual : Str} {params : Arguments} {body : List Stmt} {scope : Scope} {f : Addr} {fd : FuncData} {CX : CXT} {N ps : List Str} {k : Nat} {sp : Sp} (F : FunD K x qual params body scope [] [] f fd) (S : FnScope N ps scope)
    (len : ∀ vs H Q E, sp vs H Q E → vs.length = ps.length)
    (hbody : ∀ (cdv : Value) (A : Around) (outer : List Env) (s : Shared) (H : Hp) (vs : List V) (Q : VK) (E : XK) (p : Addr × Obj), HotC (cxH CX P w K mg base N qual scope f cdv A outer s H E p) → RoomH k (A.deeper (envOfC qual scope s.heap.objs.size f cdv)) → sp vs H Q E →
      ∃ t, PSs (cxH CX P w K mg base N qual scope f cdv A outer s H E p) body t ∧ t { nx := fun _ H' => Q .non H', rt := Q } (start N vs) H) : FnH P w K mg base CX (k + 1) f fd ps sp := by
  obtain ⟨oc, od, dV, kV, doc, pm, an, cdv, ct, osl, rfl, lk, hcd, _, _⟩ := F.ex
  exact fn_ofH lk hcd S len fun A outer s H vs Q E p hot hr hsp => hbody cdv A outer s H vs Q E p ⟨p, hot, List.mem_cons_self⟩ hr hsp
theorem pfh_mk {P : Program} {w : World} {K : PySem.W.Frag} {mg : Str → Option Value} {base : Heap} {k : Nat} {x : Str} {st : Stmt} {N ps : List Str} {b : SS} {f : Addr} {fd : FuncData} (F : FunD K x x (defArgs st) (defBody st) (defScope st) [] [] f fd) (S : FnScope N ps (defScope st)) (hm : mg x = some (.ref f))
    (hb : ∀ (kV doc pm : Value) (an : Option Addr) (cdv ct : Value) (us : List Value), us.length = ps.length → bindArgs (PySem.W.fnOf x x (defArgs st) (defBody st) (defScope st) .none kV doc pm an cdv ct) ⟨us, []⟩ = pure (ps.zip us))
    (body : ∀ (cdv : Value) (A : Around) (outer : List Env) (s : Shared) (H : Hp) (E : XK) (p : Addr × Obj), HotC (cxH CX0 P w K mg base N x (defScope st) f cdv A outer s H E p) → RoomH k (A.deeper (envOfC x (defScope st) s.heap.objs.size f cdv)) → ∃ t, SemSs (cxH CX0 P w K mg base N x (defScope st) f cdv A outer s H E p).nox K noB W0 (defBody st) t b) :
    PFH P w K mg base (k + 1) x (runF N ps.length b) := by
  refine ⟨f, fd, ps, funH_ok F S (fun vs H Q E h => ?_) (fun cdv A outer s H vs Q E p hot hr h => ?_), hm, F.kp, F.bindsN hb⟩
  · obtain ⟨G, ds, d, _, hR, hF, _⟩ := h
    unfold runF at hF
    split at hF
    · rename_i hl
      rw [hR.len]; exact hl
    · cases hF
  · obtain ⟨t, ht⟩ := body cdv A outer s H E p hot hr
    exact ⟨t, ht.ps.nox, sp_body ht.ok h⟩
theorem pfxh_mk {P : Program} {w : World} {K : PySem.W.Frag} {mg : Str → Option Value} {base : Heap} {k : Nat} {x : Str} {st : Stmt} {N ps : List Str} {b : SS} {f : Addr} {fd : FuncData} (F : FunD K x x (defArgs st) (defBody st) (defScope st) [] [] f fd) (S : FnScope N ps (defScope st)) (hm : mg x = some (.ref f))
    (hb : ∀ (kV doc pm : Value) (an : Option Addr) (cdv ct : Value) (us : List Value), us.length = ps.length → bindArgs (PySem.W.fnOf x x (defArgs st) (defBody st) (defScope st) .none kV doc pm an cdv ct) ⟨us, []⟩ = pure (ps.zip us))
    (body : ∀ (cdv : Value) (A : Around) (outer : List Env) (s : Shared) (H : Hp) (E : XK) (p : Addr × Obj), HotC (cxH (L2.CX P w) P w K mg base N x (defScope st) f cdv A outer s H E p) → RoomH k (A.deeper (envOfC x (defScope st) s.heap.objs.size f cdv)) → ∃ t, SemSs (cxH (L2.CX P w) P w K mg base N x (defScope st) f cdv A outer s H E p) K noB (wx K (wE E)) (defBody st) t b) :
    PFXH P w K mg base (k + 1) x (runX N ps.length b) := by
  refine ⟨f, fd, ps, funH_ok F S (fun vs H Q E h => ?_) (fun cdv A outer s H vs Q E p hot hr h => ?_), hm, F.kp, F.bindsN hb⟩
  · obtain ⟨G, ds, e, hR, q⟩ := h
    rw [hR.len]; exact runX_len q
  · obtain ⟨t, ht⟩ := body cdv A outer s H E p hot hr
    exact ⟨t, ht.ps, sp_bodyX ht.ok h⟩
structure SemIH (X : Cx) (K : PySem.W.Frag) (B : Bs) (tg : Expr) (iter : Expr) (wi : TI) (f : SA) : Prop where
  pi : PIH X tg iter wi
  ok : IOk K B wi f
structure SemIBH (X : Cx) (K : PySem.W.Frag) (B : Bs) (tg : Expr) (iter : Expr) (wi : TI) (f : SA) : Prop where
  pi : PIH X tg iter wi
  ok : IBOk K B wi f
section
variable {X : Cx} {K : PySem.W.Frag} {B : Bs} {w : WX} {W : XW} {e tg : Expr} {es : List Expr} {ta : TA} {t : TE} {tb : TS} {sa : SA} {se : SE} {x : Str} {p pos : Pos} {k j : Nat} {F : List PyData → Res} {FP : List PyData → Option PyData} {f : Rho → Res} {fs : SS}
theorem si_listH (h : SemE X K B e t se) (hK : X.K = K := by rfl) : SemIH X K B tg e (iList K t) (iL se) := by
  subst hK
  exact ⟨pi_listH h.pe, iList_ok h.ok⟩
theorem si_listBH (h : SemB X K B e t se) (hK : X.K = K := by rfl) : SemIBH X K B tg e (iList K t) (iL se) := by
  subst hK
  exact ⟨pi_listH h.pe, iListB_ok h.ok⟩
theorem si_strH (h : SemE X K B e t se) : SemIH X K B tg e (iStr t) (iS se) := ⟨pi_strH h.pe, iStr_ok h.ok⟩
theorem s_forH {iter : Expr} {body : List Stmt} {wi : TI} {gg : TG} {tgf : PyData → Rho → Option Rho} (hp : PassesOwn (model X.prog X.w) X.A X.env X.xe) (hc : HotC X) (hi : SemIH X K B tg iter wi sa) (hg : PG X tg gg) (ht : TGOk K gg tgf) (hb : SemSs X K B W body tb fs)
    (hs : ∀ x, foldedSetIterable iter X.env x = pure x := by intro _; rfl) : SemS X K B W (.For tg iter body [] pos) (tFor wi gg tb) (sFor sa tgf fs) := ⟨ps_forH hp hc hi.pi hg hb.ps hs, for_okS hi.ok ht hb.ok⟩
theorem sH_raise {x m : Str} {j : Nat} {p p2 pos2 : Pos} (hc : HotC X) (tk : Takes X w) (T : ExT X.K X.mg x) (hg : Gl X x := by rfl) (hdb : (x == ("__debug__" : Str)) = false := by decide) (hK : X.K = K := by rfl) :
    SemS X K B (wx K w) (.Raise (some (.Call (.Name x p) [.Constant (.str m) j p2] [] pos)) none pos2) (fun _ σ H => w (.ref (He.ga K x)) none σ H) (sEx x) := by
  subst hK
  exact ⟨ps_raiseH hc tk (L2N.pmk_own PySem.F.excBase_ValueError T.x T.g T.k (raises_own T.b T.t) hg hdb), fun Z R F H σ ρ D s hg => hg σ H R F s (Same.refl F)⟩
theorem callH_ok (ha : AOk K B ta sa) : EOk K B (tCallS (spPure K FP) (fun _ => E0) ta) (eCall FP sa) := fun Rg F' H σ ρ d E q Q kk => by
  cases e1 : sa ρ with
  | none => simp [eCall, e1] at q
  | some ds =>
    have q' : FP ds = some d := by simpa [eCall, e1] using q
    exact ha _ F' H σ ρ ds E e1 _ fun vs H1 G1 g1 r1 => ⟨G1, ds, d, g1.sub, r1, q', fun v H' G' g r => kk v H' G' (g1.trans g) r⟩
theorem se_callH (C : PFH X.prog X.w K X.mg X.base k x FP) (hr : RoomH j X.A) (hc : HotC X) (ha : SemA X K B (e :: es) ta sa) (hk : k ≤ j := by decide) (hg : Gl X x := by rfl) (hdb : (x == ("__debug__" : Str)) = false := by decide)
    (he : starEach (e :: es) X.env = (false, eval e X.env) :: starEach es X.env := by rfl) (hpl : (backTo pos (starEach es X.env)).any (·.1) = false := by rfl) (hK : X.K = K := by rfl) : SemE X K B (.Call (.Name x p) (e :: es) [] pos) (tCallS (spPure K FP) (fun _ => E0) ta) (eCall FP sa) := by
  subst hK
  obtain ⟨f, fd, ps, h1, h2, h3, h4⟩ := C.ex
  exact ⟨pe_callH h1 (hr.mono hk) hc hg h2 h3 h4 (fun _ _ _ _ _ _ _ h => h.elim) ha.pa hdb he hpl, callH_ok ha.ok⟩
theorem callVS_ok (ha : AOk K B ta sa) : EVOk K B (fun V => tCallS (spX K F) (fun _ => V) ta) (xCall F sa) := fun V R F' H σ ρ Q E q => by
  unfold xCall at q
  cases e1 : sa ρ with
  | none => rw [e1] at q; exact (show False from q).elim
  | some ds =>
    rw [e1] at q
    refine ha _ F' H σ ρ ds E e1 _ fun vs H1 G1 g1 r1 => ⟨G1, ds, g1.sub, r1, ?_⟩
    simp only at q
    cases e2 : F ds with
    | no => rw [e2] at q; exact q
    | ret d => rw [e2] at q; exact fun v H' G' g r => q v H' G' (g1.trans g) r
    | exc c => rw [e2] at q; exact fun H' G' g => q H' G' (g1.trans g)
theorem sxH_lc {elt iter : Expr} {x : Str} {px : Pos} {scope : Scope} {j : Nat} {wi : TI} {src : SA} {tv : XK → TE} (tk : Takes X w) (hst : X.stack = X.env :: X.outer) (hf : X.env.frame = some X.env.locals) (hc : HotC X) (hN : X.N.Nodup) (hi : SemIBH X K B (.Name x px) iter wi src) (ok : BlkOk X.N X.env.scope scope [(x, j)])
    (hv : EVOk K B tv f)
    (he : ∀ (V : XK) (E : Value → Shared → Prop) (s : Shared) (H : Hp) (C : Addr) (cl : List (Str × Addr)) (fp : List Addr), (∀ τ, PassesAt (L2.CX X.prog X.w) (blkH X s H scope (compEnvC scope cl C X.env) fp E) τ V) → PE (blkH X s H scope (compEnvC scope cl C X.env) fp E) elt (tv V))
    (hg : ∀ (E : Value → Shared → Prop) (s : Shared) (H : Hp) (C : Addr) (cl : List (Str × Addr)) (fp : List Addr), PG (blkH X s H scope (compEnvC scope cl C X.env) fp E) (.Name x px) (gName j))
    (hs : ∀ x, foldedSetIterable iter X.env x = pure x := by intro _; rfl) : SemX X K B w (.ListComp elt [⟨.Name x px, iter, [], 0⟩] scope pos) (tLcX wi (gName j) tv w [j]) (xLc src j f) :=
  ⟨pe_lcXH tk hst hf hc hN hi.pi ok hg he hs, lcx_ok hi.ok hv⟩
end
theorem RoomH.units {k : Nat} {A : Around} (r : RoomH k A) : A.units + 64 < cLine := by have := r.un; omega
theorem RoomH.hv {k : Nat} {A : Around} (r : RoomH k A) : A.units + 65 < cLine := by have := r.un; omega
end RT
namespace RK
open PySem PySem.Spec PyProof.Rows L2 RT
def topS (i : Nat) : Stmt := PySem.Challenge.pw_rota_k07_lines_read.main.body.getD i (.Pass ⟨0, 0, 0, 0⟩)
abbrev s_is_name : Stmt := topS 11
abbrev s_row_of : Stmt := topS 13
abbrev s_read : Stmt := topS 14
abbrev s_cell : Stmt := topS 16
abbrev s_sign : Stmt := topS 17
abbrev s_name_by : Stmt := topS 18
abbrev s_changed : Stmt := topS 19
abbrev s_lrow_of : Stmt := topS 20
abbrev s_rows_of : Stmt := topS 21
abbrev s_refused_by_any : Stmt := topS 22
abbrev s_law : Stmt := topS 23
/-- what the top has written -/
structure Txt (K : PySem.W.Frag) (mg : Str → Option Value) : Prop where
  f_is_name : ∃ fd, FunD K "is_name" "is_name" (defArgs s_is_name) (defBody s_is_name) (defScope s_is_name) [] [] (He.ga K "is_name") fd
  g_is_name : mg "is_name" = some (.ref (He.ga K "is_name"))
  f_row_of : ∃ fd, FunD K "row_of" "row_of" (defArgs s_row_of) (defBody s_row_of) (defScope s_row_of) [] [] (He.ga K "row_of") fd
  g_row_of : mg "row_of" = some (.ref (He.ga K "row_of"))
  f_read : ∃ fd, FunD K "read" "read" (defArgs s_read) (defBody s_read) (defScope s_read) [] [] (He.ga K "read") fd
  g_read : mg "read" = some (.ref (He.ga K "read"))
  f_cell : ∃ fd, FunD K "_law_cell" "_law_cell" (defArgs s_cell) (defBody s_cell) (defScope s_cell) [] [] (He.ga K "_law_cell") fd
  g_cell : mg "_law_cell" = some (.ref (He.ga K "_law_cell"))
  f_sign : ∃ fd, FunD K "_law_sign" "_law_sign" (defArgs s_sign) (defBody s_sign) (defScope s_sign) [] [] (He.ga K "_law_sign") fd
  g_sign : mg "_law_sign" = some (.ref (He.ga K "_law_sign"))
  f_name_by : ∃ fd, FunD K "_law_name_by" "_law_name_by" (defArgs s_name_by) (defBody s_name_by) (defScope s_name_by) [] [] (He.ga K "_law_name_by") fd
  g_name_by : mg "_law_name_by" = some (.ref (He.ga K "_law_name_by"))
  f_changed : ∃ fd, FunD K "_law_changed" "_law_changed" (defArgs s_changed) (defBody s_changed) (defScope s_changed) [] [] (He.ga K "_law_changed") fd
  g_changed : mg "_law_changed" = some (.ref (He.ga K "_law_changed"))
  f_lrow_of : ∃ fd, FunD K "_law_row_of" "_law_row_of" (defArgs s_lrow_of) (defBody s_lrow_of) (defScope s_lrow_of) [] [] (He.ga K "_law_row_of") fd
  g_lrow_of : mg "_law_row_of" = some (.ref (He.ga K "_law_row_of"))
  f_rows_of : ∃ fd, FunD K "_law_rows_of" "_law_rows_of" (defArgs s_rows_of) (defBody s_rows_of) (defScope s_rows_of) [] [] (He.ga K "_law_rows_of") fd
  g_rows_of : mg "_law_rows_of" = some (.ref (He.ga K "_law_rows_of"))
  f_refused_by_any : ∃ fd, FunD K "_law_refused_by_any" "_law_refused_by_any" (defArgs s_refused_by_any) (defBody s_refused_by_any) (defScope s_refused_by_any) [] [] (He.ga K "_law_refused_by_any") fd
  g_refused_by_any : mg "_law_refused_by_any" = some (.ref (He.ga K "_law_refused_by_any"))
  f_law : ∃ fd, FunD K "law" "law" (defArgs s_law) (defBody s_law) (defScope s_law) [] [] (He.ga K "law") fd
  g_law : mg "law" = some (.ref (He.ga K "law"))
  z_ValueError : mg "ValueError" = none
  z_isinstance : mg "isinstance" = none
  z_len : mg "len" = none
  z_list : mg "list" = none
  z_range : mg "range" = none
  z_tuple : mg "tuple" = none
  c_MOST : ∃ tk, mg "MOST" = some (.int 20 tk)
  c_SIGNS : ∃ tk, mg "SIGNS" = some (.str "!\"#$&'()*+,-./0123456789:;<=>?@ABCDEFGHIJKLMNOPQRSTUVWXYZ[\\]^_`abcdefghijklmnopqrstuvwxyz{|}~" tk)
  e_BadLine : ExT K mg "BadLine"
  gh_RotaError : mg "RotaError" = some (.ref (He.ga K "RotaError"))
  x_BadLine_RotaError : PySem.W.exmOne K (.ref (He.ga K "BadLine")) (.ref (He.ga K "RotaError")) = some true
  gh_BadLine : mg "BadLine" = some (.ref (He.ga K "BadLine"))
  x_BadLine_BadLine : PySem.W.exmOne K (.ref (He.ga K "BadLine")) (.ref (He.ga K "BadLine")) = some true
  xe : ExcC K (He.ga K "BadLine")
  ka : PySem.W.kitAny K (.ref (He.ga K "BadLine")) ([He.ga K "BadName", He.ga K "BadStretch", He.ga K "BadCount", He.ga K "Twice", He.ga K "Missing"].map Value.ref) = some false
  kv : PySem.W.kitOne K (.ref (He.ga K "BadLine")) (.type "ValueError") = some true
  ks : PySem.W.kitOne K (.ref (He.ga K "BadLine")) (.ref (He.ga K "BadLine")) = some true
  gl_BadName : mg "BadName" = some (.ref (He.ga K "BadName"))
  gl_BadStretch : mg "BadStretch" = some (.ref (He.ga K "BadStretch"))
  gl_BadCount : mg "BadCount" = some (.ref (He.ga K "BadCount"))
  gl_Twice : mg "Twice" = some (.ref (He.ga K "Twice"))
  gl_Missing : mg "Missing" = some (.ref (He.ga K "Missing"))
section
variable {P : Program} {w : World} {K : PySem.W.Frag} {mg : Str → Option Value} {base : Heap}
abbrev N_is_name : List Str := ["text", "sign"]
theorem sc_is_name : FnScope N_is_name ["text"] (defScope s_is_name) := ⟨rfl, rfl, rfl, by decide +kernel, rfl, by decide +kernel, by decide +kernel⟩
def b_is_name : SS := (sSeq (sIf (tNotF (bF (eChainF gLe gLe (eC (.int 1)) (eCall gLen (eCons (eVarB 0) eNil)) (eC (.int 20))))) (sRet (eC (.bool false))) sNext)
  (sSeq (sFor (iS (eVar 0)) (tg1 1) (sIf (bF (eOp gNotIn (eVarB 1) (eC (.str "!\"#$&'()*+,-./0123456789:;<=>?@ABCDEFGHIJKLMNOPQRSTUVWXYZ[\\]^_`abcdefghijklmnopqrstuvwxyz{|}~")))) (sRet (eC (.bool false))) sNext))
  (sRet (eC (.bool true)))))
def F_is_name : List PyData → Option PyData := runF N_is_name 1 b_is_name
theorem ok_is_name (T : Txt K mg) : PF P w K mg base 1 "is_name" F_is_name := by
  obtain ⟨fd, F⟩ := T.f_is_name
  refine pf_mk (k := 0) F sc_is_name T.g_is_name (fun _ _ _ _ _ _ us hl => match us, hl with | [_], _ => rfl) fun cdv A outer s H E hr => ?_
  have hu := hr.units
  have hv := hv_of hr
  exact ⟨_, ((ss_cons (s_if (st_not (st_chain le_s op_le le_s op_le (x_eb se_int) (x_eb (se_cb len_s call_len T.z_len (x_abc (sb_var 0) sab_nil))) (x_eb (se_globI T.c_MOST)))) (ss_one (s_ret se_bool)) ss_nil)
    (ss_cons (s_for PassesOwn.never rfl (si_str (se_var 0)) (pg_name (i := 1) sc_is_name.nd rfl (by first | exact Or.inl rfl | exact Or.inr rfl)) (tg1_ok 1) (ss_one (s_if (st_cmp notIn2_s (op_notIn2 hv) (sb_var 1) (x_eb (se_globS T.c_SIGNS)) (by rfl)) (ss_one (s_ret se_bool)) ss_nil)))
    (ss_one (s_ret se_bool)))))⟩

abbrev N_cell : List Str := ["_law_script", "_law_k"]
theorem sc_cell : FnScope N_cell ["_law_script", "_law_k"] (defScope s_cell) := ⟨rfl, rfl, rfl, by decide +kernel, rfl, by decide +kernel, by decide +kernel⟩
def b_cell : SS := (sRet (eOp gIx (eOp gAdd (eList (lSl (eVarB 0) (oSome (eVarB 1)) (oSome (eOp gAdd (eVarB 1) (eC (.int 1)))))) (eList (eLstD (eCons (eC (.int 0)) eNil)))) (eC (.int 0))))
def F_cell : List PyData → Option PyData := runF N_cell 2 b_cell
theorem ok_cell (T : Txt K mg) : PF P w K mg base 1 "_law_cell" F_cell := by
  obtain ⟨fd, F⟩ := T.f_cell
  refine pf_mk (k := 0) F sc_cell T.g_cell (fun _ _ _ _ _ _ us hl => match us, hl with | [_, _], _ => rfl) fun cdv A outer s H E hr => ?_
  have hu := hr.units
  have hv := hv_of hr
  exact ⟨_, ((ss_one (s_ret (se_ix (x_eb (se_add (x_eb (x_le (sl_sl (sb_var 0) (so_some (sb_var 1)) (so_some (x_eb (se_add (sb_var 1) (x_eb se_int))))))) (x_eb (x_le (sl_lst (x_ac se_int sa_nil)))))) (x_eb se_int)))))⟩

abbrev N_sign : List Str := ["_law_cell_here", "_law_small", "_law_great"]
theorem sc_sign : FnScope N_sign ["_law_cell_here"] (defScope s_sign) := ⟨rfl, rfl, rfl, by decide +kernel, rfl, by decide +kernel, by decide +kernel⟩
def b_sign : SS := (sSeq (sSet 1 (eC (.str "abcdefghijklmnopqrstuvwxyz{|}~")))
  (sSeq (sSet 2 (eC (.str "@ABCDEFGHIJKLMNOPQRSTUVWXYZ[\\]^_`")))
  (sRet (eOp gIx (eOp gAdd (eOp gAdd (eC (.str "!\"#$&'()*+,-./0123456789:;<=>?")) (eVarB 2)) (eVarB 1)) (eOp gMod (eVarB 0) (eC (.int 93)))))))
def F_sign : List PyData → Option PyData := runF N_sign 1 b_sign
theorem ok_sign (T : Txt K mg) : PF P w K mg base 1 "_law_sign" F_sign := by
  obtain ⟨fd, F⟩ := T.f_sign
  refine pf_mk (k := 0) F sc_sign T.g_sign (fun _ _ _ _ _ _ us hl => match us, hl with | [_], _ => rfl) fun cdv A outer s H E hr => ?_
  have hu := hr.units
  have hv := hv_of hr
  exact ⟨_, ((ss_cons (s_set 1 sc_sign.nd se_str)
    (ss_cons (s_set 2 sc_sign.nd se_str)
    (ss_one (s_ret (se_ix (x_eb (se_add (x_eb (se_add (x_eb se_str) (sb_var 2))) (sb_var 1))) (x_eb (se_mod (sb_var 0) (x_eb se_int)))))))))⟩

abbrev N_lrow_of : List Str := ["_law_signs", "_law_names", "_law_sign_here", "_law_name"]
theorem sc_lrow_of : FnScope N_lrow_of ["_law_signs"] (defScope s_lrow_of) := ⟨rfl, rfl, rfl, by decide +kernel, rfl, by decide +kernel, by decide +kernel⟩
def b_lrow_of : SS := (sSeq (sSetL 1 (eLstD (eCons (eC (.str "")) eNil)))
  (sSeq (sFor (iS (eVar 0)) (tg1 2) (sIf (bF (eOp gEq (eVarB 2) (eC (.str " ")))) (sApp 1 (eC (.str ""))) (sPut 1 (eUn gNeg (eC (.int 1))) (eOp gAdd (eOp gIx (eVarB 1) (eUn gNeg (eC (.int 1)))) (eVarB 2)))))
  (sSeq (sIf (tOrF (bF (eOp gNe (eCall gLen (eCons (eVarB 1) eNil)) (eC (.int 3)))) (bF (eOp gNe (eList (lLc (iL (eVarB 1)) 3 (tOrF (tNotF (bF (eChainF gLe gLe (eC (.int 1)) (eCall gLen (eCons (eVarB 3) eNil)) (eC (.int 20))))) (bF (eOp gIn (eC (.str "\t")) (eVarB 3)))) (eVar 3))) (eList (eLstD eNil))))) (sRet (eC .none)) sNext)
  (sRet (eTupD (eCons (eOp gIx (eVarB 1) (eC (.int 0))) (eCons (eOp gIx (eVarB 1) (eC (.int 1))) (eCons (eOp gIx (eVarB 1) (eC (.int 2))) eNil))))))))
def F_lrow_of : List PyData → Option PyData := runF N_lrow_of 1 b_lrow_of
theorem ok_lrow_of (T : Txt K mg) : PF P w K mg base 1 "_law_row_of" F_lrow_of := by
  obtain ⟨fd, F⟩ := T.f_lrow_of
  refine pf_mk (k := 0) F sc_lrow_of T.g_lrow_of (fun _ _ _ _ _ _ us hl => match us, hl with | [_], _ => rfl) fun cdv A outer s H E hr => ?_
  have hu := hr.units
  have hv := hv_of hr
  exact ⟨_, ((ss_cons (s_setL 1 sc_lrow_of.nd (sl_lst (x_ac se_str sa_nil)))
    (ss_cons (s_for PassesOwn.never rfl (si_str (se_var 0)) (pg_name (i := 2) sc_lrow_of.nd rfl (by first | exact Or.inl rfl | exact Or.inr rfl)) (tg1_ok 2) (ss_one (s_if (st_cmp eq2_s (op_eq2 hu) (sb_var 2) (x_eb se_str) (nomark _)) (ss_one (s_app 1 se_str (by exact (ps_expr (pe_bm PySem.F.plainAttrs_list PySem.F.slot_list_append PySem.F.type_list_append mt_append (pv 1) (pa_cons (x_pe (K := K) se_str) pa_nil)))))) (ss_one (s_put 1 (se_add (x_eb (se_ix (sb_var 1) (x_eb (se_neg (x_eb se_int))))) (sb_var 2)) (se_neg (x_eb se_int)) (by exact (ps_asg (x_pe (K := K) (se_add (x_eb (se_ix (sb_var 1) (x_eb (se_neg (x_eb se_int))))) (sb_var 2))) (pg_sub (pv 1) (x_pe (K := K) (se_neg (x_eb se_int))) set_list (fun _ => rfl)))))))))
    (ss_cons (s_if (x_wt (sw_or (st_cmp ne2_s (op_ne2 hu) (x_eb (se_cb len_s call_len T.z_len (x_abc (sb_var 1) sab_nil))) (x_eb se_int) (nomark _)) (sw_or1 (st_cmp ne2_s (op_ne2 hu) (x_eb (x_le (sl_lc (j := 3) rfl sc_lrow_of.nd rfl (si_listB (sb_var 1)) (blkOk_by (N := N_lrow_of) (sc := defScope s_lrow_of) (own := [("_law_name", 3)]) (by decide +kernel)) (fun _ _ _ _ _ => (sts_one (x_wt (sw_or (st_not (st_chain le_s op_le le_s op_le (x_eb se_int) (x_eb (se_cb len_s call_len T.z_len (x_abc (sb_var 3) sab_nil))) (x_eb se_int))) (sw_or1 (st_cmp in2_s (op_in2 hv) (x_eb se_str) (sb_var 3) (by rfl))))))) (fun _ _ _ _ _ => (se_var 3)) (fun _ _ _ _ _ => pg_name sc_lrow_of.nd rfl (Or.inl rfl))))) (x_eb (x_le (sl_lst sa_nil))) (nomark _))))) (ss_one (s_ret se_none)) ss_nil)
    (ss_one (s_ret (se_tup (x_ac (se_ix (sb_var 1) (x_eb se_int)) (x_ac (se_ix (sb_var 1) (x_eb se_int)) (x_ac (se_ix (sb_var 1) (x_eb se_int)) sa_nil))))))))))⟩

abbrev N_name_by : List Str := ["_law_place", "_law_cell_here", "_law_tail", "_law_k"]
theorem sc_name_by : FnScope N_name_by ["_law_place", "_law_cell_here"] (defScope s_name_by) := ⟨rfl, rfl, rfl, by decide +kernel, rfl, by decide +kernel, by decide +kernel⟩
def b_name_by : SS := (sSeq (sSet 2 (eList (lLc (iR1 (eCons (eOp gMod (eVarB 1) (eC (.int 20))) eNil)) 3 tYesF (eCall F_sign (eCons (eOp gAdd (eOp gFdiv (eVarB 1) (eC (.int 20))) (eOp gMul (eOp gMul (eC (.int 5)) (eVarB 3)) (eOp gMod (eVarB 1) (eC (.int 7))))) eNil)))))
  (sRet (eOp gAdd (eOp gJoin (eC (.str "")) (eVarB 2)) (eCall F_sign (eCons (eVar 0) eNil)))))
def F_name_by : List PyData → Option PyData := runF N_name_by 2 b_name_by
theorem ok_name_by (T : Txt K mg) : PF P w K mg base 2 "_law_name_by" F_name_by := by
  obtain ⟨fd, F⟩ := T.f_name_by
  refine pf_mk (k := 1) F sc_name_by T.g_name_by (fun _ _ _ _ _ _ us hl => match us, hl with | [_, _], _ => rfl) fun cdv A outer s H E hr => ?_
  have hu := hr.units
  have hv := hv_of hr
  exact ⟨_, ((ss_cons (s_setLcE 2 (by exact (sl_lc (j := 3) rfl sc_name_by.nd rfl (x_ib (si_range1 T.z_range (x_abc (x_eb (se_mod (sb_var 1) (x_eb se_int))) sab_nil))) (blkOk_by (N := N_name_by) (sc := defScope s_name_by) (own := [("_law_k", 3)]) (by decide +kernel)) (fun _ _ _ _ _ => sts_nil) (fun _ _ _ _ _ => (se_call (ok_sign T) hr (x_ac (se_add (x_eb (se_fdiv (sb_var 1) (x_eb se_int))) (x_eb (se_mul (x_eb (se_mul (x_eb se_int) (sb_var 3))) (x_eb (se_mod (sb_var 1) (x_eb se_int)))))) sa_nil))) (fun _ _ _ _ _ => pg_name sc_name_by.nd rfl (Or.inl rfl)))) (by exact (ps_setLc (i := 2) (own := [("_law_k", 3)]) (g := gName 3) rfl sc_name_by.nd rfl rfl (sw_true rfl rfl rfl (by decide +kernel)) (x_pi (K := K) (x_ib (si_range1 T.z_range (x_abc (x_eb (se_mod (sb_var 1) (x_eb se_int))) sab_nil)))) (blkOk_by (N := N_name_by) (sc := defScope s_name_by) (own := [("_law_k", 3)]) (by decide +kernel)) (fun _ _ _ _ _ => pg_name sc_name_by.nd rfl (Or.inl rfl)) (fun _ _ _ _ _ => pts_nil) (fun _ _ _ _ _ => (x_pe (K := K) (se_call (ok_sign T) hr (x_ac (se_add (x_eb (se_fdiv (sb_var 1) (x_eb se_int))) (x_eb (se_mul (x_eb (se_mul (x_eb se_int) (sb_var 3))) (x_eb (se_mod (sb_var 1) (x_eb se_int)))))) sa_nil)))))))
    (ss_one (s_ret (se_add (x_eb (se_join (x_eb se_str) (sb_var 2))) (x_eb (se_call (ok_sign T) hr (x_ac (se_var 0) sa_nil))))))))⟩

abbrev N_changed : List Str := ["_law_text", "_law_way", "_law_cell_here", "_law_more", "_law_place", "_law_sign_here", "_law_some"]
theorem sc_changed : FnScope N_changed ["_law_text", "_law_way", "_law_cell_here", "_law_more"] (defScope s_changed) := ⟨rfl, rfl, rfl, by decide +kernel, rfl, by decide +kernel, by decide +kernel⟩
def b_changed : SS := (sSeq (sSet 4 (eOp gMod (eVarB 2) (eOp gAdd (eCall gLen (eCons (eVarB 0) eNil)) (eC (.int 1)))))
  (sSeq (sSet 5 (eOp gIx (eList (eLstD (eCons (eC (.str " ")) (eCons (eC (.str "\n")) (eCons (eC (.str "\t")) (eCons (eCall F_sign (eCons (eOp gFdiv (eVarB 3) (eC (.int 4))) eNil)) eNil)))))) (eOp gMod (eVarB 3) (eC (.int 4)))))
  (sSeq (sIf (bF (eOp gEq (eVarB 1) (eC (.int 1)))) (sRet (eOp gAdd (eOp gAdd (eSlS (eVarB 0) oNone (oSome (eVarB 4))) (eVarB 5)) (eSlS (eVarB 0) (oSome (eVarB 4)) oNone))) sNext)
  (sSeq (sIf (bF (eOp gEq (eVarB 1) (eC (.int 2)))) (sRet (eOp gAdd (eSlS (eVarB 0) oNone (oSome (eVarB 4))) (eSlS (eVarB 0) (oSome (eOp gAdd (eVarB 4) (eC (.int 1)))) oNone))) sNext)
  (sSeq (sSet 6 (eList (eLstD (eCons (eC (.str "")) (eCons (eC (.str "\n")) (eCons (eC (.str " \n")) (eCons (eC (.str "a b c")) (eCons (eC (.str "a b\n")) (eCons (eC (.str "a b c d\n")) (eCons (eC (.str "a b c\n\n")) (eCons (eC (.str " a b c\n")) (eCons (eC (.str "a  b c\n")) eNil))))))))))))
  (sSeq (sSet 6 (eOp gAdd (eVarB 6) (eList (eLstD (eCons (eC (.str "a b c \n")) (eCons (eC (.str "\na b c\n")) eNil))))))
  (sRet (eOp gIx (eVarB 6) (eOp gMod (eVarB 2) (eC (.int 11)))))))))))
def F_changed : List PyData → Option PyData := runF N_changed 4 b_changed
theorem ok_changed (T : Txt K mg) : PF P w K mg base 2 "_law_changed" F_changed := by
  obtain ⟨fd, F⟩ := T.f_changed
  refine pf_mk (k := 1) F sc_changed T.g_changed (fun _ _ _ _ _ _ us hl => match us, hl with | [_, _, _, _], _ => rfl) fun cdv A outer s H E hr => ?_
  have hu := hr.units
  have hv := hv_of hr
  exact ⟨_, ((ss_cons (s_set 4 sc_changed.nd (se_mod (sb_var 2) (x_eb (se_add (x_eb (se_cb len_s call_len T.z_len (x_abc (sb_var 0) sab_nil))) (x_eb se_int)))))
    (ss_cons (s_set 5 sc_changed.nd (se_ix (x_eb (x_le (sl_lst (x_ac se_str (x_ac se_str (x_ac se_str (x_ac (se_call (ok_sign T) hr (x_ac (se_fdiv (sb_var 3) (x_eb se_int)) sa_nil)) sa_nil))))))) (x_eb (se_mod (sb_var 3) (x_eb se_int)))))
    (ss_cons (s_if (st_cmp eq2_s (op_eq2 hu) (sb_var 1) (x_eb se_int) (nomark _)) (ss_one (s_ret (se_add (x_eb (se_add (x_eb (se_slS (sb_var 0) so_none (so_some (sb_var 4)))) (sb_var 5))) (x_eb (se_slS (sb_var 0) (so_some (sb_var 4)) so_none))))) ss_nil)
    (ss_cons (s_if (st_cmp eq2_s (op_eq2 hu) (sb_var 1) (x_eb se_int) (nomark _)) (ss_one (s_ret (se_add (x_eb (se_slS (sb_var 0) so_none (so_some (sb_var 4)))) (x_eb (se_slS (sb_var 0) (so_some (x_eb (se_add (sb_var 4) (x_eb se_int)))) so_none))))) ss_nil)
    (ss_cons (s_set 6 sc_changed.nd (x_le (sl_lst (x_ac se_str (x_ac se_str (x_ac se_str (x_ac se_str (x_ac se_str (x_ac se_str (x_ac se_str (x_ac se_str (x_ac se_str sa_nil))))))))))))
    (ss_cons (s_set 6 sc_changed.nd (se_add (sb_var 6) (x_eb (x_le (sl_lst (x_ac se_str (x_ac se_str sa_nil)))))))
    (ss_one (s_ret (se_ix (sb_var 6) (x_eb (se_mod (sb_var 2) (x_eb se_int)))))))))))))⟩

abbrev N_rows_of : List Str := ["_law_text", "_law_rows", "_law_line", "_law_sign_here"]
theorem sc_rows_of : FnScope N_rows_of ["_law_text"] (defScope s_rows_of) := ⟨rfl, rfl, rfl, by decide +kernel, rfl, by decide +kernel, by decide +kernel⟩
def b_rows_of : SS := (sSeq (sSetL 1 (eLstD eNil))
  (sSeq (sSet 2 (eC (.str "")))
  (sSeq (sFor (iS (eVar 0)) (tg1 3) (sIf (bF (eOp gEq (eVarB 3) (eC (.str "\n")))) (sSeq (sApp 1 (eCall F_lrow_of (eCons (eVar 2) eNil)))
  (sSet 2 (eC (.str "")))) (sSet 2 (eOp gAdd (eVarB 2) (eVarB 3)))))
  (sSeq (sIf (tOrF (bF (eOp gNe (eVarB 2) (eC (.str "")))) (bF (eOp gIn (eC .none) (eVarB 1)))) (sRet (eC .none)) sNext)
  (sRet (eVar 1))))))
def F_rows_of : List PyData → Option PyData := runF N_rows_of 1 b_rows_of
theorem ok_rows_of (T : Txt K mg) : PF P w K mg base 2 "_law_rows_of" F_rows_of := by
  obtain ⟨fd, F⟩ := T.f_rows_of
  refine pf_mk (k := 1) F sc_rows_of T.g_rows_of (fun _ _ _ _ _ _ us hl => match us, hl with | [_], _ => rfl) fun cdv A outer s H E hr => ?_
  have hu := hr.units
  have hv := hv_of hr
  exact ⟨_, ((ss_cons (s_setL 1 sc_rows_of.nd (sl_lst sa_nil))
    (ss_cons (s_set 2 sc_rows_of.nd se_str)
    (ss_cons (s_for PassesOwn.never rfl (si_str (se_var 0)) (pg_name (i := 3) sc_rows_of.nd rfl (by first | exact Or.inl rfl | exact Or.inr rfl)) (tg1_ok 3) (ss_one (s_if (st_cmp eq2_s (op_eq2 hu) (sb_var 3) (x_eb se_str) (nomark _)) (ss_cons (s_app 1 (se_call (ok_lrow_of T) hr (x_ac (se_var 2) sa_nil)) (by exact (ps_expr (pe_bm PySem.F.plainAttrs_list PySem.F.slot_list_append PySem.F.type_list_append mt_append (pv 1) (pa_cons (x_pe (K := K) (se_call (ok_lrow_of T) hr (x_ac (se_var 2) sa_nil))) pa_nil)))))
    (ss_one (s_set 2 sc_rows_of.nd se_str))) (ss_one (s_set 2 sc_rows_of.nd (se_add (sb_var 2) (sb_var 3)))))))
    (ss_cons (s_if (x_wt (sw_or (st_cmp ne2_s (op_ne2 hu) (sb_var 2) (x_eb se_str) (nomark _)) (sw_or1 (st_cmp in2_s (op_in2 hv) (x_eb se_none) (sb_var 1) (by rfl))))) (ss_one (s_ret se_none)) ss_nil)
    (ss_one (s_ret (se_var 1))))))))⟩

end
end RK
namespace RK
open PySem PySem.Spec PyProof.Rows L2 RT
section
variable {P : Program} {w : World} {K : PySem.W.Frag} {mg : Str → Option Value} {base : Heap}
abbrev N_row_of : List Str := ["line", "words", "word"]
theorem sc_row_of : FnScope N_row_of ["line"] (defScope s_row_of) := ⟨rfl, rfl, rfl, by decide +kernel, rfl, by decide +kernel, by decide +kernel⟩
def b_row_of : SS := (sSeq (sSetL 1 (lOp gSplit (eVarB 0) (eC (.str " "))))
  (sSeq (sIf (bF (eOp gNe (eCall gLen (eCons (eVarB 1) eNil)) (eC (.int 3)))) (sEx "BadLine") sNext)
  (sSeq (sFrz (sFor (iL (eVar 1)) (tg1 2) (sIf (tNotF (bF (eCall F_is_name (eCons (eVar 2) eNil)))) (sEx "BadLine") sNext)))
  (sRet (eTupD (eCons (eOp gIx (eVarB 1) (eC (.int 0))) (eCons (eOp gIx (eVarB 1) (eC (.int 1))) (eCons (eOp gIx (eVarB 1) (eC (.int 2))) eNil))))))))
def F_row_of : List PyData → Res := runX N_row_of 1 b_row_of
theorem pxn_row_of (T : Txt K mg) : PFXN P w K mg base 2 "row_of" F_row_of := by
  obtain ⟨fd, F⟩ := T.f_row_of
  refine pfxN_mk (k := 1) (ps := ["line"]) F sc_row_of T.g_row_of (fun _ _ _ _ _ _ us hl => match us, hl with | [_], _ => rfl) fun cdv A outer s H E hr => ?_
  have hu := hr.units
  have hv := hv_of hr
  have tk := L2N.takes_of (X := cxOf (L2N.CX P w) P w K mg base N_row_of "row_of" (defScope s_row_of) (He.ga K "row_of") cdv A outer s H E) (E := E) rfl rfl rfl rfl
  exact ⟨_, ss_cons (s_setL 1 sc_row_of.nd (sl_split (sb_var 0) (x_eb se_str)))
    (ss_cons (s_if (st_cmp ne2_s (op_ne2 hu) (x_eb (se_cb len_s call_len T.z_len (x_abc (sb_var 1) sab_nil))) (x_eb se_int) (nomark _)) (ss_one (sN_raise rfl tk T.e_BadLine)) ss_nil)
    (ss_cons (s_frz (s_for (passes_of rfl) rfl (si_list (se_var 1)) (pg_name (i := 2) sc_row_of.nd rfl (by first | exact Or.inl rfl | exact Or.inr rfl)) (tg1_ok 2) (ss_one (s_if (st_not (st_val (se_call (ok_is_name T) hr (x_ac (se_var 2) sa_nil)))) (ss_one (sN_raise rfl tk T.e_BadLine)) ss_nil))))
    (ss_one (s_ret (se_tup (x_ac (se_ix (sb_var 1) (x_eb se_int)) (x_ac (se_ix (sb_var 1) (x_eb se_int)) (x_ac (se_ix (sb_var 1) (x_eb se_int)) sa_nil))))))))⟩
theorem ph_is_name (T : Txt K mg) : PFH P w K mg base 1 "is_name" F_is_name := by
  obtain ⟨fd, F⟩ := T.f_is_name
  refine pfh_mk (k := 0) (ps := ["text"]) F sc_is_name T.g_is_name (fun _ _ _ _ _ _ us hl => match us, hl with | [_], _ => rfl) fun cdv A outer s H E p hot hr => ?_
  have hu := RoomH.units hr
  have hv := RoomH.hv hr
  exact ⟨_, ((ss_cons (s_if (st_not (st_chain le_s op_le le_s op_le (x_eb se_int) (x_eb (se_cb len_s call_len T.z_len (x_abc (sb_var 0) sab_nil))) (x_eb (se_globI T.c_MOST)))) (ss_one (s_ret se_bool)) ss_nil)
    (ss_cons (s_forH PassesOwn.never hot (si_strH (se_var 0)) (pg_name (i := 1) sc_is_name.nd rfl (by first | exact Or.inl rfl | exact Or.inr rfl)) (tg1_ok 1) (ss_one (s_if (st_cmp notIn2_s (op_notIn2 hv) (sb_var 1) (x_eb (se_globS T.c_SIGNS)) (by rfl)) (ss_one (s_ret se_bool)) ss_nil)))
    (ss_one (s_ret se_bool)))))⟩
theorem pxh_row_of (T : Txt K mg) : PFXH P w K mg base 2 "row_of" F_row_of := by
  obtain ⟨fd, F⟩ := T.f_row_of
  refine pfxh_mk (k := 1) (ps := ["line"]) F sc_row_of T.g_row_of (fun _ _ _ _ _ _ us hl => match us, hl with | [_], _ => rfl) fun cdv A outer s H E p hot hr => ?_
  have hu := RoomH.units hr
  have hv := RoomH.hv hr
  have tk := takes_of (X := L2H.cxH (L2.CX P w) P w K mg base N_row_of "row_of" (defScope s_row_of) (He.ga K "row_of") cdv A outer s H E p) (E := E) rfl rfl rfl rfl
  exact ⟨_, ss_cons (s_setL 1 sc_row_of.nd (sl_split (sb_var 0) (x_eb se_str)))
    (ss_cons (s_if (st_cmp ne2_s (op_ne2 hu) (x_eb (se_cb len_s call_len T.z_len (x_abc (sb_var 1) sab_nil))) (x_eb se_int) (nomark _)) (ss_one (sH_raise hot tk T.e_BadLine)) ss_nil)
    (ss_cons (s_frz (s_forH (passes_of rfl) hot (si_listH (se_var 1)) (pg_name (i := 2) sc_row_of.nd rfl (by first | exact Or.inl rfl | exact Or.inr rfl)) (tg1_ok 2) (ss_one (s_if (st_not (st_val (se_callH (ph_is_name T) hr hot (x_ac (se_var 2) sa_nil)))) (ss_one (sH_raise hot tk T.e_BadLine)) ss_nil))))
    (ss_one (s_ret (se_tup (x_ac (se_ix (sb_var 1) (x_eb se_int)) (x_ac (se_ix (sb_var 1) (x_eb se_int)) (x_ac (se_ix (sb_var 1) (x_eb se_int)) sa_nil))))))))⟩
end
end RK
namespace RK
open PySem PySem.Spec PyProof.Rows L2 RT
section
variable {P : Program} {w : World} {K : PySem.W.Frag} {mg : Str → Option Value} {base : Heap}
abbrev N_read : List Str := ["text", "line"]
theorem sc_read : FnScope N_read ["text"] (defScope s_read) := ⟨rfl, rfl, rfl, by decide +kernel, rfl, by decide +kernel, by decide +kernel⟩
def b_read : SS := (sSeq (sIf (bF (eOp gEq (eVarB 0) (eC (.str "")))) (sRet (eList (eLstD eNil))) sNext)
  (sSeq (sIf (bF (eOp gNe (eOp gIx (eVarB 0) (eUn gNeg (eC (.int 1)))) (eC (.str "\n")))) (sEx "BadLine") sNext)
  (sRetX (xLc (iL (eList (lOp gSplit (eSlS (eVarB 0) oNone (oSome (eUn gNeg (eC (.int 1))))) (eC (.str "\n"))))) 1 (xCall F_row_of (eCons (eVar 1) eNil))))))
def F_read : List PyData → Res := runX N_read 1 b_read
theorem pxn_read (T : Txt K mg) : PFXN P w K mg base 3 "read" F_read := by
  obtain ⟨fd, F⟩ := T.f_read
  obtain ⟨fr, fdr, psr, G1, G2, G3, G4⟩ := (pxn_row_of (P := P) (w := w) (base := base) T).ex
  refine pfxN_mk (k := 2) (ps := ["text"]) F sc_read T.g_read (fun _ _ _ _ _ _ us hl => match us, hl with | [_], _ => rfl) fun cdv A outer s H E hr => ?_
  have hu := hr.units
  have hv := hv_of hr
  have tk := L2N.takes_of (X := cxOf (L2N.CX P w) P w K mg base N_read "read" (defScope s_read) (He.ga K "read") cdv A outer s H E) (E := E) rfl rfl rfl rfl
  exact ⟨_, ss_cons (s_if (st_cmp eq2_s (op_eq2 hu) (sb_var 0) (x_eb se_str) (nomark _)) (ss_one (s_ret (x_le (sl_lst sa_nil)))) ss_nil)
    (ss_cons (s_if (st_cmp ne2_s (op_ne2 hu) (x_eb (se_ix (sb_var 0) (x_eb (se_neg (x_eb se_int))))) (x_eb se_str) (nomark _)) (ss_one (sN_raise rfl tk T.e_BadLine)) ss_nil)
    (ss_one (s_retX (sxN_lc (tv := fun V => tCall (spX K F_row_of) [] V (tCons (tVar 1) tNil)) tk rfl rfl rfl sc_read.nd (si_listB (x_eb (x_le (sl_split (x_eb (se_slS (sb_var 0) so_none (so_some (x_eb (se_neg (x_eb se_int)))))) (x_eb se_str)))))
      (blkOk_by (N := N_read) (sc := defScope s_read) (own := [("line", 1)]) (by decide +kernel)) (callV_ok (cons_ok (var_ok 1) nil_ok))
      (fun V E' _ _ _ _ _ hp => pe_call G1 hr (by rfl) G2 G3 G4 .nil hp (pa_cons (pv 1) pa_nil))
      (fun _ _ _ _ _ _ => pg_name sc_read.nd rfl (Or.inl rfl))))))⟩
theorem pxh_read (T : Txt K mg) : PFXH P w K mg base 3 "read" F_read := by
  obtain ⟨fd, F⟩ := T.f_read
  obtain ⟨fr, fdr, psr, G1, G2, G3, G4⟩ := (pxh_row_of (P := P) (w := w) (base := base) T).ex
  refine pfxh_mk (k := 2) (ps := ["text"]) F sc_read T.g_read (fun _ _ _ _ _ _ us hl => match us, hl with | [_], _ => rfl) fun cdv A outer s H E p hot hr => ?_
  have hu := RoomH.units hr
  have hv := RoomH.hv hr
  have tk := takes_of (X := L2H.cxH (L2.CX P w) P w K mg base N_read "read" (defScope s_read) (He.ga K "read") cdv A outer s H E p) (E := E) rfl rfl rfl rfl
  exact ⟨_, ss_cons (s_if (st_cmp eq2_s (op_eq2 hu) (sb_var 0) (x_eb se_str) (nomark _)) (ss_one (s_ret (x_le (sl_lst sa_nil)))) ss_nil)
    (ss_cons (s_if (st_cmp ne2_s (op_ne2 hu) (x_eb (se_ix (sb_var 0) (x_eb (se_neg (x_eb se_int))))) (x_eb se_str) (nomark _)) (ss_one (sH_raise hot tk T.e_BadLine)) ss_nil)
    (ss_one (s_retX (sxH_lc (tv := fun V => tCallS (spX K F_row_of) (fun _ => V) (tCons (tVar 1) tNil)) tk rfl rfl hot sc_read.nd (si_listBH (x_eb (x_le (sl_split (x_eb (se_slS (sb_var 0) so_none (so_some (x_eb (se_neg (x_eb se_int)))))) (x_eb se_str)))))
      (blkOk_by (N := N_read) (sc := defScope s_read) (own := [("line", 1)]) (by decide +kernel)) (callVS_ok (cons_ok (var_ok 1) nil_ok))
      (fun V E' _ _ _ _ _ hp => L2H.pe_callH G1 hr hot (by rfl) G2 G3 G4 hp (pa_cons (pv 1) pa_nil))
      (fun _ _ _ _ _ _ => pg_name sc_read.nd rfl (Or.inl rfl))))))⟩
end
end RK
namespace RK
open PySem PySem.Spec PyProof.Rows L2 RT
section
variable {P : Program} {w : World} {K : PySem.W.Frag} {mg : Str → Option Value} {base : Heap}
def F_refused_by_any : List PyData → Option PyData := fun ds => match F_read ds with
  | .exc c => if c = "BadLine" then some (.bool true) else none
  | .ret _ => some (.bool false)
  | .no => none
abbrev N_refused : List Str := ["_law_text", "e", "_law_other"]
theorem sc_refused : FnScope N_refused ["_law_text"] (defScope s_refused_by_any) := ⟨rfl, rfl, rfl, by decide +kernel, rfl, by decide +kernel, by decide +kernel⟩
theorem read_len {ds : List PyData} {d : PyData} (h : F_refused_by_any ds = some d) : ds.length = 1 := by
  unfold F_refused_by_any at h
  have : (F_read ds).goes (fun _ => True) (fun _ => True) := by
    cases e : F_read ds with
    | no => rw [e] at h; cases h
    | ret _ => trivial
    | exc _ => trivial
  exact runX_len this
theorem hotIn {X : Cx} {pn : List (Addr × Obj)} {xe : Value → Shared → Prop} (h : L2H.HotC X) (sub : ∀ q ∈ X.pn, q ∈ pn) : L2H.HotC (X.tr pn xe) := by
  obtain ⟨p, h1, h2⟩ := h
  exact ⟨p, h1, sub p h2⟩
open Classical in
theorem ph_refused_by_any (T : Txt K mg) : PFH P w K mg base 4 "_law_refused_by_any" F_refused_by_any := by
  obtain ⟨fd, F⟩ := T.f_refused_by_any
  obtain ⟨fr, fdr, psr, G1, G2, G3, G4⟩ := (pxh_read (P := P) (w := w) (base := base) T).ex
  refine ⟨_, fd, ["_law_text"], ?_, T.g_refused_by_any, F.kp, F.bindsN fun _ _ _ _ _ _ us hl => match us, hl with | [_], _ => rfl⟩
  refine funH_ok F sc_refused (fun vs H Q E h => ?_) (fun cdv A outer s H vs Q E p hot hr h => ?_)
  · obtain ⟨G, ds, d, _, hR, hF, _⟩ := h
    rw [hR.len]; exact read_len hF
  · obtain ⟨G, ds, d, e, hR, hF, q⟩ := h
    obtain ⟨d0, rfl⟩ : ∃ d0, ds = [d0] := by
      have := read_len hF
      match ds, this with
      | [d0], _ => exact ⟨d0, rfl⟩
    obtain ⟨v1, rfl, r1⟩ := hR.one
    refine ⟨_, PSs.nox (pss_cons (L2H.ps_try_asH (i := 1) (tb := fun W => tDrop (tCallS (spX K F_read) (WE W) (tCons (tVar 0) tNil)))
      (ts := fun a' cls d => if cls = .ref (He.ga K "BadLine") ∧ d = none then tSeq (tAsg (tCB (rIsET K (He.ga K "BadLine") a') (tCons (tVar 1) (tCons (tTup (tCons (tC (.ref (He.ga K "BadName"))) (tCons (tC (.ref (He.ga K "BadStretch"))) (tCons (tC (.ref (He.ga K "BadCount"))) (tCons (tC (.ref (He.ga K "Twice"))) (tCons (tC (.ref (He.ga K "Missing"))) tNil)))))) tNil))) (gName 2))
        (tRet (tAndV (tCB (rIsE K (He.ga K "BadLine") a') (tCons (tVar 1) (tCons (tC (.ty "ValueError")) tNil))) (tAndV (tCB (rIsE K (He.ga K "BadLine") a') (tCons (tVar 1) (tCons (tC (.ref (He.ga K "BadLine"))) tNil))) (tNotV (tVar 2))))) else tNever) (Wout := fun _ _ _ _ => False)
      rfl rfl sc_refused.nd rfl rfl ⟨by rfl, by decide, .inl T.gh_RotaError⟩ takes0
      (fun W pn xe sub tk _ => pss_one (ps_expr (L2H.pe_callH G1 hr (hotIn hot sub) (by rfl) G2 G3 G4 (passAt tk) (pa_cons (pv 0) pa_nil)) rfl))
      (fun a' oe cls d pn hz hf => ?_))
      (pss_one (ps_ret pe_bl))), ?_⟩
    · by_cases hcd : cls = .ref (He.ga K "BadLine") ∧ d = none
      · obtain ⟨rfl, rfl⟩ := hcd
        rw [if_pos ⟨rfl, rfl⟩]
        exact pss_cons (ps_set (i := 2) sc_refused.nd rfl (Or.inl rfl) (pe_callB (call_isET T.xe hz hf) (by rfl) T.z_isinstance (by decide +kernel) (pa_cons (pv 1) (pa_cons (pe_tup (pa_cons (pe_glob (by rfl) T.gl_BadName rfl (by decide)) (pa_cons (pe_glob (by rfl) T.gl_BadStretch rfl (by decide)) (pa_cons (pe_glob (by rfl) T.gl_BadCount rfl (by decide)) (pa_cons (pe_glob (by rfl) T.gl_Twice rfl (by decide)) (pa_cons (pe_glob (by rfl) T.gl_Missing rfl (by decide)) pa_nil)))))) pa_nil))))
          (pss_one (ps_ret (pe_and (pe_callB (call_isE T.xe hz hf) (by rfl) T.z_isinstance (by decide +kernel) (pa_cons (pv 1) (pa_cons (pe_bltn (by rfl) T.z_ValueError (by decide +kernel) rfl (by decide) (by decide)) pa_nil)))
            (pe_and (pe_callB (call_isE T.xe hz hf) (by rfl) T.z_isinstance (by decide +kernel) (pa_cons (pv 1) (pa_cons (pe_glob (by rfl) T.e_BadLine.g rfl (by decide)) pa_nil))) (pe_one (pe_not (pv 2)))))))
      · rw [if_neg hcd]
        exact pss_never
    · refine ⟨_, rfl, G, [d0], e, .cons r1 .nil, ?_⟩
      unfold F_refused_by_any at hF
      cases hm : F_read [d0] with
      | no => rw [hm] at hF; cases hF
      | ret d' =>
        rw [hm] at hF
        cases hF
        exact fun v H' G' g _ => q _ H' G' g (rp_bool _)
      | exc c =>
        rw [hm] at hF
        simp only at hF
        split at hF
        · rename_i hc
          subst hc
          cases hF
          intro H' G' g
          refine ⟨true, T.x_BadLine_RotaError, fun _ a' ha' => ?_, fun z => Bool.noConfusion z⟩
          show (if Value.ref (He.ga K "BadLine") = .ref (He.ga K "BadLine") ∧ (none : Option Addr) = none then _ else _ : TS) _ _ _
          rw [if_pos ⟨rfl, rfl⟩]
          refine ⟨_, rfl, by show 5 ≤ sizeLine; decide, fun tp htp => ?_⟩
          refine ⟨tp, [He.ga K "BadName", He.ga K "BadStretch", He.ga K "BadCount", He.ga K "Twice", He.ga K "Missing"], false, rfl, upd_same, T.ka, ?_⟩
          refine ⟨_, rfl, .ty "ValueError", .type "ValueError", true, rfl, fun u r => r, T.kv, _, rfl, ?_⟩
          refine iteT ?_
          refine ⟨_, rfl, .ref (He.ga K "BadLine"), .ref (He.ga K "BadLine"), true, rfl, fun u r => r, T.ks, _, rfl, ?_⟩
          refine iteT ?_
          refine ⟨_, rfl, _, rfl, ?_⟩
          exact q _ _ G' (g.beside htp) (rp_bool _)
        · cases hF
end
end RK
namespace RK
open PySem PySem.Spec PyProof.Rows L2 RT
def csBadLine : Str → Option Bool := fun c => if c = "BadLine" then some true else none
theorem csBadLine_ok {K : PySem.W.Frag} {mg : Str → Option Value} (T : Txt K mg) (c : Str) (b : Bool) (h : csBadLine c = some b) : PySem.W.exmOne K (.ref (He.ga K c)) (.ref (He.ga K "BadLine")) = some b := by
  unfold csBadLine at h
  split at h
  · rename_i e; subst e; cases h; exact T.x_BadLine_BadLine
  · cases h
theorem roomMark {k : Nat} {A : Around} (r : Room k A) (h : Option Value) : L2H.RoomH k (A.mark h) := ⟨r.dp, r.un⟩
noncomputable section
variable {P : Program} {w : World} {K : PySem.W.Frag} {mg : Str → Option Value} {base : Heap}
abbrev N_law : List Str := ["_law_script", "_law_text", "_law_k", "_law_cell_here", "_law_names", "_law_way", "_law_due", "_law_found", "_law_row"]
theorem sc_law : FnScope N_law ["_law_script"] (defScope s_law) := ⟨rfl, rfl, rfl, by decide +kernel, rfl, by decide +kernel, by decide +kernel⟩
def b_law : SS := (sSeq (sSet 1 (eC (.str "")))
  (sSeq (sFor (iR1 (eCons (eOp gMod (eCall F_cell (eCons (eVar 0) (eCons (eC (.int 0)) eNil))) (eC (.int 5))) eNil)) (tg1 2) (sSeq (sSet 3 (eCall F_cell (eCons (eVar 0) (eCons (eOp gAdd (eC (.int 1)) (eVarB 2)) eNil))))
  (sSeq (sSet 4 (eList (eLstD (eCons (eCall F_name_by (eCons (eVar 3) (eCons (eVar 3) eNil))) (eCons (eCall F_name_by (eCons (eOp gFdiv (eVarB 3) (eC (.int 93))) (eCons (eOp gFdiv (eVarB 3) (eC (.int 7))) eNil))) (eCons (eCall F_name_by (eCons (eOp gFdiv (eVarB 3) (eC (.int 8649))) (eCons (eOp gFdiv (eVarB 3) (eC (.int 49))) eNil))) eNil))))))
  (sSet 1 (eOp gAdd (eOp gAdd (eVarB 1) (eOp gJoin (eC (.str " ")) (eVarB 4))) (eC (.str "\n")))))))
  (sSeq (sSet 5 (eOp gMod (eOp gFdiv (eCall F_cell (eCons (eVar 0) (eCons (eC (.int 0)) eNil))) (eC (.int 5))) (eC (.int 4))))
  (sSeq (sIf (bF (eOp gGt (eVarB 5) (eC (.int 0)))) (sSet 1 (eCall F_changed (eCons (eVar 1) (eCons (eVar 5) (eCons (eCall F_cell (eCons (eVar 0) (eCons (eC (.int 6)) eNil))) (eCons (eCall F_cell (eCons (eVar 0) (eCons (eC (.int 7)) eNil))) eNil)))))) sNext)
  (sSeq (sSet 6 (eCall F_rows_of (eCons (eVar 1) eNil)))
  (sSeq (sSet 7 (eC .none))
  (sSeq (sTry (sSetX 7 (xCall F_read (eCons (eVar 1) eNil))) csBadLine (sRet (eAndF (eOp gIs (eVarB 6) (eC .none)) (eCall F_refused_by_any (eCons (eVar 1) eNil)))))
  (sSeq (sIf (tOrF (bF (eOp gIs (eVarB 6) (eC .none))) (tNotF (bF (eIsi .list (eVarB 7))))) (sRet (eC (.bool false))) sNext)
  (sRet (eAndF (eOp gEq (eVarB 7) (eVarB 6)) (eOp gEq (eList (lLc (iL (eVarB 7)) 8 (tNotF (bF (eIsi .tuple (eVarB 8)))) (eC (.int 1)))) (eList (eLstD eNil)))))))))))))
def F_law : List PyData → Option PyData := runF N_law 1 b_law
theorem okf_law (T : Txt K mg) {f : Addr} {fd : FuncData} (F : FunD K "law" "law" (defArgs s_law) (defBody s_law) (defScope s_law) [] [] f fd) : FnOk P w K mg base CX0 5 f fd ["_law_script"] (spPure K F_law) := by
  refine fn_mk (k := 4) F sc_law fun cdv A outer s H E hr => ?_
  have hu := hr.units
  have hv := hv_of hr
  exact ⟨_, ((ss_cons (s_set 1 sc_law.nd se_str)
    (ss_cons (s_for PassesOwn.never rfl (si_range1 T.z_range (x_abc (x_eb (se_mod (x_eb (se_call (ok_cell T) hr (x_ac (se_var 0) (x_ac se_int sa_nil)))) (x_eb se_int))) sab_nil)) (pg_name (i := 2) sc_law.nd rfl (by first | exact Or.inl rfl | exact Or.inr rfl)) (tg1_ok 2) (ss_cons (s_set 3 sc_law.nd (se_call (ok_cell T) hr (x_ac (se_var 0) (x_ac (se_add (x_eb se_int) (sb_var 2)) sa_nil))))
    (ss_cons (s_set 4 sc_law.nd (x_le (sl_lst (x_ac (se_call (ok_name_by T) hr (x_ac (se_var 3) (x_ac (se_var 3) sa_nil))) (x_ac (se_call (ok_name_by T) hr (x_ac (se_fdiv (sb_var 3) (x_eb se_int)) (x_ac (se_fdiv (sb_var 3) (x_eb se_int)) sa_nil))) (x_ac (se_call (ok_name_by T) hr (x_ac (se_fdiv (sb_var 3) (x_eb se_int)) (x_ac (se_fdiv (sb_var 3) (x_eb se_int)) sa_nil))) sa_nil))))))
    (ss_one (s_set 1 sc_law.nd (se_add (x_eb (se_add (sb_var 1) (x_eb (se_join (x_eb se_str) (sb_var 4))))) (x_eb se_str)))))))
    (ss_cons (s_set 5 sc_law.nd (se_mod (x_eb (se_fdiv (x_eb (se_call (ok_cell T) hr (x_ac (se_var 0) (x_ac se_int sa_nil)))) (x_eb se_int))) (x_eb se_int)))
    (ss_cons (s_if (st_cmp gt_s op_gt (sb_var 5) (x_eb se_int) (nomark _)) (ss_one (s_set 1 sc_law.nd (se_call (ok_changed T) hr (x_ac (se_var 1) (x_ac (se_var 5) (x_ac (se_call (ok_cell T) hr (x_ac (se_var 0) (x_ac se_int sa_nil))) (x_ac (se_call (ok_cell T) hr (x_ac (se_var 0) (x_ac se_int sa_nil))) sa_nil))))))) ss_nil)
    (ss_cons (s_set 6 sc_law.nd (se_call (ok_rows_of T) hr (x_ac (se_var 1) sa_nil)))
    (ss_cons (s_set 7 sc_law.nd se_none)
    (ss_cons (sN_try (cs := csBadLine) (y := "BadLine") rfl rfl ⟨by rfl, by decide, .inl T.gh_BadLine⟩ (fun _ => PassesOwnAt.never) takes0 (csBadLine_ok T) (fun w' pn xe tk => (ss_one (s_setX 7 sc_law.nd (sxN_call (pxn_read T) tk hr (x_ac (se_var 1) sa_nil))))) (fun a q pn hot => (ss_one (s_ret (se_and (se_cmp is_s op_isP (sb_var 6) (x_eb se_none) (nomark _)) (se_one (se_callH (ph_refused_by_any T) (roomMark hr _) hot (x_ac (se_var 1) sa_nil))))))))
    (ss_cons (s_if (x_wt (sw_or (st_cmp is_s op_isP (sb_var 6) (x_eb se_none) (nomark _)) (sw_or1 (st_not (st_val (se_isi .list T.z_isinstance T.z_list (sb_var 7))))))) (ss_one (s_ret se_bool)) ss_nil)
    (ss_one (s_ret (se_and (se_cmp eq2_s (op_eq2 hu) (sb_var 7) (sb_var 6) (nomark _)) (se_one (se_cmp eq2_s (op_eq2 hu) (x_eb (x_le (sl_lc (j := 8) rfl sc_law.nd rfl (si_listB (sb_var 7)) (blkOk_by (N := N_law) (sc := defScope s_law) (own := [("_law_row", 8)]) (by decide +kernel)) (fun _ _ _ _ _ => (sts_one (st_not (st_val (se_isi .tuple T.z_isinstance T.z_tuple (sb_var 8)))))) (fun _ _ _ _ _ => se_int) (fun _ _ _ _ _ => pg_name sc_law.nd rfl (Or.inl rfl))))) (x_eb (x_le (sl_lst sa_nil))) (nomark _)))))))))))))))⟩
end
end RK
namespace RK
open PySem PySem.Spec PyProof.Rows L2 RT
theorem F_cell_eq (ns : List Int) (k : Nat) : F_cell [scrD ns, .int (k : Nat)] = some (.int (cell ns k)) := by
  have h := cell_ev ns k
  unfold F_cell
  rw [runF_eq]
  simp [b_cell, rho0, scrD, lSl, oSome, cutA_one] at h ⊢
  rw [h]
  rfl
def sg1 : Str := "!\"#$&'()*+,-./0123456789:;<=>?"
def sg2 : Str := "@ABCDEFGHIJKLMNOPQRSTUVWXYZ[\\]^_`"
def sg3 : Str := "abcdefghijklmnopqrstuvwxyz{|}~"
def sgs : Str := sg1 ++ sg2 ++ sg3
theorem sgs_len : sgs.length = 93 := by decide +kernel
theorem sg1_len : sg1.length = 30 := by decide +kernel
theorem sg2_len : sg2.length = 33 := by decide +kernel
theorem sg3_len : sg3.length = 30 := by decide +kernel
def sg (c : Int) : Nat := (sgs.cps.toList[(c % 93).toNat]?).getD 0
theorem sg_at (c : Int) : atI sgs.cps.toList (c % 93) = some (sg c) ∧ sg c ∈ sgs.cps.toList := by
  have hl : sgs.cps.toList.length = 93 := by
    have h := sgs_len
    simpa [Str.length] using h
  obtain ⟨x, h1, h2⟩ := atI_mod sgs.cps.toList c 93 (by rw [hl]; rfl) (by decide)
  have e : sg c = x := by
    rw [atI_pos _ _ (Int.emod_nonneg _ (by decide))] at h2
    unfold sg
    rw [h2]; rfl
  rw [e]
  exact ⟨h2, h1⟩
theorem F_sign_eq (c : Int) : F_sign [.int c] = some (.str ⟨#[sg c]⟩) := by
  have e1 : gAdd (.str sg1) (.str sg2) = some (.str (sg1 ++ sg2)) := by
    rw [gAdd_strE, if_pos (by rw [sg1_len, sg2_len]; decide)]
  have e2 : gAdd (.str (sg1 ++ sg2)) (.str sg3) = some (.str sgs) := by
    rw [gAdd_strE, if_pos (by decide +kernel)]
    rfl
  have e3 : gIx (.str sgs) (.int (c % 93)) = some (.str ⟨#[sg c]⟩) := by
    rw [gIx_str _ _ (by rw [sgs_len]; decide), (sg_at c).1]
    rfl
  unfold F_sign
  rw [runF_eq]
  simp [b_sign, rho0]
  rw [show ("!\"#$&'()*+,-./0123456789:;<=>?" : Str) = sg1 from rfl, show ("@ABCDEFGHIJKLMNOPQRSTUVWXYZ[\\]^_`" : Str) = sg2 from rfl, show ("abcdefghijklmnopqrstuvwxyz{|}~" : Str) = sg3 from rfl, e1]
  simp [e2, e3]
def SGN : Str := "!\"#$&'()*+,-./0123456789:;<=>?@ABCDEFGHIJKLMNOPQRSTUVWXYZ[\\]^_`abcdefghijklmnopqrstuvwxyz{|}~"
/-- whether a text is a name -/
def isName (z : Str) : Bool := decide (1 ≤ z.length) && decide (z.length ≤ 20) && z.cps.toList.all fun c => decide (c ∈ SGN.cps.toList)
theorem gNotIn_sign (c : Nat) (z : Str) : gNotIn (.str ⟨#[c]⟩) (.str z) = some (.bool (!decide (c ∈ z.cps.toList))) := rfl
theorem F_is_name_eq (z : Str) (hz : z.length ≤ LIM) : F_is_name [.str z] = some (.bool (isName z)) := by
  unfold F_is_name
  rw [runF_eq]
  obtain ⟨s', r', e⟩ := forF_find0 (j := 1) (ρ := [.val (.str z), .no]) (r := .bool false) (body := (sIf (bF (eOp gNotIn (eVarB 1) (eC (.str "!\"#$&'()*+,-./0123456789:;<=>?@ABCDEFGHIJKLMNOPQRSTUVWXYZ[\\]^_`abcdefghijklmnopqrstuvwxyz{|}~")))) (sRet (eC (.bool false))) sNext))
    (fun d => match d with | .str x => !x.cps.toList.all fun c => decide (c ∈ SGN.cps.toList) | _ => true) (ds := signsD z) (by simp) (fun d hd => by
      obtain ⟨c, _, rfl⟩ := mem_signsD hd
      rw [show ("!\"#$&'()*+,-./0123456789:;<=>?@ABCDEFGHIJKLMNOPQRSTUVWXYZ[\\]^_`abcdefghijklmnopqrstuvwxyz{|}~" : Str) = SGN from rfl]
      simp [gNotIn_sign])
  have e2 : ((signsD z).any fun d => match d with | .str x => !x.cps.toList.all fun c => decide (c ∈ SGN.cps.toList) | _ => true) = !z.cps.toList.all fun c => decide (c ∈ SGN.cps.toList) := by
    unfold signsD
    rw [List.any_map, List.all_eq_not_any_not, Bool.not_not]
    congr 1
    funext c
    simp
  rw [e2] at e
  unfold isName
  generalize (z.cps.toList.all fun c => decide (c ∈ SGN.cps.toList)) = b at e ⊢
  simp [b_is_name, rho0, N_is_name, sgD_str z hz, hz, e]
  cases b <;> simp <;> (repeat' split) <;> simp_all <;> omega
/-! joined signs -/
theorem join_ones : ∀ cs : List Nat, Txt.join "" (cs.map fun c => (⟨#[c]⟩ : Str)) = ⟨cs.toArray⟩ := by
  intro cs
  rw [TL.join_eq]
  have h : ∀ cs : List Nat, (Str.join "" (cs.map fun c => (⟨#[c]⟩ : Str))).cps.toList = cs := by
    intro cs
    induction cs with
    | nil => rfl
    | cons c r ih =>
      cases r with
      | nil => rfl
      | cons d r =>
        show ((⟨#[c]⟩ : Str) ++ "" ++ Str.join "" ((d :: r).map fun c => (⟨#[c]⟩ : Str))).cps.toList = _
        have e : ∀ x y : Str, (x ++ y).cps.toList = x.cps.toList ++ y.cps.toList := fun x y => by
          show (x.cps ++ y.cps).toList = _
          simp
        rw [e, e, ih]
        rfl
  have e := h cs
  cases hh : Str.join "" (cs.map fun c => (⟨#[c]⟩ : Str)) with
  | mk a =>
    rw [hh] at e
    rw [← e]

theorem sg_mem (c : Int) : sg c ∈ SGN.cps.toList := by
  have h := (sg_at c).2
  rw [show SGN.cps.toList = sgs.cps.toList from by decide +kernel]
  exact h
theorem isName_codes (cs : List Nat) : isName ⟨cs.toArray⟩ = (decide (1 ≤ cs.length) && decide (cs.length ≤ 20) && cs.all fun c => decide (c ∈ SGN.cps.toList)) := by
  simp [isName, Str.length]
theorem gJoin_ones (cs : List Nat) (h : cs.length ≤ LIM) : gJoin (.str "") (.list (cs.map fun c => PyData.str ⟨#[c]⟩)) = some (.str ⟨cs.toArray⟩) := by
  have e := gJoin_strs "" (cs.map fun c => (⟨#[c]⟩ : Str)) (by
    rw [List.map_map]
    have : ((cs.map ((·.length) ∘ fun c => (⟨#[c]⟩ : Str))).sum) = cs.length := by
      induction cs with
      | nil => rfl
      | cons c r ih => 
        have := ih (by simp at h ⊢; omega)
        simp [Str.length] at this ⊢
        omega
    rw [this]
    simpa [Str.length, show (Str.ofString "").cps.size = 0 from rfl] using h)
  rw [join_ones, List.map_map] at e
  exact e
/-! names by a place and a cell -/
def nameC (p c : Int) : List Nat := (List.range (c % 20).toNat).map (fun (k : Nat) => sg (c / 20 + 5 * (k : Int) * (c % 7))) ++ [sg p]
theorem nameC_len (p c : Int) : 1 ≤ (nameC p c).length ∧ (nameC p c).length ≤ 20 := by
  have h1 := Int.emod_nonneg c (show (20 : Int) ≠ 0 by decide)
  have h2 := Int.emod_lt_of_pos c (show (0 : Int) < 20 by decide)
  simp only [nameC, List.length_append, List.length_map, List.length_range, List.length_singleton]
  omega
theorem nameC_mem {p c : Int} {x : Nat} (h : x ∈ nameC p c) : x ∈ SGN.cps.toList := by
  simp only [nameC, List.mem_append, List.mem_map, List.mem_singleton] at h
  rcases h with ⟨i, _, rfl⟩ | rfl <;> exact sg_mem _
theorem SGN_rng {x : Nat} (h : x ∈ SGN.cps.toList) : 33 ≤ x ∧ x ≤ 126 := by
  have : (SGN.cps.toList.all fun x => decide (33 ≤ x) && decide (x ≤ 126)) = true := by decide +kernel
  rw [List.all_eq_true] at this
  simpa using this x h
def nameS (p c : Int) : Str := ⟨(nameC p c).toArray⟩
theorem nameS_ok (p c : Int) : isName (nameS p c) = true := by
  have h := nameC_len p c
  unfold nameS
  rw [isName_codes, decide_eq_true h.1, decide_eq_true h.2, Bool.true_and, Bool.true_and, List.all_eq_true]
  intro x hx
  exact decide_eq_true (nameC_mem hx)
theorem F_name_by_eq (p c : Int) : F_name_by [.int p, .int c] = some (.str (nameS p c)) := by
  have n0 := Int.emod_nonneg c (show (20 : Int) ≠ 0 by decide)
  have n1 := Int.emod_lt_of_pos c (show (0 : Int) < 20 by decide)
  have e : lcF 3 tYesF (eCall F_sign (eCons (eOp gAdd (eOp gFdiv (eVarB 1) (eC (.int 20))) (eOp gMul (eOp gMul (eC (.int 5)) (eVarB 3)) (eOp gMod (eVarB 1) (eC (.int 7))))) eNil)) [.val (.int p), .val (.int c), .no, .no] (rangeD 0 (c % 20).toNat) = some (((List.range (c % 20).toNat).map fun (k : Nat) => sg (c / 20 + 5 * (k : Int) * (c % 7))).map fun c => PyData.str ⟨#[c]⟩) := by
    rw [lcF_map (fun d => match d with | .int i => .str ⟨#[sg (c / 20 + 5 * i * (c % 7))]⟩ | _ => .none)]
    · congr 1
      simp [rangeD]
    · intro d hd
      obtain ⟨i, hi, rfl⟩ := mem_rangeD hd
      have m1 : gMul (.int 5) (.int (0 + (i : Int))) = some (.int (5 * (0 + (i : Int)))) := gMul_int _ _ (cMul_l (by decide))
      have m2 : gMul (.int (5 * (0 + (i : Int)))) (.int (c % 7)) = some (.int (5 * (0 + (i : Int)) * (c % 7))) := gMul_int _ _ (cMul_l (by omega))
      rw [Int.zero_add] at m1 m2 ⊢
      simp [m1, m2, F_sign_eq]
  have gj := gJoin_ones ((List.range (c % 20).toNat).map fun (k : Nat) => sg (c / 20 + 5 * (k : Int) * (c % 7))) (by simp [LIM]; omega)
  have b1 : c % 20 ≤ 1000000 := by omega
  have b2 : -1000000 ≤ c % 20 := by omega
  have b3 : (c % 20).toNat ≤ LIM := by unfold LIM; omega
  have ga : gAdd (.str ⟨((List.range (c % 20).toNat).map fun (k : Nat) => sg (c / 20 + 5 * (k : Int) * (c % 7))).toArray⟩) (.str ⟨#[sg p]⟩) = some (.str (nameS p c)) := by
    rw [gAdd_str]
    · congr 2
      exact SX.S_cat _ _
    · simp [Str.length, LIM]; omega
  unfold F_name_by
  rw [runF_eq]
  simp only [List.map_map] at e gj
  simp [b_name_by, rho0, N_name_by, b1, b2, b3, e, gj, F_sign_eq, ga]
/-! ### a text cut at a sign -/
def cut (c : Nat) (acc : List Nat) : List Nat → List (List Nat)
  | [] => [acc]
  | x :: r => if x = c then acc :: cut c [] r else cut c (acc ++ [x]) r
theorem pre_one (c x : Nat) (r : List Nat) : TL.pre [c] (x :: r) = (c == x) := by
  unfold TL.pre
  simp [TL.pre]
  rw [Bool.eq_iff_iff]
  simp only [beq_iff_eq]
  exact eq_comm
theorem spl_cut (c : Nat) : ∀ (l acc : List Nat), TL.spl [c] 0 acc l = cut c acc l
  | [], acc => TL.spl_nil _ _ _
  | x :: r, acc => by
    unfold cut
    by_cases h : x = c
    · rw [if_pos h, TL.spl_hit (by rw [pre_one, h]; simp)]
      show acc :: TL.spl [c] 0 [] r = _
      rw [spl_cut c r []]
    · rw [if_neg h, TL.spl_miss (by rw [pre_one]; simp; exact fun z => h z.symm)]
      exact spl_cut c r (acc ++ [x])
theorem cut_ne (c : Nat) : ∀ (l acc : List Nat), cut c acc l ≠ []
  | [], acc => by simp [cut]
  | x :: r, acc => by
    unfold cut
    split
    · simp
    · exact cut_ne c r _
theorem cut_len (c : Nat) : ∀ (l acc : List Nat), (cut c acc l).length ≤ l.length + 1
  | [], acc => by simp [cut]
  | x :: r, acc => by
    unfold cut
    split
    · have := cut_len c r []
      simp
      omega
    · have := cut_len c r (acc ++ [x])
      simp
      omega
/-- what the pieces bear -/
theorem cut_mem {c : Nat} {P : Nat → Prop} : ∀ {l acc : List Nat}, (∀ x ∈ acc, x ≠ c ∧ P x) → (∀ x ∈ l, P x) → ∀ p ∈ cut c acc l, p.length ≤ acc.length + l.length ∧ ∀ x ∈ p, x ≠ c ∧ P x
  | [], acc, ha, _, p, hp => by
    simp [cut] at hp
    subst hp
    exact ⟨by simp, ha⟩
  | x :: r, acc, ha, hl, p, hp => by
    unfold cut at hp
    split at hp
    · rcases List.mem_cons.mp hp with rfl | hp
      · exact ⟨by simp, ha⟩
      · obtain ⟨h1, h2⟩ := cut_mem (acc := []) (by simp) (fun y hy => hl y (List.mem_cons_of_mem _ hy)) p hp
        exact ⟨by simp at h1 ⊢; omega, h2⟩
    · rename_i hx
      obtain ⟨h1, h2⟩ := cut_mem (acc := acc ++ [x]) (fun y hy => by
        rcases List.mem_append.mp hy with h | h
        · exact ha y h
        · obtain rfl := List.mem_singleton.mp h
          exact ⟨hx, hl _ List.mem_cons_self⟩) (fun y hy => hl y (List.mem_cons_of_mem _ hy)) p hp
      exact ⟨by simp at h1 ⊢; omega, h2⟩
theorem cut_end (c : Nat) : ∀ (l acc : List Nat), cut c acc (l ++ [c]) = cut c acc l ++ [[]]
  | [], acc => by simp [cut]
  | x :: r, acc => by
    rw [List.cons_append]
    unfold cut
    split
    · rw [cut_end c r []]; rfl
    · exact cut_end c r _
theorem cut_open {c x : Nat} (h : x ≠ c) : ∀ (l acc : List Nat), ∃ ps p, cut c acc (l ++ [x]) = ps ++ [p] ∧ p ≠ []
  | [], acc => ⟨[], acc ++ [x], by simp [cut, h], by simp⟩
  | y :: r, acc => by
    rw [List.cons_append]
    unfold cut
    split
    · obtain ⟨ps, p, e, hp⟩ := cut_open h r []
      exact ⟨acc :: ps, p, by rw [e]; rfl, hp⟩
    · exact cut_open h r _
/-- a row's names -/
def nameP (p : List Nat) : Bool := decide (1 ≤ p.length) && decide (p.length ≤ 20) && !decide (9 ∈ p)
def tupS (a b c : List Nat) : PyData := .tuple [.str (SX.S a), .str (SX.S b), .str (SX.S c)]
def rowQ : List (List Nat) → Option PyData
  | [a, b, c] => if (nameP a && (nameP b && nameP c)) = true then some (tupS a b c) else none
  | _ => none
theorem rowQ_3 (a b c : List Nat) : rowQ [a, b, c] = if (nameP a && (nameP b && nameP c)) = true then some (tupS a b c) else none := rfl
theorem rowQ_no {ps : List (List Nat)} (h : ps.length ≠ 3) : rowQ ps = none := by
  match ps, h with
  | [], _ => rfl
  | [_], _ => rfl
  | [_, _], _ => rfl
  | [_, _, _], h => exact absurd rfl h
  | _ :: _ :: _ :: _ :: _, _ => rfl
def rowP (l : List Nat) : Option PyData := rowQ (cut 32 [] l)
/-- the signs there are -/
def Sgn (x : Nat) : Prop := x ∈ SGN.cps.toList ∨ x = 32 ∨ x = 10 ∨ x = 9
def okT (l : List Nat) : Prop := ∀ x ∈ l, Sgn x
theorem isName_P {p : List Nat} (h : ∀ x ∈ p, x ∈ SGN.cps.toList ∨ x = 9) : isName (SX.S p) = nameP p := by
  show isName ⟨p.toArray⟩ = _
  rw [isName_codes]
  unfold nameP
  congr 1
  rw [Bool.eq_iff_iff]
  simp only [List.all_eq_true, decide_eq_true_eq, Bool.not_eq_true', decide_eq_false_iff_not]
  refine ⟨fun q h9 => ?_, fun q x hx => ?_⟩
  · have := q 9 h9
    have := SGN_rng this
    omega
  · rcases h x hx with h | rfl
    · exact h
    · exact absurd hx q
theorem gAdd_S (a b : List Nat) (h : a.length + b.length ≤ LIM) : gAdd (.str (SX.S a)) (.str (SX.S b)) = some (.str (SX.S (a ++ b))) := by
  rw [gAdd_str _ _ (by rw [SX.S_len, SX.S_len]; exact h), SX.S_cat]
theorem blank_S : (" " : Str) = SX.S [32] := rfl
theorem feed_S : ("\n" : Str) = SX.S [10] := rfl
theorem tab_S : ("\t" : Str) = SX.S [9] := rfl
theorem nil_S : ("" : Str) = SX.S [] := rfl
theorem sp_S (c : Nat) (l : List Nat) (hc : c < 256) (h : l.length + 2 ≤ LIM) : gSplit (.str (SX.S l)) (.str (SX.S [c])) = some ((cut c [] l).map fun p => .str (SX.S p)) := by
  rw [gSplit_str _ _ (by rw [SX.S_len]; simp) (by rw [SX.S_len]; exact h), SX.split_S (by simp) (by simpa using hc), spl_cut, List.map_map]
  rfl
/-! ### the program's row -/
theorem F_is_name_P {p : List Nat} (h : ∀ x ∈ p, x ∈ SGN.cps.toList ∨ x = 9) (hl : p.length ≤ LIM) : F_is_name [.str (SX.S p)] = some (.bool (nameP p)) := by
  rw [F_is_name_eq _ (by rw [SX.S_len]; exact hl), isName_P h]
end RK
namespace RK
open PySem PySem.Spec PyProof.Rows L2 RT
theorem len3 {α : Type} {l : List α} (h : l.length = 3) : ∃ a b c, l = [a, b, c] := by
  match l, h with
  | [a, b, c], _ => exact ⟨a, b, c, rfl⟩
def outX : Out → Res
  | .rt d _ => .ret d
  | .nx _ => .ret .none
  | .ex c _ => .exc c
  | _ => .no
theorem runX_one (N : List Str) (b : SS) (d : PyData) : runX N 1 b [d] = outX (b (rho0 N [d])) := by
  unfold runX outX
  refine (if_pos (show [d].length = 1 from rfl)).trans ?_
  cases b (rho0 N [d]) <;> rfl
def resOf : Option PyData → Res
  | some d => .ret d
  | none => .exc "BadLine"
theorem F_row_of_P {l : List Nat} (h : ∀ x ∈ l, x ∈ SGN.cps.toList ∨ x = 32 ∨ x = 9) (hl : l.length ≤ 1000) : F_row_of [.str (SX.S l)] = resOf (rowP l) := by
  have pc : ∀ p ∈ cut 32 [] l, p.length ≤ 1000 ∧ ∀ x ∈ p, x ∈ SGN.cps.toList ∨ x = 9 := fun p hp => by
    obtain ⟨h1, h2⟩ := cut_mem (P := fun x => x ∈ SGN.cps.toList ∨ x = 32 ∨ x = 9) (acc := []) (by simp) h p hp
    refine ⟨by simp at h1; omega, fun x hx => ?_⟩
    obtain ⟨n, z | z | z⟩ := h2 x hx
    · exact .inl z
    · exact absurd z n
    · exact .inr z
  have cl := cut_len 32 l []
  have sp : gSplit (.str (SX.S l)) (.str " ") = some ((cut 32 [] l).map fun p => .str (SX.S p)) := by
    rw [blank_S, sp_S _ _ (by decide) (by unfold LIM; omega)]
  unfold rowP
  generalize cut 32 [] l = ps at pc cl sp
  have f : ∀ p ∈ ps, F_is_name [.str (SX.S p)] = some (.bool (nameP p)) := fun p hp => F_is_name_P (pc p hp).2 (by have := (pc p hp).1; unfold LIM; omega)
  unfold F_row_of
  rw [runX_one]
  by_cases h3 : ps.length = 3
  · obtain ⟨a, b, c, rfl⟩ := len3 h3
    have fa := f a (by simp)
    have fb := f b (by simp)
    have fc := f c (by simp)
    have l3 : lstD (.list [.str (SX.S a), .str (SX.S b), .str (SX.S c)]) = some [.str (SX.S a), .str (SX.S b), .str (SX.S c)] := lstD_list _ (by simp [LIM])
    simp only [List.map_cons, List.map_nil] at sp
    rw [rowQ_3]
    cases na : nameP a with
    | false => rw [na] at fa; simp [na, b_row_of, rho0, N_row_of, sp, l3, fa, fb, fc, forF_cons1, forF_nil, sEx, resOf, outX]
    | true =>
      rw [na] at fa
      cases nb : nameP b with
      | false => rw [nb] at fb; simp [na, nb, b_row_of, rho0, N_row_of, sp, l3, fa, fb, fc, forF_cons1, forF_nil, sEx, resOf, outX]
      | true =>
        rw [nb] at fb
        cases nc : nameP c with
        | false => rw [nc] at fc; simp [na, nb, nc, b_row_of, rho0, N_row_of, sp, l3, fa, fb, fc, forF_cons1, forF_nil, sEx, resOf, outX]
        | true => rw [nc] at fc; simp [na, nb, nc, b_row_of, rho0, N_row_of, sp, l3, fa, fb, fc, forF_cons1, forF_nil, sEx, resOf, outX, tupS]
  · rw [rowQ_no h3]
    have n3 : ((ps.length : Int) == 3) = false := by simpa using fun z : (ps.length : Int) = 3 => h3 (by omega)
    have lim : ps.length ≤ LIM := by unfold LIM; omega
    simp [b_row_of, rho0, N_row_of, sp, n3, lim, sEx, resOf, outX]
end RK
namespace RK
open PySem PySem.Spec PyProof.Rows L2 RT
/-- the rows of lines -/
def rowsX : List (List Nat) → Option (List PyData)
  | [] => some []
  | p :: ps => match rowP p, rowsX ps with
    | some d, some es => some (d :: es)
    | _, _ => none
def resL : Option (List PyData) → Res
  | some es => .ret (.list es)
  | none => .exc "BadLine"
theorem rowP_data {l : List Nat} {d : PyData} (h : rowP l = some d) : ∃ a b c, d = tupS a b c := by
  unfold rowP at h
  by_cases h3 : (cut 32 [] l).length = 3
  · obtain ⟨a, b, c, e⟩ := len3 h3
    rw [e, rowQ_3] at h
    split at h
    · cases h
      exact ⟨a, b, c, rfl⟩
    · cases h
  · rw [rowQ_no h3] at h
    cases h
theorem lcX_rows {ρ : Rho} (hρ : ρ.length = 2) : ∀ {ps : List (List Nat)}, (∀ p ∈ ps, p.length ≤ 1000 ∧ ∀ x ∈ p, x ∈ SGN.cps.toList ∨ x = 32 ∨ x = 9) →
    lcX 1 (xCall F_row_of (eCons (eVar 1) eNil)) ρ (ps.map fun p => .str (SX.S p)) = match rowsX ps with
      | some es => .ret (.list es)
      | none => .exc "BadLine"
  | [], _ => rfl
  | p :: ps, h => by
    have ih := lcX_rows hρ (ps := ps) fun q hq => h q (List.mem_cons_of_mem _ hq)
    obtain ⟨h1, h2⟩ := h p List.mem_cons_self
    have g1 : (ρ.set 1 (.val (.str (SX.S p))))[1]? = some (.val (.str (SX.S p))) := List.getElem?_set_self (by omega)
    have f : xCall F_row_of (eCons (eVar 1) eNil) (ρ.set 1 (.val (.str (SX.S p)))) = resOf (rowP p) := by
      have e1 : eVar 1 (ρ.set 1 (.val (.str (SX.S p)))) = some (.str (SX.S p)) := by
        unfold eVar
        rw [g1]
      have : eCons (eVar 1) eNil (ρ.set 1 (.val (.str (SX.S p)))) = some [.str (SX.S p)] := by simp [g1]
      unfold xCall
      rw [this]
      exact F_row_of_P h2 h1
    rw [List.map_cons]
    unfold lcX
    rw [f]
    unfold rowsX
    cases e : rowP p with
    | none => simp [resOf]
    | some d =>
      obtain ⟨a, b, c, rfl⟩ := rowP_data e
      have dd : dataD (tupS a b c) = true := rfl
      simp only [resOf]
      rw [if_pos dd, ih]
      cases rowsX ps with
      | none => rfl
      | some es => rfl
/-- what a text writes -/
def readP (l : List Nat) : Option (List PyData) := if l = [] then some [] else if l.getLast? = some 10 then rowsX (cut 10 [] l.dropLast) else none
theorem snoc_of {l : List Nat} (h : l ≠ []) : ∃ m x, l = m ++ [x] := by
  rcases List.eq_nil_or_concat l with h0 | ⟨m, x, e⟩
  · exact absurd h0 h
  · exact ⟨m, x, by simpa using e⟩
theorem cutS_last (l : List Nat) (c : Nat) : cutS (SX.S (l ++ [c])) none (some (-1)) = SX.S l := by
  rw [C8.cutS_slice]
  exact SX.butlast_snoc l c
theorem ix_last (m : List Nat) (x : Nat) (h : m.length ≤ 1000) : gIx (.str (SX.S (m ++ [x]))) (.int (-1)) = some (.str (SX.S [x])) := by
  rw [gIx_str _ _ (by rw [SX.S_len, List.length_append, List.length_singleton]; unfold LIM; omega)]
  have : atI (SX.S (m ++ [x])).cps.toList (-1) = some x := by
    show atI (m ++ [x]) (-1) = _
    unfold atI ixN
    have h1 : ¬ (0 : Int) ≤ -1 := by decide
    rw [if_neg h1, if_pos (by simp; omega), Option.bind_some]
    have : ((-1 : Int) + ((m ++ [x]).length : Nat)).toNat = m.length := by
      rw [List.length_append, List.length_singleton]
      omega
    rw [this]
    simp
  rw [this]
  rfl
theorem F_read_P {l : List Nat} (h : okT l) (hl : l.length ≤ 1000) : F_read [.str (SX.S l)] = resL (readP l) := by
  unfold F_read
  rw [runX_one]
  by_cases h0 : l = []
  · subst h0
    have : ((SX.S [] : Str) == "") = true := by decide
    simp [b_read, rho0, N_read, this, outX, readP, resL]
  · obtain ⟨m, x, rfl⟩ := snoc_of h0
    have hm : m.length ≤ 1000 := by simp at hl; omega
    have ne : (SX.S (m ++ [x]) == "") = false := by
      rw [nil_S, SX.S_beq]
      simp
    have last := ix_last m x hm
    unfold readP
    rw [if_neg h0, List.getLast?_concat, List.dropLast_concat]
    by_cases hx : x = 10
    · subst hx
      have sp : gSplit (.str (SX.S m)) (.str "\n") = some ((cut 10 [] m).map fun p => .str (SX.S p)) := by
        rw [feed_S, sp_S _ _ (by decide) (by unfold LIM; omega)]
      have cutv : eSlS (eVarB 0) oNone (oSome (eUn gNeg (eC (.int 1)))) [.val (.str (SX.S (m ++ [10]))), .no] = some (.str (SX.S m)) := by
        have hz : (SX.S (m ++ [10])).length ≤ LIM := by rw [SX.S_len]; unfold LIM; omega
        have : cutS (SX.S (m ++ [10])) none (some (-1)) = SX.S m := cutS_last m 10
        simp [eSlS, oNone, oSome, hz, this]
      have lc := lcX_rows (ρ := [.val (.str (SX.S (m ++ [10]))), .no]) rfl (ps := cut 10 [] m) fun p hp => by
        obtain ⟨q1, q2⟩ := cut_mem (P := Sgn) (acc := []) (by simp) (fun y hy => h y (List.mem_append_left _ hy)) p hp
        refine ⟨by simp at q1; omega, fun y hy => ?_⟩
        obtain ⟨n, z | z | z | z⟩ := q2 y hy
        · exact .inl z
        · exact .inr (.inl z)
        · exact absurd z n
        · exact .inr (.inr z)
      have cl := cut_len 10 m []
      have lim : (cut 10 [] m).length ≤ LIM := by unfold LIM; omega
      have la : gNe (.str (SX.S [10])) (.str "\n") = some (.bool false) := rfl
      have xl : xLc (iL (eList (lOp gSplit (eSlS (eVarB 0) oNone (oSome (eUn gNeg (eC (.int 1))))) (eC (.str "\n"))))) 1 (xCall F_row_of (eCons (eVar 1) eNil)) [.val (.str (SX.S (m ++ [10]))), .no] = resL (rowsX (cut 10 [] m)) := by
        have src : iL (eList (lOp gSplit (eSlS (eVarB 0) oNone (oSome (eUn gNeg (eC (.int 1))))) (eC (.str "\n")))) [.val (.str (SX.S (m ++ [10]))), .no] = some ((cut 10 [] m).map fun p => .str (SX.S p)) := by
          simp [cutv, sp, lim]
        unfold xLc
        rw [src]
        simp only [List.length_map, lim, if_true]
        rw [lc]
        cases rowsX (cut 10 [] m) <;> rfl
      rw [if_pos rfl]
      have rx : sRetX (xLc (iL (eList (lOp gSplit (eSlS (eVarB 0) oNone (oSome (eUn gNeg (eC (.int 1))))) (eC (.str "\n"))))) 1 (xCall F_row_of (eCons (eVar 1) eNil))) [.val (.str (SX.S (m ++ [10]))), .no] = match resL (rowsX (cut 10 [] m)) with
          | .no => .no
          | .ret d => .rt d [.val (.str (SX.S (m ++ [10]))), .no]
          | .exc c => .ex c [.val (.str (SX.S (m ++ [10]))), .no] := by
        unfold sRetX
        show (match xLc _ 1 _ [.val (.str (SX.S (m ++ [10]))), .no] with | .no => _ | .ret d => _ | .exc c => _) = _
        rw [xl]
        rfl
      simp [b_read, rho0, N_read, ne, last, la]
      rw [rx]
      cases rowsX (cut 10 [] m) <;> rfl
    · have la : gNe (.str (SX.S [x])) (.str "\n") = some (.bool true) := by
        rw [feed_S, gNe_str, SX.S_beq]
        simp [hx]
      have e : ¬ (some x = some 10) := fun z => hx (Option.some.inj z)
      rw [if_neg e]
      simp [b_read, rho0, N_read, ne, last, la, sEx, outX, resL]
end RK
namespace RK
open PySem PySem.Spec PyProof.Rows L2 RT
abbrev txS (ps : List (List Nat)) : List PyData := ps.map fun p => .str (SX.S p)
abbrev sgnD (l : List Nat) : List PyData := l.map fun c => .str (SX.S [c])
theorem signs_S (l : List Nat) : signsD (SX.S l) = sgnD l := rfl
abbrev lrowB : SS := sIf (bF (eOp gEq (eVarB 2) (eC (.str " ")))) (sApp 1 (eC (.str ""))) (sPut 1 (eUn gNeg (eC (.int 1))) (eOp gAdd (eOp gIx (eVarB 1) (eUn gNeg (eC (.int 1)))) (eVarB 2)))
theorem lrow_step {t : PyData} {s3 : Sl} (done : List (List Nat)) (acc : List Nat) (x : Nat) (hd : done.length ≤ 2000) (ha : acc.length ≤ 2000) :
    lrowB [.val t, .own (txS (done ++ [acc])), .val (.str (SX.S [x])), s3] = .nx [.val t, .own (txS (if x = 32 then done ++ [acc] ++ [[]] else done ++ [acc ++ [x]])), .val (.str (SX.S [x])), s3] := by
  by_cases hx : x = 32
  · subst hx
    have e : gEq (.str (SX.S [32])) (.str " ") = some (.bool true) := rfl
    have lim : done.length + 1 ≤ LIM := by unfold LIM; omega
    rw [if_pos rfl]
    simp [e, lim]
    rfl
  · have e : gEq (.str (SX.S [x])) (.str " ") = some (.bool false) := by
      rw [blank_S, gEq_str, SX.S_beq]
      simp [hx]
    have ix : gIx (.list (txS (done ++ [acc]))) (.int (-1)) = some (.str (SX.S acc)) := by
      rw [gIx_list]
      unfold atI ixN
      have h1 : ¬ (0 : Int) ≤ -1 := by decide
      rw [if_neg h1, if_pos (by simp; omega), Option.bind_some]
      have : ((-1 : Int) + ((txS (done ++ [acc])).length : Nat)).toNat = done.length := by
        simp
        omega
      rw [this]
      simp
    have ga := gAdd_S acc [x] (by simp; unfold LIM; omega)
    have ixn : ixN (txS (done ++ [acc])).length (-1) = some done.length := by
      unfold ixN
      have h1 : ¬ (0 : Int) ≤ -1 := by decide
      rw [if_neg h1, if_pos (by simp; omega)]
      simp
      omega
    rw [if_neg hx]
    have st : (txS (done ++ [acc])).set done.length (.str (SX.S (acc ++ [x]))) = txS (done ++ [acc ++ [x]]) := by
      simp [txS]
    generalize hg : txS (done ++ [acc]) = ds at ix ixn st
    simp [e, ix, ga, ixn, st]
theorem lrow_loop {t : PyData} {s3 : Sl} : ∀ (l : List Nat) (done : List (List Nat)) (acc : List Nat) (s2 : Sl), done.length + l.length ≤ 2000 → acc.length + l.length ≤ 2000 →
    ∃ s2', forF (tg1 2) lrowB (sgnD l) [.val t, .own (txS (done ++ [acc])), s2, s3] = .nx [.val t, .own (txS (done ++ cut 32 acc l)), s2', s3]
  | [], done, acc, s2, _, _ => ⟨s2, rfl⟩
  | x :: l, done, acc, s2, h1, h2 => by
    have st := lrow_step (t := t) (s3 := s3) done acc x (by simp at h1; omega) (by simp at h2; omega)
    rw [show sgnD (x :: l) = .str (SX.S [x]) :: sgnD l from rfl, forF_cons1]
    show ∃ s2', (lrowB [.val t, .own (txS (done ++ [acc])), .val (.str (SX.S [x])), s3]).thn _ = _
    rw [st]
    unfold cut
    by_cases hx : x = 32
    · rw [if_pos hx, if_pos hx]
      obtain ⟨s2', e⟩ := lrow_loop (t := t) (s3 := s3) l (done ++ [acc]) [] (.val (.str (SX.S [x]))) (by simp at h1 ⊢; omega) (by simp at h2 ⊢; omega)
      exact ⟨s2', by simpa using e⟩
    · rw [if_neg hx, if_neg hx]
      obtain ⟨s2', e⟩ := lrow_loop (t := t) (s3 := s3) l done (acc ++ [x]) (.val (.str (SX.S [x]))) (by simp at h1 ⊢; omega) (by simp at h2 ⊢; omega)
      exact ⟨s2', by simpa using e⟩
end RK
namespace RK
open PySem PySem.Spec PyProof.Rows L2 RT
theorem Sgn.small {x : Nat} (h : Sgn x) : x < 128 := by
  rcases h with h | rfl | rfl | rfl
  · have := SGN_rng h; omega
  · decide
  · decide
  · decide
theorem okD_S {l : List Nat} (h : okT l) : okD (.str (SX.S l)) = true := by
  show (SX.S l).cps.all (fun c => decide (c < 0x110000)) = true
  rw [← Array.all_toList, List.all_eq_true]
  intro c hc
  have := (h c hc).small
  exact decide_eq_true (by omega)
theorem gEq_nil (l : List PyData) (h : okDs l = true) (hd : (PyData.list l).depth ≤ 64) : gEq (.list l) (.list []) = some (.bool l.isEmpty) := by
  have h1 := okD_lay (.list l) (by simpa [okD] using h)
  have h2 : SeqAt.shaped (.list l) = true := by simp [SeqAt.shaped, h1, hd]
  have h3 : SeqAt.shaped (.list []) = true := by decide
  show gEqD (.list l) (.list []) = _
  unfold gEqD
  rw [if_pos ⟨rfl, rfl, h2, h3⟩]
  cases l <;> simp [PyData.eqv, PyData.eqvAll]
theorem gNe_nil (l : List PyData) (h : okDs l = true) (hd : (PyData.list l).depth ≤ 64) : gNe (.list l) (.list []) = some (.bool (!l.isEmpty)) := by
  have h1 := okD_lay (.list l) (by simpa [okD] using h)
  have h2 : SeqAt.shaped (.list l) = true := by simp [SeqAt.shaped, h1, hd]
  have h3 : SeqAt.shaped (.list []) = true := by decide
  show gNeD (.list l) (.list []) = _
  unfold gNeD
  rw [if_pos ⟨rfl, rfl, h2, h3⟩]
  cases l <;> simp [PyData.eqv, PyData.eqvAll]
theorem gIn_tab (p : List Nat) : gIn (.str "\t") (.str (SX.S p)) = some (.bool (decide (9 ∈ p))) := rfl
abbrev badT : STe := tOrF (tNotF (bF (eChainF gLe gLe (eC (.int 1)) (eCall gLen (eCons (eVarB 3) eNil)) (eC (.int 20))))) (bF (eOp gIn (eC (.str "\t")) (eVarB 3)))
theorem bad_val {ρ : Rho} {p : List Nat} (hp : p.length ≤ LIM) (h : ρ[3]? = some (.val (.str (SX.S p)))) : badT ρ = some (!nameP p) := by
  have g := gIn_tab p
  have ln : gLen [.str (SX.S p)] = some (.int p.length) := by
    have e : (SX.S p).length = p.length := SX.S_len p
    simp [e, hp]
  unfold nameP
  by_cases h1 : 1 ≤ p.length
  · by_cases h2 : p.length ≤ 20
    · have i1 : (1 : Int) ≤ (p.length : Int) := by omega
      have i2 : (p.length : Int) ≤ 20 := by omega
      simp [h, g, ln, h1, h2, i1, i2]
    · have i1 : (1 : Int) ≤ (p.length : Int) := by omega
      have i2 : ¬ (p.length : Int) ≤ 20 := by omega
      simp [h, g, ln, h1, h2, i1, i2]
  · have i1 : ¬ (1 : Int) ≤ (p.length : Int) := by omega
    simp [h, g, ln, h1, i1]
def optD : Option PyData → PyData
  | some d => d
  | none => .none
theorem F_lrow_P {l : List Nat} (hT : okT l) (hl : l.length ≤ 1000) : F_lrow_of [.str (SX.S l)] = some (optD (rowP l)) := by
  have cl := cut_len 32 l []
  have pc : ∀ p ∈ cut 32 [] l, okT p := fun p hp => by
    obtain ⟨_, h2⟩ := cut_mem (P := Sgn) (acc := []) (by simp) hT p hp
    exact fun x hx => (h2 x hx).2
  have pl : ∀ p ∈ cut 32 [] l, p.length ≤ LIM := fun p hp => by
    obtain ⟨h1, _⟩ := cut_mem (P := Sgn) (acc := []) (by simp) hT p hp
    simp at h1
    unfold LIM; omega
  obtain ⟨s2', lp⟩ := lrow_loop (t := .str (SX.S l)) (s3 := .no) l [] [] .no (by simp; omega) (by simp; omega)
  unfold rowP
  rw [List.nil_append] at lp
  generalize cut 32 [] l = ps at cl pc pl lp
  have hz : (SX.S l).length ≤ LIM := by rw [SX.S_len]; unfold LIM; omega
  unfold F_lrow_of
  rw [runF_eq]
  have lp' : forF (tg1 2) lrowB (signsD (SX.S l)) [.val (.str (SX.S l)), .own [.str ""], .no, .no] = .nx [.val (.str (SX.S l)), .own (txS ps), s2', .no] := lp
  have e0 : b_lrow_of (rho0 N_lrow_of [.str (SX.S l)]) = (sIf (tOrF (bF (eOp gNe (eCall gLen (eCons (eVarB 1) eNil)) (eC (.int 3)))) (bF (eOp gNe (eList (lLc (iL (eVarB 1)) 3 badT (eVar 3))) (eList (eLstD eNil))))) (sRet (eC .none)) sNext [.val (.str (SX.S l)), .own (txS ps), s2', .no]).thn
      (sRet (eTupD (eCons (eOp gIx (eVarB 1) (eC (.int 0))) (eCons (eOp gIx (eVarB 1) (eC (.int 1))) (eCons (eOp gIx (eVarB 1) (eC (.int 2))) eNil))))) := by
    have r0 : rho0 N_lrow_of [.str (SX.S l)] = [.val (.str (SX.S l)), .no, .no, .no] := rfl
    have s1 : sSetL 1 (eLstD (eCons (eC (.str "")) eNil)) [.val (.str (SX.S l)), .no, .no, .no] = .nx [.val (.str (SX.S l)), .own [.str ""], .no, .no] := by simp
    have s2 : sFor (iS (eVar 0)) (tg1 2) lrowB [.val (.str (SX.S l)), .own [.str ""], .no, .no] = .nx [.val (.str (SX.S l)), .own (txS ps), s2', .no] := by
      unfold sFor
      have : iS (eVar 0) [.val (.str (SX.S l)), .own [.str ""], .no, .no] = some (signsD (SX.S l)) := by simp [hz]
      rw [this]
      exact lp'
    rw [r0]
    unfold b_lrow_of
    rw [sSeq_eq, s1, thn_nx, sSeq_eq, s2, thn_nx, sSeq_eq]
  by_cases h3 : ps.length = 3
  · obtain ⟨a, b, c, rfl⟩ := len3 h3
    have lc : lcF 3 badT (eVar 3) [.val (.str (SX.S l)), .own (txS [a, b, c]), s2', .no] (txS [a, b, c]) = some (((txS [a, b, c]).filter fun d => match d with | .str z => !nameP z.cps.toList | _ => false).map id) := by
      refine lcF_filter (fun d => match d with | .str z => !nameP z.cps.toList | _ => false) id (fun d hd => ?_) (fun d hd _ => ?_)
      · obtain ⟨p, hp, rfl⟩ := List.mem_map.mp hd
        exact bad_val (p := p) (pl p hp) rfl
      · obtain ⟨p, hp, rfl⟩ := List.mem_map.mp hd
        exact ⟨rfl, rfl⟩
    rw [List.map_id] at lc
    generalize hf : ((txS [a, b, c]).filter fun d => match d with | .str z => !nameP z.cps.toList | _ => false) = fl at lc
    have fin : ∀ d ∈ fl, ∃ p, okT p ∧ d = .str (SX.S p) := fun d hd => by
      rw [← hf] at hd
      obtain ⟨p, hp, rfl⟩ := List.mem_map.mp (List.mem_filter.mp hd).1
      exact ⟨p, pc p hp, rfl⟩
    have ne := gNe_nil fl (by
      rw [okDs_all, List.all_eq_true]
      intro d hd
      obtain ⟨p, h1, rfl⟩ := fin d hd
      exact okD_S h1) (by
      have : PyData.depthAll fl ≤ 1 := depthAll_le fun d hd => by
        obtain ⟨p, h1, rfl⟩ := fin d hd
        simp [PyData.depth]
      simp only [PyData.depth]
      omega)
    have fe : fl.isEmpty = (nameP a && (nameP b && nameP c)) := by
      rw [← hf]
      cases ha : nameP a <;> cases hb : nameP b <;> cases hc : nameP c <;> simp [txS, ha, hb, hc]
    rw [rowQ_3]
    have tst : tOrF (bF (eOp gNe (eCall gLen (eCons (eVarB 1) eNil)) (eC (.int 3)))) (bF (eOp gNe (eList (lLc (iL (eVarB 1)) 3 badT (eVar 3))) (eList (eLstD eNil)))) [.val (.str (SX.S l)), .own (txS [a, b, c]), s2', .no] = some (!(nameP a && (nameP b && nameP c))) := by
      have l3 : lstD (.list (txS [a, b, c])) = some (txS [a, b, c]) := lstD_list _ (by simp [LIM])
      have n3 : (txS [a, b, c]).length = 3 := rfl
      have v : lLc (iL (eVarB 1)) 3 badT (eVar 3) [.val (.str (SX.S l)), .own (txS [a, b, c]), s2', .no] = some fl := by
        unfold lLc
        have : iL (eVarB 1) [.val (.str (SX.S l)), .own (txS [a, b, c]), s2', .no] = some (txS [a, b, c]) := by
          simp
          exact l3
        rw [this]
        simp only [Option.bind_some]
        rw [if_pos (by rw [n3]; decide), lc]
      have ev : eList (lLc (iL (eVarB 1)) 3 badT (eVar 3)) [.val (.str (SX.S l)), .own (txS [a, b, c]), s2', .no] = some (.list fl) := by
        rw [show eList (lLc (iL (eVarB 1)) 3 badT (eVar 3)) [.val (.str (SX.S l)), .own (txS [a, b, c]), s2', .no] = (lLc (iL (eVarB 1)) 3 badT (eVar 3) [.val (.str (SX.S l)), .own (txS [a, b, c]), s2', .no]).map .list from rfl, v]
        rfl
      have t2 : bF (eOp gNe (eList (lLc (iL (eVarB 1)) 3 badT (eVar 3))) (eList (eLstD eNil))) [.val (.str (SX.S l)), .own (txS [a, b, c]), s2', .no] = some (!(nameP a && (nameP b && nameP c))) := by
        have e2 : eOp gNe (eList (lLc (iL (eVarB 1)) 3 badT (eVar 3))) (eList (eLstD eNil)) [.val (.str (SX.S l)), .own (txS [a, b, c]), s2', .no] = some (.bool (!fl.isEmpty)) := by
          unfold eOp
          rw [ev]
          simpa using ne
        unfold bF
        rw [e2, fe]
        rfl
      have t1 : bF (eOp gNe (eCall gLen (eCons (eVarB 1) eNil)) (eC (.int 3))) [.val (.str (SX.S l)), .own (txS [a, b, c]), s2', .no] = some false := by
        simp [LIM]
      unfold tOrF
      rw [t1]
      simpa using t2
    have s3 : sIf (tOrF (bF (eOp gNe (eCall gLen (eCons (eVarB 1) eNil)) (eC (.int 3)))) (bF (eOp gNe (eList (lLc (iL (eVarB 1)) 3 badT (eVar 3))) (eList (eLstD eNil))))) (sRet (eC .none)) sNext [.val (.str (SX.S l)), .own (txS [a, b, c]), s2', .no] =
        if (nameP a && (nameP b && nameP c)) = true then .nx [.val (.str (SX.S l)), .own (txS [a, b, c]), s2', .no] else .rt .none ([.val (.str (SX.S l)), .own (txS [a, b, c]), s2', .no].map frz1) := by
      unfold sIf
      rw [tst]
      cases (nameP a && (nameP b && nameP c)) <;> rfl
    rw [e0, s3]
    cases hb : (nameP a && (nameP b && nameP c)) with
    | false => rfl
    | true => simp [optD, tupS]
  · rw [rowQ_no h3]
    have n3 : ((ps.length : Int) == 3) = false := by simpa using fun z : (ps.length : Int) = 3 => h3 (by omega)
    have t1 : bF (eOp gNe (eCall gLen (eCons (eVarB 1) eNil)) (eC (.int 3))) [.val (.str (SX.S l)), .own (txS ps), s2', .no] = some true := by
      simp [n3]
    have s3 : sIf (tOrF (bF (eOp gNe (eCall gLen (eCons (eVarB 1) eNil)) (eC (.int 3)))) (bF (eOp gNe (eList (lLc (iL (eVarB 1)) 3 badT (eVar 3))) (eList (eLstD eNil))))) (sRet (eC .none)) sNext [.val (.str (SX.S l)), .own (txS ps), s2', .no] = .rt .none ([.val (.str (SX.S l)), .own (txS ps), s2', .no].map frz1) := by
      unfold sIf tOrF
      rw [t1]
      rfl
    rw [e0, s3]
    rfl
end RK
namespace RK
open PySem PySem.Spec PyProof.Rows L2 RT
def rowD (p : List Nat) : PyData := optD (rowP p)
theorem rowD_cases {p : List Nat} (h : okT p) : rowD p = .none ∨ okD (rowD p) = true ∧ ∃ a b c, rowD p = tupS a b c := by
  unfold rowD
  cases e : rowP p with
  | none => exact .inl rfl
  | some d =>
    refine .inr ?_
    have pc : ∀ q ∈ cut 32 [] p, okT q := fun q hq => by
      obtain ⟨_, h2⟩ := cut_mem (P := Sgn) (acc := []) (by simp) h q hq
      exact fun x hx => (h2 x hx).2
    unfold rowP at e
    by_cases h3 : (cut 32 [] p).length = 3
    · obtain ⟨a, b, c, e2⟩ := len3 h3
      rw [e2] at pc e
      rw [rowQ_3] at e
      split at e
      · cases e
        refine ⟨?_, a, b, c, rfl⟩
        have ha := okD_S (pc a (by simp))
        have hb := okD_S (pc b (by simp))
        have hc := okD_S (pc c (by simp))
        show okD (tupS a b c) = true
        unfold tupS
        simp only [okD, okDs, Bool.and_true, Bool.and_eq_true] at ha hb hc ⊢
        exact ⟨ha, hb, hc⟩
      · cases e
    · rw [rowQ_no h3] at e
      cases e
theorem rowD_none {p : List Nat} : (rowD p = .none) ↔ (rowP p).isNone = true := by
  unfold rowD
  cases e : rowP p with
  | none => simp [optD]
  | some d =>
    obtain ⟨a, b, c, rfl⟩ := rowP_data e
    simp [optD, tupS]
theorem rows_ok {ps : List (List Nat)} (h : ∀ p ∈ ps, okT p) : okDs (ps.map rowD) = true ∧ (PyData.list (ps.map rowD)).depth ≤ 64 := by
  refine ⟨?_, ?_⟩
  · rw [okDs_all, List.all_eq_true]
    intro d hd
    obtain ⟨p, hp, rfl⟩ := List.mem_map.mp hd
    rcases rowD_cases (h p hp) with e | ⟨e, _⟩
    · rw [e]; rfl
    · exact e
  · have : PyData.depthAll (ps.map rowD) ≤ 3 := depthAll_le fun d hd => by
      obtain ⟨p, hp, rfl⟩ := List.mem_map.mp hd
      rcases rowD_cases (h p hp) with e | ⟨_, a, b, c, e⟩
      · rw [e]; simp [PyData.depth]
      · rw [e]; simp [tupS, PyData.depth, PyData.depthAll]
    simp only [PyData.depth]
    omega
theorem gIn_none {ps : List (List Nat)} (h : ∀ p ∈ ps, okT p) : gIn .none (.list (ps.map rowD)) = some (.bool (ps.any fun p => (rowP p).isNone)) := by
  have key : ∀ (f : PyData → Bool), (f .none = true) → (∀ a b c, f (tupS a b c) = false) → (ps.map rowD).any f = ps.any fun p => (rowP p).isNone := fun f f1 f2 => by
    rw [List.any_map]
    have e : ∀ p ∈ ps, (f ∘ rowD) p = (rowP p).isNone := fun p hp => by
      show f (rowD p) = _
      rcases rowD_cases (h p hp) with e | ⟨_, a, b, c, e⟩
      · rw [e, f1, (rowD_none.mp e)]
      · rw [e, f2]
        cases q : (rowP p).isNone with
        | false => rfl
        | true =>
          have := rowD_none.mpr q
          rw [e] at this
          cases this
    clear h f1 f2
    induction ps with
    | nil => rfl
    | cons p ps ih =>
      rw [List.any_cons, List.any_cons, e p List.mem_cons_self, ih fun q hq => e q (List.mem_cons_of_mem _ hq)]
  have ok := rows_ok h
  have sh : SeqAt.shaped (.list (ps.map rowD)) = true := by
    have h1 := okD_lay (.list (ps.map rowD)) (by simpa [okD] using ok.1)
    simp [SeqAt.shaped, h1, ok.2]
  unfold gIn alt
  by_cases hs : (ps.map rowD).all scalD = true
  · have : gInF false .none (.list (ps.map rowD)) = some (.bool (ps.any fun p => (rowP p).isNone)) := by
      show (if scalD .none = true ∧ (ps.map rowD).all scalD = true then some (PyData.bool (if false = true then _ else (ps.map rowD).any fun z => eqFl z .none)) else none) = _
      rw [if_pos ⟨rfl, hs⟩, if_neg (by decide), key (fun z => eqFl z .none) rfl (fun _ _ _ => rfl)]
    rw [this]
  · have : gInF false .none (.list (ps.map rowD)) = none := by
      show (if scalD .none = true ∧ (ps.map rowD).all scalD = true then some (PyData.bool (if false = true then _ else (ps.map rowD).any fun z => eqFl z .none)) else none) = _
      rw [if_neg (fun z => hs z.2)]
    rw [this]
    have : gInL false .none (.list (ps.map rowD)) = some (.bool (ps.any fun p => (rowP p).isNone)) := by
      show (if dataD .none = true ∧ SeqAt.shaped .none = true ∧ SeqAt.shaped (.list (ps.map rowD)) = true then some (PyData.bool (if false = true then _ else (ps.map rowD).any fun z => PyData.eqv z .none)) else none) = _
      rw [if_pos ⟨rfl, by decide, sh⟩, if_neg (by decide), key (fun z => PyData.eqv z .none) (by simp [PyData.eqv]) (fun _ _ _ => by simp [tupS, PyData.eqv])]
    simp only [this]
/-! ### the law's rows -/
abbrev rowsB : SS := sIf (bF (eOp gEq (eVarB 3) (eC (.str "\n")))) (sSeq (sApp 1 (eCall F_lrow_of (eCons (eVar 2) eNil))) (sSet 2 (eC (.str "")))) (sSet 2 (eOp gAdd (eVarB 2) (eVarB 3)))
theorem rows_step {t : PyData} {done : List (List Nat)} {acc : List Nat} {x : Nat} (hd : done.length ≤ 2000) (ha : acc.length ≤ 1000) (hT : okT acc) :
    rowsB [.val t, .own (done.map rowD), .val (.str (SX.S acc)), .val (.str (SX.S [x]))] = if x = 10 then .nx [.val t, .own ((done ++ [acc]).map rowD), .val (.str (SX.S [])), .val (.str (SX.S [x]))] else .nx [.val t, .own (done.map rowD), .val (.str (SX.S (acc ++ [x]))), .val (.str (SX.S [x]))] := by
  by_cases hx : x = 10
  · subst hx
    have e : gEq (.str (SX.S [10])) (.str "\n") = some (.bool true) := rfl
    have f : F_lrow_of [.str (SX.S acc)] = some (rowD acc) := F_lrow_P hT ha
    have dd : dataD (rowD acc) = true := by
      rcases rowD_cases hT with e | ⟨_, a, b, c, e⟩ <;> rw [e] <;> rfl
    have lim : done.length ≤ LIM := by unfold LIM; omega
    rw [if_pos rfl]
    simp [e, f, dd, lim]
    rfl
  · have e : gEq (.str (SX.S [x])) (.str "\n") = some (.bool false) := by
      rw [feed_S, gEq_str, SX.S_beq]
      simp [hx]
    have ga := gAdd_S acc [x] (by simp; unfold LIM; omega)
    rw [if_neg hx]
    simp [e, ga]
theorem rows_loop {t : PyData} : ∀ (l : List Nat) (done : List (List Nat)) (acc : List Nat) (s3 : Sl), done.length + l.length ≤ 2000 → acc.length + l.length ≤ 1000 → okT acc → okT l →
    ∃ ps p s3', cut 10 acc l = ps ++ [p] ∧ forF (tg1 3) rowsB (sgnD l) [.val t, .own (done.map rowD), .val (.str (SX.S acc)), s3] = .nx [.val t, .own ((done ++ ps).map rowD), .val (.str (SX.S p)), s3']
  | [], done, acc, s3, _, _, _, _ => ⟨[], acc, s3, rfl, by rw [List.append_nil]; rfl⟩
  | x :: l, done, acc, s3, h1, h2, hT, hL => by
    have st := rows_step (t := t) (x := x) (done := done) (by simp at h1; omega) (by simp at h2; omega) hT
    rw [show sgnD (x :: l) = .str (SX.S [x]) :: sgnD l from rfl, forF_cons1]
    show ∃ ps p s3', _ ∧ (rowsB [.val t, .own (done.map rowD), .val (.str (SX.S acc)), .val (.str (SX.S [x]))]).thn _ = _
    rw [st]
    unfold cut
    have hL' : okT l := fun y hy => hL y (List.mem_cons_of_mem _ hy)
    by_cases hx : x = 10
    · rw [if_pos hx, if_pos hx]
      obtain ⟨ps, p, s3', e1, e2⟩ := rows_loop (t := t) l (done ++ [acc]) [] (.val (.str (SX.S [x]))) (by simp at h1 ⊢; omega) (by simp at h2 ⊢; omega) (fun _ z => nomatch z) hL'
      exact ⟨acc :: ps, p, s3', by rw [e1]; rfl, by rw [thn_nx, e2]; simp⟩
    · rw [if_neg hx, if_neg hx]
      obtain ⟨ps, p, s3', e1, e2⟩ := rows_loop (t := t) l done (acc ++ [x]) (.val (.str (SX.S [x]))) (by simp at h1 ⊢; omega) (by simp at h2 ⊢; omega) (fun y hy => by
        rcases List.mem_append.mp hy with h | h
        · exact hT y h
        · obtain rfl := List.mem_singleton.mp h
          exact hL _ List.mem_cons_self) hL'
      exact ⟨ps, p, s3', e1, by rw [thn_nx, e2]⟩
theorem rowsX_eq : ∀ ps : List (List Nat), rowsX ps = if (ps.any fun p => (rowP p).isNone) = true then none else some (ps.map rowD)
  | [] => rfl
  | p :: ps => by
    unfold rowsX
    rw [rowsX_eq ps, List.any_cons, List.map_cons]
    unfold rowD
    cases e : rowP p with
    | none => simp
    | some d =>
      simp only [Option.isNone_some, Bool.false_or, optD]
      by_cases h : (ps.any fun p => (rowP p).isNone) = true
      · rw [if_pos h, if_pos h]
      · rw [if_neg h, if_neg h]
theorem readP_cut {l : List Nat} {ps : List (List Nat)} {p : List Nat} (e : cut 10 [] l = ps ++ [p]) : readP l = if p ≠ [] ∨ (ps.any fun p => (rowP p).isNone) = true then none else some (ps.map rowD) := by
  unfold readP
  by_cases h0 : l = []
  · subst h0
    rw [if_pos rfl]
    have : ps = [] ∧ p = [] := by
      have e' : [[]] = ps ++ [p] := e
      cases ps with
      | nil => simp at e'; exact ⟨rfl, e'⟩
      | cons a as => simp at e'
    obtain ⟨rfl, rfl⟩ := this
    simp
  · rw [if_neg h0]
    obtain ⟨m, x, rfl⟩ := snoc_of h0
    rw [List.getLast?_concat, List.dropLast_concat]
    by_cases hx : x = 10
    · subst hx
      rw [cut_end] at e
      have := List.append_inj' e rfl
      obtain ⟨e1, e2⟩ := this
      have e3 : p = [] := by simpa using e2.symm
      subst e3
      rw [if_pos rfl, rowsX_eq, e1]
      simp
    · have e4 : ¬ (some x = some 10) := fun z => hx (Option.some.inj z)
      rw [if_neg e4]
      obtain ⟨qs, q, e5, hq⟩ := cut_open hx m []
      rw [e5] at e
      have := List.append_inj' e rfl
      have e6 : q = p := by simpa using this.2
      rw [if_pos (.inl (by rw [← e6]; exact hq))]
def dueD : Option (List PyData) → PyData
  | some rs => .list rs
  | none => .none
theorem F_rows_P {l : List Nat} (hT : okT l) (hl : l.length ≤ 1000) : F_rows_of [.str (SX.S l)] = some (dueD (readP l)) := by
  obtain ⟨ps, p, s3', ec, lp⟩ := rows_loop (t := .str (SX.S l)) l [] [] .no (by simp; omega) (by simp; omega) (fun _ z => nomatch z) hT
  rw [List.nil_append] at lp
  have pk : ∀ q ∈ ps, okT q := fun q hq => by
    obtain ⟨_, h2⟩ := cut_mem (P := Sgn) (acc := []) (by simp) hT q (by rw [ec]; exact List.mem_append_left _ hq)
    exact fun x hx => (h2 x hx).2
  have hz : (SX.S l).length ≤ LIM := by rw [SX.S_len]; unfold LIM; omega
  rw [readP_cut ec]
  have s2 : sFor (iS (eVar 0)) (tg1 3) rowsB [.val (.str (SX.S l)), .own [], .val (.str ""), .no] = .nx [.val (.str (SX.S l)), .own (ps.map rowD), .val (.str (SX.S p)), s3'] := by
    unfold sFor
    have : iS (eVar 0) [.val (.str (SX.S l)), .own [], .val (.str ""), .no] = some (signsD (SX.S l)) := by simp [hz]
    rw [this]
    exact lp
  have gi := gIn_none pk
  have gn : gNe (.str (SX.S p)) (.str "") = some (.bool (!decide (p = []))) := by
    rw [nil_S, gNe_str, SX.S_beq]
    cases p <;> simp
  unfold F_rows_of
  rw [runF_eq]
  have r0 : rho0 N_rows_of [.str (SX.S l)] = [.val (.str (SX.S l)), .no, .no, .no] := rfl
  have s1 : sSetL 1 (eLstD eNil) [.val (.str (SX.S l)), .no, .no, .no] = .nx [.val (.str (SX.S l)), .own [], .no, .no] := by simp
  have s1b : sSet 2 (eC (.str "")) [.val (.str (SX.S l)), .own [], .no, .no] = .nx [.val (.str (SX.S l)), .own [], .val (.str ""), .no] := by simp
  rw [r0]
  unfold b_rows_of
  rw [sSeq_eq, s1, thn_nx, sSeq_eq, s1b, thn_nx, sSeq_eq, s2, thn_nx, sSeq_eq]
  cases hp : decide (p = []) with
  | false =>
    rw [hp] at gn
    have : p ≠ [] := of_decide_eq_false hp
    simp [gn, this, dueD]
  | true =>
    rw [hp] at gn
    have hp' : p = [] := of_decide_eq_true hp
    cases ha : (ps.any fun p => (rowP p).isNone) with
    | false =>
      rw [ha] at gi
      simp [gn, gi, hp', dueD]
      rfl
    | true =>
      rw [ha] at gi
      simp [gn, gi, hp', dueD]
end RK
namespace RK
open PySem PySem.Spec PyProof.Rows L2 RT
def okB (z : Str) : Bool := z.cps.toList.all (fun x => decide (x ∈ SGN.cps.toList) || (decide (x = 32) || (decide (x = 10) || decide (x = 9)))) && decide (z.length ≤ 20)
theorem okB_ok {z : Str} (h : okB z = true) : okT z.cps.toList ∧ z.cps.toList.length ≤ 20 := by
  unfold okB at h
  simp only [Bool.and_eq_true, List.all_eq_true, Bool.or_eq_true, decide_eq_true_eq] at h
  exact ⟨fun x hx => h.1 x hx, by simpa [Str.length] using h.2⟩
def odds : List Str := ["", "\n", " \n", "a b c", "a b\n", "a b c d\n", "a b c\n\n", " a b c\n", "a  b c\n", "a b c \n", "\na b c\n"]
theorem odds_ok : odds.all okB = true := by decide +kernel
theorem odds_len : odds.length = 11 := rfl
theorem odd_at (c : Int) : ∃ l, okT l ∧ l.length ≤ 20 ∧ atI (odds.map PyData.str) (c % 11) = some (.str (SX.S l)) := by
  obtain ⟨x, hx, e⟩ := atI_mod (odds.map PyData.str) c 11 (by rw [List.length_map, odds_len]; rfl) (by decide)
  obtain ⟨z, hz, rfl⟩ := List.mem_map.mp hx
  obtain ⟨h1, h2⟩ := okB_ok (List.all_eq_true.mp odds_ok z hz)
  exact ⟨z.cps.toList, h1, h2, by rw [e, SX.S_tl]⟩
theorem sign_at (m : Int) : ∃ s, Sgn s ∧ atI [PyData.str " ", .str "\n", .str "\t", .str (SX.S [sg (m / 4)])] (m % 4) = some (.str (SX.S [s])) := by
  have h1 := Int.emod_nonneg m (show (4 : Int) ≠ 0 by decide)
  have h2 := Int.emod_lt_of_pos m (show (0 : Int) < 4 by decide)
  have h : m % 4 = 0 ∨ m % 4 = 1 ∨ m % 4 = 2 ∨ m % 4 = 3 := by omega
  rcases h with e | e | e | e <;> rw [e]
  · exact ⟨32, .inr (.inl rfl), by rw [atI_0]; rfl⟩
  · exact ⟨10, .inr (.inr (.inl rfl)), by rw [atI_1]; rfl⟩
  · exact ⟨9, .inr (.inr (.inr rfl)), by rw [atI_2]; rfl⟩
  · exact ⟨sg (m / 4), .inl (sg_mem _), by rw [atI_3]⟩
theorem okT_app {a b : List Nat} (ha : okT a) (hb : okT b) : okT (a ++ b) := fun x hx => (List.mem_append.mp hx).elim (ha x) (hb x)
theorem F_changed_P {l : List Nat} (hT : okT l) (hl : l.length ≤ 400) (way c m : Int) (hw : 1 ≤ way ∧ way ≤ 3) : ∃ l', okT l' ∧ l'.length ≤ 500 ∧ F_changed [.str (SX.S l), .int way, .int c, .int m] = some (.str (SX.S l')) := by
  have p0 := Int.emod_nonneg c (show ((l.length : Int) + 1) ≠ 0 by omega)
  have p1 := Int.emod_lt_of_pos c (show (0 : Int) < (l.length : Int) + 1 by omega)
  obtain ⟨p, hp⟩ : ∃ p : Nat, c % ((l.length : Int) + 1) = (p : Int) := ⟨(c % ((l.length : Int) + 1)).toNat, by omega⟩
  have hpl : p ≤ l.length := by omega
  obtain ⟨s, hs, es⟩ := sign_at m
  obtain ⟨o, ho, hol, eo⟩ := odd_at c
  have hz : (SX.S l).length ≤ LIM := by rw [SX.S_len]; unfold LIM; omega
  have ln : (SX.S l).length = l.length := SX.S_len l
  have gl : gLen [.str (SX.S l)] = some (.int (l.length : Int)) := by
    rw [gLen_str _ hz, ln]
  have gm : gMod (.int c) (.int ((l.length : Int) + 1)) = some (.int (p : Int)) := by
    rw [gMod_int _ _ (cPos_of (by omega) (by omega)), hp]
  have c1 : cutS (SX.S l) none (some (p : Int)) = SX.S (l.take p) := by rw [cutS_S, cutA_to]
  have c2 : cutS (SX.S l) (some (p : Int)) none = SX.S (l.drop p) := by rw [cutS_S, cutA_from]
  have c3 : cutS (SX.S l) (some ((p : Int) + 1)) none = SX.S (l.drop (p + 1)) := by
    rw [cutS_S, cutA_fromI _ _ (by omega), show ((p : Int) + 1).toNat = p + 1 by omega]
  have fs : F_sign [.int (m / 4)] = some (.str (SX.S [sg (m / 4)])) := F_sign_eq (m / 4)
  have tT : okT (l.take p) := fun x hx => hT x (List.mem_of_mem_take hx)
  have dT : okT (l.drop p) := fun x hx => hT x (List.mem_of_mem_drop hx)
  have dT2 : okT (l.drop (p + 1)) := fun x hx => hT x (List.mem_of_mem_drop hx)
  have sT : okT [s] := fun x hx => by
    obtain rfl := List.mem_singleton.mp hx
    exact hs
  have hw' : way = 1 ∨ way = 2 ∨ way = 3 := by omega
  rcases hw' with rfl | rfl | rfl
  · have g1 := gAdd_S (l.take p) [s] (by simp; unfold LIM; omega)
    have g2 := gAdd_S (l.take p ++ [s]) (l.drop p) (by simp; unfold LIM; omega)
    refine ⟨l.take p ++ [s] ++ l.drop p, okT_app (okT_app tT sT) dT, by simp; omega, ?_⟩
    unfold F_changed
    rw [runF_eq]
    simp [b_changed, rho0, N_changed, eSlS, oNone, oSome, hz, gl, gm, fs, es, c1, c2, g1, g2]
  · have g1 := gAdd_S (l.take p) (l.drop (p + 1)) (by simp; unfold LIM; omega)
    refine ⟨l.take p ++ l.drop (p + 1), okT_app tT dT2, by simp; omega, ?_⟩
    unfold F_changed
    rw [runF_eq]
    simp [b_changed, rho0, N_changed, eSlS, oNone, oSome, hz, gl, gm, fs, es, c1, c3, g1]
  · have ga : gAdd (.list [.str "", .str "\n", .str " \n", .str "a b c", .str "a b\n", .str "a b c d\n", .str "a b c\n\n", .str " a b c\n", .str "a  b c\n"]) (.list [.str "a b c \n", .str "\na b c\n"]) = some (.list (odds.map .str)) := by
      rw [gAdd_list _ _ (by simp [LIM])]
      rfl
    refine ⟨o, ho, by omega, ?_⟩
    unfold F_changed
    rw [runF_eq]
    simp [b_changed, rho0, N_changed, eSlS, oNone, oSome, hz, gl, gm, fs, es, ga, eo]
end RK
namespace RK
open PySem PySem.Spec PyProof.Rows L2 RT
theorem join3 (a b c : List Nat) (h : a.length + b.length + c.length ≤ 1000) : gJoin (.str " ") (.list [.str (SX.S a), .str (SX.S b), .str (SX.S c)]) = some (.str (SX.S (a ++ (32 :: (b ++ (32 :: c)))))) := by
  have e := gJoin_strs " " [SX.S a, SX.S b, SX.S c] (by
    simp only [List.map_cons, List.map_nil, List.sum_cons, List.sum_nil, List.length_cons, List.length_nil, SX.S_len]
    rw [show (" " : Str).length = 1 from rfl]
    unfold LIM
    omega)
  rw [show ([SX.S a, SX.S b, SX.S c].map PyData.str) = [.str (SX.S a), .str (SX.S b), .str (SX.S c)] from rfl] at e
  rw [e]
  congr 2
  rw [blank_S, show [SX.S a, SX.S b, SX.S c] = [a, b, c].map SX.S from rfl, SX.join_S]
  rfl
theorem okT_name (p c : Int) : okT (nameC p c) := fun x hx => .inl (nameC_mem hx)
theorem readP_some {l : List Nat} {rs : List PyData} (hT : okT l) (h : readP l = some rs) : okDs rs = true ∧ (PyData.list rs).depth ≤ 64 ∧ rs.length ≤ l.length + 1 ∧ ∀ d ∈ rs, ∃ a b c, d = tupS a b c := by
  obtain ⟨ps, p, s3', ec, _⟩ : ∃ ps p, ∃ _s : Unit, cut 10 [] l = ps ++ [p] ∧ True := by
    rcases List.eq_nil_or_concat (cut 10 [] l) with h0 | ⟨m, x, e⟩
    · exact absurd h0 (cut_ne 10 l [])
    · exact ⟨m, x, (), by simpa using e, trivial⟩
  rw [readP_cut ec] at h
  split at h
  · cases h
  · rename_i hn
    cases h
    have pk : ∀ q ∈ ps, okT q := fun q hq => by
      obtain ⟨_, h2⟩ := cut_mem (P := Sgn) (acc := []) (by simp) hT q (by rw [ec]; exact List.mem_append_left _ hq)
      exact fun x hx => (h2 x hx).2
    have ok := rows_ok pk
    refine ⟨ok.1, ok.2, ?_, fun d hd => ?_⟩
    · have := cut_len 10 l []
      rw [ec] at this
      simp at this ⊢
      omega
    · obtain ⟨q, hq, rfl⟩ := List.mem_map.mp hd
      rcases rowD_cases (pk q hq) with e | ⟨_, a, b, c, e⟩
      · exfalso
        refine hn (.inr ?_)
        rw [List.any_eq_true]
        exact ⟨q, hq, rowD_none.mp e⟩
      · exact ⟨a, b, c, e⟩
/-! ### the law -/
abbrev mkB : SS := sSeq (sSet 3 (eCall F_cell (eCons (eVar 0) (eCons (eOp gAdd (eC (.int 1)) (eVarB 2)) eNil))))
  (sSeq (sSet 4 (eList (eLstD (eCons (eCall F_name_by (eCons (eVar 3) (eCons (eVar 3) eNil))) (eCons (eCall F_name_by (eCons (eOp gFdiv (eVarB 3) (eC (.int 93))) (eCons (eOp gFdiv (eVarB 3) (eC (.int 7))) eNil))) (eCons (eCall F_name_by (eCons (eOp gFdiv (eVarB 3) (eC (.int 8649))) (eCons (eOp gFdiv (eVarB 3) (eC (.int 49))) eNil))) eNil))))))
  (sSet 1 (eOp gAdd (eOp gAdd (eVarB 1) (eOp gJoin (eC (.str " ")) (eVarB 4))) (eC (.str "\n")))))
def InvT (ns : List Int) (k : Nat) (ρ : Rho) : Prop := ∃ (t : List Nat) (s2 s3 s4 : Sl), okT t ∧ t.length ≤ 63 * k ∧ ρ = [.val (scrD ns), .val (.str (SX.S t)), s2, s3, s4, .no, .no, .no, .no]
theorem mk_step (ns : List Int) (k : Nat) (ρ : Rho) (hk : k < 5) (h : InvT ns k ρ) : ∃ ρ', mkB (ρ.set 2 (.val (.int (k : Int)))) = .nx ρ' ∧ InvT ns (k + 1) ρ' := by
  obtain ⟨t, s2, s3, s4, hT, hl, rfl⟩ := h
  have fc : F_cell [scrD ns, .int (1 + (k : Int))] = some (.int (cell ns (1 + k))) := by
    have := F_cell_eq ns (1 + k)
    rw [← this]
    push_cast
    rfl
  generalize cell ns (1 + k) = v at fc
  have l1 := nameC_len v v
  have l2 := nameC_len (v / 93) (v / 7)
  have l3 := nameC_len (v / 8649) (v / 49)
  have f1 : F_name_by [.int v, .int v] = some (.str (SX.S (nameC v v))) := F_name_by_eq v v
  have f2 : F_name_by [.int (v / 93), .int (v / 7)] = some (.str (SX.S (nameC (v / 93) (v / 7)))) := F_name_by_eq _ _
  have f3 : F_name_by [.int (v / 8649), .int (v / 49)] = some (.str (SX.S (nameC (v / 8649) (v / 49)))) := F_name_by_eq _ _
  have o1 := okT_name v v
  have o2 := okT_name (v / 93) (v / 7)
  have o3 := okT_name (v / 8649) (v / 49)
  generalize nameC v v = a at l1 f1 o1
  generalize nameC (v / 93) (v / 7) = b at l2 f2 o2
  generalize nameC (v / 8649) (v / 49) = c at l3 f3 o3
  have j := join3 a b c (by omega)
  have g1 := gAdd_S t (a ++ (32 :: (b ++ (32 :: c)))) (by simp; unfold LIM; omega)
  have g2 := gAdd_S (t ++ (a ++ (32 :: (b ++ (32 :: c))))) [10] (by simp; unfold LIM; omega)
  have g2' : gAdd (.str (SX.S (t ++ (a ++ (32 :: (b ++ (32 :: c))))))) (.str "\n") = some (.str (SX.S (t ++ (a ++ (32 :: (b ++ (32 :: c)))) ++ [10]))) := g2
  refine ⟨[.val (scrD ns), .val (.str (SX.S (t ++ (a ++ (32 :: (b ++ (32 :: c)))) ++ [10]))), .val (.int (k : Int)), .val (.int v), .val (.list [.str (SX.S a), .str (SX.S b), .str (SX.S c)]), .no, .no, .no, .no], ?_, t ++ (a ++ (32 :: (b ++ (32 :: c)))) ++ [10], _, _, _, ?_, by simp; omega, rfl⟩
  · show mkB [.val (scrD ns), .val (.str (SX.S t)), .val (.int (k : Int)), s3, s4, .no, .no, .no, .no] = _
    generalize hX : t ++ (a ++ (32 :: (b ++ (32 :: c)))) ++ [10] = tx at g2'
    generalize hY : t ++ (a ++ (32 :: (b ++ (32 :: c)))) = ty at g1 g2'
    generalize hZ : a ++ (32 :: (b ++ (32 :: c))) = tz at j g1
    simp [fc, f1, f2, f3, j, g1, g2', LIM]
  · have o32 : Sgn 32 := .inr (.inl rfl)
    have o10 : Sgn 10 := .inr (.inr (.inl rfl))
    intro x hx
    simp only [List.mem_append, List.mem_cons, List.mem_singleton, List.not_mem_nil, or_false] at hx
    rcases hx with (h | h | rfl | h | rfl | h) | rfl
    · exact hT x h
    · exact o1 x h
    · exact o32
    · exact o2 x h
    · exact o32
    · exact o3 x h
    · exact o10
abbrev endB : SS := (sSeq (sSet 6 (eCall F_rows_of (eCons (eVar 1) eNil)))
  (sSeq (sSet 7 (eC .none))
  (sSeq (sTry (sSetX 7 (xCall F_read (eCons (eVar 1) eNil))) csBadLine (sRet (eAndF (eOp gIs (eVarB 6) (eC .none)) (eCall F_refused_by_any (eCons (eVar 1) eNil)))))
  (sSeq (sIf (tOrF (bF (eOp gIs (eVarB 6) (eC .none))) (tNotF (bF (eIsi .list (eVarB 7))))) (sRet (eC (.bool false))) sNext)
  (sRet (eAndF (eOp gEq (eVarB 7) (eVarB 6)) (eOp gEq (eList (lLc (iL (eVarB 7)) 8 (tNotF (bF (eIsi .tuple (eVarB 8)))) (eC (.int 1)))) (eList (eLstD eNil)))))))))
theorem end_true {l : List Nat} (hT : okT l) (hl : l.length ≤ 1000) (s0 s2 s3 s4 s5 : Sl) : (endB [s0, .val (.str (SX.S l)), s2, s3, s4, s5, .no, .no, .no]).res = some (.bool true) := by
  have fr := F_rows_P hT hl
  have rd := F_read_P hT hl
  have s6 : sSet 6 (eCall F_rows_of (eCons (eVar 1) eNil)) [s0, .val (.str (SX.S l)), s2, s3, s4, s5, .no, .no, .no] = .nx [s0, .val (.str (SX.S l)), s2, s3, s4, s5, .val (dueD (readP l)), .no, .no] := by
    simp [fr]
  have s7 : sSet 7 (eC .none) [s0, .val (.str (SX.S l)), s2, s3, s4, s5, .val (dueD (readP l)), .no, .no] = .nx [s0, .val (.str (SX.S l)), s2, s3, s4, s5, .val (dueD (readP l)), .val .none, .no] := by
    simp
  unfold endB
  rw [sSeq_eq, s6, thn_nx, sSeq_eq, s7, thn_nx, sSeq_eq]
  cases hr : readP l with
  | none =>
    rw [hr] at rd
    have rf : F_refused_by_any [.str (SX.S l)] = some (.bool true) := by
      unfold F_refused_by_any
      rw [rd]
      rfl
    have x7 : sSetX 7 (xCall F_read (eCons (eVar 1) eNil)) [s0, .val (.str (SX.S l)), s2, s3, s4, s5, .val (dueD none), .val .none, .no] = .ex "BadLine" [s0, .val (.str (SX.S l)), s2, s3, s4, s5, .val (dueD none), .val .none, .no] := by
      have e : eCons (eVar 1) eNil [s0, .val (.str (SX.S l)), s2, s3, s4, s5, .val (dueD none), .val .none, .no] = some [.str (SX.S l)] := by simp
      unfold sSetX xCall
      rw [e]
      simp only
      rw [rd]
      rfl
    have t : sTry (sSetX 7 (xCall F_read (eCons (eVar 1) eNil))) csBadLine (sRet (eAndF (eOp gIs (eVarB 6) (eC .none)) (eCall F_refused_by_any (eCons (eVar 1) eNil)))) [s0, .val (.str (SX.S l)), s2, s3, s4, s5, .val (dueD none), .val .none, .no] =
        sRet (eAndF (eOp gIs (eVarB 6) (eC .none)) (eCall F_refused_by_any (eCons (eVar 1) eNil))) [s0, .val (.str (SX.S l)), s2, s3, s4, s5, .val (dueD none), .val .none, .no] := by
      unfold sTry
      rw [x7]
      rfl
    rw [t]
    simp [rf, dueD]
  | some rs =>
    rw [hr] at rd
    obtain ⟨k1, k2, k3, k4⟩ := readP_some hT hr
    have x7 : sSetX 7 (xCall F_read (eCons (eVar 1) eNil)) [s0, .val (.str (SX.S l)), s2, s3, s4, s5, .val (.list rs), .val .none, .no] = .nx [s0, .val (.str (SX.S l)), s2, s3, s4, s5, .val (.list rs), .val (.list rs), .no] := by
      have e : eCons (eVar 1) eNil [s0, .val (.str (SX.S l)), s2, s3, s4, s5, .val (.list rs), .val .none, .no] = some [.str (SX.S l)] := by simp
      unfold sSetX xCall
      rw [e]
      simp only
      rw [rd]
      rfl
    have t : sTry (sSetX 7 (xCall F_read (eCons (eVar 1) eNil))) csBadLine (sRet (eAndF (eOp gIs (eVarB 6) (eC .none)) (eCall F_refused_by_any (eCons (eVar 1) eNil)))) [s0, .val (.str (SX.S l)), s2, s3, s4, s5, .val (.list rs), .val .none, .no] =
        .nx [s0, .val (.str (SX.S l)), s2, s3, s4, s5, .val (.list rs), .val (.list rs), .no] := by
      unfold sTry
      rw [x7]
    have same := gEq_same k1 k2
    have lim : rs.length ≤ LIM := by unfold LIM; omega
    have lc : lcF 8 (tNotF (bF (eIsi .tuple (eVarB 8)))) (eC (.int 1)) [frz1 s0, .val (.str (SX.S l)), frz1 s2, frz1 s3, frz1 s4, frz1 s5, .val (.list rs), .val (.list rs), .no] rs = some ((rs.filter fun _ => false).map fun _ => .int 1) := by
      refine lcF_filter (fun _ => false) (fun _ => .int 1) (fun d hd => ?_) (fun d hd z => Bool.noConfusion z)
      obtain ⟨a, b, c, rfl⟩ := k4 d hd
      simp [tupS, dataD, isiD]
    have nil0 : gEq (.list []) (.list []) = some (.bool true) := gEq_same (l := []) rfl (by decide)
    show ((sTry _ _ _ [s0, .val (.str (SX.S l)), s2, s3, s4, s5, .val (.list rs), .val .none, .no]).thn _).res = _
    rw [t, thn_nx]
    have l2 : lstD (.list rs) = some rs := lstD_list _ lim
    rw [show (rs.filter fun _ => false) = [] from by simp, List.map_nil] at lc
    simp [same, lim, lc, nil0, dataD, isiD]
theorem law_true (ns : List Int) (hl : ns.length ≤ 63) : F_law [scrD ns] = some (.bool true) := by
  have fc0 : F_cell [scrD ns, .int 0] = some (.int (cell ns 0)) := F_cell_eq ns 0
  have fc6 : F_cell [scrD ns, .int 6] = some (.int (cell ns 6)) := F_cell_eq ns 6
  have fc7 : F_cell [scrD ns, .int 7] = some (.int (cell ns 7)) := F_cell_eq ns 7
  generalize cell ns 0 = v0 at fc0
  generalize cell ns 6 = v6 at fc6
  generalize cell ns 7 = v7 at fc7
  have m0 := Int.emod_nonneg v0 (show (5 : Int) ≠ 0 by decide)
  have m1 := Int.emod_lt_of_pos v0 (show (0 : Int) < 5 by decide)
  obtain ⟨n, hn⟩ : ∃ n : Nat, v0 % 5 = (n : Int) := ⟨(v0 % 5).toNat, by omega⟩
  have hn5 : n < 5 := by omega
  obtain ⟨ρ', lp, t, s2, s3, s4, hT, htl, rfl⟩ := forF_rng (j := 2) (body := mkB) (InvT ns) (n := n) (ρ := [.val (scrD ns), .val (.str (SX.S [])), .no, .no, .no, .no, .no, .no, .no]) ⟨[], .no, .no, .no, (fun _ z => nomatch z), by simp, rfl⟩ (fun k ρ hk hi => mk_step ns k ρ (by omega) hi)
  have htl' : t.length ≤ 252 := by omega
  have w0 := Int.emod_nonneg (v0 / 5) (show (4 : Int) ≠ 0 by decide)
  have w1 := Int.emod_lt_of_pos (v0 / 5) (show (0 : Int) < 4 by decide)
  unfold F_law
  rw [runF_eq, if_pos (show [scrD ns].length = 1 from rfl)]
  have r0 : rho0 N_law [scrD ns] = [.val (scrD ns), .no, .no, .no, .no, .no, .no, .no, .no] := rfl
  have q1 : sSet 1 (eC (.str "")) [.val (scrD ns), .no, .no, .no, .no, .no, .no, .no, .no] = .nx [.val (scrD ns), .val (.str (SX.S [])), .no, .no, .no, .no, .no, .no, .no] := by
    simp
    rfl
  have q2 : sFor (iR1 (eCons (eOp gMod (eCall F_cell (eCons (eVar 0) (eCons (eC (.int 0)) eNil))) (eC (.int 5))) eNil)) (tg1 2) mkB [.val (scrD ns), .val (.str (SX.S [])), .no, .no, .no, .no, .no, .no, .no] = .nx [.val (scrD ns), .val (.str (SX.S t)), s2, s3, s4, .no, .no, .no, .no] := by
    unfold sFor
    have : iR1 (eCons (eOp gMod (eCall F_cell (eCons (eVar 0) (eCons (eC (.int 0)) eNil))) (eC (.int 5))) eNil) [.val (scrD ns), .val (.str (SX.S [])), .no, .no, .no, .no, .no, .no, .no] = some (rangeD 0 n) := by
      have b1 : (n : Int) ≤ 1000000 := by omega
      have b2 : -1000000 ≤ (n : Int) := by omega
      have b3 : n ≤ LIM := by unfold LIM; omega
      simp [fc0, hn, b1, b2, b3]
    rw [this]
    exact lp
  have q3 : sSet 5 (eOp gMod (eOp gFdiv (eCall F_cell (eCons (eVar 0) (eCons (eC (.int 0)) eNil))) (eC (.int 5))) (eC (.int 4))) [.val (scrD ns), .val (.str (SX.S t)), s2, s3, s4, .no, .no, .no, .no] = .nx [.val (scrD ns), .val (.str (SX.S t)), s2, s3, s4, .val (.int (v0 / 5 % 4)), .no, .no, .no] := by
    simp [fc0]
  rw [r0]
  show ((sSeq (sSet 1 (eC (.str ""))) (sSeq (sFor _ (tg1 2) mkB) (sSeq _ (sSeq _ endB)))) _).res = _
  rw [sSeq_eq, q1, thn_nx, sSeq_eq, q2, thn_nx, sSeq_eq, q3, thn_nx, sSeq_eq]
  by_cases hw : 0 < v0 / 5 % 4
  · obtain ⟨l', h1, h2, h3⟩ := F_changed_P hT (by omega) (v0 / 5 % 4) v6 v7 ⟨by omega, by omega⟩
    have q4 : sIf (bF (eOp gGt (eVarB 5) (eC (.int 0)))) (sSet 1 (eCall F_changed (eCons (eVar 1) (eCons (eVar 5) (eCons (eCall F_cell (eCons (eVar 0) (eCons (eC (.int 6)) eNil))) (eCons (eCall F_cell (eCons (eVar 0) (eCons (eC (.int 7)) eNil))) eNil)))))) sNext [.val (scrD ns), .val (.str (SX.S t)), s2, s3, s4, .val (.int (v0 / 5 % 4)), .no, .no, .no] = .nx [.val (scrD ns), .val (.str (SX.S l')), s2, s3, s4, .val (.int (v0 / 5 % 4)), .no, .no, .no] := by
      simp [hw, fc6, fc7, h3]
    rw [q4, thn_nx]
    exact end_true h1 (by omega) _ _ _ _ _
  · have q4 : sIf (bF (eOp gGt (eVarB 5) (eC (.int 0)))) (sSet 1 (eCall F_changed (eCons (eVar 1) (eCons (eVar 5) (eCons (eCall F_cell (eCons (eVar 0) (eCons (eC (.int 6)) eNil))) (eCons (eCall F_cell (eCons (eVar 0) (eCons (eC (.int 7)) eNil))) eNil)))))) sNext [.val (scrD ns), .val (.str (SX.S t)), s2, s3, s4, .val (.int (v0 / 5 % 4)), .no, .no, .no] = .nx [.val (scrD ns), .val (.str (SX.S t)), s2, s3, s4, .val (.int (v0 / 5 % 4)), .no, .no, .no] := by
      simp [hw]
    rw [q4, thn_nx]
    exact end_true hT (by omega) _ _ _ _ _
abbrev lawLevel : Nat := 5
end RK
namespace RK
open PySem PySem.Spec PyProof.Rows L2 RT
def d_is_name : He.DefD := ⟨("is_name", none), "is_name", "is_name", defArgs s_is_name, defBody s_is_name, defScope s_is_name, [], []⟩
def d_row_of : He.DefD := ⟨("row_of", none), "row_of", "row_of", defArgs s_row_of, defBody s_row_of, defScope s_row_of, [], []⟩
def d_read : He.DefD := ⟨("read", none), "read", "read", defArgs s_read, defBody s_read, defScope s_read, [], []⟩
def d_cell : He.DefD := ⟨("_law_cell", none), "_law_cell", "_law_cell", defArgs s_cell, defBody s_cell, defScope s_cell, [], []⟩
def d_sign : He.DefD := ⟨("_law_sign", none), "_law_sign", "_law_sign", defArgs s_sign, defBody s_sign, defScope s_sign, [], []⟩
def d_name_by : He.DefD := ⟨("_law_name_by", none), "_law_name_by", "_law_name_by", defArgs s_name_by, defBody s_name_by, defScope s_name_by, [], []⟩
def d_changed : He.DefD := ⟨("_law_changed", none), "_law_changed", "_law_changed", defArgs s_changed, defBody s_changed, defScope s_changed, [], []⟩
def d_lrow_of : He.DefD := ⟨("_law_row_of", none), "_law_row_of", "_law_row_of", defArgs s_lrow_of, defBody s_lrow_of, defScope s_lrow_of, [], []⟩
def d_rows_of : He.DefD := ⟨("_law_rows_of", none), "_law_rows_of", "_law_rows_of", defArgs s_rows_of, defBody s_rows_of, defScope s_rows_of, [], []⟩
def d_refused_by_any : He.DefD := ⟨("_law_refused_by_any", none), "_law_refused_by_any", "_law_refused_by_any", defArgs s_refused_by_any, defBody s_refused_by_any, defScope s_refused_by_any, [], []⟩
def d_law : He.DefD := ⟨("law", none), "law", "law", defArgs s_law, defBody s_law, defScope s_law, [], []⟩
def fn : List He.DefD := [d_is_name, d_row_of, d_read, d_cell, d_sign, d_name_by, d_changed, d_lrow_of, d_rows_of, d_refused_by_any, d_law]
def fa : List He.Fa := [.glo "is_name", .glo "row_of", .glo "read", .glo "_law_cell", .glo "_law_sign", .glo "_law_name_by", .glo "_law_changed", .glo "_law_row_of", .glo "_law_rows_of", .glo "_law_refused_by_any", .glo "law", .free "ValueError", .free "isinstance", .free "len", .free "list", .free "range", .free "tuple", .int "MOST" 20, .str "SIGNS" "!\"#$&'()*+,-./0123456789:;<=>?@ABCDEFGHIJKLMNOPQRSTUVWXYZ[\\]^_`abcdefghijklmnopqrstuvwxyz{|}~", .glo "BadLine", .exc "BadLine", .glo "RotaError", .exm "BadLine" "RotaError" true, .glo "BadLine", .exm "BadLine" "BadLine" true, .glo "BadName", .glo "BadStretch", .glo "BadCount", .glo "Twice", .glo "Missing"]
abbrev R : PySem.W.OpenRow := PySem.W.OpenLaw.row PySem.Challenge.rw_rota_k07_lines_read
def ex (K : PySem.W.Frag) : Bool := excB K (He.ga K "BadLine") && (kitBs K (He.ga K "BadLine") ([He.ga K "BadName", He.ga K "BadStretch", He.ga K "BadCount", He.ga K "Twice", He.ga K "Missing"].map Value.ref) false && (kitB1 K (He.ga K "BadLine") (.type "ValueError") true && kitB1 K (He.ga K "BadLine") (.ref (He.ga K "BadLine")) true))
abbrev hk : PySem.W.Hook := hookP 5 fa fn ex
def ob (s : PySem.W.SharedT) : He.AlD × Bool := obsP 5 fa fn ex (HandSHeadRun.getT s)
theorem ob_eq (s : PySem.W.SharedT) : ob s = hk.obs s.abs := obsP_eq (HandSHeadRun.getT_eq s)
abbrev loose : List Str := [("RotaError" : Str), ("BadName" : Str), ("BadStretch" : Str), ("BadCount" : Str), ("Twice" : Str), ("Missing" : Str), ("BadLine" : Str), ("MOST" : Str), ("SIGNS" : Str), ("is_name" : Str), ("row_of" : Str), ("read" : Str), ("_law_cell" : Str), ("_law_sign" : Str), ("_law_name_by" : Str), ("_law_changed" : Str), ("_law_row_of" : Str), ("_law_rows_of" : Str), ("_law_refused_by_any" : Str)]
theorem run (w : World) : HandSHeadRun.RunEq R (PySem.W.view R.prog [23]) hk ob 8000 loose w := by
  intro os
  kernel_rfl
theorem txt {K : PySem.W.Frag} {h : Heap} {mg : Str → Option Value} (X : K.In h) (G : h.Ns mainGlobals mg) (c : He.SaysD fa fn K) (cx : ex K = true) : Txt K mg where
  f_is_name := c.def_ 0 (d := d_is_name) rfl
  g_is_name := He.glo_ok X G (c.fact 0 (f := .glo "is_name") rfl)
  f_row_of := c.def_ 1 (d := d_row_of) rfl
  g_row_of := He.glo_ok X G (c.fact 1 (f := .glo "row_of") rfl)
  f_read := c.def_ 2 (d := d_read) rfl
  g_read := He.glo_ok X G (c.fact 2 (f := .glo "read") rfl)
  f_cell := c.def_ 3 (d := d_cell) rfl
  g_cell := He.glo_ok X G (c.fact 3 (f := .glo "_law_cell") rfl)
  f_sign := c.def_ 4 (d := d_sign) rfl
  g_sign := He.glo_ok X G (c.fact 4 (f := .glo "_law_sign") rfl)
  f_name_by := c.def_ 5 (d := d_name_by) rfl
  g_name_by := He.glo_ok X G (c.fact 5 (f := .glo "_law_name_by") rfl)
  f_changed := c.def_ 6 (d := d_changed) rfl
  g_changed := He.glo_ok X G (c.fact 6 (f := .glo "_law_changed") rfl)
  f_lrow_of := c.def_ 7 (d := d_lrow_of) rfl
  g_lrow_of := He.glo_ok X G (c.fact 7 (f := .glo "_law_row_of") rfl)
  f_rows_of := c.def_ 8 (d := d_rows_of) rfl
  g_rows_of := He.glo_ok X G (c.fact 8 (f := .glo "_law_rows_of") rfl)
  f_refused_by_any := c.def_ 9 (d := d_refused_by_any) rfl
  g_refused_by_any := He.glo_ok X G (c.fact 9 (f := .glo "_law_refused_by_any") rfl)
  f_law := c.def_ 10 (d := d_law) rfl
  g_law := He.glo_ok X G (c.fact 10 (f := .glo "law") rfl)
  z_ValueError := He.free_ok X G (c.fact 11 (f := .free "ValueError") rfl)
  z_isinstance := He.free_ok X G (c.fact 12 (f := .free "isinstance") rfl)
  z_len := He.free_ok X G (c.fact 13 (f := .free "len") rfl)
  z_list := He.free_ok X G (c.fact 14 (f := .free "list") rfl)
  z_range := He.free_ok X G (c.fact 15 (f := .free "range") rfl)
  z_tuple := He.free_ok X G (c.fact 16 (f := .free "tuple") rfl)
  c_MOST := He.int_ok X G (c.fact 17 (f := .int "MOST" 20) rfl)
  c_SIGNS := He.str_ok X G (c.fact 18 (f := .str "SIGNS" "!\"#$&'()*+,-./0123456789:;<=>?@ABCDEFGHIJKLMNOPQRSTUVWXYZ[\\]^_`abcdefghijklmnopqrstuvwxyz{|}~") rfl)
  e_BadLine := ⟨He.glo_ok X G (c.fact 19 (f := .glo "BadLine") rfl), (He.exc_ok (c.fact 20 (f := .exc "BadLine") rfl)).1, (He.exc_ok (c.fact 20 (f := .exc "BadLine") rfl)).2.1, (He.exc_ok (c.fact 20 (f := .exc "BadLine") rfl)).2.2.1, (He.exc_ok (c.fact 20 (f := .exc "BadLine") rfl)).2.2.2⟩
  gh_RotaError := He.glo_ok X G (c.fact 21 (f := .glo "RotaError") rfl)
  x_BadLine_RotaError := He.exm_ok (c.fact 22 (f := .exm "BadLine" "RotaError" true) rfl)
  gh_BadLine := He.glo_ok X G (c.fact 23 (f := .glo "BadLine") rfl)
  x_BadLine_BadLine := He.exm_ok (c.fact 24 (f := .exm "BadLine" "BadLine" true) rfl)
  xe := excB_ok (He.ba cx).1
  ka := of_decide_eq_true (He.ba (He.ba cx).2).1
  kv := of_decide_eq_true (He.ba (He.ba (He.ba cx).2).2).1
  ks := of_decide_eq_true (He.ba (He.ba (He.ba cx).2).2).2
  gl_BadName := He.glo_ok X G (c.fact 25 (f := .glo "BadName") rfl)
  gl_BadStretch := He.glo_ok X G (c.fact 26 (f := .glo "BadStretch") rfl)
  gl_BadCount := He.glo_ok X G (c.fact 27 (f := .glo "BadCount") rfl)
  gl_Twice := He.glo_ok X G (c.fact 28 (f := .glo "Twice") rfl)
  gl_Missing := He.glo_ok X G (c.fact 29 (f := .glo "Missing") rfl)
theorem facts {P : Program} {w : World} {K : PySem.W.Frag} {h : Heap} {mg : Str → Option Value} {f : Addr} (X : K.In h) (G : h.Ns mainGlobals mg) (hfa : mg ("law" : Str) = some (.ref f)) (c : He.SaysD fa fn K) (cx : ex K = true) :
    ∃ fd : FuncData, (∀ (s : Shared) (v : Value), BindsTo s fd ⟨[v], []⟩ [("_law_script", v)]) ∧ ∀ base : Heap, K.In base → base.Ns mainGlobals mg → FnOk P w K mg base CX0 lawLevel f fd ["_law_script"] (spPure K F_law) := by
  have T := txt X G c cx
  obtain ⟨fd, F⟩ := T.f_law
  have e := hfa.symm.trans T.g_law
  cases e
  have b := FunD.bindsA (ps := ["_law_script"]) F fun _ _ _ _ _ _ us hl => match us, hl with | [_], _ => rfl
  exact ⟨fd, fun s v => b s [v] rfl, fun base _ _ => okf_law T F⟩
end RK
open PySem PySem.W PySem.Calls PyProof.Rows
set_option maxRecDepth 100000 in
set_option maxHeartbeats 0 in
theorem PySem.Challenge.cw_rota_k07_lines_read_holds : PySem.Challenge.rw_rota_k07_lines_read.Holds := by
  w_on; o_law
  refine HandSHeadRun.head_any (r := OpenLaw.row PySem.Challenge.rw_rota_k07_lines_read) (q := view (OpenLaw.row PySem.Challenge.rw_rota_k07_lines_read).prog [23]) (H := RK.hk) (ob := RK.ob) (M := 8000) (loose := RK.loose) (d := HandSHeadRun.topDef (OpenLaw.row PySem.Challenge.rw_rota_k07_lines_read).prog 23) (kwd := []) RK.ob_eq
    (by kernel_rfl) (fun s => by kernel_rfl) RK.run (by kernel_rfl) (by kernel_rfl) (by kernel_rfl) (by rfl) (by first | assumption | decide +kernel) (by decide +kernel) ⟨rfl, rfl, rfl, rfl, rfl, by decide +kernel⟩ ?hw ?hc
  case hw => w_witness2
  case hc =>
    refine L2.walk_ofE (l := PySem.Challenge.rw_rota_k07_lines_read) (n := 63) (k := RK.lawLevel) (x := "_law_script") (CX := L2.CX0) rfl (by decide) (by kernel_rfl) ⟨rfl, by decide, by decide⟩ ?F (fun _ _ _ _ z => z)
    intro w mg fa h Y G hmg0
    obtain ⟨K, KX, c, cx⟩ := Y
    have hmg : mg ("law" : PySem.Str) = some (.ref fa) := by
      have e : (HandSHeadRun.topDef (OpenLaw.row PySem.Challenge.rw_rota_k07_lines_read).prog 23).name = ("law" : PySem.Str) := by kernel_rfl
      rw [← e]
      exact hmg0
    obtain ⟨fd, hb, hF⟩ := RK.facts (P := (PySem.Challenge.rw_rota_k07_lines_read).prog) (w := w) KX G hmg c cx
    exact ⟨K, fd, RT.spPure K RK.F_law, KX, hb, fun H a ns hl _ hS => RT.law_sp (RK.law_true ns hl) hS, hF⟩
