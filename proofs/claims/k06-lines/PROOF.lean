import PyProof.Rows.All
import Wide.All
import OpenK.AllK
import Wide.FinOn
import KE.KStateDown
import HandS.ForMost
import HandS.More
import HandS.Deep
import HandS.Defaults
import HandS.Style
import HandS.IsInst
import HandS.ForExc
import Lean
import HandS.WordsExc
import HandS.Head0
import HandS.Head1
import HandS.Head2
import HandS.HeadEnd
import HandS.HeadHook1
import HandS.HeadHook2
import HandS.Codes
import PySem.Challenge.RW_rota_k06_lines_written
set_option Elab.async false
set_option linter.all false
set_option maxRecDepth 100000
set_option maxHeartbeats 4000000
/-! Plain data over the heap: what an expression, a test, a statement makes of data, as total functions. -/
namespace RT
open PySem PySem.Spec PyProof.Rows L2

/-! ### data in a part of the heap -/
mutual
inductive Dq (K : PySem.W.Frag) (H : Hp) : V → PyData → Prop
  | non : Dq K H .non .none
  | bl (b : Bool) : Dq K H (.bl b) (.bool b)
  | int (i : Int) : Dq K H (.int i) (.int i)
  | str (x : Str) : Dq K H (.str x) (.str x)
  | lst {a : Addr} {xs : List V} {ds : List PyData} : H a = some (.lst xs) → DqAll K H xs ds → Dq K H (.ref a) (.list ds)
  | tup {a : Addr} {xs : List V} {ds : List PyData} : SqT K H a xs → DqAll K H xs ds → Dq K H (.ref a) (.tuple ds)
inductive DqAll (K : PySem.W.Frag) (H : Hp) : List V → List PyData → Prop
  | nil : DqAll K H [] []
  | cons {v : V} {vs : List V} {d : PyData} {ds : List PyData} : Dq K H v d → DqAll K H vs ds → DqAll K H (v :: vs) (d :: ds)
end
mutual
theorem dq_dp {K : PySem.W.Frag} {F : Hp} : ∀ (d : PyData) {v : V}, Dq K F v d → Dp K F v d
  | .none, _, h => by cases h; exact .non
  | .bool b, _, h => by cases h; exact .bl b
  | .int i, _, h => by cases h; exact .int i
  | .str x, _, h => by cases h; exact .str x
  | .list ds, _, h => by
    cases h with
    | lst hs ha => exact .lst (.inl (.inl hs)) (dqa_dpa ds ha)
  | .tuple ds, _, h => by
    cases h with
    | tup hs ha => exact .tup hs (dqa_dpa ds ha)
  | .dict _, _, h => by cases h
theorem dqa_dpa {K : PySem.W.Frag} {F : Hp} : ∀ (ds : List PyData) {vs : List V}, DqAll K F vs ds → DpAll K F vs ds
  | [], _, h => by cases h; exact .nil
  | d :: ds, _, h => by
    cases h with
    | cons h1 h2 => exact .cons (dq_dp d h1) (dqa_dpa ds h2)
end
theorem same_rd {H H' : Hp} {a : Addr} {u : HO} (e : Same H H') (h : Rd H a u) : Rd H' a u := by
  rcases h with h | ⟨o, h⟩
  · exact .inl (e _ _ h)
  · exact .inr ⟨o, e _ _ h⟩
theorem same_t {K : PySem.W.Frag} {H H' : Hp} {a : Addr} {xs : List V} (e : Same H H') (h : SqT K H a xs) : SqT K H' a xs := by
  rcases h with (h | ⟨o, h⟩) | h
  · exact .inl (.inl (e _ _ h))
  · exact .inl (.inr ⟨o, e _ _ h⟩)
  · exact .inr h
mutual
theorem dp_mono {K : PySem.W.Frag} {F G : Hp} (e : Same F G) : ∀ (d : PyData) {v : V}, Dq K F v d → Dq K G v d
  | .none, _, h => by cases h; exact .non
  | .bool b, _, h => by cases h; exact .bl b
  | .int i, _, h => by cases h; exact .int i
  | .str x, _, h => by cases h; exact .str x
  | .list ds, _, h => by
    cases h with
    | lst hs ha => exact .lst (e _ _ hs) (dpa_mono e ds ha)
  | .tuple ds, _, h => by
    cases h with
    | tup hs ha => exact .tup (same_t e hs) (dpa_mono e ds ha)
  | .dict _, _, h => by cases h
theorem dpa_mono {K : PySem.W.Frag} {F G : Hp} (e : Same F G) : ∀ (ds : List PyData) {vs : List V}, DqAll K F vs ds → DqAll K G vs ds
  | [], _, h => by cases h; exact .nil
  | d :: ds, _, h => by
    cases h with
    | cons h1 h2 => exact .cons (dp_mono e d h1) (dpa_mono e ds h2)
end
theorem DqAll.len {K : PySem.W.Frag} {F : Hp} : ∀ {vs : List V} {ds : List PyData}, DqAll K F vs ds → vs.length = ds.length
  | [], [], _ => rfl
  | [], _ :: _, h => by cases h
  | _ :: _, [], h => by cases h
  | v :: vs, d :: ds, h => by
    cases h with
    | cons h1 h2 => exact congrArg Nat.succ (DqAll.len h2)
theorem DqAll.get {K : PySem.W.Frag} {F : Hp} : ∀ {vs : List V} {ds : List PyData} {i : Nat} {d : PyData}, DqAll K F vs ds → ds[i]? = some d → ∃ v, vs[i]? = some v ∧ Dq K F v d
  | [], [], _, _, _, e => by simp at e
  | [], _ :: _, _, _, h, _ => by cases h
  | _ :: _, [], _, _, h, _ => by cases h
  | v :: vs, d :: ds, 0, _, h, e => by
    cases h with
    | cons h1 h2 =>
      simp at e; subst e
      exact ⟨v, rfl, h1⟩
  | v :: vs, d :: ds, i + 1, _, h, e => by
    cases h with
    | cons h1 h2 =>
      obtain ⟨u, e1, e2⟩ := DqAll.get (i := i) h2 (by simpa using e)
      exact ⟨u, by simpa using e1, e2⟩
theorem DqAll.getV {K : PySem.W.Frag} {F : Hp} : ∀ {vs : List V} {ds : List PyData} {i : Nat} {v : V}, DqAll K F vs ds → vs[i]? = some v → ∃ d, ds[i]? = some d ∧ Dq K F v d
  | [], _, _, _, _, e => by simp at e
  | _ :: _, [], _, _, h, _ => by cases h
  | v :: vs, d :: ds, 0, _, h, e => by
    cases h with
    | cons h1 h2 =>
      simp at e; subst e
      exact ⟨d, rfl, h1⟩
  | v :: vs, d :: ds, i + 1, _, h, e => by
    cases h with
    | cons h1 h2 =>
      obtain ⟨u, e1, e2⟩ := DqAll.getV (i := i) h2 (by simpa using e)
      exact ⟨u, by simpa using e1, e2⟩
theorem DqAll.append {K : PySem.W.Frag} {F : Hp} : ∀ {vs ws : List V} {ds es : List PyData}, DqAll K F vs ds → DqAll K F ws es → DqAll K F (vs ++ ws) (ds ++ es)
  | [], _, [], _, _, h => h
  | [], _, _ :: _, _, h, _ => by cases h
  | _ :: _, _, [], _, h, _ => by cases h
  | v :: vs, ws, d :: ds, es, h, q => by
    cases h with
    | cons h1 h2 => exact .cons h1 (DqAll.append h2 q)
theorem DqAll.set {K : PySem.W.Frag} {F : Hp} {v : V} {d : PyData} (hv : Dq K F v d) : ∀ {vs : List V} {ds : List PyData} (i : Nat), DqAll K F vs ds → DqAll K F (vs.set i v) (ds.set i d)
  | [], [], _, h => h
  | [], _ :: _, _, h => by cases h
  | _ :: _, [], _, h => by cases h
  | _ :: _, _ :: _, 0, h => by
    cases h with
    | cons h1 h2 => exact .cons hv h2
  | _ :: _, _ :: _, i + 1, h => by
    cases h with
    | cons h1 h2 => exact .cons h1 (DqAll.set hv i h2)
theorem DqAll.take {K : PySem.W.Frag} {F : Hp} : ∀ {vs : List V} {ds : List PyData} (n : Nat), DqAll K F vs ds → DqAll K F (vs.take n) (ds.take n)
  | [], [], n, h => by simpa using h
  | [], _ :: _, _, h => by cases h
  | _ :: _, [], _, h => by cases h
  | _ :: _, _ :: _, 0, h => .nil
  | _ :: _, _ :: _, n + 1, h => by
    cases h with
    | cons h1 h2 => exact .cons h1 (DqAll.take n h2)
theorem DqAll.drop {K : PySem.W.Frag} {F : Hp} : ∀ {vs : List V} {ds : List PyData} (n : Nat), DqAll K F vs ds → DqAll K F (vs.drop n) (ds.drop n)
  | [], [], n, h => by simpa using h
  | [], _ :: _, _, h => by cases h
  | _ :: _, [], _, h => by cases h
  | _ :: _, _ :: _, 0, h => h
  | _ :: _, _ :: _, n + 1, h => by
    cases h with
    | cons h1 h2 => exact DqAll.drop n h2
theorem dpa_ints {K : PySem.W.Frag} {F : Hp} : ∀ (ns : List Int), DqAll K F (ns.map V.int) (ns.map PyData.int)
  | [] => .nil
  | n :: ns => .cons (.int n) (dpa_ints ns)
theorem ints_dpa {K : PySem.W.Frag} {F : Hp} : ∀ (ns : List Int) {vs : List V}, DqAll K F vs (ns.map PyData.int) → vs = ns.map V.int
  | [], vs, h => by cases h; rfl
  | n :: ns, vs, h => by
    cases h with
    | cons h1 h2 =>
      cases h1
      rw [ints_dpa ns h2]; rfl
theorem strs_dpa {K : PySem.W.Frag} {F : Hp} : ∀ (ns : List Str) {vs : List V}, DqAll K F vs (ns.map PyData.str) → vs = ns.map V.str
  | [], vs, h => by cases h; rfl
  | n :: ns, vs, h => by
    cases h with
    | cons h1 h2 =>
      cases h1
      rw [strs_dpa ns h2]; rfl

/-! ### an opaque object -/
def refD (a : Addr) : PyData := .dict [(.int (a : Nat), .none)]
/-- the script as it was handed in -/
def scrD (ns : List Int) : PyData := .dict [(.none, .list (ns.map .int))]
def Rp (K : PySem.W.Frag) (F : Hp) (v : V) (d : PyData) : Prop := Dq K F v d ∨ (∃ a, v = .ref a ∧ d = refD a) ∨ ∃ a ns, v = .ref a ∧ d = scrD ns ∧ SqL K F a (ns.map V.int)
theorem Rp.mono {K : PySem.W.Frag} {F G : Hp} {v : V} {d : PyData} (e : Same F G) (h : Rp K F v d) : Rp K G v d := h.imp (dp_mono e d) fun h => h.imp id fun ⟨a, ns, h1, h2, h3⟩ => ⟨a, ns, h1, h2, e.seq h3⟩
/-- what is read for a moment: data, or an own list -/
def Bp (K : PySem.W.Frag) (G H : Hp) (v : V) (d : PyData) : Prop := Rp K G v d ∨ ∃ p vs ds, v = .ref p ∧ d = .list ds ∧ H p = some (.lst vs) ∧ DqAll K G vs ds

/-! ### the heap grows, a part of it stands -/
structure Grow (H F H' G : Hp) : Prop where
  h : Same H H'
  f : Same F G
  sub : Same G H'
  no : ∀ a, F a = none → H a ≠ none → G a = none
theorem Grow.refl {H F : Hp} (e : Same F H) : Grow H F H F := ⟨Same.refl H, Same.refl F, e, fun _ h _ => h⟩
theorem Grow.trans {H F H1 G1 H2 G2 : Hp} (a : Grow H F H1 G1) (b : Grow H1 G1 H2 G2) : Grow H F H2 G2 :=
  ⟨a.h.trans b.h, a.f.trans b.f, b.sub, fun x h1 h2 => b.no x (a.no x h1 h2) fun z => h2 (a.h.free z)⟩
theorem Same.upd_new {H H' : Hp} {p : Addr} {o : HO} (e : Same H H') (hp : H' p = none) : Same H (upd H' p o) := fun b u q => by
  rw [upd_ne (ne_of_none (e b u q) hp)]; exact e b u q
/-- a new object, laid beside: not in the standing part | in it -/
theorem Grow.beside {H F H' G : Hp} {p : Addr} {o : HO} (g : Grow H F H' G) (hp : H' p = none) : Grow H F (upd H' p o) G :=
  ⟨Same.upd_new g.h hp, g.f, Same.upd_new g.sub hp, g.no⟩
theorem Grow.within {H F H' G : Hp} {p : Addr} {o : HO} (g : Grow H F H' G) (hp : H p = none) (hG : G p = none) (ho : H' p = some o) : Grow H F H' (upd G p o) :=
  ⟨g.h, Same.upd_new g.f hG, fun b u q => by
    by_cases hb : b = p
    · subst hb; rw [upd_same] at q; cases q; exact ho
    · rw [upd_ne hb] at q; exact g.sub b u q, fun a h1 h2 => by
    by_cases hb : a = p
    · subst hb; exact absurd hp h2
    · rw [upd_ne hb]; exact g.no a h1 h2⟩
theorem Grow.new {H F H' G : Hp} {p : Addr} {o : HO} (g : Grow H F H' G) (hp : H' p = none) : Grow H F (upd H' p o) (upd G p o) :=
  (g.beside (o := o) hp).within (g.h.free hp) (g.sub.free hp) upd_same
theorem Bp.mono {K : PySem.W.Frag} {F G H H' : Hp} {v : V} {d : PyData} (e : Same F G) (e' : Same H H') (h : Bp K F H v d) : Bp K G H' v d :=
  h.imp (Rp.mono e) fun ⟨p, vs, ds, e1, e2, e3, e4⟩ => ⟨p, vs, ds, e1, e2, e' _ _ e3, dpa_mono e ds e4⟩
/-- what is read stands in the whole heap -/
theorem Bp.all {K : PySem.W.Frag} {G H : Hp} {v : V} {d : PyData} (e : Same G H) (h : Bp K G H v d) : Rp K H v d := by
  rcases h with h | ⟨p, vs, ds, rfl, rfl, h, q⟩
  · exact h.mono e
  · exact .inl (.lst h (dpa_mono e ds q))
theorem Rp.dp {K : PySem.W.Frag} {G : Hp} {v : V} {d : PyData} (h : Rp K G v d) (n : ∀ l, d ≠ .dict l := by intro l z; cases z) : Dq K G v d := by
  rcases h with h | ⟨a, _, rfl⟩ | ⟨a, ns, _, rfl, _⟩
  · exact h
  · exact absurd rfl (n _)
  · exact absurd rfl (n _)
theorem Bp.int {K : PySem.W.Frag} {G H : Hp} {v : V} {i : Int} (h : Bp K G H v (.int i)) : v = .int i := by
  rcases h with (h | ⟨a, _, z⟩ | ⟨a, ns, _, z, _⟩) | ⟨p, vs, ds, _, z, _⟩
  · cases h; rfl
  · cases z
  · cases z
  · cases z
theorem Bp.str {K : PySem.W.Frag} {G H : Hp} {v : V} {i : Str} (h : Bp K G H v (.str i)) : v = .str i := by
  rcases h with (h | ⟨a, _, z⟩ | ⟨a, ns, _, z, _⟩) | ⟨p, vs, ds, _, z, _⟩
  · cases h; rfl
  · cases z
  · cases z
  · cases z
theorem Bp.bool {K : PySem.W.Frag} {G H : Hp} {v : V} {i : Bool} (h : Bp K G H v (.bool i)) : v = .bl i := by
  rcases h with (h | ⟨a, _, z⟩ | ⟨a, ns, _, z, _⟩) | ⟨p, vs, ds, _, z, _⟩
  · cases h; rfl
  · cases z
  · cases z
  · cases z
theorem Bp.non {K : PySem.W.Frag} {G H : Hp} {v : V} (h : Bp K G H v .none) : v = .non := by
  rcases h with (h | ⟨a, _, z⟩ | ⟨a, ns, _, z, _⟩) | ⟨p, vs, ds, _, z, _⟩
  · cases h; rfl
  · cases z
  · cases z
  · cases z
/-- a list that is read: its items are data that stand -/
theorem Bp.list {K : PySem.W.Frag} {G H : Hp} {v : V} {ds : List PyData} (e : Same G H) (h : Bp K G H v (.list ds)) : ∃ p vs, v = .ref p ∧ H p = some (.lst vs) ∧ DqAll K G vs ds := by
  rcases h with (h | ⟨a, _, z⟩ | ⟨a, ns, _, z, _⟩) | ⟨p, vs, ds, rfl, z, h, q⟩
  · cases h with
    | lst hs ha => exact ⟨_, _, rfl, e _ _ hs, ha⟩
  · cases z
  · cases z
  · cases z; exact ⟨p, vs, rfl, h, q⟩
theorem Bp.tuple {K : PySem.W.Frag} {G H : Hp} {v : V} {ds : List PyData} (e : Same G H) (h : Bp K G H v (.tuple ds)) : ∃ p vs, v = .ref p ∧ SqT K H p vs ∧ DqAll K G vs ds := by
  rcases h with (h | ⟨a, _, z⟩ | ⟨a, ns, _, z, _⟩) | ⟨p, vs, ds, rfl, z, h, q⟩
  · cases h with
    | tup hs ha => exact ⟨_, _, rfl, same_t e hs, ha⟩
  · cases z
  · cases z
  · cases z

theorem Bp.scr {K : PySem.W.Frag} {G H : Hp} {v : V} {ds : List PyData} (e : Same G H) (h : Bp K G H v (.dict [(.none, .list ds)])) : ∃ p vs, v = .ref p ∧ SqL K H p vs ∧ DqAll K G vs ds := by
  rcases h with (h | ⟨a, _, z⟩ | ⟨a, ns, rfl, z, h⟩) | ⟨p, vs, ds, rfl, z, h, q⟩
  · cases h
  · cases z
  · cases z; exact ⟨a, _, rfl, e.seq h, dpa_ints ns⟩
  · cases z

/-! ### environments -/
inductive Sl where
  | no | val (d : PyData) | own (ds : List PyData)
abbrev Rho := List Sl
abbrev SE := Rho → Option PyData
abbrev STe := Rho → Option Bool
abbrev SA := Rho → Option (List PyData)
inductive Out where
  | no | nx (r : Rho) | rt (d : PyData)
abbrev SS := Rho → Out
structure EnvOk (K : PySem.W.Frag) (B F H : Hp) (σ : L2.St) (ρ : Rho) : Prop where
  bs : Same B F
  ex : Same F H
  len : ρ.length = σ.length
  val : ∀ (i : Nat) (d : PyData), ρ[i]? = some (.val d) → ∃ v, σ[i]? = some (some v) ∧ Rp K F v d
  own : ∀ (i : Nat) (ds : List PyData), ρ[i]? = some (.own ds) → ∃ p vs, σ[i]? = some (some (.ref p)) ∧ H p = some (.lst vs) ∧ DqAll K F vs ds ∧ F p = none
  dis : ∀ (i j : Nat) (ds es : List PyData) (p : Addr), i ≠ j → ρ[i]? = some (.own ds) → ρ[j]? = some (.own es) → σ[i]? = some (some (.ref p)) → σ[j]? = some (some (.ref p)) → False
theorem EnvOk.grow {K : PySem.W.Frag} {B F H G H' : Hp} {σ : L2.St} {ρ : Rho} (e : EnvOk K B F H σ ρ) (g : Grow H F H' G) : EnvOk K B G H' σ ρ where
  bs := e.bs.trans g.f
  ex := g.sub
  len := e.len
  val := fun i d h => let ⟨v, h1, h2⟩ := e.val i d h; ⟨v, h1, h2.mono g.f⟩
  own := fun i ds h => let ⟨p, vs, h1, h2, h3, h4⟩ := e.own i ds h; ⟨p, vs, h1, g.h _ _ h2, dpa_mono g.f ds h3, g.no p h4 (by rw [h2]; intro z; cases z)⟩
  dis := e.dis

/-! ### what an expression's reading does -/
def EOk (K : PySem.W.Frag) (B : Hp) (t : TE) (f : SE) : Prop := ∀ (F H : Hp) (σ : L2.St) (ρ : Rho) (d : PyData), EnvOk K B F H σ ρ → f ρ = some d → ∀ Q : VK, (∀ v H' G, Grow H F H' G → Rp K G v d → Q v H') → t σ H Q
def BOk (K : PySem.W.Frag) (B : Hp) (t : TE) (f : SE) : Prop := ∀ (F H : Hp) (σ : L2.St) (ρ : Rho) (d : PyData), EnvOk K B F H σ ρ → f ρ = some d → ∀ Q : VK, (∀ v H' G, Grow H F H' G → Bp K G H' v d → Q v H') → t σ H Q
/-- a new list -/
def LOk (K : PySem.W.Frag) (B : Hp) (t : TE) (f : SA) : Prop := ∀ (F H : Hp) (σ : L2.St) (ρ : Rho) (ds : List PyData), EnvOk K B F H σ ρ → f ρ = some ds → ∀ Q : VK,
  (∀ p vs H' G, Grow H F H' G → H p = none → G p = none → H' p = some (.lst vs) → DqAll K G vs ds → Q (.ref p) H') → t σ H Q
def TOk (K : PySem.W.Frag) (B : Hp) (t : TT) (f : STe) : Prop := ∀ (F H : Hp) (σ : L2.St) (ρ : Rho) (b : Bool), EnvOk K B F H σ ρ → f ρ = some b → ∀ Q : Bool → Hp → Prop, (∀ H' G, Grow H F H' G → Q b H') → t σ H Q
/-- arguments that stand | that are read for a moment -/
inductive RpAll (K : PySem.W.Frag) (F : Hp) : List V → List PyData → Prop
  | nil : RpAll K F [] []
  | cons {v : V} {vs : List V} {d : PyData} {ds : List PyData} : Rp K F v d → RpAll K F vs ds → RpAll K F (v :: vs) (d :: ds)
inductive BpAll (K : PySem.W.Frag) (G H : Hp) : List V → List PyData → Prop
  | nil : BpAll K G H [] []
  | cons {v : V} {vs : List V} {d : PyData} {ds : List PyData} : Bp K G H v d → BpAll K G H vs ds → BpAll K G H (v :: vs) (d :: ds)
def AOk (K : PySem.W.Frag) (B : Hp) (t : TA) (f : SA) : Prop := ∀ (F H : Hp) (σ : L2.St) (ρ : Rho) (ds : List PyData), EnvOk K B F H σ ρ → f ρ = some ds → ∀ Q : List V → Hp → Prop, (∀ vs H' G, Grow H F H' G → RpAll K G vs ds → Q vs H') → t σ H Q
def ABOk (K : PySem.W.Frag) (B : Hp) (t : TA) (f : SA) : Prop := ∀ (F H : Hp) (σ : L2.St) (ρ : Rho) (ds : List PyData), EnvOk K B F H σ ρ → f ρ = some ds → ∀ Q : List V → Hp → Prop, (∀ vs H' G, Grow H F H' G → BpAll K G H' vs ds → Q vs H') → t σ H Q

structure SemE (X : Cx) (K : PySem.W.Frag) (B : Hp) (e : Expr) (t : TE) (f : SE) : Prop where
  pe : PE X e t
  ok : EOk K B t f
structure SemB (X : Cx) (K : PySem.W.Frag) (B : Hp) (e : Expr) (t : TE) (f : SE) : Prop where
  pe : PE X e t
  ok : BOk K B t f
structure SemL (X : Cx) (K : PySem.W.Frag) (B : Hp) (e : Expr) (t : TE) (f : SA) : Prop where
  pe : PE X e t
  ok : LOk K B t f
structure SemT (X : Cx) (K : PySem.W.Frag) (B : Hp) (e : Expr) (t : TT) (f : STe) : Prop where
  pt : PT X e t
  ok : TOk K B t f
structure SemW (X : Cx) (K : PySem.W.Frag) (B : Hp) (e : Expr) (t : TT) (f : STe) : Prop where
  pw : PW X e t
  ok : TOk K B t f
structure SemA (X : Cx) (K : PySem.W.Frag) (B : Hp) (es : List Expr) (t : TA) (f : SA) : Prop where
  pa : PA X es t
  ok : AOk K B t f
structure SemAB (X : Cx) (K : PySem.W.Frag) (B : Hp) (es : List Expr) (t : TA) (f : SA) : Prop where
  pa : PA X es t
  ok : ABOk K B t f

/-! ### the functions that the terms make -/
def eVar (i : Nat) : SE := fun ρ => match ρ[i]? with
  | some (.val d) => some d
  | _ => none
def eVarB (i : Nat) : SE := fun ρ => match ρ[i]? with
  | some (.val d) => some d
  | some (.own ds) => some (.list ds)
  | _ => none
def eC (d : PyData) : SE := fun _ => some d
def eOp (g : PyData → PyData → Option PyData) (f1 f2 : SE) : SE := fun ρ => (f1 ρ).bind fun x => (f2 ρ).bind fun y => g x y
def eUn (g : PyData → Option PyData) (f1 : SE) : SE := fun ρ => (f1 ρ).bind g
def eNil : SA := fun _ => some []
def eCons (f : SE) (g : SA) : SA := fun ρ => (f ρ).bind fun d => (g ρ).bind fun ds => some (d :: ds)
def eTup (g : SA) : SE := fun ρ => (g ρ).map .tuple
def eList (g : SA) : SE := fun ρ => (g ρ).map .list
def eCall (F : List PyData → Option PyData) (g : SA) : SE := fun ρ => (g ρ).bind F
/-- a value without parts -/
def scalD : PyData → Bool
  | .none => true
  | .bool _ => true
  | .int _ => true
  | .str _ => true
  | _ => false
def onlyS (o : Option PyData) : Option PyData := o.bind fun d => if scalD d then some d else none
theorem rp_scal {K : PySem.W.Frag} {G G' : Hp} {v : V} {d : PyData} (h : Rp K G v d) (s : scalD d = true) : Rp K G' v d := by
  rcases h with h | ⟨a, rfl, rfl⟩ | ⟨a, ns, _, rfl, _⟩
  · cases h with
    | non => exact .inl .non
    | bl b => exact .inl (.bl b)
    | int i => exact .inl (.int i)
    | str x => exact .inl (.str x)
    | lst _ _ => cases s
    | tup _ _ => cases s
  · cases s
  · cases s

section
variable {X : Cx} {K : PySem.W.Frag} {B : Hp} {e e1 e2 : Expr} {es : List Expr} {t t1 t2 : TE} {ta : TA} {f f1 f2 : SE} {g : SA} {pos : Pos}
theorem EOk.b (h : EOk K B t f) : BOk K B t f := fun F H σ ρ d E q Q k => h F H σ ρ d E q Q fun v H' G g r => k v H' G g (.inl r)
theorem SemE.b (h : SemE X K B e t f) : SemB X K B e t f := ⟨h.pe, h.ok.b⟩
theorem LOk.toE {f : SA} (h : LOk K B t f) : EOk K B t (eList f) := fun F H σ ρ d E q Q k => by
  cases hf : f ρ with
  | none => simp [eList, hf] at q
  | some ds =>
    simp [eList, hf] at q
    subst q
    refine h F H σ ρ ds E hf Q fun p vs H' G g h1 h2 h3 h4 => k _ H' _ (g.within h1 h2 h3) (.inl (.lst upd_same (dpa_mono (Same.upd_new (Same.refl G) h2) ds h4)))
theorem SemL.toE {f : SA} (h : SemL X K B e t f) : SemE X K B e t (eList f) := ⟨h.pe, h.ok.toE⟩
theorem var_ok (i : Nat) : EOk K B (tVar i) (eVar i) := fun F H σ ρ d E q Q k => by
  unfold eVar at q
  split at q
  · rename_i d' h
    cases q
    obtain ⟨v, h1, h2⟩ := E.val i _ h
    exact ⟨v, h1, k v H F (Grow.refl E.ex) h2⟩
  · cases q
theorem varB_ok (i : Nat) : BOk K B (tVar i) (eVarB i) := fun F H σ ρ d E q Q k => by
  unfold eVarB at q
  split at q
  · rename_i d' h
    cases q
    obtain ⟨v, h1, h2⟩ := E.val i _ h
    exact ⟨v, h1, k v H F (Grow.refl E.ex) (.inl h2)⟩
  · rename_i ds h
    cases q
    obtain ⟨p, vs, h1, h2, h3, h4⟩ := E.own i _ h
    exact ⟨.ref p, h1, k _ H F (Grow.refl E.ex) (.inr ⟨p, vs, ds, rfl, rfl, h2, h3⟩)⟩
  · cases q
theorem c_ok {v : V} {d : PyData} (h : ∀ F, Rp K F v d) : EOk K B (tC v) (eC d) := fun F H σ ρ d' E q Q k => by
  cases q
  exact k v H F (Grow.refl E.ex) (h F)
theorem nil_ok : AOk K B tNil eNil := fun F H σ ρ d E q Q k => by
  cases q
  exact k [] H F (Grow.refl E.ex) .nil
theorem nilB_ok : ABOk K B tNil eNil := fun F H σ ρ d E q Q k => by
  cases q
  exact k [] H F (Grow.refl E.ex) .nil
theorem cons_ok (h1 : EOk K B t f) (h2 : AOk K B ta g) : AOk K B (tCons t ta) (eCons f g) := fun F H σ ρ ds E q Q k => by
  cases hf : f ρ with
  | none => simp [eCons, hf] at q
  | some d =>
    cases hg : g ρ with
    | none => simp [eCons, hf, hg] at q
    | some es =>
      simp [eCons, hf, hg] at q
      subst q
      exact h1 F H σ ρ d E hf _ fun v H1 G1 g1 r1 => h2 G1 H1 σ ρ es (E.grow g1) hg _ fun vs H2 G2 g2 r2 => k _ H2 G2 (g1.trans g2) (.cons (r1.mono g2.f) r2)
theorem consB_ok (h1 : BOk K B t f) (h2 : ABOk K B ta g) : ABOk K B (tCons t ta) (eCons f g) := fun F H σ ρ ds E q Q k => by
  cases hf : f ρ with
  | none => simp [eCons, hf] at q
  | some d =>
    cases hg : g ρ with
    | none => simp [eCons, hf, hg] at q
    | some es =>
      simp [eCons, hf, hg] at q
      subst q
      exact h1 F H σ ρ d E hf _ fun v H1 G1 g1 r1 => h2 G1 H1 σ ρ es (E.grow g1) hg _ fun vs H2 G2 g2 r2 => k _ H2 G2 (g1.trans g2) (.cons (r1.mono g2.f g2.h) r2)
/-- no opaque object among them -/
def dataD : PyData → Bool
  | .dict _ => false
  | _ => true
theorem RpAll.dp {K : PySem.W.Frag} {F : Hp} : ∀ {vs : List V} {ds : List PyData}, RpAll K F vs ds → ds.all dataD = true → DqAll K F vs ds
  | [], [], _, _ => .nil
  | [], _ :: _, h, _ => by cases h
  | _ :: _, [], h, _ => by cases h
  | v :: vs, d :: ds, h, a => by
    cases h with
    | cons h1 h2 =>
      rw [List.all_cons, Bool.and_eq_true] at a
      exact .cons (h1.dp (by rintro l rfl; cases a.1)) (RpAll.dp h2 a.2)
def eTupD (g : SA) : SE := fun ρ => (g ρ).bind fun ds => if ds.all dataD = true ∧ ds.length ≤ 1000 then some (.tuple ds) else none
def eLstD (g : SA) : SA := fun ρ => (g ρ).bind fun ds => if ds.all dataD = true ∧ ds.length ≤ 1000 then some ds else none
theorem RpAll.len {K : PySem.W.Frag} {F : Hp} : ∀ {vs : List V} {ds : List PyData}, RpAll K F vs ds → vs.length = ds.length
  | [], [], _ => rfl
  | [], _ :: _, h => by cases h
  | _ :: _, [], h => by cases h
  | v :: vs, d :: ds, h => by
    cases h with
    | cons h1 h2 => exact congrArg Nat.succ (RpAll.len h2)
theorem le_line {n : Nat} (h : n ≤ 1000) : n ≤ sizeLine := Nat.le_trans h (by decide)
theorem tup_ok (h : AOk K B ta g) : EOk K B (tTup ta) (eTupD g) := fun F H σ ρ d E q Q k => by
  cases hg : g ρ with
  | none => simp [eTupD, hg] at q
  | some ds =>
    simp only [eTupD, hg, Option.bind_some] at q
    split at q
    · rename_i c
      cases q
      refine h F H σ ρ ds E hg _ fun vs H1 G1 g1 r1 => ⟨le_line (by rw [r1.len]; exact c.2), fun p hp => k _ _ _ (g1.new (o := .tup vs) hp) (.inl (.tup (.inl (.inl upd_same)) ?_))⟩
      exact dpa_mono (Same.upd_new (Same.refl G1) (g1.sub.free hp)) ds (r1.dp c.1)
    · cases q
theorem lst_ok (h : AOk K B ta g) : LOk K B (tLst ta) (eLstD g) := fun F H σ ρ d E q Q k => by
  cases hg : g ρ with
  | none => simp [eLstD, hg] at q
  | some ds =>
    simp only [eLstD, hg, Option.bind_some] at q
    split at q
    · rename_i c
      cases q
      refine h F H σ ρ _ E hg _ fun vs H1 G1 g1 r1 => ⟨le_line (by rw [r1.len]; exact c.2), fun p hp => k p vs _ G1 (g1.beside (o := .lst vs) hp) (g1.h.free hp) (g1.sub.free hp) upd_same (r1.dp c.1)⟩
    · cases q
theorem SemE.cons (h1 : SemE X K B e t f) (h2 : SemA X K B es ta g) (hs : starEach (e :: es) X.env = (false, eval e X.env) :: starEach es X.env := by rfl) : SemA X K B (e :: es) (tCons t ta) (eCons f g) := ⟨pa_cons h1.pe h2.pa hs, cons_ok h1.ok h2.ok⟩
theorem SemB.cons (h1 : SemB X K B e t f) (h2 : SemAB X K B es ta g) (hs : starEach (e :: es) X.env = (false, eval e X.env) :: starEach es X.env := by rfl) : SemAB X K B (e :: es) (tCons t ta) (eCons f g) := ⟨pa_cons h1.pe h2.pa hs, consB_ok h1.ok h2.ok⟩
theorem sa_nil : SemA X K B [] tNil eNil := ⟨pa_nil, nil_ok⟩
theorem sab_nil : SemAB X K B [] tNil eNil := ⟨pa_nil, nilB_ok⟩
end
end RT
namespace RT
open PySem PySem.Spec PyProof.Rows L2
/-! ### operators on data -/
def OpS (K : PySem.W.Frag) (r : R2) (g : PyData → PyData → Option PyData) : Prop := ∀ (G H : Hp) (x y : V) (d1 d2 d : PyData), Same G H → Bp K G H x d1 → Bp K G H y d2 → g d1 d2 = some d → ∀ Q : VK, (∀ v H' G', Grow H G H' G' → Rp K G' v d → Q v H') → r x y H Q
def CallS (K : PySem.W.Frag) (r : List V → Hp → VK → Prop) (g : List PyData → Option PyData) : Prop := ∀ (G H : Hp) (xs : List V) (ds : List PyData) (d : PyData), Same G H → BpAll K G H xs ds → g ds = some d → ∀ Q : VK, (∀ v H' G', Grow H G H' G' → Rp K G' v d → Q v H') → r xs H Q
/-- a new list handed back -/
def CallL (K : PySem.W.Frag) (r : List V → Hp → VK → Prop) (g : List PyData → Option (List PyData)) : Prop := ∀ (G H : Hp) (xs : List V) (ds : List PyData) (es : List PyData), Same G H → BpAll K G H xs ds → g ds = some es → ∀ Q : VK,
  (∀ p vs H' G', Grow H G H' G' → H p = none → G' p = none → H' p = some (.lst vs) → DqAll K G' vs es → Q (.ref p) H') → r xs H Q
def alt (g g' : PyData → PyData → Option PyData) : PyData → PyData → Option PyData := fun a b => match g a b with
  | some d => some d
  | none => g' a b
theorem OpS.or {K : PySem.W.Frag} {r r' : R2} {g g' : PyData → PyData → Option PyData} (h : OpS K r g) (h' : OpS K r' g') : OpS K (fun x y H Q => r x y H Q ∨ r' x y H Q) (alt g g') := fun G H x y d1 d2 d e b1 b2 q Q k => by
  unfold alt at q
  split at q
  · rename_i d' hd
    cases q
    exact .inl (h G H x y d1 d2 _ e b1 b2 hd Q k)
  · exact .inr (h' G H x y d1 d2 d e b1 b2 q Q k)
section
variable {K : PySem.W.Frag} {B : Hp} {t t1 t2 : TE} {f f1 f2 : SE} {ta : TA} {sa : SA}
theorem op_ok {r : R2} {g : PyData → PyData → Option PyData} (ho : OpS K r g) (h1 : BOk K B t1 f1) (h2 : BOk K B t2 f2) : EOk K B (tOp r t1 t2) (eOp g f1 f2) := fun F H σ ρ d E q Q k => by
  cases e1 : f1 ρ with
  | none => simp [eOp, e1] at q
  | some x =>
    cases e2 : f2 ρ with
    | none => simp [eOp, e1, e2] at q
    | some y =>
      have q' : g x y = some d := by simpa [eOp, e1, e2] using q
      exact h1 F H σ ρ x E e1 _ fun v H1 G1 g1 b1 => h2 G1 H1 σ ρ y (E.grow g1) e2 _ fun u H2 G2 g2 b2 => ho G2 H2 v u x y d g2.sub (b1.mono g2.f g2.h) b2 q' Q fun z H3 G3 g3 r3 => k z H3 G3 ((g1.trans g2).trans g3) r3
theorem un_ok {r : V → Hp → VK → Prop} {g : PyData → Option PyData} (ho : ∀ (G H : Hp) (x : V) (d1 d : PyData), Same G H → Bp K G H x d1 → g d1 = some d → ∀ Q : VK, (∀ v H' G', Grow H G H' G' → Rp K G' v d → Q v H') → r x H Q) (h1 : BOk K B t1 f1) :
    EOk K B (tUn r t1) (eUn g f1) := fun F H σ ρ d E q Q k => by
  cases e1 : f1 ρ with
  | none => simp [eUn, e1] at q
  | some x =>
    have q' : g x = some d := by simpa [eUn, e1] using q
    exact h1 F H σ ρ x E e1 _ fun v H1 G1 g1 b1 => ho G1 H1 v x d g1.sub b1 q' Q fun z H3 G3 g3 r3 => k z H3 G3 (g1.trans g3) r3
theorem cb_ok {r : List V → Hp → VK → Prop} {g : List PyData → Option PyData} (ho : CallS K r g) (h : ABOk K B ta sa) : EOk K B (tCB r ta) (eCall g sa) := fun F H σ ρ d E q Q k => by
  cases e1 : sa ρ with
  | none => simp [eCall, e1] at q
  | some ds =>
    have q' : g ds = some d := by simpa [eCall, e1] using q
    exact h F H σ ρ ds E e1 _ fun vs H1 G1 g1 b1 => ho G1 H1 vs ds d g1.sub b1 q' Q fun z H3 G3 g3 r3 => k z H3 G3 (g1.trans g3) r3
def eCallL (g : List PyData → Option (List PyData)) (sa : SA) : SA := fun ρ => (sa ρ).bind g
theorem cbL_ok {r : List V → Hp → VK → Prop} {g : List PyData → Option (List PyData)} (ho : CallL K r g) (h : ABOk K B ta sa) : LOk K B (tCB r ta) (eCallL g sa) := fun F H σ ρ d E q Q k => by
  cases e1 : sa ρ with
  | none => simp [eCallL, e1] at q
  | some ds =>
    have q' : g ds = some d := by simpa [eCallL, e1] using q
    exact h F H σ ρ ds E e1 _ fun vs H1 G1 g1 b1 => ho G1 H1 vs ds d g1.sub b1 q' Q fun p us H3 G3 g3 h1 h2 h3 h4 => k p us H3 G3 (g1.trans g3) (g1.h.free h1) h2 h3 h4
end
/-! ### one by one -/
section
variable {K : PySem.W.Frag}
def gI (c : Int → Int → Bool) (g : Int → Int → PyData) : PyData → PyData → Option PyData
  | .int i, .int j => if c i j = true then some (g i j) else none
  | _, _ => none
def yesC : Int → Int → Bool := fun _ _ => true
theorem rI_s {C : Int → Int → Prop} {g : Int → Int → V} {g' : Int → Int → PyData} {c : Int → Int → Bool} (hC : ∀ i j, c i j = true → C i j) (hg : ∀ F i j, Rp K F (g i j) (g' i j)) : OpS K (rI C g) (gI c g') := fun G H x y d1 d2 d e b1 b2 q Q k => by
  cases d1 with
  | int i =>
    cases d2 with
    | int j =>
      simp only [gI] at q
      split at q
      · rename_i hc
        cases q
        cases b1.int
        cases b2.int
        exact ⟨i, j, rfl, rfl, hC i j hc, k _ H G (Grow.refl e) (hg G i j)⟩
      · cases q
    | _ => simp [gI] at q
  | _ => simp [gI] at q
theorem rI0_s {g : Int → Int → V} {g' : Int → Int → PyData} (hg : ∀ F i j, Rp K F (g i j) (g' i j)) : OpS K (rI0 g) (gI yesC g') := fun G H x y d1 d2 d e b1 b2 q Q k => by
  cases d1 with
  | int i =>
    cases d2 with
    | int j =>
      simp [gI, yesC] at q
      subst q
      cases b1.int
      cases b2.int
      exact ⟨i, j, rfl, rfl, k _ H G (Grow.refl e) (hg G i j)⟩
    | _ => simp [gI] at q
  | _ => simp [gI] at q
theorem rp_int {F : Hp} (i : Int) : Rp K F (.int i) (.int i) := .inl (.int i)
theorem rp_bool {F : Hp} (i : Bool) : Rp K F (.bl i) (.bool i) := .inl (.bl i)
theorem rp_str {F : Hp} (i : Str) : Rp K F (.str i) (.str i) := .inl (.str i)
theorem rp_non {F : Hp} : Rp K F .non .none := .inl .non

def LIM : Nat := 1000000
theorem lim_line {n : Nat} (h : n ≤ LIM) : n ≤ sizeLine := Nat.le_trans h (by decide)
/-- + -/
def gAddS : PyData → PyData → Option PyData
  | .str x, .str y => if x.length + y.length ≤ LIM then some (.str (x ++ y)) else none
  | _, _ => none
def gAddL : PyData → PyData → Option PyData
  | .list x, .list y => if x.length + y.length ≤ LIM then some (.list (x ++ y)) else none
  | _, _ => none
def rAddS2 : R2 := fun x y H Q => ∃ i j, x = .str i ∧ y = .str j ∧ i.length + j.length ≤ sizeLine ∧ Q (.str (i ++ j)) H
theorem addS_s : OpS K rAddS2 gAddS := fun G H x y d1 d2 d e b1 b2 q Q k => by
  cases d1 with
  | str i =>
    cases d2 with
    | str j =>
      simp only [gAddS] at q
      split at q
      · rename_i hc
        cases q
        cases b1.str
        cases b2.str
        exact ⟨i, j, rfl, rfl, lim_line hc, k _ H G (Grow.refl e) (rp_str _)⟩
      · cases q
    | _ => simp [gAddS] at q
  | _ => simp [gAddS] at q

theorem addL_s : OpS K rCat gAddL := fun G H x y d1 d2 d e b1 b2 q Q k => by
  cases d1 with
  | list i =>
    cases d2 with
    | list j =>
      simp only [gAddL] at q
      split at q
      · rename_i hc
        cases q
        obtain ⟨p1, vs, rfl, h1, a1⟩ := b1.list e
        obtain ⟨p2, ws, rfl, h2, a2⟩ := b2.list e
        refine ⟨p1, p2, vs, ws, rfl, rfl, h1, h2, lim_line (by rw [a1.len, a2.len]; exact hc), fun p hp => k _ _ _ ((Grow.refl e).new hp) (.inl (.lst upd_same ?_))⟩
        exact dpa_mono (Same.upd_new (Same.refl G) (e.free hp)) _ (a1.append a2)
      · cases q
    | _ => simp [gAddL] at q
  | _ => simp [gAddL] at q
def gAddI : PyData → PyData → Option PyData := gI yesC fun i j => .int (i + j)
def rAdd3 : R2 := fun x y H Q => (rI0 fun i j => .int (i + j)) x y H Q ∨ (rAddS2 x y H Q ∨ rCat x y H Q)
def gAdd : PyData → PyData → Option PyData := alt gAddI (alt gAddS gAddL)
theorem op_add3 {X : Cx} : OpR X (binaryOp .Add) rAdd3 := op_add.or (op_add_str.or op_cat)
theorem add3_s : OpS K rAdd3 gAdd := (rI0_s fun F i j => rp_int _).or (addS_s.or addL_s)
def gMinus : PyData → PyData → Option PyData := gI yesC fun i j => .int (i - j)
theorem sub_s : OpS K (rI0 fun i j => .int (i - j)) gMinus := rI0_s fun F i j => rp_int _
/-- *: ints, one of them small; a list, a text times an int -/
def cMul (i j : Int) : Bool := decide (i.natAbs ≤ 1000000000) || decide (j.natAbs ≤ 1000000000)
def gMulI : PyData → PyData → Option PyData := gI cMul fun i j => .int (i * j)
theorem mulI_s : OpS K (rI CMul fun i j => .int (i * j)) gMulI := rI_s (fun i j h => by
  unfold cMul at h
  rw [Bool.or_eq_true, decide_eq_true_eq, decide_eq_true_eq] at h
  rcases h with h | h
  · exact .inl (by omega)
  · exact .inr (by omega)) fun F i j => rp_int _
def gMulL : PyData → PyData → Option PyData
  | .list x, .int k => if k ≤ 1000000 ∧ -1000000 ≤ k ∧ x.length * k.toNat ≤ LIM then some (.list (List.replicate k.toNat x).flatten) else none
  | _, _ => none
theorem dqa_rep {F : Hp} {vs : List V} {ds : List PyData} (h : DqAll K F vs ds) : ∀ n : Nat, DqAll K F (List.replicate n vs).flatten (List.replicate n ds).flatten
  | 0 => .nil
  | n + 1 => by
    rw [List.replicate_succ, List.replicate_succ, List.flatten_cons, List.flatten_cons]
    exact h.append (dqa_rep h n)
theorem mulL_s : OpS K rRep gMulL := fun G H x y d1 d2 d e b1 b2 q Q k => by
  cases d1 with
  | list i =>
    cases d2 with
    | int j =>
      simp only [gMulL] at q
      split at q
      · rename_i hc
        obtain ⟨c1, c2, c3⟩ := hc
        cases q
        obtain ⟨p1, vs, rfl, h1, a1⟩ := b1.list e
        cases b2.int
        refine ⟨p1, j, vs, rfl, rfl, h1, by omega, by omega, lim_line (by rw [a1.len]; exact c3), fun p hp => k _ _ _ ((Grow.refl e).new hp) (.inl (.lst upd_same ?_))⟩
        exact dpa_mono (Same.upd_new (Same.refl G) (e.free hp)) _ (dqa_rep a1 _)
      · cases q
    | _ => simp [gMulL] at q
  | _ => simp [gMulL] at q
def rMulS : R2 := fun x y H Q => ∃ z n, x = .str z ∧ y = .int n ∧ MulOk z n ∧ Q (.str (Txt.mul z n)) H
theorem op_mulS {X : Cx} : OpR X (binaryOp .Mult) rMulS := by
  intro pins s σ H x y v u Q I rx ry h
  obtain ⟨z, n, rfl, rfl, hm, q⟩ := h
  obtain ⟨t, rfl⟩ := rx
  obtain ⟨t', rfl⟩ := ry
  exact PySem.SB.mul hm fun t' k => ⟨.str _, H, I.tok _, ⟨_, rfl⟩, q⟩
def gMulS : PyData → PyData → Option PyData
  | .str x, .int k => if x.length ≤ 1000 ∧ k ≤ 1000 ∧ -1000 ≤ k then some (.str (Txt.mul x k)) else none
  | _, _ => none
theorem mulS_s : OpS K rMulS gMulS := fun G H x y d1 d2 d e b1 b2 q Q k => by
  cases d1 with
  | str i =>
    cases d2 with
    | int j =>
      simp only [gMulS] at q
      split at q
      · rename_i hc
        obtain ⟨c1, c2, c3⟩ := hc
        cases q
        cases b1.str
        cases b2.int
        exact ⟨i, j, rfl, rfl, PyProof.Rows.mulOk_of 1000 1000 c1 (by omega) (by omega) (by decide) (by decide), k _ H G (Grow.refl e) (rp_str _)⟩
      · cases q
    | _ => simp [gMulS] at q
  | _ => simp [gMulS] at q
def rMul3 : R2 := fun x y H Q => (rI CMul fun i j => .int (i * j)) x y H Q ∨ (rRep x y H Q ∨ rMulS x y H Q)
def gMul : PyData → PyData → Option PyData := alt gMulI (alt gMulL gMulS)
theorem op_mul3 {X : Cx} : OpR X (binaryOp .Mult) rMul3 := op_mul.or (op_rep.or op_mulS)
theorem mul3_s : OpS K rMul3 gMul := mulI_s.or (mulL_s.or mulS_s)
def cPos (_ j : Int) : Bool := decide (0 < j) && decide (j < 1073741824)
def gFdiv : PyData → PyData → Option PyData := gI cPos fun i j => .int (i / j)
def gMod : PyData → PyData → Option PyData := gI cPos fun i j => .int (i % j)
theorem cPos_ok {i j : Int} (h : cPos i j = true) : 0 < j ∧ j < 1073741824 := by
  unfold cPos at h
  rw [Bool.and_eq_true, decide_eq_true_eq, decide_eq_true_eq] at h
  exact h
theorem fdiv_s : OpS K (rI CDiv fun i j => .int (i / j)) gFdiv := rI_s (fun i j h => cPos_ok h) fun F i j => rp_int _
theorem mod_s : OpS K (rI (fun _ j => 0 < j) fun i j => .int (i % j)) gMod := rI_s (fun i j h => (cPos_ok h).1) fun F i j => rp_int _
def gLt : PyData → PyData → Option PyData := gI yesC fun i j => .bool (decide (i < j))
def gLe : PyData → PyData → Option PyData := gI yesC fun i j => .bool (decide (i ≤ j))
def gGt : PyData → PyData → Option PyData := gI yesC fun i j => .bool (decide (j < i))
def gGe : PyData → PyData → Option PyData := gI yesC fun i j => .bool (decide (j ≤ i))
theorem lt_s : OpS K (rI0 fun i j => .bl (decide (i < j))) gLt := rI0_s fun F i j => rp_bool _
theorem le_s : OpS K (rI0 fun i j => .bl (decide (i ≤ j))) gLe := rI0_s fun F i j => rp_bool _
theorem gt_s : OpS K (rI0 fun i j => .bl (decide (j < i))) gGt := rI0_s fun F i j => rp_bool _
theorem ge_s : OpS K (rI0 fun i j => .bl (decide (j ≤ i))) gGe := rI0_s fun F i j => rp_bool _
/-- == and != of data -/
def gEqD : PyData → PyData → Option PyData := fun a b => if dataD a = true ∧ dataD b = true ∧ SeqAt.shaped a = true ∧ SeqAt.shaped b = true then some (.bool (PyData.eqv a b)) else none
def gNeD : PyData → PyData → Option PyData := fun a b => if dataD a = true ∧ dataD b = true ∧ SeqAt.shaped a = true ∧ SeqAt.shaped b = true then some (.bool (!PyData.eqv a b)) else none
theorem Bp.dp {G H : Hp} {v : V} {d : PyData} (e : Same G H) (h : Bp K G H v d) (n : dataD d = true) : Dp K H v d := dq_dp d ((h.all e).dp (by rintro l rfl; cases n))
theorem eqD0_s : OpS K (rEqD K) gEqD := fun G H x y d1 d2 d e b1 b2 q Q k => by
  unfold gEqD at q
  split at q
  · rename_i hc
    obtain ⟨c1, c2, c3, c4⟩ := hc
    cases q
    exact ⟨d1, d2, b1.dp e c1, b2.dp e c2, c3, c4, k _ H G (Grow.refl e) (rp_bool _)⟩
  · cases q
theorem neD0_s : OpS K (rNeD K) gNeD := fun G H x y d1 d2 d e b1 b2 q Q k => by
  unfold gNeD at q
  split at q
  · rename_i hc
    obtain ⟨c1, c2, c3, c4⟩ := hc
    cases q
    exact ⟨d1, d2, b1.dp e c1, b2.dp e c2, c3, c4, k _ H G (Grow.refl e) (rp_bool _)⟩
  · cases q
/-- two values without parts -/
def eqSc : PyData → PyData → Option Bool
  | .int i, .int j => some (i == j)
  | .str i, .str j => some (i == j)
  | .bool i, .bool j => some (i == j)
  | .none, .none => some true
  | .int _, .str _ => some false
  | .str _, .int _ => some false
  | .none, .int _ => some false
  | .int _, .none => some false
  | .none, .str _ => some false
  | .str _, .none => some false
  | _, _ => none
def gEqS : PyData → PyData → Option PyData := fun a b => (eqSc a b).map .bool
def gNeS : PyData → PyData → Option PyData := fun a b => (eqSc a b).map fun c => .bool (!c)
theorem eqSc_ok {G H : Hp} {x y : V} {d1 d2 : PyData} {c : Bool} (b1 : Bp K G H x d1) (b2 : Bp K G H y d2) (q : eqSc d1 d2 = some c) : scal x y = true ∧ c = decide (x = y) := by
  unfold eqSc at q
  split at q
  · cases b1.int; cases b2.int; cases q; exact ⟨rfl, dec_int.symm⟩
  · cases b1.str; cases b2.str; cases q; exact ⟨rfl, dec_str.symm⟩
  · cases b1.bool; cases b2.bool; cases q; exact ⟨rfl, dec_bl.symm⟩
  · cases b1.non; cases b2.non; cases q; exact ⟨rfl, rfl⟩
  · cases b1.int; cases b2.str; cases q; exact ⟨rfl, (decide_eq_false (by intro z; cases z)).symm⟩
  · cases b1.str; cases b2.int; cases q; exact ⟨rfl, (decide_eq_false (by intro z; cases z)).symm⟩
  · cases b1.non; cases b2.int; cases q; exact ⟨rfl, (decide_eq_false (by intro z; cases z)).symm⟩
  · cases b1.int; cases b2.non; cases q; exact ⟨rfl, (decide_eq_false (by intro z; cases z)).symm⟩
  · cases b1.non; cases b2.str; cases q; exact ⟨rfl, (decide_eq_false (by intro z; cases z)).symm⟩
  · cases b1.str; cases b2.non; cases q; exact ⟨rfl, (decide_eq_false (by intro z; cases z)).symm⟩
  · cases q
theorem eqS_s : OpS K rEq gEqS := fun G H x y d1 d2 d e b1 b2 q Q k => by
  cases hc : eqSc d1 d2 with
  | none => simp [gEqS, hc] at q
  | some c =>
    simp [gEqS, hc] at q
    subst q
    obtain ⟨h1, h2⟩ := eqSc_ok b1 b2 hc
    exact ⟨h1, k _ H G (Grow.refl e) (by rw [h2]; exact rp_bool _)⟩
theorem neS_s : OpS K rNe gNeS := fun G H x y d1 d2 d e b1 b2 q Q k => by
  cases hc : eqSc d1 d2 with
  | none => simp [gNeS, hc] at q
  | some c =>
    simp [gNeS, hc] at q
    subst q
    obtain ⟨h1, h2⟩ := eqSc_ok b1 b2 hc
    exact ⟨h1, k _ H G (Grow.refl e) (by rw [h2]; exact rp_bool _)⟩
def rEq2 (K : PySem.W.Frag) : R2 := fun x y H Q => rEq x y H Q ∨ rEqD K x y H Q
def rNe2 (K : PySem.W.Frag) : R2 := fun x y H Q => rNe x y H Q ∨ rNeD K x y H Q
def gEq : PyData → PyData → Option PyData := alt gEqS gEqD
def gNe : PyData → PyData → Option PyData := alt gNeS gNeD
theorem op_eq2 {X : Cx} (hu : X.A.units + 64 < cLine) : OpR X (compareOp .Eq) (rEq2 X.K) := op_eq.or (op_eqD hu)
theorem op_ne2 {X : Cx} (hu : X.A.units + 64 < cLine) : OpR X (compareOp .NotEq) (rNe2 X.K) := op_ne.or (op_neD hu)
theorem eq2_s : OpS K (rEq2 K) gEq := eqS_s.or eqD0_s
theorem ne2_s : OpS K (rNe2 K) gNe := neS_s.or neD0_s
/-- in a list, a tuple of values without parts -/
def eqFl : PyData → PyData → Bool
  | .none, .none => true
  | .bool a, .bool b => a == b
  | .bool a, .int b => (if a then 1 else 0) == b
  | .int a, .bool b => a == (if b then 1 else 0)
  | .int a, .int b => a == b
  | .str a, .str b => a == b
  | _, _ => false
def gInF (neg : Bool) : PyData → PyData → Option PyData
  | d, .list ds => if scalD d = true ∧ ds.all scalD = true then some (.bool (if neg then !ds.any fun z => eqFl z d else ds.any fun z => eqFl z d)) else none
  | d, .tuple ds => if scalD d = true ∧ ds.all scalD = true then some (.bool (if neg then !ds.any fun z => eqFl z d else ds.any fun z => eqFl z d)) else none
  | _, _ => none
theorem flat_of {G : Hp} {v : V} {d : PyData} (h : Dq K G v d) (hs : scalD d = true) : flatV v = true := by
  cases h with
  | non => rfl
  | bl b => rfl
  | int i => rfl
  | str x => rfl
  | lst _ _ => cases hs
  | tup _ _ => cases hs
theorem eqFl_of {G : Hp} {x y : V} {d e : PyData} (h : Dq K G x d) (h' : Dq K G y e) (hs : scalD d = true) (hs' : scalD e = true) : eqV x y = eqFl d e := by
  cases h with
  | non => cases h' with
    | lst _ _ => cases hs'
    | tup _ _ => cases hs'
    | _ => rfl
  | bl b => cases h' with
    | lst _ _ => cases hs'
    | tup _ _ => cases hs'
    | _ => rfl
  | int i => cases h' with
    | lst _ _ => cases hs'
    | tup _ _ => cases hs'
    | _ => rfl
  | str x => cases h' with
    | lst _ _ => cases hs'
    | tup _ _ => cases hs'
    | _ => rfl
  | lst _ _ => cases hs
  | tup _ _ => cases hs
theorem flats_of {G : Hp} : ∀ {vs : List V} {ds : List PyData}, DqAll K G vs ds → ds.all scalD = true → vs.all flatV = true
  | [], [], _, _ => rfl
  | [], _ :: _, h, _ => by cases h
  | _ :: _, [], h, _ => by cases h
  | v :: vs, d :: ds, h, a => by
    cases h with
    | cons h1 h2 =>
      rw [List.all_cons, Bool.and_eq_true] at a ⊢
      exact ⟨flat_of h1 a.1, flats_of h2 a.2⟩
theorem inV_of {G : Hp} {x : V} {d : PyData} (hx : Dq K G x d) (hs : scalD d = true) : ∀ {vs : List V} {ds : List PyData}, DqAll K G vs ds → ds.all scalD = true → inV x vs = ds.any fun z => eqFl z d
  | [], [], _, _ => rfl
  | [], _ :: _, h, _ => by cases h
  | _ :: _, [], h, _ => by cases h
  | v :: vs, e :: ds, h, a => by
    cases h with
    | cons h1 h2 =>
      rw [List.all_cons, Bool.and_eq_true] at a
      have ih := inV_of hx hs h2 a.2
      unfold inV at ih ⊢
      rw [List.any_cons, List.any_cons, ih, eqFl_of h1 hx a.1 hs]
theorem scal_not {G H : Hp} {v : V} {d : PyData} (b : Bp K G H v d) (hs : scalD d = true) : Dq K G v d := by
  rcases b with b | ⟨p, vs, ds, _, rfl, _⟩
  · exact b.dp (by rintro l rfl; cases hs)
  · cases hs
theorem inF_s (neg : Bool) : OpS K (rIn K neg) (gInF neg) := fun G H x y d1 d2 d e b1 b2 q Q k => by
  unfold gInF at q
  split at q
  · split at q
    · rename_i hc
      obtain ⟨c1, c2⟩ := hc
      cases q
      obtain ⟨p, vs, rfl, h1, a1⟩ := b2.list e
      have hx := scal_not b1 c1
      refine ⟨p, vs, rfl, .inl (.inl (.inl h1)), flat_of hx c1, flats_of a1 c2, ?_⟩
      rw [inV_of hx c1 a1 c2]
      exact k _ H G (Grow.refl e) (rp_bool _)
    · cases q
  · split at q
    · rename_i hc
      obtain ⟨c1, c2⟩ := hc
      cases q
      obtain ⟨p, vs, rfl, h1, a1⟩ := b2.tuple e
      have hx := scal_not b1 c1
      refine ⟨p, vs, rfl, .inr h1, flat_of hx c1, flats_of a1 c2, ?_⟩
      rw [inV_of hx c1 a1 c2]
      exact k _ H G (Grow.refl e) (rp_bool _)
    · cases q
  · cases q
/-- in, not in: a list of data; a sign in a text; a text in a text -/
def gInL (neg : Bool) : PyData → PyData → Option PyData
  | d, .list ds => if dataD d = true ∧ SeqAt.shaped d = true ∧ SeqAt.shaped (.list ds) = true then some (.bool (if neg then !ds.any fun z => PyData.eqv z d else ds.any fun z => PyData.eqv z d)) else none
  | _, _ => none
theorem inL_s : OpS K (rInD K) (gInL false) := fun G H x y d1 d2 d e b1 b2 q Q k => by
  cases d2 with
  | list ds =>
    simp only [gInL] at q
    split at q
    · rename_i hc
      obtain ⟨c1, c2, c3⟩ := hc
      cases q
      exact ⟨d1, ds, b1.dp e c1, b2.dp e rfl, c2, c3, k _ H G (Grow.refl e) (rp_bool _)⟩
    · cases q
  | _ => simp [gInL] at q
theorem notInL_s : OpS K (rNotInD K) (gInL true) := fun G H x y d1 d2 d e b1 b2 q Q k => by
  cases d2 with
  | list ds =>
    simp only [gInL] at q
    split at q
    · rename_i hc
      obtain ⟨c1, c2, c3⟩ := hc
      cases q
      exact ⟨d1, ds, b1.dp e c1, b2.dp e rfl, c2, c3, k _ H G (Grow.refl e) (rp_bool _)⟩
    · cases q
  | _ => simp [gInL] at q
def rInSg (neg : Bool) : R2 := fun x y H Q => ∃ (c : Nat) (z : Str), x = .str ⟨#[c]⟩ ∧ y = .str z ∧ Q (.bl (if neg then !decide (c ∈ z.cps.toList) else decide (c ∈ z.cps.toList))) H
def gInS (neg : Bool) : PyData → PyData → Option PyData
  | .str x, .str z => match x.cps.toList with
    | [c] => some (.bool (if neg then !decide (c ∈ z.cps.toList) else decide (c ∈ z.cps.toList)))
    | _ => none
  | _, _ => none
theorem inS_s (neg : Bool) : OpS K (rInSg neg) (gInS neg) := fun G H x y d1 d2 d e b1 b2 q Q k => by
  cases d1 with
  | str i =>
    cases d2 with
    | str j =>
      simp only [gInS] at q
      split at q
      · rename_i c hc
        cases q
        cases b1.str
        cases b2.str
        have ei : i = ⟨#[c]⟩ := Str.ext' (Array.toList_inj.mp hc)
        exact ⟨c, j, by rw [ei], rfl, k _ H G (Grow.refl e) (rp_bool _)⟩
      · cases q
    | _ => simp [gInS] at q
  | _ => simp [gInS] at q
def rIn2 (K : PySem.W.Frag) : R2 := fun x y H Q => rIn K false x y H Q ∨ (rInD K x y H Q ∨ rInSg false x y H Q)
def rNotIn2 (K : PySem.W.Frag) : R2 := fun x y H Q => rIn K true x y H Q ∨ (rNotInD K x y H Q ∨ rInSg true x y H Q)
def gIn : PyData → PyData → Option PyData := alt (gInF false) (alt (gInL false) (gInS false))
def gNotIn : PyData → PyData → Option PyData := alt (gInF true) (alt (gInL true) (gInS true))
theorem op_in2 {X : Cx} (hu : X.A.units + 65 < cLine) : OpR X (compareOp .In) (rIn2 X.K) := op_in_seq.or ((op_inD hu).or op_in_sign)
theorem op_notIn2 {X : Cx} (hu : X.A.units + 65 < cLine) : OpR X (compareOp .NotIn) (rNotIn2 X.K) := op_notIn_seq.or ((op_notInD hu).or op_notIn_sign)
theorem in2_s : OpS K (rIn2 K) gIn := (inF_s false).or (inL_s.or (inS_s false))
theorem notIn2_s : OpS K (rNotIn2 K) gNotIn := (inF_s true).or (notInL_s.or (inS_s true))
/-- is, is not: None on the right; two truths -/
def rIs2 : R2 := fun x y H Q => (y = .non ∧ Q (.bl (decide (x = .non))) H) ∨ rIsB x y H Q
def rIsNot2 : R2 := fun x y H Q => (y = .non ∧ Q (.bl (!decide (x = .non))) H) ∨ rNotB x y H Q
end
end RT
namespace RT
open PySem PySem.Spec PyProof.Rows L2
/-! ### is None, is True -/
def isRhs : V → Bool
  | .non => true
  | .bl _ => true
  | _ => false
def isLhs : V → Bool
  | .non => true
  | .bl _ => true
  | .int _ => true
  | .str _ => true
  | .ref _ => true
  | _ => false
def rIsP : R2 := fun x y H Q => isLhs x = true ∧ isRhs y = true ∧ Q (.bl (decide (x = y))) H
def rIsNotP : R2 := fun x y H Q => isLhs x = true ∧ isRhs y = true ∧ Q (.bl (!decide (x = y))) H
section
variable {X : Cx}
theorem plain_of {x y : V} {v u : Value} (hx : isLhs x = true) (hy : isRhs y = true) (rx : RelV x v) (ry : RelV y u) : plainIs v u = true ∧ (v == u) = decide (x = y) := by
  cases y with
  | non =>
    cases (show u = Value.none from ry)
    refine ⟨?_, rx.none_iff⟩
    cases x with
    | non => cases (show v = Value.none from rx); rfl
    | bl b => cases (show v = Value.bool b from rx); rfl
    | int i => obtain ⟨t, rfl⟩ := rx; rfl
    | str i => obtain ⟨t, rfl⟩ := rx; rfl
    | ref a => cases (show v = Value.ref a from rx); rfl
    | _ => cases hx
  | bl c =>
    cases (show u = Value.bool c from ry)
    cases x with
    | non => cases (show v = Value.none from rx); exact ⟨rfl, by simp⟩
    | bl b =>
      cases (show v = Value.bool b from rx)
      refine ⟨rfl, ?_⟩
      cases b <;> cases c <;> decide
    | int i => obtain ⟨t, rfl⟩ := rx; exact ⟨rfl, by simp⟩
    | str i => obtain ⟨t, rfl⟩ := rx; exact ⟨rfl, by simp⟩
    | ref a => cases (show v = Value.ref a from rx); exact ⟨rfl, by simp⟩
    | _ => cases hx
  | _ => cases hy
theorem op_isP : OpR X (compareOp .Is) rIsP := by
  intro pins s σ H x y v u Q I rx ry h
  obtain ⟨hx, hy, q⟩ := h
  obtain ⟨p1, p2⟩ := plain_of hx hy rx ry
  refine wpAny_is_plain p1 ?_
  rw [p2]
  exact ⟨.bl _, H, I, rfl, q⟩
theorem op_isNotP : OpR X (compareOp .IsNot) rIsNotP := by
  intro pins s σ H x y v u Q I rx ry h
  obtain ⟨hx, hy, q⟩ := h
  obtain ⟨p1, p2⟩ := plain_of hx hy rx ry
  refine wpAny_isNot_plain p1 ?_
  rw [p2]
  exact ⟨.bl _, H, I, rfl, q⟩
end
section
variable {K : PySem.W.Frag}
/-- is: the right side None, True or False -/
def isD : PyData → PyData → Option Bool
  | .none, .none => some true
  | .bool _, .none => some false
  | .int _, .none => some false
  | .str _, .none => some false
  | .list _, .none => some false
  | .tuple _, .none => some false
  | .bool a, .bool b => some (a == b)
  | .none, .bool _ => some false
  | .int _, .bool _ => some false
  | .str _, .bool _ => some false
  | .list _, .bool _ => some false
  | .tuple _, .bool _ => some false
  | _, _ => none
def gIs : PyData → PyData → Option PyData := fun a b => (isD a b).map .bool
def gIsNot : PyData → PyData → Option PyData := fun a b => (isD a b).map fun c => .bool (!c)
theorem isD_ok {G H : Hp} {x y : V} {d1 d2 : PyData} {c : Bool} (e : Same G H) (b1 : Bp K G H x d1) (b2 : Bp K G H y d2) (q : isD d1 d2 = some c) : isLhs x = true ∧ isRhs y = true ∧ c = decide (x = y) := by
  cases d2 with
  | none =>
    cases b2.non
    cases d1 with
    | none => cases b1.non; cases q; exact ⟨rfl, rfl, rfl⟩
    | bool b => cases b1.bool; cases q; exact ⟨rfl, rfl, by simp⟩
    | int i => cases b1.int; cases q; exact ⟨rfl, rfl, by simp⟩
    | str i => cases b1.str; cases q; exact ⟨rfl, rfl, by simp⟩
    | list l => obtain ⟨p, vs, rfl, _⟩ := b1.list e; cases q; exact ⟨rfl, rfl, by simp⟩
    | tuple l => obtain ⟨p, vs, rfl, _⟩ := b1.tuple e; cases q; exact ⟨rfl, rfl, by simp⟩
    | _ => cases q
  | bool b' =>
    cases b2.bool
    cases d1 with
    | none => cases b1.non; cases q; exact ⟨rfl, rfl, by simp⟩
    | bool b => cases b1.bool; cases q; refine ⟨rfl, rfl, ?_⟩; cases b <;> cases b' <;> decide
    | int i => cases b1.int; cases q; exact ⟨rfl, rfl, by simp⟩
    | str i => cases b1.str; cases q; exact ⟨rfl, rfl, by simp⟩
    | list l => obtain ⟨p, vs, rfl, _⟩ := b1.list e; cases q; exact ⟨rfl, rfl, by simp⟩
    | tuple l => obtain ⟨p, vs, rfl, _⟩ := b1.tuple e; cases q; exact ⟨rfl, rfl, by simp⟩
    | _ => cases q
  | _ => cases d1 <;> cases q
theorem is_s : OpS K rIsP gIs := fun G H x y d1 d2 d e b1 b2 q Q k => by
  cases hc : isD d1 d2 with
  | none => simp [gIs, hc] at q
  | some c =>
    simp [gIs, hc] at q
    subst q
    obtain ⟨h1, h2, h3⟩ := isD_ok e b1 b2 hc
    exact ⟨h1, h2, k _ H G (Grow.refl e) (by rw [h3]; exact rp_bool _)⟩
theorem isNot_s : OpS K rIsNotP gIsNot := fun G H x y d1 d2 d e b1 b2 q Q k => by
  cases hc : isD d1 d2 with
  | none => simp [gIsNot, hc] at q
  | some c =>
    simp [gIsNot, hc] at q
    subst q
    obtain ⟨h1, h2, h3⟩ := isD_ok e b1 b2 hc
    exact ⟨h1, h2, k _ H G (Grow.refl e) (by rw [h3]; exact rp_bool _)⟩

/-! ### an item, a slice -/
def gIx0 : PyData → PyData → Option PyData
  | .list ds, .int i => atI ds i
  | .tuple ds, .int i => atI ds i
  | .str z, .int i => if z.length ≤ LIM then (atI z.cps.toList i).map fun c => .str ⟨#[c]⟩ else none
  | _, _ => none
theorem atI_of {F : Hp} {vs : List V} {ds : List PyData} {i : Int} {d : PyData} (h : DqAll K F vs ds) (q : atI ds i = some d) : ∃ v, atI vs i = some v ∧ Dq K F v d := by
  unfold atI at q ⊢
  rw [h.len]
  cases hx : ixN ds.length i with
  | none => rw [hx] at q; cases q
  | some j =>
    rw [hx] at q
    exact h.get q
theorem ix0_s : OpS K (rIx K) gIx0 := fun G H x y d1 d2 d e b1 b2 q Q k => by
  cases d2 with
  | int i =>
    cases b2.int
    cases d1 with
    | list ds =>
      obtain ⟨p, vs, rfl, h1, a1⟩ := b1.list e
      obtain ⟨v, h2, h3⟩ := atI_of a1 q
      exact .inl ⟨p, vs, i, v, rfl, rfl, .inl (.inl h1), h2, k v H G (Grow.refl e) (.inl h3)⟩
    | tuple ds =>
      obtain ⟨p, vs, rfl, h1, a1⟩ := b1.tuple e
      obtain ⟨v, h2, h3⟩ := atI_of a1 q
      exact .inr (.inl ⟨p, vs, i, v, rfl, rfl, h1, h2, k v H G (Grow.refl e) (.inl h3)⟩)
    | str z =>
      cases b1.str
      simp only [gIx0] at q
      split at q
      · rename_i hz
        cases hc : atI z.cps.toList i with
        | none => simp [hc] at q
        | some c =>
          simp [hc] at q
          subst q
          exact .inr (.inr ⟨z, i, c, rfl, rfl, lim_line hz, hc, k _ H G (Grow.refl e) (rp_str _)⟩)
      · cases q
    | _ => cases q
  | _ => cases d1 <;> cases q
/-- an item of the script -/
def gIxS : PyData → PyData → Option PyData
  | .dict [(.none, .list ds)], .int i => atI ds i
  | _, _ => none
theorem ixS_s : OpS K (rIx K) gIxS := fun G H x y d1 d2 d e b1 b2 q Q k => by
  unfold gIxS at q
  split at q
  · cases b2.int
    obtain ⟨p, vs, rfl, h1, a1⟩ := b1.scr e
    obtain ⟨v, h2, h3⟩ := atI_of a1 q
    exact .inl ⟨p, vs, _, v, rfl, rfl, h1, h2, k v H G (Grow.refl e) (.inl h3)⟩
  · cases q
theorem OpS.alt {r : R2} {g g' : PyData → PyData → Option PyData} (h : OpS K r g) (h' : OpS K r g') : OpS K r (RT.alt g g') := fun G H x y d1 d2 d e b1 b2 q Q k => by
  unfold RT.alt at q
  split at q
  · rename_i d' hd
    cases q
    exact h G H x y d1 d2 _ e b1 b2 hd Q k
  · exact h' G H x y d1 d2 d e b1 b2 q Q k
def gIx : PyData → PyData → Option PyData := alt gIx0 gIxS
theorem ix_s : OpS K (rIx K) gIx := ix0_s.alt ixS_s
def cutA {α : Type} (xs : List α) (lo hi : Option Int) : List α := (xs.drop (HT.sIx xs.length 0 lo)).take (HT.sIx xs.length xs.length hi - HT.sIx xs.length 0 lo)
/-- a part of a slice -/
abbrev SO := Rho → Option (Option Int)
def oNone : SO := fun _ => some none
def oSome (f : SE) : SO := fun ρ => (f ρ).bind fun d => match d with
  | .int i => some (some i)
  | _ => none
def OOk (K : PySem.W.Frag) (B : Hp) (t : TO) (f : SO) : Prop := ∀ (F H : Hp) (σ : L2.St) (ρ : Rho) (o : Option Int), EnvOk K B F H σ ρ → f ρ = some o → ∀ Q : Option Int → Hp → Prop, (∀ H' G, Grow H F H' G → Q o H') → t σ H Q
structure SemO (X : Cx) (K : PySem.W.Frag) (B : Hp) (e : Option Expr) (t : TO) (f : SO) : Prop where
  po : PO X e t
  ok : OOk K B t f
theorem so_none {X : Cx} {K : PySem.W.Frag} {B : Hp} : SemO X K B none tNoPart oNone := ⟨po_none, fun F H σ ρ o E q Q k => by
  cases q
  exact k H F (Grow.refl E.ex)⟩
theorem so_some {X : Cx} {K : PySem.W.Frag} {B : Hp} {e : Expr} {t : TE} {f : SE} (h : SemB X K B e t f) : SemO X K B (some e) (tPart t) (oSome f) := ⟨po_some h.pe, fun F H σ ρ o E q Q k => by
  cases e1 : f ρ with
  | none => simp [oSome, e1] at q
  | some d =>
    cases d with
    | int i =>
      simp [oSome, e1] at q
      subst q
      exact h.ok F H σ ρ _ E e1 _ fun v H1 G1 g1 b1 => ⟨i, b1.int, k H1 G1 g1⟩
    | _ => simp [oSome, e1] at q⟩
def lSl (f : SE) (a b : SO) : SA := fun ρ => (f ρ).bind fun d => (a ρ).bind fun lo => (b ρ).bind fun hi => match d with
  | .list ds => some (cutA ds lo hi)
  | .dict [(.none, .list ds)] => some (cutA ds lo hi)
  | _ => none
def eSlS (f : SE) (a b : SO) : SE := fun ρ => (f ρ).bind fun d => (a ρ).bind fun lo => (b ρ).bind fun hi => match d with
  | .str z => if z.length ≤ LIM then some (.str (cutS z lo hi)) else none
  | _ => none
theorem cutV_dq {F : Hp} {vs : List V} {ds : List PyData} (h : DqAll K F vs ds) (lo hi : Option Int) : DqAll K F (cutV vs lo hi) (cutA ds lo hi) := by
  unfold cutV cutA
  rw [h.len]
  exact (h.drop _).take _
theorem lSl_inv {f : SE} {a b : SO} {ρ : Rho} {ds : List PyData} (q : lSl f a b ρ = some ds) : ∃ d lo hi es, f ρ = some d ∧ a ρ = some lo ∧ b ρ = some hi ∧ (d = .list es ∨ d = .dict [(.none, .list es)]) ∧ ds = cutA es lo hi := by
  unfold lSl at q
  cases e0 : f ρ with
  | none => simp [e0] at q
  | some d =>
    cases e1 : a ρ with
    | none => simp [e0, e1] at q
    | some lo =>
      cases e2 : b ρ with
      | none => simp [e0, e1, e2] at q
      | some hi =>
        rw [e0, e1, e2, Option.bind_some, Option.bind_some, Option.bind_some] at q
        split at q
        · rename_i es
          cases q
          exact ⟨_, lo, hi, es, rfl, rfl, rfl, .inl rfl, rfl⟩
        · rename_i es
          cases q
          exact ⟨_, lo, hi, es, rfl, rfl, rfl, .inr rfl, rfl⟩
        · cases q
theorem slL_ok {B : Hp} {te : TE} {tl th : TO} {f : SE} {a b : SO} (h : BOk K B te f) (h1 : OOk K B tl a) (h2 : OOk K B th b) : LOk K B (tSl (rSlL K) te tl th) (lSl f a b) := fun F H σ ρ ds E q Q k => by
  obtain ⟨d, lo, hi, es, e0, e1, e2, hd, rfl⟩ := lSl_inv q
  refine h F H σ ρ _ E e0 _ fun v H1 G1 g1 b1 => h1 G1 H1 σ ρ _ (E.grow g1) e1 _ fun H2 G2 g2 => h2 G2 H2 σ ρ _ ((E.grow g1).grow g2) e2 _ fun H3 G3 g3 => ?_
  have b3 := b1.mono (g2.f.trans g3.f) (g2.h.trans g3.h)
  have z : ∃ p vs, v = .ref p ∧ SqL K H3 p vs ∧ DqAll K G3 vs es := by
    rcases hd with rfl | rfl
    · obtain ⟨p, vs, e1, e2, e3⟩ := b3.list g3.sub
      exact ⟨p, vs, e1, .inl (.inl e2), e3⟩
    · exact b3.scr g3.sub
  obtain ⟨p, vs, rfl, hR, hA⟩ := z
  exact ⟨p, vs, rfl, hR, fun q hq => k q _ _ G3 (((g1.trans g2).trans g3).beside hq) (((g1.trans g2).trans g3).h.free hq) (g3.sub.free hq) upd_same (cutV_dq hA lo hi)⟩
theorem slS_ok {B : Hp} {te : TE} {tl th : TO} {f : SE} {a b : SO} (h : BOk K B te f) (h1 : OOk K B tl a) (h2 : OOk K B th b) : EOk K B (tSl rSlS te tl th) (eSlS f a b) := fun F H σ ρ d' E q Q k => by
  cases e0 : f ρ with
  | none => simp [eSlS, e0] at q
  | some d =>
    cases e1 : a ρ with
    | none => simp [eSlS, e0, e1] at q
    | some lo =>
      cases e2 : b ρ with
      | none => simp [eSlS, e0, e1, e2] at q
      | some hi =>
        cases d with
        | str z =>
          simp only [eSlS, e0, e1, e2, Option.bind_some] at q
          split at q
          · rename_i hz
            cases q
            refine h F H σ ρ _ E e0 _ fun v H1 G1 g1 b1 => h1 G1 H1 σ ρ _ (E.grow g1) e1 _ fun H2 G2 g2 => h2 G2 H2 σ ρ _ ((E.grow g1).grow g2) e2 _ fun H3 G3 g3 => ?_
            exact ⟨z, b1.str, lim_line hz, k _ H3 G3 ((g1.trans g2).trans g3) (rp_str _)⟩
          · cases q
        | _ => simp [eSlS, e0, e1, e2] at q

/-! ### built-ins -/
theorem BpAll.two {G H : Hp} {vs : List V} {a b : PyData} (h : BpAll K G H vs [a, b]) : ∃ x y, vs = [x, y] ∧ Bp K G H x a ∧ Bp K G H y b := by
  cases h with
  | cons h1 h2 =>
    cases h2 with
    | cons h2 h3 =>
      cases h3
      exact ⟨_, _, rfl, h1, h2⟩
theorem BpAll.one {G H : Hp} {vs : List V} {a : PyData} (h : BpAll K G H vs [a]) : ∃ x, vs = [x] ∧ Bp K G H x a := by
  cases h with
  | cons h1 h2 =>
    cases h2
    exact ⟨_, rfl, h1⟩
def gLen : List PyData → Option PyData
  | [.list ds] => some (.int (ds.length : Nat))
  | [.tuple ds] => some (.int (ds.length : Nat))
  | [.dict [(.none, .list ds)]] => some (.int (ds.length : Nat))
  | [.str z] => if z.length ≤ LIM then some (.int (z.length : Nat)) else none
  | _ => none
def rLenA (K : PySem.W.Frag) : List V → Hp → VK → Prop := fun xs H Q => ∃ x n, xs = [x] ∧ LenV K x H n ∧ Q (.int n) H
theorem len_s : CallS K (rLenA K) gLen := fun G H xs ds d e b q Q k => by
  match ds, q with
  | [.list es], q =>
    cases q
    obtain ⟨x, rfl, b1⟩ := b.one
    obtain ⟨p, vs, rfl, h1, a1⟩ := b1.list e
    exact ⟨.ref p, vs.length, rfl, .inl ⟨vs, .inl (.inl h1), rfl⟩, k _ H G (Grow.refl e) (by rw [a1.len]; exact rp_int _)⟩
  | [.dict [(.none, .list es)]], q =>
    cases q
    obtain ⟨x, rfl, b1⟩ := b.one
    obtain ⟨p, vs, rfl, h1, a1⟩ := b1.scr e
    exact ⟨.ref p, vs.length, rfl, .inl ⟨vs, h1, rfl⟩, k _ H G (Grow.refl e) (by rw [a1.len]; exact rp_int _)⟩
  | [.tuple es], q =>
    cases q
    obtain ⟨x, rfl, b1⟩ := b.one
    obtain ⟨p, vs, rfl, h1, a1⟩ := b1.tuple e
    exact ⟨.ref p, vs.length, rfl, .inr ⟨vs, h1, rfl⟩, k _ H G (Grow.refl e) (by rw [a1.len]; exact rp_int _)⟩
  | [.str z], q =>
    simp only [gLen] at q
    split at q
    · rename_i hz
      cases q
      obtain ⟨x, rfl, b1⟩ := b.one
      cases b1.str
      exact ⟨.str z, z.length, rfl, ⟨lim_line hz, rfl⟩, k _ H G (Grow.refl e) (rp_int _)⟩
    · cases q
def gMax : List PyData → Option PyData
  | [.int i, .int j] => some (.int (if j > i then j else i))
  | _ => none
def gMin : List PyData → Option PyData
  | [.int i, .int j] => some (.int (if j < i then j else i))
  | _ => none
def rMax2 : List V → Hp → VK → Prop := fun xs H Q => ∃ i j, xs = [.int i, .int j] ∧ Q (.int (if j > i then j else i)) H
def rMin2 : List V → Hp → VK → Prop := fun xs H Q => ∃ i j, xs = [.int i, .int j] ∧ Q (.int (if j < i then j else i)) H
theorem max_s : CallS K rMax2 gMax := fun G H xs ds d e b q Q k => by
  match ds, q with
  | [.int i, .int j], q =>
    cases q
    obtain ⟨x, y, rfl, b1, b2⟩ := b.two
    cases b1.int
    cases b2.int
    exact ⟨i, j, rfl, k _ H G (Grow.refl e) (rp_int _)⟩
theorem min_s : CallS K rMin2 gMin := fun G H xs ds d e b q Q k => by
  match ds, q with
  | [.int i, .int j], q =>
    cases q
    obtain ⟨x, y, rfl, b1, b2⟩ := b.two
    cases b1.int
    cases b2.int
    exact ⟨i, j, rfl, k _ H G (Grow.refl e) (rp_int _)⟩
def gInt : List PyData → Option PyData
  | [.int i] => some (.int i)
  | [.bool b] => some (.int (if b then 1 else 0))
  | _ => none
def rInt1 : List V → Hp → VK → Prop := fun xs H Q => (∃ i, xs = [.int i] ∧ Q (.int i) H) ∨ ∃ k, xs = [.bl k] ∧ Q (.int (if k then 1 else 0)) H
theorem int_s : CallS K rInt1 gInt := fun G H xs ds d e b q Q k => by
  match ds, q with
  | [.int i], q =>
    cases q
    obtain ⟨x, rfl, b1⟩ := b.one
    cases b1.int
    exact .inl ⟨i, rfl, k _ H G (Grow.refl e) (rp_int _)⟩
  | [.bool c], q =>
    cases q
    obtain ⟨x, rfl, b1⟩ := b.one
    cases b1.bool
    exact .inr ⟨c, rfl, k _ H G (Grow.refl e) (rp_int _)⟩
/-- list(..) of a list, a tuple: a new list -/
def gListOf : List PyData → Option (List PyData)
  | [.list ds] => some ds
  | [.tuple ds] => some ds
  | _ => none
def rListOf (K : PySem.W.Frag) : List V → Hp → VK → Prop := fun xs H Q => ∃ p ys, xs = [.ref p] ∧ (SqL K H p ys ∨ SqT K H p ys) ∧ ∀ l, H l = none → Q (.ref l) (upd H l (.lst ys))
theorem listOf_s : CallL K (rListOf K) gListOf := fun G H xs ds d e b q Q k => by
  match ds, q with
  | [.list es], q =>
    cases q
    obtain ⟨x, rfl, b1⟩ := b.one
    obtain ⟨p, vs, rfl, h1, a1⟩ := b1.list e
    exact ⟨p, vs, rfl, .inl (.inl (.inl h1)), fun l hl => k l vs _ G ((Grow.refl e).beside hl) hl (e.free hl) upd_same a1⟩
  | [.tuple es], q =>
    cases q
    obtain ⟨x, rfl, b1⟩ := b.one
    obtain ⟨p, vs, rfl, h1, a1⟩ := b1.tuple e
    exact ⟨p, vs, rfl, .inr h1, fun l hl => k l vs _ G ((Grow.refl e).beside hl) hl (e.free hl) upd_same a1⟩
/-- sum(..) of a list of ints -/
def intsD : List PyData → Option (List Int)
  | [] => some []
  | .int i :: ds => (intsD ds).map (i :: ·)
  | _ :: _ => none
theorem intsD_ok : ∀ {ds : List PyData} {ns : List Int}, intsD ds = some ns → ds = ns.map PyData.int
  | [], ns, h => by cases h; rfl
  | .int i :: ds, ns, h => by
    cases e : intsD ds with
    | none => simp [intsD, e] at h
    | some ms =>
      simp [intsD, e] at h
      subst h
      rw [intsD_ok e]; rfl
  | .none :: _, _, h => by cases h
  | .bool _ :: _, _, h => by cases h
  | .str _ :: _, _, h => by cases h
  | .list _ :: _, _, h => by cases h
  | .tuple _ :: _, _, h => by cases h
  | .dict _ :: _, _, h => by cases h
theorem intsD_map (ns : List Int) : intsD (ns.map PyData.int) = some ns := by
  induction ns with
  | nil => rfl
  | cons n ns ih => simp [intsD, ih]
def gSum : List PyData → Option PyData
  | [.list ds] => (intsD ds).map fun ns => .int ns.sum
  | _ => none
theorem sum_s : CallS K (rSum K) gSum := fun G H xs ds d e b q Q k => by
  match ds, q with
  | [.list es], q =>
    cases hn : intsD es with
    | none => simp [gSum, hn] at q
    | some ns =>
      simp [gSum, hn] at q
      subst q
      obtain ⟨x, rfl, b1⟩ := b.one
      obtain ⟨p, vs, rfl, h1, a1⟩ := b1.list e
      rw [intsD_ok hn] at a1
      have ev := ints_dpa ns a1
      subst ev
      exact ⟨p, ns, rfl, .inl (.inl h1), k _ H G (Grow.refl e) (rp_int _)⟩
/-! ### isinstance of a built-in class -/
inductive TyN where
  | bool | int | str | list | tuple
def tyn : TyN → String
  | .bool => "bool"
  | .int => "int"
  | .str => "str"
  | .list => "list"
  | .tuple => "tuple"
def tyD : PyData → String
  | .none => "NoneType"
  | .bool _ => "bool"
  | .int _ => "int"
  | .str _ => "str"
  | .list _ => "list"
  | .tuple _ => "tuple"
  | .dict _ => "dict"
def isiD : TyN → PyData → Bool
  | .bool, .bool _ => true
  | .int, .bool _ => true
  | .int, .int _ => true
  | .str, .str _ => true
  | .list, .list _ => true
  | .tuple, .tuple _ => true
  | _, _ => false
theorem kitB_bool : ∀ T : TyN, kitB "bool" (tyn T) = some (isiD T (.bool true)) := fun T => by cases T <;> decide +kernel
theorem kitB_int : ∀ T : TyN, kitB "int" (tyn T) = some (isiD T (.int 0)) := fun T => by cases T <;> decide +kernel
theorem kitB_str : ∀ T : TyN, kitB "str" (tyn T) = some (isiD T (.str Str.empty)) := fun T => by cases T <;> decide +kernel
theorem kitB_list : ∀ T : TyN, kitB "list" (tyn T) = some (isiD T (.list [])) := fun T => by cases T <;> decide +kernel
theorem kitB_tuple : ∀ T : TyN, kitB "tuple" (tyn T) = some (isiD T (.tuple [])) := fun T => by cases T <;> decide +kernel
theorem kitB_none : ∀ T : TyN, kitB "NoneType" (tyn T) = some (isiD T .none) := fun T => by cases T <;> decide +kernel
theorem kitB_ok (T : TyN) (d : PyData) (hd : dataD d = true) : kitB (tyD d) (tyn T) = some (isiD T d) := by
  cases d with
  | dict _ => cases hd
  | none => exact kitB_none T
  | bool _ => have h := kitB_bool T; cases T <;> exact h
  | int _ => have h := kitB_int T; cases T <;> exact h
  | str _ => have h := kitB_str T; cases T <;> exact h
  | list _ => have h := kitB_list T; cases T <;> exact h
  | tuple _ => have h := kitB_tuple T; cases T <;> exact h
theorem sqt_ty {H : Hp} {a : Addr} {xs : List V} (h : SqT K H a xs) : TyX K H (.ref a) (.type "tuple") := by
  rcases h with (h | ⟨o, h⟩) | ⟨o, its, n, hk, hc, _⟩
  · exact .base (.tup h)
  · exact .fTuple h
  · exact .kTuple hk hc
theorem bp_ty {G H : Hp} {v : V} {d : PyData} (e : Same G H) (h : Bp K G H v d) (hd : dataD d = true) : TyX K H v (.type (tyD d)) := by
  cases d with
  | none => cases h.non; exact .base .non
  | bool b => cases h.bool; exact .base (.bl b)
  | int b => cases h.int; exact .base (.int b)
  | str b => cases h.str; exact .base (.str b)
  | list l => obtain ⟨p, vs, rfl, h1, _⟩ := h.list e; exact .base (.lst h1)
  | tuple l => obtain ⟨p, vs, rfl, h1, _⟩ := h.tuple e; exact sqt_ty h1
  | dict _ => cases hd
def eIsi (T : TyN) (f : SE) : SE := fun ρ => (f ρ).bind fun d => if dataD d = true then some (.bool (isiD T d)) else none
theorem isi_ok {B : Hp} {t : TE} {f : SE} (T : TyN) (h : BOk K B t f) : EOk K B (tCB (rIsi K) (tCons t (tCons (tC (.ty (tyn T))) tNil))) (eIsi T f) := fun F H σ ρ d E q Q k => by
  cases e0 : f ρ with
  | none => simp [eIsi, e0] at q
  | some x =>
    simp only [eIsi, e0, Option.bind_some] at q
    split at q
    · rename_i hd
      cases q
      refine h F H σ ρ _ E e0 _ fun v H1 G1 g1 b1 => ?_
      exact ⟨v, .ty (tyn T), .type (tyD x), .type (tyn T), isiD T x, rfl, .ty _, bp_ty g1.sub b1 hd, kit_ty (kitB_ok T x hd), k _ H1 G1 g1 (rp_bool _)⟩
    · cases q
end
end RT
namespace RT
open PySem PySem.Spec PyProof.Rows L2
/-! ### tests -/
def bF (f : SE) : STe := fun ρ => (f ρ).bind fun d => match d with
  | .bool b => some b
  | _ => none
def tAndF (f g : STe) : STe := fun ρ => (f ρ).bind fun b => if b = true then g ρ else some false
def tOrF (f g : STe) : STe := fun ρ => (f ρ).bind fun b => if b = true then some true else g ρ
def tNotF (f : STe) : STe := fun ρ => (f ρ).map (!·)
def eAndF (f g : SE) : SE := fun ρ => (bF f ρ).bind fun b => if b = true then g ρ else some (.bool false)
def eOrF (f g : SE) : SE := fun ρ => (bF f ρ).bind fun b => if b = true then some (.bool true) else g ρ
def eNotF (f : SE) : SE := fun ρ => (bF f ρ).map fun b => .bool (!b)
def eIfF (t : STe) (f g : SE) : SE := fun ρ => (t ρ).bind fun b => if b = true then f ρ else g ρ
def eChainF (g g' : PyData → PyData → Option PyData) (f1 f2 f3 : SE) : SE := fun ρ => (f1 ρ).bind fun x => (f2 ρ).bind fun y => (g x y).bind fun z => match z with
  | .bool true => (f3 ρ).bind fun u => g' y u
  | .bool false => some (.bool false)
  | _ => none
theorem Rp.bl {K : PySem.W.Frag} {G : Hp} {v : V} {b : Bool} (h : Rp K G v (.bool b)) : v = .bl b := Bp.bool (H := G) (.inl h)
section
variable {K : PySem.W.Frag} {B : Hp} {t t1 t2 t3 : TE} {tt u : TT} {f f1 f2 f3 : SE} {g h : STe}
theorem bF_some {ρ : Rho} {b : Bool} (q : bF f ρ = some b) : f ρ = some (.bool b) := by
  unfold bF at q
  cases e : f ρ with
  | none => simp [e] at q
  | some d =>
    cases d with
    | bool c => simp [e] at q; rw [q]
    | _ => simp [e] at q
theorem tB_ok (k : EOk K B t f) : TOk K B (tB t) (bF f) := fun F H σ ρ b E q Q kk => k F H σ ρ _ E (bF_some q) _ fun v H1 G1 g1 r => ⟨b, r.bl, kk H1 G1 g1⟩
theorem tTest_ok (k : EOk K B t f) : TOk K B (tTest t) (bF f) := fun F H σ ρ b E q Q kk => k F H σ ρ _ E (bF_some q) _ fun v H1 G1 g1 r => ⟨b, r.bl, kk H1 G1 g1⟩
theorem tAnd_ok (k1 : TOk K B tt g) (k2 : TOk K B u h) : TOk K B (tAnd tt u) (tAndF g h) := fun F H σ ρ b E q Q kk => by
  cases e1 : g ρ with
  | none => simp [tAndF, e1] at q
  | some c =>
    refine k1 F H σ ρ c E e1 _ fun H1 G1 g1 => ?_
    cases c with
    | true =>
      have q' : h ρ = some b := by simpa [tAndF, e1] using q
      show u σ H1 Q
      exact k2 G1 H1 σ ρ b (E.grow g1) q' Q fun H2 G2 g2 => kk H2 G2 (g1.trans g2)
    | false =>
      have q' : b = false := by simpa [tAndF, e1] using q.symm
      subst q'
      show Q false H1
      exact kk H1 G1 g1
theorem tOr_ok (k1 : TOk K B tt g) (k2 : TOk K B u h) : TOk K B (tOr tt u) (tOrF g h) := fun F H σ ρ b E q Q kk => by
  cases e1 : g ρ with
  | none => simp [tOrF, e1] at q
  | some c =>
    refine k1 F H σ ρ c E e1 _ fun H1 G1 g1 => ?_
    cases c with
    | true =>
      have q' : b = true := by simpa [tOrF, e1] using q.symm
      subst q'
      show Q true H1
      exact kk H1 G1 g1
    | false =>
      have q' : h ρ = some b := by simpa [tOrF, e1] using q
      show u σ H1 Q
      exact k2 G1 H1 σ ρ b (E.grow g1) q' Q fun H2 G2 g2 => kk H2 G2 (g1.trans g2)
theorem tNot_ok (k1 : TOk K B tt g) : TOk K B (tNot tt) (tNotF g) := fun F H σ ρ b E q Q kk => by
  cases e1 : g ρ with
  | none => simp [tNotF, e1] at q
  | some c =>
    have q' : b = !c := by simpa [tNotF, e1] using q.symm
    subst q'
    exact k1 F H σ ρ c E e1 _ fun H1 G1 g1 => kk H1 G1 g1
theorem andV_ok (k1 : EOk K B t1 f1) (k2 : EOk K B t2 f2) : EOk K B (tAndV t1 t2) (eAndF f1 f2) := fun F H σ ρ d E q Q kk => by
  cases e1 : bF f1 ρ with
  | none => simp [eAndF, e1] at q
  | some c =>
    refine k1 F H σ ρ _ E (bF_some e1) _ fun v H1 G1 g1 r => ⟨c, r.bl, ?_⟩
    cases c with
    | true =>
      have q' : f2 ρ = some d := by simpa [eAndF, e1] using q
      show t2 σ H1 Q
      exact k2 G1 H1 σ ρ d (E.grow g1) q' Q fun v H2 G2 g2 r2 => kk v H2 G2 (g1.trans g2) r2
    | false =>
      have q' : d = .bool false := by simpa [eAndF, e1] using q.symm
      subst q'
      show Q (.bl false) H1
      exact kk _ H1 G1 g1 (rp_bool _)
theorem orV_ok (k1 : EOk K B t1 f1) (k2 : EOk K B t2 f2) : EOk K B (tOrV t1 t2) (eOrF f1 f2) := fun F H σ ρ d E q Q kk => by
  cases e1 : bF f1 ρ with
  | none => simp [eOrF, e1] at q
  | some c =>
    refine k1 F H σ ρ _ E (bF_some e1) _ fun v H1 G1 g1 r => ⟨c, r.bl, ?_⟩
    cases c with
    | true =>
      have q' : d = .bool true := by simpa [eOrF, e1] using q.symm
      subst q'
      show Q (.bl true) H1
      exact kk _ H1 G1 g1 (rp_bool _)
    | false =>
      have q' : f2 ρ = some d := by simpa [eOrF, e1] using q
      show t2 σ H1 Q
      exact k2 G1 H1 σ ρ d (E.grow g1) q' Q fun v H2 G2 g2 r2 => kk v H2 G2 (g1.trans g2) r2
theorem notV_ok (k1 : EOk K B t1 f1) : EOk K B (tNotV t1) (eNotF f1) := fun F H σ ρ d E q Q kk => by
  cases e1 : bF f1 ρ with
  | none => simp [eNotF, e1] at q
  | some c =>
    have q' : d = .bool (!c) := by simpa [eNotF, e1] using q.symm
    subst q'
    exact k1 F H σ ρ _ E (bF_some e1) _ fun v H1 G1 g1 r => ⟨c, r.bl, kk _ H1 G1 g1 (rp_bool _)⟩
theorem if_ok (k0 : TOk K B tt g) (k1 : EOk K B t1 f1) (k2 : EOk K B t2 f2) : EOk K B (tIf tt t1 t2) (eIfF g f1 f2) := fun F H σ ρ d E q Q kk => by
  cases e1 : g ρ with
  | none => simp [eIfF, e1] at q
  | some c =>
    refine k0 F H σ ρ c E e1 _ fun H1 G1 g1 => ?_
    cases c with
    | true =>
      have q' : f1 ρ = some d := by simpa [eIfF, e1] using q
      show t1 σ H1 Q
      exact k1 G1 H1 σ ρ d (E.grow g1) q' Q fun v H2 G2 g2 r2 => kk v H2 G2 (g1.trans g2) r2
    | false =>
      have q' : f2 ρ = some d := by simpa [eIfF, e1] using q
      show t2 σ H1 Q
      exact k2 G1 H1 σ ρ d (E.grow g1) q' Q fun v H2 G2 g2 r2 => kk v H2 G2 (g1.trans g2) r2
theorem chain_ok {r r' : R2} {gg gg' : PyData → PyData → Option PyData} (o1 : OpS K r gg) (o2 : OpS K r' gg') (k1 : BOk K B t1 f1) (k2 : BOk K B t2 f2) (k3 : BOk K B t3 f3) : EOk K B (tChain r r' t1 t2 t3) (eChainF gg gg' f1 f2 f3) := fun F H σ ρ d E q Q kk => by
  cases e1 : f1 ρ with
  | none => simp [eChainF, e1] at q
  | some x =>
    cases e2 : f2 ρ with
    | none => simp [eChainF, e1, e2] at q
    | some y =>
      cases e3 : gg x y with
      | none => simp [eChainF, e1, e2, e3] at q
      | some z =>
        cases z with
        | bool c =>
          refine k1 F H σ ρ x E e1 _ fun v H1 G1 g1 b1 => k2 G1 H1 σ ρ y (E.grow g1) e2 _ fun u H2 G2 g2 b2 => o1 G2 H2 v u x y _ g2.sub (b1.mono g2.f g2.h) b2 e3 _ fun w H3 G3 g3 r3 => ⟨c, r3.bl, ?_⟩
          cases c with
          | true =>
            cases e4 : f3 ρ with
            | none => simp [eChainF, e1, e2, e3, e4] at q
            | some u' =>
              have q' : gg' y u' = some d := by simpa [eChainF, e1, e2, e3, e4] using q
              show t3 σ H3 _
              exact k3 G3 H3 σ ρ u' (((E.grow g1).grow g2).grow g3) e4 _ fun w' H4 G4 g4 b4 => o2 G4 H4 u w' y u' d g4.sub (b2.mono (g3.f.trans g4.f) (g3.h.trans g4.h)) b4 q' Q fun z H5 G5 g5 r5 => kk z H5 G5 ((((g1.trans g2).trans g3).trans g4).trans g5) r5
          | false =>
            have q' : d = .bool false := by simpa [eChainF, e1, e2, e3] using q.symm
            subst q'
            show Q (.bl false) H3
            exact kk _ H3 G3 ((g1.trans g2).trans g3) (rp_bool _)
        | _ => simp [eChainF, e1, e2, e3] at q
end
/-- a op1 b op2 c op3 d -/
def tChain3 (r r' r2 : R2) (ta tb tc td : TE) : TE := fun σ H Q => ta σ H fun x H1 => tb σ H1 fun y H2 => r x y H2 fun z H3 => ∃ k, z = .bl k ∧
  (if k = true then tc σ H3 fun w' H4 => r' y w' H4 (fun z H5 => ∃ k, z = .bl k ∧ (if k = true then td σ H5 fun w2 H6 => r2 w' w2 H6 Q else Q (.bl false) H5)) else Q (.bl false) H3)
theorem pe_chain3 {X : Cx} {a b c d : Expr} {ta tb tc td : TE} {r r' r2 : R2} {pos : Pos} {op op' op2 : CmpOp} (ho : OpR X (compareOp op) r) (ho' : OpR X (compareOp op') r') (ho2 : OpR X (compareOp op2) r2) (ha : PE X a ta) (hb : PE X b tb) (hc : PE X c tc) (hd : PE X d td)
    (hm : lastMarks [op, op', op2] [b, c, d] = false := by with_unfolding_all rfl) : PE X (.Compare a [op, op', op2] [b, c, d] pos) (tChain3 r r' r2 ta tb tc td) := by
  refine ⟨fun pins s σ H Q I h => ?_⟩
  refine Compare_chain (thn (ha.run pins s σ H _ I h) fun v s1 ⟨x, H1, I1, r1, q1⟩ => chain_link (thn (hb.run pins s1 σ H1 _ I1 q1) fun u s2 ⟨y, H2, I2, r2, q2⟩ =>
    thn (ho pins s2 σ H2 x y v u _ I2 r1 r2 q2) fun d s3 ⟨z, H3, I3, r3, k, e, q3⟩ => ?_)) hm
  subst e
  cases r3
  refine wpAny_truthy_bool ?_
  cases k with
  | false => exact ite_ff ⟨.bl false, H3, I3, rfl, q3⟩
  | true =>
    refine ite_tt (chain_link (thn (hc.run pins s3 σ H3 _ I3 q3) fun w' s4 ⟨z', H4, I4, r4, q4⟩ => thn (ho' pins s4 σ H4 y z' u w' _ I4 r2 r4 q4) fun d2 s5 ⟨zz, H5, I5, r5, k2, e2, q5⟩ => ?_))
    subst e2
    cases r5
    refine wpAny_truthy_bool ?_
    cases k2 with
    | false => exact ite_ff ⟨.bl false, H5, I5, rfl, q5⟩
    | true => exact ite_tt (chain_last (thn (hd.run pins s5 σ H5 _ I5 q5) fun w2 s6 ⟨z2, H6, I6, r6, q6⟩ => ho2 pins s6 σ H6 z' z2 w' w2 Q I6 r4 r6 q6))
def eChain3F (g g' g2 : PyData → PyData → Option PyData) (f1 f2 f3 f4 : SE) : SE := fun ρ => (f1 ρ).bind fun x => (f2 ρ).bind fun y => (g x y).bind fun z => match z with
  | .bool true => (f3 ρ).bind fun u => (g' y u).bind fun z => match z with
    | .bool true => (f4 ρ).bind fun u2 => g2 u u2
    | .bool false => some (.bool false)
    | _ => none
  | .bool false => some (.bool false)
  | _ => none
theorem chain3_ok {K : PySem.W.Frag} {B : Hp} {t1 t2 t3 t4 : TE} {f1 f2 f3 f4 : SE} {r r' r2 : R2} {gg gg' gg2 : PyData → PyData → Option PyData} (o1 : OpS K r gg) (o2 : OpS K r' gg') (o3 : OpS K r2 gg2) (k1 : BOk K B t1 f1) (k2 : BOk K B t2 f2) (k3 : BOk K B t3 f3) (k4 : BOk K B t4 f4) :
    EOk K B (tChain3 r r' r2 t1 t2 t3 t4) (eChain3F gg gg' gg2 f1 f2 f3 f4) := fun F H σ ρ d E q Q kk => by
  cases e1 : f1 ρ with
  | none => simp [eChain3F, e1] at q
  | some x =>
    cases e2 : f2 ρ with
    | none => simp [eChain3F, e1, e2] at q
    | some y =>
      cases e3 : gg x y with
      | none => simp [eChain3F, e1, e2, e3] at q
      | some z =>
        cases z with
        | bool c =>
          refine k1 F H σ ρ x E e1 _ fun v H1 G1 g1 b1 => k2 G1 H1 σ ρ y (E.grow g1) e2 _ fun u H2 G2 g2 b2 => o1 G2 H2 v u x y _ g2.sub (b1.mono g2.f g2.h) b2 e3 _ fun w H3 G3 g3 r3 => ⟨c, r3.bl, ?_⟩
          cases c with
          | true =>
            cases e4 : f3 ρ with
            | none => simp [eChain3F, e1, e2, e3, e4] at q
            | some u' =>
              cases e5 : gg' y u' with
              | none => simp [eChain3F, e1, e2, e3, e4, e5] at q
              | some z5 =>
                cases z5 with
                | bool c5 =>
                  show t3 σ H3 _
                  refine k3 G3 H3 σ ρ u' (((E.grow g1).grow g2).grow g3) e4 _ fun w' H4 G4 g4 b4 => o2 G4 H4 u w' y u' _ g4.sub (b2.mono (g3.f.trans g4.f) (g3.h.trans g4.h)) b4 e5 _ fun z H5 G5 g5 r5 => ⟨c5, r5.bl, ?_⟩
                  have gA := (((g1.trans g2).trans g3).trans g4).trans g5
                  cases c5 with
                  | true =>
                    cases e6 : f4 ρ with
                    | none => simp [eChain3F, e1, e2, e3, e4, e5, e6] at q
                    | some u2 =>
                      have q' : gg2 u' u2 = some d := by simpa [eChain3F, e1, e2, e3, e4, e5, e6] using q
                      show t4 σ H5 _
                      exact k4 G5 H5 σ ρ u2 (E.grow gA) e6 _ fun w6 H6 G6 g6 b6 => o3 G6 H6 w' w6 u' u2 d g6.sub (b4.mono (g5.f.trans g6.f) (g5.h.trans g6.h)) b6 q' Q fun z H7 G7 g7 r7 => kk z H7 G7 ((gA.trans g6).trans g7) r7
                  | false =>
                    have q' : d = .bool false := by simpa [eChain3F, e1, e2, e3, e4, e5] using q.symm
                    subst q'
                    show Q (.bl false) H5
                    exact kk _ H5 G5 gA (rp_bool _)
                | _ => simp [eChain3F, e1, e2, e3, e4, e5] at q
          | false =>
            have q' : d = .bool false := by simpa [eChain3F, e1, e2, e3] using q.symm
            subst q'
            show Q (.bl false) H3
            exact kk _ H3 G3 ((g1.trans g2).trans g3) (rp_bool _)
        | _ => simp [eChain3F, e1, e2, e3] at q

/-! ### what is walked -/
structure WalksD (K : PySem.W.Frag) (Al : Hp → Hp → Prop) (J : It) (ds : List PyData) : Prop where
  go : ∀ i G' H', Al G' H' → i < ds.length → J.go i H'
  yld : ∀ i G' H' x H'' d, Al G' H' → ds[i]? = some d → J.yld i H' x H'' → ∃ G'', Grow H' G' H'' G'' ∧ Rp K G'' x d
  stop : ∀ G' H', Al G' H' → J.stop ds.length H'
/-- over data that stand | over data that are read for a moment (nothing is changed meanwhile) -/
def IOk (K : PySem.W.Frag) (B : Hp) (wi : TI) (f : SA) : Prop := ∀ (F H : Hp) (σ : L2.St) (ρ : Rho) (ds : List PyData), EnvOk K B F H σ ρ → f ρ = some ds → ∀ R : It → Hp → Prop,
  (∀ J H1 G1, Grow H F H1 G1 → WalksD K (fun G' H' => Same G1 G' ∧ Same G' H') J ds → R J H1) → wi σ H R
def IBOk (K : PySem.W.Frag) (B : Hp) (wi : TI) (f : SA) : Prop := ∀ (F H : Hp) (σ : L2.St) (ρ : Rho) (ds : List PyData), EnvOk K B F H σ ρ → f ρ = some ds → ∀ R : It → Hp → Prop,
  (∀ J H1 G1, Grow H F H1 G1 → WalksD K (fun G' H' => Same G1 G' ∧ Same G' H' ∧ Same H1 H') J ds → R J H1) → wi σ H R
theorem WalksD.imp {K : PySem.W.Frag} {Al Al' : Hp → Hp → Prop} {J : It} {ds : List PyData} (h : WalksD K Al J ds) (hi : ∀ G' H', Al' G' H' → Al G' H') : WalksD K Al' J ds :=
  ⟨fun i G' H' a => h.go i G' H' (hi _ _ a), fun i G' H' x H'' d a => h.yld i G' H' x H'' d (hi _ _ a), fun G' H' a => h.stop G' H' (hi _ _ a)⟩
theorem IOk.b {K : PySem.W.Frag} {B : Hp} {wi : TI} {f : SA} (h : IOk K B wi f) : IBOk K B wi f := fun F H σ ρ ds E q R k => h F H σ ρ ds E q R fun J H1 G1 g1 w => k J H1 G1 g1 (w.imp fun G' H' a => ⟨a.1, a.2.1⟩)
def iL (f : SE) : SA := fun ρ => (f ρ).bind fun d => match d with
  | .list ds => if ds.length ≤ LIM then some ds else none
  | _ => none
def iT (f : SE) : SA := fun ρ => (f ρ).bind fun d => match d with
  | .tuple ds => if ds.length ≤ LIM then some ds else none
  | _ => none
def signsD (z : Str) : List PyData := z.cps.toList.map fun c => .str ⟨#[c]⟩
def iS (f : SE) : SA := fun ρ => (f ρ).bind fun d => match d with
  | .str z => if z.length ≤ LIM then some (signsD z) else none
  | _ => none
def rangeD (lo : Int) (n : Nat) : List PyData := (List.range n).map fun i => .int (lo + (i : Nat))
def iR1 (f : SA) : SA := fun ρ => (f ρ).bind fun ds => match ds with
  | [.int j] => if j ≤ 1000000 ∧ -1000000 ≤ j then some (rangeD 0 j.toNat) else none
  | _ => none
def iR2 (f : SA) : SA := fun ρ => (f ρ).bind fun ds => match ds with
  | [.int i, .int j] => if (j ≤ 1000000 ∧ -1000000 ≤ j) ∧ i ≤ 1000000 ∧ -1000000 ≤ i then some (rangeD i (j - i).toNat) else none
  | _ => none
def enumD : Nat → List PyData → List PyData
  | _, [] => []
  | n, d :: ds => .tuple [.int (n : Nat), d] :: enumD (n + 1) ds
def iE (f : SA) : SA := fun ρ => (f ρ).bind fun ds => match ds with
  | [.list es] => if es.length ≤ LIM then some (enumD 0 es) else none
  | _ => none
theorem enumD_get : ∀ (ds : List PyData) (n i : Nat), (enumD n ds)[i]? = (ds[i]?).map fun d => .tuple [.int ((n + i : Nat) : Nat), d]
  | [], n, i => by simp [enumD]
  | d :: ds, n, 0 => by simp [enumD]
  | d :: ds, n, i + 1 => by
    rw [enumD, List.getElem?_cons_succ, enumD_get ds (n + 1) i, List.getElem?_cons_succ]
    have e : n + 1 + i = n + (i + 1) := by omega
    rw [e]
theorem enumD_len : ∀ (ds : List PyData) (n : Nat), (enumD n ds).length = ds.length
  | [], n => rfl
  | d :: ds, n => by simp [enumD, enumD_len ds (n + 1)]
section
variable {K : PySem.W.Frag} {B : Hp} {t : TE} {ta : TA} {f : SE} {sa : SA}
theorem walks_list {G1 : Hp} {a : Addr} {vs : List V} {ds : List PyData} {Al : Hp → Hp → Prop} (hA : DqAll K G1 vs ds) (h1 : ∀ G' H', Al G' H' → H' a = some (.lst vs)) (h2 : ∀ G' H', Al G' H' → Same G1 G' ∧ Same G' H') : WalksD K Al (Itl K a) ds where
  go := fun i G' H' al hi => by
    obtain ⟨d, hd⟩ : ∃ d, ds[i]? = some d := ⟨ds[i], List.getElem?_eq_getElem hi⟩
    obtain ⟨v, hv, _⟩ := hA.get hd
    exact ⟨vs, v, .inl (.inl (h1 _ _ al)), hv⟩
  yld := fun i G' H' x H'' d al hd y => by
    obtain ⟨e, y⟩ := y
    subst e
    have hx := y vs (.inl (.inl (h1 _ _ al)))
    obtain ⟨d', hd', r⟩ := hA.getV hx
    rw [hd] at hd'; cases hd'
    exact ⟨G', Grow.refl (h2 _ _ al).2, .inl (dpa_mono' (h2 _ _ al).1 r)⟩
  stop := fun G' H' al => ⟨vs, .inl (.inl (h1 _ _ al)), by rw [hA.len]; exact Nat.le_refl _⟩
where dpa_mono' {F G : Hp} (e : Same F G) {v : V} {d : PyData} (h : Dq K F v d) : Dq K G v d := dp_mono e d h
theorem iListB_ok (h : BOk K B t f) : IBOk K B (iList K t) (iL f) := fun F H σ ρ ds E q R k => by
  cases e0 : f ρ with
  | none => simp [iL, e0] at q
  | some d =>
    cases d with
    | list es =>
      simp only [iL, e0, Option.bind_some] at q
      split at q
      · cases q
        refine h F H σ ρ _ E e0 _ fun v H1 G1 g1 b1 => ?_
        obtain ⟨p, vs, rfl, hR, hA⟩ := b1.list g1.sub
        exact ⟨p, rfl, ⟨vs, .inl (.inl hR)⟩, k _ H1 G1 g1 (walks_list hA (fun G' H' al => al.2.2 _ _ hR) fun G' H' al => ⟨al.1, al.2.1⟩)⟩
      · cases q
    | _ => simp [iL, e0] at q
theorem iList_ok (h : EOk K B t f) : IOk K B (iList K t) (iL f) := fun F H σ ρ ds E q R k => by
  cases e0 : f ρ with
  | none => simp [iL, e0] at q
  | some d =>
    cases d with
    | list es =>
      simp only [iL, e0, Option.bind_some] at q
      split at q
      · cases q
        refine h F H σ ρ _ E e0 _ fun v H1 G1 g1 r1 => ?_
        have r2 := r1.dp
        cases r2 with
        | lst hR hA => exact ⟨_, rfl, ⟨_, .inl (.inl (g1.sub _ _ hR))⟩, k _ H1 G1 g1 (walks_list hA (fun G' H' al => (al.1.trans al.2) _ _ hR) fun G' H' al => al)⟩
      · cases q
    | _ => simp [iL, e0] at q
theorem iTup_ok (h : EOk K B t f) : IOk K B (iTup K t) (iT f) := fun F H σ ρ ds E q R k => by
  cases e0 : f ρ with
  | none => simp [iT, e0] at q
  | some d =>
    cases d with
    | tuple es =>
      simp only [iT, e0, Option.bind_some] at q
      split at q
      · cases q
        refine h F H σ ρ _ E e0 _ fun v H1 G1 g1 r1 => ?_
        have r2 := r1.dp
        cases r2 with
        | @tup a vs _ hR hA =>
          refine ⟨a, rfl, ⟨vs, same_t g1.sub hR⟩, k _ H1 G1 g1 ⟨fun i G' H' al hi => ?_, fun i G' H' x H'' d al hd y => ?_, fun G' H' al => ⟨vs, same_t (al.1.trans al.2) hR, by rw [hA.len]; exact Nat.le_refl _⟩⟩⟩
          · obtain ⟨d, hd⟩ : ∃ d, ds[i]? = some d := ⟨ds[i], List.getElem?_eq_getElem hi⟩
            obtain ⟨v, hv, _⟩ := hA.get hd
            exact ⟨vs, v, same_t (al.1.trans al.2) hR, hv⟩
          · obtain ⟨e, y⟩ := y
            subst e
            have hx := y vs (same_t (al.1.trans al.2) hR)
            obtain ⟨d', hd', r⟩ := hA.getV hx
            rw [hd] at hd'; cases hd'
            exact ⟨G', Grow.refl al.2, .inl (dp_mono al.1 d r)⟩
      · cases q
    | _ => simp [iT, e0] at q
theorem iStr_ok (h : EOk K B t f) : IOk K B (iStr t) (iS f) := fun F H σ ρ ds E q R k => by
  cases e0 : f ρ with
  | none => simp [iS, e0] at q
  | some d =>
    cases d with
    | str z =>
      simp only [iS, e0, Option.bind_some] at q
      split at q
      · cases q
        refine h F H σ ρ _ E e0 _ fun v H1 G1 g1 r1 => ?_
        have hl : (signsD z).length = z.cps.size := by simp [signsD]
        refine ⟨z, Bp.str (H := G1) (.inl r1), k _ H1 G1 g1 ⟨fun i G' H' al hi => by rw [hl] at hi; exact hi, fun i G' H' x H'' d al hd y => ?_, fun G' H' al => by rw [hl]; exact Nat.le_refl _⟩⟩
        obtain ⟨e, c, hc, rfl⟩ := y
        subst e
        refine ⟨G', Grow.refl al.2, ?_⟩
        have ec : z.cps.toList[i]? = some c := by simpa using hc
        have : d = .str ⟨#[c]⟩ := by
          unfold signsD at hd
          rw [List.getElem?_map, ec] at hd
          exact (Option.some.inj hd).symm
        rw [this]
        exact rp_str _
      · cases q
    | _ => simp [iS, e0] at q
theorem walks_range {Al : Hp → Hp → Prop} (lo : Int) (n : Nat) (h2 : ∀ G' H', Al G' H' → Same G' H') : WalksD K Al (Itr lo n) (rangeD lo n) where
  go := fun i G' H' al hi => by
    have h : i < n := by simpa [rangeD] using hi
    exact h
  yld := fun i G' H' x H'' d al hd y => by
    obtain ⟨e, y⟩ := y
    subst e
    subst y
    refine ⟨G', Grow.refl (h2 _ _ al), ?_⟩
    unfold rangeD at hd
    rw [List.getElem?_map] at hd
    cases hr : (List.range n)[i]? with
    | none => rw [hr] at hd; cases hd
    | some j =>
      have hi : i < n := by
        have := (List.getElem?_eq_some_iff.mp hr).1
        simpa using this
      have hj : j = i := by rw [List.getElem?_range hi] at hr; exact (Option.some.inj hr).symm
      rw [hr] at hd
      cases hd
      rw [hj]
      exact rp_int _
  stop := fun G' H' al => by simp [rangeD, Itr]
theorem ABOk.ints1 {F H : Hp} {σ : L2.St} {ρ : Rho} {i : Int} (h : ABOk K B ta sa) (E : EnvOk K B F H σ ρ) (q : sa ρ = some [.int i]) {Q : List V → Hp → Prop} (k : ∀ H' G, Grow H F H' G → Q [.int i] H') : ta σ H Q :=
  h F H σ ρ _ E q Q fun vs H' G g b => by
    obtain ⟨x, rfl, b1⟩ := b.one
    cases b1.int
    exact k H' G g
theorem iRng1_ok (h : ABOk K B ta sa) : IOk K B (iRng1 ta) (iR1 sa) := fun F H σ ρ ds E q R k => by
  cases e0 : sa ρ with
  | none => simp [iR1, e0] at q
  | some es =>
    match es, e0, q with
    | [.int j], e0, q =>
      simp only [iR1, e0, Option.bind_some] at q
      split at q
      · rename_i hj
        cases q
        exact h.ints1 E e0 fun H1 G1 g1 => ⟨j, rfl, by omega, by omega, k _ H1 G1 g1 (walks_range _ _ fun G' H' al => al.2)⟩
      · cases q
    | [], e0, q => simp [iR1, e0] at q
    | .none :: _, e0, q => simp [iR1, e0] at q
    | .bool _ :: _, e0, q => simp [iR1, e0] at q
    | .str _ :: _, e0, q => simp [iR1, e0] at q
    | .list _ :: _, e0, q => simp [iR1, e0] at q
    | .tuple _ :: _, e0, q => simp [iR1, e0] at q
    | .dict _ :: _, e0, q => simp [iR1, e0] at q
    | .int _ :: _ :: _, e0, q => simp [iR1, e0] at q
theorem iR2_inv {ρ : Rho} {ds : List PyData} (q : iR2 sa ρ = some ds) : ∃ i j, sa ρ = some [.int i, .int j] ∧ ((j ≤ 1000000 ∧ -1000000 ≤ j) ∧ i ≤ 1000000 ∧ -1000000 ≤ i) ∧ ds = rangeD i (j - i).toNat := by
  unfold iR2 at q
  cases e0 : sa ρ with
  | none => simp [e0] at q
  | some es =>
    rw [e0, Option.bind_some] at q
    split at q
    · rename_i i j
      split at q
      · rename_i hc
        cases q
        exact ⟨i, j, rfl, hc, rfl⟩
      · cases q
    · cases q
theorem iRng2_ok (h : ABOk K B ta sa) : IOk K B (iRng2 ta) (iR2 sa) := fun F H σ ρ ds E q R k => by
  obtain ⟨i, j, e0, hc, rfl⟩ := iR2_inv q
  refine h F H σ ρ _ E e0 _ fun vs H1 G1 g1 b => ?_
  obtain ⟨x, y, rfl, b1, b2⟩ := b.two
  cases b1.int
  cases b2.int
  exact ⟨i, j, rfl, by omega, k _ H1 G1 g1 (walks_range _ _ fun G' H' al => al.2)⟩
theorem iE_inv {ρ : Rho} {ds : List PyData} (q : iE sa ρ = some ds) : ∃ es, sa ρ = some [.list es] ∧ ds = enumD 0 es := by
  unfold iE at q
  cases e0 : sa ρ with
  | none => simp [e0] at q
  | some es =>
    rw [e0, Option.bind_some] at q
    split at q
    · rename_i fs
      split at q
      · cases q
        exact ⟨fs, rfl, rfl⟩
      · cases q
    · cases q
theorem RpAll.one {F : Hp} {vs : List V} {a : PyData} (h : RpAll K F vs [a]) : ∃ x, vs = [x] ∧ Rp K F x a := by
  cases h with
  | cons h1 h2 =>
    cases h2
    exact ⟨_, rfl, h1⟩
theorem iEnum_ok (h : AOk K B ta sa) : IOk K B (iEnum K ta) (iE sa) := fun F H σ ρ ds E q R k => by
  obtain ⟨es, e0, rfl⟩ := iE_inv q
  refine h F H σ ρ _ E e0 _ fun ws H1 G1 g1 b => ?_
  obtain ⟨x, rfl, b1⟩ := b.one
  have r2 := b1.dp
  cases r2 with
  | @lst a vs _ hR hA =>
    refine ⟨a, vs, rfl, .inl (.inl (g1.sub _ _ hR)), k _ H1 G1 g1 ⟨fun i G' H' al hi => ?_, fun i G' H' x H'' d al hd y => ?_, fun G' H' al => ⟨vs, .inl (.inl ((al.1.trans al.2) _ _ hR)), by rw [hA.len, enumD_len]; exact Nat.le_refl _⟩⟩⟩
    · rw [enumD_len] at hi
      obtain ⟨d, hd⟩ : ∃ d, es[i]? = some d := ⟨es[i], List.getElem?_eq_getElem hi⟩
      obtain ⟨v, hv, _⟩ := hA.get hd
      exact ⟨vs, v, .inl (.inl ((al.1.trans al.2) _ _ hR)), hv⟩
    · obtain ⟨T, v, rfl, hT, rfl, y⟩ := y
      have hx := y vs (.inl (.inl ((al.1.trans al.2) _ _ hR)))
      obtain ⟨d', hd', r⟩ := hA.getV hx
      rw [enumD_get, hd'] at hd
      have hd2 : d = .tuple [.int ((0 + i : Nat) : Nat), d'] := (Option.some.inj hd).symm
      have e00 : 0 + i = i := Nat.zero_add i
      rw [e00] at hd2
      subst hd2
      refine ⟨_, (Grow.refl al.2).new hT, .inl (.tup (.inl (.inl upd_same)) (.cons (.int _) (.cons ?_ .nil)))⟩
      exact dp_mono (al.1.trans (Same.upd_new (Same.refl G') (al.2.free hT))) d' r
end
end RT
namespace RT
open PySem PySem.Spec PyProof.Rows L2
/-! ### a comprehension: one name, its slot j -/
def lcF (j : Nat) (tst : STe) (el : SE) (ρ : Rho) : List PyData → Option (List PyData)
  | [] => some []
  | d :: ds => (tst (ρ.set j (.val d))).bind fun b =>
    if b = true then (el (ρ.set j (.val d))).bind fun e => if dataD e = true then (lcF j tst el ρ ds).map (e :: ·) else none
    else lcF j tst el ρ ds
def lLc (src : SA) (j : Nat) (tst : STe) (el : SE) : SA := fun ρ => (src ρ).bind fun ds => if ds.length ≤ LIM then lcF j tst el ρ ds else none
def tYesF : STe := fun _ => some true
theorem yes_ok {K : PySem.W.Frag} {B : Hp} : TOk K B tYes tYesF := fun F H σ ρ b E q Q k => by
  cases q
  exact k H F (Grow.refl E.ex)
theorem EnvOk.setV {K : PySem.W.Frag} {B F H : Hp} {σ : L2.St} {ρ : Rho} {v : V} {d : PyData} (E : EnvOk K B F H σ ρ) (j : Nat) (r : Rp K F v d) : EnvOk K B F H (σ.set j (some v)) (ρ.set j (.val d)) where
  bs := E.bs
  ex := E.ex
  len := by simp [E.len]
  val := fun i d' h => by
    by_cases hij : j = i
    · subst hij
      by_cases hj : j < ρ.length
      · rw [List.getElem?_set_self hj] at h
        cases h
        exact ⟨v, by rw [List.getElem?_set_self (by rw [← E.len]; exact hj)], r⟩
      · rw [List.getElem?_eq_none (by simpa using hj)] at h
        cases h
    · rw [List.getElem?_set_ne hij] at h ⊢
      exact E.val i d' h
  own := fun i ds h => by
    by_cases hij : j = i
    · subst hij
      by_cases hj : j < ρ.length
      · rw [List.getElem?_set_self hj] at h
        cases h
      · rw [List.getElem?_eq_none (by simpa using hj)] at h
        cases h
    · rw [List.getElem?_set_ne hij] at h ⊢
      exact E.own i ds h
  dis := fun i k ds es p hik h1 h2 h3 h4 => by
    by_cases hij : j = i
    · subst hij
      by_cases hj : j < ρ.length
      · rw [List.getElem?_set_self hj] at h1
        cases h1
      · rw [List.getElem?_eq_none (by simpa using hj)] at h1
        cases h1
    · by_cases hkj : j = k
      · subst hkj
        by_cases hj : j < ρ.length
        · rw [List.getElem?_set_self hj] at h2
          cases h2
        · rw [List.getElem?_eq_none (by simpa using hj)] at h2
          cases h2
      · rw [List.getElem?_set_ne hij] at h1 h3
        rw [List.getElem?_set_ne hkj] at h2 h4
        exact E.dis i k ds es p hik h1 h2 h3 h4
theorem EnvOk.setN {K : PySem.W.Frag} {B F H : Hp} {σ : L2.St} {ρ : Rho} (E : EnvOk K B F H σ ρ) (j : Nat) (o : Option V) : EnvOk K B F H (σ.set j o) (ρ.set j .no) where
  bs := E.bs
  ex := E.ex
  len := by simp [E.len]
  val := fun i d' h => by
    by_cases hij : j = i
    · subst hij
      by_cases hj : j < ρ.length
      · rw [List.getElem?_set_self hj] at h
        cases h
      · rw [List.getElem?_eq_none (by simpa using hj)] at h
        cases h
    · rw [List.getElem?_set_ne hij] at h ⊢
      exact E.val i d' h
  own := fun i ds h => by
    by_cases hij : j = i
    · subst hij
      by_cases hj : j < ρ.length
      · rw [List.getElem?_set_self hj] at h
        cases h
      · rw [List.getElem?_eq_none (by simpa using hj)] at h
        cases h
    · rw [List.getElem?_set_ne hij] at h ⊢
      exact E.own i ds h
  dis := fun i k ds es p hik h1 h2 h3 h4 => by
    by_cases hij : j = i
    · subst hij
      by_cases hj : j < ρ.length
      · rw [List.getElem?_set_self hj] at h1
        cases h1
      · rw [List.getElem?_eq_none (by simpa using hj)] at h1
        cases h1
    · by_cases hkj : j = k
      · subst hkj
        by_cases hj : j < ρ.length
        · rw [List.getElem?_set_self hj] at h2
          cases h2
        · rw [List.getElem?_eq_none (by simpa using hj)] at h2
          cases h2
      · rw [List.getElem?_set_ne hij] at h1 h3
        rw [List.getElem?_set_ne hkj] at h2 h4
        exact E.dis i k ds es p hik h1 h2 h3 h4
theorem wipe1 (σ : L2.St) (j : Nat) : wipe σ [j] = σ.set j none := rfl
theorem wipe_back (σ : L2.St) (j : Nat) (o : Option V) : wipe ((wipe σ [j]).set j o) [j] = wipe σ [j] := by
  show ((σ.set j none).set j o).set j none = σ.set j none
  rw [List.set_set, List.set_set]
theorem drop_cons_of {α : Type} : ∀ {l : List α} {i : Nat} {x : α}, l[i]? = some x → l.drop i = x :: l.drop (i + 1)
  | [], i, x, h => by simp at h
  | a :: l, 0, x, h => by simp at h; subst h; rfl
  | a :: l, i + 1, x, h => by
    show l.drop i = x :: l.drop (i + 1)
    exact drop_cons_of (by simpa using h)
theorem lc_ok {K : PySem.W.Frag} {B : Hp} {wi : TI} {src : SA} {j : Nat} {tt : TT} {te : TE} {tst : STe} {el : SE} (hi : IBOk K B wi src) (ht : TOk K B tt tst) (he : EOk K B te el) : LOk K B (tLc wi (gName j) tt te [j]) (lLc src j tst el) := fun F H σ ρ out E q Q k => by
  cases e0 : src ρ with
  | none => simp [lLc, e0] at q
  | some ds =>
    simp only [lLc, e0, Option.bind_some] at q
    split at q
    · rename_i hlen
      refine hi F H σ ρ ds E e0 _ fun J H1 G1 g1 w D hD => ?_
      have E1 : EnvOk K B G1 H1 σ ρ := E.grow g1
      have hG1 : G1 D = none := g1.sub.free hD
      -- W: the turn, the measure, what the new list holds
      refine ⟨fun i m H' => m = ds.length - i ∧ i ≤ ds.length ∧ ∃ (G' : Hp) (acc : List V) (es rest : List PyData), Grow H1 G1 H' G' ∧ G' D = none ∧ H' D = some (.lst acc) ∧ DqAll K G' acc es ∧ acc.length ≤ i ∧ lcF j tst el ρ (ds.drop i) = some rest ∧ out = es ++ rest,
        ⟨ds.length, by simp, Nat.zero_le _, G1, [], [], out, (Grow.refl g1.sub).beside hD, hG1, upd_same, .nil, Nat.le_refl _, q, rfl⟩, ?_⟩
      rintro i m H' ⟨rfl, hile, G', acc, es, rest, g', hD', hacc, hA, hal, hr, hout⟩
      have al : Same G1 G' ∧ Same G' H' ∧ Same H1 H' := ⟨g'.f, g'.sub, g'.h⟩
      by_cases hlt : i < ds.length
      · refine .inr ⟨w.go i G' H' al hlt, fun H2 => ∃ m', m' < ds.length - i ∧ (m' = ds.length - (i + 1) ∧ i + 1 ≤ ds.length ∧ ∃ (G' : Hp) (acc : List V) (es rest : List PyData), Grow H1 G1 H2 G' ∧ G' D = none ∧ H2 D = some (.lst acc) ∧ DqAll K G' acc es ∧ acc.length ≤ i + 1 ∧ lcF j tst el ρ (ds.drop (i + 1)) = some rest ∧ out = es ++ rest),
          fun H2 h => h, fun x H2 y => ?_⟩
        have hd : ds[i]? = some ds[i] := List.getElem?_eq_getElem hlt
        obtain ⟨G2, g2, r2⟩ := w.yld i G' H' x H2 _ al hd y
        rw [drop_cons_of hd] at hr
        have E2 : EnvOk K B G2 H2 ((wipe σ [j]).set j (some x)) (ρ.set j (.val ds[i])) := by
          have z := (((E1.grow g').grow g2).setN j none).setV j r2
          have e : (ρ.set j .no).set j (.val ds[i]) = ρ.set j (.val ds[i]) := List.set_set ..
          rw [e] at z
          exact z
        have nD : ∀ {H3 G3 : Hp}, Grow H2 G2 H3 G3 → G3 D = none ∧ H3 D = some (.lst acc) := fun g3 => by
          have z : Grow H' G' _ _ := g2.trans g3
          exact ⟨z.no D hD' (by rw [hacc]; intro z; cases z), z.h _ _ hacc⟩
        refine ⟨wipe_back σ j (some x), ?_⟩
        cases et : tst (ρ.set j (.val ds[i])) with
        | none => simp [lcF, et] at hr
        | some b =>
          refine ht G2 H2 _ _ b E2 et _ fun H3 G3 g3 => ?_
          cases b with
          | false =>
            have hr' : lcF j tst el ρ (ds.drop (i + 1)) = some rest := by simpa [lcF, et] using hr
            show ∃ m', _
            exact ⟨_, by omega, rfl, hlt, G3, acc, es, rest, (g'.trans g2).trans g3, (nD g3).1, (nD g3).2, dpa_mono (g2.f.trans g3.f) es hA, by omega, hr', hout⟩
          | true =>
            show te _ H3 _
            cases ee : el (ρ.set j (.val ds[i])) with
            | none => simp [lcF, et, ee] at hr
            | some e =>
              by_cases hde : dataD e = true
              · cases hrr : lcF j tst el ρ (ds.drop (i + 1)) with
                | none => simp [lcF, et, ee, hde, hrr] at hr
                | some rest' =>
                  have hr' : rest = e :: rest' := by simpa [lcF, et, ee, hde, hrr] using hr.symm
                  refine he G3 H3 _ _ e (E2.grow g3) ee _ fun y H4 G4 g4 r4 => ?_
                  have n4 := nD (g3.trans g4)
                  have gg := ((g'.trans g2).trans g3).trans g4
                  refine ⟨acc, n4.2, Nat.lt_of_lt_of_le (show acc.length < LIM + 1 by omega) (by decide), ds.length - (i + 1), by omega, rfl, hlt, G4, acc ++ [y], es ++ [e], rest', ⟨?_, gg.f, ?_, gg.no⟩, n4.1, upd_same, ?_, by rw [List.length_append]; simp; omega, rfl, by rw [hout, hr']; simp⟩
                  · intro b o z
                    rw [upd_ne (ne_of_none z hD)]
                    exact gg.h b o z
                  · intro b o z
                    rw [upd_ne (ne_of_none z n4.1)]
                    exact gg.sub b o z
                  · exact (dpa_mono ((g2.f.trans g3.f).trans g4.f) es hA).append (.cons (r4.dp (by rintro l rfl; cases hde)) .nil)
              · simp [lcF, et, ee, hde] at hr
      · have e : i = ds.length := by omega
        subst e
        rw [List.drop_length] at hr
        cases hr
        rw [List.append_nil] at hout
        subst hout
        exact .inl ⟨w.stop G' H' al, k D acc H' G' (g1.trans g') (g1.h.free hD) hD' hacc hA⟩
    · cases q
end RT
namespace RT
open PySem PySem.Spec PyProof.Rows L2
/-! ### statements -/
structure StOk (K : PySem.W.Frag) (B H0 G0 F H : Hp) (σ : L2.St) (ρ : Rho) : Prop where
  env : EnvOk K B F H σ ρ
  gr : Grow H0 G0 H F
  fr : ∀ (i : Nat) (ds : List PyData) (p : Addr), ρ[i]? = some (.own ds) → σ[i]? = some (some (.ref p)) → H0 p = none
/-- what is wanted of an outcome -/
def Goes (K : PySem.W.Frag) (B H0 G0 F : Hp) (D : Ends) : Out → Prop
  | .no => False
  | .nx ρ => ∀ σ H F', StOk K B H0 G0 F' H σ ρ → Same F F' → D.nx σ H
  | .rt d => ∀ v H F', Grow H0 G0 H F' → Rp K F' v d → D.rt v H
def SSOk (K : PySem.W.Frag) (B : Hp) (t : TS) (f : SS) : Prop := ∀ (H0 G0 F H : Hp) (σ : L2.St) (ρ : Rho) (D : Ends), StOk K B H0 G0 F H σ ρ → Goes K B H0 G0 F D (f ρ) → t D σ H
structure SemS (X : Cx) (K : PySem.W.Frag) (B : Hp) (st : Stmt) (t : TS) (f : SS) : Prop where
  ps : PS X st t
  ok : SSOk K B t f
structure SemSs (X : Cx) (K : PySem.W.Frag) (B : Hp) (st : List Stmt) (t : TS) (f : SS) : Prop where
  ps : PSs X st t
  ok : SSOk K B t f
def sSeq (f g : SS) : SS := fun ρ => match f ρ with
  | .no => .no
  | .nx r => g r
  | .rt d => .rt d
def sNext : SS := fun ρ => .nx ρ
def sSet (i : Nat) (f : SE) : SS := fun ρ => match f ρ with
  | some d => .nx (ρ.set i (.val d))
  | none => .no
def sSetL (i : Nat) (f : SA) : SS := fun ρ => match f ρ with
  | some ds => .nx (ρ.set i (.own ds))
  | none => .no
def sDrop (f : SE) : SS := fun ρ => match f ρ with
  | some _ => .nx ρ
  | none => .no
def sIf (t : STe) (f g : SS) : SS := fun ρ => match t ρ with
  | some true => f ρ
  | some false => g ρ
  | none => .no
def frz1 : Sl → Sl
  | .own ds => .val (.list ds)
  | s => s
def sRet (f : SE) : SS := fun ρ => match f (ρ.map frz1) with
  | some d => .rt d
  | none => .no
def sRetN : SS := fun _ => .rt .none
def sApp (i : Nat) (f : SE) : SS := fun ρ => match ρ[i]?, f ρ with
  | some (.own ds), some d => if dataD d = true ∧ ds.length ≤ LIM then .nx (ρ.set i (.own (ds ++ [d]))) else .no
  | _, _ => .no
def sPut (i : Nat) (ix f : SE) : SS := fun ρ => match ρ[i]?, f ρ, ix ρ with
  | some (.own ds), some d, some (.int k) => match ixN ds.length k with
    | some j => if dataD d = true then .nx (ρ.set i (.own (ds.set j d))) else .no
    | none => .no
  | _, _, _ => .no
def forF (tg : PyData → Rho → Option Rho) (body : SS) : List PyData → Rho → Out
  | [], ρ => .nx ρ
  | d :: ds, ρ => match tg d ρ with
    | none => .no
    | some r => match body r with
      | .no => .no
      | .nx r2 => forF tg body ds r2
      | .rt e => .rt e
def sFor (src : SA) (tg : PyData → Rho → Option Rho) (body : SS) : SS := fun ρ => match src ρ with
  | some ds => forF tg body ds ρ
  | none => .no
def tg1 (j : Nat) : PyData → Rho → Option Rho := fun d ρ => some (ρ.set j (.val d))
def tg2 (i j : Nat) : PyData → Rho → Option Rho := fun d ρ => match d with
  | .tuple [a, b] => some ((ρ.set i (.val a)).set j (.val b))
  | _ => none

section
variable {K : PySem.W.Frag} {B H0 G0 F F' H : Hp} {σ : L2.St} {ρ : Rho} {D : Ends}
theorem Goes.mono {o : Out} (h : Goes K B H0 G0 F D o) (e : Same F F') : Goes K B H0 G0 F' D o := by
  cases o with
  | no => exact h
  | nx r => exact fun σ H F2 s e2 => h σ H F2 s (e.trans e2)
  | rt d => exact h
theorem StOk.grow {G H' : Hp} (s : StOk K B H0 G0 F H σ ρ) (g : Grow H F H' G) : StOk K B H0 G0 G H' σ ρ := ⟨s.env.grow g, s.gr.trans g, s.fr⟩
theorem StOk.setV {v : V} {d : PyData} (s : StOk K B H0 G0 F H σ ρ) (j : Nat) (r : Rp K F v d) : StOk K B H0 G0 F H (σ.set j (some v)) (ρ.set j (.val d)) :=
  ⟨s.env.setV j r, s.gr, fun i ds p h1 h2 => by
    by_cases hij : j = i
    · subst hij
      by_cases hj : j < ρ.length
      · rw [List.getElem?_set_self hj] at h1
        cases h1
      · rw [List.getElem?_eq_none (by simpa using hj)] at h1
        cases h1
    · rw [List.getElem?_set_ne hij] at h1 h2
      exact s.fr i ds p h1 h2⟩
theorem next_ok : SSOk K B tNext sNext := fun H0 G0 F H σ ρ D s g => g σ H F s (Same.refl F)
theorem seq_ok {t u : TS} {f g : SS} (k1 : SSOk K B t f) (k2 : SSOk K B u g) : SSOk K B (tSeq t u) (sSeq f g) := fun H0 G0 F H σ ρ D s hg => by
  refine k1 H0 G0 F H σ ρ _ s ?_
  unfold sSeq at hg
  cases e : f ρ with
  | no => rw [e] at hg; exact hg
  | nx r =>
    rw [e] at hg
    exact fun σ' H' F' s' e' => k2 H0 G0 F' H' σ' r D s' (Goes.mono (o := g r) hg e')
  | rt d => rw [e] at hg; exact hg
theorem set_ok {te : TE} {f : SE} (i : Nat) (k : EOk K B te f) : SSOk K B (tAsg te (gName i)) (sSet i f) := fun H0 G0 F H σ ρ D s hg => by
  unfold sSet at hg
  cases e : f ρ with
  | none => rw [e] at hg; exact hg.elim
  | some d =>
    rw [e] at hg
    exact k F H σ ρ d s.env e _ fun v H' G g r => hg _ H' G ((s.grow g).setV i r) g.f
theorem StOk.setL {p : Addr} {vs : List V} {ds : List PyData} {H' G : Hp} (s : StOk K B H0 G0 F H σ ρ) (g : Grow H F H' G) (j : Nat) (h1 : H p = none) (h2 : G p = none) (h3 : H' p = some (.lst vs)) (h4 : DqAll K G vs ds) :
    StOk K B H0 G0 G H' (σ.set j (some (.ref p))) (ρ.set j (.own ds)) := by
  have s' := s.grow g
  have old : ∀ (i : Nat) (es : List PyData), ρ[i]? = some (.own es) → σ[i]? = some (some (.ref p)) → False := fun i es q1 q2 => by
    obtain ⟨p', vs', e1, e2, _⟩ := s.env.own i es q1
    rw [q2] at e1; cases e1
    rw [h1] at e2; cases e2
  refine ⟨⟨s'.env.bs, s'.env.ex, by simp [s'.env.len], fun i d h => ?_, fun i es h => ?_, fun i k es fs q hik q1 q2 q3 q4 => ?_⟩, s'.gr, fun i es q q1 q2 => ?_⟩
  · by_cases hij : j = i
    · subst hij
      by_cases hj : j < ρ.length
      · rw [List.getElem?_set_self hj] at h
        cases h
      · rw [List.getElem?_eq_none (by simpa using hj)] at h
        cases h
    · rw [List.getElem?_set_ne hij] at h ⊢
      exact s'.env.val i d h
  · by_cases hij : j = i
    · subst hij
      by_cases hj : j < ρ.length
      · rw [List.getElem?_set_self hj] at h
        cases h
        exact ⟨p, vs, by rw [List.getElem?_set_self (by rw [← s.env.len]; exact hj)], h3, h4, h2⟩
      · rw [List.getElem?_eq_none (by simpa using hj)] at h
        cases h
    · rw [List.getElem?_set_ne hij] at h ⊢
      exact s'.env.own i es h
  · by_cases hij : j = i
    · subst hij
      have hjl : j < ρ.length := by
        have := (List.getElem?_eq_some_iff.mp q1).1
        simpa using this
      rw [List.getElem?_set_self (by rw [← s.env.len]; exact hjl)] at q3
      cases q3
      rw [List.getElem?_set_ne hik] at q2 q4
      exact old k fs q2 q4
    · by_cases hkj : j = k
      · subst hkj
        have hjl : j < ρ.length := by
          have := (List.getElem?_eq_some_iff.mp q2).1
          simpa using this
        rw [List.getElem?_set_self (by rw [← s.env.len]; exact hjl)] at q4
        cases q4
        rw [List.getElem?_set_ne hij] at q1 q3
        exact old i es q1 q3
      · rw [List.getElem?_set_ne hij] at q1 q3
        rw [List.getElem?_set_ne hkj] at q2 q4
        exact s.env.dis i k es fs q hik q1 q2 q3 q4
  · by_cases hij : j = i
    · subst hij
      have hjl : j < ρ.length := by
        have := (List.getElem?_eq_some_iff.mp q1).1
        simpa using this
      rw [List.getElem?_set_self (by rw [← s.env.len]; exact hjl)] at q2
      cases q2
      exact s.gr.h.free h1
    · rw [List.getElem?_set_ne hij] at q1 q2
      exact s.fr i es q q1 q2
theorem setL_ok {te : TE} {f : SA} (i : Nat) (k : LOk K B te f) : SSOk K B (tAsg te (gName i)) (sSetL i f) := fun H0 G0 F H σ ρ D s hg => by
  unfold sSetL at hg
  cases e : f ρ with
  | none => rw [e] at hg; exact hg.elim
  | some ds =>
    rw [e] at hg
    exact k F H σ ρ ds s.env e _ fun p vs H' G g h1 h2 h3 h4 => hg _ H' G (s.setL g i h1 h2 h3 h4) g.f
theorem drop_ok {te : TE} {f : SE} (k : EOk K B te f) : SSOk K B (tDrop te) (sDrop f) := fun H0 G0 F H σ ρ D s hg => by
  unfold sDrop at hg
  cases e : f ρ with
  | none => rw [e] at hg; exact hg.elim
  | some d =>
    rw [e] at hg
    exact k F H σ ρ d s.env e _ fun v H' G g r => hg _ H' G (s.grow g) g.f
theorem ifS_ok {tc : TT} {t u : TS} {c : STe} {f g : SS} (k0 : TOk K B tc c) (k1 : SSOk K B t f) (k2 : SSOk K B u g) : SSOk K B (tIfS tc t u) (sIf c f g) := fun H0 G0 F H σ ρ D s hg => by
  unfold sIf at hg
  cases e : c ρ with
  | none => rw [e] at hg; exact hg.elim
  | some b =>
    rw [e] at hg
    refine k0 F H σ ρ b s.env e _ fun H' G g => ?_
    cases b with
    | true =>
      show t D σ H'
      exact k1 H0 G0 G H' σ ρ D (s.grow g) (Goes.mono hg g.f)
    | false =>
      show u D σ H'
      exact k2 H0 G0 G H' σ ρ D (s.grow g) (Goes.mono hg g.f)
/-- own lists become data -/
theorem StOk.frz (s : StOk K B H0 G0 F H σ ρ) : ∃ F', Same F F' ∧ StOk K B H0 G0 F' H σ (ρ.map frz1) := by
  classical
  let own : Addr → Prop := fun a => ∃ (i : Nat) (ds : List PyData), ρ[i]? = some (.own ds) ∧ σ[i]? = some (some (.ref a))
  have oF : ∀ a, own a → F a = none ∧ (∃ u, H a = some u) ∧ H0 a = none := fun a ⟨i, ds, h1, h2⟩ => by
    obtain ⟨p, vs, e1, e2, e3, e4⟩ := s.env.own i ds h1
    rw [h2] at e1; cases e1
    exact ⟨e4, ⟨_, e2⟩, s.fr i ds a h1 h2⟩
  have sm : Same F (fun a => if own a then H a else F a) := fun a o h => by
    by_cases ho : own a
    · rw [(oF a ho).1] at h; cases h
    · show (if own a then H a else F a) = some o
      rw [if_neg ho]; exact h
  have sb : Same (fun a => if own a then H a else F a) H := fun a o h => by
    have h' : (if own a then H a else F a) = some o := h
    by_cases ho : own a
    · rw [if_pos ho] at h'; exact h'
    · rw [if_neg ho] at h'; exact s.env.ex a o h'
  have val2 : ∀ (i : Nat) (x : Sl), (ρ.map frz1)[i]? = some x → ∃ y, ρ[i]? = some y ∧ frz1 y = x := fun i x h => by
    rw [List.getElem?_map] at h
    cases e : ρ[i]? with
    | none => rw [e] at h; cases h
    | some y => rw [e] at h; exact ⟨y, rfl, Option.some.inj h⟩
  have noown : ∀ (i : Nat) (ds : List PyData), (ρ.map frz1)[i]? = some (.own ds) → False := fun i ds h => by
    obtain ⟨y, _, e⟩ := val2 i _ h
    cases y <;> cases e
  refine ⟨_, sm, ⟨s.env.bs.trans sm, sb, by simp [s.env.len], fun i d h => ?_, fun i ds h => (noown i ds h).elim, fun i j ds es p _ h _ _ _ => noown i ds h⟩, ⟨s.gr.h, s.gr.f.trans sm, sb, fun a h1 h2 => ?_⟩, fun i ds p h _ => (noown i ds h).elim⟩
  · obtain ⟨y, hy, e⟩ := val2 i _ h
    cases y with
    | no => cases e
    | val d' =>
      cases e
      obtain ⟨v, e1, e2⟩ := s.env.val i d hy
      exact ⟨v, e1, e2.mono sm⟩
    | own ds =>
      cases e
      obtain ⟨p, vs, e1, e2, e3, e4⟩ := s.env.own i ds hy
      refine ⟨.ref p, e1, .inl (.lst ?_ (dpa_mono sm ds e3))⟩
      show (if own p then H p else F p) = some (.lst vs)
      rw [if_pos ⟨i, ds, hy, e1⟩]
      exact e2
  · show (if own a then H a else F a) = none
    by_cases ho : own a
    · exact absurd (oF a ho).2.2 h2
    · rw [if_neg ho]
      exact s.gr.no a h1 h2
theorem ret_ok {te : TE} {f : SE} (k : EOk K B te f) : SSOk K B (tRet te) (sRet f) := fun H0 G0 F H σ ρ D s hg => by
  unfold sRet at hg
  obtain ⟨F', e1, s'⟩ := s.frz
  cases e : f (ρ.map frz1) with
  | none => rw [e] at hg; exact hg.elim
  | some d =>
    rw [e] at hg
    exact k F' H σ _ d s'.env e _ fun v H' G g r => hg v H' G (s'.gr.trans g) r
theorem retN_ok : SSOk K B tRetN sRetN := fun H0 G0 F H σ ρ D s hg => hg .non H F s.gr rp_non
/-- an own list changes -/
theorem StOk.upd {p : Addr} {vs : List V} {ds es : List PyData} (s : StOk K B H0 G0 F H σ ρ) (j : Nat) (h1 : ρ[j]? = some (.own ds)) (h2 : σ[j]? = some (some (.ref p))) (h4 : DqAll K F vs es) :
    StOk K B H0 G0 F (L2.upd H p (.lst vs)) σ (ρ.set j (.own es)) := by
  obtain ⟨p', vs', e1, e2, e3, e4⟩ := s.env.own j ds h1
  rw [h2] at e1; cases e1
  have hp := s.fr j ds p h1 h2
  have sub : Same F (L2.upd H p (.lst vs)) := fun a o h => by
    rw [upd_ne (ne_of_none h e4)]; exact s.env.ex a o h
  refine ⟨⟨s.env.bs, sub, by simp [s.env.len], fun i d h => ?_, fun i fs h => ?_, fun i k fs gs q hik q1 q2 q3 q4 => ?_⟩, ⟨fun a o h => by rw [upd_ne (ne_of_none h hp)]; exact s.gr.h a o h, s.gr.f, sub, s.gr.no⟩, fun i fs q q1 q2 => ?_⟩
  · by_cases hij : j = i
    · subst hij
      rw [List.getElem?_set_self (List.getElem?_eq_some_iff.mp h1).1] at h
      cases h
    · rw [List.getElem?_set_ne hij] at h
      exact s.env.val i d h
  · by_cases hij : j = i
    · subst hij
      rw [List.getElem?_set_self (List.getElem?_eq_some_iff.mp h1).1] at h
      cases h
      exact ⟨p, vs, h2, upd_same, h4, e4⟩
    · rw [List.getElem?_set_ne hij] at h
      obtain ⟨p2, vs2, g1, g2, g3, g4⟩ := s.env.own i fs h
      refine ⟨p2, vs2, g1, ?_, g3, g4⟩
      rw [upd_ne (fun z => s.env.dis i j fs ds p2 (Ne.symm hij) h h1 g1 (by rw [z]; exact h2))]
      exact g2
  · by_cases hij : j = i
    · subst hij
      rw [List.getElem?_set_ne hik] at q2
      exact s.env.dis j k ds gs q hik h1 q2 q3 q4
    · by_cases hkj : j = k
      · subst hkj
        rw [List.getElem?_set_ne hij] at q1
        exact s.env.dis i j fs ds q hik q1 h1 q3 q4
      · rw [List.getElem?_set_ne hij] at q1
        rw [List.getElem?_set_ne hkj] at q2
        exact s.env.dis i k fs gs q hik q1 q2 q3 q4
  · by_cases hij : j = i
    · subst hij
      exact s.fr j ds q h1 q2
    · rw [List.getElem?_set_ne hij] at q1
      exact s.fr i fs q q1 q2
theorem app_okS {te : TE} {f : SE} (i : Nat) (k : EOk K B te f) : SSOk K B (tDrop (tBM K "list" rAppend (tVar i) (tCons te tNil))) (sApp i f) := fun H0 G0 F H σ ρ D s hg => by
  unfold sApp at hg
  split at hg
  · rename_i ds d h1 h2
    split at hg
    · rename_i hc
      obtain ⟨p, vs, e1, e2, e3, e4⟩ := s.env.own i ds h1
      refine ⟨.ref p, e1, .inl ⟨rfl, vs, .inl (.inl e2)⟩, ?_⟩
      refine k F H σ ρ d s.env h2 _ fun v H' G g r => ?_
      refine ⟨p, vs, v, rfl, rfl, g.h _ _ e2, Nat.lt_of_lt_of_le (show vs.length < LIM + 1 by rw [e3.len]; omega) (by decide), ?_⟩
      exact hg _ _ G ((s.grow g).upd i h1 e1 ((dpa_mono g.f ds e3).append (.cons (r.dp (by rintro l rfl; cases hc.1)) .nil))) g.f
    · exact hg.elim
  · exact hg.elim
theorem put_okS {te tix : TE} {f ix : SE} (i : Nat) (k : EOk K B te f) (kx : EOk K B tix ix) : SSOk K B (tAsg te (gSub (tVar i) tix rSetL)) (sPut i ix f) := fun H0 G0 F H σ ρ D s hg => by
  unfold sPut at hg
  split at hg
  · rename_i ds d kk h1 h2 h3
    split at hg
    · rename_i j hj
      split at hg
      · rename_i hc
        obtain ⟨p, vs, e1, e2, e3, e4⟩ := s.env.own i ds h1
        refine k F H σ ρ d s.env h2 _ fun v H' G g r => ⟨.ref p, e1, ?_⟩
        refine kx G H' σ ρ _ (s.env.grow g) h3 _ fun u H2 G2 g2 r2 => ?_
        refine ⟨p, vs, kk, j, rfl, Bp.int (H := G2) (.inl r2), (g.trans g2).h _ _ e2, by rw [e3.len]; exact hj, ?_⟩
        exact hg _ _ G2 (((s.grow g).grow g2).upd i h1 e1 ((dpa_mono (g.f.trans g2.f) ds e3).set ((r.mono g2.f).dp (by rintro l rfl; cases hc)) j)) (g.f.trans g2.f)
      · exact hg.elim
    · exact hg.elim
  · exact hg.elim
/-- a target -/
def TGOk (K : PySem.W.Frag) (g : TG) (tg : PyData → Rho → Option Rho) : Prop := ∀ (B H0 G0 F H : Hp) (σ : L2.St) (ρ ρ1 : Rho) (v : V) (d : PyData), StOk K B H0 G0 F H σ ρ → Rp K F v d → tg d ρ = some ρ1 →
  ∀ Q : L2.St → Hp → Prop, (∀ σ1, StOk K B H0 G0 F H σ1 ρ1 → Q σ1 H) → g v σ H Q
theorem tg1_ok (j : Nat) : TGOk K (gName j) (tg1 j) := fun B H0 G0 F H σ ρ ρ1 v d s r q Q k => by
  cases q
  exact k _ (s.setV j r)
theorem tg2_ok (i j : Nat) : TGOk K (gTup K 2 (gCons (gName i) (gCons (gName j) gNil))) (tg2 i j) := fun B H0 G0 F H σ ρ ρ1 v d s r q Q k => by
  unfold tg2 at q
  split at q
  · rename_i a b
    cases q
    have r2 := r.dp
    cases r2 with
    | @tup p vs _ hs ha =>
      cases ha with
      | @cons v1 _ _ _ h1 h2 =>
        cases h2 with
        | @cons v2 _ _ _ h2 h3 =>
          cases h3
          refine ⟨p, [v1, v2], rfl, same_t s.env.ex hs, rfl, v1, [v2], rfl, v2, [], rfl, rfl, ?_⟩
          exact k _ ((s.setV i (.inl h1)).setV j (.inl h2))
  · cases q
theorem for_okS {wi : TI} {g : TG} {tb : TS} {src : SA} {tg : PyData → Rho → Option Rho} {body : SS} (hi : IOk K B wi src) (ht : TGOk K g tg) (kb : SSOk K B tb body) : SSOk K B (tFor wi g tb) (sFor src tg body) := fun H0 G0 F H σ ρ D s hg => by
  unfold sFor at hg
  cases e0 : src ρ with
  | none => rw [e0] at hg; exact hg.elim
  | some ds =>
    rw [e0] at hg
    refine hi F H σ ρ ds s.env e0 _ fun J H1 G1 g1 w => ?_
    have s1 := s.grow g1
    refine ⟨fun i m σ' H' => m = ds.length - i ∧ i ≤ ds.length ∧ ∃ (F' : Hp) (ρ' : Rho), StOk K B H0 G0 F' H' σ' ρ' ∧ Same G1 F' ∧ Goes K B H0 G0 F' D (forF tg body (ds.drop i) ρ'),
      ⟨ds.length, by simp, Nat.zero_le _, G1, ρ, s1, Same.refl G1, Goes.mono hg g1.f⟩, ?_⟩
    rintro i m σ' H' ⟨rfl, hile, F', ρ', s', e', hg'⟩
    have al : Same G1 F' ∧ Same F' H' := ⟨e', s'.env.ex⟩
    by_cases hlt : i < ds.length
    · have hd : ds[i]? = some ds[i] := List.getElem?_eq_getElem hlt
      rw [drop_cons_of hd] at hg'
      refine .inr ⟨w.go i F' H' al hlt, fun σ2 H2 => ∃ m', m' < ds.length - i ∧ (m' = ds.length - (i + 1) ∧ i + 1 ≤ ds.length ∧ ∃ (F' : Hp) (ρ' : Rho), StOk K B H0 G0 F' H2 σ2 ρ' ∧ Same G1 F' ∧ Goes K B H0 G0 F' D (forF tg body (ds.drop (i + 1)) ρ')),
        fun σ2 H2 h => h, fun x H2 y => ?_⟩
      obtain ⟨F2, g2, r2⟩ := w.yld i F' H' x H2 _ al hd y
      unfold forF at hg'
      cases et : tg ds[i] ρ' with
      | none => rw [et] at hg'; exact hg'.elim
      | some r =>
        rw [et] at hg'
        refine ht B H0 G0 F2 H2 σ' ρ' r x _ (s'.grow g2) r2 et _ fun σ1 s3 => ?_
        refine kb H0 G0 F2 H2 σ1 r _ s3 ?_
        cases eb : body r with
        | no =>
          simp only [eb] at hg'
          exact hg'.elim
        | nx r2 =>
          simp only [eb] at hg'
          exact fun σ4 H4 F4 s4 e4 => ⟨_, by omega, rfl, hlt, F4, r2, s4, (e'.trans g2.f).trans e4, Goes.mono hg' (g2.f.trans e4)⟩
        | rt d =>
          simp only [eb] at hg'
          exact hg'
    · have e : i = ds.length := by omega
      subst e
      rw [List.drop_length] at hg'
      exact .inl ⟨w.stop F' H' al, hg' σ' H' F' s' (Same.refl F')⟩
end
end RT
namespace RT
open PySem PySem.Spec PyProof.Rows L2
/-! ### the words of a derivation -/
section
variable {X : Cx} {K : PySem.W.Frag} {B : Hp} {e a b c d : Expr} {es : List Expr} {t t1 t2 t3 t4 : TE} {ta : TA} {f f1 f2 f3 f4 : SE} {sa : SA} {pos : Pos} {tt u : TT} {g h : STe}
theorem se_var (i : Nat) {x : Str} {pos : Pos} (hN : X.N[i]? = some x := by rfl) (hv : Vis X.env.scope x := by first | exact Or.inl rfl | exact Or.inr (Or.inl rfl) | exact Or.inr (Or.inr rfl)) (hd : (x == ("__debug__" : Str)) = false := by decide)
    (hcd : (x == ("__classdict__" : Str)) = false := by decide) : SemE X K B (.Name x pos) (tVar i) (eVar i) := ⟨pe_var hN hv hd hcd, var_ok i⟩
theorem sb_var (i : Nat) {x : Str} {pos : Pos} (hN : X.N[i]? = some x := by rfl) (hv : Vis X.env.scope x := by first | exact Or.inl rfl | exact Or.inr (Or.inl rfl) | exact Or.inr (Or.inr rfl)) (hd : (x == ("__debug__" : Str)) = false := by decide)
    (hcd : (x == ("__classdict__" : Str)) = false := by decide) : SemB X K B (.Name x pos) (tVar i) (eVarB i) := ⟨pe_var hN hv hd hcd, varB_ok i⟩
theorem se_int {i j} : SemE X K B (.Constant (.int i) j pos) (tC (.int i)) (eC (.int i)) := ⟨pe_int, c_ok fun _ => rp_int _⟩
theorem se_str {i j} : SemE X K B (.Constant (.str i) j pos) (tC (.str i)) (eC (.str i)) := ⟨pe_str, c_ok fun _ => rp_str _⟩
theorem se_bool {i j} : SemE X K B (.Constant (.bool i) j pos) (tC (.bl i)) (eC (.bool i)) := ⟨pe_bl, c_ok fun _ => rp_bool _⟩
theorem se_none {j} : SemE X K B (.Constant .none j pos) (tC .non) (eC .none) := ⟨pe_non, c_ok fun _ => rp_non⟩
theorem se_globI {x : Str} {i : Int} (hm : ∃ tk, X.mg x = some (.int i tk)) (hg : Gl X x := by rfl) (hd : (x == ("__debug__" : Str)) = false := by decide) : SemE X K B (.Name x pos) (tC (.int i)) (eC (.int i)) :=
  let ⟨tk, hm⟩ := hm; ⟨pe_glob hg hm ⟨tk, rfl⟩ hd, c_ok fun _ => rp_int _⟩
theorem se_globS {x : Str} {i : Str} (hm : ∃ tk, X.mg x = some (.str i tk)) (hg : Gl X x := by rfl) (hd : (x == ("__debug__" : Str)) = false := by decide) : SemE X K B (.Name x pos) (tC (.str i)) (eC (.str i)) :=
  let ⟨tk, hm⟩ := hm; ⟨pe_glob hg hm ⟨tk, rfl⟩ hd, c_ok fun _ => rp_str _⟩
/-- two-place -/
theorem se_op {op : Operator} {r : R2} {gg : PyData → PyData → Option PyData} (hs : OpS K r gg) (ho : OpR X (binaryOp op) r) (h1 : SemB X K B a t1 f1) (h2 : SemB X K B b t2 f2) : SemE X K B (.BinOp a op b pos) (tOp r t1 t2) (eOp gg f1 f2) := ⟨pe_op ho h1.pe h2.pe, op_ok hs h1.ok h2.ok⟩
theorem se_add (h1 : SemB X K B a t1 f1) (h2 : SemB X K B b t2 f2) : SemE X K B (.BinOp a .Add b pos) (tOp rAdd3 t1 t2) (eOp gAdd f1 f2) := se_op add3_s op_add3 h1 h2
theorem se_sub (h1 : SemB X K B a t1 f1) (h2 : SemB X K B b t2 f2) : SemE X K B (.BinOp a .Sub b pos) (tOp (rI0 fun i j => .int (i - j)) t1 t2) (eOp gMinus f1 f2) := se_op sub_s op_sub h1 h2
theorem se_mul (h1 : SemB X K B a t1 f1) (h2 : SemB X K B b t2 f2) : SemE X K B (.BinOp a .Mult b pos) (tOp rMul3 t1 t2) (eOp gMul f1 f2) := se_op mul3_s op_mul3 h1 h2
theorem se_fdiv (h1 : SemB X K B a t1 f1) (h2 : SemB X K B b t2 f2) : SemE X K B (.BinOp a .FloorDiv b pos) (tOp (rI CDiv fun i j => .int (i / j)) t1 t2) (eOp gFdiv f1 f2) := se_op fdiv_s op_fdiv h1 h2
theorem se_mod (h1 : SemB X K B a t1 f1) (h2 : SemB X K B b t2 f2) : SemE X K B (.BinOp a .Mod b pos) (tOp (rI (fun _ j => 0 < j) fun i j => .int (i % j)) t1 t2) (eOp gMod f1 f2) := se_op mod_s op_mod h1 h2
def gNeg : PyData → Option PyData
  | .int i => some (.int (-i))
  | _ => none
theorem se_neg (h1 : SemB X K B a t1 f1) : SemE X K B (.UnaryOp .USub a pos) (tUn (rU fun i => .int (-i)) t1) (eUn gNeg f1) := ⟨pe_un un_neg h1.pe, un_ok (fun G H x d1 d e b q Q k => by
  cases d1 with
  | int i =>
    cases q
    exact ⟨i, b.int, k _ H G (Grow.refl e) (rp_int _)⟩
  | _ => cases q) h1.ok⟩
/-- comparisons, as values and as tests -/
theorem se_cmp {op : CmpOp} {r : R2} {gg : PyData → PyData → Option PyData} (hs : OpS K r gg) (ho : OpR X (compareOp op) r) (h1 : SemB X K B a t1 f1) (h2 : SemB X K B b t2 f2) (hm : behindInMarks op b = false) : SemE X K B (.Compare a [op] [b] pos) (tOp r t1 t2) (eOp gg f1 f2) :=
  ⟨pe_cmpR ho h1.pe h2.pe hm, op_ok hs h1.ok h2.ok⟩
theorem st_cmp {op : CmpOp} {r : R2} {gg : PyData → PyData → Option PyData} (hs : OpS K r gg) (ho : OpR X (compareOp op) r) (h1 : SemB X K B a t1 f1) (h2 : SemB X K B b t2 f2) (hm : behindInMarks op b = false) : SemT X K B (.Compare a [op] [b] pos) (tTest (tOp r t1 t2)) (bF (eOp gg f1 f2)) :=
  ⟨pt_cmpR ho h1.pe h2.pe hm, tTest_ok (op_ok hs h1.ok h2.ok)⟩
theorem se_chain {op op' : CmpOp} {r r' : R2} {gg gg' : PyData → PyData → Option PyData} (hs : OpS K r gg) (ho : OpR X (compareOp op) r) (hs' : OpS K r' gg') (ho' : OpR X (compareOp op') r') (h1 : SemB X K B a t1 f1) (h2 : SemB X K B b t2 f2) (h3 : SemB X K B c t3 f3)
    (hm : lastMarks [op, op'] [b, c] = false := by with_unfolding_all rfl) : SemE X K B (.Compare a [op, op'] [b, c] pos) (tChain r r' t1 t2 t3) (eChainF gg gg' f1 f2 f3) := ⟨pe_chain ho ho' h1.pe h2.pe h3.pe hm, chain_ok hs hs' h1.ok h2.ok h3.ok⟩
theorem st_chain {op op' : CmpOp} {r r' : R2} {gg gg' : PyData → PyData → Option PyData} (hs : OpS K r gg) (ho : OpR X (compareOp op) r) (hs' : OpS K r' gg') (ho' : OpR X (compareOp op') r') (h1 : SemB X K B a t1 f1) (h2 : SemB X K B b t2 f2) (h3 : SemB X K B c t3 f3)
    (hm : lastMarks [op, op'] [b, c] = false := by with_unfolding_all rfl) : SemT X K B (.Compare a [op, op'] [b, c] pos) (tTest (tChain r r' t1 t2 t3)) (bF (eChainF gg gg' f1 f2 f3)) := ⟨pt_chain ho ho' h1.pe h2.pe h3.pe hm, tTest_ok (chain_ok hs hs' h1.ok h2.ok h3.ok)⟩
theorem se_chain3 {op op' op2 : CmpOp} {r r' r2 : R2} {gg gg' gg2 : PyData → PyData → Option PyData} (hs : OpS K r gg) (ho : OpR X (compareOp op) r) (hs' : OpS K r' gg') (ho' : OpR X (compareOp op') r') (hs2 : OpS K r2 gg2) (ho2 : OpR X (compareOp op2) r2)
    (h1 : SemB X K B a t1 f1) (h2 : SemB X K B b t2 f2) (h3 : SemB X K B c t3 f3) (h4 : SemB X K B d t4 f4) (hm : lastMarks [op, op', op2] [b, c, d] = false := by with_unfolding_all rfl) : SemE X K B (.Compare a [op, op', op2] [b, c, d] pos) (tChain3 r r' r2 t1 t2 t3 t4) (eChain3F gg gg' gg2 f1 f2 f3 f4) :=
  ⟨pe_chain3 ho ho' ho2 h1.pe h2.pe h3.pe h4.pe hm, chain3_ok hs hs' hs2 h1.ok h2.ok h3.ok h4.ok⟩
/-- tests -/
theorem st_val (h : SemE X K B e t f) (he : ∀ whole, isTrue e X.env whole = (do let v ← whole; standAt e.pos; holding [v] (truthy v)) := by intro _; rfl) : SemT X K B e (tB t) (bF f) := ⟨pt_val h.pe he, tB_ok h.ok⟩
theorem st_not (h : SemT X K B e tt g) : SemT X K B (.UnaryOp .Not e pos) (tNot tt) (tNotF g) := ⟨pt_not h.pt, tNot_ok h.ok⟩
theorem SemW.toT (h : SemW X K B e tt g) : SemT X K B e tt g := ⟨h.pw.pt, h.ok⟩
theorem sw_and1 (h1 : SemT X K B a tt g) : SemW X K B (.BoolOp .And [a] pos) tt g := ⟨pw_and1 h1.pt, h1.ok⟩
theorem sw_or1 (h1 : SemT X K B a tt g) : SemW X K B (.BoolOp .Or [a] pos) tt g := ⟨pw_or1 h1.pt, h1.ok⟩
theorem sw_and (h1 : SemT X K B a tt g) (h2 : SemW X K B (.BoolOp .And (b :: es) pos) u h) : SemW X K B (.BoolOp .And (a :: b :: es) pos) (tAnd tt u) (tAndF g h) := ⟨pw_and h1.pt h2.pw, tAnd_ok h1.ok h2.ok⟩
theorem sw_or (h1 : SemT X K B a tt g) (h2 : SemW X K B (.BoolOp .Or (b :: es) pos) u h) : SemW X K B (.BoolOp .Or (a :: b :: es) pos) (tOr tt u) (tOrF g h) := ⟨pw_or h1.pt h2.pw, tOr_ok h1.ok h2.ok⟩
theorem x_wt (h : SemW X K B e tt g) : SemT X K B e tt g := h.toT
theorem x_eb (h : SemE X K B e t f) : SemB X K B e t f := h.b
theorem x_le {sa : SA} (h : SemL X K B e t sa) : SemE X K B e t (eList sa) := h.toE
theorem x_ac (h1 : SemE X K B e t f) (h2 : SemA X K B es ta sa) (hs : starEach (e :: es) X.env = (false, eval e X.env) :: starEach es X.env := by rfl) : SemA X K B (e :: es) (tCons t ta) (eCons f sa) := h1.cons h2 hs
theorem x_abc (h1 : SemB X K B e t f) (h2 : SemAB X K B es ta sa) (hs : starEach (e :: es) X.env = (false, eval e X.env) :: starEach es X.env := by rfl) : SemAB X K B (e :: es) (tCons t ta) (eCons f sa) := h1.cons h2 hs
theorem se_one {op} (h : SemE X K B a t f) : SemE X K B (.BoolOp op [a] pos) t f := ⟨pe_one h.pe, h.ok⟩
theorem se_and (h1 : SemE X K B a t1 f1) (h2 : SemE X K B (.BoolOp .And (b :: es) pos) t2 f2) : SemE X K B (.BoolOp .And (a :: b :: es) pos) (tAndV t1 t2) (eAndF f1 f2) := ⟨pe_and h1.pe h2.pe, andV_ok h1.ok h2.ok⟩
theorem se_or (h1 : SemE X K B a t1 f1) (h2 : SemE X K B (.BoolOp .Or (b :: es) pos) t2 f2) : SemE X K B (.BoolOp .Or (a :: b :: es) pos) (tOrV t1 t2) (eOrF f1 f2) := ⟨pe_or h1.pe h2.pe, orV_ok h1.ok h2.ok⟩
theorem se_not (h1 : SemE X K B a t1 f1) : SemE X K B (.UnaryOp .Not a pos) (tNotV t1) (eNotF f1) := ⟨pe_not h1.pe, notV_ok h1.ok⟩
theorem se_if (h0 : SemT X K B c tt g) (h1 : SemE X K B a t1 f1) (h2 : SemE X K B b t2 f2) : SemE X K B (.IfExp c a b pos) (tIf tt t1 t2) (eIfF g f1 f2) := ⟨pe_ifExp h0.pt h1.pe h2.pe, if_ok h0.ok h1.ok h2.ok⟩
/-- items, slices, displays -/
theorem se_ix (h1 : SemB X K B a t1 f1) (h2 : SemB X K B b t2 f2) (hs : PlainIx b := by exact fun _ _ => rfl) (hK : X.K = K := by rfl) : SemE X K B (.Subscript a b pos) (tOp (rIx K) t1 t2) (eOp gIx f1 f2) := by
  subst hK
  exact ⟨pe_ix ix_seq h1.pe h2.pe hs, op_ok ix_s h1.ok h2.ok⟩
theorem sl_sl {lo hi : Option Expr} {tl th : TO} {oa ob : SO} {p2 : Pos} (h : SemB X K B a t f) (h1 : SemO X K B lo tl oa) (h2 : SemO X K B hi th ob) (hK : X.K = K := by rfl) : SemL X K B (.Subscript a (.Slice lo hi none p2) pos) (tSl (rSlL K) t tl th) (lSl f oa ob) := by
  subst hK
  exact ⟨pe_slice sl_list h.pe h1.po h2.po, slL_ok h.ok h1.ok h2.ok⟩
theorem se_slS {lo hi : Option Expr} {tl th : TO} {oa ob : SO} {p2 : Pos} (h : SemB X K B a t f) (h1 : SemO X K B lo tl oa) (h2 : SemO X K B hi th ob) : SemE X K B (.Subscript a (.Slice lo hi none p2) pos) (tSl rSlS t tl th) (eSlS f oa ob) := ⟨pe_slice sl_str h.pe h1.po h2.po, slS_ok h.ok h1.ok h2.ok⟩
theorem se_tup {x1} (h : SemA X K B es ta sa) : SemE X K B (.Tuple es x1 pos) (tTup ta) (eTupD sa) := ⟨pe_tup h.pa, tup_ok h.ok⟩
theorem sl_lst (h : SemA X K B es ta sa) : SemL X K B (.List es pos) (tLst ta) (eLstD sa) := ⟨pe_lst h.pa, lst_ok h.ok⟩
/-- built-ins by their names -/
theorem se_cb {id : String} {x : Str} {p : Pos} {r : List V → Hp → VK → Prop} {gg : List PyData → Option PyData} (hs : CallS K r gg) (hc : CallR X (.builtin id) r) (hm : X.mg x = none) (ha : SemAB X K B (e :: es) ta sa) (hg : Gl X x := by rfl) (hv : bootBuiltins x = some (.builtin id) := by decide +kernel)
    (hn : x ≠ "__name__" := by decide) (hdb : (x == ("__debug__" : Str)) = false := by decide) (he : starEach (e :: es) X.env = (false, eval e X.env) :: starEach es X.env := by rfl) (hpl : (backTo pos (starEach es X.env)).any (·.1) = false := by rfl) :
    SemE X K B (.Call (.Name x p) (e :: es) [] pos) (tCB r ta) (eCall gg sa) := ⟨pe_callB hc hg hm hv ha.pa hn hdb he hpl, cb_ok hs ha.ok⟩
theorem se_ct {T : String} {x : Str} {p : Pos} {r : List V → Hp → VK → Prop} {gg : List PyData → Option PyData} (hs : CallS K r gg) (hc : CallR X (.type T) r) (hm : X.mg x = none) (ha : SemAB X K B (e :: es) ta sa) (hg : Gl X x := by rfl) (hv : bootBuiltins x = some (.type T) := by decide +kernel)
    (hn : x ≠ "__name__" := by decide) (hdb : (x == ("__debug__" : Str)) = false := by decide) (he : starEach (e :: es) X.env = (false, eval e X.env) :: starEach es X.env := by rfl) (hpl : (backTo pos (starEach es X.env)).any (·.1) = false := by rfl) :
    SemE X K B (.Call (.Name x p) (e :: es) [] pos) (tCB r ta) (eCall gg sa) := ⟨pe_callTy hc hg hm hv ha.pa hn hdb he hpl, cb_ok hs ha.ok⟩
theorem sl_ct {T : String} {x : Str} {p : Pos} {r : List V → Hp → VK → Prop} {gg : List PyData → Option (List PyData)} (hs : CallL K r gg) (hc : CallR X (.type T) r) (hm : X.mg x = none) (ha : SemAB X K B (e :: es) ta sa) (hg : Gl X x := by rfl) (hv : bootBuiltins x = some (.type T) := by decide +kernel)
    (hn : x ≠ "__name__" := by decide) (hdb : (x == ("__debug__" : Str)) = false := by decide) (he : starEach (e :: es) X.env = (false, eval e X.env) :: starEach es X.env := by rfl) (hpl : (backTo pos (starEach es X.env)).any (·.1) = false := by rfl) :
    SemL X K B (.Call (.Name x p) (e :: es) [] pos) (tCB r ta) (eCallL gg sa) := ⟨pe_callTy hc hg hm hv ha.pa hn hdb he hpl, cbL_ok hs ha.ok⟩
theorem se_isi {p p2 : Pos} {x : Str} (T : TyN) (hm : X.mg "isinstance" = none) (hm2 : X.mg x = none) (h : SemB X K B a t f) (hv : bootBuiltins x = some (.type (tyn T)) := by decide +kernel) (hg : Gl X "isinstance" := by rfl) (hg2 : Gl X x := by rfl) (hn : x ≠ "__name__" := by decide) (hd : (x == ("__debug__" : Str)) = false := by decide)
    (hs1 : starEach (a :: [.Name x p2]) X.env = (false, eval a X.env) :: starEach [.Name x p2] X.env := by rfl) (hs2 : starEach [.Name x p2] X.env = (false, eval (.Name x p2) X.env) :: starEach [] X.env := by rfl) (hpl : (backTo pos (starEach [Expr.Name x p2] X.env)).any (·.1) = false := by rfl) (hK : X.K = K := by rfl) :
    SemE X K B (.Call (.Name "isinstance" p) [a, .Name x p2] [] pos) (tCB (rIsi K) (tCons t (tCons (tC (.ty (tyn T))) tNil))) (eIsi T f) := by
  subst hK
  exact ⟨pe_callB call_isi hg hm (by decide +kernel) (pa_cons h.pe (pa_cons (pe_bltn hg2 hm2 hv rfl hn hd) pa_nil hs2) hs1) (by decide) (by decide) hs1 hpl, isi_ok T h.ok⟩
/-- sep.join(texts) -/
def gJoin : PyData → PyData → Option PyData
  | .str z, .list ds => (strsD ds).bind fun ys => if (ys.map (·.length)).sum + ys.length * z.length ≤ LIM then some (.str (Txt.join z ys)) else none
  | _, _ => none
where strsD : List PyData → Option (List Str)
  | [] => some []
  | .str x :: ds => (strsD ds).map (x :: ·)
  | _ :: _ => none
theorem strsD_ok : ∀ {ds : List PyData} {ns : List Str}, gJoin.strsD ds = some ns → ds = ns.map PyData.str
  | [], ns, h => by cases h; rfl
  | .str i :: ds, ns, h => by
    cases e : gJoin.strsD ds with
    | none => simp [gJoin.strsD, e] at h
    | some ms =>
      simp [gJoin.strsD, e] at h
      subst h
      rw [strsD_ok e]; rfl
  | .none :: _, _, h => by cases h
  | .bool _ :: _, _, h => by cases h
  | .int _ :: _, _, h => by cases h
  | .list _ :: _, _, h => by cases h
  | .tuple _ :: _, _, h => by cases h
  | .dict _ :: _, _, h => by cases h
theorem strsD_map (ns : List Str) : gJoin.strsD (ns.map PyData.str) = some ns := by
  induction ns with
  | nil => rfl
  | cons n ns ih => simp [gJoin.strsD, ih]
abbrev rJoin (K : PySem.W.Frag) : V → List V → Hp → VK → Prop := fun x xs H Q => ∃ a p, ∃ ys : List Str, x = .str a ∧ xs = [.ref p] ∧ (SqL K H p (ys.map V.str) ∨ SqT K H p (ys.map V.str)) ∧
  (ys.map (·.length)).sum + ys.length * a.length ≤ 16777216 ∧ Q (.str (Txt.join a ys)) H
theorem join_ok (h1 : BOk K B t1 f1) (h2 : BOk K B t2 f2) : EOk K B (tM1 (rJoin K) t1 t2) (eOp gJoin f1 f2) := fun F H σ ρ dd E q Q k => by
  cases e1 : f1 ρ with
  | none => simp [eOp, e1] at q
  | some x =>
    cases e2 : f2 ρ with
    | none => simp [eOp, e1, e2] at q
    | some y =>
      have q' : gJoin x y = some dd := by simpa [eOp, e1, e2] using q
      unfold gJoin at q'
      split at q'
      · rename_i z ds
        cases hn : gJoin.strsD ds with
        | none => simp [hn] at q'
        | some ys =>
          rw [hn, Option.bind_some] at q'
          split at q'
          · rename_i hz
            cases q'
            refine h1 F H σ ρ _ E e1 _ fun v H1 G1 g1 b1 => ⟨⟨z, b1.str⟩, ?_⟩
            refine h2 G1 H1 σ ρ _ (E.grow g1) e2 _ fun w H2 G2 g2 b2 => ?_
            obtain ⟨p, vs, rfl, hp, hA⟩ := b2.list g2.sub
            rw [strsD_ok hn] at hA
            have ev := strs_dpa ys hA
            subst ev
            exact ⟨z, p, ys, b1.str, rfl, .inl (.inl (.inl hp)), Nat.le_trans hz (by decide), k _ H2 G2 (g1.trans g2) (rp_str _)⟩
          · cases q'
      · cases q'
theorem se_join {apos : Pos} (h1 : SemB X K B a t1 f1) (h2 : SemB X K B b t2 f2) (hs : starEach [b] X.env = [(false, eval b X.env)] := by rfl) (hbase : attributeBase a "join" X.env (eval a X.env) = eval a X.env := by rfl) (hline : (apos.endLine == pos.line) = true := by rfl) (hK : X.K = K := by rfl) :
    SemE X K B (.Call (.Attribute a "join" apos) [b] [] pos) (tM1 (rJoin K) t1 t2) (eOp gJoin f1 f2) := by
  subst hK
  exact ⟨pe_join h1.pe h2.pe hs hbase hline, join_ok h1.ok h2.ok⟩
end
/-! ### what is walked, comprehensions -/
structure SemI (X : Cx) (K : PySem.W.Frag) (B : Hp) (tg : Expr) (iter : Expr) (wi : TI) (f : SA) : Prop where
  pi : PI X tg iter wi
  ok : IOk K B wi f
structure SemIB (X : Cx) (K : PySem.W.Frag) (B : Hp) (tg : Expr) (iter : Expr) (wi : TI) (f : SA) : Prop where
  pi : PI X tg iter wi
  ok : IBOk K B wi f
structure SemTs (X : Cx) (K : PySem.W.Frag) (B : Hp) (ifs : List Expr) (t : TT) (f : STe) : Prop where
  pts : PTs X ifs t
  ok : TOk K B t f
section
variable {X : Cx} {K : PySem.W.Frag} {B : Hp} {tg e a b : Expr} {t : TE} {f : SE} {ta : TA} {sa : SA} {pos p : Pos} {wi : TI}
theorem SemI.toB (h : SemI X K B tg e wi sa) : SemIB X K B tg e wi sa := ⟨h.pi, h.ok.b⟩
theorem si_list (h : SemE X K B e t f) (hK : X.K = K := by rfl) : SemI X K B tg e (iList K t) (iL f) := by
  subst hK
  exact ⟨pi_list h.pe, iList_ok h.ok⟩
theorem si_listB (h : SemB X K B e t f) (hK : X.K = K := by rfl) : SemIB X K B tg e (iList K t) (iL f) := by
  subst hK
  exact ⟨pi_list h.pe, iListB_ok h.ok⟩
theorem si_tup (h : SemE X K B e t f) (hK : X.K = K := by rfl) : SemI X K B tg e (iTup K t) (iT f) := by
  subst hK
  exact ⟨pi_tup h.pe, iTup_ok h.ok⟩
theorem si_str (h : SemE X K B e t f) : SemI X K B tg e (iStr t) (iS f) := ⟨pi_str h.pe, iStr_ok h.ok⟩
theorem si_range1 (hm : X.mg "range" = none) (ha : SemAB X K B [a] ta sa) (hg : Gl X "range" := by rfl) (hs : starEach [a] X.env = [(false, eval a X.env)] := by rfl) : SemI X K B tg (.Call (.Name "range" p) [a] [] pos) (iRng1 ta) (iR1 sa) := ⟨pi_range1 hg hm ha.pa hs, iRng1_ok ha.ok⟩
theorem si_range2 (hm : X.mg "range" = none) (ha : SemAB X K B [a, b] ta sa) (hg : Gl X "range" := by rfl) (hs : starEach [a, b] X.env = [(false, eval a X.env), (false, eval b X.env)] := by rfl) (hs2 : starEach [b] X.env = [(false, eval b X.env)] := by rfl) : SemI X K B tg (.Call (.Name "range" p) [a, b] [] pos) (iRng2 ta) (iR2 sa) :=
  ⟨pi_range2 hg hm ha.pa hs hs2, iRng2_ok ha.ok⟩
theorem si_enum {elts : List Expr} {kk : Nat} {tpos : Pos} (hm : X.mg "enumerate" = none) (ha : SemA X K B [e] ta sa) (hg : Gl X "enumerate" := by rfl) (hs : starEach [e] X.env = [(false, eval e X.env)] := by rfl) (hK : X.K = K := by rfl) : SemI X K B (.Tuple elts kk tpos) (.Call (.Name "enumerate" p) [e] [] pos) (iEnum K ta) (iE sa) := by
  subst hK
  exact ⟨pi_enum hg hm ha.pa hs, iEnum_ok ha.ok⟩
theorem x_ib (h : SemI X K B tg e wi sa) : SemIB X K B tg e wi sa := h.toB
theorem sts_nil : SemTs X K B [] tYes tYesF := ⟨pts_nil, yes_ok⟩
theorem sts_one {tt : TT} {g : STe} (h : SemT X K B e tt g) : SemTs X K B [e] tt g := ⟨pts_one h.pt, h.ok⟩
theorem sl_lc {elt iter : Expr} {x : Str} {xp : Pos} {ifs : List Expr} {scope : Scope} {j : Nat} {tt : TT} {te : TE} {tst : STe} {el : SE} (hc : X.calm = true) (hN : X.N.Nodup) (hj : X.N[j]? = some x) (hi : SemIB X K B (.Name x xp) iter wi sa) (ok : BlkOk X.N X.env.scope scope [(x, j)])
    (ht : ∀ (s : Shared) (H : Hp) (C : Addr) (cl : List (Str × Addr)) (fp : List Addr), SemTs (X.blk s H scope (compEnvC scope cl C X.env) fp) K B ifs tt tst)
    (he : ∀ (s : Shared) (H : Hp) (C : Addr) (cl : List (Str × Addr)) (fp : List Addr), SemE (X.blk s H scope (compEnvC scope cl C X.env) fp) K B elt te el)
    (hgn : ∀ (s : Shared) (H : Hp) (C : Addr) (cl : List (Str × Addr)) (fp : List Addr), PG (X.blk s H scope (compEnvC scope cl C X.env) fp) (.Name x xp) (gName j))
    (hs : ∀ x, foldedSetIterable iter X.env x = pure x := by intro _; rfl) : SemL X K B (.ListComp elt [⟨.Name x xp, iter, ifs, 0⟩] scope pos) (tLc wi (gName j) tt te [j]) (lLc sa j tst el) :=
  ⟨pe_lc (own := [(x, j)]) hc hN hi.pi ok hgn (fun s H C cl fp => (ht s H C cl fp).pts) (fun s H C cl fp => (he s H C cl fp).pe) hs, lc_ok hi.ok (ht X.s_0 (fun _ => none) 0 [] []).ok (he X.s_0 (fun _ => none) 0 [] []).ok⟩
end
/-! ### statements -/
section
variable {X : Cx} {K : PySem.W.Frag} {B : Hp} {e a b : Expr} {st : Stmt} {rest : List Stmt} {t u : TS} {f g : SS} {te tx : TE} {fe fx : SE} {pos : Pos}
theorem ss_nil : SemSs X K B [] tNext sNext := ⟨pss_nil, next_ok⟩
theorem ss_cons (h1 : SemS X K B st t f) (h2 : SemSs X K B rest u g) : SemSs X K B (st :: rest) (tSeq t u) (sSeq f g) := ⟨pss_cons h1.ps h2.ps, seq_ok h1.ok h2.ok⟩
theorem ss_one (h1 : SemS X K B st t f) : SemSs X K B [st] t f := ⟨pss_one h1.ps, h1.ok⟩
theorem s_ret (h : SemE X K B e te fe) : SemS X K B (.Return (some e) pos) (tRet te) (sRet fe) := ⟨ps_ret h.pe, ret_ok h.ok⟩
theorem s_retN : SemS X K B (.Return none pos) tRetN sRetN := ⟨ps_retN, retN_ok⟩
theorem s_set (i : Nat) {x : Str} {pos' : Pos} (hN : X.N.Nodup) (he : SemE X K B e te fe) (hi : X.N[i]? = some x := by rfl) (hx : Loc X.env.scope x := by first | exact Or.inl rfl | exact Or.inr rfl) (hs : swapsWith e (some (.Name x pos')) pos.line X.env = pure false := by rfl)
    (hf : X.fn x = true ∨ X.env.scope.names.lookup x = some .local := by first | exact .inl rfl | exact .inr rfl) : SemS X K B (.Assign [.Name x pos'] e pos) (tAsg te (gName i)) (sSet i fe) := ⟨ps_set hN hi hx he.pe hs hf, set_ok i he.ok⟩
theorem s_setL (i : Nat) {x : Str} {pos' : Pos} {sa : SA} (hN : X.N.Nodup) (he : SemL X K B e te sa) (hi : X.N[i]? = some x := by rfl) (hx : Loc X.env.scope x := by first | exact Or.inl rfl | exact Or.inr rfl) (hs : swapsWith e (some (.Name x pos')) pos.line X.env = pure false := by rfl)
    (hf : X.fn x = true ∨ X.env.scope.names.lookup x = some .local := by first | exact .inl rfl | exact .inr rfl) : SemS X K B (.Assign [.Name x pos'] e pos) (tAsg te (gName i)) (sSetL i sa) := ⟨ps_set hN hi hx he.pe hs hf, setL_ok i he.ok⟩
theorem s_expr (he : SemE X K B e te fe) (hs : swapsWith e none pos.line X.env = pure false := by rfl) : SemS X K B (.Expr e pos) (tDrop te) (sDrop fe) := ⟨ps_expr he.pe hs, drop_ok he.ok⟩
theorem s_if {tc : TT} {c : STe} {ss us : List Stmt} (h0 : SemT X K B e tc c) (h1 : SemSs X K B ss t f) (h2 : SemSs X K B us u g) : SemS X K B (.If e ss us pos) (tIfS tc t u) (sIf c f g) := ⟨ps_if h0.pt h1.ps h2.ps, ifS_ok h0.ok h1.ok h2.ok⟩
theorem s_for {tg iter : Expr} {body : List Stmt} {wi : TI} {gg : TG} {sa : SA} {tgf : PyData → Rho → Option Rho} (hp : PassesOwn (model X.prog X.w) X.A X.env X.xe) (hc : X.calm = true) (hi : SemI X K B tg iter wi sa) (hg : PG X tg gg) (ht : TGOk K gg tgf) (hb : SemSs X K B body t f)
    (hs : ∀ x, foldedSetIterable iter X.env x = pure x := by intro _; rfl) : SemS X K B (.For tg iter body [] pos) (tFor wi gg t) (sFor sa tgf f) := ⟨ps_for hp hc hi.pi hg hb.ps hs, for_okS hi.ok ht hb.ok⟩
/-- xs.append(e), xs[i] = e: an own list's name -/
theorem s_app (i : Nat) {x : Str} {p apos cpos : Pos} (he : SemE X K B e te fe) (ps : PS X (.Expr (.Call (.Attribute (.Name x p) "append" apos) [e] [] cpos) pos) (tDrop (tBM K "list" rAppend (tVar i) (tCons te tNil)))) :
    SemS X K B (.Expr (.Call (.Attribute (.Name x p) "append" apos) [e] [] cpos) pos) (tDrop (tBM K "list" rAppend (tVar i) (tCons te tNil))) (sApp i fe) := ⟨ps, app_okS i he.ok⟩
theorem s_put (i : Nat) {x : Str} {p p2 : Pos} (he : SemE X K B e te fe) (hx : SemE X K B a tx fx) (ps : PS X (.Assign [.Subscript (.Name x p) a p2] e pos) (tAsg te (gSub (tVar i) tx rSetL))) :
    SemS X K B (.Assign [.Subscript (.Name x p) a p2] e pos) (tAsg te (gSub (tVar i) tx rSetL)) (sPut i fx fe) := ⟨ps, put_okS i he.ok hx.ok⟩
end
/-! ### functions of data -/
section
variable {X : Cx} {K : PySem.W.Frag} {B : Hp} {e : Expr} {st : Stmt} {te : TE} {sa : SA}
theorem s_setLcE (i : Nat) {x : Str} {p pos : Pos} (h : SemL X K B e te sa) (ps : PS X (.Assign [.Name x p] e pos) (tAsg te (gName i))) : SemS X K B (.Assign [.Name x p] e pos) (tAsg te (gName i)) (sSet i (eList sa)) := ⟨ps, set_ok i h.toE.ok⟩
theorem s_setLcL (i : Nat) {x : Str} {p pos : Pos} (h : SemL X K B e te sa) (ps : PS X (.Assign [.Name x p] e pos) (tAsg te (gName i))) : SemS X K B (.Assign [.Name x p] e pos) (tAsg te (gName i)) (sSetL i sa) := ⟨ps, setL_ok i h.ok⟩
end
abbrev noB : Hp := fun _ => none
def spPure (K : PySem.W.Frag) (F : List PyData → Option PyData) : Sp := fun vs H Q _ => ∃ (G : Hp) (ds : List PyData) (d : PyData), Same G H ∧ RpAll K G vs ds ∧ F ds = some d ∧ ∀ v H' G', Grow H G H' G' → Rp K G' v d → Q v H'
def rho0 (N : List Str) (ds : List PyData) : Rho := ds.map .val ++ List.replicate (N.length - ds.length) .no
def runF (N : List Str) (n : Nat) (b : SS) : List PyData → Option PyData := fun ds => if ds.length = n then (match b (rho0 N ds) with
  | .rt d => some d
  | .nx _ => some .none
  | .no => none) else none
theorem RpAll.get {K : PySem.W.Frag} {F : Hp} : ∀ {vs : List V} {ds : List PyData} {i : Nat} {d : PyData}, RpAll K F vs ds → ds[i]? = some d → ∃ v, vs[i]? = some v ∧ Rp K F v d
  | [], [], _, _, _, e => by simp at e
  | [], _ :: _, _, _, h, _ => by cases h
  | _ :: _, [], _, _, h, _ => by cases h
  | v :: vs, d :: ds, 0, _, h, e => by
    cases h with
    | cons h1 h2 =>
      simp at e; subst e
      exact ⟨v, rfl, h1⟩
  | v :: vs, d :: ds, i + 1, _, h, e => by
    cases h with
    | cons h1 h2 =>
      obtain ⟨u, e1, e2⟩ := RpAll.get (i := i) h2 (by simpa using e)
      exact ⟨u, by simpa using e1, e2⟩
theorem start_ok {K : PySem.W.Frag} {G H : Hp} {N : List Str} {vs : List V} {ds : List PyData} (e : Same G H) (h : RpAll K G vs ds) : StOk K noB H G G H (start N vs) (rho0 N ds) := by
  have hl := h.len
  have no : ∀ (i : Nat) (es : List PyData), (rho0 N ds)[i]? = some (.own es) → False := fun i es q => by
    unfold rho0 at q
    rcases Nat.lt_or_ge i (ds.map Sl.val).length with hi | hi
    · rw [List.getElem?_append_left hi, List.getElem?_map] at q
      cases z : ds[i]? with
      | none => rw [z] at q; cases q
      | some d => rw [z] at q; cases q
    · rw [List.getElem?_append_right hi] at q
      have := List.mem_of_getElem? q
      rw [List.mem_replicate] at this
      cases this.2
  refine ⟨⟨(fun _ _ z => nomatch z), e, ?_, fun i d q => ?_, fun i es q => (no i es q).elim, fun i j es fs p _ q _ _ _ => no i es q⟩, Grow.refl e, fun i es p q _ => (no i es q).elim⟩
  · unfold rho0 L2.start
    simp [hl]
  · unfold rho0 at q
    rcases Nat.lt_or_ge i (ds.map Sl.val).length with hi | hi
    · rw [List.getElem?_append_left hi, List.getElem?_map] at q
      cases z : ds[i]? with
      | none => rw [z] at q; cases q
      | some d' =>
        rw [z] at q
        cases q
        obtain ⟨v, h1, h2⟩ := h.get z
        refine ⟨v, ?_, h2⟩
        unfold L2.start
        rw [List.getElem?_append_left (by rw [List.length_map]; exact (List.getElem?_eq_some_iff.mp h1).1), List.getElem?_map, h1]
        rfl
    · rw [List.getElem?_append_right hi] at q
      have := List.mem_of_getElem? q
      rw [List.mem_replicate] at this
      cases this.2
theorem sp_body {K : PySem.W.Frag} {N : List Str} {n : Nat} {b : SS} {t : TS} (k : SSOk K noB t b) {vs : List V} {H : Hp} {Q : VK} {E : XK} (h : spPure K (runF N n b) vs H Q E) : t { nx := fun _ H' => Q .non H', rt := Q } (start N vs) H := by
  obtain ⟨G, ds, d, e, hR, hF, hQ⟩ := h
  refine k H G G H _ _ _ (start_ok e hR) ?_
  unfold runF at hF
  split at hF
  · cases hb : b (rho0 N ds) with
    | no => rw [hb] at hF; cases hF
    | nx r =>
      rw [hb] at hF
      cases hF
      exact fun σ H' F' s _ => hQ .non H' F' s.gr rp_non
    | rt d' =>
      rw [hb] at hF
      cases hF
      exact fun v H' F' g r => hQ v H' F' g r
  · cases hF
theorem x_pe {X : Cx} {K : PySem.W.Frag} {e : Expr} {t : TE} {f : SE} (h : SemE X K noB e t f) : PE X e t := h.pe
theorem x_pt {X : Cx} {K : PySem.W.Frag} {e : Expr} {t : TT} {f : STe} (h : SemT X K noB e t f) : PT X e t := h.pt
theorem x_pi {X : Cx} {K : PySem.W.Frag} {tg e : Expr} {t : TI} {f : SA} (h : SemIB X K noB tg e t f) : PI X tg e t := h.pi
/-- the module's name x is a function of data, of level k -/
structure PF (P : Program) (w : World) (K : PySem.W.Frag) (mg : Str → Option Value) (base : Heap) (k : Nat) (x : Str) (F : List PyData → Option PyData) : Prop where
  ex : ∃ (f : Addr) (fd : FuncData) (ps : List Str), FnOk P w K mg base CX0 k f fd ps (spPure K F) ∧ mg x = some (.ref f) ∧ PySem.W.keepIn K (.ref f) = true ∧ Binds K fd ps []
theorem fn_mk {P : Program} {w : World} {K : PySem.W.Frag} {mg : Str → Option Value} {base : Heap} {k : Nat} {x : Str} {st : Stmt} {N ps : List Str} {b : SS} {f : Addr} {fd : FuncData} (F : FunD K x x (defArgs st) (defBody st) (defScope st) [] [] f fd) (S : FnScope N ps (defScope st))
    (body : ∀ (cdv : Value) (A : Around) (outer : List Env) (s : Shared) (H : Hp) (E : XK), Room k (A.deeper (envOfC x (defScope st) s.heap.objs.size f cdv)) → ∃ t, SemSs (cxOf CX0 P w K mg base N x (defScope st) f cdv A outer s H E).nox K noB (defBody st) t b) :
    FnOk P w K mg base CX0 (k + 1) f fd ps (spPure K (runF N ps.length b)) := by
  refine F.ok S (fun vs H Q E h => ?_) (fun cdv A outer s H vs Q E hr h => ?_)
  · obtain ⟨G, ds, d, _, hR, hF, _⟩ := h
    unfold runF at hF
    split at hF
    · rename_i hl
      rw [hR.len]; exact hl
    · cases hF
  · obtain ⟨t, ht⟩ := body cdv A outer s H E hr
    exact ⟨t, ht.ps.nox, sp_body ht.ok h⟩
theorem pf_mk {P : Program} {w : World} {K : PySem.W.Frag} {mg : Str → Option Value} {base : Heap} {k : Nat} {x : Str} {st : Stmt} {N ps : List Str} {b : SS} {f : Addr} {fd : FuncData} (F : FunD K x x (defArgs st) (defBody st) (defScope st) [] [] f fd) (S : FnScope N ps (defScope st)) (hm : mg x = some (.ref f))
    (hb : ∀ (kV doc pm : Value) (an : Option Addr) (cdv ct : Value) (us : List Value), us.length = ps.length → bindArgs (PySem.W.fnOf x x (defArgs st) (defBody st) (defScope st) .none kV doc pm an cdv ct) ⟨us, []⟩ = pure (ps.zip us))
    (body : ∀ (cdv : Value) (A : Around) (outer : List Env) (s : Shared) (H : Hp) (E : XK), Room k (A.deeper (envOfC x (defScope st) s.heap.objs.size f cdv)) → ∃ t, SemSs (cxOf CX0 P w K mg base N x (defScope st) f cdv A outer s H E).nox K noB (defBody st) t b) :
    PF P w K mg base (k + 1) x (runF N ps.length b) := ⟨f, fd, ps, fn_mk F S body, hm, F.kp, F.bindsN hb⟩
theorem hv_of {k : Nat} {A : Around} (hr : Room k A) : A.units + 65 < cLine := by have := hr.un; omega
theorem PF.imp {P : Program} {w : World} {K : PySem.W.Frag} {mg : Str → Option Value} {base : Heap} {k : Nat} {x : Str} {F F' : List PyData → Option PyData} (h : PF P w K mg base k x F) (hi : ∀ ds d, F' ds = some d → F ds = some d) : PF P w K mg base k x F' := by
  obtain ⟨f, fd, ps, h1, h2⟩ := h.ex
  refine ⟨f, fd, ps, h1.imp (fun vs H Q E ⟨G, ds, d, e, hR, hF, hQ⟩ => ⟨G, ds, d, e, hR, hi ds d hF, hQ⟩), h2⟩
section
variable {X : Cx} {K : PySem.W.Frag} {B : Hp} {e : Expr} {es : List Expr} {ta : TA} {sa : SA} {x : Str} {p pos : Pos} {k j : Nat} {F : List PyData → Option PyData}
theorem callP_ok (ha : AOk K B ta sa) : EOk K B (tCall (spPure K F) [] E0 ta) (eCall F sa) := fun F' H σ ρ d E q Q kk => by
  cases e1 : sa ρ with
  | none => simp [eCall, e1] at q
  | some ds =>
    have q' : F ds = some d := by simpa [eCall, e1] using q
    refine ha F' H σ ρ ds E e1 _ fun vs H1 G1 g1 r1 => ?_
    rw [List.append_nil]
    exact ⟨G1, ds, d, g1.sub, r1, q', fun v H' G' g r => kk v H' G' (g1.trans g) r⟩
theorem BpAll.all {G H : Hp} (e : Same G H) : ∀ {vs : List V} {ds : List PyData}, BpAll K G H vs ds → RpAll K H vs ds
  | [], [], _ => .nil
  | [], _ :: _, h => by cases h
  | _ :: _, [], h => by cases h
  | v :: vs, d :: ds, h => by
    cases h with
    | cons h1 h2 => exact .cons (h1.all e) (BpAll.all e h2)
/-- own lists handed in for a moment: what comes back is a value without parts -/
theorem callPB_ok (ha : ABOk K B ta sa) : EOk K B (tCall (spPure K F) [] E0 ta) (eCall (fun ds => onlyS (F ds)) sa) := fun F' H σ ρ d E q Q kk => by
  cases e1 : sa ρ with
  | none => simp [eCall, e1] at q
  | some ds =>
    have q' : onlyS (F ds) = some d := by simpa [eCall, e1] using q
    unfold onlyS at q'
    cases e2 : F ds with
    | none => simp [e2] at q'
    | some d' =>
      rw [e2, Option.bind_some] at q'
      split at q'
      · rename_i hs
        cases q'
        refine ha F' H σ ρ ds E e1 _ fun vs H1 G1 g1 r1 => ?_
        rw [List.append_nil]
        exact ⟨H1, ds, _, Same.refl H1, BpAll.all g1.sub r1, e2, fun v H' G' g r => kk v H' G1 (g1.trans ⟨g.h, Same.refl G1, g1.sub.trans g.h, fun _ z _ => z⟩) (rp_scal r hs)⟩
      · cases q'
theorem se_call (C : PF X.prog X.w K X.mg X.base k x F) (hr : Room j X.A) (ha : SemA X K B (e :: es) ta sa) (hk : k ≤ j := by decide) (hg : Gl X x := by rfl) (hdb : (x == ("__debug__" : Str)) = false := by decide)
    (he : starEach (e :: es) X.env = (false, eval e X.env) :: starEach es X.env := by rfl) (hpl : (backTo pos (starEach es X.env)).any (·.1) = false := by rfl) (hK : X.K = K := by rfl) : SemE X K B (.Call (.Name x p) (e :: es) [] pos) (tCall (spPure K F) [] E0 ta) (eCall F sa) := by
  subst hK
  obtain ⟨f, fd, ps, h1, h2, h3, h4⟩ := C.ex
  exact ⟨pe_call h1 (hr.mono hk) hg h2 h3 h4 .nil pass0 ha.pa hdb he hpl, callP_ok ha.ok⟩
theorem se_callB (C : PF X.prog X.w K X.mg X.base k x F) (hr : Room j X.A) (ha : SemAB X K B (e :: es) ta sa) (hk : k ≤ j := by decide) (hg : Gl X x := by rfl) (hdb : (x == ("__debug__" : Str)) = false := by decide)
    (he : starEach (e :: es) X.env = (false, eval e X.env) :: starEach es X.env := by rfl) (hpl : (backTo pos (starEach es X.env)).any (·.1) = false := by rfl) (hK : X.K = K := by rfl) : SemE X K B (.Call (.Name x p) (e :: es) [] pos) (tCall (spPure K F) [] E0 ta) (eCall (fun ds => onlyS (F ds)) sa) := by
  subst hK
  obtain ⟨f, fd, ps, h1, h2, h3, h4⟩ := C.ex
  exact ⟨pe_call h1 (hr.mono hk) hg h2 h3 h4 .nil pass0 ha.pa hdb he hpl, callPB_ok ha.ok⟩
end
/-- the law's own promise out of its function of data -/
theorem law_sp {K : PySem.W.Frag} {F : List PyData → Option PyData} {H : Hp} {a : Addr} {ns : List Int} (h : F [scrD ns] = some (.bool true)) (hS : SqL K H a (ns.map V.int)) : spPure K F [.ref a] H (fun v _ => v = .bl true) fun _ _ _ => False :=
  ⟨H, [scrD ns], .bool true, Same.refl H, .cons (.inr (.inr ⟨a, ns, rfl, rfl, hS⟩)) .nil, h, fun v H' G' _ r => r.bl⟩
end RT
/-! How the functions are reckoned: rows for simp. -/
namespace RT
open PySem PySem.Spec PyProof.Rows L2
def Out.thn : Out → (Rho → Out) → Out
  | .no, _ => .no
  | .nx r, g => g r
  | .rt d, _ => .rt d
def Out.res : Out → Option PyData
  | .no => none
  | .nx _ => some .none
  | .rt d => some d
section
variable {f f1 f2 f3 f4 : SE} {g : SA} {ρ : Rho} {t u : STe} {a b : SS} {c : Prop} [Decidable c]
@[simp] theorem thn_no (g : Rho → Out) : Out.thn .no g = .no := rfl
@[simp] theorem thn_nx (g : Rho → Out) (r : Rho) : Out.thn (.nx r) g = g r := rfl
@[simp] theorem thn_rt (g : Rho → Out) (d : PyData) : Out.thn (.rt d) g = .rt d := rfl
@[simp] theorem thn_ite (x y : Out) (g : Rho → Out) : Out.thn (if c then x else y) g = if c then x.thn g else y.thn g := by split <;> rfl
@[simp] theorem res_no : Out.res .no = none := rfl
@[simp] theorem res_nx (r : Rho) : Out.res (.nx r) = some .none := rfl
@[simp] theorem res_rt (d : PyData) : Out.res (.rt d) = some d := rfl
@[simp] theorem res_ite (x y : Out) : Out.res (if c then x else y) = if c then x.res else y.res := by split <;> rfl
@[simp] theorem bind_ite {α β : Type} (x y : Option α) (g : α → Option β) : (if c then x else y).bind g = if c then x.bind g else y.bind g := by split <;> rfl
@[simp] theorem map_ite {α β : Type} (x y : Option α) (g : α → β) : (if c then x else y).map g = if c then x.map g else y.map g := by split <;> rfl
theorem runF_eq (N : List Str) (n : Nat) (b : SS) (ds : List PyData) : runF N n b ds = if ds.length = n then (b (rho0 N ds)).res else none := by
  unfold runF
  split
  · cases b (rho0 N ds) <;> rfl
  · rfl
@[simp] theorem sSeq_eq : sSeq a b ρ = (a ρ).thn b := by unfold sSeq; cases a ρ <;> rfl
@[simp] theorem sNext_eq : sNext ρ = .nx ρ := rfl
def outV (o : Option PyData) (k : PyData → Out) : Out := match o with
  | some d => k d
  | none => .no
@[simp] theorem outV_some (d : PyData) (k : PyData → Out) : outV (some d) k = k d := rfl
@[simp] theorem outV_none (k : PyData → Out) : outV none k = .no := rfl
@[simp] theorem outV_ite (x y : Option PyData) (k : PyData → Out) : outV (if c then x else y) k = if c then outV x k else outV y k := by split <;> rfl
def outL (o : Option (List PyData)) (k : List PyData → Out) : Out := match o with
  | some d => k d
  | none => .no
@[simp] theorem outL_some (d : List PyData) (k : List PyData → Out) : outL (some d) k = k d := rfl
@[simp] theorem outL_none (k : List PyData → Out) : outL none k = .no := rfl
@[simp] theorem outL_ite (x y : Option (List PyData)) (k : List PyData → Out) : outL (if c then x else y) k = if c then outL x k else outL y k := by split <;> rfl
def outB (o : Option Bool) (k : Bool → Out) : Out := match o with
  | some d => k d
  | none => .no
@[simp] theorem outB_some (d : Bool) (k : Bool → Out) : outB (some d) k = k d := rfl
@[simp] theorem outB_none (k : Bool → Out) : outB none k = .no := rfl
@[simp] theorem outB_ite (x y : Option Bool) (k : Bool → Out) : outB (if c then x else y) k = if c then outB x k else outB y k := by split <;> rfl
@[simp] theorem sSet_eq (i : Nat) : sSet i f ρ = outV (f ρ) fun d => .nx (ρ.set i (.val d)) := by unfold sSet; cases f ρ <;> rfl
@[simp] theorem sSetL_eq (i : Nat) : sSetL i g ρ = outL (g ρ) fun d => .nx (ρ.set i (.own d)) := by unfold sSetL; cases g ρ <;> rfl
@[simp] theorem sDrop_eq : sDrop f ρ = outV (f ρ) fun _ => .nx ρ := by unfold sDrop; cases f ρ <;> rfl
@[simp] theorem sIf_eq : sIf t a b ρ = outB (t ρ) fun z => if z = true then a ρ else b ρ := by
  unfold sIf
  cases t ρ with
  | none => rfl
  | some z => cases z <;> rfl
@[simp] theorem sRet_eq : sRet f ρ = outV (f (ρ.map frz1)) .rt := by unfold sRet; cases f (ρ.map frz1) <;> rfl
@[simp] theorem sRetN_eq : sRetN ρ = .rt .none := rfl
@[simp] theorem frz1_own (ds : List PyData) : frz1 (.own ds) = .val (.list ds) := rfl
@[simp] theorem frz1_val (d : PyData) : frz1 (.val d) = .val d := rfl
@[simp] theorem frz1_no : frz1 .no = .no := rfl
@[simp] theorem sFor_eq (tg : PyData → Rho → Option Rho) : sFor g tg a ρ = outL (g ρ) fun ds => forF tg a ds ρ := by unfold sFor; cases g ρ <;> rfl
theorem forF_nil (tg : PyData → Rho → Option Rho) : forF tg a [] ρ = .nx ρ := rfl
theorem forF_cons1 (j : Nat) (d : PyData) (ds : List PyData) : forF (tg1 j) a (d :: ds) ρ = (a (ρ.set j (.val d))).thn (forF (tg1 j) a ds) := by
  simp only [forF, tg1]
  cases a (ρ.set j (.val d)) <;> rfl
/-- a slot -/
def slV : Option Sl → Option PyData
  | some (.val d) => some d
  | _ => none
def slB : Option Sl → Option PyData
  | some (.val d) => some d
  | some (.own ds) => some (.list ds)
  | _ => none
@[simp] theorem slV_val (d : PyData) : slV (some (.val d)) = some d := rfl
@[simp] theorem slB_val (d : PyData) : slB (some (.val d)) = some d := rfl
@[simp] theorem slB_own (d : List PyData) : slB (some (.own d)) = some (.list d) := rfl
@[simp] theorem eVar_eq (i : Nat) : eVar i ρ = slV ρ[i]? := by
  unfold eVar slV
  cases ρ[i]? with
  | none => rfl
  | some s => cases s <;> rfl
@[simp] theorem eVarB_eq (i : Nat) : eVarB i ρ = slB ρ[i]? := by
  unfold eVarB slB
  cases ρ[i]? with
  | none => rfl
  | some s => cases s <;> rfl
@[simp] theorem eC_eq (d : PyData) : eC d ρ = some d := rfl
@[simp] theorem eOp_eq (gg : PyData → PyData → Option PyData) : eOp gg f1 f2 ρ = (f1 ρ).bind fun x => (f2 ρ).bind fun y => gg x y := rfl
@[simp] theorem eUn_eq (gg : PyData → Option PyData) : eUn gg f1 ρ = (f1 ρ).bind gg := rfl
@[simp] theorem eNil_eq : eNil ρ = some [] := rfl
@[simp] theorem eCons_eq : eCons f g ρ = (f ρ).bind fun d => (g ρ).bind fun ds => some (d :: ds) := rfl
@[simp] theorem eTupD_eq : eTupD g ρ = (g ρ).bind fun ds => if ds.all dataD = true ∧ ds.length ≤ 1000 then some (.tuple ds) else none := rfl
@[simp] theorem eLstD_eq : eLstD g ρ = (g ρ).bind fun ds => if ds.all dataD = true ∧ ds.length ≤ 1000 then some ds else none := rfl
@[simp] theorem eList_eq : eList g ρ = (g ρ).map .list := rfl
@[simp] theorem eCall_eq (F : List PyData → Option PyData) : eCall F g ρ = (g ρ).bind F := rfl
@[simp] theorem eCallL_eq (F : List PyData → Option (List PyData)) : eCallL F g ρ = (g ρ).bind F := rfl
@[simp] theorem onlyS_eq (o : Option PyData) : onlyS o = o.bind fun d => if scalD d then some d else none := rfl
/-- a truth -/
def truD : PyData → Option Bool
  | .bool b => some b
  | _ => none
@[simp] theorem truD_bool (b : Bool) : truD (.bool b) = some b := rfl
@[simp] theorem bF_eq : bF f ρ = (f ρ).bind truD := by unfold bF truD; cases f ρ <;> rfl
@[simp] theorem tAndF_eq : tAndF t u ρ = (t ρ).bind fun b => if b = true then u ρ else some false := rfl
@[simp] theorem tOrF_eq : tOrF t u ρ = (t ρ).bind fun b => if b = true then some true else u ρ := rfl
@[simp] theorem tNotF_eq : tNotF t ρ = (t ρ).map (!·) := rfl
@[simp] theorem tYesF_eq : tYesF ρ = some true := rfl
@[simp] theorem eAndF_eq : eAndF f1 f2 ρ = ((f1 ρ).bind truD).bind fun b => if b = true then f2 ρ else some (.bool false) := by unfold eAndF; rw [bF_eq]
@[simp] theorem eOrF_eq : eOrF f1 f2 ρ = ((f1 ρ).bind truD).bind fun b => if b = true then some (.bool true) else f2 ρ := by unfold eOrF; rw [bF_eq]
@[simp] theorem eNotF_eq : eNotF f1 ρ = ((f1 ρ).bind truD).map fun b => .bool (!b) := by unfold eNotF; rw [bF_eq]
@[simp] theorem eIfF_eq : eIfF t f1 f2 ρ = (t ρ).bind fun b => if b = true then f1 ρ else f2 ρ := rfl
@[simp] theorem eChainF_eq (gg gg' : PyData → PyData → Option PyData) : eChainF gg gg' f1 f2 f3 ρ = (f1 ρ).bind fun x => (f2 ρ).bind fun y => ((gg x y).bind truD).bind fun z => if z = true then (f3 ρ).bind fun u => gg' y u else some (.bool false) := by
  unfold eChainF
  cases f1 ρ with
  | none => rfl
  | some x =>
    cases f2 ρ with
    | none => rfl
    | some y =>
      simp only [Option.bind_some]
      cases gg x y with
      | none => rfl
      | some z =>
        cases z with
        | bool b => cases b <;> rfl
        | _ => rfl
@[simp] theorem eChain3F_eq (gg gg' g2 : PyData → PyData → Option PyData) : eChain3F gg gg' g2 f1 f2 f3 f4 ρ = (f1 ρ).bind fun x => (f2 ρ).bind fun y => ((gg x y).bind truD).bind fun z => if z = true then (f3 ρ).bind fun u => ((gg' y u).bind truD).bind fun z => if z = true then (f4 ρ).bind fun u2 => g2 u u2 else some (.bool false) else some (.bool false) := by
  unfold eChain3F
  cases f1 ρ with
  | none => rfl
  | some x =>
    cases f2 ρ with
    | none => rfl
    | some y =>
      simp only [Option.bind_some]
      cases gg x y with
      | none => rfl
      | some z =>
        cases z with
        | bool b =>
          cases b with
          | false => rfl
          | true =>
            simp only [Option.bind_some, truD_bool, if_true]
            cases f3 ρ with
            | none => rfl
            | some u =>
              simp only [Option.bind_some]
              cases gg' y u with
              | none => rfl
              | some z =>
                cases z with
                | bool b => cases b <;> rfl
                | _ => rfl
        | _ => rfl
end
/-! ### operators -/
@[simp] theorem gAdd_int (i j : Int) : gAdd (.int i) (.int j) = some (.int (i + j)) := rfl
theorem gAdd_strE (x y : Str) : gAdd (.str x) (.str y) = if x.length + y.length ≤ LIM then some (.str (x ++ y)) else none := by
  unfold gAdd alt gAddI gI gAddS
  simp only
  split <;> rename_i h <;> split at h <;> simp_all [gAddL]
theorem gAdd_listE (x y : List PyData) : gAdd (.list x) (.list y) = if x.length + y.length ≤ LIM then some (.list (x ++ y)) else none := by
  unfold gAdd alt gAddI gI gAddS gAddL
  rfl
@[simp] theorem gAdd_str (x y : Str) (h : x.length + y.length ≤ LIM) : gAdd (.str x) (.str y) = some (.str (x ++ y)) := by rw [gAdd_strE, if_pos h]
@[simp] theorem gAdd_list (x y : List PyData) (h : x.length + y.length ≤ LIM) : gAdd (.list x) (.list y) = some (.list (x ++ y)) := by rw [gAdd_listE, if_pos h]
@[simp] theorem gMinus_int (i j : Int) : gMinus (.int i) (.int j) = some (.int (i - j)) := rfl
@[simp] theorem gMul_int (i j : Int) (h : cMul i j = true) : gMul (.int i) (.int j) = some (.int (i * j)) := by
  unfold gMul alt gMulI gI
  simp only [h, if_true]
@[simp] theorem gMul_list (x : List PyData) (k : Int) (h : k ≤ 1000000 ∧ -1000000 ≤ k ∧ x.length * k.toNat ≤ LIM) : gMul (.list x) (.int k) = some (.list (List.replicate k.toNat x).flatten) := by
  unfold gMul alt gMulI gI gMulL
  simp only [h, if_true]
  simp
@[simp] theorem gMul_str (x : Str) (k : Int) (h : x.length ≤ 1000 ∧ k ≤ 1000 ∧ -1000 ≤ k) : gMul (.str x) (.int k) = some (.str (Txt.mul x k)) := by
  unfold gMul alt gMulI gI gMulL gMulS
  simp only [h, if_true]
  simp
@[simp] theorem gFdiv_int (i j : Int) (h : cPos i j = true) : gFdiv (.int i) (.int j) = some (.int (i / j)) := by
  unfold gFdiv gI
  simp only [h, if_true]
@[simp] theorem gMod_int (i j : Int) (h : cPos i j = true) : gMod (.int i) (.int j) = some (.int (i % j)) := by
  unfold gMod gI
  simp only [h, if_true]
theorem cPos_of {i j : Int} (h1 : 0 < j) (h2 : j < 1073741824) : cPos i j = true := by simp [cPos, h1, h2]
theorem cMul_l {i j : Int} (h : i.natAbs ≤ 1000000000) : cMul i j = true := by simp [cMul, h]
theorem cMul_r {i j : Int} (h : j.natAbs ≤ 1000000000) : cMul i j = true := by simp [cMul, h]
@[simp] theorem cPos_def (i j : Int) : cPos i j = (decide (0 < j) && decide (j < 1073741824)) := rfl
@[simp] theorem gNeg_int (i : Int) : gNeg (.int i) = some (.int (-i)) := rfl
@[simp] theorem gLt_int (i j : Int) : gLt (.int i) (.int j) = some (.bool (decide (i < j))) := rfl
@[simp] theorem gLe_int (i j : Int) : gLe (.int i) (.int j) = some (.bool (decide (i ≤ j))) := rfl
@[simp] theorem gGt_int (i j : Int) : gGt (.int i) (.int j) = some (.bool (decide (j < i))) := rfl
@[simp] theorem gGe_int (i j : Int) : gGe (.int i) (.int j) = some (.bool (decide (j ≤ i))) := rfl
@[simp] theorem gEq_int (i j : Int) : gEq (.int i) (.int j) = some (.bool (i == j)) := rfl
@[simp] theorem gNe_int (i j : Int) : gNe (.int i) (.int j) = some (.bool (!(i == j))) := rfl
@[simp] theorem gEq_str (i j : Str) : gEq (.str i) (.str j) = some (.bool (i == j)) := rfl
@[simp] theorem gNe_str (i j : Str) : gNe (.str i) (.str j) = some (.bool (!(i == j))) := rfl
@[simp] theorem gEq_bool (i j : Bool) : gEq (.bool i) (.bool j) = some (.bool (i == j)) := rfl
@[simp] theorem gNe_bool (i j : Bool) : gNe (.bool i) (.bool j) = some (.bool (!(i == j))) := rfl
@[simp] theorem gEq_ns (i : Str) : gEq .none (.str i) = some (.bool false) := rfl
@[simp] theorem gIx_list (ds : List PyData) (i : Int) : gIx (.list ds) (.int i) = atI ds i := by
  unfold gIx alt gIx0 gIxS
  simp only
  split
  · rename_i h; exact h.symm
  · rename_i h; rw [h]
@[simp] theorem gIx_tuple (ds : List PyData) (i : Int) : gIx (.tuple ds) (.int i) = atI ds i := by
  unfold gIx alt gIx0 gIxS
  simp only
  split
  · rename_i h; exact h.symm
  · rename_i h; rw [h]
@[simp] theorem gIx_str (z : Str) (i : Int) (h : z.length ≤ LIM) : gIx (.str z) (.int i) = (atI z.cps.toList i).map fun c => .str ⟨#[c]⟩ := by
  unfold gIx alt gIx0 gIxS
  simp only [h, if_true]
  split
  · rename_i h; exact h.symm
  · rename_i h; rw [h]
@[simp] theorem gIx_scr (ns : List Int) (i : Int) : gIx (scrD ns) (.int i) = atI (ns.map .int) i := rfl
@[simp] theorem atI_0 {α : Type} (a : α) (l : List α) : atI (a :: l) 0 = some a := by
  unfold atI ixN
  simp
@[simp] theorem atI_1 {α : Type} (a b : α) (l : List α) : atI (a :: b :: l) 1 = some b := by
  have h : (1 : Int) < ((l.length : Int) + 1 + 1) := by omega
  unfold atI ixN
  simp [h]
@[simp] theorem atI_2 {α : Type} (a b c : α) (l : List α) : atI (a :: b :: c :: l) 2 = some c := by
  have h : (2 : Int) < ((l.length : Int) + 1 + 1 + 1) := by omega
  unfold atI ixN
  simp [h]
@[simp] theorem atI_3 {α : Type} (a b c d : α) (l : List α) : atI (a :: b :: c :: d :: l) 3 = some d := by
  have h : (3 : Int) < ((l.length : Int) + 1 + 1 + 1 + 1) := by omega
  unfold atI ixN
  simp [h]
theorem atI_pos {α : Type} (l : List α) (i : Int) (h : 0 ≤ i) : atI l i = l[i.toNat]? := by
  unfold atI ixN
  rw [if_pos h]
  by_cases h2 : i < (l.length : Int)
  · rw [if_pos h2]; rfl
  · rw [if_neg h2, List.getElem?_eq_none (by omega)]; rfl
@[simp] theorem dataD_int (i : Int) : dataD (.int i) = true := rfl
@[simp] theorem dataD_str (i : Str) : dataD (.str i) = true := rfl
@[simp] theorem dataD_bool (i : Bool) : dataD (.bool i) = true := rfl
@[simp] theorem dataD_none : dataD .none = true := rfl
@[simp] theorem dataD_list (l : List PyData) : dataD (.list l) = true := rfl
@[simp] theorem dataD_tuple (l : List PyData) : dataD (.tuple l) = true := rfl
@[simp] theorem scalD_int (i : Int) : scalD (.int i) = true := rfl
@[simp] theorem scalD_str (i : Str) : scalD (.str i) = true := rfl
@[simp] theorem scalD_bool (i : Bool) : scalD (.bool i) = true := rfl
@[simp] theorem scalD_none : scalD .none = true := rfl
@[simp] theorem gMax_int (i j : Int) : gMax [.int i, .int j] = some (.int (if j > i then j else i)) := rfl
@[simp] theorem gMin_int (i j : Int) : gMin [.int i, .int j] = some (.int (if j < i then j else i)) := rfl
@[simp] theorem gLen_list (ds : List PyData) : gLen [.list ds] = some (.int (ds.length : Nat)) := rfl
@[simp] theorem gLen_tuple (ds : List PyData) : gLen [.tuple ds] = some (.int (ds.length : Nat)) := rfl
@[simp] theorem gLen_scr (ns : List Int) : gLen [scrD ns] = some (.int (ns.length : Nat)) := by simp [gLen, scrD]
@[simp] theorem gLen_str (z : Str) (h : z.length ≤ LIM) : gLen [.str z] = some (.int (z.length : Nat)) := by simp [gLen, h]
@[simp] theorem gInt_int (i : Int) : gInt [.int i] = some (.int i) := rfl
@[simp] theorem gInt_bool (b : Bool) : gInt [.bool b] = some (.int (if b then 1 else 0)) := rfl
@[simp] theorem gListOf_list (ds : List PyData) : gListOf [.list ds] = some ds := rfl
@[simp] theorem gListOf_tuple (ds : List PyData) : gListOf [.tuple ds] = some ds := rfl
@[simp] theorem eIsi_eq (T : TyN) (f : SE) (ρ : Rho) : eIsi T f ρ = (f ρ).bind fun d => if dataD d = true then some (.bool (isiD T d)) else none := rfl
@[simp] theorem isi_bb (b : Bool) : isiD .bool (.bool b) = true := rfl
@[simp] theorem isi_bi (b : Int) : isiD .bool (.int b) = false := rfl
@[simp] theorem isi_bn : isiD .bool .none = false := rfl
@[simp] theorem isi_bs (b : Str) : isiD .bool (.str b) = false := rfl
@[simp] theorem isi_bt (b : List PyData) : isiD .bool (.tuple b) = false := rfl
@[simp] theorem isi_ib (b : Bool) : isiD .int (.bool b) = true := rfl
@[simp] theorem isi_ii (b : Int) : isiD .int (.int b) = true := rfl
@[simp] theorem isi_in : isiD .int .none = false := rfl
@[simp] theorem isi_is (b : Str) : isiD .int (.str b) = false := rfl
@[simp] theorem isi_it (b : List PyData) : isiD .int (.tuple b) = false := rfl
@[simp] theorem isi_ss (b : Str) : isiD .str (.str b) = true := rfl
@[simp] theorem isi_ll (b : List PyData) : isiD .list (.list b) = true := rfl
@[simp] theorem isi_tt (b : List PyData) : isiD .tuple (.tuple b) = true := rfl
/-! ### is -/
@[simp] theorem gIs_i (i : Int) (b : Bool) : gIs (.int i) (.bool b) = some (.bool false) := rfl
@[simp] theorem gIsNot_i (i : Int) (b : Bool) : gIsNot (.int i) (.bool b) = some (.bool true) := rfl
@[simp] theorem gIs_b (a b : Bool) : gIs (.bool a) (.bool b) = some (.bool (a == b)) := rfl
@[simp] theorem gIsNot_b (a b : Bool) : gIsNot (.bool a) (.bool b) = some (.bool (!(a == b))) := rfl
@[simp] theorem gIs_nn : gIs .none .none = some (.bool true) := rfl
@[simp] theorem gIs_bn (a : Bool) : gIs (.bool a) .none = some (.bool false) := rfl
@[simp] theorem gIs_in (a : Int) : gIs (.int a) .none = some (.bool false) := rfl
@[simp] theorem gIs_sn (a : Str) : gIs (.str a) .none = some (.bool false) := rfl
@[simp] theorem gIs_tn (a : List PyData) : gIs (.tuple a) .none = some (.bool false) := rfl
@[simp] theorem gIs_ln (a : List PyData) : gIs (.list a) .none = some (.bool false) := rfl
/-! ### the script's cells -/
def cell (ns : List Int) (k : Nat) : Int := (ns[k]?).getD 0
theorem cutA_one {α : Type} (l : List α) (k : Nat) : cutA l (some (k : Int)) (some ((k : Int) + 1)) = (l[k]?).toList := by
  unfold cutA
  have e1 : ((k : Int) + 1) = ((k + 1 : Nat) : Int) := by omega
  rw [HT.sIx_nat, e1, HT.sIx_nat]
  by_cases h : k < l.length
  · have h1 : min k l.length = k := by omega
    have h2 : min (k + 1) l.length - k = 1 := by omega
    rw [h1, h2, drop_cons_of (List.getElem?_eq_getElem h), List.getElem?_eq_getElem h]
    rfl
  · have h1 : min k l.length = l.length := by omega
    rw [h1, List.drop_length, List.getElem?_eq_none (by omega)]
    simp
theorem cell_ev (ns : List Int) (k : Nat) : (gAdd (.list (cutA (ns.map .int) (some (k : Int)) (some ((k : Int) + 1)))) (.list [.int 0])).bind (fun x => gIx x (.int 0)) = some (.int (cell ns k)) := by
  rw [cutA_one, List.getElem?_map]
  cases h : ns[k]? with
  | none => rw [gAdd_list _ _ (by simp [LIM])]; simp [cell, h]
  | some v => rw [gAdd_list _ _ (by simp [LIM])]; simp [cell, h]
/-! ### an item of a menu, at a remainder -/
theorem atI_mod {α : Type} (l : List α) (i : Int) (n : Int) (hn : n = (l.length : Int)) (h0 : 0 < n) : ∃ x, x ∈ l ∧ atI l (i % n) = some x := by
  have h1 := Int.emod_nonneg i (show n ≠ 0 by omega)
  have h2 := Int.emod_lt_of_pos i h0
  rw [atI_pos _ _ h1]
  have h3 : (i % n).toNat < l.length := by omega
  exact ⟨l[(i % n).toNat], List.getElem_mem h3, List.getElem?_eq_getElem h3⟩
/-! ### loops and comprehensions, the usual ones -/
theorem set_get {α : Type} {l : List α} {j : Nat} {x : α} (h : l[j]? = some x) : l.set j x = l := by
  obtain ⟨h1, h2⟩ := List.getElem?_eq_some_iff.mp h
  subst h2
  exact List.set_getElem_self h1
/-- a loop that looks for one and hands back at once -/
theorem forF_find {j : Nat} {body : SS} {ρ : Rho} {r : PyData} (p : PyData → Bool) : ∀ {ds : List PyData} {s : Sl}, j < ρ.length → (∀ d, d ∈ ds → body (ρ.set j (.val d)) = if p d = true then .rt r else .nx (ρ.set j (.val d))) →
    ∃ s', forF (tg1 j) body ds (ρ.set j s) = if ds.any p = true then .rt r else .nx (ρ.set j s')
  | [], s, hj, h => ⟨s, by simp [forF]⟩
  | d :: ds, s, hj, h => by
    obtain ⟨s', e⟩ := forF_find p (ds := ds) (s := .val d) hj fun d' hd => h d' (List.mem_cons_of_mem _ hd)
    refine ⟨s', ?_⟩
    rw [forF_cons1, List.set_set, h d List.mem_cons_self]
    cases hp : p d with
    | true => simp [hp]
    | false => simp [hp, e]
theorem forF_find0 {j : Nat} {body : SS} {ρ : Rho} {r : PyData} (p : PyData → Bool) {ds : List PyData} (hj : j < ρ.length) (h : ∀ d, d ∈ ds → body (ρ.set j (.val d)) = if p d = true then .rt r else .nx (ρ.set j (.val d))) :
    ∃ s', forF (tg1 j) body ds ρ = if ds.any p = true then .rt r else .nx (ρ.set j s') := by
  have e : ρ.set j ρ[j] = ρ := List.set_getElem_self hj
  obtain ⟨s', q⟩ := forF_find p (ds := ds) (s := ρ[j]) hj h
  rw [e] at q
  exact ⟨s', q⟩
/-- a comprehension without a test | with one -/
theorem lcF_map {j : Nat} {el : SE} {ρ : Rho} (g : PyData → PyData) : ∀ {ds : List PyData}, (∀ d, d ∈ ds → el (ρ.set j (.val d)) = some (g d) ∧ dataD (g d) = true) → lcF j tYesF el ρ ds = some (ds.map g)
  | [], _ => rfl
  | d :: ds, h => by
    have ih := lcF_map g (ds := ds) fun d' hd => h d' (List.mem_cons_of_mem _ hd)
    obtain ⟨h1, h2⟩ := h d List.mem_cons_self
    simp [lcF, h1, h2, ih]
theorem lcF_filter {j : Nat} {tst : STe} {el : SE} {ρ : Rho} (p : PyData → Bool) (g : PyData → PyData) : ∀ {ds : List PyData}, (∀ d, d ∈ ds → tst (ρ.set j (.val d)) = some (p d)) → (∀ d, d ∈ ds → p d = true → el (ρ.set j (.val d)) = some (g d) ∧ dataD (g d) = true) → lcF j tst el ρ ds = some ((ds.filter p).map g)
  | [], _, _ => rfl
  | d :: ds, h, h' => by
    have ih := lcF_filter p g (ds := ds) (fun d' hd => h d' (List.mem_cons_of_mem _ hd)) fun d' hd => h' d' (List.mem_cons_of_mem _ hd)
    have h1 := h d List.mem_cons_self
    cases hp : p d with
    | true =>
      obtain ⟨h2, h3⟩ := h' d List.mem_cons_self hp
      simp [lcF, h1, hp, h2, h3, ih]
    | false => simp [lcF, h1, hp, ih]
@[simp] theorem rangeD_len (lo : Int) (n : Nat) : (rangeD lo n).length = n := by simp [rangeD]
theorem mem_rangeD {lo : Int} {n : Nat} {d : PyData} (h : d ∈ rangeD lo n) : ∃ i : Nat, i < n ∧ d = .int (lo + i) := by
  unfold rangeD at h
  obtain ⟨i, h1, h2⟩ := List.mem_map.mp h
  exact ⟨i, by simpa using h1, h2.symm⟩
@[simp] theorem signsD_len (z : Str) : (signsD z).length = z.length := by simp [signsD, Str.length]
theorem mem_signsD {z : Str} {d : PyData} (h : d ∈ signsD z) : ∃ c, c ∈ z.cps.toList ∧ d = .str ⟨#[c]⟩ := by
  unfold signsD at h
  obtain ⟨c, h1, h2⟩ := List.mem_map.mp h
  exact ⟨c, h1, h2.symm⟩
@[simp] theorem lLc_eq (src : SA) (j : Nat) (t : STe) (f : SE) (ρ : Rho) : lLc src j t f ρ = (src ρ).bind fun ds => if ds.length ≤ LIM then lcF j t f ρ ds else none := rfl
@[simp] theorem iR1_eq (f : SA) (ρ : Rho) : iR1 f ρ = (f ρ).bind fun ds => match ds with
  | [.int j] => if j ≤ 1000000 ∧ -1000000 ≤ j then some (rangeD 0 j.toNat) else none
  | _ => none := rfl
@[simp] theorem iR2_eq (f : SA) (ρ : Rho) : iR2 f ρ = (f ρ).bind fun ds => match ds with
  | [.int i, .int j] => if (j ≤ 1000000 ∧ -1000000 ≤ j) ∧ i ≤ 1000000 ∧ -1000000 ≤ i then some (rangeD i (j - i).toNat) else none
  | _ => none := rfl
def lstD : PyData → Option (List PyData)
  | .list ds => if ds.length ≤ LIM then some ds else none
  | _ => none
@[simp] theorem lstD_list (ds : List PyData) (h : ds.length ≤ LIM) : lstD (.list ds) = some ds := by simp [lstD, h]
@[simp] theorem iL_eq (f : SE) (ρ : Rho) : iL f ρ = (f ρ).bind lstD := by unfold iL lstD; cases f ρ <;> rfl
def tupD : PyData → Option (List PyData)
  | .tuple ds => if ds.length ≤ LIM then some ds else none
  | _ => none
@[simp] theorem tupD_tup (ds : List PyData) (h : ds.length ≤ LIM) : tupD (.tuple ds) = some ds := by simp [tupD, h]
@[simp] theorem iT_eq (f : SE) (ρ : Rho) : iT f ρ = (f ρ).bind tupD := by unfold iT tupD; cases f ρ <;> rfl
def sgD : PyData → Option (List PyData)
  | .str z => if z.length ≤ LIM then some (signsD z) else none
  | _ => none
@[simp] theorem sgD_str (z : Str) (h : z.length ≤ LIM) : sgD (.str z) = some (signsD z) := by simp [sgD, h]
@[simp] theorem iS_eq (f : SE) (ρ : Rho) : iS f ρ = (f ρ).bind sgD := by unfold iS sgD; cases f ρ <;> rfl
/-- an own list's changes -/
def ownL : Option Sl → Option (List PyData)
  | some (.own ds) => some ds
  | _ => none
@[simp] theorem ownL_own (ds : List PyData) : ownL (some (.own ds)) = some ds := rfl
@[simp] theorem sApp_eq (i : Nat) (f : SE) (ρ : Rho) : sApp i f ρ = outL (ownL ρ[i]?) fun ds => outV (f ρ) fun d => if dataD d = true ∧ ds.length ≤ LIM then .nx (ρ.set i (.own (ds ++ [d]))) else .no := by
  unfold sApp
  cases h : ρ[i]? with
  | none => rfl
  | some s =>
    cases s with
    | own ds => cases f ρ <;> rfl
    | _ => rfl
def outI (o : Option PyData) (k : Int → Out) : Out := match o with
  | some (.int i) => k i
  | _ => .no
@[simp] theorem outI_int (i : Int) (k : Int → Out) : outI (some (.int i)) k = k i := rfl
def outN (o : Option Nat) (k : Nat → Out) : Out := match o with
  | some i => k i
  | none => .no
@[simp] theorem outN_some (i : Nat) (k : Nat → Out) : outN (some i) k = k i := rfl
@[simp] theorem sPut_eq (i : Nat) (ix f : SE) (ρ : Rho) : sPut i ix f ρ = outL (ownL ρ[i]?) fun ds => outV (f ρ) fun d => outI (ix ρ) fun k => outN (ixN ds.length k) fun j => if dataD d = true then .nx (ρ.set i (.own (ds.set j d))) else .no := by
  unfold sPut
  cases h : ρ[i]? with
  | none => rfl
  | some s =>
    cases s with
    | own ds =>
      cases f ρ with
      | none => rfl
      | some d =>
        cases ix ρ with
        | none => rfl
        | some k =>
          cases k with
          | int k =>
            show (match ixN ds.length k with
              | some j => _
              | none => Out.no) = outN (ixN ds.length k) _
            cases ixN ds.length k <;> rfl
          | _ => rfl
    | _ => rfl
theorem ixN_of {n : Nat} {i : Int} (h0 : 0 ≤ i) (h1 : i < n) : ixN n i = some i.toNat := by
  unfold ixN
  rw [if_pos h0, if_pos h1]
/-! ### joined texts -/
theorem gJoin_strs (z : Str) (ys : List Str) (h : (ys.map (·.length)).sum + ys.length * z.length ≤ LIM) : gJoin (.str z) (.list (ys.map .str)) = some (.str (Txt.join z ys)) := by
  unfold gJoin
  simp only [strsD_map, Option.bind_some, h, if_true]
end RT
/-! More words: what is never reached, texts split. -/
namespace RT
open PySem PySem.Spec PyProof.Rows L2
def sNo : SS := fun _ => .no
@[simp] theorem sNo_eq (ρ : Rho) : sNo ρ = .no := rfl
def gSplit : PyData → PyData → Option (List PyData)
  | .str a, .str b => if 0 < b.length ∧ a.length + 2 ≤ LIM then some ((Txt.split a b).map .str) else none
  | _, _ => none
@[simp] theorem gSplit_str (a b : Str) (h : 0 < b.length) (h2 : a.length + 2 ≤ LIM) : gSplit (.str a) (.str b) = some ((Txt.split a b).map .str) := by
  simp [gSplit, h, h2]
def lOp (g : PyData → PyData → Option (List PyData)) (f1 f2 : SE) : SA := fun ρ => (f1 ρ).bind fun x => (f2 ρ).bind fun y => g x y
@[simp] theorem lOp_eq (g : PyData → PyData → Option (List PyData)) (f1 f2 : SE) (ρ : Rho) : lOp g f1 f2 ρ = (f1 ρ).bind fun x => (f2 ρ).bind fun y => g x y := rfl
section
variable {X : Cx} {K : PySem.W.Frag} {B : Hp} {e a b : Expr} {t t1 t2 : TE} {f f1 f2 : SE} {ta : TA} {sa : SA} {pos p : Pos} {st : Stmt}
theorem s_never : SemS X K B st tNever sNo := ⟨ps_never, fun _ _ _ _ _ _ _ _ h => h.elim⟩
abbrev rSplit : V → List V → Hp → VK → Prop := fun x xs H Q => ∃ a b, x = .str a ∧ xs = [.str b] ∧ (b.length == 0) = false ∧ a.length + 2 ≤ sizeLine ∧ rNewStrs (Txt.split a b) H Q
theorem dq_strs {F : Hp} : ∀ ns : List Str, DqAll K F (ns.map V.str) (ns.map PyData.str)
  | [] => .nil
  | n :: ns => .cons (.str n) (dq_strs ns)
theorem split_ok (h1 : BOk K B t1 f1) (h2 : BOk K B t2 f2) : LOk K B (tM1 rSplit t1 t2) (lOp gSplit f1 f2) := fun F H σ ρ ds E q Q k => by
  cases e1 : f1 ρ with
  | none => simp [e1] at q
  | some x =>
    cases e2 : f2 ρ with
    | none => simp [e1, e2] at q
    | some y =>
      have q' : gSplit x y = some ds := by simpa [e1, e2] using q
      unfold gSplit at q'
      split at q'
      · rename_i z y
        split at q'
        · rename_i hz
          cases q'
          refine h1 F H σ ρ _ E e1 _ fun v H1 G1 g1 b1 => ⟨⟨z, b1.str⟩, ?_⟩
          refine h2 G1 H1 σ ρ _ (E.grow g1) e2 _ fun w H2 G2 g2 b2 => ?_
          refine ⟨z, y, b1.str, by rw [b2.str], by simpa using (show y.length ≠ 0 by omega), lim_line hz.2, fun p hp => ?_⟩
          exact k p _ _ G2 ((g1.trans g2).beside hp) ((g1.trans g2).h.free hp) ((g1.trans g2).sub.free hp) upd_same (dq_strs _)
        · cases q'
      · cases q'
theorem sl_split {apos : Pos} (h1 : SemB X K B a t1 f1) (h2 : SemB X K B b t2 f2) (hs : starEach [b] X.env = [(false, eval b X.env)] := by rfl) (hbase : attributeBase a "split" X.env (eval a X.env) = eval a X.env := by rfl) (hline : (apos.endLine == pos.line) = true := by rfl) :
    SemL X K B (.Call (.Attribute a "split" apos) [b] [] pos) (tM1 rSplit t1 t2) (lOp gSplit f1 f2) := ⟨pe_split h1.pe h2.pe hs hbase hline, split_ok h1.ok h2.ok⟩
end
end RT
/-! ### loops that carry a state; data that can be compared -/
namespace RT
open PySem PySem.Spec PyProof.Rows L2
theorem forF_list {j : Nat} {body : SS} (R : Nat → Rho) : ∀ {ds : List PyData} (n : Nat), (∀ k d, ds[k]? = some d → body ((R (n + k)).set j (.val d)) = .nx (R (n + k + 1))) → forF (tg1 j) body ds (R n) = .nx (R (n + ds.length))
  | [], n, _ => rfl
  | d :: ds, n, h => by
    have h0 := h 0 d rfl
    rw [Nat.add_zero] at h0
    rw [forF_cons1, h0, thn_nx]
    have := forF_list R (ds := ds) (n + 1) fun k d' hd => by
      have := h (k + 1) d' (by simpa using hd)
      rw [show n + 1 + k = n + (k + 1) by omega]
      exact this
    rw [this, List.length_cons]
    congr 2
    omega
theorem forF_range {j : Nat} {body : SS} (R : Nat → Rho) (n : Nat) (h : ∀ k : Nat, k < n → body ((R k).set j (.val (.int (k : Int)))) = .nx (R (k + 1))) : forF (tg1 j) body (rangeD 0 n) (R 0) = .nx (R n) := by
  have := forF_list (j := j) (body := body) R (ds := rangeD 0 n) 0 fun k d hd => by
    have hk : k < n := by
      have := (List.getElem?_eq_some_iff.mp hd).1
      simpa using this
    have hd' : d = .int (k : Int) := by
      simp [rangeD, hk] at hd
      exact hd.symm
    rw [hd', Nat.zero_add]
    exact h k hk
  rw [this, rangeD_len, Nat.zero_add]
mutual
/-- data that == may look at -/
def okD : PyData → Bool
  | .str x => PyData.canLay0 (.str x)
  | .list l => okDs l
  | .tuple l => okDs l
  | .dict _ => false
  | _ => true
def okDs : List PyData → Bool
  | [] => true
  | x :: l => okD x && okDs l
end
mutual
theorem okD_lay : ∀ d, okD d = true → d.canLay0 = true
  | .none, _ => by simp [PyData.canLay0]
  | .bool _, _ => by simp [PyData.canLay0]
  | .int _, _ => by simp [PyData.canLay0]
  | .str x, h => by simpa [okD] using h
  | .list l, h => by
    have := okDs_lay l (by simpa [okD] using h)
    simpa [PyData.canLay0] using this
  | .tuple l, h => by
    have := okDs_lay l (by simpa [okD] using h)
    simpa [PyData.canLay0] using this
  | .dict _, h => by simp [okD] at h
theorem okDs_lay : ∀ l, okDs l = true → PyData.canLayAll0 l = true
  | [], _ => by simp [PyData.canLayAll0]
  | x :: l, h => by
    have h' : okD x = true ∧ okDs l = true := by simpa [okDs] using h
    simp [PyData.canLayAll0, okD_lay x h'.1, okDs_lay l h'.2]
end
theorem okDs_all {l : List PyData} : okDs l = l.all okD := by
  induction l with
  | nil => rfl
  | cons x l ih => simp [okDs, ih]
theorem okD_data {d : PyData} (h : okD d = true) : dataD d = true := by
  cases d <;> first | rfl | simp [okD] at h
theorem gEq_same {l : List PyData} (h : okDs l = true) (hd : (PyData.list l).depth ≤ 64) : gEq (.list l) (.list l) = some (.bool true) := by
  have h1 := okD_lay (.list l) (by simpa [okD] using h)
  have h2 : SeqAt.shaped (.list l) = true := by simp [SeqAt.shaped, h1, hd]
  show gEqD (.list l) (.list l) = _
  unfold gEqD
  rw [if_pos ⟨rfl, rfl, h2, h2⟩, SeqAt.eqv_refl _ h1]
theorem gNe_same {l : List PyData} (h : okDs l = true) (hd : (PyData.list l).depth ≤ 64) : gNe (.list l) (.list l) = some (.bool false) := by
  have h1 := okD_lay (.list l) (by simpa [okD] using h)
  have h2 : SeqAt.shaped (.list l) = true := by simp [SeqAt.shaped, h1, hd]
  show gNeD (.list l) (.list l) = _
  unfold gNeD
  rw [if_pos ⟨rfl, rfl, h2, h2⟩, SeqAt.eqv_refl _ h1]
  rfl
theorem depthAll_le {n : Nat} : ∀ {l : List PyData}, (∀ d ∈ l, d.depth ≤ n) → PyData.depthAll l ≤ n
  | [], _ => by simp [PyData.depthAll]
  | d :: l, h => by
    have h1 := h d List.mem_cons_self
    have h2 := depthAll_le fun e he => h e (List.mem_cons_of_mem _ he)
    simp only [PyData.depthAll]
    omega
end RT
namespace RK
open PySem PySem.Spec PyProof.Rows L2 RT
def topS (i : Nat) : Stmt := PySem.Challenge.pw_rota_k06_lines_written.main.body.getD i (.Pass ⟨0, 0, 0, 0⟩)
abbrev s_is_name : Stmt := topS 6
abbrev s_shown : Stmt := topS 8
abbrev s_row_of : Stmt := topS 9
abbrev s_read : Stmt := topS 10
abbrev s_cell : Stmt := topS 12
abbrev s_sign : Stmt := topS 13
abbrev s_name_by : Stmt := topS 14
abbrev s_law : Stmt := topS 15
/-- what the top has written -/
structure Txt (K : PySem.W.Frag) (mg : Str → Option Value) : Prop where
  f_is_name : ∃ fd, FunD K "is_name" "is_name" (defArgs s_is_name) (defBody s_is_name) (defScope s_is_name) [] [] (He.ga K "is_name") fd
  g_is_name : mg "is_name" = some (.ref (He.ga K "is_name"))
  f_shown : ∃ fd, FunD K "shown" "shown" (defArgs s_shown) (defBody s_shown) (defScope s_shown) [] [] (He.ga K "shown") fd
  g_shown : mg "shown" = some (.ref (He.ga K "shown"))
  f_row_of : ∃ fd, FunD K "row_of" "row_of" (defArgs s_row_of) (defBody s_row_of) (defScope s_row_of) [] [] (He.ga K "row_of") fd
  g_row_of : mg "row_of" = some (.ref (He.ga K "row_of"))
  f_read : ∃ fd, FunD K "read" "read" (defArgs s_read) (defBody s_read) (defScope s_read) [] [] (He.ga K "read") fd
  g_read : mg "read" = some (.ref (He.ga K "read"))
  f_cell : ∃ fd, FunD K "_law_cell" "_law_cell" (defArgs s_cell) (defBody s_cell) (defScope s_cell) [] [] (He.ga K "_law_cell") fd
  g_cell : mg "_law_cell" = some (.ref (He.ga K "_law_cell"))
  f_sign : ∃ fd, FunD K "_law_sign" "_law_sign" (defArgs s_sign) (defBody s_sign) (defScope s_sign) [] [] (He.ga K "_law_sign") fd
  g_sign : mg "_law_sign" = some (.ref (He.ga K "_law_sign"))
  f_name_by : ∃ fd, FunD K "_law_name_by" "_law_name_by" (defArgs s_name_by) (defBody s_name_by) (defScope s_name_by) [] [] (He.ga K "_law_name_by") fd
  g_name_by : mg "_law_name_by" = some (.ref (He.ga K "_law_name_by"))
  f_law : ∃ fd, FunD K "law" "law" (defArgs s_law) (defBody s_law) (defScope s_law) [] [] (He.ga K "law") fd
  g_law : mg "law" = some (.ref (He.ga K "law"))
  z_isinstance : mg "isinstance" = none
  z_len : mg "len" = none
  z_list : mg "list" = none
  z_range : mg "range" = none
  z_str : mg "str" = none
  z_tuple : mg "tuple" = none
  c_MOST : ∃ tk, mg "MOST" = some (.int 20 tk)
  c_SIGNS : ∃ tk, mg "SIGNS" = some (.str "!\"#$&'()*+,-./0123456789:;<=>?@ABCDEFGHIJKLMNOPQRSTUVWXYZ[\\]^_`abcdefghijklmnopqrstuvwxyz{|}~" tk)
section
variable {P : Program} {w : World} {K : PySem.W.Frag} {mg : Str → Option Value} {base : Heap}
abbrev N_is_name : List Str := ["text", "sign"]
theorem sc_is_name : FnScope N_is_name ["text"] (defScope s_is_name) := ⟨rfl, rfl, rfl, by decide +kernel, rfl, by decide +kernel, by decide +kernel⟩
def b_is_name : SS := (sSeq (sIf (tNotF (bF (eChainF gLe gLe (eC (.int 1)) (eCall gLen (eCons (eVarB 0) eNil)) (eC (.int 20))))) (sRet (eC (.bool false))) sNext)
  (sSeq (sFor (iS (eVar 0)) (tg1 1) (sIf (bF (eOp gNotIn (eVarB 1) (eC (.str "!\"#$&'()*+,-./0123456789:;<=>?@ABCDEFGHIJKLMNOPQRSTUVWXYZ[\\]^_`abcdefghijklmnopqrstuvwxyz{|}~")))) (sRet (eC (.bool false))) sNext))
  (sRet (eC (.bool true)))))
def F_is_name : List PyData → Option PyData := runF N_is_name 1 b_is_name
theorem ok_is_name (T : Txt K mg) : PF P w K mg base 1 "is_name" F_is_name := by
  obtain ⟨fd, F⟩ := T.f_is_name
  refine pf_mk (k := 0) F sc_is_name T.g_is_name (fun _ _ _ _ _ _ us hl => match us, hl with | [_], _ => rfl) fun cdv A outer s H E hr => ?_
  have hu := hr.units
  have hv := hv_of hr
  exact ⟨_, ((ss_cons (s_if (st_not (st_chain le_s op_le le_s op_le (x_eb se_int) (x_eb (se_cb len_s call_len T.z_len (x_abc (sb_var 0) sab_nil))) (x_eb (se_globI T.c_MOST)))) (ss_one (s_ret se_bool)) ss_nil)
    (ss_cons (s_for PassesOwn.never rfl (si_str (se_var 0)) (pg_name (i := 1) sc_is_name.nd rfl (by first | exact Or.inl rfl | exact Or.inr rfl)) (tg1_ok 1) (ss_one (s_if (st_cmp notIn2_s (op_notIn2 hv) (sb_var 1) (x_eb (se_globS T.c_SIGNS)) (by rfl)) (ss_one (s_ret se_bool)) ss_nil)))
    (ss_one (s_ret se_bool)))))⟩

abbrev N_shown : List Str := ["rows", "row"]
theorem sc_shown : FnScope N_shown ["rows"] (defScope s_shown) := ⟨rfl, rfl, rfl, by decide +kernel, rfl, by decide +kernel, by decide +kernel⟩
def b_shown : SS := (sRet (eOp gJoin (eC (.str "")) (eList (lLc (iL (eVarB 0)) 1 tYesF (eOp gAdd (eOp gAdd (eOp gAdd (eOp gAdd (eOp gAdd (eOp gIx (eVarB 1) (eC (.int 0))) (eC (.str " "))) (eOp gIx (eVarB 1) (eC (.int 1)))) (eC (.str " "))) (eOp gIx (eVarB 1) (eC (.int 2)))) (eC (.str "\n")))))))
def F_shown : List PyData → Option PyData := runF N_shown 1 b_shown
theorem ok_shown (T : Txt K mg) : PF P w K mg base 1 "shown" F_shown := by
  obtain ⟨fd, F⟩ := T.f_shown
  refine pf_mk (k := 0) F sc_shown T.g_shown (fun _ _ _ _ _ _ us hl => match us, hl with | [_], _ => rfl) fun cdv A outer s H E hr => ?_
  have hu := hr.units
  have hv := hv_of hr
  exact ⟨_, ((ss_one (s_ret (se_join (x_eb se_str) (x_eb (x_le (sl_lc (j := 1) rfl sc_shown.nd rfl (si_listB (sb_var 0)) (blkOk_by (N := N_shown) (sc := defScope s_shown) (own := [("row", 1)]) (by decide +kernel)) (fun _ _ _ _ _ => sts_nil) (fun _ _ _ _ _ => (se_add (x_eb (se_add (x_eb (se_add (x_eb (se_add (x_eb (se_add (x_eb (se_ix (sb_var 1) (x_eb se_int))) (x_eb se_str))) (x_eb (se_ix (sb_var 1) (x_eb se_int))))) (x_eb se_str))) (x_eb (se_ix (sb_var 1) (x_eb se_int))))) (x_eb se_str))) (fun _ _ _ _ _ => pg_name sc_shown.nd rfl (Or.inl rfl)))))))))⟩

abbrev N_row_of : List Str := ["line", "words", "word"]
theorem sc_row_of : FnScope N_row_of ["line"] (defScope s_row_of) := ⟨rfl, rfl, rfl, by decide +kernel, rfl, by decide +kernel, by decide +kernel⟩
def b_row_of : SS := (sSeq (sSet 1 (eList (lOp gSplit (eVarB 0) (eC (.str " ")))))
  (sSeq (sIf (bF (eOp gNe (eCall gLen (eCons (eVarB 1) eNil)) (eC (.int 3)))) sNo sNext)
  (sSeq (sFor (iL (eVar 1)) (tg1 2) (sIf (tNotF (bF (eCall F_is_name (eCons (eVar 2) eNil)))) sNo sNext))
  (sRet (eTupD (eCons (eOp gIx (eVarB 1) (eC (.int 0))) (eCons (eOp gIx (eVarB 1) (eC (.int 1))) (eCons (eOp gIx (eVarB 1) (eC (.int 2))) eNil))))))))
def F_row_of : List PyData → Option PyData := runF N_row_of 1 b_row_of
theorem ok_row_of (T : Txt K mg) : PF P w K mg base 2 "row_of" F_row_of := by
  obtain ⟨fd, F⟩ := T.f_row_of
  refine pf_mk (k := 1) F sc_row_of T.g_row_of (fun _ _ _ _ _ _ us hl => match us, hl with | [_], _ => rfl) fun cdv A outer s H E hr => ?_
  have hu := hr.units
  have hv := hv_of hr
  exact ⟨_, ((ss_cons (s_set 1 sc_row_of.nd (x_le (sl_split (sb_var 0) (x_eb se_str))))
    (ss_cons (s_if (st_cmp ne2_s (op_ne2 hu) (x_eb (se_cb len_s call_len T.z_len (x_abc (sb_var 1) sab_nil))) (x_eb se_int) (nomark _)) (ss_one s_never) ss_nil)
    (ss_cons (s_for PassesOwn.never rfl (si_list (se_var 1)) (pg_name (i := 2) sc_row_of.nd rfl (by first | exact Or.inl rfl | exact Or.inr rfl)) (tg1_ok 2) (ss_one (s_if (st_not (st_val (se_call (ok_is_name T) hr (x_ac (se_var 2) sa_nil)))) (ss_one s_never) ss_nil)))
    (ss_one (s_ret (se_tup (x_ac (se_ix (sb_var 1) (x_eb se_int)) (x_ac (se_ix (sb_var 1) (x_eb se_int)) (x_ac (se_ix (sb_var 1) (x_eb se_int)) sa_nil))))))))))⟩

abbrev N_read : List Str := ["text", "line"]
theorem sc_read : FnScope N_read ["text"] (defScope s_read) := ⟨rfl, rfl, rfl, by decide +kernel, rfl, by decide +kernel, by decide +kernel⟩
def b_read : SS := (sSeq (sIf (bF (eOp gEq (eVarB 0) (eC (.str "")))) (sRet (eList (eLstD eNil))) sNext)
  (sSeq (sIf (bF (eOp gNe (eOp gIx (eVarB 0) (eUn gNeg (eC (.int 1)))) (eC (.str "\n")))) sNo sNext)
  (sRet (eList (lLc (iL (eList (lOp gSplit (eSlS (eVarB 0) oNone (oSome (eUn gNeg (eC (.int 1))))) (eC (.str "\n"))))) 1 tYesF (eCall F_row_of (eCons (eVar 1) eNil)))))))
def F_read : List PyData → Option PyData := runF N_read 1 b_read
theorem ok_read (T : Txt K mg) : PF P w K mg base 3 "read" F_read := by
  obtain ⟨fd, F⟩ := T.f_read
  refine pf_mk (k := 2) F sc_read T.g_read (fun _ _ _ _ _ _ us hl => match us, hl with | [_], _ => rfl) fun cdv A outer s H E hr => ?_
  have hu := hr.units
  have hv := hv_of hr
  exact ⟨_, ((ss_cons (s_if (st_cmp eq2_s (op_eq2 hu) (sb_var 0) (x_eb se_str) (nomark _)) (ss_one (s_ret (x_le (sl_lst sa_nil)))) ss_nil)
    (ss_cons (s_if (st_cmp ne2_s (op_ne2 hu) (x_eb (se_ix (sb_var 0) (x_eb (se_neg (x_eb se_int))))) (x_eb se_str) (nomark _)) (ss_one s_never) ss_nil)
    (ss_one (s_ret (x_le (sl_lc (j := 1) rfl sc_read.nd rfl (si_listB (x_eb (x_le (sl_split (x_eb (se_slS (sb_var 0) so_none (so_some (x_eb (se_neg (x_eb se_int)))))) (x_eb se_str))))) (blkOk_by (N := N_read) (sc := defScope s_read) (own := [("line", 1)]) (by decide +kernel)) (fun _ _ _ _ _ => sts_nil) (fun _ _ _ _ _ => (se_call (ok_row_of T) hr (x_ac (se_var 1) sa_nil))) (fun _ _ _ _ _ => pg_name sc_read.nd rfl (Or.inl rfl)))))))))⟩

abbrev N_cell : List Str := ["_law_script", "_law_k"]
theorem sc_cell : FnScope N_cell ["_law_script", "_law_k"] (defScope s_cell) := ⟨rfl, rfl, rfl, by decide +kernel, rfl, by decide +kernel, by decide +kernel⟩
def b_cell : SS := (sRet (eOp gIx (eOp gAdd (eList (lSl (eVarB 0) (oSome (eVarB 1)) (oSome (eOp gAdd (eVarB 1) (eC (.int 1)))))) (eList (eLstD (eCons (eC (.int 0)) eNil)))) (eC (.int 0))))
def F_cell : List PyData → Option PyData := runF N_cell 2 b_cell
theorem ok_cell (T : Txt K mg) : PF P w K mg base 1 "_law_cell" F_cell := by
  obtain ⟨fd, F⟩ := T.f_cell
  refine pf_mk (k := 0) F sc_cell T.g_cell (fun _ _ _ _ _ _ us hl => match us, hl with | [_, _], _ => rfl) fun cdv A outer s H E hr => ?_
  have hu := hr.units
  have hv := hv_of hr
  exact ⟨_, ((ss_one (s_ret (se_ix (x_eb (se_add (x_eb (x_le (sl_sl (sb_var 0) (so_some (sb_var 1)) (so_some (x_eb (se_add (sb_var 1) (x_eb se_int))))))) (x_eb (x_le (sl_lst (x_ac se_int sa_nil)))))) (x_eb se_int)))))⟩

abbrev N_sign : List Str := ["_law_cell_here", "_law_small", "_law_great"]
theorem sc_sign : FnScope N_sign ["_law_cell_here"] (defScope s_sign) := ⟨rfl, rfl, rfl, by decide +kernel, rfl, by decide +kernel, by decide +kernel⟩
def b_sign : SS := (sSeq (sSet 1 (eC (.str "abcdefghijklmnopqrstuvwxyz{|}~")))
  (sSeq (sSet 2 (eC (.str "@ABCDEFGHIJKLMNOPQRSTUVWXYZ[\\]^_`")))
  (sRet (eOp gIx (eOp gAdd (eOp gAdd (eC (.str "!\"#$&'()*+,-./0123456789:;<=>?")) (eVarB 2)) (eVarB 1)) (eOp gMod (eVarB 0) (eC (.int 93)))))))
def F_sign : List PyData → Option PyData := runF N_sign 1 b_sign
theorem ok_sign (T : Txt K mg) : PF P w K mg base 1 "_law_sign" F_sign := by
  obtain ⟨fd, F⟩ := T.f_sign
  refine pf_mk (k := 0) F sc_sign T.g_sign (fun _ _ _ _ _ _ us hl => match us, hl with | [_], _ => rfl) fun cdv A outer s H E hr => ?_
  have hu := hr.units
  have hv := hv_of hr
  exact ⟨_, ((ss_cons (s_set 1 sc_sign.nd se_str)
    (ss_cons (s_set 2 sc_sign.nd se_str)
    (ss_one (s_ret (se_ix (x_eb (se_add (x_eb (se_add (x_eb se_str) (sb_var 2))) (sb_var 1))) (x_eb (se_mod (sb_var 0) (x_eb se_int)))))))))⟩

abbrev N_name_by : List Str := ["_law_place", "_law_cell_here", "_law_tail", "_law_k"]
theorem sc_name_by : FnScope N_name_by ["_law_place", "_law_cell_here"] (defScope s_name_by) := ⟨rfl, rfl, rfl, by decide +kernel, rfl, by decide +kernel, by decide +kernel⟩
def b_name_by : SS := (sSeq (sSet 2 (eList (lLc (iR1 (eCons (eOp gMod (eVarB 1) (eC (.int 20))) eNil)) 3 tYesF (eCall F_sign (eCons (eOp gAdd (eOp gFdiv (eVarB 1) (eC (.int 20))) (eOp gMul (eOp gMul (eC (.int 5)) (eVarB 3)) (eOp gMod (eVarB 1) (eC (.int 7))))) eNil)))))
  (sRet (eOp gAdd (eOp gJoin (eC (.str "")) (eVarB 2)) (eCall F_sign (eCons (eVar 0) eNil)))))
def F_name_by : List PyData → Option PyData := runF N_name_by 2 b_name_by
theorem ok_name_by (T : Txt K mg) : PF P w K mg base 2 "_law_name_by" F_name_by := by
  obtain ⟨fd, F⟩ := T.f_name_by
  refine pf_mk (k := 1) F sc_name_by T.g_name_by (fun _ _ _ _ _ _ us hl => match us, hl with | [_, _], _ => rfl) fun cdv A outer s H E hr => ?_
  have hu := hr.units
  have hv := hv_of hr
  exact ⟨_, ((ss_cons (s_setLcE 2 (by exact (sl_lc (j := 3) rfl sc_name_by.nd rfl (x_ib (si_range1 T.z_range (x_abc (x_eb (se_mod (sb_var 1) (x_eb se_int))) sab_nil))) (blkOk_by (N := N_name_by) (sc := defScope s_name_by) (own := [("_law_k", 3)]) (by decide +kernel)) (fun _ _ _ _ _ => sts_nil) (fun _ _ _ _ _ => (se_call (ok_sign T) hr (x_ac (se_add (x_eb (se_fdiv (sb_var 1) (x_eb se_int))) (x_eb (se_mul (x_eb (se_mul (x_eb se_int) (sb_var 3))) (x_eb (se_mod (sb_var 1) (x_eb se_int)))))) sa_nil))) (fun _ _ _ _ _ => pg_name sc_name_by.nd rfl (Or.inl rfl)))) (by exact (ps_setLc (i := 2) (own := [("_law_k", 3)]) (g := gName 3) rfl sc_name_by.nd rfl rfl (sw_true rfl rfl rfl (by decide +kernel)) (x_pi (K := K) (x_ib (si_range1 T.z_range (x_abc (x_eb (se_mod (sb_var 1) (x_eb se_int))) sab_nil)))) (blkOk_by (N := N_name_by) (sc := defScope s_name_by) (own := [("_law_k", 3)]) (by decide +kernel)) (fun _ _ _ _ _ => pg_name sc_name_by.nd rfl (Or.inl rfl)) (fun _ _ _ _ _ => pts_nil) (fun _ _ _ _ _ => (x_pe (K := K) (se_call (ok_sign T) hr (x_ac (se_add (x_eb (se_fdiv (sb_var 1) (x_eb se_int))) (x_eb (se_mul (x_eb (se_mul (x_eb se_int) (sb_var 3))) (x_eb (se_mod (sb_var 1) (x_eb se_int)))))) sa_nil)))))))
    (ss_one (s_ret (se_add (x_eb (se_join (x_eb se_str) (sb_var 2))) (x_eb (se_call (ok_sign T) hr (x_ac (se_var 0) sa_nil))))))))⟩

abbrev N_law : List Str := ["_law_script", "_law_size", "_law_rows", "_law_text", "_law_k", "_law_cell_here", "_law_row", "_law_handed", "_law_found", "_law_back"]
theorem sc_law : FnScope N_law ["_law_script"] (defScope s_law) := ⟨rfl, rfl, rfl, by decide +kernel, rfl, by decide +kernel, by decide +kernel⟩
def b_law : SS := (sSeq (sSet 1 (eOp gMod (eCall F_cell (eCons (eVar 0) (eCons (eC (.int 0)) eNil))) (eC (.int 10))))
  (sSeq (sIf (bF (eOp gEq (eOp gMod (eOp gFdiv (eCall F_cell (eCons (eVar 0) (eCons (eC (.int 0)) eNil))) (eC (.int 10))) (eC (.int 8))) (eC (.int 1)))) (sSet 1 (eOp gAdd (eVarB 1) (eOp gMod (eOp gFdiv (eCall F_cell (eCons (eVar 0) (eCons (eC (.int 0)) eNil))) (eC (.int 80))) (eC (.int 61))))) sNext)
  (sSeq (sSetL 2 (eLstD eNil))
  (sSeq (sSet 3 (eC (.str "")))
  (sSeq (sFor (iR1 (eCons (eVarB 1) eNil)) (tg1 4) (sSeq (sSet 5 (eOp gAdd (eCall F_cell (eCons (eVar 0) (eCons (eOp gAdd (eC (.int 1)) (eOp gMod (eVarB 4) (eC (.int 20)))) eNil))) (eOp gFdiv (eVarB 4) (eC (.int 20)))))
  (sSeq (sSet 6 (eTupD (eCons (eCall F_name_by (eCons (eVar 5) (eCons (eVar 5) eNil))) (eCons (eCall F_name_by (eCons (eOp gFdiv (eVarB 5) (eC (.int 93))) (eCons (eOp gFdiv (eVarB 5) (eC (.int 7))) eNil))) (eCons (eCall F_name_by (eCons (eOp gFdiv (eVarB 5) (eC (.int 8649))) (eCons (eOp gFdiv (eVarB 5) (eC (.int 49))) eNil))) eNil)))))
  (sSeq (sApp 2 (eVar 6))
  (sSet 3 (eOp gAdd (eOp gAdd (eOp gAdd (eOp gAdd (eOp gAdd (eOp gAdd (eVarB 3) (eOp gIx (eVarB 6) (eC (.int 0)))) (eC (.str " "))) (eOp gIx (eVarB 6) (eC (.int 1)))) (eC (.str " "))) (eOp gIx (eVarB 6) (eC (.int 2)))) (eC (.str "\n"))))))))
  (sSeq (sSet 7 (eList (eCallL gListOf (eCons (eVarB 2) eNil))))
  (sSeq (sSet 8 (eCall F_shown (eCons (eVar 7) eNil)))
  (sSeq (sIf (tOrF (tNotF (bF (eIsi .str (eVarB 8)))) (tOrF (bF (eOp gNe (eVarB 8) (eVarB 3))) (bF (eOp gNe (eVarB 7) (eVarB 2))))) (sRet (eC (.bool false))) sNext)
  (sSeq (sSet 9 (eCall F_read (eCons (eVar 8) eNil)))
  (sRet (eAndF (eIsi .list (eVarB 9)) (eAndF (eOp gEq (eVarB 9) (eVarB 2)) (eOp gEq (eList (lLc (iL (eVarB 9)) 6 (tNotF (bF (eIsi .tuple (eVarB 6)))) (eC (.int 1)))) (eList (eLstD eNil)))))))))))))))
def F_law : List PyData → Option PyData := runF N_law 1 b_law
theorem okf_law (T : Txt K mg) {f : Addr} {fd : FuncData} (F : FunD K "law" "law" (defArgs s_law) (defBody s_law) (defScope s_law) [] [] f fd) : FnOk P w K mg base CX0 4 f fd ["_law_script"] (spPure K F_law) := by
  refine fn_mk (k := 3) F sc_law fun cdv A outer s H E hr => ?_
  have hu := hr.units
  have hv := hv_of hr
  exact ⟨_, ((ss_cons (s_set 1 sc_law.nd (se_mod (x_eb (se_call (ok_cell T) hr (x_ac (se_var 0) (x_ac se_int sa_nil)))) (x_eb se_int)))
    (ss_cons (s_if (st_cmp eq2_s (op_eq2 hu) (x_eb (se_mod (x_eb (se_fdiv (x_eb (se_call (ok_cell T) hr (x_ac (se_var 0) (x_ac se_int sa_nil)))) (x_eb se_int))) (x_eb se_int))) (x_eb se_int) (nomark _)) (ss_one (s_set 1 sc_law.nd (se_add (sb_var 1) (x_eb (se_mod (x_eb (se_fdiv (x_eb (se_call (ok_cell T) hr (x_ac (se_var 0) (x_ac se_int sa_nil)))) (x_eb se_int))) (x_eb se_int)))))) ss_nil)
    (ss_cons (s_setL 2 sc_law.nd (sl_lst sa_nil))
    (ss_cons (s_set 3 sc_law.nd se_str)
    (ss_cons (s_for PassesOwn.never rfl (si_range1 T.z_range (x_abc (sb_var 1) sab_nil)) (pg_name (i := 4) sc_law.nd rfl (by first | exact Or.inl rfl | exact Or.inr rfl)) (tg1_ok 4) (ss_cons (s_set 5 sc_law.nd (se_add (x_eb (se_call (ok_cell T) hr (x_ac (se_var 0) (x_ac (se_add (x_eb se_int) (x_eb (se_mod (sb_var 4) (x_eb se_int)))) sa_nil)))) (x_eb (se_fdiv (sb_var 4) (x_eb se_int)))))
    (ss_cons (s_set 6 sc_law.nd (se_tup (x_ac (se_call (ok_name_by T) hr (x_ac (se_var 5) (x_ac (se_var 5) sa_nil))) (x_ac (se_call (ok_name_by T) hr (x_ac (se_fdiv (sb_var 5) (x_eb se_int)) (x_ac (se_fdiv (sb_var 5) (x_eb se_int)) sa_nil))) (x_ac (se_call (ok_name_by T) hr (x_ac (se_fdiv (sb_var 5) (x_eb se_int)) (x_ac (se_fdiv (sb_var 5) (x_eb se_int)) sa_nil))) sa_nil)))))
    (ss_cons (s_app 2 (se_var 6) (by exact (ps_expr (pe_bm PySem.F.plainAttrs_list PySem.F.slot_list_append PySem.F.type_list_append mt_append (pv 2) (pa_cons (x_pe (K := K) (se_var 6)) pa_nil)))))
    (ss_one (s_set 3 sc_law.nd (se_add (x_eb (se_add (x_eb (se_add (x_eb (se_add (x_eb (se_add (x_eb (se_add (sb_var 3) (x_eb (se_ix (sb_var 6) (x_eb se_int))))) (x_eb se_str))) (x_eb (se_ix (sb_var 6) (x_eb se_int))))) (x_eb se_str))) (x_eb (se_ix (sb_var 6) (x_eb se_int))))) (x_eb se_str))))))))
    (ss_cons (s_set 7 sc_law.nd (x_le (sl_ct listOf_s call_list_of T.z_list (x_abc (sb_var 2) sab_nil))))
    (ss_cons (s_set 8 sc_law.nd (se_call (ok_shown T) hr (x_ac (se_var 7) sa_nil)))
    (ss_cons (s_if (x_wt (sw_or (st_not (st_val (se_isi .str T.z_isinstance T.z_str (sb_var 8)))) (sw_or (st_cmp ne2_s (op_ne2 hu) (sb_var 8) (sb_var 3) (nomark _)) (sw_or1 (st_cmp ne2_s (op_ne2 hu) (sb_var 7) (sb_var 2) (nomark _)))))) (ss_one (s_ret se_bool)) ss_nil)
    (ss_cons (s_set 9 sc_law.nd (se_call (ok_read T) hr (x_ac (se_var 8) sa_nil)))
    (ss_one (s_ret (se_and (se_isi .list T.z_isinstance T.z_list (sb_var 9)) (se_and (se_cmp eq2_s (op_eq2 hu) (sb_var 9) (sb_var 2) (nomark _)) (se_one (se_cmp eq2_s (op_eq2 hu) (x_eb (x_le (sl_lc (j := 6) rfl sc_law.nd rfl (si_listB (sb_var 9)) (blkOk_by (N := N_law) (sc := defScope s_law) (own := [("_law_row", 6)]) (by decide +kernel)) (fun _ _ _ _ _ => (sts_one (st_not (st_val (se_isi .tuple T.z_isinstance T.z_tuple (sb_var 6)))))) (fun _ _ _ _ _ => se_int) (fun _ _ _ _ _ => pg_name sc_law.nd rfl (Or.inl rfl))))) (x_eb (x_le (sl_lst sa_nil))) (nomark _)))))))))))))))))⟩

end
end RK
namespace RK
open PySem PySem.Spec PyProof.Rows L2 RT
theorem F_cell_eq (ns : List Int) (k : Nat) : F_cell [scrD ns, .int (k : Nat)] = some (.int (cell ns k)) := by
  have h := cell_ev ns k
  unfold F_cell
  rw [runF_eq]
  simp [b_cell, rho0, scrD, lSl, oSome, cutA_one] at h ⊢
  rw [h]
  rfl
def sg1 : Str := "!\"#$&'()*+,-./0123456789:;<=>?"
def sg2 : Str := "@ABCDEFGHIJKLMNOPQRSTUVWXYZ[\\]^_`"
def sg3 : Str := "abcdefghijklmnopqrstuvwxyz{|}~"
def sgs : Str := sg1 ++ sg2 ++ sg3
theorem sgs_len : sgs.length = 93 := by decide +kernel
theorem sg1_len : sg1.length = 30 := by decide +kernel
theorem sg2_len : sg2.length = 33 := by decide +kernel
theorem sg3_len : sg3.length = 30 := by decide +kernel
def sg (c : Int) : Nat := (sgs.cps.toList[(c % 93).toNat]?).getD 0
theorem sg_at (c : Int) : atI sgs.cps.toList (c % 93) = some (sg c) ∧ sg c ∈ sgs.cps.toList := by
  have hl : sgs.cps.toList.length = 93 := by
    have h := sgs_len
    simpa [Str.length] using h
  obtain ⟨x, h1, h2⟩ := atI_mod sgs.cps.toList c 93 (by rw [hl]; rfl) (by decide)
  have e : sg c = x := by
    rw [atI_pos _ _ (Int.emod_nonneg _ (by decide))] at h2
    unfold sg
    rw [h2]; rfl
  rw [e]
  exact ⟨h2, h1⟩
theorem F_sign_eq (c : Int) : F_sign [.int c] = some (.str ⟨#[sg c]⟩) := by
  have e1 : gAdd (.str sg1) (.str sg2) = some (.str (sg1 ++ sg2)) := by
    rw [gAdd_strE, if_pos (by rw [sg1_len, sg2_len]; decide)]
  have e2 : gAdd (.str (sg1 ++ sg2)) (.str sg3) = some (.str sgs) := by
    rw [gAdd_strE, if_pos (by decide +kernel)]
    rfl
  have e3 : gIx (.str sgs) (.int (c % 93)) = some (.str ⟨#[sg c]⟩) := by
    rw [gIx_str _ _ (by rw [sgs_len]; decide), (sg_at c).1]
    rfl
  unfold F_sign
  rw [runF_eq]
  simp [b_sign, rho0]
  rw [show ("!\"#$&'()*+,-./0123456789:;<=>?" : Str) = sg1 from rfl, show ("@ABCDEFGHIJKLMNOPQRSTUVWXYZ[\\]^_`" : Str) = sg2 from rfl, show ("abcdefghijklmnopqrstuvwxyz{|}~" : Str) = sg3 from rfl, e1]
  simp [e2, e3]
def SGN : Str := "!\"#$&'()*+,-./0123456789:;<=>?@ABCDEFGHIJKLMNOPQRSTUVWXYZ[\\]^_`abcdefghijklmnopqrstuvwxyz{|}~"
/-- whether a text is a name -/
def isName (z : Str) : Bool := decide (1 ≤ z.length) && decide (z.length ≤ 20) && z.cps.toList.all fun c => decide (c ∈ SGN.cps.toList)
theorem gNotIn_sign (c : Nat) (z : Str) : gNotIn (.str ⟨#[c]⟩) (.str z) = some (.bool (!decide (c ∈ z.cps.toList))) := rfl
theorem F_is_name_eq (z : Str) (hz : z.length ≤ LIM) : F_is_name [.str z] = some (.bool (isName z)) := by
  unfold F_is_name
  rw [runF_eq]
  obtain ⟨s', e⟩ := forF_find0 (j := 1) (ρ := [.val (.str z), .no]) (r := .bool false) (body := (sIf (bF (eOp gNotIn (eVarB 1) (eC (.str "!\"#$&'()*+,-./0123456789:;<=>?@ABCDEFGHIJKLMNOPQRSTUVWXYZ[\\]^_`abcdefghijklmnopqrstuvwxyz{|}~")))) (sRet (eC (.bool false))) sNext))
    (fun d => match d with | .str x => !x.cps.toList.all fun c => decide (c ∈ SGN.cps.toList) | _ => true) (ds := signsD z) (by simp) (fun d hd => by
      obtain ⟨c, _, rfl⟩ := mem_signsD hd
      rw [show ("!\"#$&'()*+,-./0123456789:;<=>?@ABCDEFGHIJKLMNOPQRSTUVWXYZ[\\]^_`abcdefghijklmnopqrstuvwxyz{|}~" : Str) = SGN from rfl]
      simp [gNotIn_sign])
  have e2 : ((signsD z).any fun d => match d with | .str x => !x.cps.toList.all fun c => decide (c ∈ SGN.cps.toList) | _ => true) = !z.cps.toList.all fun c => decide (c ∈ SGN.cps.toList) := by
    unfold signsD
    rw [List.any_map, List.all_eq_not_any_not, Bool.not_not]
    congr 1
    funext c
    simp
  rw [e2] at e
  unfold isName
  generalize (z.cps.toList.all fun c => decide (c ∈ SGN.cps.toList)) = b at e ⊢
  simp [b_is_name, rho0, N_is_name, sgD_str z hz, hz, e]
  cases b <;> simp <;> (repeat' split) <;> simp_all <;> omega
/-! joined signs -/
theorem join_ones : ∀ cs : List Nat, Txt.join "" (cs.map fun c => (⟨#[c]⟩ : Str)) = ⟨cs.toArray⟩ := by
  intro cs
  rw [TL.join_eq]
  have h : ∀ cs : List Nat, (Str.join "" (cs.map fun c => (⟨#[c]⟩ : Str))).cps.toList = cs := by
    intro cs
    induction cs with
    | nil => rfl
    | cons c r ih =>
      cases r with
      | nil => rfl
      | cons d r =>
        show ((⟨#[c]⟩ : Str) ++ "" ++ Str.join "" ((d :: r).map fun c => (⟨#[c]⟩ : Str))).cps.toList = _
        have e : ∀ x y : Str, (x ++ y).cps.toList = x.cps.toList ++ y.cps.toList := fun x y => by
          show (x.cps ++ y.cps).toList = _
          simp
        rw [e, e, ih]
        rfl
  have e := h cs
  cases hh : Str.join "" (cs.map fun c => (⟨#[c]⟩ : Str)) with
  | mk a =>
    rw [hh] at e
    rw [← e]

theorem sg_mem (c : Int) : sg c ∈ SGN.cps.toList := by
  have h := (sg_at c).2
  rw [show SGN.cps.toList = sgs.cps.toList from by decide +kernel]
  exact h
theorem isName_codes (cs : List Nat) : isName ⟨cs.toArray⟩ = (decide (1 ≤ cs.length) && decide (cs.length ≤ 20) && cs.all fun c => decide (c ∈ SGN.cps.toList)) := by
  simp [isName, Str.length]
theorem gJoin_ones (cs : List Nat) (h : cs.length ≤ LIM) : gJoin (.str "") (.list (cs.map fun c => PyData.str ⟨#[c]⟩)) = some (.str ⟨cs.toArray⟩) := by
  have e := gJoin_strs "" (cs.map fun c => (⟨#[c]⟩ : Str)) (by
    rw [List.map_map]
    have : ((cs.map ((·.length) ∘ fun c => (⟨#[c]⟩ : Str))).sum) = cs.length := by
      induction cs with
      | nil => rfl
      | cons c r ih => 
        have := ih (by simp at h ⊢; omega)
        simp [Str.length] at this ⊢
        omega
    rw [this]
    simpa [Str.length, show (Str.ofString "").cps.size = 0 from rfl] using h)
  rw [join_ones, List.map_map] at e
  exact e
/-! names by a place and a cell -/
def nameC (p c : Int) : List Nat := (List.range (c % 20).toNat).map (fun (k : Nat) => sg (c / 20 + 5 * (k : Int) * (c % 7))) ++ [sg p]
theorem nameC_len (p c : Int) : 1 ≤ (nameC p c).length ∧ (nameC p c).length ≤ 20 := by
  have h1 := Int.emod_nonneg c (show (20 : Int) ≠ 0 by decide)
  have h2 := Int.emod_lt_of_pos c (show (0 : Int) < 20 by decide)
  simp only [nameC, List.length_append, List.length_map, List.length_range, List.length_singleton]
  omega
theorem nameC_mem {p c : Int} {x : Nat} (h : x ∈ nameC p c) : x ∈ SGN.cps.toList := by
  simp only [nameC, List.mem_append, List.mem_map, List.mem_singleton] at h
  rcases h with ⟨i, _, rfl⟩ | rfl <;> exact sg_mem _
theorem SGN_rng {x : Nat} (h : x ∈ SGN.cps.toList) : 33 ≤ x ∧ x ≤ 126 := by
  have : (SGN.cps.toList.all fun x => decide (33 ≤ x) && decide (x ≤ 126)) = true := by decide +kernel
  rw [List.all_eq_true] at this
  simpa using this x h
def nameS (p c : Int) : Str := ⟨(nameC p c).toArray⟩
theorem nameS_ok (p c : Int) : isName (nameS p c) = true := by
  have h := nameC_len p c
  unfold nameS
  rw [isName_codes, decide_eq_true h.1, decide_eq_true h.2, Bool.true_and, Bool.true_and, List.all_eq_true]
  intro x hx
  exact decide_eq_true (nameC_mem hx)
theorem F_name_by_eq (p c : Int) : F_name_by [.int p, .int c] = some (.str (nameS p c)) := by
  have n0 := Int.emod_nonneg c (show (20 : Int) ≠ 0 by decide)
  have n1 := Int.emod_lt_of_pos c (show (0 : Int) < 20 by decide)
  have e : lcF 3 tYesF (eCall F_sign (eCons (eOp gAdd (eOp gFdiv (eVarB 1) (eC (.int 20))) (eOp gMul (eOp gMul (eC (.int 5)) (eVarB 3)) (eOp gMod (eVarB 1) (eC (.int 7))))) eNil)) [.val (.int p), .val (.int c), .no, .no] (rangeD 0 (c % 20).toNat) = some (((List.range (c % 20).toNat).map fun (k : Nat) => sg (c / 20 + 5 * (k : Int) * (c % 7))).map fun c => PyData.str ⟨#[c]⟩) := by
    rw [lcF_map (fun d => match d with | .int i => .str ⟨#[sg (c / 20 + 5 * i * (c % 7))]⟩ | _ => .none)]
    · congr 1
      simp [rangeD]
    · intro d hd
      obtain ⟨i, hi, rfl⟩ := mem_rangeD hd
      have m1 : gMul (.int 5) (.int (0 + (i : Int))) = some (.int (5 * (0 + (i : Int)))) := gMul_int _ _ (cMul_l (by decide))
      have m2 : gMul (.int (5 * (0 + (i : Int)))) (.int (c % 7)) = some (.int (5 * (0 + (i : Int)) * (c % 7))) := gMul_int _ _ (cMul_l (by omega))
      rw [Int.zero_add] at m1 m2 ⊢
      simp [m1, m2, F_sign_eq]
  have gj := gJoin_ones ((List.range (c % 20).toNat).map fun (k : Nat) => sg (c / 20 + 5 * (k : Int) * (c % 7))) (by simp [LIM]; omega)
  have b1 : c % 20 ≤ 1000000 := by omega
  have b2 : -1000000 ≤ c % 20 := by omega
  have b3 : (c % 20).toNat ≤ LIM := by unfold LIM; omega
  have ga : gAdd (.str ⟨((List.range (c % 20).toNat).map fun (k : Nat) => sg (c / 20 + 5 * (k : Int) * (c % 7))).toArray⟩) (.str ⟨#[sg p]⟩) = some (.str (nameS p c)) := by
    rw [gAdd_str]
    · congr 2
      exact SX.S_cat _ _
    · simp [Str.length, LIM]; omega
  unfold F_name_by
  rw [runF_eq]
  simp only [List.map_map] at e gj
  simp [b_name_by, rho0, N_name_by, b1, b2, b3, e, gj, F_sign_eq, ga]
/-! rows of three names, written and read -/
structure Row3 where
  a : List Nat
  b : List Nat
  c : List Nat
def okN (l : List Nat) : Prop := 1 ≤ l.length ∧ l.length ≤ 20 ∧ ∀ x ∈ l, x ∈ SGN.cps.toList
def Row3.ok (r : Row3) : Prop := okN r.a ∧ okN r.b ∧ okN r.c
def Row3.d (r : Row3) : PyData := .tuple [.str (SX.S r.a), .str (SX.S r.b), .str (SX.S r.c)]
def Row3.line (r : Row3) : List Nat := r.a ++ (32 :: (r.b ++ (32 :: r.c)))
def textOf (rs : List Row3) : List Nat := (rs.map fun r => r.line ++ [10]).flatten
theorem okN.free {l : List Nat} (h : okN l) : 32 ∉ l ∧ 10 ∉ l := by
  refine ⟨fun m => ?_, fun m => ?_⟩
  · have := SGN_rng (h.2.2 _ m); omega
  · have := SGN_rng (h.2.2 _ m); omega
theorem okN.name {l : List Nat} (h : okN l) : isName (SX.S l) = true := by
  show isName ⟨l.toArray⟩ = true
  rw [isName_codes, decide_eq_true h.1, decide_eq_true h.2.1, Bool.true_and, Bool.true_and, List.all_eq_true]
  intro x hx
  exact decide_eq_true (h.2.2 x hx)
theorem okN_name (p c : Int) : okN (nameC p c) := ⟨(nameC_len p c).1, (nameC_len p c).2, fun _ h => nameC_mem h⟩
theorem Row3.ok.no10 {r : Row3} (h : r.ok) : 10 ∉ r.line := by
  have h1 := h.1.free
  have h2 := h.2.1.free
  have h3 := h.2.2.free
  simp [Row3.line, h1, h2, h3]
theorem Row3.ok.len {r : Row3} (h : r.ok) : 5 ≤ r.line.length ∧ r.line.length ≤ 62 := by
  obtain ⟨⟨a1, a2, _⟩, ⟨b1, b2, _⟩, ⟨c1, c2, _⟩⟩ := h
  simp only [Row3.line, List.length_append, List.length_cons]
  omega
theorem textOf_len {rs : List Row3} (h : ∀ r ∈ rs, r.ok) : (textOf rs).length ≤ 63 * rs.length := by
  induction rs with
  | nil => simp [textOf]
  | cons r rs ih =>
    have h1 := (h r List.mem_cons_self).len
    have h2 := ih fun x hx => h x (List.mem_cons_of_mem _ hx)
    simp only [textOf, List.map_cons, List.flatten_cons, List.length_append, List.length_cons, List.length_nil] at h2 ⊢
    omega
theorem textOf_snoc (rs : List Row3) (r : Row3) : textOf (rs ++ [r]) = textOf rs ++ (r.line ++ [10]) := by simp [textOf]
theorem S_at {l : List Nat} {i : Nat} {x : Nat} (h : l[i]? = some x) : (SX.S l).cps.toList[i]? = some x := h
theorem gAdd_S (a b : List Nat) (h : a.length + b.length ≤ LIM) : gAdd (.str (SX.S a)) (.str (SX.S b)) = some (.str (SX.S (a ++ b))) := by
  rw [gAdd_str _ _ (by rw [SX.S_len, SX.S_len]; exact h), SX.S_cat]
theorem blank_S : (" " : Str) = SX.S [32] := rfl
theorem feed_S : ("\n" : Str) = SX.S [10] := rfl
theorem nil_S : ("" : Str) = SX.S [] := rfl
theorem split_row {r : Row3} (h : r.ok) : Txt.split (SX.S r.line) (SX.S [32]) = [SX.S r.a, SX.S r.b, SX.S r.c] := by
  rw [SX.split_S (by simp) (by decide)]
  have e : r.line = TL.joinL [32] [r.a, r.b, r.c] := by simp [Row3.line, TL.joinL]
  rw [e, SX.spl_join (by simp)]
  · rfl
  · intro p hp
    simp only [List.mem_cons, List.not_mem_nil, or_false] at hp
    rcases hp with rfl | rfl | rfl
    · exact h.1.free.1
    · exact h.2.1.free.1
    · exact h.2.2.free.1
theorem textOf_join : ∀ (rs : List Row3), rs ≠ [] → textOf rs = TL.joinL [10] (rs.map Row3.line) ++ [10]
  | [], h => absurd rfl h
  | [r], _ => by simp [textOf, TL.joinL]
  | r :: q :: rs, _ => by
    have := textOf_join (q :: rs) (by simp)
    show (r.line ++ [10]) ++ textOf (q :: rs) = _
    rw [this]
    simp [TL.joinL]
theorem F_is_name_S {l : List Nat} (h : okN l) : F_is_name [.str (SX.S l)] = some (.bool true) := by
  rw [F_is_name_eq _ (by rw [SX.S_len]; have := h.2.1; unfold LIM; omega), h.name]
theorem F_row_of_eq {r : Row3} (h : r.ok) : F_row_of [.str (SX.S r.line)] = some r.d := by
  have hl := h.len
  have sp : gSplit (.str (SX.S r.line)) (.str " ") = some [.str (SX.S r.a), .str (SX.S r.b), .str (SX.S r.c)] := by
    rw [gSplit_str _ _ (by decide) (by rw [SX.S_len]; unfold LIM; omega), blank_S, split_row h]
    rfl
  have n1 := F_is_name_S h.1
  have n2 := F_is_name_S h.2.1
  have n3 := F_is_name_S h.2.2
  unfold F_row_of
  rw [runF_eq]
  have l3 : lstD (.list [.str (SX.S r.a), .str (SX.S r.b), .str (SX.S r.c)]) = some [.str (SX.S r.a), .str (SX.S r.b), .str (SX.S r.c)] := lstD_list _ (by simp [LIM])
  simp [b_row_of, rho0, N_row_of, sp, l3, n1, n2, n3, forF_cons1, forF_nil, Row3.d]
theorem F_read_nil : F_read [.str (SX.S [])] = some (.list []) := by
  unfold F_read
  rw [runF_eq]
  have : ((SX.S [] : Str) == "") = true := by decide
  simp [b_read, rho0, this]
theorem cutS_last (l : List Nat) (c : Nat) : cutS (SX.S (l ++ [c])) none (some (-1)) = SX.S l := by
  rw [C8.cutS_slice]
  exact SX.butlast_snoc l c
theorem F_read_eq (rs : List Row3) (h : ∀ r ∈ rs, r.ok) (hn : rs.length ≤ 1000) : F_read [.str (SX.S (textOf rs))] = some (.list (rs.map Row3.d)) := by
  by_cases e0 : rs = []
  · subst e0
    exact F_read_nil
  have hL := textOf_len h
  have hj := textOf_join rs e0
  have hpos : 0 < rs.length := List.length_pos_iff.mpr e0
  have hlen : (TL.joinL [10] (rs.map Row3.line)).length + 1 ≤ 63 * rs.length := by
    rw [hj, List.length_append, List.length_singleton] at hL
    exact hL
  have ne : (SX.S (textOf rs) == "") = false := by
    rw [nil_S, SX.S_beq, hj]
    simp
  have last : gIx (.str (SX.S (textOf rs))) (.int (-1)) = some (.str "\n") := by
    rw [gIx_str _ _ (by rw [SX.S_len]; unfold LIM; omega)]
    have : atI (SX.S (textOf rs)).cps.toList (-1) = some 10 := by
      show atI (textOf rs) (-1) = _
      rw [hj]
      unfold atI ixN
      have h1 : ¬ (0 : Int) ≤ -1 := by decide
      rw [if_neg h1, if_pos (by simp; omega), Option.bind_some]
      have : ((-1 : Int) + ((TL.joinL [10] (rs.map Row3.line) ++ [10]).length : Nat)).toNat = (TL.joinL [10] (rs.map Row3.line)).length := by
        rw [List.length_append, List.length_singleton]
        omega
      rw [this]
      simp
    rw [this]
    rfl
  have sp : gSplit (.str (SX.S (TL.joinL [10] (rs.map Row3.line)))) (.str "\n") = some ((rs.map Row3.line).map fun l => .str (SX.S l)) := by
    rw [gSplit_str _ _ (by decide) (by rw [SX.S_len]; unfold LIM; omega), feed_S, SX.split_S (by simp) (by decide), SX.spl_join (by simpa using e0)]
    · simp
    · intro p hp
      obtain ⟨r, hr, rfl⟩ := List.mem_map.mp hp
      exact (h r hr).no10
  have cut : eSlS (eVarB 0) oNone (oSome (eUn gNeg (eC (.int 1)))) [.val (.str (SX.S (textOf rs))), .no] = some (.str (SX.S (TL.joinL [10] (rs.map Row3.line)))) := by
    have hz : (SX.S (textOf rs)).length ≤ LIM := by rw [SX.S_len]; unfold LIM; omega
    have : cutS (SX.S (textOf rs)) none (some (-1)) = SX.S (TL.joinL [10] (rs.map Row3.line)) := by rw [hj, cutS_last]
    simp [eSlS, oNone, oSome, hz, this]
  have lc : lcF 1 tYesF (eCall F_row_of (eCons (eVar 1) eNil)) [.val (.str (SX.S (textOf rs))), .no] ((rs.map Row3.line).map fun l => .str (SX.S l)) = some (rs.map Row3.d) := by
    have : ∀ qs : List Row3, (∀ r ∈ qs, r.ok) → lcF 1 tYesF (eCall F_row_of (eCons (eVar 1) eNil)) [.val (.str (SX.S (textOf rs))), .no] ((qs.map Row3.line).map fun l => .str (SX.S l)) = some (qs.map Row3.d) := by
      intro qs
      induction qs with
      | nil => intro _; rfl
      | cons q qs ih =>
        intro hq
        have := ih fun r hr => hq r (List.mem_cons_of_mem _ hr)
        have f := F_row_of_eq (hq q List.mem_cons_self)
        have dd : dataD q.d = true := rfl
        simp only [List.map_map] at this
        simp [lcF, f, this, dd]
    exact this rs h
  unfold F_read
  rw [runF_eq]
  simp only [List.map_map] at sp lc
  simp [b_read, rho0, N_read, ne, last, cut, sp, lc, show rs.length ≤ LIM from by unfold LIM; omega]

theorem F_shown_eq (rs : List Row3) (h : ∀ r ∈ rs, r.ok) (hn : rs.length ≤ 1000) : F_shown [.list (rs.map Row3.d)] = some (.str (SX.S (textOf rs))) := by
  have lc : ∀ ρ0 : Sl, lcF 1 tYesF (eOp gAdd (eOp gAdd (eOp gAdd (eOp gAdd (eOp gAdd (eOp gIx (eVarB 1) (eC (.int 0))) (eC (.str " "))) (eOp gIx (eVarB 1) (eC (.int 1)))) (eC (.str " "))) (eOp gIx (eVarB 1) (eC (.int 2)))) (eC (.str "\n"))) [ρ0, .no] (rs.map Row3.d) = some ((rs.map fun r => SX.S (r.line ++ [10])).map .str) := by
    intro ρ0
    induction rs with
    | nil => rfl
    | cons r rs ih =>
      have hr := h r List.mem_cons_self
      have hh := ih (fun x hx => h x (List.mem_cons_of_mem _ hx)) (by simp at hn; omega)
      obtain ⟨⟨a1, a2, _⟩, ⟨b1, b2, _⟩, ⟨c1, c2, _⟩⟩ := hr
      have g1 := gAdd_S r.a [32] (by simp [LIM]; omega)
      have g2 := gAdd_S (r.a ++ [32]) r.b (by simp [LIM]; omega)
      have g3 := gAdd_S (r.a ++ [32] ++ r.b) [32] (by simp [LIM]; omega)
      have g4 := gAdd_S (r.a ++ [32] ++ r.b ++ [32]) r.c (by simp [LIM]; omega)
      have g5 := gAdd_S (r.a ++ [32] ++ r.b ++ [32] ++ r.c) [10] (by simp [LIM]; omega)
      have el : r.a ++ [32] ++ r.b ++ [32] ++ r.c ++ [10] = r.line ++ [10] := by simp [Row3.line]
      rw [el] at g5
      rw [blank_S, feed_S] at hh ⊢
      simp only [List.map_cons, lcF, tYesF_eq, Row3.d, List.set, eOp_eq, eVarB_eq, List.getElem?_cons_succ, List.getElem?_cons_zero, slB_val, Option.bind_some, eC_eq, gIx_tuple, atI_0, atI_1, atI_2, g1, g2, g3, g4, g5]
      rw [hh]
      rfl
  have gj : gJoin (.str "") (.list ((rs.map fun r => SX.S (r.line ++ [10])).map .str)) = some (.str (SX.S (textOf rs))) := by
    rw [gJoin_strs]
    · congr 2
      rw [nil_S, show (rs.map fun r => SX.S (r.line ++ [10])) = (rs.map fun r => r.line ++ [10]).map SX.S by rw [List.map_map]; rfl, SX.join_S]
      congr 1
      unfold textOf
      generalize rs.map (fun r => r.line ++ [10]) = l
      induction l with
      | nil => rfl
      | cons a l ih =>
        cases l with
        | nil => simp [TL.joinL]
        | cons b l =>
          show a ++ ([] ++ TL.joinL [] (b :: l)) = _
          rw [ih]
          rfl
    · have e0 : ("" : Str).length = 0 := rfl
      rw [e0, Nat.mul_zero, Nat.add_zero]
      have : ((rs.map fun r => SX.S (r.line ++ [10])).map (·.length)).sum = (textOf rs).length := by
        unfold textOf
        rw [List.map_map, List.length_flatten, List.map_map]
        congr 1
      rw [this]
      have := textOf_len h
      unfold LIM
      omega
  unfold F_shown
  rw [runF_eq]
  simp only [List.map_map] at lc gj
  simp [b_shown, rho0, N_shown, lc, gj, show rs.length ≤ LIM from by unfold LIM; omega]
def rowAt (ns : List Int) (k : Nat) : Row3 :=
  let c := cell ns (1 + k % 20) + ((k / 20 : Nat) : Int)
  ⟨nameC c c, nameC (c / 93) (c / 7), nameC (c / 8649) (c / 49)⟩
theorem rowAt_ok (ns : List Int) (k : Nat) : (rowAt ns k).ok := ⟨okN_name _ _, okN_name _ _, okN_name _ _⟩
def rowsTo (ns : List Int) (n : Nat) : List Row3 := (List.range n).map (rowAt ns)
theorem rowsTo_ok (ns : List Int) (n : Nat) : ∀ r ∈ rowsTo ns n, r.ok := by
  intro r hr
  obtain ⟨k, _, rfl⟩ := List.mem_map.mp hr
  exact rowAt_ok ns k
theorem rowsTo_succ (ns : List Int) (n : Nat) : rowsTo ns (n + 1) = rowsTo ns n ++ [rowAt ns n] := by simp [rowsTo, List.range_succ]
theorem okD_row (r : Row3) (h : r.ok) : okD r.d = true ∧ r.d.depth = 1 := by
  have key : ∀ l, okN l → PyData.canLay0 (.str (SX.S l)) = true := by
    intro l hl
    simp only [PyData.canLay0, PyData.strOk]
    show (l.toArray.all fun x => decide (x < 0x110000)) = true
    rw [List.all_toArray, List.all_eq_true]
    intro x hx
    have := SGN_rng (hl.2.2 x hx)
    exact decide_eq_true (by omega)
  refine ⟨?_, ?_⟩
  · simp [Row3.d, okD, okDs, key _ h.1, key _ h.2.1, key _ h.2.2]
  · simp [Row3.d, PyData.depth, PyData.depthAll]
theorem okDs_rows {rs : List Row3} (h : ∀ r ∈ rs, r.ok) : okDs (rs.map Row3.d) = true ∧ (PyData.list (rs.map Row3.d)).depth ≤ 64 := by
  refine ⟨?_, ?_⟩
  · rw [okDs_all, List.all_map, List.all_eq_true]
    intro r hr
    exact (okD_row r (h r hr)).1
  · have : PyData.depthAll (rs.map Row3.d) ≤ 1 := depthAll_le fun d hd => by
      obtain ⟨r, hr, rfl⟩ := List.mem_map.mp hd
      rw [(okD_row r (h r hr)).2]
      exact Nat.le_refl _
    simp only [PyData.depth]
    omega
def sl4 : Nat → Sl
  | 0 => .no
  | k + 1 => .val (.int (k : Int))
def sl5 (ns : List Int) : Nat → Sl
  | 0 => .no
  | k + 1 => .val (.int (cell ns (1 + k % 20) + ((k / 20 : Nat) : Int)))
def sl6 (ns : List Int) : Nat → Sl
  | 0 => .no
  | k + 1 => .val (rowAt ns k).d
def RR (ns : List Int) (sz : PyData) (k : Nat) : Rho :=
  [.val (scrD ns), .val sz, .own ((rowsTo ns k).map Row3.d), .val (.str (SX.S (textOf (rowsTo ns k)))),
   sl4 k, sl5 ns k, sl6 ns k, .no, .no, .no]
theorem law_true (ns : List Int) (h : ns.length ≤ 63) : F_law [scrD ns] = some (.bool true) := by
  have c0 := F_cell_eq ns 0
  simp only [Int.cast_ofNat_Int] at c0
  have step : ∀ (sz : PyData) (k : Nat), k ≤ 100 → (sSeq (sSet 5 (eOp gAdd (eCall F_cell (eCons (eVar 0) (eCons (eOp gAdd (eC (.int 1)) (eOp gMod (eVarB 4) (eC (.int 20)))) eNil))) (eOp gFdiv (eVarB 4) (eC (.int 20)))))
  (sSeq (sSet 6 (eTupD (eCons (eCall F_name_by (eCons (eVar 5) (eCons (eVar 5) eNil))) (eCons (eCall F_name_by (eCons (eOp gFdiv (eVarB 5) (eC (.int 93))) (eCons (eOp gFdiv (eVarB 5) (eC (.int 7))) eNil))) (eCons (eCall F_name_by (eCons (eOp gFdiv (eVarB 5) (eC (.int 8649))) (eCons (eOp gFdiv (eVarB 5) (eC (.int 49))) eNil))) eNil)))))
  (sSeq (sApp 2 (eVar 6))
  (sSet 3 (eOp gAdd (eOp gAdd (eOp gAdd (eOp gAdd (eOp gAdd (eOp gAdd (eVarB 3) (eOp gIx (eVarB 6) (eC (.int 0)))) (eC (.str " "))) (eOp gIx (eVarB 6) (eC (.int 1)))) (eC (.str " "))) (eOp gIx (eVarB 6) (eC (.int 2)))) (eC (.str "\n"))))))) ((RR ns sz k).set 4 (.val (.int (k : Int)))) = .nx (RR ns sz (k + 1)) := by
    intro sz k hk
    have ec : ((1 : Int) + (k : Int) % 20) = ((1 + k % 20 : Nat) : Int) := by omega
    have cc := F_cell_eq ns (1 + k % 20)
    rw [← ec] at cc
    have ed : ((k : Int) / 20) = ((k / 20 : Nat) : Int) := by omega
    have hr := rowAt_ok ns k
    have hl := textOf_len (rowsTo_ok ns k)
    have hk2 : (rowsTo ns k).length = k := by simp [rowsTo]
    rw [hk2] at hl
    obtain ⟨c, hc⟩ : ∃ c, c = cell ns (1 + k % 20) + ((k / 20 : Nat) : Int) := ⟨_, rfl⟩
    have er : rowAt ns k = ⟨nameC c c, nameC (c / 93) (c / 7), nameC (c / 8649) (c / 49)⟩ := by rw [hc]; rfl
    obtain ⟨⟨a1, a2, _⟩, ⟨b1, b2, _⟩, ⟨c1, c2, _⟩⟩ := hr
    rw [er] at a1 a2 b1 b2 c1 c2
    simp only at a1 a2 b1 b2 c1 c2
    obtain ⟨T, hT⟩ : ∃ T, T = textOf (rowsTo ns k) := ⟨_, rfl⟩
    rw [← hT] at hl
    have g1 := gAdd_S T (nameC c c) (by unfold LIM; omega)
    have g2 := gAdd_S (T ++ nameC c c) [32] (by simp [LIM]; omega)
    have g3 := gAdd_S (T ++ nameC c c ++ [32]) (nameC (c / 93) (c / 7)) (by simp [LIM]; omega)
    have g4 := gAdd_S (T ++ nameC c c ++ [32] ++ nameC (c / 93) (c / 7)) [32] (by simp [LIM]; omega)
    have g5 := gAdd_S (T ++ nameC c c ++ [32] ++ nameC (c / 93) (c / 7) ++ [32]) (nameC (c / 8649) (c / 49)) (by simp [LIM]; omega)
    have g6 := gAdd_S (T ++ nameC c c ++ [32] ++ nameC (c / 93) (c / 7) ++ [32] ++ nameC (c / 8649) (c / 49)) [10] (by simp [LIM]; omega)
    have el : T ++ nameC c c ++ [32] ++ nameC (c / 93) (c / 7) ++ [32] ++ nameC (c / 8649) (c / 49) ++ [10] = textOf (rowsTo ns (k + 1)) := by
      rw [rowsTo_succ, textOf_snoc, er, ← hT]
      simp [Row3.line]
    rw [el] at g6
    have eR : RR ns sz (k + 1) = [.val (scrD ns), .val sz, .own ((rowsTo ns k).map Row3.d ++ [(rowAt ns k).d]), .val (.str (SX.S (textOf (rowsTo ns (k + 1))))), .val (.int (k : Int)), .val (.int c), .val (rowAt ns k).d, .no, .no, .no] := by
      rw [hc]
      unfold RR
      rw [rowsTo_succ, List.map_append]
      rfl
    have eR0 : (RR ns sz k).set 4 (.val (.int (k : Int))) = [.val (scrD ns), .val sz, .own ((rowsTo ns k).map Row3.d), .val (.str (SX.S T)), .val (.int (k : Int)), sl5 ns k, sl6 ns k, .no, .no, .no] := by
      rw [hT]
      rfl
    rw [eR, eR0]
    have nf : ∀ p c, nameS p c = SX.S (nameC p c) := fun _ _ => rfl
    have hd : (rowAt ns k).d = .tuple [.str (SX.S (nameC c c)), .str (SX.S (nameC (c / 93) (c / 7))), .str (SX.S (nameC (c / 8649) (c / 49)))] := by rw [er]; rfl
    rw [hd]
    rw [blank_S, feed_S]
    have hk3 : ((rowsTo ns k).map Row3.d).length ≤ LIM := by rw [List.length_map, hk2]; unfold LIM; omega
    generalize (rowsTo ns k).map Row3.d = P at hk3 ⊢
    generalize textOf (rowsTo ns (k + 1)) = T' at g6 ⊢
    generalize sl5 ns k = q5
    generalize sl6 ns k = q6
    have n1 := F_name_by_eq c c
    have n2 := F_name_by_eq (c / 93) (c / 7)
    have n3 := F_name_by_eq (c / 8649) (c / 49)
    rw [nf] at n1 n2 n3
    generalize nameC c c = A at g1 g2 g3 g4 g5 g6 n1 ⊢
    generalize nameC (c / 93) (c / 7) = B at g3 g4 g5 g6 n2 ⊢
    generalize nameC (c / 8649) (c / 49) = C at g5 g6 n3 ⊢
    have hc' : cell ns (1 + k % 20) + (k : Int) / 20 = c := by rw [hc, ed]
    simp [-List.append_assoc, cc, hc', n1, n2, n3, g1, g2, g3, g4, g5, g6, hk3]
  have n0 := Int.emod_nonneg (cell ns 0) (show (10 : Int) ≠ 0 by decide)
  have n1 := Int.emod_lt_of_pos (cell ns 0) (show (0 : Int) < 10 by decide)
  have n2 := Int.emod_nonneg (cell ns 0 / 80) (show (61 : Int) ≠ 0 by decide)
  have n3 := Int.emod_lt_of_pos (cell ns 0 / 80) (show (0 : Int) < 61 by decide)
  have tail : ∀ n : Nat, n ≤ 100 → True := fun _ _ => trivial
  obtain ⟨z, hz, hz2⟩ : ∃ z : Nat, z ≤ 100 ∧ ((z : Int) = if cell ns 0 / 10 % 8 = 1 then cell ns 0 % 10 + cell ns 0 / 80 % 61 else cell ns 0 % 10) := by
    split
    · exact ⟨(cell ns 0 % 10 + cell ns 0 / 80 % 61).toNat, by omega, by omega⟩
    · exact ⟨(cell ns 0 % 10).toNat, by omega, by omega⟩
  have lp := forF_range (j := 4) (RR ns (.int (z : Int))) z fun k hk => step (.int (z : Int)) k (by omega)
  have hrs := rowsTo_ok ns z
  have hlen : (rowsTo ns z).length = z := by simp [rowsTo]
  have sh := F_shown_eq _ hrs (by omega)
  have rd := F_read_eq _ hrs (by omega)
  obtain ⟨d1, d2⟩ := okDs_rows hrs
  have e1 := gEq_same d1 d2
  have e2 := gNe_same d1 d2
  have lt : ∀ ρ : Rho, 6 < ρ.length → lcF 6 (tNotF (bF (eIsi .tuple (eVarB 6)))) (eC (.int 1)) ρ ((rowsTo ns z).map Row3.d) = some [] := by
    intro ρ hρ
    rw [lcF_filter (fun _ => false) (fun d => d)]
    · simp
    · intro d hd
      obtain ⟨r, _, rfl⟩ := List.mem_map.mp hd
      simp [Row3.d, List.getElem?_set_self hρ]
    · intro d hd h; cases h
  have zI : (z : Int) ≤ 1000000 := by omega
  unfold F_law
  rw [runF_eq]
  have hR0 : RR ns (.int (z : Int)) 0 = [.val (scrD ns), .val (.int (z : Int)), .own [], .val (.str ""), .no, .no, .no, .no, .no, .no] := rfl
  have e0 := gEq_same (l := []) rfl (by decide)
  rw [hR0] at lp
  have zL : z ≤ LIM := by unfold LIM; omega
  by_cases q : cell ns 0 / 10 % 8 = 1
  · rw [if_pos q] at hz2
    simp [b_law, rho0, N_law, c0, q, ← hz2, zI, lp]
    simp [RR, sh, rd, e1, e2, lt, hlen, zL, zI, e0]
  · rw [if_neg q] at hz2
    simp [b_law, rho0, N_law, c0, q, ← hz2, zI, lp]
    simp [RR, sh, rd, e1, e2, lt, hlen, zL, zI, e0]
end RK
namespace RK
open PySem PySem.Spec PyProof.Rows L2 RT
def d_is_name : He.DefD := ⟨("is_name", none), "is_name", "is_name", defArgs s_is_name, defBody s_is_name, defScope s_is_name, [], []⟩
def d_shown : He.DefD := ⟨("shown", none), "shown", "shown", defArgs s_shown, defBody s_shown, defScope s_shown, [], []⟩
def d_row_of : He.DefD := ⟨("row_of", none), "row_of", "row_of", defArgs s_row_of, defBody s_row_of, defScope s_row_of, [], []⟩
def d_read : He.DefD := ⟨("read", none), "read", "read", defArgs s_read, defBody s_read, defScope s_read, [], []⟩
def d_cell : He.DefD := ⟨("_law_cell", none), "_law_cell", "_law_cell", defArgs s_cell, defBody s_cell, defScope s_cell, [], []⟩
def d_sign : He.DefD := ⟨("_law_sign", none), "_law_sign", "_law_sign", defArgs s_sign, defBody s_sign, defScope s_sign, [], []⟩
def d_name_by : He.DefD := ⟨("_law_name_by", none), "_law_name_by", "_law_name_by", defArgs s_name_by, defBody s_name_by, defScope s_name_by, [], []⟩
def d_law : He.DefD := ⟨("law", none), "law", "law", defArgs s_law, defBody s_law, defScope s_law, [], []⟩
def fn : List He.DefD := [d_is_name, d_shown, d_row_of, d_read, d_cell, d_sign, d_name_by, d_law]
def fa : List He.Fa := [.glo "is_name", .glo "shown", .glo "row_of", .glo "read", .glo "_law_cell", .glo "_law_sign", .glo "_law_name_by", .glo "law", .free "isinstance", .free "len", .free "list", .free "range", .free "str", .free "tuple", .int "MOST" 20, .str "SIGNS" "!\"#$&'()*+,-./0123456789:;<=>?@ABCDEFGHIJKLMNOPQRSTUVWXYZ[\\]^_`abcdefghijklmnopqrstuvwxyz{|}~"]
abbrev R : PySem.W.OpenRow := PySem.W.OpenLaw.row PySem.Challenge.rw_rota_k06_lines_written
abbrev hk : PySem.W.Hook := He.hookD 4 fa fn
def ob (s : PySem.W.SharedT) : He.AlD := He.obsDG 4 fa fn (HandSHeadRun.getT s)
theorem ob_eq (s : PySem.W.SharedT) : ob s = hk.obs s.abs := He.obsDG_eq (HandSHeadRun.getT_eq s)
abbrev loose : List Str := ["RotaError", "BadLine", "MOST", "SIGNS", "is_name", "shown", "row_of", "read", "_law_cell", "_law_sign", "_law_name_by"]
theorem run (w : World) : HandSHeadRun.RunEq R (PySem.W.view R.prog [15]) hk ob 1000 loose w := by
  intro os
  kernel_rfl
theorem txt {K : PySem.W.Frag} {h : Heap} {mg : Str → Option Value} (X : K.In h) (G : h.Ns mainGlobals mg) (c : He.SaysD fa fn K) : Txt K mg where
  f_is_name := c.def_ 0 (d := d_is_name) rfl
  g_is_name := He.glo_ok X G (c.fact 0 (f := .glo "is_name") rfl)
  f_shown := c.def_ 1 (d := d_shown) rfl
  g_shown := He.glo_ok X G (c.fact 1 (f := .glo "shown") rfl)
  f_row_of := c.def_ 2 (d := d_row_of) rfl
  g_row_of := He.glo_ok X G (c.fact 2 (f := .glo "row_of") rfl)
  f_read := c.def_ 3 (d := d_read) rfl
  g_read := He.glo_ok X G (c.fact 3 (f := .glo "read") rfl)
  f_cell := c.def_ 4 (d := d_cell) rfl
  g_cell := He.glo_ok X G (c.fact 4 (f := .glo "_law_cell") rfl)
  f_sign := c.def_ 5 (d := d_sign) rfl
  g_sign := He.glo_ok X G (c.fact 5 (f := .glo "_law_sign") rfl)
  f_name_by := c.def_ 6 (d := d_name_by) rfl
  g_name_by := He.glo_ok X G (c.fact 6 (f := .glo "_law_name_by") rfl)
  f_law := c.def_ 7 (d := d_law) rfl
  g_law := He.glo_ok X G (c.fact 7 (f := .glo "law") rfl)
  z_isinstance := He.free_ok X G (c.fact 8 (f := .free "isinstance") rfl)
  z_len := He.free_ok X G (c.fact 9 (f := .free "len") rfl)
  z_list := He.free_ok X G (c.fact 10 (f := .free "list") rfl)
  z_range := He.free_ok X G (c.fact 11 (f := .free "range") rfl)
  z_str := He.free_ok X G (c.fact 12 (f := .free "str") rfl)
  z_tuple := He.free_ok X G (c.fact 13 (f := .free "tuple") rfl)
  c_MOST := He.int_ok X G (c.fact 14 (f := .int "MOST" 20) rfl)
  c_SIGNS := He.str_ok X G (c.fact 15 (f := .str "SIGNS" "!\"#$&'()*+,-./0123456789:;<=>?@ABCDEFGHIJKLMNOPQRSTUVWXYZ[\\]^_`abcdefghijklmnopqrstuvwxyz{|}~") rfl)
theorem facts {P : Program} {w : World} {K : PySem.W.Frag} {h : Heap} {mg : Str → Option Value} {f : Addr} (X : K.In h) (G : h.Ns mainGlobals mg) (hfa : mg ("law" : Str) = some (.ref f)) (c : He.SaysD fa fn K) :
    ∃ fd : FuncData, (∀ (s : Shared) (v : Value), BindsTo s fd ⟨[v], []⟩ [("_law_script", v)]) ∧ ∀ base : Heap, K.In base → base.Ns mainGlobals mg → FnOk P w K mg base CX0 4 f fd ["_law_script"] (spPure K F_law) := by
  have T := txt X G c
  obtain ⟨fd, F⟩ := T.f_law
  have e := hfa.symm.trans T.g_law
  cases e
  have b := FunD.bindsA (ps := ["_law_script"]) F fun _ _ _ _ _ _ us hl => match us, hl with | [_], _ => rfl
  exact ⟨fd, fun s v => b s [v] rfl, fun base _ _ => okf_law T F⟩
end RK
open PySem PySem.W PySem.Calls PyProof.Rows
set_option maxRecDepth 100000 in
set_option maxHeartbeats 0 in
theorem PySem.Challenge.cw_rota_k06_lines_written_holds : PySem.Challenge.rw_rota_k06_lines_written.Holds := by
  w_on; o_law
  refine HandSHeadRun.head_any (r := OpenLaw.row PySem.Challenge.rw_rota_k06_lines_written) (q := view (OpenLaw.row PySem.Challenge.rw_rota_k06_lines_written).prog [15]) (H := RK.hk) (ob := RK.ob) (M := 1000) (loose := RK.loose) (d := HandSHeadRun.topDef (OpenLaw.row PySem.Challenge.rw_rota_k06_lines_written).prog 15) (kwd := []) RK.ob_eq
    (by kernel_rfl) (fun s => by kernel_rfl) RK.run (by kernel_rfl) (by kernel_rfl) (by kernel_rfl) (by rfl) (by first | assumption | decide +kernel) (by decide +kernel) ⟨rfl, rfl, rfl, rfl, rfl, by decide +kernel⟩ ?hw ?hc
  case hw => w_witness2
  case hc =>
    refine L2.walk_ofE (l := PySem.Challenge.rw_rota_k06_lines_written) (n := 63) (k := 4) (x := "_law_script") (CX := L2.CX0) rfl (by decide) (by kernel_rfl) ⟨rfl, by decide, by decide⟩ ?F (fun _ _ _ _ z => z)
    intro w mg fa h Y G hmg0
    obtain ⟨K, KX, c⟩ := Y
    have hmg : mg ("law" : PySem.Str) = some (.ref fa) := by
      have e : (HandSHeadRun.topDef (OpenLaw.row PySem.Challenge.rw_rota_k06_lines_written).prog 15).name = ("law" : PySem.Str) := by kernel_rfl
      rw [← e]
      exact hmg0
    obtain ⟨fd, hb, hF⟩ := RK.facts (P := (PySem.Challenge.rw_rota_k06_lines_written).prog) (w := w) KX G hmg c
    exact ⟨K, fd, RT.spPure K RK.F_law, KX, hb, fun H a ns hl _ hS => RT.law_sp (RK.law_true ns hl) hS, hF⟩
