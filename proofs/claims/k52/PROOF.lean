import PyProof.Rows.All
import Wide.All
import OpenK.AllK
import Wide.FinOn
import KE.KStateDown
import HandS.ForMost
import HandS.ForExc
import HandS.Walk
import HandS.IsInst
import HandS.Flow
import HandS.Defaults
import HandS.Wide
import HandS.WideBits
import HandS.Head0
import HandS.Head1
import HandS.Head2
import HandS.HeadEnd
import HandS.HeadHook1
import HandS.HeadHook2
import KE.DataEq
import HandS.TupAny
import HandS.Text
import HandS.Deep
import HandS.TupLe
import PyProof.ReprRoads
import HandS.RaiseMore
import HandS.Ends
import KE.BitLaws
import PySem.Challenge.RW_fallstones_k52_beats_by_parts
set_option Elab.async false
set_option linter.all false
set_option maxRecDepth 100000
set_option maxHeartbeats 4000000
/-! A layer of data over HandS: slots hold data (PyData), owned lists, pots; what an expression, a test, a statement does is told by data alone. -/
namespace Fs
open PySem PySem.Spec PyProof.Rows L2

/-! ### heaps and data -/
theorem seqT {K : PySem.W.Frag} {H H' : Hp} {a : Addr} {xs : List V} (e : Same H H') (h : SqT K H a xs) : SqT K H' a xs := by
  rcases h with (h | ⟨o, h⟩) | h
  · exact .inl (.inl (e _ _ h))
  · exact .inl (.inr ⟨o, e _ _ h⟩)
  · exact .inr h
theorem same_new {H : Hp} {p : Addr} {o : HO} (h : H p = none) : Same H (upd H p o) := fun b x e => by
  rw [upd_ne (ne_of_none e h)]
  exact e
theorem same_mut {F H : Hp} {p : Addr} {o : HO} (e : Same F H) (h : F p = none) : Same F (upd H p o) := fun a u ha => by
  rw [upd_ne (ne_of_none ha h)]
  exact e a u ha
/-! data at a value: lists stand as they are -/
mutual
inductive Rp (K : PySem.W.Frag) (F : Hp) : V → PyData → Prop
  | non : Rp K F .non .none
  | bl (b : Bool) : Rp K F (.bl b) (.bool b)
  | int (i : Int) : Rp K F (.int i) (.int i)
  | str (x : Str) : Rp K F (.str x) (.str x)
  | lst {a : Addr} {xs : List V} {ds : List PyData} : F a = some (.lst xs) → RpAll K F xs ds → Rp K F (.ref a) (.list ds)
  | tup {a : Addr} {xs : List V} {ds : List PyData} : SqT K F a xs → RpAll K F xs ds → Rp K F (.ref a) (.tuple ds)
inductive RpAll (K : PySem.W.Frag) (F : Hp) : List V → List PyData → Prop
  | nil : RpAll K F [] []
  | cons {v : V} {vs : List V} {d : PyData} {ds : List PyData} : Rp K F v d → RpAll K F vs ds → RpAll K F (v :: vs) (d :: ds)
end
mutual
theorem rp_dp {K : PySem.W.Frag} {F H : Hp} (e : Same F H) : ∀ {v : V} {d : PyData}, Rp K F v d → Dp K H v d
  | _, _, .non => .non
  | _, _, .bl b => .bl b
  | _, _, .int i => .int i
  | _, _, .str x => .str x
  | _, _, .lst h a => .lst (.inl (.inl (e _ _ h))) (rps_dps e a)
  | _, _, .tup h a => .tup (seqT e h) (rps_dps e a)
theorem rps_dps {K : PySem.W.Frag} {F H : Hp} (e : Same F H) : ∀ {vs : List V} {ds : List PyData}, RpAll K F vs ds → DpAll K H vs ds
  | _, _, .nil => .nil
  | _, _, .cons h t => .cons (rp_dp e h) (rps_dps e t)
end
mutual
theorem rp_plain {K : PySem.W.Frag} {F : Hp} : ∀ {v : V} {d : PyData}, Rp K F v d → d.plain = true
  | _, _, .non => rfl
  | _, _, .bl _ => rfl
  | _, _, .int _ => rfl
  | _, _, .str _ => rfl
  | _, _, .lst _ a => rps_plain a
  | _, _, .tup _ a => rps_plain a
theorem rps_plain {K : PySem.W.Frag} {F : Hp} : ∀ {vs : List V} {ds : List PyData}, RpAll K F vs ds → PyData.plainAll ds = true
  | _, _, .nil => rfl
  | _, _, .cons h t => Bool.and_eq_true_iff.mpr ⟨rp_plain h, rps_plain t⟩
end
mutual
theorem rp_mono {K : PySem.W.Frag} {F F' : Hp} (e : Same F F') : ∀ {v : V} {d : PyData}, Rp K F v d → Rp K F' v d
  | _, _, .non => .non
  | _, _, .bl b => .bl b
  | _, _, .int i => .int i
  | _, _, .str x => .str x
  | _, _, .lst h a => .lst (e _ _ h) (rps_mono e a)
  | _, _, .tup h a => .tup (seqT e h) (rps_mono e a)
theorem rps_mono {K : PySem.W.Frag} {F F' : Hp} (e : Same F F') : ∀ {vs : List V} {ds : List PyData}, RpAll K F vs ds → RpAll K F' vs ds
  | _, _, .nil => .nil
  | _, _, .cons h t => .cons (rp_mono e h) (rps_mono e t)
end
theorem rps_len {K : PySem.W.Frag} {F : Hp} : ∀ {vs : List V} {ds : List PyData}, RpAll K F vs ds → vs.length = ds.length
  | _, _, .nil => rfl
  | _, _, .cons _ t => congrArg Nat.succ (rps_len t)
theorem rps_get {K : PySem.W.Frag} {F : Hp} : ∀ {vs : List V} {ds : List PyData} {i : Nat} {d : PyData}, RpAll K F vs ds → ds[i]? = some d → ∃ v, vs[i]? = some v ∧ Rp K F v d
  | _, _, _, _, .nil, h => by simp at h
  | _, _, 0, _, .cons h _, e => by simp at e; subst e; exact ⟨_, rfl, h⟩
  | _, _, i + 1, _, .cons _ t, e => by
    obtain ⟨v, h1, h2⟩ := rps_get (i := i) t (by simpa using e)
    exact ⟨v, by simpa using h1, h2⟩
theorem rps_get' {K : PySem.W.Frag} {F : Hp} : ∀ {vs : List V} {ds : List PyData} {i : Nat} {v : V}, RpAll K F vs ds → vs[i]? = some v → ∃ d, ds[i]? = some d ∧ Rp K F v d
  | _, _, _, _, .nil, h => by simp at h
  | _, _, 0, _, .cons h _, e => by simp at e; subst e; exact ⟨_, rfl, h⟩
  | _, _, i + 1, _, .cons _ t, e => by
    obtain ⟨v, h1, h2⟩ := rps_get' (i := i) t (by simpa using e)
    exact ⟨v, by simpa using h1, h2⟩
theorem rps_app {K : PySem.W.Frag} {F : Hp} : ∀ {vs ws : List V} {ds es : List PyData}, RpAll K F vs ds → RpAll K F ws es → RpAll K F (vs ++ ws) (ds ++ es)
  | _, _, _, _, .nil, h => h
  | _, _, _, _, .cons h t, h' => .cons h (rps_app t h')
theorem rps_drop {K : PySem.W.Frag} {F : Hp} : ∀ (n : Nat) {vs : List V} {ds : List PyData}, RpAll K F vs ds → RpAll K F (vs.drop n) (ds.drop n)
  | 0, _, _, h => h
  | _ + 1, _, _, .nil => .nil
  | n + 1, _, _, .cons _ t => rps_drop n t
theorem rps_take {K : PySem.W.Frag} {F : Hp} : ∀ (n : Nat) {vs : List V} {ds : List PyData}, RpAll K F vs ds → RpAll K F (vs.take n) (ds.take n)
  | 0, _, _, _ => .nil
  | _ + 1, _, _, .nil => .nil
  | n + 1, _, _, .cons h t => .cons h (rps_take n t)
theorem rps_ints {K : PySem.W.Frag} {F : Hp} : ∀ {vs : List V} {ns : List Int}, RpAll K F vs (ns.map PyData.int) → vs = ns.map V.int
  | _, [], .nil => rfl
  | _, _ :: _, .cons h t => by cases h; rw [rps_ints t]; rfl
theorem ints_rps {K : PySem.W.Frag} {F : Hp} : ∀ (ns : List Int), RpAll K F (ns.map V.int) (ns.map PyData.int)
  | [] => .nil
  | _ :: r => .cons (.int _) (ints_rps r)
theorem rps_bls {K : PySem.W.Frag} {F : Hp} : ∀ {vs : List V} {ns : List Bool}, RpAll K F vs (ns.map PyData.bool) → vs = ns.map V.bl
  | _, [], .nil => rfl
  | _, _ :: _, .cons h t => by cases h; rw [rps_bls t]; rfl
theorem rps_strs {K : PySem.W.Frag} {F : Hp} : ∀ {vs : List V} {ns : List Str}, RpAll K F vs (ns.map PyData.str) → vs = ns.map V.str
  | _, [], .nil => rfl
  | _, _ :: _, .cons h t => by cases h; rw [rps_strs t]; rfl

/-! ### slots -/
/-- what an owned object holds: a list of data; a pot: two ints -/
inductive Ct where
  | lst (ds : List PyData)
  | pot
/-- a slot: nothing known; data; an owned object at an address -/
inductive Sl where
  | no
  | dat (d : PyData)
  | own (a : Addr) (c : Ct)
  | scr (ns : List Int)
structure Bx where
  K : PySem.W.Frag
  H0 : Hp
  F0 : Hp
  P : List Addr
  E : XK
  Ed : Addr → Prop
abbrev PotY := { y : Int // 0 ≤ y ∧ y < 2 ^ 40 }
def IsPot (H : Hp) (a : Addr) : Prop := ∃ (x : Int) (y : PotY), H a = some (.lst [.int x, .int y.1])
def CtOk (K : PySem.W.Frag) (F : Hp) : Ct → HO → Prop
  | .lst ds, o => ∃ vs, o = .lst vs ∧ RpAll K F vs ds
  | .pot, o => ∃ (x : Int) (y : PotY), o = .lst [.int x, .int y.1]
theorem CtOk.mono {K : PySem.W.Frag} {F F' : Hp} {c : Ct} {o : HO} (e : Same F F') (h : CtOk K F c o) : CtOk K F' c o := by
  cases c with
  | lst ds => obtain ⟨vs, rfl, h⟩ := h; exact ⟨vs, rfl, rps_mono e h⟩
  | pot => exact h
structure Wd (b : Bx) (F H : Hp) : Prop where
  ex : Same F H
  f0 : Same b.F0 F
  grow : ∀ a, b.H0 a ≠ none → F a = b.F0 a
  keep : ∀ a o, b.H0 a = some o → a ∉ b.P → H a = some o
  pots : ∀ a ∈ b.P, IsPot H a
  potf : ∀ a ∈ b.P, F a = none
  ph : ∀ a ∈ b.P, b.H0 a ≠ none
def SlOk (b : Bx) (F H : Hp) (ov : Option (Option V)) : Sl → Prop
  | .no => True
  | .dat d => ∃ v, ov = some (some v) ∧ Rp b.K F v d
  | .scr ns => ∃ a, ov = some (some (.ref a)) ∧ SqL b.K F a (ns.map V.int)
  | .own a c => ov = some (some (.ref a)) ∧ F a = none ∧ (b.H0 a = none ∨ (a ∈ b.P ∧ c = .pot)) ∧ ∃ o, H a = some o ∧ CtOk b.K F c o
structure Rs (b : Bx) (F H : Hp) (σ : L2.St) (δ : List Sl) : Prop where
  wd : Wd b F H
  len : σ.length = δ.length
  slot : ∀ (i : Nat) s, δ[i]? = some s → SlOk b F H (σ[i]?) s
  apart : ∀ (i j : Nat) a c c', δ[i]? = some (.own a c) → δ[j]? = some (.own a c') → i = j
  er : ∀ F' H' C, Wd b F' H' → b.Ed C → b.E (.ref C) none H'
/-- a step: what is frozen stays, new frozen things are new, all but the pots of δ stays -/
structure Stp (δ : List Sl) (F H F' H' : Hp) : Prop where
  sf : Same F F'
  ex : Same F' H'
  gr : ∀ a, H a ≠ none → F' a = F a
  ch : ∀ a o, H a = some o → (∀ j : Nat, δ[j]? ≠ some (.own a .pot)) → H' a = some o
  pt : ∀ (j : Nat) a, δ[j]? = some (.own a .pot) → IsPot H' a
def ResOk (K : PySem.W.Frag) (H F' H' : Hp) (v : V) : Sl → Prop
  | .no => False
  | .scr _ => False
  | .dat d => Rp K F' v d
  | .own a c => v = .ref a ∧ F' a = none ∧ H a = none ∧ ∃ o, H' a = some o ∧ CtOk K F' c o
section
variable {b : Bx} {F F' F1 F2 H H' H1 H2 : Hp} {σ : L2.St} {δ : List Sl}
theorem Rs.pot_at (r : Rs b F H σ δ) {j : Nat} {a : Addr} (h : δ[j]? = some (.own a .pot)) : IsPot H a := by
  obtain ⟨_, _, _, o, h1, x, y, rfl⟩ := r.slot j _ h
  exact ⟨x, y, h1⟩
theorem Rs.refl (r : Rs b F H σ δ) : Stp δ F H F H :=
  ⟨.refl _, r.wd.ex, fun _ _ => rfl, fun _ _ h _ => h, fun _ _ h => r.pot_at h⟩
theorem Stp.dom (s : Stp δ F H F' H') (a : Addr) (h : H a ≠ none) : H' a ≠ none := by
  cases e : H a with
  | none => exact absurd e h
  | some o =>
    by_cases hp : ∃ j : Nat, δ[j]? = some (.own a .pot)
    · obtain ⟨j, hj⟩ := hp
      obtain ⟨x, y, q⟩ := s.pt j a hj
      rw [q]; exact fun z => nomatch z
    · rw [s.ch a o e (fun j hj => hp ⟨j, hj⟩)]; exact fun z => nomatch z
theorem Stp.trans (s : Stp δ F H F1 H1) (t : Stp δ F1 H1 F2 H2) : Stp δ F H F2 H2 where
  sf := s.sf.trans t.sf
  ex := t.ex
  gr := fun a h => (t.gr a (s.dom a h)).trans (s.gr a h)
  ch := fun a o h n => t.ch a o (s.ch a o h n) n
  pt := t.pt
theorem Stp.back (s : Stp δ F H F' H') {a : Addr} (h : H' a = none) : H a = none := by
  cases e : H a with
  | none => rfl
  | some o => exact absurd h (s.dom a (by rw [e]; exact fun z => nomatch z))
theorem Wd.step (w : Wd b F H) (sl : ∀ (j : Nat) a, δ[j]? = some (.own a .pot) → b.H0 a = none ∨ a ∈ b.P) (s : Stp δ F H F' H') : Wd b F' H' where
  ex := s.ex
  f0 := w.f0.trans s.sf
  grow := fun a h => by
    have hH : H a ≠ none ∨ a ∈ b.P := by
      by_cases hp : a ∈ b.P
      · exact .inr hp
      · cases e : b.H0 a with
        | none => exact absurd e h
        | some o => exact .inl (by rw [w.keep a o e hp]; exact fun z => nomatch z)
    rcases hH with hH | hP
    · rw [s.gr a hH, w.grow a h]
    · obtain ⟨x, y, q⟩ := w.pots a hP
      rw [s.gr a (by rw [q]; exact fun z => nomatch z), w.grow a h]
  keep := fun a o h hp => s.ch a o (w.keep a o h hp) fun j hj => by
    rcases sl j a hj with z | z
    · rw [h] at z; cases z
    · exact hp z
  pots := fun a hp => by
    by_cases q : ∃ j : Nat, δ[j]? = some (.own a .pot)
    · obtain ⟨j, hj⟩ := q
      exact s.pt j a hj
    · obtain ⟨x, y, h⟩ := w.pots a hp
      exact ⟨x, y, s.ch a _ h fun j hj => q ⟨j, hj⟩⟩
  potf := fun a hp => by
    obtain ⟨x, y, q⟩ := w.pots a hp
    rw [s.gr a (by rw [q]; exact fun z => nomatch z)]
    exact w.potf a hp
  ph := w.ph
theorem Rs.psl (r : Rs b F H σ δ) (j : Nat) (a : Addr) (h : δ[j]? = some (.own a .pot)) : b.H0 a = none ∨ a ∈ b.P := by
  obtain ⟨_, _, z, _⟩ := r.slot j _ h
  rcases z with z | z
  · exact .inl z
  · exact .inr z.1
theorem Rs.step (r : Rs b F H σ δ) (s : Stp δ F H F' H') : Rs b F' H' σ δ where
  wd := r.wd.step r.psl s
  len := r.len
  slot := fun i sl h => by
    have q := r.slot i sl h
    cases sl with
    | no => trivial
    | dat d =>
      obtain ⟨v, h1, h2⟩ := q
      exact ⟨v, h1, rp_mono s.sf h2⟩
    | scr ns =>
      obtain ⟨a, h1, h2⟩ := q
      exact ⟨a, h1, s.sf.seq h2⟩
    | own a c =>
      obtain ⟨h1, h2, h3, o, h4, h5⟩ := q
      refine ⟨h1, ?_, h3, ?_⟩
      · rw [s.gr a (by rw [h4]; exact fun z => nomatch z)]; exact h2
      · cases c with
        | pot =>
          obtain ⟨x, y, e⟩ := s.pt i a h
          exact ⟨_, e, x, y, rfl⟩
        | lst ds =>
          refine ⟨o, s.ch a o h4 fun j hj => ?_, h5.mono s.sf⟩
          have e := r.apart i j a _ _ h hj
          subst e
          rw [h] at hj
          cases hj
  apart := r.apart
  er := r.er
/-- a new object -/
theorem Rs.new (r : Rs b F H σ δ) {p : Addr} {o : HO} (h : H p = none) : Stp δ F H F (upd H p o) where
  sf := .refl _
  ex := r.wd.ex.trans (same_new h)
  gr := fun _ _ => rfl
  ch := fun a u e _ => same_new h a u e
  pt := fun j a q => by
    obtain ⟨x, y, e⟩ := r.pot_at q
    exact ⟨x, y, same_new h a _ e⟩
/-- a new object, frozen -/
theorem Rs.frz (r : Rs b F H σ δ) {p : Addr} {o : HO} (h : H p = none) : Stp δ F H (upd F p o) (upd H p o) where
  sf := same_new (Same.free r.wd.ex h)
  ex := fun a u e => by
    by_cases q : a = p
    · subst q; rw [upd_same] at e ⊢; exact e
    · rw [upd_ne q] at e ⊢; exact r.wd.ex a u e
  gr := fun a n => upd_ne fun e => n (by rw [e]; exact h)
  ch := fun a u e _ => same_new h a u e
  pt := fun j a q => by
    obtain ⟨x, y, e⟩ := r.pot_at q
    exact ⟨x, y, same_new h a _ e⟩
/-- an object that stands new in H' is frozen -/
theorem Stp.freeze (s : Stp δ F H F' H') {p : Addr} {o : HO} (h : H p = none) (n : F' p = none) (e : H' p = some o) : Stp δ F H (upd F' p o) H' where
  sf := s.sf.trans (same_new n)
  ex := fun a u q => by
    by_cases z : a = p
    · subst z; rw [upd_same] at q; rw [← q]; exact e
    · rw [upd_ne z] at q; exact s.ex a u q
  gr := fun a m => (upd_ne fun z => m (by rw [z]; exact h)).trans (s.gr a m)
  ch := s.ch
  pt := s.pt
end
end Fs

namespace Fs
open PySem PySem.Spec PyProof.Rows L2

/-! ### what an expression, a test, arguments, a walked thing, a target, a statement do -/
def Ve (b : Bx) (te : TE) (δ : List Sl) (Q : Sl → Prop) : Prop := ∀ F H σ, Rs b F H σ δ → ∀ k : VK, (∀ F' H' v s, Stp δ F H F' H' → ResOk b.K H F' H' v s → Q s → k v H') → te σ H k
def Vt (b : Bx) (tt : TT) (δ : List Sl) (Q : Bool → Prop) : Prop := ∀ F H σ, Rs b F H σ δ → ∀ k : Bool → Hp → Prop, (∀ F' H' c, Stp δ F H F' H' → Q c → k c H') → tt σ H k
/-- an argument: data, the script, a pot of a slot -/
def ArgOk (K : PySem.W.Frag) (δ : List Sl) (F : Hp) (v : V) : Sl → Prop
  | .no => False
  | .dat d => Rp K F v d
  | .scr ns => ∃ a, v = .ref a ∧ SqL K F a (ns.map V.int)
  | .own a (.lst _) => False
  | .own a .pot => v = .ref a ∧ ∃ j : Nat, δ[j]? = some (.own a .pot)
inductive ArgsOk (K : PySem.W.Frag) (δ : List Sl) (F : Hp) : List V → List Sl → Prop
  | nil : ArgsOk K δ F [] []
  | cons {v : V} {s : Sl} {vs : List V} {ss : List Sl} : ArgOk K δ F v s → ArgsOk K δ F vs ss → ArgsOk K δ F (v :: vs) (s :: ss)
theorem ArgOk.mono {K : PySem.W.Frag} {δ : List Sl} {F F' : Hp} {v : V} {s : Sl} (e : Same F F') (h : ArgOk K δ F v s) : ArgOk K δ F' v s := by
  cases s with
  | no => exact h
  | dat d => exact rp_mono e h
  | scr ns => obtain ⟨a, h1, h2⟩ := h; exact ⟨a, h1, e.seq h2⟩
  | own a c => cases c <;> exact h
def Va (b : Bx) (ta : TA) (δ : List Sl) (Q : List Sl → Prop) : Prop := ∀ F H σ, Rs b F H σ δ → ∀ k : List V → Hp → Prop, (∀ F' H' vs ss, Stp δ F H F' H' → ArgsOk b.K δ F' vs ss → Q ss → k vs H') → ta σ H k
/-- an iterator that gives the data ds -/
structure WalkD (K : PySem.W.Frag) (F : Hp) (J : It) (ds : List PyData) : Prop where
  goes : ∀ i H, i < ds.length → Same F H → J.go i H
  stops : ∀ H, Same F H → J.stop ds.length H
  yields : ∀ (i : Nat) H x H' d, ds[i]? = some d → Same F H → J.yld i H x H' → (H' = H ∧ Rp K F x d) ∨ ∃ T vs es, x = .ref T ∧ H T = none ∧ H' = upd H T (.tup vs) ∧ RpAll K F vs es ∧ d = .tuple es
def Vi (b : Bx) (wi : TI) (δ : List Sl) (Q : List PyData → Prop) : Prop := ∀ F H σ, Rs b F H σ δ → ∀ k : It → Hp → Prop, (∀ F' H' J ds, Stp δ F H F' H' → WalkD b.K F' J ds → Q ds → k J H') → wi σ H k
/-- a target takes data -/
def Wg (b : Bx) (g : TG) (d : PyData) (δ : List Sl) (Q : List Sl → Prop) : Prop := ∀ F H σ v, Rs b F H σ δ → Rp b.K F v d → ∀ k : L2.St → Hp → Prop, (∀ F' H' σ' δ', Same F F' → Rs b F' H' σ' δ' → Q δ' → k σ' H') → g v σ H k
structure Po where
  nx : List Sl → Prop
  rt : Sl → Prop
  bk : List Sl → Prop := fun _ => False
  ct : List Sl → Prop := fun _ => False
def ResR (b : Bx) (F' H' : Hp) (v : V) : Sl → Prop
  | .no => False
  | .scr _ => False
  | .dat d => Rp b.K F' v d
  | .own a c => v = .ref a ∧ F' a = none ∧ b.H0 a = none ∧ ∃ o, H' a = some o ∧ CtOk b.K F' c o
structure EndsOk (b : Bx) (F : Hp) (p : Po) (D : Ends) : Prop where
  nx : ∀ F' H' σ' δ', Same F F' → Rs b F' H' σ' δ' → p.nx δ' → D.nx σ' H'
  bk : ∀ F' H' σ' δ', Same F F' → Rs b F' H' σ' δ' → p.bk δ' → D.bk σ' H'
  ct : ∀ F' H' σ' δ', Same F F' → Rs b F' H' σ' δ' → p.ct δ' → D.ct σ' H'
  rt : ∀ F' H' v s, Wd b F' H' → ResR b F' H' v s → p.rt s → D.rt v H'
theorem EndsOk.mono {b : Bx} {F F' : Hp} {p : Po} {D : Ends} (e : Same F F') (h : EndsOk b F p D) : EndsOk b F' p D :=
  ⟨fun _ _ _ _ s => h.nx _ _ _ _ (e.trans s), fun _ _ _ _ s => h.bk _ _ _ _ (e.trans s), fun _ _ _ _ s => h.ct _ _ _ _ (e.trans s), h.rt⟩
def Ws (b : Bx) (ts : TS) (δ : List Sl) (p : Po) : Prop := ∀ F H σ D, Rs b F H σ δ → EndsOk b F p D → ts D σ H

section
variable {b : Bx} {δ : List Sl} {Q : Sl → Prop} {R : Bool → Prop} {te ta tb tc : TE} {t u : TT}

theorem Ve.mono {Q' : Sl → Prop} (h : Ve b te δ Q) (q : ∀ s, Q s → Q' s) : Ve b te δ Q' := fun F H σ r k hk => h F H σ r k fun F' H' v s st ro qs => hk F' H' v s st ro (q s qs)
theorem Vt.mono {Q' : Bool → Prop} (h : Vt b t δ R) (q : ∀ s, R s → Q' s) : Vt b t δ Q' := fun F H σ r k hk => h F H σ r k fun F' H' c st qs => hk F' H' c st (q c qs)
/-! ### names, constants -/
theorem ve_var {i : Nat} {d : PyData} (h : δ[i]? = some (.dat d)) (q : Q (.dat d)) : Ve b (tVar i) δ Q := fun F H σ r k hk => by
  obtain ⟨v, h1, h2⟩ := r.slot i _ h
  exact ⟨v, h1, hk F H v (.dat d) r.refl h2 q⟩
theorem ve_int {i : Int} (q : Q (.dat (.int i))) : Ve b (tC (.int i)) δ Q := fun F H σ r k hk => hk F H _ (.dat _) r.refl (Rp.int i) q
theorem ve_str {x : Str} (q : Q (.dat (.str x))) : Ve b (tC (.str x)) δ Q := fun F H σ r k hk => hk F H _ (.dat _) r.refl (Rp.str x) q
theorem ve_bl {x : Bool} (q : Q (.dat (.bool x))) : Ve b (tC (.bl x)) δ Q := fun F H σ r k hk => hk F H _ (.dat _) r.refl (Rp.bl x) q
theorem ve_non (q : Q (.dat .none)) : Ve b (tC .non) δ Q := fun F H σ r k hk => hk F H _ (.dat _) r.refl Rp.non q
/-- a global that is a tuple of the written part -/
theorem ve_tupK {a : Addr} {vs : List V} {ds : List PyData} (h : ∀ H, SqT b.K H a vs) (hd : ∀ F, RpAll b.K F vs ds) (q : Q (.dat (.tuple ds))) : Ve b (tC (.ref a)) δ Q := fun F H σ r k hk => hk F H _ (.dat _) r.refl (Rp.tup (h F) (hd F)) q

/-! ### two operands -/
/-- a two-place rule over data -/
def Ro (b : Bx) (δ : List Sl) (r : R2) (x y : PyData) (Q : Sl → Prop) : Prop := ∀ F H σ vx vy, Rs b F H σ δ → Rp b.K F vx x → Rp b.K F vy y → ∀ k : VK, (∀ F' H' v s, Stp δ F H F' H' → ResOk b.K H F' H' v s → Q s → k v H') → r vx vy H k
def Ru (b : Bx) (δ : List Sl) (r : V → Hp → VK → Prop) (x : PyData) (Q : Sl → Prop) : Prop := ∀ F H σ vx, Rs b F H σ δ → Rp b.K F vx x → ∀ k : VK, (∀ F' H' v s, Stp δ F H F' H' → ResOk b.K H F' H' v s → Q s → k v H') → r vx H k
theorem ResOk.back {K : PySem.W.Frag} {F H F1 H1 H2 F2 : Hp} {v : V} {s : Sl} (st : Stp δ F H F1 H1) (h : ResOk K H1 F2 H2 v s) : ResOk K H F2 H2 v s := by
  cases s with
  | no => exact h
  | scr _ => exact h
  | dat d => exact h
  | own a c => obtain ⟨h1, h2, h3, h4⟩ := h; exact ⟨h1, h2, st.back h3, h4⟩
theorem ve_op {r : R2} (h : Ve b ta δ fun s => ∃ x, s = .dat x ∧ Ve b tb δ fun s' => ∃ y, s' = .dat y ∧ Ro b δ r x y Q) : Ve b (tOp r ta tb) δ Q := fun F H σ rs k hk =>
  h F H σ rs _ fun F1 H1 v1 s1 st1 ro1 ⟨x, e1, q1⟩ => by
    subst e1
    refine q1 F1 H1 σ (rs.step st1) _ fun F2 H2 v2 s2 st2 ro2 ⟨y, e2, q2⟩ => ?_
    subst e2
    refine q2 F2 H2 σ v1 v2 ((rs.step st1).step st2) (rp_mono st2.sf ro1) ro2 _ fun F3 H3 v s st3 ro qs => ?_
    exact hk F3 H3 v s ((st1.trans st2).trans st3) (ro.back (st1.trans st2)) qs
theorem ve_un {r : V → Hp → VK → Prop} (h : Ve b ta δ fun s => ∃ x, s = .dat x ∧ Ru b δ r x Q) : Ve b (tUn r ta) δ Q := fun F H σ rs k hk =>
  h F H σ rs _ fun F1 H1 v1 s1 st1 ro1 ⟨x, e1, q1⟩ => by
    subst e1
    refine q1 F1 H1 σ v1 (rs.step st1) ro1 _ fun F3 H3 v s st3 ro qs => ?_
    exact hk F3 H3 v s (st1.trans st3) (ro.back st1) qs
theorem ve_chain {r r' : R2} (h : Ve b ta δ fun s => ∃ x, s = .dat x ∧ Ve b tb δ fun s' => ∃ y, s' = .dat y ∧ Ro b δ r x y fun s => ∃ c, s = .dat (.bool c) ∧
    (c = true → Ve b tc δ fun s'' => ∃ z, s'' = .dat z ∧ Ro b δ r' y z Q) ∧ (c = false → Q (.dat (.bool false)))) : Ve b (tChain r r' ta tb tc) δ Q := fun F H σ rs k hk =>
  h F H σ rs _ fun F1 H1 v1 s1 st1 ro1 ⟨x, e1, q1⟩ => by
    subst e1
    refine q1 F1 H1 σ (rs.step st1) _ fun F2 H2 v2 s2 st2 ro2 ⟨y, e2, q2⟩ => ?_
    subst e2
    refine q2 F2 H2 σ v1 v2 ((rs.step st1).step st2) (rp_mono st2.sf ro1) ro2 _ fun F3 H3 v3 s3 st3 ro3 ⟨c, e3, q3, q4⟩ => ?_
    subst e3
    cases ro3
    have st := (st1.trans st2).trans st3
    refine ⟨c, rfl, ?_⟩
    cases c with
    | false => exact iteF (hk F3 H3 _ (.dat _) st (Rp.bl false) (q4 rfl))
    | true =>
      refine iteT (q3 rfl F3 H3 σ (rs.step st) _ fun F4 H4 v4 s4 st4 ro4 ⟨z, e4, q5⟩ => ?_)
      subst e4
      refine q5 F4 H4 σ v2 v4 ((rs.step st).step st4) (rp_mono (st3.sf.trans st4.sf) ro2) ro4 _ fun F5 H5 v s st5 ro qs => ?_
      exact hk F5 H5 v s ((st.trans st4).trans st5) (ro.back (st.trans st4)) qs
/-- a plain answer -/
theorem pure_ro {r : R2} {x y z : PyData} {v : V} (hv : ∀ F, Rp b.K F v z) (h : ∀ F H vx vy, Rp b.K F vx x → Rp b.K F vy y → Same F H → ∀ k : VK, k v H → r vx vy H k) (q : Q (.dat z)) : Ro b δ r x y Q := fun F H σ vx vy rs hx hy k hk =>
  h F H vx vy hx hy rs.wd.ex k (hk F H v (.dat z) rs.refl (hv F) q)
theorem ro_I0 {g : Int → Int → Int} {i j : Int} (q : Q (.dat (.int (g i j)))) : Ro b δ (rI0 fun i j => .int (g i j)) (.int i) (.int j) Q :=
  pure_ro (fun _ => Rp.int _) (fun F H vx vy hx hy _ k hk => by cases hx; cases hy; exact ⟨i, j, rfl, rfl, hk⟩) q
theorem ro_I {C : Int → Int → Prop} {g : Int → Int → Int} {i j : Int} (c : C i j) (q : Q (.dat (.int (g i j)))) : Ro b δ (rI C fun i j => .int (g i j)) (.int i) (.int j) Q :=
  pure_ro (fun _ => Rp.int _) (fun F H vx vy hx hy _ k hk => by cases hx; cases hy; exact ⟨i, j, rfl, rfl, c, hk⟩) q
theorem ro_B0 {g : Int → Int → Bool} {i j : Int} (q : Q (.dat (.bool (g i j)))) : Ro b δ (rI0 fun i j => .bl (g i j)) (.int i) (.int j) Q :=
  pure_ro (fun _ => Rp.bl _) (fun F H vx vy hx hy _ k hk => by cases hx; cases hy; exact ⟨i, j, rfl, rfl, hk⟩) q
theorem ru_U {g : Int → Int} {i : Int} (q : Q (.dat (.int (g i)))) : Ru b δ (rU fun i => .int (g i)) (.int i) Q := fun F H σ vx rs hx k hk => by
  cases hx
  exact ⟨i, rfl, hk F H _ (.dat _) rs.refl (Rp.int _) q⟩
def rEqP (K : PySem.W.Frag) : R2 := fun x y H Q => ∃ d e, Dp K H x d ∧ Dp K H y e ∧ d.plain = true ∧ e.plain = true ∧ min d.depth e.depth ≤ 64 ∧ Q (.bl (PyData.eqv d e)) H
def rNeP (K : PySem.W.Frag) : R2 := fun x y H Q => ∃ d e, Dp K H x d ∧ Dp K H y e ∧ d.plain = true ∧ e.plain = true ∧ min d.depth e.depth ≤ 64 ∧ Q (.bl (!PyData.eqv d e)) H
theorem op_eqP {X : Cx} (hu : X.A.units + 64 < cLine) : OpR X (compareOp .Eq) (rEqP X.K) := by
  intro pins s σ H x y v u Q I rx ry h
  obtain ⟨d, e, hd, he, sd, se, hm, q⟩ := h
  obtain ⟨as, r1⟩ := Dp.reads I d x v hd rx
  obtain ⟨bs, r2⟩ := Dp.reads I e y u he ry
  exact SeqAt.eq_plain r1 r2 sd se (by omega) ⟨.bl _, H, I, rfl, q⟩
theorem op_neP {X : Cx} (hu : X.A.units + 64 < cLine) : OpR X (compareOp .NotEq) (rNeP X.K) := by
  intro pins s σ H x y v u Q I rx ry h
  obtain ⟨d, e, hd, he, sd, se, hm, q⟩ := h
  obtain ⟨as, r1⟩ := Dp.reads I d x v hd rx
  obtain ⟨bs, r2⟩ := Dp.reads I e y u he ry
  exact SeqAt.ne_plain r1 r2 sd se (by omega) ⟨.bl _, H, I, rfl, q⟩
theorem ro_eqM {x y : PyData} (hm : min x.depth y.depth ≤ 64) (q : Q (.dat (.bool (PyData.eqv x y)))) : Ro b δ (rEqP b.K) x y Q :=
  pure_ro (fun _ => Rp.bl _) (fun F H vx vy h1 h2 e k hk => ⟨x, y, rp_dp e h1, rp_dp e h2, rp_plain h1, rp_plain h2, hm, hk⟩) q
theorem ro_neM {x y : PyData} (hm : min x.depth y.depth ≤ 64) (q : Q (.dat (.bool (!PyData.eqv x y)))) : Ro b δ (rNeP b.K) x y Q :=
  pure_ro (fun _ => Rp.bl _) (fun F H vx vy h1 h2 e k hk => ⟨x, y, rp_dp e h1, rp_dp e h2, rp_plain h1, rp_plain h2, hm, hk⟩) q
theorem ro_eqL {x y : PyData} (hm : x.depth ≤ 64) (q : Q (.dat (.bool (PyData.eqv x y)))) : Ro b δ (rEqP b.K) x y Q := ro_eqM (Nat.le_trans (Nat.min_le_left _ _) hm) q
theorem ro_neL {x y : PyData} (hm : x.depth ≤ 64) (q : Q (.dat (.bool (!PyData.eqv x y)))) : Ro b δ (rNeP b.K) x y Q := ro_neM (Nat.le_trans (Nat.min_le_left _ _) hm) q
theorem ro_eqR {x y : PyData} (hm : y.depth ≤ 64) (q : Q (.dat (.bool (PyData.eqv x y)))) : Ro b δ (rEqP b.K) x y Q := ro_eqM (Nat.le_trans (Nat.min_le_right _ _) hm) q
theorem ro_neR {x y : PyData} (hm : y.depth ≤ 64) (q : Q (.dat (.bool (!PyData.eqv x y)))) : Ro b δ (rNeP b.K) x y Q := ro_neM (Nat.le_trans (Nat.min_le_right _ _) hm) q
theorem ro_eqD {x y : PyData} (hx : SeqAt.shaped x = true) (_ : SeqAt.shaped y = true) (q : Q (.dat (.bool (PyData.eqv x y)))) : Ro b δ (rEqP b.K) x y Q := ro_eqL (SeqAt.depth_of_shaped hx) q
theorem ro_neD {x y : PyData} (hx : SeqAt.shaped x = true) (_ : SeqAt.shaped y = true) (q : Q (.dat (.bool (!PyData.eqv x y)))) : Ro b δ (rNeP b.K) x y Q := ro_neL (SeqAt.depth_of_shaped hx) q
/-! is None -/
def rIsNo : R2 := fun x y H Q => y = .non ∧ Q (.bl (decide (x = .non))) H
def rNotNo : R2 := fun x y H Q => y = .non ∧ Q (.bl (!decide (x = .non))) H
theorem op_isNo {X : Cx} : OpR X (compareOp .Is) rIsNo := op_isN
theorem op_notNo {X : Cx} : OpR X (compareOp .IsNot) rNotNo := op_notN
def isNo : PyData → Bool
  | .none => true
  | _ => false
theorem isNo_eq {K : PySem.W.Frag} {F : Hp} {v : V} {d : PyData} (h : Rp K F v d) : decide (v = .non) = isNo d := by
  cases h <;> rfl
theorem ro_isNo {x : PyData} (q : Q (.dat (.bool (isNo x)))) : Ro b δ rIsNo x .none Q := fun F H σ vx vy rs hx hy k hk => by
  cases hy
  exact ⟨rfl, by rw [isNo_eq hx]; exact hk F H _ (.dat _) rs.refl (Rp.bl _) q⟩
theorem ro_notNo {x : PyData} (q : Q (.dat (.bool (!isNo x)))) : Ro b δ rNotNo x .none Q := fun F H σ vx vy rs hx hy k hk => by
  cases hy
  exact ⟨rfl, by rw [isNo_eq hx]; exact hk F H _ (.dat _) rs.refl (Rp.bl _) q⟩
/-! subscripts -/
theorem at_rps {K : PySem.W.Frag} {F : Hp} {xs : List V} {ds : List PyData} {i : Int} {d : PyData} (ha : RpAll K F xs ds) (h : atI ds i = some d) : ∃ v, atI xs i = some v ∧ Rp K F v d := by
  have e : ixN xs.length i = ixN ds.length i := by rw [rps_len ha]
  unfold atI at h ⊢
  cases q1 : ixN ds.length i with
  | none => rw [q1] at h; cases h
  | some j =>
    rw [q1] at h
    obtain ⟨v, h1, h2⟩ := rps_get ha (show ds[j]? = some d from h)
    exact ⟨v, by rw [e, q1]; exact h1, h2⟩
theorem ro_ixL {ds : List PyData} {i : Int} {d : PyData} (h : atI ds i = some d) (q : Q (.dat d)) : Ro b δ (rIx b.K) (.list ds) (.int i) Q := fun F H σ vx vy rs hx hy k hk => by
  cases hy
  cases hx with
  | @lst a xs _ hs ha =>
    obtain ⟨v, h1, h2⟩ := at_rps ha h
    exact .inl ⟨a, xs, i, v, rfl, rfl, .inl (.inl (rs.wd.ex _ _ hs)), h1, hk F H v (.dat d) rs.refl h2 q⟩
theorem ro_ixT {ds : List PyData} {i : Int} {d : PyData} (h : atI ds i = some d) (q : Q (.dat d)) : Ro b δ (rIx b.K) (.tuple ds) (.int i) Q := fun F H σ vx vy rs hx hy k hk => by
  cases hy
  cases hx with
  | @tup a xs _ hs ha =>
    obtain ⟨v, h1, h2⟩ := at_rps ha h
    exact .inr (.inl ⟨a, xs, i, v, rfl, rfl, seqT rs.wd.ex hs, h1, hk F H v (.dat d) rs.refl h2 q⟩)
theorem ro_ixS {z : Str} {i : Int} {c : Nat} (hl : z.length ≤ sizeLine) (h : atI z.cps.toList i = some c) (q : Q (.dat (.str ⟨#[c]⟩))) : Ro b δ (rIx b.K) (.str z) (.int i) Q := fun F H σ vx vy rs hx hy k hk => by
  cases hy
  cases hx
  exact .inr (.inr ⟨z, i, c, rfl, rfl, hl, h, hk F H _ (.dat _) rs.refl (Rp.str _) q⟩)
/-- an item of the script -/
theorem ve_ixScr {i : Nat} {ns : List Int} (h : δ[i]? = some (.scr ns)) (hb : Ve b tb δ fun s => ∃ (j : Int) (n : Int), s = .dat (.int j) ∧ atI ns j = some n ∧ Q (.dat (.int n))) : Ve b (tOp (rIx b.K) (tVar i) tb) δ Q := fun F H σ rs k hk => by
  obtain ⟨a, h1, h2⟩ := rs.slot i _ h
  refine ⟨_, h1, hb F H σ rs _ fun F1 H1 v1 s1 st1 ro1 ⟨j, n, e1, e2, q1⟩ => ?_⟩
  subst e1
  cases ro1
  refine .inl ⟨a, ns.map V.int, j, .int n, rfl, rfl, st1.ex.seq (st1.sf.seq h2), ?_, hk F1 H1 _ (.dat _) st1 (Rp.int n) q1⟩
  unfold atI at e2 ⊢
  rw [List.length_map]
  cases q : ixN ns.length j with
  | none => rw [q] at e2; cases e2
  | some m =>
    rw [q] at e2
    have e3 : ns[m]? = some n := e2
    show (ns.map V.int)[m]? = some (.int n)
    rw [List.getElem?_map, e3]; rfl
/-- an item of an owned list -/
theorem ve_ixOwn {i : Nat} {a : Addr} {ds : List PyData} (h : δ[i]? = some (.own a (.lst ds))) (hb : Ve b tb δ fun s => ∃ (j : Int) (d : PyData), s = .dat (.int j) ∧ atI ds j = some d ∧ Q (.dat d)) : Ve b (tOp (rIx b.K) (tVar i) tb) δ Q := fun F H σ rs k hk => by
  have h0 := rs.slot i _ h
  refine ⟨_, h0.1, hb F H σ rs _ fun F1 H1 v1 s1 st1 ro1 ⟨j, d, e1, e2, q1⟩ => ?_⟩
  subst e1
  cases ro1
  obtain ⟨_, _, _, o, h3, vs, rfl, h4⟩ := (rs.step st1).slot i _ h
  obtain ⟨v, h5, h6⟩ := at_rps h4 e2
  exact .inl ⟨a, vs, j, v, rfl, rfl, .inl (.inl h3), h5, hk F1 H1 v (.dat d) st1 h6 q1⟩

/-! ### tests, and, or, not, if -/
theorem vt_B (h : Ve b te δ fun s => ∃ c, s = .dat (.bool c) ∧ R c) : Vt b (tB te) δ R := fun F H σ rs k hk =>
  h F H σ rs _ fun F1 H1 v1 s1 st1 ro1 ⟨c, e1, q1⟩ => by
    subst e1
    cases ro1
    exact ⟨c, rfl, hk F1 H1 c st1 q1⟩
theorem vt_test (h : Ve b te δ fun s => ∃ c, s = .dat (.bool c) ∧ R c) : Vt b (tTest te) δ R := vt_B h
theorem vt_yes (h : R true) : Vt b tYes δ R := fun F H σ rs k hk => hk F H true rs.refl h
theorem vt_and (h : Vt b t δ fun c => (c = true → Vt b u δ R) ∧ (c = false → R false)) : Vt b (tAnd t u) δ R := fun F H σ rs k hk =>
  h F H σ rs _ fun F1 H1 c st1 ⟨q1, q2⟩ => by
    cases c with
    | true => exact iteT (q1 rfl F1 H1 σ (rs.step st1) _ fun F2 H2 c2 st2 q => hk F2 H2 c2 (st1.trans st2) q)
    | false => exact iteF (hk F1 H1 false st1 (q2 rfl))
theorem vt_or (h : Vt b t δ fun c => (c = true → R true) ∧ (c = false → Vt b u δ R)) : Vt b (tOr t u) δ R := fun F H σ rs k hk =>
  h F H σ rs _ fun F1 H1 c st1 ⟨q1, q2⟩ => by
    cases c with
    | false => exact iteF (q2 rfl F1 H1 σ (rs.step st1) _ fun F2 H2 c2 st2 q => hk F2 H2 c2 (st1.trans st2) q)
    | true => exact iteT (hk F1 H1 true st1 (q1 rfl))
theorem vt_not (h : Vt b t δ fun c => R (!c)) : Vt b (tNot t) δ R := fun F H σ rs k hk =>
  h F H σ rs _ fun F1 H1 c st1 q => hk F1 H1 (!c) st1 q
theorem ve_andV (h : Ve b ta δ fun s => ∃ c, s = .dat (.bool c) ∧ (c = true → Ve b tb δ Q) ∧ (c = false → Q (.dat (.bool false)))) : Ve b (tAndV ta tb) δ Q := fun F H σ rs k hk =>
  h F H σ rs _ fun F1 H1 v1 s1 st1 ro1 ⟨c, e1, q1, q2⟩ => by
    subst e1
    cases ro1
    refine ⟨c, rfl, ?_⟩
    cases c with
    | true => exact iteT (q1 rfl F1 H1 σ (rs.step st1) _ fun F2 H2 v s st2 ro q => hk F2 H2 v s (st1.trans st2) (ro.back st1) q)
    | false => exact iteF (hk F1 H1 _ (.dat _) st1 (Rp.bl false) (q2 rfl))
theorem ve_orV (h : Ve b ta δ fun s => ∃ c, s = .dat (.bool c) ∧ (c = true → Q (.dat (.bool true))) ∧ (c = false → Ve b tb δ Q)) : Ve b (tOrV ta tb) δ Q := fun F H σ rs k hk =>
  h F H σ rs _ fun F1 H1 v1 s1 st1 ro1 ⟨c, e1, q1, q2⟩ => by
    subst e1
    cases ro1
    refine ⟨c, rfl, ?_⟩
    cases c with
    | false => exact iteF (q2 rfl F1 H1 σ (rs.step st1) _ fun F2 H2 v s st2 ro q => hk F2 H2 v s (st1.trans st2) (ro.back st1) q)
    | true => exact iteT (hk F1 H1 _ (.dat _) st1 (Rp.bl true) (q1 rfl))
theorem ve_notV (h : Ve b ta δ fun s => ∃ c, s = .dat (.bool c) ∧ Q (.dat (.bool (!c)))) : Ve b (tNotV ta) δ Q := fun F H σ rs k hk =>
  h F H σ rs _ fun F1 H1 v1 s1 st1 ro1 ⟨c, e1, q1⟩ => by
    subst e1
    cases ro1
    exact ⟨c, rfl, hk F1 H1 _ (.dat _) st1 (Rp.bl _) q1⟩
theorem ve_if (h : Vt b t δ fun c => (c = true → Ve b ta δ Q) ∧ (c = false → Ve b tb δ Q)) : Ve b (tIf t ta tb) δ Q := fun F H σ rs k hk =>
  h F H σ rs _ fun F1 H1 c st1 ⟨q1, q2⟩ => by
    cases c with
    | true => exact iteT (q1 rfl F1 H1 σ (rs.step st1) _ fun F2 H2 v s st2 ro q => hk F2 H2 v s (st1.trans st2) (ro.back st1) q)
    | false => exact iteF (q2 rfl F1 H1 σ (rs.step st1) _ fun F2 H2 v s st2 ro q => hk F2 H2 v s (st1.trans st2) (ro.back st1) q)

/-! ### arguments, displays -/
variable {tr : TA} {Qs : List Sl → Prop}
theorem va_nil (q : Qs []) : Va b tNil δ Qs := fun F H σ rs k hk => hk F H [] [] rs.refl .nil q
theorem va_cons (h : Ve b te δ fun s => ∃ d, s = .dat d ∧ Va b tr δ fun ss => Qs (.dat d :: ss)) : Va b (tCons te tr) δ Qs := fun F H σ rs k hk =>
  h F H σ rs _ fun F1 H1 v1 s1 st1 ro1 ⟨d, e1, q1⟩ => by
    subst e1
    exact q1 F1 H1 σ (rs.step st1) _ fun F2 H2 vs ss st2 ao q => hk F2 H2 (v1 :: vs) (.dat d :: ss) (st1.trans st2) (.cons (rp_mono st2.sf ro1) ao) q
theorem va_pot {i : Nat} {a : Addr} (h : δ[i]? = some (.own a .pot)) (hr : Va b tr δ fun ss => Qs (.own a .pot :: ss)) : Va b (tCons (tVar i) tr) δ Qs := fun F H σ rs k hk => by
  have h0 := rs.slot i _ h
  exact ⟨_, h0.1, hr F H σ rs _ fun F2 H2 vs ss st2 ao q => hk F2 H2 (.ref a :: vs) (.own a .pot :: ss) st2 (.cons ⟨rfl, i, h⟩ ao) q⟩
theorem va_scr {i : Nat} {ns : List Int} (h : δ[i]? = some (.scr ns)) (hr : Va b tr δ fun ss => Qs (.scr ns :: ss)) : Va b (tCons (tVar i) tr) δ Qs := fun F H σ rs k hk => by
  obtain ⟨a, h1, h2⟩ := rs.slot i _ h
  exact ⟨_, h1, hr F H σ rs _ fun F2 H2 vs ss st2 ao q => hk F2 H2 (.ref a :: vs) (.scr ns :: ss) st2 (.cons ⟨a, rfl, st2.sf.seq h2⟩ ao) q⟩
/-- all arguments data -/
def Dats (ss : List Sl) (ds : List PyData) : Prop := ss = ds.map .dat
theorem args_dats {K : PySem.W.Frag} {F : Hp} : ∀ {vs : List V} {ds : List PyData}, ArgsOk K δ F vs (ds.map .dat) → RpAll K F vs ds
  | _, [], .nil => .nil
  | _, _ :: _, .cons h t => .cons h (args_dats t)
theorem small_line {n : Nat} (h : n ≤ 100000) : n ≤ sizeLine := Nat.le_trans h (by decide)
theorem small_lt {n : Nat} (h : n < 100000) : n < sizeLine := Nat.lt_of_lt_of_le h (by decide)
theorem ve_tup (h : Va b tr δ fun ss => ∃ ds : List PyData, ss = ds.map .dat ∧ ds.length ≤ 100000 ∧ Q (.dat (.tuple ds))) : Ve b (tTup tr) δ Q := fun F H σ rs k hk =>
  h F H σ rs _ fun F1 H1 vs ss st1 ao ⟨ds, e, hl, q⟩ => by
    subst e
    have ra := args_dats ao
    refine ⟨by rw [rps_len ra]; exact small_line hl, fun p hp => ?_⟩
    have st2 := (rs.step st1).frz (o := .tup vs) hp
    exact hk _ _ (.ref p) (.dat (.tuple ds)) (st1.trans st2) (Rp.tup (.inl (.inl upd_same)) (rps_mono st2.sf ra)) q
theorem ve_lst (h : Va b tr δ fun ss => ∃ ds : List PyData, ss = ds.map .dat ∧ ds.length ≤ 100000 ∧ Q (.dat (.list ds))) : Ve b (tLst tr) δ Q := fun F H σ rs k hk =>
  h F H σ rs _ fun F1 H1 vs ss st1 ao ⟨ds, e, hl, q⟩ => by
    subst e
    have ra := args_dats ao
    refine ⟨by rw [rps_len ra]; exact small_line hl, fun p hp => ?_⟩
    have st2 := (rs.step st1).frz (o := .lst vs) hp
    exact hk _ _ (.ref p) (.dat (.list ds)) (st1.trans st2) (Rp.lst upd_same (rps_mono st2.sf ra)) q
theorem ve_lstO (h : Va b tr δ fun ss => ∃ ds : List PyData, ss = ds.map .dat ∧ ds.length ≤ 100000 ∧ ∀ a, Q (.own a (.lst ds))) : Ve b (tLst tr) δ Q := fun F H σ rs k hk =>
  h F H σ rs _ fun F1 H1 vs ss st1 ao ⟨ds, e, hl, q⟩ => by
    subst e
    have ra := args_dats ao
    refine ⟨by rw [rps_len ra]; exact small_line hl, fun p hp => ?_⟩
    have st2 := (rs.step st1).new (o := .lst vs) hp
    exact hk _ _ (.ref p) (.own p (.lst ds)) (st1.trans st2) ⟨rfl, Same.free (rs.step st1).wd.ex hp, st1.back hp, _, upd_same, vs, rfl, ra⟩ (q p)
theorem ve_potO (h : Va b tr δ fun ss => ∃ x y : Int, ss = [.dat (.int x), .dat (.int y)] ∧ (0 ≤ y ∧ y < 2 ^ 40) ∧ ∀ a, Q (.own a .pot)) : Ve b (tLst tr) δ Q := fun F H σ rs k hk =>
  h F H σ rs _ fun F1 H1 vs ss st1 ao ⟨x, y, e, hy, q⟩ => by
    subst e
    have ra := args_dats (ds := [.int x, .int y]) ao
    refine ⟨by rw [rps_len ra]; exact small_line (by show 2 ≤ 100000; decide), fun p hp => ?_⟩
    have st2 := (rs.step st1).new (o := .lst vs) hp
    have ev : vs = [.int x, .int y] := rps_ints (ns := [x, y]) ra
    subst ev
    exact hk _ _ (.ref p) (.own p .pot) (st1.trans st2) ⟨rfl, Same.free (rs.step st1).wd.ex hp, st1.back hp, _, upd_same, x, ⟨y, hy⟩, rfl⟩ (q p)

/-! ### built-ins called -/
def Rc (b : Bx) (δ : List Sl) (r : List V → Hp → VK → Prop) (ss : List Sl) (Q : Sl → Prop) : Prop := ∀ F H σ vs, Rs b F H σ δ → ArgsOk b.K δ F vs ss → ∀ k : VK, (∀ F' H' v s, Stp δ F H F' H' → ResOk b.K H F' H' v s → Q s → k v H') → r vs H k
theorem ve_cb {r : List V → Hp → VK → Prop} (h : Va b tr δ fun ss => Rc b δ r ss Q) : Ve b (tCB r tr) δ Q := fun F H σ rs k hk =>
  h F H σ rs _ fun F1 H1 vs ss st1 ao q => q F1 H1 σ vs (rs.step st1) ao _ fun F2 H2 v s st2 ro qs => hk F2 H2 v s (st1.trans st2) (ro.back st1) qs
/-- a plain answer of data -/
theorem pure_rc {r : List V → Hp → VK → Prop} {ds : List PyData} {z : PyData} {v : V} (hv : ∀ F, Rp b.K F v z) (h : ∀ F H vs, RpAll b.K F vs ds → Same F H → ∀ k : VK, k v H → r vs H k) (q : Q (.dat z)) : Rc b δ r (ds.map .dat) Q := fun F H σ vs rs ao k hk =>
  h F H vs (args_dats ao) rs.wd.ex k (hk F H v (.dat z) rs.refl (hv F) q)
theorem rps_one {K : PySem.W.Frag} {F : Hp} {vs : List V} {d : PyData} (h : RpAll K F vs [d]) : ∃ v, vs = [v] ∧ Rp K F v d := by
  cases h with | cons h t => cases t; exact ⟨_, rfl, h⟩
theorem rps_two {K : PySem.W.Frag} {F : Hp} {vs : List V} {d e : PyData} (h : RpAll K F vs [d, e]) : ∃ v w, vs = [v, w] ∧ Rp K F v d ∧ Rp K F w e := by
  cases h with | cons h t => cases t with | cons h2 t => cases t; exact ⟨_, _, rfl, h, h2⟩
end
end Fs

namespace Fs
open PySem PySem.Spec PyProof.Rows L2
section
variable {b : Bx} {δ : List Sl} {Q : Sl → Prop} {R : Bool → Prop} {te ta tb tc : TE} {t u : TT} {tr : TA}
/-! ### + of ints, lists, tuples, texts -/
def rPlus (K : PySem.W.Frag) : R2 := fun x y H Q => (rI0 fun i j => .int (i + j)) x y H Q ∨ rCat x y H Q ∨ rCatA K x y H Q ∨ (∃ i j, x = .str i ∧ y = .str j ∧ i.length + j.length ≤ sizeLine ∧ Q (.str (i ++ j)) H)
theorem op_plus {X : Cx} : OpR X (binaryOp .Add) (rPlus X.K) := op_add.or (op_cat.or (op_catA.or op_add_str))
theorem ro_addI {i j : Int} (q : Q (.dat (.int (i + j)))) : Ro b δ (rPlus b.K) (.int i) (.int j) Q := fun F H σ vx vy rs hx hy k hk => by
  cases hx; cases hy
  exact .inl ⟨i, j, rfl, rfl, hk F H _ (.dat _) rs.refl (Rp.int _) q⟩
theorem ro_addS {x y : Str} (h : x.length + y.length ≤ sizeLine) (q : Q (.dat (.str (x ++ y)))) : Ro b δ (rPlus b.K) (.str x) (.str y) Q := fun F H σ vx vy rs hx hy k hk => by
  cases hx; cases hy
  exact .inr (.inr (.inr ⟨x, y, rfl, rfl, h, hk F H _ (.dat _) rs.refl (Rp.str _) q⟩))
theorem ro_addL {ds es : List PyData} (h : ds.length + es.length ≤ 100000) (q : Q (.dat (.list (ds ++ es)))) : Ro b δ (rPlus b.K) (.list ds) (.list es) Q := fun F H σ vx vy rs hx hy k hk => by
  cases hx with
  | @lst a xs _ hs ha =>
    cases hy with
    | @lst c ys _ ht hb =>
      refine .inr (.inl ⟨a, c, xs, ys, rfl, rfl, rs.wd.ex _ _ hs, rs.wd.ex _ _ ht, by rw [rps_len ha, rps_len hb]; exact small_line h, fun p hp => ?_⟩)
      have st := rs.frz (o := .lst (xs ++ ys)) hp
      exact hk _ _ (.ref p) (.dat _) st (Rp.lst upd_same (rps_mono st.sf (rps_app ha hb))) q
theorem ro_addT {ds es : List PyData} (h : ds.length + es.length ≤ 100000) (q : Q (.dat (.tuple (ds ++ es)))) : Ro b δ (rPlus b.K) (.tuple ds) (.tuple es) Q := fun F H σ vx vy rs hx hy k hk => by
  cases hx with
  | @tup a xs _ hs ha =>
    cases hy with
    | @tup c ys _ ht hb =>
      have nil_of : ∀ {us : List V} {fs : List PyData}, RpAll b.K F us fs → us = [] → fs = [] := fun hu e => by
        subst e
        cases hu
        rfl
      refine .inr (.inr (.inl ⟨a, c, xs, ys, rfl, rfl, seqT rs.wd.ex hs, seqT rs.wd.ex ht, by rw [rps_len ha, rps_len hb]; exact small_line h, fun z => ?_, fun _ z => ?_, fun _ _ p hp => ?_⟩))
      · have e := nil_of ha z
        subst e
        exact hk F H (.ref c) (.dat (.tuple es)) rs.refl (Rp.tup ht hb) q
      · have e := nil_of hb z
        subst e
        rw [List.append_nil] at q
        exact hk F H (.ref a) (.dat (.tuple ds)) rs.refl (Rp.tup hs ha) q
      · have st := rs.frz (o := .tup (xs ++ ys)) hp
        exact hk _ _ (.ref p) (.dat _) st (Rp.tup (.inl (.inl upd_same)) (rps_mono st.sf (rps_app ha hb))) q
/-! ### * of ints, of a list and an int -/
def rTimes : R2 := fun x y H Q => (rI CMul fun i j => .int (i * j)) x y H Q ∨ rRep x y H Q
theorem op_times {X : Cx} : OpR X (binaryOp .Mult) rTimes := op_mul.or op_rep
theorem ro_mulI {i j : Int} (c : CMul i j) (q : Q (.dat (.int (i * j)))) : Ro b δ rTimes (.int i) (.int j) Q := fun F H σ vx vy rs hx hy k hk => by
  cases hx; cases hy
  exact .inl ⟨i, j, rfl, rfl, c, hk F H _ (.dat _) rs.refl (Rp.int _) q⟩
theorem rps_rep {K : PySem.W.Frag} {F : Hp} {vs : List V} {ds : List PyData} (h : RpAll K F vs ds) : ∀ n : Nat, RpAll K F (List.replicate n vs).flatten (List.replicate n ds).flatten
  | 0 => .nil
  | n + 1 => by
    rw [List.replicate_succ, List.replicate_succ, List.flatten_cons, List.flatten_cons]
    exact rps_app h (rps_rep h n)
theorem ro_repL {ds : List PyData} {n : Int} (h0 : 0 ≤ n) (h : ds.length * n.toNat ≤ 100000) (h1 : n < 2 ^ 62) (q : Q (.dat (.list (List.replicate n.toNat ds).flatten))) : Ro b δ rTimes (.list ds) (.int n) Q := fun F H σ vx vy rs hx hy k hk => by
  cases hy
  cases hx with
  | @lst a xs _ hs ha =>
    refine .inr ⟨a, n, xs, rfl, rfl, rs.wd.ex _ _ hs, by omega, by omega, by rw [rps_len ha]; exact small_line h, fun p hp => ?_⟩
    have st := rs.frz (o := .lst (List.replicate n.toNat xs).flatten) hp
    exact hk _ _ (.ref p) (.dat _) st (Rp.lst upd_same (rps_mono st.sf (rps_rep ha _))) q

/-! ### built-ins -/
def rLenB (K : PySem.W.Frag) : List V → Hp → VK → Prop := fun xs H Q => ∃ x n, xs = [x] ∧ LenV K x H n ∧ Q (.int n) H
theorem call_lenB {X : Cx} : CallR X (.builtin "len") (rLenB X.K) := call_len
def lenD : PyData → Nat
  | .list ds => ds.length
  | .tuple ds => ds.length
  | .str z => z.length
  | _ => 0
theorem rc_lenL {ds : List PyData} (q : Q (.dat (.int ds.length))) : Rc b δ (rLenB b.K) [.dat (.list ds)] Q := fun F H σ vs rs ao k hk => by
  obtain ⟨v, rfl, h⟩ := rps_one (args_dats (ds := [.list ds]) ao)
  cases h with
  | @lst a xs _ hs ha => exact ⟨_, ds.length, rfl, .inl ⟨xs, .inl (.inl (rs.wd.ex _ _ hs)), (rps_len ha).symm⟩, hk F H _ (.dat _) rs.refl (Rp.int _) q⟩
theorem rc_lenT {ds : List PyData} (q : Q (.dat (.int ds.length))) : Rc b δ (rLenB b.K) [.dat (.tuple ds)] Q := fun F H σ vs rs ao k hk => by
  obtain ⟨v, rfl, h⟩ := rps_one (args_dats (ds := [.tuple ds]) ao)
  cases h with
  | @tup a xs _ hs ha => exact ⟨_, ds.length, rfl, .inr ⟨xs, seqT rs.wd.ex hs, (rps_len ha).symm⟩, hk F H _ (.dat _) rs.refl (Rp.int _) q⟩
theorem rc_lenS {z : Str} (hz : z.length ≤ sizeLine) (q : Q (.dat (.int z.length))) : Rc b δ (rLenB b.K) [.dat (.str z)] Q := fun F H σ vs rs ao k hk => by
  obtain ⟨v, rfl, h⟩ := rps_one (args_dats (ds := [.str z]) ao)
  cases h
  exact ⟨_, z.length, rfl, ⟨hz, rfl⟩, hk F H _ (.dat _) rs.refl (Rp.int _) q⟩
theorem rc_lenScr {ns : List Int} (q : Q (.dat (.int ns.length))) : Rc b δ (rLenB b.K) [.scr ns] Q := fun F H σ vs rs ao k hk => by
  cases ao with
  | cons h t =>
    cases t
    obtain ⟨a, rfl, hs⟩ := h
    exact ⟨_, ns.length, rfl, .inl ⟨_, rs.wd.ex.seq hs, (List.length_map _).symm⟩, hk F H _ (.dat _) rs.refl (Rp.int _) q⟩
def rAbsB : List V → Hp → VK → Prop := fun xs H Q => ∃ i, xs = [.int i] ∧ Q (.int (if i < 0 then -i else i)) H
theorem call_absB {X : Cx} : CallR X (.builtin "abs") rAbsB := call_abs
theorem rc_abs {i : Int} (q : Q (.dat (.int (if i < 0 then -i else i)))) : Rc b δ rAbsB [.dat (.int i)] Q := fun F H σ vs rs ao k hk => by
  obtain ⟨v, rfl, h⟩ := rps_one (args_dats (ds := [.int i]) ao)
  cases h
  exact ⟨i, rfl, hk F H _ (.dat _) rs.refl (Rp.int _) q⟩
def rMax2B : List V → Hp → VK → Prop := fun xs H Q => ∃ i j, xs = [.int i, .int j] ∧ Q (.int (if j > i then j else i)) H
def rMin2B : List V → Hp → VK → Prop := fun xs H Q => ∃ i j, xs = [.int i, .int j] ∧ Q (.int (if j < i then j else i)) H
theorem call_max2B {X : Cx} (hc : X.calm = true) : CallR X (.builtin "max") rMax2B := call_max2 hc
theorem call_min2B {X : Cx} (hc : X.calm = true) : CallR X (.builtin "min") rMin2B := call_min2 hc
theorem rc_max2 {i j : Int} (q : Q (.dat (.int (max i j)))) : Rc b δ rMax2B [.dat (.int i), .dat (.int j)] Q := fun F H σ vs rs ao k hk => by
  obtain ⟨v, w, rfl, h1, h2⟩ := rps_two (args_dats (ds := [.int i, .int j]) ao)
  cases h1; cases h2
  refine ⟨i, j, rfl, ?_⟩
  rw [show (if j > i then j else i) = max i j by omega]
  exact hk F H _ (.dat _) rs.refl (Rp.int _) q
theorem rc_min2 {i j : Int} (q : Q (.dat (.int (min i j)))) : Rc b δ rMin2B [.dat (.int i), .dat (.int j)] Q := fun F H σ vs rs ao k hk => by
  obtain ⟨v, w, rfl, h1, h2⟩ := rps_two (args_dats (ds := [.int i, .int j]) ao)
  cases h1; cases h2
  refine ⟨i, j, rfl, ?_⟩
  rw [show (if j < i then j else i) = min i j by omega]
  exact hk F H _ (.dat _) rs.refl (Rp.int _) q
def rIntB : List V → Hp → VK → Prop := fun xs H Q => (∃ i, xs = [.int i] ∧ Q (.int i) H) ∨ ∃ k, xs = [.bl k] ∧ Q (.int (if k then 1 else 0)) H
theorem call_intB {X : Cx} : CallR X (.type "int") rIntB := call_int1
theorem rc_intB {c : Bool} (q : Q (.dat (.int (if c then 1 else 0)))) : Rc b δ rIntB [.dat (.bool c)] Q := fun F H σ vs rs ao k hk => by
  obtain ⟨v, rfl, h⟩ := rps_one (args_dats (ds := [.bool c]) ao)
  cases h
  exact .inr ⟨c, rfl, hk F H _ (.dat _) rs.refl (Rp.int _) q⟩
theorem rc_intI {i : Int} (q : Q (.dat (.int i))) : Rc b δ rIntB [.dat (.int i)] Q := fun F H σ vs rs ao k hk => by
  obtain ⟨v, rfl, h⟩ := rps_one (args_dats (ds := [.int i]) ao)
  cases h
  exact .inl ⟨i, rfl, hk F H _ (.dat _) rs.refl (Rp.int _) q⟩
def rDivmodB : List V → Hp → VK → Prop := fun xs H Q => ∃ i j, xs = [.int i, .int j] ∧ CDivP i j ∧ ∀ p, H p = none → Q (.ref p) (upd H p (.tup [.int (i / j), .int (i % j)]))
theorem call_divmodB {X : Cx} : CallR X (.builtin "divmod") rDivmodB := call_divmodW
theorem rc_divmod {i j : Int} (c : CDivP i j) (q : Q (.dat (.tuple [.int (i / j), .int (i % j)]))) : Rc b δ rDivmodB [.dat (.int i), .dat (.int j)] Q := fun F H σ vs rs ao k hk => by
  obtain ⟨v, w, rfl, h1, h2⟩ := rps_two (args_dats (ds := [.int i, .int j]) ao)
  cases h1; cases h2
  refine ⟨i, j, rfl, c, fun p hp => ?_⟩
  have st := rs.frz (o := .tup [.int (i / j), .int (i % j)]) hp
  exact hk _ _ (.ref p) (.dat _) st (Rp.tup (.inl (.inl upd_same)) (.cons (.int _) (.cons (.int _) .nil))) q
/-- isinstance(x, T), T a built-in type -/
def tyD : PyData → String
  | .none => "NoneType"
  | .bool _ => "bool"
  | .int _ => "int"
  | .str _ => "str"
  | .list _ => "list"
  | .tuple _ => "tuple"
  | .dict _ => "dict"
theorem tyD_ok {K : PySem.W.Frag} {F H : Hp} (e : Same F H) {v : V} {d : PyData} (h : Rp K F v d) : TyX K H v (.type (tyD d)) := by
  cases h with
  | non => exact .base .non
  | bl c => exact .base (.bl c)
  | int i => exact .base (.int i)
  | str x => exact .base (.str x)
  | lst hs ha => exact .base (.lst (e _ _ hs))
  | tup hs ha =>
    rcases hs with (hs | ⟨o, hs⟩) | ⟨o, its, n, h1, h2, _⟩
    · exact .base (.tup (e _ _ hs))
    · exact .fTuple (e _ _ hs)
    · exact .kTuple h1 h2
/-- a built-in type as an argument is no data: such calls have a rule of their own -/
theorem ve_isi {T : String} {c : PyData → Bool} (hc : ∀ d, kitB (tyD d) T = some (c d)) (h : Ve b ta δ fun s => ∃ d, s = .dat d ∧ Q (.dat (.bool (c d)))) : Ve b (tCB (rIsi b.K) (tCons ta (tCons (tC (.ty T)) tNil))) δ Q := fun F H σ rs k hk =>
  h F H σ rs _ fun F1 H1 v1 s1 st1 ro1 ⟨d, e1, q1⟩ => by
    subst e1
    exact ⟨v1, .ty T, _, _, c d, rfl, .ty T, tyD_ok st1.ex ro1, kit_ty (hc d), hk F1 H1 _ (.dat _) st1 (Rp.bl _) q1⟩
def isInt : PyData → Bool
  | .int _ => true
  | .bool _ => true
  | _ => false
def isBool : PyData → Bool
  | .bool _ => true
  | _ => false
def isStr : PyData → Bool
  | .str _ => true
  | _ => false
def isList : PyData → Bool
  | .list _ => true
  | _ => false
def isTuple : PyData → Bool
  | .tuple _ => true
  | _ => false
theorem kit_int (d : PyData) : kitB (tyD d) "int" = some (isInt d) := by cases d <;> (dsimp only [tyD, isInt]; decide +kernel)
theorem kit_bool (d : PyData) : kitB (tyD d) "bool" = some (isBool d) := by cases d <;> (dsimp only [tyD, isBool]; decide +kernel)
theorem kit_str (d : PyData) : kitB (tyD d) "str" = some (isStr d) := by cases d <;> (dsimp only [tyD, isStr]; decide +kernel)
theorem kit_list (d : PyData) : kitB (tyD d) "list" = some (isList d) := by cases d <;> (dsimp only [tyD, isList]; decide +kernel)
theorem kit_tuple (d : PyData) : kitB (tyD d) "tuple" = some (isTuple d) := by cases d <;> (dsimp only [tyD, isTuple]; decide +kernel)
theorem rc_all {bs : List Bool} (q : Q (.dat (.bool (bs.all id)))) : Rc b δ (rAll b.K) [.dat (.list (bs.map PyData.bool))] Q := fun F H σ vs rs ao k hk => by
  obtain ⟨v, rfl, h⟩ := rps_one (args_dats (ds := [.list _]) ao)
  cases h with
  | @lst a xs _ hs ha =>
    have e := rps_bls ha
    subst e
    exact ⟨a, bs, rfl, .inl (.inl (rs.wd.ex _ _ hs)), hk F H _ (.dat _) rs.refl (Rp.bl _) q⟩
theorem rc_any {bs : List Bool} (q : Q (.dat (.bool (bs.any id)))) : Rc b δ (rAny b.K) [.dat (.list (bs.map PyData.bool))] Q := fun F H σ vs rs ao k hk => by
  obtain ⟨v, rfl, h⟩ := rps_one (args_dats (ds := [.list _]) ao)
  cases h with
  | @lst a xs _ hs ha =>
    have e := rps_bls ha
    subst e
    exact ⟨a, bs, rfl, .inl (.inl (rs.wd.ex _ _ hs)), hk F H _ (.dat _) rs.refl (Rp.bl _) q⟩
theorem rc_sum {ns : List Int} (q : Q (.dat (.int ns.sum))) : Rc b δ (rSum b.K) [.dat (.list (ns.map PyData.int))] Q := fun F H σ vs rs ao k hk => by
  obtain ⟨v, rfl, h⟩ := rps_one (args_dats (ds := [.list _]) ao)
  cases h with
  | @lst a xs _ hs ha =>
    have e := rps_ints ha
    subst e
    exact ⟨a, ns, rfl, .inl (.inl (rs.wd.ex _ _ hs)), hk F H _ (.dat _) rs.refl (Rp.int _) q⟩
theorem rc_maxL {ns : List Int} (hn : 0 < ns.length) (q : ∀ m, m ∈ ns → (∀ y ∈ ns, y ≤ m) → Q (.dat (.int m))) : Rc b δ (rMax b.K) [.dat (.list (ns.map PyData.int))] Q := fun F H σ vs rs ao k hk => by
  obtain ⟨v, rfl, h⟩ := rps_one (args_dats (ds := [.list _]) ao)
  cases h with
  | @lst a xs _ hs ha =>
    have e := rps_ints ha
    subst e
    exact ⟨a, ns, rfl, .inl (.inl (rs.wd.ex _ _ hs)), hn, fun m h1 h2 => hk F H _ (.dat _) rs.refl (Rp.int _) (q m h1 h2)⟩
def rListB (K : PySem.W.Frag) : List V → Hp → VK → Prop := fun xs H Q => ∃ p ys, xs = [.ref p] ∧ (SqL K H p ys ∨ SqT K H p ys) ∧ ∀ l, H l = none → Q (.ref l) (upd H l (.lst ys))
theorem call_listB {X : Cx} : CallR X (.type "list") (rListB X.K) := call_list_of
theorem rc_listL {ds : List PyData} (q : Q (.dat (.list ds))) : Rc b δ (rListB b.K) [.dat (.list ds)] Q := fun F H σ vs rs ao k hk => by
  obtain ⟨v, rfl, h⟩ := rps_one (args_dats (ds := [.list _]) ao)
  cases h with
  | @lst a xs _ hs ha =>
    refine ⟨a, xs, rfl, .inl (.inl (.inl (rs.wd.ex _ _ hs))), fun p hp => ?_⟩
    have st := rs.frz (o := .lst xs) hp
    exact hk _ _ (.ref p) (.dat _) st (Rp.lst upd_same (rps_mono st.sf ha)) q
/-! slices of a list -/
theorem cut_rps {K : PySem.W.Frag} {F : Hp} {xs : List V} {ds : List PyData} (h : RpAll K F xs ds) (lo hi : Option Int) :
    RpAll K F (cutV xs lo hi) ((ds.drop (HT.sIx ds.length 0 lo)).take (HT.sIx ds.length ds.length hi - HT.sIx ds.length 0 lo)) := by
  unfold cutV
  rw [rps_len h]
  exact rps_take _ (rps_drop _ h)
def cutD (ds : List PyData) (lo hi : Option Int) : List PyData := (ds.drop (HT.sIx ds.length 0 lo)).take (HT.sIx ds.length ds.length hi - HT.sIx ds.length 0 lo)
theorem cutD_from (ds : List PyData) (k : Nat) : cutD ds (some (k : Int)) none = ds.drop k := by
  unfold cutD
  rw [HT.sIx_nat, HT.sIx_none]
  by_cases h : k ≤ ds.length
  · rw [Nat.min_eq_left h]
    exact List.take_of_length_le (by rw [List.length_drop]; omega)
  · rw [Nat.min_eq_right (by omega), Nat.sub_self, List.take_zero, List.drop_of_length_le (by omega)]
theorem cutD_to (ds : List PyData) (k : Nat) : cutD ds none (some (k : Int)) = ds.take k := by
  unfold cutD
  rw [HT.sIx_nat, HT.sIx_none, List.drop_zero, Nat.sub_zero]
  by_cases h : k ≤ ds.length
  · rw [Nat.min_eq_left h]
  · rw [Nat.min_eq_right (by omega), List.take_of_length_le (Nat.le_refl _), List.take_of_length_le (by omega)]
def Vo (b : Bx) (to : TO) (δ : List Sl) (Q : Option Int → Prop) : Prop := ∀ F H σ, Rs b F H σ δ → ∀ k : Option Int → Hp → Prop, (∀ F' H' o, Stp δ F H F' H' → Q o → k o H') → to σ H k
theorem vo_none {Q : Option Int → Prop} (q : Q none) : Vo b tNoPart δ Q := fun F H σ rs k hk => hk F H none rs.refl q
theorem vo_some {Q : Option Int → Prop} (h : Ve b te δ fun s => ∃ i, s = .dat (.int i) ∧ Q (some i)) : Vo b (tPart te) δ Q := fun F H σ rs k hk =>
  h F H σ rs _ fun F1 H1 v1 s1 st1 ro1 ⟨i, e1, q1⟩ => by
    subst e1
    cases ro1
    exact ⟨i, rfl, hk F1 H1 (some i) st1 q1⟩
/-- slices of lists, tuples, texts by their kind -/
def rSlX (K : PySem.W.Frag) : V → Option Int → Option Int → Hp → VK → Prop := fun x lo hi H Q => rSlL K x lo hi H Q ∨ L2.rSlA K x lo hi H Q ∨ rSlS x lo hi H Q
theorem sl_any {X : Cx} : SlR X (rSlX X.K) := sl_list.or (sl_tupA.or sl_str)
def Rl (b : Bx) (δ : List Sl) (r : V → Option Int → Option Int → Hp → VK → Prop) (x : PyData) (lo hi : Option Int) (Q : Sl → Prop) : Prop := ∀ F H σ vx, Rs b F H σ δ → Rp b.K F vx x → ∀ k : VK, (∀ F' H' v s, Stp δ F H F' H' → ResOk b.K H F' H' v s → Q s → k v H') → r vx lo hi H k
theorem ve_sl {r : V → Option Int → Option Int → Hp → VK → Prop} {tl th : TO} (h : Ve b te δ fun s => ∃ x, s = .dat x ∧ Vo b tl δ fun lo => Vo b th δ fun hi => Rl b δ r x lo hi Q) : Ve b (tSl r te tl th) δ Q := fun F H σ rs k hk =>
  h F H σ rs _ fun F1 H1 v1 s1 st1 ro1 ⟨x, e1, q1⟩ => by
    subst e1
    refine q1 F1 H1 σ (rs.step st1) _ fun F2 H2 lo st2 q2 => ?_
    refine q2 F2 H2 σ ((rs.step st1).step st2) _ fun F3 H3 hi st3 q3 => ?_
    have st := (st1.trans st2).trans st3
    exact q3 F3 H3 σ v1 (rs.step st) (rp_mono (st2.sf.trans st3.sf) ro1) _ fun F4 H4 v s st4 ro qs => hk F4 H4 v s (st.trans st4) (ro.back st) qs
theorem rl_list {ds : List PyData} {lo hi : Option Int} (q : Q (.dat (.list (cutD ds lo hi)))) : Rl b δ (rSlX b.K) (.list ds) lo hi Q := fun F H σ vx rs hx k hk => by
  cases hx with
  | @lst a xs _ hs ha =>
    refine .inl ⟨a, xs, rfl, .inl (.inl (rs.wd.ex _ _ hs)), fun p hp => ?_⟩
    have st := rs.frz (o := .lst (cutV xs lo hi)) hp
    exact hk _ _ (.ref p) (.dat _) st (Rp.lst upd_same (rps_mono st.sf (cut_rps ha lo hi))) q
theorem sIx_whole {α : Type} {l : List α} {lo hi : Option Int} (h : HT.sIx l.length 0 lo = 0 ∧ HT.sIx l.length l.length hi = l.length) : (l.drop (HT.sIx l.length 0 lo)).take (HT.sIx l.length l.length hi - HT.sIx l.length 0 lo) = l := by
  rw [h.1, h.2, List.drop_zero, Nat.sub_zero, List.take_length]
theorem rl_tup {ds : List PyData} {lo hi : Option Int} (q : Q (.dat (.tuple (cutD ds lo hi)))) : Rl b δ (rSlX b.K) (.tuple ds) lo hi Q := fun F H σ vx rs hx k hk => by
  cases hx with
  | @tup a xs _ hs ha =>
    refine .inr (.inl ⟨a, xs, rfl, seqT rs.wd.ex hs, fun z => ?_, fun _ p hp => ?_⟩)
    · have e : cutD ds lo hi = ds := sIx_whole (by rw [← rps_len ha]; exact z)
      rw [e] at q
      exact hk F H (.ref a) (.dat (.tuple ds)) rs.refl (Rp.tup hs ha) q
    · have st := rs.frz (o := .tup (cutV xs lo hi)) hp
      exact hk _ _ (.ref p) (.dat _) st (Rp.tup (.inl (.inl upd_same)) (rps_mono st.sf (cut_rps ha lo hi))) q
theorem rl_str {z : Str} {lo hi : Option Int} (hz : z.length ≤ sizeLine) (q : Q (.dat (.str (cutS z lo hi)))) : Rl b δ (rSlX b.K) (.str z) lo hi Q := fun F H σ vx rs hx k hk => by
  cases hx
  exact .inr (.inr ⟨z, rfl, hz, hk F H _ (.dat _) rs.refl (Rp.str _) q⟩)
/-! ### in, not in -/
def rInX (K : PySem.W.Frag) (neg : Bool) : R2 := fun x y H Q => ∃ d ds, Dp K H x d ∧ (Dp K H y (.list ds) ∨ Dp K H y (.tuple ds)) ∧ d.plain = true ∧ PyData.plainAll ds = true ∧ d.depth ≤ 64 ∧ Q (.bl (xor neg (ds.any fun z => PyData.eqv z d))) H
theorem op_inX {X : Cx} (hu : X.A.units + 65 < cLine) : OpR X (compareOp .In) (rInX X.K false) := fun pins s σ H x y u v Q I rx ry h => by
  obtain ⟨d, ds, h1, h2, h3, h4, h5, q⟩ := h
  rw [Bool.false_xor] at q
  obtain ⟨as, r1⟩ := Dp.reads I d x u h1 rx
  rcases h2 with h2 | h2
  · obtain ⟨bs, r2⟩ := Dp.reads I _ y v h2 ry
    exact SeqAt.in_list_data r2 r1 h4 h3 (by have := Nat.min_le_right (PyData.depthAll ds) d.depth; omega) ⟨.bl _, H, I, rfl, q⟩
  · obtain ⟨bs, r2⟩ := Dp.reads I _ y v h2 ry
    exact SeqAt.in_tuple_data r2 r1 h4 h3 (by have := Nat.min_le_right (PyData.depthAll ds) d.depth; omega) ⟨.bl _, H, I, rfl, q⟩
theorem op_notInX {X : Cx} (hu : X.A.units + 65 < cLine) : OpR X (compareOp .NotIn) (rInX X.K true) := fun pins s σ H x y u v Q I rx ry h => by
  obtain ⟨d, ds, h1, h2, h3, h4, h5, q⟩ := h
  rw [Bool.true_xor] at q
  obtain ⟨as, r1⟩ := Dp.reads I d x u h1 rx
  rcases h2 with h2 | h2
  · obtain ⟨bs, r2⟩ := Dp.reads I _ y v h2 ry
    exact SeqAt.notIn_list_data r2 r1 h4 h3 (by have := Nat.min_le_right (PyData.depthAll ds) d.depth; omega) ⟨.bl _, H, I, rfl, q⟩
  · obtain ⟨bs, r2⟩ := Dp.reads I _ y v h2 ry
    exact SeqAt.notIn_tuple_data r2 r1 h4 h3 (by have := Nat.min_le_right (PyData.depthAll ds) d.depth; omega) ⟨.bl _, H, I, rfl, q⟩
/-- flat data -/
def flatD : PyData → Bool
  | .list _ => false
  | .tuple _ => false
  | .dict _ => false
  | _ => true
theorem flat_of {K : PySem.W.Frag} {F : Hp} {v : V} {d : PyData} (h : Rp K F v d) (f : flatD d = true) : flatV v = true := by
  cases h <;> first | rfl | cases f
theorem eqV_of {K : PySem.W.Frag} {F : Hp} {v u : V} {d e : PyData} (h : Rp K F v d) (h' : Rp K F u e) (f : flatD d = true) (f' : flatD e = true) : eqV v u = PyData.eqv d e := by
  cases h <;> first | exact absurd f Bool.false_ne_true | (cases h' <;> first | rfl | exact absurd f' Bool.false_ne_true)
theorem flats_of {K : PySem.W.Frag} {F : Hp} : ∀ {vs : List V} {ds : List PyData}, RpAll K F vs ds → ds.all flatD = true → vs.all flatV = true
  | _, _, .nil, _ => rfl
  | _, _, .cons h t, f => by
    obtain ⟨f1, f2⟩ := Bool.and_eq_true_iff.mp (show (flatD _ && List.all _ flatD) = true from f)
    show (flatV _ && List.all _ flatV) = true
    rw [flat_of h f1, flats_of t f2]; rfl
theorem inV_of {K : PySem.W.Frag} {F : Hp} {v : V} {d : PyData} (h : Rp K F v d) (f : flatD d = true) : ∀ {vs : List V} {ds : List PyData}, RpAll K F vs ds → ds.all flatD = true → inV v vs = ds.any fun z => PyData.eqv z d
  | _, _, .nil, _ => rfl
  | _, _, .cons h1 t, f' => by
    obtain ⟨f1, f2⟩ := Bool.and_eq_true_iff.mp (show (flatD _ && List.all _ flatD) = true from f')
    show (eqV _ v || inV v _) = (PyData.eqv _ d || List.any _ _)
    rw [eqV_of h1 h f1 f, inV_of h f t f2]
theorem ro_inLd {neg : Bool} {d : PyData} {ds : List PyData} (hd : d.depth ≤ 64) (q : Q (.dat (.bool (xor neg (ds.any fun z => PyData.eqv z d))))) : Ro b δ (rInX b.K neg) d (.list ds) Q := fun F H σ vx vy rs hx hy k hk =>
  ⟨d, ds, rp_dp rs.wd.ex hx, .inl (rp_dp rs.wd.ex hy), rp_plain hx, rp_plain hy, hd, hk F H _ (.dat _) rs.refl (Rp.bl _) q⟩
theorem ro_inTd {neg : Bool} {d : PyData} {ds : List PyData} (hd : d.depth ≤ 64) (q : Q (.dat (.bool (xor neg (ds.any fun z => PyData.eqv z d))))) : Ro b δ (rInX b.K neg) d (.tuple ds) Q := fun F H σ vx vy rs hx hy k hk =>
  ⟨d, ds, rp_dp rs.wd.ex hx, .inr (rp_dp rs.wd.ex hy), rp_plain hx, rp_plain hy, hd, hk F H _ (.dat _) rs.refl (Rp.bl _) q⟩
theorem ro_inT {neg : Bool} {d : PyData} {ds : List PyData} (f : flatD d = true) (_ : ds.all flatD = true) (q : Q (.dat (.bool (xor neg (ds.any fun z => PyData.eqv z d))))) : Ro b δ (rInX b.K neg) d (.tuple ds) Q := ro_inTd (by cases d <;> first | exact Nat.zero_le _ | cases f) q
theorem ro_inL {neg : Bool} {d : PyData} {ds : List PyData} (h1 : SeqAt.shaped d = true) (_ : SeqAt.shaped (.list ds) = true) (q : Q (.dat (.bool (xor neg (ds.any fun z => PyData.eqv z d))))) : Ro b δ (rInX b.K neg) d (.list ds) Q := ro_inLd (SeqAt.depth_of_shaped h1) q
/-! ### is True, is False -/
def rIsX : R2 := fun x y H Q => rIsNo x y H Q ∨ ∃ a b, x = .bl a ∧ y = .bl b ∧ Q (.bl (decide (a = b))) H
def rNotX : R2 := fun x y H Q => rNotNo x y H Q ∨ ∃ a b, x = .bl a ∧ y = .bl b ∧ Q (.bl (!decide (a = b))) H
theorem op_isX {X : Cx} : OpR X (compareOp .Is) rIsX := op_isN.or op_is_bl
theorem op_notX {X : Cx} : OpR X (compareOp .IsNot) rNotX := op_notN.or op_isnot_bl
theorem ro_isN {x : PyData} (q : Q (.dat (.bool (isNo x)))) : Ro b δ rIsX x .none Q := fun F H σ vx vy rs hx hy k hk => .inl (ro_isNo q F H σ vx vy rs hx hy k hk)
theorem ro_notN {x : PyData} (q : Q (.dat (.bool (!isNo x)))) : Ro b δ rNotX x .none Q := fun F H σ vx vy rs hx hy k hk => .inl (ro_notNo q F H σ vx vy rs hx hy k hk)
theorem ro_isB {x y : Bool} (q : Q (.dat (.bool (decide (x = y))))) : Ro b δ rIsX (.bool x) (.bool y) Q := fun F H σ vx vy rs hx hy k hk => by
  cases hx; cases hy
  exact .inr ⟨x, y, rfl, rfl, hk F H _ (.dat _) rs.refl (Rp.bl _) q⟩
theorem ro_notB {x y : Bool} (q : Q (.dat (.bool (!decide (x = y))))) : Ro b δ rNotX (.bool x) (.bool y) Q := fun F H σ vx vy rs hx hy k hk => by
  cases hx; cases hy
  exact .inr ⟨x, y, rfl, rfl, hk F H _ (.dat _) rs.refl (Rp.bl _) q⟩
end
end Fs

namespace Fs
open PySem PySem.Spec PyProof.Rows L2
section
variable {b : Bx} {δ : List Sl} {Q : Sl → Prop} {R : Bool → Prop} {te ta tb tc : TE} {t u : TT} {tr : TA} {p : Po} {ts tu : TS} {F F' H H' : Hp} {σ : L2.St}
/-! ### slots set -/
theorem Rs.h0 (r : Rs b F H σ δ) {a : Addr} (h : H a = none) : b.H0 a = none := by
  cases e : b.H0 a with
  | none => rfl
  | some o =>
    by_cases hp : a ∈ b.P
    · obtain ⟨x, y, q⟩ := r.wd.pots a hp
      rw [q] at h; cases h
    · rw [r.wd.keep a o e hp] at h; cases h
theorem Rs.set (r : Rs b F H σ δ) (st : Stp δ F H F' H') {v : V} {s : Sl} (ro : ResOk b.K H F' H' v s) (i : Nat) : Rs b F' H' (σ.set i (some v)) (δ.set i s) where
  wd := (r.step st).wd
  len := by rw [List.length_set, List.length_set]; exact r.len
  slot := fun j s' h => by
    by_cases e : i = j
    · subst e
      have hl : i < δ.length := by
        have := (List.getElem?_eq_some_iff.mp h).1
        rwa [List.length_set] at this
      rw [List.getElem?_set_self hl] at h
      cases h
      have hs : (σ.set i (some v))[i]? = some (some v) := List.getElem?_set_self (by rw [r.len]; exact hl)
      rw [hs]
      cases s with
      | no => trivial
      | scr _ => exact ro.elim
      | dat d => exact ⟨v, rfl, ro⟩
      | own a c =>
        obtain ⟨rfl, h2, h3, h4⟩ := ro
        exact ⟨rfl, h2, .inl (r.h0 h3), h4⟩
    · rw [List.getElem?_set_ne e] at h
      rw [List.getElem?_set_ne e]
      exact (r.step st).slot j s' h
  apart := fun j k a c c' h1 h2 => by
    have old : ∀ (m : Nat) c, m ≠ i → (δ.set i s)[m]? = some (.own a c) → H a ≠ none ∧ δ[m]? = some (.own a c) := fun m c hm h => by
      rw [List.getElem?_set_ne (fun z => hm z.symm)] at h
      obtain ⟨_, _, _, o, q, _⟩ := r.slot m _ h
      exact ⟨(by rw [q]; exact (fun z => nomatch z)), h⟩
    have new : ∀ c, (δ.set i s)[i]? = some (.own a c) → H a = none := fun c h => by
      have hl : i < δ.length := by
        have := (List.getElem?_eq_some_iff.mp h).1
        rwa [List.length_set] at this
      rw [List.getElem?_set_self hl] at h
      cases h
      exact ro.2.2.1
    by_cases ej : j = i
    · by_cases ek : k = i
      · rw [ej, ek]
      · rw [ej] at h1
        exact absurd (new c h1) (old k c' ek h2).1
    · by_cases ek : k = i
      · rw [ek] at h2
        exact absurd (new c' h2) (old j c ej h1).1
      · exact r.apart j k a c c' (old j c ej h1).2 (old k c' ek h2).2
  er := r.er
theorem Rs.setD (r : Rs b F H σ δ) {v : V} {d : PyData} (h : Rp b.K F v d) (i : Nat) : Rs b F H (σ.set i (some v)) (δ.set i (.dat d)) := r.set (s := .dat d) r.refl h i
/-- an owned object of a slot is changed -/
theorem Rs.write (r : Rs b F H σ δ) {i : Nat} {a : Addr} {c c' : Ct} {o : HO} (h : δ[i]? = some (.own a c)) (hc : CtOk b.K F c' o) (hp : a ∈ b.P → c' = .pot) : Rs b F (upd H a o) σ (δ.set i (.own a c')) := by
  obtain ⟨h1, h2, h3, o1, h4, h5⟩ := r.slot i _ h
  have hl : i < δ.length := (List.getElem?_eq_some_iff.mp h).1
  have ha : ∀ (j : Nat) a' c'', (δ.set i (.own a c'))[j]? = some (.own a' c'') → j ≠ i → a' ≠ a := fun j a' c'' hj ne z => by
    subst z
    rw [List.getElem?_set_ne (fun z => ne z.symm)] at hj
    exact ne (r.apart j i _ _ _ hj h)
  refine ⟨⟨same_mut r.wd.ex h2, r.wd.f0, r.wd.grow, fun x u e n => ?_, fun x m => ?_, r.wd.potf, r.wd.ph⟩, by rw [List.length_set]; exact r.len, fun j s hj => ?_, fun j k a1 c1 c2 q1 q2 => ?_, r.er⟩
  · have ne : x ≠ a := fun z => by
      subst z
      rcases h3 with z | z
      · rw [e] at z; cases z
      · exact n z.1
    rw [upd_ne ne]
    exact r.wd.keep x u e n
  · by_cases e : x = a
    · subst e
      have := hp m
      subst this
      obtain ⟨y, z, rfl⟩ := hc
      exact ⟨y, z, upd_same⟩
    · obtain ⟨y, z, q⟩ := r.wd.pots x m
      exact ⟨y, z, by rw [upd_ne e]; exact q⟩
  · by_cases e : i = j
    · subst e
      rw [List.getElem?_set_self hl] at hj
      cases hj
      refine ⟨h1, h2, ?_, o, upd_same, hc⟩
      rcases h3 with z | z
      · exact .inl z
      · exact .inr ⟨z.1, hp z.1⟩
    · have hj' := hj
      rw [List.getElem?_set_ne e] at hj
      have q := r.slot j s hj
      cases s with
      | no => trivial
      | scr _ => exact q
      | dat d => exact q
      | own a' c'' =>
        obtain ⟨q1, q2, q3, o2, q4, q5⟩ := q
        exact ⟨q1, q2, q3, o2, by rw [upd_ne (ha j a' c'' hj' fun z => e z.symm)]; exact q4, q5⟩
  · by_cases e1 : j = i
    · by_cases e2 : k = i
      · rw [e1, e2]
      · rw [e1, List.getElem?_set_self hl] at q1
        cases q1
        exact absurd rfl (ha k _ _ q2 e2)
    · by_cases e2 : k = i
      · rw [e2, List.getElem?_set_self hl] at q2
        cases q2
        exact absurd rfl (ha j _ _ q1 e1)
      · rw [List.getElem?_set_ne (fun z => e1 z.symm)] at q1
        rw [List.getElem?_set_ne (fun z => e2 z.symm)] at q2
        exact r.apart j k a1 c1 c2 q1 q2
/-- an owned list of a slot is frozen -/
theorem Rs.freeze (r : Rs b F H σ δ) {i : Nat} {a : Addr} {ds : List PyData} (h : δ[i]? = some (.own a (.lst ds))) : ∃ F', Same F F' ∧ Rs b F' H σ (δ.set i (.dat (.list ds))) := by
  obtain ⟨h1, h2, h3, o1, h4, vs, rfl, h5⟩ := r.slot i _ h
  have hl : i < δ.length := (List.getElem?_eq_some_iff.mp h).1
  have hH : b.H0 a = none := by
    rcases h3 with z | z
    · exact z
    · exact nomatch z.2
  have sm : Same F (upd F a (.lst vs)) := same_new h2
  refine ⟨upd F a (.lst vs), sm, ⟨fun x u e => ?_, r.wd.f0.trans sm, fun x n => ?_, r.wd.keep, r.wd.pots, fun x m => ?_, r.wd.ph⟩, by rw [List.length_set]; exact r.len, fun j s hj => ?_, fun j k a1 c1 c2 q1 q2 => ?_, r.er⟩
  · by_cases z : x = a
    · subst z; rw [upd_same] at e; rw [← e]; exact h4
    · rw [upd_ne z] at e; exact r.wd.ex x u e
  · rw [upd_ne (fun z => n (by rw [z]; exact hH))]
    exact r.wd.grow x n
  · rw [upd_ne (fun z => r.wd.ph x m (by rw [z]; exact hH))]
    exact r.wd.potf x m
  · by_cases e : i = j
    · subst e
      rw [List.getElem?_set_self hl] at hj
      cases hj
      exact ⟨_, h1, Rp.lst upd_same (rps_mono sm h5)⟩
    · rw [List.getElem?_set_ne e] at hj
      have q := r.slot j s hj
      cases s with
      | no => trivial
      | scr _ => obtain ⟨a2, q1, q2⟩ := q; exact ⟨a2, q1, sm.seq q2⟩
      | dat d => obtain ⟨v, q1, q2⟩ := q; exact ⟨v, q1, rp_mono sm q2⟩
      | own a' c'' =>
        obtain ⟨q1, q2, q3, o2, q4, q5⟩ := q
        exact ⟨q1, by rw [upd_ne (fun z => by subst z; exact e (r.apart i j _ _ _ h hj))]; exact q2, q3, o2, q4, q5.mono sm⟩
  · have f : ∀ (m : Nat) c, (δ.set i (.dat (.list ds)))[m]? = some (.own a1 c) → δ[m]? = some (.own a1 c) := fun m c q => by
      by_cases e : i = m
      · subst e
        rw [List.getElem?_set_self hl] at q
        cases q
      · rw [List.getElem?_set_ne e] at q; exact q
    exact r.apart j k a1 c1 c2 (f j c1 q1) (f k c2 q2)
/-! ### targets -/
theorem wg_name {i : Nat} {d : PyData} {Qd : List Sl → Prop} (q : Qd (δ.set i (.dat d))) : Wg b (gName i) d δ Qd := fun F H σ v rs hv k hk => hk F H _ _ (.refl _) (rs.setD hv i) q
def Wgs (b : Bx) (g : TGs) (ds : List PyData) (δ : List Sl) (Q : List Sl → Prop) : Prop := ∀ F H σ vs, Rs b F H σ δ → RpAll b.K F vs ds → ∀ k : L2.St → Hp → Prop, (∀ F' H' σ' δ', Same F F' → Rs b F' H' σ' δ' → Q δ' → k σ' H') → g vs σ H k
theorem wgs_nil {Qd : List Sl → Prop} (q : Qd δ) : Wgs b gNil [] δ Qd := fun F H σ vs rs hv k hk => by
  cases hv
  exact ⟨rfl, hk F H σ δ (.refl _) rs q⟩
theorem wgs_cons {g : TG} {gs : TGs} {d : PyData} {ds : List PyData} {Qd : List Sl → Prop} (h : Wg b g d δ fun δ' => Wgs b gs ds δ' Qd) : Wgs b (gCons g gs) (d :: ds) δ Qd := fun F H σ vs rs hv k hk => by
  cases hv with
  | @cons v vs _ _ h1 h2 =>
    exact ⟨v, vs, rfl, h F H σ v rs h1 _ fun F1 H1 σ1 δ1 s1 r1 q1 => q1 F1 H1 σ1 vs r1 (rps_mono s1 h2) k fun F2 H2 σ2 δ2 s2 r2 q2 => hk F2 H2 σ2 δ2 (s1.trans s2) r2 q2⟩
theorem wg_tup {n : Nat} {gs : TGs} {d : PyData} {Qd : List Sl → Prop} (h : ∃ ds, d = .tuple ds ∧ ds.length = n ∧ Wgs b gs ds δ Qd) : Wg b (gTup b.K n gs) d δ Qd := fun F H σ v rs hv k hk => by
  obtain ⟨ds, rfl, hn, h⟩ := h
  cases hv with
  | @tup a xs _ hs ha => exact ⟨a, xs, rfl, seqT rs.wd.ex hs, (rps_len ha).trans hn, h F H σ xs rs ha k hk⟩
/-- an item of a pot: an int is stored -/
theorem set_self {δ : List Sl} {i : Nat} {x : Sl} (h : δ[i]? = some x) : δ.set i x = δ := by
  obtain ⟨hl, e⟩ := List.getElem?_eq_some_iff.mp h
  rw [← e, List.set_getElem_self]
theorem wg_pot0 {i : Nat} {a : Addr} {x : Int} {Qd : List Sl → Prop} (h : δ[i]? = some (.own a .pot)) (q : Qd δ) : Wg b (gSub (tVar i) (tC (.int 0)) rSetL) (.int x) δ Qd := fun F H σ v rs hv k hk => by
  cases hv
  have h0 := rs.slot i _ h
  obtain ⟨y, z, e⟩ := rs.pot_at h
  have r2 := rs.write (c' := .pot) h (o := .lst [.int x, .int z.1]) ⟨x, z, rfl⟩ (fun _ => rfl)
  rw [set_self h] at r2
  exact ⟨_, h0.1, a, _, 0, 0, rfl, rfl, e, rfl, hk F _ σ δ (.refl _) r2 q⟩
theorem wg_pot1 {i : Nat} {a : Addr} {x : Int} {Qd : List Sl → Prop} (h : δ[i]? = some (.own a .pot)) (hx : 0 ≤ x ∧ x < 2 ^ 40) (q : Qd δ) : Wg b (gSub (tVar i) (tC (.int 1)) rSetL) (.int x) δ Qd := fun F H σ v rs hv k hk => by
  cases hv
  have h0 := rs.slot i _ h
  obtain ⟨y, z, e⟩ := rs.pot_at h
  have r2 := rs.write (c' := .pot) h (o := .lst [.int y, .int x]) ⟨y, ⟨x, hx⟩, rfl⟩ (fun _ => rfl)
  rw [set_self h] at r2
  exact ⟨_, h0.1, a, _, 1, 1, rfl, rfl, e, rfl, hk F _ σ δ (.refl _) r2 q⟩
/-- an item of a pot is read -/
theorem ve_pot0 {i : Nat} {a : Addr} (h : δ[i]? = some (.own a .pot)) (q : ∀ x : Int, Q (.dat (.int x))) : Ve b (tOp (rIx b.K) (tVar i) (tC (.int 0))) δ Q := fun F H σ rs k hk => by
  have h0 := rs.slot i _ h
  obtain ⟨y, z, e⟩ := rs.pot_at h
  exact ⟨_, h0.1, .inl ⟨a, _, 0, .int y, rfl, rfl, .inl (.inl e), rfl, hk F H _ (.dat _) rs.refl (Rp.int _) (q y)⟩⟩
theorem ve_pot1 {i : Nat} {a : Addr} (h : δ[i]? = some (.own a .pot)) (q : ∀ x : Int, 0 ≤ x → x < 2 ^ 40 → Q (.dat (.int x))) : Ve b (tOp (rIx b.K) (tVar i) (tC (.int 1))) δ Q := fun F H σ rs k hk => by
  have h0 := rs.slot i _ h
  obtain ⟨y, z, e⟩ := rs.pot_at h
  exact ⟨_, h0.1, .inl ⟨a, _, 1, .int z.1, rfl, rfl, .inl (.inl e), rfl, hk F H _ (.dat _) rs.refl (Rp.int _) (q z.1 z.2.1 z.2.2)⟩⟩

/-! ### statements -/
theorem EndsOk.after {D : Ends} (h : EndsOk b F p D) (nx : List Sl → Prop) (k : L2.St → Hp → Prop) (hk : ∀ F' H' σ' δ', Same F F' → Rs b F' H' σ' δ' → nx δ' → k σ' H') : EndsOk b F { p with nx := nx } { D with nx := k } := ⟨hk, h.bk, h.ct, h.rt⟩
theorem ws_seq (h : Ws b ts δ { p with nx := fun δ' => Ws b tu δ' p }) : Ws b (tSeq ts tu) δ p := fun F H σ D rs eo =>
  h F H σ _ rs (eo.after _ _ fun F' H' σ' δ' s r q => q F' H' σ' D r (eo.mono s))
theorem ws_next (q : p.nx δ) : Ws b tNext δ p := fun F H σ D rs eo => eo.nx F H σ δ (.refl _) rs q
theorem ws_break (q : p.bk δ) : Ws b tBreak δ p := fun F H σ D rs eo => eo.bk F H σ δ (.refl _) rs q
theorem ws_cont (q : p.ct δ) : Ws b tCont δ p := fun F H σ D rs eo => eo.ct F H σ δ (.refl _) rs q
theorem ws_drop (h : Ve b te δ fun _ => p.nx δ) : Ws b (tDrop te) δ p := fun F H σ D rs eo =>
  h F H σ rs _ fun F1 H1 v s st ro q => eo.nx F1 H1 σ δ st.sf (rs.step st) q
theorem ws_asg {i : Nat} (h : Ve b te δ fun s => p.nx (δ.set i s)) : Ws b (tAsg te (gName i)) δ p := fun F H σ D rs eo =>
  h F H σ rs _ fun F1 H1 v s st ro q => eo.nx F1 H1 _ _ st.sf (rs.set st ro i) q
theorem ws_asgG {g : TG} (h : Ve b te δ fun s => ∃ d, s = .dat d ∧ Wg b g d δ p.nx) : Ws b (tAsg te g) δ p := fun F H σ D rs eo =>
  h F H σ rs _ fun F1 H1 v s st ro ⟨d, e, q⟩ => by
    subst e
    exact q F1 H1 σ v (rs.step st) ro _ fun F2 H2 σ2 δ2 s2 r2 q2 => eo.nx F2 H2 σ2 δ2 (st.sf.trans s2) r2 q2
theorem ws_par {i j : Nat} (h : Va b tr δ fun ss => ∃ d e, ss = [.dat d, .dat e] ∧ p.nx ((δ.set i (.dat d)).set j (.dat e))) : Ws b (tPar i j tr) δ p := fun F H σ D rs eo =>
  h F H σ rs _ fun F1 H1 vs ss st ao ⟨d, e, e1, q⟩ => by
    subst e1
    obtain ⟨v, w, rfl, h1, h2⟩ := rps_two (args_dats (ds := [d, e]) ao)
    exact ⟨v, w, rfl, eo.nx F1 H1 _ _ st.sf (((rs.step st).setD h1 i).setD h2 j) q⟩
theorem ws_if (h : Vt b t δ fun c => (c = true → Ws b ts δ p) ∧ (c = false → Ws b tu δ p)) : Ws b (tIfS t ts tu) δ p := fun F H σ D rs eo =>
  h F H σ rs _ fun F1 H1 c st ⟨q1, q2⟩ => by
    cases c with
    | true => exact iteT (q1 rfl F1 H1 σ D (rs.step st) (eo.mono st.sf))
    | false => exact iteF (q2 rfl F1 H1 σ D (rs.step st) (eo.mono st.sf))
theorem ws_ret (h : Ve b te δ p.rt) : Ws b (tRet te) δ p := fun F H σ D rs eo =>
  h F H σ rs _ fun F1 H1 v s st ro q => eo.rt F1 H1 v s (rs.step st).wd (by
    cases s with
    | no => exact ro
    | scr _ => exact ro
    | dat d => exact ro
    | own a c => obtain ⟨h1, h2, h3, h4⟩ := ro; exact ⟨h1, h2, rs.h0 h3, h4⟩) q
theorem ws_retOwn {i : Nat} {a : Addr} {c : Ct} (h : δ[i]? = some (.own a c)) (ha : c ≠ .pot ∨ b.P = []) (q : p.rt (.own a c)) : Ws b (tRet (tVar i)) δ p := fun F H σ D rs eo => by
  obtain ⟨h1, h2, h3, h4⟩ := rs.slot i _ h
  refine ⟨_, h1, eo.rt F H (.ref a) (.own a c) rs.wd ⟨rfl, h2, ?_, h4⟩ q⟩
  rcases h3 with z | z
  · exact z
  · rcases ha with q | q
    · exact absurd z.2 q
    · rw [q] at z; exact absurd z.1 List.not_mem_nil
/-- an owned list is frozen from here on -/
theorem ws_frz (i : Nat) {a : Addr} {ds : List PyData} (h : δ[i]? = some (.own a (.lst ds))) (q : Ws b ts (δ.set i (.dat (.list ds))) p) : Ws b ts δ p := fun F H σ D rs eo => by
  obtain ⟨F', sm, r'⟩ := rs.freeze h
  exact q F' H σ D r' (eo.mono sm)
theorem ws_never (h : False) : Ws b tNever δ p := h.elim
theorem ws_append {i : Nat} {a : Addr} {ds : List PyData} (h : δ[i]? = some (.own a (.lst ds))) (hl : ds.length < 100000) (he : Ve b te δ fun s => ∃ d, s = .dat d ∧ p.nx (δ.set i (.own a (.lst (ds ++ [d]))))) :
    Ws b (tDrop (tBM b.K "list" rAppend (tVar i) (tCons te tNil))) δ p := fun F H σ D rs eo => by
  obtain ⟨h1, h2, h3, o, h4, vs, rfl, h5⟩ := rs.slot i _ h
  refine ⟨_, h1, .inl ⟨rfl, _, .inl (.inl h4)⟩, he F H σ rs _ fun F1 H1 v s st ro ⟨d, e, q⟩ => ?_⟩
  subst e
  obtain ⟨_, g2, g3, o, g4, ws, rfl, g5⟩ := (rs.step st).slot i _ h
  refine ⟨a, ws, v, rfl, rfl, g4, by rw [rps_len g5]; exact small_lt hl, ?_⟩
  refine eo.nx F1 _ σ _ st.sf ((rs.step st).write h (c' := .lst (ds ++ [d])) ⟨_, rfl, rps_app g5 (.cons ro .nil)⟩ fun hp => ?_) q
  rcases g3 with z | z
  · exact absurd z (rs.wd.ph a hp)
  · exact nomatch z.2
/-! ### loops -/
theorem walk_of_D {K : PySem.W.Frag} {J : It} {ds : List PyData} (w : WalkD K F J ds) : Walk J ds.length (fun H => Same F H) (fun i H x H' => ∀ d, ds[i]? = some d → (H' = H ∧ Rp K F x d) ∨ ∃ T vs es, x = .ref T ∧ H T = none ∧ H' = upd H T (.tup vs) ∧ RpAll K F vs es ∧ d = .tuple es) :=
  ⟨fun i H hi s => w.goes i H hi s, fun H s => w.stops H s, fun i H x H' _ s y d hd => w.yields i H x H' d hd s y⟩
/-- what a turn gives stands as data -/
theorem yield_ok {K : PySem.W.Frag} {F1 : Hp} {x : V} {d : PyData} (hK : b.K = K) (sm : Same F1 F) (rs : Rs b F H σ δ) (y : (H' = H ∧ Rp K F1 x d) ∨ ∃ T vs es, x = .ref T ∧ H T = none ∧ H' = upd H T (.tup vs) ∧ RpAll K F1 vs es ∧ d = .tuple es) :
    ∃ F', Same F F' ∧ Stp δ F H F' H' ∧ Rs b F' H' σ δ ∧ Rp b.K F' x d := by
  subst hK
  rcases y with ⟨rfl, h⟩ | ⟨T, vs, es, rfl, hT, rfl, ha, rfl⟩
  · exact ⟨F, .refl _, rs.refl, rs, rp_mono sm h⟩
  · have st := rs.frz (o := .tup vs) hT
    exact ⟨_, st.sf, st, rs.step st, Rp.tup (.inl (.inl upd_same)) (rps_mono (sm.trans st.sf) ha)⟩
theorem ws_for {wi : TI} {g : TG} (h : Vi b wi δ fun ds => ∃ I : Nat → List Sl → Prop, I 0 δ ∧
    (∀ (i : Nat) d δ', ds[i]? = some d → I i δ' → Wg b g d δ' fun δ2 => Ws b ts δ2 { nx := I (i + 1), ct := I (i + 1), bk := p.nx, rt := p.rt }) ∧ ∀ δ', I ds.length δ' → p.nx δ') : Ws b (tFor wi g ts) δ p := fun F H σ D rs eo =>
  h F H σ rs _ fun F1 H1 J ds st w ⟨I, i0, it, ie⟩ => by
    refine for_it (walk_of_D w) (fun i σ' H' => ∃ F' δ', Same F1 F' ∧ Rs b F' H' σ' δ' ∧ I i δ') ⟨F1, δ, .refl _, rs.step st, i0⟩ (fun i σ' H' _ ⟨F', δ', s, r, _⟩ => s.trans r.wd.ex) (fun i x σ' H' H'' hi ⟨F', δ', s, r, hI⟩ y => ?_) (fun σ' H' ⟨F', δ', s, r, hI⟩ => eo.nx F' H' σ' δ' (st.sf.trans s) r (ie δ' hI))
    have hd : ds[i]? = some ds[i] := List.getElem?_eq_getElem hi
    obtain ⟨F2, s2, _, r2, hx⟩ := yield_ok rfl s r (y _ hd)
    refine it i ds[i] δ' hd hI F2 H'' σ' x r2 hx _ fun F3 H3 σ3 δ3 s3 r3 q3 => ?_
    refine q3 F3 H3 σ3 _ r3 ⟨fun F4 H4 σ4 δ4 s4 r4 q4 => ⟨F4, δ4, ((s.trans s2).trans s3).trans s4, r4, q4⟩, fun F4 H4 σ4 δ4 s4 r4 q4 => eo.nx F4 H4 σ4 δ4 ((((st.sf.trans s).trans s2).trans s3).trans s4) r4 q4, fun F4 H4 σ4 δ4 s4 r4 q4 => ⟨F4, δ4, ((s.trans s2).trans s3).trans s4, r4, q4⟩, eo.rt⟩
theorem ws_while (I : Nat → List Sl → Prop) (m0 : Nat) (h0 : I m0 δ) (hs : ∀ m δ', I m δ' → Vt b t δ' fun c => (c = true → Ws b ts δ' { nx := fun δ2 => ∃ m', m' < m ∧ I m' δ2, ct := fun δ2 => ∃ m', m' < m ∧ I m' δ2, bk := p.nx, rt := p.rt }) ∧ (c = false → p.nx δ')) :
    Ws b (tWhile t ts) δ p := fun F H σ D rs eo => by
  refine ⟨fun m σ' H' => ∃ F' δ', Same F F' ∧ Rs b F' H' σ' δ' ∧ I m δ', ⟨m0, F, δ, .refl _, rs, h0⟩, fun m σ' H' ⟨F', δ', s, r, hI⟩ => ?_⟩
  refine hs m δ' hI F' H' σ' r _ fun F1 H1 c st ⟨q1, q2⟩ => ?_
  cases c with
  | false => exact iteF (eo.nx F1 H1 σ' δ' (s.trans st.sf) (r.step st) (q2 rfl))
  | true =>
    refine iteT ⟨fun σ2 H2 => ∃ m', m' < m ∧ ∃ F' δ', Same F F' ∧ Rs b F' H2 σ2 δ' ∧ I m' δ', fun σ2 H2 n => n, ?_⟩
    exact q1 rfl F1 H1 σ' _ (r.step st) ⟨fun F4 H4 σ4 δ4 s4 r4 ⟨m', hm, q4⟩ => ⟨m', hm, F4, δ4, (s.trans st.sf).trans s4, r4, q4⟩, fun F4 H4 σ4 δ4 s4 r4 q4 => eo.nx F4 H4 σ4 δ4 ((s.trans st.sf).trans s4) r4 q4, fun F4 H4 σ4 δ4 s4 r4 ⟨m', hm, q4⟩ => ⟨m', hm, F4, δ4, (s.trans st.sf).trans s4, r4, q4⟩, eo.rt⟩
end
end Fs

namespace Fs
open PySem PySem.Spec PyProof.Rows L2
section
variable {b : Bx} {δ : List Sl} {Q : Sl → Prop} {R : Bool → Prop} {te ta tb tc : TE} {t u : TT} {tr : TA} {p : Po} {ts tu : TS} {F F' H H' : Hp} {σ : L2.St}
/-! ### what is walked -/
variable {Qi : List PyData → Prop}
theorem vi_list {tl : TE} (h : Ve b tl δ fun s => ∃ ds, s = .dat (.list ds) ∧ Qi ds) : Vi b (iList b.K tl) δ Qi := fun F H σ rs k hk =>
  h F H σ rs _ fun F1 H1 v s st ro ⟨ds, e, q⟩ => by
    subst e
    cases ro with
    | @lst a xs _ hs ha =>
      have sq : ∀ {H2 : Hp}, Same F1 H2 → SqL b.K H2 a xs := fun s => .inl (.inl (s _ _ hs))
      refine ⟨a, rfl, ⟨xs, sq st.ex⟩, hk F1 H1 _ ds st ⟨fun i H2 hi s => ?_, fun H2 s => ?_, fun i H2 x H3 d hd s y => ?_⟩ q⟩
      · exact (walk_list (xs := xs)).goes i H2 (by rw [rps_len ha]; exact hi) (sq s)
      · rw [← rps_len ha]; exact (walk_list (xs := xs)).stops H2 (sq s)
      · obtain ⟨e, g⟩ := (walk_list (xs := xs)).yields i H2 x H3 (by rw [rps_len ha]; exact (List.getElem?_eq_some_iff.mp hd).1) (sq s) y
        obtain ⟨d', h1, h2⟩ := rps_get' ha g
        rw [hd] at h1; cases h1
        exact .inl ⟨e, h2⟩
theorem vi_tup {tl : TE} (h : Ve b tl δ fun s => ∃ ds, s = .dat (.tuple ds) ∧ Qi ds) : Vi b (iTup b.K tl) δ Qi := fun F H σ rs k hk =>
  h F H σ rs _ fun F1 H1 v s st ro ⟨ds, e, q⟩ => by
    subst e
    cases ro with
    | @tup a xs _ hs ha =>
      have sq : ∀ {H2 : Hp}, Same F1 H2 → SqT b.K H2 a xs := fun s => seqT s hs
      refine ⟨a, rfl, ⟨xs, sq st.ex⟩, hk F1 H1 _ ds st ⟨fun i H2 hi s => ?_, fun H2 s => ?_, fun i H2 x H3 d hd s y => ?_⟩ q⟩
      · exact (walk_tup (xs := xs)).goes i H2 (by rw [rps_len ha]; exact hi) (sq s)
      · rw [← rps_len ha]; exact (walk_tup (xs := xs)).stops H2 (sq s)
      · obtain ⟨e, g⟩ := (walk_tup (xs := xs)).yields i H2 x H3 (by rw [rps_len ha]; exact (List.getElem?_eq_some_iff.mp hd).1) (sq s) y
        obtain ⟨d', h1, h2⟩ := rps_get' ha g
        rw [hd] at h1; cases h1
        exact .inl ⟨e, h2⟩
def rangeD (lo : Int) (n : Nat) : List PyData := (List.range n).map fun i => .int (lo + (i : Nat))
theorem rangeD_len (lo : Int) (n : Nat) : (rangeD lo n).length = n := by unfold rangeD; simp
theorem rangeD_get {lo : Int} {n i : Nat} {d : PyData} (h : (rangeD lo n)[i]? = some d) : i < n ∧ d = .int (lo + i) := by
  have hi : i < n := by
    have := (List.getElem?_eq_some_iff.mp h).1
    rwa [rangeD_len] at this
  refine ⟨hi, ?_⟩
  unfold rangeD at h
  rw [List.getElem?_map, List.getElem?_range hi] at h
  exact (Option.some.inj h).symm
theorem walk_rangeD {K : PySem.W.Frag} {lo : Int} {n : Nat} : WalkD K F (Itr lo n) (rangeD lo n) :=
  ⟨fun i H hi _ => by rw [rangeD_len] at hi; exact hi, fun H _ => by rw [rangeD_len]; exact Nat.le_refl n, fun i H x H' d hd _ y => by
    obtain ⟨_, rfl⟩ := rangeD_get hd
    obtain ⟨e, rfl⟩ := y
    exact .inl ⟨e, .int _⟩⟩
theorem vi_range1 (h : Va b tr δ fun ss => ∃ n : Int, ss = [.dat (.int n)] ∧ -(2 ^ 62) ≤ n ∧ n < 2 ^ 62 ∧ Qi (rangeD 0 n.toNat)) : Vi b (iRng1 tr) δ Qi := fun F H σ rs k hk =>
  h F H σ rs _ fun F1 H1 vs ss st ao ⟨n, e, h1, h2, q⟩ => by
    subst e
    obtain ⟨v, rfl, hv⟩ := rps_one (args_dats (ds := [.int n]) ao)
    cases hv
    exact ⟨n, rfl, h1, h2, hk F1 H1 _ _ st walk_rangeD q⟩
theorem vi_range2 (h : Va b tr δ fun ss => ∃ m n : Int, ss = [.dat (.int m), .dat (.int n)] ∧ (-(2 ^ 62) ≤ m ∧ m < 2 ^ 62 ∧ -(2 ^ 62) ≤ n ∧ n < 2 ^ 62) ∧ Qi (rangeD m (n - m).toNat)) : Vi b (iRng2 tr) δ Qi := fun F H σ rs k hk =>
  h F H σ rs _ fun F1 H1 vs ss st ao ⟨m, n, e, h1, q⟩ => by
    subst e
    obtain ⟨v, w, rfl, hv, hw⟩ := rps_two (args_dats (ds := [.int m, .int n]) ao)
    cases hv; cases hw
    exact ⟨m, n, rfl, h1, hk F1 H1 _ _ st walk_rangeD q⟩
def zipD (xs ys : List PyData) : List PyData := (xs.zip ys).map fun p => .tuple [p.1, p.2]
theorem zipD_get {xs ys : List PyData} {i : Nat} {d : PyData} (h : (zipD xs ys)[i]? = some d) : ∃ x y, xs[i]? = some x ∧ ys[i]? = some y ∧ d = .tuple [x, y] := by
  unfold zipD at h
  rw [List.getElem?_map] at h
  cases e : (xs.zip ys)[i]? with
  | none => rw [e] at h; cases h
  | some q =>
    rw [e] at h
    obtain ⟨h1, h2⟩ := List.getElem?_zip_eq_some.mp e
    exact ⟨q.1, q.2, h1, h2, (Option.some.inj h).symm⟩
theorem zipD_len (xs ys : List PyData) : (zipD xs ys).length = min xs.length ys.length := by unfold zipD; simp
theorem vi_zip (h : Va b tr δ fun ss => ∃ xs ys, ss = [.dat (.list xs), .dat (.list ys)] ∧ Qi (zipD xs ys)) : Vi b (iZip b.K tr) δ Qi := fun F H σ rs k hk =>
  h F H σ rs _ fun F1 H1 vs ss st ao ⟨xs, ys, e, q⟩ => by
    subst e
    obtain ⟨v, w, rfl, hv, hw⟩ := rps_two (args_dats (ds := [.list xs, .list ys]) ao)
    cases hv with
    | @lst a us _ hs ha =>
      cases hw with
      | @lst c ws _ ht hb =>
        have sq : ∀ {H2 : Hp}, Same F1 H2 → SqL b.K H2 a us ∧ SqL b.K H2 c ws := fun s => ⟨.inl (.inl (s _ _ hs)), .inl (.inl (s _ _ ht))⟩
        have hn : (zipD xs ys).length = min us.length ws.length := by rw [zipD_len, rps_len ha, rps_len hb]
        refine ⟨a, c, us, ws, rfl, (sq st.ex).1, (sq st.ex).2, hk F1 H1 _ _ st ⟨fun i H2 hi s => (walk_zip hn).goes i H2 hi (sq s), fun H2 s => (walk_zip hn).stops H2 (sq s), fun i H2 x H3 d hd s y => ?_⟩ q⟩
        obtain ⟨T, x1, y1, rfl, hT, rfl, g1, g2⟩ := (walk_zip hn).yields i H2 x H3 (List.getElem?_eq_some_iff.mp hd).1 (sq s) y
        obtain ⟨d1, d2, k1, k2, rfl⟩ := zipD_get hd
        obtain ⟨d1', k3, r1⟩ := rps_get' ha g1
        obtain ⟨d2', k4, r2⟩ := rps_get' hb g2
        rw [k1] at k3; cases k3
        rw [k2] at k4; cases k4
        exact .inr ⟨T, [x1, y1], [d1, d2], rfl, hT, rfl, .cons r1 (.cons r2 .nil), rfl⟩
def enumD (xs : List PyData) : List PyData := zipD (rangeD 0 xs.length) xs
theorem vi_enum (h : Va b tr δ fun ss => ∃ xs, ss = [.dat (.list xs)] ∧ Qi (enumD xs)) : Vi b (iEnum b.K tr) δ Qi := fun F H σ rs k hk =>
  h F H σ rs _ fun F1 H1 vs ss st ao ⟨xs, e, q⟩ => by
    subst e
    obtain ⟨v, rfl, hv⟩ := rps_one (args_dats (ds := [.list xs]) ao)
    cases hv with
    | @lst a us _ hs ha =>
      have sq : ∀ {H2 : Hp}, Same F1 H2 → SqL b.K H2 a us := fun s => .inl (.inl (s _ _ hs))
      have hn : (enumD xs).length = us.length := by unfold enumD; rw [zipD_len, rangeD_len, Nat.min_self, rps_len ha]
      refine ⟨a, us, rfl, sq st.ex, hk F1 H1 _ _ st ⟨fun i H2 hi s => walk_enum.goes i H2 (by rw [← hn]; exact hi) (sq s), fun H2 s => by rw [hn]; exact walk_enum.stops H2 (sq s), fun i H2 x H3 d hd s y => ?_⟩ q⟩
      obtain ⟨T, x1, y1, rfl, hT, rfl, g1, g2⟩ := walk_enum.yields i H2 x H3 (by rw [← hn]; exact (List.getElem?_eq_some_iff.mp hd).1) (sq s) y
      obtain ⟨d1, d2, k1, k2, rfl⟩ := zipD_get hd
      obtain ⟨_, rfl⟩ := rangeD_get k1
      obtain ⟨d2', k4, r2⟩ := rps_get' ha g2
      rw [k2] at k4; cases k4
      cases g1
      rw [Int.zero_add]
      exact .inr ⟨T, [_, y1], [.int i, d2], rfl, hT, rfl, .cons (.int _) (.cons r2 .nil), rfl⟩

/-! ### comprehensions -/
def wipeD (δ : List Sl) : List Nat → List Sl
  | [] => δ
  | v :: vs => (wipeD δ vs).set v .no
theorem Rs.clear (r : Rs b F H σ δ) (i : Nat) : Rs b F H (σ.set i none) (δ.set i .no) where
  wd := r.wd
  len := by rw [List.length_set, List.length_set]; exact r.len
  slot := fun j s h => by
    by_cases e : i = j
    · subst e
      have hl : i < δ.length := by
        have := (List.getElem?_eq_some_iff.mp h).1
        rwa [List.length_set] at this
      rw [List.getElem?_set_self hl] at h
      cases h
      trivial
    · rw [List.getElem?_set_ne e] at h
      rw [List.getElem?_set_ne e]
      exact r.slot j s h
  apart := fun j k a c c' h1 h2 => by
    have f : ∀ (m : Nat) c, (δ.set i .no)[m]? = some (.own a c) → δ[m]? = some (.own a c) := fun m c q => by
      by_cases e : i = m
      · subst e
        have hl : i < δ.length := by
          have := (List.getElem?_eq_some_iff.mp q).1
          rwa [List.length_set] at this
        rw [List.getElem?_set_self hl] at q
        cases q
      · rw [List.getElem?_set_ne e] at q; exact q
    exact r.apart j k a c c' (f j c h1) (f k c' h2)
  er := r.er
theorem Rs.wipe (r : Rs b F H σ δ) : ∀ vs : List Nat, Rs b F H (L2.wipe σ vs) (wipeD δ vs)
  | [] => r
  | v :: vs => (r.wipe vs).clear v
def setV (σ : L2.St) : List (Nat × V) → L2.St
  | [] => σ
  | q :: r => setV (σ.set q.1 (some q.2)) r
def setS (δ : List Sl) : List (Nat × PyData) → List Sl
  | [] => δ
  | q :: r => setS (δ.set q.1 (.dat q.2)) r
theorem Rs.setAll : ∀ {vps : List (Nat × V)} {ps : List (Nat × PyData)} {σ : L2.St} {δ : List Sl}, Rs b F H σ δ → vps.map Prod.fst = ps.map Prod.fst → RpAll b.K F (vps.map Prod.snd) (ps.map Prod.snd) → Rs b F H (setV σ vps) (setS δ ps)
  | [], [], _, _, r, _, _ => r
  | [], _ :: _, _, _, _, e, _ => nomatch e
  | _ :: _, [], _, _, _, e, _ => nomatch e
  | (i, v) :: vr, (j, d) :: pr, σ, δ, r, e, h => by
    have e1 : i = j := (List.cons.inj e).1
    have e2 := (List.cons.inj e).2
    subst e1
    cases h with
    | cons h1 h2 => exact Rs.setAll (vps := vr) (ps := pr) (σ := σ.set i (some v)) (δ := δ.set i (.dat d)) (r.setD h1 i) e2 h2
/-- a target sets these slots -/
def TgOk (b : Bx) (g : TG) (d : PyData) (ps : List (Nat × PyData)) : Prop := ∀ F H σ v, Same F H → Rp b.K F v d → ∀ k : L2.St → Hp → Prop, (∀ vps : List (Nat × V), vps.map Prod.fst = ps.map Prod.fst → RpAll b.K F (vps.map Prod.snd) (ps.map Prod.snd) → k (setV σ vps) H) → g v σ H k
theorem tg_name {i : Nat} {d : PyData} : TgOk b (gName i) d [(i, d)] := fun F H σ v _ hv k hk => hk [(i, v)] rfl (.cons hv .nil)
theorem tg_two {i j : Nat} {x y : PyData} : TgOk b (gTup b.K 2 (gCons (gName i) (gCons (gName j) gNil))) (.tuple [x, y]) [(i, x), (j, y)] := fun F H σ v s hv k hk => by
  cases hv with
  | @tup a xs _ hs ha =>
    obtain ⟨v1, v2, rfl, h1, h2⟩ := rps_two ha
    exact ⟨a, _, rfl, seqT s hs, rfl, v1, [v2], rfl, v2, [], rfl, rfl, hk [(i, v1), (j, v2)] rfl (.cons h1 (.cons h2 .nil))⟩
theorem wipe_at (σ : L2.St) : ∀ (vs : List Nat) (j : Nat), (L2.wipe σ vs)[j]? = if j ∈ vs ∧ j < σ.length then some none else σ[j]?
  | [], j => by simp [L2.wipe]
  | v :: vs, j => by
    show ((L2.wipe σ vs).set v none)[j]? = _
    by_cases e : v = j
    · subst e
      by_cases hl : v < σ.length
      · rw [List.getElem?_set_self (by rw [wipe_length]; exact hl), if_pos ⟨List.mem_cons_self, hl⟩]
      · rw [if_neg (fun z => hl z.2), List.getElem?_eq_none_iff.mpr (by rw [List.length_set, wipe_length]; omega), List.getElem?_eq_none_iff.mpr (by omega)]
    · rw [List.getElem?_set_ne e, wipe_at σ vs j]
      have : (j ∈ v :: vs ∧ j < σ.length) ↔ (j ∈ vs ∧ j < σ.length) := by
        constructor
        · rintro ⟨h, h'⟩
          cases h with
          | head => exact absurd rfl e
          | tail _ h => exact ⟨h, h'⟩
        · rintro ⟨h, h'⟩
          exact ⟨List.mem_cons_of_mem _ h, h'⟩
      by_cases c : j ∈ vs ∧ j < σ.length
      · rw [if_pos c, if_pos (this.mpr c)]
      · rw [if_neg c, if_neg (fun z => c (this.mp z))]
theorem setV_len : ∀ (vps : List (Nat × V)) (σ : L2.St), (setV σ vps).length = σ.length
  | [], _ => rfl
  | q :: r, σ => by
    show (setV (σ.set q.1 (some q.2)) r).length = _
    rw [setV_len r, List.length_set]
theorem setV_at : ∀ (vps : List (Nat × V)) (σ : L2.St) (j : Nat), j ∉ vps.map Prod.fst → (setV σ vps)[j]? = σ[j]?
  | [], _, _, _ => rfl
  | q :: r, σ, j, h => by
    have h1 : q.1 ≠ j := fun e => h (by rw [← e]; exact List.mem_cons_self)
    have h2 : j ∉ r.map Prod.fst := fun m => h (List.mem_cons_of_mem _ m)
    show (setV (σ.set q.1 (some q.2)) r)[j]? = _
    rw [setV_at r _ j h2, List.getElem?_set_ne h1]
theorem wipe_set {σ : L2.St} {vs : List Nat} {vps : List (Nat × V)} (h : ∀ i ∈ vps.map Prod.fst, i ∈ vs) : L2.wipe (setV (L2.wipe σ vs) vps) vs = L2.wipe σ vs := by
  apply List.ext_getElem?
  intro j
  rw [wipe_at, setV_len, wipe_length]
  by_cases c : j ∈ vs ∧ j < σ.length
  · rw [if_pos c, wipe_at, if_pos c]
  · rw [if_neg c]
    by_cases m : j ∈ vps.map Prod.fst
    · have hl : ¬ j < σ.length := fun z => c ⟨h j m, z⟩
      rw [List.getElem?_eq_none_iff.mpr (by rw [setV_len, wipe_length]; omega), List.getElem?_eq_none_iff.mpr (by rw [wipe_length]; omega)]
    · exact setV_at vps _ j m
theorem wipeD_own {a : Addr} {c : Ct} : ∀ {vs : List Nat} {j : Nat}, (wipeD δ vs)[j]? = some (.own a c) → δ[j]? = some (.own a c)
  | [], _, h => h
  | v :: vs, j, h => by
    have h' : ((wipeD δ vs).set v .no)[j]? = some (.own a c) := h
    by_cases e : v = j
    · subst e
      have hl : v < (wipeD δ vs).length := by
        have := (List.getElem?_eq_some_iff.mp h').1
        rwa [List.length_set] at this
      rw [List.getElem?_set_self hl] at h'
      cases h'
    · rw [List.getElem?_set_ne e] at h'
      exact wipeD_own h'
theorem setS_own {a : Addr} {c : Ct} : ∀ {ps : List (Nat × PyData)} {δ : List Sl} {j : Nat}, (setS δ ps)[j]? = some (.own a c) → δ[j]? = some (.own a c)
  | [], _, _, h => h
  | q :: r, δ, j, h => by
    have h' : (δ.set q.1 (.dat q.2))[j]? = some (.own a c) := setS_own (ps := r) h
    by_cases e : q.1 = j
    · subst e
      have hl : q.1 < δ.length := by
        have := (List.getElem?_eq_some_iff.mp h').1
        rwa [List.length_set] at this
      rw [List.getElem?_set_self hl] at h'
      cases h'
    · rw [List.getElem?_set_ne e] at h'
      exact h'
theorem Stp.sub {δ2 : List Sl} (s : Stp δ2 F H F' H') (r : Rs b F H σ δ) (h : ∀ (j : Nat) a, δ2[j]? = some (.own a .pot) → ∃ j' : Nat, δ[j']? = some (.own a .pot)) : Stp δ F H F' H' where
  sf := s.sf
  ex := s.ex
  gr := s.gr
  ch := fun a o e n => s.ch a o e fun j hj => by
    obtain ⟨j', hj'⟩ := h j a hj
    exact n j' hj'
  pt := fun j a hj => by
    by_cases q : ∃ j' : Nat, δ2[j']? = some (.own a .pot)
    · obtain ⟨j', hj'⟩ := q
      exact s.pt j' a hj'
    · obtain ⟨x, y, e⟩ := r.pot_at hj
      exact ⟨x, y, s.ch a _ e fun j' hj' => q ⟨j', hj'⟩⟩
theorem Stp.poke (s : Stp δ F H F' H') (r : Rs b F H σ δ) {p : Addr} {o : HO} (h : H p = none) (n : F' p = none) : Stp δ F H F' (upd H' p o) where
  sf := s.sf
  ex := same_mut s.ex n
  gr := s.gr
  ch := fun a u e m => by rw [upd_ne (ne_of_none e h)]; exact s.ch a u e m
  pt := fun j a hj => by
    obtain ⟨x, y, e⟩ := r.pot_at hj
    obtain ⟨x', y', e'⟩ := s.pt j a hj
    exact ⟨x', y', by rw [upd_ne (ne_of_none e h)]; exact e'⟩
theorem ve_lc {wi : TI} {g : TG} {tt : TT} {vs : List Nat} (h : Vi b wi δ fun ds => ∃ (I : Nat → List PyData → Prop) (tgs : PyData → List (Nat × PyData)), I 0 [] ∧
    (∀ (i : Nat) d acc, ds[i]? = some d → I i acc → TgOk b g d (tgs d) ∧ (∀ q ∈ (tgs d).map Prod.fst, q ∈ vs) ∧ Vt b tt (setS (wipeD δ vs) (tgs d)) fun c =>
      (c = true → Ve b te (setS (wipeD δ vs) (tgs d)) fun s => ∃ e, s = .dat e ∧ acc.length < 100000 ∧ I (i + 1) (acc ++ [e])) ∧ (c = false → I (i + 1) acc)) ∧
    ∀ acc, I ds.length acc → Q (.dat (.list acc)) ∨ ∀ a, Q (.own a (.lst acc))) : Ve b (tLc wi g tt te vs) δ Q := fun F H σ rs k hk =>
  h F H σ rs _ fun F1 H1 J ds st w ⟨I, tgs, i0, it, ie⟩ => fun D hD => by
    have r1 := rs.step st
    have fD : F1 D = none := Same.free r1.wd.ex hD
    have npot : ∀ j : Nat, δ[j]? ≠ some (.own D .pot) := fun j hj => by
      obtain ⟨x, y, e⟩ := r1.pot_at hj
      rw [hD] at e; cases e
    refine lc_it (walk_of_D w) (fun i Hc => ∃ F' acc us, Stp δ F1 H1 F' Hc ∧ Hc D = some (.lst us) ∧ F' D = none ∧ RpAll b.K F' us acc ∧ I i acc) ⟨F1, [], [], r1.new hD, upd_same, fD, .nil, i0⟩ (fun i Hc _ ⟨F', acc, us, s, _⟩ => s.sf.trans s.ex) (fun i x Hc Hc' hi ⟨F', acc, us, s, e1, e2, ha, hI⟩ y => ?_) (fun Hc ⟨F', acc, us, s, e1, e2, ha, hI⟩ => ?_)
    · have hd : ds[i]? = some ds[i] := List.getElem?_eq_getElem hi
      obtain ⟨tg, sub, hv⟩ := it i ds[i] acc hd hI
      obtain ⟨F2, sm2, st2, r2, hx⟩ := yield_ok rfl s.sf (r1.step s) (y _ hd)
      refine tg F2 Hc' _ x r2.wd.ex hx _ fun vps ef ra => ⟨wipe_set (by rw [ef]; exact sub), ?_⟩
      have r3 : Rs b F2 Hc' (setV (L2.wipe σ vs) vps) (setS (wipeD δ vs) (tgs ds[i])) := (r2.wipe vs).setAll ef ra
      have pin : ∀ (j : Nat) a, (setS (wipeD δ vs) (tgs ds[i]))[j]? = some (.own a .pot) → ∃ j' : Nat, δ[j']? = some (.own a .pot) := fun j a q => ⟨j, wipeD_own (setS_own q)⟩
      have e1' : Hc' D = some (.lst us) := st2.ch D _ e1 npot
      refine hv F2 Hc' _ r3 _ fun F3 H3 c st3 ⟨q1, q2⟩ => ?_
      have st3' := st3.sub r2 pin
      have e3 : H3 D = some (.lst us) := st3'.ch D _ e1' npot
      have f2 : F2 D = none := by rw [st2.gr D (by rw [e1]; exact (fun z => nomatch z))]; exact e2
      have f3 : F3 D = none := by rw [st3'.gr D (by rw [e1']; exact (fun z => nomatch z))]; exact f2
      cases c with
      | false => exact iteF ⟨F3, acc, us, (s.trans st2).trans st3', e3, f3, rps_mono (sm2.trans st3.sf) ha, q2 rfl⟩
      | true =>
        refine iteT (q1 rfl F3 H3 _ (r3.step st3) _ fun F4 H4 v sl st4 ro ⟨e, es, hl, hI'⟩ => ?_)
        subst es
        have st4' := st4.sub (r2.step st3') pin
        have e4 : H4 D = some (.lst us) := st4'.ch D _ e3 npot
        have f4 : F4 D = none := by rw [st4'.gr D (by rw [e3]; exact (fun z => nomatch z))]; exact f3
        have hu := rps_len ha
        refine ⟨us, e4, by rw [hu]; exact small_lt hl, F4, acc ++ [e], us ++ [v], (((s.trans st2).trans st3').trans st4').poke r1 hD f4, upd_same, f4, rps_app (rps_mono ((sm2.trans st3.sf).trans st4.sf) ha) (.cons ro .nil), hI'⟩
    · rcases ie acc hI with q | q
      · have sz := s.freeze hD e2 e1
        exact hk _ Hc (.ref D) (.dat (.list acc)) (st.trans sz) (Rp.lst upd_same (rps_mono (same_new e2) ha)) q
      · exact hk _ Hc (.ref D) (.own D (.lst acc)) (st.trans s) ⟨rfl, e2, st.back hD, _, e1, us, rfl, ha⟩ (q D)
/-- the pure form: each item gives a thing or none -/
theorem ve_lcM {wi : TI} {g : TG} {tt : TT} {vs : List Nat} (h : Vi b wi δ fun ds => ds.length ≤ 100000 ∧ ∃ (tgs : PyData → List (Nat × PyData)) (f : PyData → Option PyData),
    (∀ d ∈ ds, TgOk b g d (tgs d) ∧ (∀ q ∈ (tgs d).map Prod.fst, q ∈ vs) ∧ Vt b tt (setS (wipeD δ vs) (tgs d)) fun c =>
      (c = true → Ve b te (setS (wipeD δ vs) (tgs d)) fun s => ∃ e, s = .dat e ∧ f d = some e) ∧ (c = false → f d = none)) ∧ Q (.dat (.list (ds.filterMap f)))) : Ve b (tLc wi g tt te vs) δ Q := by
  refine ve_lc fun F H σ rs k hk => h F H σ rs k fun F' H' J ds st w ⟨hl, tgs, f, ht, q⟩ => hk F' H' J ds st w ⟨fun i acc => acc = (ds.take i).filterMap f, tgs, rfl, fun i d acc hd hI => ?_, fun acc e => ?_⟩
  · have hm : d ∈ ds := List.mem_of_getElem? hd
    obtain ⟨h1, h2, h3⟩ := ht d hm
    have hi : i < ds.length := (List.getElem?_eq_some_iff.mp hd).1
    have et : (ds.take (i + 1)).filterMap f = acc ++ (match f d with | some e => [e] | none => []) := by
      rw [List.take_add_one, hd, List.filterMap_append, ← hI]
      cases e : f d <;> simp [e]
    have hlen : acc.length < 100000 := by
      rw [hI]
      exact Nat.lt_of_le_of_lt (Nat.le_trans (List.length_filterMap_le _ _) (List.length_take_le _ _)) (by omega)
    refine ⟨h1, h2, h3.mono fun c ⟨q1, q2⟩ => ⟨fun hc => (q1 hc).mono fun s ⟨e, e1, e2⟩ => ⟨e, e1, hlen, ?_⟩, fun hc => ?_⟩⟩
    · show acc ++ [e] = _
      rw [et, e2]
    · show acc = _
      rw [et, q2 hc]; simp
  · rw [e, List.take_length]; exact .inl q
end
end Fs

/-! Promises of defs that run where no repr is under way (A.guards = some []), so that repr may be called in them. -/
namespace Fs
open PySem PySem.Spec PyProof.Rows L2
/-- a def keeps its promise wherever no guard is up -/
structure FnG (P : Program) (w : World) (K : PySem.W.Frag) (mg : Str → Option Value) (base : Heap) (CX : CXT) (k : Nat) (f : Addr) (fd : FuncData) (ps : List Str) (sp : Sp) : Prop where
  num : ∀ vs H Q E, sp vs H Q E → vs.length = ps.length
  go : ∀ (A : Around) (up : List Env) (s : Shared) (H : Hp) (ar : Args) (us : List Value) (vs : List V) (Q : VK) (E : XK), A.guards = some [] → Room k A → Env0 P w K mg base A up s H →
    BindsTo s fd ar (ps.zip us) → Vals vs us → sp vs H Q E → codeAny (model P w) A (.call (.ref f) ar) (CR CX up P w H s Q E) s
section
variable {P : Program} {w : World} {K : PySem.W.Frag} {mg : Str → Option Value} {base : Heap} {CX : CXT} {k : Nat} {f : Addr}
theorem FnG.up {j : Nat} {fd : FuncData} {ps : List Str} {sp : Sp} (G : FnG P w K mg base CX j f fd ps sp) (h : j ≤ k) : FnG P w K mg base CX k f fd ps sp :=
  ⟨G.num, fun A up s H ar us vs Q E hg hr => G.go A up s H ar us vs Q E hg (hr.mono h)⟩
/-- what a body's end says of the call -/
theorem body_end {X : Cx} {up : List Env} {H : Hp} {s : Shared} {Q : VK} {E : XK} (e1 : X.prog = P) (e2 : X.w = w) (e3 : X.H_0 = H) (e4 : X.s_0 = s) (e5 : X.fs = frs up) (e6 : X.ex = []) {fl : Flow} {s' : Shared}
    (h : SP X [] { nx := fun _ H' => Q .non H', rt := Q } fl s') : ∃ u, fl = .ret u ∧ CE up P w H s Q u s' ∨ fl = .next ∧ CE up P w H s Q .none s' := by
  subst e1 e2 e3 e4
  have close : ∀ {σ' : L2.St} {H' : Hp} {v : V} {u : Value}, Inv X [] σ' H' s' → RelV v u → Q v H' → CE up X.prog X.w X.H_0 X.s_0 Q u s' := fun {σ' H' v u} J rv q => by
    have un := J.base
    rw [e5, e6] at un
    exact ⟨v, H', J.os, J.bare, un, J.hok, rv, q⟩
  match fl, h with
  | .ret u, h =>
    obtain ⟨v, σ', H', J, rv, q⟩ := h
    exact ⟨u, .inl ⟨rfl, close J rv q⟩⟩
  | .next, h =>
    obtain ⟨σ', H', J, q⟩ := h
    exact ⟨.none, .inr ⟨rfl, close (v := V.non) J rfl q⟩⟩
  | .brk, h => obtain ⟨_, _, _, q⟩ := h; exact False.elim q
  | .cont, h => obtain ⟨_, _, _, q⟩ := h; exact False.elim q
theorem fg_of {x : Str} {args : Arguments} {body : List Stmt} {scope : Scope} {fd : FuncData} {N ps : List Str} {sp : Sp} (FD : FunD K x x args body scope [] [] f fd) (S : FnScope N ps scope) (num : ∀ vs H Q E, sp vs H Q E → vs.length = ps.length)
    (hbody : ∀ (cdv : Value) (A : Around) (up : List Env) (s : Shared) (H : Hp) (vs : List V) (Q : VK) (E : XK), A.guards = some [] → Room k (A.deeper (envOfC x scope s.heap.objs.size f cdv)) → sp vs H Q E →
      ∃ t, PSs (cxOf CX P w K mg base N x scope f cdv A up s H E) body t ∧ t { nx := fun _ H' => Q .non H', rt := Q } (L2.start N vs) H) : FnG P w K mg base CX (k + 1) f fd ps sp := by
  obtain ⟨oc, od, dV, kV, doc, pm, an, cdv, ct, osl, rfl, lk, hcd, _, _⟩ := FD.ex
  refine ⟨num, fun A up s H ar us vs Q E hg room ev bd rel want => ?_⟩
  have old : ∀ b o, base.get? b = some o → s.heap.get? b = some o := fun b o e => (ev.bs b o e).1
  have inK : K.In s.heap := ev.mod.kin.keeps old
  refine codeAny_call_function room.depth (inK _ _ lk) rfl S.co S.gen rfl (PySem.W.codeRec_of inK hcd) (bd _ _ _ _ ?_)
  refine wpAny_newFunctionEnv_cells S.kind (fun y hy => ?_) fun env he s1 ic => ?_
  · obtain ⟨nm, v⟩ := y
    exact (S.par nm (List.of_mem_zip hy).1).imp id fun q => ⟨q, PySem.W.cellsFrom_some _ _ _ (.inl q)⟩
  · subst he
    refine ⟨(ev.mod.nolimit.keeps old).keeps ic.toInCall.keep, codeAny_func ?_⟩
    obtain ⟨t, ht, hq⟩ := hbody cdv A up s H vs Q E hg (room.deeper _) want
    have I0 := inv_start (CX := CX) (N := N) (E := E) S room.hd ev (num _ _ _ _ want) rel ic
    refine wpAny_mono (ht.run [] s1 _ H _ I0 hq) (fun fl s' hs => ?_) fun _ _ z => z
    obtain ⟨u, ⟨rfl, q⟩ | ⟨rfl, q⟩⟩ := body_end (P := P) (w := w) (H := H) (s := s) (up := up) (E := E) rfl rfl rfl rfl rfl rfl hs
    · exact q
    · exact q
end
section
variable {X : Cx} {K : PySem.W.Frag}
/-- a call's value in a caller -/
theorem fg_call {CX : CXT} {k : Nat} {f : Addr} {fd : FuncData} {ps : List Str} {sp : Sp} {E : XK} {pins : List (Addr × Obj)} {σ : L2.St} {H : Hp} {s : Shared} {Q : VK} {us : List Value} {vs : List V} (G : FnG X.prog X.w X.K X.mg X.base CX k f fd ps sp)
    (hg : X.A.guards = some []) (hr : Room k X.A) (hb : Binds X.K fd ps []) (hx : Passes CX X E) (I : Inv X pins σ H s) (rel : Vals vs us) (want : sp vs H Q E) : wpAny (model X.prog X.w) X.A (call (.ref f) us) (EP X pins σ Q) X.xe s := by
  have hl : us.length = ps.length := rel.length.symm.trans (G.num _ _ _ _ want)
  have hb' : BindsTo s fd ⟨us, []⟩ (ps.zip us) := by
    have z := hb s us I.kIn (by rw [List.append_nil]; exact hl)
    rw [List.append_nil] at z
    exact z
  refine wpAny_call (codeAny_mono (G.go X.A X.stack s H ⟨us, []⟩ us vs Q E hg hr I.env0 hb' rel want) fun res s' hres => ?_)
  match res, hres with
  | .error e, z => exact hx pins σ H s e s' I z
  | .ok (.ret u), z => exact I.after z
  | .ok .next, z => exact z.elim
  | .ok .brk, z => exact z.elim
  | .ok .cont, z => exact z.elim
/-! ### repr of data -/
def rReprB (K : PySem.W.Frag) : List V → Hp → VK → Prop := fun xs H Q => ∃ x d, xs = [x] ∧ Dp K H x d ∧ SeqAt.shaped d = true ∧ d.showable = true ∧ d.shown.length ≤ sizeLine ∧ Q (.str d.shown) H
theorem call_reprB (hg : X.A.guards = some []) (hu : X.A.units + 65 < cLine) : CallR X (.builtin "repr") (rReprB X.K) := by
  intro pins s σ H xs us Q I r h
  obtain ⟨x, d, rfl, hd, sd, sh, hl, q⟩ := h
  obtain ⟨u, rfl, ru⟩ := vals1 r
  have fin : ∀ h' (t : Tok) (tk : Nat), (∀ b o, s.heap.get? b = some o → h'.get? b = some o) → EP X pins σ Q (.str d.shown t) { s with heap := h', toks := tk } := fun h' t tk kp => ⟨.str d.shown, H, I.kept kp, ⟨t, rfl⟩, q⟩
  cases hd with
  | lst hs ha =>
    obtain ⟨as, rr⟩ := Dp.reads I _ _ _ (Dp.lst hs ha) ru
    cases ru
    exact repr_of_reads' rr sh (PyData.noDict_hsm (PyData.hasDict_of_canLay _ (SeqAt.canLay_of_shaped sd))) hg (by have := SeqAt.depth_of_shaped sd; omega) (fun _ _ e => e) (fun h' t tk kp => fin h' t tk kp) hl
  | tup hs ha =>
    obtain ⟨as, rr⟩ := Dp.reads I _ _ _ (Dp.tup hs ha) ru
    cases ru
    exact repr_of_reads' rr sh (PyData.noDict_hsm (PyData.hasDict_of_canLay _ (SeqAt.canLay_of_shaped sd))) hg (by have := SeqAt.depth_of_shaped sd; omega) (fun _ _ e => e) (fun h' t tk kp => fin h' t tk kp) hl
  | non =>
    obtain rfl : u = Value.none := ru
    exact PySem.P.repr_of_none ⟨.str _, H, I.tok _, ⟨_, rfl⟩, q⟩
  | bl c =>
    obtain rfl : u = Value.bool c := ru
    exact PySem.P.repr_of_bool ⟨.str _, H, I.tok _, ⟨_, rfl⟩, q⟩
  | int i =>
    obtain ⟨t, rfl⟩ := ru
    exact PySem.P.repr_of_int (of_decide_eq_true sh) ⟨.str _, H, I.tok _, ⟨_, rfl⟩, q⟩
  | str z =>
    obtain ⟨t, rfl⟩ := ru
    exact PySem.P.repr_of_str ⟨.str _, H, I.tok _, ⟨_, rfl⟩, q⟩ hl
end
/-! ### the law's call -/
/-- the script alone, as it lies -/
def scrH (o : Obj) (a : Addr) (ns : List Int) : Hp := fun b => if b = a then some (.frz o (.lst (ns.map V.int))) else none
theorem scrH_at {o : Obj} {a : Addr} {ns : List Int} {b : Addr} {u : HO} (h : scrH o a ns b = some u) : b = a ∧ u = .frz o (.lst (ns.map V.int)) := by
  unfold scrH at h
  by_cases e : b = a
  · rw [if_pos e] at h
    exact ⟨e, (Option.some.inj h).symm⟩
  · rw [if_neg e] at h
    cases h
section
variable {P : Program} {w : World} {K : PySem.W.Frag} {mg mb : Str → Option Value} {k : Nat} {fa a : Addr} {fd : FuncData} {x : Str} {sp : Sp} {s1 : Shared} {us : List Value} {ns : List Int}
/-- what is asked of the law's call -/
def LawEnd (s1 : Shared) (r : Result) (s' : Shared) : Prop := r = .ok (.ret (.bool true)) ∧ PySem.OldK s1.heap s'.heap ∧ s'.os = s1.os ∧ AllBare s'.gens
theorem law_from {H : Hp} (inK : K.In s1.heap) (hns : s1.heap.Ns mainGlobals mg) (hbn : s1.heap.Ns builtinsNs mb) (hbb : ∀ y : Str, y ≠ "__name__" → mb y = bootBuiltins y) (hlim : s1.heap.NoLimit) (hgen : s1.gens = #[])
    (ha : s1.heap.get? a = some { cls := .type "list", data := .seq us.toArray }) (hr : Room k callerA) (G : ∀ base : Heap, K.In base → base.Ns mainGlobals mg → FnG P w K mg base CX0 k fa fd [x] sp)
    (bd : ∀ (s : Shared) (u : Value), BindsTo s fd ⟨[u], []⟩ [(x, u)]) (ok : HOk P w H s1.heap) (only : ∀ b u, H b = some u → b = a ∧ K.lookup b = none ∧ ∃ o v, u = .frz o v) (want : sp [.ref a] H (fun v _ => v = .bl true) fun _ _ _ => False) :
    codeAny (model P w) callerA (.call (.ref fa) ⟨[.ref a], []⟩) (LawEnd s1) s1 := by
  have stay : ∀ {b : Addr} {o : Obj}, s1.heap.get? b = some o → H b = none → (hidT s1.heap H).get? b = some o := fun e n => hidT_get e n
  have free : ∀ {b : Addr} {o : Obj}, s1.heap.get? b = some o → (∀ y, o.data ≠ .seq y 0 ∨ True) → (b = a → False) → H b = none := fun {b o} _ _ ne => by
    cases q : H b with
    | none => rfl
    | some u => exact (ne (only b u q).1).elim
  have dictNe : ∀ {b : Addr} {o : Obj} {es : Array DictEntry} {ep : Nat}, s1.heap.get? b = some o → o.data = .dict es ep → b ≠ a := fun {b o es ep} e d z => by
    subst z
    rw [ha] at e
    cases e
    exact nomatch d
  have nsB : ∀ {b : Addr} {m : Str → Option Value}, s1.heap.Ns b m → (hidT s1.heap H).Ns b m := fun {b m} ⟨o, es, ep, e, d, r⟩ => ⟨o, es, ep, stay e (free e (fun _ => .inr trivial) (dictNe e d)), d, r⟩
  have inB : K.In (hidT s1.heap H) := fun b o e => stay (inK b o e) (by
    cases q : H b with
    | none => rfl
    | some u => rw [(only b u q).2.1] at e; cases e)
  have limB : (hidT s1.heap H).NoLimit := by
    obtain ⟨mc, h1, h2⟩ := hlim
    exact ⟨mc, nsB h1, h2⟩
  have ev : Env0 P w K mg (hidT s1.heap H) callerA [] s1 H :=
    { frames := rfl, mod := ⟨inB, nsB hns, ⟨mb, nsB hbn, hbb⟩, limB⟩, bs := fun b o e => of_hidT e, bsz := Nat.le_of_eq (hidT_size _ _), funs := trivial, frf := fun b hb => absurd (show b ∈ ([] : List Addr) from hb) List.not_mem_nil, hok := ok, bare := .of_eq hgen }
  refine codeAny_mono ((G _ inB (nsB hns)).go callerA [] s1 H ⟨[.ref a], []⟩ [.ref a] [.ref a] _ _ rfl hr ev (bd s1 (.ref a)) (.cons rfl .nil) want) fun r s' h => ?_
  match r, h with
  | .error _, z => exact z.elim
  | .ok .next, z => exact z.elim
  | .ok .brk, z => exact z.elim
  | .ok .cont, z => exact z.elim
  | .ok (.ret u), ⟨v, H', os, bare, un, ok', rv, q⟩ =>
    have q' : v = .bl true := q
    subst q'
    obtain rfl : u = Value.bool true := rv
    refine ⟨rfl, OldK.of_keep fun b o e => ?_, os, bare⟩
    cases z : H b with
    | none => exact un.keep b o e z (fun m => absurd (show b ∈ ([] : List Addr) from m) List.not_mem_nil) List.not_mem_nil
    | some t =>
      obtain ⟨_, _, ob, v, rfl⟩ := only b t z
      have k1 : s1.heap.get? b = some ob := (ok b _ z).1
      have k2 : s'.heap.get? b = some ob := (ok' b _ (un.frzs b ob v z)).1
      rw [e] at k1
      cases k1
      exact k2
theorem law_callG (inK : K.In s1.heap) (hns : s1.heap.Ns mainGlobals mg) (hbn : s1.heap.Ns builtinsNs mb) (hbb : ∀ y : Str, y ≠ "__name__" → mb y = bootBuiltins y) (hlim : s1.heap.NoLimit) (hgen : s1.gens = #[])
    (ha : s1.heap.get? a = some { cls := .type "list", data := .seq us.toArray }) (hi : IntsAre us ns) (hl : ns.length ≤ sizeLine) (hr : Room k callerA) (G : ∀ base : Heap, K.In base → base.Ns mainGlobals mg → FnG P w K mg base CX0 k fa fd [x] sp)
    (bd : ∀ (s : Shared) (u : Value), BindsTo s fd ⟨[u], []⟩ [(x, u)]) (want : ∀ H : Hp, SqL K H a (ns.map V.int) → sp [.ref a] H (fun v _ => v = .bl true) fun _ _ _ => False) :
    codeAny (model P w) callerA (.call (.ref fa) ⟨[.ref a], []⟩) (LawEnd s1) s1 := by
  have rv := vals_ints hi
  cases hk : K.lookup a with
  | some o =>
    have e := inK a o hk
    rw [ha] at e
    cases e
    refine law_from (H := fun _ => none) inK hns hbn hbb hlim hgen ha hr G bd (fun b u z => nomatch z) (fun b u z => nomatch z) (want _ (.inr ⟨_, us.toArray, _, hk, rfl, rfl, rfl, ?_, by simpa using rv⟩))
    rw [List.size_toArray, hi.length]
    exact hl
  | none =>
    refine law_from (H := scrH { cls := .type "list", data := .seq us.toArray } a ns) inK hns hbn hbb hlim hgen ha hr G bd (fun b u z => ?_) (fun b u z => ?_) (want _ (.inl (.inr ⟨_, if_pos rfl⟩)))
    · obtain ⟨rfl, rfl⟩ := scrH_at z
      exact ⟨ha, by rw [List.length_map]; exact hl, us, _, rv, ha⟩
    · obtain ⟨rfl, rfl⟩ := scrH_at z
      exact ⟨rfl, hk, _, _, rfl⟩
end
theorem walk_G {l : PySem.W.OpenLaw} {n k : Nat} {q : Program} {loose : List Str} {XP : (Str → Option Value) → Heap → Prop} {YP : World → Heap → Prop} {d : DefRec} {x : Str} (hn : l.most = some n) (hn2 : n ≤ sizeLine) (hdf : d.params.defaults = []) (hr : Room k callerA)
    (F : ∀ (w : World) (mg : Str → Option Value) (fa : Addr) (h : Heap), YP w h → h.Ns mainGlobals mg → mg d.name = some (.ref fa) → ∃ (K : PySem.W.Frag) (fd : FuncData) (sp : Sp), K.In h ∧ (∀ (s : Shared) (u : Value), BindsTo s fd ⟨[u], []⟩ [(x, u)]) ∧
      (∀ (H : Hp) (a : Addr) (ns : List Int), ns.length ≤ n → SqL K H a (ns.map V.int) → sp [.ref a] H (fun v _ => v = .bl true) fun _ _ _ => False) ∧ ∀ base : Heap, K.In base → base.Ns mainGlobals mg → FnG l.prog w K mg base CX0 k fa fd [x] sp) :
    PySem.W.WalkO q loose XP YP l.row.toRowW d [] (fun f vs => PySem.call f vs) := by
  refine Att.attach_call hn hdf fun w s0 s1 mg mb fa o pm cd doc a us ns Gr Y ho hd hcd hmg hobj hints hlen hg => ?_
  obtain ⟨K, fd, sp, inK, bd, want, G⟩ := F w mg fa _ Y Gr.T.g hmg
  exact law_callG inK Gr.T.g Gr.T.b Gr.T.builtins Gr.T.nolimit hg hobj hints (Nat.le_trans hlen hn2) hr G bd fun H hS => want H a ns hlen hS
end Fs

namespace Fs
open PySem PySem.Spec PyProof.Rows L2
/-! ### promises by data -/
abbrev Tr := List Sl → (Sl → Prop) → (Addr → Prop) → Prop
def potAs : List Sl → List Addr
  | [] => []
  | .own a .pot :: r => a :: potAs r
  | _ :: r => potAs r
def nOwn : List Sl → Nat
  | [] => 0
  | .own _ _ :: r => nOwn r + 1
  | _ :: r => nOwn r
def ArgIn (K : PySem.W.Frag) (F H : Hp) (v : V) : Sl → Prop
  | .no => False
  | .dat d => Rp K F v d
  | .scr ns => ∃ a, v = .ref a ∧ SqL K F a (ns.map V.int)
  | .own _ (.lst _) => False
  | .own a .pot => v = .ref a ∧ F a = none ∧ IsPot H a
inductive ArgsIn (K : PySem.W.Frag) (F H : Hp) : List V → List Sl → Prop
  | nil : ArgsIn K F H [] []
  | cons {v : V} {s : Sl} {vs : List V} {ss : List Sl} : ArgIn K F H v s → ArgsIn K F H vs ss → ArgsIn K F H (v :: vs) (s :: ss)
def spD (K : PySem.W.Frag) (T : Tr) : Sp := fun vs H Q E => ∃ F ss Qd Ed, Same F H ∧ ArgsIn K F H vs ss ∧ nOwn ss ≤ 1 ∧ T ss Qd Ed ∧
  (∀ F' H' v s, Stp ss F H F' H' → ResOk K H F' H' v s → Qd s → Q v H') ∧ ∀ F' H' C, Stp ss F H F' H' → Ed C → E (.ref C) none H'
theorem mem_potAs {a : Addr} : ∀ {ss : List Sl}, a ∈ potAs ss ↔ ∃ j : Nat, ss[j]? = some (.own a .pot)
  | [] => by simp [potAs]
  | s :: r => by
    have ih := mem_potAs (a := a) (ss := r)
    have hr : (∃ j : Nat, (s :: r)[j]? = some (.own a .pot)) ↔ s = .own a .pot ∨ ∃ j : Nat, r[j]? = some (.own a .pot) := by
      constructor
      · rintro ⟨j, h⟩
        cases j with
        | zero => exact .inl (Option.some.inj h)
        | succ j => exact .inr ⟨j, h⟩
      · rintro (h | ⟨j, h⟩)
        · exact ⟨0, by rw [h]; rfl⟩
        · exact ⟨j + 1, h⟩
    rw [hr]
    cases s with
    | own c k =>
      cases k with
      | pot =>
        show a ∈ c :: potAs r ↔ _
        rw [List.mem_cons, ih]
        constructor
        · rintro (h | h)
          · exact .inl (by rw [h])
          · exact .inr h
        · rintro (h | h)
          · exact .inl (by injection h with h _; exact h.symm)
          · exact .inr h
      | lst ds =>
        show a ∈ potAs r ↔ _
        rw [ih]
        exact ⟨.inr, fun h => h.elim (fun z => nomatch z) id⟩
    | no => exact ih.trans ⟨.inr, fun h => h.elim (fun z => nomatch z) id⟩
    | dat d => exact ih.trans ⟨.inr, fun h => h.elim (fun z => nomatch z) id⟩
    | scr d => exact ih.trans ⟨.inr, fun h => h.elim (fun z => nomatch z) id⟩
theorem own_one : ∀ {ss : List Sl} {i j : Nat} {a a' : Addr} {c c' : Ct}, nOwn ss ≤ 1 → ss[i]? = some (.own a c) → ss[j]? = some (.own a' c') → i = j
  | [], _, _, _, _, _, _, _, h, _ => by simp at h
  | s :: r, 0, 0, _, _, _, _, _, _, _ => rfl
  | s :: r, 0, j + 1, a, a', c, c', h, h1, h2 => by
    have e : s = .own a c := Option.some.inj h1
    subst e
    have h' : nOwn r + 1 ≤ 1 := h
    exact absurd (own_pos (show r[j]? = some (.own a' c') from h2)) (by omega)
  | s :: r, i + 1, 0, a, a', c, c', h, h1, h2 => by
    have e : s = .own a' c' := Option.some.inj h2
    subst e
    have h' : nOwn r + 1 ≤ 1 := h
    exact absurd (own_pos (show r[i]? = some (.own a c) from h1)) (by omega)
  | s :: r, i + 1, j + 1, a, a', c, c', h, h1, h2 => by
    have h' : nOwn r ≤ 1 := by
      cases s with
      | own x y => exact Nat.le_trans (Nat.le_succ _) (show nOwn r + 1 ≤ 1 from h)
      | _ => exact h
    rw [own_one (ss := r) h' (show r[i]? = some (.own a c) from h1) (show r[j]? = some (.own a' c') from h2)]
where
  own_pos : ∀ {ss : List Sl} {j : Nat} {a : Addr} {c : Ct}, ss[j]? = some (.own a c) → 0 < nOwn ss
    | [], _, _, _, h => by simp at h
    | s :: r, 0, a, c, h => by
      have e : s = .own a c := Option.some.inj h
      subst e
      exact Nat.succ_pos _
    | s :: r, j + 1, a, c, h => by
      have := own_pos (ss := r) (show r[j]? = some (.own a c) from h)
      cases s with
      | own x y => exact Nat.succ_pos _
      | _ => exact this
section
variable {b : Bx} {δ : List Sl} {Q : Sl → Prop} {F F' H H' : Hp} {σ : L2.St} {tr : TA}
theorem args_in {vs : List V} {ss : List Sl} (r : Rs b F H σ δ) (h : ArgsOk b.K δ F vs ss) : ArgsIn b.K F H vs ss := by
  induction h with
  | nil => exact .nil
  | @cons v s vs ss h _ ih =>
    refine .cons ?_ ih
    cases s with
    | no => exact h
    | dat d => exact h
    | scr ns => exact h
    | own a c =>
      cases c with
      | lst _ => exact h
      | pot =>
        obtain ⟨h1, j, hj⟩ := h
        exact ⟨h1, (r.slot j _ hj).2.1, r.pot_at hj⟩
theorem args_pots {K : PySem.W.Frag} {vs : List V} {ss : List Sl} (h : ArgsOk K δ F vs ss) : ∀ {j : Nat} {a : Addr}, ss[j]? = some (.own a .pot) → ∃ j' : Nat, δ[j']? = some (.own a .pot) := by
  induction h with
  | nil => intro j a e; simp at e
  | @cons v s vs ss h _ ih =>
    intro j a e
    cases j with
    | zero =>
      have e : s = .own a .pot := Option.some.inj e
      subst e
      exact h.2
    | succ j => exact ih (show ss[j]? = _ from e)
/-- a call of a def that lets nothing out -/
theorem ve_call {T : Tr} (h : Va b tr δ fun ss => nOwn ss ≤ 1 ∧ T ss Q fun _ => False) : Ve b (tCall (spD b.K T) [] E0 tr) δ Q := fun F H σ rs k hk =>
  h F H σ rs _ fun F1 H1 vs ss st ao ⟨hn, ht⟩ => by
    have r1 := rs.step st
    refine ⟨F1, ss, Q, fun _ => False, r1.wd.ex, by rw [List.append_nil]; exact args_in r1 ao, hn, ht, fun F2 H2 v s st2 ro q => ?_, fun _ _ _ _ z => z⟩
    exact hk F2 H2 v s (st.trans (st2.sub r1 fun j a hj => args_pots ao hj)) (ro.back st) q
/-- a call of a def that may raise, in a def that lets it out -/
theorem ve_callX {T : Tr} (h : Va b tr δ fun ss => nOwn ss ≤ 1 ∧ T ss Q b.Ed) : Ve b (tCall (spD b.K T) [] b.E tr) δ Q := fun F H σ rs k hk =>
  h F H σ rs _ fun F1 H1 vs ss st ao ⟨hn, ht⟩ => by
    have r1 := rs.step st
    refine ⟨F1, ss, Q, b.Ed, r1.wd.ex, by rw [List.append_nil]; exact args_in r1 ao, hn, ht, fun F2 H2 v s st2 ro q => ?_, fun F2 H2 C st2 q => ?_⟩
    · exact hk F2 H2 v s (st.trans (st2.sub r1 fun j a hj => args_pots ao hj)) (ro.back st) q
    · exact r1.er F2 H2 C (r1.step (st2.sub r1 fun j a hj => args_pots ao hj)).wd q
end
/-! ### a def's body -/
theorem args_len {K : PySem.W.Frag} {F H : Hp} {vs : List V} {ss : List Sl} (h : ArgsIn K F H vs ss) : vs.length = ss.length := by
  induction h with
  | nil => rfl
  | cons _ _ ih => exact congrArg Nat.succ ih
theorem args_at {K : PySem.W.Frag} {F H : Hp} {vs : List V} {ss : List Sl} (h : ArgsIn K F H vs ss) : ∀ {i : Nat} {s : Sl}, ss[i]? = some s → ∃ v, vs[i]? = some v ∧ ArgIn K F H v s := by
  induction h with
  | nil => intro i s e; simp at e
  | @cons v s vs ss h _ ih =>
    intro i s' e
    cases i with
    | zero =>
      have e : s = s' := Option.some.inj e
      subst e
      exact ⟨v, rfl, h⟩
    | succ i => exact ih (show ss[i]? = _ from e)
theorem rs_start {K : PySem.W.Frag} {F H : Hp} {N : List Str} {vs : List V} {ss : List Sl} {E : XK} {Ed : Addr → Prop} (ex : Same F H) (ha : ArgsIn K F H vs ss) (hn : nOwn ss ≤ 1)
    (er : ∀ F' H' C, Wd ⟨K, H, F, potAs ss, E, Ed⟩ F' H' → Ed C → E (.ref C) none H') : Rs ⟨K, H, F, potAs ss, E, Ed⟩ F H (L2.start N vs) (ss ++ List.replicate (N.length - ss.length) .no) where
  wd := ⟨ex, .refl _, fun _ _ => rfl, fun _ _ h _ => h, fun a h => by
    obtain ⟨j, hj⟩ := mem_potAs.mp h
    obtain ⟨v, _, q⟩ := args_at ha hj
    exact q.2.2, fun a h => by
    obtain ⟨j, hj⟩ := mem_potAs.mp h
    obtain ⟨v, _, q⟩ := args_at ha hj
    exact q.2.1, fun a h => by
    obtain ⟨j, hj⟩ := mem_potAs.mp h
    obtain ⟨v, _, q⟩ := args_at ha hj
    obtain ⟨x, y, e⟩ := q.2.2
    show H a ≠ none
    rw [e]; exact (fun z => nomatch z)⟩
  len := by
    unfold L2.start
    rw [List.length_append, List.length_append, List.length_map, List.length_replicate, List.length_replicate, args_len ha]
  slot := fun i s h => by
    by_cases hi : i < ss.length
    · rw [List.getElem?_append_left hi] at h
      obtain ⟨v, hv, q⟩ := args_at ha h
      have e : (L2.start N vs)[i]? = some (some v) := by
        unfold L2.start
        rw [List.getElem?_append_left (by rw [List.length_map, args_len ha]; exact hi), List.getElem?_map, hv]
        rfl
      rw [e]
      cases s with
      | no => trivial
      | dat d => exact ⟨v, rfl, q⟩
      | scr ns => obtain ⟨a, rfl, h2⟩ := q; exact ⟨a, rfl, h2⟩
      | own a c =>
        cases c with
        | lst _ => exact q.elim
        | pot =>
          obtain ⟨rfl, h2, x, y, h3⟩ := q
          exact ⟨rfl, h2, .inr ⟨mem_potAs.mpr ⟨i, h⟩, rfl⟩, _, h3, x, y, rfl⟩
    · rw [List.getElem?_append_right (by omega), List.getElem?_replicate] at h
      by_cases c : i - ss.length < N.length - ss.length
      · rw [if_pos c] at h; cases h; trivial
      · rw [if_neg c] at h; cases h
  apart := fun i j a c c' h1 h2 => by
    have f : ∀ {m : Nat} {c : Ct}, (ss ++ List.replicate (N.length - ss.length) Sl.no)[m]? = some (.own a c) → ss[m]? = some (.own a c) := fun {m c} h => by
      by_cases hi : m < ss.length
      · rw [List.getElem?_append_left hi] at h; exact h
      · rw [List.getElem?_append_right (by omega), List.getElem?_replicate] at h
        split at h <;> cases h
    exact own_one hn (f h1) (f h2)
  er := er
theorem stp_of_wd {K : PySem.W.Frag} {F H F' H' : Hp} {ss : List Sl} {E : XK} {Ed : Addr → Prop} (w : Wd ⟨K, H, F, potAs ss, E, Ed⟩ F' H') : Stp ss F H F' H' where
  sf := w.f0
  ex := w.ex
  gr := w.grow
  ch := fun a o h n => w.keep a o h fun m => by
    obtain ⟨j, hj⟩ := mem_potAs.mp m
    exact n j hj
  pt := fun j a hj => w.pots a (mem_potAs.mpr ⟨j, hj⟩)
theorem fn_body {K : PySem.W.Frag} {T : Tr} {N : List Str} {t : TS} {vs : List V} {H : Hp} {Q : VK} {E Ee : XK} (hE : (∀ cls d H', Ee cls d H' → E cls d H') ∨ Ee = E0)
    (hb : ∀ (b : Bx) ss Qd, b.K = K → b.E = Ee → T ss Qd b.Ed → Ws b t (ss ++ List.replicate (N.length - ss.length) .no) ⟨fun _ => Qd (.dat .none), Qd, fun _ => False, fun _ => False⟩) (h : spD K T vs H Q E) (hT : Ee = E0 → ∀ ss Qd Ed, T ss Qd Ed → T ss Qd fun _ => False)
    (hEe : Ee = E0 ∨ Ee = E) : t { nx := fun _ H' => Q .non H', rt := Q } (L2.start N vs) H := by
  obtain ⟨F, ss, Qd, Ed, ex, ha, hn, ht, hq, he⟩ := h
  have fin : ∀ (Ed' : Addr → Prop), T ss Qd Ed' → (∀ F' H' C, Wd ⟨K, H, F, potAs ss, Ee, Ed'⟩ F' H' → Ed' C → Ee (.ref C) none H') → t { nx := fun _ H' => Q .non H', rt := Q } (L2.start N vs) H := fun Ed' ht' er => by
    refine hb ⟨K, H, F, potAs ss, Ee, Ed'⟩ ss Qd rfl rfl ht' F H _ _ (rs_start ex ha hn er) ⟨fun F' H' σ' δ' _ r q => ?_, fun _ _ _ _ _ _ z => z.elim, fun _ _ _ _ _ _ z => z.elim, fun F' H' v s w ro q => ?_⟩
    · exact hq F' H' .non (.dat .none) (stp_of_wd r.wd) Rp.non q
    · refine hq F' H' v s (stp_of_wd w) ?_ q
      cases s with
      | no => exact ro
      | scr _ => exact ro
      | dat d => exact ro
      | own a c => exact ro
  rcases hEe with e | e
  · exact fin (fun _ => False) (hT e ss Qd Ed ht) fun _ _ _ _ z => z.elim
  · subst e
    exact fin Ed ht fun F' H' C w q => he F' H' C (stp_of_wd w) q
/-! ### defs by names -/
structure Def (K : PySem.W.Frag) (mg : Str → Option Value) (x : Str) (st : Stmt) : Prop where
  g : mg x = some (.ref (He.ga K x))
  ex : ∃ fd, FunD K x x (defArgs st) (defBody st) (defScope st) [] [] (He.ga K x) fd
structure Ok (P : Program) (w : World) (K : PySem.W.Frag) (mg : Str → Option Value) (base : Heap) (CX : CXT) (k : Nat) (x : Str) (ps : List Str) (T : Tr) : Prop where
  g : mg x = some (.ref (He.ga K x))
  kp : PySem.W.keepIn K (.ref (He.ga K x)) = true
  ex : ∃ fd, FnG P w K mg base CX k (He.ga K x) fd ps (spD K T) ∧ Binds K fd ps []
section
variable {P : Program} {w : World} {K : PySem.W.Frag} {mg : Str → Option Value} {base : Heap}
/-- a def that lets nothing out -/
theorem fnok_of0 {N ps : List Str} {k : Nat} {x : Str} {st : Stmt} {T : Tr} {fd : FuncData} (FD : FunD K x x (defArgs st) (defBody st) (defScope st) [] [] (He.ga K x) fd) (S : FnScope N ps (defScope st)) (hl : ∀ ss Q Ed, T ss Q Ed → ss.length = ps.length) (hT : ∀ ss Qd Ed, T ss Qd Ed → T ss Qd fun _ => False)
    (body : ∀ (cdv : Value) (A : Around) (outer : List Env) (s : Shared) (H : Hp) (E : XK), A.guards = some [] → Room k (A.deeper (envOfC x (defScope st) s.heap.objs.size (He.ga K x) cdv)) →
      ∃ t, PSs (cxOf CX0 P w K mg base N x (defScope st) (He.ga K x) cdv A outer s H E).nox (defBody st) t ∧ ∀ (H0 F0 : Hp) (P0 : List Addr) (Ed : Addr → Prop) ss Qd, T ss Qd (fun _ => False) → Ws ⟨K, H0, F0, P0, E0, Ed⟩ t (ss ++ List.replicate (N.length - ss.length) .no) ⟨fun _ => Qd (.dat .none), Qd, fun _ => False, fun _ => False⟩) :
    FnG P w K mg base CX0 (k + 1) (He.ga K x) fd ps (spD K T) := by
  refine fg_of FD S (fun vs H Q E h => ?_) (fun cdv A outer s H vs Q E hgd hr h => ?_)
  · obtain ⟨F, ss, Qd, Ed, ex, ha, hn, ht, _⟩ := h
    rw [args_len ha]
    exact hl ss Qd Ed ht
  · obtain ⟨t, pt, hw⟩ := body cdv A outer s H E hgd hr
    refine ⟨t, PSs.nox pt, fn_body (Ee := E0) (.inr rfl) (fun b ss Qd e1 e2 ht => ?_) h (fun _ => hT) (.inl rfl)⟩
    obtain ⟨K', H0, F0, P0, E', Ed⟩ := b
    cases e1
    cases e2
    exact hw H0 F0 P0 Ed ss Qd (hT _ _ _ ht)
theorem ok_of0 {N ps : List Str} {k : Nat} {x : Str} {st : Stmt} {T : Tr} (Df : Def K mg x st) (S : FnScope N ps (defScope st)) (hl : ∀ ss Q Ed, T ss Q Ed → ss.length = ps.length) (hT : ∀ ss Qd Ed, T ss Qd Ed → T ss Qd fun _ => False)
    (hb : ∀ (kV doc pm : Value) (an : Option Addr) (cdv ct : Value) (us : List Value), us.length = ps.length → bindArgs (PySem.W.fnOf x x (defArgs st) (defBody st) (defScope st) .none kV doc pm an cdv ct) ⟨us, []⟩ = pure (ps.zip us))
    (body : ∀ (cdv : Value) (A : Around) (outer : List Env) (s : Shared) (H : Hp) (E : XK), A.guards = some [] → Room k (A.deeper (envOfC x (defScope st) s.heap.objs.size (He.ga K x) cdv)) →
      ∃ t, PSs (cxOf CX0 P w K mg base N x (defScope st) (He.ga K x) cdv A outer s H E).nox (defBody st) t ∧ ∀ (H0 F0 : Hp) (P0 : List Addr) (Ed : Addr → Prop) ss Qd, T ss Qd (fun _ => False) → Ws ⟨K, H0, F0, P0, E0, Ed⟩ t (ss ++ List.replicate (N.length - ss.length) .no) ⟨fun _ => Qd (.dat .none), Qd, fun _ => False, fun _ => False⟩) :
    Ok P w K mg base CX0 (k + 1) x ps T := by
  obtain ⟨fd, FD⟩ := Df.ex
  exact ⟨Df.g, FD.kp, fd, fnok_of0 FD S hl hT body, FD.bindsN hb⟩
end
/-! ### rules by name, the written part plain -/
section
variable {X : Cx} {K : PySem.W.Frag} {a b c : Expr} {ta tb tc : TE} {pos : Pos}
theorem g_plus (ha : PE X a ta) (hb : PE X b tb) (hK : X.K = K := by rfl) : PE X (.BinOp a .Add b pos) (tOp (rPlus K) ta tb) := by subst hK; exact pe_op op_plus ha hb
theorem g_ix (ha : PE X a ta) (hb : PE X b tb) (hs : PlainIx b := by exact (fun _ _ => rfl)) (hK : X.K = K := by rfl) : PE X (.Subscript a b pos) (tOp (rIx K) ta tb) := by subst hK; exact pe_ix ix_seq ha hb hs
theorem g_eq (hu : X.A.units + 64 < cLine) (ha : PE X a ta) (hb : PE X b tb) (hK : X.K = K := by rfl) : PE X (.Compare a [.Eq] [b] pos) (tOp (rEqP K) ta tb) := by subst hK; exact pe_cmpR (op_eqP hu) ha hb (nomark _)
theorem g_ne (hu : X.A.units + 64 < cLine) (ha : PE X a ta) (hb : PE X b tb) (hK : X.K = K := by rfl) : PE X (.Compare a [.NotEq] [b] pos) (tOp (rNeP K) ta tb) := by subst hK; exact pe_cmpR (op_neP hu) ha hb (nomark _)
theorem gt_eq (hu : X.A.units + 64 < cLine) (ha : PE X a ta) (hb : PE X b tb) (hK : X.K = K := by rfl) : PT X (.Compare a [.Eq] [b] pos) (tTest (tOp (rEqP K) ta tb)) := by subst hK; exact pt_cmpR (op_eqP hu) ha hb (nomark _)
theorem gt_ne (hu : X.A.units + 64 < cLine) (ha : PE X a ta) (hb : PE X b tb) (hK : X.K = K := by rfl) : PT X (.Compare a [.NotEq] [b] pos) (tTest (tOp (rNeP K) ta tb)) := by subst hK; exact pt_cmpR (op_neP hu) ha hb (nomark _)
theorem room65 {k : Nat} {A : Around} (r : Room k A) : A.units + 65 < cLine := by have := r.un; omega
theorem g_in (hu : X.A.units + 65 < cLine) (ha : PE X a ta) (hb : PE X b tb) (hm : behindInMarks .In b = false := by rfl) (hK : X.K = K := by rfl) : PE X (.Compare a [.In] [b] pos) (tOp (rInX K false) ta tb) := by subst hK; exact pe_cmpR (op_inX hu) ha hb hm
theorem g_notin (hu : X.A.units + 65 < cLine) (ha : PE X a ta) (hb : PE X b tb) (hm : behindInMarks .NotIn b = false := by rfl) (hK : X.K = K := by rfl) : PE X (.Compare a [.NotIn] [b] pos) (tOp (rInX K true) ta tb) := by subst hK; exact pe_cmpR (op_notInX hu) ha hb hm
theorem gt_in (hu : X.A.units + 65 < cLine) (ha : PE X a ta) (hb : PE X b tb) (hm : behindInMarks .In b = false := by rfl) (hK : X.K = K := by rfl) : PT X (.Compare a [.In] [b] pos) (tTest (tOp (rInX K false) ta tb)) := by subst hK; exact pt_cmpR (op_inX hu) ha hb hm
theorem gt_notin (hu : X.A.units + 65 < cLine) (ha : PE X a ta) (hb : PE X b tb) (hm : behindInMarks .NotIn b = false := by rfl) (hK : X.K = K := by rfl) : PT X (.Compare a [.NotIn] [b] pos) (tTest (tOp (rInX K true) ta tb)) := by subst hK; exact pt_cmpR (op_notInX hu) ha hb hm
theorem g_gobj {x : Str} {ad : Addr} (h : X.mg x = some (.ref ad)) (hg : Gl X x := by rfl) (hd : (x == ("__debug__" : Str)) = false := by decide) : PE X (.Name x pos) (tC (.ref ad)) := pe_glob hg h rfl hd
theorem g_gint {x : Str} {i : Int} (h : ∃ t, X.mg x = some (.int i t)) (hg : Gl X x := by rfl) (hd : (x == ("__debug__" : Str)) = false := by decide) : PE X (.Name x pos) (tC (.int i)) := by
  obtain ⟨t, h⟩ := h
  exact pe_glob hg h ⟨t, rfl⟩ hd
theorem g_gstr {x z : Str} (h : ∃ t, X.mg x = some (.str z t)) (hg : Gl X x := by rfl) (hd : (x == ("__debug__" : Str)) = false := by decide) : PE X (.Name x pos) (tC (.str z)) := by
  obtain ⟨t, h⟩ := h
  exact pe_glob hg h ⟨t, rfl⟩ hd
theorem g_sl {lo hi : Option Expr} {tl th : TO} {p2 : Pos} (he : PE X a ta) (hl : PO X lo tl) (hu : PO X hi th) (hK : X.K = K := by rfl) : PE X (.Subscript a (.Slice lo hi none p2) pos) (tSl (rSlX K) ta tl th) := by subst hK; exact pe_slice sl_any he hl hu
theorem g_list {tg l : Expr} {tl : TE} (hl : PE X l tl) (hK : X.K = K := by rfl) : PI X tg l (iList K tl) := by subst hK; exact pi_list hl
theorem g_tupI {tg l : Expr} {tl : TE} (hl : PE X l tl) (hK : X.K = K := by rfl) : PI X tg l (iTup K tl) := by subst hK; exact pi_tup hl
theorem g_zip {e e2 : Expr} {ta : TA} {p tpos : Pos} {elts : List Expr} {kk : Nat} (hm : X.mg "zip" = none) (ha : PA X [e, e2] ta) (hg : Gl X "zip" := by rfl) (hs : starEach [e, e2] X.env = (false, eval e X.env) :: starEach [e2] X.env := by rfl) (hpl : (backTo pos (starEach [e2] X.env)).any (·.1) = false := by rfl) (hK : X.K = K := by rfl) :
    PI X (.Tuple elts kk tpos) (.Call (.Name "zip" p) [e, e2] [] pos) (iZip K ta) := by subst hK; exact pi_zip hg hm ha hs hpl
theorem g_enum {e : Expr} {ta : TA} {p tpos : Pos} {elts : List Expr} {kk : Nat} (hm : X.mg "enumerate" = none) (ha : PA X [e] ta) (hg : Gl X "enumerate" := by rfl) (hs : starEach [e] X.env = [(false, eval e X.env)] := by rfl) (hK : X.K = K := by rfl) :
    PI X (.Tuple elts kk tpos) (.Call (.Name "enumerate" p) [e] [] pos) (iEnum K ta) := by subst hK; exact pi_enum hg hm ha hs
theorem g_tgtup {es : List Expr} {k : Nat} {t : TGs} {n : Nat} (hc : X.calm = true) (h : PGs X es t) (hn : (assignEach es X.env).length = n := by rfl) (hst : (assignEach es X.env).findIdx? (·.1) = none := by rfl) (hK : X.K = K := by rfl) : PG X (.Tuple es k pos) (gTup K n t) := by subst hK; exact pg_tup hc h hn hst
/-- a built-in by its name, its rule over the written part -/
theorem g_cb {id : String} {x : Str} {r : PySem.W.Frag → List V → Hp → VK → Prop} {e : Expr} {es : List Expr} {t : TA} {p : Pos} (hc : CallR X (.builtin id) (r X.K)) (hm : X.mg x = none) (hv : bootBuiltins x = some (.builtin id)) (ha : PA X (e :: es) t) (hg : Gl X x := by rfl)
    (hn : x ≠ "__name__" := by decide) (hdb : (x == ("__debug__" : Str)) = false := by decide) (he : starEach (e :: es) X.env = (false, eval e X.env) :: starEach es X.env := by rfl) (hpl : (backTo pos (starEach es X.env)).any (·.1) = false := by rfl) (hK : X.K = K := by rfl) :
    PE X (.Call (.Name x p) (e :: es) [] pos) (tCB (r K) t) := by subst hK; exact pe_callB hc hg hm hv ha hn hdb he hpl
theorem g_ct {T : String} {x : Str} {r : PySem.W.Frag → List V → Hp → VK → Prop} {e : Expr} {es : List Expr} {t : TA} {p : Pos} (hc : CallR X (.type T) (r X.K)) (hm : X.mg x = none) (hv : bootBuiltins x = some (.type T)) (ha : PA X (e :: es) t) (hg : Gl X x := by rfl)
    (hn : x ≠ "__name__" := by decide) (hdb : (x == ("__debug__" : Str)) = false := by decide) (he : starEach (e :: es) X.env = (false, eval e X.env) :: starEach es X.env := by rfl) (hpl : (backTo pos (starEach es X.env)).any (·.1) = false := by rfl) (hK : X.K = K := by rfl) :
    PE X (.Call (.Name x p) (e :: es) [] pos) (tCB (r K) t) := by subst hK; exact pe_callTy hc hg hm hv ha hn hdb he hpl
theorem g_call {P : Program} {w : World} {mg : Str → Option Value} {base : Heap} {CX : CXT} {k j : Nat} {x : Str} {ps : List Str} {T : Tr} {E : XK} {e : Expr} {es : List Expr} {t : TA} {p : Pos} (O : Ok P w K mg base CX j x ps T) (hgd : X.A.guards = some []) (hr : Room k X.A) (hj : j ≤ k) (hx : Passes CX X E) (ha : PA X (e :: es) t)
    (hg : Gl X x := by rfl) (hdb : (x == ("__debug__" : Str)) = false := by decide) (he : starEach (e :: es) X.env = (false, eval e X.env) :: starEach es X.env := by rfl) (hpl : (backTo pos (starEach es X.env)).any (·.1) = false := by rfl)
    (hP : X.prog = P := by rfl) (hw : X.w = w := by rfl) (hK : X.K = K := by rfl) (hmg : X.mg = mg := by rfl) (hbs : X.base = base := by rfl) : PE X (.Call (.Name x p) (e :: es) [] pos) (tCall (spD K T) [] E t) := by
  subst hP hw hK hmg hbs
  obtain ⟨fd, G, B⟩ := O.ex
  refine ⟨fun pins s σ H Q I h => wpAny_Call_Name_kw (ld_glob I hg O.g ?_ hdb)⟩
  refine PySem.W.callWith_K (h₀ := X.base) I.ok.mod.kin O.kp (thn (ha.run pos pins s σ H _ I h) fun us s1 ⟨vs, H1, I1, rv, q⟩ => ⟨I1.kIn, ?_⟩) he hpl
  have q' : spD X.K T vs H1 Q E := by
    have q2 : spD X.K T (vs ++ []) H1 Q E := q
    rw [List.append_nil] at q2
    exact q2
  exact fg_call G hgd (hr.mono hj) B hx I1 rv q'
theorem g_call0 {P : Program} {w : World} {mg : Str → Option Value} {base : Heap} {CX : CXT} {k j : Nat} {x : Str} {ps : List Str} {T : Tr} {E : XK} {p : Pos} (O : Ok P w K mg base CX j x ps T) (hgd : X.A.guards = some []) (hr : Room k X.A) (hj : j ≤ k) (hx : Passes CX X E)
    (hg : Gl X x := by rfl) (hdb : (x == ("__debug__" : Str)) = false := by decide)
    (hP : X.prog = P := by rfl) (hw : X.w = w := by rfl) (hK : X.K = K := by rfl) (hmg : X.mg = mg := by rfl) (hbs : X.base = base := by rfl) : PE X (.Call (.Name x p) [] [] pos) (tCall (spD K T) [] E tNil) := by
  subst hP hw hK hmg hbs
  obtain ⟨fd, G, B⟩ := O.ex
  refine ⟨fun pins s σ H Q I h => wpAny_Call_Name_kw (ld_glob I hg O.g ?_ hdb)⟩
  have h' : spD X.K T ([] ++ []) H Q E := h
  exact PySem.W.callWith_K0 I.kIn O.kp (fg_call (us := []) G hgd (hr.mono hj) B hx I .nil h')
theorem g_append {o e : Expr} {to te : TE} {p1 : Pos} (hx : PE X (.Call (.Attribute o "append" p1) [e] [] pos) (tBM X.K "list" rAppend to (tCons te tNil))) (hK : X.K = K := by rfl) :
    PE X (.Call (.Attribute o "append" p1) [e] [] pos) (tBM K "list" rAppend to (tCons te tNil)) := by subst hK; exact hx
end
end Fs

namespace Fs
open PySem PySem.Spec PyProof.Rows L2
def datsOf : List Sl → Option (List PyData)
  | [] => some []
  | .dat d :: r => (datsOf r).map (d :: ·)
  | _ :: _ => none
theorem datsOf_eq : ∀ {ss : List Sl} {ds : List PyData}, datsOf ss = some ds → ss = ds.map .dat
  | [], _, h => by cases h; rfl
  | .dat d :: r, ds, h => by
    have h' : (datsOf r).map (d :: ·) = some ds := h
    cases e : datsOf r with
    | none => rw [e] at h'; cases h'
    | some es =>
      rw [e] at h'
      cases h'
      rw [datsOf_eq e]; rfl
  | .no :: _, _, h => by cases h
  | .own _ _ :: _, _, h => by cases h
  | .scr _ :: _, _, h => by cases h
/-- repr of data -/
theorem rc_repr {b : Bx} {δ : List Sl} {Q : Sl → Prop} {d : PyData} (h1 : SeqAt.shaped d = true) (h2 : d.showable = true) (h3 : d.shown.length ≤ sizeLine) (q : Q (.dat (.str d.shown))) : Rc b δ (rReprB b.K) [.dat d] Q := fun F H σ vs rs ao k hk => by
  obtain ⟨v, rfl, h⟩ := rps_one (args_dats (ds := [d]) ao)
  exact ⟨v, d, rfl, rp_dp rs.wd.ex h, h1, h2, h3, hk F H _ (.dat _) rs.refl (Rp.str _) q⟩
def isTrueD : PyData → Bool
  | .bool true => true
  | _ => false
theorem bools_of : ∀ {ds : List PyData}, (∀ d ∈ ds, isBool d = true) → ds = (ds.map isTrueD).map PyData.bool
  | [], _ => rfl
  | d :: r, h => by
    have h1 := h d List.mem_cons_self
    have h2 := bools_of (ds := r) fun x m => h x (List.mem_cons_of_mem _ m)
    cases d with
    | bool c =>
      rw [List.map_cons, List.map_cons, ← h2]
      cases c <;> rfl
    | _ => cases h1
section
variable {b : Bx} {δ : List Sl} {Q : Sl → Prop} {R : Bool → Prop} {te ta tb tc : TE} {t u : TT} {tr : TA} {p : Po} {ts tu : TS}
theorem ve_tupA (h : Va b tr δ fun ss => ∃ ds, datsOf ss = some ds ∧ ds.length ≤ 100000 ∧ Q (.dat (.tuple ds))) : Ve b (tTup tr) δ Q := ve_tup fun F H σ rs k hk => h F H σ rs k fun F' H' vs ss st ao ⟨ds, e, q⟩ => hk F' H' vs ss st ao ⟨ds, datsOf_eq e, q⟩
theorem ve_lstA (h : Va b tr δ fun ss => ∃ ds, datsOf ss = some ds ∧ ds.length ≤ 100000 ∧ Q (.dat (.list ds))) : Ve b (tLst tr) δ Q := ve_lst fun F H σ rs k hk => h F H σ rs k fun F' H' vs ss st ao ⟨ds, e, q⟩ => hk F' H' vs ss st ao ⟨ds, datsOf_eq e, q⟩
theorem ve_lstOA (h : Va b tr δ fun ss => ∃ ds, datsOf ss = some ds ∧ ds.length ≤ 100000 ∧ ∀ a, Q (.own a (.lst ds))) : Ve b (tLst tr) δ Q := ve_lstO fun F H σ rs k hk => h F H σ rs k fun F' H' vs ss st ao ⟨ds, e, q⟩ => hk F' H' vs ss st ao ⟨ds, datsOf_eq e, q⟩
theorem rc_allD {ds : List PyData} (hb : ∀ d ∈ ds, isBool d = true) (q : Q (.dat (.bool (ds.all isTrueD)))) : Rc b δ (rAll b.K) [.dat (.list ds)] Q := by
  have e := bools_of hb
  have q2 : ((ds.map isTrueD).all id) = ds.all isTrueD := by rw [List.all_map]; rfl
  rw [e]
  refine rc_all ?_
  rw [q2]; exact q
theorem rc_anyD {ds : List PyData} (hb : ∀ d ∈ ds, isBool d = true) (q : Q (.dat (.bool (ds.any isTrueD)))) : Rc b δ (rAny b.K) [.dat (.list ds)] Q := by
  have e := bools_of hb
  have q2 : ((ds.map isTrueD).any id) = ds.any isTrueD := by rw [List.any_map]; rfl
  rw [e]
  refine rc_any ?_
  rw [q2]; exact q
/-- a comprehension without a test, each item gives f of it -/
theorem ve_lcF {wi : TI} {g : TG} {vs : List Nat} (h : Vi b wi δ fun ds => ds.length ≤ 100000 ∧ ∃ (tgs : PyData → List (Nat × PyData)) (f : PyData → PyData),
    (∀ d ∈ ds, TgOk b g d (tgs d) ∧ (∀ q ∈ (tgs d).map Prod.fst, q ∈ vs) ∧ Ve b te (setS (wipeD δ vs) (tgs d)) fun s => s = .dat (f d)) ∧ Q (.dat (.list (ds.map f)))) : Ve b (tLc wi g tYes te vs) δ Q := by
  refine ve_lcM fun F H σ rs k hk => h F H σ rs k fun F' H' J ds st w ⟨hl, tgs, f, ht, q⟩ => hk F' H' J ds st w ⟨hl, tgs, fun d => some (f d), fun d hd => ?_, ?_⟩
  · obtain ⟨h1, h2, h3⟩ := ht d hd
    exact ⟨h1, h2, vt_yes ⟨fun _ => h3.mono fun s e => ⟨_, e, rfl⟩, (fun z => nomatch z)⟩⟩
  · rw [List.filterMap_eq_map']; exact q
theorem fm_filter (c : PyData → Bool) (f : PyData → PyData) : ∀ ds : List PyData, ds.filterMap (fun d => if c d = true then some (f d) else none) = (ds.filter c).map f
  | [] => rfl
  | d :: r => by
    rw [List.filterMap_cons, List.filter_cons]
    cases hc : c d with
    | true => simp [fm_filter c f r]
    | false => simp [fm_filter c f r]
/-- a comprehension with a test, each item gives itself or f of it -/
theorem ve_lcT {wi : TI} {g : TG} {tt : TT} {vs : List Nat} (h : Vi b wi δ fun ds => ds.length ≤ 100000 ∧ ∃ (tgs : PyData → List (Nat × PyData)) (c : PyData → Bool) (f : PyData → PyData),
    (∀ d ∈ ds, TgOk b g d (tgs d) ∧ (∀ q ∈ (tgs d).map Prod.fst, q ∈ vs) ∧ (Vt b tt (setS (wipeD δ vs) (tgs d)) fun r => r = c d) ∧ (c d = true → Ve b te (setS (wipeD δ vs) (tgs d)) fun s => s = .dat (f d))) ∧ Q (.dat (.list ((ds.filter c).map f)))) : Ve b (tLc wi g tt te vs) δ Q := by
  refine ve_lcM fun F H σ rs k hk => h F H σ rs k fun F' H' J ds st w ⟨hl, tgs, c, f, ht, q⟩ => hk F' H' J ds st w ⟨hl, tgs, fun d => if c d = true then some (f d) else none, fun d hd => ?_, ?_⟩
  · obtain ⟨h1, h2, h3, h4⟩ := ht d hd
    refine ⟨h1, h2, h3.mono fun r e => ⟨fun hr => ?_, fun hr => ?_⟩⟩
    · rw [e] at hr
      exact (h4 hr).mono fun s es => ⟨_, es, if_pos hr⟩
    · rw [e] at hr
      exact if_neg (by rw [hr]; exact Bool.false_ne_true)
  · rw [fm_filter]; exact q
end
/-- the law's start: the script is what is known -/
theorem law_start {K : PySem.W.Frag} {H : Hp} {a : Addr} {ns : List Int} {T : Tr} (hl : ns.length ≤ 63) (hS : SqL K H a (ns.map V.int)) (hT : ∀ Q Ed, Q (.dat (.bool true)) → T [.scr ns] Q Ed) : spD K T [.ref a] H (fun v _ => v = .bl true) fun _ _ _ => False := by
  refine ⟨H, [.scr ns], fun s => s = .dat (.bool true), fun _ => False, .refl _, .cons ⟨a, rfl, hS⟩ .nil, Nat.zero_le _, hT _ _ rfl, fun F' H' v s _ ro e => ?_, fun _ _ _ _ z => z.elim⟩
  subst e
  cases ro
  rfl
/-! ### the head's facts, one more truth with them -/
def obsF (n : Nat) (fa : List He.Fa) (fn : List He.DefD) (ex : PySem.W.Frag → Bool) (g : Addr → Option Obj) : He.AlD × Bool := (He.obsD fa fn (He.frG g (He.asD g n)), ex (He.frG g (He.asD g n)))
def hookF (n : Nat) (fa : List He.Fa) (fn : List He.DefD) (ex : PySem.W.Frag → Bool) : PySem.W.Hook where
  α := He.AlD × Bool
  obs := fun s => obsF n fa fn ex s.heap.get?
  val := fun _ => (He.valD fn, true)
  says := fun _ h => ∃ K : PySem.W.Frag, K.In h ∧ He.SaysD fa fn K ∧ ex K = true
  of := fun _ _ e => ⟨_, He.frG_in, congrArg Prod.fst e, congrArg Prod.snd e⟩
  keeps := fun _ _ _ ⟨K, hK, c⟩ k => ⟨K, PySem.W.Frag.In.keeps hK k, c⟩
theorem obsF_eq {n : Nat} {fa : List He.Fa} {fn : List He.DefD} {ex : PySem.W.Frag → Bool} {g : Addr → Option Obj} {s : Shared} (h : ∀ a, g a = s.heap.get? a) : obsF n fa fn ex g = (hookF n fa fn ex).obs s := by
  have e : g = s.heap.get? := funext h
  rw [e] <;> rfl
/-! ### numbers -/
theorem shaped_int (i : Int) : SeqAt.shaped (.int i) = true := rfl
theorem shaped_none : SeqAt.shaped .none = true := rfl
theorem shaped_bool (c : Bool) : SeqAt.shaped (.bool c) = true := rfl
/-! ### shapes -/
def Shp (n : Nat) (d : PyData) : Prop := d.canLay0 = true ∧ d.depth ≤ n
theorem Shp.ok {n : Nat} {d : PyData} (h : Shp n d) (hn : n ≤ 64 := by decide) : SeqAt.shaped d = true := by
  unfold SeqAt.shaped
  rw [h.1, decide_eq_true (Nat.le_trans h.2 hn)]; rfl
theorem Shp.mono {n m : Nat} {d : PyData} (h : Shp n d) (hn : n ≤ m) : Shp m d := ⟨h.1, Nat.le_trans h.2 hn⟩
theorem shp_int {n : Nat} (i : Int) : Shp n (.int i) := ⟨rfl, Nat.zero_le _⟩
theorem shp_bool {n : Nat} (c : Bool) : Shp n (.bool c) := ⟨rfl, Nat.zero_le _⟩
theorem shp_none {n : Nat} : Shp n .none := ⟨rfl, Nat.zero_le _⟩
theorem shp_str {n : Nat} {x : Str} (h : PyData.strOk x = true) : Shp n (.str x) := ⟨h, Nat.zero_le _⟩
theorem shp_all {n : Nat} : ∀ {ds : List PyData}, (∀ d ∈ ds, Shp n d) → PyData.canLayAll0 ds = true ∧ PyData.depthAll ds ≤ n
  | [], _ => ⟨rfl, Nat.zero_le _⟩
  | d :: r, h => by
    have h1 := h d List.mem_cons_self
    have h2 := shp_all (ds := r) fun x m => h x (List.mem_cons_of_mem _ m)
    refine ⟨?_, ?_⟩
    · show (d.canLay0 && PyData.canLayAll0 r) = true
      rw [h1.1, h2.1]; rfl
    · show max d.depth (PyData.depthAll r) ≤ n
      exact Nat.max_le.mpr ⟨h1.2, h2.2⟩
theorem shp_list {n : Nat} {ds : List PyData} (h : ∀ d ∈ ds, Shp n d) : Shp (n + 1) (.list ds) := ⟨(shp_all h).1, Nat.succ_le_succ (shp_all h).2⟩
theorem shp_tup {n : Nat} {ds : List PyData} (h : ∀ d ∈ ds, Shp n d) : Shp (n + 1) (.tuple ds) := ⟨(shp_all h).1, Nat.succ_le_succ (shp_all h).2⟩
theorem shp_ints {n : Nat} (ns : List Int) : Shp (n + 1) (.list (ns.map PyData.int)) := shp_list fun d h => by
  obtain ⟨i, _, rfl⟩ := List.mem_map.mp h
  exact shp_int i
theorem Shp.refl {n : Nat} {d : PyData} (h : Shp n d) : PyData.eqv d d = true := SeqAt.eqv_refl d h.1
theorem eqv_int (i j : Int) : PyData.eqv (.int i) (.int j) = decide (i = j) := by
  show (i == j) = _
  by_cases h : i = j
  · subst h; simp
  · rw [decide_eq_false h]; exact beq_eq_false_iff_ne.mpr h
theorem eqv_str (i j : Str) : PyData.eqv (.str i) (.str j) = decide (i = j) := by
  show (i == j) = _
  by_cases h : i = j
  · subst h; simp
  · rw [decide_eq_false h]; exact beq_eq_false_iff_ne.mpr h
theorem cdivp {i m : Int} (h0 : 0 < m) (h : m < 2 ^ 8000) : CDivP i m := by
  refine ⟨h0, PyProof.noPylong_of_log2 ?_⟩
  have h1 : m.natAbs < 2 ^ 8000 := by
    have e : ((m.natAbs : Nat) : Int) = m := by omega
    have h2 : ((m.natAbs : Nat) : Int) < ((2 ^ 8000 : Nat) : Int) := by rw [e, Int.natCast_pow]; exact h
    exact Int.ofNat_lt.mp h2
  have h3 : m.natAbs ≠ 0 := by omega
  have h4 := (Nat.log2_lt h3).mpr h1
  exact Nat.lt_of_lt_of_le h4 (by decide)
end Fs

namespace Fs
open PySem PySem.Spec PyProof.Rows L2
section
variable {b : Bx} {δ : List Sl} {Q : Sl → Prop} {R : Bool → Prop} {te ta tb tc : TE} {t u : TT} {tr : TA} {p : Po} {ts tu : TS}
/-- a fresh list, frozen at once -/
theorem ve_frozen (h : Ve b te δ fun s => ∃ a ds, s = .own a (.lst ds) ∧ Q (.dat (.list ds))) : Ve b te δ Q := fun F H σ rs k hk =>
  h F H σ rs k fun F1 H1 v s st ro ⟨a, ds, e, q⟩ => by
    subst e
    obtain ⟨rfl, h1, h2, o, h3, vs, rfl, h4⟩ := ro
    exact hk _ H1 (.ref a) (.dat (.list ds)) (st.freeze h2 h1 h3) (Rp.lst upd_same (rps_mono (same_new h1) h4)) q
theorem rp_flat {K : PySem.W.Frag} {F F' : Hp} {v : V} {d : PyData} (h : Rp K F v d) (f : flatD d = true) : Rp K F' v d := by
  cases h with
  | non => exact .non
  | bl c => exact .bl c
  | int i => exact .int i
  | str x => exact .str x
  | lst _ _ => exact absurd f Bool.false_ne_true
  | tup _ _ => exact absurd f Bool.false_ne_true
/-- an owned list read as data within an expression that gives a flat thing -/
theorem ve_tmp {i : Nat} {a : Addr} {ds : List PyData} (hi : δ[i]? = some (.own a (.lst ds))) (h : Ve b te (δ.set i (.dat (.list ds))) fun s => ∃ d, s = .dat d ∧ flatD d = true ∧ Q (.dat d)) : Ve b te δ Q := fun F H σ rs k hk => by
  obtain ⟨h1, h2, h3, o, h4, vs, rfl, h5⟩ := rs.slot i _ hi
  have hl : i < δ.length := (List.getElem?_eq_some_iff.mp hi).1
  have hH0 : b.H0 a = none := by
    rcases h3 with z | z
    · exact z
    · exact nomatch z.2
  have sm : Same F (upd F a (.lst vs)) := same_new h2
  have r1 : Rs b (upd F a (.lst vs)) H σ (δ.set i (.dat (.list ds))) := by
    refine ⟨⟨fun x u e => ?_, rs.wd.f0.trans sm, fun x n => ?_, rs.wd.keep, rs.wd.pots, fun x m => ?_, rs.wd.ph⟩, by rw [List.length_set]; exact rs.len, fun j s hj => ?_, fun j k a1 c1 c2 q1 q2 => ?_, rs.er⟩
    · by_cases z : x = a
      · subst z; rw [upd_same] at e; rw [← e]; exact h4
      · rw [upd_ne z] at e; exact rs.wd.ex x u e
    · rw [upd_ne (fun z => n (by rw [z]; exact hH0))]
      exact rs.wd.grow x n
    · rw [upd_ne (fun z => rs.wd.ph x m (by rw [z]; exact hH0))]
      exact rs.wd.potf x m
    · by_cases e : i = j
      · subst e
        rw [List.getElem?_set_self hl] at hj
        cases hj
        exact ⟨_, h1, Rp.lst upd_same (rps_mono sm h5)⟩
      · rw [List.getElem?_set_ne e] at hj
        have q := rs.slot j s hj
        cases s with
        | no => trivial
        | scr _ => obtain ⟨a2, q1, q2⟩ := q; exact ⟨a2, q1, sm.seq q2⟩
        | dat d => obtain ⟨v, q1, q2⟩ := q; exact ⟨v, q1, rp_mono sm q2⟩
        | own a' c'' =>
          obtain ⟨q1, q2, q3, o2, q4, q5⟩ := q
          exact ⟨q1, by rw [upd_ne (fun z => by subst z; exact e (rs.apart i j _ _ _ hi hj))]; exact q2, q3, o2, q4, q5.mono sm⟩
    · have f : ∀ (m : Nat) c, (δ.set i (.dat (.list ds)))[m]? = some (.own a1 c) → δ[m]? = some (.own a1 c) := fun m c q => by
        by_cases e : i = m
        · subst e
          rw [List.getElem?_set_self hl] at q
          cases q
        · rw [List.getElem?_set_ne e] at q; exact q
      exact rs.apart j k a1 c1 c2 (f j c1 q1) (f k c2 q2)
  refine h _ H σ r1 k fun F2 H2 v s st ro ⟨d, e, fd, q⟩ => ?_
  subst e
  refine hk (fun x => if x = a then none else F2 x) H2 v (.dat d) ⟨fun x u e => ?_, fun x u e => ?_, fun x n => ?_, fun x u e n => ?_, fun j x hj => ?_⟩ (rp_flat ro fd) q
  · have ne : x ≠ a := fun z => by rw [z, h2] at e; cases e
    show (if x = a then none else F2 x) = some u
    rw [if_neg ne]
    exact st.sf x u (sm x u e)
  · have e' : (if x = a then none else F2 x) = some u := e
    by_cases z : x = a
    · rw [if_pos z] at e'; cases e'
    · rw [if_neg z] at e'; exact st.ex x u e'
  · show (if x = a then none else F2 x) = F x
    by_cases z : x = a
    · rw [if_pos z, z, h2]
    · rw [if_neg z, st.gr x n, upd_ne z]
  · refine st.ch x u e fun j hj => ?_
    by_cases z : i = j
    · subst z; rw [List.getElem?_set_self hl] at hj; cases hj
    · rw [List.getElem?_set_ne z] at hj; exact n j hj
  · refine st.pt j x ?_
    have z : i ≠ j := fun z => by subst z; rw [hi] at hj; cases hj
    rw [List.getElem?_set_ne z]; exact hj
/-- an owned list of a slot is set at a place -/
theorem ws_setOwn {i : Nat} {a : Addr} {ds : List PyData} {n : Int} {j : Nat} (h : δ[i]? = some (.own a (.lst ds))) (hj : ixN ds.length n = some j) (he : Ve b te δ fun s => ∃ d, s = .dat d ∧ p.nx (δ.set i (.own a (.lst (ds.set j d))))) :
    Ws b (tAsg te (gSub (tVar i) (tC (.int n)) rSetL)) δ p := fun F H σ D rs eo =>
  he F H σ rs _ fun F1 H1 v s st ro ⟨d, e, q⟩ => by
    subst e
    obtain ⟨g1, g2, g3, o, g4, ws, rfl, g5⟩ := (rs.step st).slot i _ h
    refine ⟨_, g1, a, ws, n, j, rfl, rfl, g4, by rw [rps_len g5]; exact hj, eo.nx F1 _ σ _ st.sf ((rs.step st).write h (c' := .lst (ds.set j d)) ⟨_, rfl, ?_⟩ fun hp => ?_) q⟩
    · exact rps_set g5 ro j
    · rcases g3 with z | z
      · exact absurd z (rs.wd.ph a hp)
      · exact nomatch z.2
where
  rps_set {K : PySem.W.Frag} {F : Hp} {v : V} {d : PyData} : ∀ {vs : List V} {ds : List PyData}, RpAll K F vs ds → Rp K F v d → ∀ j : Nat, RpAll K F (vs.set j v) (ds.set j d)
    | _, _, .nil, _, _ => .nil
    | _, _, .cons _ t, h, 0 => .cons h t
    | _, _, .cons h1 t, h, j + 1 => .cons h1 (rps_set t h j)
end
/-! ### ways that are decided -/
theorem br_t {A B : Prop} (h : A) : (true = true → A) ∧ (true = false → B) := ⟨fun _ => h, fun z => nomatch z⟩
theorem br_f {A B : Prop} (h : B) : (false = true → A) ∧ (false = false → B) := ⟨fun z => (nomatch z), fun _ => h⟩
/-! ### items at written places -/
theorem at0 {α : Type} {x : α} {r : List α} : atI (x :: r) 0 = some x := atI_nat (j := 0) rfl
theorem at1 {α : Type} {x y : α} {r : List α} : atI (x :: y :: r) 1 = some y := atI_nat (j := 1) rfl
theorem at2 {α : Type} {x y z : α} {r : List α} : atI (x :: y :: z :: r) 2 = some z := atI_nat (j := 2) rfl
/-! ### words -/
theorem shaped_str {x : Str} (h : PyData.strOk x = true) : SeqAt.shaped (.str x) = true := (shp_str (n := 0) h).ok
theorem mem_two {α : Type} {x a c : α} (h : x ∈ [a, c]) : x = a ∨ x = c := by
  rcases List.mem_cons.mp h with e | h
  · exact .inl e
  · exact .inr (List.mem_singleton.mp h)
end Fs

namespace Fs
open PySem PySem.Spec PyProof.Rows L2
section
variable {b : Bx} {δ : List Sl} {Q : Sl → Prop} {R : Bool → Prop} {te ta tb tc : TE} {t u : TT} {tr : TA} {p : Po} {ts tu : TS}
/-- data with a text of at most so many signs -/
structure Shw (n L : Nat) (d : PyData) : Prop where
  shp : Shp n d
  sh : d.showable = true
  len : d.shown.length ≤ L
theorem Shw.mono {n L n' L' : Nat} {d : PyData} (h : Shw n L d) (hn : n ≤ n' := by decide) (hL : L ≤ L' := by decide) : Shw n' L' d := ⟨h.shp.mono hn, h.sh, Nat.le_trans h.len hL⟩
theorem rc_reprS {n L : Nat} {d : PyData} (h : Shw n L d) (q : Q (.dat (.str d.shown))) (hn : n ≤ 64 := by decide) (hL : L ≤ 16000000 := by decide) : Rc b δ (rReprB b.K) [.dat d] Q := rc_repr (h.shp.ok hn) h.sh (Nat.le_trans h.len (Nat.le_trans hL (by decide))) q
theorem shw_none {n : Nat} : Shw n 4 .none := ⟨shp_none, rfl, by decide +kernel⟩
theorem shw_bool {n : Nat} (c : Bool) : Shw n 5 (.bool c) := ⟨shp_bool c, rfl, by cases c <;> decide +kernel⟩
theorem shw_int {n : Nat} {i : Int} (h : i.natAbs < 10 ^ 150) : Shw n 151 (.int i) := by
  refine ⟨shp_int i, ?_, ?_⟩
  · show decide (i.natAbs.log2 < 1920) = true
    refine decide_eq_true ?_
    by_cases z : i.natAbs = 0
    · rw [z]; decide
    · exact (Nat.log2_lt z).mpr (Nat.lt_of_lt_of_le h (by decide +kernel))
  · have e := int_text_length_le10 (k := 150) (by decide) h
    show (Str.ofString (toString i)).length ≤ 151
    rw [PySem.ofString_length]; exact e
theorem shw_small {n : Nat} {i : Int} (h0 : 0 ≤ i) (h : i ≤ 2 ^ 400) : Shw n 151 (.int i) := shw_int (by
  have e : (2 : Int) ^ 400 = ((2 ^ 400 : Nat) : Int) := by decide +kernel
  have e2 : (2 : Nat) ^ 400 < 10 ^ 150 := by decide +kernel
  omega)
theorem shw_all {n L : Nat} : ∀ {ds : List PyData}, (∀ d ∈ ds, Shw n L d) → PyData.showableAll ds = true ∧ ((PyData.shownAll ds).map (·.length)).sum ≤ ds.length * L ∧ (PyData.shownAll ds).length = ds.length
  | [], _ => ⟨rfl, Nat.zero_le _, rfl⟩
  | d :: r, h => by
    obtain ⟨h1, h2, h3⟩ := shw_all (ds := r) fun x hx => h x (List.mem_cons_of_mem _ hx)
    have hd := h d List.mem_cons_self
    refine ⟨?_, ?_, ?_⟩
    · show (d.showable && PyData.showableAll r) = true
      rw [hd.sh, h1]; rfl
    · show d.shown.length + ((PyData.shownAll r).map (·.length)).sum ≤ (r.length + 1) * L
      rw [Nat.succ_mul]
      have := hd.len
      omega
    · show (PyData.shownAll r).length + 1 = r.length + 1
      omega
theorem shw_list {n L : Nat} {ds : List PyData} (m : Nat) (h : ∀ d ∈ ds, Shw n L d) (hm : ds.length ≤ m) : Shw (n + 1) (m * (L + 2) + 3) (.list ds) := by
  obtain ⟨h1, h2, h3⟩ := shw_all h
  refine ⟨shp_list fun d hd => (h d hd).shp, h1, ?_⟩
  show (listText (PyData.shownAll ds)).length ≤ _
  have := listText_len_le (PyData.shownAll ds)
  have e : ds.length * (L + 2) ≤ m * (L + 2) := Nat.mul_le_mul_right _ hm
  rw [Nat.mul_add] at e
  omega
theorem shw_tup {n L : Nat} {ds : List PyData} (m : Nat) (h : ∀ d ∈ ds, Shw n L d) (hm : ds.length ≤ m) : Shw (n + 1) (m * (L + 2) + 3) (.tuple ds) := by
  obtain ⟨h1, h2, h3⟩ := shw_all h
  refine ⟨shp_tup fun d hd => (h d hd).shp, h1, ?_⟩
  show (tupleText (PyData.shownAll ds)).length ≤ _
  have := tupleText_len_le (PyData.shownAll ds)
  have e : ds.length * (L + 2) ≤ m * (L + 2) := Nat.mul_le_mul_right _ hm
  rw [Nat.mul_add] at e
  omega
theorem shown_strOk {d : PyData} : True := trivial
/-- the texts of like data are alike -/
theorem ws_ifOr {ts tu : TS} (h1 : Ws b ts δ p) (h : Vt b t δ fun c => c = false → Vt b u δ fun c' => c' = false → Ws b tu δ p) : Ws b (tIfS (tOr t u) ts tu) δ p :=
  ws_if (vt_or (h.mono fun _ q => ⟨fun _ => ⟨fun _ => h1, fun z => nomatch z⟩, fun z => (q z).mono fun _ q' => ⟨fun _ => h1, q'⟩⟩))
theorem ws_ifNo (h : Vt b t δ fun c => c = false) (q : Ws b tu δ p) : Ws b (tIfS t ts tu) δ p := ws_if (h.mono fun c e => ⟨fun z => (Bool.noConfusion (z.symm.trans e)), fun _ => q⟩)
theorem at3 {α : Type} {x y z u : α} {r : List α} : atI (x :: y :: z :: u :: r) 3 = some u := atI_nat (j := 3) rfl
theorem of4 {i : Int} (h0 : 0 ≤ i) (h1 : i < 4) : i = 0 ∨ i = 1 ∨ i = 2 ∨ i = 3 := by omega
theorem of3 {i : Int} (h0 : 0 ≤ i) (h1 : i < 3) : i = 0 ∨ i = 1 ∨ i = 2 := by omega
theorem of2 {i : Int} (h0 : 0 ≤ i) (h1 : i < 2) : i = 0 ∨ i = 1 := by omega
theorem rc_minL {ns : List Int} (hn : 0 < ns.length) (q : ∀ m, m ∈ ns → (∀ y ∈ ns, m ≤ y) → Q (.dat (.int m))) : Rc b δ (rMin b.K) [.dat (.list (ns.map PyData.int))] Q := fun F H σ vs rs ao k hk => by
  obtain ⟨v, rfl, h⟩ := rps_one (args_dats (ds := [.list _]) ao)
  cases h with
  | @lst a xs _ hs ha =>
    have e := rps_ints ha
    subst e
    exact ⟨a, ns, rfl, .inl (.inl (rs.wd.ex _ _ hs)), hn, fun m h1 h2 => hk F H _ (.dat _) rs.refl (Rp.int _) (q m h1 h2)⟩
theorem rc_min1 {i : Int} (q : Q (.dat (.int i))) : Rc b δ (rMin b.K) [.dat (.list [.int i])] Q := rc_minL (ns := [i]) (Nat.succ_pos _) fun m h _ => by rw [List.mem_singleton.mp h]; exact q
theorem rc_minT {i j : Int} (q : Q (.dat (.int (min i j)))) : Rc b δ (rMin b.K) [.dat (.list [.int i, .int j])] Q := rc_minL (ns := [i, j]) (Nat.succ_pos _) fun m h h2 => by
  have a := h2 i (by simp)
  have c := h2 j (by simp)
  have e : m = min i j := by rcases mem_two h with e | e <;> omega
  rw [e]; exact q
theorem strOk_shown (d : PyData) (h : PyData.strOk d.shown = true) : SeqAt.shaped (.str d.shown) = true := shaped_str h
end
end Fs

namespace Fs
open PySem PySem.Spec PyProof.Rows L2
local macro_rules | `(tactic| walk_at "st") => `(tactic| first
  | with_reducible refine ws_seq ?_
  | with_reducible refine ws_asg ?_
  | with_reducible refine ws_asgG ?_
  | with_reducible refine ws_par ?_
  | with_reducible refine ws_if ?_
  | with_reducible refine ws_ret ?_
  | with_reducible refine ws_next ?_
  | with_reducible refine ws_drop ?_
  | with_reducible refine vt_B ?_
  | with_reducible refine vt_test ?_
  | with_reducible refine vt_and ?_
  | with_reducible refine vt_or ?_
  | with_reducible refine vt_not ?_
  | with_reducible refine vt_yes ?_
  | walk_at "ve"
  | walk_at "va"
  | walk_at "ro"
  | walk_at "rc"
  | walk_at "wg"
  | refine ⟨_, rfl, ?_⟩
  | refine br_t ?_
  | refine br_f ?_
  | refine ⟨trivial, ?_⟩)
local macro_rules | `(tactic| walk_at "ve") => `(tactic| first
  | ((with_reducible refine' ve_var ?hh ?_); (case hh => rfl))
  | with_reducible refine ve_int ?_
  | with_reducible refine ve_str ?_
  | with_reducible refine ve_bl ?_
  | with_reducible refine ve_non ?_
  | with_reducible refine ve_isi kit_int ?_
  | with_reducible refine ve_isi kit_bool ?_
  | with_reducible refine ve_isi kit_list ?_
  | with_reducible refine ve_isi kit_str ?_
  | with_reducible refine ve_isi kit_tuple ?_
  | ((with_reducible refine' ve_pot0 ?hh ?_); (case hh => rfl))
  | ((with_reducible refine' ve_pot1 ?hh ?_); (case hh => rfl))
  | with_reducible refine ve_op ?_
  | with_reducible refine ve_un ?_
  | with_reducible refine ve_chain ?_
  | with_reducible refine ve_andV ?_
  | with_reducible refine ve_orV ?_
  | with_reducible refine ve_notV ?_
  | with_reducible refine ve_if ?_
  | with_reducible refine ve_sl ?_
  | with_reducible refine vo_none ?_
  | with_reducible refine vo_some ?_
  | with_reducible refine ve_tupA ?_
  | with_reducible refine ve_lstA ?_
  | with_reducible refine ve_cb ?_
  | with_reducible refine ve_call ?_)
local macro_rules | `(tactic| walk_at "va") => `(tactic| first
  | ((with_reducible refine' va_pot ?hh ?_); (case hh => rfl))
  | ((with_reducible refine' va_scr ?hh ?_); (case hh => rfl))
  | with_reducible refine va_cons ?_
  | with_reducible refine va_nil ?_
  | refine ⟨Nat.le_of_ble_eq_true rfl, ?_⟩)
local macro_rules | `(tactic| walk_at "ro") => `(tactic| first
  | with_reducible refine ro_addI ?_
  | with_reducible refine ro_B0 ?_
  | with_reducible refine ro_I0 ?_
  | with_reducible refine ro_I ?_ ?_
  | with_reducible refine ru_U ?_
  | with_reducible refine ro_mulI ?_ ?_
  | ((with_reducible refine ro_eqR ?h1 ?_); (case h1 => exact Nat.le_of_ble_eq_true rfl))
  | ((with_reducible refine ro_neR ?h1 ?_); (case h1 => exact Nat.le_of_ble_eq_true rfl))
  | ((with_reducible refine ro_eqL ?h1 ?_); (case h1 => exact Nat.le_of_ble_eq_true rfl))
  | ((with_reducible refine ro_neL ?h1 ?_); (case h1 => exact Nat.le_of_ble_eq_true rfl))
  | ((with_reducible refine ro_inLd ?h1 ?_); (case h1 => exact Nat.le_of_ble_eq_true rfl))
  | ((with_reducible refine ro_inTd ?h1 ?_); (case h1 => exact Nat.le_of_ble_eq_true rfl))
  | with_reducible refine ro_isN ?_
  | with_reducible refine ro_notN ?_
  | with_reducible refine ro_isB ?_
  | with_reducible refine ro_notB ?_
  | with_reducible refine ro_ixT at0 ?_
  | with_reducible refine ro_ixT at1 ?_
  | with_reducible refine ro_ixT at2 ?_
  | with_reducible refine ro_ixL at0 ?_
  | ((with_reducible refine' ro_ixL ?hh ?_); (case hh => rfl))
  | ((with_reducible refine' ro_ixT ?hh ?_); (case hh => rfl))
  | with_reducible refine rl_list ?_
  | with_reducible refine rl_tup ?_)
local macro_rules | `(tactic| walk_at "wg") => `(tactic| first
  | with_reducible refine wg_name ?_
  | ((with_reducible refine' wg_pot0 ?hh ?_); (case hh => rfl))
  | ((with_reducible refine' wg_pot1 ?hh ?_ ?_); (case hh => rfl))
  | (with_reducible refine wg_tup ?_; refine ⟨_, rfl, rfl, ?_⟩)
  | with_reducible refine wgs_cons ?_
  | with_reducible refine wgs_nil ?_)
local macro_rules | `(tactic| walk_at "rc") => `(tactic| first
  | with_reducible refine rc_lenL ?_
  | with_reducible refine rc_lenT ?_
  | with_reducible refine rc_lenScr ?_
  | with_reducible refine rc_abs ?_
  | with_reducible refine rc_max2 ?_
  | with_reducible refine rc_min2 ?_
  | with_reducible refine rc_intB ?_
  | with_reducible refine rc_intI ?_
  | with_reducible refine rc_divmod ?_ ?_
  | with_reducible refine rc_listL ?_)
local macro_rules | `(tactic| walk_at "go") => `(tactic| repeat walk_at "st")
local macro_rules | `(tactic| walk_at "set") => `(tactic| simp only [List.set_cons_zero, List.set_cons_succ])

/-! ### the text -/
def top (i : Nat) : Stmt := PySem.Challenge.pw_fallstones_k52_beats_by_parts.main.body.getD i (.Pass ⟨0, 0, 0, 0⟩)
abbrev s_is_from_nought : Stmt := top 8
abbrev s_is_part : Stmt := top 9
abbrev s_is_node : Stmt := top 10
abbrev s_is_net : Stmt := top 11
abbrev s_want_net : Stmt := top 12
abbrev s_least_arrivals : Stmt := top 13
abbrev s_are_arrivals : Stmt := top 14
abbrev s_want_arrivals : Stmt := top 15
abbrev s_lesser_beat : Stmt := top 17
abbrev s_greater_beat : Stmt := top 18
abbrev s_unless_beat : Stmt := top 19
abbrev s_node_beat : Stmt := top 20
abbrev s_net_beats : Stmt := top 21
abbrev s_law_pot : Stmt := top 23
abbrev s_law_take : Stmt := top 24
abbrev s_law_number : Stmt := top 25
abbrev s_law_node : Stmt := top 26
abbrev s_law_net : Stmt := top 27
abbrev s_law_arrivals : Stmt := top 28
abbrev s_law_beat : Stmt := top 29
abbrev s_law_due : Stmt := top 30
abbrev s_law : Stmt := top 31
structure Tx (K : PySem.W.Frag) (mg : Str → Option Value) : Prop where
  d_is_from_nought : Def K mg "is_from_nought" s_is_from_nought
  d_is_part : Def K mg "is_part" s_is_part
  d_is_node : Def K mg "is_node" s_is_node
  d_is_net : Def K mg "is_net" s_is_net
  d_want_net : Def K mg "want_net" s_want_net
  d_least_arrivals : Def K mg "least_arrivals" s_least_arrivals
  d_are_arrivals : Def K mg "are_arrivals" s_are_arrivals
  d_want_arrivals : Def K mg "want_arrivals" s_want_arrivals
  d_lesser_beat : Def K mg "lesser_beat" s_lesser_beat
  d_greater_beat : Def K mg "greater_beat" s_greater_beat
  d_unless_beat : Def K mg "unless_beat" s_unless_beat
  d_node_beat : Def K mg "node_beat" s_node_beat
  d_net_beats : Def K mg "net_beats" s_net_beats
  d_law_pot : Def K mg "_law_pot" s_law_pot
  d_law_take : Def K mg "_law_take" s_law_take
  d_law_number : Def K mg "_law_number" s_law_number
  d_law_node : Def K mg "_law_node" s_law_node
  d_law_net : Def K mg "_law_net" s_law_net
  d_law_arrivals : Def K mg "_law_arrivals" s_law_arrivals
  d_law_beat : Def K mg "_law_beat" s_law_beat
  d_law_due : Def K mg "_law_due" s_law_due
  d_law : Def K mg "law" s_law
  m_ValueError : mg "ValueError" = none
  m_all : mg "all" = none
  m_max : mg "max" = none
  m_min : mg "min" = none
  m_range : mg "range" = none
  m_isinstance : mg "isinstance" = none
  m_int : mg "int" = none
  m_divmod : mg "divmod" = none
  m_repr : mg "repr" = none
  m_bool : mg "bool" = none
  m_tuple : mg "tuple" = none
  m_len : mg "len" = none
  m_str : mg "str" = none
  m_list : mg "list" = none
  m_enumerate : mg "enumerate" = none
  m_abs : mg "abs" = none
  c_MOST_IN : ∃ t, mg "MOST_IN" = some (.int 5 t)
  c_MOST_ARRIVALS : ∃ t, mg "MOST_ARRIVALS" = some (.int 6 t)
  t_TWO_PARTED : mg "TWO_PARTED" = some (.ref (He.ga K "TWO_PARTED")) ∧ ∀ H, SqT K H (He.ga K "TWO_PARTED") [.str "or", .str "both", .str "unless"]
theorem two_pow_pos (k : Nat) : (0 : Int) < 2 ^ k := Int.pow_pos (by decide)
theorem pow_mono {a c : Nat} (h : a ≤ c) : (2 : Int) ^ a ≤ 2 ^ c := by
  have e : ∀ k : Nat, (2 : Int) ^ k = ((2 ^ k : Nat) : Int) := fun k => by rw [Int.natCast_pow]; rfl
  rw [e, e]
  exact Int.ofNat_le.mpr (Nat.pow_le_pow_right (by decide) h)
theorem small_big {m : Int} (h : m ≤ 2 ^ 200) : m < 2 ^ 8000 := Int.lt_of_le_of_lt h (Int.lt_of_lt_of_le (show (2 : Int) ^ 200 < 2 ^ 201 by decide) (pow_mono (by decide)))
/-- nodes of a net -/
inductive Nd where
  | inn (k : Nat)
  | go
  | late (i d : Nat)
  | or (i j : Nat)
  | both (i j : Nat)
  | unl (i j : Nat)
def ndD : Nd → PyData
  | .inn k => .tuple [.str "in", .int k]
  | .go => .tuple [.str "go"]
  | .late i d => .tuple [.str "late", .int i, .int d]
  | .or i j => .tuple [.str "or", .int i, .int j]
  | .both i j => .tuple [.str "both", .int i, .int j]
  | .unl i j => .tuple [.str "unless", .int i, .int j]
def optD : Option Int → PyData
  | none => .none
  | some i => .int i
/-- a node that may stand at a number -/
def NdOk (m : Nat) : Nd → Prop
  | .inn k => k ≤ 5
  | .go => True
  | .late i d => i < m ∧ d < 2 ^ 120
  | .or i j => i < m ∧ j < m
  | .both i j => i < m ∧ j < m
  | .unl i j => i < m ∧ j < m
structure NetOk (net : List Nd) : Prop where
  ne : net ≠ []
  len : net.length ≤ 1000
  mem : ∀ (m : Nat) nd, net[m]? = some nd → NdOk m nd
def isNat : PyData → Bool
  | .int i => decide (0 ≤ i)
  | _ => false
def isPart (d : PyData) (m : Int) : Bool := match d with
  | .int i => decide (0 ≤ i) && decide (i < m)
  | _ => false
def inTail : List PyData → Bool
  | [.int k] => decide (0 ≤ k) && decide (k ≤ 5)
  | _ => false
def isTwo (w : Str) : Bool := decide (w = ("or" : Str)) || (decide (w = ("both" : Str)) || decide (w = ("unless" : Str)))
def twoTail (w : Str) (m : Int) : List PyData → Bool
  | [x, y] => isPart x m && (if w = ("late" : Str) then isNat y else isTwo w && isPart y m)
  | _ => false
def isNode (d : PyData) (m : Int) : Bool := match d with
  | .tuple (.str w :: rest) => if w = ("go" : Str) then decide (rest.length = 0) else if w = ("in" : Str) then inTail rest else twoTail w m rest
  | _ => false
theorem len_is0 {n : Nat} : decide ((n : Int) = 0) = decide (n = 0) := by
  by_cases h : n = 0
  · rw [decide_eq_true h, decide_eq_true (by omega)]
  · rw [decide_eq_false h, decide_eq_false (by omega)]
theorem len_is1 {n : Nat} : decide ((n : Int) = 1) = decide (n = 1) := by
  by_cases h : n = 1
  · rw [decide_eq_true h, decide_eq_true (by omega)]
  · rw [decide_eq_false h, decide_eq_false (by omega)]
theorem len_is2 {n : Nat} : decide ((n : Int) = 2) = decide (n = 2) := by
  by_cases h : n = 2
  · rw [decide_eq_true h, decide_eq_true (by omega)]
  · rw [decide_eq_false h, decide_eq_false (by omega)]
theorem cut_1 (ds : List PyData) : cutD ds (some 1) none = ds.drop 1 := cutD_from ds 1
theorem canLay_cons {d : PyData} {r : List PyData} (h : PyData.canLayAll0 (d :: r) = true) : d.canLay0 = true ∧ PyData.canLayAll0 r = true := Bool.and_eq_true_iff.mp (show (d.canLay0 && PyData.canLayAll0 r) = true from h)
abbrev N_is_from_nought : List Str := ["thing"]
theorem sc_is_from_nought : FnScope N_is_from_nought ["thing"] (defScope s_is_from_nought) := ⟨rfl, rfl, rfl, by decide +kernel, rfl, by decide +kernel, by decide +kernel⟩
def T_is_from_nought : Tr := fun ss Q _ => ∃ (d : PyData), ss = [.dat d] ∧ (True) ∧ (Q (.dat (.bool (isNat d))))
set_option maxRecDepth 100000 in
theorem ok_is_from_nought {P : Program} {w : World} {K : PySem.W.Frag} {mg : Str → Option Value} {base : Heap} (T : Tx K mg) : Ok P w K mg base CX0 1 "is_from_nought" ["thing"] T_is_from_nought := by
  refine ok_of0 (k := 0) (N := N_is_from_nought) T.d_is_from_nought sc_is_from_nought (fun ss Q Ed h => by obtain ⟨d, rfl, hp, hq⟩ := h; rfl) (fun ss Q Ed h => h) (fun kV doc pm an cdv ct us hl => match us, hl with | [_], _ => rfl) (fun cdv A outer s H E hgd hr => ⟨_, (pss_one (ps_ret (pe_and (g_cb (K := K) (r := rIsi) call_isi T.m_isinstance boot_isinstance (pa_cons (pv 0) (pa_cons (pe_bltn (v := .ty "int") (by rfl) T.m_int PyProof.Rows.boot_int rfl) pa_nil))) (pe_and (pe_not (g_cb (K := K) (r := rIsi) call_isi T.m_isinstance boot_isinstance (pa_cons (pv 0) (pa_cons (pe_bltn (v := .ty "bool") (by rfl) T.m_bool PyProof.Rows.boot_bool rfl) pa_nil)))) (pe_one (pe_cmpR op_ge (pv 0) pe_int (nomark _))))))), fun H0 F0 P0 Ed ss Q h => ?_⟩)
  obtain ⟨d, rfl, hp, hq⟩ := h
  show Ws _ _ [.dat d] _
  cases d <;> (walk_at "go"; exact hq)

abbrev N_is_part : List Str := ["thing", "number"]
theorem sc_is_part : FnScope N_is_part ["thing", "number"] (defScope s_is_part) := ⟨rfl, rfl, rfl, by decide +kernel, rfl, by decide +kernel, by decide +kernel⟩
def T_is_part : Tr := fun ss Q _ => ∃ (d : PyData) (m : Int), ss = [.dat d, .dat (.int m)] ∧ (True) ∧ (Q (.dat (.bool (isPart d m))))
set_option maxRecDepth 100000 in
theorem ok_is_part {P : Program} {w : World} {K : PySem.W.Frag} {mg : Str → Option Value} {base : Heap} (T : Tx K mg) : Ok P w K mg base CX0 2 "is_part" ["thing", "number"] T_is_part := by
  refine ok_of0 (k := 1) (N := N_is_part) T.d_is_part sc_is_part (fun ss Q Ed h => by obtain ⟨d, m, rfl, hp, hq⟩ := h; rfl) (fun ss Q Ed h => h) (fun kV doc pm an cdv ct us hl => match us, hl with | [_, _], _ => rfl) (fun cdv A outer s H E hgd hr => ⟨_, (pss_one (ps_ret (pe_and (g_call (ok_is_from_nought T) hgd hr (by decide) pass0 (pa_cons (pv 0) pa_nil)) (pe_one (pe_cmpR op_lt (pv 0) (pv 1) (nomark _)))))), fun H0 F0 P0 Ed ss Q h => ?_⟩)
  obtain ⟨d, m, rfl, hp, hq⟩ := h
  show Ws _ _ [.dat d, .dat (.int m)] _
  cases d with
  | int i =>
    walk_at "go"
    refine ⟨fun hc => ?_, fun hc => ?_⟩
    · walk_at "go"
      have e : isPart (.int i) m = decide (i < m) := by show (decide (0 ≤ i) && decide (i < m)) = _; rw [show decide (0 ≤ i) = true from hc]; rfl
      rw [e] at hq; exact hq
    · have e : isPart (.int i) m = false := by show (decide (0 ≤ i) && decide (i < m)) = _; rw [show decide (0 ≤ i) = false from hc]; rfl
      rw [e] at hq; exact hq
  | _ => walk_at "go"; exact hq

abbrev N_is_node : List Str := ["thing", "number", "word", "rest"]
theorem sc_is_node : FnScope N_is_node ["thing", "number"] (defScope s_is_node) := ⟨rfl, rfl, rfl, by decide +kernel, rfl, by decide +kernel, by decide +kernel⟩
def T_is_node : Tr := fun ss Q _ => ∃ (d : PyData) (m : Int), ss = [.dat d, .dat (.int m)] ∧ (d.canLay0 = true) ∧ (Q (.dat (.bool (isNode d m))))
set_option maxRecDepth 100000 in
theorem ok_is_node {P : Program} {w : World} {K : PySem.W.Frag} {mg : Str → Option Value} {base : Heap} (T : Tx K mg) : Ok P w K mg base CX0 3 "is_node" ["thing", "number"] T_is_node := by
  refine ok_of0 (k := 2) (N := N_is_node) T.d_is_node sc_is_node (fun ss Q Ed h => by obtain ⟨d, m, rfl, hp, hq⟩ := h; rfl) (fun ss Q Ed h => h) (fun kV doc pm an cdv ct us hl => match us, hl with | [_, _], _ => rfl) (fun cdv A outer s H E hgd hr => ⟨_, (pss_cons (ps_if (PW.pt (pw_or (pt_not (pt_val (g_cb (K := K) (r := rIsi) call_isi T.m_isinstance boot_isinstance (pa_cons (pv 0) (pa_cons (pe_bltn (v := .ty "tuple") (by rfl) T.m_tuple PyProof.Rows.boot_tuple rfl) pa_nil))))) (pw_or (gt_eq (K := K) hr.units (g_cb (K := K) (r := rLenB) call_lenB T.m_len PySem.boot_len (pa_cons (pv 0) pa_nil)) pe_int) (pw_or1 (pt_not (pt_val (g_cb (K := K) (r := rIsi) call_isi T.m_isinstance boot_isinstance (pa_cons (g_ix (K := K) (pv 0) pe_int) (pa_cons (pe_bltn (v := .ty "str") (by rfl) T.m_str PyProof.Rows.boot_str rfl) pa_nil))))))))) (pss_one (ps_ret pe_bl)) pss_nil)
      (pss_cons (ps_par (i := 2) (j := 3) (by rfl) sc_is_node.nd rfl rfl (by decide) rfl rfl (pa_cons (g_ix (K := K) (pv 0) pe_int) (pa_cons (g_sl (K := K) (pv 0) (po_some pe_int) po_none) pa_nil)) (by rfl))
      (pss_cons (ps_if (gt_eq (K := K) hr.units (pv 2) pe_str) (pss_one (ps_ret (g_eq (K := K) hr.units (g_cb (K := K) (r := rLenB) call_lenB T.m_len PySem.boot_len (pa_cons (pv 3) pa_nil)) pe_int))) pss_nil)
      (pss_cons (ps_if (gt_eq (K := K) hr.units (pv 2) pe_str) (pss_one (ps_ret (pe_and (g_eq (K := K) hr.units (g_cb (K := K) (r := rLenB) call_lenB T.m_len PySem.boot_len (pa_cons (pv 3) pa_nil)) pe_int) (pe_and (g_call (ok_is_from_nought T) hgd hr (by decide) pass0 (pa_cons (g_ix (K := K) (pv 3) pe_int) pa_nil)) (pe_one (pe_cmpR op_le (g_ix (K := K) (pv 3) pe_int) (g_gint T.c_MOST_IN) (nomark _))))))) pss_nil)
      (pss_cons (ps_if (PW.pt (pw_or (gt_ne (K := K) hr.units (g_cb (K := K) (r := rLenB) call_lenB T.m_len PySem.boot_len (pa_cons (pv 3) pa_nil)) pe_int) (pw_or1 (pt_not (pt_val (g_call (ok_is_part T) hgd hr (by decide) pass0 (pa_cons (g_ix (K := K) (pv 3) pe_int) (pa_cons (pv 1) pa_nil)))))))) (pss_one (ps_ret pe_bl)) pss_nil)
      (pss_cons (ps_if (gt_eq (K := K) hr.units (pv 2) pe_str) (pss_one (ps_ret (g_call (ok_is_from_nought T) hgd hr (by decide) pass0 (pa_cons (g_ix (K := K) (pv 3) pe_int) pa_nil)))) pss_nil)
      (pss_one (ps_ret (pe_and (g_in (K := K) (room65 hr) (pv 2) (g_gobj T.t_TWO_PARTED.1)) (pe_one (g_call (ok_is_part T) hgd hr (by decide) pass0 (pa_cons (g_ix (K := K) (pv 3) pe_int) (pa_cons (pv 1) pa_nil))))))))))))), fun H0 F0 P0 Ed ss Q h => ?_⟩)
  obtain ⟨d, m, rfl, hp, hq⟩ := h
  show Ws _ _ [.dat d, .dat (.int m), .no, .no] _
  cases d with
  | tuple l =>
    walk_at "go"
    rw [eqv_int]
    cases l with
    | nil =>
      walk_at "go"
      exact hq
    | cons x rest =>
      have e0 : decide ((((x :: rest).length : Nat) : Int) = 0) = false := decide_eq_false (by rw [List.length_cons]; omega)
      rw [e0]
      walk_at "go"
      cases x with
      | str w =>
        obtain ⟨hw, hrest⟩ := canLay_cons (show PyData.canLayAll0 (.str w :: rest) = true from hp)
        have sw : SeqAt.shaped (.str w) = true := Shp.ok (n := 0) ⟨hw, Nat.zero_le _⟩
        walk_at "go"
        rw [cut_1]
        refine ⟨_, _, rfl, ?_⟩
        show Ws _ _ [.dat (.tuple (.str w :: rest)), .dat (.int m), .dat (.str w), .dat (.tuple rest)] _
        walk_at "go"
        rw [eqv_str]
        have hq : Q (.dat (.bool (if w = ("go" : Str) then decide (rest.length = 0) else if w = ("in" : Str) then inTail rest else twoTail w m rest))) := hq
        refine ⟨fun hc => ?_, fun hc => ?_⟩
        · rw [if_pos (of_decide_eq_true hc)] at hq
          walk_at "go"
          rw [eqv_int, len_is0]
          exact hq
        rw [if_neg (of_decide_eq_false hc)] at hq
        walk_at "go"
        rw [eqv_str]
        refine ⟨fun hc => ?_, fun hc => ?_⟩
        · rw [if_pos (of_decide_eq_true hc)] at hq
          walk_at "go"
          rw [eqv_int, len_is1]
          rcases rest with _ | ⟨y, _ | ⟨z, r⟩⟩
          · walk_at "go"
            exact hq
          · refine br_t ?_
            cases y with
            | int k =>
              have hq : Q (.dat (.bool (decide (0 ≤ k) && decide (k ≤ 5)))) := hq
              walk_at "go"
              refine ⟨fun h2 => ?_, fun h2 => ?_⟩
              · rw [show decide (0 ≤ k) = true from h2, Bool.true_and] at hq
                walk_at "go"
                exact hq
              · rw [show decide (0 ≤ k) = false from h2, Bool.false_and] at hq
                exact hq
            | _ =>
              walk_at "go"
              exact hq
          · rw [decide_eq_false (by simp)]
            rw [show inTail (y :: z :: r) = false by cases y <;> rfl] at hq
            exact br_f hq
        rw [if_neg (of_decide_eq_false hc)] at hq
        walk_at "go"
        rw [eqv_int, len_is2]
        rcases rest with _ | ⟨y, _ | ⟨z, _ | ⟨z', r⟩⟩⟩
        · walk_at "go"
          exact hq
        · walk_at "go"
          exact hq
        · have hq : Q (.dat (.bool (isPart y m && (if w = ("late" : Str) then isNat z else isTwo w && isPart z m)))) := hq
          refine br_f ?_
          walk_at "go"
          refine ⟨_, _, rfl, trivial, _, rfl, ?_⟩
          cases hy : isPart y m with
          | false =>
            rw [hy, Bool.false_and] at hq
            walk_at "go"
            exact hq
          | true =>
            rw [hy, Bool.true_and] at hq
            walk_at "go"
            rw [eqv_str]
            refine ⟨fun h3 => ?_, fun h3 => ?_⟩
            · rw [if_pos (of_decide_eq_true h3)] at hq
              walk_at "go"
              exact hq
            · rw [if_neg (of_decide_eq_false h3)] at hq
              refine ws_next (ws_ret (ve_andV (ve_op (ve_var rfl ⟨_, rfl, ?_⟩))))
              refine ve_tupK T.t_TWO_PARTED.2 (fun F => .cons (.str _) (.cons (.str _) (.cons (.str _) .nil))) ⟨_, rfl, ro_inT rfl rfl ?_⟩
              have em : (([.str "or", .str "both", .str "unless"] : List PyData).any fun z => PyData.eqv z (.str w)) = isTwo w := by
                have ec : ∀ a c : Str, decide (a = c) = decide (c = a) := fun a c => by
                  by_cases hac : a = c
                  · rw [hac]
                  · rw [decide_eq_false hac, decide_eq_false (fun z => hac z.symm)]
                show (PyData.eqv (.str "or") (.str w) || (PyData.eqv (.str "both") (.str w) || (PyData.eqv (.str "unless") (.str w) || false))) = _
                rw [eqv_str, eqv_str, eqv_str, Bool.or_false, ec "or" w, ec "both" w, ec "unless" w]
                rfl
              rw [Bool.false_xor, em]
              refine ⟨_, rfl, fun h4 => ?_, fun h4 => ?_⟩
              · rw [h4, Bool.true_and] at hq
                walk_at "go"
                exact ⟨_, _, rfl, trivial, hq⟩
              · rw [h4, Bool.false_and] at hq
                exact hq
        · rw [decide_eq_false (by simp)]
          refine br_t ?_
          walk_at "go"
          exact hq
      | _ =>
        walk_at "go"
        exact hq
  | _ =>
    walk_at "go"
    exact hq
def isNet : PyData → Bool
  | .list ds => !ds.isEmpty && (enumD ds).all fun d => match d with
      | .tuple [.int m, x] => isNode x m
      | _ => false
  | _ => false
theorem enum_get {ds : List PyData} {d : PyData} (h : d ∈ enumD ds) : ∃ (m : Nat) (x : PyData), ds[m]? = some x ∧ d = .tuple [.int m, x] := by
  obtain ⟨i, hi⟩ := List.getElem?_of_mem h
  obtain ⟨x, y, h1, h2, rfl⟩ := zipD_get hi
  obtain ⟨_, rfl⟩ := rangeD_get h1
  rw [Int.zero_add]
  exact ⟨i, y, h2, rfl⟩
theorem enum_len (ds : List PyData) : (enumD ds).length = ds.length := by
  unfold enumD
  rw [zipD_len, rangeD_len, Nat.min_self]
def ofTwo (i j : Nat) : PyData → List (Nat × PyData)
  | .tuple [x, y] => [(i, x), (j, y)]
  | _ => []
abbrev N_is_net : List Str := ["thing", "number", "node"]
theorem sc_is_net : FnScope N_is_net ["thing"] (defScope s_is_net) := ⟨rfl, rfl, rfl, by decide +kernel, rfl, by decide +kernel, by decide +kernel⟩
def T_is_net : Tr := fun ss Q _ => ∃ (d : PyData), ss = [.dat d] ∧ (d.canLay0 = true ∧ (∀ ds, d = .list ds → ds.length ≤ 100000)) ∧ (Q (.dat (.bool (isNet d))))
set_option maxRecDepth 100000 in
theorem ok_is_net {P : Program} {w : World} {K : PySem.W.Frag} {mg : Str → Option Value} {base : Heap} (T : Tx K mg) : Ok P w K mg base CX0 4 "is_net" ["thing"] T_is_net := by
  refine ok_of0 (k := 3) (N := N_is_net) T.d_is_net sc_is_net (fun ss Q Ed h => by obtain ⟨d, rfl, hp, hq⟩ := h; rfl) (fun ss Q Ed h => h) (fun kV doc pm an cdv ct us hl => match us, hl with | [_], _ => rfl) (fun cdv A outer s H E hgd hr => ⟨_, (pss_cons (ps_if (PW.pt (pw_or (pt_not (pt_val (g_cb (K := K) (r := rIsi) call_isi T.m_isinstance boot_isinstance (pa_cons (pv 0) (pa_cons (pe_bltn (v := .ty "list") (by rfl) T.m_list PyProof.Rows.boot_list rfl) pa_nil))))) (pw_or1 (gt_eq (K := K) hr.units (g_cb (K := K) (r := rLenB) call_lenB T.m_len PySem.boot_len (pa_cons (pv 0) pa_nil)) pe_int)))) (pss_one (ps_ret pe_bl)) pss_nil)
      (pss_one (ps_ret (g_cb (K := K) (r := rAll) (cr_all (by rfl)) T.m_all boot_all (pa_cons (pe_lc (own := [("number", 1), ("node", 2)]) (by rfl) sc_is_net.nd (g_enum (K := K) T.m_enumerate (pa_cons (pv 0) pa_nil)) (blkOk_by (N := N_is_net) (sc := defScope s_is_net) (by decide +kernel)) (fun _ _ _ _ _ => (g_tgtup (K := K) (n := 2) (by rfl) (pgs_cons (pg_name (i := 1) sc_is_net.nd rfl (by first | exact Or.inl rfl | exact Or.inr rfl)) (pgs_cons (pg_name (i := 2) sc_is_net.nd rfl (by first | exact Or.inl rfl | exact Or.inr rfl)) pgs_nil)))) (fun _ _ _ _ _ => pts_nil) (fun _ _ _ _ _ => (g_call (ok_is_node T) hgd hr (by decide) pass0 (pa_cons (pv 2) (pa_cons (pv 1) pa_nil))))) pa_nil))))), fun H0 F0 P0 Ed ss Q h => ?_⟩)
  obtain ⟨d, rfl, hp, hq⟩ := h
  show Ws _ _ [.dat d, .no, .no] _
  cases d with
  | list ds =>
    have hl := hp.2 ds rfl
    have hc : ∀ x ∈ ds, x.canLay0 = true := by
      have h : PyData.canLayAll0 ds = true := hp.1
      clear hp hq hl
      induction ds with
      | nil => intro x hx; cases hx
      | cons a r ih =>
        obtain ⟨h1, h2⟩ := canLay_cons h
        intro x hx
        rcases List.mem_cons.mp hx with e | hx
        · rw [e]; exact h1
        · exact ih h2 x hx
    walk_at "go"
    rw [eqv_int, len_is0]
    cases hz : ds with
    | nil =>
      subst hz
      walk_at "go"
      exact hq
    | cons a r =>
      rw [← hz]
      have hne : decide (ds.length = 0) = false := decide_eq_false (by rw [hz]; simp)
      rw [hne]
      walk_at "go"
      refine ve_lcF (vi_enum (va_cons (ve_var rfl ⟨_, rfl, va_nil ⟨_, rfl, by rw [enum_len]; exact hl, ofTwo 1 2, fun d => .bool (match d with | .tuple [.int m, x] => isNode x m | _ => false), fun d hd => ?_, ?_⟩⟩)))
      · obtain ⟨m, x, hx, rfl⟩ := enum_get hd
        refine ⟨tg_two, fun q hq => hq, ?_⟩
        show Ve _ _ [.dat (.list ds), .dat (.int m), .dat x] _
        walk_at "go"
        exact ⟨_, _, rfl, hc x (List.mem_of_getElem? hx), rfl⟩
      · walk_at "go"
        refine rc_allD (fun d hd => ?_) ?_
        · obtain ⟨x, _, rfl⟩ := List.mem_map.mp hd; rfl
        have e : ((enumD ds).map fun d => PyData.bool (match d with | .tuple [.int m, x] => isNode x m | _ => false)).all isTrueD = isNet (.list ds) := by
          rw [List.all_map]
          show _ = (!ds.isEmpty && (enumD ds).all fun d => match d with | .tuple [.int m, x] => isNode x m | _ => false)
          rw [show ds.isEmpty = false by rw [hz]; rfl]
          show _ = (enumD ds).all _
          congr 1
          funext d
          show isTrueD (.bool _) = _
          generalize (match d with | .tuple [.int m, x] => isNode x m | _ => false) = c
          cases c <;> rfl
        rw [e]
        exact hq
  | _ =>
    walk_at "go"
    exact hq

abbrev N_want_net : List Str := ["thing"]
theorem sc_want_net : FnScope N_want_net ["thing"] (defScope s_want_net) := ⟨rfl, rfl, rfl, by decide +kernel, rfl, by decide +kernel, by decide +kernel⟩
def T_want_net : Tr := fun ss Q _ => ∃ (d : PyData), ss = [.dat d] ∧ ((d.canLay0 = true ∧ (∀ ds, d = .list ds → ds.length ≤ 100000)) ∧ isNet d = true) ∧ (Q (.dat .none))
set_option maxRecDepth 100000 in
theorem ok_want_net {P : Program} {w : World} {K : PySem.W.Frag} {mg : Str → Option Value} {base : Heap} (T : Tx K mg) : Ok P w K mg base CX0 5 "want_net" ["thing"] T_want_net := by
  refine ok_of0 (k := 4) (N := N_want_net) T.d_want_net sc_want_net (fun ss Q Ed h => by obtain ⟨d, rfl, hp, hq⟩ := h; rfl) (fun ss Q Ed h => h) (fun kV doc pm an cdv ct us hl => match us, hl with | [_], _ => rfl) (fun cdv A outer s H E hgd hr => ⟨_, (pss_one (ps_if (pt_not (pt_val (g_call (ok_is_net T) hgd hr (by decide) pass0 (pa_cons (pv 0) pa_nil)))) (pss_one ps_never) pss_nil)), fun H0 F0 P0 Ed ss Q h => ?_⟩)
  obtain ⟨d, rfl, hp, hq⟩ := h
  show Ws _ _ [.dat d] _
  walk_at "go"
  refine ⟨hp.1, _, rfl, ?_⟩
  rw [hp.2]
  walk_at "go"
  exact hq
/-- one more than the greatest number of the ins -/
def least : List Nd → Nat
  | [] => 0
  | .inn k :: r => max (k + 1) (least r)
  | _ :: r => least r
def insOf (net : List Nd) : List Int := (net.filterMap fun nd => match nd with | .inn k => some ((k : Int) + 1) | _ => none)
theorem least_ge : ∀ {net : List Nd} {y : Int}, y ∈ insOf net → y ≤ (least net : Nat)
  | [], y, h => by cases h
  | .inn k :: r, y, h => by
    have h' : y ∈ ((k : Int) + 1) :: insOf r := h
    show y ≤ ((max (k + 1) (least r) : Nat) : Int)
    rcases List.mem_cons.mp h' with e | h'
    · omega
    · have := least_ge h'; omega
  | .go :: r, y, h => least_ge (net := r) h
  | .late _ _ :: r, y, h => least_ge (net := r) h
  | .or _ _ :: r, y, h => least_ge (net := r) h
  | .both _ _ :: r, y, h => least_ge (net := r) h
  | .unl _ _ :: r, y, h => least_ge (net := r) h
theorem least_mem : ∀ (net : List Nd), ((least net : Nat) : Int) = 0 ∨ ((least net : Nat) : Int) ∈ insOf net
  | [] => .inl rfl
  | .inn k :: r => by
    right
    show ((max (k + 1) (least r) : Nat) : Int) ∈ ((k : Int) + 1) :: insOf r
    rcases least_mem r with h | h
    · rw [show max (k + 1) (least r) = k + 1 by omega]
      exact List.mem_cons_self
    · by_cases c : k + 1 ≤ least r
      · rw [show max (k + 1) (least r) = least r by omega]; exact List.mem_cons_of_mem _ h
      · rw [show max (k + 1) (least r) = k + 1 by omega]; exact List.mem_cons_self
  | .go :: r => least_mem r
  | .late _ _ :: r => least_mem r
  | .or _ _ :: r => least_mem r
  | .both _ _ :: r => least_mem r
  | .unl _ _ :: r => least_mem r
theorem least_max {net : List Nd} {m z : Int} (hz : z = 0 ∨ z = 1) (h1 : m ∈ z :: insOf net) (h2 : ∀ y ∈ z :: insOf net, y ≤ m) : m = max z (least net : Nat) := by
  have a : z ≤ m := h2 z List.mem_cons_self
  have b : ((least net : Nat) : Int) ≤ m := by
    rcases least_mem net with h | h
    · omega
    · exact h2 _ (List.mem_cons_of_mem _ h)
  rcases List.mem_cons.mp h1 with e | h
  · omega
  · have := least_ge h; omega
theorem least_le {net : List Nd} (h : NetOk net) : least net ≤ 6 := by
  have key : ∀ l : List Nd, (∀ nd ∈ l, ∃ m, NdOk m nd) → least l ≤ 6 := by
    intro l
    induction l with
    | nil => intro _; exact Nat.zero_le _
    | cons a r ih =>
      intro hl
      have ihr := ih fun nd hn => hl nd (List.mem_cons_of_mem _ hn)
      cases a with
      | inn k =>
        obtain ⟨m, hk⟩ := hl _ List.mem_cons_self
        have hk : k ≤ 5 := hk
        show max (k + 1) (least r) ≤ 6
        omega
      | _ => exact ihr
  refine key net fun nd hn => ?_
  obtain ⟨m, hm⟩ := List.getElem?_of_mem hn
  exact ⟨m, h.mem m nd hm⟩
/-- texts of nodes -/
theorem ndD_shp (nd : Nd) : Shp 1 (ndD nd) := by
  have hs : ∀ w ∈ (["in", "go", "late", "or", "both", "unless"] : List Str), PyData.strOk w = true := by decide +kernel
  have two : ∀ w ∈ (["in", "go", "late", "or", "both", "unless"] : List Str), ∀ l : List PyData, (∀ d ∈ l, Shp 0 d) → Shp 1 (.tuple (.str w :: l)) := fun w hw l hl => by
    refine shp_tup fun d hd => ?_
    rcases List.mem_cons.mp hd with e | hd
    · rw [e]; exact shp_str (hs w hw)
    · exact hl d hd
  have hin : ∀ ns : List Int, ∀ d ∈ ns.map PyData.int, Shp 0 d := fun ns d hd => by
    obtain ⟨i, _, rfl⟩ := List.mem_map.mp hd
    exact shp_int i
  cases nd with
  | inn k => exact two "in" (by simp) [.int k] (hin [k])
  | go => exact two "go" (by simp) [] (hin [])
  | late i d => exact two "late" (by simp) [.int i, .int d] (hin [i, d])
  | or i j => exact two "or" (by simp) [.int i, .int j] (hin [i, j])
  | both i j => exact two "both" (by simp) [.int i, .int j] (hin [i, j])
  | unl i j => exact two "unless" (by simp) [.int i, .int j] (hin [i, j])
theorem net_shp (net : List Nd) : Shp 2 (.list (net.map ndD)) := shp_list fun d hd => by
  obtain ⟨nd, _, rfl⟩ := List.mem_map.mp hd
  exact ndD_shp nd
theorem isNode_two {w : Str} {x y : PyData} {m : Int} (h1 : ¬ (w = ("go" : Str))) (h2 : ¬ (w = ("in" : Str))) : isNode (.tuple [.str w, x, y]) m = (isPart x m && (if w = ("late" : Str) then isNat y else isTwo w && isPart y m)) := by
  show (if w = ("go" : Str) then decide (([x, y] : List PyData).length = 0) else if w = ("in" : Str) then inTail [x, y] else twoTail w m [x, y]) = _
  rw [if_neg h1, if_neg h2]; rfl
theorem node_ok {m : Nat} {nd : Nd} (h : NdOk m nd) : isNode (ndD nd) m = true := by
  have pt : ∀ i : Nat, i < m → isPart (.int i) m = true := fun i hi => by
    show (decide ((0 : Int) ≤ i) && decide ((i : Int) < m)) = true
    rw [decide_eq_true (by omega), decide_eq_true (by omega)]; rfl
  have n1 : ¬ (("in" : Str) = ("go" : Str)) := by decide +kernel
  have n2 : ¬ (("late" : Str) = ("go" : Str)) := by decide +kernel
  have n3 : ¬ (("late" : Str) = ("in" : Str)) := by decide +kernel
  have n4 : ¬ (("or" : Str) = ("go" : Str)) := by decide +kernel
  have n5 : ¬ (("or" : Str) = ("in" : Str)) := by decide +kernel
  have n6 : ¬ (("or" : Str) = ("late" : Str)) := by decide +kernel
  have n7 : ¬ (("both" : Str) = ("go" : Str)) := by decide +kernel
  have n8 : ¬ (("both" : Str) = ("in" : Str)) := by decide +kernel
  have n9 : ¬ (("both" : Str) = ("late" : Str)) := by decide +kernel
  have n10 : ¬ (("unless" : Str) = ("go" : Str)) := by decide +kernel
  have n11 : ¬ (("unless" : Str) = ("in" : Str)) := by decide +kernel
  have n12 : ¬ (("unless" : Str) = ("late" : Str)) := by decide +kernel
  cases nd with
  | inn k =>
    have hk : k ≤ 5 := h
    show (if ("in" : Str) = ("go" : Str) then decide (([.int k] : List PyData).length = 0) else if ("in" : Str) = ("in" : Str) then inTail [.int k] else twoTail "in" m [.int k]) = true
    rw [if_neg n1, if_pos rfl]
    show (decide ((0 : Int) ≤ k) && decide ((k : Int) ≤ 5)) = true
    rw [decide_eq_true (by omega), decide_eq_true (by omega)]; rfl
  | go =>
    show (if ("go" : Str) = ("go" : Str) then decide (([] : List PyData).length = 0) else if ("go" : Str) = ("in" : Str) then inTail [] else twoTail "go" m []) = true
    rw [if_pos rfl]; rfl
  | late i d =>
    have e : isNode (ndD (.late i d)) m = (isPart (.int i) m && (if ("late" : Str) = ("late" : Str) then isNat (.int d) else isTwo "late" && isPart (.int d) m)) := isNode_two n2 n3
    rw [e, if_pos rfl, pt i h.1]
    show decide ((0 : Int) ≤ d) = true
    exact decide_eq_true (by omega)
  | or i j =>
    have e : isNode (ndD (.or i j)) m = (isPart (.int i) m && (if ("or" : Str) = ("late" : Str) then isNat (.int j) else isTwo "or" && isPart (.int j) m)) := isNode_two n4 n5
    rw [e, if_neg n6, pt i h.1, pt j h.2]; decide +kernel
  | both i j =>
    have e : isNode (ndD (.both i j)) m = (isPart (.int i) m && (if ("both" : Str) = ("late" : Str) then isNat (.int j) else isTwo "both" && isPart (.int j) m)) := isNode_two n7 n8
    rw [e, if_neg n9, pt i h.1, pt j h.2]; decide +kernel
  | unl i j =>
    have e : isNode (ndD (.unl i j)) m = (isPart (.int i) m && (if ("unless" : Str) = ("late" : Str) then isNat (.int j) else isTwo "unless" && isPart (.int j) m)) := isNode_two n10 n11
    rw [e, if_neg n12, pt i h.1, pt j h.2]; decide +kernel
theorem net_ok {net : List Nd} (h : NetOk net) : isNet (.list (net.map ndD)) = true := by
  show (!(net.map ndD).isEmpty && (enumD (net.map ndD)).all _) = true
  have h1 : (net.map ndD).isEmpty = false := by
    cases e : net with
    | nil => exact absurd e h.ne
    | cons _ _ => rfl
  rw [h1]
  show (enumD (net.map ndD)).all _ = true
  rw [List.all_eq_true]
  intro d hd
  obtain ⟨m, x, hx, rfl⟩ := enum_get hd
  rw [List.getElem?_map] at hx
  cases e : net[m]? with
  | none => rw [e] at hx; cases hx
  | some nd =>
    rw [e] at hx
    cases hx
    exact node_ok (h.mem m nd e)
def isArr (net : List Nd) : PyData → Bool
  | .list ds => (decide (max 1 (least net) ≤ ds.length) && decide (ds.length ≤ 6)) && ds.all fun d => isNo d || isNat d
  | _ => false
theorem e_word {w : Str} {nd : Nd} {r : List PyData} (h : ndD nd = .tuple (.str w :: r)) : True := trivial
/-- the word of a node -/
def wordOf : Nd → Str
  | .inn _ => "in"
  | .go => "go"
  | .late _ _ => "late"
  | .or _ _ => "or"
  | .both _ _ => "both"
  | .unl _ _ => "unless"
def isIn : Nd → Bool
  | .inn _ => true
  | _ => false
theorem ndD_word (nd : Nd) : ∃ r, ndD nd = .tuple (.str (wordOf nd) :: r) := by cases nd <;> exact ⟨_, rfl⟩
theorem word_in (nd : Nd) : PyData.eqv (.str (wordOf nd)) (.str "in") = isIn nd := by cases nd <;> (dsimp only [wordOf, isIn]; decide +kernel)
theorem sh_word (nd : Nd) : SeqAt.shaped (.str (wordOf nd)) = true := by cases nd <;> (dsimp only [wordOf]; decide +kernel)
def inNext : PyData → PyData
  | .tuple [_, .int k] => .int (k + 1)
  | d => d
theorem ins_map : ∀ net : List Nd, ((net.map ndD).filter fun d => match d with | .tuple (x :: _) => PyData.eqv x (.str "in") | _ => false).map inNext = (insOf net).map .int
  | [] => rfl
  | nd :: r => by
    have ih := ins_map r
    rw [List.map_cons, List.filter_cons]
    obtain ⟨r', hr⟩ := ndD_word nd
    have e : (match ndD nd with | .tuple (x :: _) => PyData.eqv x (.str "in") | _ => false) = isIn nd := by rw [hr]; exact word_in nd
    rw [e]
    cases nd with
    | inn k => show inNext (ndD (.inn k)) :: _ = .int ((k : Int) + 1) :: (insOf r).map .int; rw [← ih]; rfl
    | _ => exact ih
abbrev N_least_arrivals : List Str := ["net", "node"]
theorem sc_least_arrivals : FnScope N_least_arrivals ["net"] (defScope s_least_arrivals) := ⟨rfl, rfl, rfl, by decide +kernel, rfl, by decide +kernel, by decide +kernel⟩
def T_least_arrivals : Tr := fun ss Q _ => ∃ (net : List Nd), ss = [.dat (.list (net.map ndD))] ∧ (net.length ≤ 1000) ∧ (Q (.dat (.int (least net : Nat))))
set_option maxRecDepth 100000 in
theorem ok_least_arrivals {P : Program} {w : World} {K : PySem.W.Frag} {mg : Str → Option Value} {base : Heap} (T : Tx K mg) : Ok P w K mg base CX0 1 "least_arrivals" ["net"] T_least_arrivals := by
  refine ok_of0 (k := 0) (N := N_least_arrivals) T.d_least_arrivals sc_least_arrivals (fun ss Q Ed h => by obtain ⟨net, rfl, hp, hq⟩ := h; rfl) (fun ss Q Ed h => h) (fun kV doc pm an cdv ct us hl => match us, hl with | [_], _ => rfl) (fun cdv A outer s H E hgd hr => ⟨_, (pss_one (ps_ret (g_cb (K := K) (r := rMax) (cr_max (by rfl)) T.m_max boot_max (pa_cons (g_plus (K := K) (pe_lst (pa_cons pe_int pa_nil)) (pe_lc (own := [("node", 1)]) (by rfl) sc_least_arrivals.nd (g_list (K := K) (pv 0)) (blkOk_by (N := N_least_arrivals) (sc := defScope s_least_arrivals) (by decide +kernel)) (fun _ _ _ _ _ => (pg_name (i := 1) sc_least_arrivals.nd rfl (by first | exact Or.inl rfl | exact Or.inr rfl))) (fun _ _ _ _ _ => (pts_one (gt_eq (K := K) hr.units (g_ix (K := K) (pv 1) pe_int) pe_str))) (fun _ _ _ _ _ => (g_plus (K := K) (g_ix (K := K) (pv 1) pe_int) pe_int)))) pa_nil)))), fun H0 F0 P0 Ed ss Q h => ?_⟩)
  obtain ⟨net, rfl, hp, hq⟩ := h
  show Ws _ _ [.dat (.list (net.map ndD)), .no] _
  have hlen : (net.map ndD).length ≤ 100000 := by rw [List.length_map]; omega
  walk_at "go"
  refine ve_lcT (vi_list (ve_var rfl ⟨_, rfl, hlen, fun d => [(1, d)], fun d => match d with | .tuple (x :: _) => PyData.eqv x (.str "in") | _ => false, inNext, fun d hd => ?_, ?_⟩))
  · obtain ⟨nd, hn, rfl⟩ := List.mem_map.mp hd
    refine ⟨tg_name, fun q hq => hq, ?_, fun hc => ?_⟩
    · show Vt _ _ [.dat (.list (net.map ndD)), .dat (ndD nd)] _
      obtain ⟨r, hr⟩ := ndD_word nd
      rw [hr]
      walk_at "go"
      rfl
    · show Ve _ _ [.dat (.list (net.map ndD)), .dat (ndD nd)] _
      obtain ⟨r, hr⟩ := ndD_word nd
      have hc : (match ndD nd with | .tuple (x :: _) => PyData.eqv x (.str "in") | _ => false) = true := hc
      rw [hr] at hc
      rw [show (match (PyData.tuple (.str (wordOf nd) :: r)) with | .tuple (x :: _) => PyData.eqv x (.str "in") | _ => false) = isIn nd from word_in nd] at hc
      cases nd with
      | inn k => show Ve _ _ [.dat (.list (net.map ndD)), .dat (.tuple [.str "in", .int k])] _; walk_at "go"; rfl
      | _ => cases hc
  · rw [ins_map]
    refine ⟨_, rfl, ro_addL ?_ ⟨_, rfl, va_nil ?_⟩⟩
    · have : (insOf net).length ≤ net.length := List.length_filterMap_le _ _
      rw [List.length_map]; simp only [List.length_cons, List.length_nil]; omega
    show Rc _ _ _ [.dat (.list ((0 :: insOf net).map .int))] _
    refine rc_maxL (by simp) fun m h1 h2 => ?_
    have e := least_max (.inl rfl) h1 h2
    rw [show max (0 : Int) (least net : Nat) = (least net : Nat) by omega] at e
    rw [e]
    exact hq

abbrev N_are_arrivals : List Str := ["net", "thing", "one"]
theorem sc_are_arrivals : FnScope N_are_arrivals ["net", "thing"] (defScope s_are_arrivals) := ⟨rfl, rfl, rfl, by decide +kernel, rfl, by decide +kernel, by decide +kernel⟩
def T_are_arrivals : Tr := fun ss Q _ => ∃ (net : List Nd) (t : PyData), ss = [.dat (.list (net.map ndD)), .dat t] ∧ (NetOk net ∧ (∀ ds, t = .list ds → ds.length ≤ 1000)) ∧ (Q (.dat (.bool (isArr net t))))
set_option maxRecDepth 100000 in
theorem ok_are_arrivals {P : Program} {w : World} {K : PySem.W.Frag} {mg : Str → Option Value} {base : Heap} (T : Tx K mg) : Ok P w K mg base CX0 6 "are_arrivals" ["net", "thing"] T_are_arrivals := by
  refine ok_of0 (k := 5) (N := N_are_arrivals) T.d_are_arrivals sc_are_arrivals (fun ss Q Ed h => by obtain ⟨net, t, rfl, hp, hq⟩ := h; rfl) (fun ss Q Ed h => h) (fun kV doc pm an cdv ct us hl => match us, hl with | [_, _], _ => rfl) (fun cdv A outer s H E hgd hr => ⟨_, (pss_cons (ps_expr (g_call (ok_want_net T) hgd hr (by decide) pass0 (pa_cons (pv 0) pa_nil)))
      (pss_cons (ps_if (PW.pt (pw_or (pt_not (pt_val (g_cb (K := K) (r := rIsi) call_isi T.m_isinstance boot_isinstance (pa_cons (pv 1) (pa_cons (pe_bltn (v := .ty "list") (by rfl) T.m_list PyProof.Rows.boot_list rfl) pa_nil))))) (pw_or1 (pt_not (pt_chain op_le op_le (pe_callB (call_max2B (by rfl)) (by rfl) T.m_max boot_max (pa_cons pe_int (pa_cons (g_call (ok_least_arrivals T) hgd hr (by decide) pass0 (pa_cons (pv 0) pa_nil)) pa_nil))) (g_cb (K := K) (r := rLenB) call_lenB T.m_len PySem.boot_len (pa_cons (pv 1) pa_nil)) (g_gint T.c_MOST_ARRIVALS)))))) (pss_one (ps_ret pe_bl)) pss_nil)
      (pss_one (ps_ret (g_cb (K := K) (r := rAll) (cr_all (by rfl)) T.m_all boot_all (pa_cons (pe_lc (own := [("one", 2)]) (by rfl) sc_are_arrivals.nd (g_list (K := K) (pv 1)) (blkOk_by (N := N_are_arrivals) (sc := defScope s_are_arrivals) (by decide +kernel)) (fun _ _ _ _ _ => (pg_name (i := 2) sc_are_arrivals.nd rfl (by first | exact Or.inl rfl | exact Or.inr rfl))) (fun _ _ _ _ _ => pts_nil) (fun _ _ _ _ _ => (pe_or (pe_cmpR op_isX (pv 2) pe_non (nomark _)) (pe_one (g_call (ok_is_from_nought T) hgd hr (by decide) pass0 (pa_cons (pv 2) pa_nil)))))) pa_nil)))))), fun H0 F0 P0 Ed ss Q h => ?_⟩)
  obtain ⟨net, t, rfl, hp, hq⟩ := h
  show Ws _ _ [.dat (.list (net.map ndD)), .dat t, .no] _
  have hnl := hp.1.len
  walk_at "go"
  refine ⟨⟨⟨(net_shp net).1, fun ds e => by cases e; rw [List.length_map]; omega⟩, net_ok hp.1⟩, ?_⟩
  cases t with
  | list ds =>
    have hl := hp.2 ds rfl
    walk_at "go"
    refine ⟨hp.1.len, _, rfl, ?_⟩
    walk_at "go"
    have hq : Q (.dat (.bool ((decide (max 1 (least net) ≤ ds.length) && decide (ds.length ≤ 6)) && ds.all fun d => isNo d || isNat d))) := hq
    have e1 : decide (max (1 : Int) (least net : Nat) ≤ (ds.length : Nat)) = decide (max 1 (least net) ≤ ds.length) := by
      by_cases h : max 1 (least net) ≤ ds.length
      · rw [decide_eq_true h, decide_eq_true (by omega)]
      · rw [decide_eq_false h, decide_eq_false (by omega)]
    have e2 : decide (((ds.length : Nat) : Int) ≤ 6) = decide (ds.length ≤ 6) := by
      by_cases h : ds.length ≤ 6
      · rw [decide_eq_true h, decide_eq_true (by omega)]
      · rw [decide_eq_false h, decide_eq_false (by omega)]
    rw [e1]
    refine ⟨fun h1 => ?_, fun h1 => ?_⟩
    · rw [h1, Bool.true_and] at hq
      walk_at "go"
      rw [e2]
      cases h2 : decide (ds.length ≤ 6) with
      | false =>
        rw [h2, Bool.false_and] at hq
        walk_at "go"
        exact hq
      | true =>
        rw [h2, Bool.true_and] at hq
        walk_at "go"
        refine ve_lcF (vi_list (ve_var rfl ⟨_, rfl, by omega, fun d => [(2, d)], fun d => .bool (isNo d || isNat d), fun d hd => ?_, ?_⟩))
        · refine ⟨tg_name, fun q hq => hq, ?_⟩
          show Ve _ _ [.dat (.list (net.map ndD)), .dat (.list ds), .dat d] _
          walk_at "go"
          cases h : isNo d with
          | true =>
            refine br_t ?_
            show Sl.dat (.bool true) = .dat (.bool (isNo d || isNat d))
            rw [h]; rfl
          | false =>
            refine br_f ?_
            walk_at "go"
            show Sl.dat (.bool (isNat d)) = .dat (.bool (isNo d || isNat d))
            rw [h]; rfl
        · walk_at "go"
          refine rc_allD (fun d hd => ?_) ?_
          · obtain ⟨x, _, rfl⟩ := List.mem_map.mp hd; rfl
          have e3 : (ds.map fun d => PyData.bool (isNo d || isNat d)).all isTrueD = ds.all fun d => isNo d || isNat d := by
            rw [List.all_map]
            congr 1
            funext d
            show isTrueD (.bool (isNo d || isNat d)) = _
            cases isNo d || isNat d <;> rfl
          rw [e3]
          exact hq
    · rw [h1, Bool.false_and, Bool.false_and] at hq
      walk_at "go"
      exact hq
  | _ =>
    walk_at "go"
    exact hq
theorem arr_ok {net : List Nd} {arr : List (Option Int)} (h1 : max 1 (least net) ≤ arr.length) (h2 : arr.length ≤ 6) (h3 : ∀ x ∈ arr, ∀ i, x = some i → 0 ≤ i) : isArr net (.list (arr.map optD)) = true := by
  show ((decide (max 1 (least net) ≤ (arr.map optD).length) && decide ((arr.map optD).length ≤ 6)) && (arr.map optD).all fun d => isNo d || isNat d) = true
  rw [List.length_map, decide_eq_true h1, decide_eq_true h2]
  show (arr.map optD).all _ = true
  rw [List.all_map, List.all_eq_true]
  intro x hx
  cases x with
  | none => rfl
  | some i => show (false || decide (0 ≤ i)) = true; rw [decide_eq_true (h3 _ hx i rfl)]; rfl
structure ArrOk (net : List Nd) (arr : List (Option Int)) : Prop where
  lo : max 1 (least net) ≤ arr.length
  hi : arr.length ≤ 6
  nn : ∀ x ∈ arr, ∀ i, x = some i → 0 ≤ i
abbrev N_want_arrivals : List Str := ["net", "thing"]
theorem sc_want_arrivals : FnScope N_want_arrivals ["net", "thing"] (defScope s_want_arrivals) := ⟨rfl, rfl, rfl, by decide +kernel, rfl, by decide +kernel, by decide +kernel⟩
def T_want_arrivals : Tr := fun ss Q _ => ∃ (net : List Nd) (arr : List (Option Int)), ss = [.dat (.list (net.map ndD)), .dat (.list (arr.map optD))] ∧ (NetOk net ∧ ArrOk net arr) ∧ (Q (.dat .none))
set_option maxRecDepth 100000 in
theorem ok_want_arrivals {P : Program} {w : World} {K : PySem.W.Frag} {mg : Str → Option Value} {base : Heap} (T : Tx K mg) : Ok P w K mg base CX0 7 "want_arrivals" ["net", "thing"] T_want_arrivals := by
  refine ok_of0 (k := 6) (N := N_want_arrivals) T.d_want_arrivals sc_want_arrivals (fun ss Q Ed h => by obtain ⟨net, arr, rfl, hp, hq⟩ := h; rfl) (fun ss Q Ed h => h) (fun kV doc pm an cdv ct us hl => match us, hl with | [_, _], _ => rfl) (fun cdv A outer s H E hgd hr => ⟨_, (pss_one (ps_if (pt_not (pt_val (g_call (ok_are_arrivals T) hgd hr (by decide) pass0 (pa_cons (pv 0) (pa_cons (pv 1) pa_nil))))) (pss_one ps_never) pss_nil)), fun H0 F0 P0 Ed ss Q h => ?_⟩)
  obtain ⟨net, arr, rfl, hp, hq⟩ := h
  show Ws _ _ [.dat (.list (net.map ndD)), .dat (.list (arr.map optD))] _
  walk_at "go"
  refine ⟨_, _, rfl, ⟨hp.1, fun ds e => by cases e; rw [List.length_map]; have := hp.2.hi; omega⟩, _, rfl, ?_⟩
  rw [arr_ok hp.2.lo hp.2.hi hp.2.nn]
  walk_at "go"
  exact hq
def lesser : Option Int → Option Int → Option Int
  | none, y => y
  | some a, none => some a
  | some a, some c => some (min a c)
def greater : Option Int → Option Int → Option Int
  | some a, some c => some (max a c)
  | _, _ => none
def unlessB : Option Int → Option Int → Option Int
  | none, _ => none
  | some a, none => some a
  | some a, some c => if c ≤ a then none else some a
def lateB (x : Option Int) (d : Int) : Option Int := match x with
  | none => none
  | some a => some (a + d)
def gt (l : List (Option Int)) (i : Nat) : Option Int := match l[i]? with
  | some x => x
  | none => none
def nodeBeat (arr kn : List (Option Int)) : Nd → Option Int
  | .inn k => gt arr k
  | .go => some 0
  | .late i d => lateB (gt kn i) d
  | .or i j => lesser (gt kn i) (gt kn j)
  | .both i j => greater (gt kn i) (gt kn j)
  | .unl i j => unlessB (gt kn i) (gt kn j)
def beatsOn (arr : List (Option Int)) : List (Option Int) → List Nd → List (Option Int)
  | kn, [] => kn
  | kn, nd :: r => beatsOn arr (kn ++ [nodeBeat arr kn nd]) r
def beats (net : List Nd) (arr : List (Option Int)) : List (Option Int) := beatsOn arr [] net
theorem beatsOn_snoc (arr : List (Option Int)) : ∀ (l : List Nd) (kn : List (Option Int)) (nd : Nd), beatsOn arr kn (l ++ [nd]) = beatsOn arr kn l ++ [nodeBeat arr (beatsOn arr kn l) nd]
  | [], kn, nd => rfl
  | x :: r, kn, nd => beatsOn_snoc arr r _ nd
theorem beatsOn_len (arr : List (Option Int)) : ∀ (l : List Nd) (kn : List (Option Int)), (beatsOn arr kn l).length = kn.length + l.length
  | [], kn => rfl
  | x :: r, kn => by
    show (beatsOn arr _ r).length = _
    rw [beatsOn_len arr r, List.length_append, List.length_cons]
    simp only [List.length_cons, List.length_nil]
    omega
theorem beats_len (net : List Nd) (arr : List (Option Int)) : (beats net arr).length = net.length := by
  have := beatsOn_len arr net []
  rw [List.length_nil] at this
  show (beatsOn arr [] net).length = _
  omega
theorem at_opt {l : List (Option Int)} {i : Nat} (h : i < l.length) : atI (l.map optD) (i : Int) = some (optD (gt l i)) := by
  refine atI_nat ?_
  rw [List.getElem?_map, List.getElem?_eq_getElem h]
  show some (optD l[i]) = some (optD (match l[i]? with | some x => x | none => none))
  rw [List.getElem?_eq_getElem h]
theorem flat_opt (x : Option Int) : flatD (optD x) = true := by cases x <;> rfl
theorem w_eqv {w c : Str} (h : ¬ w = c) : PyData.eqv (.str w) (.str c) = false := by rw [eqv_str]; exact decide_eq_false h
theorem w_eqs (w : Str) : PyData.eqv (.str w) (.str w) = true := by rw [eqv_str]; exact decide_eq_true rfl
theorem wd_sh : ∀ w ∈ (["in", "go", "late", "or", "both", "unless"] : List Str), SeqAt.shaped (.str w) = true := by decide +kernel
abbrev N_lesser_beat : List Str := ["one", "other"]
theorem sc_lesser_beat : FnScope N_lesser_beat ["one", "other"] (defScope s_lesser_beat) := ⟨rfl, rfl, rfl, by decide +kernel, rfl, by decide +kernel, by decide +kernel⟩
def T_lesser_beat : Tr := fun ss Q _ => ∃ (x y : Option Int), ss = [.dat (optD x), .dat (optD y)] ∧ (True) ∧ (Q (.dat (optD (lesser x y))))
set_option maxRecDepth 100000 in
theorem ok_lesser_beat {P : Program} {w : World} {K : PySem.W.Frag} {mg : Str → Option Value} {base : Heap} (T : Tx K mg) : Ok P w K mg base CX0 1 "lesser_beat" ["one", "other"] T_lesser_beat := by
  refine ok_of0 (k := 0) (N := N_lesser_beat) T.d_lesser_beat sc_lesser_beat (fun ss Q Ed h => by obtain ⟨x, y, rfl, hp, hq⟩ := h; rfl) (fun ss Q Ed h => h) (fun kV doc pm an cdv ct us hl => match us, hl with | [_, _], _ => rfl) (fun cdv A outer s H E hgd hr => ⟨_, (pss_cons (ps_if (pt_cmpR op_isX (pv 0) pe_non (nomark _)) (pss_one (ps_ret (pv 1))) pss_nil)
      (pss_one (ps_ret (pe_ifExp (pt_cmpR op_isX (pv 1) pe_non (nomark _)) (pv 0) (pe_callB (call_min2B (by rfl)) (by rfl) T.m_min boot_min (pa_cons (pv 0) (pa_cons (pv 1) pa_nil))))))), fun H0 F0 P0 Ed ss Q h => ?_⟩)
  obtain ⟨x, y, rfl, hp, hq⟩ := h
  show Ws _ _ [.dat (optD x), .dat (optD y)] _
  cases x <;> cases y <;> (dsimp only [optD]; walk_at "go"; exact hq)

abbrev N_greater_beat : List Str := ["one", "other"]
theorem sc_greater_beat : FnScope N_greater_beat ["one", "other"] (defScope s_greater_beat) := ⟨rfl, rfl, rfl, by decide +kernel, rfl, by decide +kernel, by decide +kernel⟩
def T_greater_beat : Tr := fun ss Q _ => ∃ (x y : Option Int), ss = [.dat (optD x), .dat (optD y)] ∧ (True) ∧ (Q (.dat (optD (greater x y))))
set_option maxRecDepth 100000 in
theorem ok_greater_beat {P : Program} {w : World} {K : PySem.W.Frag} {mg : Str → Option Value} {base : Heap} (T : Tx K mg) : Ok P w K mg base CX0 1 "greater_beat" ["one", "other"] T_greater_beat := by
  refine ok_of0 (k := 0) (N := N_greater_beat) T.d_greater_beat sc_greater_beat (fun ss Q Ed h => by obtain ⟨x, y, rfl, hp, hq⟩ := h; rfl) (fun ss Q Ed h => h) (fun kV doc pm an cdv ct us hl => match us, hl with | [_, _], _ => rfl) (fun cdv A outer s H E hgd hr => ⟨_, (pss_one (ps_ret (pe_ifExp (PW.pt (pw_or (pt_cmpR op_isX (pv 0) pe_non (nomark _)) (pw_or1 (pt_cmpR op_isX (pv 1) pe_non (nomark _))))) pe_non (pe_callB (call_max2B (by rfl)) (by rfl) T.m_max boot_max (pa_cons (pv 0) (pa_cons (pv 1) pa_nil)))))), fun H0 F0 P0 Ed ss Q h => ?_⟩)
  obtain ⟨x, y, rfl, hp, hq⟩ := h
  show Ws _ _ [.dat (optD x), .dat (optD y)] _
  cases x <;> cases y <;> (dsimp only [optD]; walk_at "go"; exact hq)

abbrev N_unless_beat : List Str := ["one", "other"]
theorem sc_unless_beat : FnScope N_unless_beat ["one", "other"] (defScope s_unless_beat) := ⟨rfl, rfl, rfl, by decide +kernel, rfl, by decide +kernel, by decide +kernel⟩
def T_unless_beat : Tr := fun ss Q _ => ∃ (x y : Option Int), ss = [.dat (optD x), .dat (optD y)] ∧ (True) ∧ (Q (.dat (optD (unlessB x y))))
set_option maxRecDepth 100000 in
theorem ok_unless_beat {P : Program} {w : World} {K : PySem.W.Frag} {mg : Str → Option Value} {base : Heap} (T : Tx K mg) : Ok P w K mg base CX0 1 "unless_beat" ["one", "other"] T_unless_beat := by
  refine ok_of0 (k := 0) (N := N_unless_beat) T.d_unless_beat sc_unless_beat (fun ss Q Ed h => by obtain ⟨x, y, rfl, hp, hq⟩ := h; rfl) (fun ss Q Ed h => h) (fun kV doc pm an cdv ct us hl => match us, hl with | [_, _], _ => rfl) (fun cdv A outer s H E hgd hr => ⟨_, (pss_cons (ps_if (PW.pt (pw_or (pt_cmpR op_isX (pv 0) pe_non (nomark _)) (pw_or1 (PW.pt (pw_and (pt_cmpR op_notX (pv 1) pe_non (nomark _)) (pw_and1 (pt_cmpR op_le (pv 1) (pv 0) (nomark _)))))))) (pss_one (ps_ret pe_non)) pss_nil)
      (pss_one (ps_ret (pv 0)))), fun H0 F0 P0 Ed ss Q h => ?_⟩)
  obtain ⟨x, y, rfl, hp, hq⟩ := h
  show Ws _ _ [.dat (optD x), .dat (optD y)] _
  cases x with
  | none => cases y <;> (dsimp only [optD]; walk_at "go"; exact hq)
  | some a =>
    cases y with
    | none => dsimp only [optD]; walk_at "go"; exact hq
    | some c =>
      dsimp only [optD]
      walk_at "go"
      have hq : Q (.dat (optD (if c ≤ a then none else some a))) := hq
      refine ⟨fun h => ?_, fun h => ?_⟩
      · rw [if_pos (of_decide_eq_true h)] at hq
        walk_at "go"
        exact hq
      · rw [if_neg (of_decide_eq_false h)] at hq
        walk_at "go"
        exact hq

abbrev N_node_beat : List Str := ["node", "arrivals", "known", "first"]
theorem sc_node_beat : FnScope N_node_beat ["node", "arrivals", "known"] (defScope s_node_beat) := ⟨rfl, rfl, rfl, by decide +kernel, rfl, by decide +kernel, by decide +kernel⟩
def T_node_beat : Tr := fun ss Q _ => ∃ (nd : Nd) (arr kn : List (Option Int)), ss = [.dat (ndD nd), .dat (.list (arr.map optD)), .dat (.list (kn.map optD))] ∧ (NdOk kn.length nd ∧ (∀ k, nd = .inn k → k < arr.length)) ∧ (Q (.dat (optD (nodeBeat arr kn nd))))
set_option maxRecDepth 100000 in
theorem ok_node_beat {P : Program} {w : World} {K : PySem.W.Frag} {mg : Str → Option Value} {base : Heap} (T : Tx K mg) : Ok P w K mg base CX0 2 "node_beat" ["node", "arrivals", "known"] T_node_beat := by
  refine ok_of0 (k := 1) (N := N_node_beat) T.d_node_beat sc_node_beat (fun ss Q Ed h => by obtain ⟨nd, arr, kn, rfl, hp, hq⟩ := h; rfl) (fun ss Q Ed h => h) (fun kV doc pm an cdv ct us hl => match us, hl with | [_, _, _], _ => rfl) (fun cdv A outer s H E hgd hr => ⟨_, (pss_cons (ps_if (gt_eq (K := K) hr.units (g_ix (K := K) (pv 0) pe_int) pe_str) (pss_one (ps_ret (g_ix (K := K) (pv 1) (g_ix (K := K) (pv 0) pe_int)))) pss_nil)
      (pss_cons (ps_if (gt_eq (K := K) hr.units (g_ix (K := K) (pv 0) pe_int) pe_str) (pss_one (ps_ret pe_int)) pss_nil)
      (pss_cons (ps_set (i := 3) sc_node_beat.nd rfl (by first | exact Or.inl rfl | exact Or.inr rfl) (g_ix (K := K) (pv 2) (g_ix (K := K) (pv 0) pe_int)))
      (pss_cons (ps_if (gt_eq (K := K) hr.units (g_ix (K := K) (pv 0) pe_int) pe_str) (pss_one (ps_ret (pe_ifExp (pt_cmpR op_isX (pv 3) pe_non (nomark _)) pe_non (g_plus (K := K) (pv 3) (g_ix (K := K) (pv 0) pe_int))))) pss_nil)
      (pss_cons (ps_if (gt_eq (K := K) hr.units (g_ix (K := K) (pv 0) pe_int) pe_str) (pss_one (ps_ret (g_call (ok_lesser_beat T) hgd hr (by decide) pass0 (pa_cons (pv 3) (pa_cons (g_ix (K := K) (pv 2) (g_ix (K := K) (pv 0) pe_int)) pa_nil))))) pss_nil)
      (pss_cons (ps_if (gt_eq (K := K) hr.units (g_ix (K := K) (pv 0) pe_int) pe_str) (pss_one (ps_ret (g_call (ok_greater_beat T) hgd hr (by decide) pass0 (pa_cons (pv 3) (pa_cons (g_ix (K := K) (pv 2) (g_ix (K := K) (pv 0) pe_int)) pa_nil))))) pss_nil)
      (pss_one (ps_ret (g_call (ok_unless_beat T) hgd hr (by decide) pass0 (pa_cons (pv 3) (pa_cons (g_ix (K := K) (pv 2) (g_ix (K := K) (pv 0) pe_int)) pa_nil))))))))))), fun H0 F0 P0 Ed ss Q h => ?_⟩)
  obtain ⟨nd, arr, kn, rfl, hp, hq⟩ := h
  show Ws _ _ [.dat (ndD nd), .dat (.list (arr.map optD)), .dat (.list (kn.map optD)), .no] _
  have sh := wd_sh
  have ne : ∀ w c : Str, ¬ w = c → PyData.eqv (.str w) (.str c) = false := fun w c h => w_eqv h
  cases nd with
  | inn k =>
    show Ws _ _ [.dat (.tuple [.str "in", .int k]), .dat (.list (arr.map optD)), .dat (.list (kn.map optD)), .no] _
    walk_at "go"
    refine ro_ixL (at_opt (hp.2 k rfl)) ?_
    exact hq
  | go =>
    show Ws _ _ [.dat (.tuple [.str "go"]), .dat (.list (arr.map optD)), .dat (.list (kn.map optD)), .no] _
    walk_at "go"
    exact hq
  | late i d =>
    show Ws _ _ [.dat (.tuple [.str "late", .int i, .int d]), .dat (.list (arr.map optD)), .dat (.list (kn.map optD)), .no] _
    walk_at "go"
    refine ro_ixL (at_opt hp.1.1) ?_
    have hq : Q (.dat (optD (lateB (gt kn i) d))) := hq
    generalize gt kn i = g at hq ⊢
    walk_at "go"
    cases g <;> (dsimp only [optD]; walk_at "go"; exact hq)
  | or i j =>
    show Ws _ _ [.dat (.tuple [.str "or", .int i, .int j]), .dat (.list (arr.map optD)), .dat (.list (kn.map optD)), .no] _
    walk_at "go"
    refine ro_ixL (at_opt hp.1.1) ?_
    walk_at "go"
    refine ro_ixL (at_opt hp.1.2) ?_
    walk_at "go"
    exact ⟨_, _, rfl, trivial, hq⟩
  | both i j =>
    show Ws _ _ [.dat (.tuple [.str "both", .int i, .int j]), .dat (.list (arr.map optD)), .dat (.list (kn.map optD)), .no] _
    walk_at "go"
    refine ro_ixL (at_opt hp.1.1) ?_
    walk_at "go"
    refine ro_ixL (at_opt hp.1.2) ?_
    walk_at "go"
    exact ⟨_, _, rfl, trivial, hq⟩
  | unl i j =>
    show Ws _ _ [.dat (.tuple [.str "unless", .int i, .int j]), .dat (.list (arr.map optD)), .dat (.list (kn.map optD)), .no] _
    walk_at "go"
    refine ro_ixL (at_opt hp.1.1) ?_
    walk_at "go"
    refine ro_ixL (at_opt hp.1.2) ?_
    walk_at "go"
    exact ⟨_, _, rfl, trivial, hq⟩
theorem in_lt {net : List Nd} {arr : List (Option Int)} (h : ArrOk net arr) {k : Nat} (hk : Nd.inn k ∈ net) : k < arr.length := by
  have h1 := h.lo
  have h2 : ((k : Int) + 1) ∈ insOf net := List.mem_filterMap.mpr ⟨_, hk, rfl⟩
  have := least_ge h2
  omega
abbrev N_net_beats : List Str := ["net", "arrivals", "found", "node"]
theorem sc_net_beats : FnScope N_net_beats ["net", "arrivals"] (defScope s_net_beats) := ⟨rfl, rfl, rfl, by decide +kernel, rfl, by decide +kernel, by decide +kernel⟩
def T_net_beats : Tr := fun ss Q _ => ∃ (net : List Nd) (arr : List (Option Int)), ss = [.dat (.list (net.map ndD)), .dat (.list (arr.map optD))] ∧ (NetOk net ∧ ArrOk net arr) ∧ (∀ a, Q (.own a (.lst ((beats net arr).map optD))))
set_option maxRecDepth 100000 in
theorem ok_net_beats {P : Program} {w : World} {K : PySem.W.Frag} {mg : Str → Option Value} {base : Heap} (T : Tx K mg) : Ok P w K mg base CX0 8 "net_beats" ["net", "arrivals"] T_net_beats := by
  refine ok_of0 (k := 7) (N := N_net_beats) T.d_net_beats sc_net_beats (fun ss Q Ed h => by obtain ⟨net, arr, rfl, hp, hq⟩ := h; rfl) (fun ss Q Ed h => h) (fun kV doc pm an cdv ct us hl => match us, hl with | [_, _], _ => rfl) (fun cdv A outer s H E hgd hr => ⟨_, (pss_cons (ps_expr (g_call (ok_want_arrivals T) hgd hr (by decide) pass0 (pa_cons (pv 0) (pa_cons (pv 1) pa_nil))))
      (pss_cons (ps_set (i := 2) sc_net_beats.nd rfl (by first | exact Or.inl rfl | exact Or.inr rfl) (pe_lst pa_nil))
      (pss_cons (ps_for PassesOwn.never (by rfl) (g_list (K := K) (pv 0)) (pg_name (i := 3) sc_net_beats.nd rfl (by first | exact Or.inl rfl | exact Or.inr rfl)) (pss_one (ps_expr (g_append (K := K) (pe_bm PySem.F.plainAttrs_list PySem.F.slot_list_append PySem.F.type_list_append mt_append (pv 2) (pa_cons (g_call (ok_node_beat T) hgd hr (by decide) pass0 (pa_cons (pv 3) (pa_cons (pv 1) (pa_cons (pv 2) pa_nil)))) pa_nil))))))
      (pss_one (ps_ret (pv 2)))))), fun H0 F0 P0 Ed ss Q h => ?_⟩)
  obtain ⟨net, arr, rfl, hp, hq⟩ := h
  show Ws _ _ [.dat (.list (net.map ndD)), .dat (.list (arr.map optD)), .no, .no] _
  have hnl := hp.1.len
  walk_at "go"
  refine ⟨_, _, rfl, hp, ?_⟩
  refine ws_seq (ws_asg (ve_lstOA (va_nil ⟨_, rfl, Nat.zero_le _, fun a => ?_⟩)))
  show Ws _ _ [.dat (.list (net.map ndD)), .dat (.list (arr.map optD)), .own a (.lst []), .no] _
  refine ws_seq (ws_for (vi_list (ve_var rfl ⟨_, rfl, fun i δ' => ∃ s3, δ' = [.dat (.list (net.map ndD)), .dat (.list (arr.map optD)), .own a (.lst ((beats (net.take i) arr).map optD)), s3], ⟨_, rfl⟩, fun i d δ' hd hI => ?_, fun δ' hI => ?_⟩)))
  · obtain ⟨s3, rfl⟩ := hI
    rw [List.getElem?_map] at hd
    cases e : net[i]? with
    | none => rw [e] at hd; cases hd
    | some nd =>
      rw [e] at hd
      cases hd
      have hi : i < net.length := (List.getElem?_eq_some_iff.mp e).1
      have hlen : (beats (net.take i) arr).length = i := by rw [beats_len, List.length_take]; omega
      refine wg_name ?_
      show Ws _ _ [.dat (.list (net.map ndD)), .dat (.list (arr.map optD)), .own a (.lst ((beats (net.take i) arr).map optD)), .dat (ndD nd)] _
      refine ws_append rfl (by rw [List.length_map, hlen]; omega) (ve_tmp (i := 2) rfl ?_)
      show Ve _ _ [.dat (.list (net.map ndD)), .dat (.list (arr.map optD)), .dat (.list ((beats (net.take i) arr).map optD)), .dat (ndD nd)] _
      walk_at "go"
      refine ⟨_, _, _, rfl, ⟨by rw [hlen]; exact hp.1.mem i nd e, fun k hk => in_lt hp.2 (hk ▸ List.mem_of_getElem? e)⟩, _, rfl, flat_opt _, _, rfl, .dat (ndD nd), ?_⟩
      have e2 : beats (net.take (i + 1)) arr = beats (net.take i) arr ++ [nodeBeat arr (beats (net.take i) arr) nd] := by
        rw [List.take_add_one, e]
        exact beatsOn_snoc arr _ [] nd
      rw [e2, List.map_append]
      rfl
  · obtain ⟨s3, rfl⟩ := hI
    refine ws_retOwn rfl (.inl (fun z => nomatch z)) ?_
    rw [List.length_map, List.take_length]
    exact hq a

abbrev N_law_pot : List Str := ["_law_script", "_law_k", "_law_cell"]
theorem sc_law_pot : FnScope N_law_pot ["_law_script", "_law_k"] (defScope s_law_pot) := ⟨rfl, rfl, rfl, by decide +kernel, rfl, by decide +kernel, by decide +kernel⟩
def T_law_pot : Tr := fun ss Q _ => ∃ (ns : List Int) (k : Int), ss = [.scr ns, .dat (.int k)] ∧ (0 ≤ k ∧ k ≤ 1000) ∧ (∀ a, Q (.own a .pot))
set_option maxRecDepth 100000 in
theorem ok_law_pot {P : Program} {w : World} {K : PySem.W.Frag} {mg : Str → Option Value} {base : Heap} (T : Tx K mg) : Ok P w K mg base CX0 1 "_law_pot" ["_law_script", "_law_k"] T_law_pot := by
  refine ok_of0 (k := 0) (N := N_law_pot) T.d_law_pot sc_law_pot (fun ss Q Ed h => by obtain ⟨ns, k, rfl, hp, hq⟩ := h; rfl) (fun ss Q Ed h => h) (fun kV doc pm an cdv ct us hl => match us, hl with | [_, _], _ => rfl) (fun cdv A outer s H E hgd hr => ⟨_, (pss_cons (ps_set (i := 2) sc_law_pot.nd rfl (by first | exact Or.inl rfl | exact Or.inr rfl) (pe_ifExp (pt_cmpR op_lt (pv 1) (g_cb (K := K) (r := rLenB) call_lenB T.m_len PySem.boot_len (pa_cons (pv 0) pa_nil)) (nomark _)) (g_ix (K := K) (pv 0) (pv 1)) pe_int))
      (pss_one (ps_ret (pe_lst (pa_cons (pe_callB (call_max2B (by rfl)) (by rfl) T.m_max boot_max (pa_cons pe_int (pa_cons (pe_op op_sub (pe_callB call_absB (by rfl) T.m_abs boot_abs (pa_cons (pv 2) pa_nil)) (pe_op op_pow pe_int pe_int)) pa_nil))) (pa_cons (g_plus (K := K) (g_plus (K := K) (pe_op op_mod (pe_callB call_absB (by rfl) T.m_abs boot_abs (pa_cons (pv 2) pa_nil)) pe_int) (pe_op op_times pe_int (pv 1))) pe_int) pa_nil)))))), fun H0 F0 P0 Ed ss Q h => ?_⟩)
  obtain ⟨ns, k, rfl, hp, hq⟩ := h
  show Ws _ _ [.scr ns, .dat (.int k), .no] _
  have fin : ∀ x : Int, Ws ⟨K, H0, F0, P0, E0, Ed⟩ (tRet (tLst (tCons (tCB rMax2B (tCons (tC (.int 0)) (tCons (tOp (rI0 fun i j => .int (i - j)) (tCB rAbsB (tCons (tVar 2) tNil)) (tOp (rI CPow fun i j => .int (i ^ j.toNat)) (tC (.int 10)) (tC (.int 18)))) tNil))) (tCons (tOp (rPlus K) (tOp (rPlus K) (tOp (rI (fun _ j => 0 < j) fun i j => .int (i % j)) (tCB rAbsB (tCons (tVar 2) tNil)) (tC (.int 2147483587))) (tOp rTimes (tC (.int 1013)) (tVar 1))) (tC (.int 7))) tNil)))) [.scr ns, .dat (.int k), .dat (.int x)] ⟨fun _ => Q (.dat .none), Q, fun _ => False, fun _ => False⟩ := fun x => by
    refine ws_ret (ve_potO ?_)
    walk_at "go"
    · exact ⟨by omega, by omega, by decide⟩
    walk_at "go"
    · show (0 : Int) < 2147483587; decide
    walk_at "go"
    · exact .inl ⟨by decide, by decide⟩
    walk_at "go"
    have h1 := Int.emod_nonneg (if x < 0 then -x else x) (show (2147483587 : Int) ≠ 0 by decide)
    have h2 := Int.emod_lt_of_pos (if x < 0 then -x else x) (show (0 : Int) < 2147483587 by decide)
    exact ⟨_, _, rfl, ⟨by omega, by omega⟩, hq⟩
  walk_at "go"
  refine ⟨fun hc => ?_, fun hc => ?_⟩
  · have hk : k.toNat < ns.length := by have := of_decide_eq_true hc; omega
    refine ve_ixScr rfl (ve_var rfl ⟨_, ns[k.toNat], rfl, ?_, fin _⟩)
    unfold atI ixN
    rw [if_pos hp.1, if_pos (by omega)]
    exact List.getElem?_eq_getElem hk
  · exact ve_int (fin _)

abbrev N_law_take : List Str := ["_law_pot_here", "_law_many", "_law_digit"]
theorem sc_law_take : FnScope N_law_take ["_law_pot_here", "_law_many"] (defScope s_law_take) := ⟨rfl, rfl, rfl, by decide +kernel, rfl, by decide +kernel, by decide +kernel⟩
def T_law_take : Tr := fun ss Q _ => ∃ (a : Addr) (m : Int), ss = [.own a .pot, .dat (.int m)] ∧ (0 < m ∧ m < 2 ^ 8000) ∧ (∀ i : Int, 0 ≤ i → i < m → Q (.dat (.int i)))
set_option maxRecDepth 100000 in
theorem ok_law_take {P : Program} {w : World} {K : PySem.W.Frag} {mg : Str → Option Value} {base : Heap} (T : Tx K mg) : Ok P w K mg base CX0 1 "_law_take" ["_law_pot_here", "_law_many"] T_law_take := by
  refine ok_of0 (k := 0) (N := N_law_take) T.d_law_take sc_law_take (fun ss Q Ed h => by obtain ⟨a, m, rfl, hp, hq⟩ := h; rfl) (fun ss Q Ed h => h) (fun kV doc pm an cdv ct us hl => match us, hl with | [_, _], _ => rfl) (fun cdv A outer s H E hgd hr => ⟨_, (pss_cons (ps_if (pt_cmpR op_gt (g_ix (K := K) (pv 0) pe_int) pe_int (nomark _)) (pss_cons (ps_asg (pe_callB call_divmodB (by rfl) T.m_divmod boot_divmod (pa_cons (g_ix (K := K) (pv 0) pe_int) (pa_cons (pv 1) pa_nil))) (g_tgtup (K := K) (n := 2) (by rfl) (pgs_cons (pg_sub (pv 0) pe_int set_list) (pgs_cons (pg_name (i := 2) sc_law_take.nd rfl (by first | exact Or.inl rfl | exact Or.inr rfl)) pgs_nil))))
      (pss_one (ps_ret (pv 2)))) pss_nil)
      (pss_cons (ps_asg (pe_op op_mod (g_plus (K := K) (pe_op op_times (g_ix (K := K) (pv 0) pe_int) pe_int) pe_int) pe_int) (pg_sub (pv 0) pe_int set_list))
      (pss_one (ps_ret (pe_op op_mod (pe_op op_fdiv (pe_op op_mod (pe_op op_times (g_ix (K := K) (pv 0) pe_int) (g_ix (K := K) (pv 0) pe_int)) pe_int) pe_int) (pv 1)))))), fun H0 F0 P0 Ed ss Q h => ?_⟩)
  obtain ⟨a, m, rfl, hp, hq⟩ := h
  show Ws _ _ [.own a .pot, .dat (.int m), .no] _
  have hm0 : m ≠ 0 := by omega
  walk_at "go"
  intro x
  walk_at "go"
  refine ⟨fun hc => ?_, fun hc => ?_⟩
  · walk_at "go"
    intro y
    walk_at "go"
    · exact cdivp hp.1 hp.2
    walk_at "go"
    exact hq _ (Int.emod_nonneg _ hm0) (Int.emod_lt_of_pos _ hp.1)
  · walk_at "go"
    intro y h0 h1
    walk_at "go"
    · exact .inr ⟨by decide, by decide⟩
    walk_at "go"
    · show (0 : Int) < 2147483647; decide
    walk_at "go"
    · have h2 := Int.emod_nonneg (y * 48271 + 11) (show (2147483647 : Int) ≠ 0 by decide)
      have h3 := Int.emod_lt_of_pos (y * 48271 + 11) (show (0 : Int) < 2147483647 by decide)
      exact ⟨h2, by omega⟩
    walk_at "go"
    intro z z0 z1
    walk_at "go"
    intro z' _ _
    walk_at "go"
    · exact .inl ⟨by omega, by omega⟩
    walk_at "go"
    · show (0 : Int) < 2147483629; decide
    walk_at "go"
    · exact ⟨by decide, by decide⟩
    walk_at "go"
    · exact hp.1
    exact hq _ (Int.emod_nonneg _ hm0) (Int.emod_lt_of_pos _ hp.1)
theorem bigD : (10 : Int) ^ 29 < 2 ^ 8000 := small_big (by decide)
theorem lt_big {m c : Int} (h : m ≤ c) (hc : c ≤ 2 ^ 200 := by decide) : m < 2 ^ 8000 := small_big (Int.le_trans h hc)
abbrev N_law_number : List Str := ["_law_pot_here"]
theorem sc_law_number : FnScope N_law_number ["_law_pot_here"] (defScope s_law_number) := ⟨rfl, rfl, rfl, by decide +kernel, rfl, by decide +kernel, by decide +kernel⟩
def T_law_number : Tr := fun ss Q _ => ∃ (a : Addr), ss = [.own a .pot] ∧ (True) ∧ (∀ i : Int, 0 ≤ i → i < 10 ^ 29 → Q (.dat (.int i)))
set_option maxRecDepth 100000 in
theorem ok_law_number {P : Program} {w : World} {K : PySem.W.Frag} {mg : Str → Option Value} {base : Heap} (T : Tx K mg) : Ok P w K mg base CX0 2 "_law_number" ["_law_pot_here"] T_law_number := by
  refine ok_of0 (k := 1) (N := N_law_number) T.d_law_number sc_law_number (fun ss Q Ed h => by obtain ⟨a, rfl, hp, hq⟩ := h; rfl) (fun ss Q Ed h => h) (fun kV doc pm an cdv ct us hl => match us, hl with | [_], _ => rfl) (fun cdv A outer s H E hgd hr => ⟨_, (pss_one (ps_ret (g_ix (K := K) (pe_lst (pa_cons (g_call (ok_law_take T) hgd hr (by decide) pass0 (pa_cons (pv 0) (pa_cons pe_int pa_nil))) (pa_cons (g_call (ok_law_take T) hgd hr (by decide) pass0 (pa_cons (pv 0) (pa_cons pe_int pa_nil))) (pa_cons (g_call (ok_law_take T) hgd hr (by decide) pass0 (pa_cons (pv 0) (pa_cons pe_int pa_nil))) (pa_cons (g_call (ok_law_take T) hgd hr (by decide) pass0 (pa_cons (pv 0) (pa_cons (pe_op op_pow pe_int pe_int) pa_nil))) pa_nil))))) (g_call (ok_law_take T) hgd hr (by decide) pass0 (pa_cons (pv 0) (pa_cons pe_int pa_nil)))))), fun H0 F0 P0 Ed ss Q h => ?_⟩)
  obtain ⟨a, rfl, hp, hq⟩ := h
  show Ws _ _ [.own a .pot] _
  have b4 : (0 : Int) < 4 ∧ (4 : Int) < 2 ^ 8000 := ⟨by decide, lt_big (c := 4) (by decide)⟩
  have b12 : (0 : Int) < 12 ∧ (12 : Int) < 2 ^ 8000 := ⟨by decide, lt_big (c := 12) (by decide)⟩
  walk_at "go"
  refine ⟨_, _, rfl, b4, fun x x0 x1 => ⟨_, rfl, ?_⟩⟩
  walk_at "go"
  refine ⟨_, _, rfl, b4, fun y y0 y1 => ⟨_, rfl, ?_⟩⟩
  walk_at "go"
  refine ⟨_, _, rfl, b12, fun z z0 z1 => ⟨_, rfl, ?_⟩⟩
  walk_at "go"
  · exact ⟨by omega, by omega, by decide⟩
  walk_at "go"
  refine ⟨_, _, rfl, ⟨by decide, bigD⟩, fun u u0 u1 => ⟨_, rfl, ?_⟩⟩
  walk_at "go"
  refine ⟨_, _, rfl, b4, fun i i0 i1 => ⟨_, rfl, ?_⟩⟩
  have u1 : u < 10 ^ 29 := u1
  rcases of4 i0 i1 with rfl | rfl | rfl | rfl
  · exact ro_ixL at0 (hq _ x0 (by omega))
  · exact ro_ixL at1 (hq _ y0 (by omega))
  · exact ro_ixL at2 (hq _ z0 (by omega))
  · exact ro_ixL at3 (hq _ u0 u1)

abbrev N_law_node : List Str := ["_law_pot_here", "_law_number_here", "_law_way", "_law_near", "_law_i", "_law_j"]
theorem sc_law_node : FnScope N_law_node ["_law_pot_here", "_law_number_here"] (defScope s_law_node) := ⟨rfl, rfl, rfl, by decide +kernel, rfl, by decide +kernel, by decide +kernel⟩
def T_law_node : Tr := fun ss Q _ => ∃ (a : Addr) (m : Nat), ss = [.own a .pot, .dat (.int m)] ∧ (m ≤ 1000) ∧ (∀ nd, NdOk m nd → Q (.dat (ndD nd)))
set_option maxRecDepth 100000 in
theorem ok_law_node {P : Program} {w : World} {K : PySem.W.Frag} {mg : Str → Option Value} {base : Heap} (T : Tx K mg) : Ok P w K mg base CX0 3 "_law_node" ["_law_pot_here", "_law_number_here"] T_law_node := by
  refine ok_of0 (k := 2) (N := N_law_node) T.d_law_node sc_law_node (fun ss Q Ed h => by obtain ⟨a, m, rfl, hp, hq⟩ := h; rfl) (fun ss Q Ed h => h) (fun kV doc pm an cdv ct us hl => match us, hl with | [_, _], _ => rfl) (fun cdv A outer s H E hgd hr => ⟨_, (pss_cons (ps_set (i := 2) sc_law_node.nd rfl (by first | exact Or.inl rfl | exact Or.inr rfl) (g_call (ok_law_take T) hgd hr (by decide) pass0 (pa_cons (pv 0) (pa_cons pe_int pa_nil))))
      (pss_cons (ps_if (PW.pt (pw_or (gt_eq (K := K) hr.units (pv 1) pe_int) (pw_or1 (pt_cmpR op_lt (pv 2) pe_int (nomark _))))) (pss_one (ps_ret (g_ix (K := K) (pe_lst (pa_cons (pe_tup (pa_cons pe_str (pa_cons (g_call (ok_law_take T) hgd hr (by decide) pass0 (pa_cons (pv 0) (pa_cons pe_int pa_nil))) pa_nil))) (pa_cons (pe_tup (pa_cons pe_str pa_nil)) pa_nil))) (pe_callTy call_intB (by rfl) T.m_int PyProof.Rows.boot_int (pa_cons (g_eq (K := K) hr.units (g_call (ok_law_take T) hgd hr (by decide) pass0 (pa_cons (pv 0) (pa_cons pe_int pa_nil))) pe_int) pa_nil))))) pss_nil)
      (pss_cons (ps_set (i := 3) sc_law_node.nd rfl (by first | exact Or.inl rfl | exact Or.inr rfl) (pe_callB (call_min2B (by rfl)) (by rfl) T.m_min boot_min (pa_cons (pv 1) (pa_cons (g_ix (K := K) (pe_lst (pa_cons (pv 1) (pa_cons pe_int pa_nil))) (g_call (ok_law_take T) hgd hr (by decide) pass0 (pa_cons (pv 0) (pa_cons pe_int pa_nil)))) pa_nil))))
      (pss_cons (ps_par (i := 4) (j := 5) (by rfl) sc_law_node.nd rfl rfl (by decide) rfl rfl (pa_cons (pe_op op_sub (pe_op op_sub (pv 1) pe_int) (g_call (ok_law_take T) hgd hr (by decide) pass0 (pa_cons (pv 0) (pa_cons (pv 3) pa_nil)))) (pa_cons (pe_op op_sub (pe_op op_sub (pv 1) pe_int) (g_call (ok_law_take T) hgd hr (by decide) pass0 (pa_cons (pv 0) (pa_cons (pv 3) pa_nil)))) pa_nil)) (by rfl))
      (pss_cons (ps_if (pt_cmpR op_lt (pv 2) pe_int (nomark _)) (pss_one (ps_ret (pe_tup (pa_cons pe_str (pa_cons (pv 4) (pa_cons (g_call (ok_law_number T) hgd hr (by decide) pass0 (pa_cons (pv 0) pa_nil)) pa_nil)))))) pss_nil)
      (pss_one (ps_ret (pe_tup (pa_cons (g_ix (K := K) (pe_lst (pa_cons pe_str (pa_cons pe_str (pa_cons pe_str pa_nil)))) (pe_op op_mod (pv 2) pe_int)) (pa_cons (pv 4) (pa_cons (pv 5) pa_nil))))))))))), fun H0 F0 P0 Ed ss Q h => ?_⟩)
  obtain ⟨a, m, rfl, hp, hq⟩ := h
  show Ws _ _ [.own a .pot, .dat (.int m), .no, .no, .no, .no] _
  walk_at "go"
  refine ⟨_, _, rfl, ⟨by decide, lt_big (c := 9) (by decide)⟩, fun w w0 w1 => ?_⟩
  show Ws _ _ [.own a .pot, .dat (.int m), .dat (.int w), .no, .no, .no] _
  refine ws_seq (ws_ifOr ?_ ?_)
  · show Ws _ _ [.own a .pot, .dat (.int m), .dat (.int w), .no, .no, .no] _
    walk_at "go"
    refine ⟨_, _, rfl, ⟨by decide, lt_big (c := 6) (by decide)⟩, fun k k0 k1 => ⟨_, rfl, ?_⟩⟩
    walk_at "go"
    refine ⟨_, _, rfl, ⟨by decide, lt_big (c := 5) (by decide)⟩, fun g g0 g1 => ⟨_, rfl, ?_⟩⟩
    walk_at "go"
    rw [eqv_int]
    cases decide (g = 4) with
    | false =>
      refine ro_ixL at0 ?_
      have := hq (.inn k.toNat) (by show k.toNat ≤ 5; omega)
      rw [show ndD (.inn k.toNat) = .tuple [.str "in", .int k] by show PyData.tuple [.str "in", .int (k.toNat : Nat)] = _; rw [show ((k.toNat : Nat) : Int) = k by omega]] at this
      exact this
    | true => exact ro_ixL at1 (hq .go trivial)
  walk_at "go"
  rw [eqv_int, len_is0]
  intro hc
  walk_at "go"
  intro h2
  have hm := of_decide_eq_false hc
  have h2 := of_decide_eq_false h2
  walk_at "go"
  refine ⟨_, _, rfl, ⟨by decide, lt_big (c := 2) (by decide)⟩, fun g g0 g1 => ⟨_, rfl, ?_⟩⟩
  obtain ⟨nr, hnr, hat⟩ : ∃ nr : Int, (nr = m ∨ nr = 3) ∧ atI [PyData.int (m : Int), .int 3] g = some (.int nr) := by
    rcases of2 g0 g1 with rfl | rfl
    · exact ⟨m, .inl rfl, at0⟩
    · exact ⟨3, .inr rfl, at1⟩
  refine ro_ixL hat ⟨_, rfl, ?_⟩
  walk_at "st"
  walk_at "st"
  walk_at "st"
  show Ws _ _ [.own a .pot, .dat (.int m), .dat (.int w), .dat (.int (min (m : Int) nr)), .no, .no] _
  have hn0 : 0 < min (m : Int) nr := by omega
  have hn1 : min (m : Int) nr ≤ m := by omega
  generalize min (m : Int) nr = q at hn0 hn1 ⊢
  have bq : 0 < q ∧ q < 2 ^ 8000 := ⟨hn0, lt_big (c := 1000) (by omega)⟩
  walk_at "go"
  refine ⟨_, _, rfl, bq, fun i i0 i1 => ⟨_, rfl, ?_⟩⟩
  walk_at "go"
  refine ⟨_, _, rfl, bq, fun j j0 j1 => ⟨_, rfl, ?_⟩⟩
  walk_at "go"
  obtain ⟨i', hi, hi'⟩ : ∃ i' : Nat, (m : Int) - 1 - i = i' ∧ i' < m := ⟨((m : Int) - 1 - i).toNat, by omega, by omega⟩
  obtain ⟨j', hj, hj'⟩ : ∃ j' : Nat, (m : Int) - 1 - j = j' ∧ j' < m := ⟨((m : Int) - 1 - j).toNat, by omega, by omega⟩
  rw [hi, hj]
  refine ⟨_, _, rfl, ?_⟩
  show Ws _ _ [.own a .pot, .dat (.int m), .dat (.int w), .dat (.int q), .dat (.int i'), .dat (.int j')] _
  walk_at "go"
  refine ⟨fun h4 => ?_, fun h4 => ?_⟩
  · walk_at "go"
    refine fun d d0 d1 => ⟨_, rfl, ?_⟩
    walk_at "go"
    have dD : (10 : Int) ^ 29 = ((10 ^ 29 : Nat) : Int) := by decide
    have d120 : (10 : Nat) ^ 29 < 2 ^ 120 := by decide
    have := hq (.late i' d.toNat) ⟨hi', by omega⟩
    rw [show ndD (.late i' d.toNat) = .tuple [.str "late", .int i', .int d] by show PyData.tuple [.str "late", .int i', .int (d.toNat : Nat)] = _; rw [show ((d.toNat : Nat) : Int) = d by omega]] at this
    exact this
  · walk_at "go"
    · show (0 : Int) < 3; decide
    have r0 := Int.emod_nonneg w (show (3 : Int) ≠ 0 by decide)
    have r1 := Int.emod_lt_of_pos w (show (0 : Int) < 3 by decide)
    generalize w % 3 = r at r0 r1 ⊢
    rcases of3 r0 r1 with rfl | rfl | rfl
    · refine ⟨_, rfl, ro_ixL at0 ⟨_, rfl, ?_⟩⟩
      walk_at "go"
      exact hq (.or i' j') ⟨hi', hj'⟩
    · refine ⟨_, rfl, ro_ixL at1 ⟨_, rfl, ?_⟩⟩
      walk_at "go"
      exact hq (.both i' j') ⟨hi', hj'⟩
    · refine ⟨_, rfl, ro_ixL at2 ⟨_, rfl, ?_⟩⟩
      walk_at "go"
      exact hq (.unl i' j') ⟨hi', hj'⟩

abbrev N_law_net : List Str := ["_law_pot_here", "_law_most", "_law_found", "_law_number_here"]
theorem sc_law_net : FnScope N_law_net ["_law_pot_here", "_law_most"] (defScope s_law_net) := ⟨rfl, rfl, rfl, by decide +kernel, rfl, by decide +kernel, by decide +kernel⟩
def T_law_net : Tr := fun ss Q _ => ∃ (a : Addr) (most : Int), ss = [.own a .pot, .dat (.int most)] ∧ (1 ≤ most ∧ most ≤ 1000) ∧ (∀ net, NetOk net → net.length ≤ most.toNat → Q (.dat (.list (net.map ndD))))
set_option maxRecDepth 100000 in
theorem ok_law_net {P : Program} {w : World} {K : PySem.W.Frag} {mg : Str → Option Value} {base : Heap} (T : Tx K mg) : Ok P w K mg base CX0 4 "_law_net" ["_law_pot_here", "_law_most"] T_law_net := by
  refine ok_of0 (k := 3) (N := N_law_net) T.d_law_net sc_law_net (fun ss Q Ed h => by obtain ⟨a, most, rfl, hp, hq⟩ := h; rfl) (fun ss Q Ed h => h) (fun kV doc pm an cdv ct us hl => match us, hl with | [_, _], _ => rfl) (fun cdv A outer s H E hgd hr => ⟨_, (pss_cons (ps_set (i := 2) sc_law_net.nd rfl (by first | exact Or.inl rfl | exact Or.inr rfl) (pe_lst pa_nil))
      (pss_cons (ps_for PassesOwn.never (by rfl) (pi_range1 (by rfl) T.m_range (pa_cons (g_plus (K := K) pe_int (g_call (ok_law_take T) hgd hr (by decide) pass0 (pa_cons (pv 0) (pa_cons (pv 1) pa_nil)))) pa_nil)) (pg_name (i := 3) sc_law_net.nd rfl (by first | exact Or.inl rfl | exact Or.inr rfl)) (pss_one (ps_expr (g_append (K := K) (pe_bm PySem.F.plainAttrs_list PySem.F.slot_list_append PySem.F.type_list_append mt_append (pv 2) (pa_cons (g_call (ok_law_node T) hgd hr (by decide) pass0 (pa_cons (pv 0) (pa_cons (pv 3) pa_nil))) pa_nil))))))
      (pss_one (ps_ret (pv 2))))), fun H0 F0 P0 Ed ss Q h => ?_⟩)
  obtain ⟨a, most, rfl, hp, hq⟩ := h
  show Ws _ _ [.own a .pot, .dat (.int most), .no, .no] _
  refine ws_seq (ws_asg (ve_lstOA (va_nil ⟨_, rfl, Nat.zero_le _, fun c => ?_⟩)))
  show Ws _ _ [.own a .pot, .dat (.int most), .own c (.lst []), .no] _
  refine ws_seq (ws_for (vi_range1 ?_))
  walk_at "go"
  refine ⟨_, _, rfl, ⟨by omega, lt_big (c := 1000) hp.2⟩, fun k k0 k1 => ⟨_, rfl, ?_⟩⟩
  walk_at "go"
  refine ⟨by omega, by omega, fun i δ' => ∃ (net : List Nd) (s3 : Sl), δ' = [.own a .pot, .dat (.int most), .own c (.lst (net.map ndD)), s3] ∧ net.length = i ∧ ∀ (m : Nat) nd, net[m]? = some nd → NdOk m nd, ⟨[], _, rfl, rfl, fun m nd h => by cases h⟩, fun i d δ' hd hI => ?_, fun δ' hI => ?_⟩
  · obtain ⟨net, s3, rfl, hl, hm⟩ := hI
    obtain ⟨hi, rfl⟩ := rangeD_get hd
    rw [Int.zero_add]
    refine wg_name ?_
    show Ws _ _ [.own a .pot, .dat (.int most), .own c (.lst (net.map ndD)), .dat (.int (i : Nat))] _
    refine ws_append rfl (by rw [List.length_map]; omega) ?_
    walk_at "go"
    refine ⟨_, _, rfl, by omega, fun nd hn => ⟨_, rfl, net ++ [nd], .dat (.int (i : Nat)), by rw [List.map_append]; rfl, by rw [List.length_append, hl]; rfl, fun m nd' h => ?_⟩⟩
    by_cases hml : m < net.length
    · rw [List.getElem?_append_left hml] at h; exact hm m nd' h
    · rw [List.getElem?_append_right (by omega)] at h
      have e0 : m - net.length = 0 := by
        have := (List.getElem?_eq_some_iff.mp h).1
        simp only [List.length_cons, List.length_nil] at this
        omega
      rw [e0] at h
      have e1 : nd = nd' := Option.some.inj h
      rw [← e1, show m = i by omega]
      exact hn
  · obtain ⟨net, s3, rfl, hl, hm⟩ := hI
    refine ws_frz 2 rfl ?_
    rw [rangeD_len] at hl
    refine ws_ret (ve_var rfl (hq net ⟨fun z => by rw [z] at hl; simp only [List.length_nil] at hl; omega, by omega, hm⟩ (by omega)))
def ArrLe (arr : List (Option Int)) : Prop := ∀ x ∈ arr, ∀ j, x = some j → j < 2 ^ 120
abbrev N_law_arrivals : List Str := ["_law_pot_here", "_law_net_here", "_law_least", "_law_found", "_law_k", "_law_node_here"]
theorem sc_law_arrivals : FnScope N_law_arrivals ["_law_pot_here", "_law_net_here"] (defScope s_law_arrivals) := ⟨rfl, rfl, rfl, by decide +kernel, rfl, by decide +kernel, by decide +kernel⟩
def T_law_arrivals : Tr := fun ss Q _ => ∃ (a : Addr) (net : List Nd), ss = [.own a .pot, .dat (.list (net.map ndD))] ∧ (NetOk net) ∧ (∀ arr, ArrOk net arr → ArrLe arr → Q (.dat (.list (arr.map optD))))
set_option maxRecDepth 100000 in
theorem ok_law_arrivals {P : Program} {w : World} {K : PySem.W.Frag} {mg : Str → Option Value} {base : Heap} (T : Tx K mg) : Ok P w K mg base CX0 3 "_law_arrivals" ["_law_pot_here", "_law_net_here"] T_law_arrivals := by
  refine ok_of0 (k := 2) (N := N_law_arrivals) T.d_law_arrivals sc_law_arrivals (fun ss Q Ed h => by obtain ⟨a, net, rfl, hp, hq⟩ := h; rfl) (fun ss Q Ed h => h) (fun kV doc pm an cdv ct us hl => match us, hl with | [_, _], _ => rfl) (fun cdv A outer s H E hgd hr => ⟨_, (pss_cons (ps_set (i := 2) sc_law_arrivals.nd rfl (by first | exact Or.inl rfl | exact Or.inr rfl) (g_cb (K := K) (r := rMax) (cr_max (by rfl)) T.m_max boot_max (pa_cons (g_plus (K := K) (pe_lst (pa_cons pe_int pa_nil)) (pe_lc (own := [("_law_node_here", 5)]) (by rfl) sc_law_arrivals.nd (g_list (K := K) (pv 1)) (blkOk_by (N := N_law_arrivals) (sc := defScope s_law_arrivals) (by decide +kernel)) (fun _ _ _ _ _ => (pg_name (i := 5) sc_law_arrivals.nd rfl (by first | exact Or.inl rfl | exact Or.inr rfl))) (fun _ _ _ _ _ => (pts_one (gt_eq (K := K) hr.units (g_ix (K := K) (pv 5) pe_int) pe_str))) (fun _ _ _ _ _ => (g_plus (K := K) (g_ix (K := K) (pv 5) pe_int) pe_int)))) pa_nil)))
      (pss_cons (ps_set (i := 3) sc_law_arrivals.nd rfl (by first | exact Or.inl rfl | exact Or.inr rfl) (pe_lst pa_nil))
      (pss_cons (ps_for PassesOwn.never (by rfl) (pi_range1 (by rfl) T.m_range (pa_cons (g_plus (K := K) (pv 2) (g_call (ok_law_take T) hgd hr (by decide) pass0 (pa_cons (pv 0) (pa_cons (pe_op op_sub pe_int (pv 2)) pa_nil)))) pa_nil)) (pg_name (i := 4) sc_law_arrivals.nd rfl (by first | exact Or.inl rfl | exact Or.inr rfl)) (pss_one (ps_expr (g_append (K := K) (pe_bm PySem.F.plainAttrs_list PySem.F.slot_list_append PySem.F.type_list_append mt_append (pv 3) (pa_cons (g_ix (K := K) (pe_lst (pa_cons pe_non (pa_cons (g_call (ok_law_take T) hgd hr (by decide) pass0 (pa_cons (pv 0) (pa_cons pe_int pa_nil))) (pa_cons (g_call (ok_law_number T) hgd hr (by decide) pass0 (pa_cons (pv 0) pa_nil)) pa_nil)))) (g_call (ok_law_take T) hgd hr (by decide) pass0 (pa_cons (pv 0) (pa_cons pe_int pa_nil)))) pa_nil))))))
      (pss_one (ps_ret (pv 3)))))), fun H0 F0 P0 Ed ss Q h => ?_⟩)
  obtain ⟨a, net, rfl, hp, hq⟩ := h
  show Ws _ _ [.own a .pot, .dat (.list (net.map ndD)), .no, .no, .no, .no] _
  have hnl := hp.len
  have hle := least_le hp
  have hlen : (net.map ndD).length ≤ 100000 := by rw [List.length_map]; omega
  walk_at "go"
  show Ve _ _ [.own a .pot, .dat (.list (net.map ndD)), .no, .no, .no, .no] _
  refine ve_lcT (vi_list (ve_var rfl ⟨_, rfl, hlen, fun d => [(5, d)], fun d => match d with | .tuple (x :: _) => PyData.eqv x (.str "in") | _ => false, inNext, fun d hd => ?_, ?_⟩))
  · obtain ⟨nd, hn, rfl⟩ := List.mem_map.mp hd
    refine ⟨tg_name, fun q hq => hq, ?_, fun hc => ?_⟩
    · show Vt _ _ [.own a .pot, .dat (.list (net.map ndD)), .no, .no, .no, .dat (ndD nd)] _
      obtain ⟨r, hr⟩ := ndD_word nd
      rw [hr]
      walk_at "go"
      rfl
    · show Ve _ _ [.own a .pot, .dat (.list (net.map ndD)), .no, .no, .no, .dat (ndD nd)] _
      obtain ⟨r, hr⟩ := ndD_word nd
      have hc : (match ndD nd with | .tuple (x :: _) => PyData.eqv x (.str "in") | _ => false) = true := hc
      rw [hr] at hc
      rw [show (match (PyData.tuple (.str (wordOf nd) :: r)) with | .tuple (x :: _) => PyData.eqv x (.str "in") | _ => false) = isIn nd from word_in nd] at hc
      cases nd with
      | inn k => show Ve _ _ [.own a .pot, .dat (.list (net.map ndD)), .no, .no, .no, .dat (.tuple [.str "in", .int k])] _; walk_at "go"; rfl
      | _ => cases hc
  refine ⟨.list ((insOf net).map .int), congrArg (fun l => Sl.dat (.list l)) (ins_map net), ro_addL ?_ ⟨_, rfl, va_nil ?_⟩⟩
  · have : (insOf net).length ≤ net.length := List.length_filterMap_le _ _
    rw [List.length_map]; simp only [List.length_cons, List.length_nil]; omega
  show Rc _ _ _ [.dat (.list ((1 :: insOf net).map .int))] _
  refine rc_maxL (by simp) fun m h1 h2 => ?_
  have e := least_max (.inr rfl) h1 h2
  have em : m = ((max 1 (least net) : Nat) : Int) := by omega
  clear e h1 h2
  subst em
  show Ws _ _ [.own a .pot, .dat (.list (net.map ndD)), .dat (.int ((max 1 (least net) : Nat) : Int)), .no, .no, .no] _
  have g0 : 1 ≤ max 1 (least net) := by omega
  have g1 : max 1 (least net) ≤ 6 := by omega
  generalize hL : max 1 (least net) = L at g0 g1 ⊢
  refine ws_seq (ws_asg (ve_lstOA (va_nil ⟨_, rfl, Nat.zero_le _, fun c => ?_⟩)))
  show Ws _ _ [.own a .pot, .dat (.list (net.map ndD)), .dat (.int (L : Nat)), .own c (.lst []), .no, .no] _
  refine ws_seq (ws_for (vi_range1 ?_))
  walk_at "go"
  refine ⟨_, _, rfl, ⟨by omega, lt_big (c := 7) (by omega)⟩, fun t t0 t1 => ⟨_, rfl, ?_⟩⟩
  walk_at "go"
  refine ⟨by omega, by omega, fun i δ' => ∃ (arr : List (Option Int)) (s4 s5 : Sl), δ' = [.own a .pot, .dat (.list (net.map ndD)), .dat (.int (L : Nat)), .own c (.lst (arr.map optD)), s4, s5] ∧ arr.length = i ∧ ∀ x ∈ arr, ∀ j, x = some j → 0 ≤ j ∧ j < 2 ^ 120, ⟨[], _, _, rfl, rfl, fun m h => by cases h⟩, fun i d δ' hd hI => ?_, fun δ' hI => ?_⟩
  · obtain ⟨arr, s4, s5, rfl, hl, hm⟩ := hI
    obtain ⟨hi, rfl⟩ := rangeD_get hd
    refine wg_name ?_
    show Ws _ _ [.own a .pot, .dat (.list (net.map ndD)), .dat (.int (L : Nat)), .own c (.lst (arr.map optD)), .dat (.int (0 + (i : Nat))), s5] _
    refine ws_append rfl (by rw [List.length_map]; omega) ?_
    walk_at "go"
    refine ⟨_, _, rfl, ⟨by decide, lt_big (c := 3) (by decide)⟩, fun x x0 x1 => ⟨_, rfl, ?_⟩⟩
    walk_at "go"
    refine fun y y0 y1 => ⟨_, rfl, ?_⟩
    walk_at "go"
    refine ⟨_, _, rfl, ⟨by decide, lt_big (c := 3) (by decide)⟩, fun g g0 g1 => ⟨_, rfl, ?_⟩⟩
    have fin : ∀ o : Option Int, (∀ j, o = some j → 0 ≤ j ∧ j < 2 ^ 120) → ∃ (arr2 : List (Option Int)) (s4' s5' : Sl), [Sl.own a .pot, .dat (.list (net.map ndD)), .dat (.int (L : Nat)), .own c (.lst (arr.map optD ++ [optD o])), .dat (.int (0 + (i : Nat))), s5] = [.own a .pot, .dat (.list (net.map ndD)), .dat (.int (L : Nat)), .own c (.lst (arr2.map optD)), s4', s5'] ∧ arr2.length = i + 1 ∧ ∀ x ∈ arr2, ∀ j, x = some j → 0 ≤ j ∧ j < 2 ^ 120 := fun o ho => by
      refine ⟨arr ++ [o], .dat (.int (0 + (i : Nat))), s5, by rw [List.map_append]; rfl, by rw [List.length_append, hl]; rfl, fun z hz j hj => ?_⟩
      rcases List.mem_append.mp hz with h | h
      · exact hm z h j hj
      · rw [List.mem_singleton.mp h] at hj; exact ho j hj
    rcases of3 g0 g1 with rfl | rfl | rfl
    · exact ro_ixL at0 ⟨_, rfl, fin none (fun j h => nomatch h)⟩
    · exact ro_ixL at1 ⟨_, rfl, fin (some x) (fun j h => by cases h; exact ⟨x0, by omega⟩)⟩
    · exact ro_ixL at2 ⟨_, rfl, fin (some y) (fun j h => by cases h; exact ⟨y0, Int.lt_trans y1 (by decide)⟩)⟩
  · obtain ⟨arr, s4, s5, rfl, hl, hm⟩ := hI
    refine ws_frz 3 rfl ?_
    rw [rangeD_len] at hl
    refine ws_ret (ve_var rfl (hq arr ⟨by omega, by omega, fun x hx j hj => (hm x hx j hj).1⟩ fun x hx j hj => (hm x hx j hj).2))
def laws (w : Str) : Prop := True
def isSm : PyData → Bool
  | .none => false
  | _ => true
abbrev N_law_beat : List Str := ["_law_node_here", "_law_arrivals_here", "_law_told", "_law_one", "_law_other", "_law_some", "_law_beat_here"]
theorem sc_law_beat : FnScope N_law_beat ["_law_node_here", "_law_arrivals_here", "_law_told"] (defScope s_law_beat) := ⟨rfl, rfl, rfl, by decide +kernel, rfl, by decide +kernel, by decide +kernel⟩
def T_law_beat : Tr := fun ss Q _ => ∃ (nd : Nd) (arr kn : List (Option Int)), ss = [.dat (ndD nd), .dat (.list (arr.map optD)), .dat (.list (kn.map optD))] ∧ (NdOk kn.length nd ∧ (∀ k, nd = .inn k → k < arr.length)) ∧ (Q (.dat (optD (nodeBeat arr kn nd))))
set_option maxRecDepth 100000 in
theorem ok_law_beat {P : Program} {w : World} {K : PySem.W.Frag} {mg : Str → Option Value} {base : Heap} (T : Tx K mg) : Ok P w K mg base CX0 1 "_law_beat" ["_law_node_here", "_law_arrivals_here", "_law_told"] T_law_beat := by
  refine ok_of0 (k := 0) (N := N_law_beat) T.d_law_beat sc_law_beat (fun ss Q Ed h => by obtain ⟨nd, arr, kn, rfl, hp, hq⟩ := h; rfl) (fun ss Q Ed h => h) (fun kV doc pm an cdv ct us hl => match us, hl with | [_, _, _], _ => rfl) (fun cdv A outer s H E hgd hr => ⟨_, (pss_cons (ps_if (gt_eq (K := K) hr.units (g_ix (K := K) (pv 0) pe_int) pe_str) (pss_one (ps_ret (g_ix (K := K) (pv 1) (g_ix (K := K) (pv 0) pe_int)))) pss_nil)
      (pss_cons (ps_if (gt_eq (K := K) hr.units (g_ix (K := K) (pv 0) pe_int) pe_str) (pss_one (ps_ret pe_int)) pss_nil)
      (pss_cons (ps_set (i := 3) sc_law_beat.nd rfl (by first | exact Or.inl rfl | exact Or.inr rfl) (g_ix (K := K) (pv 2) (g_ix (K := K) (pv 0) pe_int)))
      (pss_cons (ps_if (gt_eq (K := K) hr.units (g_ix (K := K) (pv 0) pe_int) pe_str) (pss_one (ps_ret (pe_ifExp (pt_cmpR op_isX (pv 3) pe_non (nomark _)) pe_non (g_plus (K := K) (pv 3) (g_ix (K := K) (pv 0) pe_int))))) pss_nil)
      (pss_cons (ps_set (i := 4) sc_law_beat.nd rfl (by first | exact Or.inl rfl | exact Or.inr rfl) (g_ix (K := K) (pv 2) (g_ix (K := K) (pv 0) pe_int)))
      (pss_cons (ps_if (gt_eq (K := K) hr.units (g_ix (K := K) (pv 0) pe_int) pe_str) (pss_cons (ps_setLc (i := 5) (own := [("_law_beat_here", 6)]) (by rfl) sc_law_beat.nd rfl rfl (sw_true rfl rfl rfl (by decide +kernel)) (g_tupI (K := K) (pe_tup (pa_cons (pv 3) (pa_cons (pv 4) pa_nil)))) (blkOk_by (N := N_law_beat) (sc := defScope s_law_beat) (by decide +kernel)) (fun _ _ _ _ _ => (pg_name (i := 6) sc_law_beat.nd rfl (by first | exact Or.inl rfl | exact Or.inr rfl))) (fun _ _ _ _ _ => (pts_one (pt_cmpR op_notX (pv 6) pe_non (nomark _)))) (fun _ _ _ _ _ => (pv 6)))
      (pss_one (ps_ret (pe_ifExp (gt_ne (K := K) hr.units (pv 5) (pe_lst pa_nil)) (g_cb (K := K) (r := rMin) (cr_min (by rfl)) T.m_min boot_min (pa_cons (pv 5) pa_nil)) pe_non)))) pss_nil)
      (pss_cons (ps_if (gt_eq (K := K) hr.units (g_ix (K := K) (pv 0) pe_int) pe_str) (pss_one (ps_ret (pe_ifExp (PW.pt (pw_and (pt_cmpR op_notX (pv 3) pe_non (nomark _)) (pw_and1 (pt_cmpR op_notX (pv 4) pe_non (nomark _))))) (pe_callB (call_max2B (by rfl)) (by rfl) T.m_max boot_max (pa_cons (pv 3) (pa_cons (pv 4) pa_nil))) pe_non))) pss_nil)
      (pss_cons (ps_if (PW.pt (pw_or (pt_cmpR op_isX (pv 3) pe_non (nomark _)) (pw_or1 (pt_cmpR op_isX (pv 4) pe_non (nomark _))))) (pss_one (ps_ret (pv 3))) pss_nil)
      (pss_one (ps_ret (pe_ifExp (pt_cmpR op_lt (pv 3) (pv 4) (nomark _)) (pv 3) pe_non))))))))))), fun H0 F0 P0 Ed ss Q h => ?_⟩)
  obtain ⟨nd, arr, kn, rfl, hp, hq⟩ := h
  show Ws _ _ [.dat (ndD nd), .dat (.list (arr.map optD)), .dat (.list (kn.map optD)), .no, .no, .no, .no] _
  cases nd with
  | inn k =>
    show Ws _ _ [.dat (.tuple [.str "in", .int k]), .dat (.list (arr.map optD)), .dat (.list (kn.map optD)), .no, .no, .no, .no] _
    walk_at "go"
    refine ro_ixL (at_opt (hp.2 k rfl)) ?_
    exact hq
  | go =>
    show Ws _ _ [.dat (.tuple [.str "go"]), .dat (.list (arr.map optD)), .dat (.list (kn.map optD)), .no, .no, .no, .no] _
    walk_at "go"
    exact hq
  | late i d =>
    show Ws _ _ [.dat (.tuple [.str "late", .int i, .int d]), .dat (.list (arr.map optD)), .dat (.list (kn.map optD)), .no, .no, .no, .no] _
    walk_at "go"
    refine ro_ixL (at_opt hp.1.1) ?_
    have hq : Q (.dat (optD (lateB (gt kn i) d))) := hq
    generalize gt kn i = g at hq ⊢
    walk_at "go"
    cases g <;> (dsimp only [optD]; walk_at "go"; exact hq)
  | or i j =>
    show Ws _ _ [.dat (.tuple [.str "or", .int i, .int j]), .dat (.list (arr.map optD)), .dat (.list (kn.map optD)), .no, .no, .no, .no] _
    walk_at "go"
    refine ro_ixL (at_opt hp.1.1) ?_
    walk_at "go"
    refine ro_ixL (at_opt hp.1.2) ?_
    have hq : Q (.dat (optD (lesser (gt kn i) (gt kn j)))) := hq
    generalize gt kn i = g at hq ⊢
    generalize gt kn j = h at hq ⊢
    walk_at "go"
    show Ve _ _ [.dat (.tuple [.str "or", .int i, .int j]), .dat (.list (arr.map optD)), .dat (.list (kn.map optD)), .dat (optD g), .dat (optD h), .no, .no] _
    refine ve_lcT (vi_tup (ve_tupA (va_cons (ve_var rfl ⟨_, rfl, va_cons (ve_var rfl ⟨_, rfl, va_nil ⟨[optD g, optD h], rfl, Nat.le_of_ble_eq_true rfl, _, rfl, Nat.le_of_ble_eq_true rfl, fun d => [(6, d)], isSm, fun d => d, fun d hd => ?_, ?_⟩⟩)⟩))))
    · refine ⟨tg_name, fun q hq => hq, ?_, fun _ => ve_var rfl rfl⟩
      show Vt _ _ [.dat (.tuple [.str "or", .int i, .int j]), .dat (.list (arr.map optD)), .dat (.list (kn.map optD)), .dat (optD g), .dat (optD h), .no, .dat d] _
      walk_at "go"
      cases d <;> rfl
    · rw [List.map_id']
      cases g with
      | none =>
        cases h with
        | none =>
          show Ws _ _ [.dat (.tuple [.str "or", .int i, .int j]), .dat (.list (arr.map optD)), .dat (.list (kn.map optD)), .dat .none, .dat .none, .dat (.list []), .no] _
          walk_at "go"
          exact hq
        | some c =>
          show Ws _ _ [.dat (.tuple [.str "or", .int i, .int j]), .dat (.list (arr.map optD)), .dat (.list (kn.map optD)), .dat .none, .dat (.int c), .dat (.list [.int c]), .no] _
          walk_at "go"
          exact rc_min1 hq
      | some a =>
        cases h with
        | none =>
          show Ws _ _ [.dat (.tuple [.str "or", .int i, .int j]), .dat (.list (arr.map optD)), .dat (.list (kn.map optD)), .dat (.int a), .dat .none, .dat (.list [.int a]), .no] _
          walk_at "go"
          exact rc_min1 hq
        | some c =>
          show Ws _ _ [.dat (.tuple [.str "or", .int i, .int j]), .dat (.list (arr.map optD)), .dat (.list (kn.map optD)), .dat (.int a), .dat (.int c), .dat (.list [.int a, .int c]), .no] _
          walk_at "go"
          exact rc_minT hq
  | both i j =>
    show Ws _ _ [.dat (.tuple [.str "both", .int i, .int j]), .dat (.list (arr.map optD)), .dat (.list (kn.map optD)), .no, .no, .no, .no] _
    walk_at "go"
    refine ro_ixL (at_opt hp.1.1) ?_
    walk_at "go"
    refine ro_ixL (at_opt hp.1.2) ?_
    have hq : Q (.dat (optD (greater (gt kn i) (gt kn j)))) := hq
    generalize gt kn i = g at hq ⊢
    generalize gt kn j = h at hq ⊢
    cases g <;> cases h <;> (dsimp only [optD]; walk_at "go"; exact hq)
  | unl i j =>
    show Ws _ _ [.dat (.tuple [.str "unless", .int i, .int j]), .dat (.list (arr.map optD)), .dat (.list (kn.map optD)), .no, .no, .no, .no] _
    walk_at "go"
    refine ro_ixL (at_opt hp.1.1) ?_
    walk_at "go"
    refine ro_ixL (at_opt hp.1.2) ?_
    have hq : Q (.dat (optD (unlessB (gt kn i) (gt kn j)))) := hq
    generalize gt kn i = g at hq ⊢
    generalize gt kn j = h at hq ⊢
    cases g with
    | none => cases h <;> (dsimp only [optD]; walk_at "go"; exact hq)
    | some a =>
      cases h with
      | none => dsimp only [optD]; walk_at "go"; exact hq
      | some c =>
        dsimp only [optD]
        walk_at "go"
        have hq : Q (.dat (optD (if c ≤ a then none else some a))) := hq
        refine ⟨fun h => ?_, fun h => ?_⟩
        · rw [if_neg (by have := of_decide_eq_true h; omega)] at hq
          walk_at "go"
          exact hq
        · rw [if_pos (by have := of_decide_eq_false h; omega)] at hq
          walk_at "go"
          exact hq

abbrev N_law_due : List Str := ["_law_net_here", "_law_arrivals_here", "_law_found", "_law_node_here"]
theorem sc_law_due : FnScope N_law_due ["_law_net_here", "_law_arrivals_here"] (defScope s_law_due) := ⟨rfl, rfl, rfl, by decide +kernel, rfl, by decide +kernel, by decide +kernel⟩
def T_law_due : Tr := fun ss Q _ => ∃ (net : List Nd) (arr : List (Option Int)), ss = [.dat (.list (net.map ndD)), .dat (.list (arr.map optD))] ∧ (NetOk net ∧ ArrOk net arr) ∧ (∀ a, Q (.own a (.lst ((beats net arr).map optD))))
set_option maxRecDepth 100000 in
theorem ok_law_due {P : Program} {w : World} {K : PySem.W.Frag} {mg : Str → Option Value} {base : Heap} (T : Tx K mg) : Ok P w K mg base CX0 2 "_law_due" ["_law_net_here", "_law_arrivals_here"] T_law_due := by
  refine ok_of0 (k := 1) (N := N_law_due) T.d_law_due sc_law_due (fun ss Q Ed h => by obtain ⟨net, arr, rfl, hp, hq⟩ := h; rfl) (fun ss Q Ed h => h) (fun kV doc pm an cdv ct us hl => match us, hl with | [_, _], _ => rfl) (fun cdv A outer s H E hgd hr => ⟨_, (pss_cons (ps_set (i := 2) sc_law_due.nd rfl (by first | exact Or.inl rfl | exact Or.inr rfl) (pe_lst pa_nil))
      (pss_cons (ps_for PassesOwn.never (by rfl) (g_list (K := K) (pv 0)) (pg_name (i := 3) sc_law_due.nd rfl (by first | exact Or.inl rfl | exact Or.inr rfl)) (pss_one (ps_expr (g_append (K := K) (pe_bm PySem.F.plainAttrs_list PySem.F.slot_list_append PySem.F.type_list_append mt_append (pv 2) (pa_cons (g_call (ok_law_beat T) hgd hr (by decide) pass0 (pa_cons (pv 3) (pa_cons (pv 1) (pa_cons (pv 2) pa_nil)))) pa_nil))))))
      (pss_one (ps_ret (pv 2))))), fun H0 F0 P0 Ed ss Q h => ?_⟩)
  obtain ⟨net, arr, rfl, hp, hq⟩ := h
  show Ws _ _ [.dat (.list (net.map ndD)), .dat (.list (arr.map optD)), .no, .no] _
  have hnl := hp.1.len
  refine ws_seq (ws_asg (ve_lstOA (va_nil ⟨_, rfl, Nat.zero_le _, fun a => ?_⟩)))
  show Ws _ _ [.dat (.list (net.map ndD)), .dat (.list (arr.map optD)), .own a (.lst []), .no] _
  refine ws_seq (ws_for (vi_list (ve_var rfl ⟨_, rfl, fun i δ' => ∃ s3, δ' = [.dat (.list (net.map ndD)), .dat (.list (arr.map optD)), .own a (.lst ((beats (net.take i) arr).map optD)), s3], ⟨_, rfl⟩, fun i d δ' hd hI => ?_, fun δ' hI => ?_⟩)))
  · obtain ⟨s3, rfl⟩ := hI
    rw [List.getElem?_map] at hd
    cases e : net[i]? with
    | none => rw [e] at hd; cases hd
    | some nd =>
      rw [e] at hd
      cases hd
      have hi : i < net.length := (List.getElem?_eq_some_iff.mp e).1
      have hlen : (beats (net.take i) arr).length = i := by rw [beats_len, List.length_take]; omega
      refine wg_name ?_
      show Ws _ _ [.dat (.list (net.map ndD)), .dat (.list (arr.map optD)), .own a (.lst ((beats (net.take i) arr).map optD)), .dat (ndD nd)] _
      refine ws_append rfl (by rw [List.length_map, hlen]; omega) (ve_tmp (i := 2) rfl ?_)
      show Ve _ _ [.dat (.list (net.map ndD)), .dat (.list (arr.map optD)), .dat (.list ((beats (net.take i) arr).map optD)), .dat (ndD nd)] _
      walk_at "go"
      refine ⟨_, _, _, rfl, ⟨by rw [hlen]; exact hp.1.mem i nd e, fun k hk => in_lt hp.2 (hk ▸ List.mem_of_getElem? e)⟩, _, rfl, flat_opt _, _, rfl, .dat (ndD nd), ?_⟩
      have e2 : beats (net.take (i + 1)) arr = beats (net.take i) arr ++ [nodeBeat arr (beats (net.take i) arr) nd] := by
        rw [List.take_add_one, e]
        exact beatsOn_snoc arr _ [] nd
      rw [e2, List.map_append]
      rfl
  · obtain ⟨s3, rfl⟩ := hI
    refine ws_retOwn rfl (.inl (fun z => nomatch z)) ?_
    rw [List.length_map, List.take_length]
    exact hq a
theorem shw_word : ∀ w ∈ (["in", "go", "late", "or", "both", "unless"] : List Str), Shw 0 151 (.str w) := fun w hw => ⟨shp_str ((by decide +kernel : ∀ w ∈ (["in", "go", "late", "or", "both", "unless"] : List Str), PyData.strOk w = true) w hw), rfl, (by decide +kernel : ∀ w ∈ (["in", "go", "late", "or", "both", "unless"] : List Str), (PyData.shown (.str w)).length ≤ 151) w hw⟩
theorem shw_nat {n : Nat} {k : Nat} (h : k < 2 ^ 120) : Shw n 151 (.int k) := shw_small (by omega) (by
  have e : (2 : Int) ^ 400 = ((2 ^ 400 : Nat) : Int) := by decide +kernel
  have e2 : (2 : Nat) ^ 120 < 2 ^ 400 := by decide +kernel
  omega)
theorem ndD_shw {m : Nat} {nd : Nd} (h : NdOk m nd) (hm : m ≤ 1000) : Shw 1 462 (ndD nd) := by
  have big : (1000 : Nat) < 2 ^ 120 := by decide +kernel
  have key : ∀ (w : Str) (ns : List Nat), w ∈ (["in", "go", "late", "or", "both", "unless"] : List Str) → (∀ n ∈ ns, n < 2 ^ 120) → ns.length ≤ 2 → Shw 1 462 (.tuple (.str w :: ns.map fun n : Nat => PyData.int (n : Int))) := fun w ns hw hn hl => by
    refine shw_tup 3 (n := 0) (L := 151) (fun d hd => ?_) (by rw [List.length_cons, List.length_map]; omega)
    rcases List.mem_cons.mp hd with e | hd
    · rw [e]; exact shw_word w hw
    · obtain ⟨k, hk, rfl⟩ := List.mem_map.mp hd
      exact shw_nat (hn k hk)
  have two : ∀ a c : Nat, a < 2 ^ 120 → c < 2 ^ 120 → ∀ n ∈ [a, c], n < 2 ^ 120 := fun a c ha hc n hn => by rcases mem_two hn with e | e <;> rw [e] <;> assumption
  cases nd with
  | inn k => have h : k ≤ 5 := h; exact key "in" [k] (by simp) (fun n hn => by rw [List.mem_singleton.mp hn]; omega) (Nat.le_of_ble_eq_true rfl)
  | go => exact key "go" [] (by simp) (fun n hn => by cases hn) (Nat.le_of_ble_eq_true rfl)
  | late i d => exact key "late" [i, d] (by simp) (two i d (by have := h.1; omega) h.2) (Nat.le_of_ble_eq_true rfl)
  | or i d => exact key "or" [i, d] (by simp) (two i d (by have := h.1; omega) (by have := h.2; omega)) (Nat.le_of_ble_eq_true rfl)
  | both i d => exact key "both" [i, d] (by simp) (two i d (by have := h.1; omega) (by have := h.2; omega)) (Nat.le_of_ble_eq_true rfl)
  | unl i d => exact key "unless" [i, d] (by simp) (two i d (by have := h.1; omega) (by have := h.2; omega)) (Nat.le_of_ble_eq_true rfl)
theorem net_shw {net : List Nd} (h : NetOk net) : Shw 2 464003 (.list (net.map ndD)) := shw_list 1000 (n := 1) (L := 462) (fun d hd => by
  obtain ⟨nd, hn, rfl⟩ := List.mem_map.mp hd
  obtain ⟨m, hm⟩ := List.getElem?_of_mem hn
  have := (List.getElem?_eq_some_iff.mp hm).1
  have := h.len
  exact ndD_shw (h.mem m nd hm) (by omega)) (by rw [List.length_map]; exact h.len)
def OptLe (l : List (Option Int)) (c : Int) : Prop := ∀ x ∈ l, ∀ j, x = some j → 0 ≤ j ∧ j ≤ c
theorem opt_shw {l : List (Option Int)} (h : OptLe l (2 ^ 400)) (hl : l.length ≤ 1000) : Shw 1 153003 (.list (l.map optD)) := shw_list 1000 (n := 0) (L := 151) (fun d hd => by
  obtain ⟨x, hx, rfl⟩ := List.mem_map.mp hd
  cases x with
  | none => exact (shw_none (n := 0)).mono
  | some i => exact shw_small (h _ hx i rfl).1 (h _ hx i rfl).2) (by rw [List.length_map]; exact hl)
theorem gt_le {l : List (Option Int)} {c : Int} (h : OptLe l c) {i : Nat} {j : Int} (e : gt l i = some j) : 0 ≤ j ∧ j ≤ c := by
  unfold gt at e
  cases hx : l[i]? with
  | none => rw [hx] at e; cases e
  | some x => rw [hx] at e; exact h x (List.mem_of_getElem? hx) j e
theorem un_cases (a c : Int) : (c ≤ a ∧ unlessB (some a) (some c) = none) ∨ (a < c ∧ unlessB (some a) (some c) = some a) := by
  show (c ≤ a ∧ (if c ≤ a then none else some a) = none) ∨ (a < c ∧ (if c ≤ a then none else some a) = some a)
  by_cases h : c ≤ a
  · exact .inl ⟨h, if_pos h⟩
  · exact .inr ⟨by omega, if_neg h⟩
theorem node_le {arr kn : List (Option Int)} {c e : Int} (hc : 0 ≤ c) (he : 0 ≤ e) (ha : OptLe arr c) (hk : OptLe kn c) {m : Nat} {nd : Nd} (hd : ∀ i d, nd = .late i d → (d : Int) ≤ e) : ∀ j, nodeBeat arr kn nd = some j → 0 ≤ j ∧ j ≤ c + e := by
  have hg : ∀ i v, gt kn i = some v → 0 ≤ v ∧ v ≤ c := fun i v h => gt_le hk h
  intro j h
  cases nd with
  | inn k => have := gt_le ha h; omega
  | go => cases h; omega
  | late i d =>
    have h : lateB (gt kn i) d = some j := h
    have h1 := hg i
    have h2 := hd i d rfl
    cases e' : gt kn i with
    | none => rw [e'] at h; cases h
    | some v => rw [e'] at h; cases h; have := h1 v e'; omega
  | or i k =>
    have h : lesser (gt kn i) (gt kn k) = some j := h
    have h1 := hg i
    have h2 := hg k
    cases e' : gt kn i with
    | none => rw [e'] at h; have := h2 j h; omega
    | some v =>
      rw [e'] at h
      cases e2 : gt kn k with
      | none => rw [e2] at h; cases h; have := h1 _ e'; omega
      | some w => rw [e2] at h; cases h; have := h1 v e'; have := h2 w e2; omega
  | both i k =>
    have h : greater (gt kn i) (gt kn k) = some j := h
    have h1 := hg i
    have h2 := hg k
    cases e' : gt kn i with
    | none => rw [e'] at h; cases h
    | some v =>
      rw [e'] at h
      cases e2 : gt kn k with
      | none => rw [e2] at h; cases h
      | some w => rw [e2] at h; cases h; have := h1 v e'; have := h2 w e2; omega
  | unl i k =>
    have h : unlessB (gt kn i) (gt kn k) = some j := h
    have h1 := hg i
    cases e' : gt kn i with
    | none => rw [e'] at h; cases h
    | some v =>
      rw [e'] at h
      cases e2 : gt kn k with
      | none => rw [e2] at h; cases h; have := h1 _ e'; omega
      | some w =>
        rw [e2] at h
        rcases un_cases v w with ⟨_, z⟩ | ⟨_, z⟩ <;> rw [z] at h
        · cases h
        · cases h; have := h1 _ e'; omega
theorem OptLe.mono {l : List (Option Int)} {c c' : Int} (h : OptLe l c) (hc : c ≤ c') : OptLe l c' := fun x hx j hj => ⟨(h x hx j hj).1, Int.le_trans (h x hx j hj).2 hc⟩
theorem beatsOn_le {arr : List (Option Int)} {e : Int} (he : 0 ≤ e) : ∀ (l : List Nd) (kn : List (Option Int)) (c : Int), 0 ≤ c → OptLe arr c → OptLe kn c → (∀ nd ∈ l, ∀ i d, nd = .late i d → (d : Int) ≤ e) → OptLe (beatsOn arr kn l) (c + l.length * e)
  | [], kn, c, hc, ha, hk, _ => by
    show OptLe kn _
    exact hk.mono (by simp)
  | nd :: r, kn, c, hc, ha, hk, hl => by
    have h1 := beatsOn_le he r (kn ++ [nodeBeat arr kn nd]) (c + e) (by omega) (ha.mono (by omega)) (fun x hx j hj => by
      rcases List.mem_append.mp hx with g | g
      · have := hk x g j hj; omega
      · rw [List.mem_singleton.mp g] at hj
        exact node_le hc he ha hk (m := 0) (hl nd List.mem_cons_self) j hj) (fun x hx => hl x (List.mem_cons_of_mem _ hx))
    refine OptLe.mono h1 ?_
    have : (((nd :: r).length : Nat) : Int) * e = r.length * e + e := by
      rw [List.length_cons, Int.natCast_add, Int.add_mul]; simp
    omega
theorem beats_le {net : List Nd} {arr : List (Option Int)} (h : NetOk net) (ha : ArrOk net arr) (hb : ArrLe arr) : OptLe (beats net arr) (2 ^ 400) := by
  have h1 := beatsOn_le (arr := arr) (e := 2 ^ 120) (by decide) net [] (2 ^ 120) (by decide) (fun x hx j hj => ⟨ha.nn x hx j hj, Int.le_of_lt (hb x hx j hj)⟩) (fun x hx => by cases hx) (fun nd hn i d hd => by
    obtain ⟨m, hm⟩ := List.getElem?_of_mem hn
    have := h.mem m nd hm
    rw [hd] at this
    have h2 : d < 2 ^ 120 := this.2
    have e : (2 : Int) ^ 120 = ((2 ^ 120 : Nat) : Int) := by decide +kernel
    omega)
  refine OptLe.mono h1 ?_
  have hl := h.len
  have h3 : (net.length : Int) * 2 ^ 120 ≤ 1000 * 2 ^ 120 := Int.mul_le_mul_of_nonneg_right (by omega) (by decide)
  have h4 : (2 : Int) ^ 120 + 1000 * 2 ^ 120 ≤ 2 ^ 400 := by decide +kernel
  omega
abbrev N_law : List Str := ["_law_script", "_law_k", "_law_pot_here", "_law_net_here", "_law_arrivals_here", "_law_kept", "_law_due_here", "_law_turn", "_law_told"]
theorem sc_law : FnScope N_law ["_law_script"] (defScope s_law) := ⟨rfl, rfl, rfl, by decide +kernel, rfl, by decide +kernel, by decide +kernel⟩
def T_law : Tr := fun ss Q _ => ∃ (ns : List Int), ss = [.scr ns] ∧ (ns.length ≤ 63) ∧ (Q (.dat (.bool true)))
set_option maxRecDepth 100000 in
theorem fnok_law {P : Program} {w : World} {K : PySem.W.Frag} {mg : Str → Option Value} {base : Heap} {fd : FuncData} (FD : FunD K "law" "law" (defArgs s_law) (defBody s_law) (defScope s_law) [] [] (He.ga K "law") fd) (T : Tx K mg) : FnG P w K mg base CX0 9 (He.ga K "law") fd ["_law_script"] (spD K T_law) := by
  refine fnok_of0 (k := 8) (N := N_law) FD sc_law (fun ss Q Ed h => by obtain ⟨ns, rfl, hp, hq⟩ := h; rfl) (fun ss Q Ed h => h) (fun cdv A outer s H E hgd hr => ⟨_, (pss_cons (ps_for PassesOwn.never (by rfl) (pi_range1 (by rfl) T.m_range (pa_cons (pe_callB (call_max2B (by rfl)) (by rfl) T.m_max boot_max (pa_cons pe_int (pa_cons (pe_callB (call_min2B (by rfl)) (by rfl) T.m_min boot_min (pa_cons pe_int (pa_cons (g_cb (K := K) (r := rLenB) call_lenB T.m_len PySem.boot_len (pa_cons (pv 0) pa_nil)) pa_nil))) pa_nil))) pa_nil)) (pg_name (i := 1) sc_law.nd rfl (by first | exact Or.inl rfl | exact Or.inr rfl)) (pss_cons (ps_set (i := 2) sc_law.nd rfl (by first | exact Or.inl rfl | exact Or.inr rfl) (g_call (ok_law_pot T) hgd hr (by decide) pass0 (pa_cons (pv 0) (pa_cons (pv 1) pa_nil))))
      (pss_cons (ps_set (i := 3) sc_law.nd rfl (by first | exact Or.inl rfl | exact Or.inr rfl) (g_call (ok_law_net T) hgd hr (by decide) pass0 (pa_cons (pv 2) (pa_cons pe_int pa_nil))))
      (pss_cons (ps_set (i := 4) sc_law.nd rfl (by first | exact Or.inl rfl | exact Or.inr rfl) (g_call (ok_law_arrivals T) hgd hr (by decide) pass0 (pa_cons (pv 2) (pa_cons (pv 3) pa_nil))))
      (pss_cons (ps_set (i := 5) sc_law.nd rfl (by first | exact Or.inl rfl | exact Or.inr rfl) (g_cb (K := K) (r := rReprB) (call_reprB hgd (room65 hr)) T.m_repr boot_repr (pa_cons (pe_lst (pa_cons (pv 3) (pa_cons (pv 4) pa_nil))) pa_nil)))
      (pss_cons (ps_set (i := 6) sc_law.nd rfl (by first | exact Or.inl rfl | exact Or.inr rfl) (g_cb (K := K) (r := rReprB) (call_reprB hgd (room65 hr)) T.m_repr boot_repr (pa_cons (g_call (ok_law_due T) hgd hr (by decide) pass0 (pa_cons (pv 3) (pa_cons (pv 4) pa_nil))) pa_nil)))
      (pss_cons (ps_if (pt_cmpR op_notX (g_call (ok_are_arrivals T) hgd hr (by decide) pass0 (pa_cons (pv 3) (pa_cons (pv 4) pa_nil))) pe_bl (nomark _)) (pss_one (ps_ret pe_bl)) pss_nil)
      (pss_one (ps_for PassesOwn.never (by rfl) (pi_range1 (by rfl) T.m_range (pa_cons pe_int pa_nil)) (pg_name (i := 7) sc_law.nd rfl (by first | exact Or.inl rfl | exact Or.inr rfl)) (pss_cons (ps_set (i := 8) sc_law.nd rfl (by first | exact Or.inl rfl | exact Or.inr rfl) (g_call (ok_net_beats T) hgd hr (by decide) pass0 (pa_cons (pv 3) (pa_cons (pv 4) pa_nil))))
      (pss_cons (ps_if (PW.pt (pw_or (gt_ne (K := K) hr.units (g_cb (K := K) (r := rReprB) (call_reprB hgd (room65 hr)) T.m_repr boot_repr (pa_cons (pv 8) pa_nil)) (pv 6)) (pw_or1 (gt_ne (K := K) hr.units (g_cb (K := K) (r := rReprB) (call_reprB hgd (room65 hr)) T.m_repr boot_repr (pa_cons (pe_lst (pa_cons (pv 3) (pa_cons (pv 4) pa_nil))) pa_nil)) (pv 5))))) (pss_one (ps_ret pe_bl)) pss_nil)
      (pss_cons (ps_expr (g_append (K := K) (pe_bm PySem.F.plainAttrs_list PySem.F.slot_list_append PySem.F.type_list_append mt_append (pv 8) (pa_cons pe_int pa_nil))))
      (pss_one (ps_asg pe_str (pg_sub (pv 8) pe_int set_list)))))))))))))))
      (pss_one (ps_ret pe_bl))), fun H0 F0 P0 Ed ss Q h => ?_⟩)
  obtain ⟨ns, rfl, hp, hq⟩ := h
  show Ws _ _ [.scr ns, .no, .no, .no, .no, .no, .no, .no, .no] _
  refine ws_seq (ws_for (vi_range1 ?_))
  walk_at "go"
  refine ⟨by omega, by omega, fun i δ' => ∃ s1 s2 s3 s4 s5 s6 s7 s8, δ' = [.scr ns, s1, s2, s3, s4, s5, s6, s7, s8], ⟨_, _, _, _, _, _, _, _, rfl⟩, fun i d δ' hd hI => ?_, fun δ' hI => ?_⟩
  · obtain ⟨s1, s2, s3, s4, s5, s6, s7, s8, rfl⟩ := hI
    obtain ⟨hi, rfl⟩ := rangeD_get hd
    refine wg_name ?_
    rw [Int.zero_add]
    show Ws _ _ [.scr ns, .dat (.int (i : Nat)), s2, s3, s4, s5, s6, s7, s8] _
    walk_at "go"
    refine ⟨_, _, rfl, ⟨by omega, by omega⟩, fun a => ?_⟩
    show Ws _ _ [.scr ns, .dat (.int (i : Nat)), .own a .pot, s3, s4, s5, s6, s7, s8] _
    walk_at "go"
    refine ⟨_, _, rfl, ⟨by decide, by decide⟩, fun net hnet _ => ?_⟩
    show Ws _ _ [.scr ns, .dat (.int (i : Nat)), .own a .pot, .dat (.list (net.map ndD)), s4, s5, s6, s7, s8] _
    walk_at "go"
    refine ⟨_, _, rfl, hnet, fun arr harr hle => ?_⟩
    show Ws _ _ [.scr ns, .dat (.int (i : Nat)), .own a .pot, .dat (.list (net.map ndD)), .dat (.list (arr.map optD)), s5, s6, s7, s8] _
    have hb : (beats net arr).length ≤ 1000 := by rw [beats_len]; exact hnet.len
    have hal : arr.length ≤ 1000 := by have := harr.hi; omega
    have b400 : (2 : Int) ^ 120 ≤ 2 ^ 400 := by decide +kernel
    have sh1 : Shw 3 928013 (.list [.list (net.map ndD), .list (arr.map optD)]) := shw_list 2 (n := 2) (L := 464003) (fun d hd => by
      rcases mem_two hd with e | e <;> rw [e]
      · exact net_shw hnet
      · exact (opt_shw (fun x hx j hj => ⟨harr.nn x hx j hj, Int.le_trans (Int.le_of_lt (hle x hx j hj)) b400⟩) hal).mono) (Nat.le_refl _)
    have sh2 : Shw 1 153003 (.list ((beats net arr).map optD)) := opt_shw (beats_le hnet harr hle) hb
    walk_at "go"
    refine rc_reprS sh1 ?_
    show Ws _ _ [.scr ns, .dat (.int (i : Nat)), .own a .pot, .dat (.list (net.map ndD)), .dat (.list (arr.map optD)), .dat (.str (PyData.shown (.list [.list (net.map ndD), .list (arr.map optD)]))), s6, s7, s8] _
    refine ws_seq (ws_asg (ve_cb (va_cons (ve_frozen ?_))))
    walk_at "go"
    refine ⟨_, _, rfl, ⟨hnet, harr⟩, fun c => ⟨_, _, rfl, _, rfl, ?_⟩⟩
    walk_at "go"
    refine rc_reprS sh2 ?_
    show Ws _ _ [.scr ns, .dat (.int (i : Nat)), .own a .pot, .dat (.list (net.map ndD)), .dat (.list (arr.map optD)), .dat (.str (PyData.shown (.list [.list (net.map ndD), .list (arr.map optD)]))), .dat (.str (PyData.shown (.list ((beats net arr).map optD)))), s7, s8] _
    walk_at "go"
    refine ⟨_, _, rfl, ⟨hnet, fun ds e => by cases e; rw [List.length_map]; exact hal⟩, _, rfl, ?_⟩
    rw [arr_ok harr.lo harr.hi harr.nn]
    walk_at "go"
    refine ws_for (vi_range1 ?_)
    walk_at "go"
    refine ⟨by omega, by omega, fun j δ' => ∃ s7 s8, δ' = [.scr ns, .dat (.int (i : Nat)), .own a .pot, .dat (.list (net.map ndD)), .dat (.list (arr.map optD)), .dat (.str (PyData.shown (.list [.list (net.map ndD), .list (arr.map optD)]))), .dat (.str (PyData.shown (.list ((beats net arr).map optD)))), s7, s8], ⟨_, _, rfl⟩, fun j d δ' hd hI => ?_, fun δ' hI => ?_⟩
    · obtain ⟨s7, s8, rfl⟩ := hI
      obtain ⟨hj, rfl⟩ := rangeD_get hd
      refine wg_name ?_
      show Ws _ _ [.scr ns, .dat (.int (i : Nat)), .own a .pot, .dat (.list (net.map ndD)), .dat (.list (arr.map optD)), .dat (.str (PyData.shown (.list [.list (net.map ndD), .list (arr.map optD)]))), .dat (.str (PyData.shown (.list ((beats net arr).map optD)))), .dat (.int (0 + (j : Nat))), s8] _
      walk_at "go"
      refine ⟨_, _, rfl, ⟨hnet, harr⟩, fun c2 => ?_⟩
      show Ws _ _ [.scr ns, .dat (.int (i : Nat)), .own a .pot, .dat (.list (net.map ndD)), .dat (.list (arr.map optD)), .dat (.str (PyData.shown (.list [.list (net.map ndD), .list (arr.map optD)]))), .dat (.str (PyData.shown (.list ((beats net arr).map optD)))), .dat (.int (0 + (j : Nat))), .own c2 (.lst ((beats net arr).map optD))] _
      refine ws_seq (ws_ifNo (vt_or (vt_test (ve_op (ve_tmp (i := 8) rfl ?_)))) (ws_next ?_))
      · show Ve _ _ [.scr ns, .dat (.int (i : Nat)), .own a .pot, .dat (.list (net.map ndD)), .dat (.list (arr.map optD)), .dat (.str (PyData.shown (.list [.list (net.map ndD), .list (arr.map optD)]))), .dat (.str (PyData.shown (.list ((beats net arr).map optD)))), .dat (.int (0 + (j : Nat))), .dat (.list ((beats net arr).map optD))] _
        walk_at "go"
        refine rc_reprS sh2 ⟨_, rfl, rfl, _, rfl, ?_⟩
        walk_at "go"
        rw [eqv_str, decide_eq_true rfl]
        walk_at "go"
        refine rc_reprS sh1 ⟨_, rfl, ?_⟩
        walk_at "go"
        rw [eqv_str, decide_eq_true rfl]
        rfl
      refine ws_seq (ws_append rfl (by rw [List.length_map]; omega) (ve_int ⟨_, rfl, ?_⟩))
      have hne : ixN ((beats net arr).map optD ++ [PyData.int 0]).length 0 = some 0 := by
        unfold ixN
        rw [if_pos (Int.le_refl 0), if_pos (by rw [List.length_append]; simp only [List.length_cons, List.length_nil]; omega)]
        rfl
      refine ws_setOwn (i := 8) rfl hne (ve_str ⟨_, rfl, .dat (.int (0 + (j : Nat))), _, rfl⟩)
    · obtain ⟨s7, s8, rfl⟩ := hI
      exact ⟨_, _, _, _, _, _, _, _, rfl⟩
  · obtain ⟨s1, s2, s3, s4, s5, s6, s7, s8, rfl⟩ := hI
    walk_at "go"
    exact hq

/-! ### the head: facts by names, the run -/
def d_is_from_nought : He.DefD := ⟨("is_from_nought", none), "is_from_nought", "is_from_nought", defArgs s_is_from_nought, defBody s_is_from_nought, defScope s_is_from_nought, [], []⟩
def d_is_part : He.DefD := ⟨("is_part", none), "is_part", "is_part", defArgs s_is_part, defBody s_is_part, defScope s_is_part, [], []⟩
def d_is_node : He.DefD := ⟨("is_node", none), "is_node", "is_node", defArgs s_is_node, defBody s_is_node, defScope s_is_node, [], []⟩
def d_is_net : He.DefD := ⟨("is_net", none), "is_net", "is_net", defArgs s_is_net, defBody s_is_net, defScope s_is_net, [], []⟩
def d_want_net : He.DefD := ⟨("want_net", none), "want_net", "want_net", defArgs s_want_net, defBody s_want_net, defScope s_want_net, [], []⟩
def d_least_arrivals : He.DefD := ⟨("least_arrivals", none), "least_arrivals", "least_arrivals", defArgs s_least_arrivals, defBody s_least_arrivals, defScope s_least_arrivals, [], []⟩
def d_are_arrivals : He.DefD := ⟨("are_arrivals", none), "are_arrivals", "are_arrivals", defArgs s_are_arrivals, defBody s_are_arrivals, defScope s_are_arrivals, [], []⟩
def d_want_arrivals : He.DefD := ⟨("want_arrivals", none), "want_arrivals", "want_arrivals", defArgs s_want_arrivals, defBody s_want_arrivals, defScope s_want_arrivals, [], []⟩
def d_lesser_beat : He.DefD := ⟨("lesser_beat", none), "lesser_beat", "lesser_beat", defArgs s_lesser_beat, defBody s_lesser_beat, defScope s_lesser_beat, [], []⟩
def d_greater_beat : He.DefD := ⟨("greater_beat", none), "greater_beat", "greater_beat", defArgs s_greater_beat, defBody s_greater_beat, defScope s_greater_beat, [], []⟩
def d_unless_beat : He.DefD := ⟨("unless_beat", none), "unless_beat", "unless_beat", defArgs s_unless_beat, defBody s_unless_beat, defScope s_unless_beat, [], []⟩
def d_node_beat : He.DefD := ⟨("node_beat", none), "node_beat", "node_beat", defArgs s_node_beat, defBody s_node_beat, defScope s_node_beat, [], []⟩
def d_net_beats : He.DefD := ⟨("net_beats", none), "net_beats", "net_beats", defArgs s_net_beats, defBody s_net_beats, defScope s_net_beats, [], []⟩
def d_law_pot : He.DefD := ⟨("_law_pot", none), "_law_pot", "_law_pot", defArgs s_law_pot, defBody s_law_pot, defScope s_law_pot, [], []⟩
def d_law_take : He.DefD := ⟨("_law_take", none), "_law_take", "_law_take", defArgs s_law_take, defBody s_law_take, defScope s_law_take, [], []⟩
def d_law_number : He.DefD := ⟨("_law_number", none), "_law_number", "_law_number", defArgs s_law_number, defBody s_law_number, defScope s_law_number, [], []⟩
def d_law_node : He.DefD := ⟨("_law_node", none), "_law_node", "_law_node", defArgs s_law_node, defBody s_law_node, defScope s_law_node, [], []⟩
def d_law_net : He.DefD := ⟨("_law_net", none), "_law_net", "_law_net", defArgs s_law_net, defBody s_law_net, defScope s_law_net, [], []⟩
def d_law_arrivals : He.DefD := ⟨("_law_arrivals", none), "_law_arrivals", "_law_arrivals", defArgs s_law_arrivals, defBody s_law_arrivals, defScope s_law_arrivals, [], []⟩
def d_law_beat : He.DefD := ⟨("_law_beat", none), "_law_beat", "_law_beat", defArgs s_law_beat, defBody s_law_beat, defScope s_law_beat, [], []⟩
def d_law_due : He.DefD := ⟨("_law_due", none), "_law_due", "_law_due", defArgs s_law_due, defBody s_law_due, defScope s_law_due, [], []⟩
def d_law : He.DefD := ⟨("law", none), "law", "law", defArgs s_law, defBody s_law, defScope s_law, [], []⟩
def fns : List He.DefD := [d_is_from_nought, d_is_part, d_is_node, d_is_net, d_want_net, d_least_arrivals, d_are_arrivals, d_want_arrivals, d_lesser_beat, d_greater_beat, d_unless_beat, d_node_beat, d_net_beats, d_law_pot, d_law_take, d_law_number, d_law_node, d_law_net, d_law_arrivals, d_law_beat, d_law_due, d_law]
def tup_TWO_PARTED : List He.Dv := [.str "or", .str "both", .str "unless"]
def exL : List (PySem.W.Frag → Bool) := [fun K => He.tupB K "TWO_PARTED" tup_TWO_PARTED]
def exB (K : PySem.W.Frag) : Bool := (exL.map fun f => f K).all id
def fas : List He.Fa := [.glo "is_from_nought", .glo "is_part", .glo "is_node", .glo "is_net", .glo "want_net", .glo "least_arrivals", .glo "are_arrivals", .glo "want_arrivals", .glo "lesser_beat", .glo "greater_beat", .glo "unless_beat", .glo "node_beat", .glo "net_beats", .glo "_law_pot", .glo "_law_take", .glo "_law_number", .glo "_law_node", .glo "_law_net", .glo "_law_arrivals", .glo "_law_beat", .glo "_law_due", .glo "law", .free "ValueError", .free "all", .free "max", .free "min", .free "range", .free "isinstance", .free "int", .free "divmod", .free "repr", .free "bool", .free "tuple", .free "len", .free "str", .free "list", .free "enumerate", .free "abs", .int "MOST_IN" 5, .int "MOST_ARRIVALS" 6, .glo "FallError", .glo "NoNet", .glo "NoArrivals", .glo "TWO_PARTED"]
abbrev R : PySem.W.OpenRow := PySem.W.OpenLaw.row PySem.Challenge.rw_fallstones_k52_beats_by_parts
abbrev hk : PySem.W.Hook := hookF 4 fas fns exB
def ob (s : PySem.W.SharedT) : He.AlD × Bool := obsF 4 fas fns exB (HandSHeadRun.getT s)
theorem ob_eq (s : PySem.W.SharedT) : ob s = hk.obs s.abs := obsF_eq (HandSHeadRun.getT_eq s)
def looseN : List PySem.Str := ["FallError", "NoNet", "NoArrivals", "MOST_IN", "MOST_ARRIVALS", "TWO_PARTED", "is_from_nought", "is_part", "is_node", "is_net", "want_net", "least_arrivals", "are_arrivals", "want_arrivals", "lesser_beat", "greater_beat", "unless_beat", "node_beat", "net_beats", "_law_pot", "_law_take", "_law_number", "_law_node", "_law_net", "_law_arrivals", "_law_beat", "_law_due"]
theorem run (w : World) : HandSHeadRun.RunEq R (PySem.W.view R.prog [31]) hk ob 2000 looseN w := by
  intro os
  kernel_rfl
theorem tx_of {K : PySem.W.Frag} {h : Heap} {mg : Str → Option Value} (X : K.In h) (G : h.Ns mainGlobals mg) (c : He.SaysD fas fns K) (cx : exB K = true) : Tx K mg :=
  { d_is_from_nought := ⟨He.glo_ok X G (c.fact 0 (f := .glo "is_from_nought") rfl), c.def_ 0 (d := d_is_from_nought) rfl⟩,
    d_is_part := ⟨He.glo_ok X G (c.fact 1 (f := .glo "is_part") rfl), c.def_ 1 (d := d_is_part) rfl⟩,
    d_is_node := ⟨He.glo_ok X G (c.fact 2 (f := .glo "is_node") rfl), c.def_ 2 (d := d_is_node) rfl⟩,
    d_is_net := ⟨He.glo_ok X G (c.fact 3 (f := .glo "is_net") rfl), c.def_ 3 (d := d_is_net) rfl⟩,
    d_want_net := ⟨He.glo_ok X G (c.fact 4 (f := .glo "want_net") rfl), c.def_ 4 (d := d_want_net) rfl⟩,
    d_least_arrivals := ⟨He.glo_ok X G (c.fact 5 (f := .glo "least_arrivals") rfl), c.def_ 5 (d := d_least_arrivals) rfl⟩,
    d_are_arrivals := ⟨He.glo_ok X G (c.fact 6 (f := .glo "are_arrivals") rfl), c.def_ 6 (d := d_are_arrivals) rfl⟩,
    d_want_arrivals := ⟨He.glo_ok X G (c.fact 7 (f := .glo "want_arrivals") rfl), c.def_ 7 (d := d_want_arrivals) rfl⟩,
    d_lesser_beat := ⟨He.glo_ok X G (c.fact 8 (f := .glo "lesser_beat") rfl), c.def_ 8 (d := d_lesser_beat) rfl⟩,
    d_greater_beat := ⟨He.glo_ok X G (c.fact 9 (f := .glo "greater_beat") rfl), c.def_ 9 (d := d_greater_beat) rfl⟩,
    d_unless_beat := ⟨He.glo_ok X G (c.fact 10 (f := .glo "unless_beat") rfl), c.def_ 10 (d := d_unless_beat) rfl⟩,
    d_node_beat := ⟨He.glo_ok X G (c.fact 11 (f := .glo "node_beat") rfl), c.def_ 11 (d := d_node_beat) rfl⟩,
    d_net_beats := ⟨He.glo_ok X G (c.fact 12 (f := .glo "net_beats") rfl), c.def_ 12 (d := d_net_beats) rfl⟩,
    d_law_pot := ⟨He.glo_ok X G (c.fact 13 (f := .glo "_law_pot") rfl), c.def_ 13 (d := d_law_pot) rfl⟩,
    d_law_take := ⟨He.glo_ok X G (c.fact 14 (f := .glo "_law_take") rfl), c.def_ 14 (d := d_law_take) rfl⟩,
    d_law_number := ⟨He.glo_ok X G (c.fact 15 (f := .glo "_law_number") rfl), c.def_ 15 (d := d_law_number) rfl⟩,
    d_law_node := ⟨He.glo_ok X G (c.fact 16 (f := .glo "_law_node") rfl), c.def_ 16 (d := d_law_node) rfl⟩,
    d_law_net := ⟨He.glo_ok X G (c.fact 17 (f := .glo "_law_net") rfl), c.def_ 17 (d := d_law_net) rfl⟩,
    d_law_arrivals := ⟨He.glo_ok X G (c.fact 18 (f := .glo "_law_arrivals") rfl), c.def_ 18 (d := d_law_arrivals) rfl⟩,
    d_law_beat := ⟨He.glo_ok X G (c.fact 19 (f := .glo "_law_beat") rfl), c.def_ 19 (d := d_law_beat) rfl⟩,
    d_law_due := ⟨He.glo_ok X G (c.fact 20 (f := .glo "_law_due") rfl), c.def_ 20 (d := d_law_due) rfl⟩,
    d_law := ⟨He.glo_ok X G (c.fact 21 (f := .glo "law") rfl), c.def_ 21 (d := d_law) rfl⟩,
    m_ValueError := He.free_ok X G (c.fact 22 (f := .free "ValueError") rfl),
    m_all := He.free_ok X G (c.fact 23 (f := .free "all") rfl),
    m_max := He.free_ok X G (c.fact 24 (f := .free "max") rfl),
    m_min := He.free_ok X G (c.fact 25 (f := .free "min") rfl),
    m_range := He.free_ok X G (c.fact 26 (f := .free "range") rfl),
    m_isinstance := He.free_ok X G (c.fact 27 (f := .free "isinstance") rfl),
    m_int := He.free_ok X G (c.fact 28 (f := .free "int") rfl),
    m_divmod := He.free_ok X G (c.fact 29 (f := .free "divmod") rfl),
    m_repr := He.free_ok X G (c.fact 30 (f := .free "repr") rfl),
    m_bool := He.free_ok X G (c.fact 31 (f := .free "bool") rfl),
    m_tuple := He.free_ok X G (c.fact 32 (f := .free "tuple") rfl),
    m_len := He.free_ok X G (c.fact 33 (f := .free "len") rfl),
    m_str := He.free_ok X G (c.fact 34 (f := .free "str") rfl),
    m_list := He.free_ok X G (c.fact 35 (f := .free "list") rfl),
    m_enumerate := He.free_ok X G (c.fact 36 (f := .free "enumerate") rfl),
    m_abs := He.free_ok X G (c.fact 37 (f := .free "abs") rfl),
    c_MOST_IN := He.int_ok X G (c.fact 38 (f := .int "MOST_IN" 5) rfl),
    c_MOST_ARRIVALS := He.int_ok X G (c.fact 39 (f := .int "MOST_ARRIVALS" 6) rfl),
    t_TWO_PARTED := ⟨He.glo_ok X G (c.fact 43 (f := .glo "TWO_PARTED") rfl), fun H => He.tupB_ok (vs := tup_TWO_PARTED) (List.all_eq_true.mp cx _ (List.mem_of_getElem? (i := 0) rfl)) H⟩ }
theorem facts {P : Program} {w : World} {K : PySem.W.Frag} {h : Heap} {mg : Str → Option Value} {f : Addr} (X : K.In h) (G : h.Ns mainGlobals mg) (hfa : mg ("law" : Str) = some (.ref f)) (c : He.SaysD fas fns K) (cx : exB K = true) :
    ∃ fd : FuncData, (∀ (s : Shared) (v : Value), BindsTo s fd ⟨[v], []⟩ [("_law_script", v)]) ∧ ∀ base : Heap, K.In base → base.Ns mainGlobals mg → FnG P w K mg base CX0 9 f fd ["_law_script"] (spD K T_law) := by
  have T := tx_of X G c cx
  obtain ⟨fd, FD⟩ := T.d_law.ex
  have e := hfa.symm.trans T.d_law.g
  cases e
  have b := FunD.bindsA (ps := ["_law_script"]) FD fun _ _ _ _ _ _ us hl => match us, hl with | [_], _ => rfl
  exact ⟨fd, fun s v => b s [v] rfl, fun base _ _ => fnok_law FD T⟩
end Fs
open PySem PySem.W PySem.Calls PyProof.Rows
theorem PySem.Challenge.cw_fallstones_k52_beats_by_parts_holds : PySem.Challenge.rw_fallstones_k52_beats_by_parts.Holds := by
  w_on; o_law
  refine HandSHeadRun.head_any (r := OpenLaw.row PySem.Challenge.rw_fallstones_k52_beats_by_parts) (q := view (OpenLaw.row PySem.Challenge.rw_fallstones_k52_beats_by_parts).prog [31]) (H := Fs.hk) (ob := Fs.ob) (M := 2000) (loose := Fs.looseN) (d := HandSHeadRun.topDef (OpenLaw.row PySem.Challenge.rw_fallstones_k52_beats_by_parts).prog 31) (kwd := []) Fs.ob_eq
    (by kernel_rfl) (fun s => by kernel_rfl) Fs.run (by kernel_rfl) (by kernel_rfl) (by kernel_rfl) (by rfl) (by first | assumption | decide +kernel) (by decide +kernel) ⟨rfl, rfl, rfl, rfl, rfl, by decide +kernel⟩ ?hw ?hc
  case hw => w_witness2
  case hc =>
    refine Fs.walk_G (l := PySem.Challenge.rw_fallstones_k52_beats_by_parts) (n := 63) (k := 9) (x := "_law_script") rfl (by decide) (by kernel_rfl) ⟨rfl, by decide, by decide⟩ ?F
    intro w mg fa h Y G hmg0
    obtain ⟨K, KX, c, cx⟩ := Y
    have hmg : mg ("law" : PySem.Str) = some (.ref fa) := by
      have e : (HandSHeadRun.topDef (OpenLaw.row PySem.Challenge.rw_fallstones_k52_beats_by_parts).prog 31).name = ("law" : PySem.Str) := by kernel_rfl
      rw [← e]
      exact hmg0
    obtain ⟨fd, hb, hF⟩ := Fs.facts (P := (PySem.Challenge.rw_fallstones_k52_beats_by_parts).prog) (w := w) KX G hmg c cx
    exact ⟨K, fd, Fs.spD K Fs.T_law, KX, hb, fun H a ns hl hS => Fs.law_start hl hS fun Q Ed q => ⟨ns, rfl, hl, q⟩, hF⟩
#print axioms PySem.Challenge.cw_fallstones_k52_beats_by_parts_holds
