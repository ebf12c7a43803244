import PyProof.Rows.All
import Wide.All
import OpenK.AllK
import Wide.FinOn
import KE.KStateDown
import HandS.ForMost
import HandS.ForExc
import HandS.Walk
import HandS.IsInst
import HandS.Flow
import HandS.Defaults
import HandS.Wide
import HandS.WideBits
import HandS.Head0
import HandS.Head1
import HandS.Head2
import HandS.HeadEnd
import HandS.HeadHook1
import HandS.HeadHook2
import KE.BitLaws
import PySem.Challenge.RW_fallstones_k71_falls_on_rows
set_option Elab.async false
set_option linter.all false
set_option maxRecDepth 100000
set_option maxHeartbeats 4000000
/-! A layer of data over HandS: slots hold data (PyData), owned lists, pots; what an expression, a test, a statement does is told by data alone. -/
namespace Fs
open PySem PySem.Spec PyProof.Rows L2

/-! ### heaps and data -/
theorem seqT {K : PySem.W.Frag} {H H' : Hp} {a : Addr} {xs : List V} (e : Same H H') (h : SqT K H a xs) : SqT K H' a xs := by
  rcases h with (h | ⟨o, h⟩) | h
  · exact .inl (.inl (e _ _ h))
  · exact .inl (.inr ⟨o, e _ _ h⟩)
  · exact .inr h
theorem same_new {H : Hp} {p : Addr} {o : HO} (h : H p = none) : Same H (upd H p o) := fun b x e => by
  rw [upd_ne (ne_of_none e h)]
  exact e
theorem same_mut {F H : Hp} {p : Addr} {o : HO} (e : Same F H) (h : F p = none) : Same F (upd H p o) := fun a u ha => by
  rw [upd_ne (ne_of_none ha h)]
  exact e a u ha
/-! data at a value: lists stand as they are -/
mutual
inductive Rp (K : PySem.W.Frag) (F : Hp) : V → PyData → Prop
  | non : Rp K F .non .none
  | bl (b : Bool) : Rp K F (.bl b) (.bool b)
  | int (i : Int) : Rp K F (.int i) (.int i)
  | str (x : Str) : Rp K F (.str x) (.str x)
  | lst {a : Addr} {xs : List V} {ds : List PyData} : F a = some (.lst xs) → RpAll K F xs ds → Rp K F (.ref a) (.list ds)
  | tup {a : Addr} {xs : List V} {ds : List PyData} : SqT K F a xs → RpAll K F xs ds → Rp K F (.ref a) (.tuple ds)
inductive RpAll (K : PySem.W.Frag) (F : Hp) : List V → List PyData → Prop
  | nil : RpAll K F [] []
  | cons {v : V} {vs : List V} {d : PyData} {ds : List PyData} : Rp K F v d → RpAll K F vs ds → RpAll K F (v :: vs) (d :: ds)
end
mutual
theorem rp_dp {K : PySem.W.Frag} {F H : Hp} (e : Same F H) : ∀ {v : V} {d : PyData}, Rp K F v d → Dp K H v d
  | _, _, .non => .non
  | _, _, .bl b => .bl b
  | _, _, .int i => .int i
  | _, _, .str x => .str x
  | _, _, .lst h a => .lst (.inl (.inl (e _ _ h))) (rps_dps e a)
  | _, _, .tup h a => .tup (seqT e h) (rps_dps e a)
theorem rps_dps {K : PySem.W.Frag} {F H : Hp} (e : Same F H) : ∀ {vs : List V} {ds : List PyData}, RpAll K F vs ds → DpAll K H vs ds
  | _, _, .nil => .nil
  | _, _, .cons h t => .cons (rp_dp e h) (rps_dps e t)
end
mutual
theorem rp_mono {K : PySem.W.Frag} {F F' : Hp} (e : Same F F') : ∀ {v : V} {d : PyData}, Rp K F v d → Rp K F' v d
  | _, _, .non => .non
  | _, _, .bl b => .bl b
  | _, _, .int i => .int i
  | _, _, .str x => .str x
  | _, _, .lst h a => .lst (e _ _ h) (rps_mono e a)
  | _, _, .tup h a => .tup (seqT e h) (rps_mono e a)
theorem rps_mono {K : PySem.W.Frag} {F F' : Hp} (e : Same F F') : ∀ {vs : List V} {ds : List PyData}, RpAll K F vs ds → RpAll K F' vs ds
  | _, _, .nil => .nil
  | _, _, .cons h t => .cons (rp_mono e h) (rps_mono e t)
end
theorem rps_len {K : PySem.W.Frag} {F : Hp} : ∀ {vs : List V} {ds : List PyData}, RpAll K F vs ds → vs.length = ds.length
  | _, _, .nil => rfl
  | _, _, .cons _ t => congrArg Nat.succ (rps_len t)
theorem rps_get {K : PySem.W.Frag} {F : Hp} : ∀ {vs : List V} {ds : List PyData} {i : Nat} {d : PyData}, RpAll K F vs ds → ds[i]? = some d → ∃ v, vs[i]? = some v ∧ Rp K F v d
  | _, _, _, _, .nil, h => by simp at h
  | _, _, 0, _, .cons h _, e => by simp at e; subst e; exact ⟨_, rfl, h⟩
  | _, _, i + 1, _, .cons _ t, e => by
    obtain ⟨v, h1, h2⟩ := rps_get (i := i) t (by simpa using e)
    exact ⟨v, by simpa using h1, h2⟩
theorem rps_get' {K : PySem.W.Frag} {F : Hp} : ∀ {vs : List V} {ds : List PyData} {i : Nat} {v : V}, RpAll K F vs ds → vs[i]? = some v → ∃ d, ds[i]? = some d ∧ Rp K F v d
  | _, _, _, _, .nil, h => by simp at h
  | _, _, 0, _, .cons h _, e => by simp at e; subst e; exact ⟨_, rfl, h⟩
  | _, _, i + 1, _, .cons _ t, e => by
    obtain ⟨v, h1, h2⟩ := rps_get' (i := i) t (by simpa using e)
    exact ⟨v, by simpa using h1, h2⟩
theorem rps_app {K : PySem.W.Frag} {F : Hp} : ∀ {vs ws : List V} {ds es : List PyData}, RpAll K F vs ds → RpAll K F ws es → RpAll K F (vs ++ ws) (ds ++ es)
  | _, _, _, _, .nil, h => h
  | _, _, _, _, .cons h t, h' => .cons h (rps_app t h')
theorem rps_drop {K : PySem.W.Frag} {F : Hp} : ∀ (n : Nat) {vs : List V} {ds : List PyData}, RpAll K F vs ds → RpAll K F (vs.drop n) (ds.drop n)
  | 0, _, _, h => h
  | _ + 1, _, _, .nil => .nil
  | n + 1, _, _, .cons _ t => rps_drop n t
theorem rps_take {K : PySem.W.Frag} {F : Hp} : ∀ (n : Nat) {vs : List V} {ds : List PyData}, RpAll K F vs ds → RpAll K F (vs.take n) (ds.take n)
  | 0, _, _, _ => .nil
  | _ + 1, _, _, .nil => .nil
  | n + 1, _, _, .cons h t => .cons h (rps_take n t)
theorem rps_ints {K : PySem.W.Frag} {F : Hp} : ∀ {vs : List V} {ns : List Int}, RpAll K F vs (ns.map PyData.int) → vs = ns.map V.int
  | _, [], .nil => rfl
  | _, _ :: _, .cons h t => by cases h; rw [rps_ints t]; rfl
theorem ints_rps {K : PySem.W.Frag} {F : Hp} : ∀ (ns : List Int), RpAll K F (ns.map V.int) (ns.map PyData.int)
  | [] => .nil
  | _ :: r => .cons (.int _) (ints_rps r)
theorem rps_bls {K : PySem.W.Frag} {F : Hp} : ∀ {vs : List V} {ns : List Bool}, RpAll K F vs (ns.map PyData.bool) → vs = ns.map V.bl
  | _, [], .nil => rfl
  | _, _ :: _, .cons h t => by cases h; rw [rps_bls t]; rfl
theorem rps_strs {K : PySem.W.Frag} {F : Hp} : ∀ {vs : List V} {ns : List Str}, RpAll K F vs (ns.map PyData.str) → vs = ns.map V.str
  | _, [], .nil => rfl
  | _, _ :: _, .cons h t => by cases h; rw [rps_strs t]; rfl

/-! ### slots -/
/-- what an owned object holds: a list of data; a pot: two ints -/
inductive Ct where
  | lst (ds : List PyData)
  | pot
/-- a slot: nothing known; data; an owned object at an address -/
inductive Sl where
  | no
  | dat (d : PyData)
  | own (a : Addr) (c : Ct)
  | scr (ns : List Int)
structure Bx where
  K : PySem.W.Frag
  H0 : Hp
  F0 : Hp
  P : List Addr
  E : XK
  Ed : Addr → Prop
abbrev PotY := { y : Int // 0 ≤ y ∧ y < 2 ^ 40 }
def IsPot (H : Hp) (a : Addr) : Prop := ∃ (x : Int) (y : PotY), H a = some (.lst [.int x, .int y.1])
def CtOk (K : PySem.W.Frag) (F : Hp) : Ct → HO → Prop
  | .lst ds, o => ∃ vs, o = .lst vs ∧ RpAll K F vs ds
  | .pot, o => ∃ (x : Int) (y : PotY), o = .lst [.int x, .int y.1]
theorem CtOk.mono {K : PySem.W.Frag} {F F' : Hp} {c : Ct} {o : HO} (e : Same F F') (h : CtOk K F c o) : CtOk K F' c o := by
  cases c with
  | lst ds => obtain ⟨vs, rfl, h⟩ := h; exact ⟨vs, rfl, rps_mono e h⟩
  | pot => exact h
structure Wd (b : Bx) (F H : Hp) : Prop where
  ex : Same F H
  f0 : Same b.F0 F
  grow : ∀ a, b.H0 a ≠ none → F a = b.F0 a
  keep : ∀ a o, b.H0 a = some o → a ∉ b.P → H a = some o
  pots : ∀ a ∈ b.P, IsPot H a
  potf : ∀ a ∈ b.P, F a = none
  ph : ∀ a ∈ b.P, b.H0 a ≠ none
def SlOk (b : Bx) (F H : Hp) (ov : Option (Option V)) : Sl → Prop
  | .no => True
  | .dat d => ∃ v, ov = some (some v) ∧ Rp b.K F v d
  | .scr ns => ∃ a, ov = some (some (.ref a)) ∧ SqL b.K F a (ns.map V.int)
  | .own a c => ov = some (some (.ref a)) ∧ F a = none ∧ (b.H0 a = none ∨ (a ∈ b.P ∧ c = .pot)) ∧ ∃ o, H a = some o ∧ CtOk b.K F c o
structure Rs (b : Bx) (F H : Hp) (σ : L2.St) (δ : List Sl) : Prop where
  wd : Wd b F H
  len : σ.length = δ.length
  slot : ∀ (i : Nat) s, δ[i]? = some s → SlOk b F H (σ[i]?) s
  apart : ∀ (i j : Nat) a c c', δ[i]? = some (.own a c) → δ[j]? = some (.own a c') → i = j
  er : ∀ F' H' C, Wd b F' H' → b.Ed C → b.E (.ref C) none H'
/-- a step: what is frozen stays, new frozen things are new, all but the pots of δ stays -/
structure Stp (δ : List Sl) (F H F' H' : Hp) : Prop where
  sf : Same F F'
  ex : Same F' H'
  gr : ∀ a, H a ≠ none → F' a = F a
  ch : ∀ a o, H a = some o → (∀ j : Nat, δ[j]? ≠ some (.own a .pot)) → H' a = some o
  pt : ∀ (j : Nat) a, δ[j]? = some (.own a .pot) → IsPot H' a
def ResOk (K : PySem.W.Frag) (H F' H' : Hp) (v : V) : Sl → Prop
  | .no => False
  | .scr _ => False
  | .dat d => Rp K F' v d
  | .own a c => v = .ref a ∧ F' a = none ∧ H a = none ∧ ∃ o, H' a = some o ∧ CtOk K F' c o
section
variable {b : Bx} {F F' F1 F2 H H' H1 H2 : Hp} {σ : L2.St} {δ : List Sl}
theorem Rs.pot_at (r : Rs b F H σ δ) {j : Nat} {a : Addr} (h : δ[j]? = some (.own a .pot)) : IsPot H a := by
  obtain ⟨_, _, _, o, h1, x, y, rfl⟩ := r.slot j _ h
  exact ⟨x, y, h1⟩
theorem Rs.refl (r : Rs b F H σ δ) : Stp δ F H F H :=
  ⟨.refl _, r.wd.ex, fun _ _ => rfl, fun _ _ h _ => h, fun _ _ h => r.pot_at h⟩
theorem Stp.dom (s : Stp δ F H F' H') (a : Addr) (h : H a ≠ none) : H' a ≠ none := by
  cases e : H a with
  | none => exact absurd e h
  | some o =>
    by_cases hp : ∃ j : Nat, δ[j]? = some (.own a .pot)
    · obtain ⟨j, hj⟩ := hp
      obtain ⟨x, y, q⟩ := s.pt j a hj
      rw [q]; exact fun z => nomatch z
    · rw [s.ch a o e (fun j hj => hp ⟨j, hj⟩)]; exact fun z => nomatch z
theorem Stp.trans (s : Stp δ F H F1 H1) (t : Stp δ F1 H1 F2 H2) : Stp δ F H F2 H2 where
  sf := s.sf.trans t.sf
  ex := t.ex
  gr := fun a h => (t.gr a (s.dom a h)).trans (s.gr a h)
  ch := fun a o h n => t.ch a o (s.ch a o h n) n
  pt := t.pt
theorem Stp.back (s : Stp δ F H F' H') {a : Addr} (h : H' a = none) : H a = none := by
  cases e : H a with
  | none => rfl
  | some o => exact absurd h (s.dom a (by rw [e]; exact fun z => nomatch z))
theorem Wd.step (w : Wd b F H) (sl : ∀ (j : Nat) a, δ[j]? = some (.own a .pot) → b.H0 a = none ∨ a ∈ b.P) (s : Stp δ F H F' H') : Wd b F' H' where
  ex := s.ex
  f0 := w.f0.trans s.sf
  grow := fun a h => by
    have hH : H a ≠ none ∨ a ∈ b.P := by
      by_cases hp : a ∈ b.P
      · exact .inr hp
      · cases e : b.H0 a with
        | none => exact absurd e h
        | some o => exact .inl (by rw [w.keep a o e hp]; exact fun z => nomatch z)
    rcases hH with hH | hP
    · rw [s.gr a hH, w.grow a h]
    · obtain ⟨x, y, q⟩ := w.pots a hP
      rw [s.gr a (by rw [q]; exact fun z => nomatch z), w.grow a h]
  keep := fun a o h hp => s.ch a o (w.keep a o h hp) fun j hj => by
    rcases sl j a hj with z | z
    · rw [h] at z; cases z
    · exact hp z
  pots := fun a hp => by
    by_cases q : ∃ j : Nat, δ[j]? = some (.own a .pot)
    · obtain ⟨j, hj⟩ := q
      exact s.pt j a hj
    · obtain ⟨x, y, h⟩ := w.pots a hp
      exact ⟨x, y, s.ch a _ h fun j hj => q ⟨j, hj⟩⟩
  potf := fun a hp => by
    obtain ⟨x, y, q⟩ := w.pots a hp
    rw [s.gr a (by rw [q]; exact fun z => nomatch z)]
    exact w.potf a hp
  ph := w.ph
theorem Rs.psl (r : Rs b F H σ δ) (j : Nat) (a : Addr) (h : δ[j]? = some (.own a .pot)) : b.H0 a = none ∨ a ∈ b.P := by
  obtain ⟨_, _, z, _⟩ := r.slot j _ h
  rcases z with z | z
  · exact .inl z
  · exact .inr z.1
theorem Rs.step (r : Rs b F H σ δ) (s : Stp δ F H F' H') : Rs b F' H' σ δ where
  wd := r.wd.step r.psl s
  len := r.len
  slot := fun i sl h => by
    have q := r.slot i sl h
    cases sl with
    | no => trivial
    | dat d =>
      obtain ⟨v, h1, h2⟩ := q
      exact ⟨v, h1, rp_mono s.sf h2⟩
    | scr ns =>
      obtain ⟨a, h1, h2⟩ := q
      exact ⟨a, h1, s.sf.seq h2⟩
    | own a c =>
      obtain ⟨h1, h2, h3, o, h4, h5⟩ := q
      refine ⟨h1, ?_, h3, ?_⟩
      · rw [s.gr a (by rw [h4]; exact fun z => nomatch z)]; exact h2
      · cases c with
        | pot =>
          obtain ⟨x, y, e⟩ := s.pt i a h
          exact ⟨_, e, x, y, rfl⟩
        | lst ds =>
          refine ⟨o, s.ch a o h4 fun j hj => ?_, h5.mono s.sf⟩
          have e := r.apart i j a _ _ h hj
          subst e
          rw [h] at hj
          cases hj
  apart := r.apart
  er := r.er
/-- a new object -/
theorem Rs.new (r : Rs b F H σ δ) {p : Addr} {o : HO} (h : H p = none) : Stp δ F H F (upd H p o) where
  sf := .refl _
  ex := r.wd.ex.trans (same_new h)
  gr := fun _ _ => rfl
  ch := fun a u e _ => same_new h a u e
  pt := fun j a q => by
    obtain ⟨x, y, e⟩ := r.pot_at q
    exact ⟨x, y, same_new h a _ e⟩
/-- a new object, frozen -/
theorem Rs.frz (r : Rs b F H σ δ) {p : Addr} {o : HO} (h : H p = none) : Stp δ F H (upd F p o) (upd H p o) where
  sf := same_new (Same.free r.wd.ex h)
  ex := fun a u e => by
    by_cases q : a = p
    · subst q; rw [upd_same] at e ⊢; exact e
    · rw [upd_ne q] at e ⊢; exact r.wd.ex a u e
  gr := fun a n => upd_ne fun e => n (by rw [e]; exact h)
  ch := fun a u e _ => same_new h a u e
  pt := fun j a q => by
    obtain ⟨x, y, e⟩ := r.pot_at q
    exact ⟨x, y, same_new h a _ e⟩
/-- an object that stands new in H' is frozen -/
theorem Stp.freeze (s : Stp δ F H F' H') {p : Addr} {o : HO} (h : H p = none) (n : F' p = none) (e : H' p = some o) : Stp δ F H (upd F' p o) H' where
  sf := s.sf.trans (same_new n)
  ex := fun a u q => by
    by_cases z : a = p
    · subst z; rw [upd_same] at q; rw [← q]; exact e
    · rw [upd_ne z] at q; exact s.ex a u q
  gr := fun a m => (upd_ne fun z => m (by rw [z]; exact h)).trans (s.gr a m)
  ch := s.ch
  pt := s.pt
end
end Fs

namespace Fs
open PySem PySem.Spec PyProof.Rows L2

/-! ### what an expression, a test, arguments, a walked thing, a target, a statement do -/
def Ve (b : Bx) (te : TE) (δ : List Sl) (Q : Sl → Prop) : Prop := ∀ F H σ, Rs b F H σ δ → ∀ k : VK, (∀ F' H' v s, Stp δ F H F' H' → ResOk b.K H F' H' v s → Q s → k v H') → te σ H k
def Vt (b : Bx) (tt : TT) (δ : List Sl) (Q : Bool → Prop) : Prop := ∀ F H σ, Rs b F H σ δ → ∀ k : Bool → Hp → Prop, (∀ F' H' c, Stp δ F H F' H' → Q c → k c H') → tt σ H k
/-- an argument: data, the script, a pot of a slot -/
def ArgOk (K : PySem.W.Frag) (δ : List Sl) (F : Hp) (v : V) : Sl → Prop
  | .no => False
  | .dat d => Rp K F v d
  | .scr ns => ∃ a, v = .ref a ∧ SqL K F a (ns.map V.int)
  | .own a (.lst _) => False
  | .own a .pot => v = .ref a ∧ ∃ j : Nat, δ[j]? = some (.own a .pot)
inductive ArgsOk (K : PySem.W.Frag) (δ : List Sl) (F : Hp) : List V → List Sl → Prop
  | nil : ArgsOk K δ F [] []
  | cons {v : V} {s : Sl} {vs : List V} {ss : List Sl} : ArgOk K δ F v s → ArgsOk K δ F vs ss → ArgsOk K δ F (v :: vs) (s :: ss)
theorem ArgOk.mono {K : PySem.W.Frag} {δ : List Sl} {F F' : Hp} {v : V} {s : Sl} (e : Same F F') (h : ArgOk K δ F v s) : ArgOk K δ F' v s := by
  cases s with
  | no => exact h
  | dat d => exact rp_mono e h
  | scr ns => obtain ⟨a, h1, h2⟩ := h; exact ⟨a, h1, e.seq h2⟩
  | own a c => cases c <;> exact h
def Va (b : Bx) (ta : TA) (δ : List Sl) (Q : List Sl → Prop) : Prop := ∀ F H σ, Rs b F H σ δ → ∀ k : List V → Hp → Prop, (∀ F' H' vs ss, Stp δ F H F' H' → ArgsOk b.K δ F' vs ss → Q ss → k vs H') → ta σ H k
/-- an iterator that gives the data ds -/
structure WalkD (K : PySem.W.Frag) (F : Hp) (J : It) (ds : List PyData) : Prop where
  goes : ∀ i H, i < ds.length → Same F H → J.go i H
  stops : ∀ H, Same F H → J.stop ds.length H
  yields : ∀ (i : Nat) H x H' d, ds[i]? = some d → Same F H → J.yld i H x H' → (H' = H ∧ Rp K F x d) ∨ ∃ T vs es, x = .ref T ∧ H T = none ∧ H' = upd H T (.tup vs) ∧ RpAll K F vs es ∧ d = .tuple es
def Vi (b : Bx) (wi : TI) (δ : List Sl) (Q : List PyData → Prop) : Prop := ∀ F H σ, Rs b F H σ δ → ∀ k : It → Hp → Prop, (∀ F' H' J ds, Stp δ F H F' H' → WalkD b.K F' J ds → Q ds → k J H') → wi σ H k
/-- a target takes data -/
def Wg (b : Bx) (g : TG) (d : PyData) (δ : List Sl) (Q : List Sl → Prop) : Prop := ∀ F H σ v, Rs b F H σ δ → Rp b.K F v d → ∀ k : L2.St → Hp → Prop, (∀ F' H' σ' δ', Same F F' → Rs b F' H' σ' δ' → Q δ' → k σ' H') → g v σ H k
structure Po where
  nx : List Sl → Prop
  rt : Sl → Prop
  bk : List Sl → Prop := fun _ => False
  ct : List Sl → Prop := fun _ => False
def ResR (b : Bx) (F' H' : Hp) (v : V) : Sl → Prop
  | .no => False
  | .scr _ => False
  | .dat d => Rp b.K F' v d
  | .own a c => v = .ref a ∧ F' a = none ∧ b.H0 a = none ∧ ∃ o, H' a = some o ∧ CtOk b.K F' c o
structure EndsOk (b : Bx) (F : Hp) (p : Po) (D : Ends) : Prop where
  nx : ∀ F' H' σ' δ', Same F F' → Rs b F' H' σ' δ' → p.nx δ' → D.nx σ' H'
  bk : ∀ F' H' σ' δ', Same F F' → Rs b F' H' σ' δ' → p.bk δ' → D.bk σ' H'
  ct : ∀ F' H' σ' δ', Same F F' → Rs b F' H' σ' δ' → p.ct δ' → D.ct σ' H'
  rt : ∀ F' H' v s, Wd b F' H' → ResR b F' H' v s → p.rt s → D.rt v H'
theorem EndsOk.mono {b : Bx} {F F' : Hp} {p : Po} {D : Ends} (e : Same F F') (h : EndsOk b F p D) : EndsOk b F' p D :=
  ⟨fun _ _ _ _ s => h.nx _ _ _ _ (e.trans s), fun _ _ _ _ s => h.bk _ _ _ _ (e.trans s), fun _ _ _ _ s => h.ct _ _ _ _ (e.trans s), h.rt⟩
def Ws (b : Bx) (ts : TS) (δ : List Sl) (p : Po) : Prop := ∀ F H σ D, Rs b F H σ δ → EndsOk b F p D → ts D σ H

section
variable {b : Bx} {δ : List Sl} {Q : Sl → Prop} {R : Bool → Prop} {te ta tb tc : TE} {t u : TT}

theorem Ve.mono {Q' : Sl → Prop} (h : Ve b te δ Q) (q : ∀ s, Q s → Q' s) : Ve b te δ Q' := fun F H σ r k hk => h F H σ r k fun F' H' v s st ro qs => hk F' H' v s st ro (q s qs)
theorem Vt.mono {Q' : Bool → Prop} (h : Vt b t δ R) (q : ∀ s, R s → Q' s) : Vt b t δ Q' := fun F H σ r k hk => h F H σ r k fun F' H' c st qs => hk F' H' c st (q c qs)
/-! ### names, constants -/
theorem ve_var {i : Nat} {d : PyData} (h : δ[i]? = some (.dat d)) (q : Q (.dat d)) : Ve b (tVar i) δ Q := fun F H σ r k hk => by
  obtain ⟨v, h1, h2⟩ := r.slot i _ h
  exact ⟨v, h1, hk F H v (.dat d) r.refl h2 q⟩
theorem ve_int {i : Int} (q : Q (.dat (.int i))) : Ve b (tC (.int i)) δ Q := fun F H σ r k hk => hk F H _ (.dat _) r.refl (Rp.int i) q
theorem ve_str {x : Str} (q : Q (.dat (.str x))) : Ve b (tC (.str x)) δ Q := fun F H σ r k hk => hk F H _ (.dat _) r.refl (Rp.str x) q
theorem ve_bl {x : Bool} (q : Q (.dat (.bool x))) : Ve b (tC (.bl x)) δ Q := fun F H σ r k hk => hk F H _ (.dat _) r.refl (Rp.bl x) q
theorem ve_non (q : Q (.dat .none)) : Ve b (tC .non) δ Q := fun F H σ r k hk => hk F H _ (.dat _) r.refl Rp.non q
/-- a global that is a tuple of the written part -/
theorem ve_tupK {a : Addr} {vs : List V} {ds : List PyData} (h : ∀ H, SqT b.K H a vs) (hd : ∀ F, RpAll b.K F vs ds) (q : Q (.dat (.tuple ds))) : Ve b (tC (.ref a)) δ Q := fun F H σ r k hk => hk F H _ (.dat _) r.refl (Rp.tup (h F) (hd F)) q

/-! ### two operands -/
/-- a two-place rule over data -/
def Ro (b : Bx) (δ : List Sl) (r : R2) (x y : PyData) (Q : Sl → Prop) : Prop := ∀ F H σ vx vy, Rs b F H σ δ → Rp b.K F vx x → Rp b.K F vy y → ∀ k : VK, (∀ F' H' v s, Stp δ F H F' H' → ResOk b.K H F' H' v s → Q s → k v H') → r vx vy H k
def Ru (b : Bx) (δ : List Sl) (r : V → Hp → VK → Prop) (x : PyData) (Q : Sl → Prop) : Prop := ∀ F H σ vx, Rs b F H σ δ → Rp b.K F vx x → ∀ k : VK, (∀ F' H' v s, Stp δ F H F' H' → ResOk b.K H F' H' v s → Q s → k v H') → r vx H k
theorem ResOk.back {K : PySem.W.Frag} {F H F1 H1 H2 F2 : Hp} {v : V} {s : Sl} (st : Stp δ F H F1 H1) (h : ResOk K H1 F2 H2 v s) : ResOk K H F2 H2 v s := by
  cases s with
  | no => exact h
  | scr _ => exact h
  | dat d => exact h
  | own a c => obtain ⟨h1, h2, h3, h4⟩ := h; exact ⟨h1, h2, st.back h3, h4⟩
theorem ve_op {r : R2} (h : Ve b ta δ fun s => ∃ x, s = .dat x ∧ Ve b tb δ fun s' => ∃ y, s' = .dat y ∧ Ro b δ r x y Q) : Ve b (tOp r ta tb) δ Q := fun F H σ rs k hk =>
  h F H σ rs _ fun F1 H1 v1 s1 st1 ro1 ⟨x, e1, q1⟩ => by
    subst e1
    refine q1 F1 H1 σ (rs.step st1) _ fun F2 H2 v2 s2 st2 ro2 ⟨y, e2, q2⟩ => ?_
    subst e2
    refine q2 F2 H2 σ v1 v2 ((rs.step st1).step st2) (rp_mono st2.sf ro1) ro2 _ fun F3 H3 v s st3 ro qs => ?_
    exact hk F3 H3 v s ((st1.trans st2).trans st3) (ro.back (st1.trans st2)) qs
theorem ve_un {r : V → Hp → VK → Prop} (h : Ve b ta δ fun s => ∃ x, s = .dat x ∧ Ru b δ r x Q) : Ve b (tUn r ta) δ Q := fun F H σ rs k hk =>
  h F H σ rs _ fun F1 H1 v1 s1 st1 ro1 ⟨x, e1, q1⟩ => by
    subst e1
    refine q1 F1 H1 σ v1 (rs.step st1) ro1 _ fun F3 H3 v s st3 ro qs => ?_
    exact hk F3 H3 v s (st1.trans st3) (ro.back st1) qs
theorem ve_chain {r r' : R2} (h : Ve b ta δ fun s => ∃ x, s = .dat x ∧ Ve b tb δ fun s' => ∃ y, s' = .dat y ∧ Ro b δ r x y fun s => ∃ c, s = .dat (.bool c) ∧
    (c = true → Ve b tc δ fun s'' => ∃ z, s'' = .dat z ∧ Ro b δ r' y z Q) ∧ (c = false → Q (.dat (.bool false)))) : Ve b (tChain r r' ta tb tc) δ Q := fun F H σ rs k hk =>
  h F H σ rs _ fun F1 H1 v1 s1 st1 ro1 ⟨x, e1, q1⟩ => by
    subst e1
    refine q1 F1 H1 σ (rs.step st1) _ fun F2 H2 v2 s2 st2 ro2 ⟨y, e2, q2⟩ => ?_
    subst e2
    refine q2 F2 H2 σ v1 v2 ((rs.step st1).step st2) (rp_mono st2.sf ro1) ro2 _ fun F3 H3 v3 s3 st3 ro3 ⟨c, e3, q3, q4⟩ => ?_
    subst e3
    cases ro3
    have st := (st1.trans st2).trans st3
    refine ⟨c, rfl, ?_⟩
    cases c with
    | false => exact iteF (hk F3 H3 _ (.dat _) st (Rp.bl false) (q4 rfl))
    | true =>
      refine iteT (q3 rfl F3 H3 σ (rs.step st) _ fun F4 H4 v4 s4 st4 ro4 ⟨z, e4, q5⟩ => ?_)
      subst e4
      refine q5 F4 H4 σ v2 v4 ((rs.step st).step st4) (rp_mono (st3.sf.trans st4.sf) ro2) ro4 _ fun F5 H5 v s st5 ro qs => ?_
      exact hk F5 H5 v s ((st.trans st4).trans st5) (ro.back (st.trans st4)) qs
/-- a plain answer -/
theorem pure_ro {r : R2} {x y z : PyData} {v : V} (hv : ∀ F, Rp b.K F v z) (h : ∀ F H vx vy, Rp b.K F vx x → Rp b.K F vy y → Same F H → ∀ k : VK, k v H → r vx vy H k) (q : Q (.dat z)) : Ro b δ r x y Q := fun F H σ vx vy rs hx hy k hk =>
  h F H vx vy hx hy rs.wd.ex k (hk F H v (.dat z) rs.refl (hv F) q)
theorem ro_I0 {g : Int → Int → Int} {i j : Int} (q : Q (.dat (.int (g i j)))) : Ro b δ (rI0 fun i j => .int (g i j)) (.int i) (.int j) Q :=
  pure_ro (fun _ => Rp.int _) (fun F H vx vy hx hy _ k hk => by cases hx; cases hy; exact ⟨i, j, rfl, rfl, hk⟩) q
theorem ro_I {C : Int → Int → Prop} {g : Int → Int → Int} {i j : Int} (c : C i j) (q : Q (.dat (.int (g i j)))) : Ro b δ (rI C fun i j => .int (g i j)) (.int i) (.int j) Q :=
  pure_ro (fun _ => Rp.int _) (fun F H vx vy hx hy _ k hk => by cases hx; cases hy; exact ⟨i, j, rfl, rfl, c, hk⟩) q
theorem ro_B0 {g : Int → Int → Bool} {i j : Int} (q : Q (.dat (.bool (g i j)))) : Ro b δ (rI0 fun i j => .bl (g i j)) (.int i) (.int j) Q :=
  pure_ro (fun _ => Rp.bl _) (fun F H vx vy hx hy _ k hk => by cases hx; cases hy; exact ⟨i, j, rfl, rfl, hk⟩) q
theorem ru_U {g : Int → Int} {i : Int} (q : Q (.dat (.int (g i)))) : Ru b δ (rU fun i => .int (g i)) (.int i) Q := fun F H σ vx rs hx k hk => by
  cases hx
  exact ⟨i, rfl, hk F H _ (.dat _) rs.refl (Rp.int _) q⟩
theorem ro_eqD {x y : PyData} (hx : SeqAt.shaped x = true) (hy : SeqAt.shaped y = true) (q : Q (.dat (.bool (PyData.eqv x y)))) : Ro b δ (rEqD b.K) x y Q :=
  pure_ro (fun _ => Rp.bl _) (fun F H vx vy h1 h2 e k hk => ⟨x, y, rp_dp e h1, rp_dp e h2, hx, hy, hk⟩) q
theorem ro_neD {x y : PyData} (hx : SeqAt.shaped x = true) (hy : SeqAt.shaped y = true) (q : Q (.dat (.bool (!PyData.eqv x y)))) : Ro b δ (rNeD b.K) x y Q :=
  pure_ro (fun _ => Rp.bl _) (fun F H vx vy h1 h2 e k hk => ⟨x, y, rp_dp e h1, rp_dp e h2, hx, hy, hk⟩) q
/-! is None -/
def rIsNo : R2 := fun x y H Q => y = .non ∧ Q (.bl (decide (x = .non))) H
def rNotNo : R2 := fun x y H Q => y = .non ∧ Q (.bl (!decide (x = .non))) H
theorem op_isNo {X : Cx} : OpR X (compareOp .Is) rIsNo := op_isN
theorem op_notNo {X : Cx} : OpR X (compareOp .IsNot) rNotNo := op_notN
def isNo : PyData → Bool
  | .none => true
  | _ => false
theorem isNo_eq {K : PySem.W.Frag} {F : Hp} {v : V} {d : PyData} (h : Rp K F v d) : decide (v = .non) = isNo d := by
  cases h <;> rfl
theorem ro_isNo {x : PyData} (q : Q (.dat (.bool (isNo x)))) : Ro b δ rIsNo x .none Q := fun F H σ vx vy rs hx hy k hk => by
  cases hy
  exact ⟨rfl, by rw [isNo_eq hx]; exact hk F H _ (.dat _) rs.refl (Rp.bl _) q⟩
theorem ro_notNo {x : PyData} (q : Q (.dat (.bool (!isNo x)))) : Ro b δ rNotNo x .none Q := fun F H σ vx vy rs hx hy k hk => by
  cases hy
  exact ⟨rfl, by rw [isNo_eq hx]; exact hk F H _ (.dat _) rs.refl (Rp.bl _) q⟩
/-! subscripts -/
theorem at_rps {K : PySem.W.Frag} {F : Hp} {xs : List V} {ds : List PyData} {i : Int} {d : PyData} (ha : RpAll K F xs ds) (h : atI ds i = some d) : ∃ v, atI xs i = some v ∧ Rp K F v d := by
  have e : ixN xs.length i = ixN ds.length i := by rw [rps_len ha]
  unfold atI at h ⊢
  cases q1 : ixN ds.length i with
  | none => rw [q1] at h; cases h
  | some j =>
    rw [q1] at h
    obtain ⟨v, h1, h2⟩ := rps_get ha (show ds[j]? = some d from h)
    exact ⟨v, by rw [e, q1]; exact h1, h2⟩
theorem ro_ixL {ds : List PyData} {i : Int} {d : PyData} (h : atI ds i = some d) (q : Q (.dat d)) : Ro b δ (rIx b.K) (.list ds) (.int i) Q := fun F H σ vx vy rs hx hy k hk => by
  cases hy
  cases hx with
  | @lst a xs _ hs ha =>
    obtain ⟨v, h1, h2⟩ := at_rps ha h
    exact .inl ⟨a, xs, i, v, rfl, rfl, .inl (.inl (rs.wd.ex _ _ hs)), h1, hk F H v (.dat d) rs.refl h2 q⟩
theorem ro_ixT {ds : List PyData} {i : Int} {d : PyData} (h : atI ds i = some d) (q : Q (.dat d)) : Ro b δ (rIx b.K) (.tuple ds) (.int i) Q := fun F H σ vx vy rs hx hy k hk => by
  cases hy
  cases hx with
  | @tup a xs _ hs ha =>
    obtain ⟨v, h1, h2⟩ := at_rps ha h
    exact .inr (.inl ⟨a, xs, i, v, rfl, rfl, seqT rs.wd.ex hs, h1, hk F H v (.dat d) rs.refl h2 q⟩)
theorem ro_ixS {z : Str} {i : Int} {c : Nat} (hl : z.length ≤ sizeLine) (h : atI z.cps.toList i = some c) (q : Q (.dat (.str ⟨#[c]⟩))) : Ro b δ (rIx b.K) (.str z) (.int i) Q := fun F H σ vx vy rs hx hy k hk => by
  cases hy
  cases hx
  exact .inr (.inr ⟨z, i, c, rfl, rfl, hl, h, hk F H _ (.dat _) rs.refl (Rp.str _) q⟩)
/-- an item of the script -/
theorem ve_ixScr {i : Nat} {ns : List Int} (h : δ[i]? = some (.scr ns)) (hb : Ve b tb δ fun s => ∃ (j : Int) (n : Int), s = .dat (.int j) ∧ atI ns j = some n ∧ Q (.dat (.int n))) : Ve b (tOp (rIx b.K) (tVar i) tb) δ Q := fun F H σ rs k hk => by
  obtain ⟨a, h1, h2⟩ := rs.slot i _ h
  refine ⟨_, h1, hb F H σ rs _ fun F1 H1 v1 s1 st1 ro1 ⟨j, n, e1, e2, q1⟩ => ?_⟩
  subst e1
  cases ro1
  refine .inl ⟨a, ns.map V.int, j, .int n, rfl, rfl, st1.ex.seq (st1.sf.seq h2), ?_, hk F1 H1 _ (.dat _) st1 (Rp.int n) q1⟩
  unfold atI at e2 ⊢
  rw [List.length_map]
  cases q : ixN ns.length j with
  | none => rw [q] at e2; cases e2
  | some m =>
    rw [q] at e2
    have e3 : ns[m]? = some n := e2
    show (ns.map V.int)[m]? = some (.int n)
    rw [List.getElem?_map, e3]; rfl
/-- an item of an owned list -/
theorem ve_ixOwn {i : Nat} {a : Addr} {ds : List PyData} (h : δ[i]? = some (.own a (.lst ds))) (hb : Ve b tb δ fun s => ∃ (j : Int) (d : PyData), s = .dat (.int j) ∧ atI ds j = some d ∧ Q (.dat d)) : Ve b (tOp (rIx b.K) (tVar i) tb) δ Q := fun F H σ rs k hk => by
  have h0 := rs.slot i _ h
  refine ⟨_, h0.1, hb F H σ rs _ fun F1 H1 v1 s1 st1 ro1 ⟨j, d, e1, e2, q1⟩ => ?_⟩
  subst e1
  cases ro1
  obtain ⟨_, _, _, o, h3, vs, rfl, h4⟩ := (rs.step st1).slot i _ h
  obtain ⟨v, h5, h6⟩ := at_rps h4 e2
  exact .inl ⟨a, vs, j, v, rfl, rfl, .inl (.inl h3), h5, hk F1 H1 v (.dat d) st1 h6 q1⟩

/-! ### tests, and, or, not, if -/
theorem vt_B (h : Ve b te δ fun s => ∃ c, s = .dat (.bool c) ∧ R c) : Vt b (tB te) δ R := fun F H σ rs k hk =>
  h F H σ rs _ fun F1 H1 v1 s1 st1 ro1 ⟨c, e1, q1⟩ => by
    subst e1
    cases ro1
    exact ⟨c, rfl, hk F1 H1 c st1 q1⟩
theorem vt_test (h : Ve b te δ fun s => ∃ c, s = .dat (.bool c) ∧ R c) : Vt b (tTest te) δ R := vt_B h
theorem vt_yes (h : R true) : Vt b tYes δ R := fun F H σ rs k hk => hk F H true rs.refl h
theorem vt_and (h : Vt b t δ fun c => (c = true → Vt b u δ R) ∧ (c = false → R false)) : Vt b (tAnd t u) δ R := fun F H σ rs k hk =>
  h F H σ rs _ fun F1 H1 c st1 ⟨q1, q2⟩ => by
    cases c with
    | true => exact iteT (q1 rfl F1 H1 σ (rs.step st1) _ fun F2 H2 c2 st2 q => hk F2 H2 c2 (st1.trans st2) q)
    | false => exact iteF (hk F1 H1 false st1 (q2 rfl))
theorem vt_or (h : Vt b t δ fun c => (c = true → R true) ∧ (c = false → Vt b u δ R)) : Vt b (tOr t u) δ R := fun F H σ rs k hk =>
  h F H σ rs _ fun F1 H1 c st1 ⟨q1, q2⟩ => by
    cases c with
    | false => exact iteF (q2 rfl F1 H1 σ (rs.step st1) _ fun F2 H2 c2 st2 q => hk F2 H2 c2 (st1.trans st2) q)
    | true => exact iteT (hk F1 H1 true st1 (q1 rfl))
theorem vt_not (h : Vt b t δ fun c => R (!c)) : Vt b (tNot t) δ R := fun F H σ rs k hk =>
  h F H σ rs _ fun F1 H1 c st1 q => hk F1 H1 (!c) st1 q
theorem ve_andV (h : Ve b ta δ fun s => ∃ c, s = .dat (.bool c) ∧ (c = true → Ve b tb δ Q) ∧ (c = false → Q (.dat (.bool false)))) : Ve b (tAndV ta tb) δ Q := fun F H σ rs k hk =>
  h F H σ rs _ fun F1 H1 v1 s1 st1 ro1 ⟨c, e1, q1, q2⟩ => by
    subst e1
    cases ro1
    refine ⟨c, rfl, ?_⟩
    cases c with
    | true => exact iteT (q1 rfl F1 H1 σ (rs.step st1) _ fun F2 H2 v s st2 ro q => hk F2 H2 v s (st1.trans st2) (ro.back st1) q)
    | false => exact iteF (hk F1 H1 _ (.dat _) st1 (Rp.bl false) (q2 rfl))
theorem ve_orV (h : Ve b ta δ fun s => ∃ c, s = .dat (.bool c) ∧ (c = true → Q (.dat (.bool true))) ∧ (c = false → Ve b tb δ Q)) : Ve b (tOrV ta tb) δ Q := fun F H σ rs k hk =>
  h F H σ rs _ fun F1 H1 v1 s1 st1 ro1 ⟨c, e1, q1, q2⟩ => by
    subst e1
    cases ro1
    refine ⟨c, rfl, ?_⟩
    cases c with
    | false => exact iteF (q2 rfl F1 H1 σ (rs.step st1) _ fun F2 H2 v s st2 ro q => hk F2 H2 v s (st1.trans st2) (ro.back st1) q)
    | true => exact iteT (hk F1 H1 _ (.dat _) st1 (Rp.bl true) (q1 rfl))
theorem ve_notV (h : Ve b ta δ fun s => ∃ c, s = .dat (.bool c) ∧ Q (.dat (.bool (!c)))) : Ve b (tNotV ta) δ Q := fun F H σ rs k hk =>
  h F H σ rs _ fun F1 H1 v1 s1 st1 ro1 ⟨c, e1, q1⟩ => by
    subst e1
    cases ro1
    exact ⟨c, rfl, hk F1 H1 _ (.dat _) st1 (Rp.bl _) q1⟩
theorem ve_if (h : Vt b t δ fun c => (c = true → Ve b ta δ Q) ∧ (c = false → Ve b tb δ Q)) : Ve b (tIf t ta tb) δ Q := fun F H σ rs k hk =>
  h F H σ rs _ fun F1 H1 c st1 ⟨q1, q2⟩ => by
    cases c with
    | true => exact iteT (q1 rfl F1 H1 σ (rs.step st1) _ fun F2 H2 v s st2 ro q => hk F2 H2 v s (st1.trans st2) (ro.back st1) q)
    | false => exact iteF (q2 rfl F1 H1 σ (rs.step st1) _ fun F2 H2 v s st2 ro q => hk F2 H2 v s (st1.trans st2) (ro.back st1) q)

/-! ### arguments, displays -/
variable {tr : TA} {Qs : List Sl → Prop}
theorem va_nil (q : Qs []) : Va b tNil δ Qs := fun F H σ rs k hk => hk F H [] [] rs.refl .nil q
theorem va_cons (h : Ve b te δ fun s => ∃ d, s = .dat d ∧ Va b tr δ fun ss => Qs (.dat d :: ss)) : Va b (tCons te tr) δ Qs := fun F H σ rs k hk =>
  h F H σ rs _ fun F1 H1 v1 s1 st1 ro1 ⟨d, e1, q1⟩ => by
    subst e1
    exact q1 F1 H1 σ (rs.step st1) _ fun F2 H2 vs ss st2 ao q => hk F2 H2 (v1 :: vs) (.dat d :: ss) (st1.trans st2) (.cons (rp_mono st2.sf ro1) ao) q
theorem va_pot {i : Nat} {a : Addr} (h : δ[i]? = some (.own a .pot)) (hr : Va b tr δ fun ss => Qs (.own a .pot :: ss)) : Va b (tCons (tVar i) tr) δ Qs := fun F H σ rs k hk => by
  have h0 := rs.slot i _ h
  exact ⟨_, h0.1, hr F H σ rs _ fun F2 H2 vs ss st2 ao q => hk F2 H2 (.ref a :: vs) (.own a .pot :: ss) st2 (.cons ⟨rfl, i, h⟩ ao) q⟩
theorem va_scr {i : Nat} {ns : List Int} (h : δ[i]? = some (.scr ns)) (hr : Va b tr δ fun ss => Qs (.scr ns :: ss)) : Va b (tCons (tVar i) tr) δ Qs := fun F H σ rs k hk => by
  obtain ⟨a, h1, h2⟩ := rs.slot i _ h
  exact ⟨_, h1, hr F H σ rs _ fun F2 H2 vs ss st2 ao q => hk F2 H2 (.ref a :: vs) (.scr ns :: ss) st2 (.cons ⟨a, rfl, st2.sf.seq h2⟩ ao) q⟩
/-- all arguments data -/
def Dats (ss : List Sl) (ds : List PyData) : Prop := ss = ds.map .dat
theorem args_dats {K : PySem.W.Frag} {F : Hp} : ∀ {vs : List V} {ds : List PyData}, ArgsOk K δ F vs (ds.map .dat) → RpAll K F vs ds
  | _, [], .nil => .nil
  | _, _ :: _, .cons h t => .cons h (args_dats t)
theorem small_line {n : Nat} (h : n ≤ 100000) : n ≤ sizeLine := Nat.le_trans h (by decide)
theorem small_lt {n : Nat} (h : n < 100000) : n < sizeLine := Nat.lt_of_lt_of_le h (by decide)
theorem ve_tup (h : Va b tr δ fun ss => ∃ ds : List PyData, ss = ds.map .dat ∧ ds.length ≤ 100000 ∧ Q (.dat (.tuple ds))) : Ve b (tTup tr) δ Q := fun F H σ rs k hk =>
  h F H σ rs _ fun F1 H1 vs ss st1 ao ⟨ds, e, hl, q⟩ => by
    subst e
    have ra := args_dats ao
    refine ⟨by rw [rps_len ra]; exact small_line hl, fun p hp => ?_⟩
    have st2 := (rs.step st1).frz (o := .tup vs) hp
    exact hk _ _ (.ref p) (.dat (.tuple ds)) (st1.trans st2) (Rp.tup (.inl (.inl upd_same)) (rps_mono st2.sf ra)) q
theorem ve_lst (h : Va b tr δ fun ss => ∃ ds : List PyData, ss = ds.map .dat ∧ ds.length ≤ 100000 ∧ Q (.dat (.list ds))) : Ve b (tLst tr) δ Q := fun F H σ rs k hk =>
  h F H σ rs _ fun F1 H1 vs ss st1 ao ⟨ds, e, hl, q⟩ => by
    subst e
    have ra := args_dats ao
    refine ⟨by rw [rps_len ra]; exact small_line hl, fun p hp => ?_⟩
    have st2 := (rs.step st1).frz (o := .lst vs) hp
    exact hk _ _ (.ref p) (.dat (.list ds)) (st1.trans st2) (Rp.lst upd_same (rps_mono st2.sf ra)) q
theorem ve_lstO (h : Va b tr δ fun ss => ∃ ds : List PyData, ss = ds.map .dat ∧ ds.length ≤ 100000 ∧ ∀ a, Q (.own a (.lst ds))) : Ve b (tLst tr) δ Q := fun F H σ rs k hk =>
  h F H σ rs _ fun F1 H1 vs ss st1 ao ⟨ds, e, hl, q⟩ => by
    subst e
    have ra := args_dats ao
    refine ⟨by rw [rps_len ra]; exact small_line hl, fun p hp => ?_⟩
    have st2 := (rs.step st1).new (o := .lst vs) hp
    exact hk _ _ (.ref p) (.own p (.lst ds)) (st1.trans st2) ⟨rfl, Same.free (rs.step st1).wd.ex hp, st1.back hp, _, upd_same, vs, rfl, ra⟩ (q p)
theorem ve_potO (h : Va b tr δ fun ss => ∃ x y : Int, ss = [.dat (.int x), .dat (.int y)] ∧ (0 ≤ y ∧ y < 2 ^ 40) ∧ ∀ a, Q (.own a .pot)) : Ve b (tLst tr) δ Q := fun F H σ rs k hk =>
  h F H σ rs _ fun F1 H1 vs ss st1 ao ⟨x, y, e, hy, q⟩ => by
    subst e
    have ra := args_dats (ds := [.int x, .int y]) ao
    refine ⟨by rw [rps_len ra]; exact small_line (by show 2 ≤ 100000; decide), fun p hp => ?_⟩
    have st2 := (rs.step st1).new (o := .lst vs) hp
    have ev : vs = [.int x, .int y] := rps_ints (ns := [x, y]) ra
    subst ev
    exact hk _ _ (.ref p) (.own p .pot) (st1.trans st2) ⟨rfl, Same.free (rs.step st1).wd.ex hp, st1.back hp, _, upd_same, x, ⟨y, hy⟩, rfl⟩ (q p)

/-! ### built-ins called -/
def Rc (b : Bx) (δ : List Sl) (r : List V → Hp → VK → Prop) (ss : List Sl) (Q : Sl → Prop) : Prop := ∀ F H σ vs, Rs b F H σ δ → ArgsOk b.K δ F vs ss → ∀ k : VK, (∀ F' H' v s, Stp δ F H F' H' → ResOk b.K H F' H' v s → Q s → k v H') → r vs H k
theorem ve_cb {r : List V → Hp → VK → Prop} (h : Va b tr δ fun ss => Rc b δ r ss Q) : Ve b (tCB r tr) δ Q := fun F H σ rs k hk =>
  h F H σ rs _ fun F1 H1 vs ss st1 ao q => q F1 H1 σ vs (rs.step st1) ao _ fun F2 H2 v s st2 ro qs => hk F2 H2 v s (st1.trans st2) (ro.back st1) qs
/-- a plain answer of data -/
theorem pure_rc {r : List V → Hp → VK → Prop} {ds : List PyData} {z : PyData} {v : V} (hv : ∀ F, Rp b.K F v z) (h : ∀ F H vs, RpAll b.K F vs ds → Same F H → ∀ k : VK, k v H → r vs H k) (q : Q (.dat z)) : Rc b δ r (ds.map .dat) Q := fun F H σ vs rs ao k hk =>
  h F H vs (args_dats ao) rs.wd.ex k (hk F H v (.dat z) rs.refl (hv F) q)
theorem rps_one {K : PySem.W.Frag} {F : Hp} {vs : List V} {d : PyData} (h : RpAll K F vs [d]) : ∃ v, vs = [v] ∧ Rp K F v d := by
  cases h with | cons h t => cases t; exact ⟨_, rfl, h⟩
theorem rps_two {K : PySem.W.Frag} {F : Hp} {vs : List V} {d e : PyData} (h : RpAll K F vs [d, e]) : ∃ v w, vs = [v, w] ∧ Rp K F v d ∧ Rp K F w e := by
  cases h with | cons h t => cases t with | cons h2 t => cases t; exact ⟨_, _, rfl, h, h2⟩
end
end Fs

namespace Fs
open PySem PySem.Spec PyProof.Rows L2
section
variable {b : Bx} {δ : List Sl} {Q : Sl → Prop} {R : Bool → Prop} {te ta tb tc : TE} {t u : TT} {tr : TA}
/-! ### + of ints, lists, tuples, texts -/
def rPlus (K : PySem.W.Frag) : R2 := fun x y H Q => (rI0 fun i j => .int (i + j)) x y H Q ∨ rCat x y H Q ∨ rCatT K x y H Q ∨ (∃ i j, x = .str i ∧ y = .str j ∧ i.length + j.length ≤ sizeLine ∧ Q (.str (i ++ j)) H)
theorem op_plus {X : Cx} : OpR X (binaryOp .Add) (rPlus X.K) := op_add.or (op_cat.or (op_catT.or op_add_str))
theorem ro_addI {i j : Int} (q : Q (.dat (.int (i + j)))) : Ro b δ (rPlus b.K) (.int i) (.int j) Q := fun F H σ vx vy rs hx hy k hk => by
  cases hx; cases hy
  exact .inl ⟨i, j, rfl, rfl, hk F H _ (.dat _) rs.refl (Rp.int _) q⟩
theorem ro_addS {x y : Str} (h : x.length + y.length ≤ sizeLine) (q : Q (.dat (.str (x ++ y)))) : Ro b δ (rPlus b.K) (.str x) (.str y) Q := fun F H σ vx vy rs hx hy k hk => by
  cases hx; cases hy
  exact .inr (.inr (.inr ⟨x, y, rfl, rfl, h, hk F H _ (.dat _) rs.refl (Rp.str _) q⟩))
theorem ro_addL {ds es : List PyData} (h : ds.length + es.length ≤ 100000) (q : Q (.dat (.list (ds ++ es)))) : Ro b δ (rPlus b.K) (.list ds) (.list es) Q := fun F H σ vx vy rs hx hy k hk => by
  cases hx with
  | @lst a xs _ hs ha =>
    cases hy with
    | @lst c ys _ ht hb =>
      refine .inr (.inl ⟨a, c, xs, ys, rfl, rfl, rs.wd.ex _ _ hs, rs.wd.ex _ _ ht, by rw [rps_len ha, rps_len hb]; exact small_line h, fun p hp => ?_⟩)
      have st := rs.frz (o := .lst (xs ++ ys)) hp
      exact hk _ _ (.ref p) (.dat _) st (Rp.lst upd_same (rps_mono st.sf (rps_app ha hb))) q
theorem ro_addT {ds es : List PyData} (hn : ds ≠ []) (h : ds.length + es.length ≤ 100000) (q : Q (.dat (.tuple (ds ++ es)))) : Ro b δ (rPlus b.K) (.tuple ds) (.tuple es) Q := fun F H σ vx vy rs hx hy k hk => by
  cases hx with
  | @tup a xs _ hs ha =>
    cases hy with
    | @tup c ys _ ht hb =>
      have nx : xs ≠ [] := fun z => by
        subst z
        have := rps_len ha
        cases ds with
        | nil => exact hn rfl
        | cons _ _ => cases this
      refine .inr (.inr (.inl ⟨a, c, xs, ys, rfl, rfl, seqT rs.wd.ex hs, seqT rs.wd.ex ht, nx, by rw [rps_len ha, rps_len hb]; exact small_line h, fun z => ?_, fun _ p hp => ?_⟩))
      · subst z
        have e : es = [] := by
          have := rps_len hb
          cases es with
          | nil => rfl
          | cons _ _ => cases this
        subst e
        rw [List.append_nil] at q
        exact hk F H (.ref a) (.dat (.tuple ds)) rs.refl (Rp.tup hs ha) q
      · have st := rs.frz (o := .tup (xs ++ ys)) hp
        exact hk _ _ (.ref p) (.dat _) st (Rp.tup (.inl (.inl upd_same)) (rps_mono st.sf (rps_app ha hb))) q
/-! ### * of ints, of a list and an int -/
def rTimes : R2 := fun x y H Q => (rI CMul fun i j => .int (i * j)) x y H Q ∨ rRep x y H Q
theorem op_times {X : Cx} : OpR X (binaryOp .Mult) rTimes := op_mul.or op_rep
theorem ro_mulI {i j : Int} (c : CMul i j) (q : Q (.dat (.int (i * j)))) : Ro b δ rTimes (.int i) (.int j) Q := fun F H σ vx vy rs hx hy k hk => by
  cases hx; cases hy
  exact .inl ⟨i, j, rfl, rfl, c, hk F H _ (.dat _) rs.refl (Rp.int _) q⟩
theorem rps_rep {K : PySem.W.Frag} {F : Hp} {vs : List V} {ds : List PyData} (h : RpAll K F vs ds) : ∀ n : Nat, RpAll K F (List.replicate n vs).flatten (List.replicate n ds).flatten
  | 0 => .nil
  | n + 1 => by
    rw [List.replicate_succ, List.replicate_succ, List.flatten_cons, List.flatten_cons]
    exact rps_app h (rps_rep h n)
theorem ro_repL {ds : List PyData} {n : Int} (h0 : 0 ≤ n) (h : ds.length * n.toNat ≤ 100000) (h1 : n < 2 ^ 62) (q : Q (.dat (.list (List.replicate n.toNat ds).flatten))) : Ro b δ rTimes (.list ds) (.int n) Q := fun F H σ vx vy rs hx hy k hk => by
  cases hy
  cases hx with
  | @lst a xs _ hs ha =>
    refine .inr ⟨a, n, xs, rfl, rfl, rs.wd.ex _ _ hs, by omega, by omega, by rw [rps_len ha]; exact small_line h, fun p hp => ?_⟩
    have st := rs.frz (o := .lst (List.replicate n.toNat xs).flatten) hp
    exact hk _ _ (.ref p) (.dat _) st (Rp.lst upd_same (rps_mono st.sf (rps_rep ha _))) q

/-! ### built-ins -/
def rLenB (K : PySem.W.Frag) : List V → Hp → VK → Prop := fun xs H Q => ∃ x n, xs = [x] ∧ LenV K x H n ∧ Q (.int n) H
theorem call_lenB {X : Cx} : CallR X (.builtin "len") (rLenB X.K) := call_len
def lenD : PyData → Nat
  | .list ds => ds.length
  | .tuple ds => ds.length
  | .str z => z.length
  | _ => 0
theorem rc_lenL {ds : List PyData} (q : Q (.dat (.int ds.length))) : Rc b δ (rLenB b.K) [.dat (.list ds)] Q := fun F H σ vs rs ao k hk => by
  obtain ⟨v, rfl, h⟩ := rps_one (args_dats (ds := [.list ds]) ao)
  cases h with
  | @lst a xs _ hs ha => exact ⟨_, ds.length, rfl, .inl ⟨xs, .inl (.inl (rs.wd.ex _ _ hs)), (rps_len ha).symm⟩, hk F H _ (.dat _) rs.refl (Rp.int _) q⟩
theorem rc_lenT {ds : List PyData} (q : Q (.dat (.int ds.length))) : Rc b δ (rLenB b.K) [.dat (.tuple ds)] Q := fun F H σ vs rs ao k hk => by
  obtain ⟨v, rfl, h⟩ := rps_one (args_dats (ds := [.tuple ds]) ao)
  cases h with
  | @tup a xs _ hs ha => exact ⟨_, ds.length, rfl, .inr ⟨xs, seqT rs.wd.ex hs, (rps_len ha).symm⟩, hk F H _ (.dat _) rs.refl (Rp.int _) q⟩
theorem rc_lenS {z : Str} (hz : z.length ≤ sizeLine) (q : Q (.dat (.int z.length))) : Rc b δ (rLenB b.K) [.dat (.str z)] Q := fun F H σ vs rs ao k hk => by
  obtain ⟨v, rfl, h⟩ := rps_one (args_dats (ds := [.str z]) ao)
  cases h
  exact ⟨_, z.length, rfl, ⟨hz, rfl⟩, hk F H _ (.dat _) rs.refl (Rp.int _) q⟩
theorem rc_lenScr {ns : List Int} (q : Q (.dat (.int ns.length))) : Rc b δ (rLenB b.K) [.scr ns] Q := fun F H σ vs rs ao k hk => by
  cases ao with
  | cons h t =>
    cases t
    obtain ⟨a, rfl, hs⟩ := h
    exact ⟨_, ns.length, rfl, .inl ⟨_, rs.wd.ex.seq hs, (List.length_map _).symm⟩, hk F H _ (.dat _) rs.refl (Rp.int _) q⟩
def rAbsB : List V → Hp → VK → Prop := fun xs H Q => ∃ i, xs = [.int i] ∧ Q (.int (if i < 0 then -i else i)) H
theorem call_absB {X : Cx} : CallR X (.builtin "abs") rAbsB := call_abs
theorem rc_abs {i : Int} (q : Q (.dat (.int (if i < 0 then -i else i)))) : Rc b δ rAbsB [.dat (.int i)] Q := fun F H σ vs rs ao k hk => by
  obtain ⟨v, rfl, h⟩ := rps_one (args_dats (ds := [.int i]) ao)
  cases h
  exact ⟨i, rfl, hk F H _ (.dat _) rs.refl (Rp.int _) q⟩
def rMax2B : List V → Hp → VK → Prop := fun xs H Q => ∃ i j, xs = [.int i, .int j] ∧ Q (.int (if j > i then j else i)) H
def rMin2B : List V → Hp → VK → Prop := fun xs H Q => ∃ i j, xs = [.int i, .int j] ∧ Q (.int (if j < i then j else i)) H
theorem call_max2B {X : Cx} (hc : X.calm = true) : CallR X (.builtin "max") rMax2B := call_max2 hc
theorem call_min2B {X : Cx} (hc : X.calm = true) : CallR X (.builtin "min") rMin2B := call_min2 hc
theorem rc_max2 {i j : Int} (q : Q (.dat (.int (max i j)))) : Rc b δ rMax2B [.dat (.int i), .dat (.int j)] Q := fun F H σ vs rs ao k hk => by
  obtain ⟨v, w, rfl, h1, h2⟩ := rps_two (args_dats (ds := [.int i, .int j]) ao)
  cases h1; cases h2
  refine ⟨i, j, rfl, ?_⟩
  rw [show (if j > i then j else i) = max i j by omega]
  exact hk F H _ (.dat _) rs.refl (Rp.int _) q
theorem rc_min2 {i j : Int} (q : Q (.dat (.int (min i j)))) : Rc b δ rMin2B [.dat (.int i), .dat (.int j)] Q := fun F H σ vs rs ao k hk => by
  obtain ⟨v, w, rfl, h1, h2⟩ := rps_two (args_dats (ds := [.int i, .int j]) ao)
  cases h1; cases h2
  refine ⟨i, j, rfl, ?_⟩
  rw [show (if j < i then j else i) = min i j by omega]
  exact hk F H _ (.dat _) rs.refl (Rp.int _) q
def rIntB : List V → Hp → VK → Prop := fun xs H Q => (∃ i, xs = [.int i] ∧ Q (.int i) H) ∨ ∃ k, xs = [.bl k] ∧ Q (.int (if k then 1 else 0)) H
theorem call_intB {X : Cx} : CallR X (.type "int") rIntB := call_int1
theorem rc_intB {c : Bool} (q : Q (.dat (.int (if c then 1 else 0)))) : Rc b δ rIntB [.dat (.bool c)] Q := fun F H σ vs rs ao k hk => by
  obtain ⟨v, rfl, h⟩ := rps_one (args_dats (ds := [.bool c]) ao)
  cases h
  exact .inr ⟨c, rfl, hk F H _ (.dat _) rs.refl (Rp.int _) q⟩
theorem rc_intI {i : Int} (q : Q (.dat (.int i))) : Rc b δ rIntB [.dat (.int i)] Q := fun F H σ vs rs ao k hk => by
  obtain ⟨v, rfl, h⟩ := rps_one (args_dats (ds := [.int i]) ao)
  cases h
  exact .inl ⟨i, rfl, hk F H _ (.dat _) rs.refl (Rp.int _) q⟩
def rDivmodB : List V → Hp → VK → Prop := fun xs H Q => ∃ i j, xs = [.int i, .int j] ∧ CDivP i j ∧ ∀ p, H p = none → Q (.ref p) (upd H p (.tup [.int (i / j), .int (i % j)]))
theorem call_divmodB {X : Cx} : CallR X (.builtin "divmod") rDivmodB := call_divmodW
theorem rc_divmod {i j : Int} (c : CDivP i j) (q : Q (.dat (.tuple [.int (i / j), .int (i % j)]))) : Rc b δ rDivmodB [.dat (.int i), .dat (.int j)] Q := fun F H σ vs rs ao k hk => by
  obtain ⟨v, w, rfl, h1, h2⟩ := rps_two (args_dats (ds := [.int i, .int j]) ao)
  cases h1; cases h2
  refine ⟨i, j, rfl, c, fun p hp => ?_⟩
  have st := rs.frz (o := .tup [.int (i / j), .int (i % j)]) hp
  exact hk _ _ (.ref p) (.dat _) st (Rp.tup (.inl (.inl upd_same)) (.cons (.int _) (.cons (.int _) .nil))) q
/-- isinstance(x, T), T a built-in type -/
def tyD : PyData → String
  | .none => "NoneType"
  | .bool _ => "bool"
  | .int _ => "int"
  | .str _ => "str"
  | .list _ => "list"
  | .tuple _ => "tuple"
  | .dict _ => "dict"
theorem tyD_ok {K : PySem.W.Frag} {F H : Hp} (e : Same F H) {v : V} {d : PyData} (h : Rp K F v d) : TyX K H v (.type (tyD d)) := by
  cases h with
  | non => exact .base .non
  | bl c => exact .base (.bl c)
  | int i => exact .base (.int i)
  | str x => exact .base (.str x)
  | lst hs ha => exact .base (.lst (e _ _ hs))
  | tup hs ha =>
    rcases hs with (hs | ⟨o, hs⟩) | ⟨o, its, n, h1, h2, _⟩
    · exact .base (.tup (e _ _ hs))
    · exact .fTuple (e _ _ hs)
    · exact .kTuple h1 h2
/-- a built-in type as an argument is no data: such calls have a rule of their own -/
theorem ve_isi {T : String} {c : PyData → Bool} (hc : ∀ d, kitB (tyD d) T = some (c d)) (h : Ve b ta δ fun s => ∃ d, s = .dat d ∧ Q (.dat (.bool (c d)))) : Ve b (tCB (rIsi b.K) (tCons ta (tCons (tC (.ty T)) tNil))) δ Q := fun F H σ rs k hk =>
  h F H σ rs _ fun F1 H1 v1 s1 st1 ro1 ⟨d, e1, q1⟩ => by
    subst e1
    exact ⟨v1, .ty T, _, _, c d, rfl, .ty T, tyD_ok st1.ex ro1, kit_ty (hc d), hk F1 H1 _ (.dat _) st1 (Rp.bl _) q1⟩
def isInt : PyData → Bool
  | .int _ => true
  | .bool _ => true
  | _ => false
def isBool : PyData → Bool
  | .bool _ => true
  | _ => false
def isStr : PyData → Bool
  | .str _ => true
  | _ => false
def isList : PyData → Bool
  | .list _ => true
  | _ => false
def isTuple : PyData → Bool
  | .tuple _ => true
  | _ => false
theorem kit_int (d : PyData) : kitB (tyD d) "int" = some (isInt d) := by cases d <;> (dsimp only [tyD, isInt]; decide +kernel)
theorem kit_bool (d : PyData) : kitB (tyD d) "bool" = some (isBool d) := by cases d <;> (dsimp only [tyD, isBool]; decide +kernel)
theorem kit_str (d : PyData) : kitB (tyD d) "str" = some (isStr d) := by cases d <;> (dsimp only [tyD, isStr]; decide +kernel)
theorem kit_list (d : PyData) : kitB (tyD d) "list" = some (isList d) := by cases d <;> (dsimp only [tyD, isList]; decide +kernel)
theorem kit_tuple (d : PyData) : kitB (tyD d) "tuple" = some (isTuple d) := by cases d <;> (dsimp only [tyD, isTuple]; decide +kernel)
theorem rc_all {bs : List Bool} (q : Q (.dat (.bool (bs.all id)))) : Rc b δ (rAll b.K) [.dat (.list (bs.map PyData.bool))] Q := fun F H σ vs rs ao k hk => by
  obtain ⟨v, rfl, h⟩ := rps_one (args_dats (ds := [.list _]) ao)
  cases h with
  | @lst a xs _ hs ha =>
    have e := rps_bls ha
    subst e
    exact ⟨a, bs, rfl, .inl (.inl (rs.wd.ex _ _ hs)), hk F H _ (.dat _) rs.refl (Rp.bl _) q⟩
theorem rc_any {bs : List Bool} (q : Q (.dat (.bool (bs.any id)))) : Rc b δ (rAny b.K) [.dat (.list (bs.map PyData.bool))] Q := fun F H σ vs rs ao k hk => by
  obtain ⟨v, rfl, h⟩ := rps_one (args_dats (ds := [.list _]) ao)
  cases h with
  | @lst a xs _ hs ha =>
    have e := rps_bls ha
    subst e
    exact ⟨a, bs, rfl, .inl (.inl (rs.wd.ex _ _ hs)), hk F H _ (.dat _) rs.refl (Rp.bl _) q⟩
theorem rc_sum {ns : List Int} (q : Q (.dat (.int ns.sum))) : Rc b δ (rSum b.K) [.dat (.list (ns.map PyData.int))] Q := fun F H σ vs rs ao k hk => by
  obtain ⟨v, rfl, h⟩ := rps_one (args_dats (ds := [.list _]) ao)
  cases h with
  | @lst a xs _ hs ha =>
    have e := rps_ints ha
    subst e
    exact ⟨a, ns, rfl, .inl (.inl (rs.wd.ex _ _ hs)), hk F H _ (.dat _) rs.refl (Rp.int _) q⟩
theorem rc_maxL {ns : List Int} (hn : 0 < ns.length) (q : ∀ m, m ∈ ns → (∀ y ∈ ns, y ≤ m) → Q (.dat (.int m))) : Rc b δ (rMax b.K) [.dat (.list (ns.map PyData.int))] Q := fun F H σ vs rs ao k hk => by
  obtain ⟨v, rfl, h⟩ := rps_one (args_dats (ds := [.list _]) ao)
  cases h with
  | @lst a xs _ hs ha =>
    have e := rps_ints ha
    subst e
    exact ⟨a, ns, rfl, .inl (.inl (rs.wd.ex _ _ hs)), hn, fun m h1 h2 => hk F H _ (.dat _) rs.refl (Rp.int _) (q m h1 h2)⟩
def rListB (K : PySem.W.Frag) : List V → Hp → VK → Prop := fun xs H Q => ∃ p ys, xs = [.ref p] ∧ (SqL K H p ys ∨ SqT K H p ys) ∧ ∀ l, H l = none → Q (.ref l) (upd H l (.lst ys))
theorem call_listB {X : Cx} : CallR X (.type "list") (rListB X.K) := call_list_of
theorem rc_listL {ds : List PyData} (q : Q (.dat (.list ds))) : Rc b δ (rListB b.K) [.dat (.list ds)] Q := fun F H σ vs rs ao k hk => by
  obtain ⟨v, rfl, h⟩ := rps_one (args_dats (ds := [.list _]) ao)
  cases h with
  | @lst a xs _ hs ha =>
    refine ⟨a, xs, rfl, .inl (.inl (.inl (rs.wd.ex _ _ hs))), fun p hp => ?_⟩
    have st := rs.frz (o := .lst xs) hp
    exact hk _ _ (.ref p) (.dat _) st (Rp.lst upd_same (rps_mono st.sf ha)) q
/-! slices of a list -/
theorem cut_rps {K : PySem.W.Frag} {F : Hp} {xs : List V} {ds : List PyData} (h : RpAll K F xs ds) (lo hi : Option Int) :
    RpAll K F (cutV xs lo hi) ((ds.drop (HT.sIx ds.length 0 lo)).take (HT.sIx ds.length ds.length hi - HT.sIx ds.length 0 lo)) := by
  unfold cutV
  rw [rps_len h]
  exact rps_take _ (rps_drop _ h)
def cutD (ds : List PyData) (lo hi : Option Int) : List PyData := (ds.drop (HT.sIx ds.length 0 lo)).take (HT.sIx ds.length ds.length hi - HT.sIx ds.length 0 lo)
theorem cutD_from (ds : List PyData) (k : Nat) : cutD ds (some (k : Int)) none = ds.drop k := by
  unfold cutD
  rw [HT.sIx_nat, HT.sIx_none]
  by_cases h : k ≤ ds.length
  · rw [Nat.min_eq_left h]
    exact List.take_of_length_le (by rw [List.length_drop]; omega)
  · rw [Nat.min_eq_right (by omega), Nat.sub_self, List.take_zero, List.drop_of_length_le (by omega)]
theorem cutD_to (ds : List PyData) (k : Nat) : cutD ds none (some (k : Int)) = ds.take k := by
  unfold cutD
  rw [HT.sIx_nat, HT.sIx_none, List.drop_zero, Nat.sub_zero]
  by_cases h : k ≤ ds.length
  · rw [Nat.min_eq_left h]
  · rw [Nat.min_eq_right (by omega), List.take_of_length_le (Nat.le_refl _), List.take_of_length_le (by omega)]
def Vo (b : Bx) (to : TO) (δ : List Sl) (Q : Option Int → Prop) : Prop := ∀ F H σ, Rs b F H σ δ → ∀ k : Option Int → Hp → Prop, (∀ F' H' o, Stp δ F H F' H' → Q o → k o H') → to σ H k
theorem vo_none {Q : Option Int → Prop} (q : Q none) : Vo b tNoPart δ Q := fun F H σ rs k hk => hk F H none rs.refl q
theorem vo_some {Q : Option Int → Prop} (h : Ve b te δ fun s => ∃ i, s = .dat (.int i) ∧ Q (some i)) : Vo b (tPart te) δ Q := fun F H σ rs k hk =>
  h F H σ rs _ fun F1 H1 v1 s1 st1 ro1 ⟨i, e1, q1⟩ => by
    subst e1
    cases ro1
    exact ⟨i, rfl, hk F1 H1 (some i) st1 q1⟩
/-- slices of lists, tuples, texts by their kind -/
def rSlA (K : PySem.W.Frag) : V → Option Int → Option Int → Hp → VK → Prop := fun x lo hi H Q => rSlL K x lo hi H Q ∨ rSlT K x lo hi H Q
theorem sl_any {X : Cx} : SlR X (rSlA X.K) := sl_list.or sl_tup
def Rl (b : Bx) (δ : List Sl) (r : V → Option Int → Option Int → Hp → VK → Prop) (x : PyData) (lo hi : Option Int) (Q : Sl → Prop) : Prop := ∀ F H σ vx, Rs b F H σ δ → Rp b.K F vx x → ∀ k : VK, (∀ F' H' v s, Stp δ F H F' H' → ResOk b.K H F' H' v s → Q s → k v H') → r vx lo hi H k
theorem ve_sl {r : V → Option Int → Option Int → Hp → VK → Prop} {tl th : TO} (h : Ve b te δ fun s => ∃ x, s = .dat x ∧ Vo b tl δ fun lo => Vo b th δ fun hi => Rl b δ r x lo hi Q) : Ve b (tSl r te tl th) δ Q := fun F H σ rs k hk =>
  h F H σ rs _ fun F1 H1 v1 s1 st1 ro1 ⟨x, e1, q1⟩ => by
    subst e1
    refine q1 F1 H1 σ (rs.step st1) _ fun F2 H2 lo st2 q2 => ?_
    refine q2 F2 H2 σ ((rs.step st1).step st2) _ fun F3 H3 hi st3 q3 => ?_
    have st := (st1.trans st2).trans st3
    exact q3 F3 H3 σ v1 (rs.step st) (rp_mono (st2.sf.trans st3.sf) ro1) _ fun F4 H4 v s st4 ro qs => hk F4 H4 v s (st.trans st4) (ro.back st) qs
theorem rl_list {ds : List PyData} {lo hi : Option Int} (q : Q (.dat (.list (cutD ds lo hi)))) : Rl b δ (rSlA b.K) (.list ds) lo hi Q := fun F H σ vx rs hx k hk => by
  cases hx with
  | @lst a xs _ hs ha =>
    refine .inl ⟨a, xs, rfl, .inl (.inl (rs.wd.ex _ _ hs)), fun p hp => ?_⟩
    have st := rs.frz (o := .lst (cutV xs lo hi)) hp
    exact hk _ _ (.ref p) (.dat _) st (Rp.lst upd_same (rps_mono st.sf (cut_rps ha lo hi))) q
end
end Fs

namespace Fs
open PySem PySem.Spec PyProof.Rows L2
section
variable {b : Bx} {δ : List Sl} {Q : Sl → Prop} {R : Bool → Prop} {te ta tb tc : TE} {t u : TT} {tr : TA} {p : Po} {ts tu : TS} {F F' H H' : Hp} {σ : L2.St}
/-! ### slots set -/
theorem Rs.h0 (r : Rs b F H σ δ) {a : Addr} (h : H a = none) : b.H0 a = none := by
  cases e : b.H0 a with
  | none => rfl
  | some o =>
    by_cases hp : a ∈ b.P
    · obtain ⟨x, y, q⟩ := r.wd.pots a hp
      rw [q] at h; cases h
    · rw [r.wd.keep a o e hp] at h; cases h
theorem Rs.set (r : Rs b F H σ δ) (st : Stp δ F H F' H') {v : V} {s : Sl} (ro : ResOk b.K H F' H' v s) (i : Nat) : Rs b F' H' (σ.set i (some v)) (δ.set i s) where
  wd := (r.step st).wd
  len := by rw [List.length_set, List.length_set]; exact r.len
  slot := fun j s' h => by
    by_cases e : i = j
    · subst e
      have hl : i < δ.length := by
        have := (List.getElem?_eq_some_iff.mp h).1
        rwa [List.length_set] at this
      rw [List.getElem?_set_self hl] at h
      cases h
      have hs : (σ.set i (some v))[i]? = some (some v) := List.getElem?_set_self (by rw [r.len]; exact hl)
      rw [hs]
      cases s with
      | no => trivial
      | scr _ => exact ro.elim
      | dat d => exact ⟨v, rfl, ro⟩
      | own a c =>
        obtain ⟨rfl, h2, h3, h4⟩ := ro
        exact ⟨rfl, h2, .inl (r.h0 h3), h4⟩
    · rw [List.getElem?_set_ne e] at h
      rw [List.getElem?_set_ne e]
      exact (r.step st).slot j s' h
  apart := fun j k a c c' h1 h2 => by
    have old : ∀ (m : Nat) c, m ≠ i → (δ.set i s)[m]? = some (.own a c) → H a ≠ none ∧ δ[m]? = some (.own a c) := fun m c hm h => by
      rw [List.getElem?_set_ne (fun z => hm z.symm)] at h
      obtain ⟨_, _, _, o, q, _⟩ := r.slot m _ h
      exact ⟨(by rw [q]; exact (fun z => nomatch z)), h⟩
    have new : ∀ c, (δ.set i s)[i]? = some (.own a c) → H a = none := fun c h => by
      have hl : i < δ.length := by
        have := (List.getElem?_eq_some_iff.mp h).1
        rwa [List.length_set] at this
      rw [List.getElem?_set_self hl] at h
      cases h
      exact ro.2.2.1
    by_cases ej : j = i
    · by_cases ek : k = i
      · rw [ej, ek]
      · rw [ej] at h1
        exact absurd (new c h1) (old k c' ek h2).1
    · by_cases ek : k = i
      · rw [ek] at h2
        exact absurd (new c' h2) (old j c ej h1).1
      · exact r.apart j k a c c' (old j c ej h1).2 (old k c' ek h2).2
  er := r.er
theorem Rs.setD (r : Rs b F H σ δ) {v : V} {d : PyData} (h : Rp b.K F v d) (i : Nat) : Rs b F H (σ.set i (some v)) (δ.set i (.dat d)) := r.set (s := .dat d) r.refl h i
/-- an owned object of a slot is changed -/
theorem Rs.write (r : Rs b F H σ δ) {i : Nat} {a : Addr} {c c' : Ct} {o : HO} (h : δ[i]? = some (.own a c)) (hc : CtOk b.K F c' o) (hp : a ∈ b.P → c' = .pot) : Rs b F (upd H a o) σ (δ.set i (.own a c')) := by
  obtain ⟨h1, h2, h3, o1, h4, h5⟩ := r.slot i _ h
  have hl : i < δ.length := (List.getElem?_eq_some_iff.mp h).1
  have ha : ∀ (j : Nat) a' c'', (δ.set i (.own a c'))[j]? = some (.own a' c'') → j ≠ i → a' ≠ a := fun j a' c'' hj ne z => by
    subst z
    rw [List.getElem?_set_ne (fun z => ne z.symm)] at hj
    exact ne (r.apart j i _ _ _ hj h)
  refine ⟨⟨same_mut r.wd.ex h2, r.wd.f0, r.wd.grow, fun x u e n => ?_, fun x m => ?_, r.wd.potf, r.wd.ph⟩, by rw [List.length_set]; exact r.len, fun j s hj => ?_, fun j k a1 c1 c2 q1 q2 => ?_, r.er⟩
  · have ne : x ≠ a := fun z => by
      subst z
      rcases h3 with z | z
      · rw [e] at z; cases z
      · exact n z.1
    rw [upd_ne ne]
    exact r.wd.keep x u e n
  · by_cases e : x = a
    · subst e
      have := hp m
      subst this
      obtain ⟨y, z, rfl⟩ := hc
      exact ⟨y, z, upd_same⟩
    · obtain ⟨y, z, q⟩ := r.wd.pots x m
      exact ⟨y, z, by rw [upd_ne e]; exact q⟩
  · by_cases e : i = j
    · subst e
      rw [List.getElem?_set_self hl] at hj
      cases hj
      refine ⟨h1, h2, ?_, o, upd_same, hc⟩
      rcases h3 with z | z
      · exact .inl z
      · exact .inr ⟨z.1, hp z.1⟩
    · have hj' := hj
      rw [List.getElem?_set_ne e] at hj
      have q := r.slot j s hj
      cases s with
      | no => trivial
      | scr _ => exact q
      | dat d => exact q
      | own a' c'' =>
        obtain ⟨q1, q2, q3, o2, q4, q5⟩ := q
        exact ⟨q1, q2, q3, o2, by rw [upd_ne (ha j a' c'' hj' fun z => e z.symm)]; exact q4, q5⟩
  · by_cases e1 : j = i
    · by_cases e2 : k = i
      · rw [e1, e2]
      · rw [e1, List.getElem?_set_self hl] at q1
        cases q1
        exact absurd rfl (ha k _ _ q2 e2)
    · by_cases e2 : k = i
      · rw [e2, List.getElem?_set_self hl] at q2
        cases q2
        exact absurd rfl (ha j _ _ q1 e1)
      · rw [List.getElem?_set_ne (fun z => e1 z.symm)] at q1
        rw [List.getElem?_set_ne (fun z => e2 z.symm)] at q2
        exact r.apart j k a1 c1 c2 q1 q2
/-- an owned list of a slot is frozen -/
theorem Rs.freeze (r : Rs b F H σ δ) {i : Nat} {a : Addr} {ds : List PyData} (h : δ[i]? = some (.own a (.lst ds))) : ∃ F', Same F F' ∧ Rs b F' H σ (δ.set i (.dat (.list ds))) := by
  obtain ⟨h1, h2, h3, o1, h4, vs, rfl, h5⟩ := r.slot i _ h
  have hl : i < δ.length := (List.getElem?_eq_some_iff.mp h).1
  have hH : b.H0 a = none := by
    rcases h3 with z | z
    · exact z
    · exact nomatch z.2
  have sm : Same F (upd F a (.lst vs)) := same_new h2
  refine ⟨upd F a (.lst vs), sm, ⟨fun x u e => ?_, r.wd.f0.trans sm, fun x n => ?_, r.wd.keep, r.wd.pots, fun x m => ?_, r.wd.ph⟩, by rw [List.length_set]; exact r.len, fun j s hj => ?_, fun j k a1 c1 c2 q1 q2 => ?_, r.er⟩
  · by_cases z : x = a
    · subst z; rw [upd_same] at e; rw [← e]; exact h4
    · rw [upd_ne z] at e; exact r.wd.ex x u e
  · rw [upd_ne (fun z => n (by rw [z]; exact hH))]
    exact r.wd.grow x n
  · rw [upd_ne (fun z => r.wd.ph x m (by rw [z]; exact hH))]
    exact r.wd.potf x m
  · by_cases e : i = j
    · subst e
      rw [List.getElem?_set_self hl] at hj
      cases hj
      exact ⟨_, h1, Rp.lst upd_same (rps_mono sm h5)⟩
    · rw [List.getElem?_set_ne e] at hj
      have q := r.slot j s hj
      cases s with
      | no => trivial
      | scr _ => obtain ⟨a2, q1, q2⟩ := q; exact ⟨a2, q1, sm.seq q2⟩
      | dat d => obtain ⟨v, q1, q2⟩ := q; exact ⟨v, q1, rp_mono sm q2⟩
      | own a' c'' =>
        obtain ⟨q1, q2, q3, o2, q4, q5⟩ := q
        exact ⟨q1, by rw [upd_ne (fun z => by subst z; exact e (r.apart i j _ _ _ h hj))]; exact q2, q3, o2, q4, q5.mono sm⟩
  · have f : ∀ (m : Nat) c, (δ.set i (.dat (.list ds)))[m]? = some (.own a1 c) → δ[m]? = some (.own a1 c) := fun m c q => by
      by_cases e : i = m
      · subst e
        rw [List.getElem?_set_self hl] at q
        cases q
      · rw [List.getElem?_set_ne e] at q; exact q
    exact r.apart j k a1 c1 c2 (f j c1 q1) (f k c2 q2)
/-! ### targets -/
theorem wg_name {i : Nat} {d : PyData} {Qd : List Sl → Prop} (q : Qd (δ.set i (.dat d))) : Wg b (gName i) d δ Qd := fun F H σ v rs hv k hk => hk F H _ _ (.refl _) (rs.setD hv i) q
def Wgs (b : Bx) (g : TGs) (ds : List PyData) (δ : List Sl) (Q : List Sl → Prop) : Prop := ∀ F H σ vs, Rs b F H σ δ → RpAll b.K F vs ds → ∀ k : L2.St → Hp → Prop, (∀ F' H' σ' δ', Same F F' → Rs b F' H' σ' δ' → Q δ' → k σ' H') → g vs σ H k
theorem wgs_nil {Qd : List Sl → Prop} (q : Qd δ) : Wgs b gNil [] δ Qd := fun F H σ vs rs hv k hk => by
  cases hv
  exact ⟨rfl, hk F H σ δ (.refl _) rs q⟩
theorem wgs_cons {g : TG} {gs : TGs} {d : PyData} {ds : List PyData} {Qd : List Sl → Prop} (h : Wg b g d δ fun δ' => Wgs b gs ds δ' Qd) : Wgs b (gCons g gs) (d :: ds) δ Qd := fun F H σ vs rs hv k hk => by
  cases hv with
  | @cons v vs _ _ h1 h2 =>
    exact ⟨v, vs, rfl, h F H σ v rs h1 _ fun F1 H1 σ1 δ1 s1 r1 q1 => q1 F1 H1 σ1 vs r1 (rps_mono s1 h2) k fun F2 H2 σ2 δ2 s2 r2 q2 => hk F2 H2 σ2 δ2 (s1.trans s2) r2 q2⟩
theorem wg_tup {n : Nat} {gs : TGs} {d : PyData} {Qd : List Sl → Prop} (h : ∃ ds, d = .tuple ds ∧ ds.length = n ∧ Wgs b gs ds δ Qd) : Wg b (gTup b.K n gs) d δ Qd := fun F H σ v rs hv k hk => by
  obtain ⟨ds, rfl, hn, h⟩ := h
  cases hv with
  | @tup a xs _ hs ha => exact ⟨a, xs, rfl, seqT rs.wd.ex hs, (rps_len ha).trans hn, h F H σ xs rs ha k hk⟩
/-- an item of a pot: an int is stored -/
theorem set_self {δ : List Sl} {i : Nat} {x : Sl} (h : δ[i]? = some x) : δ.set i x = δ := by
  obtain ⟨hl, e⟩ := List.getElem?_eq_some_iff.mp h
  rw [← e, List.set_getElem_self]
theorem wg_pot0 {i : Nat} {a : Addr} {x : Int} {Qd : List Sl → Prop} (h : δ[i]? = some (.own a .pot)) (q : Qd δ) : Wg b (gSub (tVar i) (tC (.int 0)) rSetL) (.int x) δ Qd := fun F H σ v rs hv k hk => by
  cases hv
  have h0 := rs.slot i _ h
  obtain ⟨y, z, e⟩ := rs.pot_at h
  have r2 := rs.write (c' := .pot) h (o := .lst [.int x, .int z.1]) ⟨x, z, rfl⟩ (fun _ => rfl)
  rw [set_self h] at r2
  exact ⟨_, h0.1, a, _, 0, 0, rfl, rfl, e, rfl, hk F _ σ δ (.refl _) r2 q⟩
theorem wg_pot1 {i : Nat} {a : Addr} {x : Int} {Qd : List Sl → Prop} (h : δ[i]? = some (.own a .pot)) (hx : 0 ≤ x ∧ x < 2 ^ 40) (q : Qd δ) : Wg b (gSub (tVar i) (tC (.int 1)) rSetL) (.int x) δ Qd := fun F H σ v rs hv k hk => by
  cases hv
  have h0 := rs.slot i _ h
  obtain ⟨y, z, e⟩ := rs.pot_at h
  have r2 := rs.write (c' := .pot) h (o := .lst [.int y, .int x]) ⟨y, ⟨x, hx⟩, rfl⟩ (fun _ => rfl)
  rw [set_self h] at r2
  exact ⟨_, h0.1, a, _, 1, 1, rfl, rfl, e, rfl, hk F _ σ δ (.refl _) r2 q⟩
/-- an item of a pot is read -/
theorem ve_pot0 {i : Nat} {a : Addr} (h : δ[i]? = some (.own a .pot)) (q : ∀ x : Int, Q (.dat (.int x))) : Ve b (tOp (rIx b.K) (tVar i) (tC (.int 0))) δ Q := fun F H σ rs k hk => by
  have h0 := rs.slot i _ h
  obtain ⟨y, z, e⟩ := rs.pot_at h
  exact ⟨_, h0.1, .inl ⟨a, _, 0, .int y, rfl, rfl, .inl (.inl e), rfl, hk F H _ (.dat _) rs.refl (Rp.int _) (q y)⟩⟩
theorem ve_pot1 {i : Nat} {a : Addr} (h : δ[i]? = some (.own a .pot)) (q : ∀ x : Int, 0 ≤ x → x < 2 ^ 40 → Q (.dat (.int x))) : Ve b (tOp (rIx b.K) (tVar i) (tC (.int 1))) δ Q := fun F H σ rs k hk => by
  have h0 := rs.slot i _ h
  obtain ⟨y, z, e⟩ := rs.pot_at h
  exact ⟨_, h0.1, .inl ⟨a, _, 1, .int z.1, rfl, rfl, .inl (.inl e), rfl, hk F H _ (.dat _) rs.refl (Rp.int _) (q z.1 z.2.1 z.2.2)⟩⟩

/-! ### statements -/
theorem EndsOk.after {D : Ends} (h : EndsOk b F p D) (nx : List Sl → Prop) (k : L2.St → Hp → Prop) (hk : ∀ F' H' σ' δ', Same F F' → Rs b F' H' σ' δ' → nx δ' → k σ' H') : EndsOk b F { p with nx := nx } { D with nx := k } := ⟨hk, h.bk, h.ct, h.rt⟩
theorem ws_seq (h : Ws b ts δ { p with nx := fun δ' => Ws b tu δ' p }) : Ws b (tSeq ts tu) δ p := fun F H σ D rs eo =>
  h F H σ _ rs (eo.after _ _ fun F' H' σ' δ' s r q => q F' H' σ' D r (eo.mono s))
theorem ws_next (q : p.nx δ) : Ws b tNext δ p := fun F H σ D rs eo => eo.nx F H σ δ (.refl _) rs q
theorem ws_break (q : p.bk δ) : Ws b tBreak δ p := fun F H σ D rs eo => eo.bk F H σ δ (.refl _) rs q
theorem ws_cont (q : p.ct δ) : Ws b tCont δ p := fun F H σ D rs eo => eo.ct F H σ δ (.refl _) rs q
theorem ws_drop (h : Ve b te δ fun _ => p.nx δ) : Ws b (tDrop te) δ p := fun F H σ D rs eo =>
  h F H σ rs _ fun F1 H1 v s st ro q => eo.nx F1 H1 σ δ st.sf (rs.step st) q
theorem ws_asg {i : Nat} (h : Ve b te δ fun s => p.nx (δ.set i s)) : Ws b (tAsg te (gName i)) δ p := fun F H σ D rs eo =>
  h F H σ rs _ fun F1 H1 v s st ro q => eo.nx F1 H1 _ _ st.sf (rs.set st ro i) q
theorem ws_asgG {g : TG} (h : Ve b te δ fun s => ∃ d, s = .dat d ∧ Wg b g d δ p.nx) : Ws b (tAsg te g) δ p := fun F H σ D rs eo =>
  h F H σ rs _ fun F1 H1 v s st ro ⟨d, e, q⟩ => by
    subst e
    exact q F1 H1 σ v (rs.step st) ro _ fun F2 H2 σ2 δ2 s2 r2 q2 => eo.nx F2 H2 σ2 δ2 (st.sf.trans s2) r2 q2
theorem ws_par {i j : Nat} (h : Va b tr δ fun ss => ∃ d e, ss = [.dat d, .dat e] ∧ p.nx ((δ.set i (.dat d)).set j (.dat e))) : Ws b (tPar i j tr) δ p := fun F H σ D rs eo =>
  h F H σ rs _ fun F1 H1 vs ss st ao ⟨d, e, e1, q⟩ => by
    subst e1
    obtain ⟨v, w, rfl, h1, h2⟩ := rps_two (args_dats (ds := [d, e]) ao)
    exact ⟨v, w, rfl, eo.nx F1 H1 _ _ st.sf (((rs.step st).setD h1 i).setD h2 j) q⟩
theorem ws_if (h : Vt b t δ fun c => (c = true → Ws b ts δ p) ∧ (c = false → Ws b tu δ p)) : Ws b (tIfS t ts tu) δ p := fun F H σ D rs eo =>
  h F H σ rs _ fun F1 H1 c st ⟨q1, q2⟩ => by
    cases c with
    | true => exact iteT (q1 rfl F1 H1 σ D (rs.step st) (eo.mono st.sf))
    | false => exact iteF (q2 rfl F1 H1 σ D (rs.step st) (eo.mono st.sf))
theorem ws_ret (h : Ve b te δ p.rt) : Ws b (tRet te) δ p := fun F H σ D rs eo =>
  h F H σ rs _ fun F1 H1 v s st ro q => eo.rt F1 H1 v s (rs.step st).wd (by
    cases s with
    | no => exact ro
    | scr _ => exact ro
    | dat d => exact ro
    | own a c => obtain ⟨h1, h2, h3, h4⟩ := ro; exact ⟨h1, h2, rs.h0 h3, h4⟩) q
theorem ws_retOwn {i : Nat} {a : Addr} {c : Ct} (h : δ[i]? = some (.own a c)) (ha : c ≠ .pot ∨ b.P = []) (q : p.rt (.own a c)) : Ws b (tRet (tVar i)) δ p := fun F H σ D rs eo => by
  obtain ⟨h1, h2, h3, h4⟩ := rs.slot i _ h
  refine ⟨_, h1, eo.rt F H (.ref a) (.own a c) rs.wd ⟨rfl, h2, ?_, h4⟩ q⟩
  rcases h3 with z | z
  · exact z
  · rcases ha with q | q
    · exact absurd z.2 q
    · rw [q] at z; exact absurd z.1 List.not_mem_nil
/-- an owned list is frozen from here on -/
theorem ws_frz (i : Nat) {a : Addr} {ds : List PyData} (h : δ[i]? = some (.own a (.lst ds))) (q : Ws b ts (δ.set i (.dat (.list ds))) p) : Ws b ts δ p := fun F H σ D rs eo => by
  obtain ⟨F', sm, r'⟩ := rs.freeze h
  exact q F' H σ D r' (eo.mono sm)
theorem ws_never (h : False) : Ws b tNever δ p := h.elim
theorem ws_append {i : Nat} {a : Addr} {ds : List PyData} (h : δ[i]? = some (.own a (.lst ds))) (hl : ds.length < 100000) (he : Ve b te δ fun s => ∃ d, s = .dat d ∧ p.nx (δ.set i (.own a (.lst (ds ++ [d]))))) :
    Ws b (tDrop (tBM b.K "list" rAppend (tVar i) (tCons te tNil))) δ p := fun F H σ D rs eo => by
  obtain ⟨h1, h2, h3, o, h4, vs, rfl, h5⟩ := rs.slot i _ h
  refine ⟨_, h1, .inl ⟨rfl, _, .inl (.inl h4)⟩, he F H σ rs _ fun F1 H1 v s st ro ⟨d, e, q⟩ => ?_⟩
  subst e
  obtain ⟨_, g2, g3, o, g4, ws, rfl, g5⟩ := (rs.step st).slot i _ h
  refine ⟨a, ws, v, rfl, rfl, g4, by rw [rps_len g5]; exact small_lt hl, ?_⟩
  refine eo.nx F1 _ σ _ st.sf ((rs.step st).write h (c' := .lst (ds ++ [d])) ⟨_, rfl, rps_app g5 (.cons ro .nil)⟩ fun hp => ?_) q
  rcases g3 with z | z
  · exact absurd z (rs.wd.ph a hp)
  · exact nomatch z.2
/-! ### loops -/
theorem walk_of_D {K : PySem.W.Frag} {J : It} {ds : List PyData} (w : WalkD K F J ds) : Walk J ds.length (fun H => Same F H) (fun i H x H' => ∀ d, ds[i]? = some d → (H' = H ∧ Rp K F x d) ∨ ∃ T vs es, x = .ref T ∧ H T = none ∧ H' = upd H T (.tup vs) ∧ RpAll K F vs es ∧ d = .tuple es) :=
  ⟨fun i H hi s => w.goes i H hi s, fun H s => w.stops H s, fun i H x H' _ s y d hd => w.yields i H x H' d hd s y⟩
/-- what a turn gives stands as data -/
theorem yield_ok {K : PySem.W.Frag} {F1 : Hp} {x : V} {d : PyData} (hK : b.K = K) (sm : Same F1 F) (rs : Rs b F H σ δ) (y : (H' = H ∧ Rp K F1 x d) ∨ ∃ T vs es, x = .ref T ∧ H T = none ∧ H' = upd H T (.tup vs) ∧ RpAll K F1 vs es ∧ d = .tuple es) :
    ∃ F', Same F F' ∧ Stp δ F H F' H' ∧ Rs b F' H' σ δ ∧ Rp b.K F' x d := by
  subst hK
  rcases y with ⟨rfl, h⟩ | ⟨T, vs, es, rfl, hT, rfl, ha, rfl⟩
  · exact ⟨F, .refl _, rs.refl, rs, rp_mono sm h⟩
  · have st := rs.frz (o := .tup vs) hT
    exact ⟨_, st.sf, st, rs.step st, Rp.tup (.inl (.inl upd_same)) (rps_mono (sm.trans st.sf) ha)⟩
theorem ws_for {wi : TI} {g : TG} (h : Vi b wi δ fun ds => ∃ I : Nat → List Sl → Prop, I 0 δ ∧
    (∀ (i : Nat) d δ', ds[i]? = some d → I i δ' → Wg b g d δ' fun δ2 => Ws b ts δ2 { nx := I (i + 1), ct := I (i + 1), bk := p.nx, rt := p.rt }) ∧ ∀ δ', I ds.length δ' → p.nx δ') : Ws b (tFor wi g ts) δ p := fun F H σ D rs eo =>
  h F H σ rs _ fun F1 H1 J ds st w ⟨I, i0, it, ie⟩ => by
    refine for_it (walk_of_D w) (fun i σ' H' => ∃ F' δ', Same F1 F' ∧ Rs b F' H' σ' δ' ∧ I i δ') ⟨F1, δ, .refl _, rs.step st, i0⟩ (fun i σ' H' _ ⟨F', δ', s, r, _⟩ => s.trans r.wd.ex) (fun i x σ' H' H'' hi ⟨F', δ', s, r, hI⟩ y => ?_) (fun σ' H' ⟨F', δ', s, r, hI⟩ => eo.nx F' H' σ' δ' (st.sf.trans s) r (ie δ' hI))
    have hd : ds[i]? = some ds[i] := List.getElem?_eq_getElem hi
    obtain ⟨F2, s2, _, r2, hx⟩ := yield_ok rfl s r (y _ hd)
    refine it i ds[i] δ' hd hI F2 H'' σ' x r2 hx _ fun F3 H3 σ3 δ3 s3 r3 q3 => ?_
    refine q3 F3 H3 σ3 _ r3 ⟨fun F4 H4 σ4 δ4 s4 r4 q4 => ⟨F4, δ4, ((s.trans s2).trans s3).trans s4, r4, q4⟩, fun F4 H4 σ4 δ4 s4 r4 q4 => eo.nx F4 H4 σ4 δ4 ((((st.sf.trans s).trans s2).trans s3).trans s4) r4 q4, fun F4 H4 σ4 δ4 s4 r4 q4 => ⟨F4, δ4, ((s.trans s2).trans s3).trans s4, r4, q4⟩, eo.rt⟩
theorem ws_while (I : Nat → List Sl → Prop) (m0 : Nat) (h0 : I m0 δ) (hs : ∀ m δ', I m δ' → Vt b t δ' fun c => (c = true → Ws b ts δ' { nx := fun δ2 => ∃ m', m' < m ∧ I m' δ2, ct := fun δ2 => ∃ m', m' < m ∧ I m' δ2, bk := p.nx, rt := p.rt }) ∧ (c = false → p.nx δ')) :
    Ws b (tWhile t ts) δ p := fun F H σ D rs eo => by
  refine ⟨fun m σ' H' => ∃ F' δ', Same F F' ∧ Rs b F' H' σ' δ' ∧ I m δ', ⟨m0, F, δ, .refl _, rs, h0⟩, fun m σ' H' ⟨F', δ', s, r, hI⟩ => ?_⟩
  refine hs m δ' hI F' H' σ' r _ fun F1 H1 c st ⟨q1, q2⟩ => ?_
  cases c with
  | false => exact iteF (eo.nx F1 H1 σ' δ' (s.trans st.sf) (r.step st) (q2 rfl))
  | true =>
    refine iteT ⟨fun σ2 H2 => ∃ m', m' < m ∧ ∃ F' δ', Same F F' ∧ Rs b F' H2 σ2 δ' ∧ I m' δ', fun σ2 H2 n => n, ?_⟩
    exact q1 rfl F1 H1 σ' _ (r.step st) ⟨fun F4 H4 σ4 δ4 s4 r4 ⟨m', hm, q4⟩ => ⟨m', hm, F4, δ4, (s.trans st.sf).trans s4, r4, q4⟩, fun F4 H4 σ4 δ4 s4 r4 q4 => eo.nx F4 H4 σ4 δ4 ((s.trans st.sf).trans s4) r4 q4, fun F4 H4 σ4 δ4 s4 r4 ⟨m', hm, q4⟩ => ⟨m', hm, F4, δ4, (s.trans st.sf).trans s4, r4, q4⟩, eo.rt⟩
end
end Fs

namespace Fs
open PySem PySem.Spec PyProof.Rows L2
section
variable {b : Bx} {δ : List Sl} {Q : Sl → Prop} {R : Bool → Prop} {te ta tb tc : TE} {t u : TT} {tr : TA} {p : Po} {ts tu : TS} {F F' H H' : Hp} {σ : L2.St}
/-! ### what is walked -/
variable {Qi : List PyData → Prop}
theorem vi_list {tl : TE} (h : Ve b tl δ fun s => ∃ ds, s = .dat (.list ds) ∧ Qi ds) : Vi b (iList b.K tl) δ Qi := fun F H σ rs k hk =>
  h F H σ rs _ fun F1 H1 v s st ro ⟨ds, e, q⟩ => by
    subst e
    cases ro with
    | @lst a xs _ hs ha =>
      have sq : ∀ {H2 : Hp}, Same F1 H2 → SqL b.K H2 a xs := fun s => .inl (.inl (s _ _ hs))
      refine ⟨a, rfl, ⟨xs, sq st.ex⟩, hk F1 H1 _ ds st ⟨fun i H2 hi s => ?_, fun H2 s => ?_, fun i H2 x H3 d hd s y => ?_⟩ q⟩
      · exact (walk_list (xs := xs)).goes i H2 (by rw [rps_len ha]; exact hi) (sq s)
      · rw [← rps_len ha]; exact (walk_list (xs := xs)).stops H2 (sq s)
      · obtain ⟨e, g⟩ := (walk_list (xs := xs)).yields i H2 x H3 (by rw [rps_len ha]; exact (List.getElem?_eq_some_iff.mp hd).1) (sq s) y
        obtain ⟨d', h1, h2⟩ := rps_get' ha g
        rw [hd] at h1; cases h1
        exact .inl ⟨e, h2⟩
theorem vi_tup {tl : TE} (h : Ve b tl δ fun s => ∃ ds, s = .dat (.tuple ds) ∧ Qi ds) : Vi b (iTup b.K tl) δ Qi := fun F H σ rs k hk =>
  h F H σ rs _ fun F1 H1 v s st ro ⟨ds, e, q⟩ => by
    subst e
    cases ro with
    | @tup a xs _ hs ha =>
      have sq : ∀ {H2 : Hp}, Same F1 H2 → SqT b.K H2 a xs := fun s => seqT s hs
      refine ⟨a, rfl, ⟨xs, sq st.ex⟩, hk F1 H1 _ ds st ⟨fun i H2 hi s => ?_, fun H2 s => ?_, fun i H2 x H3 d hd s y => ?_⟩ q⟩
      · exact (walk_tup (xs := xs)).goes i H2 (by rw [rps_len ha]; exact hi) (sq s)
      · rw [← rps_len ha]; exact (walk_tup (xs := xs)).stops H2 (sq s)
      · obtain ⟨e, g⟩ := (walk_tup (xs := xs)).yields i H2 x H3 (by rw [rps_len ha]; exact (List.getElem?_eq_some_iff.mp hd).1) (sq s) y
        obtain ⟨d', h1, h2⟩ := rps_get' ha g
        rw [hd] at h1; cases h1
        exact .inl ⟨e, h2⟩
def rangeD (lo : Int) (n : Nat) : List PyData := (List.range n).map fun i => .int (lo + (i : Nat))
theorem rangeD_len (lo : Int) (n : Nat) : (rangeD lo n).length = n := by unfold rangeD; simp
theorem rangeD_get {lo : Int} {n i : Nat} {d : PyData} (h : (rangeD lo n)[i]? = some d) : i < n ∧ d = .int (lo + i) := by
  have hi : i < n := by
    have := (List.getElem?_eq_some_iff.mp h).1
    rwa [rangeD_len] at this
  refine ⟨hi, ?_⟩
  unfold rangeD at h
  rw [List.getElem?_map, List.getElem?_range hi] at h
  exact (Option.some.inj h).symm
theorem walk_rangeD {K : PySem.W.Frag} {lo : Int} {n : Nat} : WalkD K F (Itr lo n) (rangeD lo n) :=
  ⟨fun i H hi _ => by rw [rangeD_len] at hi; exact hi, fun H _ => by rw [rangeD_len]; exact Nat.le_refl n, fun i H x H' d hd _ y => by
    obtain ⟨_, rfl⟩ := rangeD_get hd
    obtain ⟨e, rfl⟩ := y
    exact .inl ⟨e, .int _⟩⟩
theorem vi_range1 (h : Va b tr δ fun ss => ∃ n : Int, ss = [.dat (.int n)] ∧ -(2 ^ 62) ≤ n ∧ n < 2 ^ 62 ∧ Qi (rangeD 0 n.toNat)) : Vi b (iRng1 tr) δ Qi := fun F H σ rs k hk =>
  h F H σ rs _ fun F1 H1 vs ss st ao ⟨n, e, h1, h2, q⟩ => by
    subst e
    obtain ⟨v, rfl, hv⟩ := rps_one (args_dats (ds := [.int n]) ao)
    cases hv
    exact ⟨n, rfl, h1, h2, hk F1 H1 _ _ st walk_rangeD q⟩
theorem vi_range2 (h : Va b tr δ fun ss => ∃ m n : Int, ss = [.dat (.int m), .dat (.int n)] ∧ (-(2 ^ 62) ≤ m ∧ m < 2 ^ 62 ∧ -(2 ^ 62) ≤ n ∧ n < 2 ^ 62) ∧ Qi (rangeD m (n - m).toNat)) : Vi b (iRng2 tr) δ Qi := fun F H σ rs k hk =>
  h F H σ rs _ fun F1 H1 vs ss st ao ⟨m, n, e, h1, q⟩ => by
    subst e
    obtain ⟨v, w, rfl, hv, hw⟩ := rps_two (args_dats (ds := [.int m, .int n]) ao)
    cases hv; cases hw
    exact ⟨m, n, rfl, h1, hk F1 H1 _ _ st walk_rangeD q⟩
def zipD (xs ys : List PyData) : List PyData := (xs.zip ys).map fun p => .tuple [p.1, p.2]
theorem zipD_get {xs ys : List PyData} {i : Nat} {d : PyData} (h : (zipD xs ys)[i]? = some d) : ∃ x y, xs[i]? = some x ∧ ys[i]? = some y ∧ d = .tuple [x, y] := by
  unfold zipD at h
  rw [List.getElem?_map] at h
  cases e : (xs.zip ys)[i]? with
  | none => rw [e] at h; cases h
  | some q =>
    rw [e] at h
    obtain ⟨h1, h2⟩ := List.getElem?_zip_eq_some.mp e
    exact ⟨q.1, q.2, h1, h2, (Option.some.inj h).symm⟩
theorem zipD_len (xs ys : List PyData) : (zipD xs ys).length = min xs.length ys.length := by unfold zipD; simp
theorem vi_zip (h : Va b tr δ fun ss => ∃ xs ys, ss = [.dat (.list xs), .dat (.list ys)] ∧ Qi (zipD xs ys)) : Vi b (iZip b.K tr) δ Qi := fun F H σ rs k hk =>
  h F H σ rs _ fun F1 H1 vs ss st ao ⟨xs, ys, e, q⟩ => by
    subst e
    obtain ⟨v, w, rfl, hv, hw⟩ := rps_two (args_dats (ds := [.list xs, .list ys]) ao)
    cases hv with
    | @lst a us _ hs ha =>
      cases hw with
      | @lst c ws _ ht hb =>
        have sq : ∀ {H2 : Hp}, Same F1 H2 → SqL b.K H2 a us ∧ SqL b.K H2 c ws := fun s => ⟨.inl (.inl (s _ _ hs)), .inl (.inl (s _ _ ht))⟩
        have hn : (zipD xs ys).length = min us.length ws.length := by rw [zipD_len, rps_len ha, rps_len hb]
        refine ⟨a, c, us, ws, rfl, (sq st.ex).1, (sq st.ex).2, hk F1 H1 _ _ st ⟨fun i H2 hi s => (walk_zip hn).goes i H2 hi (sq s), fun H2 s => (walk_zip hn).stops H2 (sq s), fun i H2 x H3 d hd s y => ?_⟩ q⟩
        obtain ⟨T, x1, y1, rfl, hT, rfl, g1, g2⟩ := (walk_zip hn).yields i H2 x H3 (List.getElem?_eq_some_iff.mp hd).1 (sq s) y
        obtain ⟨d1, d2, k1, k2, rfl⟩ := zipD_get hd
        obtain ⟨d1', k3, r1⟩ := rps_get' ha g1
        obtain ⟨d2', k4, r2⟩ := rps_get' hb g2
        rw [k1] at k3; cases k3
        rw [k2] at k4; cases k4
        exact .inr ⟨T, [x1, y1], [d1, d2], rfl, hT, rfl, .cons r1 (.cons r2 .nil), rfl⟩
def enumD (xs : List PyData) : List PyData := zipD (rangeD 0 xs.length) xs
theorem vi_enum (h : Va b tr δ fun ss => ∃ xs, ss = [.dat (.list xs)] ∧ Qi (enumD xs)) : Vi b (iEnum b.K tr) δ Qi := fun F H σ rs k hk =>
  h F H σ rs _ fun F1 H1 vs ss st ao ⟨xs, e, q⟩ => by
    subst e
    obtain ⟨v, rfl, hv⟩ := rps_one (args_dats (ds := [.list xs]) ao)
    cases hv with
    | @lst a us _ hs ha =>
      have sq : ∀ {H2 : Hp}, Same F1 H2 → SqL b.K H2 a us := fun s => .inl (.inl (s _ _ hs))
      have hn : (enumD xs).length = us.length := by unfold enumD; rw [zipD_len, rangeD_len, Nat.min_self, rps_len ha]
      refine ⟨a, us, rfl, sq st.ex, hk F1 H1 _ _ st ⟨fun i H2 hi s => walk_enum.goes i H2 (by rw [← hn]; exact hi) (sq s), fun H2 s => by rw [hn]; exact walk_enum.stops H2 (sq s), fun i H2 x H3 d hd s y => ?_⟩ q⟩
      obtain ⟨T, x1, y1, rfl, hT, rfl, g1, g2⟩ := walk_enum.yields i H2 x H3 (by rw [← hn]; exact (List.getElem?_eq_some_iff.mp hd).1) (sq s) y
      obtain ⟨d1, d2, k1, k2, rfl⟩ := zipD_get hd
      obtain ⟨_, rfl⟩ := rangeD_get k1
      obtain ⟨d2', k4, r2⟩ := rps_get' ha g2
      rw [k2] at k4; cases k4
      cases g1
      rw [Int.zero_add]
      exact .inr ⟨T, [_, y1], [.int i, d2], rfl, hT, rfl, .cons (.int _) (.cons r2 .nil), rfl⟩

/-! ### comprehensions -/
def wipeD (δ : List Sl) : List Nat → List Sl
  | [] => δ
  | v :: vs => (wipeD δ vs).set v .no
theorem Rs.clear (r : Rs b F H σ δ) (i : Nat) : Rs b F H (σ.set i none) (δ.set i .no) where
  wd := r.wd
  len := by rw [List.length_set, List.length_set]; exact r.len
  slot := fun j s h => by
    by_cases e : i = j
    · subst e
      have hl : i < δ.length := by
        have := (List.getElem?_eq_some_iff.mp h).1
        rwa [List.length_set] at this
      rw [List.getElem?_set_self hl] at h
      cases h
      trivial
    · rw [List.getElem?_set_ne e] at h
      rw [List.getElem?_set_ne e]
      exact r.slot j s h
  apart := fun j k a c c' h1 h2 => by
    have f : ∀ (m : Nat) c, (δ.set i .no)[m]? = some (.own a c) → δ[m]? = some (.own a c) := fun m c q => by
      by_cases e : i = m
      · subst e
        have hl : i < δ.length := by
          have := (List.getElem?_eq_some_iff.mp q).1
          rwa [List.length_set] at this
        rw [List.getElem?_set_self hl] at q
        cases q
      · rw [List.getElem?_set_ne e] at q; exact q
    exact r.apart j k a c c' (f j c h1) (f k c' h2)
  er := r.er
theorem Rs.wipe (r : Rs b F H σ δ) : ∀ vs : List Nat, Rs b F H (L2.wipe σ vs) (wipeD δ vs)
  | [] => r
  | v :: vs => (r.wipe vs).clear v
def setV (σ : L2.St) : List (Nat × V) → L2.St
  | [] => σ
  | q :: r => setV (σ.set q.1 (some q.2)) r
def setS (δ : List Sl) : List (Nat × PyData) → List Sl
  | [] => δ
  | q :: r => setS (δ.set q.1 (.dat q.2)) r
theorem Rs.setAll : ∀ {vps : List (Nat × V)} {ps : List (Nat × PyData)} {σ : L2.St} {δ : List Sl}, Rs b F H σ δ → vps.map Prod.fst = ps.map Prod.fst → RpAll b.K F (vps.map Prod.snd) (ps.map Prod.snd) → Rs b F H (setV σ vps) (setS δ ps)
  | [], [], _, _, r, _, _ => r
  | [], _ :: _, _, _, _, e, _ => nomatch e
  | _ :: _, [], _, _, _, e, _ => nomatch e
  | (i, v) :: vr, (j, d) :: pr, σ, δ, r, e, h => by
    have e1 : i = j := (List.cons.inj e).1
    have e2 := (List.cons.inj e).2
    subst e1
    cases h with
    | cons h1 h2 => exact Rs.setAll (vps := vr) (ps := pr) (σ := σ.set i (some v)) (δ := δ.set i (.dat d)) (r.setD h1 i) e2 h2
/-- a target sets these slots -/
def TgOk (b : Bx) (g : TG) (d : PyData) (ps : List (Nat × PyData)) : Prop := ∀ F H σ v, Same F H → Rp b.K F v d → ∀ k : L2.St → Hp → Prop, (∀ vps : List (Nat × V), vps.map Prod.fst = ps.map Prod.fst → RpAll b.K F (vps.map Prod.snd) (ps.map Prod.snd) → k (setV σ vps) H) → g v σ H k
theorem tg_name {i : Nat} {d : PyData} : TgOk b (gName i) d [(i, d)] := fun F H σ v _ hv k hk => hk [(i, v)] rfl (.cons hv .nil)
theorem tg_two {i j : Nat} {x y : PyData} : TgOk b (gTup b.K 2 (gCons (gName i) (gCons (gName j) gNil))) (.tuple [x, y]) [(i, x), (j, y)] := fun F H σ v s hv k hk => by
  cases hv with
  | @tup a xs _ hs ha =>
    obtain ⟨v1, v2, rfl, h1, h2⟩ := rps_two ha
    exact ⟨a, _, rfl, seqT s hs, rfl, v1, [v2], rfl, v2, [], rfl, rfl, hk [(i, v1), (j, v2)] rfl (.cons h1 (.cons h2 .nil))⟩
theorem wipe_at (σ : L2.St) : ∀ (vs : List Nat) (j : Nat), (L2.wipe σ vs)[j]? = if j ∈ vs ∧ j < σ.length then some none else σ[j]?
  | [], j => by simp [L2.wipe]
  | v :: vs, j => by
    show ((L2.wipe σ vs).set v none)[j]? = _
    by_cases e : v = j
    · subst e
      by_cases hl : v < σ.length
      · rw [List.getElem?_set_self (by rw [wipe_length]; exact hl), if_pos ⟨List.mem_cons_self, hl⟩]
      · rw [if_neg (fun z => hl z.2), List.getElem?_eq_none_iff.mpr (by rw [List.length_set, wipe_length]; omega), List.getElem?_eq_none_iff.mpr (by omega)]
    · rw [List.getElem?_set_ne e, wipe_at σ vs j]
      have : (j ∈ v :: vs ∧ j < σ.length) ↔ (j ∈ vs ∧ j < σ.length) := by
        constructor
        · rintro ⟨h, h'⟩
          cases h with
          | head => exact absurd rfl e
          | tail _ h => exact ⟨h, h'⟩
        · rintro ⟨h, h'⟩
          exact ⟨List.mem_cons_of_mem _ h, h'⟩
      by_cases c : j ∈ vs ∧ j < σ.length
      · rw [if_pos c, if_pos (this.mpr c)]
      · rw [if_neg c, if_neg (fun z => c (this.mp z))]
theorem setV_len : ∀ (vps : List (Nat × V)) (σ : L2.St), (setV σ vps).length = σ.length
  | [], _ => rfl
  | q :: r, σ => by
    show (setV (σ.set q.1 (some q.2)) r).length = _
    rw [setV_len r, List.length_set]
theorem setV_at : ∀ (vps : List (Nat × V)) (σ : L2.St) (j : Nat), j ∉ vps.map Prod.fst → (setV σ vps)[j]? = σ[j]?
  | [], _, _, _ => rfl
  | q :: r, σ, j, h => by
    have h1 : q.1 ≠ j := fun e => h (by rw [← e]; exact List.mem_cons_self)
    have h2 : j ∉ r.map Prod.fst := fun m => h (List.mem_cons_of_mem _ m)
    show (setV (σ.set q.1 (some q.2)) r)[j]? = _
    rw [setV_at r _ j h2, List.getElem?_set_ne h1]
theorem wipe_set {σ : L2.St} {vs : List Nat} {vps : List (Nat × V)} (h : ∀ i ∈ vps.map Prod.fst, i ∈ vs) : L2.wipe (setV (L2.wipe σ vs) vps) vs = L2.wipe σ vs := by
  apply List.ext_getElem?
  intro j
  rw [wipe_at, setV_len, wipe_length]
  by_cases c : j ∈ vs ∧ j < σ.length
  · rw [if_pos c, wipe_at, if_pos c]
  · rw [if_neg c]
    by_cases m : j ∈ vps.map Prod.fst
    · have hl : ¬ j < σ.length := fun z => c ⟨h j m, z⟩
      rw [List.getElem?_eq_none_iff.mpr (by rw [setV_len, wipe_length]; omega), List.getElem?_eq_none_iff.mpr (by rw [wipe_length]; omega)]
    · exact setV_at vps _ j m
theorem wipeD_own {a : Addr} {c : Ct} : ∀ {vs : List Nat} {j : Nat}, (wipeD δ vs)[j]? = some (.own a c) → δ[j]? = some (.own a c)
  | [], _, h => h
  | v :: vs, j, h => by
    have h' : ((wipeD δ vs).set v .no)[j]? = some (.own a c) := h
    by_cases e : v = j
    · subst e
      have hl : v < (wipeD δ vs).length := by
        have := (List.getElem?_eq_some_iff.mp h').1
        rwa [List.length_set] at this
      rw [List.getElem?_set_self hl] at h'
      cases h'
    · rw [List.getElem?_set_ne e] at h'
      exact wipeD_own h'
theorem setS_own {a : Addr} {c : Ct} : ∀ {ps : List (Nat × PyData)} {δ : List Sl} {j : Nat}, (setS δ ps)[j]? = some (.own a c) → δ[j]? = some (.own a c)
  | [], _, _, h => h
  | q :: r, δ, j, h => by
    have h' : (δ.set q.1 (.dat q.2))[j]? = some (.own a c) := setS_own (ps := r) h
    by_cases e : q.1 = j
    · subst e
      have hl : q.1 < δ.length := by
        have := (List.getElem?_eq_some_iff.mp h').1
        rwa [List.length_set] at this
      rw [List.getElem?_set_self hl] at h'
      cases h'
    · rw [List.getElem?_set_ne e] at h'
      exact h'
theorem Stp.sub {δ2 : List Sl} (s : Stp δ2 F H F' H') (r : Rs b F H σ δ) (h : ∀ (j : Nat) a, δ2[j]? = some (.own a .pot) → ∃ j' : Nat, δ[j']? = some (.own a .pot)) : Stp δ F H F' H' where
  sf := s.sf
  ex := s.ex
  gr := s.gr
  ch := fun a o e n => s.ch a o e fun j hj => by
    obtain ⟨j', hj'⟩ := h j a hj
    exact n j' hj'
  pt := fun j a hj => by
    by_cases q : ∃ j' : Nat, δ2[j']? = some (.own a .pot)
    · obtain ⟨j', hj'⟩ := q
      exact s.pt j' a hj'
    · obtain ⟨x, y, e⟩ := r.pot_at hj
      exact ⟨x, y, s.ch a _ e fun j' hj' => q ⟨j', hj'⟩⟩
theorem Stp.poke (s : Stp δ F H F' H') (r : Rs b F H σ δ) {p : Addr} {o : HO} (h : H p = none) (n : F' p = none) : Stp δ F H F' (upd H' p o) where
  sf := s.sf
  ex := same_mut s.ex n
  gr := s.gr
  ch := fun a u e m => by rw [upd_ne (ne_of_none e h)]; exact s.ch a u e m
  pt := fun j a hj => by
    obtain ⟨x, y, e⟩ := r.pot_at hj
    obtain ⟨x', y', e'⟩ := s.pt j a hj
    exact ⟨x', y', by rw [upd_ne (ne_of_none e h)]; exact e'⟩
theorem ve_lc {wi : TI} {g : TG} {tt : TT} {vs : List Nat} (h : Vi b wi δ fun ds => ∃ (I : Nat → List PyData → Prop) (tgs : PyData → List (Nat × PyData)), I 0 [] ∧
    (∀ (i : Nat) d acc, ds[i]? = some d → I i acc → TgOk b g d (tgs d) ∧ (∀ q ∈ (tgs d).map Prod.fst, q ∈ vs) ∧ Vt b tt (setS (wipeD δ vs) (tgs d)) fun c =>
      (c = true → Ve b te (setS (wipeD δ vs) (tgs d)) fun s => ∃ e, s = .dat e ∧ acc.length < 100000 ∧ I (i + 1) (acc ++ [e])) ∧ (c = false → I (i + 1) acc)) ∧
    ∀ acc, I ds.length acc → Q (.dat (.list acc)) ∨ ∀ a, Q (.own a (.lst acc))) : Ve b (tLc wi g tt te vs) δ Q := fun F H σ rs k hk =>
  h F H σ rs _ fun F1 H1 J ds st w ⟨I, tgs, i0, it, ie⟩ => fun D hD => by
    have r1 := rs.step st
    have fD : F1 D = none := Same.free r1.wd.ex hD
    have npot : ∀ j : Nat, δ[j]? ≠ some (.own D .pot) := fun j hj => by
      obtain ⟨x, y, e⟩ := r1.pot_at hj
      rw [hD] at e; cases e
    refine lc_it (walk_of_D w) (fun i Hc => ∃ F' acc us, Stp δ F1 H1 F' Hc ∧ Hc D = some (.lst us) ∧ F' D = none ∧ RpAll b.K F' us acc ∧ I i acc) ⟨F1, [], [], r1.new hD, upd_same, fD, .nil, i0⟩ (fun i Hc _ ⟨F', acc, us, s, _⟩ => s.sf.trans s.ex) (fun i x Hc Hc' hi ⟨F', acc, us, s, e1, e2, ha, hI⟩ y => ?_) (fun Hc ⟨F', acc, us, s, e1, e2, ha, hI⟩ => ?_)
    · have hd : ds[i]? = some ds[i] := List.getElem?_eq_getElem hi
      obtain ⟨tg, sub, hv⟩ := it i ds[i] acc hd hI
      obtain ⟨F2, sm2, st2, r2, hx⟩ := yield_ok rfl s.sf (r1.step s) (y _ hd)
      refine tg F2 Hc' _ x r2.wd.ex hx _ fun vps ef ra => ⟨wipe_set (by rw [ef]; exact sub), ?_⟩
      have r3 : Rs b F2 Hc' (setV (L2.wipe σ vs) vps) (setS (wipeD δ vs) (tgs ds[i])) := (r2.wipe vs).setAll ef ra
      have pin : ∀ (j : Nat) a, (setS (wipeD δ vs) (tgs ds[i]))[j]? = some (.own a .pot) → ∃ j' : Nat, δ[j']? = some (.own a .pot) := fun j a q => ⟨j, wipeD_own (setS_own q)⟩
      have e1' : Hc' D = some (.lst us) := st2.ch D _ e1 npot
      refine hv F2 Hc' _ r3 _ fun F3 H3 c st3 ⟨q1, q2⟩ => ?_
      have st3' := st3.sub r2 pin
      have e3 : H3 D = some (.lst us) := st3'.ch D _ e1' npot
      have f2 : F2 D = none := by rw [st2.gr D (by rw [e1]; exact (fun z => nomatch z))]; exact e2
      have f3 : F3 D = none := by rw [st3'.gr D (by rw [e1']; exact (fun z => nomatch z))]; exact f2
      cases c with
      | false => exact iteF ⟨F3, acc, us, (s.trans st2).trans st3', e3, f3, rps_mono (sm2.trans st3.sf) ha, q2 rfl⟩
      | true =>
        refine iteT (q1 rfl F3 H3 _ (r3.step st3) _ fun F4 H4 v sl st4 ro ⟨e, es, hl, hI'⟩ => ?_)
        subst es
        have st4' := st4.sub (r2.step st3') pin
        have e4 : H4 D = some (.lst us) := st4'.ch D _ e3 npot
        have f4 : F4 D = none := by rw [st4'.gr D (by rw [e3]; exact (fun z => nomatch z))]; exact f3
        have hu := rps_len ha
        refine ⟨us, e4, by rw [hu]; exact small_lt hl, F4, acc ++ [e], us ++ [v], (((s.trans st2).trans st3').trans st4').poke r1 hD f4, upd_same, f4, rps_app (rps_mono ((sm2.trans st3.sf).trans st4.sf) ha) (.cons ro .nil), hI'⟩
    · rcases ie acc hI with q | q
      · have sz := s.freeze hD e2 e1
        exact hk _ Hc (.ref D) (.dat (.list acc)) (st.trans sz) (Rp.lst upd_same (rps_mono (same_new e2) ha)) q
      · exact hk _ Hc (.ref D) (.own D (.lst acc)) (st.trans s) ⟨rfl, e2, st.back hD, _, e1, us, rfl, ha⟩ (q D)
/-- the pure form: each item gives a thing or none -/
theorem ve_lcM {wi : TI} {g : TG} {tt : TT} {vs : List Nat} (h : Vi b wi δ fun ds => ds.length ≤ 100000 ∧ ∃ (tgs : PyData → List (Nat × PyData)) (f : PyData → Option PyData),
    (∀ d ∈ ds, TgOk b g d (tgs d) ∧ (∀ q ∈ (tgs d).map Prod.fst, q ∈ vs) ∧ Vt b tt (setS (wipeD δ vs) (tgs d)) fun c =>
      (c = true → Ve b te (setS (wipeD δ vs) (tgs d)) fun s => ∃ e, s = .dat e ∧ f d = some e) ∧ (c = false → f d = none)) ∧ Q (.dat (.list (ds.filterMap f)))) : Ve b (tLc wi g tt te vs) δ Q := by
  refine ve_lc fun F H σ rs k hk => h F H σ rs k fun F' H' J ds st w ⟨hl, tgs, f, ht, q⟩ => hk F' H' J ds st w ⟨fun i acc => acc = (ds.take i).filterMap f, tgs, rfl, fun i d acc hd hI => ?_, fun acc e => ?_⟩
  · have hm : d ∈ ds := List.mem_of_getElem? hd
    obtain ⟨h1, h2, h3⟩ := ht d hm
    have hi : i < ds.length := (List.getElem?_eq_some_iff.mp hd).1
    have et : (ds.take (i + 1)).filterMap f = acc ++ (match f d with | some e => [e] | none => []) := by
      rw [List.take_add_one, hd, List.filterMap_append, ← hI]
      cases e : f d <;> simp [e]
    have hlen : acc.length < 100000 := by
      rw [hI]
      exact Nat.lt_of_le_of_lt (Nat.le_trans (List.length_filterMap_le _ _) (List.length_take_le _ _)) (by omega)
    refine ⟨h1, h2, h3.mono fun c ⟨q1, q2⟩ => ⟨fun hc => (q1 hc).mono fun s ⟨e, e1, e2⟩ => ⟨e, e1, hlen, ?_⟩, fun hc => ?_⟩⟩
    · show acc ++ [e] = _
      rw [et, e2]
    · show acc = _
      rw [et, q2 hc]; simp
  · rw [e, List.take_length]; exact .inl q
end
end Fs

namespace Fs
open PySem PySem.Spec PyProof.Rows L2
/-! ### promises by data -/
abbrev Tr := List Sl → (Sl → Prop) → (Addr → Prop) → Prop
def potAs : List Sl → List Addr
  | [] => []
  | .own a .pot :: r => a :: potAs r
  | _ :: r => potAs r
def nOwn : List Sl → Nat
  | [] => 0
  | .own _ _ :: r => nOwn r + 1
  | _ :: r => nOwn r
def ArgIn (K : PySem.W.Frag) (F H : Hp) (v : V) : Sl → Prop
  | .no => False
  | .dat d => Rp K F v d
  | .scr ns => ∃ a, v = .ref a ∧ SqL K F a (ns.map V.int)
  | .own _ (.lst _) => False
  | .own a .pot => v = .ref a ∧ F a = none ∧ IsPot H a
inductive ArgsIn (K : PySem.W.Frag) (F H : Hp) : List V → List Sl → Prop
  | nil : ArgsIn K F H [] []
  | cons {v : V} {s : Sl} {vs : List V} {ss : List Sl} : ArgIn K F H v s → ArgsIn K F H vs ss → ArgsIn K F H (v :: vs) (s :: ss)
def spD (K : PySem.W.Frag) (T : Tr) : Sp := fun vs H Q E => ∃ F ss Qd Ed, Same F H ∧ ArgsIn K F H vs ss ∧ nOwn ss ≤ 1 ∧ T ss Qd Ed ∧
  (∀ F' H' v s, Stp ss F H F' H' → ResOk K H F' H' v s → Qd s → Q v H') ∧ ∀ F' H' C, Stp ss F H F' H' → Ed C → E (.ref C) none H'
theorem mem_potAs {a : Addr} : ∀ {ss : List Sl}, a ∈ potAs ss ↔ ∃ j : Nat, ss[j]? = some (.own a .pot)
  | [] => by simp [potAs]
  | s :: r => by
    have ih := mem_potAs (a := a) (ss := r)
    have hr : (∃ j : Nat, (s :: r)[j]? = some (.own a .pot)) ↔ s = .own a .pot ∨ ∃ j : Nat, r[j]? = some (.own a .pot) := by
      constructor
      · rintro ⟨j, h⟩
        cases j with
        | zero => exact .inl (Option.some.inj h)
        | succ j => exact .inr ⟨j, h⟩
      · rintro (h | ⟨j, h⟩)
        · exact ⟨0, by rw [h]; rfl⟩
        · exact ⟨j + 1, h⟩
    rw [hr]
    cases s with
    | own c k =>
      cases k with
      | pot =>
        show a ∈ c :: potAs r ↔ _
        rw [List.mem_cons, ih]
        constructor
        · rintro (h | h)
          · exact .inl (by rw [h])
          · exact .inr h
        · rintro (h | h)
          · exact .inl (by injection h with h _; exact h.symm)
          · exact .inr h
      | lst ds =>
        show a ∈ potAs r ↔ _
        rw [ih]
        exact ⟨.inr, fun h => h.elim (fun z => nomatch z) id⟩
    | no => exact ih.trans ⟨.inr, fun h => h.elim (fun z => nomatch z) id⟩
    | dat d => exact ih.trans ⟨.inr, fun h => h.elim (fun z => nomatch z) id⟩
    | scr d => exact ih.trans ⟨.inr, fun h => h.elim (fun z => nomatch z) id⟩
theorem own_one : ∀ {ss : List Sl} {i j : Nat} {a a' : Addr} {c c' : Ct}, nOwn ss ≤ 1 → ss[i]? = some (.own a c) → ss[j]? = some (.own a' c') → i = j
  | [], _, _, _, _, _, _, _, h, _ => by simp at h
  | s :: r, 0, 0, _, _, _, _, _, _, _ => rfl
  | s :: r, 0, j + 1, a, a', c, c', h, h1, h2 => by
    have e : s = .own a c := Option.some.inj h1
    subst e
    have h' : nOwn r + 1 ≤ 1 := h
    exact absurd (own_pos (show r[j]? = some (.own a' c') from h2)) (by omega)
  | s :: r, i + 1, 0, a, a', c, c', h, h1, h2 => by
    have e : s = .own a' c' := Option.some.inj h2
    subst e
    have h' : nOwn r + 1 ≤ 1 := h
    exact absurd (own_pos (show r[i]? = some (.own a c) from h1)) (by omega)
  | s :: r, i + 1, j + 1, a, a', c, c', h, h1, h2 => by
    have h' : nOwn r ≤ 1 := by
      cases s with
      | own x y => exact Nat.le_trans (Nat.le_succ _) (show nOwn r + 1 ≤ 1 from h)
      | _ => exact h
    rw [own_one (ss := r) h' (show r[i]? = some (.own a c) from h1) (show r[j]? = some (.own a' c') from h2)]
where
  own_pos : ∀ {ss : List Sl} {j : Nat} {a : Addr} {c : Ct}, ss[j]? = some (.own a c) → 0 < nOwn ss
    | [], _, _, _, h => by simp at h
    | s :: r, 0, a, c, h => by
      have e : s = .own a c := Option.some.inj h
      subst e
      exact Nat.succ_pos _
    | s :: r, j + 1, a, c, h => by
      have := own_pos (ss := r) (show r[j]? = some (.own a c) from h)
      cases s with
      | own x y => exact Nat.succ_pos _
      | _ => exact this
section
variable {b : Bx} {δ : List Sl} {Q : Sl → Prop} {F F' H H' : Hp} {σ : L2.St} {tr : TA}
theorem args_in {vs : List V} {ss : List Sl} (r : Rs b F H σ δ) (h : ArgsOk b.K δ F vs ss) : ArgsIn b.K F H vs ss := by
  induction h with
  | nil => exact .nil
  | @cons v s vs ss h _ ih =>
    refine .cons ?_ ih
    cases s with
    | no => exact h
    | dat d => exact h
    | scr ns => exact h
    | own a c =>
      cases c with
      | lst _ => exact h
      | pot =>
        obtain ⟨h1, j, hj⟩ := h
        exact ⟨h1, (r.slot j _ hj).2.1, r.pot_at hj⟩
theorem args_pots {K : PySem.W.Frag} {vs : List V} {ss : List Sl} (h : ArgsOk K δ F vs ss) : ∀ {j : Nat} {a : Addr}, ss[j]? = some (.own a .pot) → ∃ j' : Nat, δ[j']? = some (.own a .pot) := by
  induction h with
  | nil => intro j a e; simp at e
  | @cons v s vs ss h _ ih =>
    intro j a e
    cases j with
    | zero =>
      have e : s = .own a .pot := Option.some.inj e
      subst e
      exact h.2
    | succ j => exact ih (show ss[j]? = _ from e)
/-- a call of a def that lets nothing out -/
theorem ve_call {T : Tr} (h : Va b tr δ fun ss => nOwn ss ≤ 1 ∧ T ss Q fun _ => False) : Ve b (tCall (spD b.K T) [] E0 tr) δ Q := fun F H σ rs k hk =>
  h F H σ rs _ fun F1 H1 vs ss st ao ⟨hn, ht⟩ => by
    have r1 := rs.step st
    refine ⟨F1, ss, Q, fun _ => False, r1.wd.ex, by rw [List.append_nil]; exact args_in r1 ao, hn, ht, fun F2 H2 v s st2 ro q => ?_, fun _ _ _ _ z => z⟩
    exact hk F2 H2 v s (st.trans (st2.sub r1 fun j a hj => args_pots ao hj)) (ro.back st) q
/-- a call of a def that may raise, in a def that lets it out -/
theorem ve_callX {T : Tr} (h : Va b tr δ fun ss => nOwn ss ≤ 1 ∧ T ss Q b.Ed) : Ve b (tCall (spD b.K T) [] b.E tr) δ Q := fun F H σ rs k hk =>
  h F H σ rs _ fun F1 H1 vs ss st ao ⟨hn, ht⟩ => by
    have r1 := rs.step st
    refine ⟨F1, ss, Q, b.Ed, r1.wd.ex, by rw [List.append_nil]; exact args_in r1 ao, hn, ht, fun F2 H2 v s st2 ro q => ?_, fun F2 H2 C st2 q => ?_⟩
    · exact hk F2 H2 v s (st.trans (st2.sub r1 fun j a hj => args_pots ao hj)) (ro.back st) q
    · exact r1.er F2 H2 C (r1.step (st2.sub r1 fun j a hj => args_pots ao hj)).wd q
end
/-! ### a def's body -/
theorem args_len {K : PySem.W.Frag} {F H : Hp} {vs : List V} {ss : List Sl} (h : ArgsIn K F H vs ss) : vs.length = ss.length := by
  induction h with
  | nil => rfl
  | cons _ _ ih => exact congrArg Nat.succ ih
theorem args_at {K : PySem.W.Frag} {F H : Hp} {vs : List V} {ss : List Sl} (h : ArgsIn K F H vs ss) : ∀ {i : Nat} {s : Sl}, ss[i]? = some s → ∃ v, vs[i]? = some v ∧ ArgIn K F H v s := by
  induction h with
  | nil => intro i s e; simp at e
  | @cons v s vs ss h _ ih =>
    intro i s' e
    cases i with
    | zero =>
      have e : s = s' := Option.some.inj e
      subst e
      exact ⟨v, rfl, h⟩
    | succ i => exact ih (show ss[i]? = _ from e)
theorem rs_start {K : PySem.W.Frag} {F H : Hp} {N : List Str} {vs : List V} {ss : List Sl} {E : XK} {Ed : Addr → Prop} (ex : Same F H) (ha : ArgsIn K F H vs ss) (hn : nOwn ss ≤ 1)
    (er : ∀ F' H' C, Wd ⟨K, H, F, potAs ss, E, Ed⟩ F' H' → Ed C → E (.ref C) none H') : Rs ⟨K, H, F, potAs ss, E, Ed⟩ F H (L2.start N vs) (ss ++ List.replicate (N.length - ss.length) .no) where
  wd := ⟨ex, .refl _, fun _ _ => rfl, fun _ _ h _ => h, fun a h => by
    obtain ⟨j, hj⟩ := mem_potAs.mp h
    obtain ⟨v, _, q⟩ := args_at ha hj
    exact q.2.2, fun a h => by
    obtain ⟨j, hj⟩ := mem_potAs.mp h
    obtain ⟨v, _, q⟩ := args_at ha hj
    exact q.2.1, fun a h => by
    obtain ⟨j, hj⟩ := mem_potAs.mp h
    obtain ⟨v, _, q⟩ := args_at ha hj
    obtain ⟨x, y, e⟩ := q.2.2
    show H a ≠ none
    rw [e]; exact (fun z => nomatch z)⟩
  len := by
    unfold L2.start
    rw [List.length_append, List.length_append, List.length_map, List.length_replicate, List.length_replicate, args_len ha]
  slot := fun i s h => by
    by_cases hi : i < ss.length
    · rw [List.getElem?_append_left hi] at h
      obtain ⟨v, hv, q⟩ := args_at ha h
      have e : (L2.start N vs)[i]? = some (some v) := by
        unfold L2.start
        rw [List.getElem?_append_left (by rw [List.length_map, args_len ha]; exact hi), List.getElem?_map, hv]
        rfl
      rw [e]
      cases s with
      | no => trivial
      | dat d => exact ⟨v, rfl, q⟩
      | scr ns => obtain ⟨a, rfl, h2⟩ := q; exact ⟨a, rfl, h2⟩
      | own a c =>
        cases c with
        | lst _ => exact q.elim
        | pot =>
          obtain ⟨rfl, h2, x, y, h3⟩ := q
          exact ⟨rfl, h2, .inr ⟨mem_potAs.mpr ⟨i, h⟩, rfl⟩, _, h3, x, y, rfl⟩
    · rw [List.getElem?_append_right (by omega), List.getElem?_replicate] at h
      by_cases c : i - ss.length < N.length - ss.length
      · rw [if_pos c] at h; cases h; trivial
      · rw [if_neg c] at h; cases h
  apart := fun i j a c c' h1 h2 => by
    have f : ∀ {m : Nat} {c : Ct}, (ss ++ List.replicate (N.length - ss.length) Sl.no)[m]? = some (.own a c) → ss[m]? = some (.own a c) := fun {m c} h => by
      by_cases hi : m < ss.length
      · rw [List.getElem?_append_left hi] at h; exact h
      · rw [List.getElem?_append_right (by omega), List.getElem?_replicate] at h
        split at h <;> cases h
    exact own_one hn (f h1) (f h2)
  er := er
theorem stp_of_wd {K : PySem.W.Frag} {F H F' H' : Hp} {ss : List Sl} {E : XK} {Ed : Addr → Prop} (w : Wd ⟨K, H, F, potAs ss, E, Ed⟩ F' H') : Stp ss F H F' H' where
  sf := w.f0
  ex := w.ex
  gr := w.grow
  ch := fun a o h n => w.keep a o h fun m => by
    obtain ⟨j, hj⟩ := mem_potAs.mp m
    exact n j hj
  pt := fun j a hj => w.pots a (mem_potAs.mpr ⟨j, hj⟩)
theorem fn_body {K : PySem.W.Frag} {T : Tr} {N : List Str} {t : TS} {vs : List V} {H : Hp} {Q : VK} {E Ee : XK} (hE : (∀ cls d H', Ee cls d H' → E cls d H') ∨ Ee = E0)
    (hb : ∀ (b : Bx) ss Qd, b.K = K → b.E = Ee → T ss Qd b.Ed → Ws b t (ss ++ List.replicate (N.length - ss.length) .no) ⟨fun _ => Qd (.dat .none), Qd, fun _ => False, fun _ => False⟩) (h : spD K T vs H Q E) (hT : Ee = E0 → ∀ ss Qd Ed, T ss Qd Ed → T ss Qd fun _ => False)
    (hEe : Ee = E0 ∨ Ee = E) : t { nx := fun _ H' => Q .non H', rt := Q } (L2.start N vs) H := by
  obtain ⟨F, ss, Qd, Ed, ex, ha, hn, ht, hq, he⟩ := h
  have fin : ∀ (Ed' : Addr → Prop), T ss Qd Ed' → (∀ F' H' C, Wd ⟨K, H, F, potAs ss, Ee, Ed'⟩ F' H' → Ed' C → Ee (.ref C) none H') → t { nx := fun _ H' => Q .non H', rt := Q } (L2.start N vs) H := fun Ed' ht' er => by
    refine hb ⟨K, H, F, potAs ss, Ee, Ed'⟩ ss Qd rfl rfl ht' F H _ _ (rs_start ex ha hn er) ⟨fun F' H' σ' δ' _ r q => ?_, fun _ _ _ _ _ _ z => z.elim, fun _ _ _ _ _ _ z => z.elim, fun F' H' v s w ro q => ?_⟩
    · exact hq F' H' .non (.dat .none) (stp_of_wd r.wd) Rp.non q
    · refine hq F' H' v s (stp_of_wd w) ?_ q
      cases s with
      | no => exact ro
      | scr _ => exact ro
      | dat d => exact ro
      | own a c => exact ro
  rcases hEe with e | e
  · exact fin (fun _ => False) (hT e ss Qd Ed ht) fun _ _ _ _ z => z.elim
  · subst e
    exact fin Ed ht fun F' H' C w q => he F' H' C (stp_of_wd w) q
/-! ### defs by names -/
structure Def (K : PySem.W.Frag) (mg : Str → Option Value) (x : Str) (st : Stmt) : Prop where
  g : mg x = some (.ref (He.ga K x))
  ex : ∃ fd, FunD K x x (defArgs st) (defBody st) (defScope st) [] [] (He.ga K x) fd
structure Ok (P : Program) (w : World) (K : PySem.W.Frag) (mg : Str → Option Value) (base : Heap) (CX : CXT) (k : Nat) (x : Str) (ps : List Str) (T : Tr) : Prop where
  g : mg x = some (.ref (He.ga K x))
  kp : PySem.W.keepIn K (.ref (He.ga K x)) = true
  ex : ∃ fd, FnOk P w K mg base CX k (He.ga K x) fd ps (spD K T) ∧ Binds K fd ps []
section
variable {P : Program} {w : World} {K : PySem.W.Frag} {mg : Str → Option Value} {base : Heap}
/-- a def that lets nothing out -/
theorem fnok_of0 {N ps : List Str} {k : Nat} {x : Str} {st : Stmt} {T : Tr} {fd : FuncData} (FD : FunD K x x (defArgs st) (defBody st) (defScope st) [] [] (He.ga K x) fd) (S : FnScope N ps (defScope st)) (hl : ∀ ss Q Ed, T ss Q Ed → ss.length = ps.length) (hT : ∀ ss Qd Ed, T ss Qd Ed → T ss Qd fun _ => False)
    (body : ∀ (cdv : Value) (A : Around) (outer : List Env) (s : Shared) (H : Hp) (E : XK), Room k (A.deeper (envOfC x (defScope st) s.heap.objs.size (He.ga K x) cdv)) →
      ∃ t, PSs (cxOf CX0 P w K mg base N x (defScope st) (He.ga K x) cdv A outer s H E).nox (defBody st) t ∧ ∀ (H0 F0 : Hp) (P0 : List Addr) (Ed : Addr → Prop) ss Qd, T ss Qd (fun _ => False) → Ws ⟨K, H0, F0, P0, E0, Ed⟩ t (ss ++ List.replicate (N.length - ss.length) .no) ⟨fun _ => Qd (.dat .none), Qd, fun _ => False, fun _ => False⟩) :
    FnOk P w K mg base CX0 (k + 1) (He.ga K x) fd ps (spD K T) := by
  refine FD.ok S (fun vs H Q E h => ?_) (fun cdv A outer s H vs Q E hr h => ?_)
  · obtain ⟨F, ss, Qd, Ed, ex, ha, hn, ht, _⟩ := h
    rw [args_len ha]
    exact hl ss Qd Ed ht
  · obtain ⟨t, pt, hw⟩ := body cdv A outer s H E hr
    refine ⟨t, PSs.nox pt, fn_body (Ee := E0) (.inr rfl) (fun b ss Qd e1 e2 ht => ?_) h (fun _ => hT) (.inl rfl)⟩
    obtain ⟨K', H0, F0, P0, E', Ed⟩ := b
    cases e1
    cases e2
    exact hw H0 F0 P0 Ed ss Qd (hT _ _ _ ht)
theorem ok_of0 {N ps : List Str} {k : Nat} {x : Str} {st : Stmt} {T : Tr} (Df : Def K mg x st) (S : FnScope N ps (defScope st)) (hl : ∀ ss Q Ed, T ss Q Ed → ss.length = ps.length) (hT : ∀ ss Qd Ed, T ss Qd Ed → T ss Qd fun _ => False)
    (hb : ∀ (kV doc pm : Value) (an : Option Addr) (cdv ct : Value) (us : List Value), us.length = ps.length → bindArgs (PySem.W.fnOf x x (defArgs st) (defBody st) (defScope st) .none kV doc pm an cdv ct) ⟨us, []⟩ = pure (ps.zip us))
    (body : ∀ (cdv : Value) (A : Around) (outer : List Env) (s : Shared) (H : Hp) (E : XK), Room k (A.deeper (envOfC x (defScope st) s.heap.objs.size (He.ga K x) cdv)) →
      ∃ t, PSs (cxOf CX0 P w K mg base N x (defScope st) (He.ga K x) cdv A outer s H E).nox (defBody st) t ∧ ∀ (H0 F0 : Hp) (P0 : List Addr) (Ed : Addr → Prop) ss Qd, T ss Qd (fun _ => False) → Ws ⟨K, H0, F0, P0, E0, Ed⟩ t (ss ++ List.replicate (N.length - ss.length) .no) ⟨fun _ => Qd (.dat .none), Qd, fun _ => False, fun _ => False⟩) :
    Ok P w K mg base CX0 (k + 1) x ps T := by
  obtain ⟨fd, FD⟩ := Df.ex
  exact ⟨Df.g, FD.kp, fd, fnok_of0 FD S hl hT body, FD.bindsN hb⟩
end
/-! ### rules by name, the written part plain -/
section
variable {X : Cx} {K : PySem.W.Frag} {a b c : Expr} {ta tb tc : TE} {pos : Pos}
theorem g_plus (ha : PE X a ta) (hb : PE X b tb) (hK : X.K = K := by rfl) : PE X (.BinOp a .Add b pos) (tOp (rPlus K) ta tb) := by subst hK; exact pe_op op_plus ha hb
theorem g_ix (ha : PE X a ta) (hb : PE X b tb) (hs : PlainIx b := by exact (fun _ _ => rfl)) (hK : X.K = K := by rfl) : PE X (.Subscript a b pos) (tOp (rIx K) ta tb) := by subst hK; exact pe_ix ix_seq ha hb hs
theorem g_eq (hu : X.A.units + 64 < cLine) (ha : PE X a ta) (hb : PE X b tb) (hK : X.K = K := by rfl) : PE X (.Compare a [.Eq] [b] pos) (tOp (rEqD K) ta tb) := by subst hK; exact pe_cmpR (op_eqD hu) ha hb (nomark _)
theorem g_ne (hu : X.A.units + 64 < cLine) (ha : PE X a ta) (hb : PE X b tb) (hK : X.K = K := by rfl) : PE X (.Compare a [.NotEq] [b] pos) (tOp (rNeD K) ta tb) := by subst hK; exact pe_cmpR (op_neD hu) ha hb (nomark _)
theorem gt_eq (hu : X.A.units + 64 < cLine) (ha : PE X a ta) (hb : PE X b tb) (hK : X.K = K := by rfl) : PT X (.Compare a [.Eq] [b] pos) (tTest (tOp (rEqD K) ta tb)) := by subst hK; exact pt_cmpR (op_eqD hu) ha hb (nomark _)
theorem gt_ne (hu : X.A.units + 64 < cLine) (ha : PE X a ta) (hb : PE X b tb) (hK : X.K = K := by rfl) : PT X (.Compare a [.NotEq] [b] pos) (tTest (tOp (rNeD K) ta tb)) := by subst hK; exact pt_cmpR (op_neD hu) ha hb (nomark _)
theorem g_gint {x : Str} {i : Int} (h : ∃ t, X.mg x = some (.int i t)) (hg : Gl X x := by rfl) (hd : (x == ("__debug__" : Str)) = false := by decide) : PE X (.Name x pos) (tC (.int i)) := by
  obtain ⟨t, h⟩ := h
  exact pe_glob hg h ⟨t, rfl⟩ hd
theorem g_gstr {x z : Str} (h : ∃ t, X.mg x = some (.str z t)) (hg : Gl X x := by rfl) (hd : (x == ("__debug__" : Str)) = false := by decide) : PE X (.Name x pos) (tC (.str z)) := by
  obtain ⟨t, h⟩ := h
  exact pe_glob hg h ⟨t, rfl⟩ hd
theorem g_sl {lo hi : Option Expr} {tl th : TO} {p2 : Pos} (he : PE X a ta) (hl : PO X lo tl) (hu : PO X hi th) (hK : X.K = K := by rfl) : PE X (.Subscript a (.Slice lo hi none p2) pos) (tSl (rSlA K) ta tl th) := by subst hK; exact pe_slice sl_any he hl hu
theorem g_list {tg l : Expr} {tl : TE} (hl : PE X l tl) (hK : X.K = K := by rfl) : PI X tg l (iList K tl) := by subst hK; exact pi_list hl
theorem g_tupI {tg l : Expr} {tl : TE} (hl : PE X l tl) (hK : X.K = K := by rfl) : PI X tg l (iTup K tl) := by subst hK; exact pi_tup hl
theorem g_zip {e e2 : Expr} {ta : TA} {p tpos : Pos} {elts : List Expr} {kk : Nat} (hm : X.mg "zip" = none) (ha : PA X [e, e2] ta) (hg : Gl X "zip" := by rfl) (hs : starEach [e, e2] X.env = (false, eval e X.env) :: starEach [e2] X.env := by rfl) (hpl : (backTo pos (starEach [e2] X.env)).any (·.1) = false := by rfl) (hK : X.K = K := by rfl) :
    PI X (.Tuple elts kk tpos) (.Call (.Name "zip" p) [e, e2] [] pos) (iZip K ta) := by subst hK; exact pi_zip hg hm ha hs hpl
theorem g_enum {e : Expr} {ta : TA} {p tpos : Pos} {elts : List Expr} {kk : Nat} (hm : X.mg "enumerate" = none) (ha : PA X [e] ta) (hg : Gl X "enumerate" := by rfl) (hs : starEach [e] X.env = [(false, eval e X.env)] := by rfl) (hK : X.K = K := by rfl) :
    PI X (.Tuple elts kk tpos) (.Call (.Name "enumerate" p) [e] [] pos) (iEnum K ta) := by subst hK; exact pi_enum hg hm ha hs
theorem g_tgtup {es : List Expr} {k : Nat} {t : TGs} {n : Nat} (hc : X.calm = true) (h : PGs X es t) (hn : (assignEach es X.env).length = n := by rfl) (hst : (assignEach es X.env).findIdx? (·.1) = none := by rfl) (hK : X.K = K := by rfl) : PG X (.Tuple es k pos) (gTup K n t) := by subst hK; exact pg_tup hc h hn hst
/-- a built-in by its name, its rule over the written part -/
theorem g_cb {id : String} {x : Str} {r : PySem.W.Frag → List V → Hp → VK → Prop} {e : Expr} {es : List Expr} {t : TA} {p : Pos} (hc : CallR X (.builtin id) (r X.K)) (hm : X.mg x = none) (hv : bootBuiltins x = some (.builtin id)) (ha : PA X (e :: es) t) (hg : Gl X x := by rfl)
    (hn : x ≠ "__name__" := by decide) (hdb : (x == ("__debug__" : Str)) = false := by decide) (he : starEach (e :: es) X.env = (false, eval e X.env) :: starEach es X.env := by rfl) (hpl : (backTo pos (starEach es X.env)).any (·.1) = false := by rfl) (hK : X.K = K := by rfl) :
    PE X (.Call (.Name x p) (e :: es) [] pos) (tCB (r K) t) := by subst hK; exact pe_callB hc hg hm hv ha hn hdb he hpl
theorem g_ct {T : String} {x : Str} {r : PySem.W.Frag → List V → Hp → VK → Prop} {e : Expr} {es : List Expr} {t : TA} {p : Pos} (hc : CallR X (.type T) (r X.K)) (hm : X.mg x = none) (hv : bootBuiltins x = some (.type T)) (ha : PA X (e :: es) t) (hg : Gl X x := by rfl)
    (hn : x ≠ "__name__" := by decide) (hdb : (x == ("__debug__" : Str)) = false := by decide) (he : starEach (e :: es) X.env = (false, eval e X.env) :: starEach es X.env := by rfl) (hpl : (backTo pos (starEach es X.env)).any (·.1) = false := by rfl) (hK : X.K = K := by rfl) :
    PE X (.Call (.Name x p) (e :: es) [] pos) (tCB (r K) t) := by subst hK; exact pe_callTy hc hg hm hv ha hn hdb he hpl
theorem g_call {P : Program} {w : World} {mg : Str → Option Value} {base : Heap} {CX : CXT} {k j : Nat} {x : Str} {ps : List Str} {T : Tr} {E : XK} {e : Expr} {es : List Expr} {t : TA} {p : Pos} (O : Ok P w K mg base CX j x ps T) (hr : Room k X.A) (hj : j ≤ k) (hx : Passes CX X E) (ha : PA X (e :: es) t)
    (hg : Gl X x := by rfl) (hdb : (x == ("__debug__" : Str)) = false := by decide) (he : starEach (e :: es) X.env = (false, eval e X.env) :: starEach es X.env := by rfl) (hpl : (backTo pos (starEach es X.env)).any (·.1) = false := by rfl)
    (hP : X.prog = P := by rfl) (hw : X.w = w := by rfl) (hK : X.K = K := by rfl) (hmg : X.mg = mg := by rfl) (hbs : X.base = base := by rfl) : PE X (.Call (.Name x p) (e :: es) [] pos) (tCall (spD K T) [] E t) := by
  subst hP hw hK hmg hbs
  obtain ⟨fd, G, B⟩ := O.ex
  exact pe_call G (hr.mono hj) hg O.g O.kp B .nil hx ha hdb he hpl
theorem g_call0 {P : Program} {w : World} {mg : Str → Option Value} {base : Heap} {CX : CXT} {k j : Nat} {x : Str} {ps : List Str} {T : Tr} {E : XK} {p : Pos} (O : Ok P w K mg base CX j x ps T) (hr : Room k X.A) (hj : j ≤ k) (hx : Passes CX X E)
    (hg : Gl X x := by rfl) (hdb : (x == ("__debug__" : Str)) = false := by decide)
    (hP : X.prog = P := by rfl) (hw : X.w = w := by rfl) (hK : X.K = K := by rfl) (hmg : X.mg = mg := by rfl) (hbs : X.base = base := by rfl) : PE X (.Call (.Name x p) [] [] pos) (tCall (spD K T) [] E tNil) := by
  subst hP hw hK hmg hbs
  obtain ⟨fd, G, B⟩ := O.ex
  exact pe_call0 G (hr.mono hj) hg O.g O.kp B .nil hx hdb
theorem g_append {o e : Expr} {to te : TE} {p1 : Pos} (hx : PE X (.Call (.Attribute o "append" p1) [e] [] pos) (tBM X.K "list" rAppend to (tCons te tNil))) (hK : X.K = K := by rfl) :
    PE X (.Call (.Attribute o "append" p1) [e] [] pos) (tBM K "list" rAppend to (tCons te tNil)) := by subst hK; exact hx
end
end Fs

namespace Fs
open PySem PySem.Spec PyProof.Rows L2
def datsOf : List Sl → Option (List PyData)
  | [] => some []
  | .dat d :: r => (datsOf r).map (d :: ·)
  | _ :: _ => none
theorem datsOf_eq : ∀ {ss : List Sl} {ds : List PyData}, datsOf ss = some ds → ss = ds.map .dat
  | [], _, h => by cases h; rfl
  | .dat d :: r, ds, h => by
    have h' : (datsOf r).map (d :: ·) = some ds := h
    cases e : datsOf r with
    | none => rw [e] at h'; cases h'
    | some es =>
      rw [e] at h'
      cases h'
      rw [datsOf_eq e]; rfl
  | .no :: _, _, h => by cases h
  | .own _ _ :: _, _, h => by cases h
  | .scr _ :: _, _, h => by cases h
def isTrueD : PyData → Bool
  | .bool true => true
  | _ => false
theorem bools_of : ∀ {ds : List PyData}, (∀ d ∈ ds, isBool d = true) → ds = (ds.map isTrueD).map PyData.bool
  | [], _ => rfl
  | d :: r, h => by
    have h1 := h d List.mem_cons_self
    have h2 := bools_of (ds := r) fun x m => h x (List.mem_cons_of_mem _ m)
    cases d with
    | bool c =>
      rw [List.map_cons, List.map_cons, ← h2]
      cases c <;> rfl
    | _ => cases h1
section
variable {b : Bx} {δ : List Sl} {Q : Sl → Prop} {R : Bool → Prop} {te ta tb tc : TE} {t u : TT} {tr : TA} {p : Po} {ts tu : TS}
theorem ve_tupA (h : Va b tr δ fun ss => ∃ ds, datsOf ss = some ds ∧ ds.length ≤ 100000 ∧ Q (.dat (.tuple ds))) : Ve b (tTup tr) δ Q := ve_tup fun F H σ rs k hk => h F H σ rs k fun F' H' vs ss st ao ⟨ds, e, q⟩ => hk F' H' vs ss st ao ⟨ds, datsOf_eq e, q⟩
theorem ve_lstA (h : Va b tr δ fun ss => ∃ ds, datsOf ss = some ds ∧ ds.length ≤ 100000 ∧ Q (.dat (.list ds))) : Ve b (tLst tr) δ Q := ve_lst fun F H σ rs k hk => h F H σ rs k fun F' H' vs ss st ao ⟨ds, e, q⟩ => hk F' H' vs ss st ao ⟨ds, datsOf_eq e, q⟩
theorem ve_lstOA (h : Va b tr δ fun ss => ∃ ds, datsOf ss = some ds ∧ ds.length ≤ 100000 ∧ ∀ a, Q (.own a (.lst ds))) : Ve b (tLst tr) δ Q := ve_lstO fun F H σ rs k hk => h F H σ rs k fun F' H' vs ss st ao ⟨ds, e, q⟩ => hk F' H' vs ss st ao ⟨ds, datsOf_eq e, q⟩
theorem rc_allD {ds : List PyData} (hb : ∀ d ∈ ds, isBool d = true) (q : Q (.dat (.bool (ds.all isTrueD)))) : Rc b δ (rAll b.K) [.dat (.list ds)] Q := by
  have e := bools_of hb
  have q2 : ((ds.map isTrueD).all id) = ds.all isTrueD := by rw [List.all_map]; rfl
  rw [e]
  refine rc_all ?_
  rw [q2]; exact q
theorem rc_anyD {ds : List PyData} (hb : ∀ d ∈ ds, isBool d = true) (q : Q (.dat (.bool (ds.any isTrueD)))) : Rc b δ (rAny b.K) [.dat (.list ds)] Q := by
  have e := bools_of hb
  have q2 : ((ds.map isTrueD).any id) = ds.any isTrueD := by rw [List.any_map]; rfl
  rw [e]
  refine rc_any ?_
  rw [q2]; exact q
/-- a comprehension without a test, each item gives f of it -/
theorem ve_lcF {wi : TI} {g : TG} {vs : List Nat} (h : Vi b wi δ fun ds => ds.length ≤ 100000 ∧ ∃ (tgs : PyData → List (Nat × PyData)) (f : PyData → PyData),
    (∀ d ∈ ds, TgOk b g d (tgs d) ∧ (∀ q ∈ (tgs d).map Prod.fst, q ∈ vs) ∧ Ve b te (setS (wipeD δ vs) (tgs d)) fun s => s = .dat (f d)) ∧ Q (.dat (.list (ds.map f)))) : Ve b (tLc wi g tYes te vs) δ Q := by
  refine ve_lcM fun F H σ rs k hk => h F H σ rs k fun F' H' J ds st w ⟨hl, tgs, f, ht, q⟩ => hk F' H' J ds st w ⟨hl, tgs, fun d => some (f d), fun d hd => ?_, ?_⟩
  · obtain ⟨h1, h2, h3⟩ := ht d hd
    exact ⟨h1, h2, vt_yes ⟨fun _ => h3.mono fun s e => ⟨_, e, rfl⟩, (fun z => nomatch z)⟩⟩
  · rw [List.filterMap_eq_map']; exact q
theorem fm_filter (c : PyData → Bool) (f : PyData → PyData) : ∀ ds : List PyData, ds.filterMap (fun d => if c d = true then some (f d) else none) = (ds.filter c).map f
  | [] => rfl
  | d :: r => by
    rw [List.filterMap_cons, List.filter_cons]
    cases hc : c d with
    | true => simp [fm_filter c f r]
    | false => simp [fm_filter c f r]
/-- a comprehension with a test, each item gives itself or f of it -/
theorem ve_lcT {wi : TI} {g : TG} {tt : TT} {vs : List Nat} (h : Vi b wi δ fun ds => ds.length ≤ 100000 ∧ ∃ (tgs : PyData → List (Nat × PyData)) (c : PyData → Bool) (f : PyData → PyData),
    (∀ d ∈ ds, TgOk b g d (tgs d) ∧ (∀ q ∈ (tgs d).map Prod.fst, q ∈ vs) ∧ (Vt b tt (setS (wipeD δ vs) (tgs d)) fun r => r = c d) ∧ (c d = true → Ve b te (setS (wipeD δ vs) (tgs d)) fun s => s = .dat (f d))) ∧ Q (.dat (.list ((ds.filter c).map f)))) : Ve b (tLc wi g tt te vs) δ Q := by
  refine ve_lcM fun F H σ rs k hk => h F H σ rs k fun F' H' J ds st w ⟨hl, tgs, c, f, ht, q⟩ => hk F' H' J ds st w ⟨hl, tgs, fun d => if c d = true then some (f d) else none, fun d hd => ?_, ?_⟩
  · obtain ⟨h1, h2, h3, h4⟩ := ht d hd
    refine ⟨h1, h2, h3.mono fun r e => ⟨fun hr => ?_, fun hr => ?_⟩⟩
    · rw [e] at hr
      exact (h4 hr).mono fun s es => ⟨_, es, if_pos hr⟩
    · rw [e] at hr
      exact if_neg (by rw [hr]; exact Bool.false_ne_true)
  · rw [fm_filter]; exact q
end
/-- the law's start: the script is what is known -/
theorem law_start {K : PySem.W.Frag} {H : Hp} {a : Addr} {ns : List Int} {T : Tr} (hl : ns.length ≤ 63) (hS : SqL K H a (ns.map V.int)) (hT : ∀ Q Ed, Q (.dat (.bool true)) → T [.scr ns] Q Ed) : spD K T [.ref a] H (fun v _ => v = .bl true) fun _ _ _ => False := by
  refine ⟨H, [.scr ns], fun s => s = .dat (.bool true), fun _ => False, .refl _, .cons ⟨a, rfl, hS⟩ .nil, Nat.zero_le _, hT _ _ rfl, fun F' H' v s _ ro e => ?_, fun _ _ _ _ z => z.elim⟩
  subst e
  cases ro
  rfl
/-! ### numbers -/
theorem shaped_int (i : Int) : SeqAt.shaped (.int i) = true := rfl
theorem shaped_none : SeqAt.shaped .none = true := rfl
theorem shaped_bool (c : Bool) : SeqAt.shaped (.bool c) = true := rfl
/-! ### shapes -/
def Shp (n : Nat) (d : PyData) : Prop := d.canLay0 = true ∧ d.depth ≤ n
theorem Shp.ok {n : Nat} {d : PyData} (h : Shp n d) (hn : n ≤ 64 := by decide) : SeqAt.shaped d = true := by
  unfold SeqAt.shaped
  rw [h.1, decide_eq_true (Nat.le_trans h.2 hn)]; rfl
theorem Shp.mono {n m : Nat} {d : PyData} (h : Shp n d) (hn : n ≤ m) : Shp m d := ⟨h.1, Nat.le_trans h.2 hn⟩
theorem shp_int {n : Nat} (i : Int) : Shp n (.int i) := ⟨rfl, Nat.zero_le _⟩
theorem shp_bool {n : Nat} (c : Bool) : Shp n (.bool c) := ⟨rfl, Nat.zero_le _⟩
theorem shp_none {n : Nat} : Shp n .none := ⟨rfl, Nat.zero_le _⟩
theorem shp_str {n : Nat} {x : Str} (h : PyData.strOk x = true) : Shp n (.str x) := ⟨h, Nat.zero_le _⟩
theorem shp_all {n : Nat} : ∀ {ds : List PyData}, (∀ d ∈ ds, Shp n d) → PyData.canLayAll0 ds = true ∧ PyData.depthAll ds ≤ n
  | [], _ => ⟨rfl, Nat.zero_le _⟩
  | d :: r, h => by
    have h1 := h d List.mem_cons_self
    have h2 := shp_all (ds := r) fun x m => h x (List.mem_cons_of_mem _ m)
    refine ⟨?_, ?_⟩
    · show (d.canLay0 && PyData.canLayAll0 r) = true
      rw [h1.1, h2.1]; rfl
    · show max d.depth (PyData.depthAll r) ≤ n
      exact Nat.max_le.mpr ⟨h1.2, h2.2⟩
theorem shp_list {n : Nat} {ds : List PyData} (h : ∀ d ∈ ds, Shp n d) : Shp (n + 1) (.list ds) := ⟨(shp_all h).1, Nat.succ_le_succ (shp_all h).2⟩
theorem shp_tup {n : Nat} {ds : List PyData} (h : ∀ d ∈ ds, Shp n d) : Shp (n + 1) (.tuple ds) := ⟨(shp_all h).1, Nat.succ_le_succ (shp_all h).2⟩
theorem shp_ints {n : Nat} (ns : List Int) : Shp (n + 1) (.list (ns.map PyData.int)) := shp_list fun d h => by
  obtain ⟨i, _, rfl⟩ := List.mem_map.mp h
  exact shp_int i
theorem Shp.refl {n : Nat} {d : PyData} (h : Shp n d) : PyData.eqv d d = true := SeqAt.eqv_refl d h.1
theorem eqv_int (i j : Int) : PyData.eqv (.int i) (.int j) = decide (i = j) := by
  show (i == j) = _
  by_cases h : i = j
  · subst h; simp
  · rw [decide_eq_false h]; exact beq_eq_false_iff_ne.mpr h
theorem eqv_str (i j : Str) : PyData.eqv (.str i) (.str j) = decide (i = j) := by
  show (i == j) = _
  by_cases h : i = j
  · subst h; simp
  · rw [decide_eq_false h]; exact beq_eq_false_iff_ne.mpr h
theorem cdivp {i m : Int} (h0 : 0 < m) (h : m < 2 ^ 8000) : CDivP i m := by
  refine ⟨h0, PyProof.noPylong_of_log2 ?_⟩
  have h1 : m.natAbs < 2 ^ 8000 := by
    have e : ((m.natAbs : Nat) : Int) = m := by omega
    have h2 : ((m.natAbs : Nat) : Int) < ((2 ^ 8000 : Nat) : Int) := by rw [e, Int.natCast_pow]; exact h
    exact Int.ofNat_lt.mp h2
  have h3 : m.natAbs ≠ 0 := by omega
  have h4 := (Nat.log2_lt h3).mpr h1
  exact Nat.lt_of_lt_of_le h4 (by decide)
end Fs

namespace Fs
open PySem PySem.Spec PyProof.Rows L2
local macro_rules | `(tactic| walk_at "st") => `(tactic| first
  | with_reducible refine ws_seq ?_
  | with_reducible refine ws_asg ?_
  | with_reducible refine ws_asgG ?_
  | with_reducible refine ws_par ?_
  | with_reducible refine ws_if ?_
  | with_reducible refine ws_ret ?_
  | with_reducible refine ws_next ?_
  | with_reducible refine ws_drop ?_
  | with_reducible refine vt_B ?_
  | with_reducible refine vt_test ?_
  | with_reducible refine vt_and ?_
  | with_reducible refine vt_or ?_
  | with_reducible refine vt_not ?_
  | with_reducible refine vt_yes ?_
  | walk_at "ve"
  | walk_at "va"
  | walk_at "ro"
  | walk_at "rc"
  | walk_at "wg"
  | refine ⟨_, rfl, ?_⟩)
local macro_rules | `(tactic| walk_at "ve") => `(tactic| first
  | ((with_reducible refine' ve_var ?hh ?_); (case hh => rfl))
  | with_reducible refine ve_int ?_
  | with_reducible refine ve_str ?_
  | with_reducible refine ve_bl ?_
  | with_reducible refine ve_non ?_
  | with_reducible refine ve_isi kit_int ?_
  | with_reducible refine ve_isi kit_bool ?_
  | with_reducible refine ve_isi kit_list ?_
  | with_reducible refine ve_isi kit_str ?_
  | with_reducible refine ve_isi kit_tuple ?_
  | ((with_reducible refine' ve_pot0 ?hh ?_); (case hh => rfl))
  | ((with_reducible refine' ve_pot1 ?hh ?_); (case hh => rfl))
  | with_reducible refine ve_op ?_
  | with_reducible refine ve_un ?_
  | with_reducible refine ve_chain ?_
  | with_reducible refine ve_andV ?_
  | with_reducible refine ve_orV ?_
  | with_reducible refine ve_notV ?_
  | with_reducible refine ve_if ?_
  | with_reducible refine ve_sl ?_
  | with_reducible refine vo_none ?_
  | with_reducible refine vo_some ?_
  | with_reducible refine ve_tupA ?_
  | with_reducible refine ve_lstA ?_
  | with_reducible refine ve_cb ?_
  | with_reducible refine ve_call ?_)
local macro_rules | `(tactic| walk_at "va") => `(tactic| first
  | ((with_reducible refine' va_pot ?hh ?_); (case hh => rfl))
  | ((with_reducible refine' va_scr ?hh ?_); (case hh => rfl))
  | with_reducible refine va_cons ?_
  | with_reducible refine va_nil ?_
  | refine ⟨Nat.le_of_ble_eq_true rfl, ?_⟩)
local macro_rules | `(tactic| walk_at "ro") => `(tactic| first
  | with_reducible refine ro_addI ?_
  | with_reducible refine ro_B0 ?_
  | with_reducible refine ro_I0 ?_
  | with_reducible refine ro_I ?_ ?_
  | with_reducible refine ru_U ?_
  | with_reducible refine ro_mulI ?_ ?_
  | ((with_reducible refine ro_eqD ?h1 ?h2 ?_); (case h1 => rfl); (case h2 => rfl))
  | ((with_reducible refine ro_neD ?h1 ?h2 ?_); (case h1 => rfl); (case h2 => rfl))
  | with_reducible refine ro_isNo ?_
  | with_reducible refine ro_notNo ?_
  | ((with_reducible refine' ro_ixL ?hh ?_); (case hh => rfl))
  | ((with_reducible refine' ro_ixT ?hh ?_); (case hh => rfl))
  | with_reducible refine rl_list ?_)
local macro_rules | `(tactic| walk_at "wg") => `(tactic| first
  | with_reducible refine wg_name ?_
  | ((with_reducible refine' wg_pot0 ?hh ?_); (case hh => rfl))
  | ((with_reducible refine' wg_pot1 ?hh ?_ ?_); (case hh => rfl))
  | (with_reducible refine wg_tup ?_; refine ⟨_, rfl, rfl, ?_⟩)
  | with_reducible refine wgs_cons ?_
  | with_reducible refine wgs_nil ?_)
local macro_rules | `(tactic| walk_at "rc") => `(tactic| first
  | with_reducible refine rc_lenL ?_
  | with_reducible refine rc_lenT ?_
  | with_reducible refine rc_lenScr ?_
  | with_reducible refine rc_abs ?_
  | with_reducible refine rc_max2 ?_
  | with_reducible refine rc_min2 ?_
  | with_reducible refine rc_intB ?_
  | with_reducible refine rc_intI ?_
  | with_reducible refine rc_divmod ?_ ?_
  | with_reducible refine rc_listL ?_)
local macro_rules | `(tactic| walk_at "go") => `(tactic| repeat walk_at "st")
local macro_rules | `(tactic| walk_at "set") => `(tactic| simp only [List.set_cons_zero, List.set_cons_succ])

/-! ### the text -/
def top (i : Nat) : Stmt := PySem.Challenge.pw_fallstones_k71_falls_on_rows.main.body.getD i (.Pass ⟨0, 0, 0, 0⟩)
abbrev s_is_whole : Stmt := top 6
abbrev s_is_between : Stmt := top 7
abbrev s_want_ins : Stmt := top 11
abbrev s_want_tables : Stmt := top 12
abbrev s_is_within : Stmt := top 13
abbrev s_is_rising : Stmt := top 14
abbrev s_is_so_in : Stmt := top 15
abbrev s_is_fall : Stmt := top 16
abbrev s_falls_on : Stmt := top 17
abbrev s_law_pot : Stmt := top 19
abbrev s_law_take : Stmt := top 20
abbrev s_law_tables : Stmt := top 21
abbrev s_law_row : Stmt := top 22
abbrev s_law_is_lost : Stmt := top 23
abbrev s_law_falls : Stmt := top 24
abbrev s_law : Stmt := top 25
structure Tx (K : PySem.W.Frag) (mg : Str → Option Value) : Prop where
  d_is_whole : Def K mg "is_whole" s_is_whole
  d_is_between : Def K mg "is_between" s_is_between
  d_want_ins : Def K mg "want_ins" s_want_ins
  d_want_tables : Def K mg "want_tables" s_want_tables
  d_is_within : Def K mg "is_within" s_is_within
  d_is_rising : Def K mg "is_rising" s_is_rising
  d_is_so_in : Def K mg "is_so_in" s_is_so_in
  d_is_fall : Def K mg "is_fall" s_is_fall
  d_falls_on : Def K mg "falls_on" s_falls_on
  d_law_pot : Def K mg "_law_pot" s_law_pot
  d_law_take : Def K mg "_law_take" s_law_take
  d_law_tables : Def K mg "_law_tables" s_law_tables
  d_law_row : Def K mg "_law_row" s_law_row
  d_law_is_lost : Def K mg "_law_is_lost" s_law_is_lost
  d_law_falls : Def K mg "_law_falls" s_law_falls
  d_law : Def K mg "law" s_law
  m_ValueError : mg "ValueError" = none
  m_all : mg "all" = none
  m_any : mg "any" = none
  m_len : mg "len" = none
  m_range : mg "range" = none
  m_zip : mg "zip" = none
  m_isinstance : mg "isinstance" = none
  m_int : mg "int" = none
  m_max : mg "max" = none
  m_divmod : mg "divmod" = none
  m_bool : mg "bool" = none
  m_list : mg "list" = none
  m_min : mg "min" = none
  m_abs : mg "abs" = none
  c_MOST_INS : ∃ t, mg "MOST_INS" = some (.int 4 t)
  c_MOST_TABLES : ∃ t, mg "MOST_TABLES" = some (.int 3 t)
def isWhole : PyData → Bool
  | .int _ => true
  | _ => false
def isBtw (d : PyData) (l m : Int) : Bool := match d with
  | .int i => decide (l ≤ i) && decide (i ≤ m)
  | _ => false
/-- a table is so in a choice -/
def so (t c : Int) : Bool := decide (t / 2 ^ c.toNat % 2 = 1)
def within (x y : Int) : Bool := decide (Builtin.bitAnd x y = x)
def fall (ts : List Int) (x y : Int) : Bool := ts.any fun t => so t x && !so t y
def rises : List Int → Bool
  | x :: y :: r => (!decide (x = y) && within x y) && rises (y :: r)
  | _ => true
def falls (ts row : List Int) : Nat := ((row.zip (row.drop 1)).filter fun p => fall ts p.1 p.2).length
structure RowOk (n : Int) (row : List Int) : Prop where
  ne : row ≠ []
  len : row.length ≤ 100
  mem : ∀ c ∈ row, 0 ≤ c ∧ c < 2 ^ n.toNat
  rise : rises row = true
structure TabsOk (n : Int) (ts : List Int) : Prop where
  lo : 1 ≤ ts.length
  hi : ts.length ≤ 3
  mem : ∀ t ∈ ts, 0 ≤ t ∧ t < 2 ^ ((2 : Int) ^ n.toNat).toNat
abbrev N_is_whole : List Str := ["thing"]
theorem sc_is_whole : FnScope N_is_whole ["thing"] (defScope s_is_whole) := ⟨rfl, rfl, rfl, by decide +kernel, rfl, by decide +kernel, by decide +kernel⟩
def T_is_whole : Tr := fun ss Q _ => ∃ (d : PyData), ss = [.dat d] ∧ (True) ∧ (Q (.dat (.bool (isWhole d))))
set_option maxRecDepth 100000 in
theorem ok_is_whole {P : Program} {w : World} {K : PySem.W.Frag} {mg : Str → Option Value} {base : Heap} (T : Tx K mg) : Ok P w K mg base CX0 1 "is_whole" ["thing"] T_is_whole := by
  refine ok_of0 (k := 0) (N := N_is_whole) T.d_is_whole sc_is_whole (fun ss Q Ed h => by obtain ⟨d, rfl, hp, hq⟩ := h; rfl) (fun ss Q Ed h => h) (fun kV doc pm an cdv ct us hl => match us, hl with | [_], _ => rfl) (fun cdv A outer s H E hr => ⟨_, (pss_one (ps_ret (pe_and (g_cb (K := K) (r := rIsi) call_isi T.m_isinstance boot_isinstance (pa_cons (pv 0) (pa_cons (pe_bltn (v := .ty "int") (by rfl) T.m_int PyProof.Rows.boot_int rfl) pa_nil))) (pe_one (pe_not (g_cb (K := K) (r := rIsi) call_isi T.m_isinstance boot_isinstance (pa_cons (pv 0) (pa_cons (pe_bltn (v := .ty "bool") (by rfl) T.m_bool PyProof.Rows.boot_bool rfl) pa_nil)))))))), fun H0 F0 P0 Ed ss Q h => ?_⟩)
  obtain ⟨d, rfl, hp, hq⟩ := h
  show Ws _ _ [.dat d] _
  walk_at "go"
  refine ⟨fun hc => ?_, fun hc => ?_⟩
  · walk_at "go"
    cases d <;> first | exact hq | cases hc
  · cases d <;> first | exact hq | cases hc

abbrev N_is_between : List Str := ["thing", "least", "most"]
theorem sc_is_between : FnScope N_is_between ["thing", "least", "most"] (defScope s_is_between) := ⟨rfl, rfl, rfl, by decide +kernel, rfl, by decide +kernel, by decide +kernel⟩
def T_is_between : Tr := fun ss Q _ => ∃ (d : PyData) (l m : Int), ss = [.dat d, .dat (.int l), .dat (.int m)] ∧ (True) ∧ (Q (.dat (.bool (isBtw d l m))))
set_option maxRecDepth 100000 in
theorem ok_is_between {P : Program} {w : World} {K : PySem.W.Frag} {mg : Str → Option Value} {base : Heap} (T : Tx K mg) : Ok P w K mg base CX0 2 "is_between" ["thing", "least", "most"] T_is_between := by
  refine ok_of0 (k := 1) (N := N_is_between) T.d_is_between sc_is_between (fun ss Q Ed h => by obtain ⟨d, l, m, rfl, hp, hq⟩ := h; rfl) (fun ss Q Ed h => h) (fun kV doc pm an cdv ct us hl => match us, hl with | [_, _, _], _ => rfl) (fun cdv A outer s H E hr => ⟨_, (pss_one (ps_ret (pe_and (g_call (ok_is_whole T) hr (by decide) pass0 (pa_cons (pv 0) pa_nil)) (pe_one (pe_chain op_le op_le (pv 1) (pv 0) (pv 2)))))), fun H0 F0 P0 Ed ss Q h => ?_⟩)
  obtain ⟨d, l, m, rfl, hp, hq⟩ := h
  show Ws _ _ [.dat d, .dat (.int l), .dat (.int m)] _
  walk_at "go"
  refine ⟨trivial, _, rfl, fun hc => ?_, fun hc => ?_⟩
  · cases d with
    | int i =>
      walk_at "go"
      refine ⟨fun h1 => ?_, fun h1 => ?_⟩
      · walk_at "go"
        have e : isBtw (.int i) l m = decide (i ≤ m) := by show (decide (l ≤ i) && decide (i ≤ m)) = _; rw [h1]; rfl
        rw [e] at hq; exact hq
      · have e : isBtw (.int i) l m = false := by show (decide (l ≤ i) && decide (i ≤ m)) = _; rw [h1]; rfl
        rw [e] at hq; exact hq
    | _ => cases hc
  · cases d <;> first | exact hq | cases hc

abbrev N_want_ins : List Str := ["n"]
theorem sc_want_ins : FnScope N_want_ins ["n"] (defScope s_want_ins) := ⟨rfl, rfl, rfl, by decide +kernel, rfl, by decide +kernel, by decide +kernel⟩
def T_want_ins : Tr := fun ss Q _ => ∃ (n : Int), ss = [.dat (.int n)] ∧ (1 ≤ n ∧ n ≤ 4) ∧ (Q (.dat .none))
set_option maxRecDepth 100000 in
theorem ok_want_ins {P : Program} {w : World} {K : PySem.W.Frag} {mg : Str → Option Value} {base : Heap} (T : Tx K mg) : Ok P w K mg base CX0 3 "want_ins" ["n"] T_want_ins := by
  refine ok_of0 (k := 2) (N := N_want_ins) T.d_want_ins sc_want_ins (fun ss Q Ed h => by obtain ⟨n, rfl, hp, hq⟩ := h; rfl) (fun ss Q Ed h => h) (fun kV doc pm an cdv ct us hl => match us, hl with | [_], _ => rfl) (fun cdv A outer s H E hr => ⟨_, (pss_one (ps_if (pt_not (pt_val (g_call (ok_is_between T) hr (by decide) pass0 (pa_cons (pv 0) (pa_cons pe_int (pa_cons (g_gint T.c_MOST_INS) pa_nil)))))) (pss_one ps_never) pss_nil)), fun H0 F0 P0 Ed ss Q h => ?_⟩)
  obtain ⟨n, rfl, hp, hq⟩ := h
  show Ws _ _ [.dat (.int n)] _
  walk_at "go"
  refine ⟨_, _, _, rfl, trivial, _, rfl, ?_⟩
  have e : isBtw (.int n) 1 4 = true := by show (decide (1 ≤ n) && decide (n ≤ 4)) = true; rw [decide_eq_true hp.1, decide_eq_true hp.2]; rfl
  rw [e]
  refine ⟨fun hc => (nomatch hc), fun _ => ?_⟩
  walk_at "go"
  exact hq
theorem mem_ints {d : PyData} {ns : List Int} (h : d ∈ ns.map PyData.int) : ∃ i, i ∈ ns ∧ d = .int i := by
  obtain ⟨i, h1, h2⟩ := List.mem_map.mp h
  exact ⟨i, h1, h2.symm⟩
def intD : PyData → Int
  | .int i => i
  | _ => 0
theorem two_pow_pos (k : Nat) : (0 : Int) < 2 ^ k := Int.pow_pos (by decide)
theorem pow_mono {a c : Nat} (h : a ≤ c) : (2 : Int) ^ a ≤ 2 ^ c := by
  have e : ∀ k : Nat, (2 : Int) ^ k = ((2 ^ k : Nat) : Int) := fun k => by rw [Int.natCast_pow]; rfl
  rw [e, e]
  exact Int.ofNat_le.mpr (Nat.pow_le_pow_right (by decide) h)
theorem pow_le16 {n : Int} (h : n ≤ 4) : (2 : Int) ^ n.toNat ≤ 16 := pow_mono (c := 4) (by omega)
theorem cpow1 {j : Int} (h0 : 0 ≤ j) (h1 : j ≤ 1000) : CPow 1 j := ⟨h0, by omega, by decide⟩
abbrev N_want_tables : List Str := ["n", "tables", "table"]
theorem sc_want_tables : FnScope N_want_tables ["n", "tables"] (defScope s_want_tables) := ⟨rfl, rfl, rfl, by decide +kernel, rfl, by decide +kernel, by decide +kernel⟩
def T_want_tables : Tr := fun ss Q _ => ∃ (n : Int) (ts : List Int), ss = [.dat (.int n), .dat (.list (ts.map .int))] ∧ ((1 ≤ n ∧ n ≤ 4) ∧ TabsOk n ts) ∧ (Q (.dat .none))
set_option maxRecDepth 100000 in
theorem ok_want_tables {P : Program} {w : World} {K : PySem.W.Frag} {mg : Str → Option Value} {base : Heap} (T : Tx K mg) : Ok P w K mg base CX0 3 "want_tables" ["n", "tables"] T_want_tables := by
  refine ok_of0 (k := 2) (N := N_want_tables) T.d_want_tables sc_want_tables (fun ss Q Ed h => by obtain ⟨n, ts, rfl, hp, hq⟩ := h; rfl) (fun ss Q Ed h => h) (fun kV doc pm an cdv ct us hl => match us, hl with | [_, _], _ => rfl) (fun cdv A outer s H E hr => ⟨_, (pss_cons (ps_if (PW.pt (pw_or (pt_not (pt_val (g_cb (K := K) (r := rIsi) call_isi T.m_isinstance boot_isinstance (pa_cons (pv 1) (pa_cons (pe_bltn (v := .ty "list") (by rfl) T.m_list PyProof.Rows.boot_list rfl) pa_nil))))) (pw_or1 (pt_not (pt_chain op_le op_le pe_int (g_cb (K := K) (r := rLenB) call_lenB T.m_len PySem.boot_len (pa_cons (pv 1) pa_nil)) (g_gint T.c_MOST_TABLES)))))) (pss_one ps_never) pss_nil)
      (pss_one (ps_if (pt_not (pt_val (g_cb (K := K) (r := rAll) (cr_all (by rfl)) T.m_all boot_all (pa_cons (pe_lc (own := [("table", 2)]) (by rfl) sc_want_tables.nd (g_list (K := K) (pv 1)) (blkOk_by (N := N_want_tables) (sc := defScope s_want_tables) (by decide +kernel)) (fun _ _ _ _ _ => (pg_name (i := 2) sc_want_tables.nd rfl (by first | exact Or.inl rfl | exact Or.inr rfl))) (fun _ _ _ _ _ => pts_nil) (fun _ _ _ _ _ => (g_call (ok_is_between T) hr (by decide) pass0 (pa_cons (pv 2) (pa_cons pe_int (pa_cons (pe_op op_sub (pe_op op_shl pe_int (pe_op op_shl pe_int (pv 0))) pe_int) pa_nil)))))) pa_nil)))) (pss_one ps_never) pss_nil))), fun H0 F0 P0 Ed ss Q h => ?_⟩)
  obtain ⟨n, ts, rfl, hp, hq⟩ := h
  show Ws _ _ [.dat (.int n), .dat (.list (ts.map .int)), .no] _
  obtain ⟨hn, ht⟩ := hp
  walk_at "go"
  refine ⟨fun hc => (nomatch hc), fun _ => ?_⟩
  walk_at "go"
  have e1 : decide ((1 : Int) ≤ ((ts.map PyData.int).length : Nat)) = true := by rw [List.length_map]; exact decide_eq_true (by have := ht.lo; omega)
  rw [e1]
  refine ⟨fun _ => ?_, fun hc => (nomatch hc)⟩
  walk_at "go"
  have e2 : decide ((((ts.map PyData.int).length : Nat) : Int) ≤ 3) = true := by rw [List.length_map]; exact decide_eq_true (by have := ht.hi; omega)
  rw [e2]
  refine ⟨fun hc => (nomatch hc), fun _ => ?_⟩
  walk_at "go"
  refine ve_lcF (vi_list (ve_var rfl ⟨_, rfl, by rw [List.length_map]; have := ht.hi; omega, fun d => [(2, d)], fun d => .bool (isBtw d 0 (2 ^ ((2 : Int) ^ n.toNat).toNat - 1)), fun d hd => ?_, ?_⟩))
  · obtain ⟨t, hm, rfl⟩ := mem_ints hd
    refine ⟨tg_name, fun q hq => hq, ?_⟩
    show Ve _ _ [.dat (.int n), .dat (.list (ts.map .int)), .dat (.int t)] _
    walk_at "go"
    · exact cpow1 (by omega) (by omega)
    walk_at "go"
    · have := pow_le16 hn.2
      have := two_pow_pos n.toNat
      exact cpow1 (by omega) (by omega)
    walk_at "go"
    refine ⟨_, _, _, rfl, trivial, ?_⟩
    rw [Int.one_mul, Int.one_mul]
  · walk_at "go"
    refine rc_allD (fun d hd => ?_) ?_
    · obtain ⟨x, _, rfl⟩ := List.mem_map.mp hd; rfl
    have e3 : ((ts.map PyData.int).map fun d => PyData.bool (isBtw d 0 (2 ^ ((2 : Int) ^ n.toNat).toNat - 1))).all isTrueD = true := by
      rw [List.all_map, List.all_map, List.all_eq_true]
      intro t hm
      have h := ht.mem t hm
      show isTrueD (.bool (decide (0 ≤ t) && decide (t ≤ 2 ^ ((2 : Int) ^ n.toNat).toNat - 1))) = true
      rw [decide_eq_true h.1, decide_eq_true (by omega)]; rfl
    rw [e3]
    walk_at "go"
    refine ⟨fun hc => (nomatch hc), fun _ => ?_⟩
    walk_at "go"
    exact hq

abbrev N_is_within : List Str := ["one", "other"]
theorem sc_is_within : FnScope N_is_within ["one", "other"] (defScope s_is_within) := ⟨rfl, rfl, rfl, by decide +kernel, rfl, by decide +kernel, by decide +kernel⟩
def T_is_within : Tr := fun ss Q _ => ∃ (x y : Int), ss = [.dat (.int x), .dat (.int y)] ∧ (True) ∧ (Q (.dat (.bool (within x y))))
set_option maxRecDepth 100000 in
theorem ok_is_within {P : Program} {w : World} {K : PySem.W.Frag} {mg : Str → Option Value} {base : Heap} (T : Tx K mg) : Ok P w K mg base CX0 1 "is_within" ["one", "other"] T_is_within := by
  refine ok_of0 (k := 0) (N := N_is_within) T.d_is_within sc_is_within (fun ss Q Ed h => by obtain ⟨x, y, rfl, hp, hq⟩ := h; rfl) (fun ss Q Ed h => h) (fun kV doc pm an cdv ct us hl => match us, hl with | [_, _], _ => rfl) (fun cdv A outer s H E hr => ⟨_, (pss_one (ps_ret (g_eq (K := K) hr.units (pe_op op_and (pv 0) (pv 1)) (pv 0)))), fun H0 F0 P0 Ed ss Q h => ?_⟩)
  obtain ⟨x, y, rfl, hp, hq⟩ := h
  show Ws _ _ [.dat (.int x), .dat (.int y)] _
  walk_at "go"
  rw [eqv_int]
  exact hq
theorem rises_zip : ∀ {row : List Int} {p : Int × Int}, rises row = true → p ∈ row.zip (row.drop 1) → p.1 ≠ p.2 ∧ within p.1 p.2 = true
  | [], _, _, h => by simp at h
  | [_], _, _, h => by simp at h
  | x :: y :: r, p, h, hm => by
    have h' : ((!decide (x = y) && within x y) && rises (y :: r)) = true := h
    obtain ⟨h1, h2⟩ := Bool.and_eq_true_iff.mp h'
    obtain ⟨h3, h4⟩ := Bool.and_eq_true_iff.mp h1
    have hz : (x :: y :: r).zip ((x :: y :: r).drop 1) = (x, y) :: (y :: r).zip ((y :: r).drop 1) := by simp
    rw [hz] at hm
    rcases List.mem_cons.mp hm with e | hm
    · subst e
      exact ⟨by simpa using h3, h4⟩
    · exact rises_zip (row := y :: r) h2 hm
theorem zip_ints (xs ys : List Int) : zipD (xs.map PyData.int) (ys.map PyData.int) = (xs.zip ys).map fun p => .tuple [.int p.1, .int p.2] := by
  unfold zipD
  rw [List.zip_map, List.map_map]
  rfl
theorem eqv_nil {ds : List PyData} (h : ds ≠ []) : PyData.eqv (.list ds) (.list []) = false := by
  cases ds with
  | nil => exact absurd rfl h
  | cons _ _ => rfl
theorem cut_ints (row : List Int) : cutD (row.map PyData.int) (some 1) none = (row.drop 1).map PyData.int := by
  rw [show (1 : Int) = ((1 : Nat) : Int) from rfl, cutD_from, List.map_drop]
abbrev N_is_rising : List Str := ["n", "row", "one", "other", "choice"]
theorem sc_is_rising : FnScope N_is_rising ["n", "row"] (defScope s_is_rising) := ⟨rfl, rfl, rfl, by decide +kernel, rfl, by decide +kernel, by decide +kernel⟩
def T_is_rising : Tr := fun ss Q _ => ∃ (n : Int) (row : List Int), ss = [.dat (.int n), .dat (.list (row.map .int))] ∧ ((1 ≤ n ∧ n ≤ 4) ∧ RowOk n row) ∧ (Q (.dat (.bool true)))
set_option maxRecDepth 100000 in
theorem ok_is_rising {P : Program} {w : World} {K : PySem.W.Frag} {mg : Str → Option Value} {base : Heap} (T : Tx K mg) : Ok P w K mg base CX0 3 "is_rising" ["n", "row"] T_is_rising := by
  refine ok_of0 (k := 2) (N := N_is_rising) T.d_is_rising sc_is_rising (fun ss Q Ed h => by obtain ⟨n, row, rfl, hp, hq⟩ := h; rfl) (fun ss Q Ed h => h) (fun kV doc pm an cdv ct us hl => match us, hl with | [_, _], _ => rfl) (fun cdv A outer s H E hr => ⟨_, (pss_cons (ps_if (PW.pt (pw_or (pt_not (pt_val (g_cb (K := K) (r := rIsi) call_isi T.m_isinstance boot_isinstance (pa_cons (pv 1) (pa_cons (pe_bltn (v := .ty "list") (by rfl) T.m_list PyProof.Rows.boot_list rfl) pa_nil))))) (pw_or (gt_eq (K := K) hr.units (pv 1) (pe_lst pa_nil)) (pw_or1 (pt_not (pt_val (g_cb (K := K) (r := rAll) (cr_all (by rfl)) T.m_all boot_all (pa_cons (pe_lc (own := [("choice", 4)]) (by rfl) sc_is_rising.nd (g_list (K := K) (pv 1)) (blkOk_by (N := N_is_rising) (sc := defScope s_is_rising) (by decide +kernel)) (fun _ _ _ _ _ => (pg_name (i := 4) sc_is_rising.nd rfl (by first | exact Or.inl rfl | exact Or.inr rfl))) (fun _ _ _ _ _ => pts_nil) (fun _ _ _ _ _ => (g_call (ok_is_between T) hr (by decide) pass0 (pa_cons (pv 4) (pa_cons pe_int (pa_cons (pe_op op_sub (pe_op op_shl pe_int (pv 0)) pe_int) pa_nil)))))) pa_nil)))))))) (pss_one (ps_ret pe_bl)) pss_nil)
      (pss_one (ps_ret (g_cb (K := K) (r := rAll) (cr_all (by rfl)) T.m_all boot_all (pa_cons (pe_lc (own := [("one", 2), ("other", 3)]) (by rfl) sc_is_rising.nd (g_zip (K := K) T.m_zip (pa_cons (pv 1) (pa_cons (g_sl (K := K) (pv 1) (po_some pe_int) po_none) pa_nil))) (blkOk_by (N := N_is_rising) (sc := defScope s_is_rising) (by decide +kernel)) (fun _ _ _ _ _ => (g_tgtup (K := K) (n := 2) (by rfl) (pgs_cons (pg_name (i := 2) sc_is_rising.nd rfl (by first | exact Or.inl rfl | exact Or.inr rfl)) (pgs_cons (pg_name (i := 3) sc_is_rising.nd rfl (by first | exact Or.inl rfl | exact Or.inr rfl)) pgs_nil)))) (fun _ _ _ _ _ => pts_nil) (fun _ _ _ _ _ => (pe_and (g_ne (K := K) hr.units (pv 2) (pv 3)) (pe_one (g_call (ok_is_within T) hr (by decide) pass0 (pa_cons (pv 2) (pa_cons (pv 3) pa_nil))))))) pa_nil))))), fun H0 F0 P0 Ed ss Q h => ?_⟩)
  obtain ⟨n, row, rfl, hp, hq⟩ := h
  show Ws _ _ [.dat (.int n), .dat (.list (row.map .int)), .no, .no, .no] _
  obtain ⟨hn, ht⟩ := hp
  have hlen : (row.map PyData.int).length ≤ 100000 := by rw [List.length_map]; have := ht.len; omega
  walk_at "go"
  refine ⟨fun hc => (nomatch hc), fun _ => ?_⟩
  walk_at "go"
  refine ro_eqD (shp_ints (n := 0) row).ok rfl ?_
  rw [eqv_nil (by intro z; exact ht.ne (List.map_eq_nil_iff.mp z))]
  refine ⟨_, rfl, fun hc => (nomatch hc), fun _ => ?_⟩
  walk_at "go"
  refine ve_lcF (vi_list (ve_var rfl ⟨_, rfl, hlen, fun d => [(4, d)], fun d => .bool (isBtw d 0 (2 ^ n.toNat - 1)), fun d hd => ?_, ?_⟩))
  · obtain ⟨t, hm, rfl⟩ := mem_ints hd
    refine ⟨tg_name, fun q hq => hq, ?_⟩
    show Ve _ _ [.dat (.int n), .dat (.list (row.map .int)), .no, .no, .dat (.int t)] _
    walk_at "go"
    · exact cpow1 (by omega) (by omega)
    walk_at "go"
    refine ⟨_, _, _, rfl, trivial, ?_⟩
    rw [Int.one_mul]
  · walk_at "go"
    refine rc_allD (fun d hd => ?_) ?_
    · obtain ⟨x, _, rfl⟩ := List.mem_map.mp hd; rfl
    have e3 : ((row.map PyData.int).map fun d => PyData.bool (isBtw d 0 (2 ^ n.toNat - 1))).all isTrueD = true := by
      rw [List.all_map, List.all_map, List.all_eq_true]
      intro t hm
      have h := ht.mem t hm
      show isTrueD (.bool (decide (0 ≤ t) && decide (t ≤ 2 ^ n.toNat - 1))) = true
      rw [decide_eq_true h.1, decide_eq_true (by omega)]; rfl
    rw [e3]
    walk_at "go"
    refine ⟨fun hc => (nomatch hc), fun _ => ?_⟩
    walk_at "go"
    refine ve_lcF (vi_zip (va_cons (ve_var rfl ⟨_, rfl, va_cons (ve_sl (ve_var rfl ⟨_, rfl, vo_some (ve_int ⟨_, rfl, vo_none (rl_list ⟨_, rfl, va_nil ⟨_, _, rfl, ?_⟩⟩)⟩)⟩))⟩)))
    rw [cut_ints, zip_ints]
    refine ⟨by rw [List.length_map, List.length_zip]; have := ht.len; omega, fun d => match d with | .tuple [x, y] => [(2, x), (3, y)] | _ => [], fun d => .bool true, fun d hd => ?_, ?_⟩
    · obtain ⟨p, hm, rfl⟩ := List.mem_map.mp hd
      obtain ⟨h1, h2⟩ := rises_zip ht.rise hm
      refine ⟨tg_two, fun q hq => hq, ?_⟩
      show Ve _ _ [.dat (.int n), .dat (.list (row.map .int)), .dat (.int p.1), .dat (.int p.2), .no] _
      walk_at "go"
      rw [eqv_int, decide_eq_false h1]
      refine ⟨fun _ => ?_, fun hc => (nomatch hc)⟩
      walk_at "go"
      refine ⟨_, _, rfl, trivial, ?_⟩
      rw [h2]
    · walk_at "go"
      refine rc_allD (fun d hd => ?_) ?_
      · obtain ⟨x, _, rfl⟩ := List.mem_map.mp hd; rfl
      have e4 : ∀ l : List PyData, (l.map fun _ => PyData.bool true).all isTrueD = true := fun l => by
        rw [List.all_map, List.all_eq_true]; intro _ _; rfl
      rw [e4]
      exact hq

abbrev N_is_so_in : List Str := ["table", "choice"]
theorem sc_is_so_in : FnScope N_is_so_in ["table", "choice"] (defScope s_is_so_in) := ⟨rfl, rfl, rfl, by decide +kernel, rfl, by decide +kernel, by decide +kernel⟩
def T_is_so_in : Tr := fun ss Q _ => ∃ (t c : Int), ss = [.dat (.int t), .dat (.int c)] ∧ (0 ≤ c) ∧ (Q (.dat (.bool (so t c))))
set_option maxRecDepth 100000 in
theorem ok_is_so_in {P : Program} {w : World} {K : PySem.W.Frag} {mg : Str → Option Value} {base : Heap} (T : Tx K mg) : Ok P w K mg base CX0 1 "is_so_in" ["table", "choice"] T_is_so_in := by
  refine ok_of0 (k := 0) (N := N_is_so_in) T.d_is_so_in sc_is_so_in (fun ss Q Ed h => by obtain ⟨t, c, rfl, hp, hq⟩ := h; rfl) (fun ss Q Ed h => h) (fun kV doc pm an cdv ct us hl => match us, hl with | [_, _], _ => rfl) (fun cdv A outer s H E hr => ⟨_, (pss_one (ps_ret (g_eq (K := K) hr.units (pe_op op_and (pe_op op_shr (pv 0) (pv 1)) pe_int) pe_int))), fun H0 F0 P0 Ed ss Q h => ?_⟩)
  obtain ⟨t, c, rfl, hp, hq⟩ := h
  show Ws _ _ [.dat (.int t), .dat (.int c)] _
  walk_at "go"
  · exact hp
  walk_at "go"
  rw [eqv_int, bitAnd_m1]
  exact hq

abbrev N_is_fall : List Str := ["tables", "one", "other", "table"]
theorem sc_is_fall : FnScope N_is_fall ["tables", "one", "other"] (defScope s_is_fall) := ⟨rfl, rfl, rfl, by decide +kernel, rfl, by decide +kernel, by decide +kernel⟩
def T_is_fall : Tr := fun ss Q _ => ∃ (ts : List Int) (x y : Int), ss = [.dat (.list (ts.map .int)), .dat (.int x), .dat (.int y)] ∧ (ts.length ≤ 1000 ∧ 0 ≤ x ∧ 0 ≤ y) ∧ (Q (.dat (.bool (fall ts x y))))
set_option maxRecDepth 100000 in
theorem ok_is_fall {P : Program} {w : World} {K : PySem.W.Frag} {mg : Str → Option Value} {base : Heap} (T : Tx K mg) : Ok P w K mg base CX0 2 "is_fall" ["tables", "one", "other"] T_is_fall := by
  refine ok_of0 (k := 1) (N := N_is_fall) T.d_is_fall sc_is_fall (fun ss Q Ed h => by obtain ⟨ts, x, y, rfl, hp, hq⟩ := h; rfl) (fun ss Q Ed h => h) (fun kV doc pm an cdv ct us hl => match us, hl with | [_, _, _], _ => rfl) (fun cdv A outer s H E hr => ⟨_, (pss_one (ps_ret (g_cb (K := K) (r := rAny) (cr_any (by rfl)) T.m_any boot_any (pa_cons (pe_lc (own := [("table", 3)]) (by rfl) sc_is_fall.nd (g_list (K := K) (pv 0)) (blkOk_by (N := N_is_fall) (sc := defScope s_is_fall) (by decide +kernel)) (fun _ _ _ _ _ => (pg_name (i := 3) sc_is_fall.nd rfl (by first | exact Or.inl rfl | exact Or.inr rfl))) (fun _ _ _ _ _ => pts_nil) (fun _ _ _ _ _ => (pe_and (g_call (ok_is_so_in T) hr (by decide) pass0 (pa_cons (pv 3) (pa_cons (pv 1) pa_nil))) (pe_one (pe_not (g_call (ok_is_so_in T) hr (by decide) pass0 (pa_cons (pv 3) (pa_cons (pv 2) pa_nil)))))))) pa_nil)))), fun H0 F0 P0 Ed ss Q h => ?_⟩)
  obtain ⟨ts, x, y, rfl, hp, hq⟩ := h
  show Ws _ _ [.dat (.list (ts.map .int)), .dat (.int x), .dat (.int y), .no] _
  obtain ⟨hl, hx, hy⟩ := hp
  walk_at "go"
  refine ve_lcF (vi_list (ve_var rfl ⟨_, rfl, by rw [List.length_map]; omega, fun d => [(3, d)], fun d => .bool (so (intD d) x && !so (intD d) y), fun d hd => ?_, ?_⟩))
  · obtain ⟨t, hm, rfl⟩ := mem_ints hd
    refine ⟨tg_name, fun q hq => hq, ?_⟩
    show Ve _ _ [.dat (.list (ts.map .int)), .dat (.int x), .dat (.int y), .dat (.int t)] _
    walk_at "go"
    refine ⟨_, _, rfl, hx, _, rfl, fun hc => ?_, fun hc => ?_⟩
    · walk_at "go"
      refine ⟨_, _, rfl, hy, _, rfl, ?_⟩
      show Sl.dat (.bool (!so t y)) = .dat (.bool (so t x && !so t y))
      rw [hc]; rfl
    · show Sl.dat (.bool false) = .dat (.bool (so t x && !so t y))
      rw [hc]; rfl
  · walk_at "go"
    refine rc_anyD (fun d hd => ?_) ?_
    · obtain ⟨x, _, rfl⟩ := List.mem_map.mp hd; rfl
    have e : ((ts.map PyData.int).map fun d => PyData.bool (so (intD d) x && !so (intD d) y)).any isTrueD = fall ts x y := by
      rw [List.any_map, List.any_map]
      unfold fall
      congr 1
      funext t
      show isTrueD (.bool (so t x && !so t y)) = _
      cases so t x && !so t y <;> rfl
    rw [e]
    exact hq

abbrev N_falls_on : List Str := ["n", "tables", "row", "one", "other"]
theorem sc_falls_on : FnScope N_falls_on ["n", "tables", "row"] (defScope s_falls_on) := ⟨rfl, rfl, rfl, by decide +kernel, rfl, by decide +kernel, by decide +kernel⟩
def T_falls_on : Tr := fun ss Q _ => ∃ (n : Int) (ts row : List Int), ss = [.dat (.int n), .dat (.list (ts.map .int)), .dat (.list (row.map .int))] ∧ ((1 ≤ n ∧ n ≤ 4) ∧ TabsOk n ts ∧ RowOk n row) ∧ (Q (.dat (.int (falls ts row))))
set_option maxRecDepth 100000 in
theorem ok_falls_on {P : Program} {w : World} {K : PySem.W.Frag} {mg : Str → Option Value} {base : Heap} (T : Tx K mg) : Ok P w K mg base CX0 4 "falls_on" ["n", "tables", "row"] T_falls_on := by
  refine ok_of0 (k := 3) (N := N_falls_on) T.d_falls_on sc_falls_on (fun ss Q Ed h => by obtain ⟨n, ts, row, rfl, hp, hq⟩ := h; rfl) (fun ss Q Ed h => h) (fun kV doc pm an cdv ct us hl => match us, hl with | [_, _, _], _ => rfl) (fun cdv A outer s H E hr => ⟨_, (pss_cons (ps_expr (g_call (ok_want_ins T) hr (by decide) pass0 (pa_cons (pv 0) pa_nil)))
      (pss_cons (ps_expr (g_call (ok_want_tables T) hr (by decide) pass0 (pa_cons (pv 0) (pa_cons (pv 1) pa_nil))))
      (pss_cons (ps_if (pt_not (pt_val (g_call (ok_is_rising T) hr (by decide) pass0 (pa_cons (pv 0) (pa_cons (pv 2) pa_nil))))) (pss_one ps_never) pss_nil)
      (pss_one (ps_ret (g_cb (K := K) (r := rLenB) call_lenB T.m_len PySem.boot_len (pa_cons (pe_lc (own := [("one", 3), ("other", 4)]) (by rfl) sc_falls_on.nd (g_zip (K := K) T.m_zip (pa_cons (pv 2) (pa_cons (g_sl (K := K) (pv 2) (po_some pe_int) po_none) pa_nil))) (blkOk_by (N := N_falls_on) (sc := defScope s_falls_on) (by decide +kernel)) (fun _ _ _ _ _ => (g_tgtup (K := K) (n := 2) (by rfl) (pgs_cons (pg_name (i := 3) sc_falls_on.nd rfl (by first | exact Or.inl rfl | exact Or.inr rfl)) (pgs_cons (pg_name (i := 4) sc_falls_on.nd rfl (by first | exact Or.inl rfl | exact Or.inr rfl)) pgs_nil)))) (fun _ _ _ _ _ => (pts_one (pt_val (g_call (ok_is_fall T) hr (by decide) pass0 (pa_cons (pv 1) (pa_cons (pv 3) (pa_cons (pv 4) pa_nil))))))) (fun _ _ _ _ _ => (pv 3))) pa_nil))))))), fun H0 F0 P0 Ed ss Q h => ?_⟩)
  obtain ⟨n, ts, row, rfl, hp, hq⟩ := h
  show Ws _ _ [.dat (.int n), .dat (.list (ts.map .int)), .dat (.list (row.map .int)), .no, .no] _
  obtain ⟨hn, ht, hr'⟩ := hp
  walk_at "go"
  refine ⟨hn, ?_⟩
  walk_at "go"
  refine ⟨_, _, rfl, ⟨hn, ht⟩, ?_⟩
  walk_at "go"
  refine ⟨_, _, rfl, ⟨hn, hr'⟩, _, rfl, fun hc => (nomatch hc), fun _ => ?_⟩
  walk_at "go"
  refine ve_lcT (vi_zip (va_cons (ve_var rfl ⟨_, rfl, va_cons (ve_sl (ve_var rfl ⟨_, rfl, vo_some (ve_int ⟨_, rfl, vo_none (rl_list ⟨_, rfl, va_nil ⟨_, _, rfl, ?_⟩⟩)⟩)⟩))⟩)))
  rw [cut_ints, zip_ints]
  refine ⟨by rw [List.length_map, List.length_zip]; have := hr'.len; omega, fun d => match d with | .tuple [x, y] => [(3, x), (4, y)] | _ => [], fun d => match d with | .tuple [.int x, .int y] => fall ts x y | _ => false, fun d => match d with | .tuple [x, y] => x | _ => .none, fun d hd => ?_, ?_⟩
  · obtain ⟨p, hm, rfl⟩ := List.mem_map.mp hd
    have hm1 := hr'.mem _ (List.of_mem_zip hm).1
    have hm2 := hr'.mem _ (List.mem_of_mem_drop (List.of_mem_zip hm).2)
    refine ⟨tg_two, fun q hq => hq, ?_, fun _ => ?_⟩
    · show Vt _ _ [.dat (.int n), .dat (.list (ts.map .int)), .dat (.list (row.map .int)), .dat (.int p.1), .dat (.int p.2)] _
      walk_at "go"
      refine ⟨_, _, _, rfl, ⟨by have := ht.hi; omega, hm1.1, hm2.1⟩, _, rfl, rfl⟩
    · show Ve _ _ [.dat (.int n), .dat (.list (ts.map .int)), .dat (.list (row.map .int)), .dat (.int p.1), .dat (.int p.2)] _
      walk_at "go"
      rfl
  · walk_at "go"
    rw [List.length_map, List.filter_map, List.length_map]
    exact hq

abbrev N_law_pot : List Str := ["_law_script", "_law_k", "_law_cell"]
theorem sc_law_pot : FnScope N_law_pot ["_law_script", "_law_k"] (defScope s_law_pot) := ⟨rfl, rfl, rfl, by decide +kernel, rfl, by decide +kernel, by decide +kernel⟩
def T_law_pot : Tr := fun ss Q _ => ∃ (ns : List Int) (k : Int), ss = [.scr ns, .dat (.int k)] ∧ (0 ≤ k ∧ k ≤ 1000) ∧ (∀ a, Q (.own a .pot))
set_option maxRecDepth 100000 in
theorem ok_law_pot {P : Program} {w : World} {K : PySem.W.Frag} {mg : Str → Option Value} {base : Heap} (T : Tx K mg) : Ok P w K mg base CX0 1 "_law_pot" ["_law_script", "_law_k"] T_law_pot := by
  refine ok_of0 (k := 0) (N := N_law_pot) T.d_law_pot sc_law_pot (fun ss Q Ed h => by obtain ⟨ns, k, rfl, hp, hq⟩ := h; rfl) (fun ss Q Ed h => h) (fun kV doc pm an cdv ct us hl => match us, hl with | [_, _], _ => rfl) (fun cdv A outer s H E hr => ⟨_, (pss_cons (ps_set (i := 2) sc_law_pot.nd rfl (by first | exact Or.inl rfl | exact Or.inr rfl) (pe_ifExp (pt_cmpR op_lt (pv 1) (g_cb (K := K) (r := rLenB) call_lenB T.m_len PySem.boot_len (pa_cons (pv 0) pa_nil)) (nomark _)) (g_ix (K := K) (pv 0) (pv 1)) pe_int))
      (pss_one (ps_ret (pe_lst (pa_cons (pe_callB (call_max2B (by rfl)) (by rfl) T.m_max boot_max (pa_cons pe_int (pa_cons (pe_op op_sub (pe_callB call_absB (by rfl) T.m_abs boot_abs (pa_cons (pv 2) pa_nil)) (pe_op op_pow pe_int pe_int)) pa_nil))) (pa_cons (g_plus (K := K) (g_plus (K := K) (pe_op op_mod (pe_callB call_absB (by rfl) T.m_abs boot_abs (pa_cons (pv 2) pa_nil)) pe_int) (pe_op op_times pe_int (pv 1))) pe_int) pa_nil)))))), fun H0 F0 P0 Ed ss Q h => ?_⟩)
  obtain ⟨ns, k, rfl, hp, hq⟩ := h
  show Ws _ _ [.scr ns, .dat (.int k), .no] _
  have fin : ∀ x : Int, Ws ⟨K, H0, F0, P0, E0, Ed⟩ (tRet (tLst (tCons (tCB rMax2B (tCons (tC (.int 0)) (tCons (tOp (rI0 fun i j => .int (i - j)) (tCB rAbsB (tCons (tVar 2) tNil)) (tOp (rI CPow fun i j => .int (i ^ j.toNat)) (tC (.int 10)) (tC (.int 18)))) tNil))) (tCons (tOp (rPlus K) (tOp (rPlus K) (tOp (rI (fun _ j => 0 < j) fun i j => .int (i % j)) (tCB rAbsB (tCons (tVar 2) tNil)) (tC (.int 2147483587))) (tOp rTimes (tC (.int 1013)) (tVar 1))) (tC (.int 7))) tNil)))) [.scr ns, .dat (.int k), .dat (.int x)] ⟨fun _ => Q (.dat .none), Q, fun _ => False, fun _ => False⟩ := fun x => by
    refine ws_ret (ve_potO ?_)
    walk_at "go"
    · exact ⟨by omega, by omega, by decide⟩
    walk_at "go"
    · show (0 : Int) < 2147483587; decide
    walk_at "go"
    · exact .inl ⟨by decide, by decide⟩
    walk_at "go"
    have h1 := Int.emod_nonneg (if x < 0 then -x else x) (show (2147483587 : Int) ≠ 0 by decide)
    have h2 := Int.emod_lt_of_pos (if x < 0 then -x else x) (show (0 : Int) < 2147483587 by decide)
    exact ⟨_, _, rfl, ⟨by omega, by omega⟩, hq⟩
  walk_at "go"
  refine ⟨fun hc => ?_, fun hc => ?_⟩
  · have hk : k.toNat < ns.length := by have := of_decide_eq_true hc; omega
    refine ve_ixScr rfl (ve_var rfl ⟨_, ns[k.toNat], rfl, ?_, fin _⟩)
    unfold atI ixN
    rw [if_pos hp.1, if_pos (by omega)]
    exact List.getElem?_eq_getElem hk
  · exact ve_int (fin _)

abbrev N_law_take : List Str := ["_law_pot_here", "_law_many", "_law_digit"]
theorem sc_law_take : FnScope N_law_take ["_law_pot_here", "_law_many"] (defScope s_law_take) := ⟨rfl, rfl, rfl, by decide +kernel, rfl, by decide +kernel, by decide +kernel⟩
def T_law_take : Tr := fun ss Q _ => ∃ (a : Addr) (m : Int), ss = [.own a .pot, .dat (.int m)] ∧ (0 < m ∧ m < 2 ^ 8000) ∧ (∀ i : Int, 0 ≤ i → i < m → Q (.dat (.int i)))
set_option maxRecDepth 100000 in
theorem ok_law_take {P : Program} {w : World} {K : PySem.W.Frag} {mg : Str → Option Value} {base : Heap} (T : Tx K mg) : Ok P w K mg base CX0 1 "_law_take" ["_law_pot_here", "_law_many"] T_law_take := by
  refine ok_of0 (k := 0) (N := N_law_take) T.d_law_take sc_law_take (fun ss Q Ed h => by obtain ⟨a, m, rfl, hp, hq⟩ := h; rfl) (fun ss Q Ed h => h) (fun kV doc pm an cdv ct us hl => match us, hl with | [_, _], _ => rfl) (fun cdv A outer s H E hr => ⟨_, (pss_cons (ps_if (pt_cmpR op_gt (g_ix (K := K) (pv 0) pe_int) pe_int (nomark _)) (pss_cons (ps_asg (pe_callB call_divmodB (by rfl) T.m_divmod boot_divmod (pa_cons (g_ix (K := K) (pv 0) pe_int) (pa_cons (pv 1) pa_nil))) (g_tgtup (K := K) (n := 2) (by rfl) (pgs_cons (pg_sub (pv 0) pe_int set_list) (pgs_cons (pg_name (i := 2) sc_law_take.nd rfl (by first | exact Or.inl rfl | exact Or.inr rfl)) pgs_nil))))
      (pss_one (ps_ret (pv 2)))) pss_nil)
      (pss_cons (ps_asg (pe_op op_mod (g_plus (K := K) (pe_op op_times (g_ix (K := K) (pv 0) pe_int) pe_int) pe_int) pe_int) (pg_sub (pv 0) pe_int set_list))
      (pss_one (ps_ret (pe_op op_mod (pe_op op_fdiv (pe_op op_mod (pe_op op_times (g_ix (K := K) (pv 0) pe_int) (g_ix (K := K) (pv 0) pe_int)) pe_int) pe_int) (pv 1)))))), fun H0 F0 P0 Ed ss Q h => ?_⟩)
  obtain ⟨a, m, rfl, hp, hq⟩ := h
  show Ws _ _ [.own a .pot, .dat (.int m), .no] _
  have hm0 : m ≠ 0 := by omega
  walk_at "go"
  intro x
  walk_at "go"
  refine ⟨fun hc => ?_, fun hc => ?_⟩
  · walk_at "go"
    intro y
    walk_at "go"
    · exact cdivp hp.1 hp.2
    walk_at "go"
    exact hq _ (Int.emod_nonneg _ hm0) (Int.emod_lt_of_pos _ hp.1)
  · walk_at "go"
    intro y h0 h1
    walk_at "go"
    · exact .inr ⟨by decide, by decide⟩
    walk_at "go"
    · show (0 : Int) < 2147483647; decide
    walk_at "go"
    · have h2 := Int.emod_nonneg (y * 48271 + 11) (show (2147483647 : Int) ≠ 0 by decide)
      have h3 := Int.emod_lt_of_pos (y * 48271 + 11) (show (0 : Int) < 2147483647 by decide)
      exact ⟨h2, by omega⟩
    walk_at "go"
    intro z z0 z1
    walk_at "go"
    intro z' _ _
    walk_at "go"
    · exact .inl ⟨by omega, by omega⟩
    walk_at "go"
    · show (0 : Int) < 2147483629; decide
    walk_at "go"
    · exact ⟨by decide, by decide⟩
    walk_at "go"
    · exact hp.1
    exact hq _ (Int.emod_nonneg _ hm0) (Int.emod_lt_of_pos _ hp.1)

abbrev N_law_tables : List Str := ["_law_pot_here", "_law_n", "_law_turn"]
theorem sc_law_tables : FnScope N_law_tables ["_law_pot_here", "_law_n"] (defScope s_law_tables) := ⟨rfl, rfl, rfl, by decide +kernel, rfl, by decide +kernel, by decide +kernel⟩
def T_law_tables : Tr := fun ss Q _ => ∃ (a : Addr) (n : Int), ss = [.own a .pot, .dat (.int n)] ∧ (1 ≤ n ∧ n ≤ 4) ∧ (∀ ts : List Int, TabsOk n ts → Q (.dat (.list (ts.map .int))))
set_option maxRecDepth 100000 in
theorem ok_law_tables {P : Program} {w : World} {K : PySem.W.Frag} {mg : Str → Option Value} {base : Heap} (T : Tx K mg) : Ok P w K mg base CX0 2 "_law_tables" ["_law_pot_here", "_law_n"] T_law_tables := by
  refine ok_of0 (k := 1) (N := N_law_tables) T.d_law_tables sc_law_tables (fun ss Q Ed h => by obtain ⟨a, n, rfl, hp, hq⟩ := h; rfl) (fun ss Q Ed h => h) (fun kV doc pm an cdv ct us hl => match us, hl with | [_, _], _ => rfl) (fun cdv A outer s H E hr => ⟨_, (pss_one (ps_ret (pe_lc (own := [("_law_turn", 2)]) (by rfl) sc_law_tables.nd (pi_range1 (by rfl) T.m_range (pa_cons (g_plus (K := K) pe_int (g_call (ok_law_take T) hr (by decide) pass0 (pa_cons (pv 0) (pa_cons pe_int pa_nil)))) pa_nil)) (blkOk_by (N := N_law_tables) (sc := defScope s_law_tables) (by decide +kernel)) (fun _ _ _ _ _ => (pg_name (i := 2) sc_law_tables.nd rfl (by first | exact Or.inl rfl | exact Or.inr rfl))) (fun _ _ _ _ _ => pts_nil) (fun _ _ _ _ _ => (g_call (ok_law_take T) hr (by decide) pass0 (pa_cons (pv 0) (pa_cons (pe_op op_shl pe_int (pe_op op_shl pe_int (pv 1))) pa_nil))))))), fun H0 F0 P0 Ed ss Q h => ?_⟩)
  obtain ⟨a, n, rfl, hp, hq⟩ := h
  show Ws _ _ [.own a .pot, .dat (.int n), .no] _
  refine ws_ret (ve_lc (vi_range1 ?_))
  walk_at "go"
  refine ⟨_, _, rfl, ⟨by decide, by omega⟩, fun m h0 h1 => ?_⟩
  walk_at "go"
  have h16 := pow_le16 hp.2
  have hpos := two_pow_pos n.toNat
  refine ⟨by omega, by omega, fun i acc => ∃ ts : List Int, acc = ts.map .int ∧ ts.length = i ∧ ∀ t ∈ ts, 0 ≤ t ∧ t < 2 ^ ((2 : Int) ^ n.toNat).toNat, fun d => [(2, d)], ⟨[], rfl, rfl, fun _ h => nomatch h⟩, fun i d acc hd hI => ?_, fun acc hI => ?_⟩
  · obtain ⟨ts, rfl, hl, hm⟩ := hI
    obtain ⟨hi, rfl⟩ := rangeD_get hd
    refine ⟨tg_name, fun q hq => hq, vt_yes ⟨fun _ => ?_, fun hc => nomatch hc⟩⟩
    show Ve _ _ [.own a .pot, .dat (.int n), .dat _] _
    walk_at "go"
    · exact cpow1 (by omega) (by omega)
    walk_at "go"
    · exact cpow1 (by omega) (by omega)
    walk_at "go"
    rw [Int.one_mul, Int.one_mul]
    refine ⟨_, _, rfl, ⟨two_pow_pos _, Int.lt_of_le_of_lt (pow_mono (c := 16) (by omega)) (Int.lt_of_lt_of_le (show (2 : Int) ^ 16 < 2 ^ 20 by decide) (pow_mono (by decide)))⟩, fun t t0 t1 => ⟨_, rfl, ?_, ts ++ [t], ?_, ?_, ?_⟩⟩
    · rw [List.length_map, hl]; omega
    · rw [List.map_append]; rfl
    · rw [List.length_append, hl]; rfl
    · intro x hx
      rcases List.mem_append.mp hx with h | h
      · exact hm x h
      · rw [List.mem_singleton.mp h]; exact ⟨t0, t1⟩
  · obtain ⟨ts, rfl, hl, hm⟩ := hI
    rw [rangeD_len] at hl
    exact .inl (hq ts ⟨by omega, by omega, hm⟩)
theorem or_lt {x y : Int} {k : Nat} (hx : 0 ≤ x) (hy : 0 ≤ y) (h1 : x < 2 ^ k) (h2 : y < 2 ^ k) : 0 ≤ Builtin.bitOr x y ∧ Builtin.bitOr x y < 2 ^ k := by
  rw [bitOr_nn hx hy]
  have e : (2 : Int) ^ k = ((2 ^ k : Nat) : Int) := by rw [Int.natCast_pow]; rfl
  have a : x.toNat < 2 ^ k := by rw [e] at h1; omega
  have c : y.toNat < 2 ^ k := by rw [e] at h2; omega
  have := Nat.or_lt_two_pow a c
  rw [e]
  exact ⟨Int.natCast_nonneg _, Int.ofNat_lt.mpr this⟩
theorem or_within {x y : Int} (hx : 0 ≤ x) (hy : 0 ≤ y) : within x (Builtin.bitOr x y) = true := by
  unfold within
  rw [bitOr_nn hx hy]
  refine decide_eq_true ?_
  have e : x = ((x.toNat : Nat) : Int) := by omega
  rw [bitAnd_pp hx (Int.natCast_nonneg _)]
  rw [show (((x.toNat ||| y.toNat : Nat) : Int)).toNat = x.toNat ||| y.toNat from rfl]
  rw [Nat.and_or_distrib_left, Nat.and_self]
  have : x.toNat ||| (x.toNat &&& y.toNat) = x.toNat := by
    apply Nat.eq_of_testBit_eq
    intro i
    rw [Nat.testBit_or, Nat.testBit_and]
    cases x.toNat.testBit i <;> cases y.toNat.testBit i <;> rfl
  rw [this]
  omega
theorem rises_snoc : ∀ {row : List Int} {l z : Int}, rises (row ++ [l]) = true → l ≠ z → within l z = true → rises (row ++ [l] ++ [z]) = true
  | [], l, z, _, h1, h2 => by
    show ((!decide (l = z) && within l z) && true) = true
    rw [h2, decide_eq_false h1]; rfl
  | [x], l, z, h, h1, h2 => by
    have h' : ((!decide (x = l) && within x l) && true) = true := h
    show ((!decide (x = l) && within x l) && ((!decide (l = z) && within l z) && true)) = true
    rw [h2, decide_eq_false h1]
    simpa using h'
  | x :: y :: r, l, z, h, h1, h2 => by
    have h' : ((!decide (x = y) && within x y) && rises (y :: r ++ [l])) = true := h
    obtain ⟨h3, h4⟩ := Bool.and_eq_true_iff.mp h'
    have ih := rises_snoc (row := y :: r) h4 h1 h2
    show ((!decide (x = y) && within x y) && rises (y :: r ++ [l] ++ [z])) = true
    rw [h3, ih]; rfl
/-- rows that rise, their last one told -/
structure RowEnd (n : Int) (pre : List Int) (l : Int) (m : Nat) : Prop where
  len : pre.length ≤ m
  mem : ∀ c ∈ pre ++ [l], 0 ≤ c ∧ c < 2 ^ n.toNat
  rise : rises (pre ++ [l]) = true
abbrev N_law_row : List Str := ["_law_pot_here", "_law_n", "_law_row_here", "_law_turn", "_law_more"]
theorem sc_law_row : FnScope N_law_row ["_law_pot_here", "_law_n"] (defScope s_law_row) := ⟨rfl, rfl, rfl, by decide +kernel, rfl, by decide +kernel, by decide +kernel⟩
def T_law_row : Tr := fun ss Q _ => ∃ (a : Addr) (n : Int), ss = [.own a .pot, .dat (.int n)] ∧ (1 ≤ n ∧ n ≤ 4) ∧ (∀ row : List Int, RowOk n row → Q (.dat (.list (row.map .int))))
set_option maxRecDepth 100000 in
theorem ok_law_row {P : Program} {w : World} {K : PySem.W.Frag} {mg : Str → Option Value} {base : Heap} (T : Tx K mg) : Ok P w K mg base CX0 2 "_law_row" ["_law_pot_here", "_law_n"] T_law_row := by
  refine ok_of0 (k := 1) (N := N_law_row) T.d_law_row sc_law_row (fun ss Q Ed h => by obtain ⟨a, n, rfl, hp, hq⟩ := h; rfl) (fun ss Q Ed h => h) (fun kV doc pm an cdv ct us hl => match us, hl with | [_, _], _ => rfl) (fun cdv A outer s H E hr => ⟨_, (pss_cons (ps_set (i := 2) sc_law_row.nd rfl (by first | exact Or.inl rfl | exact Or.inr rfl) (pe_lst (pa_cons (g_call (ok_law_take T) hr (by decide) pass0 (pa_cons (pv 0) (pa_cons (pe_op op_shl pe_int (pv 1)) pa_nil))) pa_nil)))
      (pss_cons (ps_for PassesOwn.never (by rfl) (pi_range1 (by rfl) T.m_range (pa_cons (pv 1) pa_nil)) (pg_name (i := 3) sc_law_row.nd rfl (by first | exact Or.inl rfl | exact Or.inr rfl)) (pss_cons (ps_set (i := 4) sc_law_row.nd rfl (by first | exact Or.inl rfl | exact Or.inr rfl) (pe_op op_or (g_ix (K := K) (pv 2) (pe_un un_neg pe_int)) (g_call (ok_law_take T) hr (by decide) pass0 (pa_cons (pv 0) (pa_cons (pe_op op_shl pe_int (pv 1)) pa_nil)))))
      (pss_one (ps_if (gt_ne (K := K) hr.units (pv 4) (g_ix (K := K) (pv 2) (pe_un un_neg pe_int))) (pss_one (ps_expr (g_append (K := K) (pe_bm PySem.F.plainAttrs_list PySem.F.slot_list_append PySem.F.type_list_append mt_append (pv 2) (pa_cons (pv 4) pa_nil))))) pss_nil))))
      (pss_one (ps_ret (pv 2))))), fun H0 F0 P0 Ed ss Q h => ?_⟩)
  obtain ⟨a, n, rfl, hp, hq⟩ := h
  show Ws _ _ [.own a .pot, .dat (.int n), .no, .no, .no] _
  have h16 := pow_le16 hp.2
  have hpos := two_pow_pos n.toNat
  have big : (2 : Int) ^ n.toNat < 2 ^ 8000 := Int.lt_of_le_of_lt (pow_mono (c := 4) (by omega)) (Int.lt_of_lt_of_le (show (2 : Int) ^ 4 < 2 ^ 20 by decide) (pow_mono (by decide)))
  refine ws_seq (ws_asg (ve_lstOA ?_))
  walk_at "go"
  · exact cpow1 (by omega) (by omega)
  walk_at "go"
  rw [Int.one_mul]
  refine ⟨_, _, rfl, ⟨hpos, big⟩, fun l l0 l1 => ⟨_, rfl, ?_⟩⟩
  walk_at "go"
  intro c
  show Ws _ _ [.own a .pot, .dat (.int n), .own c (.lst [.int l]), .no, .no] _
  refine ws_seq (ws_for (vi_range1 ?_))
  walk_at "go"
  refine ⟨by omega, by omega, fun i δ' => ∃ pre l s3 s4, δ' = [.own a .pot, .dat (.int n), .own c (.lst ((pre ++ [l]).map .int)), s3, s4] ∧ RowEnd n pre l i, ⟨[], l, .no, .no, rfl, Nat.le_refl _, fun x h => by rw [List.mem_singleton.mp h]; exact ⟨l0, l1⟩, rfl⟩, fun i d δ' hd hI => ?_, fun δ' hI => ?_⟩
  · obtain ⟨pre, l, s3, s4, rfl, hR⟩ := hI
    obtain ⟨hi, rfl⟩ := rangeD_get hd
    have hl := hR.mem l (List.mem_append_right _ List.mem_cons_self)
    have hlast : atI ((pre ++ [l]).map PyData.int) (-1) = some (.int l) := by
      rw [List.map_append]; exact atI_last _ _
    refine wg_name ?_
    show Ws _ _ [.own a .pot, .dat (.int n), .own c (.lst ((pre ++ [l]).map .int)), .dat _, s4] _
    walk_at "st"
    walk_at "st"
    refine ve_op (ve_ixOwn rfl ?_)
    walk_at "go"
    refine ⟨_, _, rfl, hlast, ?_⟩
    walk_at "go"
    · exact cpow1 (by omega) (by omega)
    walk_at "go"
    rw [Int.one_mul]
    refine ⟨_, _, rfl, ⟨hpos, big⟩, fun t t0 t1 => ⟨_, rfl, ?_⟩⟩
    walk_at "st"
    show Ws _ _ [.own a .pot, .dat (.int n), .own c (.lst ((pre ++ [l]).map .int)), .dat _, .dat (.int (Builtin.bitOr l t))] _
    have hor := or_lt hl.1 t0 hl.2 t1
    refine ws_if (vt_test (ve_op (ve_var rfl ⟨_, rfl, ve_ixOwn rfl ?_⟩)))
    walk_at "go"
    refine ⟨_, _, rfl, hlast, ?_⟩
    walk_at "go"
    rw [eqv_int]
    refine ⟨fun hc => ?_, fun hc => ?_⟩
    · have hne : l ≠ Builtin.bitOr l t := fun z => by
        rw [decide_eq_true z.symm] at hc; cases hc
      refine ws_append rfl ?_ (ve_var rfl ⟨_, rfl, ?_⟩)
      · rw [List.length_map, List.length_append]
        have := hR.len
        simp only [List.length_cons, List.length_nil]
        omega
      refine ⟨pre ++ [l], Builtin.bitOr l t, .dat (.int (0 + i)), .dat (.int (Builtin.bitOr l t)), ?_, ?_⟩
      · rw [List.map_append (l₂ := [Builtin.bitOr l t])]; rfl
      · refine ⟨?_, fun x hx => ?_, rises_snoc hR.rise hne (or_within hl.1 t0)⟩
        · rw [List.length_append]; have := hR.len; simp only [List.length_cons, List.length_nil]; omega
        · rcases List.mem_append.mp hx with h | h
          · exact hR.mem x h
          · rw [List.mem_singleton.mp h]; exact hor
    · exact ws_next ⟨pre, l, _, _, rfl, by have := hR.len; omega, hR.mem, hR.rise⟩
  · obtain ⟨pre, l, s3, s4, rfl, hR⟩ := hI
    refine ws_frz 2 rfl ?_
    show Ws _ _ [.own a .pot, .dat (.int n), .dat (.list ((pre ++ [l]).map .int)), s3, s4] _
    refine ws_ret (ve_var rfl (hq _ ⟨by simp, ?_, hR.mem, hR.rise⟩))
    have := hR.len
    rw [rangeD_len] at this
    rw [List.length_append]
    simp only [List.length_cons, List.length_nil]
    omega

abbrev N_law_is_lost : List Str := ["_law_table", "_law_one", "_law_other"]
theorem sc_law_is_lost : FnScope N_law_is_lost ["_law_table", "_law_one", "_law_other"] (defScope s_law_is_lost) := ⟨rfl, rfl, rfl, by decide +kernel, rfl, by decide +kernel, by decide +kernel⟩
def T_law_is_lost : Tr := fun ss Q _ => ∃ (t x y : Int), ss = [.dat (.int t), .dat (.int x), .dat (.int y)] ∧ (0 ≤ x ∧ 0 ≤ y) ∧ (Q (.dat (.bool (so t x && !so t y))))
set_option maxRecDepth 100000 in
theorem ok_law_is_lost {P : Program} {w : World} {K : PySem.W.Frag} {mg : Str → Option Value} {base : Heap} (T : Tx K mg) : Ok P w K mg base CX0 1 "_law_is_lost" ["_law_table", "_law_one", "_law_other"] T_law_is_lost := by
  refine ok_of0 (k := 0) (N := N_law_is_lost) T.d_law_is_lost sc_law_is_lost (fun ss Q Ed h => by obtain ⟨t, x, y, rfl, hp, hq⟩ := h; rfl) (fun ss Q Ed h => h) (fun kV doc pm an cdv ct us hl => match us, hl with | [_, _, _], _ => rfl) (fun cdv A outer s H E hr => ⟨_, (pss_one (ps_ret (pe_and (g_eq (K := K) hr.units (pe_op op_and (pe_op op_shr (pv 0) (pv 1)) pe_int) pe_int) (pe_one (g_eq (K := K) hr.units (pe_op op_and (pe_op op_shr (pv 0) (pv 2)) pe_int) pe_int))))), fun H0 F0 P0 Ed ss Q h => ?_⟩)
  obtain ⟨t, x, y, rfl, hp, hq⟩ := h
  show Ws _ _ [.dat (.int t), .dat (.int x), .dat (.int y)] _
  walk_at "go"
  · exact hp.1
  walk_at "go"
  rw [eqv_int, bitAnd_m1]
  have e0 : so t x = decide (t / 2 ^ x.toNat % 2 = 1) := rfl
  have e1 : so t y = decide (t / 2 ^ y.toNat % 2 = 1) := rfl
  refine ⟨fun hc => ?_, fun hc => ?_⟩
  · walk_at "go"
    · exact hp.2
    walk_at "go"
    rw [eqv_int, bitAnd_m1]
    rw [e0, hc, e1] at hq
    have e2 : decide (t / 2 ^ y.toNat % 2 = 0) = !decide (t / 2 ^ y.toNat % 2 = 1) := by
      by_cases h : t / 2 ^ y.toNat % 2 = 1
      · rw [h]; rfl
      · have h' : t / 2 ^ y.toNat % 2 = 0 := by omega
        rw [h']; rfl
    rw [e2]; exact hq
  · rw [e0, hc] at hq; exact hq
theorem falls_count (ts : List Int) : ∀ l : List (Int × Int), (l.filter fun p => fall ts p.1 p.2).length = (l.map fun p => if fall ts p.1 p.2 = true then 1 else 0).sum
  | [] => rfl
  | p :: r => by
    rw [List.filter_cons, List.map_cons, List.sum_cons, ← falls_count ts r]
    cases fall ts p.1 p.2 with
    | true => simp; omega
    | false => simp
theorem sum_takeN : ∀ {l : List Nat} {i : Nat} {z : Nat}, l[i]? = some z → (l.take (i + 1)).sum = (l.take i).sum + z
  | [], i, z, h => by simp at h
  | a :: r, 0, z, h => by
    have e : a = z := Option.some.inj h
    subst e
    simp
  | a :: r, i + 1, z, h => by
    have ih := sum_takeN (l := r) (i := i) (z := z) h
    show (a :: r.take (i + 1)).sum = (a :: r.take i).sum + z
    rw [List.sum_cons, List.sum_cons, ih]
    omega
abbrev N_law_falls : List Str := ["_law_tables_here", "_law_row_here", "_law_total", "_law_one", "_law_other", "_law_lost", "_law_table"]
theorem sc_law_falls : FnScope N_law_falls ["_law_tables_here", "_law_row_here"] (defScope s_law_falls) := ⟨rfl, rfl, rfl, by decide +kernel, rfl, by decide +kernel, by decide +kernel⟩
def T_law_falls : Tr := fun ss Q _ => ∃ (n : Int) (ts row : List Int), ss = [.dat (.list (ts.map .int)), .dat (.list (row.map .int))] ∧ (TabsOk n ts ∧ RowOk n row) ∧ (Q (.dat (.int (falls ts row))))
set_option maxRecDepth 100000 in
theorem ok_law_falls {P : Program} {w : World} {K : PySem.W.Frag} {mg : Str → Option Value} {base : Heap} (T : Tx K mg) : Ok P w K mg base CX0 2 "_law_falls" ["_law_tables_here", "_law_row_here"] T_law_falls := by
  refine ok_of0 (k := 1) (N := N_law_falls) T.d_law_falls sc_law_falls (fun ss Q Ed h => by obtain ⟨n, ts, row, rfl, hp, hq⟩ := h; rfl) (fun ss Q Ed h => h) (fun kV doc pm an cdv ct us hl => match us, hl with | [_, _], _ => rfl) (fun cdv A outer s H E hr => ⟨_, (pss_cons (ps_set (i := 2) sc_law_falls.nd rfl (by first | exact Or.inl rfl | exact Or.inr rfl) pe_int)
      (pss_cons (ps_for PassesOwn.never (by rfl) (g_zip (K := K) T.m_zip (pa_cons (pv 1) (pa_cons (g_sl (K := K) (pv 1) (po_some pe_int) po_none) pa_nil))) (g_tgtup (K := K) (n := 2) (by rfl) (pgs_cons (pg_name (i := 3) sc_law_falls.nd rfl (by first | exact Or.inl rfl | exact Or.inr rfl)) (pgs_cons (pg_name (i := 4) sc_law_falls.nd rfl (by first | exact Or.inl rfl | exact Or.inr rfl)) pgs_nil))) (pss_cons (ps_setLc (i := 5) (own := [("_law_table", 6)]) (by rfl) sc_law_falls.nd rfl rfl (sw_true rfl rfl rfl (by decide +kernel)) (g_list (K := K) (pv 0)) (blkOk_by (N := N_law_falls) (sc := defScope s_law_falls) (by decide +kernel)) (fun _ _ _ _ _ => (pg_name (i := 6) sc_law_falls.nd rfl (by first | exact Or.inl rfl | exact Or.inr rfl))) (fun _ _ _ _ _ => (pts_one (pt_val (g_call (ok_law_is_lost T) hr (by decide) pass0 (pa_cons (pv 6) (pa_cons (pv 3) (pa_cons (pv 4) pa_nil))))))) (fun _ _ _ _ _ => (pv 6)))
      (pss_one (ps_set (i := 2) sc_law_falls.nd rfl (by first | exact Or.inl rfl | exact Or.inr rfl) (g_plus (K := K) (pv 2) (pe_callTy call_intB (by rfl) T.m_int PyProof.Rows.boot_int (pa_cons (g_ne (K := K) hr.units (pv 5) (pe_lst pa_nil)) pa_nil)))))))
      (pss_one (ps_ret (pv 2))))), fun H0 F0 P0 Ed ss Q h => ?_⟩)
  obtain ⟨n, ts, row, rfl, hp, hq⟩ := h
  show Ws _ _ [.dat (.list (ts.map .int)), .dat (.list (row.map .int)), .no, .no, .no, .no, .no] _
  obtain ⟨ht, hr'⟩ := hp
  let ws : List Nat := (row.zip (row.drop 1)).map fun p => if fall ts p.1 p.2 = true then 1 else 0
  walk_at "go"
  refine ws_for (vi_zip (va_cons (ve_var rfl ⟨_, rfl, va_cons (ve_sl (ve_var rfl ⟨_, rfl, vo_some (ve_int ⟨_, rfl, vo_none (rl_list ⟨_, rfl, va_nil ⟨_, _, rfl, ?_⟩⟩)⟩)⟩))⟩)))
  rw [cut_ints, zip_ints]
  refine ⟨fun i δ' => ∃ s3 s4 s5 s6, δ' = [.dat (.list (ts.map .int)), .dat (.list (row.map .int)), .dat (.int ((ws.take i).sum : Nat)), s3, s4, s5, s6], ⟨_, _, _, _, rfl⟩, fun i d δ' hd hI => ?_, fun δ' hI => ?_⟩
  · obtain ⟨s3, s4, s5, s6, rfl⟩ := hI
    rw [List.getElem?_map] at hd
    cases hz : (row.zip (row.drop 1))[i]? with
    | none => rw [hz] at hd; cases hd
    | some p =>
      rw [hz] at hd
      cases hd
      have hm := List.mem_of_getElem? hz
      have hm1 := hr'.mem _ (List.of_mem_zip hm).1
      have hm2 := hr'.mem _ (List.mem_of_mem_drop (List.of_mem_zip hm).2)
      have hw : ws[i]? = some (if fall ts p.1 p.2 = true then 1 else 0) := by
        show ((row.zip (row.drop 1)).map fun p => if fall ts p.1 p.2 = true then 1 else 0)[i]? = _
        rw [List.getElem?_map, hz]; rfl
      walk_at "go"
      show Ve _ _ [.dat (.list (ts.map .int)), .dat (.list (row.map .int)), .dat (.int ((ws.take i).sum : Nat)), .dat (.int p.1), .dat (.int p.2), s5, s6] _
      refine ve_lcT (vi_list (ve_var rfl ⟨_, rfl, by rw [List.length_map]; have := ht.hi; omega, fun d => [(6, d)], fun d => so (intD d) p.1 && !so (intD d) p.2, fun d => d, fun d hd => ?_, ?_⟩))
      · obtain ⟨t, hm, rfl⟩ := mem_ints hd
        refine ⟨tg_name, fun q hq => hq, ?_, fun _ => ?_⟩
        · show Vt _ _ [.dat (.list (ts.map .int)), .dat (.list (row.map .int)), .dat (.int ((ws.take i).sum : Nat)), .dat (.int p.1), .dat (.int p.2), s5, .dat (.int t)] _
          walk_at "go"
          exact ⟨_, _, _, rfl, ⟨hm1.1, hm2.1⟩, _, rfl, rfl⟩
        · show Ve _ _ [.dat (.list (ts.map .int)), .dat (.list (row.map .int)), .dat (.int ((ws.take i).sum : Nat)), .dat (.int p.1), .dat (.int p.2), s5, .dat (.int t)] _
          exact ve_var rfl rfl
      · rw [List.map_id', List.filter_map]
        have el : (ts.filter ((fun d => so (intD d) p.1 && !so (intD d) p.2) ∘ PyData.int)) = ts.filter fun t => so t p.1 && !so t p.2 := rfl
        rw [el]
        show Ws _ _ [.dat (.list (ts.map .int)), .dat (.list (row.map .int)), .dat (.int ((ws.take i).sum : Nat)), .dat (.int p.1), .dat (.int p.2), .dat (.list ((ts.filter fun t => so t p.1 && !so t p.2).map .int)), s6] _
        walk_at "go"
        refine ro_neD (shp_ints (n := 0) _).ok rfl ⟨_, rfl, ?_⟩
        walk_at "go"
        refine ⟨.dat (.int p.1), .dat (.int p.2), .dat (.list ((ts.filter fun t => so t p.1 && !so t p.2).map .int)), s6, ?_⟩
        have hf : (!PyData.eqv (.list ((ts.filter fun t => so t p.1 && !so t p.2).map .int)) (.list [])) = fall ts p.1 p.2 := by
          unfold fall
          cases hz : ts.filter fun t => so t p.1 && !so t p.2 with
          | nil =>
            have : (ts.any fun t => so t p.1 && !so t p.2) = false := by
              rw [List.any_eq_false]
              intro t ht2
              have := List.filter_eq_nil_iff.mp hz t ht2
              simpa using this
            rw [this]; rfl
          | cons x r =>
            have : (ts.any fun t => so t p.1 && !so t p.2) = true := by
              rw [List.any_eq_true]
              have hx : x ∈ ts.filter fun t => so t p.1 && !so t p.2 := by rw [hz]; exact List.mem_cons_self
              obtain ⟨h1, h2⟩ := List.mem_filter.mp hx
              exact ⟨x, h1, h2⟩
            rw [this]; rfl
        rw [hf, sum_takeN hw]
        have hc : (((ws.take i).sum : Nat) : Int) + (if fall ts p.1 p.2 = true then 1 else 0) = (((ws.take i).sum + (if fall ts p.1 p.2 = true then 1 else 0) : Nat) : Int) := by
          cases fall ts p.1 p.2 <;> simp
        show [_, _, Sl.dat (.int ((((ws.take i).sum : Nat) : Int) + (if fall ts p.1 p.2 = true then 1 else 0))), _, _, _, _] = _
        rw [hc]
  · obtain ⟨s3, s4, s5, s6, rfl⟩ := hI
    walk_at "go"
    have e : (ws.take ((row.zip (row.drop 1)).map fun p => PyData.tuple [.int p.1, .int p.2]).length).sum = falls ts row := by
      rw [List.length_map, List.take_of_length_le (by show ((row.zip (row.drop 1)).map _).length ≤ _; rw [List.length_map]; exact Nat.le_refl _)]
      exact (falls_count ts _).symm
    rw [e]
    exact hq
theorem row_first {n : Int} {row : List Int} (h : RowOk n row) : RowOk n (row.take 1) := by
  obtain ⟨ne, len, mem, rise⟩ := h
  cases row with
  | nil => exact absurd rfl ne
  | cons x r => exact ⟨(fun z => nomatch z), by show 1 ≤ 100; decide, fun c hc => mem c (List.mem_of_mem_take hc), rfl⟩
abbrev N_law : List Str := ["_law_script", "_law_k", "_law_pot_here", "_law_n", "_law_tables_here", "_law_rows", "_law_handed", "_law_row_here", "_law_told"]
theorem sc_law : FnScope N_law ["_law_script"] (defScope s_law) := ⟨rfl, rfl, rfl, by decide +kernel, rfl, by decide +kernel, by decide +kernel⟩
def T_law : Tr := fun ss Q _ => ∃ (ns : List Int), ss = [.scr ns] ∧ (ns.length ≤ 63) ∧ (Q (.dat (.bool true)))
set_option maxRecDepth 100000 in
theorem fnok_law {P : Program} {w : World} {K : PySem.W.Frag} {mg : Str → Option Value} {base : Heap} {fd : FuncData} (FD : FunD K "law" "law" (defArgs s_law) (defBody s_law) (defScope s_law) [] [] (He.ga K "law") fd) (T : Tx K mg) : FnOk P w K mg base CX0 5 (He.ga K "law") fd ["_law_script"] (spD K T_law) := by
  refine fnok_of0 (k := 4) (N := N_law) FD sc_law (fun ss Q Ed h => by obtain ⟨ns, rfl, hp, hq⟩ := h; rfl) (fun ss Q Ed h => h) (fun cdv A outer s H E hr => ⟨_, (pss_cons (ps_for PassesOwn.never (by rfl) (pi_range1 (by rfl) T.m_range (pa_cons (pe_callB (call_max2B (by rfl)) (by rfl) T.m_max boot_max (pa_cons pe_int (pa_cons (pe_callB (call_min2B (by rfl)) (by rfl) T.m_min boot_min (pa_cons pe_int (pa_cons (g_cb (K := K) (r := rLenB) call_lenB T.m_len PySem.boot_len (pa_cons (pv 0) pa_nil)) pa_nil))) pa_nil))) pa_nil)) (pg_name (i := 1) sc_law.nd rfl (by first | exact Or.inl rfl | exact Or.inr rfl)) (pss_cons (ps_set (i := 2) sc_law.nd rfl (by first | exact Or.inl rfl | exact Or.inr rfl) (g_call (ok_law_pot T) hr (by decide) pass0 (pa_cons (pv 0) (pa_cons (pv 1) pa_nil))))
      (pss_cons (ps_set (i := 3) sc_law.nd rfl (by first | exact Or.inl rfl | exact Or.inr rfl) (g_plus (K := K) pe_int (g_call (ok_law_take T) hr (by decide) pass0 (pa_cons (pv 2) (pa_cons pe_int pa_nil)))))
      (pss_cons (ps_set (i := 4) sc_law.nd rfl (by first | exact Or.inl rfl | exact Or.inr rfl) (g_call (ok_law_tables T) hr (by decide) pass0 (pa_cons (pv 2) (pa_cons (pv 3) pa_nil))))
      (pss_cons (ps_set (i := 5) sc_law.nd rfl (by first | exact Or.inl rfl | exact Or.inr rfl) (pe_lst (pa_cons (g_call (ok_law_row T) hr (by decide) pass0 (pa_cons (pv 2) (pa_cons (pv 3) pa_nil))) (pa_cons (g_call (ok_law_row T) hr (by decide) pass0 (pa_cons (pv 2) (pa_cons (pv 3) pa_nil))) pa_nil))))
      (pss_cons (ps_set (i := 6) sc_law.nd rfl (by first | exact Or.inl rfl | exact Or.inr rfl) (pe_tup (pa_cons (g_ct (K := K) (r := rListB) call_listB T.m_list PyProof.Rows.boot_list (pa_cons (pv 4) pa_nil)) (pa_cons (pe_lc (own := [("_law_row_here", 7)]) (by rfl) sc_law.nd (g_list (K := K) (pv 5)) (blkOk_by (N := N_law) (sc := defScope s_law) (by decide +kernel)) (fun _ _ _ _ _ => (pg_name (i := 7) sc_law.nd rfl (by first | exact Or.inl rfl | exact Or.inr rfl))) (fun _ _ _ _ _ => pts_nil) (fun _ _ _ _ _ => (g_ct (K := K) (r := rListB) call_listB T.m_list PyProof.Rows.boot_list (pa_cons (pv 7) pa_nil)))) pa_nil))))
      (pss_cons (ps_for PassesOwn.never (by rfl) (g_list (K := K) (pe_lst (pa_cons (g_ix (K := K) (pv 5) pe_int) (pa_cons (g_ix (K := K) (pv 5) pe_int) (pa_cons (g_ix (K := K) (pv 5) pe_int) (pa_cons (g_sl (K := K) (g_ix (K := K) (pv 5) pe_int) po_none (po_some pe_int)) pa_nil)))))) (pg_name (i := 7) sc_law.nd rfl (by first | exact Or.inl rfl | exact Or.inr rfl)) (pss_cons (ps_set (i := 8) sc_law.nd rfl (by first | exact Or.inl rfl | exact Or.inr rfl) (g_call (ok_falls_on T) hr (by decide) pass0 (pa_cons (pv 3) (pa_cons (pv 4) (pa_cons (pv 7) pa_nil)))))
      (pss_one (ps_if (PW.pt (pw_or (pt_not (pt_val (g_cb (K := K) (r := rIsi) call_isi T.m_isinstance boot_isinstance (pa_cons (pv 8) (pa_cons (pe_bltn (v := .ty "int") (by rfl) T.m_int PyProof.Rows.boot_int rfl) pa_nil))))) (pw_or (pt_val (g_cb (K := K) (r := rIsi) call_isi T.m_isinstance boot_isinstance (pa_cons (pv 8) (pa_cons (pe_bltn (v := .ty "bool") (by rfl) T.m_bool PyProof.Rows.boot_bool rfl) pa_nil)))) (pw_or1 (gt_ne (K := K) hr.units (pv 8) (g_call (ok_law_falls T) hr (by decide) pass0 (pa_cons (pv 4) (pa_cons (pv 7) pa_nil)))))))) (pss_one (ps_ret pe_bl)) pss_nil))))
      (pss_one (ps_if (gt_ne (K := K) hr.units (pe_tup (pa_cons (pv 4) (pa_cons (pv 5) pa_nil))) (pv 6)) (pss_one (ps_ret pe_bl)) pss_nil)))))))))
      (pss_one (ps_ret pe_bl))), fun H0 F0 P0 Ed ss Q h => ?_⟩)
  obtain ⟨ns, rfl, hp, hq⟩ := h
  show Ws _ _ [.scr ns, .no, .no, .no, .no, .no, .no, .no, .no] _
  refine ws_seq (ws_for (vi_range1 ?_))
  walk_at "go"
  refine ⟨by omega, by omega, fun i δ' => ∃ s1 s2 s3 s4 s5 s6 s7 s8, δ' = [.scr ns, s1, s2, s3, s4, s5, s6, s7, s8], ⟨_, _, _, _, _, _, _, _, rfl⟩, fun i d δ' hd hI => ?_, fun δ' hI => ?_⟩
  · obtain ⟨s1, s2, s3, s4, s5, s6, s7, s8, rfl⟩ := hI
    obtain ⟨hi, rfl⟩ := rangeD_get hd
    refine wg_name ?_
    show Ws _ _ [.scr ns, .dat _, s2, s3, s4, s5, s6, s7, s8] _
    walk_at "go"
    refine ⟨_, _, rfl, ⟨by omega, by omega⟩, fun a => ?_⟩
    show Ws _ _ [.scr ns, .dat _, .own a .pot, s3, s4, s5, s6, s7, s8] _
    walk_at "go"
    refine ⟨_, _, rfl, ⟨by decide, by omega⟩, fun m m0 m1 => ⟨_, rfl, ?_⟩⟩
    walk_at "st"
    have hn : 1 ≤ 1 + m ∧ 1 + m ≤ 4 := by omega
    show Ws _ _ [.scr ns, .dat _, .own a .pot, .dat (.int (1 + m)), s4, s5, s6, s7, s8] _
    walk_at "go"
    refine ⟨_, _, rfl, hn, fun ts ht => ?_⟩
    show Ws _ _ [.scr ns, .dat _, .own a .pot, .dat (.int (1 + m)), .dat (.list (ts.map .int)), s5, s6, s7, s8] _
    walk_at "go"
    refine ⟨_, _, rfl, hn, fun r0 h0 => ⟨_, rfl, ?_⟩⟩
    walk_at "go"
    refine ⟨_, _, rfl, hn, fun r1 h1 => ⟨_, rfl, ?_⟩⟩
    walk_at "va"
    refine ⟨_, rfl, by show 2 ≤ 100000; decide, ?_⟩
    show Ws _ _ [.scr ns, .dat _, .own a .pot, .dat (.int (1 + m)), .dat (.list (ts.map .int)), .dat (.list [.list (r0.map .int), .list (r1.map .int)]), s6, s7, s8] _
    walk_at "go"
    refine ve_lcF (vi_list (ve_var rfl ⟨_, rfl, by show 2 ≤ 100000; decide, fun d => [(7, d)], fun d => d, fun d hd => ?_, ?_⟩))
    · obtain ⟨row, rfl⟩ : ∃ row : List Int, d = .list (row.map .int) := by
        rcases List.mem_cons.mp hd with e | h
        · exact ⟨r0, e⟩
        · exact ⟨r1, List.mem_singleton.mp h⟩
      refine ⟨tg_name, fun q hq => hq, ?_⟩
      show Ve _ _ [.scr ns, .dat _, .own a .pot, .dat (.int (1 + m)), .dat (.list (ts.map .int)), .dat (.list [.list (r0.map .int), .list (r1.map .int)]), s6, .dat (.list (row.map .int)), s8] _
      walk_at "go"
      rfl
    walk_at "go"
    show Ws _ _ [.scr ns, .dat _, .own a .pot, .dat (.int (1 + m)), .dat (.list (ts.map .int)), .dat (.list [.list (r0.map .int), .list (r1.map .int)]), .dat (.tuple [.list (ts.map .int), .list [.list (r0.map .int), .list (r1.map .int)]]), s7, s8] _
    refine ws_for (vi_list ?_)
    walk_at "go"
    have ec : cutD (r0.map PyData.int) none (some 1) = (r0.take 1).map .int := by
      rw [show (1 : Int) = ((1 : Nat) : Int) from rfl, cutD_to, List.map_take]
    refine ⟨fun j δ' => ∃ s7 s8, δ' = [.scr ns, .dat (.int (0 + (i : Nat))), .own a .pot, .dat (.int (1 + m)), .dat (.list (ts.map .int)), .dat (.list [.list (r0.map .int), .list (r1.map .int)]), .dat (.tuple [.list (ts.map .int), .list [.list (r0.map .int), .list (r1.map .int)]]), s7, s8], ⟨_, _, rfl⟩, fun j d δ' hd hI => ?_, fun δ' hI => ?_⟩
    · obtain ⟨s7, s8, rfl⟩ := hI
      obtain ⟨row, rfl, hrow⟩ : ∃ row : List Int, d = .list (row.map .int) ∧ RowOk (1 + m) row := by
        have hm := List.mem_of_getElem? hd
        rcases List.mem_cons.mp hm with e | h
        · exact ⟨r0, e, h0⟩
        · rcases List.mem_cons.mp h with e | h
          · exact ⟨r1, e, h1⟩
          · rcases List.mem_cons.mp h with e | h
            · exact ⟨r0, e, h0⟩
            · rw [ec] at h
              exact ⟨r0.take 1, List.mem_singleton.mp h, row_first h0⟩
      refine wg_name ?_
      show Ws _ _ [.scr ns, .dat (.int (0 + (i : Nat))), .own a .pot, .dat (.int (1 + m)), .dat (.list (ts.map .int)), .dat (.list [.list (r0.map .int), .list (r1.map .int)]), .dat (.tuple [.list (ts.map .int), .list [.list (r0.map .int), .list (r1.map .int)]]), .dat (.list (row.map .int)), s8] _
      walk_at "go"
      refine ⟨_, _, _, rfl, ⟨hn, ht, hrow⟩, ?_⟩
      walk_at "go"
      refine ⟨fun hc => (nomatch hc), fun _ => ?_⟩
      walk_at "go"
      refine ⟨fun hc => (nomatch hc), fun _ => ?_⟩
      walk_at "go"
      refine ⟨1 + m, _, _, rfl, ⟨ht, hrow⟩, _, rfl, ?_⟩
      walk_at "go"
      rw [eqv_int, decide_eq_true rfl]
      refine ⟨fun hc => (nomatch hc), fun _ => ?_⟩
      exact ws_next ⟨_, _, rfl⟩
    · obtain ⟨s7, s8, rfl⟩ := hI
      have hs : Shp 4 (.tuple [.list (ts.map .int), .list [.list (r0.map .int), .list (r1.map .int)]]) := shp_tup fun d hd => by
        rcases List.mem_cons.mp hd with e | h
        · rw [e]; exact (shp_ints (n := 0) ts).mono (by decide)
        · rw [List.mem_singleton.mp h]
          refine shp_list fun d hd => ?_
          rcases List.mem_cons.mp hd with e | h
          · rw [e]; exact (shp_ints (n := 0) r0).mono (by decide)
          · rw [List.mem_singleton.mp h]; exact (shp_ints (n := 0) r1).mono (by decide)
      walk_at "go"
      refine ro_neD hs.ok hs.ok ⟨_, rfl, ?_⟩
      rw [hs.refl]
      refine ⟨fun hc => (nomatch hc), fun _ => ?_⟩
      exact ws_next ⟨_, _, _, _, _, _, _, _, rfl⟩
  · obtain ⟨s1, s2, s3, s4, s5, s6, s7, s8, rfl⟩ := hI
    walk_at "go"
    exact hq

/-! ### the head: facts by names, the run -/
def d_is_whole : He.DefD := ⟨("is_whole", none), "is_whole", "is_whole", defArgs s_is_whole, defBody s_is_whole, defScope s_is_whole, [], []⟩
def d_is_between : He.DefD := ⟨("is_between", none), "is_between", "is_between", defArgs s_is_between, defBody s_is_between, defScope s_is_between, [], []⟩
def d_want_ins : He.DefD := ⟨("want_ins", none), "want_ins", "want_ins", defArgs s_want_ins, defBody s_want_ins, defScope s_want_ins, [], []⟩
def d_want_tables : He.DefD := ⟨("want_tables", none), "want_tables", "want_tables", defArgs s_want_tables, defBody s_want_tables, defScope s_want_tables, [], []⟩
def d_is_within : He.DefD := ⟨("is_within", none), "is_within", "is_within", defArgs s_is_within, defBody s_is_within, defScope s_is_within, [], []⟩
def d_is_rising : He.DefD := ⟨("is_rising", none), "is_rising", "is_rising", defArgs s_is_rising, defBody s_is_rising, defScope s_is_rising, [], []⟩
def d_is_so_in : He.DefD := ⟨("is_so_in", none), "is_so_in", "is_so_in", defArgs s_is_so_in, defBody s_is_so_in, defScope s_is_so_in, [], []⟩
def d_is_fall : He.DefD := ⟨("is_fall", none), "is_fall", "is_fall", defArgs s_is_fall, defBody s_is_fall, defScope s_is_fall, [], []⟩
def d_falls_on : He.DefD := ⟨("falls_on", none), "falls_on", "falls_on", defArgs s_falls_on, defBody s_falls_on, defScope s_falls_on, [], []⟩
def d_law_pot : He.DefD := ⟨("_law_pot", none), "_law_pot", "_law_pot", defArgs s_law_pot, defBody s_law_pot, defScope s_law_pot, [], []⟩
def d_law_take : He.DefD := ⟨("_law_take", none), "_law_take", "_law_take", defArgs s_law_take, defBody s_law_take, defScope s_law_take, [], []⟩
def d_law_tables : He.DefD := ⟨("_law_tables", none), "_law_tables", "_law_tables", defArgs s_law_tables, defBody s_law_tables, defScope s_law_tables, [], []⟩
def d_law_row : He.DefD := ⟨("_law_row", none), "_law_row", "_law_row", defArgs s_law_row, defBody s_law_row, defScope s_law_row, [], []⟩
def d_law_is_lost : He.DefD := ⟨("_law_is_lost", none), "_law_is_lost", "_law_is_lost", defArgs s_law_is_lost, defBody s_law_is_lost, defScope s_law_is_lost, [], []⟩
def d_law_falls : He.DefD := ⟨("_law_falls", none), "_law_falls", "_law_falls", defArgs s_law_falls, defBody s_law_falls, defScope s_law_falls, [], []⟩
def d_law : He.DefD := ⟨("law", none), "law", "law", defArgs s_law, defBody s_law, defScope s_law, [], []⟩
def fns : List He.DefD := [d_is_whole, d_is_between, d_want_ins, d_want_tables, d_is_within, d_is_rising, d_is_so_in, d_is_fall, d_falls_on, d_law_pot, d_law_take, d_law_tables, d_law_row, d_law_is_lost, d_law_falls, d_law]
def fas : List He.Fa := [.glo "is_whole", .glo "is_between", .glo "want_ins", .glo "want_tables", .glo "is_within", .glo "is_rising", .glo "is_so_in", .glo "is_fall", .glo "falls_on", .glo "_law_pot", .glo "_law_take", .glo "_law_tables", .glo "_law_row", .glo "_law_is_lost", .glo "_law_falls", .glo "law", .free "ValueError", .free "all", .free "any", .free "len", .free "range", .free "zip", .free "isinstance", .free "int", .free "max", .free "divmod", .free "bool", .free "list", .free "min", .free "abs", .int "MOST_INS" 4, .int "MOST_TABLES" 3, .glo "FallError", .glo "NoNumber", .glo "NoTables", .glo "NoRow"]
abbrev R : PySem.W.OpenRow := PySem.W.OpenLaw.row PySem.Challenge.rw_fallstones_k71_falls_on_rows
abbrev hk : PySem.W.Hook := He.hookD 4 fas fns
def ob (s : PySem.W.SharedT) : He.AlD := He.obsDG 4 fas fns (HandSHeadRun.getT s)
theorem ob_eq (s : PySem.W.SharedT) : ob s = hk.obs s.abs := He.obsDG_eq (HandSHeadRun.getT_eq s)
def looseN : List PySem.Str := ["FallError", "NoNumber", "NoTables", "NoRow", "is_whole", "is_between", "MOST_INS", "MOST_TABLES", "want_ins", "want_tables", "is_within", "is_rising", "is_so_in", "is_fall", "falls_on", "_law_pot", "_law_take", "_law_tables", "_law_row", "_law_is_lost", "_law_falls"]
theorem run (w : World) : HandSHeadRun.RunEq R (PySem.W.view R.prog [25]) hk ob 2000 looseN w := by
  intro os
  kernel_rfl
theorem tx_of {K : PySem.W.Frag} {h : Heap} {mg : Str → Option Value} (X : K.In h) (G : h.Ns mainGlobals mg) (c : He.SaysD fas fns K) : Tx K mg :=
  { d_is_whole := ⟨He.glo_ok X G (c.fact 0 (f := .glo "is_whole") rfl), c.def_ 0 (d := d_is_whole) rfl⟩,
    d_is_between := ⟨He.glo_ok X G (c.fact 1 (f := .glo "is_between") rfl), c.def_ 1 (d := d_is_between) rfl⟩,
    d_want_ins := ⟨He.glo_ok X G (c.fact 2 (f := .glo "want_ins") rfl), c.def_ 2 (d := d_want_ins) rfl⟩,
    d_want_tables := ⟨He.glo_ok X G (c.fact 3 (f := .glo "want_tables") rfl), c.def_ 3 (d := d_want_tables) rfl⟩,
    d_is_within := ⟨He.glo_ok X G (c.fact 4 (f := .glo "is_within") rfl), c.def_ 4 (d := d_is_within) rfl⟩,
    d_is_rising := ⟨He.glo_ok X G (c.fact 5 (f := .glo "is_rising") rfl), c.def_ 5 (d := d_is_rising) rfl⟩,
    d_is_so_in := ⟨He.glo_ok X G (c.fact 6 (f := .glo "is_so_in") rfl), c.def_ 6 (d := d_is_so_in) rfl⟩,
    d_is_fall := ⟨He.glo_ok X G (c.fact 7 (f := .glo "is_fall") rfl), c.def_ 7 (d := d_is_fall) rfl⟩,
    d_falls_on := ⟨He.glo_ok X G (c.fact 8 (f := .glo "falls_on") rfl), c.def_ 8 (d := d_falls_on) rfl⟩,
    d_law_pot := ⟨He.glo_ok X G (c.fact 9 (f := .glo "_law_pot") rfl), c.def_ 9 (d := d_law_pot) rfl⟩,
    d_law_take := ⟨He.glo_ok X G (c.fact 10 (f := .glo "_law_take") rfl), c.def_ 10 (d := d_law_take) rfl⟩,
    d_law_tables := ⟨He.glo_ok X G (c.fact 11 (f := .glo "_law_tables") rfl), c.def_ 11 (d := d_law_tables) rfl⟩,
    d_law_row := ⟨He.glo_ok X G (c.fact 12 (f := .glo "_law_row") rfl), c.def_ 12 (d := d_law_row) rfl⟩,
    d_law_is_lost := ⟨He.glo_ok X G (c.fact 13 (f := .glo "_law_is_lost") rfl), c.def_ 13 (d := d_law_is_lost) rfl⟩,
    d_law_falls := ⟨He.glo_ok X G (c.fact 14 (f := .glo "_law_falls") rfl), c.def_ 14 (d := d_law_falls) rfl⟩,
    d_law := ⟨He.glo_ok X G (c.fact 15 (f := .glo "law") rfl), c.def_ 15 (d := d_law) rfl⟩,
    m_ValueError := He.free_ok X G (c.fact 16 (f := .free "ValueError") rfl),
    m_all := He.free_ok X G (c.fact 17 (f := .free "all") rfl),
    m_any := He.free_ok X G (c.fact 18 (f := .free "any") rfl),
    m_len := He.free_ok X G (c.fact 19 (f := .free "len") rfl),
    m_range := He.free_ok X G (c.fact 20 (f := .free "range") rfl),
    m_zip := He.free_ok X G (c.fact 21 (f := .free "zip") rfl),
    m_isinstance := He.free_ok X G (c.fact 22 (f := .free "isinstance") rfl),
    m_int := He.free_ok X G (c.fact 23 (f := .free "int") rfl),
    m_max := He.free_ok X G (c.fact 24 (f := .free "max") rfl),
    m_divmod := He.free_ok X G (c.fact 25 (f := .free "divmod") rfl),
    m_bool := He.free_ok X G (c.fact 26 (f := .free "bool") rfl),
    m_list := He.free_ok X G (c.fact 27 (f := .free "list") rfl),
    m_min := He.free_ok X G (c.fact 28 (f := .free "min") rfl),
    m_abs := He.free_ok X G (c.fact 29 (f := .free "abs") rfl),
    c_MOST_INS := He.int_ok X G (c.fact 30 (f := .int "MOST_INS" 4) rfl),
    c_MOST_TABLES := He.int_ok X G (c.fact 31 (f := .int "MOST_TABLES" 3) rfl) }
theorem facts {P : Program} {w : World} {K : PySem.W.Frag} {h : Heap} {mg : Str → Option Value} {f : Addr} (X : K.In h) (G : h.Ns mainGlobals mg) (hfa : mg ("law" : Str) = some (.ref f)) (c : He.SaysD fas fns K) :
    ∃ fd : FuncData, (∀ (s : Shared) (v : Value), BindsTo s fd ⟨[v], []⟩ [("_law_script", v)]) ∧ ∀ base : Heap, K.In base → base.Ns mainGlobals mg → FnOk P w K mg base CX0 5 f fd ["_law_script"] (spD K T_law) := by
  have T := tx_of X G c
  obtain ⟨fd, FD⟩ := T.d_law.ex
  have e := hfa.symm.trans T.d_law.g
  cases e
  have b := FunD.bindsA (ps := ["_law_script"]) FD fun _ _ _ _ _ _ us hl => match us, hl with | [_], _ => rfl
  exact ⟨fd, fun s v => b s [v] rfl, fun base _ _ => fnok_law FD T⟩
end Fs
open PySem PySem.W PySem.Calls PyProof.Rows
theorem PySem.Challenge.cw_fallstones_k71_falls_on_rows_holds : PySem.Challenge.rw_fallstones_k71_falls_on_rows.Holds := by
  w_on; o_law
  refine HandSHeadRun.head_any (r := OpenLaw.row PySem.Challenge.rw_fallstones_k71_falls_on_rows) (q := view (OpenLaw.row PySem.Challenge.rw_fallstones_k71_falls_on_rows).prog [25]) (H := Fs.hk) (ob := Fs.ob) (M := 2000) (loose := Fs.looseN) (d := HandSHeadRun.topDef (OpenLaw.row PySem.Challenge.rw_fallstones_k71_falls_on_rows).prog 25) (kwd := []) Fs.ob_eq
    (by kernel_rfl) (fun s => by kernel_rfl) Fs.run (by kernel_rfl) (by kernel_rfl) (by kernel_rfl) (by rfl) (by first | assumption | decide +kernel) (by decide +kernel) ⟨rfl, rfl, rfl, rfl, rfl, by decide +kernel⟩ ?hw ?hc
  case hw => w_witness2
  case hc =>
    refine L2.walk_ofE (l := PySem.Challenge.rw_fallstones_k71_falls_on_rows) (n := 63) (k := 5) (x := "_law_script") (CX := L2.CX0) rfl (by decide) (by kernel_rfl) ⟨rfl, by decide, by decide⟩ ?F (fun _ _ _ _ z => z)
    intro w mg fa h Y G hmg0
    obtain ⟨K, KX, c⟩ := Y
    have hmg : mg ("law" : PySem.Str) = some (.ref fa) := by
      have e : (HandSHeadRun.topDef (OpenLaw.row PySem.Challenge.rw_fallstones_k71_falls_on_rows).prog 25).name = ("law" : PySem.Str) := by kernel_rfl
      rw [← e]
      exact hmg0
    obtain ⟨fd, hb, hF⟩ := Fs.facts (P := (PySem.Challenge.rw_fallstones_k71_falls_on_rows).prog) (w := w) KX G hmg c
    exact ⟨K, fd, Fs.spD K Fs.T_law, KX, hb, fun H a ns hl _ hS => Fs.law_start hl hS fun Q Ed q => ⟨ns, rfl, hl, q⟩, hF⟩
#print axioms PySem.Challenge.cw_fallstones_k71_falls_on_rows_holds
