import PyProof.Rows.All
import Wide.All
import OpenK.AllK
import Wide.FinOn
import HandS.ForMost
import HandS.Walk
import HandS.Wide
import HandS.Style
import HandS.TupAny
import HandS.Zip
import HandS.Deep
import HandS.SortInts
import HandS.Gcd
import HandS.IsInst
import HandS.Conv
import HandS.RaiseMore
import HandS.Star
import PySem.Challenge.RW_mediantrows_k40_part_papers_judged
set_option Elab.async false
set_option linter.all false
set_option maxRecDepth 100000
set_option maxHeartbeats 2000000
/-! DD: readings over plain data. A slot holds a value (never changed), a list or dict of the def's own (changed by it alone), or the script's source. -/
namespace DD
open PySem L2

abbrev PD := PyData
def keyD : Key → PD
  | .inl i => .int i
  | .inr s => .str s
mutual
inductive Dv (K : PySem.W.Frag) (H : Hp) : V → PD → Prop
  | non : Dv K H .non .none
  | bl (b : Bool) : Dv K H (.bl b) (.bool b)
  | int (i : Int) : Dv K H (.int i) (.int i)
  | str (x : Str) : Dv K H (.str x) (.str x)
  | lst {a : Addr} {xs : List V} {ds : List PD} : H a = some (.lst xs) → DvAll K H xs ds → Dv K H (.ref a) (.list ds)
  | tup {a : Addr} {xs : List V} {ds : List PD} : SqT K H a xs → DvAll K H xs ds → Dv K H (.ref a) (.tuple ds)
  | dic {a : Addr} {kvs : List (Key × V)} {ds : List PD} : H a = some (.dK kvs) → DvAll K H (kvs.map (·.2)) ds → Dv K H (.ref a) (.dict ((kvs.map fun p => keyD p.1).zip ds))
inductive DvAll (K : PySem.W.Frag) (H : Hp) : List V → List PD → Prop
  | nil : DvAll K H [] []
  | cons {v : V} {vs : List V} {d : PD} {ds : List PD} : Dv K H v d → DvAll K H vs ds → DvAll K H (v :: vs) (d :: ds)
end
theorem sqT_mono {K : PySem.W.Frag} {H H' : Hp} {a : Addr} {xs : List V} (e : Same H H') (h : SqT K H a xs) : SqT K H' a xs := by
  rcases h with (h | ⟨o, h⟩) | h
  · exact .inl (.inl (e _ _ h))
  · exact .inl (.inr ⟨o, e _ _ h⟩)
  · exact .inr h
section
variable {K : PySem.W.Frag} {H H' : Hp}
mutual
theorem Dv.mono (e : Same H H') : ∀ {v : V} {d : PD}, Dv K H v d → Dv K H' v d
  | _, _, .non => .non
  | _, _, .bl b => .bl b
  | _, _, .int i => .int i
  | _, _, .str x => .str x
  | _, _, .lst h r => .lst (e _ _ h) (DvAll.mono e r)
  | _, _, .tup h r => .tup (sqT_mono e h) (DvAll.mono e r)
  | _, _, .dic h r => .dic (e _ _ h) (DvAll.mono e r)
theorem DvAll.mono (e : Same H H') : ∀ {vs : List V} {ds : List PD}, DvAll K H vs ds → DvAll K H' vs ds
  | _, _, .nil => .nil
  | _, _, .cons h r => .cons (Dv.mono e h) (DvAll.mono e r)
end
theorem DvAll.length : ∀ {vs : List V} {ds : List PD}, DvAll K H vs ds → vs.length = ds.length
  | _, _, .nil => rfl
  | _, _, .cons _ r => congrArg (· + 1) (DvAll.length r)
theorem DvAll.app : ∀ {vs us : List V} {ds es : List PD}, DvAll K H vs ds → DvAll K H us es → DvAll K H (vs ++ us) (ds ++ es)
  | _, _, _, _, .nil, s => s
  | _, _, _, _, .cons h r, s => .cons h (DvAll.app r s)
theorem DvAll.get : ∀ {vs : List V} {ds : List PD} {i : Nat} {v : V}, DvAll K H vs ds → vs[i]? = some v → ∃ d, ds[i]? = some d ∧ Dv K H v d
  | _, _, _, _, .nil, h => by simp at h
  | _, _, 0, _, .cons h r, e => by simp at e; subst e; exact ⟨_, rfl, h⟩
  | _, _, i + 1, _, .cons h r, e => by simpa using DvAll.get r (by simpa using e)
theorem DvAll.getD : ∀ {vs : List V} {ds : List PD} {i : Nat} {d : PD}, DvAll K H vs ds → ds[i]? = some d → ∃ v, vs[i]? = some v ∧ Dv K H v d
  | _, _, _, _, .nil, h => by simp at h
  | _, _, 0, _, .cons h r, e => by simp at e; subst e; exact ⟨_, rfl, h⟩
  | _, _, i + 1, _, .cons h r, e => by simpa using DvAll.getD r (by simpa using e)
theorem DvAll.take (n : Nat) : ∀ {vs : List V} {ds : List PD}, DvAll K H vs ds → DvAll K H (vs.take n) (ds.take n) := by
  induction n with
  | zero => intro _ _ _; exact .nil
  | succ n ih =>
    intro vs ds h
    cases h with
    | nil => exact .nil
    | cons h r => exact .cons h (ih r)
theorem DvAll.drop (n : Nat) : ∀ {vs : List V} {ds : List PD}, DvAll K H vs ds → DvAll K H (vs.drop n) (ds.drop n) := by
  induction n with
  | zero => intro _ _ h; exact h
  | succ n ih =>
    intro vs ds h
    cases h with
    | nil => exact .nil
    | cons h r => exact ih r
theorem DvAll.set (i : Nat) {v : V} {d : PD} (hv : Dv K H v d) : ∀ {vs : List V} {ds : List PD}, DvAll K H vs ds → DvAll K H (vs.set i v) (ds.set i d) := by
  induction i with
  | zero =>
    intro vs ds h
    cases h with
    | nil => exact .nil
    | cons h r => exact .cons hv r
  | succ n ih =>
    intro vs ds h
    cases h with
    | nil => exact .nil
    | cons h r => exact .cons h (ih r)
theorem DvAll.rev : ∀ {vs : List V} {ds : List PD}, DvAll K H vs ds → DvAll K H vs.reverse ds.reverse
  | _, _, .nil => .nil
  | _, _, .cons h r => by
    rw [List.reverse_cons, List.reverse_cons]
    exact DvAll.app (DvAll.rev r) (.cons h .nil)
end
/-- what a def starts from: the objects that stand, of them what never changes, and those that may change -/
structure Wd where
  He : Hp
  H00 : Hp
  T : Addr → Prop
inductive Sl where
  | un
  | va (d : PD)
  | own (ds : List PD)
  | dic (kvs : List (Key × PD))
  | dit (kvs : List (List Key × PD))
  | src (a c : Addr)
  | scr (ns : List Int)
abbrev Env := List Sl
def SrcOk (H : Hp) (a c : Addr) : Prop := ∃ (cs : List Int) (l m t : Int), H a = some (.dK [(.inr "cells", .ref c), (.inr "left", .int l), (.inr "mixed", .int m), (.inr "turn", .int t)]) ∧ H c = some (.lst (cs.map V.int))
def ats (σ : L2.St) (i : Nat) : Option V := (σ[i]?).join
def Mine (W : Wd) (H0 : Hp) (p : Addr) : Prop := H0 p = none ∧ (W.T p ∨ W.He p = none)
def Own1 (W : Wd) (H0 : Hp) (p : Addr) : Prop := H0 p = none ∧ W.He p = none
def SlOk (K : PySem.W.Frag) (W : Wd) (H0 H : Hp) (x : Option V) : Sl → Prop
  | .un => True
  | .va d => ∃ v, x = some v ∧ Dv K H0 v d
  | .own ds => ∃ p vs, x = some (.ref p) ∧ Own1 W H0 p ∧ H p = some (.lst vs) ∧ DvAll K H0 vs ds
  | .dic kvs => ∃ (p : Addr) (vs : List (Key × V)), x = some (.ref p) ∧ Own1 W H0 p ∧ H p = some (.dK vs) ∧ vs.map (·.1) = kvs.map (·.1) ∧ DvAll K H0 (vs.map (·.2)) (kvs.map (·.2))
  | .dit kvs => ∃ (p : Addr) (vs : List (List Key × V)), x = some (.ref p) ∧ Own1 W H0 p ∧ H p = some (.dT vs) ∧ vs.map (·.1) = kvs.map (·.1) ∧ DvAll K H0 (vs.map (·.2)) (kvs.map (·.2))
  | .src a c => x = some (.ref a) ∧ Mine W H0 a ∧ Mine W H0 c ∧ SrcOk H a c
  | .scr ns => ∃ a, x = some (.ref a) ∧ SqL K H0 a (ns.map V.int)
def Owns (x : Option V) (b : Addr) : Sl → Prop
  | .un => False
  | .va _ => False
  | .own _ => x = some (.ref b)
  | .dic _ => x = some (.ref b)
  | .dit _ => x = some (.ref b)
  | .src a c => b = a ∨ b = c
  | .scr _ => False
structure EnvOk (K : PySem.W.Frag) (W : Wd) (σ : L2.St) (H0 H : Hp) (Γ : Env) : Prop where
  ex : Same H0 H
  exe : ∀ b o, W.He b = some o → ¬ W.T b → H b = some o
  ex00 : Same W.H00 H0
  al : ∀ b o, W.He b = some o → ∃ o', H b = some o'
  new : ∀ b o, H0 b = some o → (∃ o', W.H00 b = some o') ∨ W.He b = none
  len : σ.length = Γ.length
  sl : ∀ i s, Γ[i]? = some s → SlOk K W H0 H (ats σ i) s
  ap : ∀ i j s t b, i ≠ j → Γ[i]? = some s → Γ[j]? = some t → Owns (ats σ i) b s → Owns (ats σ j) b t → False
/-- a step that makes new objects alone -/
structure Stp (H0 H H0' H' : Hp) : Prop where
  s : Same H H'
  s0 : Same H0 H0'
  ex : Same H0' H'
  new : ∀ b o, H0' b = some o → (∃ o', H0 b = some o') ∨ H b = none
theorem Stp.refl {H0 H : Hp} (e : Same H0 H) : Stp H0 H H0 H := ⟨Same.refl _, Same.refl _, e, fun b o h => .inl ⟨o, h⟩⟩
theorem Stp.trans {H0 H H1 G H2 L : Hp} (a : Stp H0 H H1 G) (b : Stp H1 G H2 L) : Stp H0 H H2 L :=
  ⟨a.s.trans b.s, a.s0.trans b.s0, b.ex, fun c o h => by
    rcases b.new c o h with ⟨o', h'⟩ | h'
    · exact a.new c o' h'
    · exact .inr (a.s.free h')⟩
theorem same_new {H : Hp} {p : Addr} (h : H p = none) (o : HO) : Same H (upd H p o) := fun b u q => by rw [upd_ne (ne_of_none q h)]; exact q
theorem same_upd {H0 H : Hp} (e : Same H0 H) (p : Addr) (o : HO) : Same (upd H0 p o) (upd H p o) := fun b u q => by
  by_cases hb : b = p
  · subst hb; rw [upd_same] at q ⊢; exact q
  · rw [upd_ne hb] at q ⊢; exact e b u q
/-- a new object that never changes -/
theorem Stp.mk1 {H0 H : Hp} (e : Same H0 H) {p : Addr} (h : H p = none) (o : HO) : Stp H0 H (upd H0 p o) (upd H p o) :=
  ⟨same_new h o, same_new (e.free h) o, same_upd e p o, fun b u q => by
    by_cases hb : b = p
    · subst hb; exact .inr h
    · rw [upd_ne hb] at q; exact .inl ⟨u, q⟩⟩
/-- a new object that may change -/
theorem Stp.own {H0 H : Hp} (e : Same H0 H) {p : Addr} (h : H p = none) (o : HO) : Stp H0 H H0 (upd H p o) :=
  ⟨same_new h o, Same.refl _, e.trans (same_new h o), fun b u q => .inl ⟨u, q⟩⟩
section
variable {K : PySem.W.Frag} {W : Wd} {σ : L2.St} {H0 H H0' H' : Hp} {Γ : Env}
theorem Mine.step {p : Addr} {o : HO} (m : Mine W H0 p) (h : H p = some o) (s : Stp H0 H H0' H') : Mine W H0' p := by
  refine ⟨?_, m.2⟩
  cases q : H0' p with
  | none => rfl
  | some u =>
    rcases s.new p u q with ⟨o', h'⟩ | h'
    · rw [m.1] at h'; cases h'
    · rw [h] at h'; cases h'
theorem Own1.step {p : Addr} {o : HO} (m : Own1 W H0 p) (h : H p = some o) (s : Stp H0 H H0' H') : Own1 W H0' p := ⟨(Mine.step (W := W) ⟨m.1, .inr m.2⟩ h s).1, m.2⟩
theorem Own1.m {p : Addr} (m : Own1 W H0 p) : Mine W H0 p := ⟨m.1, .inr m.2⟩
theorem SrcOk.mono {H H' : Hp} {a c : Addr} (e : Same H H') (h : SrcOk H a c) : SrcOk H' a c := by
  obtain ⟨cs, l, m, t, h1, h2⟩ := h
  exact ⟨cs, l, m, t, e _ _ h1, e _ _ h2⟩
theorem SlOk.step {x : Option V} {t : Sl} (h : SlOk K W H0 H x t) (s : Stp H0 H H0' H') : SlOk K W H0' H' x t := by
  cases t with
  | un => trivial
  | va d =>
    obtain ⟨v, e, q⟩ := h
    exact ⟨v, e, q.mono s.s0⟩
  | own ds =>
    obtain ⟨p, vs, e, m, q, r⟩ := h
    exact ⟨p, vs, e, m.step q s, s.s _ _ q, r.mono s.s0⟩
  | dic kvs =>
    obtain ⟨p, vs, e, m, q, k, r⟩ := h
    exact ⟨p, vs, e, m.step q s, s.s _ _ q, k, r.mono s.s0⟩
  | dit kvs =>
    obtain ⟨p, vs, e, m, q, k, r⟩ := h
    exact ⟨p, vs, e, m.step q s, s.s _ _ q, k, r.mono s.s0⟩
  | src a c =>
    obtain ⟨e, m, n, q⟩ := h
    obtain ⟨cs, l, u, t, h1, h2⟩ := id q
    exact ⟨e, m.step h1 s, n.step h2 s, q.mono s.s⟩
  | scr ns =>
    obtain ⟨a, e, q⟩ := h
    exact ⟨a, e, s.s0.seq q⟩
theorem EnvOk.step (I : EnvOk K W σ H0 H Γ) (s : Stp H0 H H0' H') : EnvOk K W σ H0' H' Γ where
  ex := s.ex
  exe := fun b o h n => s.s _ _ (I.exe b o h n)
  ex00 := I.ex00.trans s.s0
  al := fun b o h => by
    obtain ⟨o', h'⟩ := I.al b o h
    exact ⟨o', s.s _ _ h'⟩
  new := fun b o h => by
    rcases s.new b o h with ⟨o', h'⟩ | h'
    · exact I.new b o' h'
    · cases q : W.He b with
      | none => exact .inr rfl
      | some u =>
        obtain ⟨u', z⟩ := I.al b u q
        rw [z] at h'; cases h'
  len := I.len
  sl := fun i t h => (I.sl i t h).step s
  ap := I.ap
end
end DD
set_option Elab.async false
set_option linter.all false
set_option maxRecDepth 100000
set_option maxHeartbeats 2000000
namespace DD
open PySem L2

/-! ### what may be read for a moment: a value, or a list of the def's own -/
def DvW (K : PySem.W.Frag) (H0 H : Hp) (v : V) (d : PD) : Prop :=
  Dv K H0 v d ∨ ∃ p vs ds, v = .ref p ∧ d = .list ds ∧ H p = some (.lst vs) ∧ DvAll K H0 vs ds
inductive DvWs (K : PySem.W.Frag) (H0 H : Hp) : List V → List PD → Prop
  | nil : DvWs K H0 H [] []
  | cons {v : V} {vs : List V} {d : PD} {ds : List PD} : DvW K H0 H v d → DvWs K H0 H vs ds → DvWs K H0 H (v :: vs) (d :: ds)
section
variable {K : PySem.W.Frag} {H0 H : Hp}
theorem DvAll.w : ∀ {vs : List V} {ds : List PD}, DvAll K H0 vs ds → DvWs K H0 H vs ds
  | _, _, .nil => .nil
  | _, _, .cons h r => .cons (.inl h) (DvAll.w r)
theorem DvW.dv {v : V} {d : PD} (e : Same H0 H) (h : DvW K H0 H v d) : Dv K H v d := by
  rcases h with h | ⟨p, vs, ds, rfl, rfl, h, r⟩
  · exact h.mono e
  · exact .lst h (r.mono e)
theorem DvW.int {v : V} {i : Int} (h : DvW K H0 H v (.int i)) : v = .int i := by
  rcases h with h | ⟨p, vs, ds, rfl, e, h, r⟩
  · cases h; rfl
  · cases e
theorem DvW.bool {v : V} {i : Bool} (h : DvW K H0 H v (.bool i)) : v = .bl i := by
  rcases h with h | ⟨p, vs, ds, rfl, e, h, r⟩
  · cases h; rfl
  · cases e
theorem DvW.str {v : V} {i : Str} (h : DvW K H0 H v (.str i)) : v = .str i := by
  rcases h with h | ⟨p, vs, ds, rfl, e, h, r⟩
  · cases h; rfl
  · cases e
theorem DvW.none {v : V} (h : DvW K H0 H v .none) : v = .non := by
  rcases h with h | ⟨p, vs, ds, rfl, e, h, r⟩
  · cases h; rfl
  · cases e
theorem DvW.list {v : V} {ds : List PD} (e : Same H0 H) (h : DvW K H0 H v (.list ds)) : ∃ p vs, v = .ref p ∧ H p = some (.lst vs) ∧ DvAll K H0 vs ds := by
  rcases h with h | ⟨p, vs, ds', rfl, e', h, r⟩
  · cases h with
    | lst h r => exact ⟨_, _, rfl, e _ _ h, r⟩
  · cases e'
    exact ⟨p, vs, rfl, h, r⟩
theorem DvW.tuple {v : V} {ds : List PD} (e : Same H0 H) (h : DvW K H0 H v (.tuple ds)) : ∃ p vs, v = .ref p ∧ SqT K H p vs ∧ DvAll K H0 vs ds ∧ Dv K H0 v (.tuple ds) := by
  rcases h with h | ⟨p, vs, ds', rfl, e', h, r⟩
  · cases id h with
    | tup q r => exact ⟨_, _, rfl, sqT_mono e q, r, h⟩
  · cases e'
end

/-! ### readings over data -/
abbrev TD := Env → (PD → Prop) → Prop
abbrev TTD := Env → (Bool → Prop) → Prop
abbrev TAD := Env → (List PD → Prop) → Prop
structure EndsD where
  nx : Env → Prop
  rt : PD → Env → Prop
  bk : Env → Prop := fun _ => False
  ct : Env → Prop := fun _ => False
abbrev TSD := EndsD → Env → Prop

section
variable (K : PySem.W.Frag)
def RE (te : TE) (td : TD) : Prop := ∀ (W : Wd) (σ : L2.St) (H0 H : Hp) (Γ : Env) (φ : PD → Prop) (Q : VK), EnvOk K W σ H0 H Γ → td Γ φ →
  (∀ d v H0' H', φ d → EnvOk K W σ H0' H' Γ → Same H0 H0' → Dv K H0' v d → Q v H') → te σ H Q
def RB (te : TE) (td : TD) : Prop := ∀ (W : Wd) (σ : L2.St) (H0 H : Hp) (Γ : Env) (φ : PD → Prop) (Q : VK), EnvOk K W σ H0 H Γ → td Γ φ →
  (∀ d v H0' H', φ d → EnvOk K W σ H0' H' Γ → Same H0 H0' → (∀ H2 H3, EnvOk K W σ H2 H3 Γ → Same H0' H2 → DvW K H2 H3 v d) → Q v H') → te σ H Q
def RT (tt : TT) (td : TTD) : Prop := ∀ (W : Wd) (σ : L2.St) (H0 H : Hp) (Γ : Env) (φ : Bool → Prop) (Q : Bool → Hp → Prop), EnvOk K W σ H0 H Γ → td Γ φ →
  (∀ b H0' H', φ b → EnvOk K W σ H0' H' Γ → Same H0 H0' → Q b H') → tt σ H Q
def RA (ta : TA) (td : TAD) : Prop := ∀ (W : Wd) (σ : L2.St) (H0 H : Hp) (Γ : Env) (φ : List PD → Prop) (Q : List V → Hp → Prop), EnvOk K W σ H0 H Γ → td Γ φ →
  (∀ ds vs H0' H', φ ds → EnvOk K W σ H0' H' Γ → Same H0 H0' → DvAll K H0' vs ds → Q vs H') → ta σ H Q
def RAB (ta : TA) (td : TAD) : Prop := ∀ (W : Wd) (σ : L2.St) (H0 H : Hp) (Γ : Env) (φ : List PD → Prop) (Q : List V → Hp → Prop), EnvOk K W σ H0 H Γ → td Γ φ →
  (∀ ds vs H0' H', φ ds → EnvOk K W σ H0' H' Γ → Same H0 H0' → (∀ H2 H3, EnvOk K W σ H2 H3 Γ → Same H0' H2 → DvWs K H2 H3 vs ds) → Q vs H') → ta σ H Q
/-- a list that is new and the def's own -/
def RL (te : TE) (td : TAD) : Prop := ∀ (W : Wd) (σ : L2.St) (H0 H : Hp) (Γ : Env) (φ : List PD → Prop) (Q : VK), EnvOk K W σ H0 H Γ → td Γ φ →
  (∀ ds p vs H0' H', φ ds → EnvOk K W σ H0' H' Γ → Same H0 H0' → Own1 W H0' p → (∀ i s b, Γ[i]? = some s → Owns (ats σ i) b s → b ≠ p) → H' p = some (.lst vs) → DvAll K H0' vs ds → Q (.ref p) H') → te σ H Q
structure EndsOk (W : Wd) (E : EndsD) (D : Ends) : Prop where
  nx : ∀ σ H0 H Γ, EnvOk K W σ H0 H Γ → E.nx Γ → D.nx σ H
  rt : ∀ σ H0 H Γ d v, EnvOk K W σ H0 H Γ → Dv K H0 v d → E.rt d Γ → D.rt v H
  bk : ∀ σ H0 H Γ, EnvOk K W σ H0 H Γ → E.bk Γ → D.bk σ H
  ct : ∀ σ H0 H Γ, EnvOk K W σ H0 H Γ → E.ct Γ → D.ct σ H
def RS (ts : TS) (td : TSD) : Prop := ∀ (W : Wd) (σ : L2.St) (H0 H : Hp) (Γ : Env) (E : EndsD) (D : Ends), EnvOk K W σ H0 H Γ → td E Γ → EndsOk K W E D → ts D σ H
/-- a target; ts: the slots that it stores -/
abbrev TGD := PD → Env → (Env → Prop) → Prop
abbrev TGsD := List PD → Env → (Env → Prop) → Prop
structure OnlyAt (ts : List Nat) (σ σ' : L2.St) (Γ Γ' : Env) : Prop where
  s : ∀ j, j ∉ ts → σ'[j]? = σ[j]?
  g : ∀ j, j ∉ ts → Γ'[j]? = Γ[j]?
  l : σ'.length = σ.length
  m : Γ'.length = Γ.length
theorem OnlyAt.refl (ts : List Nat) (σ : L2.St) (Γ : Env) : OnlyAt ts σ σ Γ Γ := ⟨fun _ _ => rfl, fun _ _ => rfl, rfl, rfl⟩
def RG (ts : List Nat) (g : TG) (gd : TGD) : Prop := ∀ (W : Wd) (σ : L2.St) (H0 H : Hp) (Γ : Env) (d : PD) (v : V) (φ : Env → Prop) (Q : L2.St → Hp → Prop), EnvOk K W σ H0 H Γ → Dv K H0 v d → gd d Γ φ →
  (∀ σ' Γ' , φ Γ' → EnvOk K W σ' H0 H Γ' → OnlyAt ts σ σ' Γ Γ' → Q σ' H) → g v σ H Q
def RGs (ts : List Nat) (g : TGs) (gd : TGsD) : Prop := ∀ (W : Wd) (σ : L2.St) (H0 H : Hp) (Γ : Env) (ds : List PD) (vs : List V) (φ : Env → Prop) (Q : L2.St → Hp → Prop), EnvOk K W σ H0 H Γ → DvAll K H0 vs ds → gd ds Γ φ →
  (∀ σ' Γ', φ Γ' → EnvOk K W σ' H0 H Γ' → OnlyAt ts σ σ' Γ Γ' → Q σ' H) → g vs σ H Q
/-- an iterator over data -/
structure ItD (W : Wd) (J : It) (ds : List PD) (H0s : Hp) : Prop where
  go : ∀ i σ H0 H Γ, i < ds.length → EnvOk K W σ H0 H Γ → Same H0s H0 → J.go i H
  stop : ∀ σ H0 H Γ, EnvOk K W σ H0 H Γ → Same H0s H0 → J.stop ds.length H
  yld : ∀ i σ H0 H Γ x H', EnvOk K W σ H0 H Γ → Same H0s H0 → i < ds.length → J.yld i H x H' → ∃ H0' d, EnvOk K W σ H0' H' Γ ∧ Same H0 H0' ∧ Stp H0 H H0' H' ∧ ds[i]? = some d ∧ Dv K H0' x d
def RI (ti : TI) (td : TAD) : Prop := ∀ (W : Wd) (σ : L2.St) (H0 H : Hp) (Γ : Env) (φ : List PD → Prop) (R : It → Hp → Prop), EnvOk K W σ H0 H Γ → td Γ φ →
  (∀ ds J H0' H', φ ds → EnvOk K W σ H0' H' Γ → Same H0 H0' → (∀ W', ItD K W' J ds H0') → R J H') → ti σ H R
def ROp (r : R2) (rd : PD → PD → (PD → Prop) → Prop) : Prop := ∀ (H0 H : Hp) (x y : V) (d e : PD) (φ : PD → Prop) (Q : VK), Same H0 H → DvW K H0 H x d → DvW K H0 H y e → rd d e φ →
  (∀ z v H0' H', φ z → Stp H0 H H0' H' → Dv K H0' v z → Q v H') → r x y H Q
def RUn (r : V → Hp → VK → Prop) (rd : PD → (PD → Prop) → Prop) : Prop := ∀ (H0 H : Hp) (x : V) (d : PD) (φ : PD → Prop) (Q : VK), Same H0 H → DvW K H0 H x d → rd d φ →
  (∀ z v H0' H', φ z → Stp H0 H H0' H' → Dv K H0' v z → Q v H') → r x H Q
def RCl (r : List V → Hp → VK → Prop) (rd : List PD → (PD → Prop) → Prop) : Prop := ∀ (H0 H : Hp) (xs : List V) (ds : List PD) (φ : PD → Prop) (Q : VK), Same H0 H → DvWs K H0 H xs ds → rd ds φ →
  (∀ z v H0' H', φ z → Stp H0 H H0' H' → Dv K H0' v z → Q v H') → r xs H Q
/-- a call whose answer is a new list -/
def RCl' (r : List V → Hp → VK → Prop) (rd : List PD → (List PD → Prop) → Prop) : Prop := ∀ (H0 H : Hp) (xs : List V) (ds : List PD) (φ : List PD → Prop) (Q : VK), Same H0 H → DvWs K H0 H xs ds → rd ds φ →
  (∀ zs p vs, φ zs → H p = none → DvAll K H0 vs zs → Q (.ref p) (upd H p (.lst vs))) → r xs H Q
end

structure DE (X : Cx) (e : Expr) (te : TE) (td : TD) : Prop where
  pe : PE X e te
  re : RE X.K te td
structure DB (X : Cx) (e : Expr) (te : TE) (td : TD) : Prop where
  pe : PE X e te
  re : RB X.K te td
structure DT (X : Cx) (e : Expr) (te : TT) (td : TTD) : Prop where
  pe : PT X e te
  re : RT X.K te td
structure DW (X : Cx) (e : Expr) (te : TT) (td : TTD) : Prop where
  pe : PW X e te
  re : RT X.K te td
structure DA (X : Cx) (es : List Expr) (te : TA) (td : TAD) : Prop where
  pe : PA X es te
  re : RA X.K te td
structure DAB (X : Cx) (es : List Expr) (te : TA) (td : TAD) : Prop where
  pe : PA X es te
  re : RAB X.K te td
structure DL (X : Cx) (e : Expr) (te : TE) (td : TAD) : Prop where
  pe : PE X e te
  re : RL X.K te td
structure DS (X : Cx) (s : Stmt) (ts : TS) (td : TSD) : Prop where
  pe : PS X s ts
  re : RS X.K ts td
structure DSs (X : Cx) (s : List Stmt) (ts : TS) (td : TSD) : Prop where
  pe : PSs X s ts
  re : RS X.K ts td
structure DG (X : Cx) (e : Expr) (ts : List Nat) (g : TG) (gd : TGD) : Prop where
  pe : PG X e g
  re : RG X.K ts g gd
structure DGs (X : Cx) (es : List Expr) (ts : List Nat) (g : TGs) (gd : TGsD) : Prop where
  pe : PGs X es g
  re : RGs X.K ts g gd
structure DI (X : Cx) (tg e : Expr) (ti : TI) (td : TAD) : Prop where
  pe : PI X tg e ti
  re : RI X.K ti td
structure DTs (X : Cx) (es : List Expr) (te : TT) (td : TTD) : Prop where
  pe : PTs X es te
  re : RT X.K te td

/-! ### names, constants -/
def sget : Env → Nat → Sl
  | [], _ => .un
  | s :: _, 0 => s
  | _ :: r, n + 1 => sget r n
theorem sget_some : ∀ {Γ : Env} {i : Nat} {t : Sl}, sget Γ i = t → t ≠ .un → Γ[i]? = some t
  | [], _, _, h, n => (n (by rw [← h]; rfl)).elim
  | s :: _, 0, _, h, n => by subst h; rfl
  | _ :: r, i + 1, _, h, n => by
    rw [List.getElem?_cons_succ]
    exact sget_some (Γ := r) h n
def oVar (i : Nat) : TD := fun Γ φ => match sget Γ i with
  | .va d => φ d
  | _ => False
def bVar (i : Nat) : TD := fun Γ φ => match sget Γ i with
  | .va d => φ d
  | .own ds => φ (.list ds)
  | _ => False
def oC (d : PD) : TD := fun _ φ => φ d
theorem ats_of {σ : L2.St} {i : Nat} {v : V} (h : ats σ i = some v) : σ[i]? = some (some v) := by
  unfold ats at h
  cases q : σ[i]? with
  | none => rw [q] at h; cases h
  | some u => rw [q] at h; rw [show u = some v from h]
section
variable {X : Cx} {e a b c : Expr} {es : List Expr} {te ta tb tc : TE} {td tda tdb tdc : TD} {pos : Pos} {K : PySem.W.Frag}
theorem RE.bo (h : RE K te td) : RB K te td := fun W σ H0 H Γ φ Q I t k => h W σ H0 H Γ φ Q I t fun d v H0' H' f I' s dv => k d v H0' H' f I' s fun _ _ _ s2 => .inl (dv.mono s2)
theorem DE.bo (h : DE X e te td) : DB X e te td := ⟨h.pe, h.re.bo⟩
theorem re_var (i : Nat) : RE K (tVar i) (oVar i) := fun W σ H0 H Γ φ Q I t k => by
  unfold oVar at t
  split at t
  · rename_i d h
    obtain ⟨v, e, q⟩ := I.sl i _ (sget_some h (by intro z; cases z))
    exact ⟨v, ats_of e, k d v H0 H t I (Same.refl _) q⟩
  · exact t.elim
theorem rb_var (i : Nat) : RB K (tVar i) (bVar i) := fun W σ H0 H Γ φ Q I t k => by
  unfold bVar at t
  split at t
  · rename_i d h
    obtain ⟨v, e, q⟩ := I.sl i _ (sget_some h (by intro z; cases z))
    exact ⟨v, ats_of e, k d v H0 H t I (Same.refl _) fun _ _ _ s => .inl (q.mono s)⟩
  · rename_i ds h
    have hs := sget_some h (by intro z; cases z)
    obtain ⟨p, vs, e, _⟩ := I.sl i _ hs
    refine ⟨.ref p, ats_of e, k _ _ H0 H t I (Same.refl _) fun H2 H3 I2 _ => ?_⟩
    obtain ⟨p2, vs2, e2, m2, q2, r2⟩ := I2.sl i _ hs
    rw [e] at e2
    cases e2
    exact .inr ⟨p, vs2, ds, rfl, rfl, q2, r2⟩
  · exact t.elim
theorem de_v (i : Nat) {x : Str} (hN : X.N[i]? = some x := by rfl) (hv : Vis X.env.scope x := by first | exact Or.inl rfl | exact Or.inr (Or.inl rfl) | exact Or.inr (Or.inr rfl)) (hd : (x == ("__debug__" : Str)) = false := by decide)
    (hcd : (x == ("__classdict__" : Str)) = false := by decide) : DE X (.Name x pos) (tVar i) (oVar i) := ⟨pe_var hN hv hd hcd, re_var i⟩
theorem db_v (i : Nat) {x : Str} (hN : X.N[i]? = some x := by rfl) (hv : Vis X.env.scope x := by first | exact Or.inl rfl | exact Or.inr (Or.inl rfl) | exact Or.inr (Or.inr rfl)) (hd : (x == ("__debug__" : Str)) = false := by decide)
    (hcd : (x == ("__classdict__" : Str)) = false := by decide) : DB X (.Name x pos) (tVar i) (bVar i) := ⟨pe_var hN hv hd hcd, rb_var i⟩
def NoH : Hp := fun _ => none
theorem NoH.same (H : Hp) : Same NoH H := fun _ _ h => nomatch h
theorem re_c {v : V} {d : PD} (h : Dv K NoH v d) : RE K (tC v) (oC d) := fun W σ H0 H Γ φ Q I t k => k d v H0 H t I (Same.refl _) (h.mono (NoH.same _))
theorem de_int {i j pos} : DE X (.Constant (.int i) j pos) (tC (.int i)) (oC (.int i)) := ⟨pe_int, re_c (.int i)⟩
theorem de_bl {b j pos} : DE X (.Constant (.bool b) j pos) (tC (.bl b)) (oC (.bool b)) := ⟨pe_bl, re_c (.bl b)⟩
theorem de_non {j pos} : DE X (.Constant .none j pos) (tC .non) (oC .none) := ⟨pe_non, re_c .non⟩
theorem de_str {x j pos} : DE X (.Constant (.str x) j pos) (tC (.str x)) (oC (.str x)) := ⟨pe_str, re_c (.str x)⟩
theorem de_glob {x : Str} {v : V} {u : Value} {d : PD} (hg : Gl X x) (hm : X.mg x = some u) (r : RelV v u) (h : Dv X.K NoH v d) (hd : (x == ("__debug__" : Str)) = false := by decide) : DE X (.Name x pos) (tC v) (oC d) := ⟨pe_glob hg hm r hd, re_c h⟩

/-! ### operators -/
def oOp (rd : PD → PD → (PD → Prop) → Prop) (ta tb : TD) : TD := fun Γ φ => ta Γ fun d => tb Γ fun e => rd d e φ
def oUn (rd : PD → (PD → Prop) → Prop) (ta : TD) : TD := fun Γ φ => ta Γ fun d => rd d φ
theorem re_op {r : R2} {rd : PD → PD → (PD → Prop) → Prop} (ho : ROp K r rd) (ha : RB K ta tda) (hb : RB K tb tdb) : RE K (tOp r ta tb) (oOp rd tda tdb) := fun W σ H0 H Γ φ Q I t k => by
  refine ha W σ H0 H Γ _ _ I t fun d v H1 G1 t1 I1 s1 w1 => ?_
  refine hb W σ H1 G1 Γ _ _ I1 t1 fun e u H2 G2 t2 I2 s2 w2 => ?_
  exact ho H2 G2 v u d e φ Q I2.ex (w1 H2 G2 I2 s2) (w2 H2 G2 I2 (Same.refl _)) t2 fun z y H3 G3 f st dv => k z y H3 G3 f (I2.step st) ((s1.trans s2).trans st.s0) dv
theorem re_un {r : V → Hp → VK → Prop} {rd : PD → (PD → Prop) → Prop} (ho : RUn K r rd) (ha : RB K ta tda) : RE K (tUn r ta) (oUn rd tda) := fun W σ H0 H Γ φ Q I t k => by
  refine ha W σ H0 H Γ _ _ I t fun d v H1 G1 t1 I1 s1 w1 => ?_
  exact ho H1 G1 v d φ Q I1.ex (w1 H1 G1 I1 (Same.refl _)) t1 fun z y H3 G3 f st dv => k z y H3 G3 f (I1.step st) (s1.trans st.s0) dv
theorem de_op {op : Operator} {r : R2} {rd : PD → PD → (PD → Prop) → Prop} (ho : OpR X (binaryOp op) r) (hr : ROp X.K r rd) (ha : DB X a ta tda) (hb : DB X b tb tdb) : DE X (.BinOp a op b pos) (tOp r ta tb) (oOp rd tda tdb) :=
  ⟨pe_op ho ha.pe hb.pe, re_op hr ha.re hb.re⟩
theorem de_un {op : UnaryOp} {r : V → Hp → VK → Prop} {rd : PD → (PD → Prop) → Prop} (ho : UnR X (unaryOp op) r) (hr : RUn X.K r rd) (ha : DB X a ta tda) : DE X (.UnaryOp op a pos) (tUn r ta) (oUn rd tda) :=
  ⟨pe_un ho ha.pe, re_un hr ha.re⟩
theorem de_cmp {op : CmpOp} {r : R2} {rd : PD → PD → (PD → Prop) → Prop} (ho : OpR X (compareOp op) r) (hr : ROp X.K r rd) (ha : DB X a ta tda) (hb : DB X b tb tdb) (hm : behindInMarks op b = false) : DE X (.Compare a [op] [b] pos) (tOp r ta tb) (oOp rd tda tdb) :=
  ⟨pe_cmpR ho ha.pe hb.pe hm, re_op hr ha.re hb.re⟩
/-- a value that is True or False, as a test -/
def oTest (td : TD) : TTD := fun Γ φ => td Γ fun d => match d with
  | .bool b => φ b
  | _ => False
theorem rt_test (h : RE K te td) : RT K (tTest te) (oTest td) := fun W σ H0 H Γ φ Q I t k => by
  refine h W σ H0 H Γ _ _ I t fun d v H1 G1 t1 I1 s1 dv => ?_
  cases d with
  | bool b =>
    cases dv
    exact ⟨b, rfl, k b H1 G1 t1 I1 s1⟩
  | _ => exact t1.elim
theorem rt_B (h : RE K te td) : RT K (tB te) (oTest td) := fun W σ H0 H Γ φ Q I t k => by
  refine h W σ H0 H Γ _ _ I t fun d v H1 G1 t1 I1 s1 dv => ?_
  cases d with
  | bool b =>
    cases dv
    exact ⟨b, rfl, k b H1 G1 t1 I1 s1⟩
  | _ => exact t1.elim
theorem dt_cmp {op : CmpOp} {r : R2} {rd : PD → PD → (PD → Prop) → Prop} (ho : OpR X (compareOp op) r) (hr : ROp X.K r rd) (ha : DB X a ta tda) (hb : DB X b tb tdb) (hm : behindInMarks op b = false) : DT X (.Compare a [op] [b] pos) (tTest (tOp r ta tb)) (oTest (oOp rd tda tdb)) :=
  ⟨pt_cmpR ho ha.pe hb.pe hm, rt_test (re_op hr ha.re hb.re)⟩
theorem dt_val (h : DE X e te td) (he : ∀ whole, isTrue e X.env whole = (do let v ← whole; standAt e.pos; holding [v] (truthy v)) := by intro _; rfl) : DT X e (tB te) (oTest td) := ⟨pt_val h.pe he, rt_B h.re⟩
/-! ### and, or, not, if .. else -/
variable {tt tu : TT} {tdt tdu : TTD} {rest : List Expr}
def oAnd (t u : TTD) : TTD := fun Γ φ => t Γ fun b => if b = true then u Γ φ else φ false
def oOr (t u : TTD) : TTD := fun Γ φ => t Γ fun b => if b = true then φ true else u Γ φ
def oNot (t : TTD) : TTD := fun Γ φ => t Γ fun b => φ (!b)
theorem rt_and (ha : RT K tt tdt) (hb : RT K tu tdu) : RT K (tAnd tt tu) (oAnd tdt tdu) := fun W σ H0 H Γ φ Q I t k => by
  refine ha W σ H0 H Γ _ _ I t fun b H1 G1 t1 I1 s1 => ?_
  cases b with
  | true => exact hb W σ H1 G1 Γ φ Q I1 t1 fun b H2 G2 t2 I2 s2 => k b H2 G2 t2 I2 (s1.trans s2)
  | false => exact k false H1 G1 t1 I1 s1
theorem rt_or (ha : RT K tt tdt) (hb : RT K tu tdu) : RT K (tOr tt tu) (oOr tdt tdu) := fun W σ H0 H Γ φ Q I t k => by
  refine ha W σ H0 H Γ _ _ I t fun b H1 G1 t1 I1 s1 => ?_
  cases b with
  | false => exact hb W σ H1 G1 Γ φ Q I1 t1 fun b H2 G2 t2 I2 s2 => k b H2 G2 t2 I2 (s1.trans s2)
  | true => exact k true H1 G1 t1 I1 s1
theorem rt_not (ha : RT K tt tdt) : RT K (tNot tt) (oNot tdt) := fun W σ H0 H Γ φ Q I t k => ha W σ H0 H Γ _ _ I t fun b H1 G1 t1 I1 s1 => k (!b) H1 G1 t1 I1 s1
theorem dw_and1 (h : DT X a tt tdt) : DW X (.BoolOp .And [a] pos) tt tdt := ⟨pw_and1 h.pe, h.re⟩
theorem dw_or1 (h : DT X a tt tdt) : DW X (.BoolOp .Or [a] pos) tt tdt := ⟨pw_or1 h.pe, h.re⟩
theorem dw_and (ha : DT X a tt tdt) (hb : DW X (.BoolOp .And (b :: rest) pos) tu tdu) : DW X (.BoolOp .And (a :: b :: rest) pos) (tAnd tt tu) (oAnd tdt tdu) := ⟨pw_and ha.pe hb.pe, rt_and ha.re hb.re⟩
theorem dw_or (ha : DT X a tt tdt) (hb : DW X (.BoolOp .Or (b :: rest) pos) tu tdu) : DW X (.BoolOp .Or (a :: b :: rest) pos) (tOr tt tu) (oOr tdt tdu) := ⟨pw_or ha.pe hb.pe, rt_or ha.re hb.re⟩
theorem DW.t (h : DW X e tt tdt) : DT X e tt tdt := ⟨h.pe.pt, h.re⟩
theorem dt_not (h : DT X a tt tdt) : DT X (.UnaryOp .Not a pos) (tNot tt) (oNot tdt) := ⟨pt_not h.pe, rt_not h.re⟩
def oIf (t : TTD) (ta tb : TD) : TD := fun Γ φ => t Γ fun b => if b = true then ta Γ φ else tb Γ φ
theorem re_if (h : RT K tt tdt) (ha : RE K ta tda) (hb : RE K tb tdb) : RE K (tIf tt ta tb) (oIf tdt tda tdb) := fun W σ H0 H Γ φ Q I t k => by
  refine h W σ H0 H Γ _ _ I t fun b H1 G1 t1 I1 s1 => ?_
  cases b with
  | true => exact ha W σ H1 G1 Γ φ Q I1 t1 fun d v H2 G2 t2 I2 s2 => k d v H2 G2 t2 I2 (s1.trans s2)
  | false => exact hb W σ H1 G1 Γ φ Q I1 t1 fun d v H2 G2 t2 I2 s2 => k d v H2 G2 t2 I2 (s1.trans s2)
theorem de_if (h : DT X c tt tdt) (ha : DE X a ta tda) (hb : DE X b tb tdb) : DE X (.IfExp c a b pos) (tIf tt ta tb) (oIf tdt tda tdb) := ⟨pe_ifExp h.pe ha.pe hb.pe, re_if h.re ha.re hb.re⟩
/-- and, or, not as values: all True or False -/
def oAndV (t u : TD) : TD := fun Γ φ => t Γ fun d => match d with
  | .bool true => u Γ φ
  | .bool false => φ (.bool false)
  | _ => False
def oOrV (t u : TD) : TD := fun Γ φ => t Γ fun d => match d with
  | .bool true => φ (.bool true)
  | .bool false => u Γ φ
  | _ => False
def oNotV (t : TD) : TD := fun Γ φ => t Γ fun d => match d with
  | .bool b => φ (.bool (!b))
  | _ => False
theorem re_andV (ha : RE K ta tda) (hb : RE K tb tdb) : RE K (tAndV ta tb) (oAndV tda tdb) := fun W σ H0 H Γ φ Q I t k => by
  refine ha W σ H0 H Γ _ _ I t fun d v H1 G1 t1 I1 s1 dv => ?_
  cases d with
  | bool b =>
    cases dv
    refine ⟨b, rfl, ?_⟩
    cases b with
    | true => exact hb W σ H1 G1 Γ φ Q I1 t1 fun d v H2 G2 t2 I2 s2 => k d v H2 G2 t2 I2 (s1.trans s2)
    | false => exact k _ _ H1 G1 t1 I1 s1 (.bl false)
  | _ => exact t1.elim
theorem re_orV (ha : RE K ta tda) (hb : RE K tb tdb) : RE K (tOrV ta tb) (oOrV tda tdb) := fun W σ H0 H Γ φ Q I t k => by
  refine ha W σ H0 H Γ _ _ I t fun d v H1 G1 t1 I1 s1 dv => ?_
  cases d with
  | bool b =>
    cases dv
    refine ⟨b, rfl, ?_⟩
    cases b with
    | false => exact hb W σ H1 G1 Γ φ Q I1 t1 fun d v H2 G2 t2 I2 s2 => k d v H2 G2 t2 I2 (s1.trans s2)
    | true => exact k _ _ H1 G1 t1 I1 s1 (.bl true)
  | _ => exact t1.elim
theorem re_notV (ha : RE K ta tda) : RE K (tNotV ta) (oNotV tda) := fun W σ H0 H Γ φ Q I t k => by
  refine ha W σ H0 H Γ _ _ I t fun d v H1 G1 t1 I1 s1 dv => ?_
  cases d with
  | bool b =>
    cases dv
    exact ⟨b, rfl, k _ _ H1 G1 t1 I1 s1 (.bl _)⟩
  | _ => exact t1.elim
theorem de_one {op} (h : DE X a ta tda) : DE X (.BoolOp op [a] pos) ta tda := ⟨pe_one h.pe, h.re⟩
theorem de_and (ha : DE X a ta tda) (hb : DE X (.BoolOp .And (b :: rest) pos) tb tdb) : DE X (.BoolOp .And (a :: b :: rest) pos) (tAndV ta tb) (oAndV tda tdb) := ⟨pe_and ha.pe hb.pe, re_andV ha.re hb.re⟩
theorem de_or (ha : DE X a ta tda) (hb : DE X (.BoolOp .Or (b :: rest) pos) tb tdb) : DE X (.BoolOp .Or (a :: b :: rest) pos) (tOrV ta tb) (oOrV tda tdb) := ⟨pe_or ha.pe hb.pe, re_orV ha.re hb.re⟩
theorem de_not (ha : DE X a ta tda) : DE X (.UnaryOp .Not a pos) (tNotV ta) (oNotV tda) := ⟨pe_not ha.pe, re_notV ha.re⟩
/-! ### arguments, displays -/
variable {tr : TA} {tdr : TAD}
def oNil : TAD := fun _ φ => φ []
def oCons (td : TD) (tr : TAD) : TAD := fun Γ φ => td Γ fun d => tr Γ fun ds => φ (d :: ds)
theorem ra_nil : RA K tNil oNil := fun W σ H0 H Γ φ Q I t k => k [] [] H0 H t I (Same.refl _) .nil
theorem ra_cons (h : RE K te td) (hr : RA K tr tdr) : RA K (tCons te tr) (oCons td tdr) := fun W σ H0 H Γ φ Q I t k => by
  refine h W σ H0 H Γ _ _ I t fun d v H1 G1 t1 I1 s1 dv => ?_
  exact hr W σ H1 G1 Γ _ _ I1 t1 fun ds vs H2 G2 t2 I2 s2 r => k _ _ H2 G2 t2 I2 (s1.trans s2) (.cons (dv.mono s2) r)
theorem rab_nil : RAB K tNil oNil := fun W σ H0 H Γ φ Q I t k => k [] [] H0 H t I (Same.refl _) fun _ _ _ _ => .nil
theorem rab_cons (h : RB K te td) (hr : RAB K tr tdr) : RAB K (tCons te tr) (oCons td tdr) := fun W σ H0 H Γ φ Q I t k => by
  refine h W σ H0 H Γ _ _ I t fun d v H1 G1 t1 I1 s1 w1 => ?_
  exact hr W σ H1 G1 Γ _ _ I1 t1 fun ds vs H2 G2 t2 I2 s2 r => k _ _ H2 G2 t2 I2 (s1.trans s2) fun H3 G3 I3 s3 => .cons (w1 H3 G3 I3 (s2.trans s3)) (r H3 G3 I3 s3)
theorem da_nil : DA X [] tNil oNil := ⟨pa_nil, ra_nil⟩
theorem da_cons (h : DE X e te td) (hr : DA X es tr tdr) (hs : starEach (e :: es) X.env = (false, eval e X.env) :: starEach es X.env := by rfl) : DA X (e :: es) (tCons te tr) (oCons td tdr) := ⟨pa_cons h.pe hr.pe hs, ra_cons h.re hr.re⟩
theorem dab_nil : DAB X [] tNil oNil := ⟨pa_nil, rab_nil⟩
theorem dab_cons (h : DB X e te td) (hr : DAB X es tr tdr) (hs : starEach (e :: es) X.env = (false, eval e X.env) :: starEach es X.env := by rfl) : DAB X (e :: es) (tCons te tr) (oCons td tdr) := ⟨pa_cons h.pe hr.pe hs, rab_cons h.re hr.re⟩
def oTup (tr : TAD) : TD := fun Γ φ => tr Γ fun ds => ds.length ≤ sizeLine ∧ φ (.tuple ds)
def oLst (tr : TAD) : TD := fun Γ φ => tr Γ fun ds => ds.length ≤ sizeLine ∧ φ (.list ds)
def lLst (tr : TAD) : TAD := fun Γ φ => tr Γ fun ds => ds.length ≤ sizeLine ∧ φ ds
theorem re_tup (h : RA K tr tdr) : RE K (tTup tr) (oTup tdr) := fun W σ H0 H Γ φ Q I t k => by
  refine h W σ H0 H Γ _ _ I t fun ds vs H1 G1 t1 I1 s1 r => ?_
  refine ⟨by rw [r.length]; exact t1.1, fun p hp => ?_⟩
  have st := Stp.mk1 I1.ex hp (.tup vs)
  exact k _ _ _ _ t1.2 (I1.step st) (s1.trans st.s0) (.tup (SqT.of upd_same) (r.mono st.s0))
theorem re_lst (h : RA K tr tdr) : RE K (tLst tr) (oLst tdr) := fun W σ H0 H Γ φ Q I t k => by
  refine h W σ H0 H Γ _ _ I t fun ds vs H1 G1 t1 I1 s1 r => ?_
  refine ⟨by rw [r.length]; exact t1.1, fun p hp => ?_⟩
  have st := Stp.mk1 I1.ex hp (.lst vs)
  exact k _ _ _ _ t1.2 (I1.step st) (s1.trans st.s0) (.lst upd_same (r.mono st.s0))
theorem EnvOk.mine {W : Wd} {σ : L2.St} {H0 H : Hp} {Γ : Env} (I : EnvOk K W σ H0 H Γ) {p : Addr} (hp : H p = none) : Own1 W H0 p := ⟨I.ex.free hp, by
  cases q : W.He p with
  | none => rfl
  | some o =>
    obtain ⟨u, z⟩ := I.al p o q
    rw [hp] at z; cases z⟩
theorem EnvOk.apart {W : Wd} {σ : L2.St} {H0 H : Hp} {Γ : Env} (I : EnvOk K W σ H0 H Γ) {p : Addr} (hp : H p = none) : ∀ i s b, Γ[i]? = some s → Owns (ats σ i) b s → b ≠ p := fun i s b h o z => by
  subst z
  have q := I.sl i s h
  cases s with
  | un => exact o
  | va d => exact o
  | own ds =>
    obtain ⟨p, vs, e, m, r, _⟩ := q
    have o : ats σ i = some (.ref b) := o
    rw [o] at e; cases e
    rw [hp] at r; cases r
  | dic ds =>
    obtain ⟨p, vs, e, m, r, _⟩ := q
    have o : ats σ i = some (.ref b) := o
    rw [o] at e; cases e
    rw [hp] at r; cases r
  | dit ds =>
    obtain ⟨p, vs, e, m, r, _⟩ := q
    have o : ats σ i = some (.ref b) := o
    rw [o] at e; cases e
    rw [hp] at r; cases r
  | src a c =>
    obtain ⟨e, m, n, cs, l, u, t, h1, h2⟩ := q
    rcases o with rfl | rfl
    · rw [hp] at h1; cases h1
    · rw [hp] at h2; cases h2
  | scr ns => exact o
theorem rl_lst (h : RA K tr tdr) : RL K (tLst tr) (lLst tdr) := fun W σ H0 H Γ φ Q I t k => by
  refine h W σ H0 H Γ _ _ I t fun ds vs H1 G1 t1 I1 s1 r => ?_
  refine ⟨by rw [r.length]; exact t1.1, fun p hp => ?_⟩
  have st := Stp.own I1.ex hp (.lst vs)
  exact k _ _ _ _ _ t1.2 (I1.step st) s1 (I1.mine hp) (I1.apart hp) upd_same r
theorem de_tup {x1} (h : DA X es tr tdr) : DE X (.Tuple es x1 pos) (tTup tr) (oTup tdr) := ⟨pe_tup h.pe, re_tup h.re⟩
theorem de_lst (h : DA X es tr tdr) : DE X (.List es pos) (tLst tr) (oLst tdr) := ⟨pe_lst h.pe, re_lst h.re⟩
theorem dl_lst (h : DA X es tr tdr) : DL X (.List es pos) (tLst tr) (lLst tdr) := ⟨pe_lst h.pe, rl_lst h.re⟩
/-! ### built-in calls -/
variable {id : String} {x : Str} {p : Pos}
def oCl (rd : List PD → (PD → Prop) → Prop) (tr : TAD) : TD := fun Γ φ => tr Γ fun ds => rd ds φ
def lCl (rd : List PD → (List PD → Prop) → Prop) (tr : TAD) : TAD := fun Γ φ => tr Γ fun ds => rd ds φ
theorem re_cl {r : List V → Hp → VK → Prop} {rd : List PD → (PD → Prop) → Prop} (ho : RCl K r rd) (h : RAB K tr tdr) : RE K (tCB r tr) (oCl rd tdr) := fun W σ H0 H Γ φ Q I t k => by
  refine h W σ H0 H Γ _ _ I t fun ds vs H1 G1 t1 I1 s1 w => ?_
  exact ho H1 G1 vs ds φ Q I1.ex (w H1 G1 I1 (Same.refl _)) t1 fun z y H3 G3 f st dv => k z y H3 G3 f (I1.step st) (s1.trans st.s0) dv
theorem rl_cl {r : List V → Hp → VK → Prop} {rd : List PD → (List PD → Prop) → Prop} (ho : RCl' K r rd) (h : RAB K tr tdr) : RL K (tCB r tr) (lCl rd tdr) := fun W σ H0 H Γ φ Q I t k => by
  refine h W σ H0 H Γ _ _ I t fun ds vs H1 G1 t1 I1 s1 w => ?_
  exact ho H1 G1 vs ds φ Q I1.ex (w H1 G1 I1 (Same.refl _)) t1 fun zs p us f hp r =>
    k zs p us H1 _ f (I1.step (Stp.own I1.ex hp _)) s1 (I1.mine hp) (I1.apart hp) upd_same r
theorem RCl'.cl {r : List V → Hp → VK → Prop} {rd : List PD → (List PD → Prop) → Prop} (h : RCl' K r rd) : RCl K r (fun ds φ => rd ds fun zs => φ (.list zs)) := fun H0 H xs ds φ Q e w t k => by
  refine h H0 H xs ds _ Q e w t fun zs p vs f hp r => ?_
  have st := Stp.mk1 e hp (.lst vs)
  exact k _ _ _ _ f st (.lst upd_same (r.mono st.s0))
theorem de_cB {r : List V → Hp → VK → Prop} {rd : List PD → (PD → Prop) → Prop} (hc : CallR X (.builtin id) r) (hr : RCl X.K r rd) (hg : Gl X x) (hm : X.mg x = none) (hv : bootBuiltins x = some (.builtin id)) (ha : DAB X (e :: es) tr tdr) (hn : x ≠ "__name__" := by decide) (hdb : (x == ("__debug__" : Str)) = false := by decide)
    (he : starEach (e :: es) X.env = (false, eval e X.env) :: starEach es X.env := by rfl) (hpl : (backTo pos (starEach es X.env)).any (·.1) = false := by rfl) : DE X (.Call (.Name x p) (e :: es) [] pos) (tCB r tr) (oCl rd tdr) :=
  ⟨pe_callB hc hg hm hv ha.pe hn hdb he hpl, re_cl hr ha.re⟩
theorem de_cT {T : String} {r : List V → Hp → VK → Prop} {rd : List PD → (PD → Prop) → Prop} (hc : CallR X (.type T) r) (hr : RCl X.K r rd) (hg : Gl X x) (hm : X.mg x = none) (hv : bootBuiltins x = some (.type T)) (ha : DAB X (e :: es) tr tdr) (hn : x ≠ "__name__" := by decide) (hdb : (x == ("__debug__" : Str)) = false := by decide)
    (he : starEach (e :: es) X.env = (false, eval e X.env) :: starEach es X.env := by rfl) (hpl : (backTo pos (starEach es X.env)).any (·.1) = false := by rfl) : DE X (.Call (.Name x p) (e :: es) [] pos) (tCB r tr) (oCl rd tdr) :=
  ⟨pe_callTy hc hg hm hv ha.pe hn hdb he hpl, re_cl hr ha.re⟩
theorem dl_cB {r : List V → Hp → VK → Prop} {rd : List PD → (List PD → Prop) → Prop} (hc : CallR X (.builtin id) r) (hr : RCl' X.K r rd) (hg : Gl X x) (hm : X.mg x = none) (hv : bootBuiltins x = some (.builtin id)) (ha : DAB X (e :: es) tr tdr) (hn : x ≠ "__name__" := by decide) (hdb : (x == ("__debug__" : Str)) = false := by decide)
    (he : starEach (e :: es) X.env = (false, eval e X.env) :: starEach es X.env := by rfl) (hpl : (backTo pos (starEach es X.env)).any (·.1) = false := by rfl) : DL X (.Call (.Name x p) (e :: es) [] pos) (tCB r tr) (lCl rd tdr) :=
  ⟨pe_callB hc hg hm hv ha.pe hn hdb he hpl, rl_cl hr ha.re⟩
theorem dl_cT {T : String} {r : List V → Hp → VK → Prop} {rd : List PD → (List PD → Prop) → Prop} (hc : CallR X (.type T) r) (hr : RCl' X.K r rd) (hg : Gl X x) (hm : X.mg x = none) (hv : bootBuiltins x = some (.type T)) (ha : DAB X (e :: es) tr tdr) (hn : x ≠ "__name__" := by decide) (hdb : (x == ("__debug__" : Str)) = false := by decide)
    (he : starEach (e :: es) X.env = (false, eval e X.env) :: starEach es X.env := by rfl) (hpl : (backTo pos (starEach es X.env)).any (·.1) = false := by rfl) : DL X (.Call (.Name x p) (e :: es) [] pos) (tCB r tr) (lCl rd tdr) :=
  ⟨pe_callTy hc hg hm hv ha.pe hn hdb he hpl, rl_cl hr ha.re⟩
end
end DD
set_option Elab.async false
set_option linter.all false
set_option maxRecDepth 100000
set_option maxHeartbeats 2000000
/-! A def's promise where nothing is being shown (repr is let). -/
namespace DD
open PySem L2 PySem.Spec PyProof.Rows

structure FnG (P : Program) (w : World) (K : PySem.W.Frag) (mg : Str → Option Value) (base : Heap) (k : Nat) (f : Addr) (fd : FuncData) (ps : List Str) (sp : Sp) : Prop where
  len : ∀ vs H Q E, sp vs H Q E → vs.length = ps.length
  run : ∀ (A : Around), A.guards = some [] → ∀ (outer : List PySem.Env) (s : Shared) (H : Hp) (args : Args) (us : List Value) (vs : List V) (Q : VK) (E : XK), Room k A → Env0 P w K mg base A outer s H → BindsTo s fd args (ps.zip us) → Vals vs us → sp vs H Q E →
    codeAny (model P w) A (.call (.ref f) args) (CR CX0 outer P w H s Q E) s
theorem FnG.of {P : Program} {w : World} {K : PySem.W.Frag} {mg : Str → Option Value} {base : Heap} {k : Nat} {f : Addr} {fd : FuncData} {ps : List Str} {sp : Sp} (F : FnOk P w K mg base CX0 k f fd ps sp) : FnG P w K mg base k f fd ps sp :=
  ⟨F.len, fun A _ => F.run A⟩
example (A : Around) (e : PySem.Env) : (A.deeper e).guards = A.guards := rfl
theorem fng_run {X : Cx} {k : Nat} {f : Addr} {fd : FuncData} {ps : List Str} {sp : Sp} {pins : List (Addr × Obj)} {σ : L2.St} {H : Hp} {s : Shared} {Q : VK} {us : List Value} {vs : List V} (F : FnG X.prog X.w X.K X.mg X.base k f fd ps sp) (hr : Room k X.A) (hG : X.A.guards = some []) (hb : Binds X.K fd ps [])
    (I : Inv X pins σ H s) (r : Vals vs us) (h : sp vs H Q E0) : wpAny (model X.prog X.w) X.A (call (.ref f) us) (EP X pins σ Q) X.xe s := by
  have hl : us.length = ps.length := r.length.symm.trans (F.len _ _ _ _ h)
  have hbt := hb s us I.kIn (by simpa using hl)
  rw [List.append_nil] at hbt
  have c := F.run X.A hG X.stack s H ⟨us, []⟩ us vs Q E0 hr I.env0 hbt r h
  refine wpAny_call (codeAny_mono c fun res s' hq => ?_)
  match res, hq with
  | .ok (.ret u), hq => exact I.after hq
  | .ok .next, hq => exact hq.elim
  | .ok .brk, hq => exact hq.elim
  | .ok .cont, hq => exact hq.elim
  | .error e, hq => exact hq.elim
theorem peg_call {X : Cx} {k : Nat} {f : Addr} {fd : FuncData} {ps : List Str} {sp : Sp} {x : Str} {e : Expr} {es : List Expr} {t : TA} {p pos : Pos} (F : FnG X.prog X.w X.K X.mg X.base k f fd ps sp) (hr : Room k X.A) (hG : X.A.guards = some []) (hg : Gl X x) (hm : X.mg x = some (.ref f)) (hk : PySem.W.keepIn X.K (.ref f) = true)
    (hb : Binds X.K fd ps []) (ha : PA X (e :: es) t) (hdb : (x == ("__debug__" : Str)) = false := by decide) (he : starEach (e :: es) X.env = (false, eval e X.env) :: starEach es X.env := by rfl) (hpl : (backTo pos (starEach es X.env)).any (·.1) = false := by rfl) :
    PE X (.Call (.Name x p) (e :: es) [] pos) (fun σ H Q => t σ H fun vs H1 => sp vs H1 Q E0) := by
  refine ⟨fun pins s σ H Q I h => wpAny_Call_Name_kw (ld_glob I hg hm ?_ hdb)⟩
  exact PySem.W.callWith_K (h₀ := X.base) I.mod.kin hk (thn (ha.run pos pins s σ H _ I h) fun us s1 ⟨vs, H1, I1, r, q⟩ => ⟨I1.kIn, fng_run F hr hG hb I1 r q⟩) he hpl

/-- a def's body keeps its promise, nothing being shown around it -/
theorem fun_okG {P : Program} {w : World} {K : PySem.W.Frag} {mg : Str → Option Value} {base : Heap} {x qual : Str} {st : Stmt} {f : Addr} {fd : FuncData} {N ps : List Str} {k : Nat} {sp : Sp} (F : Fun K x qual st f fd) (S : FnScope N ps (defScope st)) (len : ∀ vs H Q E, sp vs H Q E → vs.length = ps.length)
    (body : ∀ (cdv : Value) (A : Around) (outer : List PySem.Env) (s : Shared) (H : Hp) (vs : List V) (Q : VK) (E : XK), A.guards = some [] → Room k (A.deeper (envOfC qual (defScope st) s.heap.objs.size f cdv)) → sp vs H Q E →
      ∃ t, PSs (cxOf CX0 P w K mg base N qual (defScope st) f cdv A outer s H E).nox (defBody st) t ∧ t { nx := fun _ H' => Q .non H', rt := Q } (start N vs) H) : FnG P w K mg base (k + 1) f fd ps sp := by
  obtain ⟨oc, od, kV, doc, pm, an, cdv, ct, osl, rfl, lk, hcd⟩ := F.ex
  refine ⟨len, fun A hG outer s H args us vs Q E hr e0 hb r hsp => ?_⟩
  obtain ⟨t, ht, hq⟩ := body cdv A outer s H vs Q E hG (hr.deeper _) hsp
  have ht := ht.nox
  have hl := len _ _ _ _ hsp
  have KX : K.In s.heap := e0.mod.kin.keeps fun b o e => (e0.bs b o e).1
  have bound : ∀ y ∈ ps.zip us, (defScope st).names.lookup y.1 = some .local ∨ ((defScope st).names.lookup y.1 = some .cell ∧ ((cellsFrom (s.heap.objs.size + 1) (defScope st).names []).lookup y.1).isSome = true) := by
    rintro ⟨n, v⟩ hy
    exact (S.par n (List.of_mem_zip hy).1).imp id fun q => ⟨q, PySem.W.cellsFrom_some _ _ _ (.inl q)⟩
  refine codeAny_call_function hr.depth (KX _ _ lk) rfl S.co S.gen rfl (PySem.W.codeRec_of KX hcd) (hb _ _ _ _ (wpAny_newFunctionEnv_cells S.kind bound fun env he s1 ic => ?_))
  cases he
  refine ⟨(e0.mod.nolimit.keeps fun b o e => (e0.bs b o e).1).keeps ic.toInCall.keep, codeAny_func (wpAny_mono (ht.run [] s1 (start N vs) H _ (inv_start S hr.hd e0 hl r ic) hq) (fun fl s' hs => ?_) fun e s' hs => hs)⟩
  match fl, hs with
  | .ret u, ⟨v, σ', H', J, rv, q⟩ => exact ⟨v, H', J.os, J.bare, J.base, J.hok, rv, q⟩
  | .next, ⟨σ', H', J, q⟩ => exact ⟨.non, H', J.os, J.bare, J.base, J.hok, rfl, q⟩
  | .brk, ⟨_, _, _, q⟩ => exact q.elim
  | .cont, ⟨_, _, _, q⟩ => exact q.elim

/-- the script as the law meets it -/
def ScriptAt (K : PySem.W.Frag) (H : Hp) (a : Addr) (ns : List Int) : Prop := (∀ b u, H b = some u → b = a ∧ K.lookup a = none ∧ ∃ o xs, u = .frz o (.lst xs)) ∧ SqL K H a (ns.map V.int)
theorem callG {P : Program} {w : World} {K : PySem.W.Frag} {mg mb : Str → Option Value} {k : Nat} {fa a : Addr} {fd : FuncData} {x : Str} {sp : Sp} {s : Shared} {vs : List Value} {ns : List Int}
    (KX : K.In s.heap) (hns : s.heap.Ns mainGlobals mg) (hb : s.heap.Ns builtinsNs mb) (hbb : ∀ x : Str, x ≠ "__name__" → mb x = bootBuiltins x) (hlim : s.heap.NoLimit) (hg : s.gens = #[])
    (ha : s.heap.get? a = some { cls := .type "list", data := .seq vs.toArray }) (hi : IntsAre vs ns) (hl : ns.length ≤ sizeLine) (hr : Room k callerA)
    (F : ∀ base : Heap, K.In base → base.Ns mainGlobals mg → FnG P w K mg base k fa fd [x] sp) (hbind : ∀ (s : Shared) (u : Value), BindsTo s fd ⟨[u], []⟩ [(x, u)])
    (hsp : ∀ H : Hp, ScriptAt K H a ns → sp [.ref a] H (fun v _ => v = .bl true) fun _ _ _ => False) :
    codeAny (model P w) callerA (.call (.ref fa) ⟨[.ref a], []⟩) (fun r s' => r = .ok (.ret (.bool true)) ∧ OldK s.heap s'.heap ∧ s'.os = s.os ∧ AllBare s'.gens) s := by
  obtain ⟨H, hS, hok⟩ : ∃ H : Hp, ScriptAt K H a ns ∧ HOk P w H s.heap := by
    have rv := vals_ints hi
    cases hk : K.lookup a with
    | some o =>
      have e := (KX a o hk).symm.trans ha
      cases e
      exact ⟨NoH, ⟨fun b u z => (nomatch z), .inr ⟨_, vs.toArray, _, hk, rfl, rfl, rfl, by rw [List.size_toArray, hi.length]; exact hl, by simpa using rv⟩⟩, fun b u z => (nomatch z)⟩
    | none =>
      refine ⟨upd NoH a (.frz { cls := .type "list", data := .seq vs.toArray } (.lst (ns.map V.int))), ⟨fun b u z => ?_, .inl (.inr ⟨_, upd_same⟩)⟩, fun b u z => ?_⟩
      · by_cases q : b = a
        · subst q; rw [upd_same] at z; cases z; exact ⟨rfl, hk, _, _, rfl⟩
        · rw [upd_ne q] at z; cases z
      · by_cases q : b = a
        · subst q; rw [upd_same] at z; cases z
          exact ⟨ha, by rw [List.length_map]; exact hl, vs, _, rv, ha⟩
        · rw [upd_ne q] at z; cases z
  have free : ∀ {b : Addr} {o : Obj}, s.heap.get? b = some o → (b = a → False) → H b = none := fun {b o} _ n => by
    cases q : H b with
    | none => rfl
    | some u => exact (n (hS.1 b u q).1).elim
  have nsK : ∀ {b : Addr} {m : Str → Option Value}, s.heap.Ns b m → (hidT s.heap H).Ns b m := fun {b m} ⟨o, es, ep, e, d, r⟩ =>
    ⟨o, es, ep, hidT_get e (free e fun z => by subst z; rw [ha] at e; cases e; cases d), d, r⟩
  have kb : K.In (hidT s.heap H) := fun b o e => hidT_get (KX b o e) (by
    cases q : H b with
    | none => rfl
    | some u =>
      obtain ⟨z, n, _⟩ := hS.1 b u q
      subst z; rw [n] at e; cases e)
  have md : Mod K mg (hidT s.heap H) := ⟨kb, nsK hns, ⟨mb, nsK hb, hbb⟩, hlim.elim fun mc h => ⟨mc, nsK h.1, h.2⟩⟩
  have e0 : Env0 P w K mg (hidT s.heap H) callerA [] s H := ⟨rfl, md, fun b o e => of_hidT e, Nat.le_of_eq (hidT_size _ _), trivial, fun b hb => (by cases hb), hok, .of_eq hg⟩
  refine codeAny_mono ((F _ kb (nsK hns)).run callerA rfl [] s H ⟨[.ref a], []⟩ [.ref a] [.ref a] _ _ hr e0 (hbind s (.ref a)) (.cons rfl .nil) (hsp H hS)) fun r s' h => ?_
  match r, h with
  | .error e, h => exact h.elim
  | .ok .next, h => exact h.elim
  | .ok .brk, h => exact h.elim
  | .ok .cont, h => exact h.elim
  | .ok (.ret u), ⟨v, H', os, bare, un, hok', rv, q⟩ =>
    subst q
    cases rv
    refine ⟨rfl, OldK.of_keep fun b o e => ?_, os, bare⟩
    cases q : H b with
    | none => exact un.keep b o e q (fun z => by cases z) (fun z => by cases z)
    | some u =>
      obtain ⟨_, _, ob, xs, z⟩ := hS.1 b u q
      subst z
      have k1 := (hok b _ q).1
      have k2 := (hok' b _ (un.frzs b ob _ q)).1
      rw [e] at k1; cases k1
      exact k2
/-- the goal that k_head leaves -/
theorem walkG {l : PySem.W.OpenLaw} {n k : Nat} {q : Program} {loose : List Str} {XP : (Str → Option Value) → Heap → Prop} {YP : World → Heap → Prop} {d : DefRec} {K : Params → PySem.W.Frag} {sp : PySem.W.Frag → Sp} {x : Str}
    (hn : l.most = some n) (hn2 : n ≤ sizeLine) (hdf : d.params.defaults = []) (hr : Room k callerA)
    (hY : ∀ (w : World) (h : Heap), YP w h → (K w.params).In h)
    (F : ∀ (w : World) (mg : Str → Option Value) (fa : Addr) (h : Heap), (K w.params).In h → h.Ns mainGlobals mg → mg d.name = some (.ref fa) →
      ∃ fd : FuncData, (∀ (s : Shared) (u : Value), BindsTo s fd ⟨[u], []⟩ [(x, u)]) ∧
        ∀ base : Heap, (K w.params).In base → base.Ns mainGlobals mg → FnG l.prog w (K w.params) mg base k fa fd [x] (sp (K w.params)))
    (hsp : ∀ (K : PySem.W.Frag) (H : Hp) (a : Addr) (ns : List Int), ns.length ≤ n → ScriptAt K H a ns → sp K [.ref a] H (fun v _ => v = .bl true) fun _ _ _ => False) :
    PySem.W.WalkO q loose XP YP l.row.toRowW d [] (fun f vs => PySem.call f vs) := by
  refine Att.attach_call hn hdf fun w s₀ s₁ mg mb fa o pm cd doc a vs ns G Y ho hd hcd hmg hobj hints hlen hg => ?_
  have KX := hY w _ Y
  obtain ⟨fd, hb, hF⟩ := F w mg fa _ KX G.T.g hmg
  exact callG KX G.T.g G.T.b G.T.builtins G.T.nolimit hg hobj hints (Nat.le_trans hlen hn2) hr hF hb fun H hS => hsp _ H a ns hlen hS
end DD
set_option Elab.async false
set_option linter.all false
set_option maxRecDepth 100000
set_option maxHeartbeats 2000000
/-! Operations on data. -/
namespace DD
open PySem L2 PySem.Spec PyProof.Rows

section
variable {K : PySem.W.Frag} {H0 H : Hp}
theorem DvAll.ints : ∀ {vs : List V} {ns : List Int}, DvAll K H vs (ns.map .int) → vs = ns.map V.int
  | [], [], _ => rfl
  | _ :: _, _ :: ns, .cons h r => by cases h; rw [List.map_cons, DvAll.ints r]
theorem DvAll.bools : ∀ {vs : List V} {ns : List Bool}, DvAll K H vs (ns.map .bool) → vs = ns.map V.bl
  | [], [], _ => rfl
  | _ :: _, _ :: ns, .cons h r => by cases h; rw [List.map_cons, DvAll.bools r]
theorem DvAll.strs : ∀ {vs : List V} {ns : List Str}, DvAll K H vs (ns.map .str) → vs = ns.map V.str
  | [], [], _ => rfl
  | _ :: _, _ :: ns, .cons h r => by cases h; rw [List.map_cons, DvAll.strs r]
theorem dv_ints : ∀ (ns : List Int), DvAll K H (ns.map V.int) (ns.map .int)
  | [] => .nil
  | n :: ns => .cons (.int n) (dv_ints ns)
mutual
theorem Dv.dp : ∀ {v : V} {d : PD}, Dv K H v d → d.canLay0 = true → Dp K H v d
  | _, _, .non, _ => .non
  | _, _, .bl b, _ => .bl b
  | _, _, .int i, _ => .int i
  | _, _, .str x, _ => .str x
  | _, _, .lst h r, c => .lst (SqL.of h) (DvAll.dp r (by simpa [PyData.canLay0] using c))
  | _, _, .tup h r, c => .tup h (DvAll.dp r (by simpa [PyData.canLay0] using c))
  | _, _, .dic h r, c => by simp [PyData.canLay0] at c
theorem DvAll.dp : ∀ {vs : List V} {ds : List PD}, DvAll K H vs ds → PyData.canLayAll0 ds = true → DpAll K H vs ds
  | _, _, .nil, _ => .nil
  | _, _, .cons h r, c => by
    have c' := Bool.and_eq_true_iff.mp (show (_ && _) = true by simpa [PyData.canLayAll0] using c)
    exact .cons (Dv.dp h c'.1) (DvAll.dp r c'.2)
end
theorem DvW.dp {v : V} {d : PD} (e : Same H0 H) (h : DvW K H0 H v d) (c : d.canLay0 = true) : Dp K H v d := (h.dv e).dp c
end

/-! ### arithmetic -/
def rAny2 (r r' : R2) : R2 := fun x y H Q => r x y H Q ∨ r' x y H Q
theorem OpR.or {X : Cx} {f : Value → Value → Sem Value} {r r' : R2} (h : OpR X f r) (h' : OpR X f r') : OpR X f (rAny2 r r') := by
  intro pins s σ H x y v u Q I rx ry q
  rcases q with q | q
  · exact h pins s σ H x y v u Q I rx ry q
  · exact h' pins s σ H x y v u Q I rx ry q
theorem ROp.or {K : PySem.W.Frag} {r r' : R2} {rd rd' : PD → PD → (PD → Prop) → Prop} (h : ROp K r rd) (h' : ROp K r' rd') : ROp K (rAny2 r r') (fun d e φ => rd d e φ ∨ rd' d e φ) := fun H0 H x y d e φ Q s a b t k =>
  t.elim (fun t => .inl (h H0 H x y d e φ Q s a b t k)) (fun t => .inr (h' H0 H x y d e φ Q s a b t k))
theorem ROp.imp {K : PySem.W.Frag} {r : R2} {rd rd' : PD → PD → (PD → Prop) → Prop} (h : ROp K r rd) (w : ∀ d e φ, rd' d e φ → rd d e φ) : ROp K r rd' := fun H0 H x y d e φ Q s a b t k => h H0 H x y d e φ Q s a b (w d e φ t) k
def iiD (C : Int → Int → Prop) (f : Int → Int → PD) : PD → PD → (PD → Prop) → Prop
  | .int i, .int j, φ => C i j ∧ φ (f i j)
  | _, _, _ => False
section
variable {K : PySem.W.Frag}
theorem iiD.of {C : Int → Int → Prop} {f : Int → Int → PD} {d e : PD} {φ : PD → Prop} (h : iiD C f d e φ) : ∃ i j, d = .int i ∧ e = .int j ∧ C i j ∧ φ (f i j) := by
  unfold iiD at h
  split at h
  · exact ⟨_, _, rfl, rfl, h⟩
  · exact h.elim
theorem rop_I {C : Int → Int → Prop} {g : Int → Int → V} {f : Int → Int → PD} (hg : ∀ i j, Dv K NoH (g i j) (f i j)) : ROp K (rI C g) (iiD C f) := fun H0 H x y d e φ Q s a b t k => by
  obtain ⟨i, j, rfl, rfl, c, t⟩ := t.of
  exact ⟨i, j, a.int, b.int, c, k _ _ H0 H t (Stp.refl s) ((hg i j).mono (NoH.same _))⟩
theorem rop_I0 {g : Int → Int → V} {f : Int → Int → PD} (hg : ∀ i j, Dv K NoH (g i j) (f i j)) : ROp K (rI0 g) (iiD (fun _ _ => True) f) := fun H0 H x y d e φ Q s a b t k => by
  obtain ⟨i, j, rfl, rfl, c, t⟩ := t.of
  exact ⟨i, j, a.int, b.int, k _ _ H0 H t (Stp.refl s) ((hg i j).mono (NoH.same _))⟩
end
/-- + -/
def addD : PD → PD → (PD → Prop) → Prop
  | .int i, .int j, φ => φ (.int (i + j))
  | .str x, .str y, φ => x.length + y.length ≤ sizeLine ∧ φ (.str (x ++ y))
  | .list xs, .list ys, φ => xs.length + ys.length ≤ sizeLine ∧ φ (.list (xs ++ ys))
  | .tuple xs, .tuple ys, φ => xs.length + ys.length ≤ sizeLine ∧ φ (.tuple (xs ++ ys))
  | _, _, _ => False
def rStrCat : R2 := fun x y H Q => ∃ i j, x = .str i ∧ y = .str j ∧ i.length + j.length ≤ sizeLine ∧ Q (.str (i ++ j)) H
def rAdd (K : PySem.W.Frag) : R2 := rAny2 (rAny2 (rI0 fun i j => .int (i + j)) rStrCat) (rAny2 rCat (rCatA K))
theorem od_add {X : Cx} : OpR X (binaryOp .Add) (rAdd X.K) := OpR.or (OpR.or op_add op_add_str) (OpR.or op_cat op_catA)
theorem rd_add {K : PySem.W.Frag} : ROp K (rAdd K) addD := fun H0 H x y d e φ Q s a b t k => by
  unfold addD at t
  split at t
  · exact .inl (.inl ⟨_, _, a.int, b.int, k _ _ H0 H t (Stp.refl s) (.int _)⟩)
  · exact .inl (.inr ⟨_, _, a.str, b.str, t.1, k _ _ H0 H t.2 (Stp.refl s) (.str _)⟩)
  · obtain ⟨p, vs, rfl, hp, r1⟩ := a.list s
    obtain ⟨q, us, rfl, hq, r2⟩ := b.list s
    refine .inr (.inl ⟨p, q, vs, us, rfl, rfl, hp, hq, by rw [r1.length, r2.length]; exact t.1, fun l hl => ?_⟩)
    have st := Stp.mk1 s hl (.lst (vs ++ us))
    exact k _ _ _ _ t.2 st (.lst upd_same ((r1.app r2).mono st.s0))
  · obtain ⟨p, vs, rfl, hp, r1, z1⟩ := a.tuple s
    obtain ⟨q, us, rfl, hq, r2, z2⟩ := b.tuple s
    refine .inr (.inr ⟨p, q, vs, us, rfl, rfl, hp, hq, by rw [r1.length, r2.length]; exact t.1, fun h0 => ?_, fun _ h0 => ?_, fun _ _ l hl => ?_⟩)
    · subst h0; cases r1
      exact k _ _ _ _ t.2 (Stp.refl s) z2
    · subst h0; cases r2
      exact k _ _ _ _ t.2 (Stp.refl s) (by rw [List.append_nil]; exact z1)
    · have st := Stp.mk1 s hl (.tup (vs ++ us))
      exact k _ _ _ _ t.2 st (.tup (SqT.of upd_same) ((r1.app r2).mono st.s0))
  · exact t.elim
/-- - -/
def subD : PD → PD → (PD → Prop) → Prop
  | .int i, .int j, φ => φ (.int (i - j))
  | _, _, _ => False
theorem rd_sub {K : PySem.W.Frag} : ROp K (rI0 fun i j => .int (i - j)) subD := (rop_I0 (f := fun i j => .int (i - j)) fun i j => .int _).imp fun d e φ t => by
  unfold subD at t
  split at t
  · exact ⟨trivial, t⟩
  · exact t.elim
/-- * -/
def MulOk (i j : Int) : Prop := CMul i j ∨ CMulW i j
def mulD : PD → PD → (PD → Prop) → Prop
  | .int i, .int j, φ => MulOk i j ∧ φ (.int (i * j))
  | .list xs, .int j, φ => (-(2 ^ 63) ≤ j ∧ j < 2 ^ 63) ∧ xs.length * j.toNat ≤ sizeLine ∧ φ (.list (List.replicate j.toNat xs).flatten)
  | _, _, _ => False
def rMul : R2 := rAny2 (rAny2 (rI CMul fun i j => .int (i * j)) (rI CMulW fun i j => .int (i * j))) rRep
theorem od_mul {X : Cx} : OpR X (binaryOp .Mult) rMul := OpR.or (OpR.or op_mul op_mulW) op_rep
theorem DvAll.rep {K : PySem.W.Frag} {H : Hp} {vs : List V} {ds : List PD} (h : DvAll K H vs ds) : ∀ n : Nat, DvAll K H (List.replicate n vs).flatten (List.replicate n ds).flatten
  | 0 => .nil
  | n + 1 => by
    rw [List.replicate_succ, List.replicate_succ, List.flatten_cons, List.flatten_cons]
    exact h.app (h.rep n)
theorem rd_mul {K : PySem.W.Frag} : ROp K rMul mulD := fun H0 H x y d e φ Q s a b t k => by
  unfold mulD at t
  split at t
  · obtain ⟨c | c, t⟩ := t
    · exact .inl (.inl ⟨_, _, a.int, b.int, c, k _ _ H0 H t (Stp.refl s) (.int _)⟩)
    · exact .inl (.inr ⟨_, _, a.int, b.int, c, k _ _ H0 H t (Stp.refl s) (.int _)⟩)
  · obtain ⟨p, vs, rfl, hp, r1⟩ := a.list s
    obtain ⟨⟨c1, c2⟩, c3, t⟩ := t
    refine .inr ⟨p, _, vs, rfl, b.int, hp, c1, c2, by rw [r1.length]; exact c3, fun l hl => ?_⟩
    exact k _ _ _ _ t (Stp.mk1 s hl _) (.lst upd_same ((r1.rep _).mono (Stp.mk1 s hl _).s0))
  · exact t.elim
/-- // -/
def FdOk (i j : Int) : Prop := CDivN i j ∨ CDivW i j
@[irreducible] def fdivD : PD → PD → (PD → Prop) → Prop
  | .int i, .int j, φ => FdOk i j ∧ φ (.int (i.fdiv j))
  | _, _, _ => False
def rFd : R2 := rAny2 (rI CDivN fun i j => .int (i.fdiv j)) (rI CDivW fun i j => .int (i / j))
theorem od_fdiv {X : Cx} : OpR X (binaryOp .FloorDiv) rFd := OpR.or op_fdivN op_fdivW
theorem rd_fdiv {K : PySem.W.Frag} : ROp K rFd fdivD := fun H0 H x y d e φ Q s a b t k => by
  unfold fdivD at t
  split at t
  · obtain ⟨c | c, t⟩ := t
    · exact .inl ⟨_, _, a.int, b.int, c, k _ _ H0 H t (Stp.refl s) (.int _)⟩
    · refine .inr ⟨_, _, a.int, b.int, c, k _ _ H0 H t (Stp.refl s) ?_⟩
      rw [Int.fdiv_eq_ediv_of_nonneg _ (Int.le_of_lt c.1)]
      exact .int _
  · exact t.elim
/-- % -/
@[irreducible] def modD : PD → PD → (PD → Prop) → Prop
  | .int i, .int j, φ => j ≠ 0 ∧ φ (.int (i.fmod j))
  | _, _, _ => False
theorem rd_mod {K : PySem.W.Frag} : ROp K (rI (fun _ j => j ≠ 0) fun i j => .int (i.fmod j)) modD := (rop_I (f := fun i j => .int (i.fmod j)) fun i j => .int _).imp fun d e φ t => by
  unfold modD at t
  split at t
  · exact t
  · exact t.elim
/-- ** -/
def powD : PD → PD → (PD → Prop) → Prop
  | .int i, .int j, φ => CPow i j ∧ φ (.int (i ^ j.toNat))
  | _, _, _ => False
theorem rd_pow {K : PySem.W.Frag} : ROp K (rI CPow fun i j => .int (i ^ j.toNat)) powD := (rop_I (f := fun i j => .int (i ^ j.toNat)) fun i j => .int _).imp fun d e φ t => by
  unfold powD at t
  split at t
  · exact t
  · exact t.elim
/-- -x -/
def negD : PD → (PD → Prop) → Prop
  | .int i, φ => φ (.int (-i))
  | _, _ => False
theorem rd_neg {K : PySem.W.Frag} : RUn K (rU fun i => .int (-i)) negD := fun H0 H x d φ Q s a t k => by
  unfold negD at t
  split at t
  · exact ⟨_, a.int, k _ _ H0 H t (Stp.refl s) (.int _)⟩
  · exact t.elim
/-! ### comparisons -/
/-- the order of ints and of texts -/
@[irreducible] def ltD : PD → PD → (PD → Prop) → Prop
  | .int i, .int j, φ => φ (.bool (decide (i < j)))
  | .str x, .str y, φ => φ (.bool (decide (x.cps.toList < y.cps.toList)))
  | _, _, _ => False
def rStrLt : R2 := fun x y H Q => ∃ i j, x = .str i ∧ y = .str j ∧ Q (.bl (decide (i.cps.toList < j.cps.toList))) H
def rLt : R2 := rAny2 (rI0 fun i j => .bl (decide (i < j))) rStrLt
theorem od_lt {X : Cx} : OpR X (compareOp .Lt) rLt := OpR.or op_lt op_lt_str
theorem rd_lt {K : PySem.W.Frag} : ROp K rLt ltD := fun H0 H x y d e φ Q s a b t k => by
  unfold ltD at t
  split at t
  · exact .inl ⟨_, _, a.int, b.int, k _ _ H0 H t (Stp.refl s) (.bl _)⟩
  · exact .inr ⟨_, _, a.str, b.str, k _ _ H0 H t (Stp.refl s) (.bl _)⟩
  · exact t.elim
@[irreducible] def iiB (f : Int → Int → Bool) : PD → PD → (PD → Prop) → Prop
  | .int i, .int j, φ => φ (.bool (f i j))
  | _, _, _ => False
theorem rd_ii {K : PySem.W.Frag} {f : Int → Int → Bool} : ROp K (rI0 fun i j => .bl (f i j)) (iiB f) := (rop_I0 (f := fun i j => .bool (f i j)) fun i j => .bl _).imp fun d e φ t => by
  unfold iiB at t
  split at t
  · exact ⟨trivial, t⟩
  · exact t.elim
abbrev leD := iiB fun i j => decide (i ≤ j)
abbrev gtD := iiB fun i j => decide (j < i)
abbrev geD := iiB fun i j => decide (j ≤ i)
/-- == -/
@[irreducible] def eqD : PD → PD → (PD → Prop) → Prop
  | .int i, .int j, φ => φ (.bool (decide (i = j)))
  | .str i, .str j, φ => φ (.bool (decide (i = j)))
  | .bool i, .bool j, φ => φ (.bool (decide (i = j)))
  | d, e, φ => SeqAt.shaped d = true ∧ SeqAt.shaped e = true ∧ φ (.bool (PyData.eqv d e))
@[irreducible] def neD : PD → PD → (PD → Prop) → Prop
  | .int i, .int j, φ => φ (.bool (!decide (i = j)))
  | .str i, .str j, φ => φ (.bool (!decide (i = j)))
  | .bool i, .bool j, φ => φ (.bool (!decide (i = j)))
  | d, e, φ => SeqAt.shaped d = true ∧ SeqAt.shaped e = true ∧ φ (.bool (!PyData.eqv d e))
def rEqA (K : PySem.W.Frag) : R2 := rAny2 rEq (rEqD K)
def rNeA (K : PySem.W.Frag) : R2 := rAny2 rNe (rNeD K)
theorem od_eq {X : Cx} (hu : X.A.units + 64 < cLine) : OpR X (compareOp .Eq) (rEqA X.K) := OpR.or op_eq (op_eqD hu)
theorem od_ne {X : Cx} (hu : X.A.units + 64 < cLine) : OpR X (compareOp .NotEq) (rNeA X.K) := OpR.or op_ne (op_neD hu)
theorem rd_eq {K : PySem.W.Frag} : ROp K (rEqA K) eqD := fun H0 H x y d e φ Q s a b t k => by
  unfold eqD at t
  split at t
  · rw [a.int, b.int]
    exact .inl ⟨rfl, k _ _ H0 H t (Stp.refl s) (by simp only [V.int.injEq]; exact .bl _)⟩
  · rw [a.str, b.str]
    exact .inl ⟨rfl, k _ _ H0 H t (Stp.refl s) (by simp only [V.str.injEq]; exact .bl _)⟩
  · rw [a.bool, b.bool]
    exact .inl ⟨rfl, k _ _ H0 H t (Stp.refl s) (by simp only [V.bl.injEq]; exact .bl _)⟩
  · obtain ⟨h1, h2, t⟩ := t
    exact .inr ⟨_, _, a.dp s (SeqAt.canLay_of_shaped h1), b.dp s (SeqAt.canLay_of_shaped h2), h1, h2, k _ _ H0 H t (Stp.refl s) (.bl _)⟩
theorem rd_ne {K : PySem.W.Frag} : ROp K (rNeA K) neD := fun H0 H x y d e φ Q s a b t k => by
  unfold neD at t
  split at t
  · rw [a.int, b.int]
    exact .inl ⟨rfl, k _ _ H0 H t (Stp.refl s) (by simp only [V.int.injEq]; exact .bl _)⟩
  · rw [a.str, b.str]
    exact .inl ⟨rfl, k _ _ H0 H t (Stp.refl s) (by simp only [V.str.injEq]; exact .bl _)⟩
  · rw [a.bool, b.bool]
    exact .inl ⟨rfl, k _ _ H0 H t (Stp.refl s) (by simp only [V.bl.injEq]; exact .bl _)⟩
  · obtain ⟨h1, h2, t⟩ := t
    exact .inr ⟨_, _, a.dp s (SeqAt.canLay_of_shaped h1), b.dp s (SeqAt.canLay_of_shaped h2), h1, h2, k _ _ H0 H t (Stp.refl s) (.bl _)⟩
/-- x is None -/
def isNoneD (d : PD) : Bool := match d with
  | .none => true
  | _ => false
def isND : PD → PD → (PD → Prop) → Prop
  | d, .none, φ => φ (.bool (isNoneD d))
  | _, _, _ => False
def notND : PD → PD → (PD → Prop) → Prop
  | d, .none, φ => φ (.bool (!isNoneD d))
  | _, _, _ => False
def rIsNn : R2 := fun x y H Q => y = .non ∧ Q (.bl (decide (x = .non))) H
def rNotNn : R2 := fun x y H Q => y = .non ∧ Q (.bl (!decide (x = .non))) H
theorem isNone_of {K : PySem.W.Frag} {H0 H : Hp} {x : V} {d : PD} (h : DvW K H0 H x d) : decide (x = V.non) = isNoneD d := by
  rcases h with h | ⟨p, vs, ds, rfl, rfl, _⟩
  · cases h <;> simp [isNoneD]
  · simp [isNoneD]
theorem rd_isN {K : PySem.W.Frag} : ROp K rIsNn isND := fun H0 H x y d e φ Q s a b t k => by
  unfold isND at t
  split at t
  · exact ⟨b.none, k _ _ H0 H t (Stp.refl s) (by rw [isNone_of a]; exact .bl _)⟩
  · exact t.elim
theorem rd_notN {K : PySem.W.Frag} : ROp K rNotNn notND := fun H0 H x y d e φ Q s a b t k => by
  unfold notND at t
  split at t
  · exact ⟨b.none, k _ _ H0 H t (Stp.refl s) (by rw [isNone_of a]; exact .bl _)⟩
  · exact t.elim
/-- x in xs -/
def inD : PD → PD → (PD → Prop) → Prop
  | d, .list ds, φ => SeqAt.shaped d = true ∧ SeqAt.shaped (.list ds) = true ∧ φ (.bool (ds.any fun z => PyData.eqv z d))
  | _, _, _ => False
def notinD : PD → PD → (PD → Prop) → Prop
  | d, .list ds, φ => SeqAt.shaped d = true ∧ SeqAt.shaped (.list ds) = true ∧ φ (.bool (!ds.any fun z => PyData.eqv z d))
  | _, _, _ => False
theorem rd_in {K : PySem.W.Frag} : ROp K (rInD K) inD := fun H0 H x y d e φ Q s a b t k => by
  unfold inD at t
  split at t
  · obtain ⟨h1, h2, t⟩ := t
    exact ⟨_, _, a.dp s (SeqAt.canLay_of_shaped h1), b.dp s (SeqAt.canLay_of_shaped h2), h1, h2, k _ _ H0 H t (Stp.refl s) (.bl _)⟩
  · exact t.elim
theorem rd_notin {K : PySem.W.Frag} : ROp K (rNotInD K) notinD := fun H0 H x y d e φ Q s a b t k => by
  unfold notinD at t
  split at t
  · obtain ⟨h1, h2, t⟩ := t
    exact ⟨_, _, a.dp s (SeqAt.canLay_of_shaped h1), b.dp s (SeqAt.canLay_of_shaped h2), h1, h2, k _ _ H0 H t (Stp.refl s) (.bl _)⟩
  · exact t.elim
/-! ### subscripts -/
def ixD : PD → PD → (PD → Prop) → Prop
  | .list ds, .int i, φ => ∃ d, atI ds i = some d ∧ φ d
  | .tuple ds, .int i, φ => ∃ d, atI ds i = some d ∧ φ d
  | .str z, .int i, φ => z.length ≤ sizeLine ∧ ∃ c, atI z.cps.toList i = some c ∧ φ (.str ⟨#[c]⟩)
  | _, _, _ => False
theorem DvAll.at {K : PySem.W.Frag} {H : Hp} {vs : List V} {ds : List PD} {i : Int} {d : PD} (h : DvAll K H vs ds) (e : atI ds i = some d) : ∃ v, atI vs i = some v ∧ Dv K H v d := by
  unfold atI at e ⊢
  rw [h.length]
  cases q : ixN ds.length i with
  | none => rw [q] at e; cases e
  | some j =>
    rw [q] at e
    exact h.getD e
theorem rd_ix {K : PySem.W.Frag} : ROp K (rIx K) ixD := fun H0 H x y d e φ Q s a b t k => by
  unfold ixD at t
  split at t
  · obtain ⟨p, vs, rfl, hp, r⟩ := a.list s
    obtain ⟨d, hd, t⟩ := t
    obtain ⟨v, hv, dv⟩ := r.at hd
    exact .inl ⟨p, vs, _, v, rfl, b.int, SqL.of hp, hv, k _ _ H0 H t (Stp.refl s) dv⟩
  · obtain ⟨p, vs, rfl, hp, r, _⟩ := a.tuple s
    obtain ⟨d, hd, t⟩ := t
    obtain ⟨v, hv, dv⟩ := r.at hd
    exact .inr (.inl ⟨p, vs, _, v, rfl, b.int, hp, hv, k _ _ H0 H t (Stp.refl s) dv⟩)
  · obtain ⟨hz, c, hc, t⟩ := t
    exact .inr (.inr ⟨_, _, c, a.str, b.int, hz, hc, k _ _ H0 H t (Stp.refl s) (.str _)⟩)
  · exact t.elim
section
variable {X : Cx} {a b e : Expr} {ta tb te : TE} {tda tdb td : TD} {pos p2 : Pos} {K : PySem.W.Frag}
theorem de_ix (ha : DB X a ta tda) (hb : DB X b tb tdb) (hs : PlainIx b) : DE X (.Subscript a b pos) (tOp (rIx X.K) ta tb) (oOp ixD tda tdb) := ⟨pe_ix ix_seq ha.pe hb.pe hs, re_op rd_ix ha.re hb.re⟩
/-! ### slices -/
abbrev TOD := Env → (Option Int → Prop) → Prop
def RO (K : PySem.W.Frag) (to : TO) (td : TOD) : Prop := ∀ (W : Wd) (σ : L2.St) (H0 H : Hp) (Γ : Env) (φ : Option Int → Prop) (Q : Option Int → Hp → Prop), EnvOk K W σ H0 H Γ → td Γ φ →
  (∀ b H0' H', φ b → EnvOk K W σ H0' H' Γ → Same H0 H0' → Q b H') → to σ H Q
structure DO (X : Cx) (e : Option Expr) (to : TO) (td : TOD) : Prop where
  pe : PO X e to
  re : RO X.K to td
def oNoPart : TOD := fun _ φ => φ none
def oPart (td : TD) : TOD := fun Γ φ => td Γ fun d => match d with
  | .int i => φ (some i)
  | _ => False
theorem do_none : DO X none tNoPart oNoPart := ⟨po_none, fun W σ H0 H Γ φ Q I t k => k none H0 H t I (Same.refl _)⟩
theorem do_some (h : DE X e te td) : DO X (some e) (tPart te) (oPart td) := ⟨po_some h.pe, fun W σ H0 H Γ φ Q I t k => by
  refine h.re W σ H0 H Γ _ _ I t fun d v H1 G1 t1 I1 s1 dv => ?_
  cases d with
  | int b =>
    cases dv
    exact ⟨b, rfl, k _ H1 G1 t1 I1 s1⟩
  | _ => exact t1.elim⟩
def cutD (xs : List PD) (lo hi : Option Int) : List PD := (xs.drop (HT.sIx xs.length 0 lo)).take (HT.sIx xs.length xs.length hi - HT.sIx xs.length 0 lo)
theorem DvAll.cut {H : Hp} {vs : List V} {ds : List PD} (h : DvAll K H vs ds) (lo hi : Option Int) : DvAll K H (cutV vs lo hi) (cutD ds lo hi) := by
  unfold cutV cutD
  rw [h.length]
  exact (h.drop _).take _
def slD : PD → Option Int → Option Int → (PD → Prop) → Prop
  | .list ds, lo, hi, φ => φ (.list (cutD ds lo hi))
  | .tuple ds, lo, hi, φ => φ (.tuple (cutD ds lo hi))
  | _, _, _, _ => False
def oSl (te : TD) (tl th : TOD) : TD := fun Γ φ => te Γ fun d => tl Γ fun lo => th Γ fun hi => slD d lo hi φ
def lSl (te : TD) (tl th : TOD) : TAD := fun Γ φ => te Γ fun d => tl Γ fun lo => th Γ fun hi => match d with
  | .list ds => φ (cutD ds lo hi)
  | _ => False
def rSlc (K : PySem.W.Frag) : V → Option Int → Option Int → Hp → VK → Prop := fun x lo hi H Q => rSlL K x lo hi H Q ∨ rSlA K x lo hi H Q
theorem HT_whole {α : Type} {xs : List α} {lo hi : Option Int} (h : HT.sIx xs.length 0 lo = 0 ∧ HT.sIx xs.length xs.length hi = xs.length) : (xs.drop (HT.sIx xs.length 0 lo)).take (HT.sIx xs.length xs.length hi - HT.sIx xs.length 0 lo) = xs := by
  rw [h.1, h.2, List.drop_zero, Nat.sub_zero, List.take_length]
variable {lo hi : Option Expr} {tl th : TO} {tdl tdh : TOD}
theorem re_sl (he : RB K te td) (hl : RO K tl tdl) (hh : RO K th tdh) : RE K (tSl (rSlc K) te tl th) (oSl td tdl tdh) := fun W σ H0 H Γ φ Q I t k => by
  refine he W σ H0 H Γ _ _ I t fun d v H1 G1 t1 I1 s1 w1 => ?_
  refine hl W σ H1 G1 Γ _ _ I1 t1 fun l H2 G2 t2 I2 s2 => ?_
  refine hh W σ H2 G2 Γ _ _ I2 t2 fun u H3 G3 t3 I3 s3 => ?_
  have dw := w1 H3 G3 I3 (s2.trans s3)
  have s4 := (s1.trans s2).trans s3
  unfold slD at t3
  split at t3
  · obtain ⟨p, vs, rfl, hp, r⟩ := dw.list I3.ex
    refine .inl ⟨p, vs, rfl, SqL.of hp, fun q hq => ?_⟩
    have st := Stp.mk1 I3.ex hq (.lst (cutV vs l u))
    exact k _ _ _ _ t3 (I3.step st) (s4.trans st.s0) (.lst upd_same ((r.cut l u).mono st.s0))
  · obtain ⟨p, vs, rfl, hp, r, z⟩ := dw.tuple I3.ex
    refine .inr ⟨p, vs, rfl, hp, fun hw => ?_, fun hw q hq => ?_⟩
    · refine k _ _ _ _ t3 I3 s4 ?_
      unfold cutD
      rw [r.length] at hw
      rw [HT_whole hw]
      exact z
    · have st := Stp.mk1 I3.ex hq (.tup (cutV vs l u))
      exact k _ _ _ _ t3 (I3.step st) (s4.trans st.s0) (.tup (SqT.of upd_same) ((r.cut l u).mono st.s0))
  · exact t3.elim
theorem rl_sl (he : RB K te td) (hl : RO K tl tdl) (hh : RO K th tdh) : RL K (tSl (rSlc K) te tl th) (lSl td tdl tdh) := fun W σ H0 H Γ φ Q I t k => by
  refine he W σ H0 H Γ _ _ I t fun d v H1 G1 t1 I1 s1 w1 => ?_
  refine hl W σ H1 G1 Γ _ _ I1 t1 fun l H2 G2 t2 I2 s2 => ?_
  refine hh W σ H2 G2 Γ _ _ I2 t2 fun u H3 G3 t3 I3 s3 => ?_
  have dw := w1 H3 G3 I3 (s2.trans s3)
  split at t3
  · obtain ⟨p, vs, rfl, hp, r⟩ := dw.list I3.ex
    refine .inl ⟨p, vs, rfl, SqL.of hp, fun q hq => ?_⟩
    exact k _ _ _ _ _ t3 (I3.step (Stp.own I3.ex hq _)) ((s1.trans s2).trans s3) (I3.mine hq) (I3.apart hq) upd_same (r.cut l u)
  · exact t3.elim
theorem de_sl (he : DB X e te td) (hl : DO X lo tl tdl) (hh : DO X hi th tdh) : DE X (.Subscript e (.Slice lo hi none p2) pos) (tSl (rSlc X.K) te tl th) (oSl td tdl tdh) := ⟨pe_slice (sl_list.or sl_tupA) he.pe hl.pe hh.pe, re_sl he.re hl.re hh.re⟩
theorem dl_sl (he : DB X e te td) (hl : DO X lo tl tdl) (hh : DO X hi th tdh) : DL X (.Subscript e (.Slice lo hi none p2) pos) (tSl (rSlc X.K) te tl th) (lSl td tdl tdh) := ⟨pe_slice (sl_list.or sl_tupA) he.pe hl.pe hh.pe, rl_sl he.re hl.re hh.re⟩
end
/-! ### built-in functions -/
def rAnyC (r r' : List V → Hp → VK → Prop) : List V → Hp → VK → Prop := fun xs H Q => r xs H Q ∨ r' xs H Q
theorem CallR.or {X : Cx} {f : Value} {r r' : List V → Hp → VK → Prop} (h : CallR X f r) (h' : CallR X f r') : CallR X f (rAnyC r r') := by
  intro pins s σ H xs us Q I rx q
  rcases q with q | q
  · exact h pins s σ H xs us Q I rx q
  · exact h' pins s σ H xs us Q I rx q
section
variable {K : PySem.W.Frag} {H0 H : Hp}
theorem DvWs.one {xs : List V} {d : PD} (h : DvWs K H0 H xs [d]) : ∃ v, xs = [v] ∧ DvW K H0 H v d := by
  cases h with
  | cons h r => cases r; exact ⟨_, rfl, h⟩
theorem DvWs.two {xs : List V} {d e : PD} (h : DvWs K H0 H xs [d, e]) : ∃ v u, xs = [v, u] ∧ DvW K H0 H v d ∧ DvW K H0 H u e := by
  cases h with
  | cons h r =>
    obtain ⟨u, rfl, h'⟩ := r.one
    exact ⟨_, _, rfl, h, h'⟩
end
def lenD : List PD → (PD → Prop) → Prop
  | [.list ds], φ => φ (.int (ds.length : Int))
  | [.tuple ds], φ => φ (.int (ds.length : Int))
  | [.str z], φ => z.length ≤ sizeLine ∧ φ (.int (z.length : Int))
  | _, _ => False
def rLenSq (K : PySem.W.Frag) : List V → Hp → VK → Prop := fun xs H Q => ∃ p ys, xs = [.ref p] ∧ (SqL K H p ys ∨ SqT K H p ys) ∧ Q (.int ys.length) H
def rLenSt : List V → Hp → VK → Prop := fun xs H Q => ∃ z, xs = [.str z] ∧ z.length ≤ sizeLine ∧ Q (.int z.length) H
def rLen (K : PySem.W.Frag) := rAnyC (rLenSq K) rLenSt
theorem cd_len {X : Cx} : CallR X (.builtin "len") (rLen X.K) := CallR.or call_len_seq call_len_str
theorem rd_len {K : PySem.W.Frag} : RCl K (rLen K) lenD := fun H0 H xs ds φ Q s w t k => by
  unfold lenD at t
  split at t
  · obtain ⟨v, rfl, u1⟩ := w.one
    obtain ⟨p, vs, rfl, hp, r⟩ := u1.list s
    exact .inl ⟨p, vs, rfl, .inl (SqL.of hp), k _ _ H0 H t (Stp.refl s) (by rw [r.length]; exact .int _)⟩
  · obtain ⟨v, rfl, u1⟩ := w.one
    obtain ⟨p, vs, rfl, hp, r, _⟩ := u1.tuple s
    exact .inl ⟨p, vs, rfl, .inr hp, k _ _ H0 H t (Stp.refl s) (by rw [r.length]; exact .int _)⟩
  · obtain ⟨v, rfl, u1⟩ := w.one
    exact .inr ⟨_, by rw [u1.str], t.1, k _ _ H0 H t.2 (Stp.refl s) (.int _)⟩
  · exact t.elim
def absD : List PD → (PD → Prop) → Prop
  | [.int i], φ => φ (.int (if i < 0 then -i else i))
  | _, _ => False
def rAbs : List V → Hp → VK → Prop := fun xs H Q => ∃ i, xs = [.int i] ∧ Q (.int (if i < 0 then -i else i)) H
theorem rd_abs {K : PySem.W.Frag} : RCl K rAbs absD := fun H0 H xs ds φ Q s w t k => by
  unfold absD at t
  split at t
  · obtain ⟨v, rfl, u1⟩ := w.one
    exact ⟨_, by rw [u1.int], k _ _ H0 H t (Stp.refl s) (.int _)⟩
  · exact t.elim
def intD : List PD → (PD → Prop) → Prop
  | [.int i], φ => φ (.int i)
  | [.bool b], φ => φ (.int (if b then 1 else 0))
  | _, _ => False
def rInt1 : List V → Hp → VK → Prop := fun xs H Q => (∃ i, xs = [.int i] ∧ Q (.int i) H) ∨ ∃ k, xs = [.bl k] ∧ Q (.int (if k then 1 else 0)) H
theorem rd_int {K : PySem.W.Frag} : RCl K rInt1 intD := fun H0 H xs ds φ Q s w t k => by
  unfold intD at t
  split at t
  · obtain ⟨v, rfl, u1⟩ := w.one
    exact .inl ⟨_, by rw [u1.int], k _ _ H0 H t (Stp.refl s) (.int _)⟩
  · obtain ⟨v, rfl, u1⟩ := w.one
    exact .inr ⟨_, by rw [u1.bool], k _ _ H0 H t (Stp.refl s) (.int _)⟩
  · exact t.elim
/-- max, min of two ints, of a list of ints -/
def isMaxL (m : Int) (ns : List Int) : Prop := m ∈ ns ∧ ∀ y ∈ ns, y ≤ m
def isMinL (m : Int) (ns : List Int) : Prop := m ∈ ns ∧ ∀ y ∈ ns, m ≤ y
def maxD : List PD → (PD → Prop) → Prop
  | [.int i, .int j], φ => φ (.int (if j > i then j else i))
  | [.list ds], φ => ∃ ns : List Int, ds = ns.map .int ∧ 0 < ns.length ∧ ∀ m, isMaxL m ns → φ (.int m)
  | _, _ => False
def minD : List PD → (PD → Prop) → Prop
  | [.int i, .int j], φ => φ (.int (if j < i then j else i))
  | [.list ds], φ => ∃ ns : List Int, ds = ns.map .int ∧ 0 < ns.length ∧ ∀ m, isMinL m ns → φ (.int m)
  | _, _ => False
def rMax2 : List V → Hp → VK → Prop := fun xs H Q => ∃ i j, xs = [.int i, .int j] ∧ Q (.int (if j > i then j else i)) H
def rMin2 : List V → Hp → VK → Prop := fun xs H Q => ∃ i j, xs = [.int i, .int j] ∧ Q (.int (if j < i then j else i)) H
def rMaxA (K : PySem.W.Frag) := rAnyC rMax2 (rMax K)
def rMinA (K : PySem.W.Frag) := rAnyC rMin2 (rMin K)
theorem cd_max {X : Cx} (hc : X.calm = true) : CallR X (.builtin "max") (rMaxA X.K) := CallR.or (call_max2 hc) (cr_max hc)
theorem cd_min {X : Cx} (hc : X.calm = true) : CallR X (.builtin "min") (rMinA X.K) := CallR.or (call_min2 hc) (cr_min hc)
theorem rd_max {K : PySem.W.Frag} : RCl K (rMaxA K) maxD := fun H0 H xs ds φ Q s w t k => by
  unfold maxD at t
  split at t
  · obtain ⟨v, u, rfl, u1, u2⟩ := w.two
    exact .inl ⟨_, _, by rw [u1.int, u2.int], k _ _ H0 H t (Stp.refl s) (.int _)⟩
  · obtain ⟨v, rfl, u1⟩ := w.one
    obtain ⟨p, vs, rfl, hp, r⟩ := u1.list s
    obtain ⟨ns, rfl, h0, t⟩ := t
    rw [r.ints] at hp
    exact .inr ⟨p, ns, rfl, SqL.of hp, h0, fun m h1 h2 => k _ _ H0 H (t m ⟨h1, h2⟩) (Stp.refl s) (.int _)⟩
  · exact t.elim
theorem rd_min {K : PySem.W.Frag} : RCl K (rMinA K) minD := fun H0 H xs ds φ Q s w t k => by
  unfold minD at t
  split at t
  · obtain ⟨v, u, rfl, u1, u2⟩ := w.two
    exact .inl ⟨_, _, by rw [u1.int, u2.int], k _ _ H0 H t (Stp.refl s) (.int _)⟩
  · obtain ⟨v, rfl, u1⟩ := w.one
    obtain ⟨p, vs, rfl, hp, r⟩ := u1.list s
    obtain ⟨ns, rfl, h0, t⟩ := t
    rw [r.ints] at hp
    exact .inr ⟨p, ns, rfl, SqL.of hp, h0, fun m h1 h2 => k _ _ H0 H (t m ⟨h1, h2⟩) (Stp.refl s) (.int _)⟩
  · exact t.elim
def sumD : List PD → (PD → Prop) → Prop
  | [.list ds], φ => ∃ ns : List Int, ds = ns.map .int ∧ φ (.int ns.sum)
  | _, _ => False
theorem rd_sum {K : PySem.W.Frag} : RCl K (rSum K) sumD := fun H0 H xs ds φ Q s w t k => by
  unfold sumD at t
  split at t
  · obtain ⟨v, rfl, u1⟩ := w.one
    obtain ⟨p, vs, rfl, hp, r⟩ := u1.list s
    obtain ⟨ns, rfl, t⟩ := t
    rw [r.ints] at hp
    exact ⟨p, ns, rfl, SqL.of hp, k _ _ H0 H t (Stp.refl s) (.int _)⟩
  · exact t.elim
def allD : List PD → (PD → Prop) → Prop
  | [.list ds], φ => ∃ bs : List Bool, ds = bs.map .bool ∧ φ (.bool (bs.all id))
  | _, _ => False
def anyD : List PD → (PD → Prop) → Prop
  | [.list ds], φ => ∃ bs : List Bool, ds = bs.map .bool ∧ φ (.bool (bs.any id))
  | _, _ => False
theorem rd_all {K : PySem.W.Frag} : RCl K (rAll K) allD := fun H0 H xs ds φ Q s w t k => by
  unfold allD at t
  split at t
  · obtain ⟨v, rfl, u1⟩ := w.one
    obtain ⟨p, vs, rfl, hp, r⟩ := u1.list s
    obtain ⟨ns, rfl, t⟩ := t
    rw [r.bools] at hp
    exact ⟨p, ns, rfl, SqL.of hp, k _ _ H0 H t (Stp.refl s) (.bl _)⟩
  · exact t.elim
theorem rd_any {K : PySem.W.Frag} : RCl K (rAny K) anyD := fun H0 H xs ds φ Q s w t k => by
  unfold anyD at t
  split at t
  · obtain ⟨v, rfl, u1⟩ := w.one
    obtain ⟨p, vs, rfl, hp, r⟩ := u1.list s
    obtain ⟨ns, rfl, t⟩ := t
    rw [r.bools] at hp
    exact ⟨p, ns, rfl, SqL.of hp, k _ _ H0 H t (Stp.refl s) (.bl _)⟩
  · exact t.elim
/-- tuple(xs), list(xs) -/
def tupleD : List PD → (PD → Prop) → Prop
  | [.list ds], φ => φ (.tuple ds)
  | [.tuple ds], φ => φ (.tuple ds)
  | _, _ => False
def rTupOf (K : PySem.W.Frag) : List V → Hp → VK → Prop := fun xs H Q => ∃ p ys, xs = [.ref p] ∧ ((SqL K H p ys ∧ ∀ l, H l = none → Q (.ref l) (upd H l (.tup ys))) ∨ (SqT K H p ys ∧ Q (.ref p) H))
theorem rd_tuple {K : PySem.W.Frag} : RCl K (rTupOf K) tupleD := fun H0 H xs ds φ Q s w t k => by
  unfold tupleD at t
  split at t
  · obtain ⟨v, rfl, u1⟩ := w.one
    obtain ⟨p, vs, rfl, hp, r⟩ := u1.list s
    refine ⟨p, vs, rfl, .inl ⟨SqL.of hp, fun l hl => ?_⟩⟩
    have st := Stp.mk1 s hl (.tup vs)
    exact k _ _ _ _ t st (.tup (SqT.of upd_same) (r.mono st.s0))
  · obtain ⟨v, rfl, u1⟩ := w.one
    obtain ⟨p, vs, rfl, hp, r, z⟩ := u1.tuple s
    exact ⟨p, vs, rfl, .inr ⟨hp, k _ _ H0 H t (Stp.refl s) z⟩⟩
  · exact t.elim
def listD : List PD → (List PD → Prop) → Prop
  | [.list ds], φ => φ ds
  | [.tuple ds], φ => φ ds
  | _, _ => False
def rListOf (K : PySem.W.Frag) : List V → Hp → VK → Prop := fun xs H Q => ∃ p ys, xs = [.ref p] ∧ (SqL K H p ys ∨ SqT K H p ys) ∧ ∀ l, H l = none → Q (.ref l) (upd H l (.lst ys))
theorem rd_list {K : PySem.W.Frag} : RCl' K (rListOf K) listD := fun H0 H xs ds φ Q s w t k => by
  unfold listD at t
  split at t
  · obtain ⟨v, rfl, u1⟩ := w.one
    obtain ⟨p, vs, rfl, hp, r⟩ := u1.list s
    exact ⟨p, vs, rfl, .inl (SqL.of hp), fun l hl => k _ _ _ t hl r⟩
  · obtain ⟨v, rfl, u1⟩ := w.one
    obtain ⟨p, vs, rfl, hp, r, z⟩ := u1.tuple s
    exact ⟨p, vs, rfl, .inr hp, fun l hl => k _ _ _ t hl r⟩
  · exact t.elim
/-- sorted of ints -/
def sortedD : List PD → (List PD → Prop) → Prop
  | [.list ds], φ => ∃ ns : List Int, ds = ns.map .int ∧ ∀ ns' : List Int, ns'.Perm ns → ns'.Pairwise (· ≤ ·) → φ (ns'.map .int)
  | _, _ => False
theorem rd_sorted {K : PySem.W.Frag} : RCl' K (rSortedI K) sortedD := fun H0 H xs ds φ Q s w t k => by
  unfold sortedD at t
  split at t
  · obtain ⟨v, rfl, u1⟩ := w.one
    obtain ⟨p, vs, rfl, hp, r⟩ := u1.list s
    obtain ⟨ns, rfl, t⟩ := t
    rw [r.ints] at hp
    exact ⟨p, ns, rfl, SqL.of hp, fun ns' l h1 h2 hl => k _ _ _ (t ns' h1 h2) hl (dv_ints _)⟩
  · exact t.elim
/-- gcd -/
def gcdD : List PD → (PD → Prop) → Prop
  | [.int a, .int b], φ => φ (.int ((Nat.gcd a.natAbs b.natAbs : Nat) : Int))
  | _, _ => False
theorem rd_gcd {K : PySem.W.Frag} : RCl K rGcd gcdD := fun H0 H xs ds φ Q s w t k => by
  unfold gcdD at t
  split at t
  · obtain ⟨v, u, rfl, u1, u2⟩ := w.two
    exact ⟨_, _, by rw [u1.int, u2.int], k _ _ H0 H t (Stp.refl s) (.int _)⟩
  · exact t.elim
/-- repr -/
structure ShowOk (d : PD) : Prop where
  s : d.showable = true
  n : d.canLay0 = true
  l : d.shown.length ≤ sizeLine
  d : d.depth ≤ 64
def reprD : List PD → (PD → Prop) → Prop
  | [d], φ => ShowOk d ∧ φ (.str d.shown)
  | _, _ => False
def rRepr (K : PySem.W.Frag) : List V → Hp → VK → Prop := fun xs H Q => ∃ x d, xs = [x] ∧ Dp K H x d ∧ ShowOk d ∧ Q (.str d.shown) H
theorem cd_repr {X : Cx} (hG : X.A.guards = some []) (hu : X.A.units + 70 < cLine) : CallR X (.builtin "repr") (rRepr X.K) := by
  intro pins s σ H xs us Q I r h
  obtain ⟨x, d, rfl, hd, ok, q⟩ := h
  obtain ⟨u, rfl, rx⟩ := vals1 r
  have J : ∀ h' u tk, (∀ b o, s.heap.get? b = some o → h'.get? b = some o) → EP X pins σ Q (.str d.shown u) { s with heap := h', toks := tk } := fun h' u tk hk => ⟨.str d.shown, H, I.kept (t' := tk) hk, ⟨_, rfl⟩, q⟩
  have hsz := ok.l
  cases hd with
  | non => cases rx; exact PySem.P.repr_of_none (J _ _ _ fun _ _ e => e)
  | bl b => cases rx; exact PySem.P.repr_of_bool (J _ _ _ fun _ _ e => e)
  | int i =>
    obtain ⟨t, rfl⟩ := rx
    exact PySem.P.repr_of_int (by simpa [PyData.showable] using ok.s) (J _ _ _ fun _ _ e => e)
  | str x =>
    obtain ⟨t, rfl⟩ := rx
    exact PySem.P.repr_of_str (J _ _ _ fun _ _ e => e) hsz
  | lst h ra =>
    have h2 := Dp.lst h ra
    cases rx
    obtain ⟨as, rd⟩ := Dp.reads I _ _ _ h2 rfl
    have := ok.d
    exact repr_of_reads' rd ok.s (PyData.noDict_hsm (PyData.hasDict_of_canLay _ ok.n)) hG (by omega) (fun _ _ e => e) J hsz
  | tup h ra =>
    have h2 := Dp.tup h ra
    cases rx
    obtain ⟨as, rd⟩ := Dp.reads I _ _ _ h2 rfl
    have := ok.d
    exact repr_of_reads' rd ok.s (PyData.noDict_hsm (PyData.hasDict_of_canLay _ ok.n)) hG (by omega) (fun _ _ e => e) J hsz
theorem rd_repr {K : PySem.W.Frag} : RCl K (rRepr K) reprD := fun H0 H xs ds φ Q s w t k => by
  unfold reprD at t
  split at t
  · obtain ⟨v, rfl, u1⟩ := w.one
    exact ⟨v, _, rfl, u1.dp s t.1.n, t.1, k _ _ H0 H t.2 (Stp.refl s) (.str _)⟩
  · exact t.elim
end DD
set_option Elab.async false
set_option linter.all false
set_option maxRecDepth 100000
set_option maxHeartbeats 2000000
/-! What stands still while an expression is read; statements; loops; comprehensions; calls. -/
namespace DD
open PySem L2 PySem.Spec PyProof.Rows

def OwnedIn (σ : L2.St) (Γ : Env) (b : Addr) : Prop := ∃ i s, Γ[i]? = some s ∧ Owns (ats σ i) b s
open Classical in
noncomputable def nowHe (σ : L2.St) (Γ : Env) (H : Hp) : Hp := fun b => if OwnedIn σ Γ b then none else H b
noncomputable def nowW (σ : L2.St) (Γ : Env) (H0 H : Hp) : Wd := ⟨nowHe σ Γ H, H0, fun _ => False⟩
section
variable {K : PySem.W.Frag} {W : Wd} {σ : L2.St} {H0 H H0' H' : Hp} {Γ : Env}
theorem nowHe_some {b : Addr} {o : HO} (h : nowHe σ Γ H b = some o) : H b = some o ∧ ¬ OwnedIn σ Γ b := by
  unfold nowHe at h
  split at h
  · cases h
  · exact ⟨h, by assumption⟩
theorem nowHe_of {b : Addr} {o : HO} (h : H b = some o) (n : ¬ OwnedIn σ Γ b) : nowHe σ Γ H b = some o := by
  unfold nowHe
  rw [if_neg n]
  exact h
theorem nowHe_own {b : Addr} (n : OwnedIn σ Γ b) : nowHe σ Γ H b = none := by
  unfold nowHe
  rw [if_pos n]
/-- the owned object is there, and is not of those that never change -/
theorem EnvOk.owned (I : EnvOk K W σ H0 H Γ) {b : Addr} (n : OwnedIn σ Γ b) : (∃ o, H b = some o) ∧ Mine W H0 b := by
  obtain ⟨i, s, h, ow⟩ := n
  have q := I.sl i s h
  cases s with
  | un => exact ow.elim
  | va d => exact ow.elim
  | own ds =>
    obtain ⟨p, vs, e, m, r, _⟩ := q
    have ow : ats σ i = some (.ref b) := ow
    rw [ow] at e; cases e
    exact ⟨⟨_, r⟩, m.m⟩
  | dic ds =>
    obtain ⟨p, vs, e, m, r, _⟩ := q
    have ow : ats σ i = some (.ref b) := ow
    rw [ow] at e; cases e
    exact ⟨⟨_, r⟩, m.m⟩
  | dit ds =>
    obtain ⟨p, vs, e, m, r, _⟩ := q
    have ow : ats σ i = some (.ref b) := ow
    rw [ow] at e; cases e
    exact ⟨⟨_, r⟩, m.m⟩
  | src a c =>
    obtain ⟨e, m, n, cs, l, u, t, h1, h2⟩ := q
    rcases ow with rfl | rfl
    · exact ⟨⟨_, h1⟩, m⟩
    · exact ⟨⟨_, h2⟩, n⟩
  | scr ns => exact ow.elim
def isSrc : Sl → Prop
  | .src _ _ => True
  | _ => False
theorem SlOk.world {W W' : Wd} {x : Option V} {s : Sl} (h : SlOk K W H0 H x s) (m : ∀ b, Owns x b s → Mine W' H0 b) (m1 : ∀ b, Owns x b s → ¬ isSrc s → W'.He b = none) : SlOk K W' H0 H x s := by
  cases s with
  | un => trivial
  | va d => exact h
  | own ds => obtain ⟨p, vs, e, n, r⟩ := h; exact ⟨p, vs, e, ⟨n.1, m1 p e fun z => z⟩, r⟩
  | dic ds => obtain ⟨p, vs, e, n, r⟩ := h; exact ⟨p, vs, e, ⟨n.1, m1 p e fun z => z⟩, r⟩
  | dit ds => obtain ⟨p, vs, e, n, r⟩ := h; exact ⟨p, vs, e, ⟨n.1, m1 p e fun z => z⟩, r⟩
  | src a c => obtain ⟨e, _, _, r⟩ := h; exact ⟨e, m a (.inl rfl), m c (.inr rfl), r⟩
  | scr ns => exact h
theorem EnvOk.he (I : EnvOk K W σ H0 H Γ) {i : Nat} {s : Sl} {b : Addr} (h : Γ[i]? = some s) (ow : Owns (ats σ i) b s) (ns : ¬ isSrc s) : W.He b = none := by
  have q := I.sl i s h
  cases s with
  | un => exact ow.elim
  | va d => exact ow.elim
  | own ds => obtain ⟨p, vs, e, m, r, _⟩ := q; have ow : ats σ i = some (.ref b) := ow; rw [ow] at e; cases e; exact m.2
  | dic ds => obtain ⟨p, vs, e, m, r, _⟩ := q; have ow : ats σ i = some (.ref b) := ow; rw [ow] at e; cases e; exact m.2
  | dit ds => obtain ⟨p, vs, e, m, r, _⟩ := q; have ow : ats σ i = some (.ref b) := ow; rw [ow] at e; cases e; exact m.2
  | src a c => exact (ns trivial).elim
  | scr ns => exact ow.elim
theorem EnvOk.now (I : EnvOk K W σ H0 H Γ) : EnvOk K (nowW σ Γ H0 H) σ H0 H Γ where
  ex := I.ex
  exe := fun b o h _ => (nowHe_some h).1
  al := fun b o h => ⟨o, (nowHe_some h).1⟩
  ex00 := Same.refl _
  new := fun b o h => .inl ⟨o, h⟩
  len := I.len
  sl := fun i s h => (I.sl i s h).world (fun b ow => ⟨(I.owned ⟨i, s, h, ow⟩).2.1, .inr (nowHe_own ⟨i, s, h, ow⟩)⟩) fun b ow _ => nowHe_own ⟨i, s, h, ow⟩
  ap := I.ap
theorem EnvOk.back (I : EnvOk K W σ H0 H Γ) (J : EnvOk K (nowW σ Γ H0 H) σ H0' H' Γ) : EnvOk K W σ H0' H' Γ where
  ex := J.ex
  exe := fun b o h n => by
    refine J.exe b o (nowHe_of (I.exe b o h n) fun ow => ?_) (fun z => z)
    rcases (I.owned ow).2.2 with z | z
    · exact n z
    · rw [h] at z; cases z
  al := fun b o h => by
    by_cases ow : OwnedIn σ Γ b
    · exact (J.owned ow).1
    · obtain ⟨u, z⟩ := I.al b o h
      exact J.al b u (nowHe_of z ow)
  ex00 := I.ex00.trans J.ex00
  new := fun b o h => by
    rcases J.new b o h with ⟨o', z⟩ | z
    · exact I.new b o' z
    · cases q : W.He b with
      | none => exact .inr rfl
      | some u =>
        by_cases ow : OwnedIn σ Γ b
        · have := (J.owned ow).2.1
          rw [h] at this; cases this
        · obtain ⟨v, y⟩ := I.al b u q
          have z : nowHe σ Γ H b = none := z
          rw [nowHe_of y ow] at z; cases z
  len := J.len
  sl := fun i s h => (J.sl i s h).world (fun b ow => ⟨(J.owned ⟨i, s, h, ow⟩).2.1, (I.owned ⟨i, s, h, ow⟩).2.2⟩) fun b ow ns => I.he (i := i) h ow ns
  ap := J.ap
theorem EnvOk.kept (J : EnvOk K (nowW σ Γ H0 H) σ H0' H' Γ) : Same H0 H0' ∧ ∀ b o, H b = some o → ¬ OwnedIn σ Γ b → H' b = some o :=
  ⟨J.ex00, fun b o h n => J.exe b o (nowHe_of h n) fun z => z⟩
theorem not_owned_of_none (I : EnvOk K W σ H0 H Γ) {b : Addr} (h : H b = none) : ¬ OwnedIn σ Γ b := fun ow => by
  obtain ⟨o, z⟩ := (I.owned ow).1
  rw [h] at z; cases z

/-! ### the slots -/
theorem ats_set_same {i : Nat} {v : V} (h : i < σ.length) : ats (σ.set i (some v)) i = some v := by
  unfold ats
  rw [List.getElem?_set_self h]
  rfl
theorem ats_set_ne {i j : Nat} {v : Option V} (h : i ≠ j) : ats (σ.set i v) j = ats σ j := by
  unfold ats
  rw [List.getElem?_set_ne h]
theorem EnvOk.put (I : EnvOk K W σ H0 H Γ) {i : Nat} {v : V} {t : Sl} (ht : SlOk K W H0 H (some v) t) (ha : ∀ b, Owns (some v) b t → ∀ j s, j ≠ i → Γ[j]? = some s → Owns (ats σ j) b s → False) :
    EnvOk K W (σ.set i (some v)) H0 H (Γ.set i t) where
  ex := I.ex
  exe := I.exe
  al := I.al
  ex00 := I.ex00
  new := I.new
  len := by rw [List.length_set, List.length_set]; exact I.len
  sl := fun j s h => by
    by_cases e : i = j
    · subst e
      have hl : i < Γ.length := by have := (List.getElem?_eq_some_iff.mp h).1; rw [List.length_set] at this; exact this
      rw [List.getElem?_set_self hl] at h
      cases h
      rw [ats_set_same (by rw [I.len]; exact hl)]
      exact ht
    · rw [List.getElem?_set_ne e] at h
      rw [ats_set_ne e]
      exact I.sl j s h
  ap := fun j k s u b n h1 h2 o1 o2 => by
    by_cases e1 : i = j
    · subst e1
      have hl : i < Γ.length := by have := (List.getElem?_eq_some_iff.mp h1).1; rw [List.length_set] at this; exact this
      rw [List.getElem?_set_self hl] at h1
      cases h1
      rw [List.getElem?_set_ne n] at h2
      rw [ats_set_same (by rw [I.len]; exact hl)] at o1
      rw [ats_set_ne n] at o2
      exact ha b o1 k u (fun z => n z.symm) h2 o2
    · by_cases e2 : i = k
      · subst e2
        have hl : i < Γ.length := by have := (List.getElem?_eq_some_iff.mp h2).1; rw [List.length_set] at this; exact this
        rw [List.getElem?_set_self hl] at h2
        cases h2
        rw [List.getElem?_set_ne e1] at h1
        rw [ats_set_same (by rw [I.len]; exact hl)] at o2
        rw [ats_set_ne e1] at o1
        exact ha b o2 j s n h1 o1
      · rw [List.getElem?_set_ne e1] at h1
        rw [List.getElem?_set_ne e2] at h2
        rw [ats_set_ne e1] at o1
        rw [ats_set_ne e2] at o2
        exact I.ap j k s u b n h1 h2 o1 o2
theorem EnvOk.setv (I : EnvOk K W σ H0 H Γ) {i : Nat} {v : V} {d : PD} (h : Dv K H0 v d) : EnvOk K W (σ.set i (some v)) H0 H (Γ.set i (.va d)) :=
  I.put (t := .va d) ⟨v, rfl, h⟩ fun b o => o.elim
/-- a slot is forgotten -/
theorem EnvOk.drop (I : EnvOk K W σ H0 H Γ) {i : Nat} {x : Option V} : EnvOk K W (σ.set i x) H0 H (Γ.set i .un) where
  ex := I.ex
  exe := I.exe
  al := I.al
  ex00 := I.ex00
  new := I.new
  len := by rw [List.length_set, List.length_set]; exact I.len
  sl := fun j s h => by
    by_cases e : i = j
    · subst e
      have hl : i < Γ.length := by have := (List.getElem?_eq_some_iff.mp h).1; rw [List.length_set] at this; exact this
      rw [List.getElem?_set_self hl] at h
      cases h
      trivial
    · rw [List.getElem?_set_ne e] at h
      rw [ats_set_ne e]
      exact I.sl j s h
  ap := fun j k s u b n h1 h2 o1 o2 => by
    by_cases e1 : i = j
    · subst e1
      have hl : i < Γ.length := by have := (List.getElem?_eq_some_iff.mp h1).1; rw [List.length_set] at this; exact this
      rw [List.getElem?_set_self hl] at h1
      cases h1
      exact o1
    · by_cases e2 : i = k
      · subst e2
        have hl : i < Γ.length := by have := (List.getElem?_eq_some_iff.mp h2).1; rw [List.length_set] at this; exact this
        rw [List.getElem?_set_self hl] at h2
        cases h2
        exact o2
      · rw [List.getElem?_set_ne e1] at h1
        rw [List.getElem?_set_ne e2] at h2
        rw [ats_set_ne e1] at o1
        rw [ats_set_ne e2] at o2
        exact I.ap j k s u b n h1 h2 o1 o2
/-- an object of the def's own is changed: at slot i the list at p -/
theorem EnvOk.change (I : EnvOk K W σ H0 H Γ) {i : Nat} {p : Addr} {s t : Sl} {o : HO} (hs : Γ[i]? = some s) (ow : Owns (ats σ i) p s) (ht : SlOk K W H0 (upd H p o) (ats σ i) t) (hw : ∀ b, Owns (ats σ i) b t → Owns (ats σ i) b s) :
    EnvOk K W σ H0 (upd H p o) (Γ.set i t) := by
  have hl : i < Γ.length := (List.getElem?_eq_some_iff.mp hs).1
  obtain ⟨⟨o0, ho0⟩, m⟩ := I.owned ⟨i, s, hs, ow⟩
  have ne : ∀ b u, H0 b = some u → b ≠ p := fun b u h z => by subst z; rw [m.1] at h; cases h
  refine ⟨fun b u h => by rw [upd_ne (ne b u h)]; exact I.ex b u h, fun b u h n => ?_, I.ex00, fun b u h => ?_, I.new, by rw [List.length_set]; exact I.len, fun j u h => ?_, fun j k u v b n h1 h2 o1 o2 => ?_⟩
  · have : b ≠ p := fun z => by
      subst z
      rcases m.2 with z | z
      · exact n z
      · rw [h] at z; cases z
    rw [upd_ne this]
    exact I.exe b u h n
  · by_cases e : b = p
    · subst e; exact ⟨_, upd_same⟩
    · rw [upd_ne e]; exact I.al b u h
  · by_cases e : i = j
    · subst e
      rw [List.getElem?_set_self hl] at h
      cases h
      exact ht
    · rw [List.getElem?_set_ne e] at h
      have q := I.sl j u h
      have nb : ∀ b, Owns (ats σ j) b u → b ≠ p := fun b ow' z => by
        subst z
        exact I.ap i j s u b e hs h ow ow'
      cases u with
      | un => trivial
      | va d => exact q
      | own ds =>
        obtain ⟨b, vs, e1, m1, r1, d1⟩ := q
        exact ⟨b, vs, e1, m1, by rw [upd_ne (nb b e1)]; exact r1, d1⟩
      | dic ds =>
        obtain ⟨b, vs, e1, m1, r1, d1⟩ := q
        exact ⟨b, vs, e1, m1, by rw [upd_ne (nb b e1)]; exact r1, d1⟩
      | dit ds =>
        obtain ⟨b, vs, e1, m1, r1, d1⟩ := q
        exact ⟨b, vs, e1, m1, by rw [upd_ne (nb b e1)]; exact r1, d1⟩
      | src a c =>
        obtain ⟨e1, m1, m2, cs, l, mm, t, h1, h2⟩ := q
        exact ⟨e1, m1, m2, cs, l, mm, t, by rw [upd_ne (nb a (.inl rfl))]; exact h1, by rw [upd_ne (nb c (.inr rfl))]; exact h2⟩
      | scr ns => exact q
  · by_cases e1 : i = j
    · subst e1
      rw [List.getElem?_set_self hl] at h1
      cases h1
      rw [List.getElem?_set_ne n] at h2
      exact I.ap i k s v b n hs h2 (hw b o1) o2
    · by_cases e2 : i = k
      · subst e2
        rw [List.getElem?_set_self hl] at h2
        cases h2
        rw [List.getElem?_set_ne e1] at h1
        exact I.ap j i u s b n h1 hs o1 (hw b o2)
      · rw [List.getElem?_set_ne e1] at h1
        rw [List.getElem?_set_ne e2] at h2
        exact I.ap j k u v b n h1 h2 o1 o2
/-- a list of the def's own is left as it is from now on -/
theorem EnvOk.freeze (I : EnvOk K W σ H0 H Γ) {i : Nat} {ds : List PD} (hs : Γ[i]? = some (.own ds)) : ∃ H0', EnvOk K W σ H0' H (Γ.set i (.va (.list ds))) ∧ Same H0 H0' := by
  obtain ⟨p, vs, e, m, r, dv⟩ := I.sl i _ hs
  have hl : i < Γ.length := (List.getElem?_eq_some_iff.mp hs).1
  have s0 : Same H0 (upd H0 p (.lst vs)) := same_new m.1 _
  have nb : ∀ j u, i ≠ j → Γ[j]? = some u → ∀ b, Owns (ats σ j) b u → b ≠ p := fun j u ne h b ow' z => by
    subst z
    exact I.ap i j _ u b ne hs h e ow'
  refine ⟨upd H0 p (.lst vs), ⟨fun b u h => ?_, I.exe, I.ex00.trans s0, I.al, fun b u h => ?_, by rw [List.length_set]; exact I.len, fun j u h => ?_, fun j k u v b n h1 h2 o1 o2 => ?_⟩, s0⟩
  · by_cases q : b = p
    · subst q; rw [upd_same] at h; cases h; exact r
    · rw [upd_ne q] at h; exact I.ex b u h
  · by_cases q : b = p
    · subst q; exact .inr m.2
    · rw [upd_ne q] at h; exact I.new b u h
  · by_cases q : i = j
    · subst q
      rw [List.getElem?_set_self hl] at h
      cases h
      exact ⟨_, e, .lst upd_same (dv.mono s0)⟩
    · rw [List.getElem?_set_ne q] at h
      have z := I.sl j u h
      have nb := nb j u q h
      cases u with
      | un => trivial
      | va d => obtain ⟨v, e1, d1⟩ := z; exact ⟨v, e1, d1.mono s0⟩
      | own ds => obtain ⟨b, vs, e1, m1, r1, d1⟩ := z; exact ⟨b, vs, e1, ⟨by rw [upd_ne (nb b e1)]; exact m1.1, m1.2⟩, r1, d1.mono s0⟩
      | dic ds => obtain ⟨b, vs, e1, m1, r1, k1, d1⟩ := z; exact ⟨b, vs, e1, ⟨by rw [upd_ne (nb b e1)]; exact m1.1, m1.2⟩, r1, k1, d1.mono s0⟩
      | dit ds => obtain ⟨b, vs, e1, m1, r1, k1, d1⟩ := z; exact ⟨b, vs, e1, ⟨by rw [upd_ne (nb b e1)]; exact m1.1, m1.2⟩, r1, k1, d1.mono s0⟩
      | src a c => obtain ⟨e1, m1, m2, q1⟩ := z; exact ⟨e1, ⟨by rw [upd_ne (nb a (.inl rfl))]; exact m1.1, m1.2⟩, ⟨by rw [upd_ne (nb c (.inr rfl))]; exact m2.1, m2.2⟩, q1⟩
      | scr ns => obtain ⟨a, e1, q1⟩ := z; exact ⟨a, e1, s0.seq q1⟩
  · by_cases e1 : i = j
    · subst e1
      rw [List.getElem?_set_self hl] at h1
      cases h1
      exact o1
    · by_cases e2 : i = k
      · subst e2
        rw [List.getElem?_set_self hl] at h2
        cases h2
        exact o2
      · rw [List.getElem?_set_ne e1] at h1
        rw [List.getElem?_set_ne e2] at h2
        exact I.ap j k u v b n h1 h2 o1 o2
end
end DD
set_option Elab.async false
set_option linter.all false
set_option maxRecDepth 100000
set_option maxHeartbeats 2000000
/-! Statements. -/
namespace DD
open PySem L2 PySem.Spec PyProof.Rows

section
variable {X : Cx} {K : PySem.W.Frag} {e : Expr} {te : TE} {td : TD} {pos : Pos}
/-! ### targets -/
def uName (i : Nat) : TGD := fun d Γ φ => φ (Γ.set i (.va d))
def uTup (n : Nat) (t : TGsD) : TGD := fun d Γ φ => match d with
  | .tuple ds => ds.length = n ∧ t ds Γ φ
  | _ => False
def uNil : TGsD := fun ds Γ φ => match ds with
  | [] => φ Γ
  | _ => False
def uCons (t : TGD) (u : TGsD) : TGsD := fun ds Γ φ => match ds with
  | d :: r => t d Γ fun Γ' => u r Γ' φ
  | [] => False
theorem OnlyAt.set {ts : List Nat} {σ : L2.St} {Γ : Env} {i : Nat} {v : Option V} {s : Sl} (h : i ∈ ts) : OnlyAt ts σ (σ.set i v) Γ (Γ.set i s) :=
  ⟨fun j n => List.getElem?_set_ne fun z => n (by rw [← z]; exact h), fun j n => List.getElem?_set_ne fun z => n (by rw [← z]; exact h), by rw [List.length_set], by rw [List.length_set]⟩
theorem OnlyAt.trans {ts : List Nat} {σ σ1 σ2 : L2.St} {Γ Γ1 Γ2 : Env} (a : OnlyAt ts σ σ1 Γ Γ1) (b : OnlyAt ts σ1 σ2 Γ1 Γ2) : OnlyAt ts σ σ2 Γ Γ2 :=
  ⟨fun j n => (b.s j n).trans (a.s j n), fun j n => (b.g j n).trans (a.g j n), b.l.trans a.l, b.m.trans a.m⟩
theorem rg_name {ts : List Nat} (i : Nat) (h : i ∈ ts) : RG K ts (gName i) (uName i) := fun W σ H0 H Γ d v φ Q I dv t k => k _ _ t (I.setv dv) (OnlyAt.set h)
theorem rg_tup {ts : List Nat} {n : Nat} {g : TGs} {u : TGsD} (h : RGs K ts g u) : RG K ts (gTup K n g) (uTup n u) := fun W σ H0 H Γ d v φ Q I dv t k => by
  unfold uTup at t
  split at t
  · cases dv with
    | tup hs r =>
      exact ⟨_, _, rfl, sqT_mono I.ex hs, by rw [r.length]; exact t.1, h W σ H0 H Γ _ _ φ Q I r t.2 k⟩
  · exact t.elim
theorem rgs_nil {ts : List Nat} : RGs K ts gNil uNil := fun W σ H0 H Γ ds vs φ Q I dv t k => by
  unfold uNil at t
  split at t
  · cases dv
    exact ⟨rfl, k _ _ t I (OnlyAt.refl _ _ _)⟩
  · exact t.elim
theorem rgs_cons {ts : List Nat} {g : TG} {gs : TGs} {u : TGD} {us : TGsD} (h : RG K ts g u) (hs : RGs K ts gs us) : RGs K ts (gCons g gs) (uCons u us) := fun W σ H0 H Γ ds vs φ Q I dv t k => by
  unfold uCons at t
  split at t
  · cases dv with
    | cons d1 d2 =>
      refine ⟨_, _, rfl, h W σ H0 H Γ _ _ _ _ I d1 t fun σ1 Γ1 t1 I1 o1 => ?_⟩
      exact hs W σ1 H0 H Γ1 _ _ φ Q I1 d2 t1 fun σ2 Γ2 t2 I2 o2 => k _ _ t2 I2 (o1.trans o2)
  · exact t.elim
theorem dg_name {ts : List Nat} {i : Nat} {x : Str} (hN : X.N.Nodup) (hi : X.N[i]? = some x) (hx : Loc X.env.scope x) (hf : X.fn x = true ∨ X.env.scope.names.lookup x = some .local) (h : i ∈ ts := by decide) : DG X (.Name x pos) ts (gName i) (uName i) :=
  ⟨pg_name hN hi hx hf, rg_name i h⟩
theorem dg_tup {ts : List Nat} {es : List Expr} {k : Nat} {t : TGs} {u : TGsD} {n : Nat} (hc : X.calm = true) (h : DGs X es ts t u)
    (hn : (assignEach es X.env).length = n := by rfl) (hst : (assignEach es X.env).findIdx? (·.1) = none := by rfl) : DG X (.Tuple es k pos) ts (gTup X.K n t) (uTup n u) := ⟨pg_tup hc h.pe hn hst, rg_tup h.re⟩
theorem dgs_nil {ts : List Nat} : DGs X [] ts gNil uNil := ⟨pgs_nil, rgs_nil⟩
theorem dgs_cons {ts : List Nat} {e : Expr} {es : List Expr} {t : TG} {u : TGs} {td : TGD} {ud : TGsD} (h1 : DG X e ts t td) (h2 : DGs X es ts u ud)
    (hs : (assignEach (e :: es) X.env).map (·.2) = assign e X.env :: (assignEach es X.env).map (·.2) := by rfl) : DGs X (e :: es) ts (gCons t u) (uCons td ud) := ⟨pgs_cons h1.pe h2.pe hs, rgs_cons h1.re h2.re⟩

/-! ### small statements -/
def sAsg (td : TD) (gd : TGD) : TSD := fun E Γ => td Γ fun d => gd d Γ E.nx
def sOwn (i : Nat) (tl : TAD) : TSD := fun E Γ => tl Γ fun ds => E.nx (Γ.set i (.own ds))
def sDrop (td : TD) : TSD := fun E Γ => td Γ fun _ => E.nx Γ
def sRet (td : TD) : TSD := fun E Γ => td Γ fun d => E.rt d Γ
def sRetV (i : Nat) : TSD := fun E Γ => match sget Γ i with
  | .va d => E.rt d Γ
  | .own ds => E.rt (.list ds) (Γ.set i (.va (.list ds)))
  | _ => False
def sRetN : TSD := fun E Γ => E.rt .none Γ
def sNext : TSD := fun E Γ => E.nx Γ
def sBreak : TSD := fun E Γ => E.bk Γ
def sCont : TSD := fun E Γ => E.ct Γ
def sSeq (t u : TSD) : TSD := fun E Γ => t { E with nx := u E } Γ
def sIf (c : TTD) (t u : TSD) : TSD := fun E Γ => c Γ fun b => if b = true then t E Γ else u E Γ
/-- from here on a list of the def's own is a value -/
def sFrz (i : Nat) (t : TSD) : TSD := fun E Γ => match sget Γ i with
  | .own ds => t E (Γ.set i (.va (.list ds)))
  | _ => t E Γ
/-- from here on a slot is not asked for -/
def sForget (i : Nat) (t : TSD) : TSD := fun E Γ => t E (Γ.set i .un)
theorem rs_asg {ts : List Nat} {g : TG} {gd : TGD} (h : RE K te td) (hg : RG K ts g gd) : RS K (tAsg te g) (sAsg td gd) := fun W σ H0 H Γ E D I t k => by
  refine h W σ H0 H Γ _ _ I t fun d v H1 G1 t1 I1 s1 dv => ?_
  exact hg W σ H1 G1 Γ d v E.nx D.nx I1 dv t1 fun σ' Γ' n I2 _ => k.nx _ _ _ _ I2 n
theorem rs_own {i : Nat} {tl : TAD} (h : RL K te tl) : RS K (tAsg te (gName i)) (sOwn i tl) := fun W σ H0 H Γ E D I t k => by
  refine h W σ H0 H Γ _ _ I t fun ds p vs H1 G1 t1 I1 s1 m ap hp dv => ?_
  refine k.nx _ _ _ _ (I1.put (t := .own ds) ⟨p, vs, rfl, m, hp, dv⟩ fun b o j s n hs ow => ?_) t1
  have o : some (V.ref p) = some (V.ref b) := o
  cases o
  exact ap j s _ hs ow rfl
theorem rs_drop (h : RE K te td) : RS K (tDrop te) (sDrop td) := fun W σ H0 H Γ E D I t k => h W σ H0 H Γ _ _ I t fun d v H1 G1 t1 I1 s1 dv => k.nx _ _ _ _ I1 t1
theorem rs_ret (h : RE K te td) : RS K (tRet te) (sRet td) := fun W σ H0 H Γ E D I t k => h W σ H0 H Γ _ _ I t fun d v H1 G1 t1 I1 s1 dv => k.rt _ _ _ _ _ _ I1 dv t1
theorem rs_retV (i : Nat) : RS K (tRet (tVar i)) (sRetV i) := fun W σ H0 H Γ E D I t k => by
  unfold sRetV at t
  split at t
  · rename_i d h
    obtain ⟨v, e, q⟩ := I.sl i _ (sget_some h (by intro z; cases z))
    exact ⟨v, ats_of e, k.rt _ _ _ _ _ _ I q t⟩
  · rename_i ds h
    have hs := sget_some h (by intro z; cases z)
    obtain ⟨H0', J, s0⟩ := I.freeze hs
    have hl : i < Γ.length := (List.getElem?_eq_some_iff.mp hs).1
    obtain ⟨v, e, q⟩ := J.sl i _ (List.getElem?_set_self hl)
    exact ⟨v, ats_of e, k.rt _ _ _ _ _ _ J q t⟩
  · exact t.elim
theorem rs_retN : RS K tRetN sRetN := fun W σ H0 H Γ E D I t k => k.rt _ _ _ _ _ _ I .non t
theorem rs_next : RS K tNext sNext := fun W σ H0 H Γ E D I t k => k.nx _ _ _ _ I t
theorem rs_break : RS K tBreak sBreak := fun W σ H0 H Γ E D I t k => k.bk _ _ _ _ I t
theorem rs_cont : RS K tCont sCont := fun W σ H0 H Γ E D I t k => k.ct _ _ _ _ I t
theorem rs_seq {t u : TS} {td ud : TSD} (h1 : RS K t td) (h2 : RS K u ud) : RS K (tSeq t u) (sSeq td ud) := fun W σ H0 H Γ E D I q k =>
  h1 W σ H0 H Γ _ _ I q ⟨fun σ' H0' H' Γ' I' n => h2 W σ' H0' H' Γ' E D I' n k, k.rt, k.bk, k.ct⟩
theorem rs_if {c : TT} {cd : TTD} {t u : TS} {td ud : TSD} (hc : RT K c cd) (h1 : RS K t td) (h2 : RS K u ud) : RS K (tIfS c t u) (sIf cd td ud) := fun W σ H0 H Γ E D I q k => by
  refine hc W σ H0 H Γ _ _ I q fun b H1 G1 t1 I1 s1 => ?_
  cases b with
  | true => exact h1 W σ H1 G1 Γ E D I1 t1 k
  | false => exact h2 W σ H1 G1 Γ E D I1 t1 k
theorem rs_frz {t : TS} {td : TSD} (i : Nat) (h : RS K t td) : RS K t (sFrz i td) := fun W σ H0 H Γ E D I q k => by
  unfold sFrz at q
  split at q
  · rename_i ds z
    obtain ⟨H0', J, _⟩ := I.freeze (sget_some z (by intro z; cases z))
    exact h W σ H0' H _ E D J q k
  · exact h W σ H0 H Γ E D I q k
theorem set_ats {σ : L2.St} {i : Nat} : σ.set i (σ[i]?.getD none) = σ := by
  apply List.ext_getElem?
  intro j
  by_cases h : i = j
  · subst h
    by_cases hl : i < σ.length
    · rw [List.getElem?_set_self hl, List.getElem?_eq_getElem hl]; rfl
    · rw [List.getElem?_eq_none (by rw [List.length_set]; omega), List.getElem?_eq_none (by omega)]
  · rw [List.getElem?_set_ne h]
theorem rs_forget {t : TS} {td : TSD} (i : Nat) (h : RS K t td) : RS K t (sForget i td) := fun W σ H0 H Γ E D I q k => by
  have J := I.drop (i := i) (x := σ[i]?.getD none)
  rw [set_ats] at J
  exact h W σ H0 H _ E D J q k
/-! ### while -/
def sWhile (c : TTD) (b : TSD) : TSD := fun E Γ => ∃ Inv : Nat → Env → Prop, (∃ m, Inv m Γ) ∧ ∀ m Γ', Inv m Γ' →
  c Γ' fun k => if k = true then b { nx := fun Γ2 => ∃ m', m' < m ∧ Inv m' Γ2, ct := fun Γ2 => ∃ m', m' < m ∧ Inv m' Γ2, bk := E.nx, rt := E.rt } Γ' else E.nx Γ'
theorem rs_while {c : TT} {cd : TTD} {t : TS} {td : TSD} (hc : RT K c cd) (h : RS K t td) : RS K (tWhile c t) (sWhile cd td) := fun W σ H0 H Γ E D I q k => by
  obtain ⟨Inv, ⟨m0, i0⟩, turn⟩ := q
  refine ⟨fun m σ' H' => ∃ H0' Γ', EnvOk K W σ' H0' H' Γ' ∧ Inv m Γ', ⟨m0, H0, Γ, I, i0⟩, ?_⟩
  rintro m σ1 G1 ⟨H1, Γ1, I1, i1⟩
  refine hc W σ1 H1 G1 Γ1 _ _ I1 (turn m Γ1 i1) fun b H2 G2 t2 I2 s2 => ?_
  cases b with
  | true =>
    refine ⟨fun σ' H' => ∃ H0' Γ', EnvOk K W σ' H0' H' Γ' ∧ ∃ m', m' < m ∧ Inv m' Γ', fun σ' H' ⟨H0', Γ', J, m', lt, iv⟩ => ⟨m', lt, H0', Γ', J, iv⟩, ?_⟩
    exact h W σ1 H2 G2 Γ1 _ _ I2 t2 ⟨fun σ' A B Γ' J n => ⟨A, Γ', J, n⟩, k.rt, k.nx, fun σ' A B Γ' J n => ⟨A, Γ', J, n⟩⟩
  | false => exact k.nx _ _ _ _ I2 t2
/-! ### for -/
def forL (gd : TGD) (b : TSD) (E : EndsD) : List PD → Env → Prop
  | [], Γ => E.nx Γ
  | d :: ds, Γ => gd d Γ fun Γ1 => b { nx := forL gd b E ds, ct := forL gd b E ds, bk := E.nx, rt := E.rt } Γ1
def sFor (ti : TAD) (gd : TGD) (b : TSD) : TSD := fun E Γ => ti Γ fun ds => forL gd b E ds Γ
theorem EnvOk.rebase {W : Wd} {σ : L2.St} {H0 H : Hp} {Γ : Env} (I : EnvOk K W σ H0 H Γ) : EnvOk K ⟨W.He, H0, W.T⟩ σ H0 H Γ :=
  ⟨I.ex, I.exe, Same.refl _, I.al, fun b o h => .inl ⟨o, h⟩, I.len, I.sl, I.ap⟩
theorem EnvOk.unbase {W : Wd} {σ σ' : L2.St} {H0 H H0' H' : Hp} {Γ Γ' : Env} (I : EnvOk K W σ H0 H Γ) (J : EnvOk K ⟨W.He, H0, W.T⟩ σ' H0' H' Γ') : EnvOk K W σ' H0' H' Γ' :=
  ⟨J.ex, J.exe, I.ex00.trans J.ex00, J.al, fun b o h => (J.new b o h).elim (fun ⟨o', z⟩ => I.new b o' z) .inr, J.len, J.sl, J.ap⟩
theorem rs_for {ts : List Nat} {ti : TI} {tid : TAD} {g : TG} {gd : TGD} {t : TS} {td : TSD} (hi : RI K ti tid) (hg : RG K ts g gd) (h : RS K t td) : RS K (tFor ti g t) (sFor tid gd td) := fun W σ H0 H Γ E D I q k => by
  refine hi W σ H0 H Γ _ _ I q fun ds J Hs G1 t1 I1 s1 it => ?_
  have IT := it ⟨W.He, Hs, W.T⟩
  refine ⟨fun i m σ' H' => m = ds.length - i ∧ i ≤ ds.length ∧ ∃ H0' Γ', EnvOk K ⟨W.He, Hs, W.T⟩ σ' H0' H' Γ' ∧ forL gd td E (ds.drop i) Γ', ⟨ds.length, by omega, Nat.zero_le _, Hs, Γ, I1.rebase, t1⟩, ?_⟩
  rintro i m σ2 G2 ⟨rfl, hle, H2, Γ2, I2, t2⟩
  by_cases hlt : i < ds.length
  · refine .inr ⟨IT.go i σ2 H2 G2 Γ2 hlt I2 I2.ex00, fun σ' H' => ∃ H0' Γ', EnvOk K ⟨W.He, Hs, W.T⟩ σ' H0' H' Γ' ∧ forL gd td E (ds.drop (i + 1)) Γ',
      fun σ' H' z => ⟨ds.length - (i + 1), by omega, rfl, hlt, z⟩, fun x G3 y => ?_⟩
    obtain ⟨H3, d, I3, s3, _, hd, dv⟩ := IT.yld i σ2 H2 G2 Γ2 x G3 I2 I2.ex00 hlt y
    rw [List.drop_eq_getElem_cons hlt] at t2
    have ed : ds[i] = d := Option.some.inj ((List.getElem?_eq_getElem hlt).symm.trans hd)
    rw [ed] at t2
    refine hg _ σ2 H3 G3 Γ2 d x _ _ I3 dv t2 fun σ4 Γ4 t4 I4 _ => ?_
    exact h _ σ4 H3 G3 Γ4 _ _ I4 t4 ⟨fun σ' A B Γ' J' n => ⟨A, Γ', J', n⟩, fun σ' A B Γ' d v J' dv n => k.rt _ _ _ _ _ _ (I1.unbase J') dv n, fun σ' A B Γ' J' n => k.nx _ _ _ _ (I1.unbase J') n, fun σ' A B Γ' J' n => ⟨A, Γ', J', n⟩⟩
  · have e : i = ds.length := by omega
    subst e
    rw [List.drop_length] at t2
    exact .inl ⟨IT.stop σ2 H2 G2 Γ2 I2 I2.ex00, k.nx _ _ _ _ (I1.unbase I2) t2⟩
/-! ### the forms -/
theorem ds_set {i : Nat} {x : Str} {pos' : Pos} (hN : X.N.Nodup) (hi : X.N[i]? = some x) (hx : Loc X.env.scope x) (he : DE X e te td) (hf : X.fn x = true ∨ X.env.scope.names.lookup x = some .local) (hs : swapsWith e (some (.Name x pos')) pos.line X.env = pure false := by rfl) :
    DS X (.Assign [.Name x pos'] e pos) (tAsg te (gName i)) (sAsg td (uName i)) := ⟨ps_set hN hi hx he.pe hs hf, rs_asg he.re (rg_name (ts := [i]) i (List.mem_cons_self ..))⟩
theorem ds_setL {i : Nat} {x : Str} {pos' : Pos} {tl : TAD} (hN : X.N.Nodup) (hi : X.N[i]? = some x) (hx : Loc X.env.scope x) (he : DL X e te tl) (hf : X.fn x = true ∨ X.env.scope.names.lookup x = some .local) (hs : swapsWith e (some (.Name x pos')) pos.line X.env = pure false := by rfl) :
    DS X (.Assign [.Name x pos'] e pos) (tAsg te (gName i)) (sOwn i tl) := ⟨ps_set hN hi hx he.pe hs hf, rs_own he.re⟩
theorem ds_asg {ts : List Nat} {tg : Expr} {g : TG} {gd : TGD} (he : DE X e te td) (hg : DG X tg ts g gd) (hs : swapsWithSole [tg] e pos.line X.env = pure false := by rfl) (hw : swappedStores [tg] e X.env = pure none := by rfl)
    (h1 : (assignEach [tg] X.env).map (·.2) = [assign tg X.env] := by rfl) : DS X (.Assign [tg] e pos) (tAsg te g) (sAsg td gd) := ⟨ps_asg he.pe hg.pe hs hw h1, rs_asg he.re hg.re⟩
theorem ds_expr (he : DE X e te td) (hs : swapsWith e none pos.line X.env = pure false := by rfl) : DS X (.Expr e pos) (tDrop te) (sDrop td) := ⟨ps_expr he.pe hs, rs_drop he.re⟩
theorem ds_ret (he : DE X e te td) : DS X (.Return (some e) pos) (tRet te) (sRet td) := ⟨ps_ret he.pe, rs_ret he.re⟩
theorem ds_retV (i : Nat) {x : Str} {p : Pos} (hN : X.N[i]? = some x := by rfl) (hv : Vis X.env.scope x := by first | exact Or.inl rfl | exact Or.inr (Or.inl rfl) | exact Or.inr (Or.inr rfl)) (hd : (x == ("__debug__" : Str)) = false := by decide)
    (hcd : (x == ("__classdict__" : Str)) = false := by decide) : DS X (.Return (some (.Name x p)) pos) (tRet (tVar i)) (sRetV i) := ⟨ps_ret (pe_var hN hv hd hcd), rs_retV i⟩
theorem ds_retN : DS X (.Return none pos) tRetN sRetN := ⟨ps_retN, rs_retN⟩
theorem ds_pass : DS X (.Pass pos) tNext sNext := ⟨ps_pass, rs_next⟩
theorem ds_break : DS X (.Break pos) tBreak sBreak := ⟨ps_break, rs_break⟩
theorem ds_cont : DS X (.Continue pos) tCont sCont := ⟨ps_continue, rs_cont⟩
theorem ds_if {c : Expr} {a b : List Stmt} {tc : TT} {cd : TTD} {t u : TS} {ad bd : TSD} (hc : DT X c tc cd) (ha : DSs X a t ad) (hb : DSs X b u bd) : DS X (.If c a b pos) (tIfS tc t u) (sIf cd ad bd) := ⟨ps_if hc.pe ha.pe hb.pe, rs_if hc.re ha.re hb.re⟩
theorem ds_while {c : Expr} {body : List Stmt} {tc : TT} {cd : TTD} {t : TS} {bd : TSD} (hp : PassesOwn (model X.prog X.w) X.A X.env X.xe) (hc : DT X c tc cd) (hb : DSs X body t bd) : DS X (.While c body [] pos) (tWhile tc t) (sWhile cd bd) := ⟨ps_while hp hc.pe hb.pe, rs_while hc.re hb.re⟩
theorem ds_for {ts : List Nat} {iter tg : Expr} {body : List Stmt} {wi : TI} {wd : TAD} {g : TG} {gd : TGD} {t : TS} {bd : TSD} (hp : PassesOwn (model X.prog X.w) X.A X.env X.xe) (hc : X.calm = true) (hi : DI X tg iter wi wd) (hg : DG X tg ts g gd) (hb : DSs X body t bd)
    (hs : ∀ x, foldedSetIterable iter X.env x = pure x := by intro _; rfl) : DS X (.For tg iter body [] pos) (tFor wi g t) (sFor wd gd bd) := ⟨ps_for hp hc hi.pe hg.pe hb.pe hs, rs_for hi.re hg.re hb.re⟩
theorem dss_nil : DSs X [] tNext sNext := ⟨pss_nil, rs_next⟩
theorem dss_one {s : Stmt} {t : TS} {td : TSD} (h : DS X s t td) : DSs X [s] t td := ⟨pss_one h.pe, h.re⟩
theorem dss_cons {s : Stmt} {r : List Stmt} {t u : TS} {td ud : TSD} (h : DS X s t td) (h2 : DSs X r u ud) : DSs X (s :: r) (tSeq t u) (sSeq td ud) := ⟨pss_cons h.pe h2.pe, rs_seq h.re h2.re⟩
theorem dss_frz {r : List Stmt} {t : TS} {td : TSD} (i : Nat) (h : DSs X r t td) : DSs X r t (sFrz i td) := ⟨h.pe, rs_frz i h.re⟩
theorem dss_forget {r : List Stmt} {t : TS} {td : TSD} (i : Nat) (h : DSs X r t td) : DSs X r t (sForget i td) := ⟨h.pe, rs_forget i h.re⟩
end
end DD
set_option Elab.async false
set_option linter.all false
set_option maxRecDepth 100000
set_option maxHeartbeats 2000000
/-! What is walked; comprehensions; lists of the def's own; calls; a def's promise. -/
namespace DD
open PySem L2 PySem.Spec PyProof.Rows

section
variable {X : Cx} {K : PySem.W.Frag} {e : Expr} {te : TE} {td : TD} {pos : Pos} {tg : Expr}
/-! ### iterables -/
def iAny (K : PySem.W.Frag) (tl : TE) : TI := fun σ H R => tl σ H fun x H1 =>
  (∃ a, x = .ref a ∧ (∃ xs, SqL K H1 a xs) ∧ R (Itl K a) H1) ∨ (∃ a, x = .ref a ∧ (∃ xs, SqT K H1 a xs) ∧ R (Itt K a) H1) ∨ ∃ z, x = .str z ∧ R (Its z) H1
theorem pi_any {l : Expr} {tl : TE} (hl : PE X l tl) : PI X tg l (iAny X.K tl) := by
  refine ⟨fun pins s σ H R I h => thn (hl.run pins s σ H _ I h) fun v s1 ⟨x, H1, I1, r1, q1⟩ => ?_⟩
  rcases q1 with ⟨a, rfl, ⟨xs, hq⟩, q⟩ | ⟨a, rfl, ⟨xs, hq⟩, q⟩ | ⟨z, rfl, q⟩
  · cases r1
    obtain ⟨its, rv, p, hz⟩ := I1.list hq
    exact wpAny_pyIter_list p.isList (pi_one (tk := s1.toks) I1 _ (turn_list a _) ⟨_, Heap.get?_push_size _ rfl, rfl, rfl⟩ q)
  · cases r1
    obtain ⟨its, rv, p, hz⟩ := I1.tuple hq
    exact wpAny_pyIter_tuple (show s1.heap.IsTuple a its.toArray from p) (pi_one (tk := s1.toks) I1 _ (turn_tuple a _) ⟨_, Heap.get?_push_size _ rfl, rfl, rfl⟩ q)
  · obtain ⟨t, rfl⟩ := r1
    cases ha : z.cps.all (· < 128)
    · exact wpAny_pyIter_wide ha (pi_one (tk := s1.toks) I1 _ (turn_str _ z t "str_iterator" (.inr rfl)) ⟨_, Heap.get?_push_size _ rfl, rfl, rfl⟩ q)
    · exact wpAny_pyIter_ascii ha (pi_one (tk := s1.toks) I1 _ (turn_str _ z t "str_ascii_iterator" (.inl rfl)) ⟨_, Heap.get?_push_size _ rfl, rfl, rfl⟩ q)
/-- the items of what is walked -/
def charsD (z : Str) : List PD := z.cps.toList.map fun c => .str ⟨#[c]⟩
def wAny (td : TD) : TAD := fun Γ φ => td Γ fun d => match d with
  | .list ds => φ ds
  | .tuple ds => φ ds
  | .str z => φ (charsD z)
  | _ => False
theorem itd_list {W : Wd} {H0s : Hp} {a : Addr} {vs : List V} {ds : List PD} (h : H0s a = some (.lst vs)) (r : DvAll K H0s vs ds) : ItD K W (Itl K a) ds H0s where
  go := fun i σ H0 H Γ hi I s => ⟨vs, vs[i]'(by rw [r.length]; exact hi), SqL.of (I.ex _ _ (s _ _ h)), List.getElem?_eq_getElem _⟩
  stop := fun σ H0 H Γ I s => ⟨vs, SqL.of (I.ex _ _ (s _ _ h)), by rw [r.length]; exact Nat.le_refl _⟩
  yld := fun i σ H0 H Γ x H' I s hi y => by
    obtain ⟨rfl, y⟩ := y
    have := y vs (SqL.of (I.ex _ _ (s _ _ h)))
    obtain ⟨d, hd, dv⟩ := r.get this
    exact ⟨H0, d, I, Same.refl _, Stp.refl I.ex, hd, dv.mono s⟩
theorem itd_tup {W : Wd} {H0s : Hp} {a : Addr} {vs : List V} {ds : List PD} (h : SqT K H0s a vs) (r : DvAll K H0s vs ds) : ItD K W (Itt K a) ds H0s where
  go := fun i σ H0 H Γ hi I s => ⟨vs, vs[i]'(by rw [r.length]; exact hi), sqT_mono (s.trans I.ex) h, List.getElem?_eq_getElem _⟩
  stop := fun σ H0 H Γ I s => ⟨vs, sqT_mono (s.trans I.ex) h, by rw [r.length]; exact Nat.le_refl _⟩
  yld := fun i σ H0 H Γ x H' I s hi y => by
    obtain ⟨rfl, y⟩ := y
    have := y vs (sqT_mono (s.trans I.ex) h)
    obtain ⟨d, hd, dv⟩ := r.get this
    exact ⟨H0, d, I, Same.refl _, Stp.refl I.ex, hd, dv.mono s⟩
theorem itd_str {W : Wd} {H0s : Hp} {z : Str} : ItD K W (Its z) (charsD z) H0s where
  go := fun i σ H0 H Γ hi I s => by have hi : i < z.cps.toList.length := by simpa [charsD] using hi
                                    exact (show i < z.cps.size by simpa using hi)
  stop := fun σ H0 H Γ I s => (show z.cps.size ≤ (charsD z).length by simp [charsD])
  yld := fun i σ H0 H Γ x H' I s hi y => by
    obtain ⟨rfl, c, hc, rfl⟩ := y
    refine ⟨H0, .str ⟨#[c]⟩, I, Same.refl _, Stp.refl I.ex, ?_, .str _⟩
    unfold charsD
    rw [List.getElem?_map, Array.getElem?_toList, hc]
    rfl
theorem ri_any (h : RE K te td) : RI K (iAny K te) (wAny td) := fun W σ H0 H Γ φ R I t k => by
  refine h W σ H0 H Γ _ _ I t fun d v H1 G1 t1 I1 s1 dv => ?_
  cases d with
  | list ds =>
    cases dv with
    | lst q r => exact .inl ⟨_, rfl, ⟨_, SqL.of (I1.ex _ _ q)⟩, k ds _ H1 G1 t1 I1 s1 fun W' => itd_list q r⟩
  | tuple ds =>
    cases dv with
    | tup q r => exact .inr (.inl ⟨_, rfl, ⟨_, sqT_mono I1.ex q⟩, k ds _ H1 G1 t1 I1 s1 fun W' => itd_tup q r⟩)
  | str z =>
    cases dv
    exact .inr (.inr ⟨z, rfl, k _ _ H1 G1 t1 I1 s1 fun W' => itd_str⟩)
  | _ => exact t1.elim
theorem di_any (h : DE X e te td) : DI X tg e (iAny X.K te) (wAny td) := ⟨pi_any h.pe, ri_any h.re⟩
/-- range -/
def rangeD (lo : Int) (n : Nat) : List PD := (List.range n).map fun i => .int (lo + (i : Nat))
def wRng1 (tr : TAD) : TAD := fun Γ φ => tr Γ fun ds => match ds with
  | [.int j] => (-(2 ^ 62) ≤ j ∧ j < 2 ^ 62) ∧ φ (rangeD 0 j.toNat)
  | _ => False
def wRng2 (tr : TAD) : TAD := fun Γ φ => tr Γ fun ds => match ds with
  | [.int i, .int j] => (-(2 ^ 62) ≤ i ∧ i < 2 ^ 62 ∧ -(2 ^ 62) ≤ j ∧ j < 2 ^ 62) ∧ φ (rangeD i (j - i).toNat)
  | _ => False
theorem itd_rng {W : Wd} {H0s : Hp} {lo : Int} {n : Nat} : ItD K W (Itr lo n) (rangeD lo n) H0s where
  go := fun i σ H0 H Γ hi I s => (show i < n by simpa [rangeD] using hi)
  stop := fun σ H0 H Γ I s => (show n ≤ (rangeD lo n).length by simp [rangeD])
  yld := fun i σ H0 H Γ x H' I s hi y => by
    obtain ⟨rfl, rfl⟩ := y
    have hi : i < n := by simpa [rangeD] using hi
    refine ⟨H0, .int (lo + i), I, Same.refl _, Stp.refl I.ex, ?_, .int _⟩
    unfold rangeD
    rw [List.getElem?_map, List.getElem?_range hi]
    rfl
theorem ri_rng1 {ta : TA} {tr : TAD} (h : RA K ta tr) : RI K (iRng1 ta) (wRng1 tr) := fun W σ H0 H Γ φ R I t k => by
  refine h W σ H0 H Γ _ _ I t fun ds vs H1 G1 t1 I1 s1 dv => ?_
  split at t1
  · have e : vs = [V.int _] := DvAll.ints (ns := [_]) dv
    exact ⟨_, e, t1.1.1, t1.1.2, k _ _ H1 G1 t1.2 I1 s1 fun W' => itd_rng⟩
  · exact t1.elim
theorem ri_rng2 {ta : TA} {tr : TAD} (h : RA K ta tr) : RI K (iRng2 ta) (wRng2 tr) := fun W σ H0 H Γ φ R I t k => by
  refine h W σ H0 H Γ _ _ I t fun ds vs H1 G1 t1 I1 s1 dv => ?_
  split at t1
  · have e : vs = [V.int _, V.int _] := DvAll.ints (ns := [_, _]) dv
    exact ⟨_, _, e, t1.1, k _ _ H1 G1 t1.2 I1 s1 fun W' => itd_rng⟩
  · exact t1.elim
theorem di_rng1 {a : Expr} {ta : TA} {tr : TAD} {p : Pos} (hg : Gl X "range") (hm : X.mg "range" = none) (ha : DA X [a] ta tr) (hs : starEach [a] X.env = [(false, eval a X.env)] := by rfl) : DI X tg (.Call (.Name "range" p) [a] [] pos) (iRng1 ta) (wRng1 tr) := ⟨pi_range1 hg hm ha.pe hs, ri_rng1 ha.re⟩
theorem di_rng2 {a b : Expr} {ta : TA} {tr : TAD} {p : Pos} (hg : Gl X "range") (hm : X.mg "range" = none) (ha : DA X [a, b] ta tr) (hs : starEach [a, b] X.env = [(false, eval a X.env), (false, eval b X.env)] := by rfl) (hs2 : starEach [b] X.env = [(false, eval b X.env)] := by rfl) :
    DI X tg (.Call (.Name "range" p) [a, b] [] pos) (iRng2 ta) (wRng2 tr) := ⟨pi_range2 hg hm ha.pe hs hs2, ri_rng2 ha.re⟩
/-! ### comprehensions -/
def wipeD (Γ : Env) : List Nat → Env
  | [] => Γ
  | v :: vs => (wipeD Γ vs).set v .un
def plainAt (Γ : Env) : List Nat → Prop
  | [] => True
  | v :: vs => (match sget Γ v with
    | .va _ => True
    | .un => True
    | _ => False) ∧ plainAt Γ vs
def lcL (gd : TGD) (tt : TTD) (td : TD) (Γ : Env) : List PD → (List PD → Prop) → Prop
  | [], φ => φ []
  | d :: ds, φ => gd d Γ fun Γ2 => tt Γ2 fun b => if b = true then td Γ2 fun e => lcL gd tt td Γ ds fun es => φ (e :: es) else lcL gd tt td Γ ds φ
def lLc (ti : TAD) (gd : TGD) (tt : TTD) (td : TD) (vs : List Nat) : TAD := fun Γ φ => plainAt Γ vs ∧ ti Γ fun ds => ds.length < sizeLine ∧ lcL gd tt td (wipeD Γ vs) ds φ
def oLc (ti : TAD) (gd : TGD) (tt : TTD) (td : TD) (vs : List Nat) : TD := fun Γ φ => lLc ti gd tt td vs Γ fun ds => φ (.list ds)
theorem EnvOk.wipe {W : Wd} {σ : L2.St} {H0 H : Hp} {Γ : Env} (I : EnvOk K W σ H0 H Γ) : ∀ vs : List Nat, EnvOk K W (L2.wipe σ vs) H0 H (wipeD Γ vs)
  | [] => I
  | v :: vs => (I.wipe vs).drop
theorem wipeD_length (Γ : Env) : ∀ vs : List Nat, (wipeD Γ vs).length = Γ.length
  | [] => rfl
  | v :: vs => by unfold wipeD; rw [List.length_set, wipeD_length Γ vs]
theorem wipeD_at {Γ : Env} {j : Nat} : ∀ {vs : List Nat}, j ∉ vs → (wipeD Γ vs)[j]? = Γ[j]?
  | [], _ => rfl
  | v :: vs, h => by
    unfold wipeD
    rw [List.getElem?_set_ne (by rintro rfl; exact h (List.mem_cons_self ..))]
    exact wipeD_at fun z => h (List.mem_cons_of_mem _ z)
theorem wipe_at {σ : L2.St} {j : Nat} : ∀ {vs : List Nat}, j ∉ vs → (L2.wipe σ vs)[j]? = σ[j]?
  | [], _ => rfl
  | v :: vs, h => by
    unfold L2.wipe
    rw [List.getElem?_set_ne (by rintro rfl; exact h (List.mem_cons_self ..))]
    exact wipe_at fun z => h (List.mem_cons_of_mem _ z)
theorem wipe_in {σ : L2.St} {j : Nat} : ∀ {vs : List Nat}, j ∈ vs → j < σ.length → (L2.wipe σ vs)[j]? = some none
  | v :: vs, h, hl => by
    unfold L2.wipe
    by_cases e : v = j
    · subst e
      rw [List.getElem?_set_self (by rw [L2.wipe_length]; exact hl)]
    · rw [List.getElem?_set_ne e]
      exact wipe_in (by
        rcases List.mem_cons.mp h with z | z
        · exact (e z.symm).elim
        · exact z) hl
theorem wipeD_in {Γ : Env} {j : Nat} : ∀ {vs : List Nat}, j ∈ vs → j < Γ.length → (wipeD Γ vs)[j]? = some .un
  | v :: vs, h, hl => by
    unfold wipeD
    by_cases e : v = j
    · subst e
      rw [List.getElem?_set_self (by rw [wipeD_length]; exact hl)]
    · rw [List.getElem?_set_ne e]
      exact wipeD_in (by
        rcases List.mem_cons.mp h with z | z
        · exact (e z.symm).elim
        · exact z) hl
/-- what a turn stored within the block is forgotten behind it -/
theorem wipe_only {vs : List Nat} {σ σ2 : L2.St} {Γ Γ2 : Env} (o : OnlyAt vs (L2.wipe σ vs) σ2 (wipeD Γ vs) Γ2) : L2.wipe σ2 vs = L2.wipe σ vs := by
  apply List.ext_getElem?
  intro j
  by_cases h : j ∈ vs
  · by_cases hl : j < σ.length
    · rw [wipe_in h hl, wipe_in h (by rw [o.l, L2.wipe_length]; exact hl)]
    · rw [List.getElem?_eq_none (by rw [L2.wipe_length, o.l, L2.wipe_length]; omega), List.getElem?_eq_none (by rw [L2.wipe_length]; omega)]
  · rw [wipe_at h, o.s j h]
/-- the block's env as it was -/
theorem EnvOk.unstore {W : Wd} {σ σ2 : L2.St} {H0 H : Hp} {Γ Γ2 : Env} {vs : List Nat} (o : OnlyAt vs (L2.wipe σ vs) σ2 (wipeD Γ vs) Γ2) (J : EnvOk K W σ2 H0 H Γ2) (hl : σ.length = Γ.length) : EnvOk K W (L2.wipe σ vs) H0 H (wipeD Γ vs) := by
  have key : ∀ i s, (wipeD Γ vs)[i]? = some s → i ∈ vs ∧ s = .un ∨ (Γ2[i]? = some s ∧ ats σ2 i = ats (L2.wipe σ vs) i) := fun i s h => by
    by_cases hv : i ∈ vs
    · refine .inl ⟨hv, ?_⟩
      have hi : i < Γ.length := by have := (List.getElem?_eq_some_iff.mp h).1; rw [wipeD_length] at this; exact this
      rw [wipeD_in hv hi] at h
      cases h; rfl
    · refine .inr ⟨by rw [o.g i hv]; exact h, ?_⟩
      unfold ats
      rw [o.s i hv]
  refine ⟨J.ex, J.exe, J.ex00, J.al, J.new, by rw [L2.wipe_length, wipeD_length]; exact hl, fun i s h => ?_, fun i j s t b n h1 h2 o1 o2 => ?_⟩
  · rcases key i s h with ⟨_, rfl⟩ | ⟨h', e⟩
    · trivial
    · rw [← e]; exact J.sl i s h'
  · rcases key i s h1 with ⟨_, rfl⟩ | ⟨h1', e1⟩
    · exact o1
    · rcases key j t h2 with ⟨_, rfl⟩ | ⟨h2', e2⟩
      · exact o2
      · rw [← e1] at o1
        rw [← e2] at o2
        exact J.ap i j s t b n h1' h2' o1 o2
theorem sget_of : ∀ {Γ : Env} {i : Nat} {s : Sl}, Γ[i]? = some s → sget Γ i = s
  | [], _, _, h => by simp at h
  | a :: r, 0, _, h => by simpa [sget] using h
  | a :: r, n + 1, _, h => sget_of (Γ := r) (i := n) (by simpa using h)
theorem plainAt_mem {Γ : Env} : ∀ {vs : List Nat} {i : Nat} {s : Sl}, plainAt Γ vs → i ∈ vs → Γ[i]? = some s → (∃ d, s = .va d) ∨ s = .un
  | v :: vs, i, s, h, hm, hs => by
    rcases List.mem_cons.mp hm with rfl | hm
    · have q := h.1
      have e : sget Γ i = s := sget_of hs
      rw [e] at q
      cases s with
      | va d => exact .inl ⟨d, rfl⟩
      | un => exact .inr rfl
      | _ => exact q.elim
    · exact plainAt_mem h.2 hm hs
/-- the env ahead of the block, behind it -/
theorem EnvOk.unwipe {W : Wd} {σ : L2.St} {H0 H H0' H' : Hp} {Γ : Env} {vs : List Nat} (I : EnvOk K W σ H0 H Γ) (p : plainAt Γ vs) (J : EnvOk K W (L2.wipe σ vs) H0' H' (wipeD Γ vs)) (s : Same H0 H0') : EnvOk K W σ H0' H' Γ := by
  have key : ∀ i s, Γ[i]? = some s → (i ∈ vs ∧ ((∃ d, s = .va d) ∨ s = .un)) ∨ ((wipeD Γ vs)[i]? = some s ∧ ats (L2.wipe σ vs) i = ats σ i) := fun i s h => by
    by_cases hv : i ∈ vs
    · exact .inl ⟨hv, plainAt_mem p hv h⟩
    · refine .inr ⟨by rw [wipeD_at hv]; exact h, ?_⟩
      unfold ats
      rw [wipe_at hv]
  refine ⟨J.ex, J.exe, J.ex00, J.al, J.new, I.len, fun i t h => ?_, fun i j t u b n h1 h2 o1 o2 => ?_⟩
  · rcases key i t h with ⟨_, ⟨d, rfl⟩ | rfl⟩ | ⟨h', e⟩
    · obtain ⟨v, e, q⟩ := I.sl i _ h
      exact ⟨v, e, q.mono s⟩
    · trivial
    · rw [← e]; exact J.sl i t h'
  · rcases key i t h1 with ⟨_, ⟨d, rfl⟩ | rfl⟩ | ⟨h1', e1⟩
    · exact o1
    · exact o1
    · rcases key j u h2 with ⟨_, ⟨d, rfl⟩ | rfl⟩ | ⟨h2', e2⟩
      · exact o2
      · exact o2
      · rw [← e1] at o1
        rw [← e2] at o2
        exact J.ap i j t u b n h1' h2' o1 o2
/-- an object that no slot owns, and that none of the standing ones is, is changed -/
theorem EnvOk.aside {W : Wd} {σ : L2.St} {H0 H : Hp} {Γ : Env} (I : EnvOk K W σ H0 H Γ) {D : Addr} (o : HO) (h0 : H0 D = none) (he : W.He D = none) (hn : ¬ OwnedIn σ Γ D) : EnvOk K W σ H0 (upd H D o) Γ where
  ex := fun b u h => by rw [upd_ne (fun z => by subst z; rw [h0] at h; cases h)]; exact I.ex b u h
  exe := fun b u h n => by rw [upd_ne (fun z => by subst z; rw [he] at h; cases h)]; exact I.exe b u h n
  ex00 := I.ex00
  al := fun b u h => by rw [upd_ne (fun z => by subst z; rw [he] at h; cases h)]; exact I.al b u h
  new := I.new
  len := I.len
  sl := fun j u h => by
    have q := I.sl j u h
    have nb : ∀ b, Owns (ats σ j) b u → b ≠ D := fun b ow z => hn ⟨j, u, h, z ▸ ow⟩
    cases u with
    | un => trivial
    | va d => exact q
    | own ds =>
      obtain ⟨b, vs, e1, m1, r1, d1⟩ := q
      exact ⟨b, vs, e1, m1, by rw [upd_ne (nb b e1)]; exact r1, d1⟩
    | dic ds =>
      obtain ⟨b, vs, e1, m1, r1, d1⟩ := q
      exact ⟨b, vs, e1, m1, by rw [upd_ne (nb b e1)]; exact r1, d1⟩
    | dit ds =>
      obtain ⟨b, vs, e1, m1, r1, d1⟩ := q
      exact ⟨b, vs, e1, m1, by rw [upd_ne (nb b e1)]; exact r1, d1⟩
    | src a c =>
      obtain ⟨e1, m1, m2, cs, l, mm, t, h1, h2⟩ := q
      exact ⟨e1, m1, m2, cs, l, mm, t, by rw [upd_ne (nb a (.inl rfl))]; exact h1, by rw [upd_ne (nb c (.inr rfl))]; exact h2⟩
    | scr ns => exact q
  ap := I.ap
theorem rl_lc {vs : List Nat} {ti : TI} {tid : TAD} {g : TG} {gd : TGD} {tt : TT} {ttd : TTD} {te : TE} {td : TD} (hi : RI K ti tid) (hg : RG K vs g gd) (ht : RT K tt ttd) (he : RE K te td) : RL K (tLc ti g tt te vs) (lLc tid gd ttd td vs) := fun W σ H0 H Γ φ Q I q k => by
  obtain ⟨pl, q⟩ := q
  refine hi W σ H0 H Γ _ _ I q fun ds J Hs G1 t1 I1 s1 it => ?_
  obtain ⟨hlen, t1⟩ := t1
  intro D hD
  have m1 := I1.mine hD
  have nD : ¬ OwnedIn σ Γ D := not_owned_of_none I1 hD
  have nDw : ¬ OwnedIn (L2.wipe σ vs) (wipeD Γ vs) D := not_owned_of_none (I1.wipe vs) hD
  have IT := fun W' => it W'
  refine ⟨fun i m H' => m = ds.length - i ∧ i ≤ ds.length ∧ ∃ H0' acc es, EnvOk K W (L2.wipe σ vs) H0' H' (wipeD Γ vs) ∧ Same Hs H0' ∧ H0' D = none ∧ H' D = some (.lst acc) ∧ DvAll K H0' acc es ∧ acc.length ≤ i ∧ lcL gd ttd td (wipeD Γ vs) (ds.drop i) (fun rest => φ (es ++ rest)),
    ⟨ds.length, by omega, Nat.zero_le _, Hs, [], [], ((I1.wipe vs).aside _ m1.1 m1.2 nDw), Same.refl _, m1.1, upd_same, .nil, Nat.le_refl _, t1⟩, ?_⟩
  rintro i m H2 ⟨rfl, hle, H02, acc, es, I2, s2, h02, hD2, dv2, hacc, t2⟩
  by_cases hlt : i < ds.length
  · refine .inr ⟨(IT W).go i _ H02 H2 _ hlt I2 s2, fun H' => ∃ H0' acc es, EnvOk K W (L2.wipe σ vs) H0' H' (wipeD Γ vs) ∧ Same Hs H0' ∧ H0' D = none ∧ H' D = some (.lst acc) ∧ DvAll K H0' acc es ∧ acc.length ≤ i + 1 ∧ lcL gd ttd td (wipeD Γ vs) (ds.drop (i + 1)) (fun rest => φ (es ++ rest)),
      fun H' z => ⟨ds.length - (i + 1), by omega, rfl, hlt, z⟩, fun x H3 y => ?_⟩
    obtain ⟨H03, d, I3, s3, st3, hd, dv3⟩ := (IT W).yld i _ H02 H2 _ x H3 I2 s2 hlt y
    rw [List.drop_eq_getElem_cons hlt] at t2
    have ed : ds[i] = d := Option.some.inj ((List.getElem?_eq_getElem hlt).symm.trans hd)
    rw [ed] at t2
    have hD3 : H3 D = some (.lst acc) := st3.s _ _ hD2
    have h03 : H03 D = none := by
      cases z : H03 D with
      | none => rfl
      | some o =>
        rcases st3.new D o z with ⟨o', z'⟩ | z'
        · rw [h02] at z'; cases z'
        · rw [hD2] at z'; cases z'
    have nD3 : ¬ OwnedIn (L2.wipe σ vs) (wipeD Γ vs) D := nDw
    -- the turn, in the world of now
    refine hg _ _ H03 H3 _ d x _ _ I3.now dv3 t2 fun σ4 Γ4 t4 I4 o4 => ⟨wipe_only o4, ?_⟩
    refine ht _ σ4 H03 H3 Γ4 _ _ I4 t4 fun b H05 H5 t5 I5 s5 => ?_
    have back : ∀ {A B : Hp}, EnvOk K (nowW (L2.wipe σ vs) (wipeD Γ vs) H03 H3) σ4 A B Γ4 → EnvOk K W (L2.wipe σ vs) A B (wipeD Γ vs) ∧ Same H03 A ∧ B D = some (.lst acc) ∧ A D = none := fun {A B} J => by
      have hB := J.exe D _ (nowHe_of hD3 nD3) fun z => z
      refine ⟨I3.back (J.unstore o4 I1.len), J.ex00, hB, ?_⟩
      cases z : A D with
      | none => rfl
      | some o =>
        rcases J.new D o z with ⟨o', z'⟩ | z'
        · have z' : H03 D = some o' := z'
          rw [h03] at z'; cases z'
        · have z' : nowHe _ _ H3 D = none := z'
          rw [nowHe_of hD3 nD3] at z'; cases z'
    cases b with
    | false =>
      obtain ⟨I6, s6, hD6, h06⟩ := back I5
      exact ⟨H05, acc, es, I6, s2.trans (s3.trans s6), h06, hD6, dv2.mono (s3.trans s6), Nat.le_succ_of_le hacc, t5⟩
    | true =>
      refine he _ σ4 H05 H5 Γ4 _ _ I5 t5 fun z y H07 H7 t7 I7 s7 dv7 => ?_
      obtain ⟨I8, s8, hD8, h08⟩ := back I7
      refine ⟨acc, hD8, by omega, H07, acc ++ [y], es ++ [z], I8.aside _ h08 m1.2 nDw, s2.trans (s3.trans s8), h08, upd_same, (dv2.mono (s3.trans s8)).app (.cons dv7 .nil), by rw [List.length_append]; exact Nat.succ_le_succ hacc, ?_⟩
      simpa using t7
  · have e : i = ds.length := by omega
    subst e
    rw [List.drop_length] at t2
    refine .inl ⟨(IT W).stop _ H02 H2 _ I2 s2, ?_⟩
    have t2 : φ (es ++ []) := t2
    rw [List.append_nil] at t2
    exact k es D acc H02 H2 t2 (I1.unwipe pl I2 s2) (s1.trans s2) ⟨h02, m1.2⟩ (I1.apart hD) hD2 dv2
/-- a new list that is a value from now on -/
theorem RL.val {tl : TAD} (h : RL K te tl) : RE K te (fun Γ φ => tl Γ fun ds => φ (.list ds)) := fun W σ H0 H Γ φ Q I t k => by
  refine h W σ H0 H Γ _ _ I t fun ds p vs H1 G1 t1 I1 s1 m ap hp dv => ?_
  have s2 : Same H1 (upd H1 p (.lst vs)) := same_new m.1 _
  refine k _ _ (upd H1 p (.lst vs)) G1 t1 ⟨fun b u h => ?_, I1.exe, I1.ex00.trans s2, I1.al, fun b u h => ?_, I1.len, fun j u h => ?_, I1.ap⟩ (s1.trans s2) (.lst upd_same (dv.mono s2))
  · by_cases q : b = p
    · subst q; rw [upd_same] at h; cases h; exact hp
    · rw [upd_ne q] at h; exact I1.ex b u h
  · by_cases q : b = p
    · subst q; exact .inr m.2
    · rw [upd_ne q] at h; exact I1.new b u h
  · have z := I1.sl j u h
    have nb := ap j u
    cases u with
    | un => trivial
    | va d => obtain ⟨v, e1, d1⟩ := z; exact ⟨v, e1, d1.mono s2⟩
    | own ds => obtain ⟨b, vs, e1, m1, r1, d1⟩ := z; exact ⟨b, vs, e1, ⟨by rw [upd_ne (nb b h e1)]; exact m1.1, m1.2⟩, r1, d1.mono s2⟩
    | dic ds => obtain ⟨b, vs, e1, m1, r1, k1, d1⟩ := z; exact ⟨b, vs, e1, ⟨by rw [upd_ne (nb b h e1)]; exact m1.1, m1.2⟩, r1, k1, d1.mono s2⟩
    | dit ds => obtain ⟨b, vs, e1, m1, r1, k1, d1⟩ := z; exact ⟨b, vs, e1, ⟨by rw [upd_ne (nb b h e1)]; exact m1.1, m1.2⟩, r1, k1, d1.mono s2⟩
    | src a c => obtain ⟨e1, m1, m2, q1⟩ := z; exact ⟨e1, ⟨by rw [upd_ne (nb a h (.inl rfl))]; exact m1.1, m1.2⟩, ⟨by rw [upd_ne (nb c h (.inr rfl))]; exact m2.1, m2.2⟩, q1⟩
    | scr ns => obtain ⟨a, e1, q1⟩ := z; exact ⟨a, e1, s2.seq q1⟩
def oVal (tl : TAD) : TD := fun Γ φ => tl Γ fun ds => φ (.list ds)
theorem DL.val {tl : TAD} (h : DL X e te tl) : DE X e te (oVal tl) := ⟨h.pe, h.re.val⟩
def yesD : TTD := fun _ φ => φ true
theorem dts_nil : DTs X [] tYes yesD := ⟨pts_nil, fun W σ H0 H Γ φ Q I t k => k _ _ _ t I (Same.refl _)⟩
theorem dts_one {c : Expr} {tt : TT} {ttd : TTD} (h : DT X c tt ttd) : DTs X [c] tt ttd := ⟨pts_one h.pe, h.re⟩
theorem dl_lc {elt iter : Expr} {ifs : List Expr} {scope : Scope} {own : List (Str × Nat)} {wi : TI} {wd : TAD} {g : TG} {gd : TGD} {tt : TT} {ttd : TTD} {te : TE} {td : TD} (hc : X.calm = true) (hN : X.N.Nodup) (hi : DI X tg iter wi wd) (ok : BlkOk X.N X.env.scope scope own)
    (hg : ∀ (s : Shared) (H : Hp) (C : Addr) (cl : List (Str × Addr)) (fp : List Addr), DG (X.blk s H scope (compEnvC scope cl C X.env) fp) tg (own.map (·.2)) g gd) (ht : ∀ (s : Shared) (H : Hp) (C : Addr) (cl : List (Str × Addr)) (fp : List Addr), DTs (X.blk s H scope (compEnvC scope cl C X.env) fp) ifs tt ttd)
    (he : ∀ (s : Shared) (H : Hp) (C : Addr) (cl : List (Str × Addr)) (fp : List Addr), DE (X.blk s H scope (compEnvC scope cl C X.env) fp) elt te td) (hs : ∀ x, foldedSetIterable iter X.env x = pure x := by intro _; rfl) :
    DL X (.ListComp elt [⟨tg, iter, ifs, 0⟩] scope pos) (tLc wi g tt te (own.map (·.2))) (lLc wd gd ttd td (own.map (·.2))) :=
  ⟨pe_lc hc hN hi.pe ok (fun s H C cl fp => (hg s H C cl fp).pe) (fun s H C cl fp => (ht s H C cl fp).pe) (fun s H C cl fp => (he s H C cl fp).pe) hs,
   rl_lc hi.re (hg X.s_0 NoH 0 [] []).re (ht X.s_0 NoH 0 [] []).re (he X.s_0 NoH 0 [] []).re⟩
end
end DD
set_option Elab.async false
set_option linter.all false
set_option maxRecDepth 100000
set_option maxHeartbeats 2000000
/-! Calls and promises; lists and dicts of the def's own. -/
namespace DD
open PySem L2 PySem.Spec PyProof.Rows

/-! ### promises -/
/-- of data, what is returned; nothing that stood is changed -/
def spD (K : PySem.W.Frag) (pre : List PD → Prop) (post : List PD → PD → Prop) : Sp := fun vs H Q _ => ∃ H0 ds, Same H0 H ∧ DvAll K H0 vs ds ∧ pre ds ∧ ∀ d v H0' H', post ds d → Stp H0 H H0' H' → Dv K H0' v d → Q v H'
structure StpS (a c : Addr) (H0 H H0' H' : Hp) : Prop where
  s : ∀ b o, H b = some o → b ≠ a → b ≠ c → H' b = some o
  s0 : Same H0 H0'
  ex : Same H0' H'
  new : ∀ b o, H0' b = some o → (∃ o', H0 b = some o') ∨ H b = none
  src : SrcOk H' a c
/-- the same of the script's source and data: the source may be changed -/
def spS (K : PySem.W.Frag) (pre : List PD → Prop) (post : List PD → PD → Prop) : Sp := fun vs H Q _ => ∃ H0 a c us ds, vs = .ref a :: us ∧ Same H0 H ∧ H0 a = none ∧ H0 c = none ∧ SrcOk H a c ∧ DvAll K H0 us ds ∧ pre ds ∧
  ∀ d v H0' H', post ds d → StpS a c H0 H H0' H' → Dv K H0' v d → Q v H'
/-- a source is made of the script -/
def spN (K : PySem.W.Frag) : Sp := fun vs H Q _ => ∃ (a : Addr) (ns : List Int), vs = [.ref a] ∧ SqL K H a (ns.map V.int) ∧ ns.length ≤ 63 ∧ ∀ p c H', Same H H' → SrcOk H' p c → H p = none → H c = none → Q (.ref p) H'
/-- the law -/
def spLaw (K : PySem.W.Frag) : Sp := fun vs H Q _ => ∃ (a : Addr) (ns : List Int), vs = [.ref a] ∧ SqL K H a (ns.map V.int) ∧ ns.length ≤ 63 ∧ ∀ H', Q (.bl true) H'

section
variable {X : Cx} {K : PySem.W.Frag} {e : Expr} {es : List Expr} {te : TE} {td : TD} {ta : TA} {tr : TAD} {pos p : Pos} {x : Str} {W : Wd} {σ : L2.St} {H0 H H0' H' : Hp} {Γ : Env}
theorem EnvOk.stepS (I : EnvOk K W σ H0 H Γ) {i : Nat} {a c : Addr} (hs : Γ[i]? = some (.src a c)) (st : StpS a c H0 H H0' H') : EnvOk K W σ H0' H' Γ := by
  have q := I.sl i _ hs
  obtain ⟨e1, m1, m2, cs, l, mm, t, h1, h2⟩ := q
  have dom : ∀ b o, H b = some o → ∃ o', H' b = some o' := fun b o h => by
    obtain ⟨cs, l, m, t, g1, g2⟩ := st.src
    by_cases ea : b = a
    · subst ea; exact ⟨_, g1⟩
    · by_cases ec : b = c
      · subst ec; exact ⟨_, g2⟩
      · exact ⟨o, st.s b o h ea ec⟩
  have fresh : ∀ b o, H b = some o → H0 b = none → H0' b = none := fun b o h n => by
    cases z : H0' b with
    | none => rfl
    | some u =>
      rcases st.new b u z with ⟨o', z'⟩ | z'
      · rw [n] at z'; cases z'
      · rw [h] at z'; cases z'
  have nt : ∀ b, W.He b ≠ none → ¬ W.T b → b ≠ a ∧ b ≠ c := fun b h n => ⟨fun z => by
    subst z
    rcases m1.2 with y | y
    · exact n y
    · exact h y, fun z => by
    subst z
    rcases m2.2 with y | y
    · exact n y
    · exact h y⟩
  refine ⟨st.ex, fun b o h n => ?_, I.ex00.trans st.s0, fun b o h => ?_, fun b o h => ?_, I.len, fun j s h => ?_, I.ap⟩
  · obtain ⟨na, nc⟩ := nt b (by rw [h]; simp) n
    exact st.s b o (I.exe b o h n) na nc
  · obtain ⟨o', z⟩ := I.al b o h
    exact dom b o' z
  · rcases st.new b o h with ⟨o', z⟩ | z
    · exact I.new b o' z
    · cases y : W.He b with
      | none => exact .inr rfl
      | some u =>
        obtain ⟨u', z'⟩ := I.al b u y
        rw [z] at z'; cases z'
  · by_cases e : i = j
    · subst e
      rw [hs] at h
      cases h
      exact ⟨e1, ⟨fresh a _ h1 m1.1, m1.2⟩, ⟨fresh c _ h2 m2.1, m2.2⟩, st.src⟩
    · have z := I.sl j s h
      have nb : ∀ b, Owns (ats σ j) b s → b ≠ a ∧ b ≠ c := fun b ow => ⟨fun z => by subst z; exact I.ap i j _ s b e hs h (.inl rfl) ow, fun z => by subst z; exact I.ap i j _ s b e hs h (.inr rfl) ow⟩
      cases s with
      | un => trivial
      | va d => obtain ⟨v, e1, d1⟩ := z; exact ⟨v, e1, d1.mono st.s0⟩
      | own ds => obtain ⟨b, vs, e1, n1, r1, d1⟩ := z; exact ⟨b, vs, e1, ⟨fresh b _ r1 n1.1, n1.2⟩, st.s _ _ r1 (nb b e1).1 (nb b e1).2, d1.mono st.s0⟩
      | dic ds => obtain ⟨b, vs, e1, n1, r1, k1, d1⟩ := z; exact ⟨b, vs, e1, ⟨fresh b _ r1 n1.1, n1.2⟩, st.s _ _ r1 (nb b e1).1 (nb b e1).2, k1, d1.mono st.s0⟩
      | dit ds => obtain ⟨b, vs, e1, n1, r1, k1, d1⟩ := z; exact ⟨b, vs, e1, ⟨fresh b _ r1 n1.1, n1.2⟩, st.s _ _ r1 (nb b e1).1 (nb b e1).2, k1, d1.mono st.s0⟩
      | src a' c' =>
        obtain ⟨e1', m1', m2', cs', l', mm', t', h1', h2'⟩ := z
        exact ⟨e1', ⟨fresh a' _ h1' m1'.1, m1'.2⟩, ⟨fresh c' _ h2' m2'.1, m2'.2⟩, cs', l', mm', t', st.s _ _ h1' (nb a' (.inl rfl)).1 (nb a' (.inl rfl)).2, st.s _ _ h2' (nb c' (.inr rfl)).1 (nb c' (.inr rfl)).2⟩
      | scr ns => obtain ⟨b, e1, q1⟩ := z; exact ⟨b, e1, st.s0.seq q1⟩
/-! ### calls -/
def tCl (sp : Sp) (t : TA) : TE := fun σ H Q => t σ H fun vs H1 => sp vs H1 Q E0
def oFn (pre : List PD → Prop) (post : List PD → PD → Prop) (tr : TAD) : TD := fun Γ φ => tr Γ fun ds => pre ds ∧ ∀ d, post ds d → φ d
def oFnS (i : Nat) (pre : List PD → Prop) (post : List PD → PD → Prop) (tr : TAD) : TD := fun Γ φ => match sget Γ i with
  | .src _ _ => tr Γ fun ds => pre ds ∧ ∀ d, post ds d → φ d
  | _ => False
theorem re_fn {pre : List PD → Prop} {post : List PD → PD → Prop} (h : RA K ta tr) : RE K (tCl (spD K pre post) ta) (oFn pre post tr) := fun W σ H0 H Γ φ Q I t k => by
  refine h W σ H0 H Γ _ _ I t fun ds vs H1 G1 t1 I1 s1 r => ?_
  exact ⟨H1, ds, I1.ex, r, t1.1, fun d v A B p st dv => k d v A B (t1.2 d p) (I1.step st) (s1.trans st.s0) dv⟩
theorem re_fnS {i : Nat} {pre : List PD → Prop} {post : List PD → PD → Prop} (h : RA K ta tr) : RE K (tCl (spS K pre post) (tCons (tVar i) ta)) (oFnS i pre post tr) := fun W σ H0 H Γ φ Q I t k => by
  unfold oFnS at t
  split at t
  · rename_i a c z
    have hs := sget_some z (by intro z; cases z)
    obtain ⟨e1, _⟩ := I.sl i _ hs
    refine ⟨.ref a, ats_of e1, ?_⟩
    refine h W σ H0 H Γ _ _ I t fun ds vs H1 G1 t1 I1 s1 r => ?_
    obtain ⟨_, m1, m2, q⟩ := I1.sl i _ hs
    exact ⟨H1, a, c, vs, ds, rfl, I1.ex, m1.1, m2.1, q, r, t1.1, fun d v A B p st dv => k d v A B (t1.2 d p) (I1.stepS hs st) (s1.trans st.s0) dv⟩
  · exact t.elim
variable {k : Nat} {f : Addr} {fd : FuncData} {ps : List Str} {sp : Sp}
theorem de_fn {pre : List PD → Prop} {post : List PD → PD → Prop} (F : FnG X.prog X.w X.K X.mg X.base k f fd ps (spD X.K pre post)) (hr : Room k X.A) (hG : X.A.guards = some []) (hg : Gl X x) (hm : X.mg x = some (.ref f)) (hk : PySem.W.keepIn X.K (.ref f) = true)
    (hb : Binds X.K fd ps []) (ha : DA X (e :: es) ta tr) (hdb : (x == ("__debug__" : Str)) = false := by decide) (he : starEach (e :: es) X.env = (false, eval e X.env) :: starEach es X.env := by rfl) (hpl : (backTo pos (starEach es X.env)).any (·.1) = false := by rfl) :
    DE X (.Call (.Name x p) (e :: es) [] pos) (tCl (spD X.K pre post) ta) (oFn pre post tr) := ⟨peg_call F hr hG hg hm hk hb ha.pe hdb he hpl, re_fn ha.re⟩
theorem de_fnS (i : Nat) {y : Str} {py : Pos} {pre : List PD → Prop} {post : List PD → PD → Prop} (F : FnG X.prog X.w X.K X.mg X.base k f fd ps (spS X.K pre post)) (hr : Room k X.A) (hG : X.A.guards = some []) (hg : Gl X x) (hm : X.mg x = some (.ref f)) (hk : PySem.W.keepIn X.K (.ref f) = true)
    (hb : Binds X.K fd ps []) (hN : X.N[i]? = some y) (hv : Vis X.env.scope y) (ha : DA X es ta tr) (hdy : (y == ("__debug__" : Str)) = false := by decide) (hcd : (y == ("__classdict__" : Str)) = false := by decide) (hdb : (x == ("__debug__" : Str)) = false := by decide)
    (he : starEach (.Name y py :: es) X.env = (false, eval (.Name y py) X.env) :: starEach es X.env := by rfl) (hpl : (backTo pos (starEach es X.env)).any (·.1) = false := by rfl) :
    DE X (.Call (.Name x p) (.Name y py :: es) [] pos) (tCl (spS X.K pre post) (tCons (tVar i) ta)) (oFnS i pre post tr) := ⟨peg_call F hr hG hg hm hk hb (pa_cons (pe_var hN hv hdy hcd) ha.pe he) hdb he hpl, re_fnS ha.re⟩
/-- source = open(script) -/
def sSrc (j i : Nat) : TSD := fun E Γ => match sget Γ j with
  | .scr ns => ns.length ≤ 63 ∧ ∀ a c, E.nx (Γ.set i (.src a c))
  | _ => False
theorem rs_src {j i : Nat} : RS K (tAsg (tCl (spN K) (tCons (tVar j) tNil)) (gName i)) (sSrc j i) := fun W σ H0 H Γ E D I t k => by
  unfold sSrc at t
  split at t
  · rename_i ns z
    have hs := sget_some z (by intro z; cases z)
    obtain ⟨b, e1, q1⟩ := I.sl j _ hs
    refine ⟨.ref b, ats_of e1, b, ns, rfl, I.ex.seq q1, t.1, fun p c H' s so hp hc => ?_⟩
    have st : Stp H0 H H0 H' := ⟨s, Same.refl _, I.ex.trans s, fun b o h => .inl ⟨o, h⟩⟩
    refine k.nx _ _ _ _ ((I.step st).put (t := .src p c) ⟨rfl, (I.mine hp).m, (I.mine hc).m, so⟩ fun b o j s n h ow => ?_) (t.2 p c)
    rcases o with rfl | rfl
    · exact I.apart hp j s _ h ow rfl
    · exact I.apart hc j s _ h ow rfl
  · exact t.elim
theorem ds_src {j i : Nat} {y z : Str} {py pz : Pos} (F : FnG X.prog X.w X.K X.mg X.base k f fd ps (spN X.K)) (hr : Room k X.A) (hG : X.A.guards = some []) (hg : Gl X x) (hm : X.mg x = some (.ref f)) (hk : PySem.W.keepIn X.K (.ref f) = true)
    (hb : Binds X.K fd ps []) (hN : X.N[j]? = some y) (hv : Vis X.env.scope y) (nd : X.N.Nodup) (hi : X.N[i]? = some z) (hx : Loc X.env.scope z) (hf : X.fn z = true ∨ X.env.scope.names.lookup z = some .local) (hdy : (y == ("__debug__" : Str)) = false := by decide) (hcd : (y == ("__classdict__" : Str)) = false := by decide) (hdb : (x == ("__debug__" : Str)) = false := by decide)
    (he : starEach [.Name y py] X.env = (false, eval (.Name y py) X.env) :: starEach [] X.env := by rfl) (hpl : (backTo p (starEach [] X.env)).any (·.1) = false := by rfl) {pc : Pos} (hs : swapsWith (.Call (.Name x pc) [.Name y py] [] p) (some (.Name z pz)) pos.line X.env = pure false := by rfl) :
    DS X (.Assign [.Name z pz] (.Call (.Name x pc) [.Name y py] [] p) pos) (tAsg (tCl (spN X.K) (tCons (tVar j) tNil)) (gName i)) (sSrc j i) :=
  ⟨ps_set nd hi hx (peg_call F hr hG hg hm hk hb (pa_cons (pe_var hN hv hdy hcd) pa_nil he) hdb he hpl) hs hf, rs_src⟩
/-! ### a def's promise by its body -/
def startD : List Str → List PD → Env
  | [], _ => []
  | _ :: N, [] => .un :: startD N []
  | _ :: N, d :: ds => .va d :: startD N ds
theorem start_len {N : List Str} {vs : List V} (h : vs.length ≤ N.length) : (L2.start N vs).length = N.length := by
  unfold L2.start
  rw [List.length_append, List.length_map, List.length_replicate]
  omega
theorem startD_len : ∀ (N : List Str) (ds : List PD), (startD N ds).length = N.length
  | [], _ => rfl
  | _ :: N, [] => congrArg (· + 1) (startD_len N [])
  | _ :: N, d :: ds => congrArg (· + 1) (startD_len N ds)
theorem startD_at : ∀ {N : List Str} {ds : List PD} {i : Nat} {s : Sl}, (startD N ds)[i]? = some s → s = .un ∨ ∃ d, ds[i]? = some d ∧ s = .va d := by
  intro N
  induction N with
  | nil => intro ds i s h; simp [startD] at h
  | cons n N ih =>
    intro ds i s h
    cases ds with
    | nil =>
      cases i with
      | zero => left; simpa [startD] using h.symm
      | succ i =>
        rcases ih (ds := []) (i := i) (s := s) (by simpa [startD] using h) with z | ⟨d, hd, _⟩
        · exact .inl z
        · simp at hd
    | cons d ds =>
      cases i with
      | zero => exact .inr ⟨d, rfl, by simpa [startD] using h.symm⟩
      | succ i =>
        rcases ih (ds := ds) (i := i) (s := s) (by simpa [startD] using h) with z | ⟨d, hd, e⟩
        · exact .inl z
        · exact .inr ⟨d, by simpa using hd, e⟩
theorem start_at {N : List Str} {vs : List V} {i : Nat} {v : V} (h : vs[i]? = some v) : ats (L2.start N vs) i = some v := by
  have hi : i < vs.length := (List.getElem?_eq_some_iff.mp h).1
  unfold ats L2.start
  rw [List.getElem?_append_left (by simpa using hi), List.getElem?_map, h]
  rfl
theorem env_start {N : List Str} {vs : List V} {ds : List PD} {W : Wd} (hl : vs.length ≤ N.length) (e : Same H0 H) (r : DvAll K H0 vs ds) (he : W.He = H) (h00 : W.H00 = H0) : EnvOk K W (L2.start N vs) H0 H (startD N ds) where
  ex := e
  exe := fun b o h _ => by rw [he] at h; exact h
  ex00 := by rw [h00]; exact Same.refl _
  al := fun b o h => by rw [he] at h; exact ⟨o, h⟩
  new := fun b o h => by rw [h00]; exact .inl ⟨o, h⟩
  len := by rw [start_len hl, startD_len]
  sl := fun i s h => by
    rcases startD_at h with rfl | ⟨d, hd, rfl⟩
    · trivial
    · obtain ⟨v, hv, dv⟩ := r.getD hd
      exact ⟨v, start_at hv, dv⟩
  ap := fun i j s t b n h1 h2 o1 o2 => by
    rcases startD_at h1 with rfl | ⟨d, hd, rfl⟩ <;> exact o1
variable {P : Program} {w : World} {mg : Str → Option Value} {base : Heap} {qual : Str} {st : Stmt} {N : List Str}
theorem fn_D {pre : List PD → Prop} {post : List PD → PD → Prop} {td : TSD} (F : Fun K x qual st f fd) (S : FnScope N ps (defScope st)) (len : ∀ ds, pre ds → ds.length = ps.length)
    (body : ∀ (cdv : Value) (A : Around) (outer : List PySem.Env) (s : Shared) (H : Hp) (E : XK), A.guards = some [] → Room k (A.deeper (envOfC qual (defScope st) s.heap.objs.size f cdv)) → ∃ t, DSs (cxOf CX0 P w K mg base N qual (defScope st) f cdv A outer s H E).nox (defBody st) t td)
    (law : ∀ ds, pre ds → td { nx := fun _ => post ds .none, rt := fun d _ => post ds d } (startD N ds)) : FnG P w K mg base (k + 1) f fd ps (spD K pre post) := by
  have hN : ps.length ≤ N.length := by have := congrArg List.length S.pre; rw [List.length_take] at this; omega
  refine fun_okG F S (fun vs H Q E h => ?_) fun cdv A outer s H vs Q E hG hr h => ?_
  · obtain ⟨H0, ds, _, r, p, _⟩ := h
    rw [r.length]; exact len ds p
  · obtain ⟨H0, ds, e, r, p, q⟩ := h
    obtain ⟨t, ht⟩ := body cdv A outer s H E hG hr
    refine ⟨t, ht.pe, ?_⟩
    have I := env_start (W := ⟨H, H0, fun _ => False⟩) (N := N) (by rw [r.length, len ds p]; exact hN) e r rfl rfl
    refine ht.re _ _ _ _ _ _ _ I (law ds p) ⟨fun σ' A B Γ' J n => ?_, fun σ' A B Γ' d v J dv n => ?_, fun _ _ _ _ _ n => n.elim, fun _ _ _ _ _ n => n.elim⟩
    · exact q .none .non A B n ⟨fun b o h => J.exe b o h fun z => z, J.ex00, J.ex, fun b o h => J.new b o h⟩ .non
    · exact q d v A B n ⟨fun b o h => J.exe b o h fun z => z, J.ex00, J.ex, fun b o h => J.new b o h⟩ dv
/-- the first parameter is the source -/
def startS : List Str → Addr → Addr → List PD → Env
  | [], _, _, _ => []
  | _ :: N, a, c, ds => .src a c :: startD N ds
theorem fn_S {pre : List PD → Prop} {post : List PD → PD → Prop} {td : TSD} (F : Fun K x qual st f fd) (S : FnScope N ps (defScope st)) (len : ∀ ds, pre ds → ds.length + 1 = ps.length)
    (body : ∀ (cdv : Value) (A : Around) (outer : List PySem.Env) (s : Shared) (H : Hp) (E : XK), A.guards = some [] → Room k (A.deeper (envOfC qual (defScope st) s.heap.objs.size f cdv)) → ∃ t, DSs (cxOf CX0 P w K mg base N qual (defScope st) f cdv A outer s H E).nox (defBody st) t td)
    (law : ∀ a c ds, pre ds → td { nx := fun Γ => post ds .none ∧ sget Γ 0 = .src a c, rt := fun d Γ => post ds d ∧ sget Γ 0 = .src a c } (startS N a c ds)) : FnG P w K mg base (k + 1) f fd ps (spS K pre post) := by
  have hN : ps.length ≤ N.length := by have := congrArg List.length S.pre; rw [List.length_take] at this; omega
  refine fun_okG F S (fun vs H Q E h => ?_) fun cdv A outer s H vs Q E hG hr h => ?_
  · obtain ⟨H0, a, c, us, ds, rfl, _, _, _, _, r, p, _⟩ := h
    rw [List.length_cons, r.length]; exact len ds p
  · obtain ⟨H0, a, c, us, ds, rfl, e, ha, hc, so, r, p, q⟩ := h
    obtain ⟨t, ht⟩ := body cdv A outer s H E hG hr
    refine ⟨t, ht.pe, ?_⟩
    have hl : (V.ref a :: us).length ≤ N.length := by rw [List.length_cons, r.length, len ds p]; exact hN
    obtain ⟨n0, N', rfl⟩ : ∃ n0 N', N = n0 :: N' := by
      cases N with
      | nil => simp at hl
      | cons a r => exact ⟨a, r, rfl⟩
    have st0 : L2.start (n0 :: N') (V.ref a :: us) = some (.ref a) :: L2.start N' us := by
      unfold L2.start
      simp
    have I0 := env_start (K := K) (W := ⟨H, H0, fun b => b = a ∨ b = c⟩) (N := N') (vs := us) (by simp at hl; exact hl) e r rfl rfl
    have I : EnvOk K ⟨H, H0, fun b => b = a ∨ b = c⟩ (L2.start (n0 :: N') (V.ref a :: us)) H0 H (startS (n0 :: N') a c ds) := by
      rw [st0]
      refine ⟨I0.ex, I0.exe, I0.ex00, I0.al, I0.new, by show _ + 1 = _ + 1; rw [I0.len], fun i s h => ?_, fun i j s t b n h1 h2 o1 o2 => ?_⟩
      · cases i with
        | zero =>
          cases (show Sl.src a c = s by simpa [startS] using h)
          exact ⟨rfl, ⟨ha, .inl (.inl rfl)⟩, ⟨hc, .inl (.inr rfl)⟩, so⟩
        | succ i => exact I0.sl i s (by simpa [startS] using h)
      · cases i with
        | zero =>
          cases j with
          | zero => exact n rfl
          | succ j =>
            have h2 : (startD N' ds)[j]? = some t := by simpa [startS] using h2
            rcases startD_at h2 with rfl | ⟨d, hd, rfl⟩ <;> exact o2
        | succ i =>
          have h1 : (startD N' ds)[i]? = some s := by simpa [startS] using h1
          rcases startD_at h1 with rfl | ⟨d, hd, rfl⟩ <;> exact o1
    have fin : ∀ {σ' : L2.St} {A B : Hp} {Γ' : Env}, EnvOk K ⟨H, H0, fun b => b = a ∨ b = c⟩ σ' A B Γ' → sget Γ' 0 = .src a c → StpS a c H0 H A B := fun {σ' A B Γ'} J z =>
      ⟨fun b o h na nc => J.exe b o h fun z => z.elim na nc, J.ex00, J.ex, fun b o h => J.new b o h, (J.sl 0 _ (sget_some z (by intro z; cases z))).2.2.2⟩
    refine ht.re _ _ _ _ _ _ _ I (law a c ds p) ⟨fun σ' A B Γ' J n => ?_, fun σ' A B Γ' d v J dv n => ?_, fun _ _ _ _ _ n => n.elim, fun _ _ _ _ _ n => n.elim⟩
    · exact q .none .non A B n.1 (fin J n.2) .non
    · exact q d v A B n.1 (fin J n.2) dv
theorem fn_law {td : TSD} (F : Fun K x qual st f fd) (S : FnScope N ps (defScope st)) (hps : ps.length = 1)
    (body : ∀ (cdv : Value) (A : Around) (outer : List PySem.Env) (s : Shared) (H : Hp) (E : XK), A.guards = some [] → Room k (A.deeper (envOfC qual (defScope st) s.heap.objs.size f cdv)) → ∃ t, DSs (cxOf CX0 P w K mg base N qual (defScope st) f cdv A outer s H E).nox (defBody st) t td)
    (law : ∀ ns : List Int, ns.length ≤ 63 → td { nx := fun _ => False, rt := fun d _ => d = .bool true } (.scr ns :: startD (N.drop 1) [])) : FnG P w K mg base (k + 1) f fd ps (spLaw K) := by
  have hN : ps.length ≤ N.length := by have := congrArg List.length S.pre; rw [List.length_take] at this; omega
  refine fun_okG F S (fun vs H Q E h => ?_) fun cdv A outer s H vs Q E hG hr h => ?_
  · obtain ⟨a, ns, rfl, _⟩ := h
    exact hps.symm
  · obtain ⟨a, ns, rfl, hq, h63, q⟩ := h
    obtain ⟨t, ht⟩ := body cdv A outer s H E hG hr
    refine ⟨t, ht.pe, ?_⟩
    obtain ⟨n0, N', rfl⟩ : ∃ n0 N', N = n0 :: N' := by
      cases N with
      | nil => simp [hps] at hN
      | cons a r => exact ⟨a, r, rfl⟩
    have st0 : L2.start (n0 :: N') [V.ref a] = some (.ref a) :: L2.start N' [] := by
      unfold L2.start
      simp
    have I0 := env_start (K := K) (H0 := H) (H := H) (W := ⟨H, H, fun b => False⟩) (N := N') (vs := []) (Nat.zero_le _) (Same.refl _) .nil rfl rfl
    have I : EnvOk K ⟨H, H, fun b => False⟩ (L2.start (n0 :: N') [V.ref a]) H H (.scr ns :: startD N' []) := by
      rw [st0]
      refine ⟨I0.ex, I0.exe, I0.ex00, I0.al, I0.new, by show _ + 1 = _ + 1; rw [I0.len], fun i s h => ?_, fun i j s t b n h1 h2 o1 o2 => ?_⟩
      · cases i with
        | zero =>
          cases (show Sl.scr ns = s by simpa using h)
          exact ⟨a, rfl, hq⟩
        | succ i => exact I0.sl i s (by simpa using h)
      · cases i with
        | zero =>
          cases (show Sl.scr ns = s by simpa using h1)
          exact o1
        | succ i =>
          have h1 : (startD N' [])[i]? = some s := by simpa using h1
          rcases startD_at h1 with rfl | ⟨d, hd, rfl⟩ <;> exact o1
    refine ht.re _ _ _ _ _ _ _ I (law ns h63) ⟨fun σ' A B Γ' J n => n.elim, fun σ' A B Γ' d v J dv n => ?_, fun _ _ _ _ _ n => n.elim, fun _ _ _ _ _ n => n.elim⟩
    subst n
    cases dv
    exact q B
end
end DD
set_option Elab.async false
set_option linter.all false
set_option maxRecDepth 100000
set_option maxHeartbeats 2000000
/-! Lists and dicts of the def's own. -/
namespace DD
open PySem L2 PySem.Spec PyProof.Rows

section
variable {κ : Type} [DecidableEq κ]
def lookD : List (κ × PD) → κ → Option PD
  | [], _ => none
  | p :: r, k => if p.1 = k then some p.2 else lookD r k
def hasK : List (κ × PD) → κ → Bool
  | [], _ => false
  | p :: r, k => if p.1 = k then true else hasK r k
def setK : List (κ × PD) → κ → PD → List (κ × PD)
  | [], _, _ => []
  | p :: r, k, v => (if p.1 = k then (p.1, v) else p) :: setK r k v
def putD (kvs : List (κ × PD)) (k : κ) (v : PD) : List (κ × PD) := if hasK kvs k = true then setK kvs k v else kvs ++ [(k, v)]
def KvOk (K : PySem.W.Frag) (H : Hp) (vs : List (κ × V)) (kvs : List (κ × PD)) : Prop := vs.map (·.1) = kvs.map (·.1) ∧ DvAll K H (vs.map (·.2)) (kvs.map (·.2))
variable {K : PySem.W.Frag} {H : Hp}
theorem KvOk.nil : KvOk K H ([] : List (κ × V)) [] := ⟨rfl, .nil⟩
theorem KvOk.cons {p : κ × V} {q : κ × PD} {vs : List (κ × V)} {kvs : List (κ × PD)} (h : KvOk K H (p :: vs) (q :: kvs)) : p.1 = q.1 ∧ Dv K H p.2 q.2 ∧ KvOk K H vs kvs := by
  obtain ⟨e, d⟩ := h
  rw [List.map_cons, List.map_cons] at e d
  cases d with
  | cons d1 d2 => exact ⟨(List.cons.inj e).1, d1, (List.cons.inj e).2, d2⟩
theorem KvOk.mk {p : κ × V} {q : κ × PD} {vs : List (κ × V)} {kvs : List (κ × PD)} (e : p.1 = q.1) (d : Dv K H p.2 q.2) (h : KvOk K H vs kvs) : KvOk K H (p :: vs) (q :: kvs) :=
  ⟨by rw [List.map_cons, List.map_cons, e, h.1], .cons d h.2⟩
theorem KvOk.len {vs : List (κ × V)} {kvs : List (κ × PD)} (h : KvOk K H vs kvs) : vs.length = kvs.length := by simpa using congrArg List.length h.1
theorem KvOk.look {k : κ} : ∀ {vs : List (κ × V)} {kvs : List (κ × PD)}, KvOk K H vs kvs → (valV vs k = none ∧ lookD kvs k = none ∧ hasK kvs k = false) ∨ ∃ v d, valV vs k = some v ∧ lookD kvs k = some d ∧ hasK kvs k = true ∧ Dv K H v d
  | [], [], _ => .inl ⟨rfl, rfl, rfl⟩
  | [], _ :: _, h => by have := h.len; simp at this
  | _ :: _, [], h => by have := h.len; simp at this
  | p :: vs, q :: kvs, h => by
    obtain ⟨e, d, r⟩ := h.cons
    by_cases z : p.1 = k
    · exact .inr ⟨p.2, q.2, valV_pos z, by unfold lookD; rw [if_pos (e ▸ z)], by unfold hasK; rw [if_pos (e ▸ z)], d⟩
    · rw [valV_neg z]
      unfold lookD hasK
      rw [if_neg (e ▸ z), if_neg (e ▸ z)]
      exact r.look
theorem KvOk.setK {k : κ} {v : V} {d : PD} (dv : Dv K H v d) : ∀ {vs : List (κ × V)} {kvs : List (κ × PD)}, KvOk K H vs kvs → KvOk K H (vs.map fun kv => if kv.1 = k then (kv.1, v) else kv) (DD.setK kvs k d)
  | [], [], _ => .nil
  | [], _ :: _, h => by have := h.len; simp at this
  | _ :: _, [], h => by have := h.len; simp at this
  | p :: vs, q :: kvs, h => by
    obtain ⟨e, d1, r⟩ := h.cons
    rw [List.map_cons]
    unfold DD.setK
    by_cases z : p.1 = k
    · rw [if_pos z, if_pos (e ▸ z)]
      exact .mk e dv (r.setK dv)
    · rw [if_neg z, if_neg (e ▸ z)]
      exact .mk e d1 (r.setK dv)
theorem KvOk.app {vs us : List (κ × V)} {kvs lws : List (κ × PD)} (h : KvOk K H vs kvs) (g : KvOk K H us lws) : KvOk K H (vs ++ us) (kvs ++ lws) :=
  ⟨by rw [List.map_append, List.map_append, h.1, g.1], by rw [List.map_append, List.map_append]; exact h.2.app g.2⟩
theorem KvOk.put {k : κ} {v : V} {d : PD} {vs : List (κ × V)} {kvs : List (κ × PD)} (h : KvOk K H vs kvs) (dv : Dv K H v d) : KvOk K H (putK vs k v) (putD kvs k d) := by
  unfold putK putD
  rw [valV_any]
  rcases h.look (k := k) with ⟨z1, _, z2⟩ | ⟨_, _, z1, _, z2, _⟩
  · rw [z1, z2]
    exact h.app ⟨rfl, .cons dv .nil⟩
  · rw [z1, z2]
    exact h.setK dv
theorem KvOk.mono {H' : Hp} {vs : List (κ × V)} {kvs : List (κ × PD)} (e : Same H H') (h : KvOk K H vs kvs) : KvOk K H' vs kvs := ⟨h.1, h.2.mono e⟩
end
def keyOf : PD → Option Key
  | .int i => some (.inl i)
  | .str x => some (.inr x)
  | _ => none
section
variable {X : Cx} {K : PySem.W.Frag} {e a : Expr} {es : List Expr} {te ta : TE} {td tda : TD} {pos p : Pos} {x : Str} {W : Wd} {σ : L2.St} {H0 H H0' H' : Hp} {Γ : Env}
theorem keyOf_dv {d : PD} {k : Key} {v : V} (h : keyOf d = some k) (dv : Dv K H v d) : v = kV k := by
  cases d <;> simp [keyOf] at h
  · cases dv; subst h; rfl
  · cases dv; subst h; rfl
/-! ### lists -/
/-- xs.append(e) -/
def sAppend (i : Nat) (td : TD) : TSD := fun E Γ => match sget Γ i with
  | .own ds => td Γ fun d => ds.length < sizeLine ∧ E.nx (Γ.set i (.own (ds ++ [d])))
  | _ => False
theorem rs_append {i : Nat} (h : RE K te td) : RS K (tDrop (tBM K "list" rAppend (tVar i) (tCons te tNil))) (sAppend i td) := fun W σ H0 H Γ E D I t k => by
  unfold sAppend at t
  split at t
  · rename_i ds0 z
    have hs := sget_some z (by intro z; cases z)
    obtain ⟨p, vs, e1, m, q, r⟩ := I.sl i _ hs
    refine ⟨.ref p, ats_of e1, Or.inl ⟨rfl, vs, SqL.of q⟩, ?_⟩
    refine h W σ H0 H Γ _ _ I t fun d v H1 G1 t1 I1 s1 dv => ?_
    obtain ⟨p1, vs1, e2, m1, q1, r1⟩ := I1.sl i _ hs
    rw [e1] at e2
    cases e2
    refine ⟨p, vs1, v, rfl, rfl, q1, by rw [r1.length]; exact t1.1, ?_⟩
    exact k.nx _ _ _ _ (I1.change hs e1 (t := .own (ds0 ++ [d])) ⟨p, _, e1, m1, upd_same, r1.app (.cons dv .nil)⟩ fun b o => o) t1.2
  · exact t.elim
theorem ds_append {i : Nat} {y : Str} {py apos cpos : Pos} (he : DE X e te td) (hN : X.N[i]? = some y := by rfl) (hv : Vis X.env.scope y := by first | exact Or.inl rfl | exact Or.inr (Or.inl rfl) | exact Or.inr (Or.inr rfl)) (hd : (y == ("__debug__" : Str)) = false := by decide)
    (hcd : (y == ("__classdict__" : Str)) = false := by decide)
    (hbase : attributeBase (.Name y py) "append" X.env (eval (.Name y py) X.env) = eval (.Name y py) X.env := by rfl)
    (hfew : ((backTo cpos (starEach [e] X.env)).all (fun x => !x.1) && (backToKw cpos (keywordEach [] X.env)).all (fun x => x.1.isSome)
      && decide (([e] : List Expr).length + ([] : List Keyword).length + (if ([] : List Keyword).isEmpty then 0 else 1) < 30)) = true := by rfl)
    (hline : (apos.endLine == cpos.line) = true := by rfl) (hs : starEach [e] X.env = (false, eval e X.env) :: starEach [] X.env := by rfl) (hplain : (backTo cpos (starEach [] X.env)).any (·.1) = false := by rfl)
    (hsw : swapsWith (.Call (.Attribute (.Name y py) "append" apos) [e] [] cpos) none pos.line X.env = pure false := by rfl) :
    DS X (.Expr (.Call (.Attribute (.Name y py) "append" apos) [e] [] cpos) pos) (tDrop (tBM X.K "list" rAppend (tVar i) (tCons te tNil))) (sAppend i td) :=
  ⟨ps_expr (pe_bm PySem.F.plainAttrs_list PySem.F.slot_list_append PySem.F.type_list_append mt_append (pe_var hN hv hd hcd) (pa_cons he.pe pa_nil hs) hbase hfew hline hs hplain) hsw, rs_append he.re⟩
/-- target = xs.pop() -/
def sPop (i : Nat) (gd : TGD) : TSD := fun E Γ => match sget Γ i with
  | .own ds => match ds.getLast? with
    | some d => gd d (Γ.set i (.own ds.dropLast)) E.nx
    | none => False
  | _ => False
theorem DvAll.dropLast : ∀ {vs : List V} {ds : List PD}, DvAll K H vs ds → DvAll K H vs.dropLast ds.dropLast := fun {vs ds} h => by
  rw [List.dropLast_eq_take, List.dropLast_eq_take, h.length]
  exact h.take _
theorem rs_pop {ts : List Nat} {i : Nat} {g : TG} {gd : TGD} (hg : RG K ts g gd) : RS K (tAsg (tBM0 K "list" rPop (tVar i)) g) (sPop i gd) := fun W σ H0 H Γ E D I t k => by
  unfold sPop at t
  split at t
  · rename_i ds z
    have hs := sget_some z (by intro z; cases z)
    obtain ⟨p, vs, e1, m, q, r⟩ := I.sl i _ hs
    split at t
    · rename_i d hd
      rw [List.getLast?_eq_getElem?] at hd
      obtain ⟨v, hv, dv⟩ := r.getD hd
      refine ⟨.ref p, ats_of e1, Or.inl ⟨rfl, vs, SqL.of q⟩, p, vs, v, rfl, rfl, q, by rw [r.length]; exact hv, ?_⟩
      have J := I.change hs e1 (t := .own ds.dropLast) ⟨p, _, e1, m, upd_same, r.dropLast⟩ fun b o => o
      exact hg W σ _ _ _ d v E.nx D.nx J dv t fun σ' Γ' n I2 _ => k.nx _ _ _ _ I2 n
    · exact t.elim
  · exact t.elim
/-- xs.pop() as a statement -/
def sPopS (i : Nat) : TSD := fun E Γ => match sget Γ i with
  | .own ds => ds ≠ [] ∧ E.nx (Γ.set i (.own ds.dropLast))
  | _ => False
theorem rs_popS {i : Nat} : RS K (tDrop (tBM0 K "list" rPop (tVar i))) (sPopS i) := fun W σ H0 H Γ E D I t k => by
  unfold sPopS at t
  split at t
  · rename_i ds z
    have hs := sget_some z (by intro z; cases z)
    obtain ⟨p, vs, e1, m, q, r⟩ := I.sl i _ hs
    have hne : vs ≠ [] := fun z => by subst z; cases r; exact t.1 rfl
    have hl : vs.length - 1 < vs.length := by have := List.length_pos_iff.mpr hne; omega
    refine ⟨.ref p, ats_of e1, Or.inl ⟨rfl, vs, SqL.of q⟩, p, vs, _, rfl, rfl, q, List.getElem?_eq_getElem hl, ?_⟩
    exact k.nx _ _ _ _ (I.change hs e1 (t := .own ds.dropLast) ⟨p, _, e1, m, upd_same, r.dropLast⟩ fun b o => o) t.2
  · exact t.elim
theorem ds_pop {ts : List Nat} {i : Nat} {tg : Expr} {g : TG} {gd : TGD} {y : Str} {py apos cpos : Pos} (hg : DG X tg ts g gd) (hN : X.N[i]? = some y := by rfl) (hv : Vis X.env.scope y := by first | exact Or.inl rfl | exact Or.inr (Or.inl rfl) | exact Or.inr (Or.inr rfl)) (hd : (y == ("__debug__" : Str)) = false := by decide)
    (hcd : (y == ("__classdict__" : Str)) = false := by decide)
    (hbase : attributeBase (.Name y py) "pop" X.env (eval (.Name y py) X.env) = eval (.Name y py) X.env := by rfl) (hline : (apos.endLine == cpos.line) = true := by rfl)
    (hs : swapsWithSole [tg] (.Call (.Attribute (.Name y py) "pop" apos) [] [] cpos) pos.line X.env = pure false := by rfl) (hw : swappedStores [tg] (.Call (.Attribute (.Name y py) "pop" apos) [] [] cpos) X.env = pure none := by rfl)
    (h1 : (assignEach [tg] X.env).map (·.2) = [assign tg X.env] := by rfl) :
    DS X (.Assign [tg] (.Call (.Attribute (.Name y py) "pop" apos) [] [] cpos) pos) (tAsg (tBM0 X.K "list" rPop (tVar i)) g) (sPop i gd) :=
  ⟨ps_asg (pe_bm0 PySem.F.plainAttrs_list PySem.F.slot_list_pop PySem.F.type_list_pop mt_pop (pe_var hN hv hd hcd) hbase hline) hg.pe hs hw h1, rs_pop hg.re⟩
theorem ds_popS {i : Nat} {y : Str} {py apos cpos : Pos} (hN : X.N[i]? = some y := by rfl) (hv : Vis X.env.scope y := by first | exact Or.inl rfl | exact Or.inr (Or.inl rfl) | exact Or.inr (Or.inr rfl)) (hd : (y == ("__debug__" : Str)) = false := by decide)
    (hcd : (y == ("__classdict__" : Str)) = false := by decide)
    (hbase : attributeBase (.Name y py) "pop" X.env (eval (.Name y py) X.env) = eval (.Name y py) X.env := by rfl) (hline : (apos.endLine == cpos.line) = true := by rfl)
    (hs : swapsWith (.Call (.Attribute (.Name y py) "pop" apos) [] [] cpos) none pos.line X.env = pure false := by rfl) :
    DS X (.Expr (.Call (.Attribute (.Name y py) "pop" apos) [] [] cpos) pos) (tDrop (tBM0 X.K "list" rPop (tVar i))) (sPopS i) :=
  ⟨ps_expr (pe_bm0 PySem.F.plainAttrs_list PySem.F.slot_list_pop PySem.F.type_list_pop mt_pop (pe_var hN hv hd hcd) hbase hline) hs, rs_popS⟩
/-- xs[k] = e -/
def sSetL (i : Nat) (tv tk : TD) : TSD := fun E Γ => match sget Γ i with
  | .own ds => tv Γ fun d => tk Γ fun n => match n with
    | .int n => ∃ j, ixN ds.length n = some j ∧ E.nx (Γ.set i (.own (ds.set j d)))
    | _ => False
  | _ => False
theorem rs_setL {i : Nat} (hv : RE K te td) (hk : RE K ta tda) : RS K (tAsg te (gSub (tVar i) ta rSetL)) (sSetL i td tda) := fun W σ H0 H Γ E D I t k => by
  unfold sSetL at t
  split at t
  · rename_i ds z
    have hs := sget_some z (by intro z; cases z)
    refine hv W σ H0 H Γ _ _ I t fun d v H1 G1 t1 I1 s1 dv => ?_
    obtain ⟨p, vs, e1, m, q, r⟩ := I1.sl i _ hs
    refine ⟨.ref p, ats_of e1, ?_⟩
    refine hk W σ H1 G1 Γ _ _ I1 t1 fun n u H2 G2 t2 I2 s2 du => ?_
    cases n with
    | int n =>
      cases du
      obtain ⟨j, hj, t2⟩ := t2
      obtain ⟨p2, vs2, e2, m2, q2, r2⟩ := I2.sl i _ hs
      rw [e1] at e2
      cases e2
      refine ⟨p, vs2, n, j, rfl, rfl, q2, by rw [r2.length]; exact hj, ?_⟩
      exact k.nx _ _ _ _ (I2.change hs e1 (t := .own (ds.set j d)) ⟨p, _, e1, m2, upd_same, r2.set j (dv.mono s2)⟩ fun b o => o) t2
    | _ => exact t2.elim
  · exact t.elim
theorem ds_setItem {i : Nat} {ke ve : Expr} {y : Str} {py p2 : Pos} (hv : DE X ve te td) (hk : DE X ke ta tda) (hN : X.N[i]? = some y := by rfl) (hvs : Vis X.env.scope y := by first | exact Or.inl rfl | exact Or.inr (Or.inl rfl) | exact Or.inr (Or.inr rfl)) (hd : (y == ("__debug__" : Str)) = false := by decide)
    (hcd : (y == ("__classdict__" : Str)) = false := by decide)
    (ha : ∀ v, assign (.Subscript (.Name y py) ke p2) X.env v = (do
      let ov ← holding [v] (eval (.Name y py) X.env)
      let iv ← holding [v, ov] (eval ke X.env)
      standAt p2
      holding [v, ov, iv] (setItem ov iv v)
      release [v, ov, iv] []) := by intro _; rfl)
    (hs : swapsWithSole [.Subscript (.Name y py) ke p2] ve pos.line X.env = pure false := by rfl) (hw : swappedStores [.Subscript (.Name y py) ke p2] ve X.env = pure none := by rfl)
    (h1 : (assignEach [.Subscript (.Name y py) ke p2] X.env).map (·.2) = [assign (.Subscript (.Name y py) ke p2) X.env] := by rfl) :
    DS X (.Assign [.Subscript (.Name y py) ke p2] ve pos) (tAsg te (gSub (tVar i) ta rSetL)) (sSetL i td tda) :=
  ⟨ps_asg hv.pe (pg_sub (pe_var hN hvs hd hcd) hk.pe set_list ha) hs hw h1, rs_setL hv.re hk.re⟩
/-! ### dicts with keys that are ints or texts -/
/-- k in d -/
def oDIn (tk : TD) (i : Nat) : TD := fun Γ φ => match sget Γ i with
  | .dic kvs => tk Γ fun d => match keyOf d with
    | some k => φ (.bool (lookD kvs k).isSome)
    | none => False
  | _ => False
def oDNotIn (tk : TD) (i : Nat) : TD := fun Γ φ => match sget Γ i with
  | .dic kvs => tk Γ fun d => match keyOf d with
    | some k => φ (.bool (!(lookD kvs k).isSome))
    | none => False
  | _ => False
theorem look_isSome {vs : List (Key × V)} {kvs : List (Key × PD)} {k : Key} (h : KvOk K H vs kvs) : (valV vs k).isSome = (lookD kvs k).isSome := by
  rcases h.look (k := k) with ⟨a, b, _⟩ | ⟨v, d, a, b, _⟩ <;> rw [a, b] <;> rfl
theorem re_din {i : Nat} (h : RE K te td) : RE K (tDIn te (tVar i)) (oDIn td i) := fun W σ H0 H Γ φ Q I t k => by
  unfold oDIn at t
  split at t
  · rename_i kvs z
    have hs := sget_some z (by intro z; cases z)
    refine h W σ H0 H Γ _ _ I t fun d v H1 G1 t1 I1 s1 dv => ?_
    split at t1
    · rename_i key hk
      obtain ⟨p, vs, e1, m, q, r⟩ := I1.sl i _ hs
      refine ⟨.ref p, ats_of e1, p, _, rfl, by rw [keyOf_dv hk dv]; exact DGet.k q, ?_⟩
      rw [look_isSome r]
      exact k _ _ _ _ t1 I1 s1 (.bl _)
    · exact t1.elim
  · exact t.elim
theorem re_dnotin {i : Nat} (h : RE K te td) : RE K (tDNotIn te (tVar i)) (oDNotIn td i) := fun W σ H0 H Γ φ Q I t k => by
  unfold oDNotIn at t
  split at t
  · rename_i kvs z
    have hs := sget_some z (by intro z; cases z)
    refine h W σ H0 H Γ _ _ I t fun d v H1 G1 t1 I1 s1 dv => ?_
    split at t1
    · rename_i key hk
      obtain ⟨p, vs, e1, m, q, r⟩ := I1.sl i _ hs
      refine ⟨.ref p, ats_of e1, p, _, rfl, by rw [keyOf_dv hk dv]; exact DGet.k q, ?_⟩
      rw [look_isSome r]
      exact k _ _ _ _ t1 I1 s1 (.bl _)
    · exact t1.elim
  · exact t.elim
theorem dt_din {i : Nat} {y : Str} {py : Pos} (hu : X.A.units + 1 < cLine) (h : DE X e te td) (hN : X.N[i]? = some y := by rfl) (hvs : Vis X.env.scope y := by first | exact Or.inl rfl | exact Or.inr (Or.inl rfl) | exact Or.inr (Or.inr rfl)) (hd : (y == ("__debug__" : Str)) = false := by decide)
    (hcd : (y == ("__classdict__" : Str)) = false := by decide) (h1 : behindInMarks .In (.Name y py) = false := by rfl) : DT X (.Compare e [.In] [.Name y py] pos) (tB (tDIn te (tVar i))) (oTest (oDIn td i)) :=
  ⟨pt_cmp (pc_din hu h.pe (pe_var hN hvs hd hcd)) h1, rt_B (re_din h.re)⟩
theorem dt_dnotin {i : Nat} {y : Str} {py : Pos} (hu : X.A.units + 1 < cLine) (h : DE X e te td) (hN : X.N[i]? = some y := by rfl) (hvs : Vis X.env.scope y := by first | exact Or.inl rfl | exact Or.inr (Or.inl rfl) | exact Or.inr (Or.inr rfl)) (hd : (y == ("__debug__" : Str)) = false := by decide)
    (hcd : (y == ("__classdict__" : Str)) = false := by decide) (h1 : behindInMarks .NotIn (.Name y py) = false := by rfl) : DT X (.Compare e [.NotIn] [.Name y py] pos) (tB (tDNotIn te (tVar i))) (oTest (oDNotIn td i)) :=
  ⟨pt_cmp (pc_dnotin hu h.pe (pe_var hN hvs hd hcd)) h1, rt_B (re_dnotin h.re)⟩
/-- d[k] -/
def oDGet (i : Nat) (tk : TD) : TD := fun Γ φ => match sget Γ i with
  | .dic kvs => tk Γ fun d => match keyOf d with
    | some k => ∃ v, lookD kvs k = some v ∧ φ v
    | none => False
  | _ => False
theorem re_dget {i : Nat} (h : RE K te td) : RE K (tDGet (tVar i) te) (oDGet i td) := fun W σ H0 H Γ φ Q I t k => by
  unfold oDGet at t
  split at t
  · rename_i kvs z
    have hs := sget_some z (by intro z; cases z)
    obtain ⟨p, _, e1, _⟩ := I.sl i _ hs
    refine ⟨.ref p, ats_of e1, ?_⟩
    refine h W σ H0 H Γ _ _ I t fun d v H1 G1 t1 I1 s1 dv => ?_
    split at t1
    · rename_i key hk
      obtain ⟨u, hu, t1⟩ := t1
      obtain ⟨p1, vs, e2, m, q, r⟩ := I1.sl i _ hs
      rw [e1] at e2; cases e2
      rcases KvOk.look (k := key) r with ⟨_, b, _⟩ | ⟨y, d2, a, b, _, dy⟩
      · rw [hu] at b; cases b
      · rw [hu] at b; cases b
        exact ⟨p, y, rfl, by rw [keyOf_dv hk dv, ← a]; exact DGet.k q, k _ _ _ _ t1 I1 s1 dy⟩
    · exact t1.elim
  · exact t.elim
theorem de_dget {i : Nat} {y : Str} {py : Pos} (hu : X.A.units + 1 < cLine) (h : DE X e te td) (hsl : NoSl e) (hN : X.N[i]? = some y := by rfl) (hvs : Vis X.env.scope y := by first | exact Or.inl rfl | exact Or.inr (Or.inl rfl) | exact Or.inr (Or.inr rfl)) (hd : (y == ("__debug__" : Str)) = false := by decide)
    (hcd : (y == ("__classdict__" : Str)) = false := by decide) : DE X (.Subscript (.Name y py) e pos) (tDGet (tVar i) te) (oDGet i td) := ⟨pe_dget hu (pe_var hN hvs hd hcd) h.pe hsl, re_dget h.re⟩
/-- d[k] = v -/
def sDPutD (i : Nat) (tv tk : TD) : TSD := fun E Γ => match sget Γ i with
  | .dic kvs => tv Γ fun v => tk Γ fun d => match keyOf d with
    | some k => kvs.length < sizeLine ∧ E.nx (Γ.set i (.dic (putD kvs k v)))
    | none => False
  | _ => False
theorem rs_dput {i : Nat} (hv : RE K te td) (hk : RE K ta tda) : RS K (sDPut (tVar i) ta te) (sDPutD i td tda) := fun W σ H0 H Γ E D I t k => by
  unfold sDPutD at t
  split at t
  · rename_i kvs z
    have hs := sget_some z (by intro z; cases z)
    refine hv W σ H0 H Γ _ _ I t fun d v H1 G1 t1 I1 s1 dv => ?_
    obtain ⟨p, _, e1, _⟩ := I1.sl i _ hs
    refine ⟨.ref p, ats_of e1, ?_⟩
    refine hk W σ H1 G1 Γ _ _ I1 t1 fun n u H2 G2 t2 I2 s2 du => ?_
    split at t2
    · rename_i key hk
      obtain ⟨p2, vs2, e2, m2, q2, r2⟩ := I2.sl i _ hs
      rw [e1] at e2
      cases e2
      refine ⟨p, _, rfl, by rw [keyOf_dv hk du]; exact DPut.k q2 (by rw [KvOk.len r2]; exact t2.1), ?_⟩
      have r3 := KvOk.put (k := key) r2 (dv.mono s2)
      exact k.nx _ _ _ _ (I2.change hs e1 (t := .dic (putD kvs key d)) ⟨p, _, e1, m2, upd_same, r3.1, r3.2⟩ fun b o => o) t2.2
    · exact t2.elim
  · exact t.elim
theorem ds_dput {i : Nat} {ke ve : Expr} {y : Str} {py p2 : Pos} (hu : X.A.units + 1 < cLine) (hv : DE X ve te td) (hk : DE X ke ta tda) (hN : X.N[i]? = some y := by rfl) (hvs : Vis X.env.scope y := by first | exact Or.inl rfl | exact Or.inr (Or.inl rfl) | exact Or.inr (Or.inr rfl)) (hd : (y == ("__debug__" : Str)) = false := by decide)
    (hcd : (y == ("__classdict__" : Str)) = false := by decide) (hs : swapsWith ve (some (.Subscript (.Name y py) ke p2)) pos.line X.env = pure false := by rfl) :
    DS X (.Assign [.Subscript (.Name y py) ke p2] ve pos) (sDPut (tVar i) ta te) (sDPutD i td tda) := ⟨ps_dput hu (pe_var hN hvs hd hcd) hk.pe hv.pe hs, rs_dput hv.re hk.re⟩
end
end DD
set_option Elab.async false
set_option linter.all false
set_option maxRecDepth 100000
set_option maxHeartbeats 2000000
/-! Several targets at once; what is new; update. -/
namespace DD
open PySem L2 PySem.Spec PyProof.Rows

abbrev TFD := Env → (Sl → Prop) → Prop
abbrev TMD := Env → (List Sl → Prop) → Prop
/-- a value, or a new list or dict of the def's own -/
def RF (K : PySem.W.Frag) (te : TE) (td : TFD) : Prop := ∀ (W : Wd) (σ : L2.St) (H0 H : Hp) (Γ : Env) (φ : Sl → Prop) (Q : VK), EnvOk K W σ H0 H Γ → td Γ φ →
  (∀ s v H0' H', φ s → EnvOk K W σ H0' H' Γ → Same H0 H0' → SlOk K W H0' H' (some v) s → (∀ b, Owns (some v) b s → ¬ OwnedIn σ Γ b ∧ ¬ isSrc s) → Q v H') → te σ H Q
inductive Nws (K : PySem.W.Frag) (W : Wd) (σ : L2.St) (Γ : Env) (H0 H : Hp) : List V → List Sl → Prop
  | nil : Nws K W σ Γ H0 H [] []
  | cons {v : V} {vs : List V} {s : Sl} {ss : List Sl} : SlOk K W H0 H (some v) s → (∀ b, Owns (some v) b s → ¬ OwnedIn σ Γ b ∧ ¬ isSrc s) →
      (∀ b, Owns (some v) b s → ∀ (i : Nat) (u : V) (t : Sl), vs[i]? = some u → ss[i]? = some t → ¬ Owns (some u) b t) → Nws K W σ Γ H0 H vs ss → Nws K W σ Γ H0 H (v :: vs) (s :: ss)
def RM (K : PySem.W.Frag) (ta : TA) (td : TMD) : Prop := ∀ (W : Wd) (σ : L2.St) (H0 H : Hp) (Γ : Env) (φ : List Sl → Prop) (Q : List V → Hp → Prop), EnvOk K W σ H0 H Γ → td Γ φ →
  (∀ ss vs H0' H', φ ss → EnvOk K W σ H0' H' Γ → Same H0 H0' → Nws K W σ Γ H0' H' vs ss → Q vs H') → ta σ H Q
structure DF (X : Cx) (e : Expr) (te : TE) (td : TFD) : Prop where
  pe : PE X e te
  re : RF X.K te td
structure DM (X : Cx) (es : List Expr) (ta : TA) (td : TMD) : Prop where
  pe : PA X es ta
  re : RM X.K ta td
def fVa (td : TD) : TFD := fun Γ φ => td Γ fun d => φ (.va d)
def fOwn (tl : TAD) : TFD := fun Γ φ => tl Γ fun ds => φ (.own ds)
def fDic : TFD := fun _ φ => φ (.dic [])
def fDit : TFD := fun _ φ => φ (.dit [])
def mNil : TMD := fun _ φ => φ []
def mCons (t : TFD) (r : TMD) : TMD := fun Γ φ => t Γ fun s => r Γ fun ss => φ (s :: ss)
section
variable {X : Cx} {K : PySem.W.Frag} {e a b c : Expr} {es : List Expr} {te ta' : TE} {ta : TA} {td tda : TD} {tl : TAD} {tf : TFD} {tm : TMD} {pos p : Pos} {x : Str} {W : Wd} {σ : L2.St} {H0 H H0' H' : Hp} {Γ : Env}
theorem DE.f (h : DE X e te td) : DF X e te (fVa td) := ⟨h.pe, fun W σ H0 H Γ φ Q I t k => h.re W σ H0 H Γ _ _ I t fun d v A B f J s dv => k (.va d) v A B f J s ⟨v, rfl, dv⟩ fun b o => o.elim⟩
theorem DL.f (h : DL X e te tl) : DF X e te (fOwn tl) := ⟨h.pe, fun W σ H0 H Γ φ Q I t k => h.re W σ H0 H Γ _ _ I t fun ds p vs A B f J s m ap hp dv => k (.own ds) _ A B f J s ⟨p, vs, rfl, m, hp, dv⟩ fun b o => by
  have o : some (V.ref p) = some (V.ref b) := o
  cases o
  exact ⟨fun ⟨i, t, hi, ow⟩ => ap i t _ hi ow rfl, fun z => z⟩⟩
theorem df_dic : DF X (.Dict [] [] pos) tDNewK fDic := ⟨pe_dnewK, fun W σ H0 H Γ φ Q I t k => fun p hp => by
  refine k (.dic []) _ H0 _ t (I.step (Stp.own I.ex hp _)) (Same.refl _) ⟨p, [], rfl, I.mine hp, upd_same, rfl, .nil⟩ fun b o => ?_
  have o : some (V.ref p) = some (V.ref b) := o
  cases o
  exact ⟨not_owned_of_none I hp, fun z => z⟩⟩
theorem df_dit : DF X (.Dict [] [] pos) tDNewT fDit := ⟨pe_dnewT, fun W σ H0 H Γ φ Q I t k => fun p hp => by
  refine k (.dit []) _ H0 _ t (I.step (Stp.own I.ex hp _)) (Same.refl _) ⟨p, [], rfl, I.mine hp, upd_same, rfl, .nil⟩ fun b o => ?_
  have o : some (V.ref p) = some (V.ref b) := o
  cases o
  exact ⟨not_owned_of_none I hp, fun z => z⟩⟩
/-- one new thing, at a name -/
def sNew (i : Nat) (tf : TFD) : TSD := fun E Γ => tf Γ fun s => E.nx (Γ.set i s)
theorem rs_new {i : Nat} (h : RF K te tf) : RS K (tAsg te (gName i)) (sNew i tf) := fun W σ H0 H Γ E D I t k => by
  refine h W σ H0 H Γ _ _ I t fun s v A B n J s0 ok fr => ?_
  exact k.nx _ _ _ _ (J.put ok fun b o j t _ hj ow => (fr b o).1 ⟨j, t, hj, ow⟩) n
theorem ds_new {i : Nat} {pos' : Pos} (hN : X.N.Nodup) (hi : X.N[i]? = some x) (hx : Loc X.env.scope x) (he : DF X e te tf) (hf : X.fn x = true ∨ X.env.scope.names.lookup x = some .local) (hs : swapsWith e (some (.Name x pos')) pos.line X.env = pure false := by rfl) :
    DS X (.Assign [.Name x pos'] e pos) (tAsg te (gName i)) (sNew i tf) := ⟨ps_set hN hi hx he.pe hs hf, rs_new he.re⟩
theorem dm_nil : DM X [] tNil mNil := ⟨pa_nil, fun W σ H0 H Γ φ Q I t k => k [] [] H0 H t I (Same.refl _) .nil⟩
theorem owned_of_slok {s : Sl} {v : Option V} {b : Addr} (h : SlOk K W H0 H v s) (o : Owns v b s) : (∃ u, H b = some u) ∧ Mine W H0 b := by
  have J : ∀ {s : Sl}, SlOk K W H0 H v s → Owns v b s → (∃ u, H b = some u) ∧ Mine W H0 b := by
    intro s q ow
    cases s with
    | un => exact ow.elim
    | va d => exact ow.elim
    | own ds =>
      obtain ⟨p, vs, e, m, r, _⟩ := q
      have ow : v = some (.ref b) := ow
      rw [ow] at e; cases e
      exact ⟨⟨_, r⟩, m.m⟩
    | dic ds =>
      obtain ⟨p, vs, e, m, r, _⟩ := q
      have ow : v = some (.ref b) := ow
      rw [ow] at e; cases e
      exact ⟨⟨_, r⟩, m.m⟩
    | dit ds =>
      obtain ⟨p, vs, e, m, r, _⟩ := q
      have ow : v = some (.ref b) := ow
      rw [ow] at e; cases e
      exact ⟨⟨_, r⟩, m.m⟩
    | src a c =>
      obtain ⟨e, m, n, cs, l, u, t, h1, h2⟩ := q
      rcases ow with rfl | rfl
      · exact ⟨⟨_, h1⟩, m⟩
      · exact ⟨⟨_, h2⟩, n⟩
    | scr ns => exact ow.elim
  exact J h o
/-- what stands at a slot, once what it leans on stands -/
theorem SlOk.carry {W : Wd} {s : Sl} {v : Option V} (h : SlOk K W H0 H v s) (s0 : Same H0 H0') (ns : ∀ b, Owns v b s → ¬ isSrc s) (kp : ∀ b o, Owns v b s → H b = some o → H' b = some o ∧ H0' b = none) : SlOk K W H0' H' v s := by
  cases s with
  | un => trivial
  | va d => obtain ⟨u, e, q⟩ := h; exact ⟨u, e, q.mono s0⟩
  | own ds => obtain ⟨p, vs, e, m, r, d⟩ := h; exact ⟨p, vs, e, ⟨(kp p _ e r).2, m.2⟩, (kp p _ e r).1, d.mono s0⟩
  | dic ds => obtain ⟨p, vs, e, m, r, k, d⟩ := h; exact ⟨p, vs, e, ⟨(kp p _ e r).2, m.2⟩, (kp p _ e r).1, k, d.mono s0⟩
  | dit ds => obtain ⟨p, vs, e, m, r, k, d⟩ := h; exact ⟨p, vs, e, ⟨(kp p _ e r).2, m.2⟩, (kp p _ e r).1, k, d.mono s0⟩
  | src a c => exact (ns a (.inl rfl) trivial).elim
  | scr ns => obtain ⟨a, e, q⟩ := h; exact ⟨a, e, s0.seq q⟩
theorem Nws.world {W W' : Wd} {vs : List V} {ss : List Sl} (h : Nws K W σ Γ H0 H vs ss) (he : ∀ b, ¬ OwnedIn σ Γ b → W.He b = none → W'.He b = none) : Nws K W' σ Γ H0 H vs ss := by
  induction h with
  | nil => exact .nil
  | @cons v vs s ss ok fr ap r ih =>
    have hh : ∀ b, Owns (some v) b s → W'.He b = none := fun b o => by
      refine he b (fr b o).1 ?_
      cases s with
      | un => exact o.elim
      | va d => exact o.elim
      | own ds => obtain ⟨p, vs, e, m, _⟩ := ok; have o : some v = some (.ref b) := o; rw [o] at e; cases e; exact m.2
      | dic ds => obtain ⟨p, vs, e, m, _⟩ := ok; have o : some v = some (.ref b) := o; rw [o] at e; cases e; exact m.2
      | dit ds => obtain ⟨p, vs, e, m, _⟩ := ok; have o : some v = some (.ref b) := o; rw [o] at e; cases e; exact m.2
      | src a c => exact ((fr a (.inl rfl)).2 trivial).elim
      | scr ns => exact o.elim
    exact .cons (ok.world (fun b o => ⟨(owned_of_slok ok o).2.1, .inr (hh b o)⟩) fun b o _ => hh b o) fr ap ih
theorem rm_cons {te : TE} (h : RF K te tf) (hr : RM K ta tm) : RM K (tCons te ta) (mCons tf tm) := fun W σ H0 H Γ φ Q I t k => by
  refine h W σ H0 H Γ _ _ I t fun s v H1 G1 t1 I1 s1 ok fr => ?_
  refine hr (nowW σ Γ H1 G1) σ H1 G1 Γ _ _ I1.now t1 fun ss vs H2 G2 t2 I2 s2 nw => ?_
  have K2 : ∀ b o, Owns (some v) b s → G1 b = some o → G2 b = some o ∧ H2 b = none := fun b o ow hb => by
    have nb := (fr b ow).1
    have h2 := I2.exe b o (nowHe_of hb nb) fun z => z
    refine ⟨h2, ?_⟩
    cases z : H2 b with
    | none => rfl
    | some u =>
      rcases I2.new b u z with ⟨o', z'⟩ | z'
      · have z' : H1 b = some o' := z'
        rw [(owned_of_slok ok ow).2.1] at z'; cases z'
      · have z' : nowHe σ Γ G1 b = none := z'
        rw [nowHe_of hb nb] at z'; cases z'
  have nw' : Nws K W σ Γ H2 G2 vs ss := nw.world fun b nb hb => by
    have hb : nowHe σ Γ G1 b = none := hb
    cases q : W.He b with
    | none => rfl
    | some u =>
      obtain ⟨u', z⟩ := I1.al b u q
      rw [nowHe_of z nb] at hb; cases hb
  refine k _ _ H2 G2 t2 (I1.back I2) (s1.trans s2) (.cons (ok.carry s2 (fun b o => (fr b o).2) K2) fr (fun b ow i u t hu ht ow2 => ?_) nw')
  -- what came later is newer than what came first
  obtain ⟨o, hb⟩ := (owned_of_slok ok ow).1
  have nb := (fr b ow).1
  have later : ∀ {vs : List V} {ss : List Sl}, Nws K (nowW σ Γ H1 G1) σ Γ H2 G2 vs ss → ∀ (i : Nat) (u : V) (t : Sl), vs[i]? = some u → ss[i]? = some t → Owns (some u) b t → False := by
    intro vs ss nw
    induction nw with
    | nil => intro i u t hu; simp at hu
    | @cons v' vs' s' ss' ok' fr' ap' r' ih =>
      intro i u t hu ht ow2
      cases i with
      | zero =>
        cases (show v' = u by simpa using hu)
        cases (show s' = t by simpa using ht)
        have hh : nowHe σ Γ G1 b = none := by
          cases s' with
          | un => exact ow2.elim
          | va d => exact ow2.elim
          | own ds => obtain ⟨p, vs, e, m, _⟩ := ok'; have o : some v' = some (.ref b) := ow2; rw [o] at e; cases e; exact m.2
          | dic ds => obtain ⟨p, vs, e, m, _⟩ := ok'; have o : some v' = some (.ref b) := ow2; rw [o] at e; cases e; exact m.2
          | dit ds => obtain ⟨p, vs, e, m, _⟩ := ok'; have o : some v' = some (.ref b) := ow2; rw [o] at e; cases e; exact m.2
          | src a c => exact ((fr' a (.inl rfl)).2 trivial).elim
          | scr ns => exact ow2.elim
        rw [nowHe_of hb nb] at hh; cases hh
      | succ i => exact ih i u t (by simpa using hu) (by simpa using ht) ow2
  exact later nw i u t hu ht ow2
theorem dm_cons {te : TE} (h : DF X e te tf) (hr : DM X es ta tm) (hs : starEach (e :: es) X.env = (false, eval e X.env) :: starEach es X.env := by rfl) : DM X (e :: es) (tCons te ta) (mCons tf tm) := ⟨pa_cons h.pe hr.pe hs, rm_cons h.re hr.re⟩
/-! ### a, b = x, y -/
def sPar2 (i j : Nat) (tm : TMD) : TSD := fun E Γ => tm Γ fun ss => match ss with
  | [s, t] => E.nx ((Γ.set i s).set j t)
  | _ => False
def sPar3 (i j l : Nat) (tm : TMD) : TSD := fun E Γ => tm Γ fun ss => match ss with
  | [s, t, u] => E.nx (((Γ.set i s).set j t).set l u)
  | _ => False
/-- behind one put: what else is owned -/
theorem owned_put {i : Nat} {v : V} {s : Sl} {b : Addr} (hl : σ.length = Γ.length) : OwnedIn (σ.set i (some v)) (Γ.set i s) b → OwnedIn σ Γ b ∨ Owns (some v) b s := fun ⟨j, t, hj, ow⟩ => by
  by_cases e : i = j
  · subst e
    have hi : i < Γ.length := by have := (List.getElem?_eq_some_iff.mp hj).1; rw [List.length_set] at this; exact this
    rw [List.getElem?_set_self hi] at hj
    cases hj
    rw [ats_set_same (by rw [hl]; exact hi)] at ow
    exact .inr ow
  · rw [List.getElem?_set_ne e] at hj
    rw [ats_set_ne e] at ow
    exact .inl ⟨j, t, hj, ow⟩
theorem EnvOk.put' (I : EnvOk K W σ H0 H Γ) {i : Nat} {v : V} {s : Sl} (ok : SlOk K W H0 H (some v) s) (fr : ∀ b, Owns (some v) b s → ¬ OwnedIn σ Γ b) : EnvOk K W (σ.set i (some v)) H0 H (Γ.set i s) :=
  I.put ok fun b o j t _ hj ow => fr b o ⟨j, t, hj, ow⟩
theorem rs_par2 {i j : Nat} (h : RM K ta tm) : RS K (tPar i j ta) (sPar2 i j tm) := fun W σ H0 H Γ E D I t k => by
  refine h W σ H0 H Γ _ _ I t fun ss vs A B t1 J s0 nw => ?_
  split at t1
  · cases nw with
    | cons ok fr ap nw =>
      cases nw with
      | cons ok2 fr2 ap2 nw =>
        cases nw
        refine ⟨_, _, rfl, k.nx _ A B _ ?_ t1⟩
        exact (J.put' ok fun b o => (fr b o).1).put' ok2 fun b o z => (owned_put J.len z).elim (fr2 b o).1 fun z => ap b z 0 _ _ rfl rfl o
  · exact t1.elim
theorem rs_par3 {i j l : Nat} (h : RM K ta tm) : RS K (tPar3 i j l ta) (sPar3 i j l tm) := fun W σ H0 H Γ E D I t k => by
  refine h W σ H0 H Γ _ _ I t fun ss vs A B t1 J s0 nw => ?_
  split at t1
  · cases nw with
    | cons ok fr ap nw =>
      cases nw with
      | cons ok2 fr2 ap2 nw =>
        cases nw with
        | cons ok3 fr3 ap3 nw =>
          cases nw
          refine ⟨_, _, _, rfl, k.nx _ A B _ ?_ t1⟩
          have J1 := J.put' (i := i) ok fun b o => (fr b o).1
          have J2 := J1.put' (i := j) ok2 fun b o z => (owned_put J.len z).elim (fr2 b o).1 fun z => ap b z 0 _ _ rfl rfl o
          exact J2.put' ok3 fun b o z => (owned_put J1.len z).elim (fun z => (owned_put J.len z).elim (fr3 b o).1 fun z => ap b z 1 _ _ rfl rfl o) fun z => ap2 b z 0 _ _ rfl rfl o
  · exact t1.elim
theorem ds_par2 {i j : Nat} {x y : Str} {px py pt : Pos} {kt k2 pt2} (hc : X.calm = true) (hN : X.N.Nodup) (hi : X.N[i]? = some x) (hj : X.N[j]? = some y) (hij : i ≠ j)
    (hx : X.env.scope.names.lookup x = some .local) (hy : X.env.scope.names.lookup y = some .local) (ha : DM X [a, b] ta tm)
    (hw : swappedStores [.Tuple [.Name x px, .Name y py] kt pt] (.Tuple [a, b] k2 pt2) X.env = pure (some [x, y]))
    (hs : swapsWithSole [.Tuple [.Name x px, .Name y py] kt pt] (.Tuple [a, b] k2 pt2) pos.line X.env = pure false := by rfl) :
    DS X (.Assign [.Tuple [.Name x px, .Name y py] kt pt] (.Tuple [a, b] k2 pt2) pos) (tPar i j ta) (sPar2 i j tm) := ⟨ps_par hc hN hi hj hij hx hy ha.pe hw hs, rs_par2 ha.re⟩
theorem ds_par3 {i j l : Nat} {x y z : Str} {px py pz pt : Pos} {kt k2 pt2} (hc : X.calm = true) (hN : X.N.Nodup) (hi : X.N[i]? = some x) (hj : X.N[j]? = some y) (hl : X.N[l]? = some z) (hij : i ≠ j) (hil : i ≠ l) (hjl : j ≠ l)
    (hx : X.env.scope.names.lookup x = some .local) (hy : X.env.scope.names.lookup y = some .local) (hz : X.env.scope.names.lookup z = some .local) (ha : DM X [a, b, c] ta tm)
    (hw : swappedStores [.Tuple [.Name x px, .Name y py, .Name z pz] kt pt] (.Tuple [a, b, c] k2 pt2) X.env = pure (some [x, y, z]))
    (hs : swapsWithSole [.Tuple [.Name x px, .Name y py, .Name z pz] kt pt] (.Tuple [a, b, c] k2 pt2) pos.line X.env = pure false := by rfl) :
    DS X (.Assign [.Tuple [.Name x px, .Name y py, .Name z pz] kt pt] (.Tuple [a, b, c] k2 pt2) pos) (tPar3 i j l ta) (sPar3 i j l tm) := ⟨ps_par3 hc hN hi hj hl hij hil hjl hx hy hz ha.pe hw hs, rs_par3 ha.re⟩
end
end DD
set_option Elab.async false
set_option linter.all false
set_option maxRecDepth 100000
set_option maxHeartbeats 2000000
/-! Further forms. -/
namespace DD
open PySem L2 PySem.Spec PyProof.Rows RZ

theorem bt_len : bootBuiltins "len" = some (.builtin "len") := by decide +kernel
theorem bt_abs : bootBuiltins "abs" = some (.builtin "abs") := by decide +kernel
theorem bt_max : bootBuiltins "max" = some (.builtin "max") := by decide +kernel
theorem bt_min : bootBuiltins "min" = some (.builtin "min") := by decide +kernel
theorem bt_sum : bootBuiltins "sum" = some (.builtin "sum") := by decide +kernel
theorem bt_all : bootBuiltins "all" = some (.builtin "all") := by decide +kernel
theorem bt_any : bootBuiltins "any" = some (.builtin "any") := by decide +kernel
theorem bt_sorted : bootBuiltins "sorted" = some (.builtin "sorted") := by decide +kernel
theorem bt_repr : bootBuiltins "repr" = some (.builtin "repr") := by decide +kernel
theorem bt_isinstance : bootBuiltins "isinstance" = some (.builtin "isinstance") := by decide +kernel
theorem bt_int : bootBuiltins "int" = some (.type "int") := by decide +kernel
theorem bt_tuple : bootBuiltins "tuple" = some (.type "tuple") := by decide +kernel
theorem bt_list : bootBuiltins "list" = some (.type "list") := by decide +kernel
theorem bt_dict : bootBuiltins "dict" = some (.type "dict") := by decide +kernel
theorem bt_range : bootBuiltins "range" = some (.type "range") := by decide +kernel

/-- a def of the text with its promise -/
structure Here (P : Program) (w : World) (K : PySem.W.Frag) (mg : Str → Option Value) (base : Heap) (k : Nat) (x : Str) (ps : List Str) (sp : Sp) : Prop where
  ex : ∃ (f : Addr) (fd : FuncData), FnG P w K mg base k f fd ps sp ∧ mg x = some (.ref f) ∧ PySem.W.keepIn K (.ref f) = true ∧ Binds K fd ps []
section
variable {X : Cx} {K : PySem.W.Frag} {e a b c : Expr} {es : List Expr} {te ta tb tc : TE} {tra : TA} {tr : TAD} {td tda tdb tdc : TD} {pos p : Pos} {x : Str} {k : Nat} {ps : List Str}
theorem dc_fn {pre : List PD → Prop} {post : List PD → PD → Prop} (F : Here X.prog X.w X.K X.mg X.base k x ps (spD X.K pre post)) (hr : Room k X.A) (hG : X.A.guards = some []) (hg : Gl X x)
    (ha : DA X (e :: es) tra tr) (hdb : (x == ("__debug__" : Str)) = false := by decide) (he : starEach (e :: es) X.env = (false, eval e X.env) :: starEach es X.env := by rfl) (hpl : (backTo pos (starEach es X.env)).any (·.1) = false := by rfl) :
    DE X (.Call (.Name x p) (e :: es) [] pos) (tCl (spD X.K pre post) tra) (oFn pre post tr) := by
  obtain ⟨f, fd, G, hm, hk, hb⟩ := F.ex
  exact de_fn G hr hG hg hm hk hb ha hdb he hpl
theorem dc_fnS (i : Nat) {y : Str} {py : Pos} {pre : List PD → Prop} {post : List PD → PD → Prop} (F : Here X.prog X.w X.K X.mg X.base k x ps (spS X.K pre post)) (hr : Room k X.A) (hG : X.A.guards = some []) (hg : Gl X x)
    (ha : DA X es tra tr) (hN : X.N[i]? = some y := by rfl) (hv : Vis X.env.scope y := by first | exact Or.inl rfl | exact Or.inr (Or.inl rfl) | exact Or.inr (Or.inr rfl)) (hdy : (y == ("__debug__" : Str)) = false := by decide) (hcd : (y == ("__classdict__" : Str)) = false := by decide) (hdb : (x == ("__debug__" : Str)) = false := by decide)
    (he : starEach (.Name y py :: es) X.env = (false, eval (.Name y py) X.env) :: starEach es X.env := by rfl) (hpl : (backTo pos (starEach es X.env)).any (·.1) = false := by rfl) :
    DE X (.Call (.Name x p) (.Name y py :: es) [] pos) (tCl (spS X.K pre post) (tCons (tVar i) tra)) (oFnS i pre post tr) := by
  obtain ⟨f, fd, G, hm, hk, hb⟩ := F.ex
  exact de_fnS i G hr hG hg hm hk hb hN hv ha hdy hcd hdb he hpl
theorem dc_src {j i : Nat} {y z : Str} {py pz pc : Pos} (F : Here X.prog X.w X.K X.mg X.base k x ps (spN X.K)) (hr : Room k X.A) (hG : X.A.guards = some []) (hg : Gl X x)
    (nd : X.N.Nodup) (hi : X.N[i]? = some z) (hx : Loc X.env.scope z) (hf : X.fn z = true ∨ X.env.scope.names.lookup z = some .local) (hN : X.N[j]? = some y := by rfl) (hv : Vis X.env.scope y := by first | exact Or.inl rfl | exact Or.inr (Or.inl rfl) | exact Or.inr (Or.inr rfl)) (hdy : (y == ("__debug__" : Str)) = false := by decide) (hcd : (y == ("__classdict__" : Str)) = false := by decide) (hdb : (x == ("__debug__" : Str)) = false := by decide)
    (he : starEach [.Name y py] X.env = (false, eval (.Name y py) X.env) :: starEach [] X.env := by rfl) (hpl : (backTo p (starEach [] X.env)).any (·.1) = false := by rfl) (hs : swapsWith (.Call (.Name x pc) [.Name y py] [] p) (some (.Name z pz)) pos.line X.env = pure false := by rfl) :
    DS X (.Assign [.Name z pz] (.Call (.Name x pc) [.Name y py] [] p) pos) (tAsg (tCl (spN X.K) (tCons (tVar j) tNil)) (gName i)) (sSrc j i) := by
  obtain ⟨f, fd, G, hm, hk, hb⟩ := F.ex
  exact ds_src G hr hG hg hm hk hb hN hv nd hi hx hf hdy hcd hdb he hpl hs
/-! ### chains of comparisons -/
def oChain (rd rd' : PD → PD → (PD → Prop) → Prop) (ta tb tc : TD) : TD := fun Γ φ => ta Γ fun d => tb Γ fun e => rd d e fun z => match z with
  | .bool k => if k = true then tc Γ fun f => rd' e f φ else φ (.bool false)
  | _ => False
/-- the operator tells True or False and makes nothing -/
theorem re_chain {r r' : R2} {rd rd' : PD → PD → (PD → Prop) → Prop} (ho : ROp K r rd) (ho' : ROp K r' rd') (ha : RE K ta tda) (hb : RE K tb tdb) (hc : RE K tc tdc) : RE K (tChain r r' ta tb tc) (oChain rd rd' tda tdb tdc) := fun W σ H0 H Γ φ Q I t k => by
  refine ha W σ H0 H Γ _ _ I t fun d v H1 G1 t1 I1 s1 dv => ?_
  refine hb W σ H1 G1 Γ _ _ I1 t1 fun e u H2 G2 t2 I2 s2 du => ?_
  refine ho H2 G2 v u d e _ _ I2.ex (.inl (dv.mono s2)) (.inl du) t2 fun z y H3 G3 t3 st dz => ?_
  split at t3
  · rename_i b
    cases dz
    refine ⟨b, rfl, ?_⟩
    have I3 := I2.step st
    cases b with
    | true =>
      refine hc W σ H3 G3 Γ _ _ I3 t3 fun f w H4 G4 t4 I4 s4 dw => ?_
      exact ho' H4 G4 u w e f φ Q I4.ex (.inl (du.mono (st.s0.trans s4))) (.inl dw) t4 fun z y H5 G5 t5 st5 dz5 => k z y H5 G5 t5 (I4.step st5) ((((s1.trans s2).trans st.s0).trans s4).trans st5.s0) dz5
    | false => exact k _ _ H3 G3 t3 I3 ((s1.trans s2).trans st.s0) (.bl _)
  · exact t3.elim
theorem de_chain {op op' : CmpOp} {r r' : R2} {rd rd' : PD → PD → (PD → Prop) → Prop} (ho : OpR X (compareOp op) r) (hr : ROp X.K r rd) (ho' : OpR X (compareOp op') r') (hr' : ROp X.K r' rd') (ha : DE X a ta tda) (hb : DE X b tb tdb) (hc : DE X c tc tdc)
    (hm : lastMarks [op, op'] [b, c] = false := by with_unfolding_all rfl) : DE X (.Compare a [op, op'] [b, c] pos) (tChain r r' ta tb tc) (oChain rd rd' tda tdb tdc) := ⟨pe_chain ho ho' ha.pe hb.pe hc.pe hm, re_chain hr hr' ha.re hb.re hc.re⟩
theorem dt_chain {op op' : CmpOp} {r r' : R2} {rd rd' : PD → PD → (PD → Prop) → Prop} (ho : OpR X (compareOp op) r) (hr : ROp X.K r rd) (ho' : OpR X (compareOp op') r') (hr' : ROp X.K r' rd') (ha : DE X a ta tda) (hb : DE X b tb tdb) (hc : DE X c tc tdc)
    (hm : lastMarks [op, op'] [b, c] = false := by with_unfolding_all rfl) : DT X (.Compare a [op, op'] [b, c] pos) (tTest (tChain r r' ta tb tc)) (oTest (oChain rd rd' tda tdb tdc)) := ⟨pt_chain ho ho' ha.pe hb.pe hc.pe hm, rt_test (re_chain hr hr' ha.re hb.re hc.re)⟩
/-! ### xs[::-1], xs + ys -/
def lRev (td : TD) : TAD := fun Γ φ => td Γ fun d => match d with
  | .list ds => φ ds.reverse
  | _ => False
theorem rl_rev (h : RB K te td) : RL K (tRevL K te) (lRev td) := fun W σ H0 H Γ φ Q I t k => by
  refine h W σ H0 H Γ _ _ I t fun d v H1 G1 t1 I1 s1 w => ?_
  split at t1
  · obtain ⟨q, vs, rfl, hq, r⟩ := (w H1 G1 I1 (Same.refl _)).list I1.ex
    exact ⟨q, vs, rfl, SqL.of hq, fun l hl => k _ _ _ _ _ t1 (I1.step (Stp.own I1.ex hl _)) s1 (I1.mine hl) (I1.apart hl) upd_same r.rev⟩
  · exact t1.elim
theorem dl_rev {n : Nat} {p1 p2 p3 : Pos} (h : DB X e te td) : DL X (.Subscript e (.Slice none none (some (.UnaryOp .USub (.Constant (.int 1) n p1) p2)) p3) pos) (tRevL X.K te) (lRev td) := ⟨pe_revL h.pe, rl_rev h.re⟩
def lAdd (ta tb : TD) : TAD := fun Γ φ => ta Γ fun d => tb Γ fun e => match d, e with
  | .list xs, .list ys => xs.length + ys.length ≤ sizeLine ∧ φ (xs ++ ys)
  | _, _ => False
theorem rl_add (ha : RB K ta tda) (hb : RB K tb tdb) : RL K (tOp (rAdd K) ta tb) (lAdd tda tdb) := fun W σ H0 H Γ φ Q I t k => by
  refine ha W σ H0 H Γ _ _ I t fun d v H1 G1 t1 I1 s1 w1 => ?_
  refine hb W σ H1 G1 Γ _ _ I1 t1 fun e u H2 G2 t2 I2 s2 w2 => ?_
  split at t2
  · obtain ⟨q, vs, rfl, hq, r1⟩ := (w1 H2 G2 I2 s2).list I2.ex
    obtain ⟨q2, us, rfl, hq2, r2⟩ := (w2 H2 G2 I2 (Same.refl _)).list I2.ex
    refine .inr (.inl ⟨q, q2, vs, us, rfl, rfl, hq, hq2, by rw [r1.length, r2.length]; exact t2.1, fun l hl => ?_⟩)
    exact k _ _ _ _ _ t2.2 (I2.step (Stp.own I2.ex hl _)) (s1.trans s2) (I2.mine hl) (I2.apart hl) upd_same (r1.app r2)
  · exact t2.elim
theorem dl_add (ha : DB X a ta tda) (hb : DB X b tb tdb) : DL X (.BinOp a .Add b pos) (tOp (rAdd X.K) ta tb) (lAdd tda tdb) := ⟨pe_op od_add ha.pe hb.pe, rl_add ha.re hb.re⟩
/-! ### y = [..] -/
theorem ds_setLc {i : Nat} {y : Str} {py : Pos} {elt tg iter : Expr} {ifs : List Expr} {scope : Scope} {own : List (Str × Nat)} {pos spos : Pos} {wi : TI} {wd : TAD} {g : TG} {gd : TGD} {tt : TT} {ttd : TTD} {te : TE} {td : TD} (hc : X.calm = true) (hN : X.N.Nodup) (hy : X.N[i]? = some y) (hyl : X.env.scope.names.lookup y = some .local)
    (hsw : swapsWith (.ListComp elt [⟨tg, iter, ifs, 0⟩] scope pos) (some (.Name y py)) spos.line X.env = pure true) (hi : DI X tg iter wi wd) (ok : BlkOk X.N X.env.scope scope own)
    (hg : ∀ (s : Shared) (H : Hp) (C : Addr) (cl : List (Str × Addr)) (fp : List Addr), DG (X.blk s H scope (compEnvC scope cl C X.env) fp) tg (own.map (·.2)) g gd) (ht : ∀ (s : Shared) (H : Hp) (C : Addr) (cl : List (Str × Addr)) (fp : List Addr), DTs (X.blk s H scope (compEnvC scope cl C X.env) fp) ifs tt ttd)
    (he : ∀ (s : Shared) (H : Hp) (C : Addr) (cl : List (Str × Addr)) (fp : List Addr), DE (X.blk s H scope (compEnvC scope cl C X.env) fp) elt te td) (hs : ∀ x, foldedSetIterable iter X.env x = pure x := by intro _; rfl) :
    DS X (.Assign [.Name y py] (.ListComp elt [⟨tg, iter, ifs, 0⟩] scope pos) spos) (tAsg (tLc wi g tt te (own.map (·.2))) (gName i)) (sOwn i (lLc wd gd ttd td (own.map (·.2)))) :=
  ⟨ps_setLc hc hN hy hyl hsw hi.pe ok (fun s H C cl fp => (hg s H C cl fp).pe) (fun s H C cl fp => (ht s H C cl fp).pe) (fun s H C cl fp => (he s H C cl fp).pe) hs,
   rs_own (rl_lc hi.re (hg X.s_0 NoH 0 [] []).re (ht X.s_0 NoH 0 [] []).re (he X.s_0 NoH 0 [] []).re)⟩
/-- the new list is a value at once -/
def sVal (i : Nat) (tl : TAD) : TSD := fun E Γ => tl Γ fun ds => E.nx (Γ.set i (.va (.list ds)))
theorem rs_val {i : Nat} {tl : TAD} (h : RL K te tl) : RS K (tAsg te (gName i)) (sVal i tl) := rs_asg h.val (rg_name (ts := [i]) i (List.mem_cons_self ..))
theorem ds_valLc {i : Nat} {y : Str} {py : Pos} {elt tg iter : Expr} {ifs : List Expr} {scope : Scope} {own : List (Str × Nat)} {pos spos : Pos} {wi : TI} {wd : TAD} {g : TG} {gd : TGD} {tt : TT} {ttd : TTD} {te : TE} {td : TD} (hc : X.calm = true) (hN : X.N.Nodup) (hy : X.N[i]? = some y) (hyl : X.env.scope.names.lookup y = some .local)
    (hsw : swapsWith (.ListComp elt [⟨tg, iter, ifs, 0⟩] scope pos) (some (.Name y py)) spos.line X.env = pure true) (hi : DI X tg iter wi wd) (ok : BlkOk X.N X.env.scope scope own)
    (hg : ∀ (s : Shared) (H : Hp) (C : Addr) (cl : List (Str × Addr)) (fp : List Addr), DG (X.blk s H scope (compEnvC scope cl C X.env) fp) tg (own.map (·.2)) g gd) (ht : ∀ (s : Shared) (H : Hp) (C : Addr) (cl : List (Str × Addr)) (fp : List Addr), DTs (X.blk s H scope (compEnvC scope cl C X.env) fp) ifs tt ttd)
    (he : ∀ (s : Shared) (H : Hp) (C : Addr) (cl : List (Str × Addr)) (fp : List Addr), DE (X.blk s H scope (compEnvC scope cl C X.env) fp) elt te td) (hs : ∀ x, foldedSetIterable iter X.env x = pure x := by intro _; rfl) :
    DS X (.Assign [.Name y py] (.ListComp elt [⟨tg, iter, ifs, 0⟩] scope pos) spos) (tAsg (tLc wi g tt te (own.map (·.2))) (gName i)) (sVal i (lLc wd gd ttd td (own.map (·.2)))) :=
  ⟨ps_setLc hc hN hy hyl hsw hi.pe ok (fun s H C cl fp => (hg s H C cl fp).pe) (fun s H C cl fp => (ht s H C cl fp).pe) (fun s H C cl fp => (he s H C cl fp).pe) hs,
   rs_val (rl_lc hi.re (hg X.s_0 NoH 0 [] []).re (ht X.s_0 NoH 0 [] []).re (he X.s_0 NoH 0 [] []).re)⟩
def sNever : TSD := fun _ _ => False
theorem ds_never {st : Stmt} : DS X st tNever sNever := ⟨ps_never, fun W σ H0 H Γ E D I t k => t.elim⟩
/-! ### zip, enumerate, range with a step, reversed -/
def zipD (xs ys : List PD) : List PD := List.zipWith (fun x y => .tuple [x, y]) xs ys
def wZip (tr : TAD) : TAD := fun Γ φ => tr Γ fun ds => match ds with
  | [.list xs, .list ys] => φ (zipD xs ys)
  | [.tuple xs, .tuple ys] => φ (zipD xs ys)
  | _ => False
theorem zipD_at {xs ys : List PD} {i : Nat} {x y : PD} (h : xs[i]? = some x) (g : ys[i]? = some y) : (zipD xs ys)[i]? = some (.tuple [x, y]) := by
  unfold zipD
  rw [List.getElem?_zipWith, h, g]
theorem zipD_len (xs ys : List PD) : (zipD xs ys).length = min xs.length ys.length := by unfold zipD; rw [List.length_zipWith]
theorem tup2_new {W : Wd} {σ : L2.St} {H0 H : Hp} {Γ : Env} (I : EnvOk K W σ H0 H Γ) {T : Addr} {x y : V} {d e : PD} (hT : H T = none) (dx : Dv K H0 x d) (dy : Dv K H0 y e) :
    ∃ H0', EnvOk K W σ H0' (upd H T (.tup [x, y])) Γ ∧ Same H0 H0' ∧ Stp H0 H H0' (upd H T (.tup [x, y])) ∧ Dv K H0' (.ref T) (.tuple [d, e]) := by
  have st := Stp.mk1 I.ex hT (.tup [x, y])
  exact ⟨_, I.step st, st.s0, st, .tup (SqT.of upd_same) (.cons (dx.mono st.s0) (.cons (dy.mono st.s0) .nil))⟩
theorem itd_zip {W : Wd} {H0s : Hp} {a b : Addr} {vs us : List V} {ds es : List PD} (h : H0s a = some (.lst vs)) (r : DvAll K H0s vs ds) (h2 : H0s b = some (.lst us)) (r2 : DvAll K H0s us es) : ItD K W (Itz K a b) (zipD ds es) H0s where
  go := fun i σ H0 H Γ hi I s => by
    rw [zipD_len] at hi
    have l1 := r.length
    have l2 := r2.length
    exact ⟨vs, us, vs[i]'(by omega), us[i]'(by omega), SqL.of (I.ex _ _ (s _ _ h)), SqL.of (I.ex _ _ (s _ _ h2)), List.getElem?_eq_getElem _, List.getElem?_eq_getElem _⟩
  stop := fun σ H0 H Γ I s => ⟨vs, us, SqL.of (I.ex _ _ (s _ _ h)), SqL.of (I.ex _ _ (s _ _ h2)), by rw [zipD_len, r.length, r2.length]; omega⟩
  yld := fun i σ H0 H Γ x H' I s hi y => by
    obtain ⟨T, v, u, rfl, hT, rfl, y1, y2⟩ := y
    obtain ⟨d, hd, dv⟩ := r.get (y1 vs (SqL.of (I.ex _ _ (s _ _ h))))
    obtain ⟨e, he, du⟩ := r2.get (y2 us (SqL.of (I.ex _ _ (s _ _ h2))))
    obtain ⟨H0', J, s0, st, dt⟩ := tup2_new I hT (dv.mono s) (du.mono s)
    exact ⟨H0', _, J, s0, st, zipD_at hd he, dt⟩
theorem itd_zipT {W : Wd} {H0s : Hp} {a b : Addr} {vs us : List V} {ds es : List PD} (h : SqT K H0s a vs) (r : DvAll K H0s vs ds) (h2 : SqT K H0s b us) (r2 : DvAll K H0s us es) : ItD K W (ItzT K a b) (zipD ds es) H0s where
  go := fun i σ H0 H Γ hi I s => by
    rw [zipD_len] at hi
    have l1 := r.length
    have l2 := r2.length
    exact ⟨vs, us, vs[i]'(by omega), us[i]'(by omega), sqT_mono (s.trans I.ex) h, sqT_mono (s.trans I.ex) h2, List.getElem?_eq_getElem _, List.getElem?_eq_getElem _⟩
  stop := fun σ H0 H Γ I s => ⟨vs, us, sqT_mono (s.trans I.ex) h, sqT_mono (s.trans I.ex) h2, by rw [zipD_len, r.length, r2.length]; omega⟩
  yld := fun i σ H0 H Γ x H' I s hi y => by
    obtain ⟨T, v, u, rfl, hT, rfl, y1, y2⟩ := y
    obtain ⟨d, hd, dv⟩ := r.get (y1 vs (sqT_mono (s.trans I.ex) h))
    obtain ⟨e, he, du⟩ := r2.get (y2 us (sqT_mono (s.trans I.ex) h2))
    obtain ⟨H0', J, s0, st, dt⟩ := tup2_new I hT (dv.mono s) (du.mono s)
    exact ⟨H0', _, J, s0, st, zipD_at hd he, dt⟩
theorem ri_zip (h : RA K tra tr) : RI K (iZipA K tra) (wZip tr) := fun W σ H0 H Γ φ R I t k => by
  refine h W σ H0 H Γ _ _ I t fun ds vs H1 G1 t1 I1 s1 dv => ?_
  split at t1
  · cases dv with
    | cons d1 dv =>
      cases dv with
      | cons d2 dv =>
        cases dv
        cases d1 with
        | lst q r =>
          cases d2 with
          | lst q2 r2 => exact ⟨_, _, _, _, rfl, .inl ⟨SqL.of (I1.ex _ _ q), SqL.of (I1.ex _ _ q2), k _ _ H1 G1 t1 I1 s1 fun W' => itd_zip q r q2 r2⟩⟩
  · cases dv with
    | cons d1 dv =>
      cases dv with
      | cons d2 dv =>
        cases dv
        cases d1 with
        | tup q r =>
          cases d2 with
          | tup q2 r2 => exact ⟨_, _, _, _, rfl, .inr ⟨sqT_mono I1.ex q, sqT_mono I1.ex q2, k _ _ H1 G1 t1 I1 s1 fun W' => itd_zipT q r q2 r2⟩⟩
  · exact t1.elim
theorem di_zip {elts : List Expr} {kk : Nat} {tpos : Pos} (hg : Gl X "zip") (hm : X.mg "zip" = none) (ha : DA X [a, b] tra tr)
    (hs : starEach [a, b] X.env = (false, eval a X.env) :: starEach [b] X.env := by rfl) (hpl : (backTo pos (starEach [b] X.env)).any (·.1) = false := by rfl) :
    DI X (.Tuple elts kk tpos) (.Call (.Name "zip" p) [a, b] [] pos) (iZipA X.K tra) (wZip tr) := ⟨pi_zipA hg hm ha.pe hs hpl, ri_zip ha.re⟩
def enumD (xs : List PD) : List PD := xs.zipIdx.map fun p => .tuple [.int (p.2 : Nat), p.1]
def wEnum (tr : TAD) : TAD := fun Γ φ => tr Γ fun ds => match ds with
  | [.list xs] => φ (enumD xs)
  | _ => False
theorem itd_enum {W : Wd} {H0s : Hp} {a : Addr} {vs : List V} {ds : List PD} (h : H0s a = some (.lst vs)) (r : DvAll K H0s vs ds) : ItD K W (Ite K a) (enumD ds) H0s where
  go := fun i σ H0 H Γ hi I s => by
    have hi : i < ds.length := by simpa [enumD] using hi
    exact ⟨vs, vs[i]'(by rw [r.length]; exact hi), SqL.of (I.ex _ _ (s _ _ h)), List.getElem?_eq_getElem _⟩
  stop := fun σ H0 H Γ I s => ⟨vs, SqL.of (I.ex _ _ (s _ _ h)), by simp [enumD, r.length]⟩
  yld := fun i σ H0 H Γ x H' I s hi y => by
    obtain ⟨T, v, rfl, hT, rfl, y1⟩ := y
    obtain ⟨d, hd, dv⟩ := r.get (y1 vs (SqL.of (I.ex _ _ (s _ _ h))))
    obtain ⟨H0', J, s0, st, dt⟩ := tup2_new (d := .int (i : Nat)) I hT (.int _) (dv.mono s)
    refine ⟨H0', _, J, s0, st, ?_, dt⟩
    unfold enumD
    rw [List.getElem?_map, List.getElem?_zipIdx, hd]
    simp
theorem ri_enum (h : RA K tra tr) : RI K (iEnum K tra) (wEnum tr) := fun W σ H0 H Γ φ R I t k => by
  refine h W σ H0 H Γ _ _ I t fun ds vs H1 G1 t1 I1 s1 dv => ?_
  split at t1
  · cases dv with
    | cons d1 dv =>
      cases dv
      cases d1 with
      | lst q r => exact ⟨_, _, rfl, SqL.of (I1.ex _ _ q), k _ _ H1 G1 t1 I1 s1 fun W' => itd_enum q r⟩
  · exact t1.elim
theorem di_enum {elts : List Expr} {kk : Nat} {tpos : Pos} (hg : Gl X "enumerate") (hm : X.mg "enumerate" = none) (ha : DA X [a] tra tr) (hs : starEach [a] X.env = [(false, eval a X.env)] := by rfl) :
    DI X (.Tuple elts kk tpos) (.Call (.Name "enumerate" p) [a] [] pos) (iEnum X.K tra) (wEnum tr) := ⟨pi_enum hg hm ha.pe hs, ri_enum ha.re⟩
end
end DD
set_option Elab.async false
set_option linter.all false
set_option maxRecDepth 100000
set_option maxHeartbeats 2000000
/-! list(range), update, gcd. -/
namespace DD
open PySem L2 PySem.Spec PyProof.Rows RZ
section
variable {X : Cx} {K : PySem.W.Frag} {e a b c : Expr} {es : List Expr} {te ta tb tc : TE} {tra : TA} {tr : TAD} {td tda tdb tdc : TD} {pos p : Pos} {x : Str} {k : Nat} {ps : List Str}
def lRng1 (tr : TAD) : TAD := fun Γ φ => tr Γ fun ds => match ds with
  | [.int j] => RgOk 0 j ∧ φ (rangeD 0 j.toNat)
  | _ => False
def lRng2 (tr : TAD) : TAD := fun Γ φ => tr Γ fun ds => match ds with
  | [.int i, .int j] => RgOk i j ∧ φ (rangeD i (j - i).toNat)
  | _ => False
theorem dv_rg {H : Hp} (i j : Int) : DvAll K H (rgV i j) (rangeD i (j - i).toNat) := by
  have e1 : rgV i j = ((List.range (j - i).toNat).map fun n => i + (n : Nat)).map V.int := by unfold rgV; rw [List.map_map]; rfl
  have e2 : rangeD i (j - i).toNat = ((List.range (j - i).toNat).map fun n => i + (n : Nat)).map PyData.int := by unfold rangeD; rw [List.map_map]; rfl
  rw [e1, e2]
  exact dv_ints _
theorem rl_rng1 (h : RE K ta td) : RL K (tLstRg (tRg1 ta)) (lRng1 (oCons td oNil)) := fun W σ H0 H Γ φ Q I t k => by
  refine h W σ H0 H Γ _ _ I t fun d v H1 G1 t1 I1 s1 dv => ?_
  cases d with
  | int j =>
    cases dv
    have t1 : RgOk 0 j ∧ φ (rangeD 0 j.toNat) := t1
    refine ⟨j, rfl, t1.1, fun q hq => k _ _ _ _ _ t1.2 (I1.step (Stp.own I1.ex hq _)) s1 (I1.mine hq) (I1.apart hq) upd_same ?_⟩
    have z := dv_rg (K := K) (H := H1) 0 j
    rw [Int.sub_zero] at z
    exact z
  | _ => exact t1.elim
theorem rl_rng2 (ha : RE K ta tda) (hb : RE K tb tdb) : RL K (tLstRg (tRg2 ta tb)) (lRng2 (oCons tda (oCons tdb oNil))) := fun W σ H0 H Γ φ Q I t k => by
  refine ha W σ H0 H Γ _ _ I t fun d v H1 G1 t1 I1 s1 dv => ?_
  refine hb W σ H1 G1 Γ _ _ I1 t1 fun e u H2 G2 t2 I2 s2 du => ?_
  cases d with
  | int i =>
    cases e with
    | int j =>
      cases dv
      cases du
      have t2 : RgOk i j ∧ φ (rangeD i (j - i).toNat) := t2
      exact ⟨i, j, rfl, rfl, t2.1, fun q hq => k _ _ _ _ _ t2.2 (I2.step (Stp.own I2.ex hq _)) (s1.trans s2) (I2.mine hq) (I2.apart hq) upd_same (dv_rg i j)⟩
    | _ => exact t2.elim
  | _ => exact t2.elim
theorem dl_listRg1 {p2 q q2 : Pos} (hg : Gl X "list") (hm : X.mg "list" = none) (hg2 : Gl X "range") (hm2 : X.mg "range" = none) (ha : DE X a ta tda) (hc : X.calm = true := by rfl) (na : starEach [a] X.env = (false, eval a X.env) :: starEach [] X.env := by rfl)
    (nb : starEach [.Call (.Name "range" p2) [a] [] q2] X.env = (false, eval (.Call (.Name "range" p2) [a] [] q2) X.env) :: starEach [] X.env := by rfl) :
    DL X (.Call (.Name "list" p) [.Call (.Name "range" p2) [a] [] q2] [] q) (tLstRg (tRg1 ta)) (lRng1 (oCons tda oNil)) := ⟨pe_listRg hc hg hm (prg_1 hg2 hm2 ha.pe na) nb, rl_rng1 ha.re⟩
theorem dl_listRg2 {p2 q q2 : Pos} (hg : Gl X "list") (hm : X.mg "list" = none) (hg2 : Gl X "range") (hm2 : X.mg "range" = none) (ha : DE X a ta tda) (hb : DE X b tb tdb) (hc : X.calm = true := by rfl) (na : starEach [a, b] X.env = (false, eval a X.env) :: starEach [b] X.env := by rfl)
    (na2 : starEach [b] X.env = (false, eval b X.env) :: starEach [] X.env := by rfl) (hp : (backTo q2 (starEach [b] X.env)).any (·.1) = false := by rfl)
    (nb : starEach [.Call (.Name "range" p2) [a, b] [] q2] X.env = (false, eval (.Call (.Name "range" p2) [a, b] [] q2) X.env) :: starEach [] X.env := by rfl) :
    DL X (.Call (.Name "list" p) [.Call (.Name "range" p2) [a, b] [] q2] [] q) (tLstRg (tRg2 ta tb)) (lRng2 (oCons tda (oCons tdb oNil))) := ⟨pe_listRg hc hg hm (prg_2 hg2 hm2 ha.pe hb.pe na na2 hp) nb, rl_rng2 ha.re hb.re⟩
/-! ### d.update({..}) -/
def rUpd : V → List V → Hp → VK → Prop := fun x xs H Q => ∃ (a b : Addr) (kvs ms : List (Key × V)), x = .ref a ∧ xs = [.ref b] ∧ a ≠ b ∧ H a = some (.dK kvs) ∧ H b = some (.dK ms) ∧ kvs.length + ms.length ≤ sizeLine ∧ Q .non (upd H a (.dK (mergeK kvs ms)))
theorem mt_update : MtR X "dict.update" rUpd := by
  intro pins s σ H x xs v us Q I rx rs h
  obtain ⟨a, b, kvs, ms, rfl, rfl, ne, ha, hb, hz, q⟩ := h
  cases rx
  obtain ⟨u, rfl, ru⟩ := vals1 rs
  cases ru
  obtain ⟨z1, hd, vs, rel, dd⟩ := dk_of I.hok ha
  obtain ⟨z2, hd2, ws, rel2, ee⟩ := dk_of I.hok hb
  refine call_meetsIn PySem.F.slot_dict_update dd.typeIs PySem.F.entry_dict_update (PySem.F.args_dict_update_2 _ _) (meets_dict_update (mixKind X.prog X.w) a b ne hd2)
    ⟨vs, ws, dd, ee, by rw [← rel.length, ← rel2.length]; exact hz, fun h' dd' ee' hs => ⟨.non, upd H a (.dK (mergeK kvs ms)), ?_, rfl, q⟩⟩
  have he : ∃ q, h'.get? a = some q := let ⟨q, _, _, hq, _⟩ := dd'; ⟨q, hq⟩
  have hz2 : (mergeK kvs ms).length ≤ sizeLine := Nat.le_trans (length_mergeK ms kvs) hz
  exact d_write (t' := s.toks) I (by rw [ha]; exact True.intro) hs he (dk_new hz2 hd (rel2.merge rel) dd')
def sUpdate2 (i : Nat) (k1 v1 k2 v2 : TD) : TSD := fun E Γ => match sget Γ i with
  | .dic kvs => k1 Γ fun a => v1 Γ fun x => k2 Γ fun b => v2 Γ fun y => match keyOf a, keyOf b with
    | some j, some l => kvs.length + 2 ≤ sizeLine ∧ j ≠ l ∧ E.nx (Γ.set i (.dic (putD (putD kvs j x) l y)))
    | _, _ => False
  | _ => False
theorem merge2 {kvs : List (Key × V)} {j l : Key} {x y : V} : mergeK kvs [(j, x), (l, y)] = putK (putK kvs j x) l y := rfl
theorem merge2nil {j l : Key} {x y : V} (h : j ≠ l) : mergeK [] [(j, x), (l, y)] = [(j, x), (l, y)] := by
  rw [merge2]
  have e : putK [] j x = [(j, x)] := rfl
  rw [e, putK_new]
  · rfl
  · rw [valV_neg (show ¬ (j, x).1 = l from h)]; rfl
theorem rs_update2 {i : Nat} {t1 t2 t3 t4 : TE} {d1 d2 d3 d4 : TD} (h1 : RE K t1 d1) (h2 : RE K t2 d2) (h3 : RE K t3 d3) (h4 : RE K t4 d4) : RS K (tDrop (tBM K "dict" rUpd (tVar i) (tCons (tDisp [(t1, t2), (t3, t4)]) tNil))) (sUpdate2 i d1 d2 d3 d4) := fun W σ H0 H Γ E D I t k => by
  unfold sUpdate2 at t
  split at t
  · rename_i kvs z
    have hs := sget_some z (by intro z; cases z)
    obtain ⟨p, vs, e1, m, q, r⟩ := I.sl i _ hs
    refine ⟨.ref p, ats_of e1, Or.inr (Or.inr (Or.inl ⟨rfl, Or.inl ⟨vs, q⟩⟩)), fun b hb => ?_⟩
    have mb := I.mine hb
    have nb := not_owned_of_none I hb
    have J := I.aside (.dK []) mb.1 mb.2 nb
    have Jn := J.now
    refine h1 _ σ H0 _ Γ _ _ Jn t fun a1 u1 A1 B1 t I1 s1 v1 => ?_
    refine h2 _ σ A1 B1 Γ _ _ I1 t fun a2 u2 A2 B2 t I2 s2 v2 => ?_
    refine h3 _ σ A2 B2 Γ _ _ I2 t fun a3 u3 A3 B3 t I3 s3 v3 => ?_
    refine h4 _ σ A3 B3 Γ _ _ I3 t fun a4 u4 A4 B4 t I4 s4 v4 => ?_
    split at t
    · rename_i j l hj hl
      obtain ⟨hz, hjl, t⟩ := t
      have hB : B4 b = some (.dK []) := I4.exe b _ (nowHe_of upd_same nb) fun z => z
      have hA : A4 b = none := by
        cases z : A4 b with
        | none => rfl
        | some o =>
          rcases I4.new b o z with ⟨o', z'⟩ | z'
          · have z' : H0 b = some o' := z'
            rw [mb.1] at z'; cases z'
          · have z' : nowHe σ Γ (upd H b (.dK [])) b = none := z'
            rw [nowHe_of upd_same nb] at z'; cases z'
      have I5 := J.back I4
      have v1' := v1.mono ((s2.trans s3).trans s4)
      have v2' := v2.mono (s3.trans s4)
      have v3' := v3.mono s4
      refine ⟨hB, [(j, u2), (l, u4)], by rw [keyOf_dv hj v1, keyOf_dv hl v3]; rfl, by show 2 ≤ 15; decide, ?_⟩
      rw [merge2nil hjl]
      have I6 := I5.aside (.dK [(j, u2), (l, u4)]) hA mb.2 nb
      obtain ⟨p6, vs6, e6, m6, q6, r6⟩ := I6.sl i _ hs
      rw [e1] at e6
      cases e6
      have hpb : p ≠ b := fun z => by subst z; exact nb ⟨i, _, hs, e1⟩
      refine ⟨p, b, vs6, _, rfl, rfl, hpb, q6, upd_same, by rw [KvOk.len r6]; exact hz, ?_⟩
      have r7 := KvOk.put (k := l) (KvOk.put (k := j) r6 v2') v4
      exact k.nx _ _ _ _ (I6.change hs e1 (t := .dic (putD (putD kvs j a2) l a4)) ⟨p, _, e1, m6, upd_same, r7.1, r7.2⟩ fun b o => o) t
    · exact t.elim
  · exact t.elim
theorem ds_update2 {i : Nat} {k1 v1 k2 v2 : Expr} {t1 t2 t3 t4 : TE} {d1 d2 d3 d4 : TD} {y : Str} {py apos cpos dpos : Pos} (h1 : DE X k1 t1 d1) (h2 : DE X v1 t2 d2) (h3 : DE X k2 t3 d3) (h4 : DE X v2 t4 d4)
    (hN : X.N[i]? = some y := by rfl) (hv : Vis X.env.scope y := by first | exact Or.inl rfl | exact Or.inr (Or.inl rfl) | exact Or.inr (Or.inr rfl)) (hd : (y == ("__debug__" : Str)) = false := by decide) (hcd : (y == ("__classdict__" : Str)) = false := by decide)
    (hbase : attributeBase (.Name y py) "update" X.env (eval (.Name y py) X.env) = eval (.Name y py) X.env := by rfl)
    (hfew : ((backTo cpos (starEach [.Dict [some k1, some k2] [v1, v2] dpos] X.env)).all (fun x => !x.1) && (backToKw cpos (keywordEach [] X.env)).all (fun x => x.1.isSome)
      && decide (([.Dict [some k1, some k2] [v1, v2] dpos] : List Expr).length + ([] : List Keyword).length + (if ([] : List Keyword).isEmpty then 0 else 1) < 30)) = true := by rfl)
    (hline : (apos.endLine == cpos.line) = true := by rfl) (hs : starEach [.Dict [some k1, some k2] [v1, v2] dpos] X.env = (false, eval (.Dict [some k1, some k2] [v1, v2] dpos) X.env) :: starEach [] X.env := by rfl) (hplain : (backTo cpos (starEach [] X.env)).any (·.1) = false := by rfl)
    (hsw : swapsWith (.Call (.Attribute (.Name y py) "update" apos) [.Dict [some k1, some k2] [v1, v2] dpos] [] cpos) none pos.line X.env = pure false := by rfl) :
    DS X (.Expr (.Call (.Attribute (.Name y py) "update" apos) [.Dict [some k1, some k2] [v1, v2] dpos] [] cpos) pos) (tDrop (tBM X.K "dict" rUpd (tVar i) (tCons (tDisp [(t1, t2), (t3, t4)]) tNil))) (sUpdate2 i d1 d2 d3 d4) :=
  ⟨ps_expr (pe_bm PySem.F.plainAttrs_dict PySem.F.slot_dict_update PySem.F.type_dict_update mt_update (pe_var hN hv hd hcd) (pa_cons (pe_disp (pps_cons h1.pe h2.pe (pps_cons h3.pe h4.pe pps_nil)) (by rfl) (by rfl) (fun z => by cases z) (by show 2 ≤ 15; decide)) pa_nil hs) hbase hfew hline hs hplain) hsw, rs_update2 h1.re h2.re h3.re h4.re⟩
theorem de_gcd (hg : Gl X "gcd") (hm : X.mg "gcd" = some (.builtin "math.gcd")) {tra : TA} {tr : TAD} (ha : DAB X (a :: es) tra tr)
    (he : starEach (a :: es) X.env = (false, eval a X.env) :: starEach es X.env := by rfl) (hpl : (backTo pos (starEach es X.env)).any (·.1) = false := by rfl) : DE X (.Call (.Name "gcd" p) (a :: es) [] pos) (tCB rGcd tra) (oCl gcdD tr) :=
  ⟨pe_callBfun cr_gcd hg hm ha.pe (by decide) he hpl, re_cl rd_gcd ha.re⟩
end
end DD
set_option Elab.async false
set_option linter.all false
set_option maxRecDepth 100000
/-! what a draw gives -/
namespace DD
open PySem L2
def preP : List PD → Prop
  | [.int n] => n < 2 ^ 64
  | _ => False
def postP : List PD → PD → Prop
  | [.int n], .int k => 0 ≤ k ∧ (k < n ∨ k = 0)
  | _, _ => False
theorem putK_ne {kvs : List (Key × V)} {k : Key} {v : V} (h : ∀ p ∈ kvs, p.1 ≠ k) : putK kvs k v = kvs ++ [(k, v)] := by
  unfold putK
  rw [if_neg]
  intro z
  obtain ⟨p, hp, e⟩ := List.any_eq_true.mp z
  exact h p hp (of_decide_eq_true e)
theorem srcK1 : (Sum.inr "cells" : Key) ≠ .inr "left" := by decide +kernel
theorem srcK2 : (Sum.inr "cells" : Key) ≠ .inr "mixed" := by decide +kernel
theorem srcK3 : (Sum.inr "cells" : Key) ≠ .inr "turn" := by decide +kernel
theorem srcK4 : (Sum.inr "left" : Key) ≠ .inr "mixed" := by decide +kernel
theorem srcK5 : (Sum.inr "left" : Key) ≠ .inr "turn" := by decide +kernel
theorem srcK6 : (Sum.inr "mixed" : Key) ≠ .inr "turn" := by decide +kernel
def srcKv (c : Addr) (l m t : Int) : List (Key × V) := [(.inr "cells", .ref c), (.inr "left", .int l), (.inr "mixed", .int m), (.inr "turn", .int t)]
theorem src_merge {c : Addr} {l m t : Int} : mergeK [] (srcKv c l m t) = srcKv c l m t := by
  show putK (putK (putK (putK ([] : List (Key × V)) (.inr "cells") (.ref c)) (.inr "left") (.int l)) (.inr "mixed") (.int m)) (.inr "turn") (.int t) = _
  have e1 : putK ([] : List (Key × V)) (.inr "cells") (.ref c) = [(.inr "cells", .ref c)] := putK_ne (fun p hp => by cases hp)
  have e2 : putK [((.inr "cells" : Key), V.ref c)] (.inr "left") (.int l) = [(.inr "cells", .ref c), (.inr "left", .int l)] := putK_ne (fun p hp => by
    rw [List.mem_singleton.mp hp]; exact srcK1)
  have e3 : putK [((.inr "cells" : Key), V.ref c), (.inr "left", .int l)] (.inr "mixed") (.int m) = [(.inr "cells", .ref c), (.inr "left", .int l), (.inr "mixed", .int m)] := putK_ne (fun p hp => by
    simp only [List.mem_cons, List.not_mem_nil, or_false] at hp
    rcases hp with rfl | rfl
    · exact srcK2
    · exact srcK4)
  have e4 : putK [((.inr "cells" : Key), V.ref c), (.inr "left", .int l), (.inr "mixed", .int m)] (.inr "turn") (.int t) = srcKv c l m t := putK_ne (fun p hp => by
    simp only [List.mem_cons, List.not_mem_nil, or_false] at hp
    rcases hp with rfl | rfl | rfl
    · exact srcK3
    · exact srcK5
    · exact srcK6)
  rw [e1, e2, e3, e4]
section
variable {c : Addr} {l m t : Int}
theorem src_cells : valV (srcKv c l m t) (.inr "cells") = some (.ref c) := valV_pos rfl
theorem src_left : valV (srcKv c l m t) (.inr "left") = some (.int l) := by unfold srcKv; rw [valV_neg srcK1, valV_pos rfl]
theorem src_mixed : valV (srcKv c l m t) (.inr "mixed") = some (.int m) := by unfold srcKv; rw [valV_neg srcK2, valV_neg srcK4, valV_pos rfl]
theorem src_turn : valV (srcKv c l m t) (.inr "turn") = some (.int t) := by unfold srcKv; rw [valV_neg srcK3, valV_neg srcK5, valV_neg srcK6, valV_pos rfl]
theorem putK_in {kvs : List (Key × V)} {k : Key} {v : V} (h : (valV kvs k).isSome = true) : putK kvs k v = kvs.map fun kv => if kv.1 = k then (kv.1, v) else kv := by
  unfold putK
  rw [valV_any, h]
  rfl
theorem src_setLeft {l' : Int} : putK (srcKv c l m t) (.inr "left") (.int l') = srcKv c l' m t := by
  rw [putK_in (by rw [src_left]; rfl)]
  unfold srcKv
  simp only [List.map_cons, List.map_nil, srcK1, srcK4.symm, srcK5.symm, if_true, if_false]
theorem src_setMixed {m' : Int} : putK (srcKv c l m t) (.inr "mixed") (.int m') = srcKv c l m' t := by
  rw [putK_in (by rw [src_mixed]; rfl)]
  unfold srcKv
  simp only [List.map_cons, List.map_nil, srcK2, srcK4, srcK6.symm, if_true, if_false]
theorem src_setTurn {t' : Int} : putK (srcKv c l m t) (.inr "turn") (.int t') = srcKv c l m t' := by
  rw [putK_in (by rw [src_turn]; rfl)]
  unfold srcKv
  simp only [List.map_cons, List.map_nil, srcK3, srcK5, srcK6, if_true, if_false]
end
/-- the source's dict stands at a, its cells at c -/
structure SrcAt (H0 H : Hp) (a c : Addr) (cs : List Int) (l m t : Int) (G : Hp) : Prop where
  d : G a = some (.dK (srcKv c l m t))
  q : G c = some (.lst (cs.map V.int))
  k : ∀ b o, H b = some o → b ≠ a → b ≠ c → G b = some o
section
variable {H0 H G : Hp} {a c : Addr} {cs cs' : List Int} {l m t : Int}
theorem SrcAt.ne (s : SrcAt H0 H a c cs l m t G) : a ≠ c := fun z => by
  have q := s.q
  rw [← z, s.d] at q
  cases q
theorem SrcAt.setD (s : SrcAt H0 H a c cs l m t G) {l' m' t' : Int} : SrcAt H0 H a c cs l' m' t' (upd G a (.dK (srcKv c l' m' t'))) :=
  ⟨upd_same, by rw [upd_ne s.ne.symm]; exact s.q, fun b o h na nc => by rw [upd_ne na]; exact s.k b o h na nc⟩
theorem SrcAt.setC (s : SrcAt H0 H a c cs l m t G) : SrcAt H0 H a c cs' l m t (upd G c (.lst (cs'.map V.int))) :=
  ⟨by rw [upd_ne s.ne]; exact s.d, upd_same, fun b o h na nc => by rw [upd_ne nc]; exact s.k b o h na nc⟩
theorem SrcAt.fin (s : SrcAt H0 H a c cs l m t G) (e : Same H0 H) (ha : H0 a = none) (hc : H0 c = none) : StpS a c H0 H H0 G :=
  ⟨s.k, Same.refl _, fun b o h => s.k b o (e b o h) (fun z => by subst z; rw [ha] at h; cases h) (fun z => by subst z; rw [hc] at h; cases h), fun b o h => .inl ⟨o, h⟩, cs, l, m, t, s.d, s.q⟩
end
section
variable {H0 H G : Hp} {a c : Addr} {cs cs' : List Int} {l m t : Int}
theorem SrcAt.gC (s : SrcAt H0 H a c cs l m t G) : DGet G a (.str "cells") (some (.ref c)) := by
  have z := DGet.k (k := .inr "cells") s.d
  rw [src_cells] at z; exact z
theorem SrcAt.gL (s : SrcAt H0 H a c cs l m t G) : DGet G a (.str "left") (some (.int l)) := by
  have z := DGet.k (k := .inr "left") s.d
  rw [src_left] at z; exact z
theorem SrcAt.gM (s : SrcAt H0 H a c cs l m t G) : DGet G a (.str "mixed") (some (.int m)) := by
  have z := DGet.k (k := .inr "mixed") s.d
  rw [src_mixed] at z; exact z
theorem SrcAt.gT (s : SrcAt H0 H a c cs l m t G) : DGet G a (.str "turn") (some (.int t)) := by
  have z := DGet.k (k := .inr "turn") s.d
  rw [src_turn] at z; exact z
theorem src_short : (srcKv c l m t).length < sizeLine := by show 4 < sizeLine; decide
theorem SrcAt.pL (s : SrcAt H0 H a c cs l m t G) {l' : Int} : DPut G a (.str "left") (.int l') (upd G a (.dK (srcKv c l' m t))) := by
  have z := DPut.k (k := .inr "left") (v := .int l') s.d src_short
  rw [src_setLeft] at z; exact z
theorem SrcAt.pM (s : SrcAt H0 H a c cs l m t G) {m' : Int} : DPut G a (.str "mixed") (.int m') (upd G a (.dK (srcKv c l m' t))) := by
  have z := DPut.k (k := .inr "mixed") (v := .int m') s.d src_short
  rw [src_setMixed] at z; exact z
theorem SrcAt.pT (s : SrcAt H0 H a c cs l m t G) {t' : Int} : DPut G a (.str "turn") (.int t') (upd G a (.dK (srcKv c l m t'))) := by
  have z := DPut.k (k := .inr "turn") (v := .int t') s.d src_short
  rw [src_setTurn] at z; exact z
theorem SrcAt.popAt (s : SrcAt H0 H a c cs l m t G) (h : 0 < cs.length) : ∃ y, (cs.map V.int)[(cs.map V.int).length - 1]? = some (.int y) ∧ (cs.map V.int).dropLast = cs.dropLast.map V.int := by
  refine ⟨cs[cs.length - 1]'(by omega), ?_, by rw [List.map_dropLast]⟩
  rw [List.length_map, List.getElem?_map, List.getElem?_eq_getElem (by omega)]
  rfl
end
theorem fmod_fits {a j : Int} (h : 0 < j) : 0 ≤ a.fmod j ∧ a.fmod j < j := ⟨Int.fmod_nonneg_of_pos _ h, Int.fmod_lt_of_pos _ h⟩
theorem iteDT {p a b : Prop} [Decidable p] (h : p) (x : a) : if decide p = true then a else b := by rw [if_pos (decide_eq_true h)]; exact x
theorem iteDF {p a b : Prop} [Decidable p] (h : ¬ p) (x : b) : if decide p = true then a else b := by rw [decide_eq_false h, if_neg Bool.false_ne_true]; exact x
theorem iteBT {a b : Prop} (x : a) : if true = true then a else b := x
theorem iteBF {a b : Prop} (x : b) : if false = true then a else b := x
theorem tSeq_while {c : TT} {tb rest : TS} {D : Ends} {σ : L2.St} {H : Hp} (W : Nat → L2.St → Hp → Prop) (h0 : ∃ m, W m σ H) (hz : ∀ σ H, (∃ m, W m σ H) → rest D σ H)
    (turn : (∀ σ H, (∃ m, W m σ H) → rest D σ H) → ∀ m σ H1, W m σ H1 → c σ H1 fun b H1 => if b = true then ∃ N : L2.St → Hp → Prop, (∀ σ' H', N σ' H' → ∃ m', m' < m ∧ W m' σ' H') ∧ tb { { D with nx := rest D } with nx := N, ct := N, bk := rest D } σ H1 else rest D σ H1) : tSeq (tWhile c tb) rest D σ H :=
  ⟨W, h0, turn hz⟩
theorem ru_of {k : Nat} {A : Around} (r : Room k A) : A.units + 70 < cLine := by have := r.un; omega
theorem int_of_get {ns : List Int} {i : Nat} {y : V} (h : (ns.map V.int)[i]? = some y) : ∃ z, ns[i]? = some z ∧ V.int z = y := by
  rw [List.getElem?_map] at h
  cases e : ns[i]? with
  | none => rw [e] at h; cases h
  | some z => rw [e] at h; exact ⟨z, rfl, Option.some.inj h⟩
/-- as dl_lc, each part first at one place -/
theorem dl_lc2 {X : Cx} {tg : Expr} {pos : Pos} {elt iter : Expr} {ifs : List Expr} {scope : Scope} {own : List (Str × Nat)} {wi : TI} {wd : TAD} {g : TG} {gd : TGD} {tt : TT} {ttd : TTD} {te : TE} {td : TD} (hc : X.calm = true) (hN : X.N.Nodup) (hi : DI X tg iter wi wd) (ok : BlkOk X.N X.env.scope scope own)
    (hg0 : DG (X.blk X.s_0 NoH scope (compEnvC scope [] 0 X.env) []) tg (own.map (·.2)) g gd) (ht0 : DTs (X.blk X.s_0 NoH scope (compEnvC scope [] 0 X.env) []) ifs tt ttd) (he0 : DE (X.blk X.s_0 NoH scope (compEnvC scope [] 0 X.env) []) elt te td)
    (hg : ∀ (s : Shared) (H : Hp) (C : Addr) (cl : List (Str × Addr)) (fp : List Addr), DG (X.blk s H scope (compEnvC scope cl C X.env) fp) tg (own.map (·.2)) g gd) (ht : ∀ (s : Shared) (H : Hp) (C : Addr) (cl : List (Str × Addr)) (fp : List Addr), DTs (X.blk s H scope (compEnvC scope cl C X.env) fp) ifs tt ttd)
    (he : ∀ (s : Shared) (H : Hp) (C : Addr) (cl : List (Str × Addr)) (fp : List Addr), DE (X.blk s H scope (compEnvC scope cl C X.env) fp) elt te td) (hs : ∀ x, foldedSetIterable iter X.env x = pure x := by intro _; rfl) :
    DL X (.ListComp elt [⟨tg, iter, ifs, 0⟩] scope pos) (tLc wi g tt te (own.map (·.2))) (lLc wd gd ttd td (own.map (·.2))) := dl_lc hc hN hi ok hg ht he hs
end DD
set_option Elab.async false
set_option linter.all false
set_option maxRecDepth 100000
set_option maxHeartbeats 2000000
/-! The plain side: loops by a word, sizes of data. -/
namespace DD
open PySem
theorem forL_by {gd : TGD} {b : TSD} {E : EndsD} {ds : List PD} {Γ : Env} (P : Nat → Env → Prop) (h0 : P 0 Γ)
    (hs : ∀ i d Γ (F : Env → Prop), ds[i]? = some d → P i Γ → (∀ Γ', P (i + 1) Γ' → F Γ') → gd d Γ fun Γ1 => b { nx := F, ct := F, bk := E.nx, rt := E.rt } Γ1)
    (hd : ∀ Γ, P ds.length Γ → E.nx Γ) : forL gd b E ds Γ := by
  suffices H : ∀ n i Γ, n = ds.length - i → i ≤ ds.length → P i Γ → forL gd b E (ds.drop i) Γ from H _ 0 Γ rfl (Nat.zero_le _) h0
  intro n
  induction n with
  | zero =>
    intro i Γ e hi p
    have : i = ds.length := by omega
    subst this
    rw [List.drop_length]
    exact hd Γ p
  | succ n ih =>
    intro i Γ e hi p
    have hlt : i < ds.length := by omega
    rw [List.drop_eq_getElem_cons hlt]
    exact hs i ds[i] Γ _ (List.getElem?_eq_getElem hlt) p fun Γ' p' => ih (i + 1) Γ' (by omega) (by omega) p'
theorem lcL_fm {gd : TGD} {tt : TTD} {td : TD} {Γ : Env} (f : PD → Option PD) : ∀ {ds : List PD} {φ : List PD → Prop},
    (∀ d ∈ ds, ∀ (F : PD → Prop) (G : Prop), (match f d with | some e => F e | none => G) → gd d Γ fun Γ2 => tt Γ2 fun b => if b = true then td Γ2 F else G) → φ (ds.filterMap f) → lcL gd tt td Γ ds φ
  | [], φ, _, h => h
  | d :: ds, φ, hs, h => by
    refine hs d (List.mem_cons_self ..) _ _ ?_
    cases e : f d with
    | some x =>
      rw [List.filterMap_cons_some e] at h
      exact lcL_fm f (fun d m => hs d (List.mem_cons_of_mem _ m)) h
    | none =>
      rw [List.filterMap_cons_none e] at h
      exact lcL_fm f (fun d m => hs d (List.mem_cons_of_mem _ m)) h
theorem lcL_map {gd : TGD} {tt : TTD} {td : TD} {Γ : Env} (f : PD → PD) {ds : List PD} {φ : List PD → Prop}
    (hs : ∀ d ∈ ds, ∀ (F : PD → Prop) (G : Prop), F (f d) → gd d Γ fun Γ2 => tt Γ2 fun b => if b = true then td Γ2 F else G) (h : φ (ds.map f)) : lcL gd tt td Γ ds φ :=
  lcL_fm (fun d => some (f d)) (fun d m F G z => hs d m F G z) (by rw [show (fun d => some (f d)) = some ∘ f from rfl, List.filterMap_eq_map]; exact h)
theorem lcL_rel {gd : TGD} {tt : TTD} {td : TD} {Γ : Env} (R : PD → PD → Prop) : ∀ {ds : List PD} {φ : List PD → Prop},
    (∀ d ∈ ds, ∀ (F : PD → Prop) (G : Prop), (∀ e, R d e → F e) → gd d Γ fun Γ2 => tt Γ2 fun b => if b = true then td Γ2 F else G) →
    (∀ es : List PD, es.length = ds.length → (∀ (i : Nat) (d e : PD), ds[i]? = some d → es[i]? = some e → R d e) → φ es) → lcL gd tt td Γ ds φ
  | [], φ, _, h => h [] rfl (fun i d e h1 _ => by simp at h1)
  | d :: ds, φ, hs, h => by
    refine hs d (List.mem_cons_self ..) _ _ fun x hx => ?_
    refine lcL_rel R (fun d m => hs d (List.mem_cons_of_mem _ m)) fun es hl hr => h (x :: es) (by simp [hl]) fun i a b h1 h2 => ?_
    cases i with
    | zero => simp at h1 h2; subst h1; subst h2; exact hx
    | succ i => exact hr i a b (by simpa using h1) (by simpa using h2)
theorem rangeD_at {lo : Int} {n i : Nat} {d : PD} (h : (rangeD lo n)[i]? = some d) : i < n ∧ d = .int (lo + (i : Nat)) := by
  unfold rangeD at h
  rw [List.getElem?_map] at h
  by_cases hi : i < n
  · rw [List.getElem?_range hi] at h
    exact ⟨hi, (Option.some.inj h).symm⟩
  · rw [List.getElem?_eq_none (by simpa using hi)] at h
    cases h
theorem rangeD_mem {lo : Int} {n : Nat} {d : PD} (h : d ∈ rangeD lo n) : ∃ i : Nat, i < n ∧ d = .int (lo + (i : Nat)) := by
  unfold rangeD at h
  obtain ⟨i, hi, e⟩ := List.mem_map.mp h
  exact ⟨i, List.mem_range.mp hi, e.symm⟩
theorem rangeD_len {lo : Int} {n : Nat} : (rangeD lo n).length = n := by unfold rangeD; rw [List.length_map, List.length_range]
/-! ### data made of ints -/
structure Nm (w k : Nat) (d : PD) : Prop where
  sh : d.showable = true
  cl : d.canLay0 = true
  ls : d.leavesShort 13 = true
  wt : d.weight ≤ w
  dp : d.depth ≤ k
theorem log2_le {n a : Nat} (h : n < 2 ^ a) (ha : 0 < a) : n.log2 < a := by
  by_cases hn : n = 0
  · subst hn; exact ha
  · exact (Nat.log2_lt hn).mpr h
theorem Nm.int {i : Int} (h : i.natAbs < 10 ^ 12) : Nm 41 0 (.int i) := by
  have hl : i.natAbs.log2 < 40 := log2_le (Nat.lt_of_lt_of_le h (by decide)) (by decide)
  refine ⟨by simp only [PyData.showable]; exact decide_eq_true (by omega), rfl, ?_, ?_, Nat.le_refl _⟩
  · have := PyData.shown_int_le h
    simp only [PyData.leavesShort]
    first
      | exact decide_eq_true this
      | simpa [PyData.shown] using this
  · simp only [PyData.weight]
    split <;> omega
theorem Nm.bool {i : Bool} : Nm 0 0 (.bool i) := ⟨rfl, rfl, by simp only [PyData.leavesShort], Nat.le_refl _, Nat.le_refl _⟩
theorem Nm.mono {w k w' k' : Nat} {d : PD} (h : Nm w k d) (hw : w ≤ w') (hk : k ≤ k') : Nm w' k' d := ⟨h.sh, h.cl, h.ls, Nat.le_trans h.wt hw, Nat.le_trans h.dp hk⟩
structure NmA (w k : Nat) (ds : List PD) : Prop where
  sh : PyData.showableAll ds = true
  cl : PyData.canLayAll0 ds = true
  ls : PyData.leavesShortAll 13 ds = true
  wt : PyData.weightAll ds ≤ ds.length * (w + 1)
  dp : PyData.depthAll ds ≤ k
theorem NmA.of {w k : Nat} : ∀ {ds : List PD}, (∀ d ∈ ds, Nm w k d) → NmA w k ds
  | [], _ => ⟨rfl, rfl, rfl, Nat.zero_le _, Nat.zero_le _⟩
  | d :: ds, h => by
    have a := h d (List.mem_cons_self ..)
    have r := NmA.of (ds := ds) fun e m => h e (List.mem_cons_of_mem _ m)
    refine ⟨by simp only [PyData.showableAll, a.sh, r.sh, Bool.and_self], by simp only [PyData.canLayAll0, a.cl, r.cl, Bool.and_self], by simp only [PyData.leavesShortAll, a.ls, r.ls, Bool.and_self], ?_, ?_⟩
    · have := a.wt
      have := r.wt
      simp only [PyData.weightAll, List.length_cons, Nat.succ_mul]
      omega
    · simp only [PyData.depthAll]
      exact Nat.max_le.mpr ⟨a.dp, r.dp⟩
theorem Nm.list {w k : Nat} {ds : List PD} (h : ∀ d ∈ ds, Nm w k d) : Nm (ds.length * (w + 1)) (k + 1) (.list ds) := by
  have z := NmA.of h
  exact ⟨by simp only [PyData.showable]; exact z.sh, by simp only [PyData.canLay0]; exact z.cl, by simp only [PyData.leavesShort]; exact z.ls, by simp only [PyData.weight]; exact z.wt, by simp only [PyData.depth]; exact Nat.succ_le_succ z.dp⟩
theorem Nm.tuple {w k : Nat} {ds : List PD} (h : ∀ d ∈ ds, Nm w k d) : Nm (ds.length * (w + 1)) (k + 1) (.tuple ds) := by
  have z := NmA.of h
  exact ⟨by simp only [PyData.showable]; exact z.sh, by simp only [PyData.canLay0]; exact z.cl, by simp only [PyData.leavesShort]; exact z.ls, by simp only [PyData.weight]; exact z.wt, by simp only [PyData.depth]; exact Nat.succ_le_succ z.dp⟩
theorem Nm.pair {a b : Int} (ha : a.natAbs < 10 ^ 12) (hb : b.natAbs < 10 ^ 12) : Nm 84 1 (.tuple [.int a, .int b]) :=
  Nm.tuple (w := 41) (k := 0) (ds := [.int a, .int b]) fun d m => by
    simp only [List.mem_cons, List.not_mem_nil, or_false] at m
    rcases m with rfl | rfl
    · exact .int ha
    · exact .int hb
theorem Nm.ok {w k : Nat} {d : PD} (h : Nm w k d) (hw : w ≤ 2 ^ 20 := by decide) (hk : k ≤ 64 := by decide) : ShowOk d :=
  ⟨h.sh, h.cl, PyData.shown_fits (by decide) (by decide) h.ls (Nat.le_trans h.wt hw), Nat.le_trans h.dp hk⟩
theorem Nm.shaped {w k : Nat} {d : PD} (h : Nm w k d) (hk : k ≤ 64 := by decide) : SeqAt.shaped d = true := by
  unfold SeqAt.shaped
  rw [h.cl, decide_eq_true (Nat.le_trans h.dp hk)]
  rfl
mutual
theorem eqv_refl : ∀ d : PD, d.canLay0 = true → PyData.eqv d d = true
  | .none, _ => rfl
  | .bool b, _ => by simp only [PyData.eqv, beq_self_eq_true]
  | .int i, _ => by simp only [PyData.eqv, beq_self_eq_true]
  | .str x, _ => by simp only [PyData.eqv, beq_self_eq_true]
  | .list xs, h => by simp only [PyData.eqv]; exact eqvAll_refl xs (by simpa [PyData.canLay0] using h)
  | .tuple xs, h => by simp only [PyData.eqv]; exact eqvAll_refl xs (by simpa [PyData.canLay0] using h)
  | .dict kvs, h => by simp [PyData.canLay0] at h
theorem eqvAll_refl : ∀ ds : List PD, PyData.canLayAll0 ds = true → PyData.eqvAll ds ds = true
  | [], _ => rfl
  | d :: ds, h => by
    have c' := Bool.and_eq_true_iff.mp (show (_ && _) = true by simpa [PyData.canLayAll0] using h)
    simp only [PyData.eqvAll, eqv_refl d c'.1, eqvAll_refl ds c'.2, Bool.and_self]
end
/-- a != b on like lists or tuples -/
theorem ne_tup {xs : List PD} {φ : PD → Prop} {w k : Nat} (h : Nm w k (.tuple xs)) (p : φ (.bool false)) (hk : k ≤ 64 := by decide) : neD (.tuple xs) (.tuple xs) φ := by
  unfold neD
  exact ⟨h.shaped hk, h.shaped hk, by rw [eqv_refl _ h.cl]; exact p⟩
theorem ne_lst {xs : List PD} {φ : PD → Prop} {w k : Nat} (h : Nm w k (.list xs)) (p : φ (.bool false)) (hk : k ≤ 64 := by decide) : neD (.list xs) (.list xs) φ := by
  unfold neD
  exact ⟨h.shaped hk, h.shaped hk, by rw [eqv_refl _ h.cl]; exact p⟩
theorem eq_tup {xs : List PD} {φ : PD → Prop} {w k : Nat} (h : Nm w k (.tuple xs)) (p : φ (.bool true)) (hk : k ≤ 64 := by decide) : eqD (.tuple xs) (.tuple xs) φ := by
  unfold eqD
  exact ⟨h.shaped hk, h.shaped hk, by rw [eqv_refl _ h.cl]; exact p⟩
theorem eq_lst {xs : List PD} {φ : PD → Prop} {w k : Nat} (h : Nm w k (.list xs)) (p : φ (.bool true)) (hk : k ≤ 64 := by decide) : eqD (.list xs) (.list xs) φ := by
  unfold eqD
  exact ⟨h.shaped hk, h.shaped hk, by rw [eqv_refl _ h.cl]; exact p⟩
theorem ne_str {x : Str} {φ : PD → Prop} (p : φ (.bool false)) : neD (.str x) (.str x) φ := by
  unfold neD
  show φ (.bool (!decide (x = x)))
  rw [decide_eq_true rfl]; exact p
theorem ne_int {i j : Int} (e : i = j) {φ : PD → Prop} (p : φ (.bool false)) : neD (.int i) (.int j) φ := by
  unfold neD
  show φ (.bool (!decide (i = j)))
  rw [decide_eq_true e]; exact p
end DD
namespace DD
open PySem
section
variable {κ : Type} [DecidableEq κ]
theorem lookD_nil {k : κ} : lookD ([] : List (κ × PD)) k = none := rfl
theorem look_has {k : κ} : ∀ {kvs : List (κ × PD)}, hasK kvs k = (lookD kvs k).isSome
  | [] => rfl
  | p :: r => by
    unfold hasK lookD
    by_cases z : p.1 = k
    · rw [if_pos z, if_pos z]; rfl
    · rw [if_neg z, if_neg z]; exact look_has
theorem look_set {k j : κ} {v : PD} : ∀ {kvs : List (κ × PD)}, lookD (setK kvs k v) j = if j = k then (if (lookD kvs k).isSome then some v else none) else lookD kvs j
  | [] => by unfold setK lookD; split <;> rfl
  | p :: r => by
    unfold setK
    by_cases z : p.1 = k
    · rw [if_pos z]
      unfold lookD
      by_cases w : j = k
      · subst w
        rw [if_pos z, if_pos rfl, if_pos z]; rfl
      · have : ¬ p.1 = j := fun e => w (e.symm.trans z)
        rw [if_neg this, if_neg w, if_neg this, look_set, if_neg w]
    · rw [if_neg z]
      unfold lookD
      by_cases w : j = k
      · subst w
        rw [if_neg z, if_pos rfl, if_neg z, look_set, if_pos rfl]
      · by_cases y : p.1 = j
        · rw [if_pos y, if_neg w, if_pos y]
        · rw [if_neg y, if_neg w, if_neg y, look_set, if_neg w]
theorem look_app {k : κ} : ∀ {a b : List (κ × PD)}, lookD (a ++ b) k = (lookD a k).or (lookD b k)
  | [], b => rfl
  | p :: r, b => by
    show (if p.1 = k then some p.2 else lookD (r ++ b) k) = (if p.1 = k then some p.2 else lookD r k).or (lookD b k)
    split
    · rfl
    · exact look_app
theorem look_put {kvs : List (κ × PD)} {k j : κ} {v : PD} : lookD (putD kvs k v) j = if j = k then some v else lookD kvs j := by
  unfold putD
  rw [look_has]
  by_cases z : (lookD kvs k).isSome = true
  · rw [if_pos z, look_set, if_pos z]
  · rw [if_neg z, look_app]
    have hn : lookD kvs k = none := by cases h : lookD kvs k with
      | none => rfl
      | some x => rw [h] at z; exact absurd rfl z
    by_cases w : j = k
    · subst w
      rw [hn, if_pos rfl]
      show lookD [(j, v)] j = _
      unfold lookD
      rw [if_pos rfl]
    · rw [if_neg w]
      have : lookD [(k, v)] j = none := by unfold lookD; rw [if_neg fun e => w e.symm]; rfl
      rw [this, Option.or_none]
theorem put_len {kvs : List (κ × PD)} {k : κ} {v : PD} : (putD kvs k v).length ≤ kvs.length + 1 := by
  have e : ∀ l : List (κ × PD), (setK l k v).length = l.length := fun l => by
    induction l with
    | nil => rfl
    | cons p r ih => unfold setK; rw [List.length_cons, List.length_cons, ih]
  unfold putD
  split
  · rw [e]; omega
  · rw [List.length_append]; exact Nat.le_refl _
end
theorem mulOk_l {i j : Int} (h : -(2 ^ 64) < i ∧ i < 2 ^ 64) : MulOk i j := .inl (.inl h)
theorem mulOk_r {i j : Int} (h : -(2 ^ 64) < j ∧ j < 2 ^ 64) : MulOk i j := .inl (.inr h)
theorem ite_b {p a b : Prop} [Decidable p] (ha : p → a) (hb : ¬ p → b) : if decide p = true then a else b := by
  by_cases h : p
  · rw [if_pos (decide_eq_true h)]; exact ha h
  · rw [decide_eq_false h, if_neg Bool.false_ne_true]; exact hb h
theorem ite_bb {c : Bool} {a b : Prop} (ha : c = true → a) (hb : c = false → b) : if c = true then a else b := by
  cases c with
  | true => exact ha rfl
  | false => exact hb rfl
theorem iiI {f : Int → Int → Bool} {i j : Int} {φ : PD → Prop} (p : φ (.bool (f i j))) : iiB f (.int i) (.int j) φ := by unfold iiB; exact p
theorem ltI {i j : Int} {φ : PD → Prop} (p : φ (.bool (decide (i < j)))) : ltD (.int i) (.int j) φ := by unfold ltD; exact p
theorem eqI {i j : Int} {φ : PD → Prop} (p : φ (.bool (decide (i = j)))) : eqD (.int i) (.int j) φ := by unfold eqD; exact p
theorem neI {i j : Int} {φ : PD → Prop} (p : φ (.bool (!decide (i = j)))) : neD (.int i) (.int j) φ := by unfold neD; exact p
theorem le_t {i j : Int} (h : i ≤ j) {φ : PD → Prop} (p : φ (.bool true)) : leD (.int i) (.int j) φ := by
  refine iiI ?_
  rw [decide_eq_true h]; exact p
theorem le_f {i j : Int} (h : ¬ i ≤ j) {φ : PD → Prop} (p : φ (.bool false)) : leD (.int i) (.int j) φ := by
  refine iiI ?_
  rw [decide_eq_false h]; exact p
theorem lt_t {i j : Int} (h : i < j) {φ : PD → Prop} (p : φ (.bool true)) : ltD (.int i) (.int j) φ := by
  refine ltI ?_
  rw [decide_eq_true h]; exact p
theorem lt_f {i j : Int} (h : ¬ i < j) {φ : PD → Prop} (p : φ (.bool false)) : ltD (.int i) (.int j) φ := by
  refine ltI ?_
  rw [decide_eq_false h]; exact p
theorem gt_t {i j : Int} (h : j < i) {φ : PD → Prop} (p : φ (.bool true)) : gtD (.int i) (.int j) φ := by
  refine iiI ?_
  rw [decide_eq_true h]; exact p
theorem gt_f {i j : Int} (h : ¬ j < i) {φ : PD → Prop} (p : φ (.bool false)) : gtD (.int i) (.int j) φ := by
  refine iiI ?_
  rw [decide_eq_false h]; exact p
theorem eq_t {i j : Int} (h : i = j) {φ : PD → Prop} (p : φ (.bool true)) : eqD (.int i) (.int j) φ := by
  refine eqI ?_
  rw [decide_eq_true h]; exact p
theorem eq_f {i j : Int} (h : i ≠ j) {φ : PD → Prop} (p : φ (.bool false)) : eqD (.int i) (.int j) φ := by
  refine eqI ?_
  rw [decide_eq_false h]; exact p
theorem ne_t {i j : Int} (e : i ≠ j) {φ : PD → Prop} (p : φ (.bool true)) : neD (.int i) (.int j) φ := by
  unfold neD
  show φ (.bool (!decide (i = j)))
  rw [decide_eq_false e]; exact p
theorem at_nat {α : Type} {xs : List α} {i : Nat} {d : α} (h : xs[i]? = some d) : L2.atI xs (i : Int) = some d := by
  have hi := (List.getElem?_eq_some_iff.mp h).1
  unfold L2.atI L2.ixN
  rw [if_pos (by omega), if_pos (by omega)]
  simpa using h
theorem at_last {α : Type} {xs : List α} {d : α} (h : xs[xs.length - 1]? = some d) : L2.atI xs (-1) = some d := by
  have hi := (List.getElem?_eq_some_iff.mp h).1
  unfold L2.atI L2.ixN
  rw [if_neg (by omega), if_pos (by omega)]
  rw [show (-1 + (xs.length : Int)).toNat = xs.length - 1 by omega]
  exact h
theorem sorted_one {a b : List Int} (p : a.Perm b) (ha : a.Pairwise (· ≤ ·)) (hb : b.Pairwise (· ≤ ·)) : a = b :=
  List.Perm.eq_of_pairwise (fun x y _ _ h1 h2 => Int.le_antisymm h1 h2) ha hb p
theorem range_sorted {lo : Int} {n : Nat} : ((List.range n).map fun (i : Nat) => lo + (i : Int)).Pairwise (· ≤ ·) := by
  rw [List.pairwise_map]
  exact (List.pairwise_lt_range (n := n)).imp fun h => by omega
/-- the draw -/
theorem pick_of {n : Int} {φ : PD → Prop} (h : n < 2 ^ 64) (p : ∀ k : Int, 0 ≤ k → (k < n ∨ k = 0) → φ (.int k)) : preP [.int n] ∧ ∀ d, postP [.int n] d → φ d :=
  ⟨h, fun d q => match d, q with
    | .int k, q => p k q.1 q.2⟩
theorem addI {i j : Int} {φ : PD → Prop} (p : φ (.int (i + j))) : addD (.int i) (.int j) φ := p
theorem subI {i j : Int} {φ : PD → Prop} (p : φ (.int (i - j))) : subD (.int i) (.int j) φ := p
theorem mulI {i j : Int} {φ : PD → Prop} (h : MulOk i j) (p : φ (.int (i * j))) : mulD (.int i) (.int j) φ := ⟨h, p⟩
theorem modI {i j : Int} {φ : PD → Prop} (h : 0 < j) (p : φ (.int (i % j))) : modD (.int i) (.int j) φ := by
  unfold modD
  exact ⟨by omega, by rw [Int.fmod_eq_emod_of_nonneg _ (by omega)]; exact p⟩
theorem fdivI {i j : Int} {φ : PD → Prop} (h : 0 < j) (h2 : j < 2 ^ 64) (p : φ (.int (i / j))) : fdivD (.int i) (.int j) φ := by
  unfold fdivD
  have e : j.natAbs < 2 ^ 64 := by omega
  have e := log2_le e (by decide)
  exact ⟨.inr ⟨h, by omega⟩, by rw [Int.fdiv_eq_ediv_of_nonneg _ (by omega)]; exact p⟩
end DD
set_option Elab.async false
set_option linter.all false
set_option maxRecDepth 100000
set_option maxHeartbeats 2000000
/-! isinstance, displays with a star, lists times an int, in a tuple. -/
namespace DD
open PySem L2 PySem.Spec PyProof.Rows StX
section
variable {X : Cx} {K : PySem.W.Frag} {e a b c : Expr} {es : List Expr} {te ta tb tc : TE} {tra : TA} {tr : TAD} {td tda tdb tdc : TD} {pos p : Pos} {x : Str} {W : Wd} {σ : L2.St} {H0 H H0' H' : Hp} {Γ : Env}
theorem ru65 {k : Nat} {A : Around} (r : Room k A) : A.units + 65 < cLine := by have := r.un; omega
/-! ### isinstance -/
def tyD : PD → String
  | .none => "NoneType"
  | .bool _ => "bool"
  | .int _ => "int"
  | .str _ => "str"
  | .list _ => "list"
  | .tuple _ => "tuple"
  | .dict _ => "dict"
theorem Dv.ty {H : Hp} {v : V} {d : PD} (h : Dv K H v d) : TyX K H v (.type (tyD d)) := by
  cases h with
  | non => exact .base .non
  | bl b => exact .base (.bl b)
  | int i => exact .base (.int i)
  | str x => exact .base (.str x)
  | lst h r => exact .base (.lst h)
  | tup h r =>
    rcases h with (h | ⟨o, h⟩) | ⟨o, its, n, h1, h2, _⟩
    · exact .base (.tup h)
    · exact .fTuple h
    · exact .kTuple h1 h2
  | dic h r => exact .base (.dK h)
def isiD (T : String) (d : PD) : Bool := tyD d == T || (T == "int" && tyD d == "bool")
def oIsi (T : String) (td : TD) : TD := fun Γ φ => td Γ fun d => φ (.bool (isiD T d))
def IsiOk (T : String) : Prop := ∀ t ∈ ["NoneType", "bool", "int", "str", "list", "tuple", "dict"], kitB t T = some (t == T || (T == "int" && t == "bool"))
theorem isiOk_tuple : IsiOk "tuple" := by unfold IsiOk; decide +kernel
theorem isiOk_int : IsiOk "int" := by unfold IsiOk; decide +kernel
theorem isiOk_bool : IsiOk "bool" := by unfold IsiOk; decide +kernel
theorem isiOk_str : IsiOk "str" := by unfold IsiOk; decide +kernel
theorem isiOk_list : IsiOk "list" := by unfold IsiOk; decide +kernel
theorem tyD_mem (d : PD) : tyD d ∈ ["NoneType", "bool", "int", "str", "list", "tuple", "dict"] := by cases d <;> simp [tyD]
theorem re_isi {T : String} (hT : IsiOk T) (h : RE K te td) : RE K (tCB (rIsi K) (tCons te (tCons (tC (.ty T)) tNil))) (oIsi T td) := fun W σ H0 H Γ φ Q I t k => by
  refine h W σ H0 H Γ _ _ I t fun d v H1 G1 t1 I1 s1 dv => ?_
  exact ⟨v, .ty T, .type (tyD d), .type T, _, rfl, .ty T, (dv.mono I1.ex).ty, kit_ty (hT _ (tyD_mem d)), k _ _ H1 G1 t1 I1 s1 (.bl _)⟩
theorem de_isi {T : String} {y : Str} {py : Pos} (hT : IsiOk T) (hg : Gl X "isinstance") (hm : X.mg "isinstance" = none) (hgT : Gl X y) (hmT : X.mg y = none) (hvT : bootBuiltins y = some (.type T)) (h : DE X e te td) (hnT : y ≠ "__name__" := by decide) (hdT : (y == ("__debug__" : Str)) = false := by decide)
    (he : starEach [e, .Name y py] X.env = (false, eval e X.env) :: starEach [.Name y py] X.env := by rfl) (he2 : starEach [.Name y py] X.env = (false, eval (.Name y py) X.env) :: starEach [] X.env := by rfl) (hpl : (backTo pos (starEach [.Name y py] X.env)).any (·.1) = false := by rfl) :
    DE X (.Call (.Name "isinstance" p) [e, .Name y py] [] pos) (tCB (rIsi X.K) (tCons te (tCons (tC (.ty T)) tNil))) (oIsi T td) :=
  ⟨pe_callB call_isi hg hm bt_isinstance (pa_cons h.pe (pa_cons (pe_bltn hgT hmT hvT rfl hnT hdT) pa_nil he2) he) (by decide) (by decide) he hpl, re_isi hT h.re⟩
theorem bt_bool : bootBuiltins "bool" = some (.type "bool") := by decide +kernel
theorem bt_str : bootBuiltins "str" = some (.type "str") := by decide +kernel
/-! ### (.., *e, ..) -/
def oStar (td : TD) (tr : TAD) : TAD := fun Γ φ => td Γ fun d => match d with
  | .tuple ds => tr Γ fun es => φ (ds ++ es)
  | .list ds => tr Γ fun es => φ (ds ++ es)
  | _ => False
theorem ra_star (h : RE K te td) (hr : RA K tra tr) : RA K (tStar K te tra) (oStar td tr) := fun W σ H0 H Γ φ Q I t k => by
  refine h W σ H0 H Γ _ _ I t fun d v H1 G1 t1 I1 s1 dv => ?_
  split at t1
  · cases dv with
    | tup q r => exact ⟨_, _, rfl, .inl (sqT_mono I1.ex q), hr W σ H1 G1 Γ _ _ I1 t1 fun es us H2 G2 t2 I2 s2 r2 => k _ _ H2 G2 t2 I2 (s1.trans s2) ((r.mono s2).app r2)⟩
  · cases dv with
    | lst q r => exact ⟨_, _, rfl, .inr (SqL.of (I1.ex _ _ q)), hr W σ H1 G1 Γ _ _ I1 t1 fun es us H2 G2 t2 I2 s2 r2 => k _ _ H2 G2 t2 I2 (s1.trans s2) ((r.mono s2).app r2)⟩
  · exact t1.elim
theorem da_star {sp : Pos} (h : DE X e te td) (hr : DA X es tra tr) (hs : starEach (.Starred e sp :: es) X.env = (true, eval e X.env) :: starEach es X.env := by rfl) : DA X (.Starred e sp :: es) (tStar X.K te tra) (oStar td tr) := ⟨pa_star h.pe hr.pe hs, ra_star h.re hr.re⟩
/-! ### xs * n, a new list -/
def lMul (ta tb : TD) : TAD := fun Γ φ => ta Γ fun d => tb Γ fun e => match d, e with
  | .list xs, .int j => (-(2 ^ 63) ≤ j ∧ j < 2 ^ 63) ∧ xs.length * j.toNat ≤ sizeLine ∧ φ (List.replicate j.toNat xs).flatten
  | _, _ => False
theorem rl_mul (ha : RB K ta tda) (hb : RB K tb tdb) : RL K (tOp rMul ta tb) (lMul tda tdb) := fun W σ H0 H Γ φ Q I t k => by
  refine ha W σ H0 H Γ _ _ I t fun d v H1 G1 t1 I1 s1 w1 => ?_
  refine hb W σ H1 G1 Γ _ _ I1 t1 fun e u H2 G2 t2 I2 s2 w2 => ?_
  split at t2
  · obtain ⟨q, vs, rfl, hq, r1⟩ := (w1 H2 G2 I2 s2).list I2.ex
    have eu := (w2 H2 G2 I2 (Same.refl _)).int
    subst eu
    refine .inr ⟨q, _, vs, rfl, rfl, hq, t2.1.1, t2.1.2, by rw [r1.length]; exact t2.2.1, fun l hl => ?_⟩
    exact k _ _ _ _ _ t2.2.2 (I2.step (Stp.own I2.ex hl _)) (s1.trans s2) (I2.mine hl) (I2.apart hl) upd_same (r1.rep _)
  · exact t2.elim
theorem dl_mul (ha : DB X a ta tda) (hb : DB X b tb tdb) : DL X (.BinOp a .Mult b pos) (tOp rMul ta tb) (lMul tda tdb) := ⟨pe_op od_mul ha.pe hb.pe, rl_mul ha.re hb.re⟩
/-! ### a text in a tuple of texts -/
def inSD (neg : Bool) : PD → PD → (PD → Prop) → Prop
  | .str z, .tuple ds, φ => ∃ ss : List Str, ds = ss.map .str ∧ φ (.bool (if neg then !decide (z ∈ ss) else decide (z ∈ ss)))
  | _, _, _ => False
theorem inV_str {z : Str} : ∀ ss : List Str, inV (.str z) (ss.map V.str) = decide (z ∈ ss)
  | [] => rfl
  | y :: ss => by
    have ih := inV_str (z := z) ss
    unfold inV at ih ⊢
    rw [List.map_cons, List.any_cons, ih]
    by_cases h : z = y
    · subst h
      simp [eqV]
    · have h' : ¬ y = z := fun e => h e.symm
      simp [eqV, h, h']
theorem rd_inS {neg : Bool} : ROp K (rIn K neg) (inSD neg) := fun H0 H v u d e φ Q s w1 w2 t k => by
  unfold inSD at t
  split at t
  · obtain ⟨ss, rfl, t⟩ := t
    have ez := w1.str
    subst ez
    obtain ⟨q, us, rfl, hq, r, _⟩ := w2.tuple s
    rw [r.strs] at hq
    refine ⟨q, ss.map V.str, rfl, .inr hq, rfl, by rw [List.all_map]; exact List.all_eq_true.mpr fun _ _ => rfl, ?_⟩
    rw [inV_str]
    exact k _ _ H0 H t (Stp.refl s) (.bl _)
  · exact t.elim
theorem ds_setLc2 {i : Nat} {y : Str} {py : Pos} {elt tg iter : Expr} {ifs : List Expr} {scope : Scope} {own : List (Str × Nat)} {pos spos : Pos} {wi : TI} {wd : TAD} {g : TG} {gd : TGD} {tt : TT} {ttd : TTD} {te : TE} {td : TD} (hc : X.calm = true) (hN : X.N.Nodup) (hy : X.N[i]? = some y) (hyl : X.env.scope.names.lookup y = some .local)
    (hsw : swapsWith (.ListComp elt [⟨tg, iter, ifs, 0⟩] scope pos) (some (.Name y py)) spos.line X.env = pure true) (hi : DI X tg iter wi wd) (ok : BlkOk X.N X.env.scope scope own)
    (hg0 : DG (X.blk X.s_0 NoH scope (compEnvC scope [] 0 X.env) []) tg (own.map (·.2)) g gd) (ht0 : DTs (X.blk X.s_0 NoH scope (compEnvC scope [] 0 X.env) []) ifs tt ttd) (he0 : DE (X.blk X.s_0 NoH scope (compEnvC scope [] 0 X.env) []) elt te td)
    (hg : ∀ (s : Shared) (H : Hp) (C : Addr) (cl : List (Str × Addr)) (fp : List Addr), DG (X.blk s H scope (compEnvC scope cl C X.env) fp) tg (own.map (·.2)) g gd) (ht : ∀ (s : Shared) (H : Hp) (C : Addr) (cl : List (Str × Addr)) (fp : List Addr), DTs (X.blk s H scope (compEnvC scope cl C X.env) fp) ifs tt ttd)
    (he : ∀ (s : Shared) (H : Hp) (C : Addr) (cl : List (Str × Addr)) (fp : List Addr), DE (X.blk s H scope (compEnvC scope cl C X.env) fp) elt te td) (hs : ∀ x, foldedSetIterable iter X.env x = pure x := by intro _; rfl) :
    DS X (.Assign [.Name y py] (.ListComp elt [⟨tg, iter, ifs, 0⟩] scope pos) spos) (tAsg (tLc wi g tt te (own.map (·.2))) (gName i)) (sOwn i (lLc wd gd ttd td (own.map (·.2)))) :=
  ds_setLc hc hN hy hyl hsw hi ok hg ht he hs
theorem ds_valLc2 {i : Nat} {y : Str} {py : Pos} {elt tg iter : Expr} {ifs : List Expr} {scope : Scope} {own : List (Str × Nat)} {pos spos : Pos} {wi : TI} {wd : TAD} {g : TG} {gd : TGD} {tt : TT} {ttd : TTD} {te : TE} {td : TD} (hc : X.calm = true) (hN : X.N.Nodup) (hy : X.N[i]? = some y) (hyl : X.env.scope.names.lookup y = some .local)
    (hsw : swapsWith (.ListComp elt [⟨tg, iter, ifs, 0⟩] scope pos) (some (.Name y py)) spos.line X.env = pure true) (hi : DI X tg iter wi wd) (ok : BlkOk X.N X.env.scope scope own)
    (hg0 : DG (X.blk X.s_0 NoH scope (compEnvC scope [] 0 X.env) []) tg (own.map (·.2)) g gd) (ht0 : DTs (X.blk X.s_0 NoH scope (compEnvC scope [] 0 X.env) []) ifs tt ttd) (he0 : DE (X.blk X.s_0 NoH scope (compEnvC scope [] 0 X.env) []) elt te td)
    (hg : ∀ (s : Shared) (H : Hp) (C : Addr) (cl : List (Str × Addr)) (fp : List Addr), DG (X.blk s H scope (compEnvC scope cl C X.env) fp) tg (own.map (·.2)) g gd) (ht : ∀ (s : Shared) (H : Hp) (C : Addr) (cl : List (Str × Addr)) (fp : List Addr), DTs (X.blk s H scope (compEnvC scope cl C X.env) fp) ifs tt ttd)
    (he : ∀ (s : Shared) (H : Hp) (C : Addr) (cl : List (Str × Addr)) (fp : List Addr), DE (X.blk s H scope (compEnvC scope cl C X.env) fp) elt te td) (hs : ∀ x, foldedSetIterable iter X.env x = pure x := by intro _; rfl) :
    DS X (.Assign [.Name y py] (.ListComp elt [⟨tg, iter, ifs, 0⟩] scope pos) spos) (tAsg (tLc wi g tt te (own.map (·.2))) (gName i)) (sVal i (lLc wd gd ttd td (own.map (·.2)))) :=
  ds_valLc hc hN hy hyl hsw hi ok hg ht he hs
end
end DD
set_option Elab.async false
set_option linter.all false
set_option maxRecDepth 100000
set_option maxHeartbeats 2000000
/-! == of any two, sizes with longer ints. -/
namespace DD
open PySem L2
theorem eqA {d e : PD} {φ : PD → Prop} (hd : SeqAt.shaped d = true) (he : SeqAt.shaped e = true) (p : φ (.bool (PyData.eqv d e))) : eqD d e φ := by
  unfold eqD
  split
  · have z : ∀ i j : Int, PyData.eqv (.int i) (.int j) = decide (i = j) := fun i j => by simp only [PyData.eqv]; rfl
    rw [z] at p; exact p
  · have z : ∀ i j : Str, PyData.eqv (.str i) (.str j) = decide (i = j) := fun i j => by simp only [PyData.eqv]; rfl
    rw [z] at p; exact p
  · have z : ∀ i j : Bool, PyData.eqv (.bool i) (.bool j) = decide (i = j) := fun i j => by simp only [PyData.eqv]; rfl
    rw [z] at p; exact p
  · exact ⟨hd, he, p⟩
theorem neA {d e : PD} {φ : PD → Prop} (hd : SeqAt.shaped d = true) (he : SeqAt.shaped e = true) (p : φ (.bool (!PyData.eqv d e))) : neD d e φ := by
  unfold neD
  split
  · have z : ∀ i j : Int, PyData.eqv (.int i) (.int j) = decide (i = j) := fun i j => by simp only [PyData.eqv]; rfl
    rw [z] at p; exact p
  · have z : ∀ i j : Str, PyData.eqv (.str i) (.str j) = decide (i = j) := fun i j => by simp only [PyData.eqv]; rfl
    rw [z] at p; exact p
  · have z : ∀ i j : Bool, PyData.eqv (.bool i) (.bool j) = decide (i = j) := fun i j => by simp only [PyData.eqv]; rfl
    rw [z] at p; exact p
  · exact ⟨hd, he, p⟩
/-- leaves of at most B signs, weight, depth -/
structure NmB (B w k : Nat) (d : PD) : Prop where
  sh : d.showable = true
  cl : d.canLay0 = true
  ls : d.leavesShort B = true
  wt : d.weight ≤ w
  dp : d.depth ≤ k
structure NmBA (B w k : Nat) (ds : List PD) : Prop where
  sh : PyData.showableAll ds = true
  cl : PyData.canLayAll0 ds = true
  ls : PyData.leavesShortAll B ds = true
  wt : PyData.weightAll ds ≤ ds.length * (w + 1)
  dp : PyData.depthAll ds ≤ k
theorem NmB.mono {B w k w' k' : Nat} {d : PD} (h : NmB B w k d) (hw : w ≤ w') (hk : k ≤ k') : NmB B w' k' d := ⟨h.sh, h.cl, h.ls, Nat.le_trans h.wt hw, Nat.le_trans h.dp hk⟩
theorem NmBA.of {B w k : Nat} : ∀ {ds : List PD}, (∀ d ∈ ds, NmB B w k d) → NmBA B w k ds
  | [], _ => ⟨rfl, rfl, rfl, Nat.zero_le _, Nat.zero_le _⟩
  | d :: ds, h => by
    have a := h d (List.mem_cons_self ..)
    have r := NmBA.of (ds := ds) fun e m => h e (List.mem_cons_of_mem _ m)
    refine ⟨by simp only [PyData.showableAll, a.sh, r.sh, Bool.and_self], by simp only [PyData.canLayAll0, a.cl, r.cl, Bool.and_self], by simp only [PyData.leavesShortAll, a.ls, r.ls, Bool.and_self], ?_, ?_⟩
    · have := a.wt
      have := r.wt
      simp only [PyData.weightAll, List.length_cons, Nat.succ_mul]
      omega
    · simp only [PyData.depthAll]
      exact Nat.max_le.mpr ⟨a.dp, r.dp⟩
theorem NmB.list {B w k : Nat} {ds : List PD} (h : ∀ d ∈ ds, NmB B w k d) : NmB B (ds.length * (w + 1)) (k + 1) (.list ds) := by
  have z := NmBA.of h
  exact ⟨by simp only [PyData.showable]; exact z.sh, by simp only [PyData.canLay0]; exact z.cl, by simp only [PyData.leavesShort]; exact z.ls, by simp only [PyData.weight]; exact z.wt, by simp only [PyData.depth]; exact Nat.succ_le_succ z.dp⟩
theorem NmB.tuple {B w k : Nat} {ds : List PD} (h : ∀ d ∈ ds, NmB B w k d) : NmB B (ds.length * (w + 1)) (k + 1) (.tuple ds) := by
  have z := NmBA.of h
  exact ⟨by simp only [PyData.showable]; exact z.sh, by simp only [PyData.canLay0]; exact z.cl, by simp only [PyData.leavesShort]; exact z.ls, by simp only [PyData.weight]; exact z.wt, by simp only [PyData.depth]; exact Nat.succ_le_succ z.dp⟩
theorem NmB.ok {B w k : Nat} {d : PD} (h : NmB B w k d) (hB : 8 ≤ B) (hw : (B + 2) * w + B ≤ sizeLine) (hk : k ≤ 64) : ShowOk d :=
  ⟨h.sh, h.cl, Nat.le_trans (PyData.shown_le B hB d h.ls) (Nat.le_trans (Nat.add_le_add_right (Nat.mul_le_mul_left _ h.wt) _) hw), Nat.le_trans h.dp hk⟩
theorem NmB.shaped {B w k : Nat} {d : PD} (h : NmB B w k d) (hk : k ≤ 64 := by decide) : SeqAt.shaped d = true := by
  unfold SeqAt.shaped
  rw [h.cl, decide_eq_true (Nat.le_trans h.dp hk)]
  rfl
end DD
set_option Elab.async false
set_option linter.all false
set_option maxRecDepth 100000
/-! What the defs promise. -/
namespace K40
open PySem L2 DD
abbrev Rw := Int × Int × Int
def rD (r : Rw) : PD := .tuple [.int r.1, .int r.2.1, .int r.2.2]
def rowsD (rs : List Rw) : PD := .tuple (rs.map rD)
structure ROk (r : Rw) : Prop where
  p : 1 ≤ r.2.1
  q : r.2.1 ≤ r.1
  m : r.1 ≤ 13
  s0 : -100 ≤ r.2.2
  s1 : r.2.2 ≤ 100
structure RsOk (rs : List Rw) : Prop where
  n : rs.length ≤ 3
  r : ∀ r ∈ rs, ROk r
def stepP (f : Int) (r : Rw) : Int := f / (Nat.gcd f.natAbs r.1.natAbs : Nat) * r.1
def per (rs : List Rw) : Int := rs.foldl stepP 1
def isIn (r : Rw) (n : Int) : Bool := decide ((r.2.2 - r.2.1 * n) % r.1 < r.2.1)
def cnt (rs : List Rw) (n : Int) : Int := ((rs.filter fun r => isIn r n).length : Nat)
def counts (rs : List Rw) : List Int := (List.range (per rs).toNat).map fun (n : Nat) => cnt rs (n : Int)
def uf : List Int → Int → List (Int × Int)
  | [], _ => []
  | c :: cs, k => if c ≠ 1 then (k, c) :: uf cs (k + 1) else uf cs (k + 1)
def pD (p : Int × Int) : PD := .tuple [.int p.1, .int p.2]
def toldOf (u : List (Int × Int)) : PD := match u with
  | [] => .tuple [.str "parts"]
  | p :: _ => .tuple [.str "number", .int p.1, .int p.2]
inductive Pv where
  | bad
  | parts
  | num (n m : Int)
def parse (cs : List Int) : PD → Pv
  | .tuple [.str s] => if s = "parts" then .parts else .bad
  | .tuple [.str s, .int n, .int m] => if s = "number" ∧ 0 ≤ n ∧ n < cs.length ∧ 0 ≤ m ∧ m ≠ 1 then .num n m else .bad
  | _ => .bad
def faultOf (cs : List Int) : Pv → PD
  | .bad => .tuple [.str "form"]
  | .parts => match uf cs 0 with
    | [] => .none
    | p :: _ => .tuple [.str "number", .int p.1, .int p.2]
  | .num n m => if cs[n.toNat]?.getD 0 = m then .none else .tuple [.str "many", .int (cs[n.toNat]?.getD 0)]
/-- values that stand in a paper -/
inductive At : PD → Prop
  | non : At .none
  | bool (b : Bool) : At (.bool b)
  | int (i : Int) (h : i.natAbs < 10 ^ 21) : At (.int i)
  | str (s : Str) (h : s = "parts" ∨ s = "number" ∨ s = "Parts" ∨ s = "0" ∨ s = "form" ∨ s = "many") : At (.str s)
  | nil : At (.tuple [])
inductive Gd : PD → Prop
  | one {d : PD} (h : At d) : Gd d
  | tup {ds : List PD} (n : ds.length ≤ 8) (h : ∀ d ∈ ds, At d) : Gd (.tuple ds)
  | lst {ds : List PD} (n : ds.length ≤ 8) (h : ∀ d ∈ ds, At d) : Gd (.list ds)
def pre_is_integer_value : List PD → Prop | [_] => True | _ => False
def post_is_integer_value : List PD → PD → Prop | [v], d => d = .bool (match v with | .int _ => true | _ => false) | _, _ => False
def pre_is_in_floor_row (ds : List PD) : Prop := ∃ r n, ROk r ∧ ds = [rD r, .int n]
def post_is_in_floor_row (ds : List PD) (d : PD) : Prop := ∀ r n, ds = [rD r, .int n] → d = .bool (isIn r n)
def pre_floor_period (ds : List PD) : Prop := ∃ rs, RsOk rs ∧ ds = [rowsD rs]
def post_floor_period (ds : List PD) (d : PD) : Prop := ∀ rs, ds = [rowsD rs] → d = .int (per rs)
def pre_rows_with (ds : List PD) : Prop := ∃ rs n, RsOk rs ∧ ds = [rowsD rs, .int n]
def post_rows_with (ds : List PD) (d : PD) : Prop := ∀ rs n, ds = [rowsD rs, .int n] → d = .int (cnt rs n)
def pre_first_unfit (ds : List PD) : Prop := ∃ rs, RsOk rs ∧ ds = [rowsD rs]
def post_first_unfit (ds : List PD) (d : PD) : Prop := ∀ rs, ds = [rowsD rs] → d = match uf (counts rs) 0 with | [] => .none | p :: _ => pD p
def pre_part_paper (ds : List PD) : Prop := ∃ rs, RsOk rs ∧ ds = [rowsD rs]
def post_part_paper (ds : List PD) (d : PD) : Prop := ∀ rs, ds = [rowsD rs] → d = toldOf (uf (counts rs) 0)
def pre_is_part_form (ds : List PD) : Prop := ∃ rs v, RsOk rs ∧ Gd v ∧ ds = [rowsD rs, v]
def post_is_part_form (ds : List PD) (d : PD) : Prop := ∀ rs v, ds = [rowsD rs, v] → d = .bool (match parse (counts rs) v with | .bad => false | _ => true)
def pre_judge_parts_of (ds : List PD) : Prop := ∃ rs v, RsOk rs ∧ Gd v ∧ ds = [rowsD rs, v]
def post_judge_parts_of (ds : List PD) (d : PD) : Prop := ∀ rs v, ds = [rowsD rs, v] → d = faultOf (counts rs) (parse (counts rs) v)
def pre__law_of : List PD → Prop | [.list xs] => xs ≠ [] ∧ xs.length ≤ 1000 | _ => False
def post__law_of : List PD → PD → Prop | [.list xs], d => d ∈ xs | _, _ => False
def pre__law_gcd : List PD → Prop | [.int a, .int b] => True | _ => False
def post__law_gcd : List PD → PD → Prop | [.int a, .int b], d => d = .int (Nat.gcd a.natAbs b.natAbs : Nat) | _, _ => False
def pre__law_row : List PD → Prop | [.int m] => 1 ≤ m ∧ m ≤ 12 | _ => False
def post__law_row : List PD → PD → Prop | [.int m], d => ∃ r : Rw, d = rD r ∧ 1 ≤ r.2.1 ∧ r.2.1 ≤ r.1 ∧ r.1 ≤ 12 ∧ -30 ≤ r.2.2 ∧ r.2.2 ≤ 30 | _, _ => False
def pre__law_floor (ds : List PD) : Prop := ∃ r n, ROk r ∧ ds = [rD r, .int n]
def post__law_floor (ds : List PD) (d : PD) : Prop := ∀ r n, ds = [rD r, .int n] → d = .int ((r.1 * n + r.2.2) / r.2.1)
def pre__law_members (ds : List PD) : Prop := ∃ r h, ROk r ∧ 0 ≤ h ∧ h ≤ 3000 ∧ ds = [rD r, .int 0, .int h]
def post__law_members (ds : List PD) (d : PD) : Prop := ∀ r h, ds = [rD r, .int 0, .int h] → ∃ ns : List Int, d = .list (ns.map .int) ∧ ∀ n, ns.count n = if 0 ≤ n ∧ n ≤ h ∧ isIn r n = true then 1 else 0
def pre__law_counts (ds : List PD) : Prop := ∃ rs, RsOk rs ∧ ds = [rowsD rs]
def post__law_counts (ds : List PD) (d : PD) : Prop := ∀ rs, ds = [rowsD rs] → d = .list ((counts rs).map .int)
structure CsOk (cs : List Int) : Prop where
  n : cs.length ≤ 3000
  c : ∀ c ∈ cs, 0 ≤ c ∧ c ≤ 10
def pre__law_fault (ds : List PD) : Prop := ∃ cs v, CsOk cs ∧ Gd v ∧ ds = [.list (cs.map .int), v]
def post__law_fault (ds : List PD) (d : PD) : Prop := ∀ cs v, ds = [.list (cs.map .int), v] → d = faultOf cs (parse cs v)
end K40
set_option Elab.async false
set_option linter.all false
set_option maxRecDepth 100000
/-! The defs as programs over data. -/
namespace K40
open PySem L2 DD
/-- is_integer_value(value) -/
abbrev N_is_integer_value : List Str := ["value"]
def p_is_integer_value : TSD :=
    (sRet (oAndV (oIsi "int" (oVar 0)) (oNotV (oIsi "bool" (oVar 0)))))
/-- is_in_floor_row(row, n) -/
abbrev N_is_in_floor_row : List Str := ["row", "n", "p", "q", "r"]
def p_is_in_floor_row : TSD :=
    (sSeq (sAsg (oVar 0) (uTup 3 (uCons (uName 2) (uCons (uName 3) (uCons (uName 4) uNil)))))
    (sRet (oOp ltD (oOp modD (oOp subD (bVar 4) (oOp mulD (bVar 3) (bVar 1))) (bVar 2)) (bVar 3))))
/-- floor_period(rows) -/
abbrev N_floor_period : List Str := ["rows", "found", "row"]
def p_floor_period : TSD :=
    (sSeq (sAsg (oC (.int 1)) (uName 1))
    (sSeq (sFor (wAny (oVar 0)) (uName 2) (sAsg (oOp mulD (oOp fdivD (bVar 1) (oCl gcdD (oCons (bVar 1) (oCons (oOp ixD (bVar 2) (oC (.int 0))) oNil)))) (oOp ixD (bVar 2) (oC (.int 0)))) (uName 1)))
    (sRet (oVar 1))))
/-- rows_with(rows, n) -/
abbrev N_rows_with : List Str := ["rows", "n", "row"]
def p_rows_with : TSD :=
    (sRet (oCl lenD (oCons (oVal (lLc (wAny (oVar 0)) (uName 2) (oTest (oFn pre_is_in_floor_row post_is_in_floor_row (oCons (oVar 2) (oCons (oVar 1) oNil)))) (oVar 2) [2])) oNil)))
/-- first_unfit(rows) -/
abbrev N_first_unfit : List Str := ["rows", "n", "many"]
def p_first_unfit : TSD :=
    (sSeq (sFor (wRng1 (oCons (oFn pre_floor_period post_floor_period (oCons (oVar 0) oNil)) oNil)) (uName 1) (sSeq (sAsg (oFn pre_rows_with post_rows_with (oCons (oVar 0) (oCons (oVar 1) oNil))) (uName 2))
    (sIf (oTest (oOp neD (bVar 2) (oC (.int 1)))) (sRet (oTup (oCons (oVar 1) (oCons (oVar 2) oNil)))) sNext)))
    (sRet (oC .none)))
/-- part_paper(rows) -/
abbrev N_part_paper : List Str := ["rows", "unfit"]
def p_part_paper : TSD :=
    (sSeq (sAsg (oFn pre_first_unfit post_first_unfit (oCons (oVar 0) oNil)) (uName 1))
    (sSeq (sIf (oTest (oOp isND (bVar 1) (oC .none))) (sRet (oTup (oCons (oC (.str "parts")) oNil))) sNext)
    (sRet (oTup (oCons (oC (.str "number")) (oStar (oVar 1) oNil))))))
/-- is_part_form(rows, value) -/
abbrev N_is_part_form : List Str := ["rows", "value", "one"]
def p_is_part_form : TSD :=
    (sSeq (sIf (oOr (oNot (oTest (oIsi "tuple" (oVar 1)))) (oOr (oTest (oOp eqD (bVar 1) (oTup oNil))) (oNot (oTest (oIsi "str" (oOp ixD (bVar 1) (oC (.int 0)))))))) (sRet (oC (.bool false))) sNext)
    (sSeq (sIf (oTest (oOp eqD (oOp ixD (bVar 1) (oC (.int 0))) (oC (.str "parts")))) (sRet (oOp eqD (oCl lenD (oCons (bVar 1) oNil)) (oC (.int 1)))) sNext)
    (sSeq (sIf (oOr (oTest (oOp neD (oOp ixD (bVar 1) (oC (.int 0))) (oC (.str "number")))) (oOr (oTest (oOp neD (oCl lenD (oCons (bVar 1) oNil)) (oC (.int 3)))) (oNot (oTest (oCl allD (oCons (oVal (lLc (wAny (oSl (bVar 1) (oPart (oC (.int 1))) oNoPart)) (uName 2) yesD (oFn pre_is_integer_value post_is_integer_value (oCons (oVar 2) oNil)) [2])) oNil)))))) (sRet (oC (.bool false))) sNext)
    (sRet (oAndV (oChain leD ltD (oC (.int 0)) (oOp ixD (bVar 1) (oC (.int 1))) (oFn pre_floor_period post_floor_period (oCons (oVar 0) oNil))) (oAndV (oOp geD (oOp ixD (bVar 1) (oC (.int 2))) (oC (.int 0))) (oOp neD (oOp ixD (bVar 1) (oC (.int 2))) (oC (.int 1)))))))))
/-- judge_parts_of(rows, value) -/
abbrev N_judge_parts_of : List Str := ["rows", "value", "paper", "many"]
def p_judge_parts_of : TSD :=
    (sSeq (sIf (oNot (oTest (oFn pre_is_part_form post_is_part_form (oCons (oVar 0) (oCons (oVar 1) oNil))))) (sRet (oTup (oCons (oC (.str "form")) oNil))) sNext)
    (sSeq (sIf (oTest (oOp eqD (oOp ixD (bVar 1) (oC (.int 0))) (oC (.str "parts")))) (sSeq (sAsg (oFn pre_part_paper post_part_paper (oCons (oVar 0) oNil)) (uName 2))
    (sRet (oIf (oTest (oOp neD (bVar 2) (bVar 1))) (oVar 2) (oC .none)))) sNext)
    (sSeq (sAsg (oFn pre_rows_with post_rows_with (oCons (oVar 0) (oCons (oOp ixD (bVar 1) (oC (.int 1))) oNil))) (uName 3))
    (sRet (oIf (oTest (oOp neD (bVar 3) (oOp ixD (bVar 1) (oC (.int 2))))) (oTup (oCons (oC (.str "many")) (oCons (oVar 3) oNil))) (oC .none))))))
/-- _law_of(source, some) -/
abbrev N__law_of : List Str := ["source", "some"]
def p__law_of : TSD :=
    (sRet (oOp ixD (bVar 1) (oFnS 0 preP postP (oCons (oCl lenD (oCons (bVar 1) oNil)) oNil))))
/-- _law_gcd(a, b) -/
abbrev N__law_gcd : List Str := ["a", "b"]
def p__law_gcd : TSD :=
    (sSeq (sPar2 0 1 (mCons (fVa (oCl absD (oCons (bVar 0) oNil))) (mCons (fVa (oCl absD (oCons (bVar 1) oNil))) mNil)))
    (sSeq (sWhile (oTest (oOp gtD (bVar 1) (oC (.int 0)))) (sPar2 0 1 (mCons (fVa (oVar 1)) (mCons (fVa (oOp modD (oCl intD (oCons (bVar 0) oNil)) (bVar 1))) mNil))))
    (sRet (oVar 0))))
/-- _law_row(source, most) -/
abbrev N__law_row : List Str := ["source", "most", "p", "some", "q"]
def p__law_row : TSD :=
    (sSeq (sAsg (oOp addD (oC (.int 1)) (oFnS 0 preP postP (oCons (oVar 1) oNil))) (uName 2))
    (sSeq (sVal 3 (lLc (wRng2 (oCons (oC (.int 1)) (oCons (oOp addD (bVar 2) (oC (.int 1))) oNil))) (uName 4) (oTest (oOp eqD (oFn pre__law_gcd post__law_gcd (oCons (oVar 2) (oCons (oVar 4) oNil))) (oC (.int 1)))) (oVar 4) [4]))
    (sRet (oTup (oCons (oVar 2) (oCons (oOp ixD (bVar 3) (oFnS 0 preP postP (oCons (oCl lenD (oCons (bVar 3) oNil)) oNil))) (oCons (oOp subD (oFnS 0 preP postP (oCons (oC (.int 61)) oNil)) (oC (.int 30))) oNil)))))))
/-- _law_floor(row, k) -/
abbrev N__law_floor : List Str := ["row", "k"]
def p__law_floor : TSD :=
    (sRet (oOp fdivD (oOp addD (oOp mulD (oOp ixD (bVar 0) (oC (.int 0))) (bVar 1)) (oOp ixD (bVar 0) (oC (.int 2)))) (oOp ixD (bVar 0) (oC (.int 1)))))
/-- _law_members(row, low, high) -/
abbrev N__law_members : List Str := ["row", "low", "high", "far", "some", "k", "n"]
def p__law_members : TSD :=
    (sSeq (sAsg (oOp addD (oOp addD (oOp addD (oCl absD (oCons (bVar 1) oNil)) (oCl absD (oCons (bVar 2) oNil))) (oCl absD (oCons (oOp ixD (bVar 0) (oC (.int 2))) oNil))) (oC (.int 3))) (uName 3))
    (sSeq (sVal 4 (lLc (wRng2 (oCons (oOp subD (oC (.int 0)) (bVar 3)) (oCons (oOp addD (bVar 3) (oC (.int 1))) oNil))) (uName 5) yesD (oFn pre__law_floor post__law_floor (oCons (oVar 0) (oCons (oVar 5) oNil))) [5]))
    (sRet (oVal (lLc (wAny (oVar 4)) (uName 6) (oTest (oChain leD leD (oVar 1) (oVar 6) (oVar 2))) (oVar 6) [6])))))
/-- _law_counts(rows) -/
abbrev N__law_counts : List Str := ["rows", "period", "row", "counts", "n"]
def p__law_counts : TSD :=
    (sSeq (sAsg (oC (.int 1)) (uName 1))
    (sSeq (sFor (wAny (oVar 0)) (uName 2) (sAsg (oOp mulD (oOp fdivD (bVar 1) (oFn pre__law_gcd post__law_gcd (oCons (oVar 1) (oCons (oOp ixD (bVar 2) (oC (.int 0))) oNil)))) (oOp ixD (bVar 2) (oC (.int 0)))) (uName 1)))
    (sSeq (sOwn 3 (lMul (oLst (oCons (oC (.int 0)) oNil)) (bVar 1)))
    (sSeq (sFor (wAny (oVar 0)) (uName 2) (sFor (wAny (oFn pre__law_members post__law_members (oCons (oVar 2) (oCons (oC (.int 0)) (oCons (oOp subD (bVar 1) (oC (.int 1))) oNil))))) (uName 4) (sSetL 3 (oOp addD (oOp ixD (bVar 3) (bVar 4)) (oC (.int 1))) (oVar 4))))
    (sRetV 3)))))
/-- _law_fault(counts, value) -/
abbrev N__law_fault : List Str := ["counts", "value", "unfit", "n", "many", "x"]
def p__law_fault : TSD :=
    (sSeq (sIf (oOr (oNot (oTest (oIsi "tuple" (oVar 1)))) (oTest (oOp (inSD true) (oCl reprD (oCons (oSl (bVar 1) oNoPart (oPart (oC (.int 1)))) oNil)) (oTup (oCons (oC (.str "('parts',)")) (oCons (oC (.str "('number',)")) oNil)))))) (sRet (oTup (oCons (oC (.str "form")) oNil))) sNext)
    (sSeq (sIf (oTest (oOp eqD (oOp ixD (bVar 1) (oC (.int 0))) (oC (.str "parts")))) (sSeq (sVal 2 (lLc (wEnum (oCons (oVar 0) oNil)) (uTup 2 (uCons (uName 3) (uCons (uName 4) uNil))) (oTest (oOp neD (bVar 4) (oC (.int 1)))) (oTup (oCons (oVar 3) (oCons (oVar 4) oNil))) [3, 4]))
    (sRet (oIf (oTest (oOp gtD (oCl lenD (oCons (bVar 1) oNil)) (oC (.int 1)))) (oTup (oCons (oC (.str "form")) oNil)) (oIf (oTest (oOp neD (bVar 2) (oLst oNil))) (oOp addD (oTup (oCons (oC (.str "number")) oNil)) (oOp ixD (bVar 2) (oC (.int 0)))) (oC .none))))) sNext)
    (sSeq (sIf (oOr (oTest (oOp neD (oCl lenD (oCons (bVar 1) oNil)) (oC (.int 3)))) (oTest (oOp neD (oVal (lLc (wAny (oSl (bVar 1) (oPart (oC (.int 1))) oNoPart)) (uName 5) (oOr (oNot (oTest (oIsi "int" (oVar 5)))) (oTest (oIsi "bool" (oVar 5)))) (oVar 5) [5])) (oLst oNil)))) (sRet (oTup (oCons (oC (.str "form")) oNil))) sNext)
    (sSeq (sIf (oOr (oNot (oTest (oChain leD ltD (oC (.int 0)) (oOp ixD (bVar 1) (oC (.int 1))) (oCl lenD (oCons (bVar 0) oNil))))) (oOr (oTest (oOp ltD (oOp ixD (bVar 1) (oC (.int 2))) (oC (.int 0)))) (oTest (oOp eqD (oOp ixD (bVar 1) (oC (.int 2))) (oC (.int 1)))))) (sRet (oTup (oCons (oC (.str "form")) oNil))) sNext)
    (sRet (oIf (oTest (oOp neD (oOp ixD (bVar 0) (oOp ixD (bVar 1) (oC (.int 1)))) (oOp ixD (bVar 1) (oC (.int 2))))) (oTup (oCons (oC (.str "many")) (oCons (oOp ixD (bVar 0) (oOp ixD (bVar 1) (oC (.int 1)))) oNil))) (oC .none)))))))
/-- law(script) -/
abbrev N_law : List Str := ["script", "source", "lap", "one", "rows", "unfit", "odd", "values", "value", "p", "q", "r", "counts", "kept", "told", "n", "fault", "shown", "many", "turn", "k"]
def p_law : TSD :=
    (sSeq (sSrc 0 1)
    (sSeq (sFor (wRng1 (oCons (oC (.int 6)) oNil)) (uName 2) (sSeq (sAsg (oFnS 1 pre__law_row post__law_row (oCons (oC (.int 12)) oNil)) (uName 3))
    (sSeq (sAsg (oIf (oTest (oOp gtD (oOp ixD (bVar 3) (oC (.int 0))) (oOp ixD (bVar 3) (oC (.int 1))))) (oVar 3) (oTup (oCons (oC (.int 5)) (oCons (oC (.int 3)) (oCons (oOp ixD (bVar 3) (oC (.int 2))) oNil))))) (uName 3))
    (sSeq (sAsg (oVar 3) (uTup 3 (uCons (uName 9) (uCons (uName 10) (uCons (uName 11) uNil)))))
    (sSeq (sAsg (oTup (oCons (oVar 3) (oCons (oTup (oCons (oVar 9) (oCons (oOp subD (bVar 9) (bVar 10)) (oCons (oOp addD (oOp subD (oOp subD (bVar 9) (oC (.int 1))) (bVar 11)) (oCl intD (oCons (oOp eqD (oFnS 1 preP postP (oCons (oC (.int 3)) oNil)) (oC (.int 0))) oNil))) oNil)))) oNil))) (uName 4))
    (sSeq (sIf (oTest (oOp eqD (oFnS 1 preP postP (oCons (oC (.int 3)) oNil)) (oC (.int 0)))) (sAsg (oCl tupleD (oCons (oVal (lLc (wRng1 (oCons (oOp addD (oC (.int 1)) (oFnS 1 preP postP (oCons (oC (.int 3)) oNil))) oNil)) (uName 19) yesD (oFnS 1 pre__law_row post__law_row (oCons (oC (.int 6)) oNil)) [19])) oNil)) (uName 4)) sNext)
    (sSeq (sPar3 12 13 14 (mCons (fVa (oFn pre__law_counts post__law_counts (oCons (oVar 4) oNil))) (mCons (fVa (oCl reprD (oCons (bVar 4) oNil))) (mCons (fVa (oFn pre_part_paper post_part_paper (oCons (oVar 4) oNil))) mNil))))
    (sSeq (sVal 5 (lLc (wEnum (oCons (oVar 12) oNil)) (uTup 2 (uCons (uName 15) (uCons (uName 18) uNil))) (oTest (oOp neD (bVar 18) (oC (.int 1)))) (oTup (oCons (oVar 15) (oCons (oVar 18) oNil))) [15, 18]))
    (sSeq (sIf (oTest (oOp neD (oCl reprD (oCons (bVar 14) oNil)) (oCl reprD (oCons (oIf (oTest (oOp neD (bVar 5) (oLst oNil))) (oOp addD (oTup (oCons (oC (.str "number")) oNil)) (oOp ixD (bVar 5) (oC (.int 0)))) (oTup (oCons (oC (.str "parts")) oNil))) oNil)))) (sRet (oC (.bool false))) sNext)
    (sSeq (sPar2 15 6 (mCons (fVa (oFnS 1 preP postP (oCons (oCl lenD (oCons (bVar 12) oNil)) oNil))) (mCons (fVa (oLst (oCons (oC .none) (oCons (oC (.bool true)) (oCons (oUn negD (oC (.int 1))) (oCons (oC (.int 0)) (oCons (oC (.int 2)) (oCons (oC (.str "0")) (oCons (oTup oNil) (oCons (oCl lenD (oCons (bVar 12) oNil)) (oCons (oOp powD (oC (.int 10)) (oC (.int 20))) oNil))))))))))) mNil)))
    (sSeq (sAsg (oFnS 1 pre__law_of post__law_of (oCons (oVar 6) oNil)) (uName 6))
    (sSeq (sAsg (oLst (oCons (oVar 14) (oCons (oVal (lCl listD (oCons (bVar 14) oNil))) (oCons (oOp addD (bVar 14) (oTup (oCons (oC (.int 0)) oNil))) (oCons (oTup (oCons (oC (.str "parts")) oNil)) (oCons (oTup (oCons (oC (.str "number")) (oCons (oVar 15) (oCons (oOp ixD (bVar 12) (bVar 15)) oNil)))) (oCons (oTup (oCons (oC (.str "number")) (oCons (oVar 15) (oCons (oC (.int 0)) oNil)))) oNil))))))) (uName 7))
    (sSeq (sAsg (oOp addD (bVar 7) (oLst (oCons (oTup (oCons (oC (.str "number")) (oCons (oVar 15) (oCons (oC (.int 2)) oNil)))) (oCons (oTup (oCons (oC (.str "number")) (oCons (oVar 6) (oCons (oC (.int 0)) oNil)))) (oCons (oTup (oCons (oC (.str "number")) (oCons (oVar 15) (oCons (oVar 6) oNil)))) (oCons (oTup (oCons (oC (.str "number")) (oCons (oVar 15) oNil))) (oCons (oTup (oCons (oVar 6) oNil)) (oCons (oC .none) (oCons (oTup oNil) oNil))))))))) (uName 7))
    (sSeq (sAsg (oOp addD (bVar 7) (oVal (lLc (wAny (oSl (bVar 5) (oPart (oUn negD (oC (.int 2)))) oNoPart)) (uTup 2 (uCons (uName 20) (uCons (uName 18) uNil))) yesD (oTup (oCons (oC (.str "number")) (oCons (oVar 20) (oCons (oVar 18) oNil)))) [20, 18]))) (uName 7))
    (sSeq (sAsg (oOp addD (bVar 7) (oLst (oCons (oC (.str "parts")) (oCons (oTup (oCons (oC (.str "number")) (oCons (oVar 15) (oCons (oC (.int 3)) oNil)))) (oCons (oTup (oCons (oC (.str "Parts")) oNil)) (oCons (oTup (oCons (oC (.str "number")) (oCons (oVar 15) (oCons (oC (.int 1)) oNil)))) (oCons (oTup (oCons (oVar 6) (oCons (oVar 15) (oCons (oC (.int 2)) oNil)))) oNil))))))) (uName 7))
    (sSeq (sFor (wAny (oVar 7)) (uName 8) (sSeq (sPar2 16 17 (mCons (fVa (oFn pre__law_fault post__law_fault (oCons (oVar 12) (oCons (oVar 8) oNil)))) (mCons (fVa (oCl reprD (oCons (bVar 8) oNil))) mNil)))
    (sSeq (sIf (oOr (oTest (oOp neD (oCl reprD (oCons (oFn pre_judge_parts_of post_judge_parts_of (oCons (oVar 4) (oCons (oVar 8) oNil))) oNil)) (oCl reprD (oCons (bVar 16) oNil)))) (oTest (oOp neD (oCl reprD (oCons (bVar 8) oNil)) (bVar 17)))) (sRet (oC (.bool false))) sNext)
    (sIf (oAnd (oTest (oOp isND (bVar 16) (oC .none))) (oTest (oOp neD (oOp ixD (bVar 8) (oC (.int 0))) (oOp ixD (bVar 14) (oC (.int 0)))))) (sRet (oC (.bool false))) sNext))))
    (sIf (oTest (oOp neD (oCl reprD (oCons (bVar 4) oNil)) (bVar 13))) (sRet (oC (.bool false))) sNext)))))))))))))))))
    (sRet (oOp eqD (oFn pre_judge_parts_of post_judge_parts_of (oCons (oTup (oCons (oTup (oCons (oC (.int 5)) (oCons (oC (.int 2)) (oCons (oC (.int 0)) oNil)))) (oCons (oTup (oCons (oC (.int 5)) (oCons (oC (.int 3)) (oCons (oC (.int 4)) oNil)))) oNil))) (oCons (oTup (oCons (oC (.str "number")) (oCons (oC (.int 0)) (oCons (oC (.int 0)) oNil)))) oNil))) (oTup (oCons (oC (.str "many")) (oCons (oC (.int 1)) oNil)))))))
end K40
set_option Elab.async false
set_option linter.all false
set_option maxRecDepth 100000
set_option maxHeartbeats 2000000
namespace K40
open PySem L2 DD
theorem rD_inj {a b : Rw} (h : rD a = rD b) : a = b := by
  obtain ⟨p, q, r⟩ := a
  obtain ⟨p', q', r'⟩ := b
  simp only [rD, PyData.tuple.injEq, List.cons.injEq, PyData.int.injEq, and_true] at h
  obtain ⟨rfl, rfl, rfl⟩ := h
  rfl
theorem rows_inj {a b : List Rw} (h : rowsD a = rowsD b) : a = b := by
  simp only [rowsD, PyData.tuple.injEq] at h
  exact (List.map_inj_right (fun x y => rD_inj)).mp h
theorem ints_inj {a b : List Int} (h : a.map PyData.int = b.map PyData.int) : a = b := (List.map_inj_right (fun x y e => PyData.int.inj e)).mp h
theorem inj1 {a b : PD} (h : [a] = [b]) : a = b := (List.cons.inj h).1
theorem inj2 {a b c d : PD} (h : [a, b] = [c, d]) : a = c ∧ b = d := ⟨(List.cons.inj h).1, (List.cons.inj (List.cons.inj h).2).1⟩
theorem inj3 {a b c d e f : PD} (h : [a, b, e] = [c, d, f]) : a = c ∧ b = d ∧ e = f := ⟨(List.cons.inj h).1, (List.cons.inj (List.cons.inj h).2).1, (List.cons.inj (List.cons.inj (List.cons.inj h).2).2).1⟩
theorem l_is_integer_value : ∀ ds, pre_is_integer_value ds → ds.length = 1
  | [_], _ => rfl
theorem l_is_in_floor_row : ∀ ds, pre_is_in_floor_row ds → ds.length = 2 := by rintro _ ⟨r, n, _, rfl⟩; rfl
theorem l_floor_period : ∀ ds, pre_floor_period ds → ds.length = 1 := by rintro _ ⟨r, _, rfl⟩; rfl
theorem l_rows_with : ∀ ds, pre_rows_with ds → ds.length = 2 := by rintro _ ⟨r, n, _, rfl⟩; rfl
theorem l_first_unfit : ∀ ds, pre_first_unfit ds → ds.length = 1 := by rintro _ ⟨r, _, rfl⟩; rfl
theorem l_part_paper : ∀ ds, pre_part_paper ds → ds.length = 1 := by rintro _ ⟨r, _, rfl⟩; rfl
theorem l_is_part_form : ∀ ds, pre_is_part_form ds → ds.length = 2 := by rintro _ ⟨r, n, _, _, rfl⟩; rfl
theorem l_judge_parts_of : ∀ ds, pre_judge_parts_of ds → ds.length = 2 := by rintro _ ⟨r, n, _, _, rfl⟩; rfl
theorem l__law_of : ∀ ds, pre__law_of ds → ds.length + 1 = 2
  | [.list _], _ => rfl
theorem l__law_gcd : ∀ ds, pre__law_gcd ds → ds.length = 2
  | [.int _, .int _], _ => rfl
theorem l__law_row : ∀ ds, pre__law_row ds → ds.length + 1 = 2
  | [.int _], _ => rfl
theorem l__law_floor : ∀ ds, pre__law_floor ds → ds.length = 2 := by rintro _ ⟨r, n, _, rfl⟩; rfl
theorem l__law_members : ∀ ds, pre__law_members ds → ds.length = 3 := by rintro _ ⟨r, n, _, _, _, rfl⟩; rfl
theorem l__law_counts : ∀ ds, pre__law_counts ds → ds.length = 1 := by rintro _ ⟨r, _, rfl⟩; rfl
theorem l__law_fault : ∀ ds, pre__law_fault ds → ds.length = 2 := by rintro _ ⟨r, n, _, _, rfl⟩; rfl
theorem v_is_integer_value : ∀ ds, pre_is_integer_value ds → p_is_integer_value { nx := fun _ => post_is_integer_value ds .none, rt := fun d _ => post_is_integer_value ds d } (startD N_is_integer_value ds)
  | [v], _ => by cases v <;> rfl
theorem v_is_in_floor_row : ∀ ds, pre_is_in_floor_row ds → p_is_in_floor_row { nx := fun _ => post_is_in_floor_row ds .none, rt := fun d _ => post_is_in_floor_row ds d } (startD N_is_in_floor_row ds) := by
  rintro _ ⟨⟨p, q, r⟩, n, h, rfl⟩
  have h1 := h.p
  have h2 := h.q
  have h3 := h.m
  have h4 : 1 ≤ q := h1
  have h5 : q ≤ p := h2
  have h6 : p ≤ 13 := h3
  refine ⟨rfl, mulOk_l (by omega), subI ?_⟩
  refine modI (i := r - q * n) (j := p) (by omega) ?_
  refine ltI ?_
  intro r' n' e
  obtain ⟨e1, e2⟩ := inj2 e
  have := rD_inj (a := (p, q, r)) (b := r') e1
  subst this
  cases e2
  rfl
/-! ### the period -/
theorem stepP_ok {f : Int} {r : Rw} (h : ROk r) (f0 : 0 < f) : 0 < stepP f r ∧ stepP f r ≤ f * 13 := by
  have h1 := h.p
  have h2 := h.q
  have h3 := h.m
  have rp : 0 < r.1 := by omega
  have g0 : 0 < Nat.gcd f.natAbs r.1.natAbs := Nat.gcd_pos_of_pos_left _ (by omega)
  have gd : (Nat.gcd f.natAbs r.1.natAbs : Int) ∣ f := Int.ofNat_dvd_left.mpr (Nat.gcd_dvd_left _ _)
  obtain ⟨k, hk⟩ := gd
  unfold stepP
  generalize hg : ((Nat.gcd f.natAbs r.1.natAbs : Nat) : Int) = g at *
  have g1 : 0 < g := by omega
  have e : f / g = k := by rw [hk]; exact Int.mul_ediv_cancel_left _ (by omega)
  have k0 : 0 < k := by
    apply Int.not_le.mp
    intro z
    have := Int.mul_le_mul_of_nonneg_left z (Int.le_of_lt g1)
    omega
  have k1 : k ≤ f := by
    have := Int.mul_le_mul_of_nonneg_right (show (1 : Int) ≤ g by omega) (Int.le_of_lt k0)
    omega
  rw [e]
  exact ⟨Int.mul_pos k0 rp, Int.mul_le_mul k1 h3 (by omega) (by omega)⟩
theorem per_take {rs : List Rw} {i : Nat} {r : Rw} (h : rs[i]? = some r) : per (rs.take (i + 1)) = stepP (per (rs.take i)) r := by
  unfold per
  have hi := (List.getElem?_eq_some_iff.mp h).1
  rw [List.take_succ_eq_append_getElem hi, List.foldl_append]
  have : rs[i] = r := (List.getElem?_eq_some_iff.mp h).2
  rw [this]; rfl
theorem per_ok {rs : List Rw} (h : RsOk rs) : ∀ i, i ≤ rs.length → 0 < per (rs.take i) ∧ per (rs.take i) ≤ 13 ^ i
  | 0, _ => ⟨by show (0 : Int) < 1; decide, by show (1 : Int) ≤ 1; decide⟩
  | i + 1, hi => by
    obtain ⟨a, b⟩ := per_ok h i (by omega)
    have hr : rs[i]? = some rs[i] := List.getElem?_eq_getElem (by omega)
    rw [per_take hr]
    obtain ⟨c, d⟩ := stepP_ok (h.r _ (List.getElem_mem (show i < rs.length by omega))) a
    refine ⟨c, Int.le_trans d ?_⟩
    rw [Int.pow_succ]
    omega
theorem per_all {rs : List Rw} (h : RsOk rs) : 0 < per rs ∧ per rs ≤ 2197 := by
  obtain ⟨a, b⟩ := per_ok h rs.length (Nat.le_refl _)
  rw [List.take_length] at a b
  refine ⟨a, Int.le_trans b ?_⟩
  have := h.n
  have : rs.length = 0 ∨ rs.length = 1 ∨ rs.length = 2 ∨ rs.length = 3 := by omega
  rcases this with e | e | e | e <;> rw [e] <;> decide
theorem pow13 {i : Nat} (h : i ≤ 3) : (13 : Int) ^ i ≤ 2197 := by
  have : i = 0 ∨ i = 1 ∨ i = 2 ∨ i = 3 := by omega
  rcases this with e | e | e | e <;> rw [e] <;> decide
theorem v_floor_period : ∀ ds, pre_floor_period ds → p_floor_period { nx := fun _ => post_floor_period ds .none, rt := fun d _ => post_floor_period ds d } (startD N_floor_period ds) := by
  rintro _ ⟨rs, h, rfl⟩
  refine forL_by (fun i Γ => ∃ x, Γ = [.va (rowsD rs), .va (.int (per (rs.take i))), x]) ⟨_, rfl⟩ ?_ ?_
  · rintro i d Γ F hd ⟨x, rfl⟩ hF
    rw [List.getElem?_map] at hd
    cases e : rs[i]? with
    | none => rw [e] at hd; cases hd
    | some r =>
      rw [e] at hd
      cases hd
      have hi := (List.getElem?_eq_some_iff.mp e).1
      have hr := h.r r (List.mem_of_getElem? e)
      obtain ⟨a, b⟩ := per_ok h i (by omega)
      have c := pow13 (i := i) (by have := h.n; omega)
      have h1 := hr.p
      have h2 := hr.q
      have h3 := hr.m
      have g0 : 0 < Nat.gcd (per (rs.take i)).natAbs r.1.natAbs := Nat.gcd_pos_of_pos_left _ (by omega)
      have g1 : Nat.gcd (per (rs.take i)).natAbs r.1.natAbs ≤ 13 := Nat.le_trans (Nat.gcd_le_right _ (by omega)) (by omega)
      refine ⟨_, rfl, ?_⟩
      dsimp only [oNil, gcdD]
      refine fdivI (by omega) (by omega) ⟨_, rfl, ?_⟩
      refine mulI (mulOk_r (by omega)) (hF _ ⟨.va (rD r), ?_⟩)
      rw [per_take e]; rfl
  · rintro Γ ⟨x, rfl⟩
    intro rs' e
    have := rows_inj (inj1 e)
    subst this
    rw [List.length_map, List.take_length]
def selR (n : Int) : PD → Option PD
  | .tuple [.int p, .int q, .int r] => if isIn (p, q, r) n = true then some (.tuple [.int p, .int q, .int r]) else none
  | _ => none
theorem selR_is {n : Int} {r : Rw} : selR n (rD r) = if isIn r n = true then some (rD r) else none := rfl
theorem selR_len {n : Int} : ∀ ss : List Rw, ((ss.map rD).filterMap (selR n)).length = (ss.filter fun r => isIn r n).length
  | [] => rfl
  | r :: ss => by
    have ih := selR_len (n := n) ss
    cases c : isIn r n with
    | true =>
      rw [List.map_cons, List.filterMap_cons_some (b := rD r) (by rw [selR_is, c]; rfl), List.filter_cons_of_pos (p := fun r => isIn r n) c, List.length_cons, List.length_cons, ih]
    | false =>
      rw [List.map_cons, List.filterMap_cons_none (by rw [selR_is, c]; rfl), List.filter_cons_of_neg (p := fun r => isIn r n) (by rw [c]; exact Bool.false_ne_true), ih]
theorem v_rows_with : ∀ ds, pre_rows_with ds → p_rows_with { nx := fun _ => post_rows_with ds .none, rt := fun d _ => post_rows_with ds d } (startD N_rows_with ds) := by
  rintro _ ⟨rs, n, h, rfl⟩
  refine ⟨⟨trivial, trivial⟩, by rw [List.length_map]; exact Nat.lt_of_le_of_lt h.n (by decide), ?_⟩
  refine lcL_fm (selR n) ?_ ?_
  · intro d hd F G hF
    obtain ⟨r, hr, rfl⟩ := List.mem_map.mp hd
    refine ⟨⟨r, n, h.r r hr, rfl⟩, fun d p => ?_⟩
    obtain rfl := p r n rfl
    rw [selR_is] at hF
    cases c : isIn r n with
    | true => rw [c] at hF; exact hF
    | false => rw [c] at hF; exact hF
  · intro rs' n' e
    obtain ⟨e1, e2⟩ := inj2 e
    have := rows_inj e1
    subst this
    cases e2
    show PyData.int _ = PyData.int _
    rw [selR_len]
    rfl
end K40
set_option Elab.async false
set_option linter.all false
set_option maxRecDepth 100000
set_option maxHeartbeats 2000000
namespace K40
open PySem L2 DD
theorem uf_first : ∀ {cs : List Int} {k : Int} {i : Nat} {c : Int}, cs[i]? = some c → c ≠ 1 → (∀ j c', j < i → cs[j]? = some c' → c' = 1) → ∃ t, uf cs k = (k + i, c) :: t
  | [], k, i, c, h, _, _ => by simp at h
  | d :: cs, k, 0, c, h, hc, _ => by
    simp at h
    subst h
    refine ⟨uf cs (k + 1), ?_⟩
    show (if d ≠ 1 then _ else _) = _
    rw [if_pos hc]
    simp
  | d :: cs, k, i + 1, c, h, hc, hj => by
    have d1 : d = 1 := hj 0 d (by omega) rfl
    obtain ⟨t, ht⟩ := uf_first (cs := cs) (k := k + 1) (i := i) (c := c) (by simpa using h) hc (fun j c' h1 h2 => hj (j + 1) c' (by omega) (by simpa using h2))
    refine ⟨t, ?_⟩
    show (if d ≠ 1 then _ else _) = _
    rw [if_neg (by simp [d1]), ht]
    have : k + 1 + (i : Int) = k + ((i + 1 : Nat) : Int) := by omega
    rw [this]
theorem uf_nil : ∀ {cs : List Int} {k : Int}, (∀ c ∈ cs, c = 1) → uf cs k = []
  | [], _, _ => rfl
  | d :: cs, k, h => by
    show (if d ≠ 1 then _ else _) = _
    rw [if_neg (by simp [h d (List.mem_cons_self ..)])]
    exact uf_nil fun c m => h c (List.mem_cons_of_mem _ m)
theorem counts_at {rs : List Rw} {i : Nat} (h : i < (per rs).toNat) : (counts rs)[i]? = some (cnt rs (i : Nat)) := by
  unfold counts
  rw [List.getElem?_map, List.getElem?_range h]; rfl
theorem counts_len {rs : List Rw} : (counts rs).length = (per rs).toNat := by unfold counts; rw [List.length_map, List.length_range]
theorem cnt_le {rs : List Rw} {n : Int} (h : RsOk rs) : 0 ≤ cnt rs n ∧ cnt rs n ≤ 3 := by
  unfold cnt
  have := List.length_filter_le (fun r => isIn r n) rs
  have := h.n
  omega
theorem counts_ok {rs : List Rw} (h : RsOk rs) : CsOk (counts rs) := by
  refine ⟨by rw [counts_len]; have := per_all h; omega, fun c m => ?_⟩
  unfold counts at m
  obtain ⟨i, _, rfl⟩ := List.mem_map.mp m
  have := cnt_le (n := ((i : Nat) : Int)) h
  omega
theorem v_first_unfit : ∀ ds, pre_first_unfit ds → p_first_unfit { nx := fun _ => post_first_unfit ds .none, rt := fun d _ => post_first_unfit ds d } (startD N_first_unfit ds) := by
  rintro _ ⟨rs, h, rfl⟩
  have hp := per_all h
  refine ⟨⟨rs, h, rfl⟩, fun d p => ?_⟩
  obtain rfl := p rs rfl
  refine ⟨⟨by omega, by omega⟩, forL_by (fun i Γ => ∃ x y, Γ = [.va (rowsD rs), x, y] ∧ ∀ j : Nat, j < i → cnt rs (j : Nat) = 1) ⟨_, _, rfl, fun j hj => by omega⟩ ?_ ?_⟩
  · rintro i d Γ F hd ⟨x, y, rfl, ha⟩ hF
    obtain ⟨hi, rfl⟩ := rangeD_at hd
    refine ⟨⟨rs, _, h, rfl⟩, fun d p => ?_⟩
    obtain rfl := p rs _ rfl
    have e0 : (0 : Int) + (i : Nat) = (i : Nat) := by omega
    by_cases c : cnt rs ((0 : Int) + (i : Nat)) = 1
    · refine ne_int c (iteBF ?_)
      refine hF _ ⟨.va (.int (0 + (i : Nat))), .va (.int (cnt rs ((0 : Int) + (i : Nat)))), rfl, fun j hj => ?_⟩
      by_cases e : j = i
      · subst e; rw [← e0]; exact c
      · exact ha j (by omega)
    · refine ne_t c (iteBT ?_)
      refine ⟨by show 2 ≤ sizeLine; decide, ?_⟩
      intro rs' e
      have := rows_inj (inj1 e)
      subst this
      obtain ⟨t, ht⟩ := uf_first (k := 0) (counts_at hi) (by rw [← e0]; exact c) (fun j c' hj hc => by
        rw [counts_at (by omega)] at hc
        rw [← Option.some.inj hc]; exact ha j hj)
      rw [ht, e0]
      simp only [Int.zero_add]
      rfl
  · rintro Γ ⟨x, y, rfl, ha⟩
    intro rs' e
    have := rows_inj (inj1 e)
    subst this
    rw [rangeD_len] at ha
    rw [uf_nil fun c m => ?_]
    unfold counts at m
    obtain ⟨i, hi, rfl⟩ := List.mem_map.mp m
    exact ha i (List.mem_range.mp hi)
theorem v_part_paper : ∀ ds, pre_part_paper ds → p_part_paper { nx := fun _ => post_part_paper ds .none, rt := fun d _ => post_part_paper ds d } (startD N_part_paper ds) := by
  rintro _ ⟨rs, h, rfl⟩
  refine ⟨⟨rs, h, rfl⟩, fun d p => ?_⟩
  have p := p rs rfl
  cases e : uf (counts rs) 0 with
  | nil =>
    rw [e] at p
    obtain rfl : d = .none := p
    refine ⟨by show 1 ≤ sizeLine; decide, ?_⟩
    intro rs' e'
    have := rows_inj (inj1 e')
    subst this
    rw [e]; rfl
  | cons q t =>
    rw [e] at p
    obtain rfl : d = pD q := p
    refine ⟨by show 3 ≤ sizeLine; decide, ?_⟩
    intro rs' e'
    have := rows_inj (inj1 e')
    subst this
    rw [e]; rfl
theorem v__law_of : ∀ a c ds, pre__law_of ds → p__law_of { nx := fun Γ => post__law_of ds .none ∧ sget Γ 0 = .src a c, rt := fun d Γ => post__law_of ds d ∧ sget Γ 0 = .src a c } (startS N__law_of a c ds)
  | a, c, [.list xs], h => by
    have h0 : 0 < xs.length := List.length_pos_iff.mpr h.1
    have h1 := h.2
    refine pick_of (by omega) fun k k0 k1 => ?_
    have hk : k.toNat < xs.length := by omega
    refine ⟨xs[k.toNat], ?_, List.getElem_mem hk, rfl⟩
    have := at_nat (List.getElem?_eq_getElem hk)
    rw [show ((k.toNat : Nat) : Int) = k by omega] at this
    exact this
theorem abs_if (a : Int) : (if a < 0 then -a else a) = (a.natAbs : Int) := by split <;> omega
theorem v__law_gcd : ∀ ds, pre__law_gcd ds → p__law_gcd { nx := fun _ => post__law_gcd ds .none, rt := fun d _ => post__law_gcd ds d } (startD N__law_gcd ds)
  | [.int a, .int b], _ => by
    refine ⟨fun m Γ => ∃ x y : Nat, Γ = [.va (.int x), .va (.int y)] ∧ Nat.gcd x y = Nat.gcd a.natAbs b.natAbs ∧ m = y, ⟨_, a.natAbs, b.natAbs, ?_, rfl, rfl⟩, ?_⟩
    · show [Sl.va (.int (if a < 0 then -a else a)), Sl.va (.int (if b < 0 then -b else b))] = _
      rw [abs_if, abs_if]
    · rintro m Γ ⟨x, y, rfl, e, rfl⟩
      refine iiI (ite_b (fun c => ?_) (fun c => ?_))
      · have y0 : 0 < m := by omega
        refine modI (by omega) ?_
        refine ⟨x % m, Nat.mod_lt _ y0, m, x % m, rfl, ?_, rfl⟩
        rw [← e, Nat.gcd_comm x m, Nat.gcd_rec m x, Nat.gcd_comm]
      · have : m = 0 := by omega
        subst this
        rw [Nat.gcd_zero_right] at e
        show PyData.int _ = _
        rw [e]
theorem v__law_floor : ∀ ds, pre__law_floor ds → p__law_floor { nx := fun _ => post__law_floor ds .none, rt := fun d _ => post__law_floor ds d } (startD N__law_floor ds) := by
  rintro _ ⟨r, n, h, rfl⟩
  have h1 := h.p
  have h2 := h.q
  have h3 := h.m
  refine ⟨_, rfl, mulOk_l (by omega), _, rfl, ?_⟩
  dsimp only [addD]
  refine ⟨_, rfl, ?_⟩
  refine fdivI (by omega) (by omega) ?_
  intro r' n' e
  obtain ⟨e1, e2⟩ := inj2 e
  have := rD_inj e1
  subst this
  cases e2
  rfl
end K40
set_option Elab.async false
set_option linter.all false
set_option maxRecDepth 100000
set_option maxHeartbeats 2000000
namespace K40
open PySem L2 DD
abbrev fl (r : Rw) (k : Int) : Int := (r.1 * k + r.2.2) / r.2.1
theorem fl_up {r : Rw} (h : ROk r) {a b : Int} (hab : a < b) : fl r a < fl r b := by
  obtain ⟨p, q, s⟩ := r
  have h1 : 1 ≤ q := h.p
  have h2 : q ≤ p := h.q
  show (p * a + s) / q < (p * b + s) / q
  have e : p * (a + 1) ≤ p * b := Int.mul_le_mul_of_nonneg_left (by omega) (by omega)
  have e2 : p * (a + 1) = p * a + p := by rw [Int.mul_add]; omega
  have e3 : (p * a + s + q) / q = (p * a + s) / q + 1 := by
    rw [Int.add_ediv_of_dvd_right (Int.dvd_refl q), Int.ediv_self (by omega)]
  have e4 : (p * a + s + q) / q ≤ (p * b + s) / q := Int.ediv_le_ediv (by omega) (by omega)
  omega
theorem fl_in {r : Rw} (h : ROk r) {n k : Int} (hk : fl r k = n) : isIn r n = true := by
  obtain ⟨p, q, s⟩ := r
  have h1 : 1 ≤ q := h.p
  have h2 : q ≤ p := h.q
  have hk : (p * k + s) / q = n := hk
  show decide ((s - q * n) % p < q) = true
  have d1 := Int.emod_add_mul_ediv (p * k + s) q
  have d2 := Int.emod_nonneg (p * k + s) (show q ≠ 0 by omega)
  have d3 := Int.emod_lt_of_pos (p * k + s) (show 0 < q by omega)
  rw [hk] at d1
  generalize (p * k + s) % q = t at *
  have : s - q * n = t + p * (-k) := by rw [Int.mul_neg]; omega
  rw [this, Int.add_mul_emod_self_left, Int.emod_eq_of_lt d2 (by omega)]
  exact decide_eq_true d3
theorem fl_is {r : Rw} (h : ROk r) {n : Int} (n0 : 0 ≤ n) : isIn r n = true ↔ ∃ k, -(n + r.2.2.natAbs) ≤ k ∧ k ≤ n + r.2.2.natAbs ∧ fl r k = n := by
  obtain ⟨p, q, s⟩ := r
  have h1 : 1 ≤ q := h.p
  have h2 : q ≤ p := h.q
  have h3 : -100 ≤ s := h.s0
  have h4 : s ≤ 100 := h.s1
  show decide ((s - q * n) % p < q) = true ↔ ∃ k, -(n + s.natAbs) ≤ k ∧ k ≤ n + s.natAbs ∧ (p * k + s) / q = n
  have hS : -(s.natAbs : Int) ≤ s ∧ s ≤ s.natAbs ∧ 0 ≤ (s.natAbs : Int) := by omega
  generalize (s.natAbs : Int) = S at *
  have pS : S ≤ p * S := by
    have := Int.mul_le_mul_of_nonneg_right (show (1 : Int) ≤ p by omega) hS.2.2
    omega
  have qn : 0 ≤ q * n := Int.mul_nonneg (by omega) n0
  have qp : q * n ≤ p * n := Int.mul_le_mul_of_nonneg_right h2 n0
  constructor
  · intro hc
    have hc := of_decide_eq_true hc
    have d1 := Int.emod_add_mul_ediv (s - q * n) p
    have d2 := Int.emod_nonneg (s - q * n) (show p ≠ 0 by omega)
    generalize (s - q * n) % p = t at *
    generalize (s - q * n) / p = j at *
    refine ⟨-j, ?_, ?_, ?_⟩
    · have : j ≤ n + S := by
        apply Int.not_lt.mp
        intro z
        have z1 := Int.mul_le_mul_of_nonneg_left (show n + S + 1 ≤ j by omega) (show 0 ≤ p by omega)
        rw [Int.mul_add, Int.mul_add] at z1
        omega
      omega
    · have : -(n + S) ≤ j := by
        apply Int.not_lt.mp
        intro z
        have z1 := Int.mul_le_mul_of_nonneg_left (show j ≤ -n - S - 1 by omega) (show 0 ≤ p by omega)
        rw [Int.mul_sub, Int.mul_sub, Int.mul_neg] at z1
        omega
      omega
    · have : p * -j + s = t + q * n := by rw [Int.mul_neg]; omega
      rw [this, Int.add_mul_ediv_left _ _ (by omega), Int.ediv_eq_zero_of_lt d2 hc]
      omega
  · rintro ⟨k, _, _, hk⟩
    exact fl_in h hk
theorem count_nd {xs : List Int} (h : xs.Pairwise (· < ·)) (n : Int) : xs.count n = if n ∈ xs then 1 else 0 := by
  induction xs with
  | nil => rfl
  | cons x xs ih =>
    have ih := ih (List.pairwise_cons.mp h).2
    have hx := (List.pairwise_cons.mp h).1
    rw [List.count_cons, ih]
    by_cases e : x = n
    · subst e
      have : x ∉ xs := fun m => by have := hx x m; omega
      simp [this]
    · have e2 : ¬ n = x := fun z => e z.symm
      simp [e, e2]
theorem v__law_members : ∀ ds, pre__law_members ds → p__law_members { nx := fun _ => post__law_members ds .none, rt := fun d _ => post__law_members ds d } (startD N__law_members ds) := by
  rintro _ ⟨r, hh, h, h0, h1, rfl⟩
  have s0 := h.s0
  have s1 := h.s1
  have hp := h.p
  have hq := h.q
  have hm := h.m
  have big : 10000 < sizeLine := by decide
  show p__law_members _ _
  refine ⟨_, rfl, ?_⟩
  dsimp only [oNil, absD]
  rw [abs_if, abs_if, abs_if]
  dsimp only [addD]
  generalize hf : ((Int.natAbs 0 : Nat) : Int) + ((hh.natAbs : Nat) : Int) + ((r.2.2.natAbs : Nat) : Int) + 3 = far
  have hf1 : far ≤ 3103 ∧ hh + 3 ≤ far := by omega
  refine ⟨⟨trivial, trivial⟩, ⟨by omega, by omega, by omega, by omega⟩, by rw [rangeD_len]; omega, ?_⟩
  refine lcL_map (fun d => match d with
    | .int k => .int (fl r k)
    | _ => .none) ?_ ?_
  · intro d hd F G hF
    obtain ⟨j, hj, rfl⟩ := rangeD_mem hd
    refine ⟨⟨r, _, h, rfl⟩, fun d p => ?_⟩
    obtain rfl := p r _ rfl
    exact hF
  have eM : (rangeD (0 - far) (far + 1 - (0 - far)).toNat).map (fun d => match d with
    | .int k => .int (fl r k)
    | _ => .none) = (((List.range (far + 1 - (0 - far)).toNat).map fun (i : Nat) => fl r ((0 - far) + (i : Int)))).map PyData.int := by
    unfold rangeD
    rw [List.map_map, List.map_map]; rfl
  rw [hf, eM]
  generalize hxs : ((List.range (far + 1 - (0 - far)).toNat).map fun (i : Nat) => fl r ((0 - far) + (i : Int))) = xs
  have up : xs.Pairwise (· < ·) := by
    rw [← hxs, List.pairwise_map]
    exact (List.pairwise_lt_range (n := (far + 1 - (0 - far)).toNat)).imp fun z => fl_up h (by omega)
  have mem : ∀ n, 0 ≤ n → n ≤ hh → (n ∈ xs ↔ isIn r n = true) := fun n n0 n1 => by
    rw [fl_is h n0, ← hxs]
    constructor
    · intro m
      obtain ⟨i, hi, e⟩ := List.mem_map.mp m
      have hi := List.mem_range.mp hi
      exact (fl_is h n0).mp (fl_in h e)
    · rintro ⟨k, k1, k2, k3⟩
      refine List.mem_map.mpr ⟨(k + far).toNat, List.mem_range.mpr (by omega), ?_⟩
      rw [show (0 - far) + (((k + far).toNat : Nat) : Int) = k by omega]
      exact k3
  have len : xs.length ≤ 7000 := by rw [← hxs, List.length_map, List.length_range]; omega
  refine ⟨⟨trivial, trivial⟩, by rw [List.length_map]; omega, ?_⟩
  refine lcL_fm (fun d => match d with
    | .int n => if 0 ≤ n ∧ n ≤ hh then some (.int n) else none
    | _ => none) ?_ ?_
  · intro d hd F G hF
    obtain ⟨n, hn, rfl⟩ := List.mem_map.mp hd
    have hF : (match (if 0 ≤ n ∧ n ≤ hh then some (PyData.int n) else none) with | some e => F e | none => G) := hF
    by_cases c0 : 0 ≤ n
    · refine le_t c0 (iteBT ?_)
      by_cases c1 : n ≤ hh
      · refine le_t c1 (iteBT ?_)
        rw [if_pos ⟨c0, c1⟩] at hF
        exact hF
      · refine le_f c1 (iteBF ?_)
        rw [if_neg (fun z => c1 z.2)] at hF
        exact hF
    · refine le_f c0 (iteBF (iteBF ?_))
      rw [if_neg (fun z => c0 z.1)] at hF
      exact hF
  · intro r' h' e
    obtain ⟨e1, _, e3⟩ := inj3 e
    have := rD_inj e1
    subst this
    cases e3
    refine ⟨xs.filter fun n => decide (0 ≤ n ∧ n ≤ hh), ?_, fun n => ?_⟩
    · have : ∀ ys : List Int, (ys.map PyData.int).filterMap (fun d => match d with
          | .int n => if 0 ≤ n ∧ n ≤ hh then some (PyData.int n) else none
          | _ => none) = (ys.filter fun n => decide (0 ≤ n ∧ n ≤ hh)).map PyData.int := fun ys => by
        induction ys with
        | nil => rfl
        | cons y ys ih =>
          by_cases c : 0 ≤ y ∧ y ≤ hh
          · rw [List.map_cons, List.filterMap_cons_some (b := PyData.int y) (by simp [c]), ih, List.filter_cons_of_pos (by exact decide_eq_true c), List.map_cons]
          · rw [List.map_cons, List.filterMap_cons_none (by simp [c]), ih, List.filter_cons_of_neg (by rw [decide_eq_false c]; exact Bool.false_ne_true)]
      exact congrArg PyData.list (this xs)
    · rw [count_nd (up.filter _)]
      by_cases c : 0 ≤ n ∧ n ≤ hh
      · have : (n ∈ xs.filter fun n => decide (0 ≤ n ∧ n ≤ hh)) ↔ isIn r n = true := by
          rw [List.mem_filter, mem n c.1 c.2]
          simp [c]
        simp only [this, c, true_and]
      · have : ¬ (n ∈ xs.filter fun n => decide (0 ≤ n ∧ n ≤ hh)) := fun m => c (of_decide_eq_true (List.mem_filter.mp m).2)
        rw [if_neg this, if_neg (fun z => c ⟨z.1, z.2.1⟩)]
/-! ### the counts -/
/-- what the lists counted so far have of n -/
def tal (rs : List Rw) (n : Int) : Int := cnt rs n
theorem cnt_snoc {rs : List Rw} {r : Rw} {n : Int} : cnt (rs ++ [r]) n = cnt rs n + (if isIn r n = true then 1 else 0) := by
  unfold cnt
  rw [List.filter_append, List.length_append]
  by_cases c : isIn r n = true
  · rw [List.filter_cons_of_pos (p := fun r => isIn r n) c, if_pos c]; simp
  · rw [List.filter_cons_of_neg (p := fun r => isIn r n) c, if_neg c]; simp
theorem ix_ok {m : Nat} {n : Int} (h0 : 0 ≤ n) (h1 : n < m) : ixN m n = some n.toNat := by
  unfold ixN
  rw [if_pos h0, if_pos h1]
/-- the counts, by their places -/
def cl (m : Nat) (f : Int → Int) : List Int := (List.range m).map fun (i : Nat) => f (i : Int)
theorem cl_len {m : Nat} {f : Int → Int} : (cl m f).length = m := by unfold cl; rw [List.length_map, List.length_range]
theorem cl_at {m i : Nat} {f : Int → Int} (h : i < m) : (cl m f)[i]? = some (f i) := by unfold cl; rw [List.getElem?_map, List.getElem?_range h]; rfl
theorem cl_set {m i : Nat} {f : Int → Int} {c : Int} (h : i < m) : (cl m f).set i c = cl m (fun j => if j = (i : Int) then c else f j) := by
  apply List.ext_getElem?
  intro j
  by_cases hj : j < m
  · rw [cl_at hj]
    by_cases e : i = j
    · subst e
      rw [List.getElem?_set_self (by rw [cl_len]; exact h), if_pos rfl]
    · rw [List.getElem?_set_ne e, cl_at hj, if_neg (by omega)]
  · rw [List.getElem?_eq_none (by rw [List.length_set, cl_len]; omega), List.getElem?_eq_none (by rw [cl_len]; omega)]
theorem cl_congr {m : Nat} {f g : Int → Int} (h : ∀ i : Nat, i < m → f (i : Int) = g (i : Int)) : cl m f = cl m g := by
  unfold cl
  exact List.map_congr_left fun i hi => h i (List.mem_range.mp hi)
theorem v__law_counts : ∀ ds, pre__law_counts ds → p__law_counts { nx := fun _ => post__law_counts ds .none, rt := fun d _ => post__law_counts ds d } (startD N__law_counts ds) := by
  rintro _ ⟨rs, h, rfl⟩
  have pa := per_all h
  refine forL_by (fun i Γ => ∃ x, Γ = [.va (rowsD rs), .va (.int (per (rs.take i))), x, .un, .un]) ⟨_, rfl⟩ ?_ ?_
  · rintro i d Γ F hd ⟨x, rfl⟩ hF
    rw [List.getElem?_map] at hd
    cases e : rs[i]? with
    | none => rw [e] at hd; cases hd
    | some r =>
      rw [e] at hd
      cases hd
      have hi := (List.getElem?_eq_some_iff.mp e).1
      have hr := h.r r (List.mem_of_getElem? e)
      obtain ⟨a, b⟩ := per_ok h i (by omega)
      have c := pow13 (i := i) (by have := h.n; omega)
      have h1 := hr.p
      have h2 := hr.q
      have h3 := hr.m
      have g0 : 0 < Nat.gcd (per (rs.take i)).natAbs r.1.natAbs := Nat.gcd_pos_of_pos_left _ (by omega)
      have g1 : Nat.gcd (per (rs.take i)).natAbs r.1.natAbs ≤ 13 := Nat.le_trans (Nat.gcd_le_right _ (by omega)) (by omega)
      refine ⟨_, rfl, trivial, fun d p => ?_⟩
      obtain rfl := p
      refine fdivI (by omega) (by omega) ⟨_, rfl, ?_⟩
      refine mulI (mulOk_r (by omega)) (hF _ ⟨.va (rD r), ?_⟩)
      rw [per_take e]; rfl
  rintro Γ ⟨x, rfl⟩
  rw [List.length_map, List.take_length]
  generalize hm : (per rs).toNat = m
  have hpm : per rs = (m : Int) := by omega
  have m1 : 1 ≤ m ∧ m ≤ 2197 := by omega
  refine ⟨by show 1 ≤ sizeLine; decide, ⟨by omega, by omega⟩, ?_, ?_⟩
  · rw [hm]
    exact Nat.le_trans (show 1 * m ≤ 3000 by omega) (by decide)
  rw [hm]
  have e0 : (List.replicate m [PyData.int 0]).flatten = (cl m (fun _ => 0)).map PyData.int := by
    unfold cl
    rw [List.map_map]
    clear hm hpm m1
    induction m with
    | zero => rfl
    | succ m ih => rw [List.replicate_succ', List.flatten_append, ih, List.range_succ, List.map_append]; rfl
  rw [e0]
  refine forL_by (fun i Γ => ∃ x y, Γ = [.va (rowsD rs), .va (.int (m : Int)), x, .own ((cl m (cnt (rs.take i))).map .int), y]) ⟨x, .un, ?_⟩ ?_ ?_
  · rw [hpm, cl_congr (g := cnt (rs.take 0)) fun i hi => rfl]; rfl
  · rintro i d Γ F hd ⟨x, y, rfl⟩ hF
    rw [List.getElem?_map] at hd
    cases e : rs[i]? with
    | none => rw [e] at hd; cases hd
    | some r =>
      rw [e] at hd
      cases hd
      have hi := (List.getElem?_eq_some_iff.mp e).1
      have hr := h.r r (List.mem_of_getElem? e)
      refine ⟨⟨r, (m : Int) - 1, hr, by omega, by omega, rfl⟩, fun d p => ?_⟩
      obtain ⟨ns, rfl, hn⟩ := p r ((m : Int) - 1) rfl
      have hin : ∀ n ∈ ns, 0 ≤ n ∧ n < m := fun n hn' => by
        have := hn n
        have c1 : 0 < ns.count n := List.count_pos_iff.mpr hn'
        rw [this] at c1
        by_cases c : 0 ≤ n ∧ n ≤ (m : Int) - 1 ∧ isIn r n = true
        · omega
        · rw [if_neg c] at c1; omega
      refine forL_by (fun j Γ => ∃ y, Γ = [.va (rowsD rs), .va (.int (m : Int)), .va (rD r), .own ((cl m (fun n => cnt (rs.take i) n + ((ns.take j).count n : Nat))).map .int), y]) ⟨y, ?_⟩ ?_ ?_
      · rw [cl_congr (g := fun n => cnt (rs.take i) n + ((ns.take 0).count n : Nat)) fun i hi => by simp]; rfl
      · rintro j d Γ F2 hd ⟨y, rfl⟩ hF2
        rw [List.getElem?_map] at hd
        cases e2 : ns[j]? with
        | none => rw [e2] at hd; cases hd
        | some n =>
          rw [e2] at hd
          cases hd
          have hnn := hin n (List.mem_of_getElem? e2)
          have hj := (List.getElem?_eq_some_iff.mp e2).1
          have ej : ns[j] = n := (List.getElem?_eq_some_iff.mp e2).2
          have hlt : n.toNat < m := by omega
          have hat : (((cl m (fun n => cnt (rs.take i) n + ((ns.take j).count n : Nat))).map PyData.int))[n.toNat]? = some (.int (cnt (rs.take i) n + ((ns.take j).count n : Nat))) := by
            rw [List.getElem?_map, cl_at hlt]
            have : ((n.toNat : Nat) : Int) = n := by omega
            simp only [this]; rfl
          have hat2 := at_nat hat
          rw [show ((n.toNat : Nat) : Int) = n by omega] at hat2
          refine ⟨_, hat2, n.toNat, ix_ok hnn.1 (by rw [List.length_map, cl_len]; exact hnn.2), ?_⟩
          refine hF2 _ ⟨.va (.int n), ?_⟩
          have ec : cl m (fun l => if l = ((n.toNat : Nat) : Int) then cnt (rs.take i) n + ((ns.take j).count n : Nat) + 1 else cnt (rs.take i) l + ((ns.take j).count l : Nat)) = cl m (fun n => cnt (rs.take i) n + ((ns.take (j + 1)).count n : Nat)) := cl_congr fun l hl => by
            rw [List.take_succ_eq_append_getElem hj, ej, List.count_append]
            by_cases c : (l : Int) = ((n.toNat : Nat) : Int)
            · have : (l : Int) = n := by omega
              rw [if_pos c, this]
              simp
              omega
            · have : ¬ (n = (l : Int)) := by omega
              rw [if_neg c]
              simp [this]
          rw [← List.map_set, cl_set hlt, ec]
          rfl
      · rintro Γ ⟨y, rfl⟩
        have ec : cl m (fun n => cnt (rs.take i) n + ((ns.take (ns.map PyData.int).length).count n : Nat)) = cl m (cnt (rs.take (i + 1))) := cl_congr fun l hl => by
          rw [List.length_map, List.take_length, List.take_succ_eq_append_getElem hi, (List.getElem?_eq_some_iff.mp e).2, cnt_snoc, hn]
          by_cases c : isIn r (l : Int) = true
          · rw [if_pos c, if_pos ⟨by omega, by omega, c⟩]; rfl
          · rw [if_neg c, if_neg (fun z => c z.2.2)]; rfl
        refine hF _ ⟨.va (rD r), y, ?_⟩
        rw [ec]
  · rintro Γ ⟨x, y, rfl⟩
    rw [List.length_map, List.take_length]
    intro rs' e
    have := rows_inj (inj1 e)
    subst this
    show PyData.list _ = PyData.list _
    unfold counts
    rw [hm]
    rfl
end K40
set_option Elab.async false
set_option linter.all false
set_option maxRecDepth 100000
set_option maxHeartbeats 2000000
namespace K40
open PySem L2 DD
/-! ### values -/
theorem strs_nm : ∀ s ∈ (["parts", "number", "Parts", "0", "form", "many"] : List Str), PyData.canLay0 (.str s) = true ∧ PyData.leavesShort 22 (.str s) = true ∧ PyData.weight (.str s) ≤ 71 := by decide +kernel
theorem str_nm {s : Str} (h : s = "parts" ∨ s = "number" ∨ s = "Parts" ∨ s = "0" ∨ s = "form" ∨ s = "many") : NmB 22 71 1 (.str s) := by
  have z := strs_nm s (by rcases h with rfl | rfl | rfl | rfl | rfl | rfl <;> simp)
  exact ⟨rfl, z.1, z.2.1, z.2.2, Nat.zero_le _⟩
theorem int_nm {i : Int} (h : i.natAbs < 10 ^ 21) : NmB 22 71 1 (.int i) := by
  have hl : i.natAbs.log2 < 70 := log2_le (Nat.lt_of_lt_of_le h (by decide)) (by decide)
  refine ⟨by simp only [PyData.showable]; exact decide_eq_true (by omega), rfl, ?_, ?_, Nat.zero_le _⟩
  · simp only [PyData.leavesShort]
    refine decide_eq_true ?_
    have e := int_text_length_le10 (k := 21) (by decide) h
    show (Str.ofString (toString i)).length ≤ 22
    rw [PySem.ofString_length]; exact e
  · simp only [PyData.weight]
    split <;> omega
theorem At.nm {d : PD} (h : At d) : NmB 22 71 1 d := by
  cases h with
  | non => exact ⟨rfl, rfl, by simp only [PyData.leavesShort], Nat.zero_le _, Nat.zero_le _⟩
  | bool b => exact ⟨rfl, rfl, by simp only [PyData.leavesShort], Nat.zero_le _, Nat.zero_le _⟩
  | int i h => exact int_nm h
  | str s h => exact str_nm h
  | nil => exact (NmB.tuple (B := 22) (w := 0) (k := 0) (ds := []) (fun d m => by cases m)).mono (by decide) (by decide)
theorem Gd.nm {d : PD} (h : Gd d) : NmB 22 600 2 d := by
  cases h with
  | one h => exact h.nm.mono (by decide) (by decide)
  | tup n h => exact (NmB.tuple fun d m => (h d m).nm).mono (by omega) (Nat.le_refl _)
  | lst n h => exact (NmB.list fun d m => (h d m).nm).mono (by omega) (Nat.le_refl _)
theorem Gd.ok {d : PD} (h : Gd d) : ShowOk d := h.nm.ok (by decide) (by decide) (by decide)
theorem Gd.sh {d : PD} (h : Gd d) : SeqAt.shaped d = true := h.nm.shaped
theorem At.sh {d : PD} (h : At d) : SeqAt.shaped d = true := h.nm.shaped
theorem Gd.tuple {ds : List PD} (h : Gd (.tuple ds)) : ds.length ≤ 8 ∧ ∀ d ∈ ds, At d := by
  cases h with
  | one h => cases h with
    | nil => exact ⟨by decide, fun d m => by cases m⟩
  | tup n h => exact ⟨n, h⟩
/-! ### one name alone in a tuple, shown -/
def nm2 : List Str := ["('parts',)", "('number',)"]
theorem one_shown {x : PD} (h : At x) : decide ((PyData.tuple [x]).shown ∈ nm2) = match x with
    | .str s => decide (s = "parts" ∨ s = "number")
    | _ => false := by
  have q : ∀ s ∈ nm2, (39 : Nat) ∈ s.cps.toList := by decide +kernel
  cases h with
  | non => decide +kernel
  | bool b => cases b <;> decide +kernel
  | nil => decide +kernel
  | str s h => rcases h with rfl | rfl | rfl | rfl | rfl | rfl <;> decide +kernel
  | int i h =>
    refine decide_eq_false fun m => ?_
    have z := q _ m
    have e : (PyData.tuple [.int i]).shown = tupleText [(PyData.int i).shown] := rfl
    rw [e] at z
    have z : 39 ∈ ((("(" : String) : Str) ++ (PyData.int i).shown ++ ((",)" : String) : Str)).cps.toList := z
    rw [PyProof.Rows.mem_cps_append, PyProof.Rows.mem_cps_append] at z
    rcases z with (z | z) | z
    · exact absurd z (by decide +kernel)
    · exact PyProof.Rows.shown_int_free' (k := 39) ⟨by decide, by decide⟩ i z
    · exact absurd z (by decide +kernel)
/-! ### what a value says -/
theorem parse_nt {cs : List Int} {v : PD} (h : ∀ xs, v ≠ .tuple xs) : parse cs v = .bad := by
  unfold parse
  split
  · exact absurd rfl (h _)
  · exact absurd rfl (h _)
  · rfl
theorem parse_ns {cs : List Int} {x : PD} {r : List PD} (h : ∀ s, x ≠ .str s) : parse cs (.tuple (x :: r)) = .bad := by
  unfold parse
  split
  · rename_i e; cases e; exact absurd rfl (h _)
  · rename_i e; cases e; exact absurd rfl (h _)
  · rfl
theorem parse_oth {cs : List Int} {s : Str} {r : List PD} (h : s ≠ "parts") (h2 : s ≠ "number") : parse cs (.tuple (.str s :: r)) = .bad := by
  unfold parse
  split
  · rename_i e; cases e; rw [if_neg h]
  · rename_i e; cases e; rw [if_neg fun z => h2 z.1]
  · rfl
theorem pn : (("parts" : String) : Str) ≠ "number" := by decide +kernel
theorem parse_parts {cs : List Int} {r : List PD} : parse cs (.tuple (.str "parts" :: r)) = if r.length = 0 then .parts else .bad := by
  cases r with
  | nil => show (if (("parts" : String) : Str) = "parts" then Pv.parts else .bad) = _; rw [if_pos rfl]; rfl
  | cons y t =>
    rw [if_neg (by simp)]
    unfold parse
    split
    · rename_i e; cases e
    · rename_i e; cases e; rw [if_neg fun z => pn z.1]
    · rfl
theorem parse_num {cs : List Int} {n m : Int} : parse cs (.tuple [.str "number", .int n, .int m]) = if 0 ≤ n ∧ n < cs.length ∧ 0 ≤ m ∧ m ≠ 1 then .num n m else .bad := by
  show (if (("number" : String) : Str) = "number" ∧ 0 ≤ n ∧ n < cs.length ∧ 0 ≤ m ∧ m ≠ 1 then Pv.num n m else .bad) = _
  simp only [true_and]
theorem parse_numx {cs : List Int} {r : List PD} (h : ∀ n m, r ≠ [.int n, .int m]) : parse cs (.tuple (.str "number" :: r)) = .bad := by
  unfold parse
  split
  · rename_i e; cases e; rw [if_neg pn.symm]
  · rename_i e; cases e; exact absurd rfl (h _ _)
  · rfl
theorem parse_inv {cs : List Int} {v : PD} : (parse cs v = .parts → v = .tuple [.str "parts"]) ∧ ∀ n m, parse cs v = .num n m → v = .tuple [.str "number", .int n, .int m] ∧ 0 ≤ n ∧ n < cs.length ∧ 0 ≤ m ∧ m ≠ 1 := by
  unfold parse
  split
  · split
    · rename_i h; subst h; exact ⟨fun _ => rfl, fun n m z => (by cases z)⟩
    · exact ⟨fun z => (by cases z), fun n m z => (by cases z)⟩
  · split
    · rename_i h
      refine ⟨fun z => (by cases z), fun n m z => ?_⟩
      cases z
      obtain ⟨rfl, h⟩ := h
      exact ⟨rfl, h⟩
    · exact ⟨fun z => (by cases z), fun n m z => (by cases z)⟩
  · exact ⟨fun z => (by cases z), fun n m z => (by cases z)⟩
theorem at0 {α : Type} {x : α} {r : List α} : atI (x :: r) 0 = some x := at_nat (i := 0) rfl
def isI : PD → Bool
  | .int _ => true
  | _ => false
theorem eqv_ss {a b : Str} : PyData.eqv (.str a) (.str b) = decide (a = b) := by simp only [PyData.eqv]; rfl
theorem eqv_nil {x : PD} {r : List PD} : PyData.eqv (.tuple (x :: r)) (.tuple []) = false := by simp only [PyData.eqv, PyData.eqvAll]
theorem eqv_nil0 : PyData.eqv (.tuple []) (.tuple []) = true := by simp only [PyData.eqv, PyData.eqvAll]
theorem sh_str {s : Str} (h : s = "parts" ∨ s = "number" ∨ s = "Parts" ∨ s = "0" ∨ s = "form" ∨ s = "many") : SeqAt.shaped (.str s) = true := (At.str s h).sh
theorem v_is_part_form : ∀ ds, pre_is_part_form ds → p_is_part_form { nx := fun _ => post_is_part_form ds .none, rt := fun d _ => post_is_part_form ds d } (startD N_is_part_form ds) := by
  rintro _ ⟨rs, v, h, g, rfl⟩
  have fin : ∀ b : Bool, (match parse (counts rs) v with | .bad => false | _ => true) = b → post_is_part_form [rowsD rs, v] (.bool b) := fun b hb rs' v' e => by
    obtain ⟨e1, e2⟩ := inj2 e
    have := rows_inj e1
    subst this e2
    exact congrArg PyData.bool hb.symm
  have nt : (∀ xs, v ≠ .tuple xs) → post_is_part_form [rowsD rs, v] (.bool false) := fun hx => fin _ (by rw [parse_nt hx])
  cases v with
  | none => exact nt (fun xs z => by cases z)
  | bool b => exact nt (fun xs z => by cases z)
  | int b => exact nt (fun xs z => by cases z)
  | str b => exact nt (fun xs z => by cases z)
  | list b => exact nt (fun xs z => by cases z)
  | dict b => exact nt (fun xs z => by cases z)
  | tuple xs =>
  refine ⟨by decide, eqA g.sh (by decide +kernel) ?_⟩
  cases xs with
  | nil =>
    rw [eqv_nil0]
    exact iteBT (iteBT (fin _ rfl))
  | cons x r =>
  rw [eqv_nil]
  obtain ⟨gn, ga⟩ := g.tuple
  refine iteBF ⟨x, at0, ?_⟩
  have bad : parse (counts rs) (.tuple (x :: r)) = .bad → post_is_part_form [rowsD rs, .tuple (x :: r)] (.bool false) := fun hb => fin _ (by rw [hb])
  cases x with
  | none => exact bad (parse_ns fun s z => by cases z)
  | bool b => exact bad (parse_ns fun s z => by cases z)
  | int b => exact bad (parse_ns fun s z => by cases z)
  | list b => exact bad (parse_ns fun s z => by cases z)
  | dict b => exact bad (parse_ns fun s z => by cases z)
  | tuple b => exact bad (parse_ns fun s z => by cases z)
  | str s =>
  have hs := ga _ (List.mem_cons_self ..)
  refine ⟨.str s, at0, eqA hs.sh (by decide +kernel) ?_⟩
  rw [eqv_ss]
  by_cases e1 : s = "parts"
  · subst e1
    rw [decide_eq_true rfl]
    refine iteBT (eqI ?_)
    refine fin _ ?_
    rw [parse_parts]
    by_cases hr : r.length = 0
    · rw [if_pos hr, decide_eq_true (by simp only [List.length_cons, hr]; rfl)]
    · rw [if_neg hr, decide_eq_false (by simp only [List.length_cons]; omega)]
  · rw [decide_eq_false e1]
    refine iteBF ⟨.str s, at0, neA hs.sh (by decide +kernel) ?_⟩
    rw [eqv_ss]
    by_cases e2 : s = "number"
    · subst e2
      rw [decide_eq_true rfl]
      refine iteBF ?_
      by_cases hl : r.length = 2
      · obtain ⟨y, z, rfl⟩ : ∃ y z, r = [y, z] := by
          match r, hl with
          | [y, z], _ => exact ⟨y, z, rfl⟩
        refine ne_int rfl (iteBF ⟨⟨trivial, trivial⟩, by show 2 < sizeLine; decide, ?_⟩)
        refine lcL_map (fun d => .bool (isI d)) ?_ ?_
        · intro d hd F G hF
          refine ⟨trivial, fun e p => ?_⟩
          obtain rfl : e = .bool (isI d) := by
            rw [show e = _ from p]; cases d <;> rfl
          exact hF
        refine ⟨[isI y, isI z], rfl, ?_⟩
        by_cases hyz : isI y = true ∧ isI z = true
        · cases y with
          | int n =>
            cases z with
            | int m =>
              have cl : ((counts rs).length : Int) = per rs := by rw [counts_len]; have := per_all h; omega
              refine iteBF ?_
              refine ⟨.int n, rfl, ?_⟩
              by_cases c1 : 0 ≤ n
              · refine le_t c1 (iteBT ⟨⟨rs, h, rfl⟩, fun d p => ?_⟩)
                obtain rfl := p rs rfl
                by_cases c2 : n < per rs
                · refine lt_t c2 ⟨.int m, rfl, ?_⟩
                  by_cases c3 : 0 ≤ m
                  · refine iiI ?_
                    rw [decide_eq_true c3]
                    refine ⟨.int m, rfl, ?_⟩
                    refine neI ?_
                    refine fin _ ?_
                    rw [parse_num]
                    by_cases c4 : m = 1
                    · rw [if_neg fun z => z.2.2.2 c4, decide_eq_true c4]; rfl
                    · rw [if_pos ⟨c1, by omega, c3, c4⟩, decide_eq_false c4]; rfl
                  · refine iiI ?_
                    rw [decide_eq_false c3]
                    exact fin _ (by rw [parse_num, if_neg fun z => c3 z.2.2.1])
                · refine lt_f c2 ?_
                  exact fin _ (by rw [parse_num, if_neg fun z => c2 (by omega)])
              · refine le_f c1 ?_
                exact fin _ (by rw [parse_num, if_neg fun z => c1 z.1])
            | _ => exact absurd hyz.2 (by simp [isI])
          | _ => exact absurd hyz.1 (by simp [isI])
        · have e3 : ([isI y, isI z].all id) = false := by
            cases q1 : isI y <;> cases q2 : isI z <;> simp_all
          rw [e3]
          refine iteBT (bad (parse_numx fun n m e => ?_))
          cases e
          exact hyz ⟨rfl, rfl⟩
      · refine ne_t (by simp only [List.length_cons]; omega) (iteBT (iteBT (bad (parse_numx fun n m e => ?_))))
        subst e
        exact hl rfl
    · rw [decide_eq_false e2]
      exact iteBT (iteBT (bad (parse_oth e1 e2)))
theorem v_judge_parts_of : ∀ ds, pre_judge_parts_of ds → p_judge_parts_of { nx := fun _ => post_judge_parts_of ds .none, rt := fun d _ => post_judge_parts_of ds d } (startD N_judge_parts_of ds) := by
  rintro _ ⟨rs, v, h, g, rfl⟩
  have fin : ∀ d, faultOf (counts rs) (parse (counts rs) v) = d → post_judge_parts_of [rowsD rs, v] d := fun b hb rs' v' e => by
    obtain ⟨e1, e2⟩ := inj2 e
    have := rows_inj e1
    subst this e2
    exact hb.symm
  refine ⟨⟨rs, v, h, g, rfl⟩, fun d p => ?_⟩
  have p := p rs v rfl
  have inv := parse_inv (cs := counts rs) (v := v)
  cases e : parse (counts rs) v with
  | bad =>
    rw [e] at p fin
    obtain rfl : d = .bool false := p
    exact iteBT ⟨by show 1 ≤ sizeLine; decide, fin _ rfl⟩
  | parts =>
    obtain rfl := inv.1 e
    rw [e] at p fin
    obtain rfl : d = .bool true := p
    refine iteBF ⟨.str "parts", rfl, eqA (sh_str (by simp)) (by decide +kernel) ?_⟩
    rw [eqv_ss, decide_eq_true rfl]
    refine iteBT ⟨⟨rs, h, rfl⟩, fun d q => ?_⟩
    obtain rfl := q rs rfl
    have cn := fin
    unfold faultOf at cn
    cases eu : uf (counts rs) 0 with
    | nil =>
      rw [eu] at cn
      refine neA (by decide +kernel) (by decide +kernel) ?_
      have : PyData.eqv (toldOf []) (.tuple [.str "parts"]) = true := by decide +kernel
      rw [this]
      exact iteBF (cn _ rfl)
    | cons q t =>
      rw [eu] at cn
      have ne : PyData.eqv (toldOf (q :: t)) (.tuple [.str "parts"]) = false := by
        simp only [toldOf, PyData.eqv, PyData.eqvAll, Bool.and_false]
      have sh : SeqAt.shaped (toldOf (q :: t)) = true := by
        simp [toldOf, SeqAt.shaped, PyData.canLay0, PyData.canLayAll0, PyData.depth, PyData.depthAll]
        decide +kernel
      refine neA sh (by decide +kernel) ?_
      rw [ne]
      exact iteBT (cn _ rfl)
  | num n m =>
    obtain ⟨rfl, n0, n1, m0, m1⟩ := inv.2 n m e
    rw [e] at p fin
    obtain rfl : d = .bool true := p
    refine iteBF ⟨.str "number", rfl, eqA (sh_str (by simp)) (by decide +kernel) ?_⟩
    rw [eqv_ss, decide_eq_false pn.symm]
    refine iteBF ⟨.int n, rfl, ⟨rs, n, h, rfl⟩, fun d q => ?_⟩
    obtain rfl := q rs n rfl
    rw [counts_len] at n1
    have hat : (counts rs)[n.toNat]?.getD 0 = cnt rs n := by
      rw [counts_at (by omega)]
      show cnt rs ((n.toNat : Nat) : Int) = _
      rw [show ((n.toNat : Nat) : Int) = n by omega]
    have cn := fin
    unfold faultOf at cn
    simp only [hat] at cn
    refine ⟨.int m, rfl, ?_⟩
    by_cases c : cnt rs n = m
    · exact ne_int c (iteBF (cn _ (by rw [if_pos c])))
    · exact ne_t c (iteBT ⟨by show 2 ≤ sizeLine; decide, cn _ (by rw [if_neg c])⟩)
end K40
set_option Elab.async false
set_option linter.all false
set_option maxRecDepth 100000
set_option maxHeartbeats 2000000
namespace K40
open PySem L2 DD
/-- enumerate with the test: what is unfit -/
def selU : PD → Option PD
  | .tuple [.int n, .int m] => if decide (m = 1) = true then none else some (.tuple [.int n, .int m])
  | _ => none
theorem enum_uf : ∀ (cs : List Int) (k : Nat), (((cs.map PyData.int).zipIdx k).map fun p => PyData.tuple [.int (p.2 : Nat), p.1]).filterMap selU = (uf cs k).map pD
  | [], _ => rfl
  | c :: cs, k => by
    have ih := enum_uf cs (k + 1)
    rw [List.map_cons, List.zipIdx_cons, List.map_cons]
    show (PyData.tuple [.int (k : Nat), .int c] :: _).filterMap selU = (if c ≠ 1 then ((k : Int), c) :: uf cs ((k : Int) + 1) else uf cs ((k : Int) + 1)).map pD
    have su : selU (.tuple [.int (k : Nat), .int c]) = if decide (c = 1) = true then none else some (.tuple [.int (k : Nat), .int c]) := rfl
    by_cases h : c = 1
    · rw [List.filterMap_cons_none (by rw [su, if_pos (decide_eq_true h)]), if_neg (by simp [h])]
      exact ih
    · rw [List.filterMap_cons_some (b := .tuple [.int (k : Nat), .int c]) (by rw [su, if_neg (by rw [decide_eq_false h]; exact Bool.false_ne_true)]), if_pos h, List.map_cons]
      exact congrArg (List.cons _) ih
theorem enumD_uf (cs : List Int) : (enumD (cs.map PyData.int)).filterMap selU = (uf cs 0).map pD := enum_uf cs 0
theorem enumD_mem {cs : List Int} {d : PD} (h : d ∈ enumD (cs.map PyData.int)) : ∃ n m : Int, d = .tuple [.int n, .int m] := by
  unfold enumD at h
  obtain ⟨⟨x, i⟩, hp, rfl⟩ := List.mem_map.mp h
  have := List.mem_zipIdx hp
  obtain ⟨_, _, e⟩ := this
  rw [List.getElem_map] at e
  exact ⟨i, _, by rw [e]⟩
theorem enumD_len {xs : List PD} : (enumD xs).length = xs.length := by unfold enumD; rw [List.length_map, List.length_zipIdx]
theorem at_nn {cs : List Int} {n : Int} (h0 : 0 ≤ n) (h1 : n < cs.length) : atI (cs.map PyData.int) n = some (.int (cs[n.toNat]?.getD 0)) := by
  have hlt : n.toNat < cs.length := by omega
  have e : (cs.map PyData.int)[n.toNat]? = some (.int (cs[n.toNat]?.getD 0)) := by
    rw [List.getElem?_map, List.getElem?_eq_getElem hlt]; rfl
  have z := at_nat e
  rw [show ((n.toNat : Nat) : Int) = n by omega] at z
  exact z
theorem uf_mem {cs : List Int} {p : Int × Int} : ∀ {k : Int}, p ∈ uf cs k → p.2 ∈ cs ∧ k ≤ p.1 ∧ p.1 < k + cs.length ∧ p.2 ≠ 1 := by
  induction cs with
  | nil => intro k h; cases h
  | cons c cs ih =>
    intro k h
    have h : p ∈ (if c ≠ 1 then (k, c) :: uf cs (k + 1) else uf cs (k + 1)) := h
    have later : p ∈ uf cs (k + 1) → p.2 ∈ c :: cs ∧ k ≤ p.1 ∧ p.1 < k + (c :: cs).length ∧ p.2 ≠ 1 := fun h => by
      obtain ⟨a, b, d, e⟩ := ih h
      refine ⟨List.mem_cons_of_mem _ a, by omega, ?_, e⟩
      rw [List.length_cons]; omega
    by_cases hc : c = 1
    · rw [if_neg (by simp [hc])] at h
      exact later h
    · rw [if_pos hc] at h
      rcases List.mem_cons.mp h with rfl | h
      · refine ⟨List.mem_cons_self .., Int.le_refl _, ?_, hc⟩
        show k < _
        rw [List.length_cons]; omega
      · exact later h
theorem nm_pD {cs : List Int} (h : CsOk cs) : ∀ d ∈ (uf cs 0).map pD, Nm 84 1 d := fun d m => by
  obtain ⟨p, hp, rfl⟩ := List.mem_map.mp m
  obtain ⟨a, b, c, _⟩ := uf_mem hp
  have := h.c _ a
  have := h.n
  exact Nm.pair (by omega) (by omega)
theorem uf_len {cs : List Int} : ∀ {k : Int}, (uf cs k).length ≤ cs.length := by
  induction cs with
  | nil => intro k; exact Nat.le_refl _
  | cons c cs ih =>
    intro k
    show (if c ≠ 1 then (k, c) :: uf cs (k + 1) else uf cs (k + 1)).length ≤ _
    have := ih (k := k + 1)
    split <;> simp only [List.length_cons] <;> omega
theorem nm_uf {cs : List Int} (h : CsOk cs) : SeqAt.shaped (.list ((uf cs 0).map pD)) = true := (Nm.list (nm_pD h)).shaped
theorem boolD {b c : Bool} {φ : PD → Prop} (e : b = c) (p : φ (.bool c)) : φ (.bool b) := by rw [e]; exact p
theorem v__law_fault : ∀ ds, pre__law_fault ds → p__law_fault { nx := fun _ => post__law_fault ds .none, rt := fun d _ => post__law_fault ds d } (startD N__law_fault ds) := by
  rintro _ ⟨cs, v, h, g, rfl⟩
  have big : 5000 < sizeLine := by decide
  have hn := h.n
  have fin : ∀ d, faultOf cs (parse cs v) = d → post__law_fault [.list (cs.map .int), v] d := fun b hb cs' v' e => by
    obtain ⟨e1, e2⟩ := inj2 e
    have := ints_inj (PyData.list.inj e1)
    subst this e2
    exact hb.symm
  have one : (1 : Nat) ≤ sizeLine := by decide
  have bad : parse cs v = .bad → post__law_fault [.list (cs.map .int), v] (.tuple [.str "form"]) := fun e => fin _ (by rw [e]; rfl)
  have nt : (∀ xs, v ≠ .tuple xs) → post__law_fault [.list (cs.map .int), v] (.tuple [.str "form"]) := fun hx => bad (parse_nt hx)
  cases v with
  | none => exact ⟨one, nt (fun xs z => by cases z)⟩
  | bool b => exact ⟨one, nt (fun xs z => by cases z)⟩
  | int b => exact ⟨one, nt (fun xs z => by cases z)⟩
  | str b => exact ⟨one, nt (fun xs z => by cases z)⟩
  | list b => exact ⟨one, nt (fun xs z => by cases z)⟩
  | dict b => exact ⟨one, nt (fun xs z => by cases z)⟩
  | tuple xs =>
  obtain ⟨gn, ga⟩ := g.tuple
  cases xs with
  | nil =>
    refine ⟨Gd.ok (.one .nil), by show 2 ≤ sizeLine; decide, nm2, rfl, ?_⟩
    have e : decide ((PyData.tuple []).shown ∈ nm2) = false := by decide +kernel
    have e' : (if true = true then !decide ((PyData.tuple []).shown ∈ nm2) else decide ((PyData.tuple []).shown ∈ nm2)) = true := by rw [e]; rfl
    refine boolD e' ?_
    exact ⟨one, bad rfl⟩
  | cons x r =>
  have hx := ga x (List.mem_cons_self ..)
  have ec : cutD (x :: r) none (some 1) = [x] := by
    unfold cutD
    simp [HT.sIx]
  have okx : ShowOk (.tuple [x]) := Gd.ok (.tup (by show 1 ≤ 8; decide) fun d m => by rw [List.mem_singleton.mp m]; exact hx)
  have os := one_shown hx
  refine ⟨by rw [ec]; exact okx, by show 2 ≤ sizeLine; decide, nm2, rfl, ?_⟩
  rw [ec]
  have test : ∀ b : Bool, decide ((PyData.tuple [x]).shown ∈ nm2) = b → (if true = true then !decide ((PyData.tuple [x]).shown ∈ nm2) else decide ((PyData.tuple [x]).shown ∈ nm2)) = !b := fun b e => by rw [e]; rfl
  cases x with
  | none => exact boolD (test _ os) ⟨one, bad (parse_ns fun s z => by cases z)⟩
  | bool b => exact boolD (test _ os) ⟨one, bad (parse_ns fun s z => by cases z)⟩
  | int b => exact boolD (test _ os) ⟨one, bad (parse_ns fun s z => by cases z)⟩
  | list b => exact boolD (test _ os) ⟨one, bad (parse_ns fun s z => by cases z)⟩
  | dict b => exact boolD (test _ os) ⟨one, bad (parse_ns fun s z => by cases z)⟩
  | tuple b => exact boolD (test _ os) ⟨one, bad (parse_ns fun s z => by cases z)⟩
  | str s =>
  have os : decide ((PyData.tuple [.str s]).shown ∈ nm2) = decide (s = "parts" ∨ s = "number") := os
  by_cases e1 : s = "parts"
  · subst e1
    refine boolD (test true (by rw [os]; exact decide_eq_true (.inl rfl))) (iteBF ⟨.str "parts", at0, eqA hx.sh (by decide +kernel) ?_⟩)
    rw [eqv_ss, decide_eq_true rfl]
    refine iteBT ⟨⟨trivial, trivial, trivial⟩, by rw [enumD_len, List.length_map]; omega, ?_⟩
    refine lcL_fm selU ?_ ?_
    · intro d hd F G hF
      obtain ⟨n, m, rfl⟩ := enumD_mem hd
      have hF : (match (if decide (m = 1) = true then none else some (PyData.tuple [.int n, .int m])) with | some e => F e | none => G) := hF
      refine ⟨rfl, ?_⟩
      by_cases c : m = 1
      · rw [if_pos (decide_eq_true c)] at hF
        exact ne_int c (iteBF hF)
      · rw [if_neg (by rw [decide_eq_false c]; exact Bool.false_ne_true)] at hF
        exact ne_t c (iteBT ⟨by show 2 ≤ sizeLine; decide, hF⟩)
    rw [enumD_uf]
    by_cases hr : r.length = 0
    · have hr : r = [] := List.length_eq_zero_iff.mp hr
      subst hr
      refine gt_f (by simp) (iteBF ⟨Nat.zero_le _, neA (nm_uf h) (by decide +kernel) ?_⟩)
      have pp : parse cs (.tuple [.str "parts"]) = .parts := by rw [parse_parts]; rfl
      rw [pp] at fin
      unfold faultOf at fin
      cases eu : uf cs 0 with
      | nil =>
        rw [eu] at fin
        have : PyData.eqv (.list (([] : List (Int × Int)).map pD)) (.list []) = true := by simp only [List.map_nil, PyData.eqv, PyData.eqvAll]
        rw [this]
        exact iteBF (fin _ rfl)
      | cons q t =>
        rw [eu] at fin
        have : PyData.eqv (.list ((q :: t).map pD)) (.list []) = false := by simp only [List.map_cons, PyData.eqv, PyData.eqvAll]
        rw [this]
        exact iteBT ⟨one, pD q, at0, by show 3 ≤ sizeLine; decide, fin _ rfl⟩
    · refine gt_t (by simp only [List.length_cons]; omega) (iteBT ⟨one, bad ?_⟩)
      rw [parse_parts, if_neg hr]
  by_cases e2 : s = "number"
  · subst e2
    refine boolD (test true (by rw [os]; exact decide_eq_true (.inr rfl))) (iteBF ⟨.str "number", at0, eqA hx.sh (by decide +kernel) ?_⟩)
    rw [eqv_ss, decide_eq_false e1]
    refine iteBF ?_
    by_cases hl : r.length = 2
    · obtain ⟨y, z, rfl⟩ : ∃ y z, r = [y, z] := by
        match r, hl with
        | [y, z], _ => exact ⟨y, z, rfl⟩
      have hy := ga y (by simp)
      have hz := ga z (by simp)
      refine ne_int rfl (iteBF ⟨⟨trivial, trivial⟩, by show 2 < sizeLine; decide, ?_⟩)
      refine lcL_fm (fun d => if isI d = true then none else some d) ?_ ?_
      · intro d hd F G hF
        cases d with
        | int i => exact hF
        | bool b => exact hF
        | _ => exact hF
      by_cases hyz : isI y = true ∧ isI z = true
      · cases y with
        | int n =>
          cases z with
          | int m =>
            refine ⟨Nat.zero_le _, ?_⟩
            have ew0 : (cutD [.str "number", .int n, .int m] (some 1) none).filterMap (fun d => if isI d = true then none else some d) = [] := rfl
            rw [ew0]
            refine neA (by decide +kernel) (by decide +kernel) ?_
            have e00 : PyData.eqv (.list []) (.list []) = true := by decide +kernel
            rw [e00]
            refine iteBF ?_
            refine ⟨.int n, rfl, ?_⟩
            by_cases c1 : 0 ≤ n
            · refine le_t c1 (iteBT ?_)
              by_cases c2 : n < cs.length
              · refine lt_t (by rw [List.length_map]; exact c2) (iteBF ⟨.int m, rfl, ?_⟩)
                by_cases c3 : m < 0
                · refine lt_t c3 (iteBT (iteBT ⟨one, bad ?_⟩))
                  rw [parse_num, if_neg fun z => by omega]
                · refine lt_f c3 (iteBF ⟨.int m, rfl, ?_⟩)
                  by_cases c4 : m = 1
                  · refine eq_t c4 (iteBT ⟨one, bad ?_⟩)
                    rw [parse_num, if_neg fun z => z.2.2.2 c4]
                  · refine eq_f c4 (iteBF ⟨.int n, rfl, _, at_nn c1 c2, .int m, rfl, ?_⟩)
                    have pp : parse cs (.tuple [.str "number", .int n, .int m]) = .num n m := by rw [parse_num, if_pos ⟨c1, c2, by omega, c4⟩]
                    have fin2 : ∀ d, (if cs[n.toNat]?.getD 0 = m then PyData.none else .tuple [.str "many", .int (cs[n.toNat]?.getD 0)]) = d → post__law_fault [.list (cs.map .int), .tuple [.str "number", .int n, .int m]] d := fun d hd => fin d (by rw [pp]; exact hd)
                    by_cases c5 : cs[n.toNat]?.getD 0 = m
                    · exact ne_int c5 (iteBF (fin2 _ (by rw [if_pos c5])))
                    · exact ne_t c5 (iteBT ⟨.int n, rfl, _, at_nn c1 c2, by show 2 ≤ sizeLine; decide, fin2 _ (by rw [if_neg c5])⟩)
              · refine lt_f (by rw [List.length_map]; exact c2) (iteBT (iteBT ⟨one, bad ?_⟩))
                rw [parse_num, if_neg fun z => c2 z.2.1]
            · refine le_f c1 (iteBF (iteBT (iteBT ⟨one, bad ?_⟩)))
              rw [parse_num, if_neg fun z => c1 z.1]
          | _ => exact absurd hyz.2 (by simp [isI])
        | _ => exact absurd hyz.1 (by simp [isI])
      · have pb : parse cs (.tuple [.str "number", y, z]) = .bad := parse_numx fun n m e => by
          cases e
          exact hyz ⟨rfl, rfl⟩
        obtain ⟨w, ws, ew, hA⟩ : ∃ w ws, ([y, z] : List PD).filterMap (fun d => if isI d = true then none else some d) = w :: ws ∧ ∀ d ∈ w :: ws, At d := by
          cases q1 : isI y with
          | true =>
            cases q2 : isI z with
            | true => exact absurd ⟨q1, q2⟩ hyz
            | false => exact ⟨z, [], by simp [q1, q2], fun d m => by rw [List.mem_singleton.mp m]; exact hz⟩
          | false =>
            cases q2 : isI z with
            | true => exact ⟨y, [], by simp [q1, q2], fun d m => by rw [List.mem_singleton.mp m]; exact hy⟩
            | false => exact ⟨y, [z], by simp [q1, q2], fun d m => by
                simp only [List.mem_cons, List.not_mem_nil, or_false] at m
                rcases m with rfl | rfl
                · exact hy
                · exact hz⟩
        have sh : SeqAt.shaped (.list (w :: ws)) = true := (NmB.list fun d m => (hA d m).nm).shaped
        have ev : PyData.eqv (.list (w :: ws)) (.list []) = false := by simp only [PyData.eqv, PyData.eqvAll]
        refine ⟨Nat.zero_le _, ?_⟩
        have ew' : (cutD [.str "number", y, z] (some 1) none).filterMap (fun d => if isI d = true then none else some d) = w :: ws := ew
        rw [ew']
        refine neA sh (by decide +kernel) ?_
        rw [ev]
        exact iteBT ⟨one, bad pb⟩
    · refine ne_t (by simp only [List.length_cons]; omega) (iteBT (iteBT ⟨one, bad (parse_numx fun n m e => ?_)⟩))
      subst e
      exact hl rfl
  · exact boolD (test false (by rw [os]; exact decide_eq_false fun z => z.elim e1 e2)) ⟨one, bad (parse_oth e1 e2)⟩
end K40
set_option Elab.async false
set_option linter.all false
set_option maxRecDepth 100000
set_option maxHeartbeats 2000000
namespace K40
open PySem L2 DD
def selG (p : Int) : PD → Option PD
  | .int q => if ((Nat.gcd p.natAbs q.natAbs : Nat) : Int) = 1 then some (.int q) else none
  | _ => none
theorem v__law_row : ∀ a c ds, pre__law_row ds → p__law_row { nx := fun Γ => post__law_row ds .none ∧ sget Γ 0 = .src a c, rt := fun d Γ => post__law_row ds d ∧ sget Γ 0 = .src a c } (startS N__law_row a c ds)
  | a, c, [.int m], h => by
    obtain ⟨m0, m1⟩ := h
    refine pick_of (by omega) fun k k0 k1 => ?_
    dsimp only [addD]
    generalize hp : 1 + k = p
    have p0 : 1 ≤ p ∧ p ≤ 12 := by omega
    refine ⟨⟨trivial, trivial⟩, ⟨by decide, by decide, by omega, by omega⟩, by rw [rangeD_len]; exact Nat.lt_of_le_of_lt (show _ ≤ 100 by omega) (by decide), ?_⟩
    refine lcL_fm (selG p) ?_ ?_
    · intro d hd F G hF
      obtain ⟨j, hj, rfl⟩ := rangeD_mem hd
      refine ⟨trivial, fun d q => ?_⟩
      obtain rfl := q
      have hF : (match (if ((Nat.gcd p.natAbs (1 + (j : Int)).natAbs : Nat) : Int) = 1 then some (PyData.int (1 + (j : Int))) else none) with | some e => F e | none => G) := hF
      by_cases c : ((Nat.gcd p.natAbs (1 + (j : Int)).natAbs : Nat) : Int) = 1
      · rw [if_pos c] at hF
        exact eq_t c (iteBT hF)
      · rw [if_neg c] at hF
        exact eq_f c (iteBF hF)
    have hall : ∀ d ∈ (rangeD 1 (p + 1 - 1).toNat).filterMap (selG p), ∃ q : Int, d = .int q ∧ 1 ≤ q ∧ q ≤ p := fun d hd => by
      obtain ⟨e, he, hs⟩ := List.mem_filterMap.mp hd
      obtain ⟨j, hj, rfl⟩ := rangeD_mem he
      have hs : (if ((Nat.gcd p.natAbs (1 + (j : Int)).natAbs : Nat) : Int) = 1 then some (PyData.int (1 + (j : Int))) else none) = some d := hs
      split at hs
      · cases hs; exact ⟨_, rfl, by omega, by omega⟩
      · cases hs
    have hlen : ((rangeD 1 (p + 1 - 1).toNat).filterMap (selG p)).length ≤ 12 := by
      refine Nat.le_trans (List.length_filterMap_le ..) ?_
      rw [rangeD_len]; omega
    have hne : 0 < ((rangeD 1 (p + 1 - 1).toNat).filterMap (selG p)).length := by
      refine List.length_pos_of_mem (a := PyData.int 1) (List.mem_filterMap.mpr ⟨.int 1, ?_, ?_⟩)
      · unfold rangeD
        exact List.mem_map.mpr ⟨0, List.mem_range.mpr (by omega), rfl⟩
      · show (if ((Nat.gcd p.natAbs (1 : Int).natAbs : Nat) : Int) = 1 then some (PyData.int 1) else none) = _
        rw [if_pos (by show ((Nat.gcd p.natAbs 1 : Nat) : Int) = 1; rw [Nat.gcd_one_right]; rfl)]
    generalize (rangeD 1 (p + 1 - 1).toNat).filterMap (selG p) = es at *
    refine pick_of (by omega) fun k2 q0 q1 => ?_
    have hk : k2.toNat < es.length := by omega
    have hat := at_nat (List.getElem?_eq_getElem hk)
    rw [show ((k2.toNat : Nat) : Int) = k2 by omega] at hat
    refine ⟨_, hat, pick_of (by decide) fun k3 r0 r1 => ?_⟩
    obtain ⟨q, hq, q2, q3⟩ := hall _ (List.getElem_mem hk)
    refine ⟨by show 3 ≤ sizeLine; decide, ⟨(p, q, k3 - 30), ?_, q2, q3, p0.2, by show -30 ≤ k3 - 30; omega, by show k3 - 30 ≤ 30; omega⟩, rfl⟩
    rw [hq]; rfl
end K40
set_option Elab.async false
set_option linter.all false
set_option maxRecDepth 100000
set_option maxHeartbeats 4000000
namespace K40
open PySem L2 DD
theorem seq_split {a rest : TSD} {E : EndsD} {Γ : DD.Env} (P : DD.Env → Prop) (H : ∀ F : DD.Env → Prop, (∀ Γ', P Γ' → F Γ') → a { E with nx := F } Γ) (h : ∀ Γ', P Γ' → rest E Γ') : sSeq a rest E Γ := H _ h
def plainS (s : Sl) : Prop := s = .un ∨ ∃ d, s = .va d
def plainB (s : Sl) : Prop := match s with
  | .va _ => True
  | .un => True
  | _ => False
theorem plainS.m {s : Sl} (h : plainS s) : plainB s := by
  rcases h with rfl | ⟨d, rfl⟩ <;> trivial
structure G1 (r : Rw) : Prop where
  a : 1 ≤ r.2.1
  b : r.2.1 < r.1
  c : r.1 ≤ 12
  d : -30 ≤ r.2.2
  e : r.2.2 ≤ 30
theorem all_rows : ∀ {es : List PD}, (∀ e ∈ es, ∃ r, e = rD r ∧ ROk r) → ∃ rs : List Rw, es = rs.map rD ∧ ∀ r ∈ rs, ROk r
  | [], _ => ⟨[], rfl, fun r m => by cases m⟩
  | e :: es, h => by
    obtain ⟨r, rfl, hr⟩ := h e (List.mem_cons_self ..)
    obtain ⟨rs, rfl, hrs⟩ := all_rows fun e m => h e (List.mem_cons_of_mem _ m)
    refine ⟨r :: rs, rfl, fun q m => ?_⟩
    rcases List.mem_cons.mp m with rfl | m
    · exact hr
    · exact hrs q m
theorem nm_row {r : Rw} (h : ROk r) : Nm 126 1 (rD r) := by
  have := h.p
  have := h.q
  have := h.m
  have := h.s0
  have := h.s1
  refine Nm.tuple (w := 41) (k := 0) (ds := [.int r.1, .int r.2.1, .int r.2.2]) fun d m => ?_
  simp only [List.mem_cons, List.not_mem_nil, or_false] at m
  rcases m with rfl | rfl | rfl <;> exact .int (by omega)
theorem nm_rows {rs : List Rw} (h : RsOk rs) : ShowOk (rowsD rs) := by
  have z : Nm ((rs.map rD).length * (126 + 1)) 2 (rowsD rs) := Nm.tuple fun d m => by
    obtain ⟨r, hr, rfl⟩ := List.mem_map.mp m
    exact nm_row (h.r r hr)
  refine (z.mono (w' := 500) (k' := 2) ?_ (Nat.le_refl _)).ok
  rw [List.length_map]
  have := h.n
  omega
def toldL : List (Int × Int) → List PD
  | [] => [.str "parts"]
  | p :: _ => [.str "number", .int p.1, .int p.2]
theorem told_is : ∀ u, toldOf u = .tuple (toldL u)
  | [] => rfl
  | _ :: _ => rfl
theorem a_parts : At (.str "parts") := .str _ (.inl rfl)
theorem a_number : At (.str "number") := .str _ (.inr (.inl rfl))
theorem a_zero : At (.int 0) := .int _ (by decide)
theorem a_small {i : Int} (h : -10000 ≤ i ∧ i ≤ 10000) : At (.int i) := .int _ (by omega)
theorem uf_small {cs : List Int} (h : CsOk cs) {p : Int × Int} (m : p ∈ uf cs 0) : At (.int p.1) ∧ At (.int p.2) := by
  obtain ⟨a, b, c, _⟩ := uf_mem m
  have := h.c _ a
  have := h.n
  exact ⟨a_small (by omega), a_small (by omega)⟩
theorem told_at {cs : List Int} (h : CsOk cs) : ∀ d ∈ toldL (uf cs 0), At d := by
  cases e : uf cs 0 with
  | nil => intro d m; rw [List.mem_singleton.mp m]; exact a_parts
  | cons p t =>
    have z := uf_small h (p := p) (by rw [e]; exact List.mem_cons_self ..)
    intro d m
    simp only [toldL, List.mem_cons, List.not_mem_nil, or_false] at m
    rcases m with rfl | rfl | rfl
    · exact a_number
    · exact z.1
    · exact z.2
theorem told_len : ∀ u, (toldL u).length ≤ 3
  | [] => by decide
  | _ :: _ => Nat.le_refl _
theorem fault_gd {cs : List Int} (h : CsOk cs) (v : PD) : Gd (faultOf cs (parse cs v)) := by
  have a_form : At (.str "form") := .str _ (by simp)
  have a_many : At (.str "many") := .str _ (by simp)
  cases e : parse cs v with
  | bad => exact .tup (by decide) fun d m => by rw [List.mem_singleton.mp m]; exact a_form
  | parts =>
    unfold faultOf
    cases eu : uf cs 0 with
    | nil => exact .one .non
    | cons p t =>
      have z := uf_small h (p := p) (by rw [eu]; exact List.mem_cons_self ..)
      refine .tup (by show 3 ≤ 8; decide) fun d m => ?_
      simp only [List.mem_cons, List.not_mem_nil, or_false] at m
      rcases m with rfl | rfl | rfl
      · exact a_number
      · exact z.1
      · exact z.2
  | num n m =>
    have hc : At (.int (cs[n.toNat]?.getD 0)) := by
      cases e : cs[n.toNat]? with
      | none => exact a_zero
      | some c =>
        have := h.c c (List.mem_of_getElem? e)
        exact a_small (by show -10000 ≤ c ∧ c ≤ 10000; omega)
    show Gd (if cs[n.toNat]?.getD 0 = m then .none else .tuple [.str "many", .int (cs[n.toNat]?.getD 0)])
    split
    · exact .one .non
    · refine .tup (by show 2 ≤ 8; decide) fun d m => ?_
      simp only [List.mem_cons, List.not_mem_nil, or_false] at m
      rcases m with rfl | rfl
      · exact a_many
      · exact hc
/-- where no fault is found the paper's first word is the told one's -/
theorem fault_none {cs : List Int} {v : PD} (h : faultOf cs (parse cs v) = .none) : ∃ s r r', v = .tuple (.str s :: r) ∧ toldL (uf cs 0) = .str s :: r' := by
  have inv := parse_inv (cs := cs) (v := v)
  cases e : parse cs v with
  | bad => rw [e] at h; cases h
  | parts =>
    rw [e] at h
    unfold faultOf at h
    cases eu : uf cs 0 with
    | nil => exact ⟨_, _, _, inv.1 e, rfl⟩
    | cons p t => rw [eu] at h; cases h
  | num n m =>
    obtain ⟨rfl, n0, n1, m0, m1⟩ := inv.2 n m e
    rw [e] at h
    have h : (if cs[n.toNat]?.getD 0 = m then PyData.none else .tuple [.str "many", .int (cs[n.toNat]?.getD 0)]) = .none := h
    by_cases c : cs[n.toNat]?.getD 0 = m
    · cases eu : uf cs 0 with
      | nil =>
        exfalso
        have hlt : n.toNat < cs.length := by omega
        rw [List.getElem?_eq_getElem hlt] at c
        have c : cs[n.toNat] = m := c
        have one : ∀ (cs : List Int) (k : Int), uf cs k = [] → ∀ c ∈ cs, c = 1 := by
          intro cs
          induction cs with
          | nil => intro k _ c m; cases m
          | cons d cs ih =>
            intro k hk c hc
            have hk : (if d ≠ 1 then (k, d) :: uf cs (k + 1) else uf cs (k + 1)) = [] := hk
            by_cases hd : d = 1
            · rw [if_neg (by simp [hd])] at hk
              rcases List.mem_cons.mp hc with rfl | hc
              · exact hd
              · exact ih _ hk c hc
            · rw [if_pos hd] at hk; cases hk
        exact m1 (by rw [← c]; exact one cs 0 eu _ (List.getElem_mem hlt))
      | cons p t => exact ⟨_, _, _, rfl, rfl⟩
    · rw [if_neg c] at h; cases h
end K40
set_option Elab.async false
set_option linter.all false
set_option maxRecDepth 100000
set_option maxHeartbeats 4000000
namespace K40
open PySem L2 DD
theorem v_law : ∀ ns : List Int, ns.length ≤ 63 → p_law { nx := fun _ => False, rt := fun d _ => d = .bool true } (.scr ns :: startD (N_law.drop 1) []) := fun ns h63 => by
  refine ⟨h63, fun a c => ⟨⟨by decide, by decide⟩, ?_⟩⟩
  refine forL_by (fun i Γ => ∃ x2 x3 x4 x5 x6 x7 x8 x9 x10 x11 x12 x13 x14 x15 x16 x17, Γ = [.scr ns, .src a c, x2, x3, x4, x5, x6, x7, x8, x9, x10, x11, x12, x13, x14, x15, x16, x17, .un, .un, .un] ∧ plainS x15)
    ⟨.un, .un, .un, .un, .un, .un, .un, .un, .un, .un, .un, .un, .un, .un, .un, .un, rfl, .inl rfl⟩ ?_ ?_
  · rintro i d Γ F hd ⟨x2, x3, x4, x5, x6, x7, x8, x9, x10, x11, x12, x13, x14, x15, x16, x17, rfl, h15⟩ hF
    obtain ⟨hi, rfl⟩ := rangeD_at hd
    generalize PyData.int (0 + (i : Nat)) = lap
    refine ⟨⟨by decide, by decide⟩, fun d p => ?_⟩
    obtain ⟨⟨p, q, s⟩, rfl, r1, r2, r3, r4, r5⟩ := p
    -- one
    dsimp only [uName]
    refine seq_split (fun Γ' => ∃ r, G1 r ∧ Γ' = [.scr ns, .src a c, .va lap, .va (rD r), x4, x5, x6, x7, x8, x9, x10, x11, x12, x13, x14, x15, x16, x17, .un, .un, .un]) (fun F hF => ?_) ?_
    · refine ⟨.int p, rfl, .int q, rfl, ?_⟩
      by_cases c : q < p
      · exact gt_t c (iteBT (hF _ ⟨(p, q, s), ⟨r1, c, r3, r4, r5⟩, rfl⟩))
      · exact gt_f c (iteBF ⟨_, rfl, by show 3 ≤ sizeLine; decide, hF _ ⟨(5, 3, s), ⟨(by decide : (1 : Int) ≤ 3), (by decide : (3 : Int) < 5), (by decide : (5 : Int) ≤ 12), r4, r5⟩, rfl⟩⟩)
    clear p q s r1 r2 r3 r4 r5
    rintro _ ⟨⟨p, q, s⟩, ⟨g1, g2, g3, g4, g5⟩, rfl⟩
    have g1 : 1 ≤ q := g1
    have g2 : q < p := g2
    have g3 : p ≤ 12 := g3
    have g4 : -30 ≤ s := g4
    have g5 : s ≤ 30 := g5
    refine seq_split (fun Γ' => Γ' = [.scr ns, .src a c, .va lap, .va (rD (p, q, s)), x4, x5, x6, x7, x8, .va (.int p), .va (.int q), .va (.int s), x12, x13, x14, x15, x16, x17, .un, .un, .un]) (fun F hF => ⟨rfl, hF _ rfl⟩) ?_
    rintro _ rfl
    -- rows
    refine seq_split (fun Γ' => ∃ rs, RsOk rs ∧ Γ' = [.scr ns, .src a c, .va lap, .va (rD (p, q, s)), .va (rowsD rs), x5, x6, x7, x8, .va (.int p), .va (.int q), .va (.int s), x12, x13, x14, x15, x16, x17, .un, .un, .un]) (fun F hF => ?_) ?_
    · refine pick_of (by decide) fun k k0 k1 => eqI ?_
      have ki : (if decide (k = 0) = true then (1 : Int) else 0) = 0 ∨ (if decide (k = 0) = true then (1 : Int) else 0) = 1 := by
        split
        · exact .inr rfl
        · exact .inl rfl
      refine ⟨by show 3 ≤ sizeLine; decide, by show 2 ≤ sizeLine; decide, ?_⟩
      refine hF _ ⟨[(p, q, s), (p, p - q, p - 1 - s + (if decide (k = 0) = true then (1 : Int) else 0))], ⟨by show 2 ≤ 3; decide, fun r m => ?_⟩, rfl⟩
      rcases List.mem_cons.mp m with rfl | m
      · exact ⟨g1, by show q ≤ p; omega, by show p ≤ 13; omega, by show -100 ≤ s; omega, by show s ≤ 100; omega⟩
      · rw [List.mem_singleton.mp m]
        exact ⟨by show 1 ≤ p - q; omega, by show p - q ≤ p; omega, by show p ≤ 13; omega, by show -100 ≤ p - 1 - s + (if decide (k = 0) = true then (1 : Int) else 0); omega, by show p - 1 - s + (if decide (k = 0) = true then (1 : Int) else 0) ≤ 100; omega⟩
    rintro _ ⟨rs0, hr0, rfl⟩
    refine seq_split (fun Γ' => ∃ rs, RsOk rs ∧ Γ' = [.scr ns, .src a c, .va lap, .va (rD (p, q, s)), .va (rowsD rs), x5, x6, x7, x8, .va (.int p), .va (.int q), .va (.int s), x12, x13, x14, x15, x16, x17, .un, .un, .un]) (fun F hF => ?_) ?_
    · refine pick_of (by decide) fun k k0 k1 => ?_
      by_cases c : k = 0
      · refine eq_t c (iteBT ⟨⟨trivial, trivial⟩, ?_⟩)
        refine pick_of (by decide) fun k2 k3 k4 => ?_
        refine ⟨⟨by omega, by omega⟩, by rw [rangeD_len]; exact Nat.lt_of_le_of_lt (show _ ≤ 100 by omega) (by decide), ?_⟩
        refine lcL_rel (fun _ e => ∃ r, e = rD r ∧ ROk r) ?_ ?_
        · intro d hd F2 G hF2
          refine ⟨⟨by decide, by decide⟩, fun d p => ?_⟩
          obtain ⟨r, rfl, a1, a2, a3, a4, a5⟩ := p
          exact hF2 _ ⟨r, rfl, a1, a2, by omega, by omega, by omega⟩
        · intro es hl hr
          obtain ⟨rs, rfl, hrs⟩ := all_rows (es := es) fun e m => by
            obtain ⟨j, hj⟩ := List.mem_iff_getElem?.mp m
            have hlt : j < es.length := (List.getElem?_eq_some_iff.mp hj).1
            exact hr j _ e (List.getElem?_eq_getElem (by omega)) hj
          refine hF _ ⟨rs, ⟨?_, hrs⟩, rfl⟩
          rw [List.length_map, rangeD_len] at hl
          omega
      · exact eq_f c (iteBF (hF _ ⟨rs0, hr0, rfl⟩))
    rintro _ ⟨rs, hr, rfl⟩
    clear rs0 hr0
    -- counts, kept, told
    have hc := counts_ok hr
    have hcl : 0 < (counts rs).length := by rw [counts_len]; have := per_all hr; omega
    have hcn := hc.n
    have big : 5000 < sizeLine := by decide
    refine seq_split (fun Γ' => Γ' = [.scr ns, .src a c, .va lap, .va (rD (p, q, s)), .va (rowsD rs), x5, x6, x7, x8, .va (.int p), .va (.int q), .va (.int s), .va (.list ((counts rs).map .int)), .va (.str (rowsD rs).shown), .va (.tuple (toldL (uf (counts rs) 0))), x15, x16, x17, .un, .un, .un]) (fun F hF => ⟨⟨rs, hr, rfl⟩, fun d e => ?_⟩) ?_
    · obtain rfl := e rs rfl
      refine ⟨nm_rows hr, ⟨rs, hr, rfl⟩, fun d e => ?_⟩
      have e := e rs rfl
      rw [told_is] at e
      subst e
      exact hF _ rfl
    rintro _ rfl
    -- unfit
    refine seq_split (fun Γ' => Γ' = [.scr ns, .src a c, .va lap, .va (rD (p, q, s)), .va (rowsD rs), .va (.list ((uf (counts rs) 0).map pD)), x6, x7, x8, .va (.int p), .va (.int q), .va (.int s), .va (.list ((counts rs).map .int)), .va (.str (rowsD rs).shown), .va (.tuple (toldL (uf (counts rs) 0))), x15, x16, x17, .un, .un, .un]) (fun F hF => ⟨⟨h15.m, trivial, trivial⟩, by rw [enumD_len, List.length_map]; omega, ?_⟩) ?_
    · refine lcL_fm selU ?_ ?_
      · intro d hd F G hF
        obtain ⟨n, m, rfl⟩ := enumD_mem hd
        have hF : (match (if decide (m = 1) = true then none else some (PyData.tuple [.int n, .int m])) with | some e => F e | none => G) := hF
        refine ⟨rfl, ?_⟩
        by_cases c : m = 1
        · rw [if_pos (decide_eq_true c)] at hF
          exact ne_int c (iteBF hF)
        · rw [if_neg (by rw [decide_eq_false c]; exact Bool.false_ne_true)] at hF
          exact ne_t c (iteBT ⟨by show 2 ≤ sizeLine; decide, hF⟩)
      rw [enumD_uf]
      exact hF _ rfl
    rintro _ rfl
    have tgd : Gd (.tuple (toldL (uf (counts rs) 0))) := .tup (Nat.le_trans (told_len _) (by decide)) (told_at hc)
    refine seq_split (fun Γ' => Γ' = [.scr ns, .src a c, .va lap, .va (rD (p, q, s)), .va (rowsD rs), .va (.list ((uf (counts rs) 0).map pD)), x6, x7, x8, .va (.int p), .va (.int q), .va (.int s), .va (.list ((counts rs).map .int)), .va (.str (rowsD rs).shown), .va (.tuple (toldL (uf (counts rs) 0))), x15, x16, x17, .un, .un, .un]) (fun F hF => ?_) ?_
    · refine ⟨tgd.ok, Nat.zero_le _, neA (nm_uf hc) (by decide +kernel) ?_⟩
      cases eu : uf (counts rs) 0 with
      | nil =>
        rw [eu] at hF
        have e0 : PyData.eqv (.list (([] : List (Int × Int)).map pD)) (.list []) = true := by decide +kernel
        rw [e0]
        refine iteBF ?_
        refine ⟨by show 1 ≤ sizeLine; decide, (Gd.tup (ds := [.str "parts"]) (by decide) (fun d m => by rw [List.mem_singleton.mp m]; exact a_parts)).ok, ne_str (iteBF (hF _ rfl))⟩
      | cons w t =>
        rw [eu] at hF
        have z := uf_small hc (p := w) (by rw [eu]; exact List.mem_cons_self ..)
        have ev : PyData.eqv (.list ((w :: t).map pD)) (.list []) = false := by simp only [List.map_cons, PyData.eqv, PyData.eqvAll]
        rw [ev]
        refine iteBT ⟨by show 1 ≤ sizeLine; decide, pD w, at0, by show 3 ≤ sizeLine; decide, ?_⟩
        refine ⟨(Gd.tup (ds := [.str "number", .int w.1, .int w.2]) (by show 3 ≤ 8; decide) (fun d m => ?_)).ok, ne_str (iteBF (hF _ rfl))⟩
        simp only [List.mem_cons, List.not_mem_nil, or_false] at m
        rcases m with rfl | rfl | rfl
        · exact a_number
        · exact z.1
        · exact z.2
    rintro _ rfl
    refine seq_split (fun Γ' => ∃ (n : Int) (odds : List PD), 0 ≤ n ∧ n < (counts rs).length ∧ (∀ o ∈ odds, At o) ∧ odds ≠ [] ∧ odds.length ≤ 1000 ∧ Γ' = [.scr ns, .src a c, .va lap, .va (rD (p, q, s)), .va (rowsD rs), .va (.list ((uf (counts rs) 0).map pD)), .va (.list odds), x7, x8, .va (.int p), .va (.int q), .va (.int s), .va (.list ((counts rs).map .int)), .va (.str (rowsD rs).shown), .va (.tuple (toldL (uf (counts rs) 0))), .va (.int n), x16, x17, .un, .un, .un]) (fun F hF => ?_) ?_
    · refine pick_of (n := ((counts rs).map PyData.int).length) (by rw [List.length_map]; omega) fun n n0 n1 => ⟨Nat.zero_le _, ⟨by decide, by decide, by decide⟩, by show 9 ≤ sizeLine; decide, ?_⟩
      rw [List.length_map] at n1
      refine hF _ ⟨n, [.none, .bool true, .int (-1), .int 0, .int 2, .str "0", .tuple [], .int ((counts rs).map PyData.int).length, .int (10 ^ (20 : Int).toNat)], n0, by omega, fun o m => ?_, List.cons_ne_nil _ _, by show 9 ≤ 1000; decide, rfl⟩
      simp only [List.mem_cons, List.not_mem_nil, or_false] at m
      rcases m with rfl | rfl | rfl | rfl | rfl | rfl | rfl | rfl | rfl
      · exact .non
      · exact .bool _
      · exact .int _ (by decide)
      · exact .int _ (by decide)
      · exact .int _ (by decide)
      · exact .str _ (by simp)
      · exact .nil
      · exact a_small (by rw [List.length_map]; omega)
      · exact .int _ (by decide)
    rintro _ ⟨n, odds, n0, n1, ho, hne, hlo, rfl⟩
    have an : At (.int n) := a_small (by omega)
    refine seq_split (fun Γ' => ∃ o, At o ∧ Γ' = [.scr ns, .src a c, .va lap, .va (rD (p, q, s)), .va (rowsD rs), .va (.list ((uf (counts rs) 0).map pD)), .va o, x7, x8, .va (.int p), .va (.int q), .va (.int s), .va (.list ((counts rs).map .int)), .va (.str (rowsD rs).shown), .va (.tuple (toldL (uf (counts rs) 0))), .va (.int n), x16, x17, .un, .un, .un]) (fun F hF => ⟨⟨hne, hlo⟩, fun d m => hF _ ⟨d, ho d m, rfl⟩⟩) ?_
    rintro _ ⟨o, ao, rfl⟩
    have t1 : ∀ {x : PD}, At x → Gd (.tuple [x]) := fun hx => .tup (by show 1 ≤ 8; decide) fun d m => by rw [List.mem_singleton.mp m]; exact hx
    have t2 : ∀ {x y : PD}, At x → At y → Gd (.tuple [x, y]) := fun hx hy => .tup (by show 2 ≤ 8; decide) fun d m => by
      simp only [List.mem_cons, List.not_mem_nil, or_false] at m
      rcases m with rfl | rfl
      · exact hx
      · exact hy
    have t3 : ∀ {x y z : PD}, At x → At y → At z → Gd (.tuple [x, y, z]) := fun hx hy hz => .tup (by show 3 ≤ 8; decide) fun d m => by
      simp only [List.mem_cons, List.not_mem_nil, or_false] at m
      rcases m with rfl | rfl | rfl
      · exact hx
      · exact hy
      · exact hz
    have two : At (.int 2) := .int _ (by decide)
    have ac : At (.int ((counts rs)[n.toNat]?.getD 0)) := by
      have hlt : n.toNat < (counts rs).length := by omega
      rw [List.getElem?_eq_getElem hlt]
      have := hc.c _ (List.getElem_mem hlt)
      exact a_small (by show -10000 ≤ (counts rs)[n.toNat] ∧ (counts rs)[n.toNat] ≤ 10000; omega)
    refine seq_split (fun Γ' => ∃ vs, (∀ v ∈ vs, Gd v) ∧ vs.length ≤ 10 ∧ Γ' = [.scr ns, .src a c, .va lap, .va (rD (p, q, s)), .va (rowsD rs), .va (.list ((uf (counts rs) 0).map pD)), .va o, .va (.list vs), x8, .va (.int p), .va (.int q), .va (.int s), .va (.list ((counts rs).map .int)), .va (.str (rowsD rs).shown), .va (.tuple (toldL (uf (counts rs) 0))), .va (.int n), x16, x17, .un, .un, .un]) (fun F hF => ?_) ?_
    · have tl := told_len (uf (counts rs) 0)
      refine ⟨by show 1 ≤ sizeLine; decide, by show _ + 1 ≤ sizeLine; omega, by show 1 ≤ sizeLine; decide, _, at_nn n0 n1, by show 3 ≤ sizeLine; decide, by show 3 ≤ sizeLine; decide, by show 6 ≤ sizeLine; decide, ?_⟩
      refine hF _ ⟨_, fun v m => ?_, by show 6 ≤ 10; decide, rfl⟩
      simp only [List.mem_cons, List.not_mem_nil, or_false] at m
      rcases m with rfl | rfl | rfl | rfl | rfl | rfl
      · exact tgd
      · exact .lst (Nat.le_trans tl (by decide)) (told_at hc)
      · refine .tup (by rw [List.length_append]; show _ + 1 ≤ 8; omega) fun d m => ?_
        rcases List.mem_append.mp m with m | m
        · exact told_at hc d m
        · rw [List.mem_singleton.mp m]; exact a_zero
      · exact t1 a_parts
      · exact t3 a_number an ac
      · exact t3 a_number an a_zero
    rintro _ ⟨v1, g1', l1, rfl⟩
    have join : ∀ {vs us : List PD}, (∀ v ∈ vs, Gd v) → (∀ v ∈ us, Gd v) → ∀ v ∈ vs ++ us, Gd v := fun h1 h2 v m => (List.mem_append.mp m).elim (h1 v) (h2 v)
    have three : At (.int 3) := .int _ (by decide)
    have oneA : At (.int 1) := .int _ (by decide)
    refine seq_split (fun Γ' => ∃ vs, (∀ v ∈ vs, Gd v) ∧ vs.length ≤ 20 ∧ Γ' = [.scr ns, .src a c, .va lap, .va (rD (p, q, s)), .va (rowsD rs), .va (.list ((uf (counts rs) 0).map pD)), .va o, .va (.list vs), x8, .va (.int p), .va (.int q), .va (.int s), .va (.list ((counts rs).map .int)), .va (.str (rowsD rs).shown), .va (.tuple (toldL (uf (counts rs) 0))), .va (.int n), x16, x17, .un, .un, .un]) (fun F hF => ?_) ?_
    · refine ⟨by show 3 ≤ sizeLine; decide, by show 3 ≤ sizeLine; decide, by show 3 ≤ sizeLine; decide, by show 2 ≤ sizeLine; decide, by show 1 ≤ sizeLine; decide, Nat.zero_le _, by show 7 ≤ sizeLine; decide, by show _ + 7 ≤ sizeLine; omega, ?_⟩
      refine hF _ ⟨_, join g1' fun v m => ?_, by rw [List.length_append]; show _ + 7 ≤ 20; omega, rfl⟩
      simp only [List.mem_cons, List.not_mem_nil, or_false] at m
      rcases m with rfl | rfl | rfl | rfl | rfl | rfl | rfl
      · exact t3 a_number an two
      · exact t3 a_number ao a_zero
      · exact t3 a_number an ao
      · exact t2 a_number an
      · exact t1 ao
      · exact .one .non
      · exact .one .nil
    rintro _ ⟨v2, g2', l2, rfl⟩
    refine seq_split (fun Γ' => ∃ vs, (∀ v ∈ vs, Gd v) ∧ vs.length ≤ 3100 ∧ Γ' = [.scr ns, .src a c, .va lap, .va (rD (p, q, s)), .va (rowsD rs), .va (.list ((uf (counts rs) 0).map pD)), .va o, .va (.list vs), x8, .va (.int p), .va (.int q), .va (.int s), .va (.list ((counts rs).map .int)), .va (.str (rowsD rs).shown), .va (.tuple (toldL (uf (counts rs) 0))), .va (.int n), x16, x17, .un, .un, .un]) (fun F hF => ?_) ?_
    · have cut_mem : ∀ d ∈ cutD ((uf (counts rs) 0).map pD) (some (-2)) none, ∃ w ∈ uf (counts rs) 0, d = pD w := fun d m => by
        unfold cutD at m
        obtain ⟨w, hw, e⟩ := List.mem_map.mp (List.mem_of_mem_drop (List.mem_of_mem_take m))
        exact ⟨w, hw, e.symm⟩
      have cut_len : (cutD ((uf (counts rs) 0).map pD) (some (-2)) none).length ≤ 3000 := by
        unfold cutD
        refine Nat.le_trans (List.length_take_le' ..) ?_
        rw [List.length_drop, List.length_map]
        have := uf_len (cs := counts rs) (k := 0)
        omega
      refine ⟨⟨trivial, trivial, trivial⟩, by show (cutD ((uf (counts rs) 0).map pD) (some (-2)) none).length < sizeLine; omega, ?_⟩
      refine lcL_map (fun d => match d with
        | .tuple [x, y] => .tuple [.str "number", x, y]
        | _ => .none) ?_ ?_
      · intro d hd F2 G hF2
        obtain ⟨w, hw, rfl⟩ := cut_mem d hd
        exact ⟨rfl, by show 3 ≤ sizeLine; decide, hF2⟩
      refine ⟨?_, ?_⟩
      · rw [List.length_map]
        have z : (cutD ((uf (counts rs) 0).map pD) (some (-2)) none).length ≤ 3000 := cut_len
        exact Nat.le_trans (Nat.add_le_add l2 z) (by decide)
      refine hF _ ⟨_, join g2' fun v m => ?_, ?_, rfl⟩
      · obtain ⟨d, hd, rfl⟩ := List.mem_map.mp m
        obtain ⟨w, hw, rfl⟩ := cut_mem d hd
        have z := uf_small hc hw
        exact t3 a_number z.1 z.2
      · rw [List.length_append, List.length_map]
        have z : (cutD ((uf (counts rs) 0).map pD) (some (-2)) none).length ≤ 3000 := cut_len
        exact Nat.le_trans (Nat.add_le_add l2 z) (by decide)
    rintro _ ⟨v3, g3', l3, rfl⟩
    refine seq_split (fun Γ' => ∃ vs, (∀ v ∈ vs, Gd v) ∧ Γ' = [.scr ns, .src a c, .va lap, .va (rD (p, q, s)), .va (rowsD rs), .va (.list ((uf (counts rs) 0).map pD)), .va o, .va (.list vs), x8, .va (.int p), .va (.int q), .va (.int s), .va (.list ((counts rs).map .int)), .va (.str (rowsD rs).shown), .va (.tuple (toldL (uf (counts rs) 0))), .va (.int n), x16, x17, .un, .un, .un]) (fun F hF => ?_) ?_
    · refine ⟨by show 3 ≤ sizeLine; decide, by show 1 ≤ sizeLine; decide, by show 3 ≤ sizeLine; decide, by show 3 ≤ sizeLine; decide, by show 5 ≤ sizeLine; decide, by show _ + 5 ≤ sizeLine; omega, ?_⟩
      refine hF _ ⟨_, join g3' fun v m => ?_, rfl⟩
      simp only [List.mem_cons, List.not_mem_nil, or_false] at m
      rcases m with rfl | rfl | rfl | rfl | rfl
      · exact .one a_parts
      · exact t3 a_number an three
      · exact t1 (.str _ (by simp))
      · exact t3 a_number an oneA
      · exact t3 ao an two
    rintro _ ⟨v4, g4', rfl⟩
    -- each value
    refine seq_split (fun Γ' => ∃ y8 y16 y17, Γ' = [.scr ns, .src a c, .va lap, .va (rD (p, q, s)), .va (rowsD rs), .va (.list ((uf (counts rs) 0).map pD)), .va o, .va (.list v4), y8, .va (.int p), .va (.int q), .va (.int s), .va (.list ((counts rs).map .int)), .va (.str (rowsD rs).shown), .va (.tuple (toldL (uf (counts rs) 0))), .va (.int n), y16, y17, .un, .un, .un]) (fun F hF => ?_) ?_
    · refine forL_by (fun _ Γ' => ∃ y8 y16 y17, Γ' = [.scr ns, .src a c, .va lap, .va (rD (p, q, s)), .va (rowsD rs), .va (.list ((uf (counts rs) 0).map pD)), .va o, .va (.list v4), y8, .va (.int p), .va (.int q), .va (.int s), .va (.list ((counts rs).map .int)), .va (.str (rowsD rs).shown), .va (.tuple (toldL (uf (counts rs) 0))), .va (.int n), y16, y17, .un, .un, .un]) ⟨_, _, _, rfl⟩ ?_ ?_
      · rintro j v Γ F2 hv ⟨y8, y16, y17, rfl⟩ hF2
        have gv := g4' v (List.mem_of_getElem? hv)
        have fg := fault_gd hc v
        refine seq_split (fun Γ' => Γ' = [.scr ns, .src a c, .va lap, .va (rD (p, q, s)), .va (rowsD rs), .va (.list ((uf (counts rs) 0).map pD)), .va o, .va (.list v4), .va v, .va (.int p), .va (.int q), .va (.int s), .va (.list ((counts rs).map .int)), .va (.str (rowsD rs).shown), .va (.tuple (toldL (uf (counts rs) 0))), .va (.int n), .va (faultOf (counts rs) (parse (counts rs) v)), .va (.str v.shown), .un, .un, .un]) (fun F3 hF3 => ⟨⟨_, v, hc, gv, rfl⟩, fun d e => ?_⟩) ?_
        · obtain rfl := e _ v rfl
          exact ⟨gv.ok, hF3 _ rfl⟩
        rintro _ rfl
        refine seq_split (fun Γ' => Γ' = [.scr ns, .src a c, .va lap, .va (rD (p, q, s)), .va (rowsD rs), .va (.list ((uf (counts rs) 0).map pD)), .va o, .va (.list v4), .va v, .va (.int p), .va (.int q), .va (.int s), .va (.list ((counts rs).map .int)), .va (.str (rowsD rs).shown), .va (.tuple (toldL (uf (counts rs) 0))), .va (.int n), .va (faultOf (counts rs) (parse (counts rs) v)), .va (.str v.shown), .un, .un, .un]) (fun F3 hF3 => ⟨⟨rs, v, hr, gv, rfl⟩, fun d e => ?_⟩) ?_
        · obtain rfl := e rs v rfl
          refine ⟨fg.ok, fg.ok, ne_str (iteBF ⟨gv.ok, ne_str (iteBF ?_)⟩)⟩
          exact hF3 _ rfl
        rintro _ rfl
        cases ef : faultOf (counts rs) (parse (counts rs) v) with
        | none =>
          obtain ⟨w, r, r', rfl, et⟩ := fault_none ef
          refine ⟨.str w, at0, .str w, by rw [et]; exact at0, ne_str (iteBF ?_)⟩
          exact hF2 _ ⟨_, _, _, rfl⟩
        | bool b => exact hF2 _ ⟨_, _, _, rfl⟩
        | int b => exact hF2 _ ⟨_, _, _, rfl⟩
        | str b => exact hF2 _ ⟨_, _, _, rfl⟩
        | list b => exact hF2 _ ⟨_, _, _, rfl⟩
        | tuple b => exact hF2 _ ⟨_, _, _, rfl⟩
        | dict b => exact hF2 _ ⟨_, _, _, rfl⟩
      · rintro Γ ⟨y8, y16, y17, rfl⟩
        exact hF _ ⟨_, _, _, rfl⟩
    rintro _ ⟨y8, y16, y17, rfl⟩
    refine ⟨nm_rows hr, ne_str (iteBF ?_)⟩
    exact hF _ ⟨_, _, _, _, _, _, _, _, _, _, _, _, _, _, _, _, rfl, .inr ⟨_, rfl⟩⟩
  · rintro Γ ⟨x2, x3, x4, x5, x6, x7, x8, x9, x10, x11, x12, x13, x14, x15, x16, x17, rfl, h15⟩
    have hr : RsOk [((5 : Int), (2 : Int), (0 : Int)), (5, 3, 4)] := ⟨by decide, fun r m => by
      simp only [List.mem_cons, List.not_mem_nil, or_false] at m
      rcases m with rfl | rfl <;> exact ⟨by decide, by decide, by decide, by decide, by decide⟩⟩
    have gv : Gd (.tuple [.str "number", .int 0, .int 0]) := .tup (by decide) fun d m => by
      simp only [List.mem_cons, List.not_mem_nil, or_false] at m
      rcases m with rfl | rfl | rfl
      · exact a_number
      · exact a_zero
      · exact a_zero
    refine ⟨by show 3 ≤ sizeLine; decide, by show 3 ≤ sizeLine; decide, by show 2 ≤ sizeLine; decide, by show 3 ≤ sizeLine; decide, ⟨_, _, hr, gv, rfl⟩, fun d e => ?_⟩
    have e := e [((5 : Int), (2 : Int), (0 : Int)), (5, 3, 4)] (.tuple [.str "number", .int 0, .int 0]) rfl
    have hcs : counts [((5 : Int), (2 : Int), (0 : Int)), (5, 3, 4)] = [1, 1, 1, 1, 1] := by decide +kernel
    rw [hcs, parse_num, if_pos (by decide)] at e
    obtain rfl : d = .tuple [.str "many", .int 1] := e
    refine ⟨by show 2 ≤ sizeLine; decide, eqA (by decide +kernel) (by decide +kernel) ?_⟩
    have ev : PyData.eqv (.tuple [.str "many", .int 1]) (.tuple [.str "many", .int 1]) = true := by decide +kernel
    rw [ev]
end K40
set_option Elab.async false
set_option linter.all false
set_option maxRecDepth 100000
set_option maxHeartbeats 4000000
/-! The walks. -/
namespace K40
open PySem L2 DD
def top (i : Nat) : Stmt := PySem.Challenge.pw_mediantrows_k40_part_papers_judged.main.body.getD i (.Pass ⟨0, 0, 0, 0⟩)
/-- what the top leaves of other names -/
structure Mg (mg : Str → Option Value) : Prop where
  ok : True := trivial
  b_abs : mg "abs" = none
  b_all : mg "all" = none
  b_bool : mg "bool" = none
  b_enumerate : mg "enumerate" = none
  b_int : mg "int" = none
  b_isinstance : mg "isinstance" = none
  b_len : mg "len" = none
  b_list : mg "list" = none
  b_range : mg "range" = none
  b_repr : mg "repr" = none
  b_str : mg "str" = none
  b_tuple : mg "tuple" = none
  m_gcd : mg "gcd" = some (.builtin "math.gcd")
section
variable {P : Program} {w : World} {K : PySem.W.Frag} {mg : Str → Option Value} {base : Heap}
abbrev s_is_integer_value : Stmt := top 2
theorem sc_is_integer_value : FnScope N_is_integer_value ["value"] (defScope s_is_integer_value) := ⟨rfl, rfl, rfl, by decide +kernel, rfl, by decide +kernel, by decide +kernel⟩
abbrev s_is_in_floor_row : Stmt := top 4
theorem sc_is_in_floor_row : FnScope N_is_in_floor_row ["row", "n"] (defScope s_is_in_floor_row) := ⟨rfl, rfl, rfl, by decide +kernel, rfl, by decide +kernel, by decide +kernel⟩
abbrev s_floor_period : Stmt := top 6
theorem sc_floor_period : FnScope N_floor_period ["rows"] (defScope s_floor_period) := ⟨rfl, rfl, rfl, by decide +kernel, rfl, by decide +kernel, by decide +kernel⟩
abbrev s_rows_with : Stmt := top 7
theorem sc_rows_with : FnScope N_rows_with ["rows", "n"] (defScope s_rows_with) := ⟨rfl, rfl, rfl, by decide +kernel, rfl, by decide +kernel, by decide +kernel⟩
abbrev s_first_unfit : Stmt := top 8
theorem sc_first_unfit : FnScope N_first_unfit ["rows"] (defScope s_first_unfit) := ⟨rfl, rfl, rfl, by decide +kernel, rfl, by decide +kernel, by decide +kernel⟩
abbrev s_part_paper : Stmt := top 10
theorem sc_part_paper : FnScope N_part_paper ["rows"] (defScope s_part_paper) := ⟨rfl, rfl, rfl, by decide +kernel, rfl, by decide +kernel, by decide +kernel⟩
abbrev s_is_part_form : Stmt := top 11
theorem sc_is_part_form : FnScope N_is_part_form ["rows", "value"] (defScope s_is_part_form) := ⟨rfl, rfl, rfl, by decide +kernel, rfl, by decide +kernel, by decide +kernel⟩
abbrev s_judge_parts_of : Stmt := top 12
theorem sc_judge_parts_of : FnScope N_judge_parts_of ["rows", "value"] (defScope s_judge_parts_of) := ⟨rfl, rfl, rfl, by decide +kernel, rfl, by decide +kernel, by decide +kernel⟩
abbrev s__law_source : Stmt := top 14
abbrev s__law_pick : Stmt := top 15
abbrev s__law_of : Stmt := top 16
theorem sc__law_of : FnScope N__law_of ["source", "some"] (defScope s__law_of) := ⟨rfl, rfl, rfl, by decide +kernel, rfl, by decide +kernel, by decide +kernel⟩
abbrev s__law_gcd : Stmt := top 17
theorem sc__law_gcd : FnScope N__law_gcd ["a", "b"] (defScope s__law_gcd) := ⟨rfl, rfl, rfl, by decide +kernel, rfl, by decide +kernel, by decide +kernel⟩
abbrev s__law_row : Stmt := top 18
theorem sc__law_row : FnScope N__law_row ["source", "most"] (defScope s__law_row) := ⟨rfl, rfl, rfl, by decide +kernel, rfl, by decide +kernel, by decide +kernel⟩
abbrev s__law_floor : Stmt := top 19
theorem sc__law_floor : FnScope N__law_floor ["row", "k"] (defScope s__law_floor) := ⟨rfl, rfl, rfl, by decide +kernel, rfl, by decide +kernel, by decide +kernel⟩
abbrev s__law_members : Stmt := top 20
theorem sc__law_members : FnScope N__law_members ["row", "low", "high"] (defScope s__law_members) := ⟨rfl, rfl, rfl, by decide +kernel, rfl, by decide +kernel, by decide +kernel⟩
abbrev s__law_counts : Stmt := top 21
theorem sc__law_counts : FnScope N__law_counts ["rows"] (defScope s__law_counts) := ⟨rfl, rfl, rfl, by decide +kernel, rfl, by decide +kernel, by decide +kernel⟩
abbrev s__law_fault : Stmt := top 22
theorem sc__law_fault : FnScope N__law_fault ["counts", "value"] (defScope s__law_fault) := ⟨rfl, rfl, rfl, by decide +kernel, rfl, by decide +kernel, by decide +kernel⟩
abbrev s_law : Stmt := top 23
theorem sc_law : FnScope N_law ["script"] (defScope s_law) := ⟨rfl, rfl, rfl, by decide +kernel, rfl, by decide +kernel, by decide +kernel⟩
abbrev N__law_source : List Str := ["script", "stirred", "cell", "cells"]
theorem sc__law_source : FnScope N__law_source ["script"] (defScope s__law_source) := ⟨rfl, rfl, rfl, by decide +kernel, rfl, by decide +kernel, by decide +kernel⟩
theorem h__law_source {f : Addr} {fd : FuncData} (F : Fun K "_law_source" "_law_source" s__law_source f fd) (m_int : mg "int" = none) (m_abs : mg "abs" = none) : FnG P w K mg base 1 f fd ["script"] (spN K) := by
  refine fun_okG F sc__law_source (fun vs H Q E h => ?_) (fun cdv A outer s H vs Q E hG hr h => ?_)
  · obtain ⟨a, ns, rfl, _⟩ := h
    rfl
  obtain ⟨a, ns, rfl, hS, h63, q⟩ := h
  refine ⟨_, pss_cons (ps_set (i := 1) sc__law_source.nd rfl (Or.inl rfl) pe_int)
    (pss_cons (ps_for PassesOwn.never rfl (pi_list (pv 0)) (pg_name (i := 2) sc__law_source.nd rfl (Or.inl rfl))
      (pss_one (ps_set (i := 1) sc__law_source.nd rfl (Or.inl rfl) (pe_op op_modN (pe_callTy call_int1 (by rfl) m_int bt_int (pa_cons (pe_op op_add (pe_op op_add (pe_op op_mul (pv 1) pe_int) (pe_op op_mul (pv 2) pe_int)) pe_int) pa_nil)) pe_int))))
    (pss_cons (ps_setLc (i := 3) (own := [("cell", 2)]) (g := gName 2) (tt := tYes) rfl sc__law_source.nd rfl rfl (sw_true rfl rfl rfl (by decide +kernel)) (pi_list (pv 0)) (blkOk_by (N := N__law_source) (sc := defScope s__law_source) (by decide +kernel))
        (fun _ _ _ _ _ => pg_name (i := 2) sc__law_source.nd rfl (Or.inl rfl)) (fun _ _ _ _ _ => pts_nil) (fun _ _ _ _ _ => pe_callB call_abs (by rfl) m_abs bt_abs (pa_cons (pv 2) pa_nil)))
    (pss_one (ps_ret (pe_disp (pps_cons pe_str (pe_revL (pv 3))
      (pps_cons pe_str pe_int (pps_cons pe_str (pv 1) (pps_cons pe_str pe_int pps_nil)))) (by rfl) (by rfl) (fun z => by cases z) (by decide)))))), ?_⟩
  refine ⟨_, rfl, a, rfl, ⟨_, hS⟩, for_list (K := K) (a := a) (xs := ns.map V.int) (fun i σ H2 => ∃ (m : Int) (v : Option V), σ = [some (.ref a), some (.int m), v, none] ∧ H2 = H) ⟨11, none, rfl, rfl⟩ (fun i σ H2 _ ⟨_, _, _, e⟩ => by rw [e]; exact hS) ?_ ?_⟩
  · rintro i y σ H2 hi ⟨m, v, rfl, rfl⟩
    obtain ⟨z, hz, rfl⟩ := int_of_get hi
    refine ⟨_, rfl, _, _, rfl, rfl, .inr ⟨by decide, by decide⟩, _, rfl, _, _, rfl, rfl, .inr ⟨by decide, by decide⟩, _, _, rfl, rfl, _, _, rfl, rfl, .inl ⟨_, rfl, ?_⟩⟩
    exact ⟨_, _, rfl, rfl, (show (2147483629 : Int) ≠ 0 by decide), _, _, rfl, rfl⟩
  · rintro σ H2 ⟨m, v, rfl, rfl⟩
    refine ⟨_, rfl, a, rfl, ⟨_, hS⟩, fun D hD => lc_list (K := K) (a := a) (xs := ns.map V.int) (fun i H3 => ∃ acc : List Int, acc.length ≤ i ∧ H3 = upd H2 D (.lst (acc.map V.int))) ⟨[], Nat.le_refl _, rfl⟩ ?_ ?_ ?_⟩
    · rintro i H3 _ ⟨acc, _, rfl⟩
      exact (same_new hD _).seq hS
    · rintro i y H3 hi ⟨acc, hl, rfl⟩
      obtain ⟨z, hz, rfl⟩ := int_of_get hi
      have hlt : i < ns.length := (List.getElem?_eq_some_iff.mp hz).1
      refine ⟨rfl, _, rfl, _, rfl, _, upd_same, small1000 (by rw [List.length_map]; omega), acc ++ [if z < 0 then -z else z], by rw [List.length_append]; exact Nat.succ_le_succ hl, ?_⟩
      rw [upd_upd, List.map_append]
      rfl
    · rintro H3 ⟨acc, hl, rfl⟩
      intro d hd
      have hdD : d ≠ D := fun z => by subst z; rw [upd_same] at hd; cases hd
      have hd0 : H2 d = none := by rw [upd_ne hdD] at hd; exact hd
      refine ⟨_, rfl, D, acc.map V.int, rfl, SqL.of (by rw [upd_ne hdD.symm, upd_same]), fun c hc => ?_⟩
      have hcd : c ≠ d := fun z => by subst z; rw [upd_same] at hc; cases hc
      have hcD : c ≠ D := fun z => by subst z; rw [upd_ne hcd, upd_same] at hc; cases hc
      have hc0 : H2 c = none := by rw [upd_ne hcd, upd_ne hcD] at hc; exact hc
      refine ⟨_, rfl, by rw [upd_ne hcd.symm, upd_same], srcKv c 1 m 0, rfl, by show 4 ≤ 15; decide, ?_⟩
      rw [src_merge]
      refine q d c _ (fun b o h => ?_) ⟨acc.reverse, 1, m, 0, upd_same, ?_⟩ hd0 hc0
      · rw [upd_ne (ne_of_none h hd0), upd_ne (ne_of_none h hc0), upd_ne (ne_of_none h hd0), upd_ne (ne_of_none h hD)]; exact h
      · rw [upd_ne hcd, upd_same, List.map_reverse]
abbrev N__law_pick : List Str := ["source", "most", "cells", "others", "lap", "stirred"]
theorem sc__law_pick : FnScope N__law_pick ["source", "most"] (defScope s__law_pick) := ⟨rfl, rfl, rfl, by decide +kernel, rfl, by decide +kernel, by decide +kernel⟩
theorem h__law_pick {f : Addr} {fd : FuncData} (F : Fun K "_law_pick" "_law_pick" s__law_pick f fd) (m_int : mg "int" = none) (m_len : mg "len" = none) : FnG P w K mg base 1 f fd ["source", "most"] (spS K preP postP) := by
  refine fun_okG F sc__law_pick (fun vs H Q E h => ?_) (fun cdv A outer s H vs Q E hG hr h => ?_)
  · obtain ⟨H0, a, c, us, ds, rfl, _, _, _, _, r, p, _⟩ := h
    rw [List.length_cons, r.length]
    match ds, p with
    | [.int n], _ => rfl
  obtain ⟨H0, a, c, us, ds, rfl, e, ha, hc, ⟨cs0, l0, m0, t0, hA, hC⟩, r, p, q⟩ := h
  match ds, p, r, q with
  | [.int n], p, r, q =>
  cases r with
  | cons dv r =>
  cases r
  cases dv
  have hn : n < 2 ^ 64 := p
  have hl : n.natAbs < 2 ^ 64 ∨ n ≤ 1 := by omega
  have S0 : SrcAt H0 H a c cs0 l0 m0 t0 H := ⟨hA, hC, fun b o h _ _ => h⟩
  have fin : ∀ {cs : List Int} {l m t k : Int} {G : Hp}, SrcAt H0 H a c cs l m t G → 0 ≤ k → (k < n ∨ k = 0) → Q (.int k) G := fun {cs l m t k G} S h0 h1 => q (.int k) _ _ _ (show postP [.int n] (.int k) from ⟨h0, h1⟩) (S.fin e ha hc) (.int _)
  have hu := hu_of hr
  refine ⟨_, pss_cons (ps_if (pt_cmpR op_lt (pv 1) pe_int (nomark _)) (pss_one (ps_ret pe_int)) pss_nil)
    (pss_cons (ps_set (i := 2) sc__law_pick.nd rfl (Or.inl rfl) (pe_dget hu (pv 0) pe_str (fun _ _ => rfl)))
    (pss_cons (ps_while PassesOwn.never (PW.pt (pw_and (pt_cmpR op_lt (pe_dget hu (pv 0) pe_str (fun _ _ => rfl)) pe_int (nomark _)) (pw_and1 (pt_cmpR op_gt (pe_callB call_len_seq (by rfl) m_len bt_len (pa_cons (pv 2) pa_nil)) pe_int (nomark _)))))
      (pss_one (ps_dput hu (pv 0) pe_str (pe_bm0 PySem.F.plainAttrs_list PySem.F.slot_list_pop PySem.F.type_list_pop mt_pop (pv 2)) (by rfl))))
    (pss_cons (ps_set (i := 3) sc__law_pick.nd rfl (Or.inl rfl) (pe_dget hu (pv 0) pe_str (fun _ _ => rfl)))
    (pss_cons (ps_if (pt_cmpR op_gt (pv 3) pe_int (nomark _))
      (pss_cons (ps_dput hu (pv 0) pe_str (pe_op op_fdivW (pv 3) (pv 1)) (by rfl))
        (pss_one (ps_ret (pe_op op_modN (pe_callTy call_int1 (by rfl) m_int bt_int (pa_cons (pv 3) pa_nil)) (pv 1))))) pss_nil)
    (pss_cons (ps_dput hu (pv 0) pe_str (pe_op op_add (pe_dget hu (pv 0) pe_str (fun _ _ => rfl)) pe_int) (by rfl))
    (pss_cons (ps_set (i := 4) sc__law_pick.nd rfl (Or.inl rfl) (pe_dget hu (pv 0) pe_str (fun _ _ => rfl)))
    (pss_cons (ps_set (i := 5) sc__law_pick.nd rfl (Or.inl rfl) (pe_op op_modN (pe_callTy call_int1 (by rfl) m_int bt_int (pa_cons (pe_op op_add (pe_dget hu (pv 0) pe_str (fun _ _ => rfl)) (pe_op op_mul (pv 4) pe_int)) pa_nil)) pe_int))
    (pss_cons (ps_set (i := 5) sc__law_pick.nd rfl (Or.inl rfl) (pe_op op_modN (pe_callTy call_int1 (by rfl) m_int bt_int (pa_cons (pe_op op_add (pe_op op_mul (pv 5) (pv 5)) (pe_op op_mul (pv 4) pe_int)) pa_nil)) pe_int))
    (pss_one (ps_ret (pe_op op_modN (pe_callTy call_int1 (by rfl) m_int bt_int (pa_cons (pe_op op_fdivN (pv 5) pe_int) pa_nil)) (pv 1)))))))))))), ?_⟩
  refine ⟨_, rfl, _, _, rfl, rfl, _, rfl, ?_⟩
  by_cases h1 : n < 2
  · refine iteDT h1 ?_
    exact fin S0 (by decide) (.inr rfl)
  refine iteDF h1 ?_
  have big : CDivW 0 n := ⟨by omega, by
    have : n.natAbs < 2 ^ 64 := by omega
    have := (Nat.log2_lt (n := n.natAbs) (k := 64) (by omega)).mpr this
    omega⟩
  have small : ∀ x : Int, 0 ≤ x.fmod n ∧ x.fmod n < n := fun x => fmod_fits (by omega)
  refine ⟨_, rfl, a, _, rfl, S0.gC, ?_⟩
  refine tSeq_while (fun k σ G => ∃ cs l m t, σ = [some (.ref a), some (.int n), some (.ref c), none, none, none] ∧ SrcAt H0 H a c cs l m t G ∧ k = cs.length) ⟨_, cs0, l0, m0, t0, rfl, S0, rfl⟩ ?_ ?_
  · rintro σ G ⟨_, cs, l, m, t, rfl, S, rfl⟩
    refine ⟨_, rfl, a, _, rfl, S.gL, _, rfl, _, _, rfl, rfl, _, rfl, ?_⟩
    by_cases h2 : (1 : Int) < l
    · refine iteDT h2 ?_
      refine ⟨_, rfl, _, rfl, _, _, rfl, rfl, big, _, rfl, a, _, rfl, S.pL, ?_⟩
      exact ⟨_, rfl, .inl ⟨_, rfl, _, rfl, _, _, rfl, rfl, (by omega), fin S.setD (small _).1 (.inl (small _).2)⟩⟩
    · refine iteDF h2 ?_
      refine ⟨_, rfl, a, _, rfl, S.gT, _, _, rfl, rfl, _, rfl, a, _, rfl, S.pT, ?_⟩
      have S1 := S.setD (l' := l) (m' := m) (t' := t + 1)
      refine ⟨_, rfl, a, _, rfl, S1.gT, ?_⟩
      refine ⟨_, rfl, a, _, rfl, S1.gM, _, rfl, _, _, rfl, rfl, .inr ⟨by decide, by decide⟩, _, _, rfl, rfl, .inl ⟨_, rfl, ?_⟩⟩
      have f1 := fmod_fits (a := m + (t + 1) * 104729) (j := 998244353) (by decide)
      refine ⟨_, _, rfl, rfl, (show (998244353 : Int) ≠ 0 by decide), ?_⟩
      refine ⟨_, rfl, _, rfl, _, _, rfl, rfl, .inl ⟨by omega, by omega⟩, _, rfl, _, _, rfl, rfl, .inr ⟨by decide, by decide⟩, _, _, rfl, rfl, .inl ⟨_, rfl, ?_⟩⟩
      refine ⟨_, _, rfl, rfl, (show (2147483647 : Int) ≠ 0 by decide), ?_⟩
      refine ⟨_, rfl, _, _, rfl, rfl, ⟨by decide, by decide⟩, .inl ⟨_, rfl, _, rfl, _, _, rfl, rfl, (by omega), ?_⟩⟩
      exact fin S1 (small _).1 (.inl (small _).2)
  · rintro after _ σ G ⟨cs, l, m, t, rfl, S, rfl⟩
    refine ⟨_, rfl, a, _, rfl, S.gL, _, _, rfl, rfl, _, rfl, ?_⟩
    by_cases h2 : l < 2
    · refine iteDT h2 ?_
      refine ⟨_, rfl, c, _, rfl, .inl (SqL.of S.q), _, _, rfl, rfl, _, rfl, ?_⟩
      by_cases h3 : (0 : Int) < (cs.map V.int).length
      · refine iteDT h3 ?_
        have h4 : 0 < cs.length := by rw [List.length_map] at h3; omega
        obtain ⟨y, hy, hd⟩ := S.popAt h4
        refine ⟨fun σ' G' => ∃ m', m' < cs.length ∧ ∃ cs l m t, σ' = [some (.ref a), some (.int n), some (.ref c), none, none, none] ∧ SrcAt H0 H a c cs l m t G' ∧ m' = cs.length, fun _ _ z => z, ?_⟩
        refine ⟨_, rfl, .inl ⟨rfl, _, SqL.of S.q⟩, c, _, _, rfl, rfl, S.q, hy, ?_⟩
        rw [hd]
        have S1 := S.setC (cs' := cs.dropLast)
        refine ⟨_, rfl, a, _, rfl, S1.pL, cs.dropLast.length, by rw [List.length_dropLast]; omega, cs.dropLast, y, m, t, rfl, S1.setD, rfl⟩
      · exact iteDF h3 (after _ _ ⟨_, cs, l, m, t, rfl, S, rfl⟩)
    · exact iteDF h2 (iteBF (after _ _ ⟨_, cs, l, m, t, rfl, S, rfl⟩))

theorem d_is_integer_value {f : Addr} {fd : FuncData} (F : Fun K "is_integer_value" "is_integer_value" s_is_integer_value f fd) (M : Mg mg)  : FnG P w K mg base 1 f fd ["value"] (spD K pre_is_integer_value post_is_integer_value) := by
  refine fn_D (N := N_is_integer_value) (td := p_is_integer_value) F sc_is_integer_value l_is_integer_value (fun cdv A outer s H E hG hr => ?_) v_is_integer_value
  exact ⟨_, (dss_one (ds_ret (de_and (de_isi isiOk_int (by rfl) M.b_isinstance (by rfl) M.b_int bt_int (de_v 0)) (de_one (de_not (de_isi isiOk_bool (by rfl) M.b_isinstance (by rfl) M.b_bool bt_bool (de_v 0)))))))⟩
theorem d_is_in_floor_row {f : Addr} {fd : FuncData} (F : Fun K "is_in_floor_row" "is_in_floor_row" s_is_in_floor_row f fd) (M : Mg mg)  : FnG P w K mg base 1 f fd ["row", "n"] (spD K pre_is_in_floor_row post_is_in_floor_row) := by
  refine fn_D (N := N_is_in_floor_row) (td := p_is_in_floor_row) F sc_is_in_floor_row l_is_in_floor_row (fun cdv A outer s H E hG hr => ?_) v_is_in_floor_row
  exact ⟨_, (dss_cons (ds_asg (ts := [2, 3, 4]) (de_v 0) (dg_tup rfl (dgs_cons (dg_name sc_is_in_floor_row.nd rfl (Or.inl rfl) (Or.inl rfl)) (dgs_cons (dg_name sc_is_in_floor_row.nd rfl (Or.inl rfl) (Or.inl rfl)) (dgs_cons (dg_name sc_is_in_floor_row.nd rfl (Or.inl rfl) (Or.inl rfl)) dgs_nil)))))
    (dss_one (ds_ret (de_cmp od_lt rd_lt (DE.bo (de_op op_modN rd_mod (DE.bo (de_op op_sub rd_sub (db_v 4) (DE.bo (de_op od_mul rd_mul (db_v 3) (db_v 1))))) (db_v 2))) (db_v 3) (nomark _)))))⟩
theorem d_floor_period {f : Addr} {fd : FuncData} (F : Fun K "floor_period" "floor_period" s_floor_period f fd) (M : Mg mg)  : FnG P w K mg base 1 f fd ["rows"] (spD K pre_floor_period post_floor_period) := by
  refine fn_D (N := N_floor_period) (td := p_floor_period) F sc_floor_period l_floor_period (fun cdv A outer s H E hG hr => ?_) v_floor_period
  exact ⟨_, (dss_cons (ds_set sc_floor_period.nd rfl (Or.inl rfl) de_int (Or.inl rfl))
    (dss_cons (ds_for (ts := [2]) PassesOwn.never rfl (di_any (de_v 0)) (dg_name sc_floor_period.nd rfl (Or.inl rfl) (Or.inl rfl)) (dss_one (ds_set sc_floor_period.nd rfl (Or.inl rfl) (de_op od_mul rd_mul (DE.bo (de_op od_fdiv rd_fdiv (db_v 1) (DE.bo (de_gcd (by rfl) M.m_gcd (dab_cons (db_v 1) (dab_cons (DE.bo (de_ix (db_v 2) (DE.bo de_int) (fun _ _ => rfl))) dab_nil)))))) (DE.bo (de_ix (db_v 2) (DE.bo de_int) (fun _ _ => rfl)))) (Or.inl rfl))))
    (dss_one (ds_ret (de_v 1)))))⟩
theorem d_rows_with {f : Addr} {fd : FuncData} (F : Fun K "rows_with" "rows_with" s_rows_with f fd) (M : Mg mg) (G_is_in_floor_row : Here P w K mg base 1 "is_in_floor_row" ["row", "n"] (spD K pre_is_in_floor_row post_is_in_floor_row)) : FnG P w K mg base 2 f fd ["rows", "n"] (spD K pre_rows_with post_rows_with) := by
  refine fn_D (N := N_rows_with) (td := p_rows_with) F sc_rows_with l_rows_with (fun cdv A outer s H E hG hr => ?_) v_rows_with
  exact ⟨_, (dss_one (ds_ret (de_cB cd_len rd_len (by rfl) M.b_len bt_len (dab_cons (DE.bo (DL.val (dl_lc2 (own := [("row", 2)]) rfl sc_rows_with.nd (di_any (de_v 0)) (blkOk_by (N := N_rows_with) (sc := defScope s_rows_with) (by decide +kernel)) (dg_name sc_rows_with.nd rfl (Or.inl rfl) (Or.inr rfl)) (dts_one (dt_val (dc_fn G_is_in_floor_row (hr.mono (by decide)) hG (by rfl) (da_cons (de_v 2) (da_cons (de_v 1) da_nil))))) (de_v 2) (fun _ _ _ _ _ => by exact (dg_name sc_rows_with.nd rfl (Or.inl rfl) (Or.inr rfl))) (fun _ _ _ _ _ => by exact (dts_one (dt_val (dc_fn G_is_in_floor_row (hr.mono (by decide)) hG (by rfl) (da_cons (de_v 2) (da_cons (de_v 1) da_nil)))))) (fun _ _ _ _ _ => by exact (de_v 2))))) dab_nil))))⟩
theorem d_first_unfit {f : Addr} {fd : FuncData} (F : Fun K "first_unfit" "first_unfit" s_first_unfit f fd) (M : Mg mg) (G_floor_period : Here P w K mg base 1 "floor_period" ["rows"] (spD K pre_floor_period post_floor_period)) (G_rows_with : Here P w K mg base 2 "rows_with" ["rows", "n"] (spD K pre_rows_with post_rows_with)) : FnG P w K mg base 3 f fd ["rows"] (spD K pre_first_unfit post_first_unfit) := by
  refine fn_D (N := N_first_unfit) (td := p_first_unfit) F sc_first_unfit l_first_unfit (fun cdv A outer s H E hG hr => ?_) v_first_unfit
  exact ⟨_, (dss_cons (ds_for (ts := [1]) PassesOwn.never rfl (di_rng1 (by rfl) M.b_range (da_cons (dc_fn G_floor_period (hr.mono (by decide)) hG (by rfl) (da_cons (de_v 0) da_nil)) da_nil)) (dg_name sc_first_unfit.nd rfl (Or.inl rfl) (Or.inl rfl)) (dss_cons (ds_set sc_first_unfit.nd rfl (Or.inl rfl) (dc_fn G_rows_with (hr.mono (by decide)) hG (by rfl) (da_cons (de_v 0) (da_cons (de_v 1) da_nil))) (Or.inl rfl))
    (dss_one (ds_if (dt_cmp (od_ne hr.units) rd_ne (db_v 2) (DE.bo de_int) (nomark _)) (dss_one (ds_ret (de_tup (da_cons (de_v 1) (da_cons (de_v 2) da_nil))))) dss_nil))))
    (dss_one (ds_ret de_non)))⟩
theorem d_part_paper {f : Addr} {fd : FuncData} (F : Fun K "part_paper" "part_paper" s_part_paper f fd) (M : Mg mg) (G_first_unfit : Here P w K mg base 3 "first_unfit" ["rows"] (spD K pre_first_unfit post_first_unfit)) : FnG P w K mg base 4 f fd ["rows"] (spD K pre_part_paper post_part_paper) := by
  refine fn_D (N := N_part_paper) (td := p_part_paper) F sc_part_paper l_part_paper (fun cdv A outer s H E hG hr => ?_) v_part_paper
  exact ⟨_, (dss_cons (ds_set sc_part_paper.nd rfl (Or.inl rfl) (dc_fn G_first_unfit (hr.mono (by decide)) hG (by rfl) (da_cons (de_v 0) da_nil)) (Or.inl rfl))
    (dss_cons (ds_if (dt_cmp op_isN rd_isN (db_v 1) (DE.bo de_non) (nomark _)) (dss_one (ds_ret (de_tup (da_cons de_str da_nil)))) dss_nil)
    (dss_one (ds_ret (de_tup (da_cons de_str (da_star (de_v 1) da_nil)))))))⟩
theorem d_is_part_form {f : Addr} {fd : FuncData} (F : Fun K "is_part_form" "is_part_form" s_is_part_form f fd) (M : Mg mg) (G_floor_period : Here P w K mg base 1 "floor_period" ["rows"] (spD K pre_floor_period post_floor_period)) (G_is_integer_value : Here P w K mg base 1 "is_integer_value" ["value"] (spD K pre_is_integer_value post_is_integer_value)) : FnG P w K mg base 2 f fd ["rows", "value"] (spD K pre_is_part_form post_is_part_form) := by
  refine fn_D (N := N_is_part_form) (td := p_is_part_form) F sc_is_part_form l_is_part_form (fun cdv A outer s H E hG hr => ?_) v_is_part_form
  exact ⟨_, (dss_cons (ds_if (DW.t (dw_or (dt_not (dt_val (de_isi isiOk_tuple (by rfl) M.b_isinstance (by rfl) M.b_tuple bt_tuple (de_v 1)))) (dw_or (dt_cmp (od_eq hr.units) rd_eq (db_v 1) (DE.bo (de_tup da_nil)) (nomark _)) (dw_or1 (dt_not (dt_val (de_isi isiOk_str (by rfl) M.b_isinstance (by rfl) M.b_str bt_str (de_ix (db_v 1) (DE.bo de_int) (fun _ _ => rfl))))))))) (dss_one (ds_ret de_bl)) dss_nil)
    (dss_cons (ds_if (dt_cmp (od_eq hr.units) rd_eq (DE.bo (de_ix (db_v 1) (DE.bo de_int) (fun _ _ => rfl))) (DE.bo de_str) (nomark _)) (dss_one (ds_ret (de_cmp (od_eq hr.units) rd_eq (DE.bo (de_cB cd_len rd_len (by rfl) M.b_len bt_len (dab_cons (db_v 1) dab_nil))) (DE.bo de_int) (nomark _)))) dss_nil)
    (dss_cons (ds_if (DW.t (dw_or (dt_cmp (od_ne hr.units) rd_ne (DE.bo (de_ix (db_v 1) (DE.bo de_int) (fun _ _ => rfl))) (DE.bo de_str) (nomark _)) (dw_or (dt_cmp (od_ne hr.units) rd_ne (DE.bo (de_cB cd_len rd_len (by rfl) M.b_len bt_len (dab_cons (db_v 1) dab_nil))) (DE.bo de_int) (nomark _)) (dw_or1 (dt_not (dt_val (de_cB (cr_all rfl) rd_all (by rfl) M.b_all bt_all (dab_cons (DE.bo (DL.val (dl_lc2 (own := [("one", 2)]) rfl sc_is_part_form.nd (di_any (de_sl (db_v 1) (do_some de_int) do_none)) (blkOk_by (N := N_is_part_form) (sc := defScope s_is_part_form) (by decide +kernel)) (dg_name sc_is_part_form.nd rfl (Or.inl rfl) (Or.inr rfl)) dts_nil (dc_fn G_is_integer_value (hr.mono (by decide)) hG (by rfl) (da_cons (de_v 2) da_nil)) (fun _ _ _ _ _ => by exact (dg_name sc_is_part_form.nd rfl (Or.inl rfl) (Or.inr rfl))) (fun _ _ _ _ _ => by exact dts_nil) (fun _ _ _ _ _ => by exact (dc_fn G_is_integer_value (hr.mono (by decide)) hG (by rfl) (da_cons (de_v 2) da_nil)))))) dab_nil)))))))) (dss_one (ds_ret de_bl)) dss_nil)
    (dss_one (ds_ret (de_and (de_chain op_le rd_ii od_lt rd_lt de_int (de_ix (db_v 1) (DE.bo de_int) (fun _ _ => rfl)) (dc_fn G_floor_period (hr.mono (by decide)) hG (by rfl) (da_cons (de_v 0) da_nil))) (de_and (de_cmp op_ge rd_ii (DE.bo (de_ix (db_v 1) (DE.bo de_int) (fun _ _ => rfl))) (DE.bo de_int) (nomark _)) (de_one (de_cmp (od_ne hr.units) rd_ne (DE.bo (de_ix (db_v 1) (DE.bo de_int) (fun _ _ => rfl))) (DE.bo de_int) (nomark _))))))))))⟩
theorem d_judge_parts_of {f : Addr} {fd : FuncData} (F : Fun K "judge_parts_of" "judge_parts_of" s_judge_parts_of f fd) (M : Mg mg) (G_rows_with : Here P w K mg base 2 "rows_with" ["rows", "n"] (spD K pre_rows_with post_rows_with)) (G_is_part_form : Here P w K mg base 2 "is_part_form" ["rows", "value"] (spD K pre_is_part_form post_is_part_form)) (G_part_paper : Here P w K mg base 4 "part_paper" ["rows"] (spD K pre_part_paper post_part_paper)) : FnG P w K mg base 5 f fd ["rows", "value"] (spD K pre_judge_parts_of post_judge_parts_of) := by
  refine fn_D (N := N_judge_parts_of) (td := p_judge_parts_of) F sc_judge_parts_of l_judge_parts_of (fun cdv A outer s H E hG hr => ?_) v_judge_parts_of
  exact ⟨_, (dss_cons (ds_if (dt_not (dt_val (dc_fn G_is_part_form (hr.mono (by decide)) hG (by rfl) (da_cons (de_v 0) (da_cons (de_v 1) da_nil))))) (dss_one (ds_ret (de_tup (da_cons de_str da_nil)))) dss_nil)
    (dss_cons (ds_if (dt_cmp (od_eq hr.units) rd_eq (DE.bo (de_ix (db_v 1) (DE.bo de_int) (fun _ _ => rfl))) (DE.bo de_str) (nomark _)) (dss_cons (ds_set sc_judge_parts_of.nd rfl (Or.inl rfl) (dc_fn G_part_paper (hr.mono (by decide)) hG (by rfl) (da_cons (de_v 0) da_nil)) (Or.inl rfl))
    (dss_one (ds_ret (de_if (dt_cmp (od_ne hr.units) rd_ne (db_v 2) (db_v 1) (nomark _)) (de_v 2) de_non)))) dss_nil)
    (dss_cons (ds_set sc_judge_parts_of.nd rfl (Or.inl rfl) (dc_fn G_rows_with (hr.mono (by decide)) hG (by rfl) (da_cons (de_v 0) (da_cons (de_ix (db_v 1) (DE.bo de_int) (fun _ _ => rfl)) da_nil))) (Or.inl rfl))
    (dss_one (ds_ret (de_if (dt_cmp (od_ne hr.units) rd_ne (db_v 3) (DE.bo (de_ix (db_v 1) (DE.bo de_int) (fun _ _ => rfl))) (nomark _)) (de_tup (da_cons de_str (da_cons (de_v 3) da_nil))) de_non))))))⟩
theorem d__law_of {f : Addr} {fd : FuncData} (F : Fun K "_law_of" "_law_of" s__law_of f fd) (M : Mg mg) (G__law_pick : Here P w K mg base 1 "_law_pick" ["source", "most"] (spS K preP postP)) : FnG P w K mg base 2 f fd ["source", "some"] (spS K pre__law_of post__law_of) := by
  refine fn_S (N := N__law_of) (td := p__law_of) F sc__law_of l__law_of (fun cdv A outer s H E hG hr => ?_) v__law_of
  exact ⟨_, (dss_one (ds_ret (de_ix (db_v 1) (DE.bo (dc_fnS 0 G__law_pick (hr.mono (by decide)) hG (by rfl) (da_cons (de_cB cd_len rd_len (by rfl) M.b_len bt_len (dab_cons (db_v 1) dab_nil)) da_nil))) (fun _ _ => rfl))))⟩
theorem d__law_gcd {f : Addr} {fd : FuncData} (F : Fun K "_law_gcd" "_law_gcd" s__law_gcd f fd) (M : Mg mg)  : FnG P w K mg base 1 f fd ["a", "b"] (spD K pre__law_gcd post__law_gcd) := by
  refine fn_D (N := N__law_gcd) (td := p__law_gcd) F sc__law_gcd l__law_gcd (fun cdv A outer s H E hG hr => ?_) v__law_gcd
  exact ⟨_, (dss_cons (ds_par2 rfl sc__law_gcd.nd rfl rfl (by decide) rfl rfl (dm_cons (de_cB call_abs rd_abs (by rfl) M.b_abs bt_abs (dab_cons (db_v 0) dab_nil)).f (dm_cons (de_cB call_abs rd_abs (by rfl) M.b_abs bt_abs (dab_cons (db_v 1) dab_nil)).f dm_nil)) rfl)
    (dss_cons (ds_while PassesOwn.never (dt_cmp op_gt rd_ii (db_v 1) (DE.bo de_int) (nomark _)) (dss_one (ds_par2 rfl sc__law_gcd.nd rfl rfl (by decide) rfl rfl (dm_cons (de_v 1).f (dm_cons (de_op op_modN rd_mod (DE.bo (de_cT call_int1 rd_int (by rfl) M.b_int bt_int (dab_cons (db_v 0) dab_nil))) (db_v 1)).f dm_nil)) rfl)))
    (dss_one (ds_ret (de_v 0)))))⟩
theorem d__law_row {f : Addr} {fd : FuncData} (F : Fun K "_law_row" "_law_row" s__law_row f fd) (M : Mg mg) (G__law_pick : Here P w K mg base 1 "_law_pick" ["source", "most"] (spS K preP postP)) (G__law_gcd : Here P w K mg base 1 "_law_gcd" ["a", "b"] (spD K pre__law_gcd post__law_gcd)) : FnG P w K mg base 2 f fd ["source", "most"] (spS K pre__law_row post__law_row) := by
  refine fn_S (N := N__law_row) (td := p__law_row) F sc__law_row l__law_row (fun cdv A outer s H E hG hr => ?_) v__law_row
  exact ⟨_, (dss_cons (ds_set sc__law_row.nd rfl (Or.inr rfl) (de_op od_add rd_add (DE.bo de_int) (DE.bo (dc_fnS 0 G__law_pick (hr.mono (by decide)) hG (by rfl) (da_cons (de_v 1) da_nil)))) (Or.inl rfl))
    (dss_cons (ds_valLc2 (own := [("q", 4)]) rfl sc__law_row.nd rfl rfl (sw_true rfl rfl rfl (by decide +kernel)) (di_rng2 (by rfl) M.b_range (da_cons de_int (da_cons (de_op od_add rd_add (db_v 2) (DE.bo de_int)) da_nil))) (blkOk_by (N := N__law_row) (sc := defScope s__law_row) (by decide +kernel)) (dg_name sc__law_row.nd rfl (Or.inl rfl) (Or.inr rfl)) (dts_one (dt_cmp (od_eq hr.units) rd_eq (DE.bo (dc_fn G__law_gcd (hr.mono (by decide)) hG (by rfl) (da_cons (de_v 2) (da_cons (de_v 4) da_nil)))) (DE.bo de_int) (nomark _))) (de_v 4) (fun _ _ _ _ _ => by exact (dg_name sc__law_row.nd rfl (Or.inl rfl) (Or.inr rfl))) (fun _ _ _ _ _ => by exact (dts_one (dt_cmp (od_eq hr.units) rd_eq (DE.bo (dc_fn G__law_gcd (hr.mono (by decide)) hG (by rfl) (da_cons (de_v 2) (da_cons (de_v 4) da_nil)))) (DE.bo de_int) (nomark _)))) (fun _ _ _ _ _ => by exact (de_v 4)))
    (dss_one (ds_ret (de_tup (da_cons (de_v 2) (da_cons (de_ix (db_v 3) (DE.bo (dc_fnS 0 G__law_pick (hr.mono (by decide)) hG (by rfl) (da_cons (de_cB cd_len rd_len (by rfl) M.b_len bt_len (dab_cons (db_v 3) dab_nil)) da_nil))) (fun _ _ => rfl)) (da_cons (de_op op_sub rd_sub (DE.bo (dc_fnS 0 G__law_pick (hr.mono (by decide)) hG (by rfl) (da_cons de_int da_nil))) (DE.bo de_int)) da_nil))))))))⟩
theorem d__law_floor {f : Addr} {fd : FuncData} (F : Fun K "_law_floor" "_law_floor" s__law_floor f fd) (M : Mg mg)  : FnG P w K mg base 1 f fd ["row", "k"] (spD K pre__law_floor post__law_floor) := by
  refine fn_D (N := N__law_floor) (td := p__law_floor) F sc__law_floor l__law_floor (fun cdv A outer s H E hG hr => ?_) v__law_floor
  exact ⟨_, (dss_one (ds_ret (de_op od_fdiv rd_fdiv (DE.bo (de_op od_add rd_add (DE.bo (de_op od_mul rd_mul (DE.bo (de_ix (db_v 0) (DE.bo de_int) (fun _ _ => rfl))) (db_v 1))) (DE.bo (de_ix (db_v 0) (DE.bo de_int) (fun _ _ => rfl))))) (DE.bo (de_ix (db_v 0) (DE.bo de_int) (fun _ _ => rfl))))))⟩
theorem d__law_members {f : Addr} {fd : FuncData} (F : Fun K "_law_members" "_law_members" s__law_members f fd) (M : Mg mg) (G__law_floor : Here P w K mg base 1 "_law_floor" ["row", "k"] (spD K pre__law_floor post__law_floor)) : FnG P w K mg base 2 f fd ["row", "low", "high"] (spD K pre__law_members post__law_members) := by
  refine fn_D (N := N__law_members) (td := p__law_members) F sc__law_members l__law_members (fun cdv A outer s H E hG hr => ?_) v__law_members
  exact ⟨_, (dss_cons (ds_set sc__law_members.nd rfl (Or.inl rfl) (de_op od_add rd_add (DE.bo (de_op od_add rd_add (DE.bo (de_op od_add rd_add (DE.bo (de_cB call_abs rd_abs (by rfl) M.b_abs bt_abs (dab_cons (db_v 1) dab_nil))) (DE.bo (de_cB call_abs rd_abs (by rfl) M.b_abs bt_abs (dab_cons (db_v 2) dab_nil))))) (DE.bo (de_cB call_abs rd_abs (by rfl) M.b_abs bt_abs (dab_cons (DE.bo (de_ix (db_v 0) (DE.bo de_int) (fun _ _ => rfl))) dab_nil))))) (DE.bo de_int)) (Or.inl rfl))
    (dss_cons (ds_valLc2 (own := [("k", 5)]) rfl sc__law_members.nd rfl rfl (sw_true rfl rfl rfl (by decide +kernel)) (di_rng2 (by rfl) M.b_range (da_cons (de_op op_sub rd_sub (DE.bo de_int) (db_v 3)) (da_cons (de_op od_add rd_add (db_v 3) (DE.bo de_int)) da_nil))) (blkOk_by (N := N__law_members) (sc := defScope s__law_members) (by decide +kernel)) (dg_name sc__law_members.nd rfl (Or.inl rfl) (Or.inr rfl)) dts_nil (dc_fn G__law_floor (hr.mono (by decide)) hG (by rfl) (da_cons (de_v 0) (da_cons (de_v 5) da_nil))) (fun _ _ _ _ _ => by exact (dg_name sc__law_members.nd rfl (Or.inl rfl) (Or.inr rfl))) (fun _ _ _ _ _ => by exact dts_nil) (fun _ _ _ _ _ => by exact (dc_fn G__law_floor (hr.mono (by decide)) hG (by rfl) (da_cons (de_v 0) (da_cons (de_v 5) da_nil)))))
    (dss_one (ds_ret (DL.val (dl_lc2 (own := [("n", 6)]) rfl sc__law_members.nd (di_any (de_v 4)) (blkOk_by (N := N__law_members) (sc := defScope s__law_members) (by decide +kernel)) (dg_name sc__law_members.nd rfl (Or.inl rfl) (Or.inr rfl)) (dts_one (dt_chain op_le rd_ii op_le rd_ii (de_v 1) (de_v 6) (de_v 2))) (de_v 6) (fun _ _ _ _ _ => by exact (dg_name sc__law_members.nd rfl (Or.inl rfl) (Or.inr rfl))) (fun _ _ _ _ _ => by exact (dts_one (dt_chain op_le rd_ii op_le rd_ii (de_v 1) (de_v 6) (de_v 2)))) (fun _ _ _ _ _ => by exact (de_v 6))))))))⟩
theorem d__law_counts {f : Addr} {fd : FuncData} (F : Fun K "_law_counts" "_law_counts" s__law_counts f fd) (M : Mg mg) (G__law_members : Here P w K mg base 2 "_law_members" ["row", "low", "high"] (spD K pre__law_members post__law_members)) (G__law_gcd : Here P w K mg base 1 "_law_gcd" ["a", "b"] (spD K pre__law_gcd post__law_gcd)) : FnG P w K mg base 3 f fd ["rows"] (spD K pre__law_counts post__law_counts) := by
  refine fn_D (N := N__law_counts) (td := p__law_counts) F sc__law_counts l__law_counts (fun cdv A outer s H E hG hr => ?_) v__law_counts
  exact ⟨_, (dss_cons (ds_set sc__law_counts.nd rfl (Or.inl rfl) de_int (Or.inl rfl))
    (dss_cons (ds_for (ts := [2]) PassesOwn.never rfl (di_any (de_v 0)) (dg_name sc__law_counts.nd rfl (Or.inl rfl) (Or.inl rfl)) (dss_one (ds_set sc__law_counts.nd rfl (Or.inl rfl) (de_op od_mul rd_mul (DE.bo (de_op od_fdiv rd_fdiv (db_v 1) (DE.bo (dc_fn G__law_gcd (hr.mono (by decide)) hG (by rfl) (da_cons (de_v 1) (da_cons (de_ix (db_v 2) (DE.bo de_int) (fun _ _ => rfl)) da_nil)))))) (DE.bo (de_ix (db_v 2) (DE.bo de_int) (fun _ _ => rfl)))) (Or.inl rfl))))
    (dss_cons (ds_setL sc__law_counts.nd rfl (Or.inl rfl) (dl_mul (DE.bo (de_lst (da_cons de_int da_nil))) (db_v 1)) (Or.inl rfl))
    (dss_cons (ds_for (ts := [2]) PassesOwn.never rfl (di_any (de_v 0)) (dg_name sc__law_counts.nd rfl (Or.inl rfl) (Or.inl rfl)) (dss_one (ds_for (ts := [4]) PassesOwn.never rfl (di_any (dc_fn G__law_members (hr.mono (by decide)) hG (by rfl) (da_cons (de_v 2) (da_cons de_int (da_cons (de_op op_sub rd_sub (db_v 1) (DE.bo de_int)) da_nil))))) (dg_name sc__law_counts.nd rfl (Or.inl rfl) (Or.inl rfl)) (dss_one (ds_setItem (i := 3) (de_op od_add rd_add (DE.bo (de_ix (db_v 3) (db_v 4) (fun _ _ => rfl))) (DE.bo de_int)) (de_v 4))))))
    (dss_one (ds_retV 3))))))⟩
theorem d__law_fault {f : Addr} {fd : FuncData} (F : Fun K "_law_fault" "_law_fault" s__law_fault f fd) (M : Mg mg)  : FnG P w K mg base 1 f fd ["counts", "value"] (spD K pre__law_fault post__law_fault) := by
  refine fn_D (N := N__law_fault) (td := p__law_fault) F sc__law_fault l__law_fault (fun cdv A outer s H E hG hr => ?_) v__law_fault
  exact ⟨_, (dss_cons (ds_if (DW.t (dw_or (dt_not (dt_val (de_isi isiOk_tuple (by rfl) M.b_isinstance (by rfl) M.b_tuple bt_tuple (de_v 1)))) (dw_or1 (dt_cmp op_notIn_seq (rd_inS (neg := true)) (DE.bo (de_cB (cd_repr hG (ru_of hr)) rd_repr (by rfl) M.b_repr bt_repr (dab_cons (DE.bo (de_sl (db_v 1) do_none (do_some de_int))) dab_nil))) (DE.bo (de_tup (da_cons de_str (da_cons de_str da_nil)))) (by rfl))))) (dss_one (ds_ret (de_tup (da_cons de_str da_nil)))) dss_nil)
    (dss_cons (ds_if (dt_cmp (od_eq hr.units) rd_eq (DE.bo (de_ix (db_v 1) (DE.bo de_int) (fun _ _ => rfl))) (DE.bo de_str) (nomark _)) (dss_cons (ds_valLc2 (own := [("n", 3), ("many", 4)]) rfl sc__law_fault.nd rfl rfl (sw_true rfl rfl rfl (by decide +kernel)) (di_enum (by rfl) M.b_enumerate (da_cons (de_v 0) da_nil)) (blkOk_by (N := N__law_fault) (sc := defScope s__law_fault) (by decide +kernel)) (dg_tup rfl (dgs_cons (dg_name sc__law_fault.nd rfl (Or.inl rfl) (Or.inr rfl)) (dgs_cons (dg_name sc__law_fault.nd rfl (Or.inl rfl) (Or.inr rfl)) dgs_nil))) (dts_one (dt_cmp (od_ne hr.units) rd_ne (db_v 4) (DE.bo de_int) (nomark _))) (de_tup (da_cons (de_v 3) (da_cons (de_v 4) da_nil))) (fun _ _ _ _ _ => by exact (dg_tup rfl (dgs_cons (dg_name sc__law_fault.nd rfl (Or.inl rfl) (Or.inr rfl)) (dgs_cons (dg_name sc__law_fault.nd rfl (Or.inl rfl) (Or.inr rfl)) dgs_nil)))) (fun _ _ _ _ _ => by exact (dts_one (dt_cmp (od_ne hr.units) rd_ne (db_v 4) (DE.bo de_int) (nomark _)))) (fun _ _ _ _ _ => by exact (de_tup (da_cons (de_v 3) (da_cons (de_v 4) da_nil)))))
    (dss_one (ds_ret (de_if (dt_cmp op_gt rd_ii (DE.bo (de_cB cd_len rd_len (by rfl) M.b_len bt_len (dab_cons (db_v 1) dab_nil))) (DE.bo de_int) (nomark _)) (de_tup (da_cons de_str da_nil)) (de_if (dt_cmp (od_ne hr.units) rd_ne (db_v 2) (DE.bo (de_lst da_nil)) (nomark _)) (de_op od_add rd_add (DE.bo (de_tup (da_cons de_str da_nil))) (DE.bo (de_ix (db_v 2) (DE.bo de_int) (fun _ _ => rfl)))) de_non))))) dss_nil)
    (dss_cons (ds_if (DW.t (dw_or (dt_cmp (od_ne hr.units) rd_ne (DE.bo (de_cB cd_len rd_len (by rfl) M.b_len bt_len (dab_cons (db_v 1) dab_nil))) (DE.bo de_int) (nomark _)) (dw_or1 (dt_cmp (od_ne hr.units) rd_ne (DE.bo (DL.val (dl_lc2 (own := [("x", 5)]) rfl sc__law_fault.nd (di_any (de_sl (db_v 1) (do_some de_int) do_none)) (blkOk_by (N := N__law_fault) (sc := defScope s__law_fault) (by decide +kernel)) (dg_name sc__law_fault.nd rfl (Or.inl rfl) (Or.inr rfl)) (dts_one (DW.t (dw_or (dt_not (dt_val (de_isi isiOk_int (by rfl) M.b_isinstance (by rfl) M.b_int bt_int (de_v 5)))) (dw_or1 (dt_val (de_isi isiOk_bool (by rfl) M.b_isinstance (by rfl) M.b_bool bt_bool (de_v 5))))))) (de_v 5) (fun _ _ _ _ _ => by exact (dg_name sc__law_fault.nd rfl (Or.inl rfl) (Or.inr rfl))) (fun _ _ _ _ _ => by exact (dts_one (DW.t (dw_or (dt_not (dt_val (de_isi isiOk_int (by rfl) M.b_isinstance (by rfl) M.b_int bt_int (de_v 5)))) (dw_or1 (dt_val (de_isi isiOk_bool (by rfl) M.b_isinstance (by rfl) M.b_bool bt_bool (de_v 5)))))))) (fun _ _ _ _ _ => by exact (de_v 5))))) (DE.bo (de_lst da_nil)) (nomark _))))) (dss_one (ds_ret (de_tup (da_cons de_str da_nil)))) dss_nil)
    (dss_cons (ds_if (DW.t (dw_or (dt_not (dt_chain op_le rd_ii od_lt rd_lt de_int (de_ix (db_v 1) (DE.bo de_int) (fun _ _ => rfl)) (de_cB cd_len rd_len (by rfl) M.b_len bt_len (dab_cons (db_v 0) dab_nil)))) (dw_or (dt_cmp od_lt rd_lt (DE.bo (de_ix (db_v 1) (DE.bo de_int) (fun _ _ => rfl))) (DE.bo de_int) (nomark _)) (dw_or1 (dt_cmp (od_eq hr.units) rd_eq (DE.bo (de_ix (db_v 1) (DE.bo de_int) (fun _ _ => rfl))) (DE.bo de_int) (nomark _)))))) (dss_one (ds_ret (de_tup (da_cons de_str da_nil)))) dss_nil)
    (dss_one (ds_ret (de_if (dt_cmp (od_ne hr.units) rd_ne (DE.bo (de_ix (db_v 0) (DE.bo (de_ix (db_v 1) (DE.bo de_int) (fun _ _ => rfl))) (fun _ _ => rfl))) (DE.bo (de_ix (db_v 1) (DE.bo de_int) (fun _ _ => rfl))) (nomark _)) (de_tup (da_cons de_str (da_cons (de_ix (db_v 0) (DE.bo (de_ix (db_v 1) (DE.bo de_int) (fun _ _ => rfl))) (fun _ _ => rfl)) da_nil))) de_non)))))))⟩
theorem d_law {f : Addr} {fd : FuncData} (F : Fun K "law" "law" s_law f fd) (M : Mg mg) (G__law_source : Here P w K mg base 1 "_law_source" ["script"] (spN K)) (G__law_row : Here P w K mg base 2 "_law_row" ["source", "most"] (spS K pre__law_row post__law_row)) (G__law_of : Here P w K mg base 2 "_law_of" ["source", "some"] (spS K pre__law_of post__law_of)) (G_judge_parts_of : Here P w K mg base 5 "judge_parts_of" ["rows", "value"] (spD K pre_judge_parts_of post_judge_parts_of)) (G__law_pick : Here P w K mg base 1 "_law_pick" ["source", "most"] (spS K preP postP)) (G__law_counts : Here P w K mg base 3 "_law_counts" ["rows"] (spD K pre__law_counts post__law_counts)) (G_part_paper : Here P w K mg base 4 "part_paper" ["rows"] (spD K pre_part_paper post_part_paper)) (G__law_fault : Here P w K mg base 1 "_law_fault" ["counts", "value"] (spD K pre__law_fault post__law_fault)) : FnG P w K mg base 6 f fd ["script"] (spLaw K) := by
  refine fn_law (N := N_law) (td := p_law) F sc_law rfl (fun cdv A outer s H E hG hr => ?_) v_law
  exact ⟨_, (dss_cons (dc_src (j := 0) (i := 1) G__law_source (hr.mono (by decide)) hG (by rfl) sc_law.nd rfl (Or.inr rfl) (Or.inl rfl))
    (dss_cons (ds_for (ts := [2]) PassesOwn.never rfl (di_rng1 (by rfl) M.b_range (da_cons de_int da_nil)) (dg_name sc_law.nd rfl (Or.inl rfl) (Or.inl rfl)) (dss_cons (ds_set sc_law.nd rfl (Or.inl rfl) (dc_fnS 1 G__law_row (hr.mono (by decide)) hG (by rfl) (da_cons de_int da_nil)) (Or.inl rfl))
    (dss_cons (ds_set sc_law.nd rfl (Or.inl rfl) (de_if (dt_cmp op_gt rd_ii (DE.bo (de_ix (db_v 3) (DE.bo de_int) (fun _ _ => rfl))) (DE.bo (de_ix (db_v 3) (DE.bo de_int) (fun _ _ => rfl))) (nomark _)) (de_v 3) (de_tup (da_cons de_int (da_cons de_int (da_cons (de_ix (db_v 3) (DE.bo de_int) (fun _ _ => rfl)) da_nil))))) (Or.inl rfl))
    (dss_cons (ds_asg (ts := [9, 10, 11]) (de_v 3) (dg_tup rfl (dgs_cons (dg_name sc_law.nd rfl (Or.inl rfl) (Or.inl rfl)) (dgs_cons (dg_name sc_law.nd rfl (Or.inl rfl) (Or.inl rfl)) (dgs_cons (dg_name sc_law.nd rfl (Or.inl rfl) (Or.inl rfl)) dgs_nil)))))
    (dss_cons (ds_set sc_law.nd rfl (Or.inl rfl) (de_tup (da_cons (de_v 3) (da_cons (de_tup (da_cons (de_v 9) (da_cons (de_op op_sub rd_sub (db_v 9) (db_v 10)) (da_cons (de_op od_add rd_add (DE.bo (de_op op_sub rd_sub (DE.bo (de_op op_sub rd_sub (db_v 9) (DE.bo de_int))) (db_v 11))) (DE.bo (de_cT call_int1 rd_int (by rfl) M.b_int bt_int (dab_cons (DE.bo (de_cmp (od_eq hr.units) rd_eq (DE.bo (dc_fnS 1 G__law_pick (hr.mono (by decide)) hG (by rfl) (da_cons de_int da_nil))) (DE.bo de_int) (nomark _))) dab_nil)))) da_nil)))) da_nil))) (Or.inl rfl))
    (dss_cons (ds_if (dt_cmp (od_eq hr.units) rd_eq (DE.bo (dc_fnS 1 G__law_pick (hr.mono (by decide)) hG (by rfl) (da_cons de_int da_nil))) (DE.bo de_int) (nomark _)) (dss_one (ds_set sc_law.nd rfl (Or.inl rfl) (de_cT call_tuple_of rd_tuple (by rfl) M.b_tuple bt_tuple (dab_cons (DE.bo (DL.val (dl_lc2 (own := [("turn", 19)]) rfl sc_law.nd (di_rng1 (by rfl) M.b_range (da_cons (de_op od_add rd_add (DE.bo de_int) (DE.bo (dc_fnS 1 G__law_pick (hr.mono (by decide)) hG (by rfl) (da_cons de_int da_nil)))) da_nil)) (blkOk_by (N := N_law) (sc := defScope s_law) (by decide +kernel)) (dg_name sc_law.nd rfl (Or.inl rfl) (Or.inr rfl)) dts_nil (dc_fnS 1 G__law_row (hr.mono (by decide)) hG (by rfl) (da_cons de_int da_nil)) (fun _ _ _ _ _ => by exact (dg_name sc_law.nd rfl (Or.inl rfl) (Or.inr rfl))) (fun _ _ _ _ _ => by exact dts_nil) (fun _ _ _ _ _ => by exact (dc_fnS 1 G__law_row (hr.mono (by decide)) hG (by rfl) (da_cons de_int da_nil)))))) dab_nil)) (Or.inl rfl))) dss_nil)
    (dss_cons (ds_par3 rfl sc_law.nd rfl rfl rfl (by decide) (by decide) (by decide) rfl rfl rfl (dm_cons (dc_fn G__law_counts (hr.mono (by decide)) hG (by rfl) (da_cons (de_v 4) da_nil)).f (dm_cons (de_cB (cd_repr hG (ru_of hr)) rd_repr (by rfl) M.b_repr bt_repr (dab_cons (db_v 4) dab_nil)).f (dm_cons (dc_fn G_part_paper (hr.mono (by decide)) hG (by rfl) (da_cons (de_v 4) da_nil)).f dm_nil))) rfl)
    (dss_cons (ds_valLc2 (own := [("n", 15), ("many", 18)]) rfl sc_law.nd rfl rfl (sw_true rfl rfl rfl (by decide +kernel)) (di_enum (by rfl) M.b_enumerate (da_cons (de_v 12) da_nil)) (blkOk_by (N := N_law) (sc := defScope s_law) (by decide +kernel)) (dg_tup rfl (dgs_cons (dg_name sc_law.nd rfl (Or.inl rfl) (Or.inr rfl)) (dgs_cons (dg_name sc_law.nd rfl (Or.inl rfl) (Or.inr rfl)) dgs_nil))) (dts_one (dt_cmp (od_ne hr.units) rd_ne (db_v 18) (DE.bo de_int) (nomark _))) (de_tup (da_cons (de_v 15) (da_cons (de_v 18) da_nil))) (fun _ _ _ _ _ => by exact (dg_tup rfl (dgs_cons (dg_name sc_law.nd rfl (Or.inl rfl) (Or.inr rfl)) (dgs_cons (dg_name sc_law.nd rfl (Or.inl rfl) (Or.inr rfl)) dgs_nil)))) (fun _ _ _ _ _ => by exact (dts_one (dt_cmp (od_ne hr.units) rd_ne (db_v 18) (DE.bo de_int) (nomark _)))) (fun _ _ _ _ _ => by exact (de_tup (da_cons (de_v 15) (da_cons (de_v 18) da_nil)))))
    (dss_cons (ds_if (dt_cmp (od_ne hr.units) rd_ne (DE.bo (de_cB (cd_repr hG (ru_of hr)) rd_repr (by rfl) M.b_repr bt_repr (dab_cons (db_v 14) dab_nil))) (DE.bo (de_cB (cd_repr hG (ru_of hr)) rd_repr (by rfl) M.b_repr bt_repr (dab_cons (DE.bo (de_if (dt_cmp (od_ne hr.units) rd_ne (db_v 5) (DE.bo (de_lst da_nil)) (nomark _)) (de_op od_add rd_add (DE.bo (de_tup (da_cons de_str da_nil))) (DE.bo (de_ix (db_v 5) (DE.bo de_int) (fun _ _ => rfl)))) (de_tup (da_cons de_str da_nil)))) dab_nil))) (nomark _)) (dss_one (ds_ret de_bl)) dss_nil)
    (dss_cons (ds_par2 rfl sc_law.nd rfl rfl (by decide) rfl rfl (dm_cons (dc_fnS 1 G__law_pick (hr.mono (by decide)) hG (by rfl) (da_cons (de_cB cd_len rd_len (by rfl) M.b_len bt_len (dab_cons (db_v 12) dab_nil)) da_nil)).f (dm_cons (de_lst (da_cons de_non (da_cons de_bl (da_cons (de_un un_neg rd_neg (DE.bo de_int)) (da_cons de_int (da_cons de_int (da_cons de_str (da_cons (de_tup da_nil) (da_cons (de_cB cd_len rd_len (by rfl) M.b_len bt_len (dab_cons (db_v 12) dab_nil)) (da_cons (de_op op_pow rd_pow (DE.bo de_int) (DE.bo de_int)) da_nil)))))))))).f dm_nil)) rfl)
    (dss_cons (ds_set sc_law.nd rfl (Or.inl rfl) (dc_fnS 1 G__law_of (hr.mono (by decide)) hG (by rfl) (da_cons (de_v 6) da_nil)) (Or.inl rfl))
    (dss_cons (ds_set sc_law.nd rfl (Or.inl rfl) (de_lst (da_cons (de_v 14) (da_cons (DL.val (dl_cT call_list_of rd_list (by rfl) M.b_list bt_list (dab_cons (db_v 14) dab_nil))) (da_cons (de_op od_add rd_add (db_v 14) (DE.bo (de_tup (da_cons de_int da_nil)))) (da_cons (de_tup (da_cons de_str da_nil)) (da_cons (de_tup (da_cons de_str (da_cons (de_v 15) (da_cons (de_ix (db_v 12) (db_v 15) (fun _ _ => rfl)) da_nil)))) (da_cons (de_tup (da_cons de_str (da_cons (de_v 15) (da_cons de_int da_nil)))) da_nil))))))) (Or.inl rfl))
    (dss_cons (ds_set sc_law.nd rfl (Or.inl rfl) (de_op od_add rd_add (db_v 7) (DE.bo (de_lst (da_cons (de_tup (da_cons de_str (da_cons (de_v 15) (da_cons de_int da_nil)))) (da_cons (de_tup (da_cons de_str (da_cons (de_v 6) (da_cons de_int da_nil)))) (da_cons (de_tup (da_cons de_str (da_cons (de_v 15) (da_cons (de_v 6) da_nil)))) (da_cons (de_tup (da_cons de_str (da_cons (de_v 15) da_nil))) (da_cons (de_tup (da_cons (de_v 6) da_nil)) (da_cons de_non (da_cons (de_tup da_nil) da_nil)))))))))) (Or.inl rfl))
    (dss_cons (ds_set sc_law.nd rfl (Or.inl rfl) (de_op od_add rd_add (db_v 7) (DE.bo (DL.val (dl_lc2 (own := [("k", 20), ("many", 18)]) rfl sc_law.nd (di_any (de_sl (db_v 5) (do_some (de_un un_neg rd_neg (DE.bo de_int))) do_none)) (blkOk_by (N := N_law) (sc := defScope s_law) (by decide +kernel)) (dg_tup rfl (dgs_cons (dg_name sc_law.nd rfl (Or.inl rfl) (Or.inr rfl)) (dgs_cons (dg_name sc_law.nd rfl (Or.inl rfl) (Or.inr rfl)) dgs_nil))) dts_nil (de_tup (da_cons de_str (da_cons (de_v 20) (da_cons (de_v 18) da_nil)))) (fun _ _ _ _ _ => by exact (dg_tup rfl (dgs_cons (dg_name sc_law.nd rfl (Or.inl rfl) (Or.inr rfl)) (dgs_cons (dg_name sc_law.nd rfl (Or.inl rfl) (Or.inr rfl)) dgs_nil)))) (fun _ _ _ _ _ => by exact dts_nil) (fun _ _ _ _ _ => by exact (de_tup (da_cons de_str (da_cons (de_v 20) (da_cons (de_v 18) da_nil))))))))) (Or.inl rfl))
    (dss_cons (ds_set sc_law.nd rfl (Or.inl rfl) (de_op od_add rd_add (db_v 7) (DE.bo (de_lst (da_cons de_str (da_cons (de_tup (da_cons de_str (da_cons (de_v 15) (da_cons de_int da_nil)))) (da_cons (de_tup (da_cons de_str da_nil)) (da_cons (de_tup (da_cons de_str (da_cons (de_v 15) (da_cons de_int da_nil)))) (da_cons (de_tup (da_cons (de_v 6) (da_cons (de_v 15) (da_cons de_int da_nil)))) da_nil)))))))) (Or.inl rfl))
    (dss_cons (ds_for (ts := [8]) PassesOwn.never rfl (di_any (de_v 7)) (dg_name sc_law.nd rfl (Or.inl rfl) (Or.inl rfl)) (dss_cons (ds_par2 rfl sc_law.nd rfl rfl (by decide) rfl rfl (dm_cons (dc_fn G__law_fault (hr.mono (by decide)) hG (by rfl) (da_cons (de_v 12) (da_cons (de_v 8) da_nil))).f (dm_cons (de_cB (cd_repr hG (ru_of hr)) rd_repr (by rfl) M.b_repr bt_repr (dab_cons (db_v 8) dab_nil)).f dm_nil)) rfl)
    (dss_cons (ds_if (DW.t (dw_or (dt_cmp (od_ne hr.units) rd_ne (DE.bo (de_cB (cd_repr hG (ru_of hr)) rd_repr (by rfl) M.b_repr bt_repr (dab_cons (DE.bo (dc_fn G_judge_parts_of (hr.mono (by decide)) hG (by rfl) (da_cons (de_v 4) (da_cons (de_v 8) da_nil)))) dab_nil))) (DE.bo (de_cB (cd_repr hG (ru_of hr)) rd_repr (by rfl) M.b_repr bt_repr (dab_cons (db_v 16) dab_nil))) (nomark _)) (dw_or1 (dt_cmp (od_ne hr.units) rd_ne (DE.bo (de_cB (cd_repr hG (ru_of hr)) rd_repr (by rfl) M.b_repr bt_repr (dab_cons (db_v 8) dab_nil))) (db_v 17) (nomark _))))) (dss_one (ds_ret de_bl)) dss_nil)
    (dss_one (ds_if (DW.t (dw_and (dt_cmp op_isN rd_isN (db_v 16) (DE.bo de_non) (nomark _)) (dw_and1 (dt_cmp (od_ne hr.units) rd_ne (DE.bo (de_ix (db_v 8) (DE.bo de_int) (fun _ _ => rfl))) (DE.bo (de_ix (db_v 14) (DE.bo de_int) (fun _ _ => rfl))) (nomark _))))) (dss_one (ds_ret de_bl)) dss_nil)))))
    (dss_one (ds_if (dt_cmp (od_ne hr.units) rd_ne (DE.bo (de_cB (cd_repr hG (ru_of hr)) rd_repr (by rfl) M.b_repr bt_repr (dab_cons (db_v 4) dab_nil))) (db_v 13) (nomark _)) (dss_one (ds_ret de_bl)) dss_nil))))))))))))))))))
    (dss_one (ds_ret (de_cmp (od_eq hr.units) rd_eq (DE.bo (dc_fn G_judge_parts_of (hr.mono (by decide)) hG (by rfl) (da_cons (de_tup (da_cons (de_tup (da_cons de_int (da_cons de_int (da_cons de_int da_nil)))) (da_cons (de_tup (da_cons de_int (da_cons de_int (da_cons de_int da_nil)))) da_nil))) (da_cons (de_tup (da_cons de_str (da_cons de_int (da_cons de_int da_nil)))) da_nil)))) (DE.bo (de_tup (da_cons de_str (da_cons de_int da_nil)))) (nomark _))))))⟩
end
theorem all_mk {l : PySem.W.OpenLaw} {w : World} {K : PySem.W.Frag} {h : Heap} {mg : Str → Option Value} {fa f0 f1 f2 f3 f4 f5 f6 f7 f8 f9 f10 f11 f12 f13 f14 f15 f16 f17 : Addr} (X : K.In h) (G : h.Ns mainGlobals mg) (hfa : mg "law" = some (.ref fa))
    {od0 an0 od1 an1 od2 an2 od3 an3 od4 an4 od5 an5 od6 an6 od7 an7 od8 an8 od9 an9 od10 an10 od11 an11 od12 an12 od13 an13 od14 an14 od15 an15 od16 an16 od17 an17 : Option Addr} {sl0 sl1 sl2 sl3 sl4 sl5 sl6 sl7 sl8 sl9 sl10 sl11 sl12 sl13 sl14 sl15 sl16 sl17 : Array (Option Value)} {oc0 kV0 dc0 pm0 cd0 ct0 oc1 kV1 dc1 pm1 cd1 ct1 oc2 kV2 dc2 pm2 cd2 ct2 oc3 kV3 dc3 pm3 cd3 ct3 oc4 kV4 dc4 pm4 cd4 ct4 oc5 kV5 dc5 pm5 cd5 ct5 oc6 kV6 dc6 pm6 cd6 ct6 oc7 kV7 dc7 pm7 cd7 ct7 oc8 kV8 dc8 pm8 cd8 ct8 oc9 kV9 dc9 pm9 cd9 ct9 oc10 kV10 dc10 pm10 cd10 ct10 oc11 kV11 dc11 pm11 cd11 ct11 oc12 kV12 dc12 pm12 cd12 ct12 oc13 kV13 dc13 pm13 cd13 ct13 oc14 kV14 dc14 pm14 cd14 ct14 oc15 kV15 dc15 pm15 cd15 ct15 oc16 kV16 dc16 pm16 cd16 ct16 oc17 kV17 dc17 pm17 cd17 ct17 : Value}
    (a0 : PySem.W.nsIn K mainGlobals "is_integer_value" = some (some (.ref f0))) (l0 : K.lookup f0 = some ⟨oc0, od0, .func (PySem.W.fnOf "is_integer_value" "is_integer_value" (defArgs s_is_integer_value) (defBody s_is_integer_value) (defScope s_is_integer_value) .none kV0 dc0 pm0 an0 cd0 ct0), sl0⟩) (c0 : PySem.W.codeIn K cd0 "is_integer_value" = true) (k0 : PySem.W.keepIn K (.ref f0) = true)
    (a1 : PySem.W.nsIn K mainGlobals "is_in_floor_row" = some (some (.ref f1))) (l1 : K.lookup f1 = some ⟨oc1, od1, .func (PySem.W.fnOf "is_in_floor_row" "is_in_floor_row" (defArgs s_is_in_floor_row) (defBody s_is_in_floor_row) (defScope s_is_in_floor_row) .none kV1 dc1 pm1 an1 cd1 ct1), sl1⟩) (c1 : PySem.W.codeIn K cd1 "is_in_floor_row" = true) (k1 : PySem.W.keepIn K (.ref f1) = true)
    (a2 : PySem.W.nsIn K mainGlobals "floor_period" = some (some (.ref f2))) (l2 : K.lookup f2 = some ⟨oc2, od2, .func (PySem.W.fnOf "floor_period" "floor_period" (defArgs s_floor_period) (defBody s_floor_period) (defScope s_floor_period) .none kV2 dc2 pm2 an2 cd2 ct2), sl2⟩) (c2 : PySem.W.codeIn K cd2 "floor_period" = true) (k2 : PySem.W.keepIn K (.ref f2) = true)
    (a3 : PySem.W.nsIn K mainGlobals "rows_with" = some (some (.ref f3))) (l3 : K.lookup f3 = some ⟨oc3, od3, .func (PySem.W.fnOf "rows_with" "rows_with" (defArgs s_rows_with) (defBody s_rows_with) (defScope s_rows_with) .none kV3 dc3 pm3 an3 cd3 ct3), sl3⟩) (c3 : PySem.W.codeIn K cd3 "rows_with" = true) (k3 : PySem.W.keepIn K (.ref f3) = true)
    (a4 : PySem.W.nsIn K mainGlobals "first_unfit" = some (some (.ref f4))) (l4 : K.lookup f4 = some ⟨oc4, od4, .func (PySem.W.fnOf "first_unfit" "first_unfit" (defArgs s_first_unfit) (defBody s_first_unfit) (defScope s_first_unfit) .none kV4 dc4 pm4 an4 cd4 ct4), sl4⟩) (c4 : PySem.W.codeIn K cd4 "first_unfit" = true) (k4 : PySem.W.keepIn K (.ref f4) = true)
    (a5 : PySem.W.nsIn K mainGlobals "part_paper" = some (some (.ref f5))) (l5 : K.lookup f5 = some ⟨oc5, od5, .func (PySem.W.fnOf "part_paper" "part_paper" (defArgs s_part_paper) (defBody s_part_paper) (defScope s_part_paper) .none kV5 dc5 pm5 an5 cd5 ct5), sl5⟩) (c5 : PySem.W.codeIn K cd5 "part_paper" = true) (k5 : PySem.W.keepIn K (.ref f5) = true)
    (a6 : PySem.W.nsIn K mainGlobals "is_part_form" = some (some (.ref f6))) (l6 : K.lookup f6 = some ⟨oc6, od6, .func (PySem.W.fnOf "is_part_form" "is_part_form" (defArgs s_is_part_form) (defBody s_is_part_form) (defScope s_is_part_form) .none kV6 dc6 pm6 an6 cd6 ct6), sl6⟩) (c6 : PySem.W.codeIn K cd6 "is_part_form" = true) (k6 : PySem.W.keepIn K (.ref f6) = true)
    (a7 : PySem.W.nsIn K mainGlobals "judge_parts_of" = some (some (.ref f7))) (l7 : K.lookup f7 = some ⟨oc7, od7, .func (PySem.W.fnOf "judge_parts_of" "judge_parts_of" (defArgs s_judge_parts_of) (defBody s_judge_parts_of) (defScope s_judge_parts_of) .none kV7 dc7 pm7 an7 cd7 ct7), sl7⟩) (c7 : PySem.W.codeIn K cd7 "judge_parts_of" = true) (k7 : PySem.W.keepIn K (.ref f7) = true)
    (a8 : PySem.W.nsIn K mainGlobals "_law_source" = some (some (.ref f8))) (l8 : K.lookup f8 = some ⟨oc8, od8, .func (PySem.W.fnOf "_law_source" "_law_source" (defArgs s__law_source) (defBody s__law_source) (defScope s__law_source) .none kV8 dc8 pm8 an8 cd8 ct8), sl8⟩) (c8 : PySem.W.codeIn K cd8 "_law_source" = true) (k8 : PySem.W.keepIn K (.ref f8) = true)
    (a9 : PySem.W.nsIn K mainGlobals "_law_pick" = some (some (.ref f9))) (l9 : K.lookup f9 = some ⟨oc9, od9, .func (PySem.W.fnOf "_law_pick" "_law_pick" (defArgs s__law_pick) (defBody s__law_pick) (defScope s__law_pick) .none kV9 dc9 pm9 an9 cd9 ct9), sl9⟩) (c9 : PySem.W.codeIn K cd9 "_law_pick" = true) (k9 : PySem.W.keepIn K (.ref f9) = true)
    (a10 : PySem.W.nsIn K mainGlobals "_law_of" = some (some (.ref f10))) (l10 : K.lookup f10 = some ⟨oc10, od10, .func (PySem.W.fnOf "_law_of" "_law_of" (defArgs s__law_of) (defBody s__law_of) (defScope s__law_of) .none kV10 dc10 pm10 an10 cd10 ct10), sl10⟩) (c10 : PySem.W.codeIn K cd10 "_law_of" = true) (k10 : PySem.W.keepIn K (.ref f10) = true)
    (a11 : PySem.W.nsIn K mainGlobals "_law_gcd" = some (some (.ref f11))) (l11 : K.lookup f11 = some ⟨oc11, od11, .func (PySem.W.fnOf "_law_gcd" "_law_gcd" (defArgs s__law_gcd) (defBody s__law_gcd) (defScope s__law_gcd) .none kV11 dc11 pm11 an11 cd11 ct11), sl11⟩) (c11 : PySem.W.codeIn K cd11 "_law_gcd" = true) (k11 : PySem.W.keepIn K (.ref f11) = true)
    (a12 : PySem.W.nsIn K mainGlobals "_law_row" = some (some (.ref f12))) (l12 : K.lookup f12 = some ⟨oc12, od12, .func (PySem.W.fnOf "_law_row" "_law_row" (defArgs s__law_row) (defBody s__law_row) (defScope s__law_row) .none kV12 dc12 pm12 an12 cd12 ct12), sl12⟩) (c12 : PySem.W.codeIn K cd12 "_law_row" = true) (k12 : PySem.W.keepIn K (.ref f12) = true)
    (a13 : PySem.W.nsIn K mainGlobals "_law_floor" = some (some (.ref f13))) (l13 : K.lookup f13 = some ⟨oc13, od13, .func (PySem.W.fnOf "_law_floor" "_law_floor" (defArgs s__law_floor) (defBody s__law_floor) (defScope s__law_floor) .none kV13 dc13 pm13 an13 cd13 ct13), sl13⟩) (c13 : PySem.W.codeIn K cd13 "_law_floor" = true) (k13 : PySem.W.keepIn K (.ref f13) = true)
    (a14 : PySem.W.nsIn K mainGlobals "_law_members" = some (some (.ref f14))) (l14 : K.lookup f14 = some ⟨oc14, od14, .func (PySem.W.fnOf "_law_members" "_law_members" (defArgs s__law_members) (defBody s__law_members) (defScope s__law_members) .none kV14 dc14 pm14 an14 cd14 ct14), sl14⟩) (c14 : PySem.W.codeIn K cd14 "_law_members" = true) (k14 : PySem.W.keepIn K (.ref f14) = true)
    (a15 : PySem.W.nsIn K mainGlobals "_law_counts" = some (some (.ref f15))) (l15 : K.lookup f15 = some ⟨oc15, od15, .func (PySem.W.fnOf "_law_counts" "_law_counts" (defArgs s__law_counts) (defBody s__law_counts) (defScope s__law_counts) .none kV15 dc15 pm15 an15 cd15 ct15), sl15⟩) (c15 : PySem.W.codeIn K cd15 "_law_counts" = true) (k15 : PySem.W.keepIn K (.ref f15) = true)
    (a16 : PySem.W.nsIn K mainGlobals "_law_fault" = some (some (.ref f16))) (l16 : K.lookup f16 = some ⟨oc16, od16, .func (PySem.W.fnOf "_law_fault" "_law_fault" (defArgs s__law_fault) (defBody s__law_fault) (defScope s__law_fault) .none kV16 dc16 pm16 an16 cd16 ct16), sl16⟩) (c16 : PySem.W.codeIn K cd16 "_law_fault" = true) (k16 : PySem.W.keepIn K (.ref f16) = true)
    (a17 : PySem.W.nsIn K mainGlobals "law" = some (some (.ref f17))) (l17 : K.lookup f17 = some ⟨oc17, od17, .func (PySem.W.fnOf "law" "law" (defArgs s_law) (defBody s_law) (defScope s_law) .none kV17 dc17 pm17 an17 cd17 ct17), sl17⟩) (c17 : PySem.W.codeIn K cd17 "law" = true) (k17 : PySem.W.keepIn K (.ref f17) = true)
    (z_abs : PySem.W.nsIn K mainGlobals "abs" = some none)
    (z_all : PySem.W.nsIn K mainGlobals "all" = some none)
    (z_bool : PySem.W.nsIn K mainGlobals "bool" = some none)
    (z_enumerate : PySem.W.nsIn K mainGlobals "enumerate" = some none)
    (z_int : PySem.W.nsIn K mainGlobals "int" = some none)
    (z_isinstance : PySem.W.nsIn K mainGlobals "isinstance" = some none)
    (z_len : PySem.W.nsIn K mainGlobals "len" = some none)
    (z_list : PySem.W.nsIn K mainGlobals "list" = some none)
    (z_range : PySem.W.nsIn K mainGlobals "range" = some none)
    (z_repr : PySem.W.nsIn K mainGlobals "repr" = some none)
    (z_str : PySem.W.nsIn K mainGlobals "str" = some none)
    (z_tuple : PySem.W.nsIn K mainGlobals "tuple" = some none)
    (z_gcd : PySem.W.nsIn K mainGlobals "gcd" = some (some (.builtin "math.gcd")))
    : ∃ fd : FuncData, (∀ (s : Shared) (v : Value), BindsTo s fd ⟨[v], []⟩ [("script", v)]) ∧ ∀ base : Heap, K.In base → base.Ns mainGlobals mg → FnG l.prog w K mg base 6 fa fd ["script"] (spLaw K) := by
  have e := hfa.symm.trans (PySem.W.mg_of X G a17)
  cases e
  have M : Mg mg := ⟨trivial, PySem.W.mg_none_of X G z_abs, PySem.W.mg_none_of X G z_all, PySem.W.mg_none_of X G z_bool, PySem.W.mg_none_of X G z_enumerate, PySem.W.mg_none_of X G z_int, PySem.W.mg_none_of X G z_isinstance, PySem.W.mg_none_of X G z_len, PySem.W.mg_none_of X G z_list, PySem.W.mg_none_of X G z_range, PySem.W.mg_none_of X G z_repr, PySem.W.mg_none_of X G z_str, PySem.W.mg_none_of X G z_tuple, PySem.W.mg_of X G z_gcd⟩
  have F0 := fun_mk (st := s_is_integer_value) l0 c0 k0
  have B0 := F0.binds (ps := ["value"]) fun _ _ _ _ _ _ us hl => match us, hl with | [_], _ => rfl
  have F1 := fun_mk (st := s_is_in_floor_row) l1 c1 k1
  have B1 := F1.binds (ps := ["row", "n"]) fun _ _ _ _ _ _ us hl => match us, hl with | [_, _], _ => rfl
  have F2 := fun_mk (st := s_floor_period) l2 c2 k2
  have B2 := F2.binds (ps := ["rows"]) fun _ _ _ _ _ _ us hl => match us, hl with | [_], _ => rfl
  have F3 := fun_mk (st := s_rows_with) l3 c3 k3
  have B3 := F3.binds (ps := ["rows", "n"]) fun _ _ _ _ _ _ us hl => match us, hl with | [_, _], _ => rfl
  have F4 := fun_mk (st := s_first_unfit) l4 c4 k4
  have B4 := F4.binds (ps := ["rows"]) fun _ _ _ _ _ _ us hl => match us, hl with | [_], _ => rfl
  have F5 := fun_mk (st := s_part_paper) l5 c5 k5
  have B5 := F5.binds (ps := ["rows"]) fun _ _ _ _ _ _ us hl => match us, hl with | [_], _ => rfl
  have F6 := fun_mk (st := s_is_part_form) l6 c6 k6
  have B6 := F6.binds (ps := ["rows", "value"]) fun _ _ _ _ _ _ us hl => match us, hl with | [_, _], _ => rfl
  have F7 := fun_mk (st := s_judge_parts_of) l7 c7 k7
  have B7 := F7.binds (ps := ["rows", "value"]) fun _ _ _ _ _ _ us hl => match us, hl with | [_, _], _ => rfl
  have F8 := fun_mk (st := s__law_source) l8 c8 k8
  have B8 := F8.binds (ps := ["script"]) fun _ _ _ _ _ _ us hl => match us, hl with | [_], _ => rfl
  have F9 := fun_mk (st := s__law_pick) l9 c9 k9
  have B9 := F9.binds (ps := ["source", "most"]) fun _ _ _ _ _ _ us hl => match us, hl with | [_, _], _ => rfl
  have F10 := fun_mk (st := s__law_of) l10 c10 k10
  have B10 := F10.binds (ps := ["source", "some"]) fun _ _ _ _ _ _ us hl => match us, hl with | [_, _], _ => rfl
  have F11 := fun_mk (st := s__law_gcd) l11 c11 k11
  have B11 := F11.binds (ps := ["a", "b"]) fun _ _ _ _ _ _ us hl => match us, hl with | [_, _], _ => rfl
  have F12 := fun_mk (st := s__law_row) l12 c12 k12
  have B12 := F12.binds (ps := ["source", "most"]) fun _ _ _ _ _ _ us hl => match us, hl with | [_, _], _ => rfl
  have F13 := fun_mk (st := s__law_floor) l13 c13 k13
  have B13 := F13.binds (ps := ["row", "k"]) fun _ _ _ _ _ _ us hl => match us, hl with | [_, _], _ => rfl
  have F14 := fun_mk (st := s__law_members) l14 c14 k14
  have B14 := F14.binds (ps := ["row", "low", "high"]) fun _ _ _ _ _ _ us hl => match us, hl with | [_, _, _], _ => rfl
  have F15 := fun_mk (st := s__law_counts) l15 c15 k15
  have B15 := F15.binds (ps := ["rows"]) fun _ _ _ _ _ _ us hl => match us, hl with | [_], _ => rfl
  have F16 := fun_mk (st := s__law_fault) l16 c16 k16
  have B16 := F16.binds (ps := ["counts", "value"]) fun _ _ _ _ _ _ us hl => match us, hl with | [_, _], _ => rfl
  have F17 := fun_mk (st := s_law) l17 c17 k17
  refine ⟨PySem.W.fnOf "law" "law" (defArgs s_law) (defBody s_law) (defScope s_law) .none kV17 dc17 pm17 an17 cd17 ct17, fun s v => .of_eq rfl, fun base _ _ => ?_⟩
  have G_is_integer_value : Here l.prog w K mg base 1 "is_integer_value" ["value"] (spD K pre_is_integer_value post_is_integer_value) := ⟨_, _, d_is_integer_value F0 M , PySem.W.mg_of X G a0, k0, B0⟩
  have G_is_in_floor_row : Here l.prog w K mg base 1 "is_in_floor_row" ["row", "n"] (spD K pre_is_in_floor_row post_is_in_floor_row) := ⟨_, _, d_is_in_floor_row F1 M , PySem.W.mg_of X G a1, k1, B1⟩
  have G_floor_period : Here l.prog w K mg base 1 "floor_period" ["rows"] (spD K pre_floor_period post_floor_period) := ⟨_, _, d_floor_period F2 M , PySem.W.mg_of X G a2, k2, B2⟩
  have G_rows_with : Here l.prog w K mg base 2 "rows_with" ["rows", "n"] (spD K pre_rows_with post_rows_with) := ⟨_, _, d_rows_with F3 M G_is_in_floor_row, PySem.W.mg_of X G a3, k3, B3⟩
  have G_first_unfit : Here l.prog w K mg base 3 "first_unfit" ["rows"] (spD K pre_first_unfit post_first_unfit) := ⟨_, _, d_first_unfit F4 M G_floor_period G_rows_with, PySem.W.mg_of X G a4, k4, B4⟩
  have G_part_paper : Here l.prog w K mg base 4 "part_paper" ["rows"] (spD K pre_part_paper post_part_paper) := ⟨_, _, d_part_paper F5 M G_first_unfit, PySem.W.mg_of X G a5, k5, B5⟩
  have G_is_part_form : Here l.prog w K mg base 2 "is_part_form" ["rows", "value"] (spD K pre_is_part_form post_is_part_form) := ⟨_, _, d_is_part_form F6 M G_floor_period G_is_integer_value, PySem.W.mg_of X G a6, k6, B6⟩
  have G_judge_parts_of : Here l.prog w K mg base 5 "judge_parts_of" ["rows", "value"] (spD K pre_judge_parts_of post_judge_parts_of) := ⟨_, _, d_judge_parts_of F7 M G_rows_with G_is_part_form G_part_paper, PySem.W.mg_of X G a7, k7, B7⟩
  have G__law_source : Here l.prog w K mg base 1 "_law_source" ["script"] (spN K) := ⟨_, _, h__law_source F8 M.b_int M.b_abs, PySem.W.mg_of X G a8, k8, B8⟩
  have G__law_pick : Here l.prog w K mg base 1 "_law_pick" ["source", "most"] (spS K preP postP) := ⟨_, _, h__law_pick F9 M.b_int M.b_len, PySem.W.mg_of X G a9, k9, B9⟩
  have G__law_of : Here l.prog w K mg base 2 "_law_of" ["source", "some"] (spS K pre__law_of post__law_of) := ⟨_, _, d__law_of F10 M G__law_pick, PySem.W.mg_of X G a10, k10, B10⟩
  have G__law_gcd : Here l.prog w K mg base 1 "_law_gcd" ["a", "b"] (spD K pre__law_gcd post__law_gcd) := ⟨_, _, d__law_gcd F11 M , PySem.W.mg_of X G a11, k11, B11⟩
  have G__law_row : Here l.prog w K mg base 2 "_law_row" ["source", "most"] (spS K pre__law_row post__law_row) := ⟨_, _, d__law_row F12 M G__law_pick G__law_gcd, PySem.W.mg_of X G a12, k12, B12⟩
  have G__law_floor : Here l.prog w K mg base 1 "_law_floor" ["row", "k"] (spD K pre__law_floor post__law_floor) := ⟨_, _, d__law_floor F13 M , PySem.W.mg_of X G a13, k13, B13⟩
  have G__law_members : Here l.prog w K mg base 2 "_law_members" ["row", "low", "high"] (spD K pre__law_members post__law_members) := ⟨_, _, d__law_members F14 M G__law_floor, PySem.W.mg_of X G a14, k14, B14⟩
  have G__law_counts : Here l.prog w K mg base 3 "_law_counts" ["rows"] (spD K pre__law_counts post__law_counts) := ⟨_, _, d__law_counts F15 M G__law_members G__law_gcd, PySem.W.mg_of X G a15, k15, B15⟩
  have G__law_fault : Here l.prog w K mg base 1 "_law_fault" ["counts", "value"] (spD K pre__law_fault post__law_fault) := ⟨_, _, d__law_fault F16 M , PySem.W.mg_of X G a16, k16, B16⟩
  exact d_law F17 M G__law_source G__law_row G__law_of G_judge_parts_of G__law_pick G__law_counts G_part_paper G__law_fault
end K40
open PySem PySem.W PyProof.Rows
set_option maxRecDepth 100000 in
set_option maxHeartbeats 0 in
theorem PySem.Challenge.cw_mediantrows_k40_part_papers_judged_holds : PySem.Challenge.rw_mediantrows_k40_part_papers_judged.Holds := by
  w_on; o_law; k_head; (case hw => w_witness2)
  k_fill
  refine DD.walkG (l := PySem.Challenge.rw_mediantrows_k40_part_papers_judged) (n := 63) (k := 6) (x := "script") (sp := fun K => DD.spLaw K) rfl (by decide) rfl ⟨rfl, by decide, by decide⟩ (fun w h Y => PySem.W.kIn_of Y) ?F (fun K H a ns h1 h2 => ⟨a, ns, rfl, h2.2, h1, fun _ => rfl⟩)
  case F =>
    intro w mg fa h KX G hmg
    refine' K40.all_mk KX G hmg ?a0 ?l0 ?c0 ?k0 ?a1 ?l1 ?c1 ?k1 ?a2 ?l2 ?c2 ?k2 ?a3 ?l3 ?c3 ?k3 ?a4 ?l4 ?c4 ?k4 ?a5 ?l5 ?c5 ?k5 ?a6 ?l6 ?c6 ?k6 ?a7 ?l7 ?c7 ?k7 ?a8 ?l8 ?c8 ?k8 ?a9 ?l9 ?c9 ?k9 ?a10 ?l10 ?c10 ?k10 ?a11 ?l11 ?c11 ?k11 ?a12 ?l12 ?c12 ?k12 ?a13 ?l13 ?c13 ?k13 ?a14 ?l14 ?c14 ?k14 ?a15 ?l15 ?c15 ?k15 ?a16 ?l16 ?c16 ?k16 ?a17 ?l17 ?c17 ?k17 ?z_abs ?z_all ?z_bool ?z_enumerate ?z_int ?z_isinstance ?z_len ?z_list ?z_range ?z_repr ?z_str ?z_tuple ?z_gcd
    (case a0 => k_is); (case l0 => k_is); (case c0 => k_is); (case k0 => k_is); (case a1 => k_is); (case l1 => k_is); (case c1 => k_is); (case k1 => k_is); (case a2 => k_is); (case l2 => k_is); (case c2 => k_is); (case k2 => k_is); (case a3 => k_is); (case l3 => k_is); (case c3 => k_is); (case k3 => k_is); (case a4 => k_is); (case l4 => k_is); (case c4 => k_is); (case k4 => k_is); (case a5 => k_is); (case l5 => k_is); (case c5 => k_is); (case k5 => k_is); (case a6 => k_is); (case l6 => k_is); (case c6 => k_is); (case k6 => k_is); (case a7 => k_is); (case l7 => k_is); (case c7 => k_is); (case k7 => k_is); (case a8 => k_is); (case l8 => k_is); (case c8 => k_is); (case k8 => k_is); (case a9 => k_is); (case l9 => k_is); (case c9 => k_is); (case k9 => k_is); (case a10 => k_is); (case l10 => k_is); (case c10 => k_is); (case k10 => k_is); (case a11 => k_is); (case l11 => k_is); (case c11 => k_is); (case k11 => k_is); (case a12 => k_is); (case l12 => k_is); (case c12 => k_is); (case k12 => k_is); (case a13 => k_is); (case l13 => k_is); (case c13 => k_is); (case k13 => k_is); (case a14 => k_is); (case l14 => k_is); (case c14 => k_is); (case k14 => k_is); (case a15 => k_is); (case l15 => k_is); (case c15 => k_is); (case k15 => k_is); (case a16 => k_is); (case l16 => k_is); (case c16 => k_is); (case k16 => k_is); (case a17 => k_is); (case l17 => k_is); (case c17 => k_is); (case k17 => k_is); (case z_abs => k_is); (case z_all => k_is); (case z_bool => k_is); (case z_enumerate => k_is); (case z_int => k_is); (case z_isinstance => k_is); (case z_len => k_is); (case z_list => k_is); (case z_range => k_is); (case z_repr => k_is); (case z_str => k_is); (case z_tuple => k_is); (case z_gcd => k_is)
