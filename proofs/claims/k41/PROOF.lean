import PyProof.Rows.All
import PySem.Challenge.RW_pointsaround_k41_deepest_points
import HandS.ForMost
import HandS.Lambda
import HandS.EndTab
import HandS.Flow
import HandS.Wide
import HandS.IsInst
import HandS.Gcd
import HandS.Deep
import HandS.TupLe
import HandS.TupAny
import HandS.Conv
import HandS.Zip
import HandS.Defaults
import HandS.Style
import HandS.HeadWalk
import HandS.RepeatKit
import KE.GoesEnum
import HandS.WideBits
import HandS.SortInts
import HandS.SetFor
import PyProof.ReprRoads
import HandS.Keys
import HandS.HeadNt
import HandS.HeadHook4
import HandS.Head3
import PyProof.FitsInt
import PyProof.Rows.Walk
import HandS.Head0
import HandS.Head1
import HandS.Head2
import HandS.HeadHook1
import HandS.HeadHook2
import HandS.HeadHook3
set_option Elab.async false
set_option linter.all false
set_option maxRecDepth 100000
set_option maxHeartbeats 1000000
/-! DL1: data as trees over the hand layer: what a value stands for, what stays, what an expression evaluates to. -/
namespace DL
open PySem PySem.Spec PyProof.Rows L2

abbrev Ad := PySem.Addr
abbrev Fg := PySem.W.Frag
abbrev SS := L2.St

/-- a list of the written part -/
def KL (K : Fg) (a : Ad) (vs : List V) : Prop :=
  ∃ (o : Obj) (its : Array Value) (n : Nat), K.lookup a = some o ∧ o.cls = .type "list" ∧ o.dict = none ∧ o.data = .seq its n ∧ its.size ≤ sizeLine ∧ Vals vs its.toList
/-- a list that is read, and stands outside of Mx -/
def RdL (K : Fg) (H : Hp) (Mx : Ad → Prop) (a : Ad) (vs : List V) : Prop := (Rd H a (.lst vs) ∧ ¬ Mx a) ∨ KL K a vs
theorem RdL.sql {K : Fg} {H : Hp} {Mx : Ad → Prop} {a : Ad} {vs : List V} (h : RdL K H Mx a vs) : SqL K H a vs := by
  rcases h with ⟨h, _⟩ | h
  · exact .inl h
  · exact .inr h
mutual
/-- the value v stands for the data d; M: the lists that may change -/
inductive Rp (K : Fg) (H : Hp) (M : Ad → Prop) : PyData → V → Prop
  | non : Rp K H M .none .non
  | bl (b : Bool) : Rp K H M (.bool b) (.bl b)
  | int (i : Int) : Rp K H M (.int i) (.int i)
  | str (x : Str) : Rp K H M (.str x) (.str x)
  | tup {a : Ad} {vs : List V} {ds : List PyData} : SqT K H a vs → RpL K H M ds vs → Rp K H M (.tuple ds) (.ref a)
  | lst {a : Ad} {vs : List V} {ds : List PyData} : H a = some (.lst vs) → ¬ M a → RpL K H M ds vs → Rp K H M (.list ds) (.ref a)
inductive RpL (K : Fg) (H : Hp) (M : Ad → Prop) : List PyData → List V → Prop
  | nil : RpL K H M [] []
  | cons {d : PyData} {v : V} {ds : List PyData} {vs : List V} : Rp K H M d v → RpL K H M ds vs → RpL K H M (d :: ds) (v :: vs)
end

section
variable {K : Fg} {H H' : Hp} {M M' : Ad → Prop}
/-- what a datum leans on goes over -/
structure Carry (K : Fg) (H H' : Hp) (M M' : Ad → Prop) : Prop where
  tup : ∀ a vs, SqT K H a vs → SqT K H' a vs
  lst : ∀ a vs, H a = some (.lst vs) → ¬ M a → H' a = some (.lst vs) ∧ ¬ M' a
mutual
theorem Rp.carry (c : Carry K H H' M M') : ∀ {d : PyData} {v : V}, Rp K H M d v → Rp K H' M' d v
  | _, _, .non => .non
  | _, _, .bl b => .bl b
  | _, _, .int i => .int i
  | _, _, .str x => .str x
  | _, _, .tup h r => .tup (c.tup _ _ h) (RpL.carry c r)
  | _, _, .lst h m r => .lst (c.lst _ _ h m).1 (c.lst _ _ h m).2 (RpL.carry c r)
theorem RpL.carry (c : Carry K H H' M M') : ∀ {ds : List PyData} {vs : List V}, RpL K H M ds vs → RpL K H' M' ds vs
  | _, _, .nil => .nil
  | _, _, .cons h r => .cons (Rp.carry c h) (RpL.carry c r)
end
mutual
theorem Rp.dp : ∀ {d : PyData} {v : V}, Rp K H M d v → Dp K H v d
  | _, _, .non => .non
  | _, _, .bl b => .bl b
  | _, _, .int i => .int i
  | _, _, .str x => .str x
  | _, _, .tup h r => .tup h (RpL.dp r)
  | _, _, .lst h _ r => .lst (SqL.of h) (RpL.dp r)
theorem RpL.dp : ∀ {ds : List PyData} {vs : List V}, RpL K H M ds vs → DpAll K H vs ds
  | _, _, .nil => .nil
  | _, _, .cons h r => .cons (Rp.dp h) (RpL.dp r)
end
theorem RpL.length : ∀ {ds : List PyData} {vs : List V}, RpL K H M ds vs → ds.length = vs.length
  | _, _, .nil => rfl
  | _, _, .cons _ r => congrArg (· + 1) r.length
theorem RpL.get : ∀ {ds : List PyData} {vs : List V} {i : Nat} {d : PyData}, RpL K H M ds vs → ds[i]? = some d → ∃ v, vs[i]? = some v ∧ Rp K H M d v
  | _, _, _, _, .nil, e => by simp at e
  | _, _, 0, _, .cons r _, e => by simp at e; subst e; exact ⟨_, rfl, r⟩
  | _, _, i + 1, d, .cons _ t, e => by
    obtain ⟨v, h1, h2⟩ := RpL.get (i := i) (d := d) t (by simpa using e)
    exact ⟨v, by simpa using h1, h2⟩
theorem RpL.getV : ∀ {ds : List PyData} {vs : List V} {i : Nat} {v : V}, RpL K H M ds vs → vs[i]? = some v → ∃ d, ds[i]? = some d ∧ Rp K H M d v
  | _, _, _, _, .nil, e => by simp at e
  | _, _, 0, _, .cons r _, e => by simp at e; subst e; exact ⟨_, rfl, r⟩
  | _, _, i + 1, v, .cons _ t, e => by
    obtain ⟨d, h1, h2⟩ := RpL.getV (i := i) (v := v) t (by simpa using e)
    exact ⟨d, by simpa using h1, h2⟩
theorem RpL.append : ∀ {ds es : List PyData} {vs us : List V}, RpL K H M ds vs → RpL K H M es us → RpL K H M (ds ++ es) (vs ++ us)
  | _, _, _, _, .nil, s => s
  | _, _, _, _, .cons r t, s => .cons r (RpL.append t s)
theorem RpL.take : ∀ {ds : List PyData} {vs : List V} (n : Nat), RpL K H M ds vs → RpL K H M (ds.take n) (vs.take n)
  | _, _, 0, _ => .nil
  | _, _, _ + 1, .nil => .nil
  | _, _, n + 1, .cons r t => .cons r (RpL.take n t)
theorem RpL.drop : ∀ {ds : List PyData} {vs : List V} (n : Nat), RpL K H M ds vs → RpL K H M (ds.drop n) (vs.drop n)
  | _, _, 0, r => r
  | _, _, _ + 1, .nil => .nil
  | _, _, n + 1, .cons _ t => RpL.drop n t
theorem RpL.set : ∀ {ds : List PyData} {vs : List V} {d : PyData} {v : V} (n : Nat), RpL K H M ds vs → Rp K H M d v → RpL K H M (ds.set n d) (vs.set n v)
  | _, _, _, _, _, .nil, _ => .nil
  | _, _, _, _, 0, .cons _ t, q => .cons q t
  | _, _, _, _, n + 1, .cons r t, q => .cons r (RpL.set n t q)
theorem RpL.eraseIdx : ∀ {ds : List PyData} {vs : List V} (n : Nat), RpL K H M ds vs → RpL K H M (ds.eraseIdx n) (vs.eraseIdx n)
  | _, _, _, .nil => .nil
  | _, _, 0, .cons _ t => t
  | _, _, n + 1, .cons r t => .cons r (RpL.eraseIdx n t)
theorem RpL.dropLast {ds : List PyData} {vs : List V} (r : RpL K H M ds vs) : RpL K H M ds.dropLast vs.dropLast := by
  rw [List.dropLast_eq_take, List.dropLast_eq_take, r.length]
  exact r.take _
theorem RpL.reverse : ∀ {ds : List PyData} {vs : List V}, RpL K H M ds vs → RpL K H M ds.reverse vs.reverse
  | _, _, .nil => .nil
  | _, _, .cons r t => by
    rw [List.reverse_cons, List.reverse_cons]
    exact (RpL.reverse t).append (.cons r .nil)
theorem RpL.ints : ∀ (ns : List Int), RpL K H M (ns.map PyData.int) (ns.map V.int)
  | [] => .nil
  | n :: ns => .cons (.int n) (RpL.ints ns)
theorem RpL.ints_inv : ∀ {ns : List Int} {vs : List V}, RpL K H M (ns.map PyData.int) vs → vs = ns.map V.int
  | [], _, .nil => rfl
  | n :: ns, _, .cons h r => by cases h; rw [RpL.ints_inv r]; rfl
theorem RpL.bools_inv : ∀ {ns : List Bool} {vs : List V}, RpL K H M (ns.map PyData.bool) vs → vs = ns.map V.bl
  | [], _, .nil => rfl
  | n :: ns, _, .cons h r => by cases h; rw [RpL.bools_inv r]; rfl
end

/-! ### what stays -/
/-- from H to H': all tracked is as it was but the lists of W (which stay lists) and the tables -/
structure Gr (T : List (Ad × Str)) (W : Ad → Prop) (H H' : Hp) : Prop where
  keep : ∀ b o, ¬ W b → H b = some o → (∀ ps, o ≠ .tbl ps) → H' b = some o
  none : ∀ b, H' b = none → H b = none
  tabs : LamX.Tabs T H → LamX.Tabs T H'
abbrev W0 : Ad → Prop := fun _ => False
section
variable {T : List (Ad × Str)} {W W' : Ad → Prop} {H H1 H2 : Hp}
theorem Gr.refl (H : Hp) : Gr T W H H := ⟨fun _ _ _ h _ => h, fun _ h => h, fun t => t⟩
theorem Gr.trans (a : Gr T W H H1) (b : Gr T W H1 H2) : Gr T W H H2 :=
  ⟨fun c o w h n => b.keep c o w (a.keep c o w h n) n, fun c h => a.none c (b.none c h), fun t => b.tabs (a.tabs t)⟩
theorem Gr.mono (a : Gr T W H H1) (h : ∀ x, W x → W' x) : Gr T W' H H1 := ⟨fun c o w => a.keep c o fun z => w (h c z), a.none, a.tabs⟩
theorem Gr.of0 (a : Gr T W0 H H1) : Gr T W H H1 := a.mono fun _ z => z.elim
theorem Gr.new {p : Ad} {o : HO} (h : H p = Option.none) : Gr T W H (upd H p o) :=
  ⟨fun b u _ e _ => (upd_ne (ne_of_none e h)).trans e, fun b e => (by
    by_cases hb : b = p
    · rw [hb]; exact h
    · rw [upd_ne hb] at e; exact e), fun t => LamX.Tabs.ext t fun b u e => (upd_ne (ne_of_none e h)).trans e⟩
theorem Gr.ext (e : ∀ b o, H b = some o → H1 b = some o) : Gr T W H H1 :=
  ⟨fun b o _ h _ => e b o h, fun b h => (by
    cases q : H b with
    | none => rfl
    | some o => rw [e b o q] at h; cases h), fun t => LamX.Tabs.ext t e⟩
theorem Gr.write {p : Ad} {xs ys : List V} (w : W p) (h : H p = some (.lst xs)) : Gr T W H (upd H p (.lst ys)) :=
  ⟨fun b u nb e _ => (upd_ne (fun z => nb (by rw [z]; exact w))).trans e, fun b e => (by
    by_cases hb : b = p
    · rw [hb, upd_same] at e; cases e
    · rw [upd_ne hb] at e; exact e), fun t q hq => by
    obtain ⟨ps, h1, h2, h3⟩ := t q hq
    have np : q.1 ≠ p := fun z => by rw [z, h] at h1; cases h1
    refine ⟨ps, by rw [upd_ne np]; exact h1, h2, fun pos cv hc => ?_⟩
    obtain ⟨c, e1, e2⟩ := h3 pos cv hc
    refine ⟨c, e1, ?_⟩
    have nc : c ≠ p := fun z => by rw [z, h] at e2; unfold LamX.CodeO at e2; cases e2
    rw [upd_ne nc]
    exact e2⟩
theorem Gr.tup {K : Fg} (g : Gr T W H H1) (w : ∀ a, W a → ∃ xs, H a = some (.lst xs)) {a : Ad} {vs : List V} (h : SqT K H a vs) : SqT K H1 a vs := by
  have nw : ∀ {u : HO}, H a = some u → (∀ xs, u ≠ .lst xs) → ¬ W a := fun {u} e n z => by
    obtain ⟨xs, q⟩ := w a z
    rw [e] at q
    exact n xs (Option.some.inj q)
  rcases h with (h | ⟨o, h⟩) | h
  · exact .inl (.inl (g.keep _ _ (nw h fun _ z => nomatch z) h fun _ z => nomatch z))
  · exact .inl (.inr ⟨o, g.keep _ _ (nw h fun _ z => nomatch z) h fun _ z => nomatch z⟩)
  · exact .inr h
theorem Gr.rd (g : Gr T W H H1) (w : ∀ a, W a → ∃ xs, H a = some (.lst xs)) {a : Ad} {vs : List V} (h : Rd H a (.lst vs)) (n : ¬ W a) : Rd H1 a (.lst vs) := by
  rcases h with h | ⟨o, h⟩
  · exact .inl (g.keep _ _ n h fun _ z => nomatch z)
  · exact .inr ⟨o, g.keep _ _ n h fun _ z => nomatch z⟩
theorem Gr.sql {K : Fg} (g : Gr T W0 H H1) {a : Ad} {vs : List V} (h : SqL K H a vs) : SqL K H1 a vs := by
  rcases h with h | h
  · exact .inl (g.rd (fun _ z => z.elim) h fun z => z)
  · exact .inr h
theorem Gr.rdl {K : Fg} {Mx Mx' : Ad → Prop} (g : Gr T W H H1) (w : ∀ a, W a → ∃ xs, H a = some (.lst xs)) (hw : ∀ a, W a → Mx a) (hm : ∀ a, Mx' a → Mx a ∨ H a = Option.none) {a : Ad} {vs : List V} (h : RdL K H Mx a vs) : RdL K H1 Mx' a vs := by
  rcases h with ⟨h, n⟩ | h
  · refine .inl ⟨g.rd w h fun z => n (hw a z), fun z => ?_⟩
    rcases hm a z with z | z
    · exact n z
    · rcases h with h | ⟨o, h⟩ <;> (rw [h] at z; cases z)
  · exact .inr h
theorem Gr.carry {K : Fg} {M M' : Ad → Prop} (g : Gr T W H H1) (w : ∀ a, W a → ∃ xs, H a = some (.lst xs)) (hw : ∀ a, W a → M a) (hm : ∀ a, M' a → M a ∨ H a = Option.none) : Carry K H H1 M M' :=
  ⟨fun _ _ h => g.tup w h, fun a vs h m => ⟨g.keep a _ (fun z => m (hw a z)) h fun _ z => (nomatch z), fun z => (hm a z).elim m fun e => by rw [h] at e; cases e⟩⟩
theorem Gr.carry0 {K : Fg} {M : Ad → Prop} (g : Gr T W0 H H1) : Carry K H H1 M M := g.carry (fun _ z => z.elim) (fun _ z => z.elim) fun _ z => .inl z
end

/-! ### the semantics' own state -/
inductive Er where
  | stuck
  | exc (cls : String) (d : PyData)
abbrev Rs (α : Type) := Except Er α
abbrev Rho := List (Option PyData)
abbrev Sm := Rho → Rs PyData
abbrev SmA := Rho → Rs (List PyData)
abbrev SmT := Rho → Rs Bool
/-- .. of what may change the state -/
abbrev Se := Rho → Rs (PyData × Rho)
abbrev SeA := Rho → Rs (List PyData × Rho)
abbrev SeT := Rho → Rs (Bool × Rho)

/-- T: the tables; M0: the callers' changing lists; Ms: the slots of this def's own; Fz: the slots of lists that are only read -/
structure Cfg where
  T : List (Ad × Str)
  M0 : Ad → Prop
  Ms : List Nat
  Fz : List Nat := []
def Mut (ms : List Nat) (σ : SS) (a : Ad) : Prop := ∃ i ∈ ms, σ[i]? = some (some (.ref a))
def Msk (c : Cfg) (σ : SS) (a : Ad) : Prop := c.M0 a ∨ Mut c.Ms σ a
structure SR (c : Cfg) (K : Fg) (σ : SS) (H : Hp) (ρ : Rho) : Prop where
  tabs : LamX.Tabs c.T H
  len : ρ.length = σ.length
  dom : ∀ a, Msk c σ a → ∃ xs, H a = some (.lst xs)
  inj : ∀ i j a, i ∈ c.Ms → j ∈ c.Ms → σ[i]? = some (some (.ref a)) → σ[j]? = some (some (.ref a)) → i = j
  slot : ∀ i d, ρ[i]? = some (some d) → i ∉ c.Ms → i ∉ c.Fz → ∃ v, σ[i]? = some (some v) ∧ Rp K H (Msk c σ) d v
  fslot : ∀ i d, ρ[i]? = some (some d) → i ∉ c.Ms → i ∈ c.Fz → ∃ p ds vs, d = .list ds ∧ σ[i]? = some (some (.ref p)) ∧ RdL K H (Mut c.Ms σ) p vs ∧ RpL K H (Msk c σ) ds vs
  mslot : ∀ i d, ρ[i]? = some (some d) → i ∈ c.Ms → ∃ p ds vs, d = .list ds ∧ σ[i]? = some (some (.ref p)) ∧ H p = some (.lst vs) ∧ RpL K H (Msk c σ) ds vs
section
variable {c : Cfg} {K : Fg} {σ : SS} {H H' : Hp} {ρ : Rho}
theorem SR.grow (s : SR c K σ H ρ) (g : Gr c.T W0 H H') : SR c K σ H' ρ := by
  have cy : Carry K H H' (Msk c σ) (Msk c σ) := g.carry0
  refine ⟨g.tabs s.tabs, s.len, fun a m => ?_, s.inj, fun i d e n nz => ?_, fun i d e n nz => ?_, fun i d e n => ?_⟩
  · obtain ⟨xs, h⟩ := s.dom a m
    exact ⟨xs, g.keep a _ (fun z => z) h fun _ z => nomatch z⟩
  · obtain ⟨v, h, r⟩ := s.slot i d e n nz
    exact ⟨v, h, r.carry cy⟩
  · obtain ⟨p, ds, vs, e1, h, hp, r⟩ := s.fslot i d e n nz
    exact ⟨p, ds, vs, e1, h, g.rdl (fun _ z => z.elim) (fun _ z => z.elim) (fun _ z => .inl z) hp, r.carry cy⟩
  · obtain ⟨p, ds, vs, e1, h, hp, r⟩ := s.mslot i d e n
    exact ⟨p, ds, vs, e1, h, g.keep p _ (fun z => z) hp (fun _ z => nomatch z), r.carry cy⟩
end

/-! ### kinds of values -/
/-- z: any; w: the list itself may be one that changes; s: stands for good; f: new besides -/
inductive Kd where
  | z | w | s | f
def Wp (K : Fg) (H : Hp) (M : Ad → Prop) (d : PyData) (v : V) : Prop :=
  Rp K H M d v ∨ ∃ ds p vs, d = .list ds ∧ v = .ref p ∧ H p = some (.lst vs) ∧ RpL K H M ds vs
def Zp (K : Fg) (H : Hp) (M : Ad → Prop) (d : PyData) (v : V) : Prop :=
  Wp K H M d v ∨ ∃ ds p vs, d = .list ds ∧ v = .ref p ∧ SqL K H p vs ∧ RpL K H M ds vs
def KR (k : Kd) (K : Fg) (H0 H : Hp) (M : Ad → Prop) (d : PyData) (v : V) : Prop := match k with
  | .z => Zp K H M d v
  | .w => Wp K H M d v
  | .s => Rp K H M d v
  | .f => Rp K H M d v ∧ (∀ p, v = .ref p → H0 p = none) ∧ ∀ p ds, v = .ref p → d = .list ds → ∃ vs, H p = some (.lst vs) ∧ RpL K H (fun a => M a ∨ a = p) ds vs
/-- strong or new -/
def Kd.st : Kd → Bool
  | .z => false
  | .w => false
  | _ => true
def Kd.nz : Kd → Bool
  | .z => false
  | _ => true
theorem KR.st {k : Kd} {K : Fg} {H0 H : Hp} {M : Ad → Prop} {d : PyData} {v : V} (h : KR k K H0 H M d v) (hk : k.st = true) : Rp K H M d v := by
  cases k with
  | z => cases hk
  | w => cases hk
  | s => exact h
  | f => exact h.1
theorem KR.w {k : Kd} {K : Fg} {H0 H : Hp} {M : Ad → Prop} {d : PyData} {v : V} (h : KR k K H0 H M d v) (hk : k.nz = true) : Wp K H M d v := by
  cases k with
  | z => cases hk
  | w => exact h
  | s => exact .inl h
  | f => exact .inl h.1
theorem KR.z {k : Kd} {K : Fg} {H0 H : Hp} {M : Ad → Prop} {d : PyData} {v : V} (h : KR k K H0 H M d v) : Zp K H M d v := by
  cases k with
  | z => exact h
  | w => exact .inl h
  | s => exact .inl (.inl h)
  | f => exact .inl (.inl h.1)
theorem KR.back {k : Kd} {K : Fg} {H0 H1 H : Hp} {M : Ad → Prop} {d : PyData} {v : V} (h : KR k K H1 H M d v) (n : ∀ p, H1 p = none → H0 p = none) : KR k K H0 H M d v := by
  cases k with
  | z => exact h
  | w => exact h
  | s => exact h
  | f => exact ⟨h.1, fun p e => n p (h.2.1 p e), h.2.2⟩
theorem Wp.carry {K : Fg} {H H' : Hp} {M : Ad → Prop} {d : PyData} {v : V} {T : List (Ad × Str)} (h : Wp K H M d v) (g : Gr T W0 H H') : Wp K H' M d v := by
  rcases h with h | ⟨ds, p, vs, e1, e2, hp, r⟩
  · exact .inl (h.carry g.carry0)
  · exact .inr ⟨ds, p, vs, e1, e2, g.keep p _ (fun z => z) hp (fun _ z => nomatch z), r.carry g.carry0⟩
theorem Wp.dp {K : Fg} {H : Hp} {M : Ad → Prop} {d : PyData} {v : V} (h : Wp K H M d v) : Dp K H v d := by
  rcases h with h | ⟨ds, p, vs, rfl, rfl, hp, r⟩
  · exact h.dp
  · exact .lst (SqL.of hp) r.dp
/-- a list, seen from outside -/
theorem Wp.lst {K : Fg} {H : Hp} {M : Ad → Prop} {ds : List PyData} {v : V} (h : Wp K H M (.list ds) v) : ∃ p vs, v = .ref p ∧ H p = some (.lst vs) ∧ RpL K H M ds vs := by
  rcases h with h | ⟨_, p, vs, e, rfl, hp, r⟩
  · cases h with
    | lst h _ r => exact ⟨_, _, rfl, h, r⟩
  · cases e
    exact ⟨_, _, rfl, hp, r⟩
theorem Zp.lst {K : Fg} {H : Hp} {M : Ad → Prop} {ds : List PyData} {v : V} (h : Zp K H M (.list ds) v) : ∃ p vs, v = .ref p ∧ SqL K H p vs ∧ RpL K H M ds vs := by
  rcases h with h | ⟨_, p, vs, e, rfl, hp, r⟩
  · obtain ⟨p, vs, e, h, r⟩ := h.lst
    exact ⟨p, vs, e, SqL.of h, r⟩
  · cases e
    exact ⟨_, _, rfl, hp, r⟩
theorem Zp.carry {K : Fg} {H H' : Hp} {M : Ad → Prop} {d : PyData} {v : V} {T : List (Ad × Str)} (h : Zp K H M d v) (g : Gr T W0 H H') : Zp K H' M d v := by
  rcases h with h | ⟨ds, p, vs, e1, e2, hp, r⟩
  · exact .inl (h.carry g)
  · exact .inr ⟨ds, p, vs, e1, e2, g.sql hp, r.carry g.carry0⟩
theorem Wp.tup {K : Fg} {H : Hp} {M : Ad → Prop} {ds : List PyData} {v : V} (h : Wp K H M (.tuple ds) v) : ∃ p vs, v = .ref p ∧ SqT K H p vs ∧ RpL K H M ds vs := by
  rcases h with h | ⟨_, p, vs, e, rfl, hp, r⟩
  · cases h with
    | tup h r => exact ⟨_, _, rfl, h, r⟩
  · cases e
theorem Wp.int {K : Fg} {H : Hp} {M : Ad → Prop} {i : Int} {v : V} (h : Wp K H M (.int i) v) : v = .int i := by
  rcases h with h | ⟨_, p, vs, e, rfl, hp, r⟩
  · cases h; rfl
  · cases e
theorem Wp.bl {K : Fg} {H : Hp} {M : Ad → Prop} {i : Bool} {v : V} (h : Wp K H M (.bool i) v) : v = .bl i := by
  rcases h with h | ⟨_, p, vs, e, rfl, hp, r⟩
  · cases h; rfl
  · cases e
theorem Wp.str {K : Fg} {H : Hp} {M : Ad → Prop} {i : Str} {v : V} (h : Wp K H M (.str i) v) : v = .str i := by
  rcases h with h | ⟨_, p, vs, e, rfl, hp, r⟩
  · cases h; rfl
  · cases e
theorem Wp.non {K : Fg} {H : Hp} {M : Ad → Prop} {v : V} (h : Wp K H M .none v) : v = .non := by
  rcases h with h | ⟨_, p, vs, e, rfl, hp, r⟩
  · cases h; rfl
  · cases e
theorem Wp.isnon {K : Fg} {H : Hp} {M : Ad → Prop} {d : PyData} {v : V} (h : Wp K H M d v) : decide (v = .non) = (match d with | .none => true | _ => false) := by
  rcases h with h | ⟨_, p, vs, rfl, rfl, hp, r⟩
  · cases h <;> rfl
  · rfl

theorem Zp.of {K : Fg} {H : Hp} {M : Ad → Prop} {d : PyData} {v : V} (h : Zp K H M d v) (n : ∀ ds, d ≠ .list ds) : Wp K H M d v := by
  rcases h with h | ⟨ds, p, vs, e, _⟩
  · exact h
  · exact absurd e (n ds)
theorem Zp.dp {K : Fg} {H : Hp} {M : Ad → Prop} {d : PyData} {v : V} (h : Zp K H M d v) : Dp K H v d := by
  rcases h with h | ⟨ds, p, vs, rfl, rfl, hp, r⟩
  · exact h.dp
  · exact .lst hp r.dp
/-! ### the judgements: pure expressions -/
/-- the expression e has the pure semantics m -/
structure SP (c : Cfg) (X : Cx) (k : Kd) (e : Expr) (m : Sm) : Prop where
  ex : ∃ t : TE, PE X e t ∧ ∀ (σ : SS) (H : Hp) (ρ : Rho), SR c X.K σ H ρ → ∀ d, m ρ = .ok d → ∀ Q : VK, (∀ v H', Gr c.T W0 H H' → KR k X.K H H' (Msk c σ) d v → Q v H') → t σ H Q
/-- an argument list -/
inductive ZpL (K : Fg) (H : Hp) (M : Ad → Prop) : List PyData → List V → Prop
  | nil : ZpL K H M [] []
  | cons {d : PyData} {v : V} {ds : List PyData} {vs : List V} : Zp K H M d v → ZpL K H M ds vs → ZpL K H M (d :: ds) (v :: vs)
def K1 (b : Bool) (K : Fg) (H : Hp) (M : Ad → Prop) (d : PyData) (v : V) : Prop := match b with
  | true => Rp K H M d v
  | false => Zp K H M d v
/-- bs: which ones stand for good -/
inductive KsL (K : Fg) (H : Hp) (M : Ad → Prop) : List Bool → List PyData → List V → Prop
  | nil : KsL K H M [] [] []
  | cons {b : Bool} {d : PyData} {v : V} {bs : List Bool} {ds : List PyData} {vs : List V} : K1 b K H M d v → KsL K H M bs ds vs → KsL K H M (b :: bs) (d :: ds) (v :: vs)
theorem KR.k1 {k : Kd} {K : Fg} {H0 H : Hp} {M : Ad → Prop} {d : PyData} {v : V} (h : KR k K H0 H M d v) : K1 k.st K H M d v := by
  cases k with
  | z => exact h
  | w => exact .inl h
  | s => exact h
  | f => exact h.1
theorem K1.z {b : Bool} {K : Fg} {H : Hp} {M : Ad → Prop} {d : PyData} {v : V} (h : K1 b K H M d v) : Zp K H M d v := by
  cases b with
  | true => exact .inl (.inl h)
  | false => exact h
theorem K1.carry {b : Bool} {K : Fg} {H H' : Hp} {M : Ad → Prop} {d : PyData} {v : V} {T : List (Ad × Str)} (h : K1 b K H M d v) (g : Gr T W0 H H') : K1 b K H' M d v := by
  cases b with
  | true => exact Rp.carry g.carry0 h
  | false => exact Zp.carry h g
theorem KsL.z {K : Fg} {H : Hp} {M : Ad → Prop} : ∀ {bs : List Bool} {ds : List PyData} {vs : List V}, KsL K H M bs ds vs → ZpL K H M ds vs
  | _, _, _, .nil => .nil
  | _, _, _, .cons h r => .cons h.z (KsL.z r)
theorem KsL.st {K : Fg} {H : Hp} {M : Ad → Prop} : ∀ {bs : List Bool} {ds : List PyData} {vs : List V}, KsL K H M bs ds vs → bs.all id = true → RpL K H M ds vs
  | _, _, _, .nil, _ => .nil
  | b :: _, _, _, .cons h r, e => by
    cases b with
    | true => exact .cons h (KsL.st r (by simpa using e))
    | false => simp at e
theorem KsL.carry {K : Fg} {H H' : Hp} {M : Ad → Prop} {T : List (Ad × Str)} (g : Gr T W0 H H') : ∀ {bs : List Bool} {ds : List PyData} {vs : List V}, KsL K H M bs ds vs → KsL K H' M bs ds vs
  | _, _, _, .nil => .nil
  | _, _, _, .cons h r => .cons (h.carry g) (KsL.carry g r)
structure SPA (c : Cfg) (X : Cx) (bs : List Bool) (es : List Expr) (m : SmA) : Prop where
  ex : ∃ t : TA, PA X es t ∧ ∀ (σ : SS) (H : Hp) (ρ : Rho), SR c X.K σ H ρ → ∀ ds, m ρ = .ok ds → ∀ Q : List V → Hp → Prop, (∀ vs H', Gr c.T W0 H H' → KsL X.K H' (Msk c σ) bs ds vs → Q vs H') → t σ H Q
/-- a test -/
structure SPT (c : Cfg) (X : Cx) (e : Expr) (m : SmT) : Prop where
  ex : ∃ t : TT, PT X e t ∧ ∀ (σ : SS) (H : Hp) (ρ : Rho), SR c X.K σ H ρ → ∀ b, m ρ = .ok b → ∀ Q : Bool → Hp → Prop, (∀ H', Gr c.T W0 H H' → Q b H') → t σ H Q
/-! .. and those that may change the state's lists -/
structure SE (c : Cfg) (X : Cx) (k : Kd) (e : Expr) (m : Se) : Prop where
  ex : ∃ t : TE, PE X e t ∧ ∀ (σ : SS) (H : Hp) (ρ : Rho), SR c X.K σ H ρ → ∀ d ρ', m ρ = .ok (d, ρ') → ∀ Q : VK, (∀ v H', Gr c.T (Mut c.Ms σ) H H' → SR c X.K σ H' ρ' → KR k X.K H H' (Msk c σ) d v → Q v H') → t σ H Q
structure SEA (c : Cfg) (X : Cx) (es : List Expr) (m : SeA) : Prop where
  ex : ∃ t : TA, PA X es t ∧ ∀ (σ : SS) (H : Hp) (ρ : Rho), SR c X.K σ H ρ → ∀ ds ρ', m ρ = .ok (ds, ρ') → ∀ Q : List V → Hp → Prop, (∀ vs H', Gr c.T (Mut c.Ms σ) H H' → SR c X.K σ H' ρ' → RpL X.K H' (Msk c σ) ds vs → Q vs H') → t σ H Q
structure SET (c : Cfg) (X : Cx) (e : Expr) (m : SeT) : Prop where
  ex : ∃ t : TT, PT X e t ∧ ∀ (σ : SS) (H : Hp) (ρ : Rho), SR c X.K σ H ρ → ∀ b ρ', m ρ = .ok (b, ρ') → ∀ Q : Bool → Hp → Prop, (∀ H', Gr c.T (Mut c.Ms σ) H H' → SR c X.K σ H' ρ' → Q b H') → t σ H Q

/-! ### names, constants -/
def nm (i : Nat) : Sm := fun ρ => match ρ[i]? with
  | some (some d) => .ok d
  | _ => .error .stuck
def cst (d : PyData) : Sm := fun _ => .ok d
theorem nm_ok {i : Nat} {ρ : Rho} {d : PyData} (h : nm i ρ = .ok d) : ρ[i]? = some (some d) := by
  unfold nm at h
  split at h
  · rename_i q
    rw [q]
    exact congrArg (fun z => some (some z)) (Except.ok.inj h)
  · cases h
section
variable {c : Cfg} {X : Cx} {k : Kd} {e a b : Expr} {m ma mb : Sm} {pos p2 : Pos}
/-- a name that no list of this def's own changing stands in -/
theorem sp_nm (i : Nat) {x : Str} (hi : c.Ms.contains i = false) (hz : c.Fz.contains i = false) (hN : X.N[i]? = some x := by rfl) (hv : Vis X.env.scope x := by first | exact Or.inl rfl | exact Or.inr (Or.inl rfl) | exact Or.inr (Or.inr rfl))
    (hd : (x == ("__debug__" : Str)) = false := by decide) (hcd : (x == ("__classdict__" : Str)) = false := by decide) : SP c X .s (.Name x pos) (nm i) := by
  refine ⟨_, pe_var (i := i) hN hv hd hcd, fun σ H ρ s d h Q q => ?_⟩
  obtain ⟨v, h1, r⟩ := s.slot i d (nm_ok h) (fun z => by rw [List.contains_iff_mem.mpr z] at hi; cases hi) (fun z => by rw [List.contains_iff_mem.mpr z] at hz; cases hz)
  exact ⟨v, h1, q v H (Gr.refl H) r⟩
theorem sp_nmW (i : Nat) {x : Str} (hz : c.Fz.contains i = false) (hN : X.N[i]? = some x := by rfl) (hv : Vis X.env.scope x := by first | exact Or.inl rfl | exact Or.inr (Or.inl rfl) | exact Or.inr (Or.inr rfl))
    (hd : (x == ("__debug__" : Str)) = false := by decide) (hcd : (x == ("__classdict__" : Str)) = false := by decide) : SP c X .w (.Name x pos) (nm i) := by
  refine ⟨_, pe_var (i := i) hN hv hd hcd, fun σ H ρ s d h Q q => ?_⟩
  by_cases hi : i ∈ c.Ms
  · obtain ⟨p, ds, vs, e1, h1, hp, r⟩ := s.mslot i d (nm_ok h) hi
    exact ⟨.ref p, h1, q _ H (Gr.refl H) (.inr ⟨ds, p, vs, e1, rfl, hp, r⟩)⟩
  · obtain ⟨v, h1, r⟩ := s.slot i d (nm_ok h) hi (fun z => by rw [List.contains_iff_mem.mpr z] at hz; cases hz)
    exact ⟨v, h1, q v H (Gr.refl H) (.inl r)⟩
theorem sp_nmZ (i : Nat) {x : Str} (hN : X.N[i]? = some x := by rfl) (hv : Vis X.env.scope x := by first | exact Or.inl rfl | exact Or.inr (Or.inl rfl) | exact Or.inr (Or.inr rfl))
    (hd : (x == ("__debug__" : Str)) = false := by decide) (hcd : (x == ("__classdict__" : Str)) = false := by decide) : SP c X .z (.Name x pos) (nm i) := by
  refine ⟨_, pe_var (i := i) hN hv hd hcd, fun σ H ρ s d h Q q => ?_⟩
  by_cases hi : i ∈ c.Ms
  · obtain ⟨p, ds, vs, e1, h1, hp, r⟩ := s.mslot i d (nm_ok h) hi
    exact ⟨.ref p, h1, q _ H (Gr.refl H) (.inl (.inr ⟨ds, p, vs, e1, rfl, hp, r⟩))⟩
  · by_cases hz : i ∈ c.Fz
    · obtain ⟨p, ds, vs, e1, h1, hp, r⟩ := s.fslot i d (nm_ok h) hi hz
      exact ⟨.ref p, h1, q _ H (Gr.refl H) (.inr ⟨ds, p, vs, e1, rfl, hp.sql, r⟩)⟩
    · obtain ⟨v, h1, r⟩ := s.slot i d (nm_ok h) hi hz
      exact ⟨v, h1, q v H (Gr.refl H) (.inl (.inl r))⟩
theorem sp_int {i : Int} {j : Nat} : SP c X .f (.Constant (.int i) j pos) (cst (.int i)) :=
  ⟨_, pe_int, fun σ H ρ s d h Q q => by cases h; exact q _ H (Gr.refl H) ⟨.int i, (fun _ z => nomatch z), fun _ _ z => nomatch z⟩⟩
theorem sp_bl {i : Bool} {j : Nat} : SP c X .f (.Constant (.bool i) j pos) (cst (.bool i)) :=
  ⟨_, pe_bl, fun σ H ρ s d h Q q => by cases h; exact q _ H (Gr.refl H) ⟨.bl i, (fun _ z => nomatch z), fun _ _ z => nomatch z⟩⟩
theorem sp_non {j : Nat} : SP c X .f (.Constant .none j pos) (cst .none) :=
  ⟨_, pe_non, fun σ H ρ s d h Q q => by cases h; exact q _ H (Gr.refl H) ⟨.non, (fun _ z => nomatch z), fun _ _ z => nomatch z⟩⟩
theorem sp_str {i : Str} {j : Nat} : SP c X .f (.Constant (.str i) j pos) (cst (.str i)) :=
  ⟨_, pe_str, fun σ H ρ s d h Q q => by cases h; exact q _ H (Gr.refl H) ⟨.str i, (fun _ z => nomatch z), fun _ _ z => nomatch z⟩⟩
/-- a constant of the module -/
structure GK (X : Cx) (x : Str) (d : PyData) : Prop where
  ex : ∃ v u, X.mg x = some u ∧ RelV v u ∧ ∀ H M, Rp X.K H M d v
theorem sp_glob {x : Str} {d : PyData} (g : GK X x d) (hg : Gl X x) (hd : (x == ("__debug__" : Str)) = false := by decide) : SP c X .s (.Name x pos) (cst d) := by
  obtain ⟨v, u, h1, h2, h3⟩ := g.ex
  exact ⟨_, pe_glob hg h1 h2 hd, fun σ H ρ s d' h Q q => by cases h; exact q _ H (Gr.refl H) (h3 H _)⟩
/-- weaker kinds -/
theorem SP.weak (h : SP c X k e m) (hk : k.nz = true := by rfl) : SP c X .w e m := by
  obtain ⟨t, ht, q⟩ := h.ex
  exact ⟨t, ht, fun σ H ρ s d hd Q hq => q σ H ρ s d hd Q fun v H' g r => hq v H' g (r.w hk)⟩
theorem SP.any (h : SP c X k e m) : SP c X .z e m := by
  obtain ⟨t, ht, q⟩ := h.ex
  exact ⟨t, ht, fun σ H ρ s d hd Q hq => q σ H ρ s d hd Q fun v H' g r => hq v H' g r.z⟩
theorem SP.strong (h : SP c X k e m) (hk : k.st = true := by rfl) : SP c X .s e m := by
  obtain ⟨t, ht, q⟩ := h.ex
  exact ⟨t, ht, fun σ H ρ s d hd Q hq => q σ H ρ s d hd Q fun v H' g r => hq v H' g (r.st hk)⟩
def lft (m : Sm) : Se := fun ρ => match m ρ with
  | .ok d => .ok (d, ρ)
  | .error e => .error e
theorem lft_ok {m : Sm} {ρ ρ' : Rho} {d : PyData} (h : lft m ρ = .ok (d, ρ')) : m ρ = .ok d ∧ ρ' = ρ := by
  unfold lft at h
  split at h
  · rename_i q
    have e := Except.ok.inj h
    rw [q]
    exact ⟨by rw [(Prod.mk.inj e).1], (Prod.mk.inj e).2.symm⟩
  · cases h
theorem SP.se (h : SP c X k e m) : SE c X k e (lft m) := by
  obtain ⟨t, ht, q⟩ := h.ex
  refine ⟨t, ht, fun σ H ρ s d ρ' hd Q hq => ?_⟩
  obtain ⟨h1, rfl⟩ := lft_ok hd
  exact q σ H _ s d h1 Q fun v H' g r => hq v H' g.of0 (s.grow g) r
end
end DL

set_option Elab.async false
set_option linter.all false
set_option maxRecDepth 100000
set_option maxHeartbeats 1000000
/-! DL2: operators, comparisons, tests, subscripts, displays, calls: the pure rules. -/
namespace DL
open PySem PySem.Spec PyProof.Rows L2

def big : Nat := 100000
theorem big_le {n : Nat} (h : n ≤ big) : n ≤ sizeLine := Nat.le_trans h (by decide)
theorem big_lt {n : Nat} (h : n < big) : n < sizeLine := Nat.lt_of_lt_of_le h (by decide)

/-! ### what the operators do on data -/
def addD : PyData → PyData → Rs PyData
  | .int i, .int j => .ok (.int (i + j))
  | .str a, .str b => if a.length + b.length ≤ big then .ok (.str (a ++ b)) else .error .stuck
  | .tuple xs, .tuple ys => if xs.length + ys.length ≤ big then .ok (.tuple (xs ++ ys)) else .error .stuck
  | .list xs, .list ys => if xs.length + ys.length ≤ big then .ok (.list (xs ++ ys)) else .error .stuck
  | _, _ => .error .stuck
def subD : PyData → PyData → Rs PyData
  | .int i, .int j => .ok (.int (i - j))
  | .bool a, .bool b => .ok (.int ((if a then 1 else 0) - (if b then 1 else 0)))
  | _, _ => .error .stuck
def mulD : PyData → PyData → Rs PyData
  | .int i, .int j => if i.natAbs.log2 + j.natAbs.log2 < 1000000 then .ok (.int (i * j)) else .error .stuck
  | .list xs, .int k => if -(2 ^ 63) ≤ k ∧ k < 2 ^ 63 ∧ xs.length * k.toNat ≤ big then .ok (.list (List.replicate k.toNat xs).flatten) else .error .stuck
  | _, _ => .error .stuck
def fdivD : PyData → PyData → Rs PyData
  | .int i, .int j => if 0 < j ∧ j.natAbs.log2 < 9000 then .ok (.int (i / j)) else if j ≠ 0 ∧ j.natAbs < 1073741824 then .ok (.int (i.fdiv j)) else .error .stuck
  | _, _ => .error .stuck
def modD : PyData → PyData → Rs PyData
  | .int i, .int j => if 0 < j then .ok (.int (i % j)) else if j ≠ 0 then .ok (.int (i.fmod j)) else .error .stuck
  | _, _ => .error .stuck
def powD : PyData → PyData → Rs PyData
  | .int i, .int j => if 0 ≤ j ∧ j ≤ 1000000 ∧ i.natAbs < 2 ^ 64 then .ok (.int (i ^ j.toNat)) else .error .stuck
  | _, _ => .error .stuck
/-- no dict, no odd text, not deeper than n -/
def okN : Nat → PyData → Bool
  | _, .none => true
  | _, .bool _ => true
  | _, .int _ => true
  | _, .str x => PyData.strOk x
  | n + 1, .list xs => xs.all (okN n)
  | n + 1, .tuple xs => xs.all (okN n)
  | _, _ => false
def okD (d : PyData) : Bool := okN 20 d
def eqD (d e : PyData) : Rs PyData := if okD d && okD e then .ok (.bool (PyData.eqv d e)) else .error .stuck
def neD (d e : PyData) : Rs PyData := if okD d && okD e then .ok (.bool (!PyData.eqv d e)) else .error .stuck
def ltD : PyData → PyData → Rs PyData
  | .int i, .int j => .ok (.bool (decide (i < j)))
  | _, _ => .error .stuck
def leD : PyData → PyData → Rs PyData
  | .int i, .int j => .ok (.bool (decide (i ≤ j)))
  | _, _ => .error .stuck
def gtD : PyData → PyData → Rs PyData
  | .int i, .int j => .ok (.bool (decide (j < i)))
  | _, _ => .error .stuck
def geD : PyData → PyData → Rs PyData
  | .int i, .int j => .ok (.bool (decide (j ≤ i)))
  | _, _ => .error .stuck
def memD (d : PyData) (xs : List PyData) : Bool := xs.any fun z => PyData.eqv z d
def inD (d : PyData) : PyData → Rs PyData
  | .list xs => if okD d && xs.all okD then .ok (.bool (memD d xs)) else .error .stuck
  | .tuple xs => if okD d && xs.all okD then .ok (.bool (memD d xs)) else .error .stuck
  | _ => .error .stuck
def ninD (d : PyData) : PyData → Rs PyData
  | .list xs => if okD d && xs.all okD then .ok (.bool (!memD d xs)) else .error .stuck
  | .tuple xs => if okD d && xs.all okD then .ok (.bool (!memD d xs)) else .error .stuck
  | _ => .error .stuck
def isNoneD : PyData → Bool
  | .none => true
  | _ => false

section
variable {c : Cfg} {X : Cx} {k k1 k2 : Kd} {e a b e1 e2 e3 : Expr} {m ma mb mc : Sm} {pos p2 : Pos}

theorem lay_all {xs : List PyData} (h : ∀ x ∈ xs, x.canLay0 = true) : PyData.canLayAll0 xs = true := by
  induction xs with
  | nil => simp [PyData.canLayAll0]
  | cons x xs ih =>
    simp only [PyData.canLayAll0, h x List.mem_cons_self, ih fun y hy => h y (List.mem_cons_of_mem _ hy)]
    rfl
theorem depth_all {xs : List PyData} {n : Nat} (h : ∀ x ∈ xs, x.depth ≤ n) : PyData.depthAll xs ≤ n := by
  induction xs with
  | nil => simp [PyData.depthAll]
  | cons x xs ih =>
    have h1 := h x List.mem_cons_self
    have h2 := ih fun y hy => h y (List.mem_cons_of_mem _ hy)
    simp only [PyData.depthAll]
    omega
theorem okN_lay : ∀ (n : Nat) (d : PyData), okN n d = true → d.canLay0 = true ∧ d.depth ≤ n
  | _, .none, _ => by simp [PyData.canLay0, PyData.depth]
  | _, .bool _, _ => by simp [PyData.canLay0, PyData.depth]
  | _, .int _, _ => by simp [PyData.canLay0, PyData.depth]
  | _, .str x, h => by
    have h : PyData.strOk x = true := by simpa [okN] using h
    simp [PyData.canLay0, PyData.depth, h]
  | n + 1, .list xs, h => by
    have h : xs.all (okN n) = true := by simpa [okN] using h
    have q := fun x hx => okN_lay n x (List.all_eq_true.mp h x hx)
    refine ⟨by simp only [PyData.canLay0]; exact lay_all fun x hx => (q x hx).1, ?_⟩
    have := depth_all fun x hx => (q x hx).2
    simp only [PyData.depth]
    omega
  | n + 1, .tuple xs, h => by
    have h : xs.all (okN n) = true := by simpa [okN] using h
    have q := fun x hx => okN_lay n x (List.all_eq_true.mp h x hx)
    refine ⟨by simp only [PyData.canLay0]; exact lay_all fun x hx => (q x hx).1, ?_⟩
    have := depth_all fun x hx => (q x hx).2
    simp only [PyData.depth]
    omega
  | 0, .list _, h => by simp [okN] at h
  | 0, .tuple _, h => by simp [okN] at h
  | _, .dict _, h => by simp [okN] at h
theorem okD_shaped {d : PyData} (h : okD d = true) : SeqAt.shaped d = true := by
  obtain ⟨h1, h2⟩ := okN_lay 20 d h
  unfold SeqAt.shaped
  rw [h1, Bool.true_and]
  exact decide_eq_true (by omega)

/-! ### two-place operators -/
def bin (f : PyData → PyData → Rs PyData) (a b : Sm) : Sm := fun ρ => match a ρ with
  | .ok x => (match b ρ with
    | .ok y => f x y
    | .error e => .error e)
  | .error e => .error e
theorem bin_ok {f : PyData → PyData → Rs PyData} {a b : Sm} {ρ : Rho} {z : PyData} (h : bin f a b ρ = .ok z) : ∃ x y, a ρ = .ok x ∧ b ρ = .ok y ∧ f x y = .ok z := by
  unfold bin at h
  split at h
  · rename_i x hx
    split at h
    · rename_i y hy
      exact ⟨x, y, hx, hy, h⟩
    · cases h
  · cases h
/-- the rule r does f -/
def OpS (T : List (Ad × Str)) (K : Fg) (k : Kd) (r : R2) (f : PyData → PyData → Rs PyData) : Prop :=
  ∀ (H : Hp) (M : Ad → Prop) (d e z : PyData) (x y : V), Wp K H M d x → Wp K H M e y → f d e = .ok z → ∀ Q : VK, (∀ v H', Gr T W0 H H' → KR k K H H' M z v → Q v H') → r x y H Q
theorem sp_bin {op : Operator} {r : R2} {f : PyData → PyData → Rs PyData} (ho : OpR X (binaryOp op) r) (hs : OpS c.T X.K k r f) (ha : SP c X k1 a ma) (hb : SP c X k2 b mb) (h1 : k1.nz = true := by rfl) (h2 : k2.nz = true := by rfl) :
    SP c X k (.BinOp a op b pos) (bin f ma mb) := by
  obtain ⟨ta, pa, qa⟩ := ha.ex
  obtain ⟨tb, pb, qb⟩ := hb.ex
  refine ⟨_, pe_op ho pa pb, fun σ H ρ s z h Q q => ?_⟩
  obtain ⟨x, y, hx, hy, hz⟩ := bin_ok h
  refine qa σ H ρ s x hx _ fun v H1 g1 r1 => ?_
  refine qb σ H1 ρ (s.grow g1) y hy _ fun u H2 g2 r2 => ?_
  refine hs H2 (Msk c σ) x y z v u ((r1.w h1).carry g2) (r2.w h2) hz _ fun w H3 g3 r3 => ?_
  exact q w H3 ((g1.trans g2).trans g3) (r3.back fun p e => g1.none p (g2.none p e))
theorem kr_int {K : Fg} {H0 H : Hp} {M : Ad → Prop} {i : Int} : KR .f K H0 H M (.int i) (.int i) := ⟨.int i, (fun _ z => nomatch z), fun _ _ z => nomatch z⟩
theorem kr_bl {K : Fg} {H0 H : Hp} {M : Ad → Prop} {i : Bool} : KR .f K H0 H M (.bool i) (.bl i) := ⟨.bl i, (fun _ z => nomatch z), fun _ _ z => nomatch z⟩
theorem kr_str {K : Fg} {H0 H : Hp} {M : Ad → Prop} {i : Str} : KR .f K H0 H M (.str i) (.str i) := ⟨.str i, (fun _ z => nomatch z), fun _ _ z => nomatch z⟩
theorem kr_non {K : Fg} {H0 H : Hp} {M : Ad → Prop} : KR .f K H0 H M .none .non := ⟨.non, (fun _ z => nomatch z), fun _ _ z => nomatch z⟩
theorem kr_tup {K : Fg} {H0 H : Hp} {M : Ad → Prop} {p : Ad} {ds : List PyData} {vs : List V} (hp : H p = some (.tup vs)) (h0 : H0 p = none) (r : RpL K H M ds vs) : KR .f K H0 H M (.tuple ds) (.ref p) :=
  ⟨.tup (SqT.of hp) r, (fun q z => by cases z; exact h0), fun _ _ _ z => nomatch z⟩
/-- a new object is no masked one -/
theorem nmask {M : Ad → Prop} {H : Hp} {p : Ad} (hm : ∀ a, M a → ∃ xs, H a = some (.lst xs)) (h : H p = none) : ¬ M p := fun z => by
  obtain ⟨xs, e⟩ := hm p z
  rw [h] at e
  cases e
end

/-- a new list, just laid -/
theorem kr_new {K : Fg} {H0 H : Hp} {M : Ad → Prop} {p : Ad} {ds : List PyData} {vs : List V} (hm : ∀ a, M a → ∃ xs, H a = some (.lst xs)) (hn : H p = none) (h0 : H0 p = none) (r : RpL K H M ds vs) : KR .f K H0 (upd H p (.lst vs)) M (.list ds) (.ref p) := by
  have g : Gr [] W0 H (upd H p (.lst vs)) := Gr.new hn
  refine ⟨.lst upd_same (nmask hm hn) (r.carry g.carry0), (fun q z => by cases z; exact h0), fun q es z e => ?_⟩
  cases z
  cases e
  exact ⟨vs, upd_same, r.carry (g.carry (fun _ z => z.elim) (fun _ z => z.elim) fun a z => z.imp_right fun e => by rw [e]; exact hn)⟩
/-! the masks are lists that stand: said once for all readings -/
def OpM (T : List (Ad × Str)) (K : Fg) (k : Kd) (r : R2) (f : PyData → PyData → Rs PyData) : Prop :=
  ∀ (H : Hp) (M : Ad → Prop) (d e z : PyData) (x y : V), (∀ a, M a → ∃ xs, H a = some (.lst xs)) → Wp K H M d x → Wp K H M e y → f d e = .ok z → ∀ Q : VK, (∀ v H', Gr T W0 H H' → KR k K H H' M z v → Q v H') → r x y H Q
section
variable {c : Cfg} {X : Cx} {k k1 k2 k3 : Kd} {e a b e1 e2 e3 : Expr} {m ma mb mc : Sm} {pos p2 : Pos}
theorem SR.mdom {c : Cfg} {K : Fg} {σ : SS} {H : Hp} {ρ : Rho} (s : SR c K σ H ρ) : ∀ a, Msk c σ a → ∃ xs, H a = some (.lst xs) := s.dom
theorem Gr.mdom {T : List (Ad × Str)} {M : Ad → Prop} {H H' : Hp} (g : Gr T W0 H H') (h : ∀ a, M a → ∃ xs, H a = some (.lst xs)) : ∀ a, M a → ∃ xs, H' a = some (.lst xs) := fun a m => by
  obtain ⟨xs, e⟩ := h a m
  exact ⟨xs, g.keep a _ (fun z => z) e fun _ z => nomatch z⟩
theorem sp_binM {op : Operator} {r : R2} {f : PyData → PyData → Rs PyData} (ho : OpR X (binaryOp op) r) (hs : OpM c.T X.K k r f) (ha : SP c X k1 a ma) (hb : SP c X k2 b mb) (h1 : k1.nz = true := by rfl) (h2 : k2.nz = true := by rfl) :
    SP c X k (.BinOp a op b pos) (bin f ma mb) := by
  obtain ⟨ta, pa, qa⟩ := ha.ex
  obtain ⟨tb, pb, qb⟩ := hb.ex
  refine ⟨_, pe_op ho pa pb, fun σ H ρ s z h Q q => ?_⟩
  obtain ⟨x, y, hx, hy, hz⟩ := bin_ok h
  refine qa σ H ρ s x hx _ fun v H1 g1 r1 => ?_
  refine qb σ H1 ρ (s.grow g1) y hy _ fun u H2 g2 r2 => ?_
  refine hs H2 (Msk c σ) x y z v u ((s.grow g1).grow g2).dom ((r1.w h1).carry g2) (r2.w h2) hz _ fun w H3 g3 r3 => ?_
  exact q w H3 ((g1.trans g2).trans g3) (r3.back fun p e => g1.none p (g2.none p e))
/-- + -/
theorem om_add : OpM c.T X.K .f (fun x y H Q => rI0 (fun i j => .int (i + j)) x y H Q ∨ ((∃ i j, x = .str i ∧ y = .str j ∧ i.length + j.length ≤ sizeLine ∧ Q (.str (i ++ j)) H) ∨ rCat x y H Q)) (fun d e => match d, e with
    | .tuple _, .tuple _ => .error .stuck
    | _, _ => addD d e) := by
  intro H M d e z x y hm hx hy hz Q q
  cases d <;> cases e <;> (try (simp only [addD] at hz)) <;> try (cases hz)
  · exact .inl ⟨_, _, hx.int, hy.int, q _ H (Gr.refl H) kr_int⟩
  · split at hz
    · rename_i hl
      cases hz
      exact .inr (.inl ⟨_, _, hx.str, hy.str, big_le hl, q _ H (Gr.refl H) kr_str⟩)
    · cases hz
  · split at hz
    · rename_i hl
      cases hz
      obtain ⟨p, vs, rfl, hp, rp⟩ := hx.lst
      obtain ⟨p2, vs2, rfl, hp2, rp2⟩ := hy.lst
      refine .inr (.inr ⟨p, p2, vs, vs2, rfl, rfl, hp, hp2, big_le (by rw [← rp.length, ← rp2.length]; exact hl), fun l hl => ?_⟩)
      have g : Gr c.T W0 H (upd H l (.lst (vs ++ vs2))) := Gr.new hl
      exact q _ _ g (kr_new hm hl hl (rp.append rp2))
    · cases hz
theorem op_addA : OpR X (binaryOp .Add) (fun x y H Q => rI0 (fun i j => .int (i + j)) x y H Q ∨ ((∃ i j, x = .str i ∧ y = .str j ∧ i.length + j.length ≤ sizeLine ∧ Q (.str (i ++ j)) H) ∨ rCat x y H Q)) := op_add.or (op_add_str.or op_cat)
/-- .. of tuples: perhaps one of both -/
theorem om_addT : OpM c.T X.K .s (fun x y H Q => (rI0 (fun i j => .int (i + j)) x y H Q ∨ ((∃ i j, x = .str i ∧ y = .str j ∧ i.length + j.length ≤ sizeLine ∧ Q (.str (i ++ j)) H) ∨ rCat x y H Q)) ∨ rCatA X.K x y H Q) addD := by
  intro H M d e z x y hm hx hy hz Q q
  by_cases ht : ∃ xs ys, d = .tuple xs ∧ e = .tuple ys
  · obtain ⟨xs, ys, rfl, rfl⟩ := ht
    simp only [addD] at hz
    split at hz
    · rename_i hl
      cases hz
      obtain ⟨p, vs, rfl, hp, rp⟩ := hx.tup
      obtain ⟨p2, vs2, rfl, hp2, rp2⟩ := hy.tup
      refine .inr ⟨p, p2, vs, vs2, rfl, rfl, hp, hp2, big_le (by rw [← rp.length, ← rp2.length]; exact hl), fun e => ?_, fun _ e => ?_, fun _ _ l hl => ?_⟩
      · subst e
        cases rp
        exact q _ H (Gr.refl H) (.tup hp2 rp2)
      · subst e
        cases rp2
        rw [List.append_nil] at q
        exact q _ H (Gr.refl H) (.tup hp rp)
      · have g : Gr c.T W0 H (upd H l (.tup (vs ++ vs2))) := Gr.new hl
        exact q _ _ g (.tup (SqT.of upd_same) ((rp.append rp2).carry g.carry0))
    · cases hz
  · refine .inl (om_add H M d e z x y hm hx hy ?_ Q fun v H' g r => q v H' g r.1)
    cases d <;> cases e <;> first | exact hz | exact absurd ⟨_, _, rfl, rfl⟩ ht
theorem op_addT : OpR X (binaryOp .Add) (fun x y H Q => (rI0 (fun i j => .int (i + j)) x y H Q ∨ ((∃ i j, x = .str i ∧ y = .str j ∧ i.length + j.length ≤ sizeLine ∧ Q (.str (i ++ j)) H) ∨ rCat x y H Q)) ∨ rCatA X.K x y H Q) := op_addA.or op_catA
/-- a + b: of anything -/
theorem sp_add (ha : SP c X k1 a ma) (hb : SP c X k2 b mb) (h1 : k1.nz = true := by rfl) (h2 : k2.nz = true := by rfl) : SP c X .s (.BinOp a .Add b pos) (bin addD ma mb) := sp_binM op_addT om_addT ha hb h1 h2
/-- .. known to be no tuples: what comes is new -/
def addN (d e : PyData) : Rs PyData := match d, e with
    | .tuple _, .tuple _ => .error .stuck
    | _, _ => addD d e
theorem sp_addN (ha : SP c X k1 a ma) (hb : SP c X k2 b mb) (h1 : k1.nz = true := by rfl) (h2 : k2.nz = true := by rfl) : SP c X .f (.BinOp a .Add b pos) (bin addN ma mb) := sp_binM op_addA om_add ha hb h1 h2
theorem op_subB : OpR X (binaryOp .Sub) (fun x y H Q => ∃ i j, x = .bl i ∧ y = .bl j ∧ Q (.int ((if i then 1 else 0) - (if j then 1 else 0))) H) := by
  intro pins s σ H x y v u Q I rx ry h
  obtain ⟨i, j, rfl, rfl, q⟩ := h
  cases rx
  cases ry
  exact PyProof.Rows.sub_bool ⟨.int _, H, I.tok _, ⟨_, rfl⟩, q⟩
theorem om_sub : OpM c.T X.K .f (fun x y H Q => rI0 (fun i j => .int (i - j)) x y H Q ∨ (∃ i j, x = .bl i ∧ y = .bl j ∧ Q (.int ((if i then 1 else 0) - (if j then 1 else 0))) H)) subD := by
  intro H M d e z x y hm hx hy hz Q q
  cases d <;> cases e <;> (try (simp only [subD] at hz)) <;> try (cases hz)
  · exact .inr ⟨_, _, hx.bl, hy.bl, q _ H (Gr.refl H) kr_int⟩
  · exact .inl ⟨_, _, hx.int, hy.int, q _ H (Gr.refl H) kr_int⟩
theorem sp_sub (ha : SP c X k1 a ma) (hb : SP c X k2 b mb) (h1 : k1.nz = true := by rfl) (h2 : k2.nz = true := by rfl) : SP c X .f (.BinOp a .Sub b pos) (bin subD ma mb) := sp_binM (op_sub.or op_subB) om_sub ha hb h1 h2
theorem om_mul : OpM c.T X.K .f (fun x y H Q => rI CMulW (fun i j => .int (i * j)) x y H Q ∨ rRep x y H Q) mulD := by
  intro H M d e z x y hm hx hy hz Q q
  cases d <;> cases e <;> (try (simp only [mulD] at hz)) <;> try (cases hz)
  · split at hz
    · rename_i hl
      cases hz
      exact .inl ⟨_, _, hx.int, hy.int, hl, q _ H (Gr.refl H) kr_int⟩
    · cases hz
  · split at hz
    · rename_i hl
      cases hz
      obtain ⟨p, vs, rfl, hp, rp⟩ := hx.lst
      refine .inr ⟨p, _, vs, rfl, hy.int, hp, hl.1, hl.2.1, big_le (by rw [← rp.length]; exact hl.2.2), fun l hl => ?_⟩
      rename_i xs0 k0 _
      have g : Gr c.T W0 H (upd H l (.lst (List.replicate k0.toNat vs).flatten)) := Gr.new hl
      refine q _ _ g (kr_new hm hl hl ?_)
      have rr : ∀ n : Nat, RpL X.K H M (List.replicate n xs0).flatten (List.replicate n vs).flatten := fun n => by
        induction n with
        | zero => exact .nil
        | succ n ih => rw [List.replicate_succ, List.replicate_succ, List.flatten_cons, List.flatten_cons]; exact rp.append ih
      exact rr _
    · cases hz
theorem sp_mul (ha : SP c X k1 a ma) (hb : SP c X k2 b mb) (h1 : k1.nz = true := by rfl) (h2 : k2.nz = true := by rfl) : SP c X .f (.BinOp a .Mult b pos) (bin mulD ma mb) := sp_binM (op_mulW.or op_rep) om_mul ha hb h1 h2
theorem om_fdiv : OpM c.T X.K .f (fun x y H Q => rI CDivW (fun i j => .int (i / j)) x y H Q ∨ rI CDivN (fun i j => .int (i.fdiv j)) x y H Q) fdivD := by
  intro H M d e z x y hm hx hy hz Q q
  cases d <;> cases e <;> (try (simp only [fdivD] at hz)) <;> try (cases hz)
  split at hz
  · rename_i hl
    cases hz
    exact .inl ⟨_, _, hx.int, hy.int, hl, q _ H (Gr.refl H) kr_int⟩
  · split at hz
    · rename_i hl
      cases hz
      exact .inr ⟨_, _, hx.int, hy.int, hl, q _ H (Gr.refl H) kr_int⟩
    · cases hz
theorem sp_fdiv (ha : SP c X k1 a ma) (hb : SP c X k2 b mb) (h1 : k1.nz = true := by rfl) (h2 : k2.nz = true := by rfl) : SP c X .f (.BinOp a .FloorDiv b pos) (bin fdivD ma mb) := sp_binM (op_fdivW.or op_fdivN) om_fdiv ha hb h1 h2
theorem om_mod : OpM c.T X.K .f (fun x y H Q => rI (fun _ j => 0 < j) (fun i j => .int (i % j)) x y H Q ∨ rI (fun _ j => j ≠ 0) (fun i j => .int (i.fmod j)) x y H Q) modD := by
  intro H M d e z x y hm hx hy hz Q q
  cases d <;> cases e <;> (try (simp only [modD] at hz)) <;> try (cases hz)
  split at hz
  · rename_i hl
    cases hz
    exact .inl ⟨_, _, hx.int, hy.int, hl, q _ H (Gr.refl H) kr_int⟩
  · split at hz
    · rename_i hl
      cases hz
      exact .inr ⟨_, _, hx.int, hy.int, hl, q _ H (Gr.refl H) kr_int⟩
    · cases hz
theorem sp_mod (ha : SP c X k1 a ma) (hb : SP c X k2 b mb) (h1 : k1.nz = true := by rfl) (h2 : k2.nz = true := by rfl) : SP c X .f (.BinOp a .Mod b pos) (bin modD ma mb) := sp_binM (op_mod.or op_modN) om_mod ha hb h1 h2
theorem om_pow : OpM c.T X.K .f (rI CPow fun i j => .int (i ^ j.toNat)) powD := by
  intro H M d e z x y hm hx hy hz Q q
  cases d <;> cases e <;> (try (simp only [powD] at hz)) <;> try (cases hz)
  split at hz
  · rename_i hl
    cases hz
    exact ⟨_, _, hx.int, hy.int, hl, q _ H (Gr.refl H) kr_int⟩
  · cases hz
theorem sp_pow (ha : SP c X k1 a ma) (hb : SP c X k2 b mb) (h1 : k1.nz = true := by rfl) (h2 : k2.nz = true := by rfl) : SP c X .f (.BinOp a .Pow b pos) (bin powD ma mb) := sp_binM op_pow om_pow ha hb h1 h2
end
end DL

set_option Elab.async false
set_option linter.all false
set_option maxRecDepth 100000
set_option maxHeartbeats 1000000
/-! DL3: comparisons, tests, subscripts, slices, displays, isinstance, calls: the pure rules. -/
namespace DL
open PySem PySem.Spec PyProof.Rows L2

section
variable {c : Cfg} {X : Cx} {k k1 k2 k3 : Kd} {e a b e1 e2 e3 : Expr} {m ma mb mc : Sm} {pos p2 : Pos}
/-! ### comparisons -/
/-- the rule r does f: of any values; what comes is a bool -/
def OpC (K : Fg) (r : R2) (f : PyData → PyData → Rs PyData) : Prop :=
  ∀ (H : Hp) (M : Ad → Prop) (d e z : PyData) (x y : V), Zp K H M d x → Zp K H M e y → f d e = .ok z → ∃ b, z = .bool b ∧ ∀ Q : VK, Q (.bl b) H → r x y H Q
theorem sp_cmp {op : CmpOp} {r : R2} {f : PyData → PyData → Rs PyData} (ho : OpR X (compareOp op) r) (hs : OpC X.K r f) (ha : SP c X k1 a ma) (hb : SP c X k2 b mb) (hm : behindInMarks op b = false) :
    SP c X .f (.Compare a [op] [b] pos) (bin f ma mb) := by
  obtain ⟨ta, pa, qa⟩ := ha.ex
  obtain ⟨tb, pb, qb⟩ := hb.ex
  refine ⟨_, pe_cmpR ho pa pb hm, fun σ H ρ s z h Q q => ?_⟩
  obtain ⟨x, y, hx, hy, hz⟩ := bin_ok h
  refine qa σ H ρ s x hx _ fun v H1 g1 r1 => ?_
  refine qb σ H1 ρ (s.grow g1) y hy _ fun u H2 g2 r2 => ?_
  obtain ⟨bb, rfl, hr⟩ := hs H2 (Msk c σ) x y z v u (r1.z.carry g2) r2.z hz
  exact hr Q (q _ H2 (g1.trans g2) kr_bl)
def boolOf : Rs PyData → Rs Bool
  | .ok (.bool b) => .ok b
  | _ => .error .stuck
theorem boolOf_ok {r : Rs PyData} {b : Bool} (h : boolOf r = .ok b) : r = .ok (.bool b) := by
  unfold boolOf at h
  split at h
  · cases h; rfl
  · cases h
theorem spt_cmp {op : CmpOp} {r : R2} {f : PyData → PyData → Rs PyData} (ho : OpR X (compareOp op) r) (hs : OpC X.K r f) (ha : SP c X k1 a ma) (hb : SP c X k2 b mb) (hm : behindInMarks op b = false) :
    SPT c X (.Compare a [op] [b] pos) (fun ρ => boolOf (bin f ma mb ρ)) := by
  obtain ⟨ta, pa, qa⟩ := ha.ex
  obtain ⟨tb, pb, qb⟩ := hb.ex
  refine ⟨_, pt_cmpR ho pa pb hm, fun σ H ρ s z h Q q => ?_⟩
  obtain ⟨x, y, hx, hy, hz⟩ := bin_ok (boolOf_ok h)
  refine qa σ H ρ s x hx _ fun v H1 g1 r1 => ?_
  refine qb σ H1 ρ (s.grow g1) y hy _ fun u H2 g2 r2 => ?_
  obtain ⟨bb, e, hr⟩ := hs H2 (Msk c σ) x y _ v u (r1.z.carry g2) r2.z hz
  cases e
  exact hr _ ⟨_, rfl, q H2 (g1.trans g2)⟩
theorem oc_eq : OpC X.K (rEqD X.K) eqD := by
  intro H M d e z x y hx hy hz
  unfold eqD at hz
  split at hz
  · rename_i h
    obtain ⟨h1, h2⟩ := Bool.and_eq_true_iff.mp h
    cases hz
    exact ⟨_, rfl, fun Q q => ⟨d, e, hx.dp, hy.dp, okD_shaped h1, okD_shaped h2, q⟩⟩
  · cases hz
theorem oc_ne : OpC X.K (rNeD X.K) neD := by
  intro H M d e z x y hx hy hz
  unfold neD at hz
  split at hz
  · rename_i h
    obtain ⟨h1, h2⟩ := Bool.and_eq_true_iff.mp h
    cases hz
    exact ⟨_, rfl, fun Q q => ⟨d, e, hx.dp, hy.dp, okD_shaped h1, okD_shaped h2, q⟩⟩
  · cases hz
theorem Zp.int {K : Fg} {H : Hp} {M : Ad → Prop} {i : Int} {v : V} (h : Zp K H M (.int i) v) : v = .int i := (h.of fun _ z => nomatch z).int
theorem Zp.bl {K : Fg} {H : Hp} {M : Ad → Prop} {i : Bool} {v : V} (h : Zp K H M (.bool i) v) : v = .bl i := (h.of fun _ z => nomatch z).bl
theorem Zp.str {K : Fg} {H : Hp} {M : Ad → Prop} {i : Str} {v : V} (h : Zp K H M (.str i) v) : v = .str i := (h.of fun _ z => nomatch z).str
theorem Zp.non {K : Fg} {H : Hp} {M : Ad → Prop} {v : V} (h : Zp K H M .none v) : v = .non := (h.of fun _ z => nomatch z).non
theorem Zp.tup {K : Fg} {H : Hp} {M : Ad → Prop} {ds : List PyData} {v : V} (h : Zp K H M (.tuple ds) v) : ∃ p vs, v = .ref p ∧ SqT K H p vs ∧ RpL K H M ds vs := (h.of fun _ z => nomatch z).tup
theorem Zp.isnon {K : Fg} {H : Hp} {M : Ad → Prop} {d : PyData} {v : V} (h : Zp K H M d v) : decide (v = .non) = isNoneD d := by
  rcases h with h | ⟨_, p, vs, rfl, rfl, hp, r⟩
  · rw [h.isnon]
    cases d <;> rfl
  · rfl
theorem oc_lt : OpC X.K (rI0 fun i j => .bl (decide (i < j))) ltD := by
  intro H M d e z x y hx hy hz
  cases d <;> cases e <;> (try (simp only [ltD] at hz)) <;> try (cases hz)
  exact ⟨_, rfl, fun Q q => ⟨_, _, hx.int, hy.int, q⟩⟩
theorem oc_le : OpC X.K (rI0 fun i j => .bl (decide (i ≤ j))) leD := by
  intro H M d e z x y hx hy hz
  cases d <;> cases e <;> (try (simp only [leD] at hz)) <;> try (cases hz)
  exact ⟨_, rfl, fun Q q => ⟨_, _, hx.int, hy.int, q⟩⟩
theorem oc_gt : OpC X.K (rI0 fun i j => .bl (decide (j < i))) gtD := by
  intro H M d e z x y hx hy hz
  cases d <;> cases e <;> (try (simp only [gtD] at hz)) <;> try (cases hz)
  exact ⟨_, rfl, fun Q q => ⟨_, _, hx.int, hy.int, q⟩⟩
theorem oc_ge : OpC X.K (rI0 fun i j => .bl (decide (j ≤ i))) geD := by
  intro H M d e z x y hx hy hz
  cases d <;> cases e <;> (try (simp only [geD] at hz)) <;> try (cases hz)
  exact ⟨_, rfl, fun Q q => ⟨_, _, hx.int, hy.int, q⟩⟩
theorem op_inDD (hu : X.A.units + 65 < cLine) : OpR X (compareOp .In) (fun x y H Q => ∃ d ds, Dp X.K H x d ∧ (Dp X.K H y (.list ds) ∨ Dp X.K H y (.tuple ds)) ∧ SeqAt.shaped d = true ∧ PyData.canLayAll0 ds = true ∧ Q (.bl (memD d ds)) H) := by
  intro pins s σ H x y v u Q I rx ry h
  obtain ⟨d, ds, hd, he, sd, se, q⟩ := h
  obtain ⟨as, r1⟩ := Dp.reads I d x v hd rx
  rcases he with he | he
  · obtain ⟨bs, r2⟩ := Dp.reads I (.list ds) y u he ry
    exact SeqAt.in_list_reads r2 r1 se (SeqAt.canLay_of_shaped sd) (room_in_shaped sd hu) ⟨.bl _, H, I, rfl, q⟩
  · obtain ⟨bs, r2⟩ := Dp.reads I (.tuple ds) y u he ry
    exact SeqAt.in_tuple_reads r2 r1 se (SeqAt.canLay_of_shaped sd) (room_in_shaped sd hu) ⟨.bl _, H, I, rfl, q⟩
theorem op_ninDD (hu : X.A.units + 65 < cLine) : OpR X (compareOp .NotIn) (fun x y H Q => ∃ d ds, Dp X.K H x d ∧ (Dp X.K H y (.list ds) ∨ Dp X.K H y (.tuple ds)) ∧ SeqAt.shaped d = true ∧ PyData.canLayAll0 ds = true ∧ Q (.bl (!memD d ds)) H) := by
  intro pins s σ H x y v u Q I rx ry h
  obtain ⟨d, ds, hd, he, sd, se, q⟩ := h
  obtain ⟨as, r1⟩ := Dp.reads I d x v hd rx
  rcases he with he | he
  · obtain ⟨bs, r2⟩ := Dp.reads I (.list ds) y u he ry
    exact SeqAt.notIn_list_reads r2 r1 se (SeqAt.canLay_of_shaped sd) (room_in_shaped sd hu) ⟨.bl _, H, I, rfl, q⟩
  · obtain ⟨bs, r2⟩ := Dp.reads I (.tuple ds) y u he ry
    exact SeqAt.notIn_tuple_reads r2 r1 se (SeqAt.canLay_of_shaped sd) (room_in_shaped sd hu) ⟨.bl _, H, I, rfl, q⟩
theorem okAll_lay {xs : List PyData} (h : xs.all okD = true) : PyData.canLayAll0 xs = true := lay_all fun x hx => (okN_lay 20 x (List.all_eq_true.mp h x hx)).1
theorem oc_in : OpC X.K (fun x y H Q => ∃ d ds, Dp X.K H x d ∧ (Dp X.K H y (.list ds) ∨ Dp X.K H y (.tuple ds)) ∧ SeqAt.shaped d = true ∧ PyData.canLayAll0 ds = true ∧ Q (.bl (memD d ds)) H) inD := by
  intro H M d e z x y hx hy hz
  cases e <;> (try (simp only [inD] at hz)) <;> try (cases hz)
  all_goals
    split at hz
    · rename_i h
      obtain ⟨h1, h2⟩ := Bool.and_eq_true_iff.mp h
      cases hz
      first
        | exact ⟨_, rfl, fun Q q => ⟨d, _, hx.dp, .inl hy.dp, okD_shaped h1, okAll_lay h2, q⟩⟩
        | exact ⟨_, rfl, fun Q q => ⟨d, _, hx.dp, .inr hy.dp, okD_shaped h1, okAll_lay h2, q⟩⟩
    · cases hz
theorem oc_nin : OpC X.K (fun x y H Q => ∃ d ds, Dp X.K H x d ∧ (Dp X.K H y (.list ds) ∨ Dp X.K H y (.tuple ds)) ∧ SeqAt.shaped d = true ∧ PyData.canLayAll0 ds = true ∧ Q (.bl (!memD d ds)) H) ninD := by
  intro H M d e z x y hx hy hz
  cases e <;> (try (simp only [ninD] at hz)) <;> try (cases hz)
  all_goals
    split at hz
    · rename_i h
      obtain ⟨h1, h2⟩ := Bool.and_eq_true_iff.mp h
      cases hz
      first
        | exact ⟨_, rfl, fun Q q => ⟨d, _, hx.dp, .inl hy.dp, okD_shaped h1, okAll_lay h2, q⟩⟩
        | exact ⟨_, rfl, fun Q q => ⟨d, _, hx.dp, .inr hy.dp, okD_shaped h1, okAll_lay h2, q⟩⟩
    · cases hz
def isD (d e : PyData) : Rs PyData := match e with
  | .none => .ok (.bool (isNoneD d))
  | _ => .error .stuck
def isnD (d e : PyData) : Rs PyData := match e with
  | .none => .ok (.bool (!isNoneD d))
  | _ => .error .stuck
theorem oc_is : OpC X.K (fun x y H Q => y = .non ∧ Q (.bl (decide (x = .non))) H) isD := by
  intro H M d e z x y hx hy hz
  cases e <;> simp only [isD] at hz <;> try (cases hz)
  exact ⟨_, rfl, fun Q q => ⟨hy.non, by rw [hx.isnon]; exact q⟩⟩
theorem oc_isn : OpC X.K (fun x y H Q => y = .non ∧ Q (.bl (!decide (x = .non))) H) isnD := by
  intro H M d e z x y hx hy hz
  cases e <;> simp only [isnD] at hz <;> try (cases hz)
  exact ⟨_, rfl, fun Q q => ⟨hy.non, by rw [hx.isnon]; exact q⟩⟩

/-! a op1 b op2 c -/
def chn (f g : PyData → PyData → Rs PyData) (a b c' : Sm) : Sm := fun ρ => match a ρ with
  | .ok x => (match b ρ with
    | .ok y => (match f x y with
      | .ok (.bool true) => (match c' ρ with
        | .ok w => g y w
        | .error e => .error e)
      | .ok (.bool false) => .ok (.bool false)
      | .ok _ => .error .stuck
      | .error e => .error e)
    | .error e => .error e)
  | .error e => .error e
theorem sp_chain {op op' : CmpOp} {r r' : R2} {f g : PyData → PyData → Rs PyData} (ho : OpR X (compareOp op) r) (ho' : OpR X (compareOp op') r') (hs : OpC X.K r f) (hs' : OpC X.K r' g) (ha : SP c X k1 a ma) (hb : SP c X k2 b mb) (hc : SP c X k3 e mc)
    (hm : lastMarks [op, op'] [b, e] = false := by with_unfolding_all rfl) : SP c X .f (.Compare a [op, op'] [b, e] pos) (chn f g ma mb mc) := by
  obtain ⟨ta, pa, qa⟩ := ha.ex
  obtain ⟨tb, pb, qb⟩ := hb.ex
  obtain ⟨tc, pc, qc⟩ := hc.ex
  refine ⟨_, pe_chain ho ho' pa pb pc hm, fun σ H ρ s z h Q q => ?_⟩
  unfold chn at h
  split at h <;> try (cases h)
  rename_i x hx
  split at h <;> try (cases h)
  rename_i y hy
  refine qa σ H ρ s x hx _ fun v H1 g1 r1 => ?_
  refine qb σ H1 ρ (s.grow g1) y hy _ fun u H2 g2 r2 => ?_
  split at h <;> try (cases h)
  · rename_i hf
    split at h <;> try (cases h)
    rename_i w hw
    obtain ⟨bb, e1, hr⟩ := hs H2 (Msk c σ) x y _ v u (r1.z.carry g2) r2.z hf
    cases e1
    refine hr _ ⟨true, rfl, iteT ?_⟩
    refine qc σ H2 ρ ((s.grow g1).grow g2) w hw _ fun w' H3 g3 r3 => ?_
    obtain ⟨bb, rfl, hr'⟩ := hs' H3 (Msk c σ) y w z u w' (r2.z.carry g3) r3.z h
    exact hr' Q (q _ H3 ((g1.trans g2).trans g3) kr_bl)
  · rename_i hf
    obtain ⟨bb, e1, hr⟩ := hs H2 (Msk c σ) x y _ v u (r1.z.carry g2) r2.z hf
    cases e1
    exact hr _ ⟨false, rfl, iteF (q _ H2 (g1.trans g2) kr_bl)⟩
theorem spt_chain {op op' : CmpOp} {r r' : R2} {f g : PyData → PyData → Rs PyData} (ho : OpR X (compareOp op) r) (ho' : OpR X (compareOp op') r') (hs : OpC X.K r f) (hs' : OpC X.K r' g) (ha : SP c X k1 a ma) (hb : SP c X k2 b mb) (hc : SP c X k3 e mc)
    (hm : lastMarks [op, op'] [b, e] = false := by with_unfolding_all rfl) : SPT c X (.Compare a [op, op'] [b, e] pos) (fun ρ => boolOf (chn f g ma mb mc ρ)) := by
  obtain ⟨ta, pa, qa⟩ := ha.ex
  obtain ⟨tb, pb, qb⟩ := hb.ex
  obtain ⟨tc, pc, qc⟩ := hc.ex
  refine ⟨_, pt_chain ho ho' pa pb pc hm, fun σ H ρ s z h Q q => ?_⟩
  have h := boolOf_ok h
  unfold chn at h
  split at h <;> try (cases h)
  rename_i x hx
  split at h <;> try (cases h)
  rename_i y hy
  refine qa σ H ρ s x hx _ fun v H1 g1 r1 => ?_
  refine qb σ H1 ρ (s.grow g1) y hy _ fun u H2 g2 r2 => ?_
  split at h <;> try (cases h)
  · rename_i hf
    split at h <;> try (cases h)
    rename_i w hw
    obtain ⟨bb, e1, hr⟩ := hs H2 (Msk c σ) x y _ v u (r1.z.carry g2) r2.z hf
    cases e1
    refine hr _ ⟨true, rfl, iteT ?_⟩
    refine qc σ H2 ρ ((s.grow g1).grow g2) w hw _ fun w' H3 g3 r3 => ?_
    obtain ⟨bb, e2, hr'⟩ := hs' H3 (Msk c σ) y w _ u w' (r2.z.carry g3) r3.z h
    cases e2
    exact hr' _ ⟨_, rfl, q H3 ((g1.trans g2).trans g3)⟩
  · rename_i hf
    obtain ⟨bb, e1, hr⟩ := hs H2 (Msk c σ) x y _ v u (r1.z.carry g2) r2.z hf
    cases e1
    exact hr _ ⟨false, rfl, iteF ⟨_, rfl, q H2 (g1.trans g2)⟩⟩

/-! ### one-place operators -/
def negS (m : Sm) : Sm := fun ρ => match m ρ with
  | .ok (.int i) => .ok (.int (-i))
  | .ok _ => .error .stuck
  | .error e => .error e
theorem sp_neg (ha : SP c X k1 a ma) : SP c X .f (.UnaryOp .USub a pos) (negS ma) := by
  obtain ⟨ta, pa, qa⟩ := ha.ex
  refine ⟨_, pe_un un_neg pa, fun σ H ρ s z h Q q => ?_⟩
  unfold negS at h
  split at h <;> try (cases h)
  rename_i i hi
  refine qa σ H ρ s _ hi _ fun v H1 g1 r1 => ?_
  exact ⟨i, r1.z.int, q _ H1 g1 kr_int⟩

/-! ### tests -/
def tsv (m : Sm) : SmT := fun ρ => boolOf (m ρ)
theorem spt_val (ha : SP c X k1 a ma) (he : ∀ whole, isTrue a X.env whole = (do let v ← whole; standAt a.pos; holding [v] (truthy v)) := by intro _; rfl) : SPT c X a (tsv ma) := by
  obtain ⟨ta, pa, qa⟩ := ha.ex
  refine ⟨_, pt_val pa he, fun σ H ρ s z h Q q => ?_⟩
  refine qa σ H ρ s _ (boolOf_ok h) _ fun v H1 g1 r1 => ?_
  exact ⟨_, r1.z.bl, q H1 g1⟩
def tand (m n : SmT) : SmT := fun ρ => match m ρ with
  | .ok true => n ρ
  | .ok false => .ok false
  | .error e => .error e
def tor (m n : SmT) : SmT := fun ρ => match m ρ with
  | .ok false => n ρ
  | .ok true => .ok true
  | .error e => .error e
def tnot (m : SmT) : SmT := fun ρ => match m ρ with
  | .ok b => .ok (!b)
  | .error e => .error e
structure SPW (c : Cfg) (X : Cx) (e : Expr) (m : SmT) : Prop where
  ex : ∃ t : TT, PW X e t ∧ ∀ (σ : SS) (H : Hp) (ρ : Rho), SR c X.K σ H ρ → ∀ b, m ρ = .ok b → ∀ Q : Bool → Hp → Prop, (∀ H', Gr c.T W0 H H' → Q b H') → t σ H Q
variable {mt nt : SmT} {rest : List Expr}
theorem SPW.t (h : SPW c X e mt) : SPT c X e mt := by
  obtain ⟨t, p, q⟩ := h.ex
  exact ⟨t, p.pt, q⟩
theorem spw_and1 (ha : SPT c X a mt) : SPW c X (.BoolOp .And [a] pos) mt := by
  obtain ⟨t, p, q⟩ := ha.ex
  exact ⟨t, pw_and1 p, q⟩
theorem spw_or1 (ha : SPT c X a mt) : SPW c X (.BoolOp .Or [a] pos) mt := by
  obtain ⟨t, p, q⟩ := ha.ex
  exact ⟨t, pw_or1 p, q⟩
theorem spw_and (ha : SPT c X a mt) (hb : SPW c X (.BoolOp .And (b :: rest) pos) nt) : SPW c X (.BoolOp .And (a :: b :: rest) pos) (tand mt nt) := by
  obtain ⟨t, p, q⟩ := ha.ex
  obtain ⟨t2, p2, q2⟩ := hb.ex
  refine ⟨_, pw_and p p2, fun σ H ρ s z h Q w => ?_⟩
  unfold tand at h
  split at h <;> try (cases h)
  · rename_i hm
    exact q σ H ρ s true hm _ fun H1 g1 => iteT (q2 σ H1 ρ (s.grow g1) z h Q fun H2 g2 => w H2 (g1.trans g2))
  · rename_i hm
    exact q σ H ρ s false hm _ fun H1 g1 => iteF (w H1 g1)
theorem spw_or (ha : SPT c X a mt) (hb : SPW c X (.BoolOp .Or (b :: rest) pos) nt) : SPW c X (.BoolOp .Or (a :: b :: rest) pos) (tor mt nt) := by
  obtain ⟨t, p, q⟩ := ha.ex
  obtain ⟨t2, p2, q2⟩ := hb.ex
  refine ⟨_, pw_or p p2, fun σ H ρ s z h Q w => ?_⟩
  unfold tor at h
  split at h <;> try (cases h)
  · rename_i hm
    exact q σ H ρ s false hm _ fun H1 g1 => iteF (q2 σ H1 ρ (s.grow g1) z h Q fun H2 g2 => w H2 (g1.trans g2))
  · rename_i hm
    exact q σ H ρ s true hm _ fun H1 g1 => iteT (w H1 g1)
theorem spt_not (ha : SPT c X a mt) : SPT c X (.UnaryOp .Not a pos) (tnot mt) := by
  obtain ⟨t, p, q⟩ := ha.ex
  refine ⟨_, pt_not p, fun σ H ρ s z h Q w => ?_⟩
  unfold tnot at h
  split at h <;> cases h
  rename_i b hm
  exact q σ H ρ s b hm _ fun H1 g1 => w H1 g1
/-! .. as values, of bools -/
def andS (m n : Sm) : Sm := fun ρ => match m ρ with
  | .ok (.bool true) => n ρ
  | .ok (.bool false) => .ok (.bool false)
  | .ok _ => .error .stuck
  | .error e => .error e
def orS (m n : Sm) : Sm := fun ρ => match m ρ with
  | .ok (.bool false) => n ρ
  | .ok (.bool true) => .ok (.bool true)
  | .ok _ => .error .stuck
  | .error e => .error e
def notS (m : Sm) : Sm := fun ρ => match m ρ with
  | .ok (.bool b) => .ok (.bool (!b))
  | .ok _ => .error .stuck
  | .error e => .error e
theorem sp_one {op : BoolOp} (ha : SP c X k1 a ma) : SP c X k1 (.BoolOp op [a] pos) ma := by
  obtain ⟨t, p, q⟩ := ha.ex
  exact ⟨t, pe_one p, q⟩
theorem sp_and (ha : SP c X k1 a ma) (hb : SP c X k2 (.BoolOp .And (b :: rest) pos) mb) (h2 : k2.st = true := by rfl) : SP c X .s (.BoolOp .And (a :: b :: rest) pos) (andS ma mb) := by
  obtain ⟨t, p, q⟩ := ha.ex
  obtain ⟨t2, p2, q2⟩ := hb.ex
  refine ⟨_, pe_and p p2, fun σ H ρ s z h Q w => ?_⟩
  unfold andS at h
  split at h <;> try (cases h)
  · rename_i hm
    refine q σ H ρ s _ hm _ fun v H1 g1 r1 => ⟨true, r1.z.bl, iteT ?_⟩
    exact q2 σ H1 ρ (s.grow g1) z h Q fun u H2 g2 r2 => w u H2 (g1.trans g2) (r2.st h2)
  · rename_i hm
    exact q σ H ρ s _ hm _ fun v H1 g1 r1 => ⟨false, r1.z.bl, iteF (w _ H1 g1 (.bl false))⟩
theorem sp_or (ha : SP c X k1 a ma) (hb : SP c X k2 (.BoolOp .Or (b :: rest) pos) mb) (h2 : k2.st = true := by rfl) : SP c X .s (.BoolOp .Or (a :: b :: rest) pos) (orS ma mb) := by
  obtain ⟨t, p, q⟩ := ha.ex
  obtain ⟨t2, p2, q2⟩ := hb.ex
  refine ⟨_, pe_or p p2, fun σ H ρ s z h Q w => ?_⟩
  unfold orS at h
  split at h <;> try (cases h)
  · rename_i hm
    refine q σ H ρ s _ hm _ fun v H1 g1 r1 => ⟨false, r1.z.bl, iteF ?_⟩
    exact q2 σ H1 ρ (s.grow g1) z h Q fun u H2 g2 r2 => w u H2 (g1.trans g2) (r2.st h2)
  · rename_i hm
    exact q σ H ρ s _ hm _ fun v H1 g1 r1 => ⟨true, r1.z.bl, iteT (w _ H1 g1 (.bl true))⟩
theorem sp_not (ha : SP c X k1 a ma) : SP c X .f (.UnaryOp .Not a pos) (notS ma) := by
  obtain ⟨t, p, q⟩ := ha.ex
  refine ⟨_, pe_not p, fun σ H ρ s z h Q w => ?_⟩
  unfold notS at h
  split at h <;> cases h
  rename_i b hm
  exact q σ H ρ s _ hm _ fun v H1 g1 r1 => ⟨b, r1.z.bl, w _ H1 g1 kr_bl⟩
/-! a if t else b -/
def ifS (t : SmT) (m n : Sm) : Sm := fun ρ => match t ρ with
  | .ok true => m ρ
  | .ok false => n ρ
  | .error e => .error e
theorem sp_if (ht : SPT c X e mt) (ha : SP c X k1 a ma) (hb : SP c X k2 b mb) (h1 : k1.st = true := by rfl) (h2 : k2.st = true := by rfl) : SP c X .s (.IfExp e a b pos) (ifS mt ma mb) := by
  obtain ⟨t, p, q⟩ := ht.ex
  obtain ⟨t1, p1, q1⟩ := ha.ex
  obtain ⟨t2, p2, q2⟩ := hb.ex
  refine ⟨_, pe_ifExp p p1 p2, fun σ H ρ s z h Q w => ?_⟩
  unfold ifS at h
  split at h <;> try (cases h)
  · rename_i hm
    exact q σ H ρ s _ hm _ fun H1 g1 => iteT (q1 σ H1 ρ (s.grow g1) z h Q fun u H2 g2 r2 => w u H2 (g1.trans g2) (r2.st h1))
  · rename_i hm
    exact q σ H ρ s _ hm _ fun H1 g1 => iteF (q2 σ H1 ρ (s.grow g1) z h Q fun u H2 g2 r2 => w u H2 (g1.trans g2) (r2.st h2))

/-! ### subscripts -/
def ixD : PyData → PyData → Rs PyData
  | .list xs, .int i => match atI xs i with
    | some d => .ok d
    | none => .error .stuck
  | .tuple xs, .int i => match atI xs i with
    | some d => .ok d
    | none => .error .stuck
  | _, _ => .error .stuck
theorem atI_rp {K : Fg} {H : Hp} {M : Ad → Prop} {ds : List PyData} {vs : List V} {i : Int} {d : PyData} (r : RpL K H M ds vs) (h : atI ds i = some d) : ∃ v, atI vs i = some v ∧ Rp K H M d v := by
  unfold atI at h ⊢
  rw [← r.length]
  cases e : ixN ds.length i with
  | none => rw [e] at h; cases h
  | some j =>
    rw [e] at h
    exact r.get h
theorem sp_ix (ha : SP c X k1 a ma) (hb : SP c X k2 b mb) (hp : PlainIx b := by exact fun _ _ => rfl) : SP c X .s (.Subscript a b pos) (bin ixD ma mb) := by
  obtain ⟨ta, pa, qa⟩ := ha.ex
  obtain ⟨tb, pb, qb⟩ := hb.ex
  refine ⟨_, pe_ix (ix_list.or ix_tup) pa pb hp, fun σ H ρ s z h Q q => ?_⟩
  obtain ⟨x, y, hx, hy, hz⟩ := bin_ok h
  refine qa σ H ρ s x hx _ fun v H1 g1 r1 => ?_
  refine qb σ H1 ρ (s.grow g1) y hy _ fun u H2 g2 r2 => ?_
  have rx := r1.z.carry g2
  have ry := r2.z
  cases x <;> cases y <;> (try (simp only [ixD] at hz)) <;> try (cases hz)
  all_goals
    split at hz <;> cases hz
    rename_i hd
  · obtain ⟨p, vs, rfl, hq, rr⟩ := rx.lst
    obtain ⟨w, hw, rw'⟩ := atI_rp rr hd
    exact .inl ⟨p, vs, _, w, rfl, ry.int, hq, hw, q w H2 (g1.trans g2) rw'⟩
  · obtain ⟨p, vs, rfl, hq, rr⟩ := rx.tup
    obtain ⟨w, hw, rw'⟩ := atI_rp rr hd
    exact .inr ⟨p, vs, _, w, rfl, ry.int, hq, hw, q w H2 (g1.trans g2) rw'⟩
/-! slices -/
abbrev SmO := Rho → Rs (Option Int)
structure SPO (c : Cfg) (X : Cx) (e : Option Expr) (m : SmO) : Prop where
  ex : ∃ t : TO, PO X e t ∧ ∀ (σ : SS) (H : Hp) (ρ : Rho), SR c X.K σ H ρ → ∀ o, m ρ = .ok o → ∀ Q : Option Int → Hp → Prop, (∀ H', Gr c.T W0 H H' → Q o H') → t σ H Q
def onone : SmO := fun _ => .ok none
def osome (m : Sm) : SmO := fun ρ => match m ρ with
  | .ok (.int i) => .ok (some i)
  | .ok _ => .error .stuck
  | .error e => .error e
theorem spo_none : SPO c X none onone := ⟨_, po_none, fun σ H ρ s o h Q q => by cases h; exact q H (Gr.refl H)⟩
theorem spo_some (ha : SP c X k1 a ma) : SPO c X (some a) (osome ma) := by
  obtain ⟨t, p, q⟩ := ha.ex
  refine ⟨_, po_some p, fun σ H ρ s o h Q w => ?_⟩
  unfold osome at h
  split at h <;> cases h
  rename_i i hm
  exact q σ H ρ s _ hm _ fun v H1 g1 r1 => ⟨i, r1.z.int, w H1 g1⟩
def cutD (xs : List PyData) (lo hi : Option Int) : List PyData := (xs.drop (HT.sIx xs.length 0 lo)).take (HT.sIx xs.length xs.length hi - HT.sIx xs.length 0 lo)
theorem cut_rp {K : Fg} {H : Hp} {M : Ad → Prop} {ds : List PyData} {vs : List V} (lo hi : Option Int) (r : RpL K H M ds vs) : RpL K H M (cutD ds lo hi) (cutV vs lo hi) := by
  unfold cutD cutV
  rw [r.length]
  exact (r.drop _).take _
def slD (d : PyData) (lo hi : Option Int) : Rs PyData := match d with
  | .list xs => .ok (.list (cutD xs lo hi))
  | .tuple xs => .ok (.tuple (cutD xs lo hi))
  | _ => .error .stuck
def slS (m : Sm) (l h : SmO) : Sm := fun ρ => match m ρ with
  | .ok d => (match l ρ with
    | .ok lo => (match h ρ with
      | .ok hi => slD d lo hi
      | .error e => .error e)
    | .error e => .error e)
  | .error e => .error e
theorem slS_ok {m : Sm} {l h : SmO} {ρ : Rho} {z : PyData} (e : slS m l h ρ = .ok z) : ∃ d lo hi, m ρ = .ok d ∧ l ρ = .ok lo ∧ h ρ = .ok hi ∧ slD d lo hi = .ok z := by
  unfold slS at e
  split at e <;> try (cases e)
  split at e <;> try (cases e)
  split at e <;> try (cases e)
  rename_i h1 _ _ h2 _ _ h3
  exact ⟨_, _, _, h1, h2, h3, e⟩
theorem sp_slice {lo hi : Option Expr} {ml mh : SmO} (ha : SP c X k1 a ma) (hl : SPO c X lo ml) (hh : SPO c X hi mh) : SP c X .s (.Subscript a (.Slice lo hi none p2) pos) (slS ma ml mh) := by
  obtain ⟨ta, pa, qa⟩ := ha.ex
  obtain ⟨tl, pl, ql⟩ := hl.ex
  obtain ⟨th, ph, qh⟩ := hh.ex
  refine ⟨_, pe_slice (sl_list.or sl_tupA) pa pl ph, fun σ H ρ s z h Q q => ?_⟩
  obtain ⟨d, l, u, hd, hl, hu, hz⟩ := slS_ok h
  refine qa σ H ρ s d hd _ fun v H1 g1 r1 => ?_
  refine ql σ H1 ρ (s.grow g1) l hl _ fun H2 g2 => ?_
  refine qh σ H2 ρ ((s.grow g1).grow g2) u hu _ fun H3 g3 => ?_
  have s3 := ((s.grow g1).grow g2).grow g3
  have g := (g1.trans g2).trans g3
  have rx := (r1.z.carry g2).carry g3
  cases d <;> (try (simp only [slD] at hz)) <;> try (cases hz)
  · obtain ⟨p, vs, rfl, hq, rr⟩ := rx.lst
    refine .inl ⟨p, vs, rfl, hq, fun n hn => ?_⟩
    have g4 : Gr c.T W0 H3 (upd H3 n (.lst (cutV vs l u))) := Gr.new hn
    exact q _ _ (g.trans g4) (.lst upd_same (nmask s3.dom hn) ((cut_rp l u rr).carry g4.carry0))
  · obtain ⟨p, vs, rfl, hq, rr⟩ := rx.tup
    refine .inr ⟨p, vs, rfl, hq, fun hw => ?_, fun hw n hn => ?_⟩
    · refine q _ _ g (.tup hq ?_)
      have e := cut_rp l u rr
      unfold cutV at e
      rw [hw.1, hw.2, List.drop_zero, Nat.sub_zero, List.take_length] at e
      exact e
    · have g4 : Gr c.T W0 H3 (upd H3 n (.tup (cutV vs l u))) := Gr.new hn
      exact q _ _ (g.trans g4) (.tup (SqT.of upd_same) ((cut_rp l u rr).carry g4.carry0))
/-- a slice of a list is new -/
def slLD (d : PyData) (lo hi : Option Int) : Rs PyData := match d with
  | .list xs => .ok (.list (cutD xs lo hi))
  | _ => .error .stuck
def slLS (m : Sm) (l h : SmO) : Sm := fun ρ => match m ρ with
  | .ok d => (match l ρ with
    | .ok lo => (match h ρ with
      | .ok hi => slLD d lo hi
      | .error e => .error e)
    | .error e => .error e)
  | .error e => .error e
theorem sp_sliceL {lo hi : Option Expr} {ml mh : SmO} (ha : SP c X k1 a ma) (hl : SPO c X lo ml) (hh : SPO c X hi mh) : SP c X .f (.Subscript a (.Slice lo hi none p2) pos) (slLS ma ml mh) := by
  obtain ⟨ta, pa, qa⟩ := ha.ex
  obtain ⟨tl, pl, ql⟩ := hl.ex
  obtain ⟨th, ph, qh⟩ := hh.ex
  refine ⟨_, pe_slice sl_list pa pl ph, fun σ H ρ s z h Q q => ?_⟩
  unfold slLS at h
  split at h <;> try (cases h)
  split at h <;> try (cases h)
  split at h <;> try (cases h)
  rename_i d hd _ l hl _ u hu
  refine qa σ H ρ s d hd _ fun v H1 g1 r1 => ?_
  refine ql σ H1 ρ (s.grow g1) l hl _ fun H2 g2 => ?_
  refine qh σ H2 ρ ((s.grow g1).grow g2) u hu _ fun H3 g3 => ?_
  have s3 := ((s.grow g1).grow g2).grow g3
  have g := (g1.trans g2).trans g3
  have rx := (r1.z.carry g2).carry g3
  cases d <;> (try (simp only [slLD] at h)) <;> try (cases h)
  obtain ⟨p, vs, rfl, hq, rr⟩ := rx.lst
  refine ⟨p, vs, rfl, hq, fun n hn => ?_⟩
  have g4 : Gr c.T W0 H3 (upd H3 n (.lst (cutV vs l u))) := Gr.new hn
  exact q _ _ (g.trans g4) (kr_new s3.dom hn (g.none n hn) (cut_rp l u rr))

/-! ### argument lists, displays -/
def anil : SmA := fun _ => .ok []
def acons (m : Sm) (ms : SmA) : SmA := fun ρ => match m ρ with
  | .ok d => (match ms ρ with
    | .ok ds => .ok (d :: ds)
    | .error e => .error e)
  | .error e => .error e
theorem acons_ok {m : Sm} {ms : SmA} {ρ : Rho} {ds : List PyData} (h : acons m ms ρ = .ok ds) : ∃ d r, ds = d :: r ∧ m ρ = .ok d ∧ ms ρ = .ok r := by
  unfold acons at h
  split at h <;> try (cases h)
  split at h <;> cases h
  rename_i h1 _ _ h2
  exact ⟨_, _, rfl, h1, h2⟩
variable {es : List Expr} {bs : List Bool} {mA : SmA}
theorem spa_nil : SPA c X [] [] anil := ⟨_, pa_nil, fun σ H ρ s ds h Q q => by cases h; exact q [] H (Gr.refl H) .nil⟩
theorem spa_cons (ha : SP c X k1 a ma) (hr : SPA c X bs es mA) (hs : starEach (a :: es) X.env = (false, eval a X.env) :: starEach es X.env := by rfl) : SPA c X (k1.st :: bs) (a :: es) (acons ma mA) := by
  obtain ⟨ta, pa, qa⟩ := ha.ex
  obtain ⟨tr, pr, qr⟩ := hr.ex
  refine ⟨_, pa_cons pa pr hs, fun σ H ρ s ds h Q q => ?_⟩
  obtain ⟨d, r, rfl, h1, h2⟩ := acons_ok h
  refine qa σ H ρ s d h1 _ fun v H1 g1 r1 => ?_
  exact qr σ H1 ρ (s.grow g1) r h2 _ fun vs H2 g2 r2 => q _ H2 (g1.trans g2) (.cons (r1.k1.carry g2) r2)
def tupS (m : SmA) : Sm := fun ρ => match m ρ with
  | .ok ds => if ds.length ≤ big then .ok (.tuple ds) else .error .stuck
  | .error e => .error e
def lstS (m : SmA) : Sm := fun ρ => match m ρ with
  | .ok ds => if ds.length ≤ big then .ok (.list ds) else .error .stuck
  | .error e => .error e
theorem sp_tup {j : Nat} (ha : SPA c X bs es mA) (hb : bs.all id = true := by rfl) : SP c X .f (.Tuple es j pos) (tupS mA) := by
  obtain ⟨ta, pa, qa⟩ := ha.ex
  refine ⟨_, pe_tup pa, fun σ H ρ s z h Q q => ?_⟩
  unfold tupS at h
  split at h <;> try (cases h)
  rename_i ds hd
  split at h <;> cases h
  rename_i hl
  refine qa σ H ρ s ds hd _ fun vs H1 g1 r1 => ?_
  have r := r1.st hb
  refine ⟨big_le (by rw [← r.length]; exact hl), fun p hp => ?_⟩
  have g2 : Gr c.T W0 H1 (upd H1 p (.tup vs)) := Gr.new hp
  exact q _ _ (g1.trans g2) (kr_tup upd_same (g1.none p hp) (r.carry g2.carry0))
theorem sp_lst (ha : SPA c X bs es mA) (hb : bs.all id = true := by rfl) : SP c X .f (.List es pos) (lstS mA) := by
  obtain ⟨ta, pa, qa⟩ := ha.ex
  refine ⟨_, pe_lst pa, fun σ H ρ s z h Q q => ?_⟩
  unfold lstS at h
  split at h <;> try (cases h)
  rename_i ds hd
  split at h <;> cases h
  rename_i hl
  refine qa σ H ρ s ds hd _ fun vs H1 g1 r1 => ?_
  have r := r1.st hb
  refine ⟨big_le (by rw [← r.length]; exact hl), fun p hp => ?_⟩
  have g2 : Gr c.T W0 H1 (upd H1 p (.lst vs)) := Gr.new hp
  exact q _ _ (g1.trans g2) (kr_new (s.grow g1).dom hp (g1.none p hp) r)

/-! ### built-ins -/
/-- the rule r of a built-in does f -/
def CaM (T : List (Ad × Str)) (K : Fg) (k : Kd) (r : List V → Hp → VK → Prop) (f : List PyData → Rs PyData) : Prop :=
  ∀ (H : Hp) (M : Ad → Prop) (ds : List PyData) (z : PyData) (vs : List V), (∀ a, M a → ∃ xs, H a = some (.lst xs)) → ZpL K H M ds vs → f ds = .ok z → ∀ Q : VK, (∀ v H', Gr T W0 H H' → KR k K H H' M z v → Q v H') → r vs H Q
def apS (f : List PyData → Rs PyData) (m : SmA) : Sm := fun ρ => match m ρ with
  | .ok ds => f ds
  | .error e => .error e
theorem apS_ok {f : List PyData → Rs PyData} {m : SmA} {ρ : Rho} {z : PyData} (h : apS f m ρ = .ok z) : ∃ ds, m ρ = .ok ds ∧ f ds = .ok z := by
  unfold apS at h
  split at h <;> try (cases h)
  exact ⟨_, by assumption, h⟩
theorem sp_callB {id : String} {x : Str} {r : List V → Hp → VK → Prop} {f : List PyData → Rs PyData} (hc : CallR X (.builtin id) r) (hs : CaM c.T X.K k r f) (hg : Gl X x) (hm : X.mg x = none) (hv : bootBuiltins x = some (.builtin id)) (ha : SPA c X bs (e :: es) mA) (hn : x ≠ "__name__" := by decide) (hdb : (x == ("__debug__" : Str)) = false := by decide)
    (he : starEach (e :: es) X.env = (false, eval e X.env) :: starEach es X.env := by rfl) (hpl : (backTo pos (starEach es X.env)).any (·.1) = false := by rfl) : SP c X k (.Call (.Name x p2) (e :: es) [] pos) (apS f mA) := by
  obtain ⟨ta, pa, qa⟩ := ha.ex
  refine ⟨_, pe_callB hc hg hm hv pa hn hdb he hpl, fun σ H ρ s z h Q q => ?_⟩
  obtain ⟨ds, hd, hz⟩ := apS_ok h
  refine qa σ H ρ s ds hd _ fun vs H1 g1 r1 => ?_
  exact hs H1 (Msk c σ) ds z vs (s.grow g1).dom r1.z hz Q fun v H2 g2 r2 => q v H2 (g1.trans g2) (r2.back g1.none)
theorem sp_callTy {T : String} {x : Str} {r : List V → Hp → VK → Prop} {f : List PyData → Rs PyData} (hc : CallR X (.type T) r) (hs : CaM c.T X.K k r f) (hg : Gl X x) (hm : X.mg x = none) (hv : bootBuiltins x = some (.type T)) (ha : SPA c X bs (e :: es) mA) (hn : x ≠ "__name__" := by decide) (hdb : (x == ("__debug__" : Str)) = false := by decide)
    (he : starEach (e :: es) X.env = (false, eval e X.env) :: starEach es X.env := by rfl) (hpl : (backTo pos (starEach es X.env)).any (·.1) = false := by rfl) : SP c X k (.Call (.Name x p2) (e :: es) [] pos) (apS f mA) := by
  obtain ⟨ta, pa, qa⟩ := ha.ex
  refine ⟨_, pe_callTy hc hg hm hv pa hn hdb he hpl, fun σ H ρ s z h Q q => ?_⟩
  obtain ⟨ds, hd, hz⟩ := apS_ok h
  refine qa σ H ρ s ds hd _ fun vs H1 g1 r1 => ?_
  exact hs H1 (Msk c σ) ds z vs (s.grow g1).dom r1.z hz Q fun v H2 g2 r2 => q v H2 (g1.trans g2) (r2.back g1.none)
/-- a name that an import has bound to a built-in -/
theorem sp_callI {id : String} {x : Str} {r : List V → Hp → VK → Prop} {f : List PyData → Rs PyData} (hc : CallR X (.builtin id) r) (hs : CaM c.T X.K k r f) (hg : Gl X x) (hm : X.mg x = some (.builtin id)) (ha : SPA c X bs (e :: es) mA) (hdb : (x == ("__debug__" : Str)) = false := by decide)
    (he : starEach (e :: es) X.env = (false, eval e X.env) :: starEach es X.env := by rfl) (hpl : (backTo pos (starEach es X.env)).any (·.1) = false := by rfl) : SP c X k (.Call (.Name x p2) (e :: es) [] pos) (apS f mA) := by
  obtain ⟨ta, pa, qa⟩ := ha.ex
  refine ⟨_, pe_callBfun hc hg hm pa hdb he hpl, fun σ H ρ s z h Q q => ?_⟩
  obtain ⟨ds, hd, hz⟩ := apS_ok h
  refine qa σ H ρ s ds hd _ fun vs H1 g1 r1 => ?_
  exact hs H1 (Msk c σ) ds z vs (s.grow g1).dom r1.z hz Q fun v H2 g2 r2 => q v H2 (g1.trans g2) (r2.back g1.none)
theorem ZpL.one {K : Fg} {H : Hp} {M : Ad → Prop} {d : PyData} {vs : List V} (h : ZpL K H M [d] vs) : ∃ v, vs = [v] ∧ Zp K H M d v := by
  cases h with
  | cons h r => cases r; exact ⟨_, rfl, h⟩
theorem ZpL.two {K : Fg} {H : Hp} {M : Ad → Prop} {d e : PyData} {vs : List V} (h : ZpL K H M [d, e] vs) : ∃ v u, vs = [v, u] ∧ Zp K H M d v ∧ Zp K H M e u := by
  cases h with
  | cons h r => obtain ⟨u, rfl, h2⟩ := r.one; exact ⟨_, u, rfl, h, h2⟩
def lenD : List PyData → Rs PyData
  | [.list xs] => .ok (.int xs.length)
  | [.tuple xs] => .ok (.int xs.length)
  | [.str x] => if x.length ≤ big then .ok (.int x.length) else .error .stuck
  | _ => .error .stuck
theorem cm_len : CaM c.T X.K .f (fun xs H Q => (∃ p ys, xs = [.ref p] ∧ (SqL X.K H p ys ∨ SqT X.K H p ys) ∧ Q (.int ys.length) H) ∨ (∃ z, xs = [.str z] ∧ z.length ≤ sizeLine ∧ Q (.int z.length) H)) lenD := by
  intro H M ds z vs hm hd hz Q q
  unfold lenD at hz
  split at hz <;> try (cases hz)
  · obtain ⟨v, rfl, h⟩ := hd.one
    obtain ⟨p, ys, rfl, hq, r⟩ := h.lst
    exact .inl ⟨p, ys, rfl, .inl hq, by rw [← r.length]; exact q _ H (Gr.refl H) kr_int⟩
  · obtain ⟨v, rfl, h⟩ := hd.one
    obtain ⟨p, ys, rfl, hq, r⟩ := h.tup
    exact .inl ⟨p, ys, rfl, .inr hq, by rw [← r.length]; exact q _ H (Gr.refl H) kr_int⟩
  · split at hz <;> cases hz
    rename_i hl
    obtain ⟨v, rfl, h⟩ := hd.one
    exact .inr ⟨_, by rw [h.str], big_le hl, q _ H (Gr.refl H) kr_int⟩
theorem sp_len (hm : X.mg "len" = none) (hg : Gl X "len") (ha : SPA c X bs [e] mA) (he : starEach [e] X.env = (false, eval e X.env) :: starEach [] X.env := by rfl) : SP c X .f (.Call (.Name "len" p2) [e] [] pos) (apS lenD mA) :=
  sp_callB (call_len_seq.or call_len_str) cm_len hg hm PySem.boot_len ha (by decide) (by decide) he (by rfl)
end
end DL

set_option Elab.async false
set_option linter.all false
set_option maxRecDepth 100000
set_option maxHeartbeats 1000000
/-! DL4: statements, promises of defs, their calls. -/
namespace DL
open PySem PySem.Spec PyProof.Rows L2

/-- what a block ends with -/
inductive Out where
  | nx (ρ : Rho)
  | rt (d : PyData) (ρ : Rho)
  | bk (ρ : Rho)
  | ct (ρ : Rho)
abbrev Sb := Rho → Rs Out

/-- the state in a def's body: Wf: the caller's list that it may change (it stands in slot 0); H0: the heap at its entry -/
structure BR (c : Cfg) (K : Fg) (Wf : Ad → Prop) (H0 : Hp) (σ : SS) (H : Hp) (ρ : Rho) : Prop where
  sr : SR c K σ H ρ
  gr : Gr c.T Wf H0 H
  own : ∀ a, Mut c.Ms σ a → Wf a ∨ H0 a = none
  m0 : ∀ a, c.M0 a → H0 a ≠ none
  io : ∀ a, Wf a → 0 ∈ c.Ms ∧ σ[0]? = some (some (.ref a))
section
variable {c : Cfg} {K : Fg} {Wf : Ad → Prop} {H0 H H' : Hp} {σ : SS} {ρ ρ' : Rho}
theorem BR.grow (b : BR c K Wf H0 σ H ρ) (g : Gr c.T W0 H H') : BR c K Wf H0 σ H' ρ := ⟨b.sr.grow g, b.gr.trans g.of0, b.own, b.m0, b.io⟩
/-- behind an expression that may change the def's own lists -/
theorem BR.eff (b : BR c K Wf H0 σ H ρ) (g : Gr c.T (Mut c.Ms σ) H H') (s : SR c K σ H' ρ') : BR c K Wf H0 σ H' ρ' := by
  refine ⟨s, ⟨fun a o w h n => ?_, fun a h => b.gr.none a (g.none a h), fun t => g.tabs (b.gr.tabs t)⟩, b.own, b.m0, b.io⟩
  refine g.keep a o (fun m => ?_) (b.gr.keep a o w h n) n
  rcases b.own a m with z | z
  · exact w z
  · rw [h] at z; cases z
end
/-- a later state: only the def's own lists have changed -/
structure Late (c : Cfg) (σ : SS) (H : Hp) (σ' : SS) (H' : Hp) : Prop where
  gr : Gr c.T (Mut c.Ms σ) H H'
  mu : ∀ a, Mut c.Ms σ' a → Mut c.Ms σ a ∨ H a = none
section
variable {c : Cfg} {K : Fg} {σ σ1 σ2 : SS} {H H1 H2 : Hp}
theorem Late.refl : Late c σ H σ H := ⟨Gr.refl H, fun _ h => .inl h⟩
theorem Late.trans (a : Late c σ H σ1 H1) (b : Late c σ1 H1 σ2 H2) : Late c σ H σ2 H2 := by
  refine ⟨⟨fun x o w h n => b.gr.keep x o (fun m => ?_) (a.gr.keep x o w h n) n, fun x h => a.gr.none x (b.gr.none x h), fun t => b.gr.tabs (a.gr.tabs t)⟩, fun x m => ?_⟩
  · rcases a.mu x m with z | z
    · exact w z
    · rw [h] at z; cases z
  · rcases b.mu x m with z | z
    · exact a.mu x z
    · exact .inr (a.gr.none x z)
theorem Late.grow (g : Gr c.T W0 H H1) : Late c σ H σ H1 := ⟨g.of0, fun _ h => .inl h⟩
theorem Late.eff (g : Gr c.T (Mut c.Ms σ) H H1) : Late c σ H σ H1 := ⟨g, fun _ h => .inl h⟩
theorem Late.carry (l : Late c σ H σ1 H1) (w : ∀ a, Msk c σ a → ∃ xs, H a = some (.lst xs)) : Carry K H H1 (Msk c σ) (Msk c σ1) :=
  l.gr.carry (fun a m => w a (.inr m)) (fun a m => .inr m) fun a m => by
    rcases m with m | m
    · exact .inl (.inl m)
    · exact (l.mu a m).imp_left .inr
end
def Post (c : Cfg) (K : Fg) (Wf : Ad → Prop) (H0 : Hp) (fr : Bool) (D : Ends) (σ : SS) (H : Hp) : Out → Prop
  | .nx ρ => ∀ σ' H', Late c σ H σ' H' → BR c K Wf H0 σ' H' ρ → D.nx σ' H'
  | .bk ρ => ∀ σ' H', Late c σ H σ' H' → BR c K Wf H0 σ' H' ρ → D.bk σ' H'
  | .ct ρ => ∀ σ' H', Late c σ H σ' H' → BR c K Wf H0 σ' H' ρ → D.ct σ' H'
  | .rt d ρ => ∀ v σ H, BR c K Wf H0 σ H ρ → Rp K H c.M0 d v → (fr = true → (∀ p, v = .ref p → H0 p = none) ∧ ∀ p ds, v = .ref p → d = .list ds → ∃ vs, H p = some (.lst vs) ∧ RpL K H (fun a => c.M0 a ∨ a = p) ds vs) → D.rt v H
theorem Post.late {c : Cfg} {K : Fg} {Wf : Ad → Prop} {H0 : Hp} {fr : Bool} {D : Ends} {σ σ1 : SS} {H H1 : Hp} {o : Out} (h : Post c K Wf H0 fr D σ H o) (l : Late c σ H σ1 H1) : Post c K Wf H0 fr D σ1 H1 o := by
  cases o with
  | nx ρ => exact fun σ' H' l' b => h σ' H' (l.trans l') b
  | bk ρ => exact fun σ' H' l' b => h σ' H' (l.trans l') b
  | ct ρ => exact fun σ' H' l' b => h σ' H' (l.trans l') b
  | rt d ρ => exact h
theorem Post.grow {c : Cfg} {K : Fg} {Wf : Ad → Prop} {H0 : Hp} {fr : Bool} {D : Ends} {σ : SS} {H H1 : Hp} {o : Out} (h : Post c K Wf H0 fr D σ H o) (g : Gr c.T W0 H H1) : Post c K Wf H0 fr D σ H1 o := h.late (Late.grow g)
structure SB (c : Cfg) (X : Cx) (fr : Bool) (st : List Stmt) (m : Sb) : Prop where
  ex : ∃ t : TS, PSs X st t ∧ ∀ (Wf : Ad → Prop) (H0 : Hp) (σ : SS) (H : Hp) (ρ : Rho), BR c X.K Wf H0 σ H ρ → ∀ o, m ρ = .ok o → ∀ D : Ends, Post c X.K Wf H0 fr D σ H o → t D σ H
structure S1 (c : Cfg) (X : Cx) (fr : Bool) (st : Stmt) (m : Sb) : Prop where
  ex : ∃ t : TS, PS X st t ∧ ∀ (Wf : Ad → Prop) (H0 : Hp) (σ : SS) (H : Hp) (ρ : Rho), BR c X.K Wf H0 σ H ρ → ∀ o, m ρ = .ok o → ∀ D : Ends, Post c X.K Wf H0 fr D σ H o → t D σ H

/-! ### slots -/
section
variable {ms : List Nat} {σ : SS} {i : Nat} {v : V} {a : Ad}
theorem Mut.set (hi : i ∉ ms) : Mut ms (σ.set i (some v)) a ↔ Mut ms σ a := by
  unfold Mut
  constructor
  · rintro ⟨j, hj, h⟩
    have ne : i ≠ j := fun z => hi (z ▸ hj)
    rw [List.getElem?_set_ne ne] at h
    exact ⟨j, hj, h⟩
  · rintro ⟨j, hj, h⟩
    have ne : i ≠ j := fun z => hi (z ▸ hj)
    exact ⟨j, hj, by rw [List.getElem?_set_ne ne]; exact h⟩
theorem Mut.setM {p : Ad} (h : Mut ms (σ.set i (some (.ref p))) a) : Mut ms σ a ∨ a = p := by
  obtain ⟨j, hj, h⟩ := h
  by_cases e : i = j
  · subst e
    by_cases hl : i < σ.length
    · rw [List.getElem?_set_self hl] at h
      cases h
      exact .inr rfl
    · rw [List.getElem?_eq_none (by simpa using hl)] at h
      cases h
  · rw [List.getElem?_set_ne e] at h
    exact .inl ⟨j, hj, h⟩
end
section
variable {c : Cfg} {X : Cx} {k k1 k2 k3 : Kd} {fr : Bool} {e a b e1 e2 e3 : Expr} {m ma mb mc : Sm} {pos p2 : Pos} {st : Stmt} {rest ss tt : List Stmt} {m1 m2 mr : Sb}
/-- an element of a Msk under the same Ms -/
theorem Msk.set {c : Cfg} {σ : SS} {i : Nat} {v : V} (hi : i ∉ c.Ms) : Msk c (σ.set i (some v)) = Msk c σ := by
  funext x
  exact propext ⟨fun h => h.imp_right (Mut.set hi).mp, fun h => h.imp_right (Mut.set hi).mpr⟩
theorem Mut.setE {ms : List Nat} {σ : SS} {i : Nat} {v : V} (hi : i ∉ ms) : Mut ms (σ.set i (some v)) = Mut ms σ := by
  funext x
  exact propext (Mut.set hi)
/-- x = e, a value for good -/
theorem SR.set {K : Fg} {H : Hp} {σ : SS} {ρ : Rho} {i : Nat} {d : PyData} {v : V} (s : SR c K σ H ρ) (hi : i ∉ c.Ms) (hz : i ∉ c.Fz) (r : Rp K H (Msk c σ) d v) : SR c K (σ.set i (some v)) H (ρ.set i (some d)) := by
  have hl := s.len
  refine ⟨s.tabs, by simp [hl], fun a m => s.dom a (by rw [← Msk.set hi]; exact m), fun j j' a h1 h2 e1 e2 => ?_, fun j d' e n nz => ?_, fun j d' e n nz => ?_, fun j d' e n => ?_⟩
  · have ne1 : i ≠ j := fun z => hi (z ▸ h1)
    have ne2 : i ≠ j' := fun z => hi (z ▸ h2)
    rw [List.getElem?_set_ne ne1] at e1
    rw [List.getElem?_set_ne ne2] at e2
    exact s.inj j j' a h1 h2 e1 e2
  · rw [Msk.set hi]
    by_cases ej : i = j
    · subst ej
      by_cases hlt : i < ρ.length
      · rw [List.getElem?_set_self hlt] at e
        cases e
        exact ⟨v, by rw [List.getElem?_set_self (by omega)], r⟩
      · rw [List.getElem?_eq_none (by simpa using hlt)] at e
        cases e
    · rw [List.getElem?_set_ne ej] at e
      rw [List.getElem?_set_ne ej]
      exact s.slot j d' e n nz
  · rw [Msk.set hi, Mut.setE hi]
    have ej : i ≠ j := fun z => hz (z ▸ nz)
    rw [List.getElem?_set_ne ej] at e
    rw [List.getElem?_set_ne ej]
    exact s.fslot j d' e n nz
  · rw [Msk.set hi]
    have ej : i ≠ j := fun z => hi (z ▸ n)
    rw [List.getElem?_set_ne ej] at e
    rw [List.getElem?_set_ne ej]
    exact s.mslot j d' e n
theorem mut_same {σ σ' : SS} {ms : List Nat} (h : ∀ j ∈ ms, σ'[j]? = σ[j]?) : Mut ms σ' = Mut ms σ := by
  funext a
  exact propext ⟨fun ⟨j, hj, e⟩ => ⟨j, hj, by rw [← h j hj]; exact e⟩, fun ⟨j, hj, e⟩ => ⟨j, hj, by rw [h j hj]; exact e⟩⟩
theorem msk_same {σ σ' : SS} (h : ∀ j ∈ c.Ms, σ'[j]? = σ[j]?) : Msk c σ' = Msk c σ := by
  funext a
  unfold Msk
  rw [mut_same h]
/-- the slots of changing lists stay -/
theorem BR.next {K : Fg} {Wf : Ad → Prop} {H0 H H1 : Hp} {σ σ' : SS} {ρ ρ' : Rho} (s : BR c K Wf H0 σ H ρ) (g : Gr c.T W0 H H1) (s' : SR c K σ' H1 ρ') (h : ∀ j ∈ c.Ms, σ'[j]? = σ[j]?) : BR c K Wf H0 σ' H1 ρ' :=
  ⟨s', s.gr.trans g.of0, fun a m => s.own a (by rw [← mut_same h]; exact m), s.m0, fun a w => ⟨(s.io a w).1, by rw [h 0 (s.io a w).1]; exact (s.io a w).2⟩⟩
theorem BR.set {K : Fg} {Wf : Ad → Prop} {H0 H : Hp} {σ : SS} {ρ : Rho} {i : Nat} {d : PyData} {v : V} (s : BR c K Wf H0 σ H ρ) (hi : i ∉ c.Ms) (hz : i ∉ c.Fz) (r : Rp K H (Msk c σ) d v) : BR c K Wf H0 (σ.set i (some v)) H (ρ.set i (some d)) :=
  s.next (Gr.refl H) (s.sr.set hi hz r) fun j hj => List.getElem?_set_ne (fun z : i = j => hi (by rw [z]; exact hj))
/-- x = e, a new list that will change; from the state ahead of e -/
theorem BR.setM {K : Fg} {Wf : Ad → Prop} {H0 H H1 : Hp} {σ : SS} {ρ : Rho} {i : Nat} {ds : List PyData} {vs : List V} {p : Ad} (s : BR c K Wf H0 σ H ρ) (g : Gr c.T W0 H H1) (hi : i ∈ c.Ms) (h0 : 0 ∉ c.Ms ∨ i ≠ 0)
    (hp : H1 p = some (.lst vs)) (hn : H p = none) (r : RpL K H1 (fun a => Msk c σ a ∨ a = p) ds vs) : BR c K Wf H0 (σ.set i (some (.ref p))) H1 (ρ.set i (some (.list ds))) := by
  have hl := s.sr.len
  have sub : ∀ a, Msk c (σ.set i (some (.ref p))) a → Msk c σ a ∨ a = p := fun a m => by
    rcases m with m | m
    · exact .inl (.inl m)
    · exact (Mut.setM m).imp_left .inr
  have sub' : ∀ a, Msk c (σ.set i (some (.ref p))) a → Msk c σ a ∨ H a = none := fun a m => (sub a m).imp_right fun e => by rw [e]; exact hn
  have cy : Carry K H H1 (Msk c σ) (Msk c (σ.set i (some (.ref p)))) := g.carry (fun _ z => z.elim) (fun _ z => z.elim) sub'
  have np : ∀ j, σ[j]? = some (some (.ref p)) → j ∈ c.Ms → False := fun j e hj => by
    obtain ⟨xs, q⟩ := s.sr.dom p (.inr ⟨j, hj, e⟩)
    rw [hn] at q
    cases q
  refine ⟨⟨g.tabs s.sr.tabs, by simp [hl], fun a m => ?_, fun j j' a h1 h2 e1 e2 => ?_, fun j d' e n nz => ?_, fun j d' e n nz => ?_, fun j d' e n => ?_⟩, s.gr.trans g.of0, fun a m => ?_, s.m0, fun a w => ?_⟩
  · rcases sub a m with m | rfl
    · obtain ⟨xs, q⟩ := s.sr.dom a m
      exact ⟨xs, g.keep a _ (fun z => z) q fun _ z => nomatch z⟩
    · exact ⟨vs, hp⟩
  · by_cases z1 : i = j
    · by_cases z2 : i = j'
      · exact z1.symm.trans z2
      · rw [List.getElem?_set_ne z2] at e2
        subst z1
        by_cases hlt : i < σ.length
        · rw [List.getElem?_set_self hlt] at e1
          cases e1
          exact (np j' e2 h2).elim
        · rw [List.getElem?_eq_none (by simpa using hlt)] at e1
          cases e1
    · rw [List.getElem?_set_ne z1] at e1
      by_cases z2 : i = j'
      · subst z2
        by_cases hlt : i < σ.length
        · rw [List.getElem?_set_self hlt] at e2
          cases e2
          exact (np j e1 h1).elim
        · rw [List.getElem?_eq_none (by simpa using hlt)] at e2
          cases e2
      · rw [List.getElem?_set_ne z2] at e2
        exact s.sr.inj j j' a h1 h2 e1 e2
  · have ej : i ≠ j := fun z => n (z ▸ hi)
    rw [List.getElem?_set_ne ej] at e
    obtain ⟨v', h1, r'⟩ := s.sr.slot j d' e n nz
    exact ⟨v', by rw [List.getElem?_set_ne ej]; exact h1, r'.carry cy⟩
  · have ej : i ≠ j := fun z => n (z ▸ hi)
    rw [List.getElem?_set_ne ej] at e
    obtain ⟨q, es, us, e1, h1, hr, r'⟩ := s.sr.fslot j d' e n nz
    refine ⟨q, es, us, e1, by rw [List.getElem?_set_ne ej]; exact h1, g.rdl (fun _ z => z.elim) (fun _ z => z.elim) (fun a m => ?_) hr, r'.carry cy⟩
    exact (Mut.setM m).imp_right fun e => by rw [e]; exact hn
  · by_cases ej : i = j
    · subst ej
      by_cases hlt : i < ρ.length
      · rw [List.getElem?_set_self hlt] at e
        cases e
        exact ⟨p, ds, vs, rfl, by rw [List.getElem?_set_self (by omega)], hp, r.carry ⟨fun _ _ h => h, fun a _ h m => ⟨h, fun z => m (sub a z)⟩⟩⟩
      · rw [List.getElem?_eq_none (by simpa using hlt)] at e
        cases e
    · rw [List.getElem?_set_ne ej] at e
      obtain ⟨q, es, us, e1, h1, hq, r'⟩ := s.sr.mslot j d' e n
      exact ⟨q, es, us, e1, by rw [List.getElem?_set_ne ej]; exact h1, g.keep q _ (fun z => z) hq (fun _ z => nomatch z), r'.carry cy⟩
  · rcases Mut.setM m with m | rfl
    · exact s.own a m
    · exact .inr (s.gr.none a hn)
  · obtain ⟨h1, h2⟩ := s.io a w
    have ne : i ≠ 0 := by
      rcases h0 with z | z
      · exact absurd h1 z
      · exact z
    exact ⟨h1, by rw [List.getElem?_set_ne ne]; exact h2⟩

/-! ### blocks -/
def skip : Sb := fun ρ => .ok (.nx ρ)
def sq (m n : Sb) : Sb := fun ρ => match m ρ with
  | .ok (.nx ρ') => n ρ'
  | .ok o => .ok o
  | .error e => .error e
theorem sb_nil : SB c X fr [] skip := ⟨_, pss_nil, fun Wf H0 σ H ρ s o h D q => by cases h; exact q σ H Late.refl s⟩
theorem sb_cons (h1 : S1 c X fr st m1) (h2 : SB c X fr rest m2) : SB c X fr (st :: rest) (sq m1 m2) := by
  obtain ⟨t, p, q⟩ := h1.ex
  obtain ⟨t2, p2, q2⟩ := h2.ex
  refine ⟨_, pss_cons p p2, fun Wf H0 σ H ρ s o h D w => ?_⟩
  unfold sq at h
  split at h
  · rename_i ρ' hm
    refine q Wf H0 σ H ρ s _ hm _ fun σ' H' l' s' => ?_
    exact q2 Wf H0 σ' H' ρ' s' o h D (w.late l')
  · rename_i o' hm ne
    cases h
    refine q Wf H0 σ H ρ s o ne _ ?_
    cases o with
    | nx ρ' => exact absurd rfl (hm ρ')
    | rt d ρ' => exact w
    | bk ρ' => exact w
    | ct ρ' => exact w
  · cases h
theorem sb_one (h1 : S1 c X fr st m1) : SB c X fr [st] m1 := by
  obtain ⟨t, p, q⟩ := h1.ex
  exact ⟨_, pss_one p, q⟩
theorem s1_pass : S1 c X fr (.Pass pos) skip := ⟨_, ps_pass, fun Wf H0 σ H ρ s o h D q => by cases h; exact q σ H Late.refl s⟩
theorem s1_break : S1 c X fr (.Break pos) (fun ρ => .ok (.bk ρ)) := ⟨_, ps_break, fun Wf H0 σ H ρ s o h D q => by cases h; exact q σ H Late.refl s⟩
theorem s1_continue : S1 c X fr (.Continue pos) (fun ρ => .ok (.ct ρ)) := ⟨_, ps_continue, fun Wf H0 σ H ρ s o h D q => by cases h; exact q σ H Late.refl s⟩
/-- never come to -/
def never : Sb := fun _ => .error .stuck
theorem s1_never : S1 c X fr st never := ⟨_, ps_never, fun Wf H0 σ H ρ s o h D q => by cases h⟩
def iff (t : SmT) (m n : Sb) : Sb := fun ρ => match t ρ with
  | .ok true => m ρ
  | .ok false => n ρ
  | .error e => .error e
variable {mt : SmT}
theorem s1_if (ht : SPT c X e mt) (h1 : SB c X fr ss m1) (h2 : SB c X fr tt m2) : S1 c X fr (.If e ss tt pos) (iff mt m1 m2) := by
  obtain ⟨t, p, q⟩ := ht.ex
  obtain ⟨t1, p1, q1⟩ := h1.ex
  obtain ⟨t2, p2, q2⟩ := h2.ex
  refine ⟨_, ps_if p p1 p2, fun Wf H0 σ H ρ s o h D w => ?_⟩
  unfold iff at h
  split at h <;> try (cases h)
  · rename_i hm
    exact q σ H ρ s.sr _ hm _ fun H1 g1 => iteT (q1 Wf H0 σ H1 ρ (s.grow g1) o h D (w.grow g1))
  · rename_i hm
    exact q σ H ρ s.sr _ hm _ fun H1 g1 => iteF (q2 Wf H0 σ H1 ρ (s.grow g1) o h D (w.grow g1))
/-- return e -/
def ret (m : Sm) : Sb := fun ρ => match m ρ with
  | .ok d => .ok (.rt d ρ)
  | .error e => .error e
theorem kr_m0 {K : Fg} {H0 H H' : Hp} {d : PyData} {v : V} {σ : SS} (r : Rp K H (Msk c σ) d v) : Rp K H c.M0 d v :=
  r.carry ⟨fun _ _ h => h, fun a _ h m => ⟨h, fun z => m (.inl z)⟩⟩
theorem s1_ret (ha : SP c X k1 a ma) (hk : k1.st = true := by rfl) : S1 c X false (.Return (some a) pos) (ret ma) := by
  obtain ⟨t, p, q⟩ := ha.ex
  refine ⟨_, ps_ret p, fun Wf H0 σ H ρ s o h D w => ?_⟩
  unfold ret at h
  split at h <;> cases h
  rename_i d hm
  refine q σ H ρ s.sr _ hm _ fun v H1 g1 r1 => ?_
  exact w v σ H1 (s.grow g1) ((r1.st hk).carry ⟨fun _ _ h => h, fun a _ h m => ⟨h, fun z => m (.inl z)⟩⟩) (fun z => nomatch z)
/-- .. of something new -/
theorem s1_retF (ha : SP c X .f a ma) : S1 c X true (.Return (some a) pos) (ret ma) := by
  obtain ⟨t, p, q⟩ := ha.ex
  refine ⟨_, ps_ret p, fun Wf H0 σ H ρ s o h D w => ?_⟩
  unfold ret at h
  split at h <;> cases h
  rename_i d hm
  refine q σ H ρ s.sr _ hm _ fun v H1 g1 r1 => ?_
  refine w v σ H1 (s.grow g1) (r1.1.carry ⟨fun _ _ h => h, fun a _ h m => ⟨h, fun z => m (.inl z)⟩⟩) (fun _ => ⟨fun p e => s.gr.none p (r1.2.1 p e), fun p ds e1 e2 => ?_⟩)
  obtain ⟨vs, hp, r⟩ := r1.2.2 p ds e1 e2
  exact ⟨vs, hp, r.carry ⟨fun _ _ h => h, fun a _ h m => ⟨h, fun z => m (z.imp_left .inl)⟩⟩⟩
/-- .. of a list of the def's own that it has filled (Wf must not have it) -/
theorem s1_retM (i : Nat) {x : Str} (hi : c.Ms.contains i = true) (h0 : i ≠ 0 ∨ c.Ms.contains 0 = false) (hz : c.Fz.contains i = false := by rfl) (hN : X.N[i]? = some x := by rfl) (hv : Vis X.env.scope x := by first | exact Or.inl rfl | exact Or.inr (Or.inl rfl) | exact Or.inr (Or.inr rfl))
    (hd : (x == ("__debug__" : Str)) = false := by decide) (hcd : (x == ("__classdict__" : Str)) = false := by decide) : S1 c X fr (.Return (some (.Name x p2)) pos) (ret (nm i)) := by
  have hi' : i ∈ c.Ms := List.contains_iff_mem.mp hi
  refine ⟨_, ps_ret (pe_var (i := i) hN hv hd hcd), fun Wf H0 σ H ρ s o h D w => ?_⟩
  unfold ret at h
  split at h <;> cases h
  rename_i d hm
  obtain ⟨p, ds, vs, rfl, e1, hp, r⟩ := s.sr.mslot i d (nm_ok hm) hi'
  have mp : Mut c.Ms σ p := ⟨i, hi', e1⟩
  have hn : H0 p = none := by
    rcases s.own p mp with z | z
    · obtain ⟨h1, h2⟩ := s.io p z
      have e := s.sr.inj i 0 p hi' h1 e1 h2
      rcases h0 with h0 | h0
      · exact absurd e h0
      · rw [List.contains_iff_mem.mpr h1] at h0; cases h0
    · exact z
  have nm0 : ¬ c.M0 p := fun z => s.m0 p z hn
  have r0 : RpL X.K H (fun a => c.M0 a ∨ a = p) ds vs := r.carry ⟨fun _ _ h => h, fun a _ h m => ⟨h, fun z => m (z.elim .inl fun e => .inr (by rw [e]; exact mp))⟩⟩
  refine ⟨.ref p, e1, w (.ref p) σ H s (.lst hp nm0 (r0.carry ⟨fun _ _ h => h, fun a _ h m => ⟨h, fun z => m (.inl z)⟩⟩)) fun _ => ⟨fun q e => by cases e; exact hn, fun q es e e2 => ?_⟩⟩
  cases e
  cases e2
  exact ⟨vs, hp, r0⟩
theorem s1_retN : S1 c X fr (.Return none pos) (fun ρ => .ok (.rt .none ρ)) :=
  ⟨_, ps_retN, fun Wf H0 σ H ρ s o h D w => by cases h; exact w .non σ H s .non fun _ => ⟨(fun _ z => nomatch z), fun _ _ z => nomatch z⟩⟩
/-- an expression's value dropped -/
def drp (m : Sm) : Sb := fun ρ => match m ρ with
  | .ok _ => .ok (.nx ρ)
  | .error e => .error e
theorem s1_expr (ha : SP c X k1 a ma) (hs : swapsWith a none pos.line X.env = pure false := by rfl) : S1 c X fr (.Expr a pos) (drp ma) := by
  obtain ⟨t, p, q⟩ := ha.ex
  refine ⟨_, ps_expr p hs, fun Wf H0 σ H ρ s o h D w => ?_⟩
  unfold drp at h
  split at h <;> cases h
  rename_i d hm
  exact q σ H ρ s.sr _ hm _ fun v H1 g1 r1 => w σ H1 (Late.grow g1) (s.grow g1)
theorem s1_doc {x : Str} {j : Nat} : S1 c X fr (.Expr (.Constant (.str x) j p2) pos) skip := ⟨_, ps_doc, fun Wf H0 σ H ρ s o h D w => by cases h; exact w σ H Late.refl s⟩
/-! ### assignments -/
theorem Late.set {σ : SS} {H H1 : Hp} {i : Nat} {v : V} (hi : i ∉ c.Ms) (g : Gr c.T W0 H H1) : Late c σ H (σ.set i (some v)) H1 := ⟨g.of0, fun a m => .inl ((Mut.set hi).mp m)⟩
theorem Late.setM {σ : SS} {H H1 : Hp} {i : Nat} {p : Ad} (g : Gr c.T W0 H H1) (hn : H p = none) : Late c σ H (σ.set i (some (.ref p))) H1 := ⟨g.of0, fun a m => (Mut.setM m).imp_right fun e => by rw [e]; exact hn⟩
def asg (i : Nat) (m : Sm) : Sb := fun ρ => match m ρ with
  | .ok d => .ok (.nx (ρ.set i (some d)))
  | .error e => .error e
def cNot (l : List Nat) (i : Nat) : Prop := l.contains i = false
theorem cNot.out {l : List Nat} {i : Nat} (h : l.contains i = false) : i ∉ l := fun z => by rw [List.contains_iff_mem.mpr z] at h; cases h
theorem s1_set (i : Nat) {x : Str} (ha : SP c X k1 a ma) (hi : c.Ms.contains i = false) (hz : c.Fz.contains i = false) (hN : X.N.Nodup) (hx : Loc X.env.scope x) (hs : swapsWith a (some (.Name x p2)) pos.line X.env = pure false := by rfl) (hk : k1.st = true := by rfl)
    (hf : X.fn x = true ∨ X.env.scope.names.lookup x = some .local := by first | exact .inl rfl | exact .inr rfl | assumption) (hi' : X.N[i]? = some x := by rfl) : S1 c X fr (.Assign [.Name x p2] a pos) (asg i ma) := by
  obtain ⟨t, p, q⟩ := ha.ex
  refine ⟨_, ps_set (i := i) hN hi' hx p hs hf, fun Wf H0 σ H ρ s o h D w => ?_⟩
  unfold asg at h
  split at h <;> cases h
  rename_i d hm
  exact q σ H ρ s.sr _ hm _ fun v H1 g1 r1 => w _ H1 (Late.set (cNot.out hi) g1) ((s.grow g1).set (cNot.out hi) (cNot.out hz) (r1.st hk))
/-- .. a new list, to a name whose list will change -/
def asgM (i : Nat) (m : Sm) : Sb := fun ρ => match m ρ with
  | .ok (.list ds) => .ok (.nx (ρ.set i (some (.list ds))))
  | .ok _ => .error .stuck
  | .error e => .error e
theorem s1_setM (i : Nat) {x : Str} (ha : SP c X .f a ma) (hi : c.Ms.contains i = true) (h0 : i ≠ 0 ∨ c.Ms.contains 0 = false) (hN : X.N.Nodup) (hx : Loc X.env.scope x) (hs : swapsWith a (some (.Name x p2)) pos.line X.env = pure false := by rfl)
    (hf : X.fn x = true ∨ X.env.scope.names.lookup x = some .local := by first | exact .inl rfl | exact .inr rfl | assumption) (hi' : X.N[i]? = some x := by rfl) : S1 c X fr (.Assign [.Name x p2] a pos) (asgM i ma) := by
  obtain ⟨t, p, q⟩ := ha.ex
  refine ⟨_, ps_set (i := i) hN hi' hx p hs hf, fun Wf H0 σ H ρ s o h D w => ?_⟩
  unfold asgM at h
  split at h <;> cases h
  rename_i ds hm
  refine q σ H ρ s.sr _ hm _ fun v H1 g1 r1 => ?_
  obtain ⟨rr, r2, r3⟩ := r1
  cases rr with
  | lst hp nm r =>
    obtain ⟨vs, hp', r'⟩ := r3 _ ds rfl rfl
    exact w _ H1 (Late.setM g1 (r2 _ rfl)) (s.setM g1 (List.contains_iff_mem.mp hi) (h0.elim .inr fun z => .inl (cNot.out z)) hp' (r2 _ rfl) r')
/-! targets: a value for good is stored; is: the slots that are set -/
abbrev Sg := PyData → Rho → Rs Rho
def SetIn (is : List Nat) (σ σ' : SS) : Prop := ∀ vs : List Nat, (∀ i ∈ is, i ∈ vs) → wipe σ' vs = wipe σ vs
structure SG (c : Cfg) (X : Cx) (tg : Expr) (is : List Nat) (g : Sg) : Prop where
  ex : ∃ t : TG, PG X tg t ∧ ∀ (σ : SS) (H : Hp) (ρ : Rho) (d : PyData) (v : V), SR c X.K σ H ρ → Rp X.K H (Msk c σ) d v → ∀ ρ', g d ρ = .ok ρ' → ∀ Q : SS → Hp → Prop,
    (∀ σ' H', (∀ j ∈ c.Ms, σ'[j]? = σ[j]?) → SetIn is σ σ' → Gr c.T W0 H H' → SR c X.K σ' H' ρ' → Q σ' H') → t v σ H Q
abbrev Sgs := List PyData → Rho → Rs Rho
structure SGs (c : Cfg) (X : Cx) (tgs : List Expr) (is : List Nat) (g : Sgs) : Prop where
  ex : ∃ t : TGs, PGs X tgs t ∧ ∀ (σ : SS) (H : Hp) (ρ : Rho) (ds : List PyData) (vs : List V), SR c X.K σ H ρ → RpL X.K H (Msk c σ) ds vs → ∀ ρ', g ds ρ = .ok ρ' → ∀ Q : SS → Hp → Prop,
    (∀ σ' H', (∀ j ∈ c.Ms, σ'[j]? = σ[j]?) → SetIn is σ σ' → Gr c.T W0 H H' → SR c X.K σ' H' ρ' → Q σ' H') → t vs σ H Q
theorem wipe_set {σ : SS} {i : Nat} {o : Option V} : ∀ {vs : List Nat}, i ∈ vs → wipe (σ.set i o) vs = wipe σ vs
  | v :: vs, h => by
    unfold wipe
    by_cases e : i ∈ vs
    · rw [wipe_set e]
    · have e' : i = v := by
        rcases List.mem_cons.mp h with h | h
        · exact h
        · exact absurd h e
      have key : ∀ {us : List Nat}, i ∉ us → wipe (σ.set i o) us = (wipe σ us).set i o := fun {us} hu => by
        induction us with
        | nil => rfl
        | cons u us ih =>
          unfold wipe
          have nu : u ≠ i := fun z => hu (by rw [z]; exact List.mem_cons_self)
          rw [ih fun z => hu (List.mem_cons_of_mem _ z), List.set_comm _ _ (Ne.symm nu)]
      rw [key e, ← e', List.set_set]
theorem SetIn.one {σ : SS} {i : Nat} {o : Option V} : SetIn [i] σ (σ.set i o) := fun vs h => wipe_set (h i List.mem_cons_self)
theorem SetIn.refl {σ : SS} : SetIn [] σ σ := fun _ _ => rfl
theorem SetIn.app {σ σ1 σ2 : SS} {is js : List Nat} (a : SetIn is σ σ1) (b : SetIn js σ1 σ2) : SetIn (is ++ js) σ σ2 := fun vs h =>
  (b vs fun i hi => h i (List.mem_append_right _ hi)).trans (a vs fun i hi => h i (List.mem_append_left _ hi))
def gnm (i : Nat) : Sg := fun d ρ => .ok (ρ.set i (some d))
theorem sg_nm (i : Nat) {x : Str} (hi : c.Ms.contains i = false) (hz : c.Fz.contains i = false) (hN : X.N.Nodup) (hx : Loc X.env.scope x)
    (hf : X.fn x = true ∨ X.env.scope.names.lookup x = some .local := by first | exact .inl rfl | exact .inr rfl | assumption) (hi' : X.N[i]? = some x := by rfl) : SG c X (.Name x pos) [i] (gnm i) :=
  ⟨_, pg_name (i := i) hN hi' hx hf, fun σ H ρ d v s r ρ' h Q q => by cases h; exact q _ H (fun j hj => List.getElem?_set_ne (fun z : i = j => cNot.out hi (by rw [z]; exact hj))) SetIn.one (Gr.refl H) (s.set (cNot.out hi) (cNot.out hz) r)⟩
def gsnil : Sgs := fun ds ρ => match ds with
  | [] => .ok ρ
  | _ :: _ => .error .stuck
def gscons (g : Sg) (gs : Sgs) : Sgs := fun ds ρ => match ds with
  | [] => .error .stuck
  | d :: r => (match g d ρ with
    | .ok ρ' => gs r ρ'
    | .error e => .error e)
variable {es : List Expr} {g : Sg} {gs : Sgs} {is js : List Nat}
theorem sgs_nil : SGs c X [] [] gsnil := ⟨_, pgs_nil, fun σ H ρ ds vs s r ρ' h Q q => by
  unfold gsnil at h
  split at h <;> cases h
  cases r
  exact ⟨rfl, q σ H (fun _ _ => rfl) SetIn.refl (Gr.refl H) s⟩⟩
theorem sgs_cons (h1 : SG c X e is g) (h2 : SGs c X es js gs) (hs : (assignEach (e :: es) X.env).map (·.2) = assign e X.env :: (assignEach es X.env).map (·.2) := by rfl) : SGs c X (e :: es) (is ++ js) (gscons g gs) := by
  obtain ⟨t, p, q⟩ := h1.ex
  obtain ⟨t2, p2, q2⟩ := h2.ex
  refine ⟨_, pgs_cons p p2 hs, fun σ H ρ ds vs s r ρ' h Q w => ?_⟩
  unfold gscons at h
  split at h <;> try (cases h)
  rename_i d rs
  split at h <;> try (cases h)
  rename_i ρ1 h1
  cases r with
  | cons rd rr =>
    refine ⟨_, _, rfl, q σ H ρ d _ s rd ρ1 h1 _ fun σ1 H1 m1 a1 g1 s1 => ?_⟩
    refine q2 σ1 H1 ρ1 rs _ s1 ?_ ρ' h Q fun σ2 H2 m2 a2 g2 s2 => w σ2 H2 (fun j hj => (m2 j hj).trans (m1 j hj)) (a1.app a2) (g1.trans g2) s2
    rw [msk_same m1]
    exact rr.carry g1.carry0
def gtup (n : Nat) (gs : Sgs) : Sg := fun d ρ => match d with
  | .tuple ds => if ds.length = n then gs ds ρ else .error .stuck
  | _ => .error .stuck
theorem sg_tup {j n : Nat} (hc : X.calm = true) (h : SGs c X es is gs) (hn : (assignEach es X.env).length = n := by rfl) (hst : (assignEach es X.env).findIdx? (·.1) = none := by rfl) : SG c X (.Tuple es j pos) is (gtup n gs) := by
  obtain ⟨t, p, q⟩ := h.ex
  refine ⟨_, pg_tup hc p hn hst, fun σ H ρ d v s r ρ' h Q w => ?_⟩
  unfold gtup at h
  split at h <;> try (cases h)
  split at h <;> try (cases h)
  rename_i ds hl
  cases r with
  | tup hq rr => exact ⟨_, _, rfl, hq, by rw [← rr.length]; exact hl, q σ H ρ ds _ s rr ρ' h Q w⟩
def asgG (g : Sg) (m : Sm) : Sb := fun ρ => match m ρ with
  | .ok d => (match g d ρ with
    | .ok ρ' => .ok (.nx ρ')
    | .error e => .error e)
  | .error e => .error e
theorem s1_asg (ha : SP c X k1 a ma) (hg : SG c X e is g) (hk : k1.st = true := by rfl) (hs : swapsWithSole [e] a pos.line X.env = pure false := by rfl) (hw : swappedStores [e] a X.env = pure none := by rfl)
    (h1 : (assignEach [e] X.env).map (·.2) = [assign e X.env] := by rfl) : S1 c X fr (.Assign [e] a pos) (asgG g ma) := by
  obtain ⟨t, p, q⟩ := ha.ex
  obtain ⟨t2, p2, q2⟩ := hg.ex
  refine ⟨_, ps_asg p p2 hs hw h1, fun Wf H0 σ H ρ s o h D w => ?_⟩
  unfold asgG at h
  split at h <;> try (cases h)
  split at h <;> cases h
  rename_i d hm _ ρ' hg'
  refine q σ H ρ s.sr _ hm _ fun v H1 g1 r1 => ?_
  exact q2 σ H1 ρ d v (s.grow g1).sr (r1.st hk) ρ' hg' _ fun σ' H' m' _ g' s' => w σ' H' ((Late.grow g1).trans ⟨g'.of0, fun a z => .inl (by rw [← mut_same m']; exact z)⟩) ((s.grow g1).next g' s' m')
/-- a, b = x, y with plain names -/
def par (i j : Nat) (m : SmA) : Sb := fun ρ => match m ρ with
  | .ok [d, e] => .ok (.nx ((ρ.set i (some d)).set j (some e)))
  | .ok _ => .error .stuck
  | .error e => .error e
variable {bs : List Bool} {mA : SmA}
theorem s1_par (i j : Nat) {x y : Str} {px py pt : Pos} {kt k2 : Nat} {pt2 : Pos} (hc : X.calm = true) (ha : SPA c X bs [a, b] mA) (hi1 : c.Ms.contains i = false) (hz1 : c.Fz.contains i = false) (hi2 : c.Ms.contains j = false) (hz2 : c.Fz.contains j = false) (hN : X.N.Nodup)
    (hx : X.env.scope.names.lookup x = some .local) (hy : X.env.scope.names.lookup y = some .local) (hij : i ≠ j)
    (hw : swappedStores [.Tuple [.Name x px, .Name y py] kt pt] (.Tuple [a, b] k2 pt2) X.env = pure (some [x, y])) (hb : bs.all id = true := by rfl)
    (hs : swapsWithSole [.Tuple [.Name x px, .Name y py] kt pt] (.Tuple [a, b] k2 pt2) pos.line X.env = pure false := by rfl) (hi : X.N[i]? = some x := by rfl) (hj : X.N[j]? = some y := by rfl) :
    S1 c X fr (.Assign [.Tuple [.Name x px, .Name y py] kt pt] (.Tuple [a, b] k2 pt2) pos) (par i j mA) := by
  obtain ⟨t, p, q⟩ := ha.ex
  refine ⟨_, ps_par hc hN hi hj hij hx hy p hw hs, fun Wf H0 σ H ρ s o h D w => ?_⟩
  unfold par at h
  split at h <;> cases h
  rename_i d1 d2 hm
  refine q σ H ρ s.sr _ hm _ fun vs H1 g1 r1 => ?_
  have r := r1.st hb
  cases r with
  | cons ra rr =>
    cases rr with
    | cons rb rr =>
      cases rr
      refine ⟨_, _, rfl, ?_⟩
      have s1 := (s.grow g1).set (cNot.out hi1) (cNot.out hz1) ra
      exact w _ H1 ((Late.set (cNot.out hi1) g1).trans (Late.set (cNot.out hi2) (Gr.refl _))) (s1.set (cNot.out hi2) (cNot.out hz2) (by rw [Msk.set (cNot.out hi1)]; exact rb))
/-- x op= e -/
def aug (f : PyData → PyData → Rs PyData) (i : Nat) (m : Sm) : Sb := fun ρ => match nm i ρ with
  | .ok x => (match m ρ with
    | .ok y => (match f x y with
      | .ok z => .ok (.nx (ρ.set i (some z)))
      | .error e => .error e)
    | .error e => .error e)
  | .error e => .error e
theorem s1_aug {op : Operator} {r : R2} {f : PyData → PyData → Rs PyData} (i : Nat) {x : Str} (ho : OpR X (inplaceOp op) r) (hf : OpM c.T X.K .f r f) (ha : SP c X k1 a ma) (hi : c.Ms.contains i = false) (hz : c.Fz.contains i = false) (hN : X.N.Nodup) (hx : Loc X.env.scope x) (hk : k1.nz = true := by rfl)
    (hfn : X.fn x = true ∨ X.env.scope.names.lookup x = some .local := by first | exact .inl rfl | exact .inr rfl | assumption) (hi' : X.N[i]? = some x := by rfl) : S1 c X fr (.AugAssign (.Name x p2) op a pos) (aug f i ma) := by
  obtain ⟨t, p, q⟩ := ha.ex
  refine ⟨_, ps_aug (i := i) hN hi' hx p (fun pins s σ H x y v u Q I r1 r2 h => ho pins s σ H x y v u Q I r1 r2 h) hfn, fun Wf H0 σ H ρ s o h D w => ?_⟩
  unfold aug at h
  split at h <;> try (cases h)
  rename_i d0 hd0
  split at h <;> try (cases h)
  rename_i d1 hd1
  split at h <;> cases h
  rename_i z hz'
  obtain ⟨v, e1, r0⟩ := s.sr.slot i d0 (nm_ok hd0) (cNot.out hi) (cNot.out hz)
  refine ⟨v, e1, q σ H ρ s.sr _ hd1 _ fun u H1 g1 r1 => ?_⟩
  refine hf H1 (Msk c σ) d0 d1 z v u (s.grow g1).sr.dom (.inl (r0.carry g1.carry0)) (r1.w hk) hz' _ fun w' H2 g2 r2 => ?_
  exact w _ H2 (Late.set (cNot.out hi) (g1.trans g2)) (((s.grow g1).grow g2).set (cNot.out hi) (cNot.out hz) r2.1)
theorem ip_add' : OpR X (inplaceOp .Add) (rI0 fun i j => .int (i + j)) := iop_add
end
end DL

set_option Elab.async false
set_option linter.all false
set_option maxRecDepth 100000
set_option maxHeartbeats 4000000
/-! DLG: promises of defs at calls ahead of which no repr runs (guards: none); how a law row ends with them. The forms follow the hand layer's FnOk, fn_of, law_callTs. -/
namespace DL
open PySem PySem.Spec PyProof.Rows L2

/-- FnOk, where A.guards = some [] besides -/
structure FnG (P : Program) (w : World) (K : Fg) (mg : Str → Option Value) (base : Heap) (k : Nat) (f : Ad) (fd : FuncData) (ps : List Str) (sp : Sp) : Prop where
  len : ∀ vs H Q E, sp vs H Q E → vs.length = ps.length
  run : ∀ (A : Around) (outer : List Env) (s : Shared) (H : Hp) (args : Args) (us : List Value) (vs : List V) (Q : VK) (E : XK), A.guards = some [] → Room k A → Env0 P w K mg base A outer s H →
    BindsTo s fd args (ps.zip us) → Vals vs us → sp vs H Q E → codeAny (model P w) A (.call (.ref f) args) (CR CX0 outer P w H s Q E) s
section
variable {P : Program} {w : World} {K : Fg} {mg : Str → Option Value} {base : Heap} {k j : Nat} {f : Ad} {fd : FuncData} {ps : List Str} {sp : Sp}
theorem FnG.mono (F : FnG P w K mg base j f fd ps sp) (h : j ≤ k) : FnG P w K mg base k f fd ps sp :=
  ⟨F.len, fun A outer s H args us vs Q E hg hr => F.run A outer s H args us vs Q E hg (hr.mono h)⟩
theorem FnG.of (F : FnOk P w K mg base CX0 k f fd ps sp) : FnG P w K mg base k f fd ps sp :=
  ⟨F.len, fun A outer s H args us vs Q E _ => F.run A outer s H args us vs Q E⟩
/-- from the def's body -/
theorem fnG_of {x qual : Str} {st : Stmt} {N : List Str} (F : Fun K x qual st f fd) (S : FnScope N ps (defScope st)) (len : ∀ vs H Q E, sp vs H Q E → vs.length = ps.length)
    (hb : ∀ (cdv : Value), fd.code = cdv → ∀ (A : Around) (outer : List Env) (s : Shared) (H : Hp) (vs : List V) (Q : VK) (E : XK), A.guards = some [] → Room k (A.deeper (envOfC qual (defScope st) s.heap.objs.size f cdv)) → sp vs H Q E →
      ∃ t, PSs (cxOf CX0 P w K mg base N qual (defScope st) f cdv A outer s H E).nox (defBody st) t ∧ t { nx := fun _ H' => Q .non H', rt := Q } (L2.start N vs) H) : FnG P w K mg base (k + 1) f fd ps sp := by
  obtain ⟨_, _, _, _, _, _, cdv, _, _, rfl, lk, hcd⟩ := F.ex
  refine ⟨len, fun A outer s0 H0 args us vs Q E hg hr e0 bnd r hsp => ?_⟩
  have hl0 := len _ _ _ _ hsp
  have Kin : K.In s0.heap := e0.mod.kin.keeps fun b o e => (e0.bs b o e).1
  have nolim : s0.heap.NoLimit := e0.mod.nolimit.keeps fun b o e => (e0.bs b o e).1
  refine codeAny_call_function hr.depth (Kin _ _ lk) rfl S.co S.gen rfl (PySem.W.codeRec_of Kin hcd) (bnd _ _ _ _ ?_)
  refine wpAny_newFunctionEnv_cells S.kind (fun y hy => ?_) fun env0 henv s1 x0 => ?_
  · obtain ⟨n0, v0⟩ := y
    exact (S.par n0 (List.of_mem_zip hy).1).imp id fun q => ⟨q, PySem.W.cellsFrom_some _ _ _ (.inl q)⟩
  · subst henv
    refine ⟨nolim.keeps x0.toInCall.keep, codeAny_func ?_⟩
    obtain ⟨t0, ht0, hq0⟩ := hb cdv rfl A outer s0 H0 vs Q E hg (hr.deeper _) hsp
    have J := inv_start (CX := CX0) (E := E) S hr.hd e0 hl0 r x0
    refine wpAny_mono (ht0.nox.run [] s1 (L2.start N vs) H0 _ J hq0) (fun fl s2 hs => ?_) fun _ _ hs => hs
    cases fl with
    | ret u =>
      obtain ⟨v, σ2, H2, J2, rv, q⟩ := hs
      exact ⟨v, H2, J2.os, J2.bare, J2.base, J2.hok, rv, q⟩
    | next =>
      obtain ⟨σ2, H2, J2, q⟩ := hs
      exact ⟨V.non, H2, J2.os, J2.bare, J2.base, J2.hok, rfl, q⟩
    | brk => obtain ⟨_, _, _, q⟩ := hs; exact q.elim
    | cont => obtain ⟨_, _, _, q⟩ := hs; exact q.elim
end
section
variable {X : Cx} {k : Nat} {f : Ad} {fd : FuncData} {ps : List Str} {sp : Sp} {e : Expr} {es : List Expr} {t : TA} {x : Str} {p pos : Pos}
theorem run_fnG {pins : List (Ad × Obj)} {σ : SS} {H : Hp} {s : Shared} {Q : VK} {us : List Value} {vs : List V} (F : FnG X.prog X.w X.K X.mg X.base k f fd ps sp) (hgd : X.A.guards = some []) (hr : Room k X.A) (hb : Binds X.K fd ps [])
    (I : Inv X pins σ H s) (r : Vals vs us) (h : sp vs H Q E0) : wpAny (model X.prog X.w) X.A (call (.ref f) us) (EP X pins σ Q) X.xe s := by
  have hn : us.length = ps.length := r.length.symm.trans (F.len _ _ _ _ h)
  have bt := hb s us I.kIn (by rw [List.append_nil]; exact hn)
  rw [List.append_nil] at bt
  refine wpAny_call (codeAny_mono (F.run X.A X.stack s H ⟨us, []⟩ us vs Q E0 hgd hr I.env0 bt r h) fun res s2 hq => ?_)
  cases res with
  | error ev => exact pass0 pins σ H s ev s2 I hq
  | ok fl =>
    cases fl with
    | ret u => exact I.after hq
    | next => exact hq.elim
    | brk => exact hq.elim
    | cont => exact hq.elim
/-- f(e, ..) -/
theorem pe_callG (F : FnG X.prog X.w X.K X.mg X.base k f fd ps sp) (hgd : X.A.guards = some []) (hr : Room k X.A) (hg : Gl X x) (hm : X.mg x = some (.ref f)) (hk : PySem.W.keepIn X.K (.ref f) = true) (hb : Binds X.K fd ps [])
    (ha : PA X (e :: es) t) (hdb : (x == ("__debug__" : Str)) = false := by decide) (he : starEach (e :: es) X.env = (false, eval e X.env) :: starEach es X.env := by rfl) (hpl : (backTo pos (starEach es X.env)).any (·.1) = false := by rfl) :
    PE X (.Call (.Name x p) (e :: es) [] pos) (fun σ H Q => t σ H fun vs H1 => sp vs H1 Q E0) := by
  refine ⟨fun pins s σ H Q I h => wpAny_Call_Name_kw (ld_glob I hg hm ?_ hdb)⟩
  exact PySem.W.callWith_K (h₀ := X.base) I.ok.mod.kin hk (thn (ha.run pos pins s σ H _ I h) fun us s1 ⟨vs, H1, I1, r, q⟩ => ⟨I1.kIn, run_fnG F hgd hr hb I1 r q⟩) he hpl
theorem pe_callG0 (F : FnG X.prog X.w X.K X.mg X.base k f fd ps sp) (hgd : X.A.guards = some []) (hr : Room k X.A) (hg : Gl X x) (hm : X.mg x = some (.ref f)) (hk : PySem.W.keepIn X.K (.ref f) = true) (hb : Binds X.K fd ps [])
    (hdb : (x == ("__debug__" : Str)) = false := by decide) : PE X (.Call (.Name x p) [] [] pos) (fun σ H Q => sp [] H Q E0) :=
  ⟨fun pins s σ H Q I h => wpAny_Call_Name_kw (ld_glob I hg hm (PySem.W.callWith_K0 I.kIn hk (run_fnG (us := []) F hgd hr hb I .nil h)) hdb)⟩
end
end DL

namespace DL
open PySem PySem.Spec PyProof.Rows L2
/-- what is tracked at a law's entry: the script, the tables -/
def Hp0 (K : Fg) (a : Ad) (so : Obj) (xs : List V) (ts : List Ad) : Hp := fun b =>
  if b = a ∧ K.lookup a = none then some (.frz so (.lst xs)) else if b ∈ ts then some (.tbl #[]) else none
section
variable {K : Fg} {a b : Ad} {so : Obj} {xs : List V} {ts : List Ad}
theorem Hp0.cases {u : HO} (h : Hp0 K a so xs ts b = some u) : (b = a ∧ K.lookup a = none ∧ u = .frz so (.lst xs)) ∨ (b ∈ ts ∧ u = .tbl #[]) := by
  unfold Hp0 at h
  split at h
  · rename_i c
    cases h
    exact .inl ⟨c.1, c.2, rfl⟩
  · split at h <;> cases h
    exact .inr ⟨by assumption, rfl⟩
theorem Hp0.tb (hb : b ∈ ts) (ha : a ∉ ts) : Hp0 K a so xs ts b = some (.tbl #[]) := by
  unfold Hp0
  rw [if_neg (fun z : b = a ∧ K.lookup a = none => ha (z.1 ▸ hb)), if_pos hb]
theorem Hp0.scr (h : K.lookup a = none) : Hp0 K a so xs ts a = some (.frz so (.lst xs)) := if_pos ⟨rfl, h⟩
end
/-- the law's def, called by the claim's caller -/
theorem law_runG {P : Program} {w : World} {K : Fg} {mg mb : Str → Option Value} {k : Nat} {fa a : Ad} {cs : List (Ad × Ad)} {fd : FuncData} {x : Str} {sp : Sp} {st : Shared} {vs : List Value} {ns : List Int}
    (KX : K.In st.heap) (hmg : st.heap.Ns mainGlobals mg) (hmb : st.heap.Ns builtinsNs mb) (hboot : ∀ x : Str, x ≠ "__name__" → mb x = bootBuiltins x) (hnl : st.heap.NoLimit) (hgen : st.gens = #[])
    (hT : ∀ p ∈ cs, st.heap.get? p.2 = some { cls := .none, data := .fields #[] }) (nT : ∀ p ∈ cs, K.lookup p.2 = none) (C : ∀ p ∈ cs, PySem.W.CodeHd st.heap p.1 p.2)
    (hbm : ∃ (bm : Ad) (ob : Obj), mg "__builtins__" = some (.ref bm) ∧ bm ≠ builtinsNs ∧ st.heap.get? bm = some ob ∧ ob.cls = .type "module" ∧ ob.dict = some builtinsNs ∧ ob.data = .plain)
    (hscr : st.heap.get? a = some { cls := .type "list", data := .seq vs.toArray }) (hi : IntsAre vs ns) (hlen : ns.length ≤ sizeLine) (hroom : Room k callerA)
    (F : ∀ base : Heap, K.In base → base.Ns mainGlobals mg → (∀ p ∈ cs, LamX.TabB base mg p.1 p.2) → FnG P w K mg base k fa fd [x] sp) (hbind : ∀ (s : Shared) (u : Value), BindsTo s fd ⟨[u], []⟩ [(x, u)])
    (hsp : ∀ H : Hp, (∀ p ∈ cs, H p.2 = some (.tbl #[])) → SqL K H a (ns.map V.int) → sp [.ref a] H (fun v _ => v = .bl true) E0) :
    codeAny (model P w) callerA (.call (.ref fa) ⟨[.ref a], []⟩) (fun r s' => r = .ok (.ret (.bool true)) ∧ OldK st.heap s'.heap ∧ s'.os = st.os ∧ AllBare s'.gens) st := by
  have rel := vals_ints hi
  have hln := hi.length
  generalize hts : cs.map (·.2) = ts
  have inT : ∀ p ∈ cs, p.2 ∈ ts := fun p hp => by rw [← hts]; exact List.mem_map.mpr ⟨p, hp, rfl⟩
  have ofT : ∀ b ∈ ts, ∃ p ∈ cs, p.2 = b := fun b hb => by rw [← hts] at hb; obtain ⟨p, hp, e⟩ := List.mem_map.mp hb; exact ⟨p, hp, e⟩
  have atT : ∀ b ∈ ts, st.heap.get? b = some { cls := .none, data := .fields #[] } := fun b hb => by
    obtain ⟨p, hp, rfl⟩ := ofT b hb
    exact hT p hp
  have noTa : a ∉ ts := fun z => by
    have q := (atT a z).symm.trans hscr
    have q2 := congrArg Obj.data (Option.some.inj q)
    exact nomatch q2
  generalize hso : ({ cls := .type "list", data := .seq vs.toArray } : Obj) = so at hscr
  have sod : so.data = .seq vs.toArray 0 := by rw [← hso]
  have soc : so.cls = .type "list" := by rw [← hso]
  have son : so.dict = none := by rw [← hso]
  let H : Hp := Hp0 K a so (ns.map V.int) ts
  have tbH : ∀ p ∈ cs, H p.2 = some (.tbl #[]) := fun p hp => Hp0.tb (inT p hp) noTa
  -- an untracked thing: what is neither a list nor an empty table, and what the module knows
  have free : ∀ {b : Ad} {o : Obj}, st.heap.get? b = some o → (∀ vs n, o.data ≠ .seq vs n) → o.data ≠ .fields #[] → H b = none := fun {b o} e h1 h2 => by
    cases q : H b with
    | none => rfl
    | some u =>
      rcases Hp0.cases q with ⟨rfl, _, _⟩ | ⟨hb, _⟩
      · rw [hscr] at e
        cases e
        exact (h1 _ _ sod).elim
      · rw [atT b hb] at e
        cases e
        exact (h2 rfl).elim
  have kfree : ∀ {b : Ad} {o : Obj}, K.lookup b = some o → H b = none := fun {b o} e => by
    cases q : H b with
    | none => rfl
    | some u =>
      rcases Hp0.cases q with ⟨rfl, hk, _⟩ | ⟨hb, _⟩
      · rw [hk] at e; cases e
      · obtain ⟨p, hp, rfl⟩ := ofT b hb
        rw [nT p hp] at e; cases e
  have hNs : ∀ {b : Ad} {m : Str → Option Value}, st.heap.Ns b m → (hidT st.heap H).Ns b m := fun {b m} ⟨o, es, ep, e, d, r⟩ =>
    ⟨o, es, ep, hidT_get e (free e (fun _ _ z => by rw [d] at z; cases z) fun z => by rw [d] at z; cases z), d, r⟩
  have hK : K.In (hidT st.heap H) := fun b o e => hidT_get (KX b o e) (kfree e)
  have hMod : L2.Mod K mg (hidT st.heap H) := by
    obtain ⟨mc, l1, l2⟩ := hnl
    exact ⟨hK, hNs hmg, ⟨mb, hNs hmb, hboot⟩, ⟨mc, hNs l1, l2⟩⟩
  have hTab : ∀ p ∈ cs, LamX.TabB (hidT st.heap H) mg p.1 p.2 := fun p hp => by
    have tp := hT p hp
    refine ⟨?_, ?_, fun z => ?_⟩
    · obtain ⟨o, us, file, tf, flags, tg, inF, text, tt, c0, c1, c2, c3, c4, c5, c6, c7, c8, c9⟩ := C p hp
      refine ⟨o, us, file, tf, flags, tg, inF, text, tt, hidT_get c0 (free c0 (fun _ _ z => by rw [c2] at z; cases z) fun z => ?_), c1, c2, c3, c4, c5, c6, c7, c8, c9⟩
      rw [c2] at z
      cases z
      simp at c3
    · obtain ⟨bm, ob, m1, m2, m3, m4, m5, m6⟩ := hbm
      refine ⟨bm, ob, m1, m2, fun q => ?_, fun q => ?_, hidT_get m3 (free m3 (fun _ _ z => by rw [m6] at z; cases z) fun z => by rw [m6] at z; cases z), m4, m5, m6⟩
      · obtain ⟨o, es, ep, e, hd, _⟩ := hmg
        rw [q, e] at m3
        cases m3
        rw [hd] at m6
        cases m6
      · rw [q, tp] at m3
        cases m3
        cases m6
    · obtain ⟨o, es, ep, e, hd, _⟩ := hmg
      rw [z, tp] at e
      cases e
      cases hd
  have hHok : HOk P w H st.heap := fun b u q => by
    rcases Hp0.cases q with ⟨rfl, _, rfl⟩ | ⟨hb, rfl⟩
    · refine ⟨hscr, by rw [List.length_map]; exact hlen, vs, 0, rel, ?_⟩
      rw [← hso] at hscr
      exact hscr
    · exact atT b hb
  have hSq : SqL K H a (ns.map V.int) := by
    cases hk : K.lookup a with
    | none => exact .inl (.inr ⟨so, Hp0.scr hk⟩)
    | some o =>
      have e := (KX a o hk).symm.trans hscr
      cases e
      exact .inr ⟨so, vs.toArray, 0, hk, soc, son, sod, by rw [List.size_toArray, hln]; exact hlen, by simpa using rel⟩
  have hE : Env0 P w K mg (hidT st.heap H) callerA [] st H :=
    ⟨rfl, hMod, fun b o e => of_hidT e, Nat.le_of_eq (hidT_size _ _), trivial, (fun b (hb : b ∈ ([] : List Ad)) => nomatch hb), hHok, .of_eq hgen⟩
  refine codeAny_mono ((F _ hK (hNs hmg) hTab).run callerA [] st H ⟨[.ref a], []⟩ [.ref a] [.ref a] _ _ rfl hroom hE (hbind st (.ref a)) (.cons rfl .nil) (hsp H tbH hSq)) fun r s2 h => ?_
  have stays : ∀ {H2 : Hp}, Un (frs []) [] H H2 st.heap s2.heap → HOk P w H2 s2.heap → ∀ b o, b ∉ ts → st.heap.get? b = some o → s2.heap.get? b = some o := fun {H2} un ok2 b o nb e => by
    cases q : H b with
    | none => exact un.keep b o e q (fun z : b ∈ ([] : List Ad) => (nomatch z)) (by simp)
    | some u =>
      rcases Hp0.cases q with ⟨rfl, _, rfl⟩ | ⟨hb, _⟩
      · have e2 := (ok2 _ _ (un.frzs _ _ _ q)).1
        rw [hscr] at e
        cases e
        exact e2
      · exact absurd hb nb
  cases r with
  | error ev => exact h.elim
  | ok fl =>
    cases fl with
    | ret u =>
      obtain ⟨v, H2, os2, bare2, un, ok2, rv2, rfl⟩ := h
      cases (show u = Value.bool true from rv2)
      have tab2 : ∀ p ∈ cs, ∃ more : Array Value, s2.heap.get? p.2 = some { cls := .none, data := .fields more } := fun p hp => by
        obtain ⟨more, z⟩ := un.tbls p.2 #[] (tbH p hp)
        exact ⟨_, ok2 p.2 _ z⟩
      refine ⟨rfl, ⟨fun b o e => ?_, fun b o e => ?_⟩, os2, bare2⟩
      · by_cases hb : b ∈ ts
        · obtain ⟨p, hp, rfl⟩ := ofT b hb
          obtain ⟨more, hm⟩ := tab2 p hp
          have e2 := (hT p hp).symm.trans e
          cases e2
          exact .inr (.inl ⟨((C p hp).tab (hT p hp)).isCodeTable, rfl, #[], more, rfl, by rw [Array.empty_append]; exact hm⟩)
        · exact .inl (stays un ok2 b o hb e)
      · by_cases hb : b ∈ ts
        · obtain ⟨p, hp, rfl⟩ := ofT b hb
          obtain ⟨more, hm⟩ := tab2 p hp
          exact ⟨_, hm⟩
        · exact ⟨o, stays un ok2 b o hb e⟩
    | next => exact h.elim
    | brk => exact h.elim
    | cont => exact h.elim
/-- what is to be known of the law's def at the head's heap h -/
def LawG (l : PySem.W.OpenLaw) (w : World) (K : Fg) (k n : Nat) (x : Str) (mg : Str → Option Value) (fa : Ad) (h : Heap) : Prop :=
  ∃ (fd : FuncData) (cs : List (Ad × Ad)) (sp : Sp), (∀ p ∈ cs, h.get? p.2 = some { cls := .none, data := .fields #[] }) ∧ (∀ p ∈ cs, K.lookup p.2 = none) ∧ (∀ p ∈ cs, PySem.W.CodeHd h p.1 p.2) ∧ (∀ (s : Shared) (u : Value), BindsTo s fd ⟨[u], []⟩ [(x, u)]) ∧
    (∀ (H : Hp) (a : Ad) (ns : List Int), ns.length ≤ n → (∀ z ∈ ns, Builtin.Int.intBits z ≤ 1048576) → (∀ p ∈ cs, H p.2 = some (.tbl #[])) → SqL K H a (ns.map V.int) → sp [.ref a] H (fun v _ => v = .bl true) E0) ∧
    ∀ base : Heap, K.In base → base.Ns mainGlobals mg → (∀ p ∈ cs, LamX.TabB base mg p.1 p.2) → FnG l.prog w K mg base k fa fd [x] sp
theorem walk_ofG {l : PySem.W.OpenLaw} {n k : Nat} {q : Program} {loose : List Str} {XP : (Str → Option Value) → Heap → Prop} {YP : World → Heap → Prop} {d : DefRec} {K : Params → Fg} {x : Str}
    (h1 : l.most = some n) (h2 : n ≤ sizeLine) (h3 : d.params.defaults = []) (hr : Room k callerA) (hY : ∀ (w : World) (h : Heap), YP w h → (K w.params).In h)
    (F : ∀ (w : World) (mg : Str → Option Value) (fa : Ad) (h : Heap), YP w h → (K w.params).In h → h.Ns mainGlobals mg → mg d.name = some (.ref fa) → LawG l w (K w.params) k n x mg fa h) :
    PySem.W.WalkO q loose XP YP l.row.toRowW d [] (fun f vs => PySem.call f vs) := by
  refine Att.attach_callB h1 h3 fun w s0 s1 mg mb fa o pm cd doc a vs ns G Y ho hd hcd hmg hobj hints hlen hbits hg => ?_
  obtain ⟨fd, cs, sp, t1, t2, t3, hb, hsp, hF⟩ := F w mg fa _ Y (hY w _ Y) G.T.g hmg
  exact law_runG (hY w _ Y) G.T.g G.T.b G.T.builtins G.T.nolimit hg t1 t2 t3 G.T.bmain hobj hints (Nat.le_trans hlen h2) hr hF hb fun H hH hS => hsp H a ns hlen hbits hH hS
end DL

set_option Elab.async false
set_option linter.all false
set_option maxRecDepth 100000
set_option maxHeartbeats 1000000
/-! DL5: what is walked, for, while; promises of defs and their calls. -/
namespace DL
open PySem PySem.Spec PyProof.Rows L2

/-- a later heap, a later mask -/
structure Ltr (c : Cfg) (σ : SS) (H H2 : Hp) (M2 : Ad → Prop) : Prop where
  gr : Gr c.T (Mut c.Ms σ) H H2
  mu : ∀ a, M2 a → Msk c σ a ∨ H a = none
  dom : ∀ a, M2 a → ∃ xs, H2 a = some (.lst xs)
theorem Ltr.carry {c : Cfg} {K : Fg} {σ : SS} {H H2 : Hp} {M2 : Ad → Prop} (l : Ltr c σ H H2 M2) (w : ∀ a, Msk c σ a → ∃ xs, H a = some (.lst xs)) : Carry K H H2 (Msk c σ) M2 :=
  l.gr.carry (fun a m => w a (.inr m)) (fun a m => .inr m) l.mu
theorem Late.ltr {c : Cfg} {K : Fg} {σ σ2 : SS} {H H2 : Hp} {ρ : Rho} (l : Late c σ H σ2 H2) (s : SR c K σ2 H2 ρ) : Ltr c σ H H2 (Msk c σ2) := ⟨l.gr, fun a m => by
  rcases m with m | m
  · exact .inl (.inl m)
  · exact (l.mu a m).imp_left .inr, s.dom⟩
/-- the walked thing yields ds, from (σ, H) on -/
def Yld (c : Cfg) (K : Fg) (J : It) (ds : List PyData) (σ : SS) (H : Hp) : Prop :=
  ∀ (i : Nat) (H2 : Hp) (M2 : Ad → Prop), Ltr c σ H H2 M2 → LamX.Tabs c.T H2 →
    (i < ds.length → J.go i H2 ∧ ∀ x H3, J.yld i H2 x H3 → Gr c.T W0 H2 H3 ∧ ∀ d, ds[i]? = some d → Rp K H3 M2 d x) ∧ (ds.length ≤ i → J.stop i H2)
structure SI (c : Cfg) (X : Cx) (tg e : Expr) (m : SmA) : Prop where
  ex : ∃ wi : TI, PI X tg e wi ∧ ∀ (σ : SS) (H : Hp) (ρ : Rho), SR c X.K σ H ρ → ∀ ds, m ρ = .ok ds → ∀ R : It → Hp → Prop, (∀ J H', Gr c.T W0 H H' → Yld c X.K J ds σ H' → R J H') → wi σ H R

section
variable {c : Cfg} {X : Cx} {k k1 k2 k3 : Kd} {fr : Bool} {e a b e1 e2 e3 tg : Expr} {m ma mb mc : Sm} {pos p2 : Pos} {st : Stmt} {rest ss tt : List Stmt} {m1 m2 mr : Sb} {es : List Expr} {bs : List Bool} {mA : SmA} {mt : SmT}

def itL (m : Sm) : SmA := fun ρ => match m ρ with
  | .ok (.list xs) => .ok xs
  | .ok _ => .error .stuck
  | .error e => .error e
def itT (m : Sm) : SmA := fun ρ => match m ρ with
  | .ok (.tuple xs) => .ok xs
  | .ok _ => .error .stuck
  | .error e => .error e
theorem si_list (ha : SP c X k1 a ma) (hk : k1.st = true := by rfl) : SI c X tg a (itL ma) := by
  obtain ⟨t, p, q⟩ := ha.ex
  refine ⟨_, pi_list p, fun σ H ρ s ds h R w => ?_⟩
  unfold itL at h
  split at h <;> cases h
  rename_i hm
  refine q σ H ρ s _ hm _ fun v H1 g1 r1 => ?_
  have r := r1.st hk
  cases r with
  | @lst a vs _ hp nm rr =>
    refine ⟨a, rfl, ⟨vs, SqL.of hp⟩, w _ H1 g1 fun i H2 M2 l _ => ?_⟩
    have cy := l.carry (K := X.K) (s.grow g1).dom
    obtain ⟨hp2, nm2⟩ := cy.lst a vs hp nm
    have rr2 := rr.carry cy
    refine ⟨fun hi => ?_, fun hi => ⟨vs, SqL.of hp2, by rw [← rr.length]; exact hi⟩⟩
    obtain ⟨u, hu, _⟩ := rr2.get (List.getElem?_eq_getElem hi)
    refine ⟨⟨vs, u, SqL.of hp2, hu⟩, fun x H3 hy => ?_⟩
    obtain ⟨rfl, hx⟩ := hy
    refine ⟨Gr.refl _, fun d hd => ?_⟩
    obtain ⟨u', hu', ru⟩ := rr2.get hd
    have := hx vs (SqL.of hp2)
    rw [hu'] at this
    cases this
    exact ru
theorem si_tup (ha : SP c X k1 a ma) (hk : k1.st = true := by rfl) : SI c X tg a (itT ma) := by
  obtain ⟨t, p, q⟩ := ha.ex
  refine ⟨_, pi_tup p, fun σ H ρ s ds h R w => ?_⟩
  unfold itT at h
  split at h <;> cases h
  rename_i hm
  refine q σ H ρ s _ hm _ fun v H1 g1 r1 => ?_
  have r := r1.st hk
  cases r with
  | @tup a vs _ hp rr =>
    refine ⟨a, rfl, ⟨vs, hp⟩, w _ H1 g1 fun i H2 M2 l _ => ?_⟩
    have cy := l.carry (K := X.K) (s.grow g1).dom
    have hp2 := cy.tup a vs hp
    have rr2 := rr.carry cy
    refine ⟨fun hi => ?_, fun hi => ⟨vs, hp2, by rw [← rr.length]; exact hi⟩⟩
    obtain ⟨u, hu, _⟩ := rr2.get (List.getElem?_eq_getElem hi)
    refine ⟨⟨vs, u, hp2, hu⟩, fun x H3 hy => ?_⟩
    obtain ⟨rfl, hx⟩ := hy
    refine ⟨Gr.refl _, fun d hd => ?_⟩
    obtain ⟨u', hu', ru⟩ := rr2.get hd
    have := hx vs hp2
    rw [hu'] at this
    cases this
    exact ru
/-- a list in a slot that is only read -/
theorem si_fz (i : Nat) {x : Str} (hz : c.Fz.contains i = true) (hi : c.Ms.contains i = false) (hN : X.N[i]? = some x := by rfl) (hv : Vis X.env.scope x := by first | exact Or.inl rfl | exact Or.inr (Or.inl rfl) | exact Or.inr (Or.inr rfl))
    (hd : (x == ("__debug__" : Str)) = false := by decide) (hcd : (x == ("__classdict__" : Str)) = false := by decide) : SI c X tg (.Name x p2) (itL (nm i)) := by
  refine ⟨_, pi_list (pe_var (i := i) hN hv hd hcd), fun σ H ρ s ds h R w => ?_⟩
  unfold itL at h
  split at h <;> cases h
  rename_i hm
  obtain ⟨p, es, vs, e1, h1, hr, rr⟩ := s.fslot i _ (nm_ok hm) (cNot.out hi) (List.contains_iff_mem.mp hz)
  cases e1
  refine ⟨.ref p, h1, p, rfl, ⟨vs, hr.sql⟩, w _ H (Gr.refl H) fun i H2 M2 l _ => ?_⟩
  have cy := l.carry (K := X.K) s.dom
  have hq : SqL X.K H2 p vs := (l.gr.rdl (fun a m => s.dom a (.inr m)) (fun a m => m) (fun a m => .inl m) hr).sql
  have rr2 := rr.carry cy
  refine ⟨fun hi => ?_, fun hi => ⟨vs, hq, by rw [← rr.length]; exact hi⟩⟩
  obtain ⟨u, hu, _⟩ := rr2.get (List.getElem?_eq_getElem hi)
  refine ⟨⟨vs, u, hq, hu⟩, fun x H3 hy => ?_⟩
  obtain ⟨rfl, hx⟩ := hy
  refine ⟨Gr.refl _, fun d hd => ?_⟩
  obtain ⟨u', hu', ru⟩ := rr2.get hd
  have := hx vs hq
  rw [hu'] at this
  cases this
  exact ru
/-! ranges -/
def ranD (lo : Int) (n : Nat) : List PyData := (List.range n).map fun i => .int (lo + (i : Nat))
theorem ranD_len (lo : Int) (n : Nat) : (ranD lo n).length = n := by simp [ranD]
theorem ranD_get {lo : Int} {n i : Nat} {d : PyData} (h : (ranD lo n)[i]? = some d) : d = .int (lo + (i : Nat)) := by
  unfold ranD at h
  rw [List.getElem?_map] at h
  cases e : (List.range n)[i]? with
  | none => rw [e] at h; cases h
  | some j =>
    rw [e] at h
    cases h
    rw [List.getElem?_eq_some_iff] at e
    obtain ⟨hi, e⟩ := e
    rw [List.getElem_range] at e
    rw [e]
theorem yld_ran {σ : SS} {H : Hp} (lo : Int) (n : Nat) : Yld c X.K (Itr lo n) (ranD lo n) σ H := fun i H2 M2 l _ => by
  rw [ranD_len]
  refine ⟨fun hi => ⟨hi, fun x H3 hy => ?_⟩, fun hi => hi⟩
  obtain ⟨rfl, rfl⟩ := hy
  exact ⟨Gr.refl _, fun d hd => by rw [ranD_get hd]; exact .int _⟩
def itR1 (m : SmA) : SmA := fun ρ => match m ρ with
  | .ok [.int j] => if -(2 ^ 62) ≤ j ∧ j < 2 ^ 62 then .ok (ranD 0 j.toNat) else .error .stuck
  | .ok _ => .error .stuck
  | .error e => .error e
def itR2 (m : SmA) : SmA := fun ρ => match m ρ with
  | .ok [.int i, .int j] => if -(2 ^ 62) ≤ i ∧ i < 2 ^ 62 ∧ -(2 ^ 62) ≤ j ∧ j < 2 ^ 62 then .ok (ranD i (j - i).toNat) else .error .stuck
  | .ok _ => .error .stuck
  | .error e => .error e
theorem si_ran1 (hm : X.mg "range" = none) (hg : Gl X "range") (ha : SPA c X bs [a] mA) (hs : starEach [a] X.env = [(false, eval a X.env)] := by rfl) : SI c X tg (.Call (.Name "range" p2) [a] [] pos) (itR1 mA) := by
  obtain ⟨t, p, q⟩ := ha.ex
  refine ⟨_, pi_range1 hg hm p hs, fun σ H ρ s ds h R w => ?_⟩
  unfold itR1 at h
  split at h <;> try (cases h)
  rename_i j hj
  split at h <;> cases h
  rename_i hb
  refine q σ H ρ s _ hj _ fun vs H1 g1 r1 => ?_
  obtain ⟨v, rfl, r⟩ := r1.z.one
  exact ⟨j, by rw [r.int], hb.1, hb.2, w _ H1 g1 (yld_ran 0 _)⟩
theorem si_ran2 (hm : X.mg "range" = none) (hg : Gl X "range") (ha : SPA c X bs [a, b] mA) (hs : starEach [a, b] X.env = [(false, eval a X.env), (false, eval b X.env)] := by rfl) (hs2 : starEach [b] X.env = [(false, eval b X.env)] := by rfl) : SI c X tg (.Call (.Name "range" p2) [a, b] [] pos) (itR2 mA) := by
  obtain ⟨t, p, q⟩ := ha.ex
  refine ⟨_, pi_range2 hg hm p hs hs2, fun σ H ρ s ds h R w => ?_⟩
  unfold itR2 at h
  split at h <;> try (cases h)
  rename_i i j hj
  split at h <;> cases h
  rename_i hb
  refine q σ H ρ s _ hj _ fun vs H1 g1 r1 => ?_
  obtain ⟨v, u, rfl, r, r'⟩ := r1.z.two
  exact ⟨i, j, by rw [r.int, r'.int], hb, w _ H1 g1 (yld_ran i _)⟩

/-! ### for -/
def loop (g : Sg) (b : Sb) : List PyData → Rho → Rs Out
  | [], ρ => .ok (.nx ρ)
  | d :: ds, ρ => match g d ρ with
    | .ok ρ1 => (match b ρ1 with
      | .ok (.nx ρ2) => loop g b ds ρ2
      | .ok (.ct ρ2) => loop g b ds ρ2
      | .ok (.bk ρ2) => .ok (.nx ρ2)
      | .ok (.rt d ρ2) => .ok (.rt d ρ2)
      | .error e => .error e)
    | .error e => .error e
def forS (m : SmA) (g : Sg) (b : Sb) : Sb := fun ρ => match m ρ with
  | .ok ds => loop g b ds ρ
  | .error e => .error e
variable {g : Sg} {is : List Nat}
/-- the walk itself -/
theorem for_core {J : It} {tG : TG} {tB : TS} {ds : List PyData} {Wf : Ad → Prop} {H0 H1 : Hp} {σ : SS} {ρ : Rho} {o : Out} {D : Ends}
    (qG : ∀ (σ : SS) (H : Hp) (ρ : Rho) (d : PyData) (v : V), SR c X.K σ H ρ → Rp X.K H (Msk c σ) d v → ∀ ρ', g d ρ = .ok ρ' → ∀ Q : SS → Hp → Prop, (∀ σ' H', (∀ j ∈ c.Ms, σ'[j]? = σ[j]?) → SetIn is σ σ' → Gr c.T W0 H H' → SR c X.K σ' H' ρ' → Q σ' H') → tG v σ H Q)
    (qB : ∀ (Wf : Ad → Prop) (H0 : Hp) (σ : SS) (H : Hp) (ρ : Rho), BR c X.K Wf H0 σ H ρ → ∀ o, m1 ρ = .ok o → ∀ D : Ends, Post c X.K Wf H0 fr D σ H o → tB D σ H)
    (y : Yld c X.K J ds σ H1) (s : BR c X.K Wf H0 σ H1 ρ) (h : loop g m1 ds ρ = .ok o) (w1 : Post c X.K Wf H0 fr D σ H1 o) :
    ∃ W : Nat → Nat → SS → Hp → Prop, (∃ m, W 0 m σ H1) ∧ ∀ i m σ H, W i m σ H →
      (J.stop i H ∧ D.nx σ H) ∨ (J.go i H ∧ ∃ N : SS → Hp → Prop, (∀ σ' H', N σ' H' → ∃ m', m' < m ∧ W (i + 1) m' σ' H') ∧ ∀ v H', J.yld i H v H' → tG v σ H' fun σ2 H2 => tB { D with nx := N, ct := N, bk := D.nx } σ2 H2) := by
  refine ⟨fun i mm σ' H' => ∃ ρ', mm = ds.length - i ∧ i ≤ ds.length ∧ Late c σ H1 σ' H' ∧ BR c X.K Wf H0 σ' H' ρ' ∧ loop g m1 (ds.drop i) ρ' = .ok o, ⟨ds.length, ρ, rfl, Nat.zero_le _, Late.refl, s, h⟩, ?_⟩
  rintro i mm σ' H' ⟨ρ', rfl, hi, l, s', hl⟩
  obtain ⟨y1, y2⟩ := y i H' _ (l.ltr s'.sr) s'.sr.tabs
  by_cases hlt : i < ds.length
  · obtain ⟨go, yy⟩ := y1 hlt
    rw [List.drop_eq_getElem_cons hlt] at hl
    refine .inr ⟨go, fun σ2 H2 => ∃ ρ2, Late c σ H1 σ2 H2 ∧ BR c X.K Wf H0 σ2 H2 ρ2 ∧ loop g m1 (ds.drop (i + 1)) ρ2 = .ok o, fun σ2 H2 hn => ?_, fun x H3 hy => ?_⟩
    · obtain ⟨ρ2, l2, s2, hl2⟩ := hn
      exact ⟨ds.length - (i + 1), by omega, ρ2, rfl, hlt, l2, s2, hl2⟩
    · obtain ⟨g3, rx⟩ := yy x H3 hy
      have rx := rx _ (List.getElem?_eq_getElem hlt)
      unfold loop at hl
      split at hl <;> try (cases hl)
      rename_i ρ1 hg1
      refine qG σ' H3 ρ' _ x (s'.grow g3).sr rx ρ1 hg1 _ fun σ4 H4 m4 _ g4 s4 => ?_
      have s4 := (s'.grow g3).next g4 s4 m4
      have l4 : Late c σ H1 σ4 H4 := (l.trans (Late.grow g3)).trans ⟨g4.of0, fun a z => .inl (by rw [← mut_same m4]; exact z)⟩
      split at hl
      · rename_i ρ2 hb2
        refine qB Wf H0 σ4 H4 ρ1 s4 _ hb2 _ fun σ5 H5 l5 s5 => ⟨ρ2, l4.trans l5, s5, hl⟩
      · rename_i ρ2 hb2
        refine qB Wf H0 σ4 H4 ρ1 s4 _ hb2 _ fun σ5 H5 l5 s5 => ⟨ρ2, l4.trans l5, s5, hl⟩
      · rename_i ρ2 hb2
        cases hl
        exact qB Wf H0 σ4 H4 ρ1 s4 _ hb2 _ fun σ5 H5 l5 s5 => w1 σ5 H5 (l4.trans l5) s5
      · rename_i d2 ρ2 hb2
        cases hl
        exact qB Wf H0 σ4 H4 ρ1 s4 _ hb2 _ w1
      · cases hl
  · rw [List.drop_of_length_le (Nat.le_of_not_lt hlt)] at hl
    cases hl
    exact .inl ⟨y2 (Nat.le_of_not_lt hlt), w1 σ' H' l s'⟩

theorem s1_for (hp : PassesOwn (model X.prog X.w) X.A X.env X.xe) (hc : X.calm = true) (hi : SI c X tg e mA) (hg : SG c X tg is g) (hb : SB c X fr ss m1)
    (hs : ∀ x, foldedSetIterable e X.env x = pure x := by intro _; rfl) : S1 c X fr (.For tg e ss [] pos) (forS mA g m1) := by
  obtain ⟨wi, pi, qi⟩ := hi.ex
  obtain ⟨tG, pG, qG⟩ := hg.ex
  obtain ⟨tB, pB, qB⟩ := hb.ex
  refine ⟨_, ps_for hp hc pi pG pB hs, fun Wf H0 σ H ρ s o h D w => ?_⟩
  unfold forS at h
  split at h <;> try (cases h)
  rename_i ds hds
  exact qi σ H ρ s.sr ds hds _ fun J H1 g1 y => for_core qG qB y (s.grow g1) h (w.grow g1)

/-! ### while -/
def wloop (t : SmT) (b : Sb) : Nat → Rho → Rs Out
  | 0, _ => .error .stuck
  | n + 1, ρ => match t ρ with
    | .ok true => (match b ρ with
      | .ok (.nx ρ2) => wloop t b n ρ2
      | .ok (.ct ρ2) => wloop t b n ρ2
      | .ok (.bk ρ2) => .ok (.nx ρ2)
      | .ok (.rt d ρ2) => .ok (.rt d ρ2)
      | .error e => .error e)
    | .ok false => .ok (.nx ρ)
    | .error e => .error e
theorem s1_while (n : Nat) (hp : PassesOwn (model X.prog X.w) X.A X.env X.xe) (ht : SPT c X e mt) (hb : SB c X fr ss m1) : S1 c X fr (.While e ss [] pos) (wloop mt m1 n) := by
  obtain ⟨tT, pT, qT⟩ := ht.ex
  obtain ⟨tB, pB, qB⟩ := hb.ex
  refine ⟨_, ps_while hp pT pB, fun Wf H0 σ H ρ s o h D w => ?_⟩
  refine ⟨fun mm σ' H' => ∃ ρ', Late c σ H σ' H' ∧ BR c X.K Wf H0 σ' H' ρ' ∧ wloop mt m1 mm ρ' = .ok o, ⟨n, ρ, Late.refl, s, h⟩, ?_⟩
  rintro mm σ' H' ⟨ρ', l, s', hl⟩
  cases mm with
  | zero => cases hl
  | succ mm =>
    unfold wloop at hl
    split at hl <;> try (cases hl)
    · rename_i ht1
      refine qT σ' H' ρ' s'.sr _ ht1 _ fun H1 g1 => iteT ?_
      refine ⟨fun σ2 H2 => ∃ ρ2, Late c σ H σ2 H2 ∧ BR c X.K Wf H0 σ2 H2 ρ2 ∧ wloop mt m1 mm ρ2 = .ok o, fun σ2 H2 hn => ⟨mm, Nat.lt_succ_self _, hn⟩, ?_⟩
      have l1 := l.trans (Late.grow g1)
      split at hl
      · rename_i ρ2 hb2
        exact qB Wf H0 σ' H1 ρ' (s'.grow g1) _ hb2 _ fun σ5 H5 l5 s5 => ⟨ρ2, l1.trans l5, s5, hl⟩
      · rename_i ρ2 hb2
        exact qB Wf H0 σ' H1 ρ' (s'.grow g1) _ hb2 _ fun σ5 H5 l5 s5 => ⟨ρ2, l1.trans l5, s5, hl⟩
      · rename_i ρ2 hb2
        cases hl
        exact qB Wf H0 σ' H1 ρ' (s'.grow g1) _ hb2 _ fun σ5 H5 l5 s5 => w σ5 H5 (l1.trans l5) s5
      · rename_i d2 ρ2 hb2
        cases hl
        exact qB Wf H0 σ' H1 ρ' (s'.grow g1) _ hb2 _ w
      · cases hl
    · rename_i ht1
      exact qT σ' H' ρ' s'.sr _ ht1 _ fun H1 g1 => iteF (w σ' H1 (l.trans (Late.grow g1)) (s'.grow g1))
end

/-! ### promises -/
/-- room for calls, no repr open -/
structure Rdy (k : Nat) (X : Cx) : Prop where
  room : Room k X.A
  gd : X.A.guards = some []
theorem Rdy.mono {j k : Nat} {X : Cx} (r : Rdy k X) (h : j ≤ k := by decide) : Rdy j X := ⟨r.room.mono h, r.gd⟩
/-- an argument: for good, or (places of fz) only to be read -/
def ArgR (K : Fg) (H : Hp) (M : Ad → Prop) (fz : List Nat) (ds : List PyData) (vs : List V) : Prop :=
  ds.length = vs.length ∧ ∀ i d, ds[i]? = some d → ∃ v, vs[i]? = some v ∧ (i ∉ fz → Rp K H M d v) ∧ (i ∈ fz → Zp K H M d v ∧ ∃ es, d = .list es)
def Fresh (K : Fg) (H0 H : Hp) (M : Ad → Prop) (d : PyData) (v : V) : Prop :=
  (∀ p, v = .ref p → H0 p = none) ∧ ∀ p ds, v = .ref p → d = .list ds → ∃ vs, H p = some (.lst vs) ∧ RpL K H (fun a => M a ∨ a = p) ds vs
/-- a def that changes nothing that stood: it hands back f of its arguments -/
def spP (K : Fg) (T : List (Ad × Str)) (fz : List Nat) (fr : Bool) (n : Nat) (f : List PyData → Rs PyData) : Sp := fun vs H Q _ =>
  ∃ (M : Ad → Prop) (ds : List PyData) (d : PyData), ds.length = n ∧ LamX.Tabs T H ∧ (∀ a, M a → ∃ xs, H a = some (.lst xs)) ∧ ArgR K H M fz ds vs ∧ f ds = .ok d ∧
    ∀ v H', Gr T W0 H H' → Rp K H' M d v → (fr = true → Fresh K H H' M d v) → Q v H'
/-- .. a def that changes the list that is its first argument, and nothing else that stood -/
def spQ (K : Fg) (T : List (Ad × Str)) (fr : Bool) (n : Nat) (f : List PyData → Rs (PyData × PyData)) : Sp := fun vs H Q _ =>
  ∃ (M : Ad → Prop) (p : Ad) (us : List V) (vr : List V) (xs : List PyData) (ds : List PyData) (d : PyData) (ys : List PyData), ds.length + 1 = n ∧ vs = .ref p :: vr ∧ LamX.Tabs T H ∧ (∀ a, M a → ∃ xs, H a = some (.lst xs)) ∧ M p ∧
    H p = some (.lst us) ∧ RpL K H M xs us ∧ RpL K H M ds vr ∧ f (.list xs :: ds) = .ok (d, .list ys) ∧
    ∀ v H' us', Gr T (fun a => a = p) H H' → H' p = some (.lst us') → RpL K H' M ys us' → Rp K H' M d v → (fr = true → Fresh K H H' M d v) → Q v H'
/-- what a body gives -/
def runB (n : Nat) (b : Sb) (ds : List PyData) : Rs PyData := match b (ds.map some ++ List.replicate n none) with
  | .ok (.rt d _) => .ok d
  | .ok (.nx _) => .ok .none
  | .ok _ => .error .stuck
  | .error e => .error e
def runQ (n : Nat) (b : Sb) (ds : List PyData) : Rs (PyData × PyData) := match b (ds.map some ++ List.replicate n none) with
  | .ok (.rt d ρ) => (match ρ[0]? with
    | some (some x) => .ok (d, x)
    | _ => .error .stuck)
  | .ok (.nx ρ) => (match ρ[0]? with
    | some (some x) => .ok (.none, x)
    | _ => .error .stuck)
  | .ok _ => .error .stuck
  | .error e => .error e

section
variable {P : Program} {w : World} {K : PySem.W.Frag} {mg : Str → Option Value} {base : Heap} {T : List (Ad × Str)}
theorem start_get {N : List Str} {vs : List V} {i : Nat} {v : V} (h : (L2.start N vs)[i]? = some (some v)) : vs[i]? = some v := by
  unfold L2.start at h
  by_cases hi : i < vs.length
  · rw [List.getElem?_append_left (by simpa using hi), List.getElem?_map] at h
    cases e : vs[i]? with
    | none => rw [e] at h; cases h
    | some a => rw [e] at h; cases h; rfl
  · rw [List.getElem?_append_right (by simpa using hi), List.getElem?_replicate] at h
    split at h <;> cases h
theorem rho_get {ds : List PyData} {n i : Nat} {d : PyData} (h : (ds.map some ++ List.replicate n none)[i]? = some (some d)) : ds[i]? = some d := by
  by_cases hi : i < ds.length
  · rw [List.getElem?_append_left (by simpa using hi), List.getElem?_map] at h
    cases e : ds[i]? with
    | none => rw [e] at h; cases h
    | some a => rw [e] at h; cases h; rfl
  · rw [List.getElem?_append_right (by simpa using hi), List.getElem?_replicate] at h
    split at h <;> cases h
theorem start_at {N : List Str} {vs : List V} {i : Nat} {v : V} (h : vs[i]? = some v) : (L2.start N vs)[i]? = some (some v) := by
  unfold L2.start
  have hi : i < vs.length := (List.getElem?_eq_some_iff.mp h).1
  rw [List.getElem?_append_left (by simpa using hi), List.getElem?_map, h]
  rfl
/-- THE RULE for a def that changes nothing: its body's semantics -/
theorem fn_pure {x qual : Str} {st : Stmt} {f : Ad} {fd : FuncData} {N ps : List Str} {k : Nat} (F : Fun K x qual st f fd) (S : FnScope N ps (defScope st)) (fz Ms : List Nat) (fr : Bool) (b : Sb)
    (hb : ∀ (cdv : Value), fd.code = cdv → ∀ (A : Around) (outer : List Env) (s : Shared) (H : Hp) (E : XK) (M : Ad → Prop), Rdy k (cxOf CX0 P w K mg base N qual (defScope st) f cdv A outer s H E).nox →
      SB ⟨T, M, Ms, fz⟩ (cxOf CX0 P w K mg base N qual (defScope st) f cdv A outer s H E).nox fr (defBody st) b)
    (hM : Ms.all (fun i => decide (ps.length ≤ i)) = true := by rfl) (hl : ps.length ≤ N.length := by decide) :
    FnG P w K mg base (k + 1) f fd ps (spP K T fz fr ps.length (runB (N.length - ps.length) b)) := by
  refine fnG_of F S (fun vs H Q E h => ?_) (fun cdv hcv A outer s H vs Q E hgd hr h => ?_)
  · obtain ⟨M, ds, d, h1, _, _, h2, _⟩ := h
    rw [← h1, h2.1]
  · obtain ⟨M, ds, d, h1, ht, hm, ⟨hl1, ha⟩, hf, q⟩ := h
    obtain ⟨t, p, qq⟩ := (hb cdv hcv A outer s H E M ⟨hr, hgd⟩).ex
    refine ⟨t, p, ?_⟩
    have hvl : vs.length = ps.length := by rw [← h1, hl1]
    have nmu : ∀ a, ¬ Mut Ms (L2.start N vs) a := fun a ⟨i, hi, e⟩ => by
      have := List.all_eq_true.mp hM i hi
      have h2 := (List.getElem?_eq_some_iff.mp (start_get e)).1
      have h3 : ps.length ≤ i := of_decide_eq_true this
      omega
    have em : Msk ⟨T, M, Ms, fz⟩ (L2.start N vs) = M := by
      funext a
      exact propext ⟨fun z => z.elim id fun z => (nmu a z).elim, .inl⟩
    have sr : SR ⟨T, M, Ms, fz⟩ K (L2.start N vs) H (ds.map some ++ List.replicate (N.length - ps.length) none) := by
      refine ⟨ht, ?_, fun a m => hm a (by rw [← em]; exact m), fun i j a h1 _ e1 _ => (nmu a ⟨i, h1, e1⟩).elim, fun i d e n nz => ?_, fun i d e n nz => ?_, fun i d e n => ?_⟩
      · unfold L2.start
        simp only [List.length_append, List.length_map, List.length_replicate]
        rw [h1, hvl]
      · obtain ⟨v, hv, r, _⟩ := ha i d (rho_get e)
        rw [em]
        exact ⟨v, start_at hv, r nz⟩
      · obtain ⟨v, hv, _, r⟩ := ha i d (rho_get e)
        obtain ⟨rz, es, rfl⟩ := r nz
        obtain ⟨p, us, rfl, hq, rr⟩ := rz.lst
        refine ⟨p, es, us, rfl, start_at hv, ?_, by rw [em]; exact rr⟩
        rcases hq with hq | hq
        · exact .inl ⟨hq, nmu p⟩
        · exact .inr hq
      · have := List.all_eq_true.mp hM i n
        have h2 := (List.getElem?_eq_some_iff.mp (rho_get e)).1
        have h3 : ps.length ≤ i := of_decide_eq_true this
        omega
    have br : BR ⟨T, M, Ms, fz⟩ K W0 H (L2.start N vs) H (ds.map some ++ List.replicate (N.length - ps.length) none) :=
      ⟨sr, Gr.refl H, fun a m => (nmu a m).elim, fun a m z => (by
        obtain ⟨xs, e⟩ := hm a m
        rw [e] at z
        cases z), fun a z => z.elim⟩
    unfold runB at hf
    split at hf
    · rename_i d' ρ' hb'
      cases hf
      refine qq W0 H _ H _ br _ hb' _ fun v σ' H' s' r fr' => ?_
      exact q v H' s'.gr r fr'
    · rename_i ρ' hb'
      cases hf
      refine qq W0 H _ H _ br _ hb' _ fun σ' H' l' s' => ?_
      exact q .non H' s'.gr .non fun _ => ⟨(fun _ z => nomatch z), fun _ _ z => nomatch z⟩
    · cases hf
    · cases hf
/-- .. for one that changes the list that is its first argument -/
theorem fn_io {x qual : Str} {st : Stmt} {f : Ad} {fd : FuncData} {N ps : List Str} {k : Nat} (F : Fun K x qual st f fd) (S : FnScope N ps (defScope st)) (Ms : List Nat) (fr : Bool) (b : Sb)
    (hb : ∀ (cdv : Value), fd.code = cdv → ∀ (A : Around) (outer : List Env) (s : Shared) (H : Hp) (E : XK) (M : Ad → Prop), Rdy k (cxOf CX0 P w K mg base N qual (defScope st) f cdv A outer s H E).nox →
      SB ⟨T, M, 0 :: Ms, []⟩ (cxOf CX0 P w K mg base N qual (defScope st) f cdv A outer s H E).nox fr (defBody st) b)
    (hM : Ms.all (fun i => decide (ps.length ≤ i)) = true := by rfl) (hl : ps.length ≤ N.length := by decide) :
    FnG P w K mg base (k + 1) f fd ps (spQ K T fr ps.length (runQ (N.length - ps.length) b)) := by
  refine fnG_of F S (fun vs H Q E h => ?_) (fun cdv hcv A outer s H vs Q E hgd hr h => ?_)
  · obtain ⟨M, p, us, vr, xs, ds, d, ys, h1, rfl, _, _, _, _, _, h2, _⟩ := h
    rw [← h1, h2.length]
    rfl
  · obtain ⟨M, p, us, vr, xs, ds, d, ys, h1, rfl, ht, hm, hMp, hp, rx, rd, hf, q⟩ := h
    obtain ⟨t, pp, qq⟩ := (hb cdv hcv A outer s H E M ⟨hr, hgd⟩).ex
    refine ⟨t, pp, ?_⟩
    have hvl : vr.length + 1 = ps.length := by rw [← h1, rd.length]
    have s0 : (L2.start N (V.ref p :: vr))[0]? = some (some (.ref p)) := start_at rfl
    have mu : ∀ a, Mut (0 :: Ms) (L2.start N (V.ref p :: vr)) a → a = p := fun a ⟨i, hi, e⟩ => by
      rcases List.mem_cons.mp hi with rfl | hi
      · rw [s0] at e
        cases e
        rfl
      · have := List.all_eq_true.mp hM i hi
        have h2 := (List.getElem?_eq_some_iff.mp (start_get e)).1
        have h3 : ps.length ≤ i := of_decide_eq_true this
        rw [List.length_cons] at h2
        omega
    have mup : Mut (0 :: Ms) (L2.start N (V.ref p :: vr)) p := ⟨0, List.mem_cons_self, s0⟩
    have em : Msk ⟨T, M, 0 :: Ms, []⟩ (L2.start N (V.ref p :: vr)) = M := by
      funext a
      exact propext ⟨fun z => z.elim id fun z => by rw [mu a z]; exact hMp, .inl⟩
    have sr : SR ⟨T, M, 0 :: Ms, []⟩ K (L2.start N (V.ref p :: vr)) H ((.list xs :: ds).map some ++ List.replicate (N.length - ps.length) none) := by
      refine ⟨ht, ?_, fun a m => hm a (by rw [← em]; exact m), fun i j a hi hj e1 e2 => ?_, fun i d e n nz => ?_, fun i d e n nz => (nomatch nz), fun i d e n => ?_⟩
      · unfold L2.start
        simp only [List.length_append, List.length_map, List.length_replicate, List.length_cons]
        omega
      · have big : ∀ i, i ∈ (0 :: Ms) → (L2.start N (V.ref p :: vr))[i]? = some (some (.ref a)) → i = 0 := fun i hi e => by
          rcases List.mem_cons.mp hi with rfl | hi
          · rfl
          · have := List.all_eq_true.mp hM i hi
            have h2 := (List.getElem?_eq_some_iff.mp (start_get e)).1
            have h3 : ps.length ≤ i := of_decide_eq_true this
            rw [List.length_cons] at h2
            omega
        rw [big i hi e1, big j hj e2]
      · have e' := rho_get e
        cases i with
        | zero => exact absurd List.mem_cons_self n
        | succ i =>
          obtain ⟨v, hv, r⟩ := rd.get (i := i) (by simpa using e')
          rw [em]
          exact ⟨v, start_at (by simpa using hv), r⟩
      · rcases List.mem_cons.mp n with rfl | hi
        · have e' := rho_get e
          cases e'
          exact ⟨p, xs, us, rfl, s0, hp, by rw [em]; exact rx⟩
        · have := List.all_eq_true.mp hM i hi
          have h2 := (List.getElem?_eq_some_iff.mp (rho_get e)).1
          have h3 : ps.length ≤ i := of_decide_eq_true this
          rw [List.length_cons] at h2
          omega
    have br : BR ⟨T, M, 0 :: Ms, []⟩ K (fun a => a = p) H (L2.start N (V.ref p :: vr)) H ((.list xs :: ds).map some ++ List.replicate (N.length - ps.length) none) :=
      ⟨sr, Gr.refl H, fun a m => .inl (mu a m), fun a m z => (by
        obtain ⟨xs, e⟩ := hm a m
        rw [e] at z
        cases z), fun a z => ⟨List.mem_cons_self, by rw [z]; exact s0⟩⟩
    have fin : ∀ {σ' : SS} {H' : Hp} {ρ' : Rho}, BR ⟨T, M, 0 :: Ms, []⟩ K (fun a => a = p) H σ' H' ρ' → ρ'[0]? = some (some (.list ys)) → ∃ us', H' p = some (.lst us') ∧ RpL K H' M ys us' := fun {σ' H' ρ'} s' e => by
      obtain ⟨q', es, us', e1, h1, h2, r⟩ := s'.sr.mslot 0 _ e List.mem_cons_self
      cases e1
      obtain ⟨_, h3⟩ := s'.io p rfl
      rw [h1] at h3
      cases h3
      exact ⟨us', h2, r.carry ⟨fun _ _ h => h, fun a _ h m => ⟨h, fun z => m (.inl z)⟩⟩⟩
    unfold runQ at hf
    split at hf
    · rename_i d' ρ' hb'
      split at hf <;> cases hf
      rename_i h0
      refine qq _ H _ H _ br _ hb' _ fun v σ' H' s' r fr' => ?_
      obtain ⟨us', e1, e2⟩ := fin s' h0
      exact q v H' us' s'.gr e1 e2 r fr'
    · rename_i ρ' hb'
      split at hf <;> cases hf
      rename_i h0
      refine qq _ H _ H _ br _ hb' _ fun σ' H' l' s' => ?_
      obtain ⟨us', e1, e2⟩ := fin s' h0
      exact q .non H' us' s'.gr e1 e2 .non fun _ => ⟨(fun _ z => nomatch z), fun _ _ z => nomatch z⟩
    · cases hf
    · cases hf
end

/-! ### calls of such defs -/
/-- the def of that name keeps such a promise -/
structure CalP (P : Program) (w : World) (K : Fg) (mg : Str → Option Value) (base : Heap) (T : List (Ad × Str)) (lv : Nat) (x : Str) (fz : List Nat) (fr : Bool) (n : Nat) (ff : List PyData → Rs PyData) : Prop where
  ex : ∃ (f : Ad) (fd : FuncData) (ps : List Str), FnG P w K mg base lv f fd ps (spP K T fz fr n ff) ∧ mg x = some (.ref f) ∧ PySem.W.keepIn K (.ref f) = true ∧ Binds K fd ps []
structure CalQ (P : Program) (w : World) (K : Fg) (mg : Str → Option Value) (base : Heap) (T : List (Ad × Str)) (lv : Nat) (x : Str) (fr : Bool) (n : Nat) (ff : List PyData → Rs (PyData × PyData)) : Prop where
  ex : ∃ (f : Ad) (fd : FuncData) (ps : List Str), FnG P w K mg base lv f fd ps (spQ K T fr n ff) ∧ mg x = some (.ref f) ∧ PySem.W.keepIn K (.ref f) = true ∧ Binds K fd ps []
theorem CalP.mono {P : Program} {w : World} {K : Fg} {mg : Str → Option Value} {base : Heap} {T : List (Ad × Str)} {j k : Nat} {x : Str} {fz : List Nat} {fr : Bool} {n : Nat} {ff : List PyData → Rs PyData} (C : CalP P w K mg base T j x fz fr n ff) (h : j ≤ k := by decide) : CalP P w K mg base T k x fz fr n ff := by
  obtain ⟨f, fd, ps, F, r⟩ := C.ex
  exact ⟨f, fd, ps, F.mono h, r⟩
theorem CalQ.mono {P : Program} {w : World} {K : Fg} {mg : Str → Option Value} {base : Heap} {T : List (Ad × Str)} {j k : Nat} {x : Str} {fr : Bool} {n : Nat} {ff : List PyData → Rs (PyData × PyData)} (C : CalQ P w K mg base T j x fr n ff) (h : j ≤ k := by decide) : CalQ P w K mg base T k x fr n ff := by
  obtain ⟨f, fd, ps, F, r⟩ := C.ex
  exact ⟨f, fd, ps, F.mono h, r⟩
section
variable {c : Cfg} {X : Cx} {k k1 k2 k3 : Kd} {fr : Bool} {e a b : Expr} {m ma mb mc : Sm} {pos p2 : Pos} {es : List Expr} {bs : List Bool} {mA : SmA} {n lv : Nat} {f : Ad} {fd : FuncData} {ps : List Str} {x : Str} {fz : List Nat}
theorem KsL.arg {K : Fg} {H : Hp} {M : Ad → Prop} {ds : List PyData} {vs : List V} : ∀ {bs : List Bool}, KsL K H M bs ds vs → (∀ i, i ∉ fz → bs[i]? ≠ some false) → (∀ i d, i ∈ fz → ds[i]? = some d → ∃ es, d = .list es) → ArgR K H M fz ds vs := fun {bs} h hb hl => by
  have key : ∀ {bs : List Bool} {ds : List PyData} {vs : List V}, KsL K H M bs ds vs → ds.length = vs.length ∧ ∀ (i : Nat) (d : PyData), ds[i]? = some d → ∃ (v : V) (b : Bool), vs[i]? = some v ∧ bs[i]? = some b ∧ K1 b K H M d v := fun {bs ds vs} h => by
    induction h with
    | nil => exact ⟨rfl, fun i d e => by simp at e⟩
    | cons h r ih =>
      refine ⟨by simp [ih.1], fun i d e => ?_⟩
      cases i with
      | zero => simp at e; subst e; exact ⟨_, _, rfl, rfl, h⟩
      | succ i => exact ih.2 i d (by simpa using e)
  obtain ⟨h1, h2⟩ := key h
  refine ⟨h1, fun i d e => ?_⟩
  obtain ⟨v, b, e1, e2, r⟩ := h2 i d e
  refine ⟨v, e1, fun n => ?_, fun n => ⟨r.z, hl i d n e⟩⟩
  cases b with
  | true => exact r
  | false => exact absurd e2 (hb i n)
/-- places of fz must hold lists -/
def lstAt (fz : List Nat) (ds : List PyData) : Bool := fz.all fun i => match ds[i]? with
  | some (.list _) => true
  | some _ => false
  | none => true
theorem lstAt_ok {ds : List PyData} (h : lstAt fz ds = true) : ∀ i d, i ∈ fz → ds[i]? = some d → ∃ es, d = .list es := fun i d hi e => by
  have := List.all_eq_true.mp h i hi
  simp only [e] at this
  cases d <;> simp at this
  exact ⟨_, rfl⟩
def calS (fz : List Nat) (n : Nat) (f : List PyData → Rs PyData) (m : SmA) : Sm := fun ρ => match m ρ with
  | .ok ds => if ds.length = n ∧ lstAt fz ds = true then f ds else .error .stuck
  | .error e => .error e
theorem calS_ok {f : List PyData → Rs PyData} {ρ : Rho} {z : PyData} (h : calS fz n f mA ρ = .ok z) : ∃ ds, mA ρ = .ok ds ∧ ds.length = n ∧ lstAt fz ds = true ∧ f ds = .ok z := by
  unfold calS at h
  split at h <;> try (cases h)
  split at h <;> try (cases h)
  rename_i h1 h2
  exact ⟨_, h1, h2.1, h2.2, h⟩
theorem kinds_ok {bs : List Bool} (h : (List.range bs.length).all (fun i => bs.getD i true || fz.contains i) = true) : ∀ i, i ∉ fz → bs[i]? ≠ some false := fun i hi e => by
  have hlt := (List.getElem?_eq_some_iff.mp e).1
  have := List.all_eq_true.mp h i (List.mem_range.mpr hlt)
  rw [List.getD_eq_getElem?_getD, e] at this
  simp at this
  exact hi this
/-- f(e, ..), f a def that changes nothing -/
theorem sp_call {ff : List PyData → Rs PyData} (C : CalP X.prog X.w X.K X.mg X.base c.T lv x fz fr n ff) (hr : Rdy lv X) (hg : Gl X x) (ha : SPA c X bs (e :: es) mA)
    (hbs : (List.range bs.length).all (fun i => bs.getD i true || fz.contains i) = true := by rfl) (hdb : (x == ("__debug__" : Str)) = false := by decide)
    (he : starEach (e :: es) X.env = (false, eval e X.env) :: starEach es X.env := by rfl) (hpl : (backTo pos (starEach es X.env)).any (·.1) = false := by rfl) : SP c X (if fr then .f else .s) (.Call (.Name x p2) (e :: es) [] pos) (calS fz n ff mA) := by
  obtain ⟨ta, pa, qa⟩ := ha.ex
  obtain ⟨f, fd, ps, F, hm, hk, hb⟩ := C.ex
  refine ⟨_, pe_callG F hr.gd hr.room hg hm hk hb pa hdb he hpl, fun σ H ρ s z h Q q => ?_⟩
  obtain ⟨ds, hd, hn, hl, hz⟩ := calS_ok h
  refine qa σ H ρ s ds hd _ fun vs H1 g1 r1 => ?_
  refine ⟨Msk c σ, ds, z, hn, (s.grow g1).tabs, (s.grow g1).dom, r1.arg (kinds_ok hbs) (lstAt_ok hl), hz, fun v H2 g2 r2 f2 => q v H2 (g1.trans g2) ?_⟩
  cases fr with
  | true =>
    obtain ⟨f3, f4⟩ := f2 rfl
    exact ⟨r2, fun p e => g1.none p (f3 p e), f4⟩
  | false => exact r2
end
end DL

set_option Elab.async false
set_option linter.all false
set_option maxRecDepth 100000
set_option maxHeartbeats 1000000
/-! DL6: list comprehensions. -/
namespace DL
open PySem PySem.Spec PyProof.Rows L2

/-! ### readings that hang on no context -/
def tSu (T : List (Ad × Str)) (Ms Fz : List Nat) (K : Fg) (k : Kd) (m : Sm) : TE := fun σ H Q => ∃ (M : Ad → Prop) (ρ : Rho) (d : PyData), SR ⟨T, M, Ms, Fz⟩ K σ H ρ ∧ m ρ = .ok d ∧
  ∀ v H', Gr T W0 H H' → KR k K H H' (Msk ⟨T, M, Ms, Fz⟩ σ) d v → Q v H'
def tTu (T : List (Ad × Str)) (Ms Fz : List Nat) (K : Fg) (m : SmT) : TT := fun σ H Q => ∃ (M : Ad → Prop) (ρ : Rho) (b : Bool), SR ⟨T, M, Ms, Fz⟩ K σ H ρ ∧ m ρ = .ok b ∧ ∀ H', Gr T W0 H H' → Q b H'
def tGu (T : List (Ad × Str)) (Ms Fz : List Nat) (K : Fg) (is : List Nat) (g : Sg) : TG := fun v σ H Q => ∃ (M : Ad → Prop) (ρ ρ' : Rho) (d : PyData), SR ⟨T, M, Ms, Fz⟩ K σ H ρ ∧ Rp K H (Msk ⟨T, M, Ms, Fz⟩ σ) d v ∧ g d ρ = .ok ρ' ∧
  ∀ σ' H', (∀ j ∈ Ms, σ'[j]? = σ[j]?) → SetIn is σ σ' → Gr T W0 H H' → SR ⟨T, M, Ms, Fz⟩ K σ' H' ρ' → Q σ' H'
def tIu (T : List (Ad × Str)) (Ms Fz : List Nat) (K : Fg) (m : SmA) : TI := fun σ H R => ∃ (M : Ad → Prop) (ρ : Rho) (ds : List PyData), SR ⟨T, M, Ms, Fz⟩ K σ H ρ ∧ m ρ = .ok ds ∧ ∀ J H', Gr T W0 H H' → Yld ⟨T, M, Ms, Fz⟩ K J ds σ H' → R J H'
section
variable {T : List (Ad × Str)} {Ms Fz : List Nat} {X : Cx} {k : Kd} {e : Expr} {m : Sm}
theorem pe_u (h : ∀ M, SP ⟨T, M, Ms, Fz⟩ X k e m) : PE X e (tSu T Ms Fz X.K k m) := ⟨fun pins s σ H Q I ⟨M, ρ, d, hs, hd, q⟩ => by
  obtain ⟨t, p, w⟩ := (h M).ex
  exact p.run pins s σ H Q I (w σ H ρ hs d hd Q q)⟩
theorem pt_u {m : SmT} (h : ∀ M, SPT ⟨T, M, Ms, Fz⟩ X e m) : PT X e (tTu T Ms Fz X.K m) := ⟨fun pins s σ H Q I ⟨M, ρ, d, hs, hd, q⟩ => by
  obtain ⟨t, p, w⟩ := (h M).ex
  exact p.run pins s σ H Q I (w σ H ρ hs d hd Q q)⟩
theorem pg_u {is : List Nat} {g : Sg} (h : ∀ M, SG ⟨T, M, Ms, Fz⟩ X e is g) : PG X e (tGu T Ms Fz X.K is g) := ⟨fun pins s σ H v u Q I r ⟨M, ρ, ρ', d, hs, hr, hd, q⟩ => by
  obtain ⟨t, p, w⟩ := (h M).ex
  exact p.run pins s σ H v u Q I r (w σ H ρ d v hs hr ρ' hd Q q)⟩
theorem pi_u {tg : Expr} {m : SmA} (h : ∀ M, SI ⟨T, M, Ms, Fz⟩ X tg e m) : PI X tg e (tIu T Ms Fz X.K m) := ⟨fun pins s σ H R I ⟨M, ρ, d, hs, hd, q⟩ => by
  obtain ⟨t, p, w⟩ := (h M).ex
  exact p.run pins s σ H R I (w σ H ρ hs d hd R q)⟩
/-- a clause's test, or none -/
structure SPTs (c : Cfg) (X : Cx) (es : List Expr) (m : SmT) : Prop where
  ex : (es = [] ∧ m = fun _ => .ok true) ∨ ∃ e, es = [e] ∧ SPT c X e m
def tyes : SmT := fun _ => .ok true
theorem spts_nil {c : Cfg} : SPTs c X [] tyes := ⟨.inl ⟨rfl, rfl⟩⟩
theorem spts_one {c : Cfg} {m : SmT} (h : SPT c X e m) : SPTs c X [e] m := ⟨.inr ⟨e, rfl, h⟩⟩
theorem pts_u {es : List Expr} {m : SmT} (h : ∀ M, SPTs ⟨T, M, Ms, Fz⟩ X es m) : PTs X es (tTu T Ms Fz X.K m) := by
  rcases (h W0).ex with ⟨rfl, rfl⟩ | ⟨e, rfl, _⟩
  · exact ⟨fun pins s σ H Q I ⟨M, ρ, d, hs, hd, q⟩ => by
      cases hd
      exact pts_nil.run pins s σ H Q I (q H (Gr.refl H))⟩
  · refine pts_one (pt_u fun M => ?_)
    rcases (h M).ex with ⟨z, _⟩ | ⟨e', z, q⟩
    · cases z
    · cases z
      exact q
end

def wipeR (ρ : Rho) : List Nat → Rho
  | [] => ρ
  | v :: vs => (wipeR ρ vs).set v none
theorem wipeR_length (ρ : Rho) : ∀ vs : List Nat, (wipeR ρ vs).length = ρ.length
  | [] => rfl
  | v :: vs => by unfold wipeR; rw [List.length_set, wipeR_length ρ vs]
theorem wipeR_some {ρ : Rho} {i : Nat} {x : PyData} : ∀ {vs : List Nat}, (wipeR ρ vs)[i]? = some (some x) → ρ[i]? = some (some x) ∧ i ∉ vs
  | [], h => ⟨h, by simp⟩
  | v :: vs, h => by
    unfold wipeR at h
    by_cases hi : v = i
    · subst hi
      by_cases hv : v < (wipeR ρ vs).length
      · rw [List.getElem?_set_self hv] at h; cases h
      · rw [List.getElem?_eq_none (by simpa using hv)] at h; cases h
    · rw [List.getElem?_set_ne hi] at h
      obtain ⟨h1, h2⟩ := wipeR_some h
      exact ⟨h1, by simp only [List.mem_cons, not_or]; exact ⟨fun e => hi e.symm, h2⟩⟩
theorem SR.wipe {c : Cfg} {K : Fg} {σ : SS} {H : Hp} {ρ : Rho} {vs : List Nat} (s : SR c K σ H ρ) (hv : ∀ j ∈ c.Ms, j ∉ vs) : SR c K (wipe σ vs) H (wipeR ρ vs) := by
  have ms : ∀ j ∈ c.Ms, (L2.wipe σ vs)[j]? = σ[j]? := fun j hj => wipe_out (hv j hj)
  have em := msk_same (c := c) ms
  have eu := mut_same ms
  refine ⟨s.tabs, by rw [wipeR_length, wipe_length, s.len], fun a m => s.dom a (by rw [← em]; exact m), fun i j a h1 h2 e1 e2 => ?_, fun i d e n nz => ?_, fun i d e n nz => ?_, fun i d e n => ?_⟩
  · rw [ms i h1] at e1
    rw [ms j h2] at e2
    exact s.inj i j a h1 h2 e1 e2
  · obtain ⟨e1, e2⟩ := wipeR_some e
    obtain ⟨v, h, r⟩ := s.slot i d e1 n nz
    exact ⟨v, by rw [wipe_out e2]; exact h, by rw [em]; exact r⟩
  · obtain ⟨e1, e2⟩ := wipeR_some e
    obtain ⟨p, ds, us, h0, h, r, r'⟩ := s.fslot i d e1 n nz
    exact ⟨p, ds, us, h0, by rw [wipe_out e2]; exact h, by rw [eu]; exact r, by rw [em]; exact r'⟩
  · obtain ⟨e1, e2⟩ := wipeR_some e
    obtain ⟨p, ds, us, h0, h, r, r'⟩ := s.mslot i d e1 n
    exact ⟨p, ds, us, h0, by rw [wipe_out e2]; exact h, r, by rw [em]; exact r'⟩
/-- one more list that may change, besides -/
abbrev Cfg.plus (c : Cfg) (D : Ad) : Cfg := ⟨c.T, fun a => c.M0 a ∨ a = D, c.Ms, c.Fz⟩
theorem msk_plus {c : Cfg} {D : Ad} {σ : SS} : Msk (c.plus D) σ = fun a => Msk c σ a ∨ a = D := by
  funext a
  unfold Msk
  exact propext ⟨fun h => h.elim (fun z => z.elim (fun z => .inl (.inl z)) .inr) fun z => .inl (.inr z), fun h => h.elim (fun z => z.elim (fun z => .inl (.inl z)) .inr) fun z => .inl (.inr z)⟩
/-- the state from H1 (without D) at a later heap, D beside -/
theorem SR.plus {c : Cfg} {K : Fg} {σ : SS} {H1 H2 : Hp} {ρ : Rho} {D : Ad} {vs : List V} (s : SR c K σ H1 ρ) (g : Gr c.T W0 H1 H2) (hn : H1 D = none) (hD : H2 D = some (.lst vs)) : SR (c.plus D) K σ H2 ρ := by
  have cy : Carry K H1 H2 (Msk c σ) (Msk (c.plus D) σ) := g.carry (fun _ z => z.elim) (fun _ z => z.elim) fun a m => by
    rw [msk_plus] at m
    exact m.imp_right fun e => by rw [e]; exact hn
  refine ⟨g.tabs s.tabs, s.len, fun a m => ?_, s.inj, fun i d e n nz => ?_, fun i d e n nz => ?_, fun i d e n => ?_⟩
  · rw [msk_plus] at m
    rcases m with m | rfl
    · obtain ⟨xs, q⟩ := s.dom a m
      exact ⟨xs, g.keep a _ (fun z => z) q fun _ z => nomatch z⟩
    · exact ⟨vs, hD⟩
  · obtain ⟨v, h, r⟩ := s.slot i d e n nz
    exact ⟨v, h, r.carry cy⟩
  · obtain ⟨p, ds, us, h0, h, r, r'⟩ := s.fslot i d e n nz
    exact ⟨p, ds, us, h0, h, g.rdl (fun _ z => z.elim) (fun _ z => z.elim) (fun _ z => .inl z) r, r'.carry cy⟩
  · obtain ⟨p, ds, us, h0, h, r, r'⟩ := s.mslot i d e n
    exact ⟨p, ds, us, h0, h, g.keep p _ (fun z => z) r (fun _ z => nomatch z), r'.carry cy⟩

def compL (ρw : Rho) (g : Sg) (t : SmT) (el : Sm) : List PyData → Rs (List PyData)
  | [] => .ok []
  | d :: ds => match g d ρw with
    | .ok ρ1 => (match t ρ1 with
      | .ok true => (match el ρ1 with
        | .ok x => (match compL ρw g t el ds with
          | .ok xs => .ok (x :: xs)
          | .error e => .error e)
        | .error e => .error e)
      | .ok false => compL ρw g t el ds
      | .error e => .error e)
    | .error e => .error e
def compS (m : SmA) (vs : List Nat) (g : Sg) (t : SmT) (el : Sm) : Sm := fun ρ => match m ρ with
  | .ok ds => if ds.length ≤ big then (match compL (wipeR ρ vs) g t el ds with
    | .ok xs => .ok (.list xs)
    | .error e => .error e) else .error .stuck
  | .error e => .error e
section
variable {c : Cfg} {X : Cx} {k k1 k2 : Kd} {elt tg iter : Expr} {ifs : List Expr} {scope : Scope} {own : List (Str × Nat)} {pos : Pos} {mA : SmA} {is : List Nat} {g : Sg} {mt : SmT} {el : Sm}
theorem gr_acc {T : List (Ad × Str)} {H1 H2 : Hp} {D : Ad} {us ws : List V} (g : Gr T W0 H1 H2) (hn : H1 D = none) (hD : H2 D = some (.lst us)) : Gr T W0 H1 (upd H2 D (.lst ws)) :=
  ⟨fun b o w h n => (upd_ne (ne_of_none h hn)).trans (g.keep b o w h n), fun b h => (by
    by_cases e : b = D
    · rw [e]; exact hn
    · rw [upd_ne e] at h; exact g.none b h), fun t => (Gr.write (W := fun a => a = D) rfl hD).tabs (g.tabs t)⟩
theorem lc_read (hv : ∀ j ∈ c.Ms, j ∉ own.map (·.2)) (his : ∀ i ∈ is, i ∈ own.map (·.2)) (hk : k.st = true) {σ : SS} {H : Hp} {ρ : Rho} (s : SR c X.K σ H ρ) {d : PyData} (h : compS mA (own.map (·.2)) g mt el ρ = .ok d) {wi : TI}
    (hwi : ∀ ds, mA ρ = .ok ds → ∀ R : It → Hp → Prop, (∀ J H', Gr c.T W0 H H' → Yld c X.K J ds σ H' → R J H') → wi σ H R) {Q : VK} (q : ∀ v H', Gr c.T W0 H H' → KR .f X.K H H' (Msk c σ) d v → Q v H') :
    tLc wi (tGu c.T c.Ms c.Fz X.K is g) (tTu c.T c.Ms c.Fz X.K mt) (tSu c.T c.Ms c.Fz X.K k el) (own.map (·.2)) σ H Q := by
  unfold compS at h
  split at h <;> try (cases h)
  rename_i ds hds
  split at h <;> try (cases h)
  rename_i hlen
  split at h <;> cases h
  rename_i xs hxs
  refine hwi ds hds _ fun J H1 g1 y D hD => ?_
  have s1 := s.grow g1
  refine ⟨fun i mm H' => ∃ es acc, mm = ds.length - i ∧ i ≤ ds.length ∧ es.length ≤ i ∧ Gr c.T W0 H1 H' ∧ H' D = some (.lst acc) ∧ RpL X.K H' (Msk (c.plus D) σ) es acc ∧ ∃ rs, compL (wipeR ρ (own.map (·.2))) g mt el (ds.drop i) = .ok rs ∧ xs = es ++ rs,
    ⟨ds.length, [], [], rfl, Nat.zero_le _, Nat.le_refl _, Gr.new hD, upd_same, .nil, xs, hxs, rfl⟩, ?_⟩
  rintro i mm H' ⟨es, acc, rfl, hi, hel, g', hacc, racc, rs, hrs, hxe⟩
  have sp := s1.plus g' hD hacc
  have lt : Ltr c σ H1 H' (Msk (c.plus D) σ) := ⟨g'.of0, fun a m => by
    rw [msk_plus] at m
    exact m.imp_right fun e => by rw [e]; exact hD, sp.dom⟩
  obtain ⟨y1, y2⟩ := y i H' _ lt sp.tabs
  by_cases hlt : i < ds.length
  · obtain ⟨go, yy⟩ := y1 hlt
    rw [List.drop_eq_getElem_cons hlt] at hrs
    refine .inr ⟨go, fun H' => ∃ es acc, es.length ≤ i + 1 ∧ Gr c.T W0 H1 H' ∧ H' D = some (.lst acc) ∧ RpL X.K H' (Msk (c.plus D) σ) es acc ∧ ∃ rs', compL (wipeR ρ (own.map (·.2))) g mt el (ds.drop (i + 1)) = .ok rs' ∧ xs = es ++ rs', fun H2 hn => ?_, fun x H3 hy => ?_⟩
    · obtain ⟨es', acc', h1, h2, h3, h4, rs', h5, h6⟩ := hn
      exact ⟨ds.length - (i + 1), by omega, es', acc', rfl, hlt, h1, h2, h3, h4, rs', h5, h6⟩
    · obtain ⟨g3, rx⟩ := yy x H3 hy
      have rx := rx _ (List.getElem?_eq_getElem hlt)
      have sp3 := sp.grow g3
      have sw := sp3.wipe (vs := own.map (·.2)) hv
      have ew : Msk (c.plus D) (wipe σ (own.map (·.2))) = Msk (c.plus D) σ := msk_same fun j hj => wipe_out (hv j hj)
      unfold compL at hrs
      split at hrs <;> try (cases hrs)
      rename_i ρ1 hg1
      refine ⟨_, _, ρ1, _, sw, by rw [ew]; exact rx, hg1, fun σ4 H4 m4 a4 g4 s4 => ⟨?_, ?_⟩⟩
      · rw [a4 _ his]
        exact wipe_wipe σ _
      · have e4 : Msk (c.plus D) σ4 = Msk (c.plus D) σ := (msk_same (c := c.plus D) m4).trans ew
        have gg := (g'.trans g3).trans g4
        have hD4 : H4 D = some (.lst acc) := g4.keep D _ (fun z => z) (g3.keep D _ (fun z => z) hacc fun _ z => nomatch z) fun _ z => nomatch z
        have r4 : RpL X.K H4 (Msk (c.plus D) σ) es acc := (racc.carry g3.carry0).carry g4.carry0
        split at hrs <;> try (cases hrs)
        · rename_i ht
          refine ⟨_, ρ1, true, s4, ht, fun H5 g5 => iteT ?_⟩
          split at hrs <;> try (cases hrs)
          rename_i z hz
          split at hrs <;> cases hrs
          rename_i zs hzs
          refine ⟨_, ρ1, z, s4.grow g5, hz, fun v H6 g6 r6 => ?_⟩
          have hD6 : H6 D = some (.lst acc) := g6.keep D _ (fun z => z) (g5.keep D _ (fun z => z) hD4 fun _ z => nomatch z) fun _ z => nomatch z
          have rv := r6.st hk
          rw [e4] at rv
          have r6' := (r4.carry g5.carry0).carry g6.carry0
          have all := r6'.append (.cons rv .nil)
          have hw : Gr c.T (fun a => a = D) H6 (upd H6 D (.lst (acc ++ [v]))) := Gr.write rfl hD6
          refine ⟨acc, hD6, big_lt (by rw [← racc.length]; omega), es ++ [z], acc ++ [v], ?_, gr_acc ((gg.trans g5).trans g6) hD hD6, upd_same, all.carry (hw.carry (fun a e => by rw [e]; exact ⟨_, hD6⟩) (fun a e => ?_) fun a m => .inl m), zs, hzs, ?_⟩
          · rw [List.length_append]
            show es.length + 1 ≤ i + 1
            omega
          · rw [msk_plus]
            exact .inr e
          · rw [hxe, List.append_assoc]
            rfl
        · rename_i ht
          refine ⟨_, ρ1, false, s4, ht, fun H5 g5 => iteF ?_⟩
          exact ⟨es, acc, Nat.le_succ_of_le hel, gg.trans g5, g5.keep D _ (fun z => z) hD4 (fun _ z => nomatch z), r4.carry g5.carry0, rs, hrs, hxe⟩
  · rw [List.drop_of_length_le (Nat.le_of_not_lt hlt)] at hrs
    cases hrs
    refine .inl ⟨y2 (Nat.le_of_not_lt hlt), ?_⟩
    rw [List.append_nil] at hxe
    subst hxe
    refine q _ H' (g1.trans g') ⟨.lst hacc (nmask' s1.dom hD) (racc.carry ⟨fun _ _ h => h, fun a _ h m => ⟨h, fun z => m (by rw [msk_plus]; exact .inl z)⟩⟩), (fun p e => ?_), fun p es' e e2 => ?_⟩
    · cases e
      exact g1.none D hD
    · cases e
      cases e2
      exact ⟨acc, hacc, by rw [msk_plus] at racc; exact racc⟩
where
  wipe_wipe (σ : SS) : ∀ vs : List Nat, wipe (wipe σ vs) vs = wipe σ vs := fun vs => by
    have key : ∀ us : List Nat, (∀ i ∈ us, i ∈ vs) → wipe (wipe σ us) vs = wipe σ vs := fun us => by
      induction us with
      | nil => intro _; rfl
      | cons u us ih =>
        intro h
        show L2.wipe ((L2.wipe σ us).set u none) vs = _
        rw [wipe_set (h u List.mem_cons_self)]
        exact ih fun i hi => h i (List.mem_cons_of_mem _ hi)
    exact key vs fun _ h => h
  nmask' {M : Ad → Prop} {H : Hp} {p : Ad} (hm : ∀ a, M a → ∃ xs, H a = some (.lst xs)) (h : H p = none) : ¬ M p := nmask hm h
/-- [elt for tg in iter if ..] -/
theorem sp_lc (hc : X.calm = true) (hN : X.N.Nodup) (own : List (Str × Nat)) (hi : SI c X tg iter mA) (ok : BlkOk X.N X.env.scope scope own)
    (hg : ∀ (M : Ad → Prop) (s : Shared) (H : Hp) (C : Ad) (cl : List (Str × Ad)) (fp : List Ad), SG ⟨c.T, M, c.Ms, c.Fz⟩ (X.blk s H scope (compEnvC scope cl C X.env) fp) tg is g)
    (ht : ∀ (M : Ad → Prop) (s : Shared) (H : Hp) (C : Ad) (cl : List (Str × Ad)) (fp : List Ad), SPTs ⟨c.T, M, c.Ms, c.Fz⟩ (X.blk s H scope (compEnvC scope cl C X.env) fp) ifs mt)
    (he : ∀ (M : Ad → Prop) (s : Shared) (H : Hp) (C : Ad) (cl : List (Str × Ad)) (fp : List Ad), SP ⟨c.T, M, c.Ms, c.Fz⟩ (X.blk s H scope (compEnvC scope cl C X.env) fp) k elt el)
    (hs : ∀ x, foldedSetIterable iter X.env x = pure x := by intro _; rfl) (hv : c.Ms.all (fun j => !(own.map (·.2)).contains j) = true := by rfl) (his : is.all (fun j => (own.map (·.2)).contains j) = true := by rfl) (hk : k.st = true := by rfl) :
    SP c X .f (.ListComp elt [⟨tg, iter, ifs, 0⟩] scope pos) (compS mA (own.map (·.2)) g mt el) := by
  obtain ⟨wi, pi, qi⟩ := hi.ex
  have hv' : ∀ j ∈ c.Ms, j ∉ own.map (·.2) := fun j hj z => by
    have := List.all_eq_true.mp hv j hj
    rw [List.contains_iff_mem.mpr z] at this
    cases this
  have his' : ∀ i ∈ is, i ∈ own.map (·.2) := fun i hi => List.contains_iff_mem.mp (List.all_eq_true.mp his i hi)
  refine ⟨_, pe_lc (te := tSu c.T c.Ms c.Fz X.K k el) (g := tGu c.T c.Ms c.Fz X.K is g) (tt := tTu c.T c.Ms c.Fz X.K mt) hc hN pi ok (fun s H C cl fp => pg_u fun M => hg M s H C cl fp) (fun s H C cl fp => pts_u fun M => ht M s H C cl fp) (fun s H C cl fp => pe_u fun M => he M s H C cl fp) hs, fun σ H ρ s d h Q q => ?_⟩
  exact lc_read hv' his' hk s h (fun ds hd R w => qi σ H ρ s ds hd R w) q
variable {fr : Bool} {py spos : Pos} {y : Str}
/-- y = [..] on one line, y a local: a value for good -/
theorem s1_setLc (i : Nat) (hc : X.calm = true) (hN : X.N.Nodup) (hyl : X.env.scope.names.lookup y = some .local) (hsw : swapsWith (.ListComp elt [⟨tg, iter, ifs, 0⟩] scope pos) (some (.Name y py)) spos.line X.env = pure true) (own : List (Str × Nat)) (hi : SI c X tg iter mA) (ok : BlkOk X.N X.env.scope scope own)
    (hg : ∀ (M : Ad → Prop) (s : Shared) (H : Hp) (C : Ad) (cl : List (Str × Ad)) (fp : List Ad), SG ⟨c.T, M, c.Ms, c.Fz⟩ (X.blk s H scope (compEnvC scope cl C X.env) fp) tg is g)
    (ht : ∀ (M : Ad → Prop) (s : Shared) (H : Hp) (C : Ad) (cl : List (Str × Ad)) (fp : List Ad), SPTs ⟨c.T, M, c.Ms, c.Fz⟩ (X.blk s H scope (compEnvC scope cl C X.env) fp) ifs mt)
    (he : ∀ (M : Ad → Prop) (s : Shared) (H : Hp) (C : Ad) (cl : List (Str × Ad)) (fp : List Ad), SP ⟨c.T, M, c.Ms, c.Fz⟩ (X.blk s H scope (compEnvC scope cl C X.env) fp) k elt el)
    (hs : ∀ x, foldedSetIterable iter X.env x = pure x := by intro _; rfl) (hv : c.Ms.all (fun j => !(own.map (·.2)).contains j) = true := by rfl) (his : is.all (fun j => (own.map (·.2)).contains j) = true := by rfl) (hk : k.st = true := by rfl)
    (hm : c.Ms.contains i = false := by rfl) (hz : c.Fz.contains i = false := by rfl) (hy : X.N[i]? = some y := by rfl) :
    S1 c X fr (.Assign [.Name y py] (.ListComp elt [⟨tg, iter, ifs, 0⟩] scope pos) spos) (asg i (compS mA (own.map (·.2)) g mt el)) := by
  obtain ⟨wi, pi, qi⟩ := hi.ex
  have hv' : ∀ j ∈ c.Ms, j ∉ own.map (·.2) := fun j hj z => by
    have := List.all_eq_true.mp hv j hj
    rw [List.contains_iff_mem.mpr z] at this
    cases this
  have his' : ∀ i ∈ is, i ∈ own.map (·.2) := fun i hi => List.contains_iff_mem.mp (List.all_eq_true.mp his i hi)
  refine ⟨_, ps_setLc (te := tSu c.T c.Ms c.Fz X.K k el) (g := tGu c.T c.Ms c.Fz X.K is g) (tt := tTu c.T c.Ms c.Fz X.K mt) hc hN hy hyl hsw pi ok (fun s H C cl fp => pg_u fun M => hg M s H C cl fp) (fun s H C cl fp => pts_u fun M => ht M s H C cl fp) (fun s H C cl fp => pe_u fun M => he M s H C cl fp) hs, fun Wf H0 σ H ρ s o h D w => ?_⟩
  unfold asg at h
  split at h <;> cases h
  rename_i d hd
  refine lc_read hv' his' hk s.sr hd (fun ds hd R w => qi σ H ρ s.sr ds hd R w) fun v H' g' r' => ?_
  exact w _ H' (Late.set (cNot.out hm) g') ((s.grow g').set (cNot.out hm) (cNot.out hz) r'.1)
/-- .. a list that will change -/
theorem s1_setLcM (i : Nat) (hc : X.calm = true) (hN : X.N.Nodup) (hyl : X.env.scope.names.lookup y = some .local) (hsw : swapsWith (.ListComp elt [⟨tg, iter, ifs, 0⟩] scope pos) (some (.Name y py)) spos.line X.env = pure true) (own : List (Str × Nat)) (hi : SI c X tg iter mA) (ok : BlkOk X.N X.env.scope scope own)
    (hg : ∀ (M : Ad → Prop) (s : Shared) (H : Hp) (C : Ad) (cl : List (Str × Ad)) (fp : List Ad), SG ⟨c.T, M, c.Ms, c.Fz⟩ (X.blk s H scope (compEnvC scope cl C X.env) fp) tg is g)
    (ht : ∀ (M : Ad → Prop) (s : Shared) (H : Hp) (C : Ad) (cl : List (Str × Ad)) (fp : List Ad), SPTs ⟨c.T, M, c.Ms, c.Fz⟩ (X.blk s H scope (compEnvC scope cl C X.env) fp) ifs mt)
    (he : ∀ (M : Ad → Prop) (s : Shared) (H : Hp) (C : Ad) (cl : List (Str × Ad)) (fp : List Ad), SP ⟨c.T, M, c.Ms, c.Fz⟩ (X.blk s H scope (compEnvC scope cl C X.env) fp) k elt el)
    (hs : ∀ x, foldedSetIterable iter X.env x = pure x := by intro _; rfl) (hv : c.Ms.all (fun j => !(own.map (·.2)).contains j) = true := by rfl) (his : is.all (fun j => (own.map (·.2)).contains j) = true := by rfl) (hk : k.st = true := by rfl)
    (hm : c.Ms.contains i = true := by rfl) (h0 : i ≠ 0 ∨ c.Ms.contains 0 = false := by decide) (hy : X.N[i]? = some y := by rfl) :
    S1 c X fr (.Assign [.Name y py] (.ListComp elt [⟨tg, iter, ifs, 0⟩] scope pos) spos) (asgM i (compS mA (own.map (·.2)) g mt el)) := by
  obtain ⟨wi, pi, qi⟩ := hi.ex
  have hv' : ∀ j ∈ c.Ms, j ∉ own.map (·.2) := fun j hj z => by
    have := List.all_eq_true.mp hv j hj
    rw [List.contains_iff_mem.mpr z] at this
    cases this
  have his' : ∀ i ∈ is, i ∈ own.map (·.2) := fun i hi => List.contains_iff_mem.mp (List.all_eq_true.mp his i hi)
  refine ⟨_, ps_setLc (te := tSu c.T c.Ms c.Fz X.K k el) (g := tGu c.T c.Ms c.Fz X.K is g) (tt := tTu c.T c.Ms c.Fz X.K mt) hc hN hy hyl hsw pi ok (fun s H C cl fp => pg_u fun M => hg M s H C cl fp) (fun s H C cl fp => pts_u fun M => ht M s H C cl fp) (fun s H C cl fp => pe_u fun M => he M s H C cl fp) hs, fun Wf H0 σ H ρ s o h D w => ?_⟩
  unfold asgM at h
  split at h <;> cases h
  rename_i ds hd
  refine lc_read hv' his' hk s.sr hd (fun ds hd R w => qi σ H ρ s.sr ds hd R w) fun v H' g' r1 => ?_
  obtain ⟨rr, r2, r3⟩ := r1
  cases rr with
  | lst hp nm r =>
    obtain ⟨vs, hp', r'⟩ := r3 _ ds rfl rfl
    exact w _ H' (Late.setM g' (r2 _ rfl)) (s.setM g' (List.contains_iff_mem.mp hm) (h0.elim .inr fun z => .inl (cNot.out z)) hp' (r2 _ rfl) r')
end
end DL

set_option Elab.async false
set_option linter.all false
set_option maxRecDepth 100000
set_option maxHeartbeats 1000000
/-! DL7: expressions that may change the def's own lists; keyword calls. -/
namespace DL
open PySem PySem.Spec PyProof.Rows L2

section
variable {c : Cfg} {X : Cx} {k k1 k2 k3 : Kd} {fr : Bool} {e a b e1 e2 e3 tg : Expr} {m ma mb mc : Sm} {pos p2 p3 : Pos} {st : Stmt} {rest ss tt : List Stmt} {m1 m2 mr : Sb} {es : List Expr} {bs : List Bool} {mA : SmA} {mt : SmT} {n lv : Nat} {x : Str} {fz : List Nat}
theorem SR.carryM {K : Fg} {σ : SS} {H H' : Hp} {ρ : Rho} (s : SR c K σ H ρ) (g : Gr c.T (Mut c.Ms σ) H H') : Carry K H H' (Msk c σ) (Msk c σ) :=
  g.carry (fun a m => s.dom a (.inr m)) (fun a m => .inr m) fun a m => .inl m
/-- the list of one slot has changed -/
theorem SR.wrote {K : Fg} {σ : SS} {H H' : Hp} {ρ : Rho} {i : Nat} {p : Ad} {ys : List PyData} {us : List V} (s : SR c K σ H ρ) (hi : i ∈ c.Ms) (e1 : σ[i]? = some (some (.ref p))) (g : Gr c.T (fun a => a = p) H H') (hp : H' p = some (.lst us)) (r : RpL K H' (Msk c σ) ys us) :
    SR c K σ H' (ρ.set i (some (.list ys))) := by
  have mp : Mut c.Ms σ p := ⟨i, hi, e1⟩
  have w : ∀ a, a = p → ∃ xs, H a = some (.lst xs) := fun a e => by rw [e]; exact s.dom p (.inr mp)
  have cy : Carry K H H' (Msk c σ) (Msk c σ) := g.carry w (fun a e => by rw [e]; exact .inr mp) fun a m => .inl m
  have hl := s.len
  refine ⟨g.tabs s.tabs, by rw [List.length_set]; exact hl, fun a m => ?_, s.inj, fun j d e nm nz => ?_, fun j d e nm nz => ?_, fun j d e nm => ?_⟩
  · by_cases ha : a = p
    · rw [ha]; exact ⟨us, hp⟩
    · obtain ⟨xs, q⟩ := s.dom a m
      exact ⟨xs, g.keep a _ ha q fun _ z => nomatch z⟩
  · have ej : i ≠ j := fun z => nm (z ▸ hi)
    rw [List.getElem?_set_ne ej] at e
    obtain ⟨v, h1, r'⟩ := s.slot j d e nm nz
    exact ⟨v, h1, r'.carry cy⟩
  · have ej : i ≠ j := fun z => nm (z ▸ hi)
    rw [List.getElem?_set_ne ej] at e
    obtain ⟨q, es, vs, h0, h1, h2, r'⟩ := s.fslot j d e nm nz
    exact ⟨q, es, vs, h0, h1, g.rdl w (fun a e => by rw [e]; exact mp) (fun a m => .inl m) h2, r'.carry cy⟩
  · by_cases ej : i = j
    · subst ej
      by_cases hlt : i < ρ.length
      · rw [List.getElem?_set_self hlt] at e
        cases e
        exact ⟨p, ys, us, rfl, e1, hp, r⟩
      · rw [List.getElem?_eq_none (by simpa using hlt)] at e
        cases e
    · rw [List.getElem?_set_ne ej] at e
      obtain ⟨q, es, vs, h0, h1, h2, r'⟩ := s.mslot j d e nm
      have nq : q ≠ p := fun z => ej (s.inj i j p hi nm e1 (by rw [← z]; exact h1))
      exact ⟨q, es, vs, h0, h1, g.keep q _ nq h2 (fun _ z => nomatch z), r'.carry cy⟩
theorem KR.eff {k : Kd} {K : Fg} {σ : SS} {H0 H H' : Hp} {ρ : Rho} {d : PyData} {v : V} (s : SR c K σ H ρ) (g : Gr c.T (Mut c.Ms σ) H H') (r : KR k K H0 H (Msk c σ) d v) (hk : k.st = true) : Rp K H' (Msk c σ) d v := (r.st hk).carry (s.carryM g)

/-! ### calls of defs that change their first argument -/
def calQ (i n : Nat) (f : List PyData → Rs (PyData × PyData)) (m : SmA) : Se := fun ρ => match nm i ρ with
  | .ok x => (match m ρ with
    | .ok ds => if ds.length + 1 = n then (match f (x :: ds) with
      | .ok (d, .list ys) => .ok (d, ρ.set i (some (.list ys)))
      | .ok _ => .error .stuck
      | .error e => .error e) else .error .stuck
    | .error e => .error e)
  | .error e => .error e
theorem se_callQ {ff : List PyData → Rs (PyData × PyData)} (i : Nat) {y : Str} (C : CalQ X.prog X.w X.K X.mg X.base c.T lv x fr n ff) (hr : Rdy lv X) (hi : c.Ms.contains i = true) (hg : Gl X x) (ha : SPA c X bs es mA)
    (hbs : bs.all id = true := by rfl) (hN : X.N[i]? = some y := by rfl) (hv : Vis X.env.scope y := by first | exact Or.inl rfl | exact Or.inr (Or.inl rfl) | exact Or.inr (Or.inr rfl))
    (hd : (y == ("__debug__" : Str)) = false := by decide) (hcd : (y == ("__classdict__" : Str)) = false := by decide) (hdb : (x == ("__debug__" : Str)) = false := by decide)
    (he : starEach (.Name y p3 :: es) X.env = (false, eval (.Name y p3) X.env) :: starEach es X.env := by rfl) (hpl : (backTo pos (starEach es X.env)).any (·.1) = false := by rfl) :
    SE c X (if fr then .f else .s) (.Call (.Name x p2) (.Name y p3 :: es) [] pos) (calQ i n ff mA) := by
  obtain ⟨ta, pa, qa⟩ := ha.ex
  obtain ⟨f, fd, ps, F, hm, hk, hb⟩ := C.ex
  have hi' : i ∈ c.Ms := List.contains_iff_mem.mp hi
  refine ⟨_, pe_callG F hr.gd hr.room hg hm hk hb (pa_cons (pe_var (i := i) hN hv hd hcd) pa he) hdb he hpl, fun σ H ρ s z ρ' h Q q => ?_⟩
  unfold calQ at h
  split at h <;> try (cases h)
  rename_i x0 hx
  split at h <;> try (cases h)
  rename_i ds hds
  split at h <;> try (cases h)
  rename_i hlen
  split at h <;> cases h
  rename_i ys hf
  obtain ⟨p, xs, us, rfl, e1, hp, r⟩ := s.mslot i x0 (nm_ok hx) hi'
  refine ⟨.ref p, e1, qa σ H ρ s ds hds _ fun vs H1 g1 r1 => ?_⟩
  have s1 := s.grow g1
  have mp : Mut c.Ms σ p := ⟨i, hi', e1⟩
  have hp1 : H1 p = some (.lst us) := g1.keep p _ (fun z => z) hp fun _ z => nomatch z
  refine ⟨Msk c σ, p, us, vs, xs, ds, z, ys, hlen, rfl, s1.tabs, s1.dom, .inr mp, hp1, r.carry g1.carry0, r1.st hbs, hf, fun v H2 us' g2 hp2 r2 rv f2 => ?_⟩
  have g2' : Gr c.T (Mut c.Ms σ) H1 H2 := g2.mono fun a e => by rw [e]; exact mp
  refine q v H2 (g1.of0.trans g2') (s1.wrote hi' e1 g2 hp2 r2) ?_
  cases fr with
  | true =>
    obtain ⟨f3, f4⟩ := f2 rfl
    exact ⟨rv, fun p e => g1.none p (f3 p e), f4⟩
  | false => exact rv

/-! ### operators, displays, subscripts -/
def binE (f : PyData → PyData → Rs PyData) (a b : Se) : Se := fun ρ => match a ρ with
  | .ok (x, ρ1) => (match b ρ1 with
    | .ok (y, ρ2) => (match f x y with
      | .ok z => .ok (z, ρ2)
      | .error e => .error e)
    | .error e => .error e)
  | .error e => .error e
theorem binE_ok {f : PyData → PyData → Rs PyData} {a b : Se} {ρ ρ2 : Rho} {z : PyData} (h : binE f a b ρ = .ok (z, ρ2)) : ∃ x ρ1 y, a ρ = .ok (x, ρ1) ∧ b ρ1 = .ok (y, ρ2) ∧ f x y = .ok z := by
  unfold binE at h
  cases ha : a ρ with
  | error e => rw [ha] at h; cases h
  | ok p =>
    obtain ⟨x, ρ1⟩ := p
    rw [ha] at h
    cases hb : b ρ1 with
    | error e => simp only [hb] at h; cases h
    | ok p =>
      obtain ⟨y, ρ3⟩ := p
      simp only [hb] at h
      cases hf : f x y with
      | error e => rw [hf] at h; cases h
      | ok w =>
        rw [hf] at h
        cases h
        exact ⟨x, ρ1, y, rfl, hb, hf⟩
variable {ea eb : Se} {eA : SeA} {eT : SeT}
theorem SE.strong (h : SE c X k e ea) (hk : k.st = true := by rfl) : SE c X .s e ea := by
  obtain ⟨t, ht, q⟩ := h.ex
  exact ⟨t, ht, fun σ H ρ s d ρ' hd Q hq => q σ H ρ s d ρ' hd Q fun v H' g s' r => hq v H' g s' (r.st hk)⟩
theorem se_bin {op : Operator} {r : R2} {f : PyData → PyData → Rs PyData} (ho : OpR X (binaryOp op) r) (hs : OpM c.T X.K k r f) (ha : SE c X k1 a ea) (hb : SE c X k2 b eb) (h1 : k1.st = true := by rfl) (h2 : k2.nz = true := by rfl) :
    SE c X k (.BinOp a op b pos) (binE f ea eb) := by
  obtain ⟨ta, pa, qa⟩ := ha.ex
  obtain ⟨tb, pb, qb⟩ := hb.ex
  refine ⟨_, pe_op ho pa pb, fun σ H ρ s z ρ' h Q q => ?_⟩
  obtain ⟨x0, ρ1, y0, hx, hy, hz⟩ := binE_ok h
  refine qa σ H ρ s _ _ hx _ fun v H1 g1 s1 r1 => ?_
  refine qb σ H1 _ s1 _ _ hy _ fun u H2 g2 s2 r2 => ?_
  refine hs H2 (Msk c σ) _ _ z v u s2.dom (.inl (r1.eff s1 g2 h1)) (r2.w h2) hz _ fun w H3 g3 r3 => ?_
  exact q w H3 ((g1.trans g2).trans g3.of0) (s2.grow g3) (r3.back fun p e => g1.none p (g2.none p e))
theorem se_add (ha : SE c X k1 a ea) (hb : SE c X k2 b eb) (h1 : k1.st = true := by rfl) (h2 : k2.nz = true := by rfl) : SE c X .s (.BinOp a .Add b pos) (binE addD ea eb) := se_bin op_addT om_addT ha hb h1 h2
theorem se_sub (ha : SE c X k1 a ea) (hb : SE c X k2 b eb) (h1 : k1.st = true := by rfl) (h2 : k2.nz = true := by rfl) : SE c X .f (.BinOp a .Sub b pos) (binE subD ea eb) := se_bin (op_sub.or op_subB) om_sub ha hb h1 h2
theorem se_mul (ha : SE c X k1 a ea) (hb : SE c X k2 b eb) (h1 : k1.st = true := by rfl) (h2 : k2.nz = true := by rfl) : SE c X .f (.BinOp a .Mult b pos) (binE mulD ea eb) := se_bin (op_mulW.or op_rep) om_mul ha hb h1 h2
theorem se_fdiv (ha : SE c X k1 a ea) (hb : SE c X k2 b eb) (h1 : k1.st = true := by rfl) (h2 : k2.nz = true := by rfl) : SE c X .f (.BinOp a .FloorDiv b pos) (binE fdivD ea eb) := se_bin (op_fdivW.or op_fdivN) om_fdiv ha hb h1 h2
theorem se_mod (ha : SE c X k1 a ea) (hb : SE c X k2 b eb) (h1 : k1.st = true := by rfl) (h2 : k2.nz = true := by rfl) : SE c X .f (.BinOp a .Mod b pos) (binE modD ea eb) := se_bin (op_mod.or op_modN) om_mod ha hb h1 h2
def enil : SeA := fun ρ => .ok ([], ρ)
def econs (m : Se) (ms : SeA) : SeA := fun ρ => match m ρ with
  | .ok (d, ρ1) => (match ms ρ1 with
    | .ok (ds, ρ2) => .ok (d :: ds, ρ2)
    | .error e => .error e)
  | .error e => .error e
theorem sea_nil : SEA c X [] enil := ⟨_, pa_nil, fun σ H ρ s ds ρ' h Q q => by cases h; exact q [] H (Gr.refl H) s .nil⟩
theorem sea_cons (ha : SE c X k1 a ea) (hr : SEA c X es eA) (hk : k1.st = true := by rfl) (hs : starEach (a :: es) X.env = (false, eval a X.env) :: starEach es X.env := by rfl) : SEA c X (a :: es) (econs ea eA) := by
  obtain ⟨ta, pa, qa⟩ := ha.ex
  obtain ⟨tr, pr, qr⟩ := hr.ex
  refine ⟨_, pa_cons pa pr hs, fun σ H ρ s ds ρ' h Q q => ?_⟩
  unfold econs at h
  split at h <;> try (cases h)
  rename_i hx
  split at h <;> cases h
  rename_i hy
  refine qa σ H ρ s _ _ hx _ fun v H1 g1 s1 r1 => ?_
  exact qr σ H1 _ s1 _ _ hy _ fun vs H2 g2 s2 r2 => q _ H2 (g1.trans g2) s2 (.cons (r1.eff s1 g2 hk) r2)
def tupE (m : SeA) : Se := fun ρ => match m ρ with
  | .ok (ds, ρ') => if ds.length ≤ big then .ok (.tuple ds, ρ') else .error .stuck
  | .error e => .error e
def lstE (m : SeA) : Se := fun ρ => match m ρ with
  | .ok (ds, ρ') => if ds.length ≤ big then .ok (.list ds, ρ') else .error .stuck
  | .error e => .error e
theorem se_tup {j : Nat} (ha : SEA c X es eA) : SE c X .f (.Tuple es j pos) (tupE eA) := by
  obtain ⟨ta, pa, qa⟩ := ha.ex
  refine ⟨_, pe_tup pa, fun σ H ρ s z ρ' h Q q => ?_⟩
  unfold tupE at h
  split at h <;> try (cases h)
  rename_i hd
  split at h <;> cases h
  rename_i hl
  refine qa σ H ρ s _ _ hd _ fun vs H1 g1 s1 r => ?_
  refine ⟨big_le (by rw [← r.length]; exact hl), fun p hp => ?_⟩
  have g2 : Gr c.T W0 H1 (upd H1 p (.tup vs)) := Gr.new hp
  exact q _ _ (g1.trans g2.of0) (s1.grow g2) (kr_tup upd_same (g1.none p hp) (r.carry g2.carry0))
theorem se_lst (ha : SEA c X es eA) : SE c X .f (.List es pos) (lstE eA) := by
  obtain ⟨ta, pa, qa⟩ := ha.ex
  refine ⟨_, pe_lst pa, fun σ H ρ s z ρ' h Q q => ?_⟩
  unfold lstE at h
  split at h <;> try (cases h)
  rename_i hd
  split at h <;> cases h
  rename_i hl
  refine qa σ H ρ s _ _ hd _ fun vs H1 g1 s1 r => ?_
  refine ⟨big_le (by rw [← r.length]; exact hl), fun p hp => ?_⟩
  have g2 : Gr c.T W0 H1 (upd H1 p (.lst vs)) := Gr.new hp
  exact q _ _ (g1.trans g2.of0) (s1.grow g2) (kr_new s1.dom hp (g1.none p hp) r)
theorem se_ix (ha : SE c X k1 a ea) (hb : SE c X k2 b eb) (hk : k1.st = true := by rfl) (hp : PlainIx b := by exact fun _ _ => rfl) : SE c X .s (.Subscript a b pos) (binE ixD ea eb) := by
  obtain ⟨ta, pa, qa⟩ := ha.ex
  obtain ⟨tb, pb, qb⟩ := hb.ex
  refine ⟨_, pe_ix (ix_list.or ix_tup) pa pb hp, fun σ H ρ s z ρ' h Q q => ?_⟩
  obtain ⟨x0, ρ1, y0, hx, hy, hz⟩ := binE_ok h
  refine qa σ H ρ s _ _ hx _ fun v H1 g1 s1 r1 => ?_
  refine qb σ H1 _ s1 _ _ hy _ fun u H2 g2 s2 r2 => ?_
  have rx := r1.eff s1 g2 hk
  have ry := r2.z
  cases x0 <;> cases y0 <;> (try (simp only [ixD] at hz)) <;> try (cases hz)
  all_goals
    split at hz <;> cases hz
    rename_i hd
  · cases rx with
    | lst hq nm rr =>
      obtain ⟨w, hw, rw'⟩ := atI_rp rr hd
      exact .inl ⟨_, _, _, w, rfl, ry.int, SqL.of hq, hw, q w H2 (g1.trans g2) s2 rw'⟩
  · cases rx with
    | tup hq rr =>
      obtain ⟨w, hw, rw'⟩ := atI_rp rr hd
      exact .inr ⟨_, _, _, w, rfl, ry.int, hq, hw, q w H2 (g1.trans g2) s2 rw'⟩
/-! calls of pure defs and of built-ins with such arguments -/
theorem RpL.ks {K : Fg} {H : Hp} {M : Ad → Prop} : ∀ {ds : List PyData} {vs : List V}, RpL K H M ds vs → ZpL K H M ds vs
  | _, _, .nil => .nil
  | _, _, .cons h r => .cons (.inl (.inl h)) (RpL.ks r)
def apE (f : List PyData → Rs PyData) (m : SeA) : Se := fun ρ => match m ρ with
  | .ok (ds, ρ') => (match f ds with
    | .ok z => .ok (z, ρ')
    | .error e => .error e)
  | .error e => .error e
theorem se_callB {id : String} {r : List V → Hp → VK → Prop} {f : List PyData → Rs PyData} (hc : CallR X (.builtin id) r) (hs : CaM c.T X.K k r f) (hg : Gl X x) (hm : X.mg x = none) (hv : bootBuiltins x = some (.builtin id)) (ha : SEA c X (e :: es) eA) (hn : x ≠ "__name__" := by decide) (hdb : (x == ("__debug__" : Str)) = false := by decide)
    (he : starEach (e :: es) X.env = (false, eval e X.env) :: starEach es X.env := by rfl) (hpl : (backTo pos (starEach es X.env)).any (·.1) = false := by rfl) : SE c X k (.Call (.Name x p2) (e :: es) [] pos) (apE f eA) := by
  obtain ⟨ta, pa, qa⟩ := ha.ex
  refine ⟨_, pe_callB hc hg hm hv pa hn hdb he hpl, fun σ H ρ s z ρ' h Q q => ?_⟩
  unfold apE at h
  split at h <;> try (cases h)
  rename_i hd
  split at h <;> cases h
  rename_i hz
  refine qa σ H ρ s _ _ hd _ fun vs H1 g1 s1 r1 => ?_
  exact hs H1 (Msk c σ) _ z vs s1.dom r1.ks hz Q fun v H2 g2 r2 => q v H2 (g1.trans g2.of0) (s1.grow g2) (r2.back g1.none)
def calE (n : Nat) (f : List PyData → Rs PyData) (m : SeA) : Se := fun ρ => match m ρ with
  | .ok (ds, ρ') => if ds.length = n then (match f ds with
    | .ok z => .ok (z, ρ')
    | .error e => .error e) else .error .stuck
  | .error e => .error e
theorem RpL.arg0 {K : Fg} {H : Hp} {M : Ad → Prop} {ds : List PyData} {vs : List V} (h : RpL K H M ds vs) : ArgR K H M [] ds vs :=
  ⟨h.length, fun i d e => by
    obtain ⟨v, h1, r⟩ := h.get e
    exact ⟨v, h1, fun _ => r, fun z => nomatch z⟩⟩
theorem se_call {ff : List PyData → Rs PyData} (C : CalP X.prog X.w X.K X.mg X.base c.T lv x [] fr n ff) (hr : Rdy lv X) (hg : Gl X x) (ha : SEA c X (e :: es) eA)
    (hdb : (x == ("__debug__" : Str)) = false := by decide)
    (he : starEach (e :: es) X.env = (false, eval e X.env) :: starEach es X.env := by rfl) (hpl : (backTo pos (starEach es X.env)).any (·.1) = false := by rfl) : SE c X (if fr then .f else .s) (.Call (.Name x p2) (e :: es) [] pos) (calE n ff eA) := by
  obtain ⟨ta, pa, qa⟩ := ha.ex
  obtain ⟨f, fd, ps, F, hm, hk, hb⟩ := C.ex
  refine ⟨_, pe_callG F hr.gd hr.room hg hm hk hb pa hdb he hpl, fun σ H ρ s z ρ' h Q q => ?_⟩
  unfold calE at h
  split at h <;> try (cases h)
  rename_i hd
  split at h <;> try (cases h)
  rename_i hn
  split at h <;> cases h
  rename_i hz
  refine qa σ H ρ s _ _ hd _ fun vs H1 g1 s1 r1 => ?_
  refine ⟨Msk c σ, _, z, hn, s1.tabs, s1.dom, r1.arg0, hz, fun v H2 g2 r2 f2 => q v H2 (g1.trans g2.of0) (s1.grow g2) ?_⟩
  cases fr with
  | true =>
    obtain ⟨f3, f4⟩ := f2 rfl
    exact ⟨r2, fun p e => g1.none p (f3 p e), f4⟩
  | false => exact r2

/-! ### tests -/
theorem SPT.se (h : SPT c X e mt) : SET c X e (fun ρ => match mt ρ with
    | .ok b => .ok (b, ρ)
    | .error e => .error e) := by
  obtain ⟨t, ht, q⟩ := h.ex
  refine ⟨t, ht, fun σ H ρ s d ρ' hd Q hq => ?_⟩
  split at hd <;> cases hd
  rename_i hm
  exact q σ H _ s d hm Q fun H' g => hq H' g.of0 (s.grow g)
def tsvE (m : Se) : SeT := fun ρ => match m ρ with
  | .ok (.bool b, ρ') => .ok (b, ρ')
  | .ok _ => .error .stuck
  | .error e => .error e
theorem set_val (ha : SE c X k1 a ea) (he : ∀ whole, isTrue a X.env whole = (do let v ← whole; standAt a.pos; holding [v] (truthy v)) := by intro _; rfl) : SET c X a (tsvE ea) := by
  obtain ⟨ta, pa, qa⟩ := ha.ex
  refine ⟨_, pt_val pa he, fun σ H ρ s z ρ' h Q q => ?_⟩
  unfold tsvE at h
  split at h <;> cases h
  rename_i hm
  refine qa σ H ρ s _ _ hm _ fun v H1 g1 s1 r1 => ?_
  exact ⟨_, r1.z.bl, q H1 g1 s1⟩
def tnotE (m : SeT) : SeT := fun ρ => match m ρ with
  | .ok (b, ρ') => .ok (!b, ρ')
  | .error e => .error e
theorem set_not (ha : SET c X a eT) : SET c X (.UnaryOp .Not a pos) (tnotE eT) := by
  obtain ⟨t, p, q⟩ := ha.ex
  refine ⟨_, pt_not p, fun σ H ρ s z ρ' h Q w => ?_⟩
  unfold tnotE at h
  split at h <;> cases h
  rename_i hm
  exact q σ H ρ s _ _ hm _ fun H1 g1 s1 => w H1 g1 s1

/-! ### statements -/
def iffE (t : SeT) (m n : Sb) : Sb := fun ρ => match t ρ with
  | .ok (true, ρ') => m ρ'
  | .ok (false, ρ') => n ρ'
  | .error e => .error e
theorem s1_ifE (ht : SET c X e eT) (h1 : SB c X fr ss m1) (h2 : SB c X fr tt m2) : S1 c X fr (.If e ss tt pos) (iffE eT m1 m2) := by
  obtain ⟨t, p, q⟩ := ht.ex
  obtain ⟨t1, p1, q1⟩ := h1.ex
  obtain ⟨t2, p2, q2⟩ := h2.ex
  refine ⟨_, ps_if p p1 p2, fun Wf H0 σ H ρ s o h D w => ?_⟩
  unfold iffE at h
  split at h <;> try (cases h)
  · rename_i hm
    exact q σ H ρ s.sr _ _ hm _ fun H1 g1 s1 => iteT (q1 Wf H0 σ H1 _ (s.eff g1 s1) o h D (w.late (Late.eff g1)))
  · rename_i hm
    exact q σ H ρ s.sr _ _ hm _ fun H1 g1 s1 => iteF (q2 Wf H0 σ H1 _ (s.eff g1 s1) o h D (w.late (Late.eff g1)))
def retE (m : Se) : Sb := fun ρ => match m ρ with
  | .ok (d, ρ') => .ok (.rt d ρ')
  | .error e => .error e
theorem s1_retE (ha : SE c X k1 a ea) (hk : k1.st = true := by rfl) : S1 c X false (.Return (some a) pos) (retE ea) := by
  obtain ⟨t, p, q⟩ := ha.ex
  refine ⟨_, ps_ret p, fun Wf H0 σ H ρ s o h D w => ?_⟩
  unfold retE at h
  split at h <;> cases h
  rename_i hm
  refine q σ H ρ s.sr _ _ hm _ fun v H1 g1 s1 r1 => ?_
  exact w v σ H1 (s.eff g1 s1) ((r1.st hk).carry ⟨fun _ _ h => h, fun a _ h m => ⟨h, fun z => m (.inl z)⟩⟩) (fun z => nomatch z)
theorem s1_retFE (ha : SE c X .f a ea) : S1 c X true (.Return (some a) pos) (retE ea) := by
  obtain ⟨t, p, q⟩ := ha.ex
  refine ⟨_, ps_ret p, fun Wf H0 σ H ρ s o h D w => ?_⟩
  unfold retE at h
  split at h <;> cases h
  rename_i hm
  refine q σ H ρ s.sr _ _ hm _ fun v H1 g1 s1 r1 => ?_
  refine w v σ H1 (s.eff g1 s1) (r1.1.carry ⟨fun _ _ h => h, fun a _ h m => ⟨h, fun z => m (.inl z)⟩⟩) (fun _ => ⟨fun p e => s.gr.none p (r1.2.1 p e), fun p ds e1 e2 => ?_⟩)
  obtain ⟨vs, hp, r⟩ := r1.2.2 p ds e1 e2
  exact ⟨vs, hp, r.carry ⟨fun _ _ h => h, fun a _ h m => ⟨h, fun z => m (z.imp_left .inl)⟩⟩⟩
def drpE (m : Se) : Sb := fun ρ => match m ρ with
  | .ok (_, ρ') => .ok (.nx ρ')
  | .error e => .error e
theorem s1_exprE (ha : SE c X k1 a ea) (hs : swapsWith a none pos.line X.env = pure false := by rfl) : S1 c X fr (.Expr a pos) (drpE ea) := by
  obtain ⟨t, p, q⟩ := ha.ex
  refine ⟨_, ps_expr p hs, fun Wf H0 σ H ρ s o h D w => ?_⟩
  unfold drpE at h
  split at h <;> cases h
  rename_i hm
  exact q σ H ρ s.sr _ _ hm _ fun v H1 g1 s1 r1 => w σ H1 (Late.eff g1) (s.eff g1 s1)
def asgE (i : Nat) (m : Se) : Sb := fun ρ => match m ρ with
  | .ok (d, ρ') => .ok (.nx (ρ'.set i (some d)))
  | .error e => .error e
theorem Late.setE {σ : SS} {H H1 : Hp} {i : Nat} {v : V} (hi : i ∉ c.Ms) (g : Gr c.T (Mut c.Ms σ) H H1) : Late c σ H (σ.set i (some v)) H1 := ⟨g, fun a m => .inl ((Mut.set hi).mp m)⟩
theorem s1_setE (i : Nat) {x : Str} (ha : SE c X k1 a ea) (hi : c.Ms.contains i = false) (hz : c.Fz.contains i = false) (hN : X.N.Nodup) (hx : Loc X.env.scope x) (hs : swapsWith a (some (.Name x p2)) pos.line X.env = pure false := by rfl) (hk : k1.st = true := by rfl)
    (hf : X.fn x = true ∨ X.env.scope.names.lookup x = some .local := by first | exact .inl rfl | exact .inr rfl | assumption) (hi' : X.N[i]? = some x := by rfl) : S1 c X fr (.Assign [.Name x p2] a pos) (asgE i ea) := by
  obtain ⟨t, p, q⟩ := ha.ex
  refine ⟨_, ps_set (i := i) hN hi' hx p hs hf, fun Wf H0 σ H ρ s o h D w => ?_⟩
  unfold asgE at h
  split at h <;> cases h
  rename_i hm
  exact q σ H ρ s.sr _ _ hm _ fun v H1 g1 s1 r1 => w _ H1 (Late.setE (cNot.out hi) g1) ((s.eff g1 s1).set (cNot.out hi) (cNot.out hz) (r1.st hk))
def asgME (i : Nat) (m : Se) : Sb := fun ρ => match m ρ with
  | .ok (.list ds, ρ') => .ok (.nx (ρ'.set i (some (.list ds))))
  | .ok _ => .error .stuck
  | .error e => .error e
theorem Late.setME {σ : SS} {H H1 : Hp} {i : Nat} {p : Ad} (g : Gr c.T (Mut c.Ms σ) H H1) (hn : H p = none) : Late c σ H (σ.set i (some (.ref p))) H1 := ⟨g, fun a m => (Mut.setM m).imp_right fun e => by rw [e]; exact hn⟩
end
end DL

set_option Elab.async false
set_option linter.all false
set_option maxRecDepth 100000
set_option maxHeartbeats 1000000
/-! DL8: a, b = x, y of any kinds; targets and methods that write a list of the def's own. -/
namespace DL
open PySem PySem.Spec PyProof.Rows L2

/-! ### several names at once -/
def setS : SS → List Nat → List V → SS
  | σ, i :: is, v :: vs => setS (σ.set i (some v)) is vs
  | σ, _, _ => σ
def setR : Rho → List Nat → List PyData → Rho
  | ρ, i :: is, d :: ds => setR (ρ.set i (some d)) is ds
  | ρ, _, _ => ρ
/-- lists laid besides, known to none -/
abbrev cfgP (c : Cfg) (P : List Ad) : Cfg := ⟨c.T, fun a => c.M0 a ∨ a ∈ P, c.Ms, c.Fz⟩
/-- js: the slots, and whether a new list that will change goes there; ps: these lists -/
inductive ElR (K : Fg) (H : Hp) (M : Ad → Prop) : List (Nat × Bool) → List PyData → List V → List Ad → Prop
  | nil : ElR K H M [] [] [] []
  | st {i : Nat} {d : PyData} {v : V} {js : List (Nat × Bool)} {ds : List PyData} {vs : List V} {ps : List Ad} : Rp K H M d v → ElR K H M js ds vs ps → ElR K H M ((i, false) :: js) (d :: ds) (v :: vs) ps
  | nw {i : Nat} {p : Ad} {us : List V} {xs : List PyData} {js : List (Nat × Bool)} {ds : List PyData} {vs : List V} {ps : List Ad} : H p = some (.lst us) → RpL K H M xs us → p ∉ ps → ElR K H M js ds vs ps → ElR K H M ((i, true) :: js) (.list xs :: ds) (.ref p :: vs) (p :: ps)
theorem ElR.carry {K : Fg} {H H' : Hp} {M M' : Ad → Prop} {js : List (Nat × Bool)} {ds : List PyData} {vs : List V} {ps : List Ad} (e : ElR K H M js ds vs ps) (c : Carry K H H' M M') (h : ∀ p ∈ ps, H' p = H p) : ElR K H' M' js ds vs ps := by
  induction e with
  | nil => exact .nil
  | st r _ ih => exact .st (r.carry c) (ih h)
  | nw hp r n _ ih => exact .nw ((h _ List.mem_cons_self).trans hp) (r.carry c) n (ih fun p hm => h p (List.mem_cons_of_mem _ hm))
theorem ElR.len {K : Fg} {H : Hp} {M : Ad → Prop} {js : List (Nat × Bool)} {ds : List PyData} {vs : List V} {ps : List Ad} (e : ElR K H M js ds vs ps) : vs.length = js.length := by
  induction e with
  | nil => rfl
  | st _ _ ih => simp [ih]
  | nw _ _ _ _ ih => simp [ih]
section
variable {T : List (Ad × Str)} {Ms Fz : List Nat} {c : Cfg} {X : Cx} {k k1 k2 k3 : Kd} {fr : Bool} {e a b e1 e2 e3 tg : Expr} {m ma mb mc : Sm} {pos p2 p3 : Pos} {st : Stmt} {rest ss tt : List Stmt} {m1 m2 mr : Sb} {es : List Expr} {bs : List Bool} {mA : SmA} {mt : SmT} {n lv : Nat} {x : Str} {fz : List Nat} {ea eb : Se} {eA : SeA}
theorem cfgP_nil {c : Cfg} : cfgP c [] = c := by
  obtain ⟨T, M0, Ms, Fz⟩ := c
  have : (fun a => M0 a ∨ a ∈ ([] : List Ad)) = M0 := by
    funext a
    exact propext ⟨fun z => z.elim id fun z => (nomatch z), .inl⟩
  unfold cfgP
  simp only [this]
theorem cfgP_cons {c : Cfg} {p : Ad} {P : List Ad} : cfgP c (p :: P) = cfgP (c.plus p) P := by
  obtain ⟨T, M0, Ms, Fz⟩ := c
  have : (fun a => M0 a ∨ a ∈ p :: P) = fun a => (M0 a ∨ a = p) ∨ a ∈ P := by
    funext a
    rw [List.mem_cons]
    exact propext ⟨fun z => z.elim (fun z => .inl (.inl z)) fun z => z.elim (fun z => .inl (.inr z)) .inr, fun z => z.elim (fun z => z.elim .inl fun z => .inr (.inl z)) fun z => .inr (.inr z)⟩
  unfold cfgP
  simp only [this]
/-- a list known to none goes into its slot -/
theorem SR.unplus {K : Fg} {σ : SS} {H : Hp} {ρ : Rho} {i : Nat} {p : Ad} {ds : List PyData} {us : List V} (hf : c.Fz = []) (s : SR (c.plus p) K σ H ρ) (hi : i ∈ c.Ms) (hn : ¬ Mut c.Ms σ p) (hp : H p = some (.lst us)) (r : RpL K H (Msk (c.plus p) σ) ds us) :
    SR c K (σ.set i (some (.ref p))) H (ρ.set i (some (.list ds))) := by
  have hl := s.len
  have sub : ∀ a, Msk c (σ.set i (some (.ref p))) a → Msk (c.plus p) σ a := fun a m => by
    rcases m with m | m
    · exact .inl (.inl m)
    · rcases Mut.setM m with m | m
      · exact .inr m
      · exact .inl (.inr m)
  have cy : Carry K H H (Msk (c.plus p) σ) (Msk c (σ.set i (some (.ref p)))) := ⟨fun _ _ h => h, fun a _ h m => ⟨h, fun z => m (sub a z)⟩⟩
  refine ⟨s.tabs, by simp [hl], fun a m => s.dom a (sub a m), fun j j' a h1 h2 e1 e2 => ?_, fun j d' e nm nz => ?_, fun j d' e nm nz => ?_, fun j d' e nm => ?_⟩
  · have one : ∀ {l : Nat}, l ∈ c.Ms → (σ.set i (some (.ref p)))[l]? = some (some (.ref a)) → (l = i ∧ a = p) ∨ (l ≠ i ∧ σ[l]? = some (some (.ref a))) := fun {l} hl' e => by
      by_cases z : i = l
      · subst z
        by_cases hlt : i < σ.length
        · rw [List.getElem?_set_self hlt] at e
          cases e
          exact .inl ⟨rfl, rfl⟩
        · rw [List.getElem?_eq_none (by simpa using hlt)] at e
          cases e
      · rw [List.getElem?_set_ne z] at e
        exact .inr ⟨Ne.symm z, e⟩
    rcases one h1 e1 with ⟨z1, z2⟩ | ⟨z1, q1⟩
    · rcases one h2 e2 with ⟨w1, _⟩ | ⟨_, q2⟩
      · rw [z1, w1]
      · rw [z2] at q2
        exact (hn ⟨j', h2, q2⟩).elim
    · rcases one h2 e2 with ⟨_, w2⟩ | ⟨_, q2⟩
      · rw [w2] at q1
        exact (hn ⟨j, h1, q1⟩).elim
      · exact s.inj j j' a h1 h2 q1 q2
  · have ej : i ≠ j := fun z => nm (z ▸ hi)
    rw [List.getElem?_set_ne ej] at e
    obtain ⟨v', h1, r'⟩ := s.slot j d' e nm nz
    exact ⟨v', by rw [List.getElem?_set_ne ej]; exact h1, r'.carry cy⟩
  · have ej : i ≠ j := fun z => nm (z ▸ hi)
    rw [List.getElem?_set_ne ej] at e
    obtain ⟨q, es, us', e1, h1, hr, r'⟩ := s.fslot j d' e nm nz
    rw [hf] at nz
    cases nz
  · by_cases ej : i = j
    · subst ej
      by_cases hlt : i < ρ.length
      · rw [List.getElem?_set_self hlt] at e
        cases e
        exact ⟨p, ds, us, rfl, by rw [List.getElem?_set_self (by omega)], hp, r.carry cy⟩
      · rw [List.getElem?_eq_none (by simpa using hlt)] at e
        cases e
    · rw [List.getElem?_set_ne ej] at e
      obtain ⟨q, es, us', e1, h1, hq, r'⟩ := s.mslot j d' e nm
      exact ⟨q, es, us', e1, by rw [List.getElem?_set_ne ej]; exact h1, hq, r'.carry cy⟩

/-! uniform readings of what may change -/
def tEu (T : List (Ad × Str)) (Ms Fz : List Nat) (K : Fg) (k : Kd) (m : Se) : TE := fun σ H Q => ∃ (M : Ad → Prop) (ρ : Rho) (d : PyData) (ρ' : Rho), SR ⟨T, M, Ms, Fz⟩ K σ H ρ ∧ m ρ = .ok (d, ρ') ∧
  ∀ v H', Gr T (Mut Ms σ) H H' → SR ⟨T, M, Ms, Fz⟩ K σ H' ρ' → KR k K H H' (Msk ⟨T, M, Ms, Fz⟩ σ) d v → Q v H'
theorem pe_eu (h : ∀ M, SE ⟨T, M, Ms, Fz⟩ X k e ea) : PE X e (tEu T Ms Fz X.K k ea) := ⟨fun pins s σ H Q I ⟨M, ρ, d, ρ', hs, hd, q⟩ => by
  obtain ⟨t, p, w⟩ := (h M).ex
  exact p.run pins s σ H Q I (w σ H ρ hs d ρ' hd Q q)⟩
/-- the values of a, b = x, y -/
structure SPar (T : List (Ad × Str)) (Ms Fz : List Nat) (X : Cx) (js : List (Nat × Bool)) (es : List Expr) (m : SeA) : Prop where
  ex : ∃ t : TA, PA X es t ∧ ∀ (M : Ad → Prop) (σ : SS) (H : Hp) (ρ : Rho), SR ⟨T, M, Ms, Fz⟩ X.K σ H ρ → ∀ ds ρ', m ρ = .ok (ds, ρ') → ∀ Q : List V → Hp → Prop,
    (∀ vs H' ps, Gr T (Mut Ms σ) H H' → SR (cfgP ⟨T, M, Ms, Fz⟩ ps) X.K σ H' ρ' → (∀ p ∈ ps, H p = none) → ElR X.K H' (Msk (cfgP ⟨T, M, Ms, Fz⟩ ps) σ) js ds vs ps → Q vs H') → t σ H Q
theorem spar_nil : SPar T Ms Fz X [] [] enil := ⟨_, pa_nil, fun M σ H ρ s ds ρ' h Q q => by
  cases h
  refine q [] H [] (Gr.refl H) (by rw [cfgP_nil]; exact s) (fun p z => nomatch z) .nil⟩
variable {js : List (Nat × Bool)}
theorem spar_st (i : Nat) (ha : ∀ M, SE ⟨T, M, Ms, Fz⟩ X k e ea) (hr : SPar T Ms Fz X js es eA) (hk : k.st = true := by rfl) (hs : starEach (e :: es) X.env = (false, eval e X.env) :: starEach es X.env := by rfl) : SPar T Ms Fz X ((i, false) :: js) (e :: es) (econs ea eA) := by
  obtain ⟨tr, pr, qr⟩ := hr.ex
  refine ⟨_, pa_cons (pe_eu ha) pr hs, fun M σ H ρ s ds ρ' h Q q => ?_⟩
  unfold econs at h
  split at h <;> try (cases h)
  rename_i hx
  split at h <;> cases h
  rename_i hy
  refine ⟨M, ρ, _, _, s, hx, fun v H1 g1 s1 r1 => ?_⟩
  refine qr M σ H1 _ s1 _ _ hy _ fun vs H2 ps g2 s2 f2 r2 => ?_
  refine q _ H2 ps (g1.trans g2) s2 (fun p hp => g1.none p (f2 p hp)) (.st ((r1.st hk).carry (g2.carry (fun a m => s1.dom a (.inr m)) (fun a m => .inr m) fun a m => ?_)) r2)
  rcases m with (m | m) | m
  · exact .inl (.inl m)
  · exact .inr (f2 a m)
  · exact .inl (.inr m)
def nwc (m : Sm) (ms : SeA) : SeA := fun ρ => match m ρ with
  | .ok (.list xs) => (match ms ρ with
    | .ok (ds, ρ') => .ok (.list xs :: ds, ρ')
    | .error e => .error e)
  | .ok _ => .error .stuck
  | .error e => .error e
theorem spar_nw (i : Nat) (ha : ∀ M, SP ⟨T, M, Ms, Fz⟩ X .f e ma) (hr : SPar T Ms Fz X js es eA) (hs : starEach (e :: es) X.env = (false, eval e X.env) :: starEach es X.env := by rfl) :
    SPar T Ms Fz X ((i, true) :: js) (e :: es) (nwc ma eA) := by
  obtain ⟨tr, pr, qr⟩ := hr.ex
  refine ⟨_, pa_cons (pe_u ha) pr hs, fun M σ H ρ s ds ρ' h Q q => ?_⟩
  unfold nwc at h
  split at h <;> try (cases h)
  rename_i xs hx
  split at h <;> cases h
  rename_i ds1 hy
  refine ⟨M, ρ, _, s, hx, fun v H1 g1 r1 => ?_⟩
  obtain ⟨rr, r2, r3⟩ := r1
  cases rr with
  | @lst p us _ hp nm r =>
    obtain ⟨us', hp', r'⟩ := r3 p xs rfl rfl
    have hn : H p = none := r2 p rfl
    have s1 := s.plus g1 hn hp'
    have nmu : ¬ Mut Ms σ p := fun z => by
      obtain ⟨ys, e⟩ := s.dom p (.inr z)
      rw [hn] at e
      cases e
    refine qr (fun a => M a ∨ a = p) σ H1 ρ s1 ds1 ρ' hy _ fun vs H2 ps g2 s2 f2 el => ?_
    have hpp : p ∉ ps := fun z => by
      have := f2 p z
      rw [hp'] at this
      cases this
    have hp2 : H2 p = some (.lst us') := g2.keep p _ nmu hp' fun _ z => nomatch z
    have cy : Carry X.K H1 H2 (Msk (Cfg.plus ⟨T, M, Ms, Fz⟩ p) σ) (Msk (cfgP (Cfg.plus ⟨T, M, Ms, Fz⟩ p) ps) σ) := g2.carry (fun a m => s1.dom a (.inr m)) (fun a m => .inr m) fun a m => by
      rcases m with (m | m) | m
      · exact .inl (.inl m)
      · exact .inr (f2 a m)
      · exact .inl (.inr m)
    refine q _ H2 (p :: ps) (g1.of0.trans g2) (by rw [cfgP_cons]; exact s2) (fun a ha => ?_) ?_
    · rcases List.mem_cons.mp ha with rfl | ha
      · exact hn
      · exact g1.none a (f2 a ha)
    · rw [cfgP_cons]
      refine .nw hp2 (RpL.carry cy ?_) hpp el
      rw [msk_plus]
      exact r'
/-- all are stored -/
theorem stores {K : Fg} {H : Hp} : ∀ {js : List (Nat × Bool)} {ds : List PyData} {vs : List V} {ps : List Ad} {c : Cfg} {σ : SS} {ρ : Rho}, ElR K H (Msk (cfgP c ps) σ) js ds vs ps → SR (cfgP c ps) K σ H ρ → (∀ p ∈ ps, ¬ Mut c.Ms σ p) →
    js.all (fun j => if j.2 then c.Ms.contains j.1 && c.Fz.isEmpty else !c.Ms.contains j.1 && !c.Fz.contains j.1) = true →
    SR c K (setS σ (js.map (·.1)) vs) H (setR ρ (js.map (·.1)) ds) ∧ (∀ a, Mut c.Ms (setS σ (js.map (·.1)) vs) a → Mut c.Ms σ a ∨ a ∈ ps)
  | _, _, _, _, c, σ, ρ, .nil, s, _, _ => ⟨by rw [cfgP_nil] at s; exact s, fun a m => .inl m⟩
  | _, _, _, _, c, σ, ρ, .st (i := i) (v := v) (js := js) (ds := ds) (vs := vs) (ps := ps) r el, s, hm, hc => by
    rw [List.all_cons, Bool.and_eq_true] at hc
    obtain ⟨h1, h2⟩ := hc
    simp at h1
    have hi : i ∉ c.Ms := h1.1
    have hz : i ∉ c.Fz := h1.2
    have s1 := s.set (c := cfgP c ps) hi hz r
    have em : Msk (cfgP c ps) (σ.set i (some v)) = Msk (cfgP c ps) σ := Msk.set (c := cfgP c ps) hi
    obtain ⟨a1, a2⟩ := stores (c := c) (by rw [em]; exact el) s1 (fun p hp z => hm p hp ((Mut.set hi).mp z)) h2
    exact ⟨a1, fun a m => (a2 a m).imp_left (Mut.set hi).mp⟩
  | _, _, _, _, c, σ, ρ, .nw (i := i) (p := p) (us := us) (js := js) (ds := ds) (vs := vs) (ps := ps) hp r hn el, s, hm, hc => by
    rw [List.all_cons, Bool.and_eq_true] at hc
    obtain ⟨h1, h2⟩ := hc
    simp at h1
    have hi : i ∈ c.Ms := h1.1
    have hf : c.Fz = [] := h1.2
    have ecfg : cfgP c (p :: ps) = (cfgP c ps).plus p := by
      obtain ⟨T, M0, Ms, Fz⟩ := c
      have : (fun a => M0 a ∨ a ∈ p :: ps) = fun a => (M0 a ∨ a ∈ ps) ∨ a = p := by
        funext a
        rw [List.mem_cons]
        exact propext ⟨fun z => z.elim (fun z => .inl (.inl z)) fun z => z.elim .inr fun z => .inl (.inr z), fun z => z.elim (fun z => z.elim .inl fun z => .inr (.inr z)) fun z => .inr (.inl z)⟩
      unfold cfgP Cfg.plus
      simp only [this]
    rw [ecfg] at s r el
    have hnm : ¬ Mut c.Ms σ p := hm p List.mem_cons_self
    have s1 := s.unplus (c := cfgP c ps) hf hi hnm hp r
    have cy : Carry K H H (Msk ((cfgP c ps).plus p) σ) (Msk (cfgP c ps) (σ.set i (some (.ref p)))) := ⟨fun _ _ h => h, fun a _ h m => ⟨h, fun z => m (by
      rcases z with z | z
      · exact .inl (.inl z)
      · rcases Mut.setM z with z | z
        · exact .inr z
        · exact .inl (.inr z))⟩⟩
    obtain ⟨a1, a2⟩ := stores (c := c) (el.carry cy fun _ _ => rfl) s1 (fun q hq z => by
      rcases Mut.setM z with z | z
      · exact hm q (List.mem_cons_of_mem _ hq) z
      · rw [z] at hq; exact hn hq) h2
    refine ⟨a1, fun a m => ?_⟩
    rcases a2 a m with m | m
    · rcases Mut.setM m with m | m
      · exact .inl m
      · exact .inr (by rw [m]; exact List.mem_cons_self)
    · exact .inr (List.mem_cons_of_mem _ m)
theorem setS_other {i : Nat} : ∀ {is : List Nat} {σ : SS} {vs : List V}, i ∉ is → (setS σ is vs)[i]? = σ[i]?
  | [], _, _, _ => rfl
  | _ :: _, _, [], _ => rfl
  | j :: is, σ, v :: vs, h => by
    unfold setS
    rw [setS_other fun z => h (List.mem_cons_of_mem _ z), List.getElem?_set_ne fun z => h (by rw [z]; exact List.mem_cons_self)]
/-- how a statement a, b = x, y stores -/
structure PPar (X : Cx) (st : Stmt) (vals : List Expr) (is : List Nat) : Prop where
  ex : ∀ ta, PA X vals ta → ∃ t : TS, PS X st t ∧ ∀ (D : Ends) (σ : SS) (H : Hp) (P : List V → Hp → Prop), (∀ Q : List V → Hp → Prop, (∀ vs H1, P vs H1 → Q vs H1) → ta σ H Q) → (∀ vs H1, P vs H1 → vs.length = is.length) →
    (∀ vs H1 H2, P vs H1 → (H2 = H1 ∨ ∃ q, H1 q = none ∧ H2 = upd H1 q (.tup vs)) → D.nx (setS σ is vs) H2) → t D σ H
def parS (is : List Nat) (m : SeA) : Sb := fun ρ => match m ρ with
  | .ok (ds, ρ') => .ok (.nx (setR ρ' is ds))
  | .error e => .error e
theorem s1_parG {X : Cx} {st : Stmt} {vals : List Expr} {is : List Nat} (hp : PPar X st vals is) (hv : SPar c.T c.Ms c.Fz X js vals eA) (hi : js.map (·.1) = is := by rfl)
    (hc : js.all (fun j => if j.2 then c.Ms.contains j.1 && c.Fz.isEmpty else !c.Ms.contains j.1 && !c.Fz.contains j.1) = true := by rfl) (h0 : (!c.Ms.contains 0 || js.all fun j => j.1 != 0) = true := by rfl) : S1 c X fr st (parS is eA) := by
  obtain ⟨ta, pa, qa⟩ := hv.ex
  obtain ⟨t, p, q⟩ := hp.ex ta pa
  subst hi
  refine ⟨t, p, fun Wf H0 σ H ρ s o h D w => ?_⟩
  unfold parS at h
  split at h <;> cases h
  rename_i ds ρ' hm
  refine q D σ H (fun vs H1 => ∃ ps, Gr c.T (Mut c.Ms σ) H H1 ∧ SR (cfgP c ps) X.K σ H1 ρ' ∧ (∀ p ∈ ps, H p = none) ∧ ElR X.K H1 (Msk (cfgP c ps) σ) js ds vs ps) (fun Q hQ => qa c.M0 σ H ρ s.sr ds ρ' hm Q fun vs H1 ps g1 s1 f1 el => hQ vs H1 ⟨ps, g1, s1, f1, el⟩) (fun vs H1 ⟨ps, _, _, _, el⟩ => by rw [el.len, List.length_map]) fun vs H1 H2 ⟨ps, g1, s1, f1, el⟩ h2 => ?_
  have key : ∃ g2 : Gr c.T W0 H1 H2, ∀ p ∈ ps, H2 p = H1 p := by
    rcases h2 with rfl | ⟨q', hq, rfl⟩
    · exact ⟨Gr.refl _, fun _ _ => rfl⟩
    · refine ⟨Gr.new hq, fun p hp => upd_ne fun z => ?_⟩
      have : ∃ us, H1 p = some (.lst us) := s1.dom p (.inl (.inr hp))
      obtain ⟨us, e⟩ := this
      rw [z, hq] at e
      cases e
  obtain ⟨g2, hps⟩ := key
  have s2 := s1.grow (c := cfgP c ps) g2
  have el2 := el.carry (g2.carry0 (K := X.K) (M := Msk (cfgP c ps) σ)) hps
  have nm : ∀ p ∈ ps, ¬ Mut c.Ms σ p := fun p hp z => by
    obtain ⟨xs, e⟩ := s.sr.dom p (.inr z)
    rw [f1 p hp] at e
    cases e
  obtain ⟨a1, a2⟩ := stores el2 s2 nm hc
  have g := g1.trans g2.of0
  refine w _ H2 ⟨g, fun a m => (a2 a m).imp_right fun z => f1 a z⟩ ⟨a1, ⟨fun a o hw ha n => ?_, fun a ha => s.gr.none a (g.none a ha), fun t => g.tabs (s.gr.tabs t)⟩, fun a m => ?_, s.m0, fun a hw => ?_⟩
  · refine g.keep a o (fun m => ?_) (s.gr.keep a o hw ha n) n
    rcases s.own a m with z | z
    · exact hw z
    · rw [ha] at z; cases z
  · rcases a2 a m with m | m
    · exact s.own a m
    · exact .inr (s.gr.none a (f1 a m))
  · obtain ⟨h1, h2⟩ := s.io a hw
    refine ⟨h1, ?_⟩
    rw [List.contains_iff_mem.mpr h1, Bool.not_true, Bool.false_or] at h0
    rw [setS_other fun z => ?_]
    · exact h2
    · obtain ⟨j, hj, e⟩ := List.mem_map.mp z
      have := List.all_eq_true.mp h0 j hj
      simp [e] at this
theorem ppar2 {i j : Nat} {x y : Str} {px py pt pt2 : Pos} {kt k2 : Nat} (hc : X.calm = true) (hN : X.N.Nodup) (hx : X.env.scope.names.lookup x = some .local) (hy : X.env.scope.names.lookup y = some .local) (hij : i ≠ j)
    (hw : swappedStores [.Tuple [.Name x px, .Name y py] kt pt] (.Tuple [a, b] k2 pt2) X.env = pure (some [x, y]))
    (hs : swapsWithSole [.Tuple [.Name x px, .Name y py] kt pt] (.Tuple [a, b] k2 pt2) pos.line X.env = pure false := by rfl) (hi : X.N[i]? = some x := by rfl) (hj : X.N[j]? = some y := by rfl) :
    PPar X (.Assign [.Tuple [.Name x px, .Name y py] kt pt] (.Tuple [a, b] k2 pt2) pos) [a, b] [i, j] := ⟨fun ta pa => by
  refine ⟨_, ps_par hc hN hi hj hij hx hy pa hw hs, fun D σ H P h1 h2 h3 => h1 _ fun vs H1 hp => ?_⟩
  have hl := h2 vs H1 hp
  match vs, hl with
  | [v, w], _ => exact ⟨v, w, rfl, h3 _ _ _ hp (.inl rfl)⟩⟩
theorem ppar3 {i j l : Nat} {x y z : Str} {e3' : Expr} {px py pz pt pt2 : Pos} {kt k2 : Nat} (hc : X.calm = true) (hN : X.N.Nodup) (hx : X.env.scope.names.lookup x = some .local) (hy : X.env.scope.names.lookup y = some .local) (hz : X.env.scope.names.lookup z = some .local) (hij : i ≠ j) (hil : i ≠ l) (hjl : j ≠ l)
    (hw : swappedStores [.Tuple [.Name x px, .Name y py, .Name z pz] kt pt] (.Tuple [a, b, e3'] k2 pt2) X.env = pure (some [x, y, z]))
    (hs : swapsWithSole [.Tuple [.Name x px, .Name y py, .Name z pz] kt pt] (.Tuple [a, b, e3'] k2 pt2) pos.line X.env = pure false := by rfl) (hi : X.N[i]? = some x := by rfl) (hj : X.N[j]? = some y := by rfl) (hl : X.N[l]? = some z := by rfl) :
    PPar X (.Assign [.Tuple [.Name x px, .Name y py, .Name z pz] kt pt] (.Tuple [a, b, e3'] k2 pt2) pos) [a, b, e3'] [i, j, l] := ⟨fun ta pa => by
  refine ⟨_, ps_par3 hc hN hi hj hl hij hil hjl hx hy hz pa hw hs, fun D σ H P h1 h2 h3 => h1 _ fun vs H1 hp => ?_⟩
  have hl := h2 vs H1 hp
  match vs, hl with
  | [u, v, w], _ => exact ⟨u, v, w, rfl, h3 _ _ _ hp (.inl rfl)⟩⟩
/-- the targets, names all -/
structure PNames (X : Cx) (tgs : List Expr) (is : List Nat) : Prop where
  ex : ∃ t : TGs, PGs X tgs t ∧ ∀ (vs : List V) (σ : SS) (H : Hp) (Q : SS → Hp → Prop), vs.length = is.length → Q (setS σ is vs) H → t vs σ H Q
theorem pn_nil : PNames X [] [] := ⟨_, pgs_nil, fun vs σ H Q hl q => by
  match vs, hl with
  | [], _ => exact ⟨rfl, q⟩⟩
variable {tgs : List Expr} {is : List Nat}
theorem pn_cons (i : Nat) {x : Str} (h : PNames X tgs is) (hN : X.N.Nodup) (hx : Loc X.env.scope x) (hf : X.fn x = true ∨ X.env.scope.names.lookup x = some .local := by first | exact .inl rfl | exact .inr rfl | assumption) (hi : X.N[i]? = some x := by rfl)
    (hs : (assignEach (.Name x p2 :: tgs) X.env).map (·.2) = assign (.Name x p2) X.env :: (assignEach tgs X.env).map (·.2) := by rfl) : PNames X (.Name x p2 :: tgs) (i :: is) := by
  obtain ⟨t, p, q⟩ := h.ex
  refine ⟨_, pgs_cons (pg_name hN hi hx hf) p hs, fun vs σ H Q hl w => ?_⟩
  match vs, hl with
  | v :: vs, hl => exact ⟨v, vs, rfl, q vs _ H Q (by simpa using hl) w⟩
theorem pparT {vals : List Expr} {kt k2 : Nat} {pt pt2 : Pos} (hc : X.calm = true) (h : PNames X tgs is) (hl : is.length ≤ 1000) (hn : (assignEach tgs X.env).length = is.length := by rfl) (hst : (assignEach tgs X.env).findIdx? (·.1) = none := by rfl)
    (hs : swapsWithSole [.Tuple tgs kt pt] (.Tuple vals k2 pt2) pos.line X.env = pure false := by rfl) (hw : swappedStores [.Tuple tgs kt pt] (.Tuple vals k2 pt2) X.env = pure none := by rfl)
    (h1 : (assignEach [.Tuple tgs kt pt] X.env).map (·.2) = [assign (.Tuple tgs kt pt) X.env] := by rfl) : PPar X (.Assign [.Tuple tgs kt pt] (.Tuple vals k2 pt2) pos) vals is := ⟨fun ta pa => by
  obtain ⟨t, p, q⟩ := h.ex
  refine ⟨_, ps_asg (pe_tup pa) (pg_tup hc p hn hst) hs hw h1, fun D σ H P h1 h2 h3 => h1 _ fun vs H1 hp => ?_⟩
  have hle := h2 vs H1 hp
  refine ⟨by rw [hle]; exact Nat.le_trans hl (by decide), fun r hr => ⟨r, vs, rfl, SqT.of upd_same, hle, q vs σ _ _ hle (h3 vs H1 _ hp (.inr ⟨r, hr, rfl⟩))⟩⟩⟩
end
end DL

set_option Elab.async false
set_option linter.all false
set_option maxRecDepth 100000
set_option maxHeartbeats 1000000
/-! DL9: targets and methods that write a list of the def's own; for over what an expression with effects makes. -/
namespace DL
open PySem PySem.Spec PyProof.Rows L2
section
variable {c : Cfg} {X : Cx} {k k1 k2 k3 : Kd} {fr : Bool} {e a b e1 e2 e3 tg : Expr} {m ma mb mc : Sm} {pos p2 p3 : Pos} {st : Stmt} {rest ss tt : List Stmt} {m1 m2 mr : Sb} {es : List Expr} {bs : List Bool} {mA : SmA} {mt : SmT} {n lv : Nat} {x : Str} {fz : List Nat} {ea eb : Se} {eA : SeA}
/-! ### targets -/
structure SW (c : Cfg) (X : Cx) (tg : Expr) (g : Sg) : Prop where
  ex : ∃ t : TG, PG X tg t ∧ ∀ (σ : SS) (H : Hp) (ρ : Rho) (d : PyData) (v : V), SR c X.K σ H ρ → Rp X.K H (Msk c σ) d v → ∀ ρ', g d ρ = .ok ρ' → ∀ Q : SS → Hp → Prop,
    (∀ σ' H', (∀ j ∈ c.Ms, σ'[j]? = σ[j]?) → Gr c.T (Mut c.Ms σ) H H' → SR c X.K σ' H' ρ' → Q σ' H') → t v σ H Q
structure SWs (c : Cfg) (X : Cx) (tgs : List Expr) (g : Sgs) : Prop where
  ex : ∃ t : TGs, PGs X tgs t ∧ ∀ (σ : SS) (H : Hp) (ρ : Rho) (ds : List PyData) (vs : List V), SR c X.K σ H ρ → RpL X.K H (Msk c σ) ds vs → ∀ ρ', g ds ρ = .ok ρ' → ∀ Q : SS → Hp → Prop,
    (∀ σ' H', (∀ j ∈ c.Ms, σ'[j]? = σ[j]?) → Gr c.T (Mut c.Ms σ) H H' → SR c X.K σ' H' ρ' → Q σ' H') → t vs σ H Q
variable {g : Sg} {gs : Sgs} {is : List Nat}
theorem sw_of (h : SG c X tg is g) : SW c X tg g := by
  obtain ⟨t, p, q⟩ := h.ex
  exact ⟨t, p, fun σ H ρ d v s r ρ' h Q w => q σ H ρ d v s r ρ' h Q fun σ' H' m' _ g' s' => w σ' H' m' g'.of0 s'⟩
/-- l[i] = .. -/
def gix (i : Nat) (m : Sm) : Sg := fun d ρ => match nm i ρ with
  | .ok (.list xs) => (match m ρ with
    | .ok (.int j) => (match ixN xs.length j with
      | some q => .ok (ρ.set i (some (.list (xs.set q d))))
      | none => .error .stuck)
    | .ok _ => .error .stuck
    | .error e => .error e)
  | .ok _ => .error .stuck
  | .error e => .error e
theorem sw_ix (i : Nat) {y : Str} (hi : c.Ms.contains i = true) (hb : SP c X k1 b mb) (hN : X.N[i]? = some y := by rfl) (hv : Vis X.env.scope y := by first | exact Or.inl rfl | exact Or.inr (Or.inl rfl) | exact Or.inr (Or.inr rfl))
    (hd : (y == ("__debug__" : Str)) = false := by decide) (hcd : (y == ("__classdict__" : Str)) = false := by decide)
    (ha : ∀ v, assign (.Subscript (.Name y p2) b pos) X.env v = (do
      let ov ← holding [v] (eval (.Name y p2) X.env)
      let iv ← holding [v, ov] (eval b X.env)
      standAt pos
      holding [v, ov, iv] (setItem ov iv v)
      release [v, ov, iv] []) := by intro _; rfl) : SW c X (.Subscript (.Name y p2) b pos) (gix i mb) := by
  have hi' : i ∈ c.Ms := List.contains_iff_mem.mp hi
  obtain ⟨tb, pb, qb⟩ := hb.ex
  refine ⟨_, pg_sub (pe_var (i := i) hN hv hd hcd) pb set_list ha, fun σ H ρ d v s r ρ' h Q w => ?_⟩
  unfold gix at h
  split at h <;> try (cases h)
  rename_i xs hx
  split at h <;> try (cases h)
  rename_i j hj
  split at h <;> cases h
  rename_i q hq
  obtain ⟨p, xs', us, e0, e1, hp, rx⟩ := s.mslot i _ (nm_ok hx) hi'
  cases e0
  refine ⟨.ref p, e1, qb σ H ρ s _ hj _ fun u H1 g1 r1 => ?_⟩
  have s1 := s.grow g1
  have hp1 : H1 p = some (.lst us) := g1.keep p _ (fun z => z) hp fun _ z => nomatch z
  have mp : Mut c.Ms σ p := ⟨i, hi', e1⟩
  refine ⟨p, us, j, q, rfl, r1.z.int, hp1, by rw [← rx.length]; exact hq, ?_⟩
  have g2 : Gr c.T (fun a => a = p) H1 (upd H1 p (.lst (us.set q v))) := Gr.write rfl hp1
  have cy : Carry X.K H1 (upd H1 p (.lst (us.set q v))) (Msk c σ) (Msk c σ) := g2.carry (fun a e => by rw [e]; exact ⟨us, hp1⟩) (fun a e => by rw [e]; exact .inr mp) fun a m => .inl m
  refine w σ _ (fun _ _ => rfl) (g1.of0.trans (g2.mono fun a e => by rw [e]; exact mp)) (s1.wrote hi' e1 g2 upd_same (RpL.carry cy ((rx.carry g1.carry0).set q (r.carry g1.carry0))))
theorem sws_nil : SWs c X [] gsnil := ⟨_, pgs_nil, fun σ H ρ ds vs s r ρ' h Q q => by
  unfold gsnil at h
  split at h <;> cases h
  cases r
  exact ⟨rfl, q σ H (fun _ _ => rfl) (Gr.refl H) s⟩⟩
theorem sws_cons (h1 : SW c X e g) (h2 : SWs c X es gs) (hs : (assignEach (e :: es) X.env).map (·.2) = assign e X.env :: (assignEach es X.env).map (·.2) := by rfl) : SWs c X (e :: es) (gscons g gs) := by
  obtain ⟨t, p, q⟩ := h1.ex
  obtain ⟨t2, p2, q2⟩ := h2.ex
  refine ⟨_, pgs_cons p p2 hs, fun σ H ρ ds vs s r ρ' h Q w => ?_⟩
  unfold gscons at h
  split at h <;> try (cases h)
  rename_i d rs
  split at h <;> try (cases h)
  rename_i ρ1 h1
  cases r with
  | cons rd rr =>
    refine ⟨_, _, rfl, q σ H ρ d _ s rd ρ1 h1 _ fun σ1 H1 m1 g1 s1 => ?_⟩
    refine q2 σ1 H1 ρ1 rs _ s1 ?_ ρ' h Q fun σ2 H2 m2 g2 s2 => w σ2 H2 (fun j hj => (m2 j hj).trans (m1 j hj)) (g1.trans (by rw [← mut_same m1]; exact g2)) s2
    rw [msk_same m1]
    exact rr.carry (s.carryM g1)
theorem sw_tup {j n : Nat} (hc : X.calm = true) (h : SWs c X es gs) (hn : (assignEach es X.env).length = n := by rfl) (hst : (assignEach es X.env).findIdx? (·.1) = none := by rfl) : SW c X (.Tuple es j pos) (gtup n gs) := by
  obtain ⟨t, p, q⟩ := h.ex
  refine ⟨_, pg_tup hc p hn hst, fun σ H ρ d v s r ρ' h Q w => ?_⟩
  unfold gtup at h
  split at h <;> try (cases h)
  split at h <;> try (cases h)
  rename_i ds hl
  cases r with
  | tup hq rr => exact ⟨_, _, rfl, hq, by rw [← rr.length]; exact hl, q σ H ρ ds _ s rr ρ' h Q w⟩
def asgW (g : Sg) (m : Se) : Sb := fun ρ => match m ρ with
  | .ok (d, ρ1) => (match g d ρ1 with
    | .ok ρ' => .ok (.nx ρ')
    | .error e => .error e)
  | .error e => .error e
/-- target = e, where both may write -/
theorem s1_asgW (ha : SE c X k1 a ea) (hg : SW c X e g) (hk : k1.st = true := by rfl) (hs : swapsWithSole [e] a pos.line X.env = pure false := by rfl) (hw : swappedStores [e] a X.env = pure none := by rfl)
    (h1 : (assignEach [e] X.env).map (·.2) = [assign e X.env] := by rfl) : S1 c X fr (.Assign [e] a pos) (asgW g ea) := by
  obtain ⟨t, p, q⟩ := ha.ex
  obtain ⟨t2, p2, q2⟩ := hg.ex
  refine ⟨_, ps_asg p p2 hs hw h1, fun Wf H0 σ H ρ s o h D w => ?_⟩
  unfold asgW at h
  split at h <;> try (cases h)
  rename_i d ρ1 hm
  split at h <;> cases h
  rename_i ρ' hg'
  refine q σ H ρ s.sr _ _ hm _ fun v H1 g1 s1 r1 => ?_
  have b1 := s.eff g1 s1
  refine q2 σ H1 ρ1 d v s1 (r1.st hk) ρ' hg' _ fun σ' H' m' g' s' => ?_
  have emu := mut_same m'
  have b2 : BR c X.K Wf H0 σ' H' ρ' := ⟨s', ⟨fun a o w' h' n' => g'.keep a o (fun z => (b1.own a z).elim w' fun z => by rw [h'] at z; cases z) (b1.gr.keep a o w' h' n') n', fun a z => b1.gr.none a (g'.none a z), fun z => g'.tabs (b1.gr.tabs z)⟩,
    fun a z => b1.own a (by rw [← emu]; exact z), b1.m0, fun a z => ⟨(b1.io a z).1, by rw [m' 0 (b1.io a z).1]; exact (b1.io a z).2⟩⟩
  exact w σ' H' ⟨g1.trans g', fun a z => .inl (by rw [← emu]; exact z)⟩ b2

/-! ### methods that write -/
/-- the rule r of the method does f -/
def OpW (T : List (Ad × Str)) (K : Fg) (k : Kd) (r : V → List V → Hp → VK → Prop) (f : List PyData → List PyData → Rs (PyData × List PyData)) : Prop :=
  ∀ (H : Hp) (M : Ad → Prop) (p : Ad) (us : List V) (xs : List PyData) (ds : List PyData) (vs : List V) (d : PyData) (ys : List PyData), (∀ a, M a → ∃ xs, H a = some (.lst xs)) → M p → H p = some (.lst us) → RpL K H M xs us → RpL K H M ds vs → f xs ds = .ok (d, ys) →
    ∀ Q : VK, (∀ v H' us', Gr T (fun a => a = p) H H' → H' p = some (.lst us') → RpL K H' M ys us' → KR k K H H' M d v → Q v H') → r (.ref p) vs H Q
def mthE (i : Nat) (f : List PyData → List PyData → Rs (PyData × List PyData)) (m : SeA) : Se := fun ρ => match nm i ρ with
  | .ok _ => (match m ρ with
    | .ok (ds, ρ1) => (match nm i ρ1 with
      | .ok (.list xs) => (match f xs ds with
        | .ok (d, ys) => .ok (d, ρ1.set i (some (.list ys)))
        | .error e => .error e)
      | .ok _ => .error .stuck
      | .error e => .error e)
    | .error e => .error e)
  | .error e => .error e
theorem se_mth {id : String} {name y : Str} {apos : Pos} {r : V → List V → Hp → VK → Prop} {f : List PyData → List PyData → Rs (PyData × List PyData)} (i : Nat) (slot : Slot "list" name id) (hty : typeOf (.builtin id) = pure (.type "method_descriptor")) (hm : MtR X id r) (hf : OpW c.T X.K k r f)
    (hi : c.Ms.contains i = true) (ha : SEA c X (e :: es) eA) (hN : X.N[i]? = some y := by rfl) (hv : Vis X.env.scope y := by first | exact Or.inl rfl | exact Or.inr (Or.inl rfl) | exact Or.inr (Or.inr rfl))
    (hd : (y == ("__debug__" : Str)) = false := by decide) (hcd : (y == ("__classdict__" : Str)) = false := by decide)
    (hbase : attributeBase (.Name y p2) name X.env (eval (.Name y p2) X.env) = eval (.Name y p2) X.env := by rfl)
    (hfew : ((backTo pos (starEach (e :: es) X.env)).all (fun x => !x.1) && (backToKw pos (keywordEach [] X.env)).all (fun x => x.1.isSome)
      && decide ((e :: es).length + ([] : List Keyword).length + (if ([] : List Keyword).isEmpty then 0 else 1) < 30)) = true := by rfl)
    (hline : (apos.endLine == pos.line) = true := by rfl) (hs : starEach (e :: es) X.env = (false, eval e X.env) :: starEach es X.env := by rfl) (hplain : (backTo pos (starEach es X.env)).any (·.1) = false := by rfl) :
    SE c X k (.Call (.Attribute (.Name y p2) name apos) (e :: es) [] pos) (mthE i f eA) := by
  have hi' : i ∈ c.Ms := List.contains_iff_mem.mp hi
  obtain ⟨ta, pa, qa⟩ := ha.ex
  refine ⟨_, pe_bm PySem.F.plainAttrs_list slot hty hm (pe_var (i := i) hN hv hd hcd) pa hbase hfew hline hs hplain, fun σ H ρ s z ρ' h Q q => ?_⟩
  unfold mthE at h
  split at h <;> try (cases h)
  rename_i x0 hx
  split at h <;> try (cases h)
  rename_i ds ρ1 hds
  split at h <;> try (cases h)
  rename_i xs hx1
  split at h <;> cases h
  rename_i ys hz
  obtain ⟨p, xs', us, e0, e1, hp, rx⟩ := s.mslot i _ (nm_ok hx) hi'
  subst e0
  refine ⟨.ref p, e1, .inl ⟨rfl, us, SqL.of hp⟩, qa σ H ρ s _ _ hds _ fun vs H1 g1 s1 r1 => ?_⟩
  obtain ⟨p', xs2, us1, e2, e3, hp1, rx1⟩ := s1.mslot i _ (nm_ok hx1) hi'
  cases e2
  rw [e1] at e3
  cases e3
  have mp : Mut c.Ms σ p := ⟨i, hi', e1⟩
  refine hf H1 (Msk c σ) p us1 xs ds vs z ys s1.dom (.inr mp) hp1 rx1 r1 hz Q fun v H2 us' g2 hp2 r2 rk => ?_
  exact q v H2 (g1.trans (g2.mono fun a e => by rw [e]; exact mp)) (s1.wrote hi' e1 g2 hp2 r2) (rk.back g1.none)
theorem se_mth0 {id : String} {name y : Str} {apos : Pos} {r : V → List V → Hp → VK → Prop} {f : List PyData → List PyData → Rs (PyData × List PyData)} (i : Nat) (slot : Slot "list" name id) (hty : typeOf (.builtin id) = pure (.type "method_descriptor")) (hm : MtR X id r) (hf : OpW c.T X.K k r f)
    (hi : c.Ms.contains i = true) (hN : X.N[i]? = some y := by rfl) (hv : Vis X.env.scope y := by first | exact Or.inl rfl | exact Or.inr (Or.inl rfl) | exact Or.inr (Or.inr rfl))
    (hd : (y == ("__debug__" : Str)) = false := by decide) (hcd : (y == ("__classdict__" : Str)) = false := by decide)
    (hbase : attributeBase (.Name y p2) name X.env (eval (.Name y p2) X.env) = eval (.Name y p2) X.env := by rfl) (hline : (apos.endLine == pos.line) = true := by rfl) :
    SE c X k (.Call (.Attribute (.Name y p2) name apos) [] [] pos) (mthE i f enil) := by
  have hi' : i ∈ c.Ms := List.contains_iff_mem.mp hi
  refine ⟨_, pe_bm0 PySem.F.plainAttrs_list slot hty hm (pe_var (i := i) hN hv hd hcd) hbase hline, fun σ H ρ s z ρ' h Q q => ?_⟩
  unfold mthE enil at h
  split at h <;> try (cases h)
  rename_i x0 hx
  simp only at h
  split at h <;> try (cases h)
  rename_i xs hx1
  split at h <;> cases h
  rename_i ys hz
  obtain ⟨p, xs', us, e0, e1, hp, rx⟩ := s.mslot i _ (nm_ok hx1) hi'
  cases e0
  have mp : Mut c.Ms σ p := ⟨i, hi', e1⟩
  refine ⟨.ref p, e1, .inl ⟨rfl, us, SqL.of hp⟩, ?_⟩
  refine hf H (Msk c σ) p us xs [] [] z ys s.dom (.inr mp) hp rx .nil hz Q fun v H2 us' g2 hp2 r2 rk => ?_
  exact q v H2 (g2.mono fun a e => by rw [e]; exact mp) (s.wrote hi' e1 g2 hp2 r2) rk
def appF : List PyData → List PyData → Rs (PyData × List PyData) := fun xs ds => match ds with
  | [d] => if xs.length < big then .ok (.none, xs ++ [d]) else .error .stuck
  | _ => .error .stuck
theorem ow_append : OpW c.T X.K .f rAppend appF := by
  intro H M p us xs ds vs d ys hm mp hp rx rd h Q q
  unfold appF at h
  split at h <;> try (cases h)
  split at h <;> cases h
  rename_i d0 hl
  cases rd with
  | cons r1 rr =>
    rename_i v0 vs0
    cases rr
    have g2 : Gr c.T (fun a => a = p) H (upd H p (.lst (us ++ [v0]))) := Gr.write rfl hp
    have cy : Carry X.K H (upd H p (.lst (us ++ [v0]))) M M := g2.carry (fun a e => by rw [e]; exact ⟨us, hp⟩) (fun a e => by rw [e]; exact mp) fun a m => .inl m
    refine ⟨p, us, v0, rfl, rfl, hp, ?_, q .non _ _ g2 upd_same (RpL.carry cy (rx.append (.cons r1 .nil))) kr_non⟩
    rw [← rx.length]
    exact Nat.lt_of_lt_of_le hl (by decide)
def extF : List PyData → List PyData → Rs (PyData × List PyData) := fun xs ds => match ds with
  | [.list zs] => if xs.length + zs.length ≤ big then .ok (.none, xs ++ zs) else .error .stuck
  | _ => .error .stuck
theorem ow_extend : OpW c.T X.K .f rExtend extF := by
  intro H M p us xs ds vs d ys hm mp hp rx rd h Q q
  unfold extF at h
  split at h <;> try (cases h)
  split at h <;> cases h
  rename_i d0 hl
  cases rd with
  | cons r1 rr =>
    cases rr
    cases r1 with
    | @lst a ws _ ha nm r =>
      have g2 : Gr c.T (fun a => a = p) H (upd H p (.lst (us ++ ws))) := Gr.write rfl hp
      have cy : Carry X.K H (upd H p (.lst (us ++ ws))) M M := g2.carry (fun a e => by rw [e]; exact ⟨us, hp⟩) (fun a e => by rw [e]; exact mp) fun a m => .inl m
      refine ⟨p, a, us, ws, rfl, rfl, hp, ha, big_le (by rw [← rx.length, ← r.length]; exact hl), q .non _ _ g2 upd_same (RpL.carry cy (rx.append r)) kr_non⟩
def popF : List PyData → List PyData → Rs (PyData × List PyData) := fun xs ds => match ds with
  | [] => (match xs[xs.length - 1]? with
    | some d => .ok (d, xs.dropLast)
    | none => .error .stuck)
  | _ => .error .stuck
theorem ow_pop : OpW c.T X.K .s rPop popF := by
  intro H M p us xs ds vs d ys hm mp hp rx rd h Q q
  unfold popF at h
  split at h <;> try (cases h)
  split at h <;> cases h
  rename_i hl
  cases rd
  obtain ⟨v, hv, rv⟩ := rx.get hl
  have g2 : Gr c.T (fun a => a = p) H (upd H p (.lst us.dropLast)) := Gr.write rfl hp
  have cy : Carry X.K H (upd H p (.lst us.dropLast)) M M := g2.carry (fun a e => by rw [e]; exact ⟨us, hp⟩) (fun a e => by rw [e]; exact mp) fun a m => .inl m
  exact ⟨p, us, v, rfl, rfl, hp, by rw [← rx.length]; exact hv, q v _ _ g2 upd_same (RpL.carry cy rx.dropLast) (rv.carry cy)⟩

/-! ### for over what may write -/
structure SIE (c : Cfg) (X : Cx) (tg e : Expr) (m : SeA) : Prop where
  ex : ∃ wi : TI, PI X tg e wi ∧ ∀ (σ : SS) (H : Hp) (ρ : Rho), SR c X.K σ H ρ → ∀ ds ρ', m ρ = .ok (ds, ρ') → ∀ R : It → Hp → Prop, (∀ J H', Gr c.T (Mut c.Ms σ) H H' → SR c X.K σ H' ρ' → Yld c X.K J ds σ H' → R J H') → wi σ H R
theorem RpL.int1 {K : Fg} {H : Hp} {M : Ad → Prop} {i : Int} {vs : List V} (r : RpL K H M [.int i] vs) : vs = [.int i] := by
  cases r with
  | cons h t => cases t; cases h; rfl
theorem RpL.int2 {K : Fg} {H : Hp} {M : Ad → Prop} {i j : Int} {vs : List V} (r : RpL K H M [.int i, .int j] vs) : vs = [.int i, .int j] := by
  cases r with
  | cons h t => cases h; rw [t.int1]
def itR1E (m : SeA) : SeA := fun ρ => match m ρ with
  | .ok ([.int j], ρ') => if -(2 ^ 62) ≤ j ∧ j < 2 ^ 62 then .ok (ranD 0 j.toNat, ρ') else .error .stuck
  | .ok _ => .error .stuck
  | .error e => .error e
theorem sie_ran1 (hm : X.mg "range" = none) (hg : Gl X "range") (ha : SEA c X [a] eA) (hs : starEach [a] X.env = [(false, eval a X.env)] := by rfl) : SIE c X tg (.Call (.Name "range" p2) [a] [] pos) (itR1E eA) := by
  obtain ⟨t, p, q⟩ := ha.ex
  refine ⟨_, pi_range1 hg hm p hs, fun σ H ρ s ds ρ' h R w => ?_⟩
  unfold itR1E at h
  split at h <;> try (cases h)
  rename_i j ρ1 hj
  split at h <;> cases h
  rename_i hb
  refine q σ H ρ s _ _ hj _ fun vs H1 g1 s1 r1 => ?_
  exact ⟨j, by rw [r1.int1], hb.1, hb.2, w _ H1 g1 s1 (yld_ran 0 _)⟩
def itR2E (m : SeA) : SeA := fun ρ => match m ρ with
  | .ok ([.int i, .int j], ρ') => if -(2 ^ 62) ≤ i ∧ i < 2 ^ 62 ∧ -(2 ^ 62) ≤ j ∧ j < 2 ^ 62 then .ok (ranD i (j - i).toNat, ρ') else .error .stuck
  | .ok _ => .error .stuck
  | .error e => .error e
theorem sie_ran2 (hm : X.mg "range" = none) (hg : Gl X "range") (ha : SEA c X [a, b] eA) (hs : starEach [a, b] X.env = [(false, eval a X.env), (false, eval b X.env)] := by rfl) (hs2 : starEach [b] X.env = [(false, eval b X.env)] := by rfl) : SIE c X tg (.Call (.Name "range" p2) [a, b] [] pos) (itR2E eA) := by
  obtain ⟨t, p, q⟩ := ha.ex
  refine ⟨_, pi_range2 hg hm p hs hs2, fun σ H ρ s ds ρ' h R w => ?_⟩
  unfold itR2E at h
  split at h <;> try (cases h)
  rename_i i j ρ1 hj
  split at h <;> cases h
  rename_i hb
  refine q σ H ρ s _ _ hj _ fun vs H1 g1 s1 r1 => ?_
  exact ⟨i, j, by rw [r1.int2], hb, w _ H1 g1 s1 (yld_ran i _)⟩
def itTE (m : Se) : SeA := fun ρ => match m ρ with
  | .ok (.tuple xs, ρ') => .ok (xs, ρ')
  | .ok _ => .error .stuck
  | .error e => .error e
def itLE (m : Se) : SeA := fun ρ => match m ρ with
  | .ok (.list xs, ρ') => .ok (xs, ρ')
  | .ok _ => .error .stuck
  | .error e => .error e
def forE (m : SeA) (g : Sg) (b : Sb) : Sb := fun ρ => match m ρ with
  | .ok (ds, ρ') => loop g b ds ρ'
  | .error e => .error e
theorem s1_forE {is : List Nat} (hp : PassesOwn (model X.prog X.w) X.A X.env X.xe) (hc : X.calm = true) (hi : SIE c X tg e eA) (hg : SG c X tg is g) (hb : SB c X fr ss m1)
    (hs : ∀ x, foldedSetIterable e X.env x = pure x := by intro _; rfl) : S1 c X fr (.For tg e ss [] pos) (forE eA g m1) := by
  obtain ⟨wi, pi, qi⟩ := hi.ex
  obtain ⟨tG, pG, qG⟩ := hg.ex
  obtain ⟨tB, pB, qB⟩ := hb.ex
  refine ⟨_, ps_for hp hc pi pG pB hs, fun Wf H0 σ H ρ s o h D w => ?_⟩
  unfold forE at h
  split at h <;> try (cases h)
  rename_i ds ρ1 hds
  exact qi σ H ρ s.sr _ _ hds _ fun J H1 g1 s1 y => for_core qG qB y (s.eff g1 s1) h (w.late (Late.eff g1))
end
end DL

set_option Elab.async false
set_option linter.all false
set_option maxRecDepth 100000
set_option maxHeartbeats 2000000
/-! DLC0: itertools.combinations, at the library's level, then over the hand layer. -/
namespace DLC
open PySem PySem.Spec
open Sem (wp)

theorem mro_comb : mroOf (.type "itertools.combinations") = pure [.type "itertools.combinations", .type "object"] := by rw [mroOf_type]; kernel_rfl
theorem lookup_comb_new : typeLookup (.type "itertools.combinations") "__new__" = pure (some (.builtin "itertools.combinations.__new__")) := by rw [typeLookup_type, builtinLookup_eq_fast]; kernel_rfl
theorem slot_comb_init : Slot "itertools.combinations" "__init__" "object.__init__" :=
  .of (owner := "object") (n := "__init__") (by rw [typeLookup_type, builtinLookup_eq_fast]; kernel_rfl) (by decide +kernel) (by decide +kernel) (by decide +kernel)
    (by first | exact .inl (by decide +kernel) | exact .inr (by decide +kernel)) (by rw [isSubtype_type]; kernel_rfl)
theorem sub_comb : isSubtype (.type "itertools.combinations") (.type "itertools.combinations") = pure true := by rw [isSubtype_type]; kernel_rfl
theorem called_comb : TypeCalled "itertools.combinations" "itertools.combinations.__new__" "object.__init__" :=
  ⟨by decide +kernel, by decide +kernel, ⟨_, _, mro_comb⟩, madeBy_type mro_comb lookup_comb_new (by decide +kernel), by decide +kernel, sub_comb, slot_comb_init⟩
theorem typeCall_comb_2 (a b : Value) : checkTypeCall "itertools.combinations" ⟨[a, b], []⟩ = pure () := by kernel_rfl
theorem newCall_comb_2 (a b : Value) : checkBuiltinCall "itertools.combinations.__new__" ⟨[.type "itertools.combinations", a, b], []⟩ = pure () := by kernel_rfl
theorem entry_comb_new : entryFor table "itertools.combinations.__new__" = some Builtin.«itertools.combinations.__new__» := entryFor_of_tree (by kernel_rfl)
theorem slot_comb_iter : Slot "itertools.combinations" "__iter__" "itertools.combinations.__iter__" :=
  .of (owner := "itertools.combinations") (n := "__iter__") (by rw [typeLookup_type, builtinLookup_eq_fast]; kernel_rfl) (by decide +kernel) (by decide +kernel) (by decide +kernel)
    (by first | exact .inl (by decide +kernel) | exact .inr (by decide +kernel)) sub_comb
theorem slot_comb_next : Slot "itertools.combinations" "__next__" "itertools.combinations.__next__" :=
  .of (owner := "itertools.combinations") (n := "__next__") (by rw [typeLookup_type, builtinLookup_eq_fast]; kernel_rfl) (by decide +kernel) (by decide +kernel) (by decide +kernel)
    (by first | exact .inl (by decide +kernel) | exact .inr (by decide +kernel)) sub_comb
theorem entry_comb_iter : entryFor table "itertools.combinations.__iter__" = some Builtin.«dict_keyiterator.__iter__» :=
  entryFor_alias (id' := "dict_keyiterator.__iter__") (by kernel_rfl) (by first | rfl | decide +kernel | (unfold String.splitOn; simp +decide [String.splitOnAux])) (by decide +kernel) (by kernel_rfl)
theorem entry_comb_next : entryFor table "itertools.combinations.__next__" = some Builtin.«itertools.combinations.__next__» := entryFor_of_tree (by kernel_rfl)
theorem owner_comb : Manifest.owners.lookup (String.ofList "itertools.combinations".toList) = some Manifest.sig_itertools_combinations := by kernel_rfl
theorem args_comb_iter (a : Value) : argsOk "itertools.combinations.__iter__" ⟨[a], []⟩ := by
  unfold argsOk; rw [signature?_of (id := "itertools.combinations.__iter__") (n := ['_', '_', 'r', 'e', 't', 'i', '_', '_']) (o := "itertools.combinations".toList.reverse) (by kernel_rfl) owner_comb]; kernel_rfl
theorem args_comb_next (a : Value) : argsOk "itertools.combinations.__next__" ⟨[a], []⟩ := by
  unfold argsOk; rw [signature?_of (id := "itertools.combinations.__next__") (n := ['_', '_', 't', 'x', 'e', 'n', '_', '_']) (o := "itertools.combinations".toList.reverse) (by kernel_rfl) owner_comb]; kernel_rfl
theorem noDict_comb : typeHasDict (.type "itertools.combinations") = false := by decide +kernel
end DLC

set_option Elab.async false
set_option linter.all false
set_option maxRecDepth 100000
set_option maxHeartbeats 2000000
namespace DLC
open PySem PySem.Spec
open Sem (wp)

/-! ### the walk through the index lists -/
/-- behind an index list the next one -/
def stepC (n : Nat) (l : List Nat) : Option (List Nat) :=
  ((List.range l.length).reverse.find? fun j => l.getD j 0 != j + n - l.length).map fun j => l.take j ++ (List.range (l.length - j)).map fun q => l.getD j 0 + 1 + q
/-- what is handed out at the indices l -/
def handC (it : Addr) (pool : Value) (l : List Nat) : Sem Fin := do
  let r ← (do
    let xs ← Builtin.Itertools.itPoolItems pool
    newTuple (l.map fun j => xs.getD j .none))
  let old ← field (.ref it) 2
  setField (.ref it) 2 r
  letGo [old] [r]
  ret r
def bodyC (it : Addr) (pool : Value) (l : List Nat) (st : Int) : Sem Fin := match st with
  | 0 => do setField (.ref it) 1 (rawInt 1); handC it pool l
  | 1 => do
    let xs ← Builtin.Itertools.itPoolItems pool
    match stepC xs.size l with
    | some nx => do Builtin.Itertools.itSetNumbersFrom (.ref it) 3 nx; handC it pool nx
    | none => do setField (.ref it) 1 (rawInt 2); Builtin.Itertools.itStop
  | _ => do rule "itertools.combinations.ended"; Builtin.Itertools.itStop
theorem next_tree (it : Addr) : Builtin.«itertools.combinations.__next__» ⟨[.ref it], []⟩ = (do
    let pool ← field (.ref it) 0
    let l ← Builtin.Itertools.itNumbersFrom (.ref it) 3
    let st ← Builtin.Itertools.itIntField (.ref it) 1
    bodyC it pool l st) := by
  show (field (.ref it) 0 >>= _) = (field (.ref it) 0 >>= _)
  refine congrArg (field (.ref it) 0 >>= ·) (funext fun pool => ?_)
  refine congrArg (Builtin.Itertools.itNumbersFrom (.ref it) 3 >>= ·) (funext fun l => ?_)
  refine congrArg (Builtin.Itertools.itIntField (.ref it) 1 >>= ·) (funext fun st => ?_)
  unfold bodyC
  split
  · show (setField (.ref it) 1 (rawInt 1) >>= _) = _
    refine congrArg (setField (.ref it) 1 (rawInt 1) >>= ·) (funext fun _ => ?_)
    rfl
  · refine congrArg (Builtin.Itertools.itPoolItems pool >>= ·) (funext fun xs => ?_)
    refine congrArg (fun o : Option (List Nat) => (match o with
      | some nx => (do Builtin.Itertools.itSetNumbersFrom (.ref it) 3 nx; handC it pool nx : Sem Fin)
      | none => (do setField (.ref it) 1 (rawInt 2); Builtin.Itertools.itStop))) (?_ : _ = stepC xs.size l)
    unfold stepC
    generalize hn : xs.size = n
    show (have r := l.length; match List.find? (fun j => l.getD j 0 != j + n - r) (List.range r).reverse with | none => (none : Option (List Nat)) | some i => some (l.take i ++ (List.range (r - i)).map (l.getD i 0 + 1 + ·))) = _
    dsimp only
    cases List.find? (fun j => l.getD j 0 != j + n - l.length) (List.range l.length).reverse <;> rfl
  · rename_i h0 h1
    split
    · exact absurd rfl h0
    · exact absurd rfl h1
    · rfl

/-! ### one turn -/
def numsV (l : List Nat) : List Value := l.map fun (i : Nat) => rawInt (i : Int)
def combO (pool : Value) (l : List Nat) (st : Int) (last : Value) : Obj := { cls := .type "itertools.combinations", data := .fields (pool :: rawInt st :: last :: numsV l).toArray }
def tupO (vs : List Value) : Obj := { cls := .type "tuple", data := .seq vs.toArray }
section
variable {prog : Program} {w : World} {A : Around} {E : Value → Shared → Prop} {s : Shared}
theorem numsV_back (l : List Nat) : (numsV l).map (fun v => match v with | .int n _ => n.toNat | _ => 0) = l := by
  unfold numsV
  rw [List.map_map]
  conv => rhs; rw [← List.map_id l]
  apply List.map_congr_left
  intro a _
  rfl
theorem nums_ok {it : Addr} {pool last : Value} {l : List Nat} {st : Int} {Q : List Nat → Shared → Prop} (ho : s.heap.get? it = some (combO pool l st last)) (h : Q l s) :
    wpAny (model prog w) A (Builtin.Itertools.itNumbersFrom (.ref it) 3) Q E s := by
  show wpAny _ _ (load it >>= _) _ _ s
  refine wpAny_bind (wpAny_load ho ?_)
  show wpAny _ _ (pure _) _ _ s
  refine wpAny_pure ?_
  have e : ((pool :: rawInt st :: last :: numsV l).toArray.toList.drop 3) = numsV l := rfl
  rw [e]
  have := numsV_back l
  exact (congrArg (fun z => Q z s) this).mpr h
theorem pool_ok {pa : Addr} {o : Obj} {items : Array Value} {n : Nat} {Q : Array Value → Shared → Prop} (ho : s.heap.get? pa = some o) (hd : o.data = .seq items n) (h : Q items s) :
    wpAny (model prog w) A (Builtin.Itertools.itPoolItems (.ref pa)) Q E s := by
  show wpAny _ _ ((load pa >>= _) >>= _) _ _ s
  refine wpAny_bind (wpAny_bind (wpAny_load ho ?_))
  rw [hd]
  exact wpAny_pure (wpAny_pure h)
theorem int_ok {it : Addr} {pool last : Value} {l : List Nat} {st : Int} {Q : Int → Shared → Prop} (ho : s.heap.get? it = some (combO pool l st last)) (h : Q st s) :
    wpAny (model prog w) A (Builtin.Itertools.itIntField (.ref it) 1) Q E s := by
  show wpAny _ _ (field (.ref it) 1 >>= _) _ _ s
  refine wpAny_bind (wpAny_field ho rfl (x := rawInt st) (by simp) ?_)
  exact wpAny_pure h
/-- the tuple is made, kept and handed out -/
theorem hand_ok {it pa : Addr} {last : Value} {l : List Nat} {st : Int} {o : Obj} {items : Array Value} {n : Nat} {Q : Fin → Shared → Prop} (ho : s.heap.get? it = some (combO (.ref pa) l st last)) (hp : s.heap.get? pa = some o) (hd : o.data = .seq items n)
    (hl : l.length ≤ sizeLine)
    (h : ∀ h' : Heap, h'.get? it = some (combO (.ref pa) l st (.ref s.heap.objs.size)) → h'.get? s.heap.objs.size = some (tupO (l.map fun j => items.getD j .none)) → (∀ b u, b ≠ it → s.heap.get? b = some u → h'.get? b = some u) →
      Q (.done (.ret (.ref s.heap.objs.size))) { s with heap := h' }) : wpAny (model prog w) A (handC it (.ref pa) l) Q E s := by
  unfold handC
  refine wpAny_bind (wpAny_bind (pool_ok hp hd ?_))
  show wpAny _ _ (newObj (.type "tuple") (.seq (l.map fun j => items.getD j .none).toArray)) _ _ s
  refine wpAny_newObj_type ?_ (by show (l.map fun j => items.getD j .none).toArray.size ≤ sizeLine; simpa using hl)
  have ho1 : (s.heap.push (tupO (l.map fun j => items.getD j .none))).get? it = some (combO (.ref pa) l st last) := Heap.get?_push_of_some _ ho
  show wpAny _ _ (field (.ref it) 2 >>= _) _ _ _
  refine wpAny_bind (wpAny_field (s := { s with heap := s.heap.push (tupO (l.map fun j => items.getD j .none)) }) ho1 rfl (x := last) (by simp) ?_)
  refine wpAny_bind (wpAny_setField (s := { s with heap := s.heap.push (tupO (l.map fun j => items.getD j .none)) }) ho1 rfl (by simp) ?_)
  refine wpAny_bind (wpAny_letGo (wpAny_pure ?_))
  have ne : it ≠ s.heap.objs.size := Nat.ne_of_lt (Heap.lt_size ho)
  have e1 := Heap.get?_update_self (Obj.mapFields fun x => x.setIfInBounds 2 (.ref s.heap.objs.size)) ho1 rfl
  refine h _ ?_ ?_ ?_
  · refine e1.trans ?_
    unfold combO
    simp [Obj.mapFields]
  · exact (Heap.get?_update_other _ _ ne).trans (Heap.get?_push_size _ rfl)
  · intro b u hb hu
    exact (Heap.get?_update_other _ _ (Ne.symm hb)).trans (Heap.get?_push_of_some _ hu)
end
end DLC

set_option Elab.async false
set_option linter.all false
set_option maxRecDepth 100000
set_option maxHeartbeats 2000000
namespace DLC
open PySem PySem.Spec

/-! ### the index lists, in order -/
def cmb : Nat → Nat → Nat → List (List Nat)
  | _, 0, _ => [[]]
  | 0, _ + 1, _ => []
  | m + 1, r + 1, lo => (cmb m r (lo + 1)).map (lo :: ·) ++ cmb m (r + 1) (lo + 1)
def nxt (n : Nat) : List Nat → Option (List Nat)
  | [] => none
  | a :: t => match nxt n t with
    | some t' => some (a :: t')
    | none => if a != n - (t.length + 1) then some (List.range' (a + 1) (t.length + 1)) else none
theorem range_up (k : Nat) : (List.range (k + 1)).reverse = ((List.range k).reverse.map (· + 1)) ++ [0] := by
  rw [List.range_succ_eq_map, List.reverse_cons, List.map_reverse]
theorem step_nxt (n : Nat) : ∀ l : List Nat, stepC n l = nxt n l
  | [] => rfl
  | a :: t => by
    have ih := step_nxt n t
    unfold stepC at ih ⊢
    unfold nxt
    rw [← ih, List.length_cons, range_up, List.find?_append, List.find?_map]
    have ep : ((fun j => (a :: t).getD j 0 != j + n - (t.length + 1)) ∘ fun x => x + 1) = fun j => t.getD j 0 != j + n - t.length := by
      funext j
      simp only [Function.comp, List.getD_cons_succ]
      congr 1
      omega
    rw [ep]
    cases List.find? (fun j => t.getD j 0 != j + n - t.length) (List.range t.length).reverse with
    | some j =>
      simp only [Option.map_some, Option.some_or]
      congr 1
      rw [List.take_succ_cons, List.getD_cons_succ]
      rw [show t.length + 1 - (j + 1) = t.length - j by omega]
      rfl
    | none =>
      simp only [Option.map_none, Option.none_or, List.find?_cons, List.find?_nil, List.getD_cons_zero, Nat.zero_add]
      cases h : (a != n - (t.length + 1)) with
      | true =>
        simp only [Option.map_some, if_true, List.take_zero, List.nil_append, Nat.sub_zero, List.getD_cons_zero]
        congr 1
        rw [List.range'_eq_map_range]
      | false => simp
theorem cmb_len : ∀ (m r lo : Nat), ∀ l ∈ cmb m r lo, l.length = r
  | _, 0, _, l, h => by
    simp [cmb] at h
    rw [h]; rfl
  | 0, r + 1, lo, l, h => by simp [cmb] at h
  | m + 1, r + 1, lo, l, h => by
    simp only [cmb, List.mem_append, List.mem_map] at h
    rcases h with ⟨t, ht, rfl⟩ | h
    · rw [List.length_cons, cmb_len m r (lo + 1) t ht]
    · exact cmb_len m (r + 1) (lo + 1) l h
theorem cmb_none : ∀ (m r lo : Nat), m < r → cmb m r lo = []
  | _, 0, _, h => absurd h (Nat.not_lt_zero _)
  | 0, r + 1, lo, _ => rfl
  | m + 1, r + 1, lo, h => by
    simp only [cmb]
    rw [cmb_none m r (lo + 1) (by omega), cmb_none m (r + 1) (lo + 1) (by omega)]
    rfl
theorem cmb_first : ∀ (m r lo : Nat), r ≤ m → (cmb m r lo)[0]? = some (List.range' lo r)
  | _, 0, _, _ => by simp [cmb]
  | 0, r + 1, lo, h => absurd h (by omega)
  | m + 1, r + 1, lo, h => by
    simp only [cmb]
    have ih := cmb_first m r (lo + 1) (by omega)
    have hlt := (List.getElem?_eq_some_iff.mp ih).1
    rw [List.getElem?_append_left (by simpa using hlt), List.getElem?_map, ih]
    rfl
theorem cmb_next : ∀ (m r lo : Nat) (i : Nat) (l : List Nat), (cmb m r lo)[i]? = some l → nxt (lo + m) l = (cmb m r lo)[i + 1]?
  | m, 0, lo, i, l, h => by
    have e : cmb m 0 lo = [[]] := by cases m <;> rfl
    rw [e] at h ⊢
    cases i with
    | zero =>
      simp at h
      subst h
      rfl
    | succ i => simp at h
  | 0, r + 1, lo, i, l, h => by simp [cmb] at h
  | m + 1, r + 1, lo, i, l, h => by
    simp only [cmb] at h ⊢
    by_cases hi : i < (cmb m r (lo + 1)).length
    · rw [List.getElem?_append_left (by simpa using hi), List.getElem?_map] at h
      cases e : (cmb m r (lo + 1))[i]? with
      | none => rw [e] at h; cases h
      | some t =>
        rw [e] at h
        cases h
        have ih := cmb_next m r (lo + 1) i t e
        have el := cmb_len m r (lo + 1) t (List.mem_of_getElem? e)
        rw [show lo + 1 + m = lo + (m + 1) by omega] at ih
        unfold nxt
        rw [ih]
        by_cases h2 : i + 1 < (cmb m r (lo + 1)).length
        · rw [List.getElem?_append_left (by simpa using h2), List.getElem?_map, List.getElem?_eq_getElem h2]
          rfl
        · rw [List.getElem?_eq_none (Nat.le_of_not_lt h2), List.getElem?_append_right (by simpa using h2), List.length_map]
          have ei : i + 1 - (cmb m r (lo + 1)).length = 0 := by omega
          rw [ei, el]
          have hrm : r ≤ m := by
            by_cases q : r ≤ m
            · exact q
            · rw [cmb_none m r (lo + 1) (by omega)] at e
              simp at e
          by_cases q : r + 1 ≤ m
          · rw [cmb_first m (r + 1) (lo + 1) q]
            simp only []
            rw [if_pos (by rw [bne_iff_ne]; omega)]
          · rw [cmb_none m (r + 1) (lo + 1) (by omega)]
            simp only []
            rw [if_neg (by
              simp only [bne_iff_ne, ne_eq, Decidable.not_not]
              omega)]
            rfl
    · rw [List.getElem?_append_right (by simpa using hi), List.length_map] at h
      rw [List.getElem?_append_right (by rw [List.length_map]; omega), List.length_map]
      have ih := cmb_next m (r + 1) (lo + 1) _ l h
      rw [show lo + 1 + m = lo + (m + 1) by omega] at ih
      rw [ih]
      congr 1
      omega
theorem cmb_bound : ∀ (m r lo : Nat), ∀ l ∈ cmb m r lo, ∀ j ∈ l, j < lo + m
  | _, 0, _, l, h, j, hj => by
    simp [cmb] at h
    rw [h] at hj
    cases hj
  | 0, r + 1, lo, l, h, _, _ => by simp [cmb] at h
  | m + 1, r + 1, lo, l, h, j, hj => by
    simp only [cmb, List.mem_append, List.mem_map] at h
    rcases h with ⟨t, ht, rfl⟩ | h
    · rcases List.mem_cons.mp hj with rfl | hj
      · omega
      · have := cmb_bound m r (lo + 1) t ht j hj
        omega
    · have := cmb_bound m (r + 1) (lo + 1) l h j hj
      omega
/-- the choices of r of xs, in order -/
def combs {α : Type} : Nat → List α → List (List α)
  | 0, _ => [[]]
  | _ + 1, [] => []
  | r + 1, x :: xs => (combs r xs).map (x :: ·) ++ combs (r + 1) xs
theorem cmb_combs {α : Type} (d : α) : ∀ (m r : Nat) (lo : Nat) (xs : List α), xs.length = lo + m → (cmb m r lo).map (fun l => l.map fun j => xs.getD j d) = combs r (xs.drop lo)
  | m, 0, lo, xs, _ => by
    have e : cmb m 0 lo = [[]] := by cases m <;> rfl
    rw [e]
    unfold combs
    rfl
  | 0, r + 1, lo, xs, h => by
    rw [List.drop_of_length_le (by omega)]
    rfl
  | m + 1, r + 1, lo, xs, h => by
    have hlt : lo < xs.length := by omega
    rw [List.drop_eq_getElem_cons hlt]
    simp only [cmb, combs, List.map_append, List.map_map]
    rw [← cmb_combs d m r (lo + 1) xs (by omega), ← cmb_combs d m (r + 1) (lo + 1) xs (by omega), List.map_map]
    congr 1
    apply List.map_congr_left
    intro l _
    simp only [Function.comp, List.map_cons]
    congr 1
    rw [List.getD_eq_getElem?_getD, List.getElem?_eq_getElem hlt]
    rfl
end DLC

set_option Elab.async false
set_option linter.all false
set_option maxRecDepth 100000
set_option maxHeartbeats 2000000
namespace DLC
open PySem PySem.Spec
section
variable {prog : Program} {w : World} {A : Around} {E : Value → Shared → Prop} {s : Shared}
/-- how the object stands ahead of turn i -/
def combAt (items : List Value) (r : Nat) (it pa : Addr) (i : Nat) (h : Heap) : Prop :=
  h.get? pa = some (tupO items) ∧ ((i = 0 ∧ h.get? it = some (combO (.ref pa) (List.range r) (if r > items.length then 2 else 0) .none)) ∨
    ∃ j l last, i = j + 1 ∧ (cmb items.length r 0)[j]? = some l ∧ h.get? it = some (combO (.ref pa) l 1 last))
theorem setNums_ok {it : Addr} {pool last : Value} {l nx : List Nat} {st : Int} {Q : Unit → Shared → Prop} (ho : s.heap.get? it = some (combO pool l st last)) (hz : nx.length ≤ sizeLine)
    (h : ∀ h', h'.get? it = some (combO pool nx st last) → (∀ b u, b ≠ it → s.heap.get? b = some u → h'.get? b = some u) → h'.objs.size = s.heap.objs.size → Q () { s with heap := h' }) :
    wpAny (model prog w) A (Builtin.Itertools.itSetNumbersFrom (.ref it) 3 nx) Q E s := by
  show wpAny _ _ (updateFields it _) _ _ s
  refine wpAny_updateFields ho rfl (h _ ?_ (fun b u hb hu => (Heap.get?_update_other _ _ (Ne.symm hb)).trans hu) ?_) ?_
  · refine (Heap.get?_update_self _ ho rfl).trans ?_
    unfold combO numsV
    simp [Obj.mapFields]
  · exact Heap.size_update ..
  · unfold numsV
    simp
    omega
theorem setSt_ok {it : Addr} {pool last : Value} {l : List Nat} {st st' : Int} {Q : Unit → Shared → Prop} (ho : s.heap.get? it = some (combO pool l st last))
    (h : ∀ h', h'.get? it = some (combO pool l st' last) → (∀ b u, b ≠ it → s.heap.get? b = some u → h'.get? b = some u) → h'.objs.size = s.heap.objs.size → Q () { s with heap := h' }) :
    wpAny (model prog w) A (setField (.ref it) 1 (rawInt st')) Q E s := by
  refine wpAny_setField ho rfl (by simp) (h _ ?_ (fun b u hb hu => (Heap.get?_update_other _ _ (Ne.symm hb)).trans hu) ?_)
  · refine (Heap.get?_update_self _ ho rfl).trans ?_
    unfold combO
    simp [Obj.mapFields]
  · exact Heap.size_update ..
theorem stop_ok {Q : Fin → Shared → Prop} (hh : A.handled = none) (h : ∀ (e : Addr) (o : Obj) (h' : Heap), h'.get? e = some o → o.cls = .type "StopIteration" → (∀ b u, s.heap.get? b = some u → h'.get? b = some u) → E (.ref e) { s with heap := h' }) :
    wpAny (model prog w) A (Builtin.Itertools.itStop : Sem Fin) Q E s := by
  show wpAny _ _ (newExc (.type "StopIteration") [] >>= _) _ _ _
  refine wpAny_bind ?_
  simp only [newExc, newTuple]
  refine wpAny_bind (wpAny_newObj_type ?_ (by size_fits))
  refine wpAny_bind (m := firstArgMember _ _) (wpAny_of_eq (a := Value.none) (by first | rfl | (simp only [firstArgMember]; rfl)) ?_)
  refine wpAny_newObj_type ?_ (by size_fits)
  simp only [raiseNew]
  refine wpAny_bind (wpAny_handled ?_)
  rw [hh]
  refine wpAny_bind (wpAny_pure (wpAny_throw ?_))
  exact h _ _ _ (Heap.get?_push_size _ rfl) rfl fun b u hb => Heap.get?_push_of_some _ (Heap.get?_push_of_some _ hb)
theorem objs_ne {vs : List Value} {pool last : Value} {l : List Nat} {st : Int} : some (tupO vs) ≠ some (combO pool l st last) := fun e => by
  have h := congrArg Obj.cls (Option.some.inj e)
  exact absurd (Value.type.inj h) (by decide)
theorem comb_type {items : List Value} {r : Nat} {it pa : Addr} {i : Nat} (H : combAt items r it pa i s.heap) : s.TypeIs (.ref it) "itertools.combinations" := by
  rcases H.2 with ⟨_, h⟩ | ⟨_, _, _, _, _, h⟩
  · exact ⟨_, h, rfl⟩
  · exact ⟨_, h, rfl⟩
/-- the next choice -/
theorem comb_item {items : List Value} {r : Nat} {it pa : Addr} {i : Nat} {l : List Nat} {Q : Option Value → Shared → Prop} (H : combAt items r it pa i s.heap) (hl : (cmb items.length r 0)[i]? = some l) (hr : r ≤ sizeLine)
    (h : ∀ h', combAt items r it pa (i + 1) h' → h'.get? s.heap.objs.size = some (tupO (l.map fun j => items.getD j .none)) → (∀ b u, b ≠ it → s.heap.get? b = some u → h'.get? b = some u) → Q (some (.ref s.heap.objs.size)) { s with heap := h' }) :
    wpAny (model prog w) A (pyNext (.ref it)) Q E s := by
  have hT := comb_type H
  have hp := H.1
  have ll : l.length = r := cmb_len _ _ _ l (List.mem_of_getElem? hl)
  have eg : ∀ (z : Nat), (items.toArray).getD z .none = items.getD z .none := fun z => by simp [Array.getD_eq_getD_getElem?]
  unfold pyNext
  refine wpAny_bind (wpAny_attempt (wpAny_callSpecial?_slot (name := Str.ofString "__next__") hT slot_comb_next (wpAny_call_entry slot_comb_next hT entry_comb_next ?_ (args_comb_next _))))
  rw [next_tree]
  have fin : ∀ {h1 : Heap} {st : Int} {last : Value}, st = 1 → h1.get? it = some (combO (.ref pa) l st last) → h1.get? pa = some (tupO items) → (∀ b u, b ≠ it → s.heap.get? b = some u → h1.get? b = some u) → h1.objs.size = s.heap.objs.size →
      ∀ h' : Heap, h'.get? it = some (combO (.ref pa) l st (.ref h1.objs.size)) → h'.get? h1.objs.size = some (tupO (l.map fun j => items.toArray.getD j .none)) → (∀ b u, b ≠ it → h1.get? b = some u → h'.get? b = some u) → Q (some (.ref h1.objs.size)) { s with heap := h' } := by
    intro h1 st last est e1 e2 k1 sz h' e3 e4 k2
    subst est
    have ne : pa ≠ it := fun z => by
      rw [z] at hp
      rcases H.2 with ⟨_, q⟩ | ⟨_, _, _, _, _, q⟩ <;> (rw [q] at hp; exact objs_ne hp.symm)
    rw [sz] at e3 e4 ⊢
    refine h h' ⟨k2 _ _ ne e2, .inr ⟨i, l, _, rfl, hl, e3⟩⟩ ?_ fun b u hb hu => k2 b u hb (k1 b u hb hu)
    rw [e4]
    congr 2
    exact List.map_congr_left fun j _ => eg j
  rcases H.2 with ⟨rfl, ho⟩ | ⟨j, l0, last, rfl, h0, ho⟩
  · have hn : ¬ r > items.length := fun z => by
      rw [cmb_none _ _ _ z] at hl
      cases hl
    rw [if_neg hn] at ho
    have el : l = List.range r := by
      rw [cmb_first _ _ _ (Nat.le_of_not_lt hn)] at hl
      rw [← Option.some.inj hl, List.range_eq_range']
    subst el
    refine wpAny_bind (wpAny_field ho rfl (x := .ref pa) (by simp) ?_)
    refine wpAny_bind (nums_ok ho ?_)
    refine wpAny_bind (int_ok ho ?_)
    show wpAny _ _ (setField (.ref it) 1 (rawInt 1) >>= fun _ => handC it (.ref pa) (List.range r)) _ _ s
    refine wpAny_bind (setSt_ok ho fun h1 e1 k1 sz => ?_)
    have ne : pa ≠ it := fun z => by
      rw [z, ho] at hp; exact objs_ne hp.symm
    have e2 := k1 _ _ ne hp
    refine hand_ok (s := { s with heap := h1 }) e1 e2 rfl (by rw [ll]; exact hr) fun h' e3 e4 k2 => ?_
    exact ⟨_, rfl, wpAny_pure (fin rfl e1 e2 k1 sz h' e3 e4 k2)⟩
  · have hs : stepC items.toArray.size l0 = some l := by
      rw [step_nxt, List.size_toArray]
      have := cmb_next items.length r 0 j l0 h0
      rw [Nat.zero_add] at this
      rw [this]
      exact hl
    refine wpAny_bind (wpAny_field ho rfl (x := .ref pa) (by simp) ?_)
    refine wpAny_bind (nums_ok ho ?_)
    refine wpAny_bind (int_ok ho ?_)
    show wpAny _ _ (Builtin.Itertools.itPoolItems (.ref pa) >>= _) _ _ s
    refine wpAny_bind (pool_ok hp rfl ?_)
    rw [hs]
    show wpAny _ _ (Builtin.Itertools.itSetNumbersFrom (.ref it) 3 l >>= fun _ => handC it (.ref pa) l) _ _ s
    refine wpAny_bind (setNums_ok ho (by rw [ll]; exact hr) fun h1 e1 k1 sz => ?_)
    have ne : pa ≠ it := fun z => by
      rw [z, ho] at hp; exact objs_ne hp.symm
    have e2 := k1 _ _ ne hp
    refine hand_ok (s := { s with heap := h1 }) e1 e2 rfl (by rw [ll]; exact hr) fun h' e3 e4 k2 => ?_
    exact ⟨_, rfl, wpAny_pure (fin rfl e1 e2 k1 sz h' e3 e4 k2)⟩
/-- none is left -/
theorem comb_end {items : List Value} {r : Nat} {it pa : Addr} {i : Nat} {Q : Option Value → Shared → Prop} (hh : A.handled = none) (H : combAt items r it pa i s.heap) (hl : (cmb items.length r 0).length ≤ i)
    (h : ∀ h' : Heap, (∀ b u, b ≠ it → s.heap.get? b = some u → h'.get? b = some u) → Q none { s with heap := h' }) : wpAny (model prog w) A (pyNext (.ref it)) Q E s := by
  have hT := comb_type H
  have hp := H.1
  unfold pyNext
  refine wpAny_bind (wpAny_attempt (wpAny_callSpecial?_slot (name := Str.ofString "__next__") hT slot_comb_next (wpAny_call_entry slot_comb_next hT entry_comb_next ?_ (args_comb_next _))))
  rw [next_tree]
  have stop : ∀ {s1 : Shared}, (∃ h1, s1 = { s with heap := h1 } ∧ (∀ b u, b ≠ it → s.heap.get? b = some u → h1.get? b = some u)) → ∀ {Q' : Fin → Shared → Prop}, wpAny (model prog w) A.in1 (Builtin.Itertools.itStop : Sem Fin) Q'
      (fun e s' => wpAny (model prog w) A (match (Except.error e : Except Value (Option Value)) with
        | .ok (some v) => pure (some v)
        | .ok none => unsupported "iter:the-iterator's-class-has-lost-its-__next__-amid-the-walk"
        | .error e => do if ← isInstance e (.type "StopIteration") then pure none else throw e) Q E s') s1 := by
    rintro s1 ⟨h1, rfl, k1⟩ Q'
    refine stop_ok (show A.in1.handled = none from hh) fun e o h' he hc k => ?_
    refine wpAny_bind (wpAny_isInstance (T := "StopIteration") (b := true) ⟨_, he, hc⟩ isSubtype_stop ?_)
    exact wpAny_pure (h _ fun b u hb hu => k b u (k1 b u hb hu))
  rcases H.2 with ⟨rfl, ho⟩ | ⟨j, l0, last, rfl, h0, ho⟩
  · have hn : r > items.length := by
      by_cases q : r > items.length
      · exact q
      · have := cmb_first items.length r 0 (Nat.le_of_not_lt q)
        have := (List.getElem?_eq_some_iff.mp this).1
        omega
    rw [if_pos hn] at ho
    refine wpAny_bind (wpAny_field ho rfl (x := .ref pa) (by simp) ?_)
    refine wpAny_bind (nums_ok ho ?_)
    refine wpAny_bind (int_ok ho ?_)
    show wpAny _ _ (rule "itertools.combinations.ended" >>= fun _ => Builtin.Itertools.itStop) _ _ s
    exact wpAny_bind (wpAny_rule (stop ⟨s.heap, rfl, fun _ _ _ hu => hu⟩))
  · have hs : stepC items.toArray.size l0 = none := by
      rw [step_nxt, List.size_toArray]
      have := cmb_next items.length r 0 j l0 h0
      rw [Nat.zero_add] at this
      rw [this]
      exact List.getElem?_eq_none hl
    refine wpAny_bind (wpAny_field ho rfl (x := .ref pa) (by simp) ?_)
    refine wpAny_bind (nums_ok ho ?_)
    refine wpAny_bind (int_ok ho ?_)
    show wpAny _ _ (Builtin.Itertools.itPoolItems (.ref pa) >>= _) _ _ s
    refine wpAny_bind (pool_ok hp rfl ?_)
    rw [hs]
    show wpAny _ _ (setField (.ref it) 1 (rawInt 2) >>= fun _ => Builtin.Itertools.itStop) _ _ s
    refine wpAny_bind (setSt_ok ho fun h1 e1 k1 sz => ?_)
    exact stop ⟨h1, rfl, k1⟩
theorem iter_comb {items : List Value} {r : Nat} {it pa : Addr} {i : Nat} {Q : Value → Shared → Prop} (H : combAt items r it pa i s.heap) (h : Q (.ref it) s) : wpAny (model prog w) A (pyIter (.ref it)) Q E s := by
  have hT := comb_type H
  refine wpAny_pyIter_slot hT slot_comb_iter (wpAny_call_entry slot_comb_iter hT entry_comb_iter ?_ (args_comb_iter _))
  show wpAny _ _ (ret (.ref it)) _ _ s
  exact wpAny_pure ⟨_, rfl, "itertools.combinations", _, hT, slot_comb_next.lookup, h⟩
end
end DLC

set_option Elab.async false
set_option linter.all false
set_option maxRecDepth 100000
set_option maxHeartbeats 4000000
namespace DLC
open PySem PySem.Spec
open Sem (wp)
open AutoSeq1 (wpAny_loadPart')
theorem meets_comb_new (l : Addr) (o : Obj) (items : Array Value) (n : Nat) (T : String) (hT : T = "list" ∨ T = "tuple") (hc : o.cls = .type T) (hd : o.data = .seq items n) (r : Int) (t : Tok) (h0 : 0 ≤ r) (h1 : r ≤ 1000) (hsz : items.size ≤ sizeLine) :
    Meets (Builtin.«itertools.combinations.__new__» ⟨[.type "itertools.combinations", .ref l, .int r t], []⟩)
      (fun _ R s => s.heap.get? l = some o ∧ ∀ h' : Heap, (∀ b u, s.heap.get? b = some u → h'.get? b = some u) →
        R (.ok (.ret (.ref (h'.push (tupO items.toList)).objs.size))) { s with heap := (h'.push (tupO items.toList)).push (combO (.ref h'.objs.size) (List.range r.toNat) (if r.toNat > items.toList.length then 2 else 0) .none) }) :=
  .of_wp fun prog w A R s h => by
    obtain ⟨hp, g, dd, tk, os⟩ := s
    obtain ⟨ho, h⟩ := h
    have hsub := sub_comb
    have hdd := noDict_comb
    have hn : ¬ ((decide (r < -(2 ^ 63 : Int)) || decide (r ≥ (2 ^ 63 : Int))) = true) := by
      have a : decide (r < -(2 ^ 63 : Int)) = false := decide_eq_false (by omega)
      have b : decide (r ≥ (2 ^ 63 : Int)) = false := decide_eq_false (by omega)
      rw [a, b]
      decide
    have hneg : ¬ r < 0 := by omega
    have hmany : ¬ Builtin.Itertools.itTooMany r = true := by
      unfold Builtin.Itertools.itTooMany
      rw [decide_eq_true_eq]
      omega
    have key : ∀ {Q : List Value → Shared → Prop} {E : Value → Shared → Prop} {A' : Around}, (∀ h', (∀ b o', hp.get? b = some o' → h'.get? b = some o') → Q items.toList ⟨h', g, dd, tk, os⟩) → wpAny (model prog w) A' (collect (.ref l)) Q E ⟨hp, g, dd, tk, os⟩ :=
      fun {Q E A'} hq => wpAny_collect_seq (hsz := hsz) l hT ho hc hd hq
    have es : ("itertools." ++ "combinations" : String) = "itertools.combinations" := by decide +kernel
    have hsub2 : isSubtype (.type "itertools.combinations") (.type ("itertools." ++ "combinations")) = pure true := by rw [es]; exact hsub
    have fin : ∀ {Q : Value → Shared → Prop} {E : Value → Shared → Prop} {A' : Around} {h2 : Heap} {pv : Value}, Q (.ref h2.objs.size) ⟨h2.push (combO pv (List.range r.toNat) (if r.toNat > items.toList.length then 2 else 0) .none), g, dd, tk, os⟩ →
        wpAny (model prog w) A' (Builtin.Itertools.itNewRecord (.type "itertools.combinations") ([pv, rawInt (if r.toNat > items.toList.length then 2 else 0), Value.none] ++ List.map (fun i : Nat => rawInt i) (List.range r.toNat))) Q E ⟨h2, g, dd, tk, os⟩ := by
      intro Q E A' h2 pv q
      unfold Builtin.Itertools.itNewRecord
      rw [hdd]
      rw [if_pos (show (!false) = true from rfl)]
      refine wpAny_newObj_type ?_ ?_
      · exact q
      show (([pv, rawInt (if r.toNat > items.toList.length then 2 else 0), Value.none] ++ List.map (fun i : Nat => rawInt i) (List.range r.toNat)).toArray).size ≤ _
      have : (sizeLine : Nat) ≥ 10000 := by decide
      simp
      omega
    have clsOk : ∀ {Q : Value × List Value → Shared → Prop} {E : Value → Shared → Prop} {A' : Around} {s' : Shared}, Q (.type "itertools.combinations", [.ref l, .int r t]) s' → wpAny (model prog w) A' (Builtin.Itertools.itClassAndRest "combinations" ⟨[.type "itertools.combinations", .ref l, .int r t], []⟩) Q E s' := by
      intro Q E A' s' q
      repeat wp_step
      exact q
    have bnd : Builtin.Itertools.itBindNamed "combinations" ["iterable", "r"] 2 2 [.ref l, .int r t] [] = pure [some (.ref l), some (.int r t)] := by
      kernel_rfl
    have szOk : ∀ {Q : Int → Shared → Prop} {E : Value → Shared → Prop} {A' : Around} {s' : Shared}, Q r s' → wpAny (model prog w) A' (Builtin.Itertools.itSsizeArg (.int r t)) Q E s' := by
      intro Q E A' s' q
      repeat (first
        | wp_step
        | (refine wpAny_ite_false (decide_eq_false hn) ?_))
      all_goals first | exact q | exact absurd ‹_› hn
    show wpAny _ _ ((Builtin.Itertools.itClassAndRest "combinations" ⟨[.type "itertools.combinations", .ref l, .int r t], []⟩ >>= _) >>= _) _ _ _
    refine wpAny_bind (wpAny_bind (clsOk ?_))
    show wpAny _ _ (Builtin.Itertools.itBindNamed "combinations" ["iterable", "r"] 2 2 [.ref l, .int r t] [] >>= _) _ _ _
    refine wpAny_bind (wpAny_of_eq bnd ?_)
    show wpAny _ _ (Builtin.Itertools.itSsizeArg (.int r t) >>= _) _ _ _
    refine wpAny_bind (szOk ?_)
    refine wpAny_bind (key fun h' hk => ?_)
    rw [if_neg hneg, if_neg hmany]
    show wpAny _ _ (newTuple items.toList >>= _) _ _ _
    refine wpAny_bind (wpAny_newObj_type ?_ (by show items.toList.toArray.size ≤ sizeLine; simpa using hsz))
    refine wpAny_pure ?_
    refine wpAny_bind ?_
    refine fin (h2 := h'.push (tupO items.toList)) (wpAny_pure ⟨_, rfl, ?_⟩)
    exact h h' hk
section
variable {prog : Program} {w : World} {A : Around} {E : Value → Shared → Prop} {s : Shared}
theorem call_comb {l : Addr} {o : Obj} {items : Array Value} {n : Nat} {T : String} {r : Int} {t : Tok} {Q : Value → Shared → Prop} (hT : T = "list" ∨ T = "tuple") (ho : s.heap.get? l = some o) (hc : o.cls = .type T) (hd : o.data = .seq items n) (h0 : 0 ≤ r) (h1 : r ≤ 1000) (hsz : items.size ≤ sizeLine)
    (h : ∀ (hm h' : Heap) (it pa : Addr), (∀ b u, s.heap.get? b = some u → hm.get? b = some u) → combAt items.toList r.toNat it pa 0 h' → hm.objs.size ≤ it → hm.objs.size ≤ pa → (∀ b u, hm.get? b = some u → h'.get? b = some u) → Q (.ref it) { s with heap := h' }) :
    wpAny (model prog w) A (call (.type "itertools.combinations") [.ref l, .int r t]) Q E s := by
  refine callType_new called_comb (by decide +kernel) (typeCall_comb_2 _ _) (newCall_comb_2 _ _) (fun obj => F.args_object_init_3 obj _ _) entry_comb_new (meets_comb_new l o items n T hT hc hd r t h0 h1 hsz) ⟨ho, fun h' hk => ?_⟩
  have e1 : ((h'.push (tupO items.toList)).push (combO (.ref h'.objs.size) (List.range r.toNat) (if r.toNat > items.toList.length then 2 else 0) .none)).get? (h'.push (tupO items.toList)).objs.size = some (combO (.ref h'.objs.size) (List.range r.toNat) (if r.toNat > items.toList.length then 2 else 0) .none) := Heap.get?_push_size _ rfl
  have e2 : ((h'.push (tupO items.toList)).push (combO (.ref h'.objs.size) (List.range r.toNat) (if r.toNat > items.toList.length then 2 else 0) .none)).get? h'.objs.size = some (tupO items.toList) := Heap.get?_push_of_some _ (Heap.get?_push_size _ rfl)
  show _ ∧ _
  refine ⟨⟨_, e1, rfl⟩, h h' _ _ _ hk ⟨e2, .inl ⟨rfl, e1⟩⟩ (by rw [Heap.size_push]; omega) (Nat.le_refl _) fun b u hb => Heap.get?_push_of_some _ (Heap.get?_push_of_some _ hb)⟩
end
end DLC

set_option Elab.async false
set_option linter.all false
set_option maxRecDepth 100000
set_option maxHeartbeats 2000000
/-! DLC5: a walk over combinations(xs, r) in the hand layer. -/
namespace DLC
open PySem PySem.Spec PyProof.Rows L2

def Itcm (vs : List V) (r : Nat) : It :=
  ⟨fun i _ => i < (cmb vs.length r 0).length,
    fun i H v H' => ∃ p l, v = .ref p ∧ H p = none ∧ (cmb vs.length r 0)[i]? = some l ∧ H' = upd H p (.tup (l.map fun j => vs.getD j .non)),
    fun i _ => (cmb vs.length r 0).length ≤ i⟩
theorem vals_get {vs : List V} {items : List Value} (h : Vals vs items) : ∀ j, RelV (vs.getD j .non) (items.getD j .none) := by
  induction h with
  | nil => intro j; simp; rfl
  | cons a r ih =>
    intro j
    cases j with
    | zero => exact a
    | succ j => simpa using ih j
theorem vals_map {vs : List V} {items : List Value} (h : Vals vs items) : ∀ l : List Nat, Vals (l.map fun j => vs.getD j .non) (l.map fun j => items.getD j .none)
  | [] => .nil
  | j :: l => .cons (vals_get h j) (vals_map h l)
theorem turn_comb {P : Program} {w : World} {K : PySem.W.Frag} {tg : Expr} {vs : List V} {items : List Value} {r : Nat} {it pa : Addr} (hv : Vals vs items) (hr : r ≤ sizeLine) :
    Turn P w K tg (Itcm vs r) [it, pa] it (fun i h => combAt items r it pa i h) where
  mem := by simp
  obj := fun i h st c hc => by
    have e' : c = it ∨ c = pa := by simpa using hc
    rcases e' with q | q
    · rw [q]
      rcases st.2 with ⟨_, h⟩ | ⟨_, _, _, _, _, h⟩
      · exact ⟨_, h, fun v z => nomatch z⟩
      · exact ⟨_, h, fun v z => nomatch z⟩
    · rw [q]; exact ⟨_, st.1, fun v z => nomatch z⟩
  keep := fun i h h' st k => by
    refine ⟨k pa (by simp) _ st.1, ?_⟩
    rcases st.2 with ⟨e, q⟩ | ⟨j, l, last, e1, e2, q⟩
    · exact .inl ⟨e, k it (by simp) _ q⟩
    · exact .inr ⟨j, l, last, e1, e2, k it (by simp) _ q⟩
  item := by
    intro X hP hw hK hc i pins s σ H E I hf st hg
    subst hP hw hK
    have hg : i < (cmb vs.length r 0).length := hg
    have hln : items.length = vs.length := hv.length.symm
    have hl := List.getElem?_eq_getElem hg
    have hl' : (cmb items.length r 0)[i]? = some (cmb vs.length r 0)[i] := by rw [hln]; exact hl
    have lr : ((cmb vs.length r 0)[i]).length = r := cmb_len _ _ _ _ (List.mem_of_getElem? hl)
    refine comb_item st hl' hr fun h' st' hT hk => ?_
    have hit : ∃ (o : Obj) (n : Nat) (vs' : Array Value), h'.get? it = some o ∧ o.cls = .type "itertools.combinations" ∧ o.data = .fields vs' := by
      rcases st'.2 with ⟨_, q⟩ | ⟨_, _, _, _, _, q⟩
      · exact ⟨_, 0, _, q, rfl, rfl⟩
      · exact ⟨_, 0, _, q, rfl, rfl⟩
    obtain ⟨o, _, vs', ho, hcl, hdt⟩ := hit
    refine ⟨_, rfl, go_of (s := { s with heap := h' }) ho hcl hdt (by decide +kernel) ?_⟩
    have new : ObjOk X.prog X.w (upd H s.heap.objs.size (.tup (((cmb vs.length r 0)[i]).map fun j => vs.getD j .non))) h' s.heap.objs.size (.tup (((cmb vs.length r 0)[i]).map fun j => vs.getD j .non)) :=
      ⟨by rw [List.length_map, lr]; exact hr, _, vals_map hv _, ⟨_, hT, rfl, _, rfl⟩⟩
    have I1 := I.turnedNew (t' := s.toks) (ch := [it, pa]) (fun c o hb q => hk c o (fun z => hb (by simp [z])) q) hf (Nat.le_refl _) new
    refine ⟨.ref s.heap.objs.size, _, I1, rfl, ⟨_, _, rfl, I.hok.fresh (Nat.le_refl _), hl, rfl⟩, st', fun c hcm => ?_⟩
    have hlt : c < s.heap.objs.size := by
      obtain ⟨o, e, _⟩ : ∃ o, s.heap.get? c = some o ∧ True := by
        have e' : c = it ∨ c = pa := by simpa using hcm
        rcases e' with q | q
        · rw [q]
          rcases st.2 with ⟨_, h⟩ | ⟨_, _, _, _, _, h⟩
          · exact ⟨_, h, trivial⟩
          · exact ⟨_, h, trivial⟩
        · rw [q]; exact ⟨_, st.1, trivial⟩
      exact Heap.lt_size e
    rw [upd_ne (Nat.ne_of_lt hlt)]
    exact (hf c hcm).1
  done := by
    intro X hP hw hK hc i pins s σ H E I hf st hg
    subst hP hw hK
    have hg : (cmb vs.length r 0).length ≤ i := hg
    refine comb_end (I.ok.hd hc) st (by rw [hv.length.symm]; exact hg) fun h' hk => ⟨rfl, I.turnedL (t' := s.toks) (ch := [it, pa]) (fun c o hb q => hk c o (fun z => hb (by simp [z])) q) hf⟩
  self := fun A i s Q E st h => iter_comb st h

/-- combinations(a, r): a list or a tuple -/
def iComb (K : PySem.W.Frag) (ta : TA) : TI := fun σ H R => ta σ H fun us H1 => ∃ a r vs, us = [.ref a, .int r] ∧ (SqL K H1 a vs ∨ SqT K H1 a vs) ∧ 0 ≤ r ∧ r ≤ 1000 ∧ R (Itcm vs r.toNat) H1
theorem pi_comb {X : Cx} {e e2 tg : Expr} {ta : TA} {p pos : Pos} (hg : Gl X "combinations") (hm : X.mg "combinations" = some (.type "itertools.combinations")) (ha : PA X [e, e2] ta)
    (hs : starEach [e, e2] X.env = (false, eval e X.env) :: starEach [e2] X.env := by rfl) (hpl : (backTo pos (starEach [e2] X.env)).any (·.1) = false := by rfl) :
    PI X tg (.Call (.Name "combinations" p) [e, e2] [] pos) (iComb X.K ta) := by
  refine ⟨fun pins s σ H R I h => ?_⟩
  refine Call_ (ld_glob I hg hm (PyProof.Rows.callWith_type1 (thn (ha.run pos pins s σ H _ I h) fun us s1 ⟨vs, H1, I1, r1, q1⟩ => ?_) hs hpl))
  obtain ⟨a, r, xs, ex, hq, r0, r2, q1⟩ := q1
  subst ex
  cases r1 with
  | cons ra rr =>
    cases rr with
    | cons rb rr =>
      cases rr
      cases ra
      obtain ⟨tk, rfl⟩ := rb
      have hr : r.toNat ≤ sizeLine := by
        have : (sizeLine : Nat) ≥ 10000 := by decide
        omega
      have fin : ∀ {o : Obj} {items : Array Value} {n : Nat} {T : String}, T = "list" ∨ T = "tuple" → s1.heap.get? a = some o → o.cls = .type T → o.data = .seq items n → items.size ≤ sizeLine → Vals xs items.toList →
          wpAny (model X.prog X.w) X.A (call (.type "itertools.combinations") [.ref a, .int r tk]) (fun v s1 => wpAny (model X.prog X.w) X.A (pyIter v) (PIE X pins σ tg R) X.xe s1) X.xe s1 := by
        intro o items n T hT ho hc hd hsz hv
        refine call_comb hT ho hc hd r0 r2 hsz fun hm h' it pa k1 st z1 z2 k2 => iter_comb st ?_
        have I2 : Inv X pins σ H1 { s1 with heap := hm } := I1.kept (t' := s1.toks) k1
        have I3 : Inv X pins σ H1 { s1 with heap := h' } := I2.kept (t' := s1.toks) k2
        refine ⟨it, [it, pa], _, _, H1, rfl, I3, turn_comb hv hr, st, fun b hb => ?_, q1⟩
        have e' : b = it ∨ b = pa := by simpa using hb
        have hle : hm.objs.size ≤ b := by
          rcases e' with z | z
          · rw [z]; exact z1
          · rw [z]; exact z2
        exact I2.fpOk hle (I2.hok.fresh hle)
      rcases hq with hq | hq
      · obtain ⟨its, rv, p1, hz⟩ := I1.list hq
        obtain ⟨o, ho, hc, n, hd⟩ := p1.isList
        exact fin (.inl rfl) ho hc hd (by first | exact hz | simpa using hz | simpa [rv.length] using hz) (by simpa using rv)
      · obtain ⟨its, rv, p1, hz⟩ := I1.tuple hq
        obtain ⟨o, ho, hc, n, hd⟩ := id p1
        exact fin (.inr rfl) ho hc hd (by first | exact hz | simpa using hz | simpa [rv.length] using hz) (by simpa using rv)
end DLC

set_option Elab.async false
set_option linter.all false
set_option maxRecDepth 100000
set_option maxHeartbeats 2000000
/-! DLE: enumerate(t), t a tuple, in the hand layer. -/
namespace DLE
open PySem PySem.Spec PyProof.Rows L2
open AutoSeq1 (wpAny_loadPart')
theorem meets_enum_tup (t : Addr) (items : Array Value) (n : Nat) (dct : Option Addr) (sl : Array (Option Value)) :
    Meets (Builtin.«enumerate.__new__» ⟨[.type "enumerate", .ref t], []⟩) (fun _ R s => s.heap.get? t = some { cls := .type "tuple", dict := dct, data := .seq items n, slots := sl } ∧
      R (.ok (.ret (.ref (s.heap.push { cls := .type "tuple_iterator", data := .fields #[.ref t, .int 0 0] }).objs.size)))
        { s with heap := (s.heap.push { cls := .type "tuple_iterator", data := .fields #[.ref t, .int 0 0] }).push { cls := .type "enumerate", data := .fields #[.none, .bool false, .ref s.heap.objs.size, rawInt 0, .none, .none] } }) :=
  .of_wp fun prog w A R s h => by
    obtain ⟨hp, g, d, tk, os⟩ := s
    obtain ⟨ht, h⟩ := h
    have hsub := sub_enumerate
    have hT : Heap.IsTuple (Shared.heap ⟨hp, g, d, tk, os⟩) t items := ⟨_, ht, rfl, n, rfl⟩
    wp_walk using wpAny_loadPart' ht
    refine wpAny_stack_any fun st => wpAny_pure ?_
    split
    · rename_i cl _ _ _ _ _
      cases (cl == Value.type "enumerate") <;>
      · wp_walk using wpAny_loadPart' ht, wpAny_pyIter_tuple hT
        exact ⟨_, rfl, h⟩
    · wp_walk using wpAny_loadPart' ht, wpAny_pyIter_tuple hT
      exact ⟨_, rfl, h⟩
section
variable {prog : Program} {w : World} {A : Around} {E : Value → Shared → Prop} {s : Shared}
theorem call_enum_tup {t : Addr} {items : Array Value} {Q : Value → Shared → Prop} (hT : s.heap.IsTuple t items)
    (h : ∀ h' : Heap, IsEnum h' (s.heap.objs.size + 1) s.heap.objs.size 0 .none → h'.IsTupleIter s.heap.objs.size t 0 → (∀ b o, s.heap.get? b = some o → h'.get? b = some o) → Q (.ref (s.heap.objs.size + 1)) { s with heap := h' }) :
    wpAny (model prog w) A (call (.type "enumerate") [.ref t]) Q E s := by
  obtain ⟨⟨cl, dct, dt, sl⟩, ht, hc, n, hd⟩ := hT
  simp only at hc hd
  subst hc hd
  refine callType_new F.called_enumerate (by decide) (F.typeCall_enumerate_1 _) (F.newCall_enumerate_1 _) (fun obj => F.args_object_init_2 obj _) F.entry_enumerate_new (meets_enum_tup t items n dct sl) ⟨ht, ?_⟩
  generalize hh1 : s.heap.push { cls := .type "tuple_iterator", data := .fields #[.ref t, .int 0 0] } = h1
  have z1 : h1.objs.size = s.heap.objs.size + 1 := by rw [← hh1]; exact Heap.size_push ..
  have i1 : h1.IsTupleIter s.heap.objs.size t 0 := by rw [← hh1]; exact ⟨_, Heap.get?_push_size _ rfl, rfl, rfl⟩
  have k1 : ∀ b o, s.heap.get? b = some o → h1.get? b = some o := fun b o x => by rw [← hh1]; exact Heap.get?_push_of_some _ x
  show _ ∧ _
  rw [z1]
  have he : IsEnum (h1.push { cls := .type "enumerate", data := .fields #[.none, .bool false, .ref s.heap.objs.size, rawInt 0, .none, .none] }) (s.heap.objs.size + 1) s.heap.objs.size 0 .none := by
    have := Heap.get?_push_size h1 (o := { cls := .type "enumerate", data := .fields #[.none, .bool false, .ref s.heap.objs.size, rawInt 0, .none, .none] }) rfl
    rw [z1] at this
    exact this
  exact ⟨⟨_, he, rfl⟩, h _ he (i1.at fun o q => Heap.get?_push_of_some _ q) fun b o x => Heap.get?_push_of_some _ (k1 b o x)⟩
end
/-- the tuple at a, each item in a new pair -/
def Itet (K : PySem.W.Frag) (a : Addr) : It :=
  ⟨fun i H => ∃ (xs : List V) (x : V), SqT K H a xs ∧ xs[i]? = some x, fun i H v H' => ∃ T x, v = .ref T ∧ H T = none ∧ H' = upd H T (.tup [.int (i : Nat), x]) ∧ ∀ xs, SqT K H a xs → xs[i]? = some x, fun i H => ∃ xs : List V, SqT K H a xs ∧ xs.length ≤ i⟩
theorem turn_et {P : Program} {w : World} {K : PySem.W.Frag} {elts : List Expr} {kk : Nat} {tpos : Pos} (a e it : Addr) (hei : e ≠ it) (hai : a ≠ it) (hae : a ≠ e) :
    Turn P w K (.Tuple elts kk tpos) (Itet K a) [e, it] e (fun i h => (∃ old, IsEnum h e it ((i : Nat) : Int) old) ∧ h.IsTupleIter it a i) where
  mem := by simp
  obj := fun i h ⟨⟨old, he⟩, ⟨o, ho, _, hd⟩⟩ b hb => by
    have e' : b = e ∨ b = it := by simpa using hb
    rcases e' with rfl | rfl
    · exact ⟨_, he, fun v q => nomatch q⟩
    · exact ⟨o, ho, fun v q => by rw [hd] at q; cases q⟩
  keep := fun i h h' ⟨⟨old, he⟩, hi⟩ k => ⟨⟨old, k e (by simp) _ he⟩, hi.at fun o q => k it (by simp) o q⟩
  item := by
    intro X hP hw hK hc i pins s σ H E I hf ⟨⟨old, he⟩, hit⟩ hg
    subst hP hw hK
    obtain ⟨xs, x, hq, hx⟩ := hg
    obtain ⟨its, rv, p, hz⟩ := I.tuple hq
    obtain ⟨u, hu, ru⟩ := rv.get hx
    have hlt : i < its.toArray.size := by
      have := (List.getElem?_eq_some_iff.mp hu).1
      simpa using this
    have hel : e < s.heap.objs.size := Heap.lt_size he
    have hil : it < s.heap.objs.size := by obtain ⟨_, q, _⟩ := hit; exact Heap.lt_size q
    refine wpAny_pyNext_enum_itemD (Draws.tuple (prog := X.prog) (w := X.w) (A := X.A.in1) (I.ok.hd hc) it a hai its.toArray) he ⟨hit, p⟩ hlt hei (by simp [hei, Ne.symm hae]) fun u' h' tk hu' ho hst hT hsz hk => ?_
    have eu : u' = u := by
      have z : its.toArray[i]? = some u := by simpa using hu
      rw [z] at hu'
      exact (Option.some.inj hu').symm
    subst eu
    refine ⟨_, rfl, wpAny_letOwnedTupleGo_enum (s := { s with heap := h', toks := tk + 1 }) ho fun h2 he2 sb => ?_⟩
    have hT2 : h2.get? s.heap.objs.size = some { cls := .type "tuple", data := .seq #[.int i tk, u'] } := (sb.2 _ (Nat.ne_of_gt hel)).trans hT
    have new : ObjOk X.prog X.w (upd H s.heap.objs.size (.tup [.int (i : Nat), x])) h2 s.heap.objs.size (.tup [.int (i : Nat), x]) :=
      ⟨by show 2 ≤ sizeLine; decide, [.int i tk, u'], .cons ⟨_, rfl⟩ (.cons ru .nil), ⟨_, hT2, rfl, _, rfl⟩⟩
    have I1 := I.turnedNew (t' := tk + 1) (ch := [e, it]) (fun b ob hb q => (sb.2 b (fun z => hb (by simp [z]))).trans (hk b ob (fun z => hb (by simp [z])) (fun z => hb (by simp [z])) q)) hf (Nat.le_refl _) new
    refine ⟨.ref s.heap.objs.size, _, I1, rfl, ⟨_, x, rfl, I.hok.fresh (Nat.le_refl _), rfl, fun ys hy => by rw [I.tuple_inj hy hq]; exact hx⟩, ⟨⟨u', ?_⟩, hst.1.at fun o q => (sb.2 it (Ne.symm hei)).trans q⟩, fun b hb => ?_⟩
    · have e1 : ((i + 1 : Nat) : Int) = (i : Int) + 1 := by omega
      rw [e1]
      exact he2
    · have hb' : b < s.heap.objs.size := by
        have e' : b = e ∨ b = it := by simpa using hb
        rcases e' with rfl | rfl
        · exact hel
        · exact hil
      rw [upd_ne (Nat.ne_of_lt hb')]
      exact (hf b hb).1
  done := by
    intro X hP hw hK hc i pins s σ H E I hf ⟨⟨old, he⟩, hit⟩ hg
    subst hP hw hK
    obtain ⟨xs, hq, hx⟩ := hg
    obtain ⟨its, rv, p, hz⟩ := I.tuple hq
    have hl := rv.length
    have D := Draws.tuple (prog := X.prog) (w := X.w) (A := X.A.in1) (I.ok.hd hc) it a hai its.toArray
    have hT : s.TypeIs (.ref e) "enumerate" := ⟨_, he, rfl⟩
    unfold pyNext
    refine wpAny_bind (wpAny_attempt (wpAny_callSpecial?_slot (name := Str.ofString "__next__") hT F.slot_enumerate_next (wpAny_call_entry F.slot_enumerate_next hT F.entry_enumerate_next ?_ (F.args_enumerate_next_1 _))))
    show wpAny _ _ (field (.ref e) 2 >>= _) _ _ _
    refine wpAny_bind (wpAny_field he rfl (x := .ref it) rfl ?_)
    refine wpAny_bind (wpAny_nextOf_tuple_end (I.ok.hd hc) hit p (by simp; omega) fun h' ev hx' hs => ?_)
    obtain ⟨o, ho, hcl⟩ := hs
    refine wpAny_bind (wpAny_isInstance (T := "StopIteration") (b := true) ⟨o, ho, hcl⟩ isSubtype_stop ?_)
    refine wpAny_pure ⟨rfl, I.turnedL (t' := s.toks) (ch := [e, it]) (fun b o hb q => hx' b o (fun z => hb (by simp [z])) q) hf⟩
  self := fun A i s Q E ⟨⟨_, he⟩, _⟩ h => wpAny_pyIter_enum he h
def iEnumT (K : PySem.W.Frag) (ta : TA) : TI := fun σ H R => ta σ H fun vs H1 => ∃ a xs, vs = [.ref a] ∧ SqT K H1 a xs ∧ R (Itet K a) H1
theorem pi_enumT {X : Cx} {e : Expr} {ta : TA} {p pos tpos : Pos} {elts : List Expr} {kk : Nat} (hg : Gl X "enumerate") (hm : X.mg "enumerate" = none) (ha : PA X [e] ta) (hs : starEach [e] X.env = [(false, eval e X.env)] := by rfl) :
    PI X (.Tuple elts kk tpos) (.Call (.Name "enumerate" p) [e] [] pos) (iEnumT X.K ta) := by
  refine ⟨fun pins s σ H R I h => ?_⟩
  refine Call_ (ld_blt I hg hm boot_enumerate (PyProof.Rows.callWith_type1 (thn (ha.run pos pins s σ H _ I h) fun us s1 ⟨vs, H1, I1, r1, q1⟩ => ?_) hs rfl))
  obtain ⟨a, xs, ex, hq, q⟩ := q1
  subst ex
  cases r1 with
  | cons r rr =>
    cases rr
    cases r
    obtain ⟨its, rv, p', hz⟩ := I1.tuple hq
    have hal : a < s1.heap.objs.size := by obtain ⟨o, ho, _⟩ := id p'; exact Heap.lt_size ho
    refine call_enum_tup (show s1.heap.IsTuple a its.toArray from p') fun h' he hit hk => wpAny_pyIter_enum he ?_
    have I2 : Inv X pins σ H1 { s1 with heap := h' } := I1.kept (t' := s1.toks) hk
    refine ⟨s1.heap.objs.size + 1, [s1.heap.objs.size + 1, s1.heap.objs.size], _, _, H1, rfl, I2, turn_et a (s1.heap.objs.size + 1) s1.heap.objs.size (Nat.succ_ne_self _) (Nat.ne_of_lt hal) (Nat.ne_of_lt (Nat.lt_succ_of_lt hal)), ⟨⟨.none, he⟩, hit⟩, fun b hb => ?_, q⟩
    have hle : s1.heap.objs.size ≤ b := by
      have e' : b = s1.heap.objs.size + 1 ∨ b = s1.heap.objs.size := by simpa using hb
      rcases e' with rfl | rfl
      · exact Nat.le_add_right _ _
      · exact Nat.le_refl _
    exact I1.fpOk hle (I1.hok.fresh hle)
end DLE

set_option Elab.async false
set_option linter.all false
set_option maxRecDepth 100000
set_option maxHeartbeats 1000000
/-! DLA: the built-ins. -/
namespace DL
open PySem PySem.Spec PyProof.Rows L2

def boolsOf : List PyData → Option (List Bool)
  | [] => some []
  | .bool b :: r => (boolsOf r).map (b :: ·)
  | _ => none
def intsOf : List PyData → Option (List Int)
  | [] => some []
  | .int b :: r => (intsOf r).map (b :: ·)
  | _ => none
theorem boolsOf_eq : ∀ {ds : List PyData} {bs : List Bool}, boolsOf ds = some bs → ds = bs.map .bool
  | [], _, h => by simp [boolsOf] at h; subst h; rfl
  | d :: r, bs, h => by
    cases d <;> simp [boolsOf] at h
    obtain ⟨b2, h2, rfl⟩ := h
    rw [boolsOf_eq h2]; rfl
theorem intsOf_eq : ∀ {ds : List PyData} {bs : List Int}, intsOf ds = some bs → ds = bs.map .int
  | [], _, h => by simp [intsOf] at h; subst h; rfl
  | d :: r, bs, h => by
    cases d <;> simp [intsOf] at h
    obtain ⟨b2, h2, rfl⟩ := h
    rw [intsOf_eq h2]; rfl
theorem boolsOf_map : ∀ bs : List Bool, boolsOf (bs.map .bool) = some bs
  | [] => rfl
  | b :: r => by simp [boolsOf, boolsOf_map r]
theorem intsOf_map : ∀ bs : List Int, intsOf (bs.map .int) = some bs
  | [] => rfl
  | b :: r => by simp [intsOf, intsOf_map r]

section
variable {c : Cfg} {X : Cx} {k k1 k2 k3 : Kd} {fr : Bool} {e a b e1 e2 e3 tg : Expr} {m ma mb mc : Sm} {pos p2 p3 : Pos} {st : Stmt} {rest ss tt : List Stmt} {m1 m2 mr : Sb} {es : List Expr} {bs : List Bool} {mA : SmA} {mt : SmT} {n lv : Nat} {x : Str} {fz : List Nat} {ea eb : Se} {eA : SeA} {T : List (Ad × Str)} {K : Fg}
/-! all, any -/
def allD : List PyData → Rs PyData
  | [.list ds] => (match boolsOf ds with
    | some bs => .ok (.bool (bs.all id))
    | none => .error .stuck)
  | _ => .error .stuck
def anyD : List PyData → Rs PyData
  | [.list ds] => (match boolsOf ds with
    | some bs => .ok (.bool (bs.any id))
    | none => .error .stuck)
  | _ => .error .stuck
theorem cm_all : CaM T K .f (rAll K) allD := by
  intro H M ds z vs hm hd hz Q q
  unfold allD at hz
  split at hz <;> try (cases hz)
  split at hz <;> cases hz
  rename_i bs hb
  obtain ⟨v, rfl, h⟩ := hd.one
  rw [boolsOf_eq hb] at h
  obtain ⟨p, ys, rfl, hq, r⟩ := h.lst
  rw [r.bools_inv] at hq
  exact ⟨p, bs, rfl, hq, q _ H (Gr.refl H) kr_bl⟩
theorem cm_any : CaM T K .f (rAny K) anyD := by
  intro H M ds z vs hm hd hz Q q
  unfold anyD at hz
  split at hz <;> try (cases hz)
  split at hz <;> cases hz
  rename_i bs hb
  obtain ⟨v, rfl, h⟩ := hd.one
  rw [boolsOf_eq hb] at h
  obtain ⟨p, ys, rfl, hq, r⟩ := h.lst
  rw [r.bools_inv] at hq
  exact ⟨p, bs, rfl, hq, q _ H (Gr.refl H) kr_bl⟩
theorem sp_all (hc : X.calm = true) (hm : X.mg "all" = none) (hg : Gl X "all") (ha : SPA c X bs [e] mA) (he : starEach [e] X.env = (false, eval e X.env) :: starEach [] X.env := by rfl) : SP c X .f (.Call (.Name "all" p2) [e] [] pos) (apS allD mA) :=
  sp_callB (cr_all hc) cm_all hg hm (by decide +kernel) ha (by decide) (by decide) he (by rfl)
theorem sp_any (hc : X.calm = true) (hm : X.mg "any" = none) (hg : Gl X "any") (ha : SPA c X bs [e] mA) (he : starEach [e] X.env = (false, eval e X.env) :: starEach [] X.env := by rfl) : SP c X .f (.Call (.Name "any" p2) [e] [] pos) (apS anyD mA) :=
  sp_callB (cr_any hc) cm_any hg hm (by decide +kernel) ha (by decide) (by decide) he (by rfl)
/-! sum, max, min of lists of ints -/
def sumD : List PyData → Rs PyData
  | [.list ds] => (match intsOf ds with
    | some bs => .ok (.int bs.sum)
    | none => .error .stuck)
  | _ => .error .stuck
theorem cm_sum : CaM T K .f (rSum K) sumD := by
  intro H M ds z vs hm hd hz Q q
  unfold sumD at hz
  split at hz <;> try (cases hz)
  split at hz <;> cases hz
  rename_i bs hb
  obtain ⟨v, rfl, h⟩ := hd.one
  rw [intsOf_eq hb] at h
  obtain ⟨p, ys, rfl, hq, r⟩ := h.lst
  rw [r.ints_inv] at hq
  exact ⟨p, bs, rfl, hq, q _ H (Gr.refl H) kr_int⟩
theorem sp_sum (hc : X.calm = true) (hm : X.mg "sum" = none) (hg : Gl X "sum") (ha : SPA c X bs [e] mA) (he : starEach [e] X.env = (false, eval e X.env) :: starEach [] X.env := by rfl) : SP c X .f (.Call (.Name "sum" p2) [e] [] pos) (apS sumD mA) :=
  sp_callB (cr_sum hc) cm_sum hg hm (by decide +kernel) ha (by decide) (by decide) he (by rfl)
def maxI : Int → List Int → Int := List.foldl max
def minI : Int → List Int → Int := List.foldl min
theorem maxI_mem : ∀ (l : List Int) (a : Int), maxI a l ∈ a :: l ∧ ∀ y ∈ a :: l, y ≤ maxI a l
  | [], a => ⟨by simp [maxI], by simp [maxI]⟩
  | b :: l, a => by
    obtain ⟨h1, h2⟩ := maxI_mem l (max a b)
    have e : maxI a (b :: l) = maxI (max a b) l := rfl
    rw [e]
    have hh := h2 (max a b) List.mem_cons_self
    refine ⟨?_, fun y hy => ?_⟩
    · rcases List.mem_cons.mp h1 with z | z
      · rw [z]
        rcases Int.le_total a b with q | q
        · rw [Int.max_eq_right q]; simp
        · rw [Int.max_eq_left q]; simp
      · exact List.mem_cons_of_mem _ (List.mem_cons_of_mem _ z)
    · rcases List.mem_cons.mp hy with z | z
      · omega
      · rcases List.mem_cons.mp z with z | z
        · omega
        · exact h2 y (List.mem_cons_of_mem _ z)
theorem minI_mem : ∀ (l : List Int) (a : Int), minI a l ∈ a :: l ∧ ∀ y ∈ a :: l, minI a l ≤ y
  | [], a => ⟨by simp [minI], by simp [minI]⟩
  | b :: l, a => by
    obtain ⟨h1, h2⟩ := minI_mem l (min a b)
    have e : minI a (b :: l) = minI (min a b) l := rfl
    rw [e]
    have hh := h2 (min a b) List.mem_cons_self
    refine ⟨?_, fun y hy => ?_⟩
    · rcases List.mem_cons.mp h1 with z | z
      · rw [z]
        rcases Int.le_total a b with q | q
        · rw [Int.min_eq_left q]; simp
        · rw [Int.min_eq_right q]; simp
      · exact List.mem_cons_of_mem _ (List.mem_cons_of_mem _ z)
    · rcases List.mem_cons.mp hy with z | z
      · omega
      · rcases List.mem_cons.mp z with z | z
        · omega
        · exact h2 y (List.mem_cons_of_mem _ z)
def maxD : List PyData → Rs PyData
  | [.list ds] => (match intsOf ds with
    | some (a :: l) => .ok (.int (maxI a l))
    | _ => .error .stuck)
  | [.int i, .int j] => .ok (.int (if j > i then j else i))
  | _ => .error .stuck
def minD : List PyData → Rs PyData
  | [.list ds] => (match intsOf ds with
    | some (a :: l) => .ok (.int (minI a l))
    | _ => .error .stuck)
  | [.int i, .int j] => .ok (.int (if j < i then j else i))
  | _ => .error .stuck
theorem cm_max : CaM T K .f (fun xs H Q => rMax K xs H Q ∨ (∃ i j, xs = [.int i, .int j] ∧ Q (.int (if j > i then j else i)) H)) maxD := by
  intro H M ds z vs hm hd hz Q q
  unfold maxD at hz
  split at hz <;> try (cases hz)
  · split at hz <;> cases hz
    rename_i b0 bs hb
    obtain ⟨v, rfl, h⟩ := hd.one
    rw [intsOf_eq hb] at h
    obtain ⟨p, ys, rfl, hq, r⟩ := h.lst
    rw [r.ints_inv] at hq
    refine .inl ⟨p, b0 :: bs, rfl, hq, Nat.zero_lt_succ _, fun m h1 h2 => ?_⟩
    obtain ⟨g1, g2⟩ := maxI_mem bs b0
    have e : m = maxI b0 bs := Int.le_antisymm (g2 m h1) (h2 _ g1)
    rw [e]
    exact q _ H (Gr.refl H) kr_int
  · obtain ⟨v, u, rfl, h1, h2⟩ := hd.two
    exact .inr ⟨_, _, by rw [h1.int, h2.int], q _ H (Gr.refl H) kr_int⟩
theorem cm_min : CaM T K .f (fun xs H Q => rMin K xs H Q ∨ (∃ i j, xs = [.int i, .int j] ∧ Q (.int (if j < i then j else i)) H)) minD := by
  intro H M ds z vs hm hd hz Q q
  unfold minD at hz
  split at hz <;> try (cases hz)
  · split at hz <;> cases hz
    rename_i b0 bs hb
    obtain ⟨v, rfl, h⟩ := hd.one
    rw [intsOf_eq hb] at h
    obtain ⟨p, ys, rfl, hq, r⟩ := h.lst
    rw [r.ints_inv] at hq
    refine .inl ⟨p, b0 :: bs, rfl, hq, Nat.zero_lt_succ _, fun m h1 h2 => ?_⟩
    obtain ⟨g1, g2⟩ := minI_mem bs b0
    have e : m = minI b0 bs := Int.le_antisymm (h2 _ g1) (g2 m h1)
    rw [e]
    exact q _ H (Gr.refl H) kr_int
  · obtain ⟨v, u, rfl, h1, h2⟩ := hd.two
    exact .inr ⟨_, _, by rw [h1.int, h2.int], q _ H (Gr.refl H) kr_int⟩
theorem sp_max (hc : X.calm = true) (hm : X.mg "max" = none) (hg : Gl X "max") (ha : SPA c X bs (e :: es) mA) (he : starEach (e :: es) X.env = (false, eval e X.env) :: starEach es X.env := by rfl) (hpl : (backTo pos (starEach es X.env)).any (·.1) = false := by rfl) : SP c X .f (.Call (.Name "max" p2) (e :: es) [] pos) (apS maxD mA) :=
  sp_callB ((cr_max hc).or (call_max2 hc)) cm_max hg hm (by decide +kernel) ha (by decide) (by decide) he hpl
theorem sp_min (hc : X.calm = true) (hm : X.mg "min" = none) (hg : Gl X "min") (ha : SPA c X bs (e :: es) mA) (he : starEach (e :: es) X.env = (false, eval e X.env) :: starEach es X.env := by rfl) (hpl : (backTo pos (starEach es X.env)).any (·.1) = false := by rfl) : SP c X .f (.Call (.Name "min" p2) (e :: es) [] pos) (apS minD mA) :=
  sp_callB ((cr_min hc).or (call_min2 hc)) cm_min hg hm (by decide +kernel) ha (by decide) (by decide) he hpl
/-! abs, int, divmod, gcd -/
def absD : List PyData → Rs PyData
  | [.int i] => .ok (.int (if i < 0 then -i else i))
  | _ => .error .stuck
theorem cm_abs : CaM T K .f (fun xs H Q => ∃ i, xs = [.int i] ∧ Q (.int (if i < 0 then -i else i)) H) absD := by
  intro H M ds z vs hm hd hz Q q
  unfold absD at hz
  split at hz <;> cases hz
  obtain ⟨v, rfl, h⟩ := hd.one
  exact ⟨_, by rw [h.int], q _ H (Gr.refl H) kr_int⟩
theorem sp_abs (hm : X.mg "abs" = none) (hg : Gl X "abs") (ha : SPA c X bs [e] mA) (he : starEach [e] X.env = (false, eval e X.env) :: starEach [] X.env := by rfl) : SP c X .f (.Call (.Name "abs" p2) [e] [] pos) (apS absD mA) :=
  sp_callB call_abs cm_abs hg hm (by decide +kernel) ha (by decide) (by decide) he (by rfl)
def intD : List PyData → Rs PyData
  | [.int i] => .ok (.int i)
  | [.bool b] => .ok (.int (if b then 1 else 0))
  | _ => .error .stuck
theorem cm_int : CaM T K .f (fun xs H Q => (∃ i, xs = [.int i] ∧ Q (.int i) H) ∨ ∃ k, xs = [.bl k] ∧ Q (.int (if k then 1 else 0)) H) intD := by
  intro H M ds z vs hm hd hz Q q
  unfold intD at hz
  split at hz <;> cases hz
  · obtain ⟨v, rfl, h⟩ := hd.one
    exact .inl ⟨_, by rw [h.int], q _ H (Gr.refl H) kr_int⟩
  · obtain ⟨v, rfl, h⟩ := hd.one
    exact .inr ⟨_, by rw [h.bl], q _ H (Gr.refl H) kr_int⟩
theorem sp_intOf (hm : X.mg "int" = none) (hg : Gl X "int") (ha : SPA c X bs [e] mA) (he : starEach [e] X.env = (false, eval e X.env) :: starEach [] X.env := by rfl) : SP c X .f (.Call (.Name "int" p2) [e] [] pos) (apS intD mA) :=
  sp_callTy call_int1 cm_int hg hm (by decide +kernel) ha (by decide) (by decide) he (by rfl)
instance (i j : Int) : Decidable (CDivW i j) := by unfold CDivW; infer_instance
theorem divW_P {i j : Int} (h : CDivW i j) : CDivP i j := by
  refine ⟨h.1, ?_⟩
  unfold Builtin.divisionGoesByPylong
  have h2 : j.natAbs.log2 < 9000 := h.2
  have : ¬ ((if (j == 0) = true then 0 else j.natAbs.log2 / 30 + 1) > 300) := by
    split <;> omega
  simp only [decide_eq_false this, Bool.false_and]
def divmodD : List PyData → Rs PyData
  | [.int i, .int j] => if CDivW i j then .ok (.tuple [.int (i / j), .int (i % j)]) else .error .stuck
  | _ => .error .stuck
theorem cm_divmod : CaM T K .f (fun xs H Q => ∃ i j, xs = [.int i, .int j] ∧ CDivP i j ∧ ∀ p, H p = none → Q (.ref p) (upd H p (.tup [.int (i / j), .int (i % j)]))) divmodD := by
  intro H M ds z vs hm hd hz Q q
  unfold divmodD at hz
  split at hz <;> try (cases hz)
  split at hz <;> cases hz
  rename_i hc
  obtain ⟨v, u, rfl, h1, h2⟩ := hd.two
  refine ⟨_, _, by rw [h1.int, h2.int], divW_P hc, fun p hp => ?_⟩
  exact q _ _ (Gr.new hp) (kr_tup upd_same hp (.cons (.int _) (.cons (.int _) .nil)))
theorem sp_divmod (hm : X.mg "divmod" = none) (hg : Gl X "divmod") (ha : SPA c X bs [e, a] mA) (he : starEach [e, a] X.env = (false, eval e X.env) :: starEach [a] X.env := by rfl) (hpl : (backTo pos (starEach [a] X.env)).any (·.1) = false := by rfl) : SP c X .f (.Call (.Name "divmod" p2) [e, a] [] pos) (apS divmodD mA) :=
  sp_callB call_divmodW cm_divmod hg hm (by decide +kernel) ha (by decide) (by decide) he hpl
/-! tuple, list -/
def tupleD : List PyData → Rs PyData
  | [.list ds] => .ok (.tuple ds)
  | [.tuple ds] => .ok (.tuple ds)
  | _ => .error .stuck
theorem cm_tuple : CaM T K .s (fun xs H Q => ∃ p ys, xs = [.ref p] ∧ ((SqL K H p ys ∧ ∀ l, H l = none → Q (.ref l) (upd H l (.tup ys))) ∨ (SqT K H p ys ∧ Q (.ref p) H))) tupleD := by
  intro H M ds z vs hm hd hz Q q
  unfold tupleD at hz
  split at hz <;> cases hz
  · obtain ⟨v, rfl, h⟩ := hd.one
    obtain ⟨p, ys, rfl, hq, r⟩ := h.lst
    refine ⟨p, ys, rfl, .inl ⟨hq, fun l hl => ?_⟩⟩
    have g2 : Gr T W0 H (upd H l (.tup ys)) := Gr.new hl
    exact q _ _ g2 (.tup (SqT.of upd_same) (r.carry g2.carry0))
  · obtain ⟨v, rfl, h⟩ := hd.one
    obtain ⟨p, ys, rfl, hq, r⟩ := h.tup
    exact ⟨p, ys, rfl, .inr ⟨hq, q _ H (Gr.refl H) (.tup hq r)⟩⟩
theorem sp_tuple (hm : X.mg "tuple" = none) (hg : Gl X "tuple") (ha : SPA c X bs [e] mA) (he : starEach [e] X.env = (false, eval e X.env) :: starEach [] X.env := by rfl) : SP c X .s (.Call (.Name "tuple" p2) [e] [] pos) (apS tupleD mA) :=
  sp_callTy call_tuple_of cm_tuple hg hm (by decide +kernel) ha (by decide) (by decide) he (by rfl)
def listD : List PyData → Rs PyData
  | [.list ds] => .ok (.list ds)
  | [.tuple ds] => .ok (.list ds)
  | _ => .error .stuck
theorem cm_list : CaM T K .f (fun xs H Q => ∃ p ys, xs = [.ref p] ∧ (SqL K H p ys ∨ SqT K H p ys) ∧ ∀ l, H l = none → Q (.ref l) (upd H l (.lst ys))) listD := by
  intro H M ds z vs hm hd hz Q q
  unfold listD at hz
  split at hz <;> cases hz
  · obtain ⟨v, rfl, h⟩ := hd.one
    obtain ⟨p, ys, rfl, hq, r⟩ := h.lst
    refine ⟨p, ys, rfl, .inl hq, fun l hl => ?_⟩
    have g2 : Gr T W0 H (upd H l (.lst ys)) := Gr.new hl
    exact q _ _ g2 (kr_new hm hl hl r)
  · obtain ⟨v, rfl, h⟩ := hd.one
    obtain ⟨p, ys, rfl, hq, r⟩ := h.tup
    refine ⟨p, ys, rfl, .inr hq, fun l hl => ?_⟩
    have g2 : Gr T W0 H (upd H l (.lst ys)) := Gr.new hl
    exact q _ _ g2 (kr_new hm hl hl r)
theorem sp_list (hm : X.mg "list" = none) (hg : Gl X "list") (ha : SPA c X bs [e] mA) (he : starEach [e] X.env = (false, eval e X.env) :: starEach [] X.env := by rfl) : SP c X .f (.Call (.Name "list" p2) [e] [] pos) (apS listD mA) :=
  sp_callTy call_list_of cm_list hg hm (by decide +kernel) ha (by decide) (by decide) he (by rfl)
/-! of a range -/
def rngD (i j : Int) : Rs (List PyData) := if -(2 ^ 62) ≤ i ∧ i < 2 ^ 62 ∧ -(2 ^ 62) ≤ j ∧ j < 2 ^ 62 ∧ (j - i).toNat ≤ 2 ^ 13 then .ok (ranD i (j - i).toNat) else .error .stuck
theorem rgV_rp {H : Hp} {M : Ad → Prop} (a b : Int) : RpL K H M (ranD a (b - a).toNat) (rgV a b) := by
  have e1 : ranD a (b - a).toNat = ((List.range (b - a).toNat).map fun i => a + (i : Nat)).map PyData.int := by unfold ranD; rw [List.map_map]; rfl
  have e2 : rgV a b = ((List.range (b - a).toNat).map fun i => a + (i : Nat)).map V.int := by unfold rgV; rw [List.map_map]; rfl
  rw [e1, e2]
  exact RpL.ints _
def rng1 (m : Sm) : SmA := fun ρ => match m ρ with
  | .ok (.int j) => rngD 0 j
  | .ok _ => .error .stuck
  | .error e => .error e
def rng2 (m n : Sm) : SmA := fun ρ => match m ρ with
  | .ok (.int i) => (match n ρ with
    | .ok (.int j) => rngD i j
    | .ok _ => .error .stuck
    | .error e => .error e)
  | .ok _ => .error .stuck
  | .error e => .error e
theorem rngD_ok {i j : Int} {ds : List PyData} (h : rngD i j = .ok ds) : RgOk i j ∧ ds = ranD i (j - i).toNat := by
  unfold rngD at h
  split at h <;> cases h
  rename_i hb
  exact ⟨⟨hb.1, hb.2.1, hb.2.2.1, hb.2.2.2.1, Nat.le_trans hb.2.2.2.2 (by decide)⟩, rfl⟩
structure SRg (c : Cfg) (X : Cx) (e : Expr) (m : SmA) : Prop where
  ex : ∃ t : SS → Hp → (Int → Int → Hp → Prop) → Prop, PRg X e t ∧ ∀ (σ : SS) (H : Hp) (ρ : Rho), SR c X.K σ H ρ → ∀ ds, m ρ = .ok ds → ∀ Q : Int → Int → Hp → Prop, (∀ i j H', Gr c.T W0 H H' → RgOk i j → ds = ranD i (j - i).toNat → Q i j H') → t σ H Q
theorem srg_1 (hm : X.mg "range" = none) (hg : Gl X "range") (ha : SP c X k1 a ma) (na : starEach [a] X.env = (false, eval a X.env) :: starEach [] X.env := by rfl) : SRg c X (.Call (.Name "range" p2) [a] [] pos) (rng1 ma) := by
  obtain ⟨t, p, q⟩ := ha.ex
  refine ⟨_, prg_1 hg hm p na, fun σ H ρ s ds h Q w => ?_⟩
  unfold rng1 at h
  split at h <;> try (cases h)
  rename_i j hj
  obtain ⟨h1, h2⟩ := rngD_ok h
  exact q σ H ρ s _ hj _ fun v H1 g1 r1 => ⟨j, r1.z.int, w 0 j H1 g1 h1 h2⟩
theorem srg_2 (hm : X.mg "range" = none) (hg : Gl X "range") (ha : SP c X k1 a ma) (hb : SP c X k2 b mb) (na : starEach [a, b] X.env = (false, eval a X.env) :: starEach [b] X.env := by rfl) (nb : starEach [b] X.env = (false, eval b X.env) :: starEach [] X.env := by rfl)
    (hp : (backTo pos (starEach [b] X.env)).any (·.1) = false := by rfl) : SRg c X (.Call (.Name "range" p2) [a, b] [] pos) (rng2 ma mb) := by
  obtain ⟨t, p, q⟩ := ha.ex
  obtain ⟨t2, pp, q2⟩ := hb.ex
  refine ⟨_, prg_2 hg hm p pp na nb hp, fun σ H ρ s ds h Q w => ?_⟩
  unfold rng2 at h
  split at h <;> try (cases h)
  rename_i i hi
  split at h <;> try (cases h)
  rename_i j hj
  obtain ⟨h1, h2⟩ := rngD_ok h
  exact q σ H ρ s _ hi _ fun v H1 g1 r1 => q2 σ H1 ρ (s.grow g1) _ hj _ fun u H2 g2 r2 => ⟨i, j, r1.z.int, r2.z.int, w i j H2 (g1.trans g2) h1 h2⟩
def tupR (m : SmA) : Sm := fun ρ => match m ρ with
  | .ok ds => .ok (.tuple ds)
  | .error e => .error e
def lstR (m : SmA) : Sm := fun ρ => match m ρ with
  | .ok ds => .ok (.list ds)
  | .error e => .error e
theorem sp_tupRg (hc : X.calm = true) (hm : X.mg "tuple" = none) (hg : Gl X "tuple") (he : SRg c X e mA) (na : starEach [e] X.env = (false, eval e X.env) :: starEach [] X.env := by rfl) : SP c X .f (.Call (.Name "tuple" p2) [e] [] pos) (tupR mA) := by
  obtain ⟨t, p, q⟩ := he.ex
  refine ⟨_, pe_tupRg hc hg hm p na, fun σ H ρ s z h Q w => ?_⟩
  unfold tupR at h
  split at h <;> cases h
  rename_i ds hd
  refine q σ H ρ s _ hd _ fun i j H1 g1 ok e => ⟨ok, fun l hl => ?_⟩
  subst e
  have g2 : Gr c.T W0 H1 (upd H1 l (.tup (rgV i j))) := Gr.new hl
  exact w _ _ (g1.trans g2) (kr_tup upd_same (g1.none l hl) (rgV_rp i j))
theorem sp_lstRg (hc : X.calm = true) (hm : X.mg "list" = none) (hg : Gl X "list") (he : SRg c X e mA) (na : starEach [e] X.env = (false, eval e X.env) :: starEach [] X.env := by rfl) : SP c X .f (.Call (.Name "list" p2) [e] [] pos) (lstR mA) := by
  obtain ⟨t, p, q⟩ := he.ex
  refine ⟨_, pe_listRg hc hg hm p na, fun σ H ρ s z h Q w => ?_⟩
  unfold lstR at h
  split at h <;> cases h
  rename_i ds hd
  refine q σ H ρ s _ hd _ fun i j H1 g1 ok e => ⟨ok, fun l hl => ?_⟩
  subst e
  have g2 : Gr c.T W0 H1 (upd H1 l (.lst (rgV i j))) := Gr.new hl
  exact w _ _ (g1.trans g2) (kr_new (s.grow g1).dom hl (g1.none l hl) (rgV_rp i j))
/-! isinstance(e, T), T a built-in type -/
def tyD : PyData → String
  | .none => "NoneType"
  | .bool _ => "bool"
  | .int _ => "int"
  | .str _ => "str"
  | .list _ => "list"
  | .tuple _ => "tuple"
  | .dict _ => "dict"
theorem Rp.tyx {H : Hp} {M : Ad → Prop} {d : PyData} {v : V} (h : Zp K H M d v) : TyX K H v (.type (tyD d)) := by
  have lst : ∀ {a vs}, SqL K H a vs → TyX K H (.ref a) (.type "list") := fun {a vs} hq => by
    rcases hq with (h | ⟨o, h⟩) | ⟨o, its, n, h, hc, _⟩
    · exact .base (.lst h)
    · exact .base (.frz h)
    · exact .kList h hc
  rcases h with (h | ⟨ds, p, vs, rfl, rfl, hp, r⟩) | ⟨ds, p, vs, rfl, rfl, hp, r⟩
  · cases h with
    | non => exact .base .non
    | bl b => exact .base (.bl b)
    | int i => exact .base (.int i)
    | str x => exact .base (.str x)
    | tup hq r =>
      rcases hq with (h | ⟨o, h⟩) | ⟨o, its, n, h, hc, _⟩
      · exact .base (.tup h)
      · exact .fTuple h
      · exact .kTuple h hc
    | lst hq _ r => exact .base (.lst hq)
  · exact lst (SqL.of hp)
  · exact lst hp
/-- what isinstance answers for each kind of data: f; kit: by decide +kernel for each kind -/
structure KitTy (K : Fg) (T : String) : Prop where
  non : PySem.W.kitOne K (.type "NoneType") (.type T) = some (decide (T = "NoneType"))
  bl : PySem.W.kitOne K (.type "bool") (.type T) = some (decide (T = "bool") || decide (T = "int"))
  int : PySem.W.kitOne K (.type "int") (.type T) = some (decide (T = "int"))
  str : PySem.W.kitOne K (.type "str") (.type T) = some (decide (T = "str"))
  lst : PySem.W.kitOne K (.type "list") (.type T) = some (decide (T = "list"))
  tup : PySem.W.kitOne K (.type "tuple") (.type T) = some (decide (T = "tuple"))
def isiD (T : String) : PyData → Rs PyData
  | .none => .ok (.bool (decide (T = "NoneType")))
  | .bool _ => .ok (.bool (decide (T = "bool") || decide (T = "int")))
  | .int _ => .ok (.bool (decide (T = "int")))
  | .str _ => .ok (.bool (decide (T = "str")))
  | .list _ => .ok (.bool (decide (T = "list")))
  | .tuple _ => .ok (.bool (decide (T = "tuple")))
  | .dict _ => .error .stuck
def isiS (T : String) (m : Sm) : Sm := fun ρ => match m ρ with
  | .ok d => isiD T d
  | .error e => .error e
theorem isi_kit {Ty : String} {d z : PyData} (kt : KitTy K Ty) (h : isiD Ty d = .ok z) : ∃ b, z = .bool b ∧ PySem.W.kitOne K (.type (tyD d)) (.type Ty) = some b := by
  cases d <;> simp only [isiD] at h <;> cases h
  · exact ⟨_, rfl, kt.non⟩
  · exact ⟨_, rfl, kt.bl⟩
  · exact ⟨_, rfl, kt.int⟩
  · exact ⟨_, rfl, kt.str⟩
  · exact ⟨_, rfl, kt.lst⟩
  · exact ⟨_, rfl, kt.tup⟩
theorem sp_isi {Ty : String} {y : Str} (hm : X.mg "isinstance" = none) (hg : Gl X "isinstance") (hmy : X.mg y = none) (hgy : Gl X y) (hv : bootBuiltins y = some (.type Ty)) (kt : KitTy X.K Ty) (ha : SP c X k1 e ma)
    (hn : y ≠ "__name__" := by decide) (hd : (y == ("__debug__" : Str)) = false := by decide)
    (he : starEach [e, .Name y p3] X.env = (false, eval e X.env) :: starEach [.Name y p3] X.env := by rfl) (he2 : starEach [.Name y p3] X.env = (false, eval (.Name y p3) X.env) :: starEach [] X.env := by rfl) (hpl : (backTo pos (starEach [.Name y p3] X.env)).any (·.1) = false := by rfl) :
    SP c X .f (.Call (.Name "isinstance" p2) [e, .Name y p3] [] pos) (isiS Ty ma) := by
  obtain ⟨t, p, q⟩ := ha.ex
  refine ⟨_, pe_callB call_isi hg hm (by decide +kernel) (pa_cons p (pa_cons (pe_bltn (v := .ty Ty) hgy hmy hv rfl hn hd) pa_nil he2) he) (by decide) (by decide) he hpl, fun σ H ρ s z h Q w => ?_⟩
  unfold isiS at h
  split at h <;> try (cases h)
  rename_i d hd'
  obtain ⟨b, rfl, kb⟩ := isi_kit kt h
  exact q σ H ρ s _ hd' _ fun v H1 g1 r1 => ⟨v, .ty Ty, .type (tyD d), .type Ty, b, rfl, .ty Ty, Rp.tyx r1.z, kb, w _ H1 g1 kr_bl⟩
/-! repr -/
def okShow (d : PyData) : Bool := okD d && d.showable && decide (d.shown.length ≤ big)
def reprD : List PyData → Rs PyData
  | [d] => if okShow d then .ok (.str d.shown) else .error .stuck
  | _ => .error .stuck
theorem call_reprD (hg : X.A.guards = some []) (hu : X.A.units + 65 < cLine) : CallR X (.builtin "repr") (fun xs H Q => ∃ x d, xs = [x] ∧ Dp X.K H x d ∧ okShow d = true ∧ Q (.str d.shown) H) := by
  intro pins s σ H xs us Q I r h
  obtain ⟨x, d, rfl, hd, ok, q⟩ := h
  obtain ⟨u, rfl, ru⟩ := vals1 r
  obtain ⟨as, rd⟩ := Dp.reads I d x u hd ru
  unfold okShow at ok
  rw [Bool.and_eq_true, Bool.and_eq_true, decide_eq_true_eq] at ok
  obtain ⟨⟨o1, o2⟩, o3⟩ := ok
  obtain ⟨l1, l2⟩ := okN_lay 20 d o1
  have o3 := big_le o3
  have fin : ∀ (h' : Heap) (t tk : Nat), (∀ b o, s.heap.get? b = some o → h'.get? b = some o) → EP X pins σ Q (.str d.shown t) { s with heap := h', toks := tk } := fun h' t tk k => ⟨.str d.shown, H, I.kept k, ⟨t, rfl⟩, q⟩
  cases rd with
  | none => exact PySem.P.repr_of_none (fin s.heap _ _ fun _ _ z => z)
  | bool b =>
    refine PySem.P.repr_of_bool ?_
    have := fin s.heap s.toks (s.toks + 1) fun _ _ z => z
    simp only [PyData.shown] at this
    exact this
  | int i t => exact PySem.P.repr_of_int (by simpa [PyData.showable] using o2) (fin s.heap _ _ fun _ _ z => z)
  | str y t => exact PySem.P.repr_of_str (fin s.heap _ _ fun _ _ z => z) (by simpa only [PyData.shown] using o3)
  | list h1 h2 h3 h4 =>
    exact repr_of_reads' (.list h1 h2 h3 h4) o2 (PyData.noDict_hsm (PyData.hasDict_of_canLay _ l1)) hg (by omega) (fun _ _ e => e) (fun h' u tk hk => fin h' u tk hk) o3
  | tuple h1 h2 h3 h4 =>
    exact repr_of_reads' (.tuple h1 h2 h3 h4) o2 (PyData.noDict_hsm (PyData.hasDict_of_canLay _ l1)) hg (by omega) (fun _ _ e => e) (fun h' u tk hk => fin h' u tk hk) o3
  | dict h1 h2 h3 h4 h5 => simp [PyData.canLay0] at l1
theorem cm_repr : CaM T K .f (fun xs H Q => ∃ x d, xs = [x] ∧ Dp K H x d ∧ okShow d = true ∧ Q (.str d.shown) H) reprD := by
  intro H M ds z vs hm hd hz Q q
  unfold reprD at hz
  split at hz <;> try (cases hz)
  split at hz <;> cases hz
  rename_i hok
  obtain ⟨v, rfl, h⟩ := hd.one
  exact ⟨v, _, rfl, h.dp, hok, q _ H (Gr.refl H) kr_str⟩
theorem sp_repr (hr : Rdy lv X) (hm : X.mg "repr" = none) (hg : Gl X "repr") (ha : SPA c X bs [e] mA) (he : starEach [e] X.env = (false, eval e X.env) :: starEach [] X.env := by rfl) : SP c X .f (.Call (.Name "repr" p2) [e] [] pos) (apS reprD mA) :=
  sp_callB (call_reprD hr.gd (by have := hr.room.un; omega)) cm_repr hg hm (by decide +kernel) ha (by decide) (by decide) he (by rfl)
/-! l.count(x), l a list -/
def cntD (xs ys : PyData) : Rs PyData := match xs with
  | .list ds => if ds.all okD && okD ys then .ok (.int (ds.countP fun z => PyData.eqv z ys)) else .error .stuck
  | _ => .error .stuck
def rCntD (K : Fg) : V → List V → Hp → VK → Prop := fun x xs H Q => ∃ (p : Ad) (y : V) (ds : List PyData) (d : PyData), x = .ref p ∧ xs = [y] ∧ Dp K H (.ref p) (.list ds) ∧ Dp K H y d ∧ ds.all okD = true ∧ okD d = true ∧ Q (.int (ds.countP fun z => PyData.eqv z d : Nat)) H
theorem plain_of_lay : ∀ {ds : List PyData}, ds.all okD = true → PyData.canLayAll0 ds = true := fun h => okAll_lay h
theorem mt_cntD (hu : X.A.units + 65 < cLine) : MtR X "list.count" (rCntD X.K) := by
  intro pins s σ H x xs v us Q I rx rxs h
  obtain ⟨p, y, ds, d, rfl, rfl, hl, hy, o1, o2, q⟩ := h
  cases rx
  obtain ⟨u, rfl, ru⟩ := rxs.one
  obtain ⟨as, r1⟩ := Dp.reads I d y u hy ru
  cases hl with
  | lst hs ha =>
    obtain ⟨its, rv, ⟨⟨cls, dd, data, sls⟩, n, ho, hc, hdn, hdt⟩, hlen⟩ := I.list hs
    simp only at hc hdt
    subst hc hdt
    obtain ⟨bs, h4⟩ := Dp.readsAll I ds _ its ha rv
    have hxs := okAll_lay o1
    have hmap : its.map (SeqAt.readOf s.heap) = ds := SeqAt.readsAll_map ds its bs hxs h4
    obtain ⟨l1, l2⟩ := okN_lay 20 d o2
    have hroom : X.A.units + 1 + min (PyData.depthAll ds) d.depth < cLine := by
      have := Nat.min_le_right (PyData.depthAll ds) d.depth
      omega
    refine call_meets PySem.F.slot_list_count ⟨_, ho, rfl⟩ PySem.F.entry_list_count (PySem.F.args_list_count_2 _ _)
      (SeqAt.list_countAt p its.toArray n dd sls u (fun z => PyData.eqv (SeqAt.readOf s.heap z) d)) ⟨ho, SeqAt.items_eqAt (vs := its.toArray) (show ReadsAll s.heap its.toArray.toList ds bs from h4) r1 hxs l1 hroom, ?_⟩
    have ec : its.toArray.toList.countP (fun z => PyData.eqv (SeqAt.readOf s.heap z) d) = ds.countP fun z => PyData.eqv z d := by
      rw [← hmap, List.countP_map]
      rfl
    rw [ec]
    exact ⟨.int _, H, I.tok _, ⟨s.toks, rfl⟩, q⟩
theorem sp_count (hr : Rdy lv X) {apos : Pos} (ho : SP c X k1 a ma) (ha : SP c X k2 e mb)
    (hbase : attributeBase a "count" X.env (eval a X.env) = eval a X.env := by rfl)
    (hfew : ((backTo pos (starEach [e] X.env)).all (fun x => !x.1) && (backToKw pos (keywordEach [] X.env)).all (fun x => x.1.isSome)
      && decide ([e].length + ([] : List Keyword).length + (if ([] : List Keyword).isEmpty then 0 else 1) < 30)) = true := by rfl)
    (hline : (apos.endLine == pos.line) = true := by rfl) (hs : starEach [e] X.env = (false, eval e X.env) :: starEach [] X.env := by rfl) (hplain : (backTo pos (starEach [] X.env)).any (·.1) = false := by rfl) :
    SP c X .f (.Call (.Attribute a "count" apos) [e] [] pos) (bin cntD ma mb) := by
  obtain ⟨ta, pa, qa⟩ := ho.ex
  obtain ⟨tb, pb, qb⟩ := ha.ex
  refine ⟨_, pe_bm PySem.F.plainAttrs_list PySem.F.slot_list_count PySem.F.type_list_count (mt_cntD (by have := hr.room.un; omega)) pa (pa_cons pb pa_nil hs) hbase hfew hline hs hplain, fun σ H ρ s z h Q q => ?_⟩
  obtain ⟨x, y, hx, hy, hz⟩ := bin_ok h
  unfold cntD at hz
  split at hz <;> try (cases hz)
  split at hz <;> cases hz
  rename_i ds ok
  rw [Bool.and_eq_true] at ok
  refine qa σ H ρ s _ hx _ fun v H1 g1 r1 => ?_
  obtain ⟨p, vs, rfl, hq, rr⟩ := r1.z.lst
  refine ⟨.inl ⟨rfl, vs, hq⟩, qb σ H1 ρ (s.grow g1) _ hy _ fun u H2 g2 r2 => ?_⟩
  exact ⟨p, u, ds, y, rfl, rfl, .lst (g2.sql hq) (rr.carry g2.carry0).dp, r2.z.dp, ok.1, ok.2, q _ H2 (g1.trans g2) kr_int⟩
/-! walks: combinations, enumerate, zip -/
def combD : List PyData → Rs (List PyData)
  | [.list xs, .int r] => if 0 ≤ r ∧ r ≤ 1000 then .ok ((DLC.combs r.toNat xs).map .tuple) else .error .stuck
  | [.tuple xs, .int r] => if 0 ≤ r ∧ r ≤ 1000 then .ok ((DLC.combs r.toNat xs).map .tuple) else .error .stuck
  | _ => .error .stuck
def itC (m : SmA) : SmA := fun ρ => match m ρ with
  | .ok ds => combD ds
  | .error e => .error e
theorem getD_rp {H : Hp} {M : Ad → Prop} {ds : List PyData} {vs : List V} (r : RpL K H M ds vs) (j : Nat) : Rp K H M (ds.getD j .none) (vs.getD j .non) := by
  rw [List.getD_eq_getElem?_getD, List.getD_eq_getElem?_getD]
  cases e : ds[j]? with
  | none =>
    have : vs[j]? = none := by rw [List.getElem?_eq_none_iff] at e ⊢; rw [← r.length]; exact e
    rw [this]
    exact .non
  | some d =>
    obtain ⟨v, h1, h2⟩ := r.get e
    rw [h1]
    exact h2
theorem map_getD {H : Hp} {M : Ad → Prop} {ds : List PyData} {vs : List V} (r : RpL K H M ds vs) : ∀ l : List Nat, RpL K H M (l.map fun j => ds.getD j .none) (l.map fun j => vs.getD j .non)
  | [] => .nil
  | j :: l => .cons (getD_rp r j) (map_getD r l)
theorem yld_comb {σ : SS} {H : Hp} {xs : List PyData} {vs : List V} {r : Nat} (rr : RpL X.K H (Msk c σ) xs vs) (w : ∀ a, Msk c σ a → ∃ xs, H a = some (.lst xs)) : Yld c X.K (DLC.Itcm vs r) ((DLC.combs r xs).map .tuple) σ H := fun i H2 M2 l _ => by
  have el := rr.length
  have ec := DLC.cmb_combs PyData.none xs.length r 0 xs (by omega)
  rw [List.drop_zero] at ec
  have hlen : (DLC.combs r xs).length = (DLC.cmb vs.length r 0).length := by rw [← ec, List.length_map, el]
  rw [List.length_map, hlen]
  refine ⟨fun hi => ⟨hi, fun x H3 hy => ?_⟩, fun hi => hi⟩
  obtain ⟨p, ll, rfl, hp, hll, rfl⟩ := hy
  have g3 : Gr c.T W0 H2 (upd H2 p (.tup (ll.map fun j => vs.getD j .non))) := Gr.new hp
  refine ⟨g3, fun d hd => ?_⟩
  rw [List.getElem?_map, ← ec, List.getElem?_map, el, hll] at hd
  cases hd
  exact .tup (SqT.of upd_same) (map_getD ((rr.carry (l.carry w)).carry g3.carry0) ll)
theorem si_comb (hg : Gl X "combinations") (hm : X.mg "combinations" = some (.type "itertools.combinations")) (ha : SPA c X bs [e, a] mA)
    (hs : starEach [e, a] X.env = (false, eval e X.env) :: starEach [a] X.env := by rfl) (hpl : (backTo pos (starEach [a] X.env)).any (·.1) = false := by rfl) :
    SI c X tg (.Call (.Name "combinations" p2) [e, a] [] pos) (itC mA) := by
  obtain ⟨t, p, q⟩ := ha.ex
  refine ⟨_, DLC.pi_comb hg hm p hs hpl, fun σ H ρ s ds h R w => ?_⟩
  unfold itC combD at h
  split at h <;> try (cases h)
  rename_i es hes
  split at h <;> try (cases h)
  all_goals
    split at h <;> cases h
    rename_i xs r hr
    refine q σ H ρ s _ hes _ fun vs H1 g1 r1 => ?_
    obtain ⟨v, u, rfl, h1, h2⟩ := r1.z.two
  · obtain ⟨p, ys, rfl, hq, rr⟩ := h1.lst
    exact ⟨p, r, ys, by rw [h2.int], .inl hq, hr.1, hr.2, w _ H1 g1 (yld_comb rr (s.grow g1).dom)⟩
  · obtain ⟨p, ys, rfl, hq, rr⟩ := h1.tup
    exact ⟨p, r, ys, by rw [h2.int], .inr hq, hr.1, hr.2, w _ H1 g1 (yld_comb rr (s.grow g1).dom)⟩
end
end DL

set_option Elab.async false
set_option linter.all false
set_option maxRecDepth 100000
set_option maxHeartbeats 1000000
/-! DLB: enumerate, zip; keyword calls. -/
namespace DL
open PySem PySem.Spec PyProof.Rows L2
section
variable {c : Cfg} {X : Cx} {k k1 k2 k3 : Kd} {fr : Bool} {e a b e1 e2 e3 tg : Expr} {m ma mb mc : Sm} {pos p2 p3 : Pos} {st : Stmt} {rest ss tt : List Stmt} {m1 m2 mr : Sb} {es : List Expr} {bs : List Bool} {mA : SmA} {mt : SmT} {n lv : Nat} {x : Str} {fz : List Nat} {ea eb : Se} {eA : SeA} {T : List (Ad × Str)} {K : Fg}
def enumFrom (i : Nat) : List PyData → List PyData
  | [] => []
  | d :: r => .tuple [.int i, d] :: enumFrom (i + 1) r
theorem enumFrom_len : ∀ (ds : List PyData) (i : Nat), (enumFrom i ds).length = ds.length
  | [], _ => rfl
  | _ :: r, i => by simp [enumFrom, enumFrom_len r (i + 1)]
theorem enumFrom_get : ∀ (ds : List PyData) (i j : Nat) (d : PyData), (enumFrom i ds)[j]? = some d → ∃ x, ds[j]? = some x ∧ d = .tuple [.int ((i + j : Nat) : Int), x]
  | [], _, _, _, h => by simp [enumFrom] at h
  | y :: r, i, 0, d, h => by
    simp [enumFrom] at h
    exact ⟨y, rfl, h.symm⟩
  | y :: r, i, j + 1, d, h => by
    simp only [enumFrom, List.getElem?_cons_succ] at h
    obtain ⟨x, h1, h2⟩ := enumFrom_get r (i + 1) j d h
    exact ⟨x, by simpa using h1, by rw [h2]; congr 3; omega⟩
def itEnL (m : SmA) : SmA := fun ρ => match m ρ with
  | .ok [.list xs] => .ok (enumFrom 0 xs)
  | .ok _ => .error .stuck
  | .error e => .error e
def itEnT (m : SmA) : SmA := fun ρ => match m ρ with
  | .ok [.tuple xs] => .ok (enumFrom 0 xs)
  | .ok _ => .error .stuck
  | .error e => .error e
theorem si_enumT {elts : List Expr} {kk : Nat} {tpos : Pos} (hm : X.mg "enumerate" = none) (hg : Gl X "enumerate") (ha : SPA c X bs [e] mA) (hs : starEach [e] X.env = [(false, eval e X.env)] := by rfl) :
    SI c X (.Tuple elts kk tpos) (.Call (.Name "enumerate" p2) [e] [] pos) (itEnT mA) := by
  obtain ⟨t, p, q⟩ := ha.ex
  refine ⟨_, DLE.pi_enumT hg hm p hs, fun σ H ρ s ds h R w => ?_⟩
  unfold itEnT at h
  split at h <;> cases h
  rename_i xs hm
  refine q σ H ρ s _ hm _ fun vs H1 g1 r1 => ?_
  obtain ⟨v, rfl, hz⟩ := r1.z.one
  obtain ⟨a, ys, rfl, hq, rr⟩ := hz.tup
  refine ⟨a, ys, rfl, hq, w _ H1 g1 fun i H2 M2 l _ => ?_⟩
  have cy := l.carry (K := X.K) (s.grow g1).dom
  have hq2 := cy.tup a ys hq
  have rr2 := rr.carry cy
  rw [enumFrom_len]
  refine ⟨fun hi => ?_, fun hi => ⟨ys, hq2, by rw [← rr.length]; exact hi⟩⟩
  obtain ⟨u, hu, _⟩ := rr2.get (List.getElem?_eq_getElem hi)
  refine ⟨⟨ys, u, hq2, hu⟩, fun x H3 hy => ?_⟩
  obtain ⟨T, y, rfl, hT, rfl, hx⟩ := hy
  have g3 : Gr c.T W0 H2 (upd H2 T (.tup [.int (i : Nat), y])) := Gr.new hT
  refine ⟨g3, fun d hd => ?_⟩
  obtain ⟨z, hz1, rfl⟩ := enumFrom_get xs 0 i d hd
  obtain ⟨u', hu', ru⟩ := rr2.get hz1
  have := hx ys hq2
  rw [hu'] at this
  cases this
  rw [Nat.zero_add]
  exact .tup (SqT.of upd_same) (.cons (.int _) (.cons (ru.carry g3.carry0) .nil))
theorem si_enumL {elts : List Expr} {kk : Nat} {tpos : Pos} (hm : X.mg "enumerate" = none) (hg : Gl X "enumerate") (ha : SPA c X [true] [e] mA) (hs : starEach [e] X.env = [(false, eval e X.env)] := by rfl) :
    SI c X (.Tuple elts kk tpos) (.Call (.Name "enumerate" p2) [e] [] pos) (itEnL mA) := by
  obtain ⟨t, p, q⟩ := ha.ex
  refine ⟨_, pi_enum hg hm p hs, fun σ H ρ s ds h R w => ?_⟩
  unfold itEnL at h
  split at h <;> cases h
  rename_i xs hm
  refine q σ H ρ s _ hm _ fun vs H1 g1 r1 => ?_
  have r1 := r1.st rfl
  cases r1 with
  | cons ra rn =>
    cases rn
    cases ra with
    | @lst a ys _ hq nm rr =>
      refine ⟨a, ys, rfl, SqL.of hq, w _ H1 g1 fun i H2 M2 l _ => ?_⟩
      have cy := l.carry (K := X.K) (s.grow g1).dom
      obtain ⟨hq2, nm2⟩ := cy.lst a ys hq nm
      have rr2 := rr.carry cy
      rw [enumFrom_len]
      refine ⟨fun hi => ?_, fun hi => ⟨ys, SqL.of hq2, by rw [← rr.length]; exact hi⟩⟩
      obtain ⟨u, hu, _⟩ := rr2.get (List.getElem?_eq_getElem hi)
      refine ⟨⟨ys, u, SqL.of hq2, hu⟩, fun x H3 hy => ?_⟩
      obtain ⟨T, y, rfl, hT, rfl, hx⟩ := hy
      have g3 : Gr c.T W0 H2 (upd H2 T (.tup [.int (i : Nat), y])) := Gr.new hT
      refine ⟨g3, fun d hd => ?_⟩
      obtain ⟨z, hz1, rfl⟩ := enumFrom_get xs 0 i d hd
      obtain ⟨u', hu', ru⟩ := rr2.get hz1
      have := hx ys (SqL.of hq2)
      rw [hu'] at this
      cases this
      rw [Nat.zero_add]
      exact .tup (SqT.of upd_same) (.cons (.int _) (.cons (ru.carry g3.carry0) .nil))
/-! zip of two lists, of two tuples -/
def zipT : List PyData → List PyData → List PyData
  | a :: as, b :: bs => .tuple [a, b] :: zipT as bs
  | _, _ => []
theorem zipT_len : ∀ (as bs : List PyData), (zipT as bs).length = min as.length bs.length
  | [], _ => by simp [zipT]
  | _ :: _, [] => by simp [zipT]
  | _ :: as, _ :: bs => by simp [zipT, zipT_len as bs]
theorem zipT_get : ∀ (as bs : List PyData) (j : Nat) (d : PyData), (zipT as bs)[j]? = some d → ∃ x y, as[j]? = some x ∧ bs[j]? = some y ∧ d = .tuple [x, y]
  | [], _, _, _, h => by simp [zipT] at h
  | _ :: _, [], _, _, h => by simp [zipT] at h
  | a :: as, b :: bs, 0, d, h => by
    simp [zipT] at h
    exact ⟨a, b, rfl, rfl, h.symm⟩
  | a :: as, b :: bs, j + 1, d, h => by
    simp only [zipT, List.getElem?_cons_succ] at h
    obtain ⟨x, y, h1, h2, h3⟩ := zipT_get as bs j d h
    exact ⟨x, y, by simpa using h1, by simpa using h2, h3⟩
def itZip (m : SmA) : SmA := fun ρ => match m ρ with
  | .ok [.list xs, .list ys] => .ok (zipT xs ys)
  | .ok [.tuple xs, .tuple ys] => .ok (zipT xs ys)
  | .ok _ => .error .stuck
  | .error e => .error e
theorem si_zip {elts : List Expr} {kk : Nat} {tpos : Pos} (hm : X.mg "zip" = none) (hg : Gl X "zip") (ha : SPA c X [true, true] [e, a] mA)
    (hs : starEach [e, a] X.env = (false, eval e X.env) :: starEach [a] X.env := by rfl) (hpl : (backTo pos (starEach [a] X.env)).any (·.1) = false := by rfl) :
    SI c X (.Tuple elts kk tpos) (.Call (.Name "zip" p2) [e, a] [] pos) (itZip mA) := by
  obtain ⟨t, p, q⟩ := ha.ex
  refine ⟨_, RZ.pi_zipA hg hm p hs hpl, fun σ H ρ s ds h R w => ?_⟩
  unfold itZip at h
  split at h <;> cases h
  · rename_i xs ys hm
    refine q σ H ρ s _ hm _ fun vs H1 g1 r1 => ?_
    have r1 := r1.st rfl
    cases r1 with
    | cons ra rn =>
      cases rn with
      | cons rb rn =>
        cases rn
        cases ra with
        | @lst a1 us _ hq nm rr =>
          cases rb with
          | @lst a2 ws _ hq' nm' rr' =>
            refine ⟨a1, a2, us, ws, rfl, .inl ⟨SqL.of hq, SqL.of hq', w _ H1 g1 fun i H2 M2 l _ => ?_⟩⟩
            have cy := l.carry (K := X.K) (s.grow g1).dom
            obtain ⟨q1, _⟩ := cy.lst _ us hq nm
            obtain ⟨q2, _⟩ := cy.lst _ ws hq' nm'
            have s1 := rr.carry cy
            have s2 := rr'.carry cy
            rw [zipT_len]
            refine ⟨fun hi => ?_, fun hi => ⟨us, ws, SqL.of q1, SqL.of q2, by rw [← rr.length, ← rr'.length]; omega⟩⟩
            obtain ⟨u1, hu1, _⟩ := s1.get (List.getElem?_eq_getElem (i := i) (by omega))
            obtain ⟨u2, hu2, _⟩ := s2.get (List.getElem?_eq_getElem (i := i) (by omega))
            refine ⟨⟨us, ws, u1, u2, SqL.of q1, SqL.of q2, hu1, hu2⟩, fun x H3 hy => ?_⟩
            obtain ⟨T, y1, y2, rfl, hT, rfl, hx1, hx2⟩ := hy
            have g3 : Gr c.T W0 H2 (upd H2 T (.tup [y1, y2])) := Gr.new hT
            refine ⟨g3, fun d hd => ?_⟩
            obtain ⟨z1, z2, e1, e2, rfl⟩ := zipT_get xs ys i d hd
            obtain ⟨v1, f1, r1⟩ := s1.get e1
            obtain ⟨v2, f2, r2⟩ := s2.get e2
            have t1 := hx1 us (SqL.of q1)
            have t2 := hx2 ws (SqL.of q2)
            rw [f1] at t1
            rw [f2] at t2
            cases t1
            cases t2
            exact .tup (SqT.of upd_same) (.cons (r1.carry g3.carry0) (.cons (r2.carry g3.carry0) .nil))
  · rename_i xs ys hm
    refine q σ H ρ s _ hm _ fun vs H1 g1 r1 => ?_
    have r1 := r1.st rfl
    cases r1 with
    | cons ra rn =>
      cases rn with
      | cons rb rn =>
        cases rn
        cases ra with
        | @tup a1 us _ hq rr =>
          cases rb with
          | @tup a2 ws _ hq' rr' =>
            refine ⟨a1, a2, us, ws, rfl, .inr ⟨hq, hq', w _ H1 g1 fun i H2 M2 l _ => ?_⟩⟩
            have cy := l.carry (K := X.K) (s.grow g1).dom
            have q1 := cy.tup _ us hq
            have q2 := cy.tup _ ws hq'
            have s1 := rr.carry cy
            have s2 := rr'.carry cy
            rw [zipT_len]
            refine ⟨fun hi => ?_, fun hi => ⟨us, ws, q1, q2, by rw [← rr.length, ← rr'.length]; omega⟩⟩
            obtain ⟨u1, hu1, _⟩ := s1.get (List.getElem?_eq_getElem (i := i) (by omega))
            obtain ⟨u2, hu2, _⟩ := s2.get (List.getElem?_eq_getElem (i := i) (by omega))
            refine ⟨⟨us, ws, u1, u2, q1, q2, hu1, hu2⟩, fun x H3 hy => ?_⟩
            obtain ⟨T, y1, y2, rfl, hT, rfl, hx1, hx2⟩ := hy
            have g3 : Gr c.T W0 H2 (upd H2 T (.tup [y1, y2])) := Gr.new hT
            refine ⟨g3, fun d hd => ?_⟩
            obtain ⟨z1, z2, e1, e2, rfl⟩ := zipT_get xs ys i d hd
            obtain ⟨v1, f1, r1⟩ := s1.get e1
            obtain ⟨v2, f2, r2⟩ := s2.get e2
            have t1 := hx1 us q1
            have t2 := hx2 ws q2
            rw [f1] at t1
            rw [f2] at t2
            cases t1
            cases t2
            exact .tup (SqT.of upd_same) (.cons (r1.carry g3.carry0) (.cons (r2.carry g3.carry0) .nil))

/-! ### keyword calls: the positional ones first, then the keywords in the parameters' order -/
/-- how such a call binds -/
def KB (K : Fg) (fd : FuncData) (ps ks : List Str) : Prop := ∀ (s : Shared) (us ws : List Value), K.In s.heap → ws.length = ks.length → us.length + ks.length = ps.length → BindsTo s fd ⟨us, ks.zip ws⟩ (ps.zip (us ++ ws))
structure CalK (P : Program) (w : World) (K : Fg) (mg : Str → Option Value) (base : Heap) (T : List (Ad × Str)) (lv : Nat) (x : Str) (fz : List Nat) (fr : Bool) (n : Nat) (ff : List PyData → Rs PyData) (ks : List Str) : Prop where
  ex : ∃ (f : Ad) (fd : FuncData) (ps : List Str), FnG P w K mg base lv f fd ps (spP K T fz fr n ff) ∧ mg x = some (.ref f) ∧ PySem.W.keepIn K (.ref f) = true ∧ KB K fd ps ks ∧ ps.length = n
theorem CalK.mono {P : Program} {w : World} {mg : Str → Option Value} {base : Heap} {j : Nat} {ff : List PyData → Rs PyData} {ks : List Str} (C : CalK P w K mg base T j x fz fr n ff ks) (h : j ≤ k4 := by decide) : CalK P w K mg base T k4 x fz fr n ff ks := by
  obtain ⟨f, fd, ps, F, r⟩ := C.ex
  exact ⟨f, fd, ps, F.mono h, r⟩
/-- the keywords' values -/
structure SPK (c : Cfg) (X : Cx) (bs : List Bool) (kws : List Keyword) (m : SmA) : Prop where
  ex : ∃ t : TA, PK X kws t ∧ ∀ (σ : SS) (H : Hp) (ρ : Rho), SR c X.K σ H ρ → ∀ ds, m ρ = .ok ds → ∀ Q : List V → Hp → Prop, (∀ vs H', Gr c.T W0 H H' → KsL X.K H' (Msk c σ) bs ds vs → Q vs H') → t σ H Q
variable {kws : List Keyword}
theorem spk_nil : SPK c X [] [] anil := ⟨_, pk_nil, fun σ H ρ s ds h Q q => by cases h; exact q [] H (Gr.refl H) .nil⟩
theorem spk_cons {nm : Option Str} (ha : SP c X k1 a ma) (hr : SPK c X bs kws mA) : SPK c X (k1.st :: bs) (⟨nm, a, p2⟩ :: kws) (acons ma mA) := by
  obtain ⟨ta, pa, qa⟩ := ha.ex
  obtain ⟨tr, pr, qr⟩ := hr.ex
  refine ⟨_, pk_cons pa pr, fun σ H ρ s ds h Q q => ?_⟩
  obtain ⟨d, r, rfl, h1, h2⟩ := acons_ok h
  refine qa σ H ρ s d h1 _ fun v H1 g1 r1 => ?_
  exact qr σ H1 ρ (s.grow g1) r h2 _ fun vs H2 g2 r2 => q _ H2 (g1.trans g2) (.cons (r1.k1.carry g2) r2)
def acat (m n : SmA) : SmA := fun ρ => match m ρ with
  | .ok xs => (match n ρ with
    | .ok ys => .ok (xs ++ ys)
    | .error e => .error e)
  | .error e => .error e
theorem KsL.append {H : Hp} {M : Ad → Prop} : ∀ {bs1 bs2 : List Bool} {d1 d2 : List PyData} {v1 v2 : List V}, KsL K H M bs1 d1 v1 → KsL K H M bs2 d2 v2 → KsL K H M (bs1 ++ bs2) (d1 ++ d2) (v1 ++ v2)
  | _, _, _, _, _, _, .nil, s => s
  | _, _, _, _, _, _, .cons h r, s => .cons h (KsL.append r s)
theorem KsL.lens {H : Hp} {M : Ad → Prop} {ds : List PyData} {vs : List V} (h : KsL K H M bs ds vs) : ds.length = vs.length ∧ bs.length = vs.length := by
  induction h with
  | nil => exact ⟨rfl, rfl⟩
  | cons _ _ ih => simp [ih.1, ih.2]
theorem run_kG {pins : List (Ad × Obj)} {σ : SS} {H : Hp} {s : Shared} {Q : VK} {us ws : List Value} {vs zs : List V} {sp : Sp} {f : Ad} {fd : FuncData} {ps ks : List Str} (F : FnG X.prog X.w X.K X.mg X.base lv f fd ps sp) (hr : Rdy lv X) (hb : KB X.K fd ps ks)
    (I : Inv X pins σ H s) (r : Vals vs us) (rz : Vals zs ws) (hz : ws.length = ks.length) (h : sp (vs ++ zs) H Q E0) : wpAny (model X.prog X.w) X.A (call (.ref f) us (ks.zip ws)) (EP X pins σ Q) X.xe s := by
  have r2 : Vals (vs ++ zs) (us ++ ws) := r.append rz
  have hl := F.len _ _ _ _ h
  have hn : us.length + ks.length = ps.length := by
    rw [← hz, ← List.length_append, ← r2.length]
    exact hl
  refine wpAny_call (codeAny_mono (F.run X.A X.stack s H ⟨us, ks.zip ws⟩ (us ++ ws) (vs ++ zs) Q E0 hr.gd hr.room I.env0 (hb s us ws I.kIn hz hn) r2 h) fun res s2 hq => ?_)
  cases res with
  | error ev => exact pass0 pins σ H s ev s2 I hq
  | ok fl =>
    cases fl with
    | ret u => exact I.after hq
    | next => exact hq.elim
    | brk => exact hq.elim
    | cont => exact hq.elim
/-- f(k = e, ..) -/
theorem sp_callK0 {ff : List PyData → Rs PyData} {ks : List Str} (C : CalK X.prog X.w X.K X.mg X.base c.T lv x fz fr n ff ks) (hr : Rdy lv X) (hg : Gl X x) (ha : SPK c X bs kws mA) (hkn : bs.length = ks.length := by rfl)
    (hbs : (List.range bs.length).all (fun i => bs.getD i true || fz.contains i) = true := by rfl) (hdb : (x == ("__debug__" : Str)) = false := by decide)
    (hall : (backToKw pos (keywordEach kws X.env)).all (·.1.isSome) = true := by rfl) (hks : (backToKw pos (keywordEach kws X.env)).filterMap (·.1) = ks := by rfl)
    (hpl : ((backTo pos (starEach [] X.env)).any (·.1) || (backToKw pos (keywordEach kws X.env)).any (·.1.isNone)) = false := by rfl) : SP c X (if fr then .f else .s) (.Call (.Name x p2) [] kws pos) (calS fz n ff mA) := by
  obtain ⟨ta, pa, qa⟩ := ha.ex
  obtain ⟨f, fd, ps, F, hm, hk, hb, hpn⟩ := C.ex
  refine ⟨fun σ H Q => ta σ H fun vs H1 => vs.length = ks.length ∧ spP X.K c.T fz fr n ff vs H1 Q E0, ⟨fun pins s σ H Q I h => ?_⟩, fun σ H ρ s z h Q q => ?_⟩
  · refine wpAny_Call_Name_kw (ld_glob I hg hm ?_ hdb)
    refine PySem.W.callWith_KW0 (h₀ := X.base) I.ok.mod.kin hk hall (thn (pa.run pos pins s σ H _ I h) fun ws s2 ⟨zs, H2, I2, rz, hl, q2⟩ => ⟨I2.kIn, ?_⟩) hpl
    rw [hks]
    exact run_kG (us := []) (vs := []) F hr hb I2 .nil rz (by rw [← rz.length]; exact hl) q2
  · obtain ⟨ds, hd, hn, hl, hz⟩ := calS_ok h
    refine qa σ H ρ s ds hd _ fun vs H1 g1 r1 => ?_
    refine ⟨by rw [← r1.lens.2]; exact hkn, Msk c σ, ds, z, hn, (s.grow g1).tabs, (s.grow g1).dom, r1.arg (kinds_ok hbs) (lstAt_ok hl), hz, fun v H2 g2 r2 f2 => q v H2 (g1.trans g2) ?_⟩
    cases fr with
    | true =>
      obtain ⟨f3, f4⟩ := f2 rfl
      exact ⟨r2, fun p e => g1.none p (f3 p e), f4⟩
    | false => exact r2
/-- f(e, .., k = e, ..) -/
theorem sp_callK {ff : List PyData → Rs PyData} {ks : List Str} {bs2 : List Bool} {nA : SmA} (C : CalK X.prog X.w X.K X.mg X.base c.T lv x fz fr n ff ks) (hr : Rdy lv X) (hg : Gl X x) (ha : SPA c X bs (e :: es) mA) (hkw : SPK c X bs2 kws nA) (hkn : bs2.length = ks.length := by rfl)
    (hbs : (List.range (bs ++ bs2).length).all (fun i => (bs ++ bs2).getD i true || fz.contains i) = true := by rfl) (hdb : (x == ("__debug__" : Str)) = false := by decide)
    (hall : (backToKw pos (keywordEach kws X.env)).all (·.1.isSome) = true := by rfl) (hks : (backToKw pos (keywordEach kws X.env)).filterMap (·.1) = ks := by rfl)
    (he : starEach (e :: es) X.env = (false, eval e X.env) :: starEach es X.env := by rfl)
    (hpl : ((backTo pos (starEach (e :: es) X.env)).any (·.1) || (backToKw pos (keywordEach kws X.env)).any (·.1.isNone)) = false := by rfl) : SP c X (if fr then .f else .s) (.Call (.Name x p2) (e :: es) kws pos) (calS fz n ff (acat mA nA)) := by
  obtain ⟨ta, pa, qa⟩ := ha.ex
  obtain ⟨tk, pk, qk⟩ := hkw.ex
  obtain ⟨f, fd, ps, F, hm, hk, hb, hpn⟩ := C.ex
  refine ⟨fun σ H Q => ta σ H fun vs H1 => tk σ H1 fun zs H2 => zs.length = ks.length ∧ spP X.K c.T fz fr n ff (vs ++ zs) H2 Q E0, ⟨fun pins s σ H Q I h => ?_⟩, fun σ H ρ s z h Q q => ?_⟩
  · refine wpAny_Call_Name_kw (ld_glob I hg hm ?_ hdb)
    refine PySem.W.callWith_KW (h₀ := X.base) I.ok.mod.kin hk hall (thn (pa.run pos pins s σ H _ I h) fun us s1 ⟨vs, H1, I1, r1, q1⟩ => ?_) hpl he
    refine thn (pk.run pos pins s1 σ H1 _ I1 q1) fun ws s2 ⟨zs, H2, I2, rz, hl, q2⟩ => ⟨I2.kIn, ?_⟩
    rw [hks]
    exact run_kG F hr hb I2 r1 rz (by rw [← rz.length]; exact hl) q2
  · obtain ⟨ds, hd, hn, hl, hz⟩ := calS_ok h
    unfold acat at hd
    split at hd <;> try (cases hd)
    rename_i xs hx
    split at hd <;> cases hd
    rename_i ys hy
    refine qa σ H ρ s _ hx _ fun vs H1 g1 r1 => ?_
    refine qk σ H1 ρ (s.grow g1) _ hy _ fun zs H2 g2 r2 => ?_
    have s2 := (s.grow g1).grow g2
    have rr := (KsL.carry g2 r1).append r2
    refine ⟨by rw [← r2.lens.2]; exact hkn, Msk c σ, _, z, hn, s2.tabs, s2.dom, rr.arg (kinds_ok hbs) (lstAt_ok hl), hz, fun v H3 g3 r3 f2 => q v H3 ((g1.trans g2).trans g3) ?_⟩
    cases fr with
    | true =>
      obtain ⟨f3, f4⟩ := f2 rfl
      exact ⟨r3, fun p e => g1.none p (g2.none p (f3 p e)), f4⟩
    | false => exact r3
end
end DL

set_option Elab.async false
set_option linter.all false
set_option maxRecDepth 100000
set_option maxHeartbeats 2000000
/-! DLL: lambdas of two parameters, no captured names, handed to a def that goes through a tuple (first_wrong). -/
namespace DL
open PySem PySem.Spec PyProof.Rows L2

/-- a function object as it stands -/
def LamO (f : Ad) (o : Obj) : HO := .ext fun h => h.get? f = some o
theorem lamO_ne {f : Ad} {o : Obj} (ps : Array Value) : LamO f o ≠ .tbl ps := fun z => by
  unfold LamO at z
  cases z
section
variable {X : Cx} {pins : List (Ad × Obj)} {σ : SS} {H : Hp} {s : Shared} {T : List (Ad × Str)}
/-- the lambda's function object comes to be tracked -/
theorem track_fn {f : Ad} {o : Obj} {H0 : Hp} {s0 : Shared} (I0 : Inv X pins σ H0 s0) (I : Inv X pins σ H s) (hf : s0.heap.objs.size ≤ f) (ho : s.heap.get? f = some o) (hn : H f = none) : Inv X pins σ (upd H f (LamO f o)) s :=
  I.take (h' := s.heap) (t' := s.toks) (fun _ _ _ e => e) (I0.fpOk hf hn) ⟨ho, ⟨o, ho⟩, fun h1 h2 q k => k _ q⟩
theorem lam_make3 {c P : Ad} {params : Arguments} {body : Expr} {scope : Scope} {pos : Pos} {E : Value → Shared → Prop} {Q : Value → Shared → Prop} (I : Inv X pins σ H s) (TB : LamX.TabB X.base X.mg c P) (hcode : X.env.code = .ref c)
    (hm : (P, X.env.qual ++ "<lambda>") ∈ T) (hu : ∀ p ∈ T, p.1 = P → p.2 = X.env.qual ++ "<lambda>") (hT : LamX.Tabs T H) (hdef : defaultsOf params X.env = ([], [])) (hfree : ∀ y ∈ scope.names, y.2 ≠ .free)
    (h : ∀ (f c' : Ad) (pm ctv : Value) (H1 : Hp) (s' : Shared), Inv X pins σ H1 s' → Gr T W0 H H1 → H1 f = some (LamO f (PySem.W.kla_obj "<lambda>" (X.env.qual ++ "<lambda>") params body scope (cloFrom X.env.cells scope.names []) pm c' ctv)) → H1 c' = some (LamX.CodeO c' (X.env.qual ++ "<lambda>")) → Q (.ref f) s') :
    wpAny (model X.prog X.w) X.A (eval (.Lambda params body scope pos) X.env) Q E s := by
  obtain ⟨ps, hP, ht, ha⟩ := hT _ hm
  refine PySem.W.kla_eval hdef ?_
  have bP := TB.bm.keeps I.bk
  have hP' : s.heap.get? P = some { cls := .none, data := .fields ps } := I.hok P _ hP
  have clos := closure_ok (env := X.env) (scope := scope) fun y hy e => absurd e (hfree y hy)
  cases hc : codeAmong pos ps.toList with
  | some cv =>
    obtain ⟨c', rfl, hco⟩ := ha pos cv hc
    refine PySem.W.kla_makeFunctionHit (mg := X.mg) (c := c) (P := P) (ps := ps) clos I.ok.glob (I.mod.glob.keeps I.bk) hcode (TB.code.keeps I.bk) hP' ht hc bP fun ctv h' tk hx hsz => ?_
    generalize hob : PySem.W.kla_obj "<lambda>" (X.env.qual ++ "<lambda>") params body scope (cloFrom X.env.cells scope.names []) ((X.mg "__name__").getD .none) c' ctv = ob at *
    have I1 : Inv X pins σ H { s with heap := h'.push ob, toks := tk } := I.kept fun b o e => Heap.get?_push_of_some _ (hx b o e)
    have nf : H h'.objs.size = none := I.hok.fresh hsz
    have hfr : ob.isFreed = false := by rw [← hob]; rfl
    have I2 := track_fn I I1 hsz (Heap.get?_push_size _ hfr) nf
    subst hob
    refine h h'.objs.size c' ((X.mg "__name__").getD .none) ctv _ _ I2 (Gr.new nf) upd_same ?_
    rw [upd_ne (fun z => by rw [z, nf] at hco; cases hco)]
    exact hco
  | none =>
    refine PySem.W.kla_makeFunction (mg := X.mg) (c := c) (P := P) (ps := ps) clos I.ok.glob (I.mod.glob.keeps I.bk) hcode (TB.code.keeps I.bk) hP' ht hc TB.gP bP fun c' ctv h' tk hx hge hlt hrec htb => ?_
    generalize hob : PySem.W.kla_obj "<lambda>" (X.env.qual ++ "<lambda>") params body scope (cloFrom X.env.cells scope.names []) ((X.mg "__name__").getD .none) c' ctv = ob at *
    have hfr : ob.isFreed = false := by rw [← hob]; rfl
    obtain ⟨c2, oc, vs, t, e2, hoc, hd, hv⟩ := hrec
    cases e2
    have hsz : s.heap.objs.size ≤ h'.objs.size := Nat.le_trans hge (Nat.le_of_lt hlt)
    have nC : H c' = none := I.hok.fresh hge
    have I1 := LamX.inv_table (t' := tk) (more := #[rawInt pos.line, rawInt pos.col, .ref c']) (h' := h'.push ob) I hP (fun b o hb e => Heap.get?_push_of_some _ (hx b o hb e)) (Heap.get?_push_of_some _ htb) hge ⟨oc, vs, t, Heap.get?_push_of_some _ hoc, hd, hv⟩
    generalize hH1 : upd (upd H P (.tbl (ps ++ #[rawInt pos.line, rawInt pos.col, .ref c']))) c' (LamX.CodeO c' (X.env.qual ++ "<lambda>")) = H1 at I1
    have keepN : ∀ b o, H b = some o → (∀ qs, o ≠ .tbl qs) → H1 b = some o := fun b o e n => by
      rw [← hH1, upd_ne (ne_of_none e nC), upd_ne (fun z => n ps (Option.some.inj (e.symm.trans (by rw [z]; exact hP))))]
      exact e
    have noneB : ∀ b, H1 b = none → H b = none := fun b e => by
      rw [← hH1] at e
      by_cases h1 : b = c'
      · rw [h1]; exact nC
      · rw [upd_ne h1] at e
        by_cases h2 : b = P
        · rw [h2, upd_same] at e; cases e
        · rw [upd_ne h2] at e; exact e
    have nf : H1 h'.objs.size = none := by
      rw [← hH1, upd_ne (Nat.ne_of_gt hlt), upd_ne (Nat.ne_of_gt (Nat.lt_of_lt_of_le (Heap.lt_size hP') hsz))]
      exact I.hok.fresh hsz
    have tabs : LamX.Tabs T H → LamX.Tabs T H1 := fun tt p hp => by
      by_cases hb : p.1 = P
      · rw [hu p hp hb, hb]
        refine ⟨_, by rw [← hH1, upd_ne (ne_of_none hP nC), upd_same], by simpa using PySem.TriplesOk_snoc _ _ _ _ ht, fun p' cv hcv => ?_⟩
        rw [show (ps ++ #[rawInt pos.line, rawInt pos.col, .ref c']).toList = ps.toList ++ [rawInt pos.line, rawInt pos.col, .ref c'] by simp] at hcv
        rcases LamX.among_app _ ht hcv with z | z
        · obtain ⟨c0, e1, e2⟩ := ha p' cv z
          exact ⟨c0, e1, keepN _ _ e2 LamX.codeO_ne⟩
        · exact ⟨c', z, by rw [← hH1]; exact upd_same⟩
      · obtain ⟨ps', a1, a2, a3⟩ := tt p hp
        refine ⟨ps', by rw [← hH1, upd_ne (ne_of_none a1 nC), upd_ne hb]; exact a1, a2, fun p' cv hcv => ?_⟩
        obtain ⟨c0, e1, e2⟩ := a3 p' cv hcv
        exact ⟨c0, e1, keepN _ _ e2 LamX.codeO_ne⟩
    have g1 : Gr T W0 H H1 := ⟨fun b o _ e n => keepN b o e n, noneB, tabs⟩
    have I2 := track_fn I I1 hsz (Heap.get?_push_size _ hfr) nf
    subst hob
    refine h h'.objs.size c' ((X.mg "__name__").getD .none) ctv _ _ I2 (g1.trans (Gr.new nf)) upd_same ?_
    rw [upd_ne (Nat.ne_of_lt hlt), ← hH1]
    exact upd_same
end
/-! ### its promise -/
section
variable {P : Program} {w : World} {K : Fg} {mg : Str → Option Value} {base : Heap} {k : Nat} {T : List (Ad × Str)}
/-- the function object and its code object stand as known -/
def LamH (f c' : Ad) (o : Obj) (q : Str) (H : Hp) : Prop := H f = some (LamO f o) ∧ H c' = some (LamX.CodeO c' q)
theorem LamH.grow {f c' : Ad} {o : Obj} {q : Str} {H H' : Hp} (h : LamH f c' o q H) (g : Gr T W0 H H') : LamH f c' o q H' := ⟨g.keep _ _ (fun z => z) h.1 lamO_ne, g.keep _ _ (fun z => z) h.2 LamX.codeO_ne⟩
theorem fnL_of {f c' : Ad} {qual : Str} {params : Arguments} {body : Expr} {scope : Scope} {pm ctv : Value} {N ps : List Str} {sp : Sp} (S : FnScope N ps scope) (len : ∀ vs H Q E, sp vs H Q E → vs.length = ps.length)
    (hb : ∀ (A : Around) (outer : List Env) (s : Shared) (H : Hp) (vs : List V) (Q : VK) (E : XK), A.guards = some [] → Room k (A.deeper (envOfC qual scope s.heap.objs.size f (.ref c'))) → sp vs H Q E →
      ∃ t : TE, PE (cxOf CX0 P w K mg base N qual scope f (.ref c') A outer s H E).nox body t ∧ t (L2.start N vs) H Q) :
    FnG P w K mg base (k + 1) f (PySem.W.kla_fn "<lambda>" qual params body scope [] pm (.ref c') ctv) ps (fun vs H Q E => LamH f c' (PySem.W.kla_obj "<lambda>" qual params body scope [] pm c' ctv) qual H ∧ sp vs H Q E) := by
  refine ⟨fun vs H Q E h => len vs H Q E h.2, fun A outer s0 H0 args us vs Q E hg hr e0 bnd r ⟨hl, hsp⟩ => ?_⟩
  have hl0 := len _ _ _ _ hsp
  obtain ⟨ho, _, _⟩ := e0.hok f _ hl.1
  obtain ⟨⟨oc, cvs, ct, hoc, hdc, hvc⟩, _, _⟩ := e0.hok c' _ hl.2
  have nolim : s0.heap.NoLimit := e0.mod.nolimit.keeps fun b o e => (e0.bs b o e).1
  refine PySem.W.kla_callFunE hr.depth ho rfl S.co S.gen rfl ⟨c', oc, cvs, ct, rfl, hoc, hdc, hvc⟩ (bnd _ _ _ _ ?_)
  refine wpAny_newFunctionEnv_cells S.kind (fun y hy => ?_) fun env0 henv s1 x0 => ?_
  · obtain ⟨n0, v0⟩ := y
    exact (S.par n0 (List.of_mem_zip hy).1).imp id fun q => ⟨q, PySem.W.cellsFrom_some _ _ _ (.inl q)⟩
  · subst henv
    refine ⟨nolim.keeps x0.toInCall.keep, ?_⟩
    obtain ⟨t0, ht0, hq0⟩ := hb A outer s0 H0 vs Q E hg (hr.deeper _) hsp
    have J := inv_start (CX := CX0) (E := E) S hr.hd e0 hl0 r x0
    refine PySem.W.kla_codeExpr (wpAny_mono ((ht0.nox.run [] s1 (L2.start N vs) H0 _ J hq0)) (fun u s2 hs => ?_) fun _ _ hs => hs)
    obtain ⟨v, H2, J2, rv, q⟩ := hs
    exact ⟨v, H2, J2.os, J2.bare, J2.base, J2.hok, rv, q⟩
end

/-! ### going through a tuple by a lambda -/
structure LamP (P : Program) (w : World) (K : Fg) (mg : Str → Option Value) (base : Heap) (T : List (Ad × Str)) (lv : Nat) (f c' : Ad) (o : Obj) (q : Str) (lam : List PyData → Rs PyData) : Prop where
  ex : ∃ (oc : Value) (od : Option Ad) (fd : FuncData) (sl : Array (Option Value)) (ps : List Str), o = ⟨oc, od, .func fd, sl⟩ ∧ FnG P w K mg base lv f fd ps (fun vs H Q E => LamH f c' o q H ∧ spP K T [] false 2 lam vs H Q E) ∧ ps.length = 2 ∧
    ∀ (s : Shared) (us : List Value), us.length = 2 → BindsTo s fd ⟨us, []⟩ (ps.zip us)
def fwL (lam : List PyData → Rs PyData) (xs : List PyData) : Nat → List PyData → Rs PyData
  | _, [] => .ok .none
  | i, d :: r => match lam [d, .tuple (cutD xs none (some (i : Int)))] with
    | .ok (.bool true) => fwL lam xs (i + 1) r
    | .ok (.bool false) => .ok (.int i)
    | .ok _ => .error .stuck
    | .error e => .error e
def spFW (P : Program) (w : World) (mg : Str → Option Value) (base : Heap) (K : Fg) (T : List (Ad × Str)) (lv : Nat) : Sp := fun vs H Q _ =>
  ∃ (M : Ad → Prop) (xs : List PyData) (v : V) (f c' : Ad) (o : Obj) (q : Str) (lam : List PyData → Rs PyData) (d : PyData), vs = [v, .ref f] ∧ LamP P w K mg base T lv f c' o q lam ∧ LamH f c' o q H ∧ LamX.Tabs T H ∧ (∀ a, M a → ∃ xs, H a = some (.lst xs)) ∧
    Rp K H M (.tuple xs) v ∧ fwL lam xs 0 xs = .ok d ∧ ∀ v' H', Gr T W0 H H' → Rp K H' M d v' → Q v' H'
section
variable {X : Cx} {lv i : Nat} {e : Expr} {es : List Expr} {ta : TA} {a : Str} {p1 pos : Pos} {T : List (Ad × Str)}
theorem pe_callN {f c' : Ad} {o : Obj} {q : Str} {lam : List PyData → Rs PyData} (L : LamP X.prog X.w X.K X.mg X.base T lv f c' o q lam) (hr : Rdy lv X) (ha : PA X (e :: es) ta) (hN : X.N[i]? = some a := by rfl) (hv : Vis X.env.scope a := by first | exact Or.inl rfl | exact Or.inr (Or.inl rfl) | exact Or.inr (Or.inr rfl))
    (hd : (a == ("__debug__" : Str)) = false := by decide) (hcd : (a == ("__classdict__" : Str)) = false := by decide)
    (he : starEach (e :: es) X.env = (false, eval e X.env) :: starEach es X.env := by rfl) (hpl : (backTo pos (starEach es X.env)).any (·.1) = false := by rfl) :
    PE X (.Call (.Name a p1) (e :: es) [] pos) (fun σ H Q => σ[i]? = some (some (.ref f)) ∧ LamH f c' o q H ∧ ta σ H fun vs H1 => vs.length = 2 ∧ LamH f c' o q H1 ∧ spP X.K T [] false 2 lam vs H1 Q E0) := by
  obtain ⟨oc, od, fd, sl, ps, ho, F, hps, hb⟩ := L.ex
  refine ⟨fun pins s σ H Q I ⟨h1, h2, h3⟩ => ?_⟩
  refine wpAny_Call_Name_kw (thn ((pe_var (pos := p1) (i := i) hN hv hd hcd).run pins s σ H (fun v H1 => v = .ref f ∧ H1 = H) I ⟨.ref f, h1, rfl, rfl⟩) fun u s1 ⟨v, H1, I1, r1, ev, eH⟩ => ?_)
  subst ev
  rw [eH] at I1
  obtain rfl : u = Value.ref f := r1
  have fnat : ∀ {H2 : Hp} {s2 : Shared}, Inv X pins σ H2 s2 → LamH f c' o q H2 → PySem.W.FnAt f s2.heap := fun {H2 s2} I2 hl => by
    obtain ⟨e1, _, _⟩ := I2.hok f _ hl.1
    rw [ho] at e1
    exact ⟨oc, od, fd, sl, e1⟩
  refine PySem.W.callWith_F (first := []) (fnat I1 h2) (thn (ha.run pos pins s1 σ H _ I1 h3) fun us s2 ⟨vs, H2, I2, r2, hl2, q2, q3⟩ => ⟨fnat I2 q2, ?_⟩) he hpl
  have hn : us.length = 2 := by rw [← r2.length]; exact hl2
  refine wpAny_call (codeAny_mono (F.run X.A X.stack s2 H2 ⟨us, []⟩ us vs Q E0 hr.gd hr.room I2.env0 (hb s2 us hn) r2 ⟨q2, q3⟩) fun res s3 hq => ?_)
  cases res with
  | error ev => exact pass0 pins σ H2 s2 ev s3 I2 hq
  | ok fl =>
    cases fl with
    | ret u => exact I2.after hq
    | next => exact hq.elim
    | brk => exact hq.elim
    | cont => exact hq.elim
end
section
variable {P : Program} {w : World} {K : Fg} {mg : Str → Option Value} {base : Heap} {lv : Nat} {T : List (Ad × Str)}
abbrev fwN : List Str := ["value", "is_right", "index", "each"]
abbrev fwSc : Scope := { kind := .function, names := [("value", .local), ("is_right", .local), ("index", .local), ("each", .local), ("enumerate", .globalImplicit)], isGenerator := false, isCoroutine := false, more := [] }
abbrev fwB (p1 p2 p3 p4 p5 p6 p7 p8 p9 p10 p11 p12 p13 p14 p15 p16 p17 p18 p19 p20 : Pos) : List Stmt :=
  [.For (.Tuple [.Name "index" p1, .Name "each" p2] 0 p3) (.Call (.Name "enumerate" p4) [.Name "value" p5] [] p6)
    [.If (.UnaryOp .Not (.Call (.Name "is_right" p7) [.Name "each" p8, .Subscript (.Name "value" p9) (.Slice none (some (.Name "index" p10)) none p11) p12] [] p13) p14) [.Return (some (.Name "index" p15)) p16] [] p17] [] p18,
   .Return (some (.Constant .none 0 p19)) p20]
theorem fw_ok {x qual : Str} {st : Stmt} {g : Ad} {fd : FuncData} {p1 p2 p3 p4 p5 p6 p7 p8 p9 p10 p11 p12 p13 p14 p15 p16 p17 p18 p19 p20 : Pos} (F : Fun K x qual st g fd) (hsc : defScope st = fwSc) (hbd : defBody st = fwB p1 p2 p3 p4 p5 p6 p7 p8 p9 p10 p11 p12 p13 p14 p15 p16 p17 p18 p19 p20) (S : FnScope fwN ["value", "is_right"] fwSc) (hme : mg "enumerate" = none) :
    FnG P w K mg base (lv + 2) g fd ["value", "is_right"] (spFW P w mg base K T lv) := by
  refine (fnG_of (k := lv + 1) (N := fwN) F (by rw [hsc]; exact S) (fun vs H Q E ⟨_, _, v, f, _, _, _, _, _, e, _⟩ => by rw [e]; rfl) fun cdv _ A outer s H vs Q E hgd hroom hsp => ?_)
  obtain ⟨M, xs, v, f, c', o, q, lam, d, rfl, L, hL, hT, hM, hv, hf, hQ⟩ := hsp
  rw [hsc] at hroom ⊢
  rw [hbd]
  have hrdy : Rdy lv (cxOf CX0 P w K mg base fwN qual fwSc g cdv A outer s H E).nox := ⟨hroom.mono (Nat.le_succ _), hgd⟩
  have hN : (cxOf CX0 P w K mg base fwN qual fwSc g cdv A outer s H E).nox.N.Nodup := by
    show fwN.Nodup
    decide +kernel
  have hge : Gl (cxOf CX0 P w K mg base fwN qual fwSc g cdv A outer s H E).nox "enumerate" := rfl
  let c : Cfg := ⟨T, M, [], []⟩
  obtain ⟨wi, pi, qi⟩ := (si_enumT (c := c) (X := (cxOf CX0 P w K mg base fwN qual fwSc g cdv A outer s H E).nox) (elts := [.Name "index" p1, .Name "each" p2]) (kk := 0) (tpos := p3) (p2 := p4) (pos := p6) hme hge (spa_cons (sp_nm 0 (pos := p5) rfl rfl) spa_nil)).ex
  obtain ⟨tG, pG, qG⟩ := (sg_tup (c := c) (X := (cxOf CX0 P w K mg base fwN qual fwSc g cdv A outer s H E).nox) (j := 0) (n := 2) (pos := p3) rfl (sgs_cons (sg_nm 2 (pos := p1) rfl rfl hN (.inl rfl)) (sgs_cons (sg_nm 3 (pos := p2) rfl rfl hN (.inl rfl)) sgs_nil))).ex
  obtain ⟨tA, pA, qA⟩ := (spa_cons (c := c) (X := (cxOf CX0 P w K mg base fwN qual fwSc g cdv A outer s H E).nox) (sp_nm 3 (pos := p8) rfl rfl) (spa_cons (sp_slice (p2 := p11) (pos := p12) (sp_nm 0 (pos := p9) rfl rfl) spo_none (spo_some (sp_nm 2 (pos := p10) rfl rfl))) spa_nil)).ex
  obtain ⟨tI, pI, qI⟩ := (sp_nm (c := c) (X := (cxOf CX0 P w K mg base fwN qual fwSc g cdv A outer s H E).nox) 2 (pos := p15) rfl rfl).ex
  have pC := pe_callN (X := (cxOf CX0 P w K mg base fwN qual fwSc g cdv A outer s H E).nox) (i := 1) (a := "is_right") (p1 := p7) (pos := p13) L hrdy pA
  refine ⟨_, pss_cons (ps_for (pos := p18) (by passes_own) rfl pi pG (pss_one (ps_if (pos := p17) (pt_not (pos := p14) (pt_val pC)) (pss_one (ps_ret (pos := p16) pI)) pss_nil))) (pss_one (ps_ret (pos := p20) (pe_non (pos := p19)))), ?_⟩
  have hd0 : Msk c (L2.start fwN [v, .ref f]) = M := by
    funext a
    exact propext ⟨fun z => z.elim id fun ⟨i, hi, _⟩ => (nomatch hi), .inl⟩
  have sr0 : SR c K (L2.start fwN [v, .ref f]) H [some (.tuple xs), none, none, none] := by
    refine ⟨hT, rfl, fun a m => hM a (by rw [← hd0]; exact m), fun i j a hi => (nomatch hi), fun i d e _ _ => ?_, fun i d e _ nz => (nomatch nz), fun i d e n => (nomatch n)⟩
    match i, e with
    | 0, e =>
      cases e
      exact ⟨v, rfl, by rw [hd0]; exact hv⟩
    | 1, e => cases e
    | 2, e => cases e
    | 3, e => cases e
    | n + 4, e => simp at e
  refine qi _ H _ sr0 (enumFrom 0 xs) rfl _ fun J H1 g1 y => ?_
  have emk : ∀ σ : SS, Msk c σ = M := fun σ => by
    funext a
    exact propext ⟨fun z => z.elim id fun ⟨i, hi, _⟩ => (nomatch hi), .inl⟩
  refine ⟨fun i m σ H' => ∃ a b, m = xs.length - i ∧ i ≤ xs.length ∧ Gr T W0 H1 H' ∧ SR c K σ H' [some (.tuple xs), none, a, b] ∧ σ[1]? = some (some (.ref f)) ∧ fwL lam xs i (xs.drop i) = .ok d, ⟨xs.length, none, none, rfl, Nat.zero_le _, Gr.refl H1, sr0.grow g1, rfl, hf⟩, ?_⟩
  rintro i m σ H2 ⟨a0, b0, rfl, hi, g2, s2, h1, hl⟩
  have lt2 : Ltr c (L2.start fwN [v, .ref f]) H1 H2 (Msk c σ) := ⟨g2.of0, fun a z => .inl (by rw [emk] at z ⊢; exact z), s2.dom⟩
  obtain ⟨y1, y2⟩ := y i H2 _ lt2 s2.tabs
  rw [enumFrom_len] at y1 y2
  by_cases hlt : i < xs.length
  · obtain ⟨go, yy⟩ := y1 hlt
    refine .inr ⟨go, fun σ' H' => ∃ a b, i + 1 ≤ xs.length ∧ Gr T W0 H1 H' ∧ SR c K σ' H' [some (.tuple xs), none, a, b] ∧ σ'[1]? = some (some (.ref f)) ∧ fwL lam xs (i + 1) (xs.drop (i + 1)) = .ok d, fun σ' H' ⟨a, b, a1, a2, a3, a5, a6⟩ => ⟨_, by omega, a, b, rfl, a1, a2, a3, a5, a6⟩, fun x H3 hy => ?_⟩
    obtain ⟨g3, rx⟩ := yy x H3 hy
    have hgi : (enumFrom 0 xs)[i]? = some (.tuple [.int ((0 + i : Nat) : Int), xs[i]]) := by
      have hlt' : i < (enumFrom 0 xs).length := by rw [enumFrom_len]; exact hlt
      obtain ⟨z, e1, e2⟩ := enumFrom_get xs 0 i _ (List.getElem?_eq_getElem hlt')
      rw [List.getElem?_eq_getElem hlt] at e1
      cases e1
      rw [List.getElem?_eq_getElem hlt', e2]
    have rx := rx _ hgi
    rw [Nat.zero_add] at rx
    refine qG σ H3 _ _ x (s2.grow g3) rx [some (.tuple xs), none, some (.int (i : Int)), some xs[i]] rfl _ fun σ4 H4 m4 a4 g4 s4 => ?_
    have h14 : σ4[1]? = some (some (.ref f)) := by
      have e := a4 [2, 3] (fun i hi => by simpa using hi)
      have e1 : (L2.wipe σ4 [2, 3])[1]? = σ4[1]? := wipe_out (by decide)
      have e2 : (L2.wipe σ [2, 3])[1]? = σ[1]? := wipe_out (by decide)
      rw [← e1, e, e2, h1]
    have g14 := ((g1.trans g2).trans g3).trans g4
    have hL4 : LamH f c' o q H4 := hL.grow g14
    rw [List.drop_eq_getElem_cons hlt] at hl
    unfold fwL at hl
    refine ⟨h14, hL4, qA σ4 H4 _ s4 [xs[i], .tuple (cutD xs none (some (i : Int)))] rfl _ fun vs H5 g5 r5 => ?_⟩
    have r5 := r5.st rfl
    have base5 : ∀ z, lam [xs[i], .tuple (cutD xs none (some (i : Int)))] = .ok z → ∀ Q' : VK, (∀ v' H', Gr T W0 H5 H' → Rp K H' M z v' → Q' v' H') → vs.length = 2 ∧ LamH f c' o q H5 ∧ spP K T [] false 2 lam vs H5 Q' E0 := fun z hz Q' hQ' => by
      refine ⟨by rw [← r5.length]; rfl, hL4.grow g5, M, _, z, rfl, g5.tabs s4.tabs, fun a m => (s4.grow g5).dom a (by rw [emk]; exact m), ?_, hz, fun v' H' g r _ => hQ' v' H' g r⟩
      rw [emk] at r5
      exact r5.arg0
    split at hl <;> try (cases hl)
    · rename_i hz
      refine base5 _ hz _ fun v' H6 g6 r6 => ?_
      cases r6
      refine ⟨true, rfl, iteF ?_⟩
      exact ⟨_, _, hlt, ((g2.trans g3).trans g4).trans (g5.trans g6), s4.grow (g5.trans g6), h14, hl⟩
    · rename_i hz
      refine base5 _ hz _ fun v' H6 g6 r6 => ?_
      cases r6
      refine ⟨false, rfl, iteT ?_⟩
      refine qI σ4 H6 _ (s4.grow (g5.trans g6)) (.int i) rfl _ fun v7 H7 g7 r7 => ?_
      have r7 : Rp K H7 (Msk c σ4) (.int (i : Int)) v7 := r7
      rw [emk] at r7
      exact hQ v7 H7 (((g14.trans g5).trans g6).trans g7) r7
  · rw [List.drop_of_length_le (Nat.le_of_not_lt hlt)] at hl
    cases hl
    refine .inl ⟨y2 (Nat.le_of_not_lt hlt), ?_⟩
    exact hQ .non H2 (g1.trans g2) .non
end

/-! ### first_wrong(e, lambda p, q: ..) -/
structure CalFW (P : Program) (w : World) (K : Fg) (mg : Str → Option Value) (base : Heap) (T : List (Ad × Str)) (lv : Nat) (x : Str) : Prop where
  ex : ∃ (g : Ad) (fd : FuncData), FnG P w K mg base (lv + 2) g fd ["value", "is_right"] (spFW P w mg base K T lv) ∧ mg x = some (.ref g) ∧ PySem.W.keepIn K (.ref g) = true ∧ Binds K fd ["value", "is_right"] []
/-- what a lambda of two parameters answers -/
def lam2 (n : Nat) (m : Sm) (ds : List PyData) : Rs PyData := m (ds.map some ++ List.replicate n none)
def fwS (lam : List PyData → Rs PyData) (m : Sm) : Sm := fun ρ => match m ρ with
  | .ok (.tuple xs) => fwL lam xs 0 xs
  | .ok _ => .error .stuck
  | .error e => .error e
section
variable {c : Cfg} {X : Cx} {k k1 : Kd} {a : Expr} {ma ml : Sm} {x : Str} {p2 pos lpos : Pos} {lv : Nat}
theorem sp_fw {cc P : Ad} {params : Arguments} {body : Expr} {scope : Scope} {Nl : List Str} {q1 q2 : Str} (C : CalFW X.prog X.w X.K X.mg X.base c.T (lv + 1) x) (hr : Rdy (lv + 3) X) (hg : Gl X x) (ha : SP c X k1 a ma) (TB : LamX.TabB X.base X.mg cc P) (hcode : X.env.code = .ref cc)
    (hmT : (P, X.env.qual ++ "<lambda>") ∈ c.T) (hu : ∀ p ∈ c.T, p.1 = P → p.2 = X.env.qual ++ "<lambda>") (hdef : defaultsOf params X.env = ([], [])) (hfree : ∀ y ∈ scope.names, y.2 ≠ .free) (hclo : cloFrom X.env.cells scope.names [] = [])
    (S : FnScope Nl [q1, q2] scope) (hbind : ∀ (q : Str) (pm cv ctv u1 u2 : Value), bindArgs (PySem.W.kla_fn "<lambda>" q params body scope [] pm cv ctv) ⟨[u1, u2], []⟩ = pure [(q1, u1), (q2, u2)])
    (hbody : ∀ (A : Around) (outer : List Env) (s : Shared) (H : Hp) (E : XK) (M : Ad → Prop) (f c' : Ad), Rdy lv (cxOf CX0 X.prog X.w X.K X.mg X.base Nl (X.env.qual ++ "<lambda>") scope f (.ref c') A outer s H E).nox →
      SP ⟨c.T, M, [], []⟩ (cxOf CX0 X.prog X.w X.K X.mg X.base Nl (X.env.qual ++ "<lambda>") scope f (.ref c') A outer s H E).nox k body ml)
    (hl : 2 ≤ Nl.length := by decide) (hk : k1.st = true := by rfl) (hk2 : k.st = true := by rfl) (hdb : (x == ("__debug__" : Str)) = false := by decide)
    (he : starEach [a, .Lambda params body scope lpos] X.env = (false, eval a X.env) :: starEach [.Lambda params body scope lpos] X.env := by rfl) (he2 : starEach [.Lambda params body scope lpos] X.env = (false, eval (.Lambda params body scope lpos) X.env) :: starEach [] X.env := by rfl)
    (hpl : (backTo pos (starEach [.Lambda params body scope lpos] X.env)).any (·.1) = false := by rfl) :
    SP c X .s (.Call (.Name x p2) [a, .Lambda params body scope lpos] [] pos) (fwS (lam2 (Nl.length - 2) ml) ma) := by
  obtain ⟨ta, pa, qa⟩ := ha.ex
  obtain ⟨g, fd, F, hm, hkp, hb⟩ := C.ex
  -- the lambda, as a value with its promise
  have lamE : PE X (.Lambda params body scope lpos) (fun σ H Q => LamX.Tabs c.T H ∧ ∀ (f c' : Ad) (o : Obj) (H1 : Hp), Gr c.T W0 H H1 → LamH f c' o (X.env.qual ++ "<lambda>") H1 → LamP X.prog X.w X.K X.mg X.base c.T (lv + 1) f c' o (X.env.qual ++ "<lambda>") (lam2 (Nl.length - 2) ml) → Q (.ref f) H1) := by
    refine ⟨fun pins s σ H Q I ⟨hT, h⟩ => ?_⟩
    refine lam_make3 I TB hcode hmT hu hT hdef hfree fun f c' pm ctv H1 s' I1 g1 hf hc => ?_
    rw [hclo] at hf
    refine ⟨.ref f, H1, I1, rfl, h f c' _ H1 g1 ⟨hf, hc⟩ ⟨_, _, _, _, [q1, q2], rfl, ?_, rfl, fun s us hus => ?_⟩⟩
    · refine fnL_of (k := lv) S (fun vs H Q E ⟨M, ds, d, e1, _, _, e2, _⟩ => by rw [← e2.1, e1]; rfl) fun A outer s H vs Q E hgd hroom ⟨M, ds, d, h1, ht, hm, ⟨hl1, harg⟩, hf, q⟩ => ?_
      obtain ⟨t, p, w⟩ := (hbody A outer s H E M f c' ⟨hroom, hgd⟩).ex
      refine ⟨t, p, ?_⟩
      have emk : ∀ σ : SS, Msk ⟨c.T, M, [], []⟩ σ = M := fun σ => by
        funext a
        exact propext ⟨fun z => z.elim id fun ⟨i, hi, _⟩ => (nomatch hi), .inl⟩
      have hvl : vs.length = 2 := by rw [← hl1, h1]
      have sr : SR ⟨c.T, M, [], []⟩ X.K (L2.start Nl vs) H (ds.map some ++ List.replicate (Nl.length - 2) none) := by
        refine ⟨ht, ?_, fun a m => hm a (by rw [← emk]; exact m), fun i j a hi => (nomatch hi), fun i d e _ _ => ?_, fun i d e _ nz => (nomatch nz), fun i d e n => (nomatch n)⟩
        · unfold L2.start
          simp only [List.length_append, List.length_map, List.length_replicate]
          rw [h1, hvl]
        · obtain ⟨v, hv, r, _⟩ := harg i d (rho_get e)
          rw [emk]
          exact ⟨v, start_at hv, r (fun z => nomatch z)⟩
      refine w _ H _ sr d hf Q fun v H' g' r' => q v H' g' ?_ fun z => nomatch z
      have r' := r'.st hk2
      rw [emk] at r'
      exact r'
    · match us, hus with
      | [u1, u2], _ => exact BindsTo.of_eq (hbind _ _ _ _ u1 u2)
  refine ⟨_, pe_callG F hr.gd hr.room hg hm hkp hb (pa_cons pa (pa_cons lamE pa_nil he2) he) hdb he hpl, fun σ H ρ s z h Q q => ?_⟩
  unfold fwS at h
  split at h <;> try (cases h)
  rename_i xs hx
  refine qa σ H ρ s _ hx _ fun v H1 g1 r1 => ?_
  have s1 := s.grow g1
  refine ⟨s1.tabs, fun f c' o H2 g2 hl2 L => ?_⟩
  have s2 := s1.grow g2
  exact ⟨Msk c σ, xs, v, f, c', o, _, _, z, rfl, L, hl2, s2.tabs, s2.dom, ((r1.st hk).carry g2.carry0), h, fun v' H' g' r' => q v' H' ((g1.trans g2).trans g') r'⟩
end
end DL

set_option Elab.async false
set_option linter.all false
set_option maxRecDepth 100000
set_option maxHeartbeats 1000000
/-! DLM: short forms for the printed derivations. -/
namespace DL
open PySem PySem.Spec PyProof.Rows L2
section
variable {c : Cfg} {X : Cx} {k k1 k2 k3 : Kd} {fr : Bool} {e a b e1 e2 e3 tg : Expr} {m ma mb mc : Sm} {pos p2 p3 : Pos} {es : List Expr} {bs : List Bool} {mA : SmA} {mt : SmT} {n lv : Nat} {x : Str} {ea eb : Se} {eA : SeA} {K : Fg}
structure Cmp (X : Cx) (op : CmpOp) (f : PyData → PyData → Rs PyData) : Prop where
  ex : ∃ r : R2, OpR X (compareOp op) r ∧ OpC X.K r f
theorem ck_eq (hr : Rdy lv X) : Cmp X .Eq eqD := ⟨_, op_eqD (by have := hr.room.un; omega), oc_eq⟩
theorem ck_ne (hr : Rdy lv X) : Cmp X .NotEq neD := ⟨_, op_neD (by have := hr.room.un; omega), oc_ne⟩
theorem ck_lt : Cmp X .Lt ltD := ⟨_, op_lt, oc_lt⟩
theorem ck_le : Cmp X .LtE leD := ⟨_, op_le, oc_le⟩
theorem ck_gt : Cmp X .Gt gtD := ⟨_, op_gt, oc_gt⟩
theorem ck_ge : Cmp X .GtE geD := ⟨_, op_ge, oc_ge⟩
theorem ck_in (hr : Rdy lv X) : Cmp X .In inD := ⟨_, op_inDD (by have := hr.room.un; omega), oc_in⟩
theorem ck_nin (hr : Rdy lv X) : Cmp X .NotIn ninD := ⟨_, op_ninDD (by have := hr.room.un; omega), oc_nin⟩
theorem ck_is : Cmp X .Is isD := ⟨_, op_isN, oc_is⟩
theorem ck_isn : Cmp X .IsNot isnD := ⟨_, op_notN, oc_isn⟩
theorem cmp {op : CmpOp} {f : PyData → PyData → Rs PyData} (h : Cmp X op f) (ha : SP c X k1 a ma) (hb : SP c X k2 b mb) (hm : behindInMarks op b = false) : SP c X .f (.Compare a [op] [b] pos) (bin f ma mb) := by
  obtain ⟨r, h1, h2⟩ := h.ex
  exact sp_cmp h1 h2 ha hb hm
def tcmp (f : PyData → PyData → Rs PyData) (a b : Sm) : SmT := fun ρ => boolOf (bin f a b ρ)
theorem cmpt {op : CmpOp} {f : PyData → PyData → Rs PyData} (h : Cmp X op f) (ha : SP c X k1 a ma) (hb : SP c X k2 b mb) (hm : behindInMarks op b = false) : SPT c X (.Compare a [op] [b] pos) (tcmp f ma mb) := by
  obtain ⟨r, h1, h2⟩ := h.ex
  exact spt_cmp h1 h2 ha hb hm
theorem cmp2 {op op' : CmpOp} {f g : PyData → PyData → Rs PyData} (h : Cmp X op f) (h' : Cmp X op' g) (ha : SP c X k1 a ma) (hb : SP c X k2 b mb) (hc : SP c X k3 e mc) (hm : lastMarks [op, op'] [b, e] = false := by with_unfolding_all rfl) : SP c X .f (.Compare a [op, op'] [b, e] pos) (chn f g ma mb mc) := by
  obtain ⟨r, h1, h2⟩ := h.ex
  obtain ⟨r', h3, h4⟩ := h'.ex
  exact sp_chain h1 h3 h2 h4 ha hb hc hm
/-- a comparison whose parts change lists -/
theorem se_cmp {op : CmpOp} {f : PyData → PyData → Rs PyData} {ea eb : Se} (h : Cmp X op f) (ha : SE c X k1 a ea) (hb : SE c X k2 b eb) (hm : behindInMarks op b = false) (h1 : k1.st = true := by rfl) : SE c X .f (.Compare a [op] [b] pos) (binE f ea eb) := by
  obtain ⟨r, ho, hs⟩ := h.ex
  obtain ⟨ta, pa, qa⟩ := ha.ex
  obtain ⟨tb, pb, qb⟩ := hb.ex
  refine ⟨_, pe_cmpR ho pa pb hm, fun σ H ρ s z ρ' h Q q => ?_⟩
  obtain ⟨x0, ρ1, y0, hx, hy, hz⟩ := binE_ok h
  refine qa σ H ρ s _ _ hx _ fun v H1 g1 s1 r1 => ?_
  refine qb σ H1 _ s1 _ _ hy _ fun u H2 g2 s2 r2 => ?_
  obtain ⟨bb, rfl, hr⟩ := hs H2 (Msk c σ) _ _ z v u (.inl (.inl (r1.eff s1 g2 h1))) r2.z hz
  exact hr Q (q _ H2 (g1.trans g2) s2 kr_bl)
def tchn (f g : PyData → PyData → Rs PyData) (a b c' : Sm) : SmT := fun ρ => boolOf (chn f g a b c' ρ)
theorem cmpt2 {op op' : CmpOp} {f g : PyData → PyData → Rs PyData} (h : Cmp X op f) (h' : Cmp X op' g) (ha : SP c X k1 a ma) (hb : SP c X k2 b mb) (hc : SP c X k3 e mc) (hm : lastMarks [op, op'] [b, e] = false := by with_unfolding_all rfl) : SPT c X (.Compare a [op, op'] [b, e] pos) (tchn f g ma mb mc) := by
  obtain ⟨r, h1, h2⟩ := h.ex
  obtain ⟨r', h3, h4⟩ := h'.ex
  exact spt_chain h1 h3 h2 h4 ha hb hc hm
/-! constants of the module -/
theorem gk_int {i : Int} (h : ∃ t, X.mg x = some (.int i t)) : GK X x (.int i) := by
  obtain ⟨t, h⟩ := h
  exact ⟨.int i, _, h, ⟨t, rfl⟩, fun H M => .int i⟩
theorem gk_str {z : Str} (h : ∃ t, X.mg x = some (.str z t)) : GK X x (.str z) := by
  obtain ⟨t, h⟩ := h
  exact ⟨.str z, _, h, ⟨t, rfl⟩, fun H M => .str z⟩
/-! walks over a list or a tuple -/
def itS (m : Sm) : SmA := fun ρ => match m ρ with
  | .ok (.list xs) => .ok xs
  | .ok (.tuple xs) => .ok xs
  | .ok _ => .error .stuck
  | .error e => .error e
theorem si_or {m1 m2 m3 : SmA} (h1 : SI c X tg e m1) (h2 : SI c X tg e m2) (h : ∀ ρ ds, m3 ρ = .ok ds → m1 ρ = .ok ds ∨ m2 ρ = .ok ds) : SI c X tg e m3 := by
  obtain ⟨w1, p1, q1⟩ := h1.ex
  obtain ⟨w2, p2, q2⟩ := h2.ex
  refine ⟨fun σ H R => w1 σ H R ∨ w2 σ H R, ⟨fun pins s σ H R I z => z.elim (p1.run pins s σ H R I) (p2.run pins s σ H R I)⟩, fun σ H ρ s ds hd R w => ?_⟩
  rcases h ρ ds hd with z | z
  · exact .inl (q1 σ H ρ s ds z R w)
  · exact .inr (q2 σ H ρ s ds z R w)
theorem si_seq (ha : SP c X k1 a ma) (hk : k1.st = true := by rfl) : SI c X tg a (itS ma) := si_or (si_list ha hk) (si_tup ha hk) fun ρ ds h => by
  unfold itS at h
  unfold itL itT
  split at h <;> cases h
  · rename_i hm; rw [hm]; exact .inl rfl
  · rename_i hm; rw [hm]; exact .inr rfl
def itEn (m : SmA) : SmA := fun ρ => match m ρ with
  | .ok [.list xs] => .ok (enumFrom 0 xs)
  | .ok [.tuple xs] => .ok (enumFrom 0 xs)
  | .ok _ => .error .stuck
  | .error e => .error e
theorem si_enum {elts : List Expr} {kk : Nat} {tpos : Pos} (hm : X.mg "enumerate" = none) (hg : Gl X "enumerate") (ha : SPA c X [true] [e] mA) (hs : starEach [e] X.env = [(false, eval e X.env)] := by rfl) :
    SI c X (.Tuple elts kk tpos) (.Call (.Name "enumerate" p2) [e] [] pos) (itEn mA) := si_or (si_enumL hm hg ha hs) (si_enumT hm hg ha hs) fun ρ ds h => by
  unfold itEn at h
  unfold itEnL itEnT
  split at h <;> cases h
  · rename_i hm; rw [hm]; exact .inl rfl
  · rename_i hm; rw [hm]; exact .inr rfl
def gcdD : List PyData → Rs PyData
  | [.int i, .int j] => .ok (.int (Nat.gcd i.natAbs j.natAbs : Nat))
  | _ => .error .stuck
theorem cm_gcd {T : List (Ad × Str)} {K : Fg} : CaM T K .f rGcd gcdD := by
  intro H M ds z vs hm hd hz Q q
  unfold gcdD at hz
  split at hz <;> cases hz
  obtain ⟨v, u, rfl, h1, h2⟩ := hd.two
  exact ⟨_, _, by rw [h1.int, h2.int], q _ H (Gr.refl H) kr_int⟩
theorem sp_gcd {x : Str} (hm : X.mg x = some (.builtin "math.gcd")) (hg : Gl X x) (ha : SPA c X bs [e, a] mA) (hdb : (x == ("__debug__" : Str)) = false := by decide) (he : starEach [e, a] X.env = (false, eval e X.env) :: starEach [a] X.env := by rfl) (hpl : (backTo pos (starEach [a] X.env)).any (·.1) = false := by rfl) : SP c X .f (.Call (.Name x p2) [e, a] [] pos) (apS gcdD mA) :=
  sp_callI cr_gcd cm_gcd hg hm ha hdb he hpl
end
/-! how defs bind -/
section
variable {K : Fg} {x qual : Str} {st : Stmt} {f : Ad} {fd : FuncData} {ps : List Str}
/-- with keywords: h is «fun _ _ _ _ _ _ us ws hl hw => match us, ws, hl, hw with | [..], [..], _, _ => rfl» -/
theorem Fun.kb {ks : List Str} (F : Fun K x qual st f fd) (n : Nat) (hn : n + ks.length = ps.length)
    (h : ∀ (kV doc pm : Value) (an : Option Ad) (cdv ct : Value) (us ws : List Value), us.length = n → ws.length = ks.length → bindArgs (PySem.W.fnOf x qual (defArgs st) (defBody st) (defScope st) .none kV doc pm an cdv ct) ⟨us, ks.zip ws⟩ = pure (ps.zip (us ++ ws))) : KB K fd ps ks := by
  obtain ⟨_, _, kV, doc, pm, an, cdv, ct, _, rfl, _, _⟩ := F.ex
  exact fun s us ws _ hw hl => BindsTo.of_eq (h kV doc pm an cdv ct us ws (by omega) hw)
end
end DL
namespace DL
open PySem PySem.Spec PyProof.Rows L2
/-- the law's end: what the law's def answers, in plain Lean -/
theorem lawG_of {l : PySem.W.OpenLaw} {w : World} {K : Fg} {k n : Nat} {x : Str} {mg : Str → Option Value} {fa : Ad} {h : Heap} {fd : FuncData} {cs : List (Ad × Ad)} {T : List (Ad × Str)} {ff : List PyData → Rs PyData}
    (t1 : ∀ p ∈ cs, h.get? p.2 = some { cls := .none, data := .fields #[] }) (t2 : ∀ p ∈ cs, K.lookup p.2 = none) (t3 : ∀ p ∈ cs, PySem.W.CodeHd h p.1 p.2) (hb : ∀ (s : Shared) (u : Value), BindsTo s fd ⟨[u], []⟩ [(x, u)])
    (hT : ∀ q ∈ T, ∃ p ∈ cs, q.1 = p.2) (hok : ∀ ns : List Int, ns.length ≤ n → (∀ z ∈ ns, Builtin.Int.intBits z ≤ 1048576) → ff [.list (ns.map .int)] = .ok (.bool true))
    (F : ∀ base : Heap, K.In base → base.Ns mainGlobals mg → (∀ p ∈ cs, LamX.TabB base mg p.1 p.2) → FnG l.prog w K mg base k fa fd [x] (spP K T [0] false 1 ff)) : LawG l w K k n x mg fa h := by
  refine ⟨fd, cs, _, t1, t2, t3, hb, fun H a ns hl hz hH hS => ?_, F⟩
  refine ⟨fun _ => False, [.list (ns.map .int)], .bool true, rfl, fun q hq => ?_, fun _ z => z.elim, ⟨rfl, fun i d e => ?_⟩, hok ns hl hz, fun v H' _ r _ => ?_⟩
  · obtain ⟨p, hp, e⟩ := hT q hq
    rw [e]
    exact LamX.TabS.nil (hH p hp)
  · match i, e with
    | 0, e =>
      cases e
      exact ⟨.ref a, rfl, fun z => absurd (List.mem_singleton.mpr rfl) z, fun _ => ⟨.inr ⟨_, a, _, rfl, rfl, hS, RpL.ints ns⟩, _, rfl⟩⟩
    | n + 1, e => simp at e
  · cases r
    rfl
end DL
namespace DL
open PySem PySem.Spec PyProof.Rows L2
theorem walk_ofGE {l : PySem.W.OpenLaw} {n k : Nat} {q : Program} {loose : List Str} {XP : (Str → Option Value) → Heap → Prop} {YP : World → Heap → Prop} {d : DefRec} {x : Str}
    (h1 : l.most = some n) (h2 : n ≤ sizeLine) (h3 : d.params.defaults = []) (hr : Room k callerA)
    (F : ∀ (w : World) (mg : Str → Option Value) (fa : Ad) (h : Heap), YP w h → h.Ns mainGlobals mg → mg d.name = some (.ref fa) → ∃ K : Fg, K.In h ∧ LawG l w K k n x mg fa h) :
    PySem.W.WalkO q loose XP YP l.row.toRowW d [] (fun f vs => PySem.call f vs) := by
  refine Att.attach_callB h1 h3 fun w s0 s1 mg mb fa o pm cd doc a vs ns G Y ho hd hcd hmg hobj hints hlen hbits hg => ?_
  obtain ⟨K, KX, fd, cs, sp, t1, t2, t3, hb, hsp, hF⟩ := F w mg fa _ Y G.T.g hmg
  exact law_runG KX G.T.g G.T.b G.T.builtins G.T.nolimit hg t1 t2 t3 G.T.bmain hobj hints (Nat.le_trans hlen h2) hr hF hb fun H hH hS => hsp H a ns hlen hbits hH hS
theorem codeHd_of {K : Fg} {h : Heap} {c P : Ad} (X : K.In h) (e : PySem.W.codeHdIn K c P = true) : PySem.W.CodeHd h c P := PySem.W.codeHd_of_K X e
theorem code_ref {K : Fg} {d : He.DefD} {fd : FuncData} {dvs : List V} {kws : List (Str × V)} {p : Str × Option Str} (F : FunD K d.name d.qual d.params d.body d.scope dvs kws (He.fAd K p) fd) : fd.code = .ref (He.codeOf K p) := by
  obtain ⟨oc, od, dV, kV, doc, pm, an, cdv, ct, osl, e, lk, hcd, _⟩ := F.ex
  obtain ⟨c, rfl⟩ := He.codeIn_ref hcd
  have ec : fd.code = .ref c := by rw [e]
  rw [He.codeOf_eq lk ec, ec]
end DL
namespace DL
open PySem PySem.Spec PyProof.Rows L2
section
variable {c : Cfg} {X : Cx} {k k1 k2 k3 : Kd} {e a b e1 e2 e3 tg : Expr} {m ma mb mc : Sm} {pos p2 p3 : Pos} {es : List Expr} {bs : List Bool} {mA : SmA} {mt : SmT} {n lv : Nat} {x : Str} {fz : List Nat} {ea eb : Se} {eA : SeA} {K : Fg} {kws : List Keyword}
theorem sp_callF {ff : List PyData → Rs PyData} (C : CalP X.prog X.w X.K X.mg X.base c.T lv x fz true n ff) (hr : Rdy lv X) (hg : Gl X x) (ha : SPA c X bs (e :: es) mA)
    (hbs : (List.range bs.length).all (fun i => bs.getD i true || fz.contains i) = true := by rfl) (hdb : (x == ("__debug__" : Str)) = false := by decide)
    (he : starEach (e :: es) X.env = (false, eval e X.env) :: starEach es X.env := by rfl) (hpl : (backTo pos (starEach es X.env)).any (·.1) = false := by rfl) : SP c X .f (.Call (.Name x p2) (e :: es) [] pos) (calS fz n ff mA) := sp_call C hr hg ha hbs hdb he hpl
theorem sp_callS {ff : List PyData → Rs PyData} (C : CalP X.prog X.w X.K X.mg X.base c.T lv x fz false n ff) (hr : Rdy lv X) (hg : Gl X x) (ha : SPA c X bs (e :: es) mA)
    (hbs : (List.range bs.length).all (fun i => bs.getD i true || fz.contains i) = true := by rfl) (hdb : (x == ("__debug__" : Str)) = false := by decide)
    (he : starEach (e :: es) X.env = (false, eval e X.env) :: starEach es X.env := by rfl) (hpl : (backTo pos (starEach es X.env)).any (·.1) = false := by rfl) : SP c X .s (.Call (.Name x p2) (e :: es) [] pos) (calS fz n ff mA) := sp_call C hr hg ha hbs hdb he hpl
theorem se_callQF {ff : List PyData → Rs (PyData × PyData)} (i : Nat) {y : Str} (C : CalQ X.prog X.w X.K X.mg X.base c.T lv x true n ff) (hr : Rdy lv X) (hi : c.Ms.contains i = true) (hg : Gl X x) (ha : SPA c X bs es mA)
    (hbs : bs.all id = true := by rfl) (hN : X.N[i]? = some y := by rfl) (hv : Vis X.env.scope y := by first | exact Or.inl rfl | exact Or.inr (Or.inl rfl) | exact Or.inr (Or.inr rfl))
    (hd : (y == ("__debug__" : Str)) = false := by decide) (hcd : (y == ("__classdict__" : Str)) = false := by decide) (hdb : (x == ("__debug__" : Str)) = false := by decide)
    (he : starEach (.Name y p3 :: es) X.env = (false, eval (.Name y p3) X.env) :: starEach es X.env := by rfl) (hpl : (backTo pos (starEach es X.env)).any (·.1) = false := by rfl) :
    SE c X .f (.Call (.Name x p2) (.Name y p3 :: es) [] pos) (calQ i n ff mA) := se_callQ i C hr hi hg ha hbs hN hv hd hcd hdb he hpl
theorem se_callQS {ff : List PyData → Rs (PyData × PyData)} (i : Nat) {y : Str} (C : CalQ X.prog X.w X.K X.mg X.base c.T lv x false n ff) (hr : Rdy lv X) (hi : c.Ms.contains i = true) (hg : Gl X x) (ha : SPA c X bs es mA)
    (hbs : bs.all id = true := by rfl) (hN : X.N[i]? = some y := by rfl) (hv : Vis X.env.scope y := by first | exact Or.inl rfl | exact Or.inr (Or.inl rfl) | exact Or.inr (Or.inr rfl))
    (hd : (y == ("__debug__" : Str)) = false := by decide) (hcd : (y == ("__classdict__" : Str)) = false := by decide) (hdb : (x == ("__debug__" : Str)) = false := by decide)
    (he : starEach (.Name y p3 :: es) X.env = (false, eval (.Name y p3) X.env) :: starEach es X.env := by rfl) (hpl : (backTo pos (starEach es X.env)).any (·.1) = false := by rfl) :
    SE c X .s (.Call (.Name x p2) (.Name y p3 :: es) [] pos) (calQ i n ff mA) := se_callQ i C hr hi hg ha hbs hN hv hd hcd hdb he hpl
/-- .. whose other arguments change lists too -/
def calQE (i n : Nat) (f : List PyData → Rs (PyData × PyData)) (m : SeA) : Se := fun ρ => match nm i ρ with
  | .ok _ => (match m ρ with
    | .ok (ds, ρ1) => (match nm i ρ1 with
      | .ok x1 => if ds.length + 1 = n then (match f (x1 :: ds) with
        | .ok (d, .list ys) => .ok (d, ρ1.set i (some (.list ys)))
        | .ok _ => .error .stuck
        | .error e => .error e) else .error .stuck
      | .error e => .error e)
    | .error e => .error e)
  | .error e => .error e
theorem se_callQE {ff : List PyData → Rs (PyData × PyData)} {eA : SeA} {fr : Bool} (i : Nat) {y : Str} (C : CalQ X.prog X.w X.K X.mg X.base c.T lv x fr n ff) (hr : Rdy lv X) (hi : c.Ms.contains i = true) (hg : Gl X x) (ha : SEA c X (e :: es) eA)
    (hN : X.N[i]? = some y := by rfl) (hv : Vis X.env.scope y := by first | exact Or.inl rfl | exact Or.inr (Or.inl rfl) | exact Or.inr (Or.inr rfl))
    (hd : (y == ("__debug__" : Str)) = false := by decide) (hcd : (y == ("__classdict__" : Str)) = false := by decide) (hdb : (x == ("__debug__" : Str)) = false := by decide)
    (he : starEach (.Name y p3 :: e :: es) X.env = (false, eval (.Name y p3) X.env) :: starEach (e :: es) X.env := by rfl) (hpl : (backTo pos (starEach (e :: es) X.env)).any (·.1) = false := by rfl) :
    SE c X (if fr then .f else .s) (.Call (.Name x p2) (.Name y p3 :: e :: es) [] pos) (calQE i n ff eA) := by
  obtain ⟨ta, pa, qa⟩ := ha.ex
  obtain ⟨f, fd, ps, F, hm, hk, hb⟩ := C.ex
  have hi' : i ∈ c.Ms := List.contains_iff_mem.mp hi
  refine ⟨_, pe_callG F hr.gd hr.room hg hm hk hb (pa_cons (pe_var (i := i) hN hv hd hcd) pa he) hdb he hpl, fun σ H ρ s z ρ' h Q q => ?_⟩
  unfold calQE at h
  split at h <;> try (cases h)
  rename_i x0 hx
  split at h <;> try (cases h)
  rename_i ds ρ1 hds
  split at h <;> try (cases h)
  rename_i x1 hx1
  split at h <;> try (cases h)
  rename_i hlen
  split at h <;> cases h
  rename_i ys hf
  obtain ⟨p, xs, us, rfl, e1, hp, r⟩ := s.mslot i x0 (nm_ok hx) hi'
  refine ⟨.ref p, e1, qa σ H ρ s _ _ hds _ fun vs H1 g1 s1 r1 => ?_⟩
  obtain ⟨p', xs2, us1, e2, e3, hp1, rx1⟩ := s1.mslot i _ (nm_ok hx1) hi'
  subst e2
  rw [e1] at e3
  cases e3
  have mp : Mut c.Ms σ p := ⟨i, hi', e1⟩
  refine ⟨Msk c σ, p, us1, vs, xs2, ds, z, ys, hlen, rfl, s1.tabs, s1.dom, .inr mp, hp1, rx1, r1, hf, fun v H2 us' g2 hp2 r2 rv f2 => ?_⟩
  have g2' : Gr c.T (Mut c.Ms σ) H1 H2 := g2.mono fun a e => by rw [e]; exact mp
  refine q v H2 (g1.trans g2') (s1.wrote hi' e1 g2 hp2 r2) ?_
  cases fr with
  | true =>
    obtain ⟨f3, f4⟩ := f2 rfl
    exact ⟨rv, fun p e => g1.none p (f3 p e), f4⟩
  | false => exact rv
theorem se_callQEF {ff : List PyData → Rs (PyData × PyData)} {eA : SeA} (i : Nat) {y : Str} (C : CalQ X.prog X.w X.K X.mg X.base c.T lv x true n ff) (hr : Rdy lv X) (hi : c.Ms.contains i = true) (hg : Gl X x) (ha : SEA c X (e :: es) eA)
    (hN : X.N[i]? = some y := by rfl) (hv : Vis X.env.scope y := by first | exact Or.inl rfl | exact Or.inr (Or.inl rfl) | exact Or.inr (Or.inr rfl))
    (hd : (y == ("__debug__" : Str)) = false := by decide) (hcd : (y == ("__classdict__" : Str)) = false := by decide) (hdb : (x == ("__debug__" : Str)) = false := by decide)
    (he : starEach (.Name y p3 :: e :: es) X.env = (false, eval (.Name y p3) X.env) :: starEach (e :: es) X.env := by rfl) (hpl : (backTo pos (starEach (e :: es) X.env)).any (·.1) = false := by rfl) :
    SE c X .f (.Call (.Name x p2) (.Name y p3 :: e :: es) [] pos) (calQE i n ff eA) := se_callQE i C hr hi hg ha hN hv hd hcd hdb he hpl
theorem se_callQES {ff : List PyData → Rs (PyData × PyData)} {eA : SeA} (i : Nat) {y : Str} (C : CalQ X.prog X.w X.K X.mg X.base c.T lv x false n ff) (hr : Rdy lv X) (hi : c.Ms.contains i = true) (hg : Gl X x) (ha : SEA c X (e :: es) eA)
    (hN : X.N[i]? = some y := by rfl) (hv : Vis X.env.scope y := by first | exact Or.inl rfl | exact Or.inr (Or.inl rfl) | exact Or.inr (Or.inr rfl))
    (hd : (y == ("__debug__" : Str)) = false := by decide) (hcd : (y == ("__classdict__" : Str)) = false := by decide) (hdb : (x == ("__debug__" : Str)) = false := by decide)
    (he : starEach (.Name y p3 :: e :: es) X.env = (false, eval (.Name y p3) X.env) :: starEach (e :: es) X.env := by rfl) (hpl : (backTo pos (starEach (e :: es) X.env)).any (·.1) = false := by rfl) :
    SE c X .s (.Call (.Name x p2) (.Name y p3 :: e :: es) [] pos) (calQE i n ff eA) := se_callQE i C hr hi hg ha hN hv hd hcd hdb he hpl
theorem se_callF {ff : List PyData → Rs PyData} (C : CalP X.prog X.w X.K X.mg X.base c.T lv x [] true n ff) (hr : Rdy lv X) (hg : Gl X x) (ha : SEA c X (e :: es) eA)
    (hdb : (x == ("__debug__" : Str)) = false := by decide)
    (he : starEach (e :: es) X.env = (false, eval e X.env) :: starEach es X.env := by rfl) (hpl : (backTo pos (starEach es X.env)).any (·.1) = false := by rfl) : SE c X .f (.Call (.Name x p2) (e :: es) [] pos) (calE n ff eA) := se_call C hr hg ha hdb he hpl
theorem se_callS {ff : List PyData → Rs PyData} (C : CalP X.prog X.w X.K X.mg X.base c.T lv x [] false n ff) (hr : Rdy lv X) (hg : Gl X x) (ha : SEA c X (e :: es) eA)
    (hdb : (x == ("__debug__" : Str)) = false := by decide)
    (he : starEach (e :: es) X.env = (false, eval e X.env) :: starEach es X.env := by rfl) (hpl : (backTo pos (starEach es X.env)).any (·.1) = false := by rfl) : SE c X .s (.Call (.Name x p2) (e :: es) [] pos) (calE n ff eA) := se_call C hr hg ha hdb he hpl
theorem sp_callK0F {ff : List PyData → Rs PyData} {ks : List Str} (C : CalK X.prog X.w X.K X.mg X.base c.T lv x fz true n ff ks) (hr : Rdy lv X) (hg : Gl X x) (ha : SPK c X bs kws mA) (hkn : bs.length = ks.length := by rfl)
    (hbs : (List.range bs.length).all (fun i => bs.getD i true || fz.contains i) = true := by rfl) (hdb : (x == ("__debug__" : Str)) = false := by decide)
    (hall : (backToKw pos (keywordEach kws X.env)).all (·.1.isSome) = true := by rfl) (hks : (backToKw pos (keywordEach kws X.env)).filterMap (·.1) = ks := by rfl)
    (hpl : ((backTo pos (starEach [] X.env)).any (·.1) || (backToKw pos (keywordEach kws X.env)).any (·.1.isNone)) = false := by rfl) : SP c X .f (.Call (.Name x p2) [] kws pos) (calS fz n ff mA) := sp_callK0 C hr hg ha hkn hbs hdb hall hks hpl
theorem sp_callK0S {ff : List PyData → Rs PyData} {ks : List Str} (C : CalK X.prog X.w X.K X.mg X.base c.T lv x fz false n ff ks) (hr : Rdy lv X) (hg : Gl X x) (ha : SPK c X bs kws mA) (hkn : bs.length = ks.length := by rfl)
    (hbs : (List.range bs.length).all (fun i => bs.getD i true || fz.contains i) = true := by rfl) (hdb : (x == ("__debug__" : Str)) = false := by decide)
    (hall : (backToKw pos (keywordEach kws X.env)).all (·.1.isSome) = true := by rfl) (hks : (backToKw pos (keywordEach kws X.env)).filterMap (·.1) = ks := by rfl)
    (hpl : ((backTo pos (starEach [] X.env)).any (·.1) || (backToKw pos (keywordEach kws X.env)).any (·.1.isNone)) = false := by rfl) : SP c X .s (.Call (.Name x p2) [] kws pos) (calS fz n ff mA) := sp_callK0 C hr hg ha hkn hbs hdb hall hks hpl
theorem sp_callKF {ff : List PyData → Rs PyData} {ks : List Str} {bs2 : List Bool} {nA : SmA} (C : CalK X.prog X.w X.K X.mg X.base c.T lv x fz true n ff ks) (hr : Rdy lv X) (hg : Gl X x) (ha : SPA c X bs (e :: es) mA) (hkw : SPK c X bs2 kws nA) (hkn : bs2.length = ks.length := by rfl)
    (hbs : (List.range (bs ++ bs2).length).all (fun i => (bs ++ bs2).getD i true || fz.contains i) = true := by rfl) (hdb : (x == ("__debug__" : Str)) = false := by decide)
    (hall : (backToKw pos (keywordEach kws X.env)).all (·.1.isSome) = true := by rfl) (hks : (backToKw pos (keywordEach kws X.env)).filterMap (·.1) = ks := by rfl)
    (he : starEach (e :: es) X.env = (false, eval e X.env) :: starEach es X.env := by rfl)
    (hpl : ((backTo pos (starEach (e :: es) X.env)).any (·.1) || (backToKw pos (keywordEach kws X.env)).any (·.1.isNone)) = false := by rfl) : SP c X .f (.Call (.Name x p2) (e :: es) kws pos) (calS fz n ff (acat mA nA)) := sp_callK C hr hg ha hkw hkn hbs hdb hall hks he hpl
theorem sp_callKS {ff : List PyData → Rs PyData} {ks : List Str} {bs2 : List Bool} {nA : SmA} (C : CalK X.prog X.w X.K X.mg X.base c.T lv x fz false n ff ks) (hr : Rdy lv X) (hg : Gl X x) (ha : SPA c X bs (e :: es) mA) (hkw : SPK c X bs2 kws nA) (hkn : bs2.length = ks.length := by rfl)
    (hbs : (List.range (bs ++ bs2).length).all (fun i => (bs ++ bs2).getD i true || fz.contains i) = true := by rfl) (hdb : (x == ("__debug__" : Str)) = false := by decide)
    (hall : (backToKw pos (keywordEach kws X.env)).all (·.1.isSome) = true := by rfl) (hks : (backToKw pos (keywordEach kws X.env)).filterMap (·.1) = ks := by rfl)
    (he : starEach (e :: es) X.env = (false, eval e X.env) :: starEach es X.env := by rfl)
    (hpl : ((backTo pos (starEach (e :: es) X.env)).any (·.1) || (backToKw pos (keywordEach kws X.env)).any (·.1.isNone)) = false := by rfl) : SP c X .s (.Call (.Name x p2) (e :: es) kws pos) (calS fz n ff (acat mA nA)) := sp_callK C hr hg ha hkw hkn hbs hdb hall hks he hpl
end
end DL

set_option linter.all false
set_option maxRecDepth 100000
/-! DX: evaluating the semantics: plain lemmas. -/
namespace DL
open PySem L2
/-- a point -/
abbrev Pt := Int × Int
abbrev pt (p : Pt) : PyData := .tuple [.int p.1, .int p.2]
def pts (l : List Pt) : PyData := .tuple (l.map pt)
theorem log_lt {n k : Nat} (h : n < 2 ^ k) (hk : 0 < k) : n.log2 < k := by
  by_cases h0 : n = 0
  · subst h0; simpa using hk
  · exact (Nat.log2_lt h0).mpr h
theorem mul_ok {i j : Int} (hi : i.natAbs < 2 ^ 200) (hj : j.natAbs < 2 ^ 200) : mulD (.int i) (.int j) = .ok (.int (i * j)) := by
  have h1 := log_lt hi (by decide)
  have h2 := log_lt hj (by decide)
  show (if _ then _ else _) = _
  exact if_pos (by omega)
theorem mod_ok {i j : Int} (hj : 0 < j) : modD (.int i) (.int j) = .ok (.int (i % j)) := by
  show (if _ then _ else _) = _
  exact if_pos hj
theorem fdiv_ok {i j : Int} (h0 : 0 < j) (hj : j.natAbs < 2 ^ 200) : fdivD (.int i) (.int j) = .ok (.int (i / j)) := by
  have h2 := log_lt hj (by decide)
  show (if _ then _ else _) = _
  exact if_pos ⟨h0, by omega⟩
theorem divmod_ok {i j : Int} (h0 : 0 < j) (hj : j.natAbs < 2 ^ 200) : divmodD [.int i, .int j] = .ok (.tuple [.int (i / j), .int (i % j)]) := by
  have h2 := log_lt hj (by decide)
  show (if _ then _ else _) = _
  exact if_pos ⟨h0, by omega⟩
theorem eqD_int (i j : Int) : eqD (.int i) (.int j) = .ok (.bool (i == j)) := by
  simp [eqD, okD, okN, PyData.eqv]
theorem neD_int (i j : Int) : neD (.int i) (.int j) = .ok (.bool (i != j)) := by
  simp [neD, okD, okN, PyData.eqv, bne]
theorem okD_pt (p : Pt) : okD (pt p) = true := by simp [okD, okN, pt]
theorem eqv_pt (p q : Pt) : PyData.eqv (pt p) (pt q) = decide (p = q) := by
  obtain ⟨a, b⟩ := p
  obtain ⟨c, d⟩ := q
  simp only [pt, PyData.eqv, PyData.eqvAll, Bool.and_true]
  by_cases h1 : a = c <;> by_cases h2 : b = d <;> simp [h1, h2]
theorem memD_pts (p : Pt) (l : List Pt) : memD (pt p) (l.map pt) = decide (p ∈ l) := by
  induction l with
  | nil => rfl
  | cons q l ih =>
    have e : memD (pt p) ((q :: l).map pt) = (PyData.eqv (pt q) (pt p) || memD (pt p) (l.map pt)) := rfl
    rw [e, ih, eqv_pt]
    by_cases h : q = p
    · simp [h]
    · simp [h, Ne.symm h]
theorem all_ok_pts (l : List Pt) : (l.map pt).all okD = true := by
  rw [List.all_map]
  exact List.all_eq_true.mpr fun p _ => okD_pt p
theorem ninD_pts (p : Pt) (l : List Pt) : ninD (pt p) (.list (l.map pt)) = .ok (.bool (!decide (p ∈ l))) := by
  show (if _ then _ else _) = _
  rw [if_pos (by rw [okD_pt, all_ok_pts]; rfl), memD_pts]
theorem ninD_ptsT (p : Pt) (l : List Pt) : ninD (pt p) (.tuple (l.map pt)) = .ok (.bool (!decide (p ∈ l))) := by
  show (if _ then _ else _) = _
  rw [if_pos (by rw [okD_pt, all_ok_pts]; rfl), memD_pts]
/-! ### comprehensions, loops as plain functions -/
/-- a comprehension without tests -/
theorem compL_map {ρ : Rho} {g : Sg} {el : Sm} {f : PyData → PyData} : ∀ {ds : List PyData}, (∀ d ∈ ds, ∃ ρ1, g d ρ = .ok ρ1 ∧ el ρ1 = .ok (f d)) → compL ρ g tyes el ds = .ok (ds.map f)
  | [], _ => rfl
  | d :: ds, h => by
    obtain ⟨ρ1, h1, h2⟩ := h d List.mem_cons_self
    have ih := compL_map (ds := ds) fun x hx => h x (List.mem_cons_of_mem _ hx)
    simp only [compL, h1, tyes, h2, ih, List.map_cons]
theorem compL_filter {ρ : Rho} {g : Sg} {t : SmT} {el : Sm} {f : PyData → PyData} {p : PyData → Bool} : ∀ {ds : List PyData}, (∀ d ∈ ds, ∃ ρ1, g d ρ = .ok ρ1 ∧ t ρ1 = .ok (p d) ∧ (p d = true → el ρ1 = .ok (f d))) → compL ρ g t el ds = .ok ((ds.filter p).map f)
  | [], _ => rfl
  | d :: ds, h => by
    obtain ⟨ρ1, h1, h2, h3⟩ := h d List.mem_cons_self
    have ih := compL_filter (ds := ds) fun x hx => h x (List.mem_cons_of_mem _ hx)
    cases hp : p d with
    | true =>
      rw [hp] at h2
      simp only [compL, h1, h2, h3 hp, ih, List.filter_cons, hp, if_true, List.map_cons]
    | false =>
      rw [hp] at h2
      simp only [compL, h1, h2, ih, List.filter_cons, hp, Bool.false_eq_true, if_false]
/-- a loop that never ends early, told by an invariant -/
theorem loop_inv {g : Sg} {b : Sb} (I : Nat → Rho → Prop) : ∀ (ds : List PyData) (i : Nat) (ρ : Rho), I i ρ → (∀ (j : Nat) (d : PyData) (ρ : Rho), ds[j]? = some d → I (i + j) ρ → ∃ ρ1 ρ2, g d ρ = .ok ρ1 ∧ (b ρ1 = .ok (.nx ρ2) ∨ b ρ1 = .ok (.ct ρ2)) ∧ I (i + j + 1) ρ2) →
    ∃ ρ', loop g b ds ρ = .ok (.nx ρ') ∧ I (i + ds.length) ρ'
  | [], i, ρ, h, _ => ⟨ρ, rfl, h⟩
  | d :: ds, i, ρ, h, st => by
    obtain ⟨ρ1, ρ2, h1, h2, h3⟩ := st 0 d ρ rfl h
    obtain ⟨ρ', h4, h5⟩ := loop_inv I ds (i + 1) ρ2 h3 fun j d' ρ hd hi => by
      have := st (j + 1) d' ρ (by simpa using hd) (by rw [show i + (j + 1) = i + 1 + j by omega]; exact hi)
      obtain ⟨a, b', q1, q2, q3⟩ := this
      exact ⟨a, b', q1, q2, by rw [show i + 1 + j + 1 = i + (j + 1) + 1 by omega]; exact q3⟩
    refine ⟨ρ', ?_, by rw [List.length_cons, show i + (ds.length + 1) = i + 1 + ds.length by omega]; exact h5⟩
    rcases h2 with h2 | h2 <;> simp only [loop, h1, h2, h4]
/-- .. that may end early by a return -/
theorem loop_ex {g : Sg} {b : Sb} (I : Nat → Rho → Prop) (R : PyData → Rho → Prop) : ∀ (ds : List PyData) (i : Nat) (ρ : Rho), I i ρ → (∀ (j : Nat) (d : PyData) (ρ : Rho), ds[j]? = some d → I (i + j) ρ → ∃ ρ1, g d ρ = .ok ρ1 ∧ ((∃ ρ2, (b ρ1 = .ok (.nx ρ2) ∨ b ρ1 = .ok (.ct ρ2)) ∧ I (i + j + 1) ρ2) ∨ ∃ d' ρ2, b ρ1 = .ok (.rt d' ρ2) ∧ R d' ρ2)) →
    (∃ ρ', loop g b ds ρ = .ok (.nx ρ') ∧ I (i + ds.length) ρ') ∨ ∃ d' ρ', loop g b ds ρ = .ok (.rt d' ρ') ∧ R d' ρ'
  | [], i, ρ, h, _ => .inl ⟨ρ, rfl, h⟩
  | d :: ds, i, ρ, h, st => by
    obtain ⟨ρ1, h1, h2⟩ := st 0 d ρ rfl h
    rcases h2 with ⟨ρ2, h2, h3⟩ | ⟨d', ρ2, h2, h3⟩
    · rcases loop_ex I R ds (i + 1) ρ2 h3 (fun j d' ρ hd hi => by
        have := st (j + 1) d' ρ (by simpa using hd) (by rw [show i + (j + 1) = i + 1 + j by omega]; exact hi)
        obtain ⟨a, q1, q2⟩ := this
        refine ⟨a, q1, q2.imp_left fun ⟨b', q3, q4⟩ => ⟨b', q3, ?_⟩⟩
        rw [show i + 1 + j + 1 = i + (j + 1) + 1 by omega]
        exact q4) with ⟨ρ', h4, h5⟩ | ⟨d', ρ', h4, h5⟩
      · refine .inl ⟨ρ', ?_, by rw [List.length_cons, show i + (ds.length + 1) = i + 1 + ds.length by omega]; exact h5⟩
        rcases h2 with h2 | h2 <;> simp only [loop, h1, h2, h4]
      · refine .inr ⟨d', ρ', ?_, h5⟩
        rcases h2 with h2 | h2 <;> simp only [loop, h1, h2, h4]
    · exact .inr ⟨d', ρ2, by simp only [loop, h1, h2], h3⟩
/-! ### ranges -/
theorem ranD_zero (n : Nat) : ranD 0 n = (List.range n).map fun i => PyData.int (i : Nat) := by
  unfold ranD
  simp
theorem ranD_at {lo : Int} {n j : Nat} {d : PyData} (h : (ranD lo n)[j]? = some d) : j < n ∧ d = .int (lo + (j : Nat)) := by
  have h1 := (List.getElem?_eq_some_iff.mp h).1
  rw [ranD_len] at h1
  exact ⟨h1, ranD_get h⟩
theorem itR1_ok {m : SmA} {ρ : Rho} {j : Int} (h : m ρ = .ok [.int j]) (h0 : -100000 ≤ j) (h1 : j ≤ 100000) : itR1 m ρ = .ok (ranD 0 j.toNat) := by
  unfold itR1
  rw [h]
  exact if_pos ⟨by omega, by omega⟩
theorem itR2_ok {m : SmA} {ρ : Rho} {i j : Int} (h : m ρ = .ok [.int i, .int j]) (h0 : -100000 ≤ i ∧ i ≤ 100000) (h1 : -100000 ≤ j ∧ j ≤ 100000) : itR2 m ρ = .ok (ranD i (j - i).toNat) := by
  unfold itR2
  rw [h]
  exact if_pos ⟨by omega, by omega, by omega, by omega⟩
theorem rng1_ev {m : Sm} {ρ : Rho} {j : Int} {ds : List PyData} (h : m ρ = .ok (.int j)) (h2 : rngD 0 j = .ok ds) : rng1 m ρ = .ok ds := by
  unfold rng1
  rw [h]
  exact h2
theorem tupR_ev {m : SmA} {ρ : Rho} {ds : List PyData} (h : m ρ = .ok ds) : tupR m ρ = .ok (.tuple ds) := by
  unfold tupR
  rw [h]
theorem rngD_nat {n : Nat} (h : n ≤ 8192) : rngD 0 (n : Int) = .ok (ranD 0 n) := by
  have a1 : (2 : Int) ^ 62 = 4611686018427387904 := by decide
  have a2 : 2 ^ 13 = 8192 := by decide
  unfold rngD
  rw [if_pos (by rw [a1, a2]; omega), show ((n : Int) - 0).toNat = n by omega]
theorem itR1E_ok {m : SeA} {ρ ρ' : Rho} {j : Int} (h : m ρ = .ok ([.int j], ρ')) (h0 : -100000 ≤ j) (h1 : j ≤ 100000) : itR1E m ρ = .ok (ranD 0 j.toNat, ρ') := by
  unfold itR1E
  rw [h]
  exact if_pos ⟨by omega, by omega⟩
/-- the i-th of points -/
def P (l : List Pt) (i : Nat) : Pt := l.getD i (0, 0)
theorem at_P {l : List Pt} {i : Nat} (h : i < l.length) : L2.atI (l.map pt) (i : Int) = some (pt (P l i)) := by
  unfold L2.atI L2.ixN
  rw [if_pos (by omega), List.length_map, if_pos (by omega)]
  simp [h, P]
theorem P_mem {l : List Pt} {i : Nat} (h : i < l.length) : P l i ∈ l := by
  unfold P
  rw [List.getD_eq_getElem?_getD, List.getElem?_eq_getElem h]
  exact List.getElem_mem h
theorem ixL {l : List Pt} {i : Nat} (h : i < l.length) : ixD (.list (l.map pt)) (.int (i : Int)) = .ok (pt (P l i)) := by
  simp only [ixD, at_P h]
theorem ixT {l : List Pt} {i : Nat} (h : i < l.length) : ixD (pts l) (.int (i : Int)) = .ok (pt (P l i)) := by
  simp only [pts, ixD, at_P h]
theorem bin_ev {f : PyData → PyData → Rs PyData} {a b : Sm} {ρ : Rho} {x y : PyData} (h1 : a ρ = .ok x) (h2 : b ρ = .ok y) : bin f a b ρ = f x y := by
  simp only [bin, h1, h2]
theorem acons_ev {a : Sm} {b : SmA} {ρ : Rho} {x : PyData} {ys : List PyData} (h1 : a ρ = .ok x) (h2 : b ρ = .ok ys) : acons a b ρ = .ok (x :: ys) := by
  simp only [acons, h1, h2]
theorem cal_ev {n : Nat} {f : List PyData → Rs PyData} {m : SmA} {ρ : Rho} {ds : List PyData} (h : m ρ = .ok ds) (hn : ds.length = n) : calS [] n f m ρ = f ds := by
  simp only [calS, h, lstAt, List.all_nil, hn, and_self, if_true]
theorem ap_ev {f : List PyData → Rs PyData} {m : SmA} {ρ : Rho} {ds : List PyData} (h : m ρ = .ok ds) : apS f m ρ = f ds := by
  simp only [apS, h]
theorem any_ok {bs : List Bool} : anyD [.list (bs.map .bool)] = .ok (.bool (bs.any id)) := by
  simp only [anyD, boolsOf_map]
theorem all_ok {bs : List Bool} : allD [.list (bs.map .bool)] = .ok (.bool (bs.all id)) := by
  simp only [allD, boolsOf_map]
theorem comp_ev {m : SmA} {vs : List Nat} {g : Sg} {t : SmT} {el : Sm} {ρ : Rho} {ds xs : List PyData} (h : m ρ = .ok ds) (hb : ds.length ≤ big) (h2 : compL (wipeR ρ vs) g t el ds = .ok xs) : compS m vs g t el ρ = .ok (.list xs) := by
  simp only [compS, h, h2, if_pos hb]
theorem for_ev {m : SmA} {g : Sg} {b : Sb} {ρ : Rho} {ds : List PyData} (h : m ρ = .ok ds) : forS m g b ρ = loop g b ds ρ := by
  simp only [forS, h]
theorem iff_ev {t : SmT} {m n : Sb} {ρ : Rho} {b : Bool} (h : t ρ = .ok b) : iff t m n ρ = if b then m ρ else n ρ := by
  unfold iff
  rw [h]
  cases b <;> rfl
theorem sq_nx {m n : Sb} {ρ ρ1 : Rho} (h : m ρ = .ok (.nx ρ1)) : sq m n ρ = n ρ1 := by
  unfold sq
  rw [h]
theorem sq_rt {m n : Sb} {ρ ρ1 : Rho} {d : PyData} (h : m ρ = .ok (.rt d ρ1)) : sq m n ρ = .ok (.rt d ρ1) := by
  unfold sq
  rw [h]
theorem ret_ev {m : Sm} {ρ : Rho} {d : PyData} (h : m ρ = .ok d) : ret m ρ = .ok (.rt d ρ) := by
  unfold ret
  rw [h]
theorem asg_ev {i : Nat} {m : Sm} {ρ : Rho} {d : PyData} (h : m ρ = .ok d) : asg i m ρ = .ok (.nx (ρ.set i (some d))) := by
  unfold asg
  rw [h]
theorem drp_ev {m : Sm} {ρ : Rho} {d : PyData} (h : m ρ = .ok d) : drp m ρ = .ok (.nx ρ) := by
  unfold drp
  rw [h]
theorem tsv_ev {m : Sm} {ρ : Rho} {b : Bool} (h : m ρ = .ok (.bool b)) : tsv m ρ = .ok b := by
  unfold tsv
  rw [h]
  rfl
theorem tcmp_ev {f : PyData → PyData → Rs PyData} {a b : Sm} {ρ : Rho} {x y : PyData} {c : Bool} (h1 : a ρ = .ok x) (h2 : b ρ = .ok y) (h : f x y = .ok (.bool c)) : tcmp f a b ρ = .ok c := by
  unfold tcmp
  rw [bin_ev h1 h2, h]
  rfl
theorem tnot_ev {m : SmT} {ρ : Rho} {b : Bool} (h : m ρ = .ok b) : tnot m ρ = .ok (!b) := by
  unfold tnot
  rw [h]
theorem runB_rt {n : Nat} {b : Sb} {ds : List PyData} {d : PyData} {ρ : Rho} (h : b (ds.map some ++ List.replicate n none) = .ok (.rt d ρ)) : runB n b ds = .ok d := by
  unfold runB
  rw [h]
theorem runB_nx {n : Nat} {b : Sb} {ds : List PyData} {ρ : Rho} (h : b (ds.map some ++ List.replicate n none) = .ok (.nx ρ)) : runB n b ds = .ok .none := by
  unfold runB
  rw [h]
theorem runQ_rt {n : Nat} {b : Sb} {ds : List PyData} {d x : PyData} {ρ : Rho} (h : b (ds.map some ++ List.replicate n none) = .ok (.rt d ρ)) (h0 : ρ[0]? = some (some x)) : runQ n b ds = .ok (d, x) := by
  unfold runQ
  rw [h]
  simp only [h0]
theorem lft_ev {m : Sm} {ρ : Rho} {d : PyData} (h : m ρ = .ok d) : lft m ρ = .ok (d, ρ) := by
  unfold lft
  rw [h]
theorem econs_ev {a : Se} {b : SeA} {ρ ρ1 ρ2 : Rho} {x : PyData} {ys : List PyData} (h1 : a ρ = .ok (x, ρ1)) (h2 : b ρ1 = .ok (ys, ρ2)) : econs a b ρ = .ok (x :: ys, ρ2) := by
  unfold econs
  rw [h1]
  simp only [h2]
theorem calQ_ev {i n : Nat} {f : List PyData → Rs (PyData × PyData)} {m : SmA} {ρ : Rho} {x d : PyData} {ds ys : List PyData} (h1 : nm i ρ = .ok x) (h2 : m ρ = .ok ds) (hn : ds.length + 1 = n) (h3 : f (x :: ds) = .ok (d, .list ys)) : calQ i n f m ρ = .ok (d, ρ.set i (some (.list ys))) := by
  unfold calQ
  rw [h1]
  simp only [h2, hn, if_true, h3]
theorem binE_ev {f : PyData → PyData → Rs PyData} {a b : Se} {ρ ρ1 ρ2 : Rho} {x y z : PyData} (h1 : a ρ = .ok (x, ρ1)) (h2 : b ρ1 = .ok (y, ρ2)) (h3 : f x y = .ok z) : binE f a b ρ = .ok (z, ρ2) := by
  unfold binE
  rw [h1]
  simp only [h2, h3]
theorem par_ev {is : List Nat} {m : SeA} {ρ ρ1 : Rho} {ds : List PyData} (h : m ρ = .ok (ds, ρ1)) : parS is m ρ = .ok (.nx (setR ρ1 is ds)) := by
  unfold parS
  rw [h]
theorem nwc_ev {m : Sm} {ms : SeA} {ρ ρ1 : Rho} {xs ds : List PyData} (h1 : m ρ = .ok (.list xs)) (h2 : ms ρ = .ok (ds, ρ1)) : nwc m ms ρ = .ok (.list xs :: ds, ρ1) := by
  unfold nwc
  rw [h1]
  simp only [h2]
theorem forE_ev {m : SeA} {g : Sg} {b : Sb} {ρ ρ1 : Rho} {ds : List PyData} (h : m ρ = .ok (ds, ρ1)) : forE m g b ρ = loop g b ds ρ1 := by
  unfold forE
  rw [h]
theorem asgE_ev {i : Nat} {m : Se} {ρ ρ1 : Rho} {d : PyData} (h : m ρ = .ok (d, ρ1)) : asgE i m ρ = .ok (.nx (ρ1.set i (some d))) := by
  unfold asgE
  rw [h]
theorem asgM_ev {i : Nat} {m : Sm} {ρ : Rho} {ds : List PyData} (h : m ρ = .ok (.list ds)) : asgM i m ρ = .ok (.nx (ρ.set i (some (.list ds)))) := by
  unfold asgM
  rw [h]
theorem drpE_ev {m : Se} {ρ ρ1 : Rho} {d : PyData} (h : m ρ = .ok (d, ρ1)) : drpE m ρ = .ok (.nx ρ1) := by
  unfold drpE
  rw [h]
theorem tupE_ev {m : SeA} {ρ ρ1 : Rho} {ds : List PyData} (h : m ρ = .ok (ds, ρ1)) (hl : ds.length ≤ big) : tupE m ρ = .ok (.tuple ds, ρ1) := by
  unfold tupE
  rw [h]
  exact if_pos hl
theorem tand_ev {a b : SmT} {ρ : Rho} {x y : Bool} (h1 : a ρ = .ok x) (h2 : x = true → b ρ = .ok y) : tand a b ρ = .ok (x && y) := by
  unfold tand
  rw [h1]
  cases x with
  | true => exact h2 rfl
  | false => rfl
theorem tor_ev {a b : SmT} {ρ : Rho} {x y : Bool} (h1 : a ρ = .ok x) (h2 : x = false → b ρ = .ok y) : tor a b ρ = .ok (x || y) := by
  unfold tor
  rw [h1]
  cases x with
  | false => exact h2 rfl
  | true => rfl
theorem mthE_ev {i : Nat} {f : List PyData → List PyData → Rs (PyData × List PyData)} {m : SeA} {ρ ρ1 : Rho} {xs ds ys : List PyData} {x0 d : PyData} (h0 : nm i ρ = .ok x0) (h1 : m ρ = .ok (ds, ρ1)) (h2 : nm i ρ1 = .ok (.list xs)) (h3 : f xs ds = .ok (d, ys)) : mthE i f m ρ = .ok (d, ρ1.set i (some (.list ys))) := by
  unfold mthE
  rw [h0]
  simp only [h1, h2, h3]
theorem and_ev {a b : Sm} {ρ : Rho} {x y : Bool} (h1 : a ρ = .ok (.bool x)) (h2 : x = true → b ρ = .ok (.bool y)) : andS a b ρ = .ok (.bool (x && y)) := by
  unfold andS
  rw [h1]
  cases x with
  | true => exact h2 rfl
  | false => rfl
theorem chn_le {a b c : Sm} {ρ : Rho} {x y z : Int} (h1 : a ρ = .ok (.int x)) (h2 : b ρ = .ok (.int y)) (h3 : c ρ = .ok (.int z)) : chn leD leD a b c ρ = .ok (.bool (decide (x ≤ y) && decide (y ≤ z))) := by
  unfold chn
  rw [h1]
  simp only [h2, leD]
  cases decide (x ≤ y) with
  | true => simp only [h3, leD, Bool.true_and]
  | false => rfl
theorem cut_take {xs : List PyData} {i : Nat} (h : i ≤ xs.length) : cutD xs none (some (i : Int)) = xs.take i := by
  unfold cutD
  have e1 : HT.sIx xs.length 0 none = 0 := rfl
  have e2 : HT.sIx xs.length xs.length (some (i : Int)) = i := by
    unfold HT.sIx
    simp only
    rw [if_neg (by omega)]
    simp
    omega
  rw [e1, e2]
  simp
theorem enil_ev {ρ : Rho} : enil ρ = .ok ([], ρ) := rfl
theorem app_ok {xs : List PyData} {d : PyData} (h : xs.length < 100000) : appF xs [d] = .ok (.none, xs ++ [d]) := if_pos h
/-! ### choices -/
theorem combs_map {α β : Type} (f : α → β) : ∀ (r : Nat) (xs : List α), DLC.combs r (xs.map f) = (DLC.combs r xs).map (List.map f)
  | 0, xs => by
    have : ∀ {γ : Type} (ys : List γ), DLC.combs 0 ys = [[]] := fun ys => by cases ys <;> rfl
    rw [this, this]; rfl
  | r + 1, [] => rfl
  | r + 1, x :: xs => by
    rw [List.map_cons]
    simp only [DLC.combs, List.map_append, List.map_map]
    rw [combs_map f r xs, combs_map f (r + 1) xs, List.map_map]
    rfl
theorem combs_len {α : Type} : ∀ (r : Nat) (xs : List α), (DLC.combs r xs).length ≤ 2 ^ xs.length
  | 0, xs => by
    have e : DLC.combs 0 xs = [[]] := by cases xs <;> rfl
    rw [e]
    exact Nat.pos_of_ne_zero (by simp)
  | r + 1, [] => by
    exact Nat.zero_le _
  | r + 1, x :: xs => by
    show ((DLC.combs r xs).map (x :: ·) ++ DLC.combs (r + 1) xs).length ≤ _
    have h1 := combs_len r xs
    have h2 := combs_len (r + 1) xs
    rw [List.length_append, List.length_map, List.length_cons, Nat.pow_succ]
    omega
theorem combs1 {α : Type} : ∀ xs : List α, DLC.combs 1 xs = xs.map fun x => [x]
  | [] => rfl
  | x :: xs => by
    have h0 : DLC.combs 0 xs = [[]] := by cases xs <;> rfl
    simp only [DLC.combs, h0, combs1 xs, List.map_cons, List.map_nil, List.singleton_append]
def pairs2 {α : Type} : List α → List (α × α)
  | [] => []
  | x :: xs => xs.map (fun y => (x, y)) ++ pairs2 xs
theorem combs2 {α : Type} : ∀ xs : List α, DLC.combs 2 xs = (pairs2 xs).map fun p => [p.1, p.2]
  | [] => rfl
  | x :: xs => by
    simp only [DLC.combs, combs1, combs2 xs, pairs2, List.map_append, List.map_map]
    rfl
theorem P_succ {x : Pt} {l : List Pt} {i : Nat} : P (x :: l) (i + 1) = P l i := rfl
theorem combs3_mem : ∀ {l : List Pt} {c : List Pt}, c ∈ DLC.combs 3 l → ∃ i j k, i < j ∧ j < k ∧ k < l.length ∧ c = [P l i, P l j, P l k] := by
  have h2 : ∀ {l : List Pt} {p : Pt × Pt}, p ∈ pairs2 l → ∃ j k, j < k ∧ k < l.length ∧ p = (P l j, P l k) := by
    intro l
    induction l with
    | nil => intro p h; cases h
    | cons x l ih =>
      intro p h
      rcases List.mem_append.mp h with h | h
      · obtain ⟨y, hy, rfl⟩ := List.mem_map.mp h
        obtain ⟨k, hk, rfl⟩ := List.mem_iff_getElem.mp hy
        exact ⟨0, k + 1, by omega, by simpa using hk, by simp [P, hk]⟩
      · obtain ⟨j, k, a, b, rfl⟩ := ih h
        exact ⟨j + 1, k + 1, by omega, by simpa using b, rfl⟩
  intro l
  induction l with
  | nil => intro c h; cases h
  | cons x l ih =>
    intro c h
    rcases List.mem_append.mp (show c ∈ (DLC.combs 2 l).map (x :: ·) ++ DLC.combs 3 l from h) with h | h
    · obtain ⟨d, hd, rfl⟩ := List.mem_map.mp h
      rw [combs2] at hd
      obtain ⟨p, hp, rfl⟩ := List.mem_map.mp hd
      obtain ⟨j, k, a, b, rfl⟩ := h2 hp
      exact ⟨0, j + 1, k + 1, by omega, by omega, by simpa using b, rfl⟩
    · obtain ⟨i, j, k, a, b, d, rfl⟩ := ih h
      exact ⟨i + 1, j + 1, k + 1, by omega, by omega, by simpa using d, rfl⟩
theorem pairs2_range' : ∀ (m a : Nat), pairs2 (List.range' a m) = (List.range' a m).flatMap fun k => (List.range' (k + 1) (a + m - (k + 1))).map fun j => (k, j)
  | 0, _ => rfl
  | m + 1, a => by
    rw [List.range'_succ]
    simp only [pairs2, List.flatMap_cons]
    rw [pairs2_range' m (a + 1), show a + (m + 1) - (a + 1) = m by omega, show a + 1 + m = a + (m + 1) by omega]
theorem pairs2_range (n : Nat) : pairs2 (List.range n) = (List.range n).flatMap fun k => (List.range' (k + 1) (n - (k + 1))).map fun j => (k, j) := by
  have := pairs2_range' n 0
  rw [← List.range_eq_range', Nat.zero_add] at this
  exact this
theorem map_P (l : List Pt) : (List.range l.length).map (P l) = l := by
  apply List.ext_getElem
  · simp
  · intro i h1 h2
    simp [P, h2]
/-- a pair of places -/
def pr (p : Nat × Nat) : PyData := .tuple [.int (p.1 : Nat), .int (p.2 : Nat)]
theorem itC_ok {m : SmA} {ρ : Rho} {xs : List PyData} {r : Int} (h : m ρ = .ok [.tuple xs, .int r]) (h0 : 0 ≤ r) (h1 : r ≤ 1000) : itC m ρ = .ok ((DLC.combs r.toNat xs).map .tuple) := by
  unfold itC
  rw [h]
  exact if_pos ⟨h0, h1⟩
theorem cnt_ok (ns : List Int) (i : Int) : cntD (.list (ns.map .int)) (.int i) = .ok (.int (ns.countP fun z => z == i : Nat)) := by
  have e : (ns.map PyData.int).countP (fun z => PyData.eqv z (.int i)) = ns.countP fun z => z == i := by
    rw [List.countP_map]
    rfl
  have h : (ns.map PyData.int).all okD = true := by
    rw [List.all_map]
    exact List.all_eq_true.mpr fun x _ => by simp [okD, okN]
  rw [← e]
  show (if _ then _ else _) = _
  rw [if_pos]
  rw [h]
  rfl
/-! ### repr: what is shown -/
theorem str_append_cps (a b : Str) : (a ++ b).cps = a.cps ++ b.cps := rfl
theorem strOk_append {a b : Str} (h1 : PyData.strOk a = true) (h2 : PyData.strOk b = true) : PyData.strOk (a ++ b) = true := by
  unfold PyData.strOk at *
  rw [str_append_cps]
  simp only [Array.all_append, h1, h2, Bool.and_self]
theorem str_len_append (a b : Str) : (a ++ b).length = a.length + b.length := by
  show (a ++ b).cps.size = _
  rw [str_append_cps, Array.size_append]
  rfl
theorem strOk_of (s : String) : PyData.strOk (Str.ofString s) = true := by
  rw [Str.ofString_eq_toList]
  unfold PyData.strOk
  simp only [List.all_toArray, List.all_map]
  refine List.all_eq_true.mpr fun c _ => ?_
  have hv : c.toNat < 0x110000 := by
    rcases c.valid with h | h
    · have : c.toNat < 0xd800 := h
      omega
    · exact h.2
  simpa using hv
theorem strOk_text : ∀ (ts : List Str) (k : Nat) (acc : Str), PyData.strOk acc = true → (∀ t ∈ ts, PyData.strOk t = true) → PyData.strOk (textFrom k acc ts) = true
  | [], _, _, h, _ => h
  | t :: ts, k, acc, h, ht => by
    unfold textFrom
    refine strOk_text ts _ _ (strOk_append (strOk_append h ?_) (ht t List.mem_cons_self)) fun x hx => ht x (List.mem_cons_of_mem _ hx)
    split <;> exact strOk_of _
theorem len_text : ∀ (ts : List Str) (k : Nat) (acc : Str), (textFrom k acc ts).length ≤ acc.length + (ts.map fun t => t.length + 2).sum
  | [], _, _ => by simp [textFrom]
  | t :: ts, k, acc => by
    unfold textFrom
    have ih := len_text ts (k + 1) (acc ++ (if k > 0 then ", " else "" : String) ++ t)
    rw [str_len_append, str_len_append] at ih
    have e : (Str.ofString (if k > 0 then ", " else "")).length ≤ 2 := by split <;> decide
    rw [List.map_cons, List.sum_cons]
    omega
theorem strOk_join : ∀ ts : List Str, (∀ t ∈ ts, PyData.strOk t = true) → PyData.strOk (Str.join ", " ts) = true
  | [], _ => by simp [Str.join, Str.empty, PyData.strOk]
  | [x], h => h x List.mem_cons_self
  | x :: y :: r, h => strOk_append (strOk_append (h x List.mem_cons_self) (strOk_of _)) (strOk_join (y :: r) fun t ht => h t (List.mem_cons_of_mem _ ht))
theorem len_join : ∀ ts : List Str, (Str.join ", " ts).length ≤ (ts.map fun t => t.length + 2).sum
  | [] => by decide
  | [x] => by
    show x.length ≤ _
    simp
  | x :: y :: r => by
    have ih := len_join (y :: r)
    show (x ++ ", " ++ Str.join ", " (y :: r)).length ≤ _
    rw [str_len_append, str_len_append]
    have e2 : ((", " : String) : Str).length = 2 := by decide
    rw [List.map_cons, List.sum_cons]
    omega
mutual
/-- shown in at most so many signs -/
def shB : PyData → Nat
  | .none => 5
  | .bool _ => 5
  | .int _ => 20
  | .str _ => 0
  | .list xs => 2 + shBs xs
  | .tuple xs => 3 + shBs xs
  | .dict _ => 0
def shBs : List PyData → Nat
  | [] => 0
  | x :: xs => shB x + 2 + shBs xs
end
/-- numbers of at most nineteen digits, None, bools, lists, tuples, not deeper than n -/
def tidy : Nat → PyData → Bool
  | _, .none => true
  | _, .bool _ => true
  | _, .int i => decide (i.natAbs < 10 ^ 19)
  | n + 1, .list xs => xs.all (tidy n)
  | n + 1, .tuple xs => xs.all (tidy n)
  | _, _ => false
theorem tidy_okN : ∀ (n : Nat) (d : PyData), tidy n d = true → okN n d = true
  | _, .none, _ => by simp [okN]
  | _, .bool _, _ => by simp [okN]
  | _, .int _, _ => by simp [okN]
  | n + 1, .list xs, h => by
    have h : xs.all (tidy n) = true := by simpa [tidy] using h
    have : xs.all (okN n) = true := List.all_eq_true.mpr fun x hx => tidy_okN n x (List.all_eq_true.mp h x hx)
    simpa [okN] using this
  | n + 1, .tuple xs, h => by
    have h : xs.all (tidy n) = true := by simpa [tidy] using h
    have : xs.all (okN n) = true := List.all_eq_true.mpr fun x hx => tidy_okN n x (List.all_eq_true.mp h x hx)
    simpa [okN] using this
  | 0, .list _, h => by simp [tidy] at h
  | 0, .tuple _, h => by simp [tidy] at h
  | _, .str _, h => by simp [tidy] at h
  | _, .dict _, h => by simp [tidy] at h
theorem okN_mono : ∀ (n m : Nat) (d : PyData), n ≤ m → okN n d = true → okN m d = true
  | _, _, .none, _, _ => by simp [okN]
  | _, _, .bool _, _, _ => by simp [okN]
  | _, _, .int _, _, _ => by simp [okN]
  | _, _, .str x, _, h => by simpa [okN] using h
  | n + 1, m + 1, .list xs, hm, h => by
    have h : xs.all (okN n) = true := by simpa [okN] using h
    have : xs.all (okN m) = true := List.all_eq_true.mpr fun x hx => okN_mono n m x (by omega) (List.all_eq_true.mp h x hx)
    simpa [okN] using this
  | n + 1, m + 1, .tuple xs, hm, h => by
    have h : xs.all (okN n) = true := by simpa [okN] using h
    have : xs.all (okN m) = true := List.all_eq_true.mpr fun x hx => okN_mono n m x (by omega) (List.all_eq_true.mp h x hx)
    simpa [okN] using this
  | 0, _, .list _, _, h => by simp [okN] at h
  | 0, _, .tuple _, _, h => by simp [okN] at h
  | _ + 1, 0, .list _, h, _ => absurd h (by omega)
  | _ + 1, 0, .tuple _, h, _ => absurd h (by omega)
  | _, _, .dict _, _, h => by simp [okN] at h
theorem shown_all {P : PyData → Str → Prop} : ∀ {xs : List PyData}, (∀ x ∈ xs, P x x.shown) → ∀ t ∈ PyData.shownAll xs, ∃ x ∈ xs, P x t
  | [], _, t, h => by simp [PyData.shownAll] at h
  | x :: xs, h, t, ht => by
    simp only [PyData.shownAll, List.mem_cons] at ht
    rcases ht with rfl | ht
    · exact ⟨x, List.mem_cons_self, h x List.mem_cons_self⟩
    · obtain ⟨y, hy, hp⟩ := shown_all (fun z hz => h z (List.mem_cons_of_mem _ hz)) t ht
      exact ⟨y, List.mem_cons_of_mem _ hy, hp⟩
theorem sum_shown : ∀ {xs : List PyData}, (∀ x ∈ xs, x.shown.length ≤ shB x) → ((PyData.shownAll xs).map fun t => t.length + 2).sum ≤ shBs xs
  | [], _ => by simp [PyData.shownAll, shBs]
  | x :: xs, h => by
    have h1 := h x List.mem_cons_self
    have ih := sum_shown (xs := xs) fun z hz => h z (List.mem_cons_of_mem _ hz)
    simp only [PyData.shownAll, List.map_cons, List.sum_cons, shBs]
    omega
theorem showAll_ok : ∀ {xs : List PyData}, (∀ x ∈ xs, x.showable = true) → PyData.showableAll xs = true
  | [], _ => by simp [PyData.showableAll]
  | x :: xs, h => by
    simp only [PyData.showableAll, h x List.mem_cons_self, showAll_ok (xs := xs) fun z hz => h z (List.mem_cons_of_mem _ hz), Bool.and_self]
theorem tidy_shown : ∀ (n : Nat) (d : PyData), tidy n d = true → PyData.strOk d.shown = true ∧ d.shown.length ≤ shB d ∧ d.showable = true
  | _, .none, _ => by simp only [PyData.shown, shB, PyData.showable]; exact ⟨strOk_of _, by decide, trivial⟩
  | _, .bool b, _ => by
    simp only [PyData.shown, shB, PyData.showable]
    cases b
    · exact ⟨strOk_of _, by decide, trivial⟩
    · exact ⟨strOk_of _, by decide, trivial⟩
  | _, .int i, h => by
    have h : i.natAbs < 10 ^ 19 := by simpa [tidy] using h
    simp only [PyData.shown, shB, PyData.showable]
    refine ⟨strOk_of _, ?_, ?_⟩
    · have := int_text_length_le10 (a := i) (k := 19) (by decide) h
      have e : (Str.ofString (toString i)).length = (toString i).length := by
        rw [Str.ofString_eq_toList]
        show ((toString i).toList.map Char.toNat).toArray.size = _
        rw [List.size_toArray, List.length_map]
        first | exact String.length_toList | rfl | simp
      rw [e]
      exact this
    · have : i.natAbs.log2 < 64 := log_lt (Nat.lt_of_lt_of_le h (by decide)) (by decide)
      exact decide_eq_true (by omega)
  | n + 1, .list xs, h => by
    have h : xs.all (tidy n) = true := by simpa [tidy] using h
    have ih := fun x hx => tidy_shown n x (List.all_eq_true.mp h x hx)
    simp only [PyData.shown, shB, PyData.showable]
    refine ⟨?_, ?_, showAll_ok fun x hx => (ih x hx).2.2⟩
    · refine strOk_append (strOk_text _ _ _ (strOk_of _) fun t ht => ?_) (strOk_of _)
      obtain ⟨x, _, hp⟩ := shown_all (P := fun _ t => PyData.strOk t = true) (fun x hx => (ih x hx).1) t ht
      exact hp
    · have h1 := len_text (PyData.shownAll xs) 0 "["
      have h2 := sum_shown fun x hx => (ih x hx).2.1
      show (textFrom 0 "[" (PyData.shownAll xs) ++ "]").length ≤ _
      rw [str_len_append]
      have e1 : (("[" : String) : Str).length = 1 := by decide
      have e2 : (("]" : String) : Str).length = 1 := by decide
      omega
  | n + 1, .tuple xs, h => by
    have h : xs.all (tidy n) = true := by simpa [tidy] using h
    have ih := fun x hx => tidy_shown n x (List.all_eq_true.mp h x hx)
    simp only [PyData.shown, shB, PyData.showable]
    refine ⟨?_, ?_, showAll_ok fun x hx => (ih x hx).2.2⟩
    · refine strOk_append (strOk_append (strOk_of _) (strOk_join _ fun t ht => ?_)) (strOk_of _)
      obtain ⟨x, _, hp⟩ := shown_all (P := fun _ t => PyData.strOk t = true) (fun x hx => (ih x hx).1) t ht
      exact hp
    · have h1 := len_join (PyData.shownAll xs)
      have h2 := sum_shown fun x hx => (ih x hx).2.1
      unfold tupleText
      rw [str_len_append, str_len_append]
      have e1 : (("(" : String) : Str).length = 1 := by decide
      have e2 : (Str.ofString (if ((PyData.shownAll xs).length == 1) = true then ",)" else ")")).length ≤ 2 := by split <;> decide
      omega
  | 0, .list _, h => by simp [tidy] at h
  | 0, .tuple _, h => by simp [tidy] at h
  | _, .str _, h => by simp [tidy] at h
  | _, .dict _, h => by simp [tidy] at h
/-- two reprs of one datum are equal -/
theorem repr_ok {d : PyData} (h : tidy 20 d = true) (hb : shB d ≤ big) : reprD [d] = .ok (.str d.shown) := by
  obtain ⟨h1, h2, h3⟩ := tidy_shown 20 d h
  show (if _ then _ else _) = _
  refine if_pos ?_
  unfold okShow okD
  rw [tidy_okN 20 d h, h3, decide_eq_true (Nat.le_trans h2 hb)]
  rfl
theorem eq_repr {d : PyData} (h : tidy 20 d = true) : eqD (.str d.shown) (.str d.shown) = .ok (.bool true) := by
  obtain ⟨h1, _, _⟩ := tidy_shown 20 d h
  have e : okD (.str d.shown) = true := by unfold okD; simp [okN, h1]
  show (if _ then _ else _) = _
  rw [if_pos (by rw [e]; rfl)]
  simp [PyData.eqv]
end DL

set_option linter.all false
/-! DG: directions and what lies ahead of them: plain geometry of whole numbers. -/
namespace DG
abbrev Vc := Int × Int
def dot (a b : Vc) : Int := a.1 * b.1 + a.2 * b.2
def det (a b : Vc) : Int := a.1 * b.2 - a.2 * b.1
theorem three (d a b c : Vc) : det a c * dot d b = det a b * dot d c + det b c * dot d a := by
  simp only [det, dot]
  grind
theorem det_swap (a b : Vc) : det a b = - det b a := by
  simp only [det]
  grind
theorem det_self (a : Vc) : det a a = 0 := by
  simp only [det]
  grind
/-- of vectors ahead of d one has all others to its left -/
theorem extreme (d : Vc) : ∀ (A : List Vc), A ≠ [] → (∀ a ∈ A, 0 < dot d a) → ∃ a ∈ A, ∀ b ∈ A, 0 ≤ det a b
  | [], h, _ => absurd rfl h
  | [x], _, _ => ⟨x, List.mem_cons_self, fun b hb => by rw [List.mem_singleton.mp hb, det_self]; exact Int.le_refl 0⟩
  | x :: y :: A, _, h => by
    obtain ⟨a, ha, hA⟩ := extreme d (y :: A) (by simp) fun z hz => h z (List.mem_cons_of_mem _ hz)
    have da := h a (List.mem_cons_of_mem _ ha)
    have dx := h x List.mem_cons_self
    by_cases hx : 0 ≤ det x a
    · refine ⟨x, List.mem_cons_self, fun b hb => ?_⟩
      rcases List.mem_cons.mp hb with rfl | hb
      · rw [det_self]; exact Int.le_refl 0
      · have db := h b (List.mem_cons_of_mem _ hb)
        have e := three d x a b
        have h1 : 0 ≤ det x a * dot d b := Int.mul_nonneg hx (Int.le_of_lt db)
        have h2 : 0 ≤ det a b * dot d x := Int.mul_nonneg (hA b hb) (Int.le_of_lt dx)
        by_cases hn : 0 ≤ det x b
        · exact hn
        · have : det x b * dot d a < 0 := Int.mul_neg_of_neg_of_pos (by omega) da
          omega
    · refine ⟨a, List.mem_cons_of_mem _ ha, fun b hb => ?_⟩
      rcases List.mem_cons.mp hb with rfl | hb
      · have := det_swap a b
        omega
      · exact hA b hb
def mir (a : Vc) : Vc := (a.1, -a.2)
theorem mir_dot (a b : Vc) : dot (mir a) (mir b) = dot a b := by
  simp only [dot, mir]
  grind
theorem mir_det (a b : Vc) : det (mir a) (mir b) = - det a b := by
  simp only [det, mir]
  grind
theorem mir_mir (a : Vc) : mir (mir a) = a := by
  simp [mir]
theorem extreme' (d : Vc) (A : List Vc) (h0 : A ≠ []) (h : ∀ a ∈ A, 0 < dot d a) : ∃ a ∈ A, ∀ b ∈ A, 0 ≤ det b a := by
  obtain ⟨a, ha, hA⟩ := extreme (mir d) (A.map mir) (by simpa using h0) fun z hz => by
    obtain ⟨y, hy, rfl⟩ := List.mem_map.mp hz
    rw [mir_dot]
    exact h y hy
  obtain ⟨y, hy, rfl⟩ := List.mem_map.mp ha
  refine ⟨y, hy, fun b hb => ?_⟩
  have := hA (mir b) (List.mem_map.mpr ⟨b, hb, rfl⟩)
  rw [mir_det] at this
  have := det_swap y b
  omega
def perp (a : Vc) : Vc := (-a.2, a.1)
def sub (a b : Vc) : Vc := (a.1 - b.1, a.2 - b.2)
theorem perp_l (a b : Vc) : dot (perp (sub a b)) a = det a b := by
  simp only [dot, det, perp, sub]
  grind
theorem perp_r (a b : Vc) : dot (perp (sub a b)) b = det a b := by
  simp only [dot, det, perp, sub]
  grind
theorem lag (u d a b : Vc) : dot u b * dot d a = dot u a * dot d b + det u d * det b a := by
  simp only [dot, det]
  grind
theorem mul_pos_iff {a b : Int} (hb : 0 < b) (h : 0 < a * b) : 0 < a := by
  by_cases ha : 0 < a
  · exact ha
  · have : a * b ≤ 0 := Int.mul_nonpos_of_nonpos_of_nonneg (by omega) (Int.le_of_lt hb)
    omega
/-- what lies ahead of any direction lies ahead of an axis or of the perpendicular of two of it -/
theorem cand (d : Vc) (A : List Vc) (h : ∀ a ∈ A, 0 < dot d a) : (∃ u ∈ [((1 : Int), (0 : Int)), (-1, 0), (0, 1), (0, -1)], ∀ b ∈ A, 0 < dot u b) ∨ ∃ a ∈ A, ∃ c ∈ A, a ≠ c ∧ ∀ b ∈ A, 0 < dot (perp (sub a c)) b := by
  by_cases h0 : A = []
  · subst h0
    exact .inl ⟨(1, 0), by simp, fun b hb => nomatch hb⟩
  · obtain ⟨a, ha, hA⟩ := extreme d A h0 h
    obtain ⟨c, hc, hC⟩ := extreme' d A h0 h
    have da := h a ha
    have dc := h c hc
    by_cases hd : 0 < det a c
    · refine .inr ⟨a, ha, c, hc, fun e => ?_, fun b hb => ?_⟩
      · subst e
        rw [det_self] at hd
        omega
      · have db := h b hb
        have e1 := three d a b c
        have e2 := three (perp (sub a c)) a b c
        rw [perp_l, perp_r] at e2
        have h1 := hA b hb
        have h2 := hC b hb
        have h3 : 0 < det a c * dot d b := Int.mul_pos hd db
        have h5 : 0 < det a b + det b c := by
          by_cases q : 0 < det a b + det b c
          · exact q
          · have z1 : det a b = 0 := by omega
            have z2 : det b c = 0 := by omega
            rw [z1, z2] at e1
            omega
        have h6 : det a c * dot (perp (sub a c)) b = det a c * (det a b + det b c) := by
          rw [e2]
          grind
        have h7 : 0 < det a c * (det a b + det b c) := Int.mul_pos hd h5
        refine mul_pos_iff hd ?_
        rw [Int.mul_comm, h6]
        exact h7
    · have hz : ∀ b ∈ A, det b a = 0 := fun b hb => by
        have db := h b hb
        have e1 := three d a b c
        have h1 := hA b hb
        have h2 := hC b hb
        have h3 : 0 ≤ det a b * dot d c := Int.mul_nonneg h1 (Int.le_of_lt dc)
        have h4 : 0 ≤ det b c * dot d a := Int.mul_nonneg h2 (Int.le_of_lt da)
        have h5 : det a c * dot d b ≤ 0 := Int.mul_nonpos_of_nonpos_of_nonneg (by omega) (Int.le_of_lt db)
        have h6 : det a b * dot d c = 0 := by omega
        rcases Int.mul_eq_zero.mp h6 with q | q
        · rw [det_swap, q]
          rfl
        · omega
      have hu : ∃ u ∈ [((1 : Int), (0 : Int)), (-1, 0), (0, 1), (0, -1)], 0 < dot u a := by
        by_cases a1 : 0 < a.1
        · exact ⟨(1, 0), by simp, by simp [dot]; exact a1⟩
        · by_cases a2 : a.1 < 0
          · exact ⟨(-1, 0), by simp, by simp [dot]; omega⟩
          · by_cases a3 : 0 < a.2
            · exact ⟨(0, 1), by simp, by simp [dot]; exact a3⟩
            · by_cases a4 : a.2 < 0
              · exact ⟨(0, -1), by simp, by simp [dot]; omega⟩
              · have z1 : a.1 = 0 := by omega
                have z2 : a.2 = 0 := by omega
                simp only [dot, z1, z2] at da
                omega
      obtain ⟨u, hu, hp⟩ := hu
      refine .inl ⟨u, hu, fun b hb => ?_⟩
      have e := lag u d a b
      rw [hz b hb, Int.mul_zero, Int.add_zero] at e
      have := Int.mul_pos hp (h b hb)
      exact mul_pos_iff da (by omega)
/-- the law's directions -/
def tilted (far side tilt : Int) (a : Vc) : Vc := (0 - side * a.2 * far + tilt * a.1, side * a.1 * far + tilt * a.2)
theorem tilted_dot (far side tilt : Int) (a b : Vc) : dot (tilted far side tilt a) b = side * far * det a b + tilt * dot a b := by
  simp only [dot, det, tilted]
  grind
def nrm (a : Vc) : Nat := a.1.natAbs + a.2.natAbs
theorem dot_le (a b : Vc) : (dot a b).natAbs ≤ nrm a * nrm b := by
  have h1 : (dot a b).natAbs ≤ (a.1 * b.1).natAbs + (a.2 * b.2).natAbs := by
    unfold dot
    omega
  rw [Int.natAbs_mul, Int.natAbs_mul] at h1
  refine Nat.le_trans h1 ?_
  unfold nrm
  rw [Nat.add_mul, Nat.mul_add, Nat.mul_add]
  omega
/-- .. of all others -/
theorem lcand (d : Vc) (A : List Vc) (far : Int) (m : Nat) (hm : ∀ a ∈ A, nrm a ≤ m) (hf : (m * m : Nat) < far) (h0 : A ≠ []) (h : ∀ a ∈ A, 0 < dot d a) : ∃ a ∈ A, ∀ b ∈ A, dot (tilted far (-1) (-1) a) b < 0 := by
  obtain ⟨a, ha, hA⟩ := extreme d A h0 h
  refine ⟨a, ha, fun b hb => ?_⟩
  have da := h a ha
  have db := h b hb
  rw [tilted_dot]
  have h1 := hA b hb
  have hle : (dot a b).natAbs ≤ m * m := Nat.le_trans (dot_le a b) (Nat.mul_le_mul (hm a ha) (hm b hb))
  by_cases hz : det a b = 0
  · have e := lag a d a b
    have e2 : det b a = 0 := by rw [det_swap, hz]; rfl
    rw [e2, Int.mul_zero, Int.add_zero] at e
    have haa : 0 < dot a a := by
      by_cases q : 0 < dot a a
      · exact q
      · have h1 : 0 ≤ a.1 * a.1 := by
          rcases Int.le_total 0 a.1 with q | q
          · exact Int.mul_nonneg q q
          · exact Int.mul_nonneg_of_nonpos_of_nonpos q q
        have h2 : 0 ≤ a.2 * a.2 := by
          rcases Int.le_total 0 a.2 with q | q
          · exact Int.mul_nonneg q q
          · exact Int.mul_nonneg_of_nonpos_of_nonpos q q
        have h3 : dot a a = a.1 * a.1 + a.2 * a.2 := rfl
        have h4 : a.1 * a.1 = 0 := by omega
        have h5 : a.2 * a.2 = 0 := by omega
        have h6 : a.1 = 0 := by rcases Int.mul_eq_zero.mp h4 with q | q <;> exact q
        have h7 : a.2 = 0 := by rcases Int.mul_eq_zero.mp h5 with q | q <;> exact q
        simp only [dot, h6, h7] at da
        omega
    have hp : 0 < dot a b := mul_pos_iff da (by rw [e]; exact Int.mul_pos haa db)
    rw [hz]
    omega
  · have hd : 1 ≤ det a b := by omega
    have h2 : far ≤ far * det a b := by
      have := Int.mul_le_mul_of_nonneg_left hd (show 0 ≤ far by omega)
      omega
    have h3 : (-1 : Int) * far * det a b = -(far * det a b) := by grind
    rw [h3]
    omega
end DG

set_option linter.all false
/-! DG2: depths: the program's directions and the law's give one number. -/
namespace DG
structure Pl where
  px : Int
  ps : Int
  py : Int
  pt : Int
def way (q : Pl) (p : Vc) : Vc := ((p.1 * q.ps - q.px) * q.pt, (p.2 * q.pt - q.py) * q.ps)
def axes : List Vc := [((1 : Int), (0 : Int)), (-1, 0), (0, 1), (0, -1)]
def dir2 (a b : Vc) : List Vc := [(-(b.2 - a.2), b.1 - a.1), (b.1 - a.1, b.2 - a.2)]
def dirs (l : List Vc) : List Vc := axes ++ l.flatMap fun a => l.flatMap fun b => if a ≠ b then dir2 a b else []
def ahead (d : Vc) (W : List Vc) : Nat := W.countP fun a => decide (0 < dot d a)
def atleast (d : Vc) (W : List Vc) : Nat := W.countP fun a => decide (0 ≤ dot d a)
theorem ahead_of {d u : Vc} {W : List Vc} (h : ∀ b ∈ W.filter (fun a => decide (dot u a < 0)), 0 < dot d b) : W.length - atleast u W ≤ ahead d W := by
  have e := List.length_eq_countP_add_countP (fun a => decide (0 ≤ dot u a)) (l := W)
  have e2 : W.countP (fun a => ¬ decide (0 ≤ dot u a) = true) ≤ ahead d W := by
    refine List.countP_mono_left fun a ha hn => ?_
    have : ¬ 0 ≤ dot u a := by simpa using hn
    exact decide_eq_true (h a (List.mem_filter.mpr ⟨ha, decide_eq_true (by omega)⟩))
  have e3 : W.countP (fun a => decide (0 ≤ dot u a)) = atleast u W := rfl
  omega
theorem least_of {d u : Vc} {W : List Vc} (h : ∀ b ∈ W.filter (fun a => decide (0 < dot d a)), dot u b < 0) : atleast u W ≤ W.length - ahead d W := by
  have e := List.length_eq_countP_add_countP (fun a => decide (0 < dot d a)) (l := W)
  have e2 : atleast u W ≤ W.countP (fun a => ¬ decide (0 < dot d a) = true) := by
    refine List.countP_mono_left fun a ha hn => ?_
    have hn : 0 ≤ dot u a := by simpa using hn
    refine decide_eq_true fun z => ?_
    have := h a (List.mem_filter.mpr ⟨ha, z⟩)
    omega
  have e3 : W.countP (fun a => decide (0 < dot d a)) = ahead d W := rfl
  omega
def neg (a : Vc) : Vc := (-a.1, -a.2)
theorem dot_neg (a b : Vc) : dot (neg a) b = - dot a b := by
  simp only [dot, neg]
  grind
theorem dot_zero (a : Vc) : dot a (0, 0) = 0 := by
  simp only [dot]
  grind
theorem perp_way (q : Pl) (p p' b : Vc) : dot (perp (sub (way q p) (way q p'))) b = q.ps * q.pt * dot (perp (sub p p')) b := by
  simp only [dot, perp, sub, way]
  grind
theorem mem_dirs {l : List Vc} {a b : Vc} (ha : a ∈ l) (hb : b ∈ l) (h : a ≠ b) : perp (sub b a) ∈ dirs l := by
  refine List.mem_append_right _ (List.mem_flatMap.mpr ⟨a, ha, List.mem_flatMap.mpr ⟨b, hb, ?_⟩⟩)
  rw [if_pos h]
  exact List.mem_cons_self
theorem depth_main {l : List Vc} {q : Pl} (hs : 0 < q.ps) (ht : 0 < q.pt) {m b : Int} (h1 : ∃ d ∈ dirs l, (ahead d (l.map (way q)) : Int) = m) (h2 : ∀ d ∈ dirs l, (ahead d (l.map (way q)) : Int) ≤ m)
    {far : Int} {k : Nat} (hm : ∀ a ∈ l.map (way q), nrm a ≤ k) (hf : (k * k : Nat) < far)
    (h3 : b ≤ l.length) (h4 : b = l.length ∨ ∃ u, b = atleast u (l.map (way q))) (h5 : ∀ a ∈ l.map (way q), a ≠ (0, 0) → b ≤ atleast (tilted far (-1) (-1) a) (l.map (way q))) : b = l.length - m := by
  have hle : b ≤ l.length - m := by
    obtain ⟨d, hd, e⟩ := h1
    by_cases hA : (l.map (way q)).filter (fun a => decide (0 < dot d a)) = []
    · have : ahead d (l.map (way q)) = 0 := by
        unfold ahead
        rw [List.countP_eq_length_filter, hA]
        rfl
      omega
    · obtain ⟨a, ha, hn⟩ := lcand d _ far k (fun a ha => hm a (List.mem_filter.mp ha).1) hf hA fun a ha => by simpa using (List.mem_filter.mp ha).2
      have := least_of hn
      rw [List.length_map] at this
      have h6 := h5 a (List.mem_filter.mp ha).1 fun z => by
        have h0 : 0 < dot d a := by simpa using (List.mem_filter.mp ha).2
        rw [z, dot_zero] at h0
        omega
      have h7 : ahead d (l.map (way q)) ≤ (l.map (way q)).length := List.countP_le_length
      rw [List.length_map] at h7
      omega
  have hge : (l.length : Int) - m ≤ b := by
    have hm0 : 0 ≤ m := by
      obtain ⟨d, hd, e⟩ := h1
      omega
    rcases h4 with h4 | ⟨u, h4⟩
    · omega
    · have h7 : atleast u (l.map (way q)) ≤ (l.map (way q)).length := List.countP_le_length
      rw [List.length_map] at h7
      rcases cand (neg u) ((l.map (way q)).filter fun a => decide (dot u a < 0)) (fun a ha => by
        have : dot u a < 0 := by simpa using (List.mem_filter.mp ha).2
        rw [dot_neg]
        omega) with ⟨d, hd, h⟩ | ⟨a, ha, c, hc, hac, h⟩
      · have := ahead_of h
        rw [List.length_map] at this
        have := h2 d (List.mem_append_left _ hd)
        omega
      · obtain ⟨p, hp, rfl⟩ := List.mem_map.mp (List.mem_filter.mp ha).1
        obtain ⟨p', hp', rfl⟩ := List.mem_map.mp (List.mem_filter.mp hc).1
        have := ahead_of (d := perp (sub p p')) (u := u) (W := l.map (way q)) fun b hb => by
          have h8 := h b hb
          rw [perp_way, Int.mul_comm] at h8
          exact mul_pos_iff (Int.mul_pos hs ht) h8
        rw [List.length_map] at this
        have := h2 _ (mem_dirs hp' hp fun z => hac (by rw [z]))
        omega
  omega
end DG

set_option linter.all false
set_option maxRecDepth 100000
/-! DV: an evaluator of the semantics: bounds by classes, a tactic that steps through expressions. -/
namespace DL
open PySem L2
/-! ### bounds -/
class Bd (i : Int) (k : outParam Nat) : Prop where
  h : i.natAbs < 2 ^ k
theorem two_pow_add_le (a b : Nat) : 2 ^ a + 2 ^ b ≤ 2 ^ (a + b + 1) := by
  have h1 : 2 ^ a ≤ 2 ^ (a + b) := Nat.pow_le_pow_right (by decide) (by omega)
  have h2 : 2 ^ b ≤ 2 ^ (a + b) := Nat.pow_le_pow_right (by decide) (by omega)
  rw [Nat.pow_succ]
  omega
instance bd_mul {i j : Int} {a b : Nat} [h1 : Bd i a] [h2 : Bd j b] : Bd (i * j) (a + b) := ⟨by
  rw [Int.natAbs_mul, Nat.pow_add]
  exact Nat.mul_lt_mul'' h1.h h2.h⟩
instance bd_add {i j : Int} {a b : Nat} [h1 : Bd i a] [h2 : Bd j b] : Bd (i + j) (a + b + 1) := ⟨by
  have := two_pow_add_le a b
  have := h1.h
  have := h2.h
  omega⟩
instance bd_sub {i j : Int} {a b : Nat} [h1 : Bd i a] [h2 : Bd j b] : Bd (i - j) (a + b + 1) := ⟨by
  have := two_pow_add_le a b
  have := h1.h
  have := h2.h
  omega⟩
instance bd_neg {i : Int} {a : Nat} [h1 : Bd i a] : Bd (-i) a := ⟨by
  have := h1.h
  omega⟩
instance (priority := 10) bd_lit (n : Nat) : Bd (no_index (OfNat.ofNat n : Int)) (Nat.log2 n + 1) := ⟨by
  show n < _
  exact Nat.lt_log2_self⟩
instance bd_ite {p : Prop} [Decidable p] {i j : Int} {a b : Nat} [h1 : Bd i a] [h2 : Bd j b] : Bd (if p then i else j) (a + b) := ⟨by
  have e1 : 2 ^ a ≤ 2 ^ (a + b) := Nat.pow_le_pow_right (by decide) (by omega)
  have e2 : 2 ^ b ≤ 2 ^ (a + b) := Nat.pow_le_pow_right (by decide) (by omega)
  have := h1.h
  have := h2.h
  split <;> omega⟩
theorem mul_b {i j : Int} {a b : Nat} [h1 : Bd i a] [h2 : Bd j b] (h : a + b < 1000000 := by decide) : mulD (.int i) (.int j) = .ok (.int (i * j)) := by
  have key : ∀ i j : Int, i.natAbs.log2 + j.natAbs.log2 < 1000000 → mulD (.int i) (.int j) = .ok (.int (i * j)) := fun i j h => if_pos h
  have e : ∀ {n k : Nat}, n < 2 ^ k → n.log2 ≤ k := fun {n k} h => by
    by_cases h0 : n = 0
    · subst h0; simp
    · exact Nat.le_of_lt ((Nat.log2_lt h0).mpr h)
  have a1 := e h1.h
  have a2 := e h2.h
  exact key _ _ (by omega)
theorem mod_b {i j : Int} (hj : 0 < j) : modD (.int i) (.int j) = .ok (.int (i % j)) := mod_ok hj
theorem fdiv_b {i j : Int} {b : Nat} [h2 : Bd j b] (h0 : 0 < j) (h : b < 9000 := by decide) : fdivD (.int i) (.int j) = .ok (.int (i / j)) := by
  have key : ∀ i j : Int, 0 < j ∧ j.natAbs.log2 < 9000 → fdivD (.int i) (.int j) = .ok (.int (i / j)) := fun i j h => if_pos h
  have e : ∀ {n k : Nat}, n < 2 ^ k → n.log2 ≤ k := fun {n k} h => by
    by_cases h0 : n = 0
    · subst h0; simp
    · exact Nat.le_of_lt ((Nat.log2_lt h0).mpr h)
  exact key _ _ ⟨h0, Nat.lt_of_le_of_lt (e h2.h) (by omega)⟩
/-! ### the evaluator -/
theorem nm_ev {i : Nat} {ρ : Rho} {x : PyData} (h : ρ[i]? = some (some x)) : nm i ρ = .ok x := by
  unfold nm
  rw [h]
theorem cst_ev {d e : PyData} {ρ : Rho} (h : d = e) : cst d ρ = .ok e := congrArg _ h
theorem anil_ev {ρ : Rho} : anil ρ = .ok [] := rfl
theorem bin_ev3 {f : PyData → PyData → Rs PyData} {a b : Sm} {ρ : Rho} {x y z : PyData} (h1 : a ρ = .ok x) (h2 : b ρ = .ok y) (h3 : f x y = .ok z) : bin f a b ρ = .ok z := (bin_ev h1 h2).trans h3
theorem cal_ev3 {n : Nat} {f : List PyData → Rs PyData} {m : SmA} {ρ : Rho} {ds : List PyData} {d : PyData} (h : m ρ = .ok ds) (hn : ds.length = n) (h3 : f ds = .ok d) : calS [] n f m ρ = .ok d := (cal_ev h hn).trans h3
theorem ap_ev3 {f : List PyData → Rs PyData} {m : SmA} {ρ : Rho} {ds : List PyData} {d : PyData} (h : m ρ = .ok ds) (h3 : f ds = .ok d) : apS f m ρ = .ok d := (ap_ev h).trans h3
theorem tup_ev3 {m : SmA} {ρ : Rho} {ds : List PyData} {d : PyData} (h : m ρ = .ok ds) (hl : ds.length ≤ big) (e : PyData.tuple ds = d) : tupS m ρ = .ok d := by
  subst e
  unfold tupS
  rw [h]
  exact if_pos hl
theorem lst_ev3 {m : SmA} {ρ : Rho} {ds : List PyData} {d : PyData} (h : m ρ = .ok ds) (hl : ds.length ≤ big) (e : PyData.list ds = d) : lstS m ρ = .ok d := by
  subst e
  unfold lstS
  rw [h]
  exact if_pos hl
theorem neg_ev3 {m : Sm} {ρ : Rho} {i : Int} {d : PyData} (h : m ρ = .ok (.int i)) (e : PyData.int (-i) = d) : negS m ρ = .ok d := by
  subst e
  unfold negS
  rw [h]
theorem not_ev3 {m : Sm} {ρ : Rho} {b : Bool} {d : PyData} (h : m ρ = .ok (.bool b)) (e : PyData.bool (!b) = d) : notS m ρ = .ok d := by
  subst e
  unfold notS
  rw [h]
theorem itS_list {m : Sm} {ρ : Rho} {ds : List PyData} (h : m ρ = .ok (.list ds)) : itS m ρ = .ok ds := by
  unfold itS
  rw [h]
theorem itS_tup {m : Sm} {ρ : Rho} {ds : List PyData} (h : m ρ = .ok (.tuple ds)) : itS m ρ = .ok ds := by
  unfold itS
  rw [h]
theorem itEn_list {m : SmA} {ρ : Rho} {ds : List PyData} (h : m ρ = .ok [.list ds]) : itEn m ρ = .ok (enumFrom 0 ds) := by
  unfold itEn
  rw [h]
theorem itEn_tup {m : SmA} {ρ : Rho} {ds : List PyData} (h : m ρ = .ok [.tuple ds]) : itEn m ρ = .ok (enumFrom 0 ds) := by
  unfold itEn
  rw [h]
theorem sq_ev3 {m n : Sb} {ρ ρ1 : Rho} {o : Out} (h : m ρ = .ok (.nx ρ1)) (h2 : n ρ1 = .ok o) : sq m n ρ = .ok o := (sq_nx h).trans h2
theorem asg_ev3 {i : Nat} {m : Sm} {ρ ρ1 : Rho} {d : PyData} (h : m ρ = .ok d) (e : ρ.set i (some d) = ρ1) : asg i m ρ = .ok (.nx ρ1) := by
  rw [← e]
  exact asg_ev h
theorem asgM_ev3 {i : Nat} {m : Sm} {ρ ρ1 : Rho} {ds : List PyData} (h : m ρ = .ok (.list ds)) (e : ρ.set i (some (.list ds)) = ρ1) : asgM i m ρ = .ok (.nx ρ1) := by
  rw [← e]
  exact asgM_ev h
theorem asgG_ev3 {g : Sg} {m : Sm} {ρ ρ1 ρ2 : Rho} {d : PyData} (h : m ρ = .ok d) (e : g d ρ = .ok ρ1) (e2 : ρ1 = ρ2) : asgG g m ρ = .ok (.nx ρ2) := by
  subst e2
  unfold asgG
  rw [h]
  simp only [e]
theorem par_ev3 {is : List Nat} {m : SeA} {ρ ρ1 ρ2 : Rho} {ds : List PyData} (h : m ρ = .ok (ds, ρ1)) (e : setR ρ1 is ds = ρ2) : parS is m ρ = .ok (.nx ρ2) := by
  rw [← e]
  exact par_ev h
theorem par2_ev3 {i j : Nat} {m : SmA} {ρ ρ2 : Rho} {x y : PyData} (h : m ρ = .ok [x, y]) (e : (ρ.set i (some x)).set j (some y) = ρ2) : par i j m ρ = .ok (.nx ρ2) := by
  rw [← e]
  unfold par
  rw [h]
theorem aug_ev3 {f : PyData → PyData → Rs PyData} {i : Nat} {m : Sm} {ρ ρ2 : Rho} {x y z : PyData} (h0 : nm i ρ = .ok x) (h : m ρ = .ok y) (h3 : f x y = .ok z) (e : ρ.set i (some z) = ρ2) : aug f i m ρ = .ok (.nx ρ2) := by
  rw [← e]
  unfold aug
  rw [h0]
  simp only [h, h3]
theorem runB_rt3 {n : Nat} {b : Sb} {ds : List PyData} {d : PyData} {ρ ρ0 : Rho} (h0 : ds.map some ++ List.replicate n none = ρ0) (h : b ρ0 = .ok (.rt d ρ)) : runB n b ds = .ok d := by
  subst h0
  exact runB_rt h
theorem iff_t {t : SmT} {m n : Sb} {ρ : Rho} {o : Out} (h : t ρ = .ok true) (h2 : m ρ = .ok o) : iff t m n ρ = .ok o := (iff_ev h).trans h2
theorem iff_f {t : SmT} {m n : Sb} {ρ : Rho} {o : Out} (h : t ρ = .ok false) (h2 : n ρ = .ok o) : iff t m n ρ = .ok o := (iff_ev h).trans h2
theorem ifS_t {t : SmT} {m n : Sm} {ρ : Rho} {d : PyData} (h : t ρ = .ok true) (h2 : m ρ = .ok d) : ifS t m n ρ = .ok d := by
  unfold ifS
  rw [h]
  exact h2
theorem ifS_f {t : SmT} {m n : Sm} {ρ : Rho} {d : PyData} (h : t ρ = .ok false) (h2 : n ρ = .ok d) : ifS t m n ρ = .ok d := by
  unfold ifS
  rw [h]
  exact h2
theorem lft_ev3 {m : Sm} {ρ : Rho} {d : PyData} (h : m ρ = .ok d) : lft m ρ = .ok (d, ρ) := lft_ev h
theorem setR_nil {ρ : Rho} {ds : List PyData} : setR ρ [] ds = ρ := by
  unfold setR
  rfl
theorem setR_cons {ρ : Rho} {i : Nat} {is : List Nat} {d : PyData} {ds : List PyData} : setR ρ (i :: is) (d :: ds) = setR (ρ.set i (some d)) is ds := rfl
/-- comprehensions over mapped lists -/
theorem comp_map {α : Type} {m : SmA} {vs : List Nat} {g : Sg} {el : Sm} {ρ : Rho} {xs : List α} {toD f : α → PyData} (h : m ρ = .ok (xs.map toD)) (hb : xs.length ≤ 100000) (h2 : ∀ a ∈ xs, ∃ ρ1, g (toD a) (wipeR ρ vs) = .ok ρ1 ∧ el ρ1 = .ok (f a)) : compS m vs g tyes el ρ = .ok (.list (xs.map f)) := by
  refine comp_ev h (by rw [List.length_map]; exact hb) ?_
  induction xs generalizing m with
  | nil => rfl
  | cons a xs ih =>
    obtain ⟨ρ1, e1, e2⟩ := h2 a List.mem_cons_self
    have := ih (m := fun _ => .ok (xs.map toD)) rfl (by simp at hb; omega) fun a ha => h2 a (List.mem_cons_of_mem _ ha)
    simp only [List.map_cons, compL, e1, tyes, e2, this]
theorem comp_filter {α : Type} {m : SmA} {vs : List Nat} {g : Sg} {t : SmT} {el : Sm} {ρ : Rho} {xs : List α} {toD f : α → PyData} {p : α → Bool} (h : m ρ = .ok (xs.map toD)) (hb : xs.length ≤ 100000) (h2 : ∀ a ∈ xs, ∃ ρ1, g (toD a) (wipeR ρ vs) = .ok ρ1 ∧ t ρ1 = .ok (p a) ∧ (p a = true → el ρ1 = .ok (f a))) : compS m vs g t el ρ = .ok (.list ((xs.filter p).map f)) := by
  refine comp_ev h (by rw [List.length_map]; exact hb) ?_
  induction xs generalizing m with
  | nil => rfl
  | cons a xs ih =>
    obtain ⟨ρ1, e1, e2, e3⟩ := h2 a List.mem_cons_self
    have := ih (m := fun _ => .ok (xs.map toD)) rfl (by simp at hb; omega) fun a ha => h2 a (List.mem_cons_of_mem _ ha)
    cases hp : p a with
    | true =>
      rw [hp] at e2
      simp only [List.map_cons, compL, e1, e2, e3 hp, this, List.filter_cons, hp, if_true]
    | false =>
      rw [hp] at e2
      simp only [List.map_cons, compL, e1, e2, this, List.filter_cons, hp, Bool.false_eq_true, if_false]
theorem enum_map {α : Type} (toD : α → PyData) : ∀ (l : List α) (i : Nat), enumFrom i (l.map toD) = (l.zipIdx i).map fun p => .tuple [.int (p.2 : Nat), toD p.1]
  | [], _ => rfl
  | a :: l, i => by
    rw [List.map_cons, List.zipIdx_cons, List.map_cons, ← enum_map toD l (i + 1)]
    rfl
theorem intsOf_mapf {α : Type} (f : α → Int) (l : List α) : intsOf (l.map fun a => .int (f a)) = some (l.map f) := by
  rw [show (l.map fun a => PyData.int (f a)) = (l.map f).map .int by rw [List.map_map]; rfl]
  exact intsOf_map _
theorem max_ok {α : Type} {f : α → Int} {l : List α} (h : l ≠ []) : ∃ m, maxD [.list (l.map fun a => .int (f a))] = .ok (.int m) ∧ (∃ a ∈ l, f a = m) ∧ ∀ a ∈ l, f a ≤ m := by
  cases l with
  | nil => exact absurd rfl h
  | cons a l =>
    obtain ⟨h1, h2⟩ := maxI_mem (l.map f) (f a)
    refine ⟨maxI (f a) (l.map f), ?_, ?_, fun b hb => h2 _ ?_⟩
    · have e : intsOf (PyData.int (f a) :: l.map fun a => .int (f a)) = some (f a :: l.map f) := intsOf_mapf f (a :: l)
      rw [List.map_cons]
      unfold maxD
      simp only [e]
    · rw [← List.map_cons] at h1
      obtain ⟨b, hb, e⟩ := List.mem_map.mp h1
      exact ⟨b, hb, e⟩
    · rw [← List.map_cons]
      exact List.mem_map_of_mem hb
theorem min_ok {α : Type} {f : α → Int} {l : List α} (h : l ≠ []) : ∃ m, minD [.list (l.map fun a => .int (f a))] = .ok (.int m) ∧ (∃ a ∈ l, f a = m) ∧ ∀ a ∈ l, m ≤ f a := by
  cases l with
  | nil => exact absurd rfl h
  | cons a l =>
    obtain ⟨h1, h2⟩ := minI_mem (l.map f) (f a)
    refine ⟨minI (f a) (l.map f), ?_, ?_, fun b hb => h2 _ ?_⟩
    · have e : intsOf (PyData.int (f a) :: l.map fun a => .int (f a)) = some (f a :: l.map f) := intsOf_mapf f (a :: l)
      rw [List.map_cons]
      unfold minD
      simp only [e]
    · rw [← List.map_cons] at h1
      obtain ⟨b, hb, e⟩ := List.mem_map.mp h1
      exact ⟨b, hb, e⟩
    · rw [← List.map_cons]
      exact List.mem_map_of_mem hb
theorem min2_ok (i j : Int) : ∃ m, minD [.int i, .int j] = .ok (.int m) ∧ m ≤ i ∧ m ≤ j ∧ (m = i ∨ m = j) := by
  refine ⟨if j < i then j else i, rfl, ?_⟩
  split <;> omega
theorem max2_ok (i j : Int) : ∃ m, maxD [.int i, .int j] = .ok (.int m) ∧ i ≤ m ∧ j ≤ m ∧ (m = i ∨ m = j) := by
  refine ⟨if j > i then j else i, rfl, ?_⟩
  split <;> omega
theorem len_pts {l : List Pt} : lenD [pts l] = .ok (.int (l.length : Nat)) := by
  show Except.ok (PyData.int ((l.map pt).length : Nat)) = _
  rw [List.length_map]
theorem len_mapL {α : Type} {f : α → PyData} {l : List α} : lenD [.list (l.map f)] = .ok (.int (l.length : Nat)) := by
  show Except.ok (PyData.int ((l.map f).length : Nat)) = _
  rw [List.length_map]
theorem len_mapT {α : Type} {f : α → PyData} {l : List α} : lenD [.tuple (l.map f)] = .ok (.int (l.length : Nat)) := by
  show Except.ok (PyData.int ((l.map f).length : Nat)) = _
  rw [List.length_map]
/-! ### loops told by what is behind -/
theorem loop_pre {α : Type} {g : Sg} {b : Sb} (toD : α → PyData) (I : List α → Rho → Prop) (xs : List α) (ρ : Rho) (h0 : I [] ρ)
    (st : ∀ pre a post, xs = pre ++ a :: post → ∀ ρ, I pre ρ → ∃ ρ1 ρ2, g (toD a) ρ = .ok ρ1 ∧ (b ρ1 = .ok (.nx ρ2) ∨ b ρ1 = .ok (.ct ρ2)) ∧ I (pre ++ [a]) ρ2) :
    ∃ ρ', loop g b (xs.map toD) ρ = .ok (.nx ρ') ∧ I xs ρ' := by
  have key : ∀ (post pre : List α) (ρ : Rho), xs = pre ++ post → I pre ρ → ∃ ρ', loop g b (post.map toD) ρ = .ok (.nx ρ') ∧ I xs ρ' := by
    intro post
    induction post with
    | nil => intro pre ρ e h; rw [List.append_nil] at e; rw [e]; exact ⟨ρ, rfl, h⟩
    | cons a post ih =>
      intro pre ρ e h
      obtain ⟨ρ1, ρ2, h1, h2, h3⟩ := st pre a post e ρ h
      obtain ⟨ρ', h4, h5⟩ := ih (pre ++ [a]) ρ2 (by rw [e, List.append_assoc]; rfl) h3
      refine ⟨ρ', ?_, h5⟩
      rw [List.map_cons]
      rcases h2 with h2 | h2 <;> simp only [loop, h1, h2, h4]
  exact key xs [] ρ rfl h0
/-- fractions, places -/
abbrev fr (o u : Int) : PyData := .tuple [.int o, .int u]
abbrev pl (q : DG.Pl) : PyData := .tuple [fr q.px q.ps, fr q.py q.pt]
def intsP (l : List Nat) : List PyData := l.map fun i => .int (i : Nat)
theorem ix_head {x : PyData} {xs : List PyData} : ixD (.list (x :: xs)) (.int 0) = .ok x := by
  simp [ixD, L2.atI, L2.ixN]
theorem ix_headT {x : PyData} {xs : List PyData} : ixD (.tuple (x :: xs)) (.int 0) = .ok x := by
  simp [ixD, L2.atI, L2.ixN]
theorem ix_nat {α : Type} {f : α → PyData} {xs : List α} {i : Nat} (h : i < xs.length) : ixD (.list (xs.map f)) (.int (i : Nat)) = .ok (f xs[i]) := by
  have e : L2.atI (xs.map f) (i : Nat) = some (f xs[i]) := by
    unfold L2.atI L2.ixN
    rw [if_pos (by omega), List.length_map, if_pos (by omega)]
    simp [h]
  simp only [ixD, e]
theorem ne_pt (a b : Pt) : neD (pt a) (pt b) = .ok (.bool (!decide (a = b))) := by
  unfold neD
  rw [okD_pt, okD_pt, eqv_pt]
  rfl
theorem eq_pt (a b : Pt) : eqD (pt a) (pt b) = .ok (.bool (decide (a = b))) := by
  unfold eqD
  rw [okD_pt, okD_pt, eqv_pt]
  rfl
theorem loop_cons {g : Sg} {b : Sb} {d : PyData} {ds : List PyData} {ρ ρ1 ρ2 : Rho} {o : Out} (h1 : g d ρ = .ok ρ1) (h2 : b ρ1 = .ok (.nx ρ2)) (h3 : loop g b ds ρ2 = .ok o) : loop g b (d :: ds) ρ = .ok o := by
  simp only [loop, h1, h2, h3]
theorem loop_nil {g : Sg} {b : Sb} {ρ : Rho} : loop g b [] ρ = .ok (.nx ρ) := rfl
theorem calQE_ev {i n : Nat} {f : List PyData → Rs (PyData × PyData)} {m : SeA} {ρ ρ1 : Rho} {x x1 d : PyData} {ds ys : List PyData} (h0 : nm i ρ = .ok x) (h1 : m ρ = .ok (ds, ρ1)) (h2 : nm i ρ1 = .ok x1) (hn : ds.length + 1 = n) (h3 : f (x1 :: ds) = .ok (d, .list ys)) : calQE i n f m ρ = .ok (d, ρ1.set i (some (.list ys))) := by
  unfold calQE
  rw [h0]
  simp only [h1, h2, hn, if_true, h3]
theorem zip_range (l : List Pt) : l.zipIdx = (List.range l.length).map fun k => (P l k, k) := by
  apply List.ext_getElem
  · simp
  · intro i h1 h2
    have hi : i < l.length := by simpa using h1
    simp [P, hi]
theorem shBs_le {α : Type} {f : α → PyData} {k : Nat} : ∀ {xs : List α}, (∀ a ∈ xs, shB (f a) ≤ k) → shBs (xs.map f) ≤ (k + 2) * xs.length
  | [], _ => by simp [shBs]
  | a :: xs, h => by
    have h1 := h a List.mem_cons_self
    have h2 := shBs_le (xs := xs) fun b hb => h b (List.mem_cons_of_mem _ hb)
    rw [List.map_cons, shBs, List.length_cons, Nat.mul_succ]
    omega
/-- two lists of the same things show the same -/
theorem repr_same {d : PyData} (h : tidy 20 d = true) (hb : shB d ≤ big) {a b : Sm} {ρ : Rho} (ha : a ρ = .ok d) (hb2 : b ρ = .ok d) : bin eqD (apS reprD (acons a anil)) (apS reprD (acons b anil)) ρ = .ok (.bool true) := by
  have e := repr_ok h hb
  exact (bin_ev ((ap_ev (acons_ev ha rfl)).trans e) ((ap_ev (acons_ev hb2 rfl)).trans e)).trans (eq_repr h)
end DL

set_option Elab.async false
set_option linter.all false
set_option maxRecDepth 100000
set_option maxHeartbeats 0
namespace K41
open PySem PySem.Spec PyProof.Rows L2
def top (i : Nat) : Stmt := PySem.Challenge.pw_pointsaround_k41_deepest_points.main.body.getD i (.Pass ⟨0, 0, 0, 0⟩)
abbrev s_is_whole : Stmt := top 5
abbrev s_is_between : Stmt := top 6
abbrev s_is_tuple_of : Stmt := top 7
abbrev s_is_row : Stmt := top 8
abbrev s_first_wrong : Stmt := top 9
abbrev s_lowest : Stmt := top 10
abbrev s_plus : Stmt := top 11
abbrev s_times : Stmt := top 12
abbrev s_is_less : Stmt := top 13
abbrev s_is_point : Stmt := top 17
abbrev s_wrong_point : Stmt := top 18
abbrev s_check_points : Stmt := top 19
abbrev s_place_of : Stmt := top 20
abbrev s_reach_of : Stmt := top 21
abbrev s_directions_of : Stmt := top 22
abbrev s_beyond : Stmt := top 24
abbrev s_deep_by : Stmt := top 25
abbrev s_depth_by : Stmt := top 26
abbrev s_deepest_by : Stmt := top 27
abbrev s_deepest : Stmt := top 28
abbrev s__law_pool : Stmt := top 30
abbrev s__law_take : Stmt := top 31
abbrev s__law_of : Stmt := top 32
abbrev s__law_turn : Stmt := top 33
abbrev s__law_is_loose : Stmt := top 34
abbrev s__law_points : Stmt := top 35
abbrev s__law_ways : Stmt := top 36
abbrev s__law_depth : Stmt := top 37
abbrev s__law_right : Stmt := top 38
abbrev s_law : Stmt := top 39
def d_is_whole : He.DefD := ⟨("is_whole", none), "is_whole", "is_whole", defArgs s_is_whole, defBody s_is_whole, defScope s_is_whole, [], []⟩
def d_is_between : He.DefD := ⟨("is_between", none), "is_between", "is_between", defArgs s_is_between, defBody s_is_between, defScope s_is_between, [], []⟩
def d_is_tuple_of : He.DefD := ⟨("is_tuple_of", none), "is_tuple_of", "is_tuple_of", defArgs s_is_tuple_of, defBody s_is_tuple_of, defScope s_is_tuple_of, [], []⟩
def d_is_row : He.DefD := ⟨("is_row", none), "is_row", "is_row", defArgs s_is_row, defBody s_is_row, defScope s_is_row, [], []⟩
def d_first_wrong : He.DefD := ⟨("first_wrong", none), "first_wrong", "first_wrong", defArgs s_first_wrong, defBody s_first_wrong, defScope s_first_wrong, [], []⟩
def d_lowest : He.DefD := ⟨("lowest", none), "lowest", "lowest", defArgs s_lowest, defBody s_lowest, defScope s_lowest, [], []⟩
def d_plus : He.DefD := ⟨("plus", none), "plus", "plus", defArgs s_plus, defBody s_plus, defScope s_plus, [], []⟩
def d_times : He.DefD := ⟨("times", none), "times", "times", defArgs s_times, defBody s_times, defScope s_times, [], []⟩
def d_is_less : He.DefD := ⟨("is_less", none), "is_less", "is_less", defArgs s_is_less, defBody s_is_less, defScope s_is_less, [], []⟩
def d_is_point : He.DefD := ⟨("is_point", none), "is_point", "is_point", defArgs s_is_point, defBody s_is_point, defScope s_is_point, [], []⟩
def d_wrong_point : He.DefD := ⟨("wrong_point", none), "wrong_point", "wrong_point", defArgs s_wrong_point, defBody s_wrong_point, defScope s_wrong_point, [], []⟩
def d_check_points : He.DefD := ⟨("check_points", none), "check_points", "check_points", defArgs s_check_points, defBody s_check_points, defScope s_check_points, [], []⟩
def d_place_of : He.DefD := ⟨("place_of", none), "place_of", "place_of", defArgs s_place_of, defBody s_place_of, defScope s_place_of, [], []⟩
def d_reach_of : He.DefD := ⟨("reach_of", none), "reach_of", "reach_of", defArgs s_reach_of, defBody s_reach_of, defScope s_reach_of, [], []⟩
def d_directions_of : He.DefD := ⟨("directions_of", none), "directions_of", "directions_of", defArgs s_directions_of, defBody s_directions_of, defScope s_directions_of, [], []⟩
def d_beyond : He.DefD := ⟨("beyond", none), "beyond", "beyond", defArgs s_beyond, defBody s_beyond, defScope s_beyond, [], []⟩
def d_deep_by : He.DefD := ⟨("deep_by", none), "deep_by", "deep_by", defArgs s_deep_by, defBody s_deep_by, defScope s_deep_by, [], []⟩
def d_depth_by : He.DefD := ⟨("depth_by", none), "depth_by", "depth_by", defArgs s_depth_by, defBody s_depth_by, defScope s_depth_by, [], []⟩
def d_deepest_by : He.DefD := ⟨("deepest_by", none), "deepest_by", "deepest_by", defArgs s_deepest_by, defBody s_deepest_by, defScope s_deepest_by, [], []⟩
def d_deepest : He.DefD := ⟨("deepest", none), "deepest", "deepest", defArgs s_deepest, defBody s_deepest, defScope s_deepest, [], []⟩
def d__law_pool : He.DefD := ⟨("_law_pool", none), "_law_pool", "_law_pool", defArgs s__law_pool, defBody s__law_pool, defScope s__law_pool, [], []⟩
def d__law_take : He.DefD := ⟨("_law_take", none), "_law_take", "_law_take", defArgs s__law_take, defBody s__law_take, defScope s__law_take, [], []⟩
def d__law_of : He.DefD := ⟨("_law_of", none), "_law_of", "_law_of", defArgs s__law_of, defBody s__law_of, defScope s__law_of, [], []⟩
def d__law_turn : He.DefD := ⟨("_law_turn", none), "_law_turn", "_law_turn", defArgs s__law_turn, defBody s__law_turn, defScope s__law_turn, [], []⟩
def d__law_is_loose : He.DefD := ⟨("_law_is_loose", none), "_law_is_loose", "_law_is_loose", defArgs s__law_is_loose, defBody s__law_is_loose, defScope s__law_is_loose, [], []⟩
def d__law_points : He.DefD := ⟨("_law_points", none), "_law_points", "_law_points", defArgs s__law_points, defBody s__law_points, defScope s__law_points, [], []⟩
def d__law_ways : He.DefD := ⟨("_law_ways", none), "_law_ways", "_law_ways", defArgs s__law_ways, defBody s__law_ways, defScope s__law_ways, [], []⟩
def d__law_depth : He.DefD := ⟨("_law_depth", none), "_law_depth", "_law_depth", defArgs s__law_depth, defBody s__law_depth, defScope s__law_depth, [], []⟩
def d__law_right : He.DefD := ⟨("_law_right", none), "_law_right", "_law_right", defArgs s__law_right, defBody s__law_right, defScope s__law_right, [], []⟩
def d_law : He.DefD := ⟨("law", none), "law", "law", defArgs s_law, defBody s_law, defScope s_law, [], []⟩
def fn : List He.DefD := [d_is_whole, d_is_between, d_is_tuple_of, d_is_row, d_first_wrong, d_lowest, d_plus, d_times, d_is_less, d_is_point, d_wrong_point, d_check_points, d_place_of, d_reach_of, d_directions_of, d_beyond, d_deep_by, d_depth_by, d_deepest_by, d_deepest, d__law_pool, d__law_take, d__law_of, d__law_turn, d__law_is_loose, d__law_points, d__law_ways, d__law_depth, d__law_right, d_law]
def fa : List He.Fa := [.glo "is_whole", .glo "is_between", .glo "is_tuple_of", .glo "is_row", .glo "first_wrong", .glo "lowest", .glo "plus", .glo "times", .glo "is_less", .glo "is_point", .glo "wrong_point", .glo "check_points", .glo "place_of", .glo "reach_of", .glo "directions_of", .glo "beyond", .glo "deep_by", .glo "depth_by", .glo "deepest_by", .glo "deepest", .glo "_law_pool", .glo "_law_take", .glo "_law_of", .glo "_law_turn", .glo "_law_is_loose", .glo "_law_points", .glo "_law_ways", .glo "_law_depth", .glo "_law_right", .glo "law", .free "abs", .free "all", .free "any", .free "bool", .free "divmod", .free "enumerate", .free "int", .free "isinstance", .free "len", .free "max", .free "min", .free "range", .free "repr", .free "sum", .free "tuple", .int "MOST_COORDINATE" 99, .int "MOST_POINTS" 9]
def tf : List He.Defn := [("wrong_point", none)]
def ex (K : PySem.W.Frag) : Bool := He.eqO (PySem.W.nsIn K mainGlobals "gcd") (some (some (.builtin "math.gcd")))
abbrev R : PySem.W.OpenRow := PySem.W.OpenLaw.row PySem.Challenge.rw_pointsaround_k41_deepest_points
abbrev qv : Program := PySem.W.view R.prog [0, 39]
abbrev hk : PySem.W.Hook := He.hookX 4 fa fn [] tf ex
def ob (s : PySem.W.SharedT) : He.AlX := He.obsX 4 fa fn [] tf ex (HandSHeadRun.getT s)
theorem ob_eq (s : PySem.W.SharedT) : ob s = hk.obs s.abs := He.obsX_eq (HandSHeadRun.getT_eq s)
def names : List PySem.Str := [("__name__" : PySem.Str), ("PointError" : PySem.Str), ("InvalidPoints" : PySem.Str), ("is_whole" : PySem.Str), ("is_between" : PySem.Str), ("is_tuple_of" : PySem.Str), ("is_row" : PySem.Str), ("first_wrong" : PySem.Str), ("lowest" : PySem.Str), ("plus" : PySem.Str), ("times" : PySem.Str), ("is_less" : PySem.Str), ("MOST_COORDINATE" : PySem.Str), ("MOST_POINTS" : PySem.Str), ("is_point" : PySem.Str), ("wrong_point" : PySem.Str), ("check_points" : PySem.Str), ("place_of" : PySem.Str), ("reach_of" : PySem.Str), ("directions_of" : PySem.Str), ("beyond" : PySem.Str), ("deep_by" : PySem.Str), ("depth_by" : PySem.Str), ("deepest_by" : PySem.Str), ("deepest" : PySem.Str), ("_law_pool" : PySem.Str), ("_law_take" : PySem.Str), ("_law_of" : PySem.Str), ("_law_turn" : PySem.Str), ("_law_is_loose" : PySem.Str), ("_law_points" : PySem.Str), ("_law_ways" : PySem.Str), ("_law_depth" : PySem.Str), ("_law_right" : PySem.Str)]
theorem run (w : World) : HandSHeadRun.RunEqI R qv hk ob 6000 names w := by
  unfold HandSHeadRun.RunEqI
  kernel_rfl
end K41

set_option Elab.async false
set_option linter.all false
set_option maxRecDepth 100000
set_option maxHeartbeats 0
/-! what the defs of law_k41_deepest_points answer -/
namespace K41
open PySem PySem.Spec L2 DL
def l__law_pool_1 : Sb := asg 3 (bin modD (bin addD (bin addD (bin mulD (nm 3) (cst (.int 48271))) (bin mulD (bin modD (nm 5) (cst (.int 2147483399))) (cst (.int 19)))) (cst (.int 7))) (cst (.int 2147483399)))
def b__law_pool : Sb := sq (parS [2, 3] (econs (lft (apS sumD (acons (slS (nm 0) (osome (nm 1)) (osome (bin addD (nm 1) (cst (.int 1))))) (anil)))) (econs (lft (bin addD (cst (.int 50021)) (bin mulD (cst (.int 977)) (nm 1)))) (enil)))) (sq (asg 4 (bin mulD (bin mulD (bin mulD (bin mulD (bin mulD (bin powD (cst (.int 10)) (cst (.int 64))) (bin powD (cst (.int 10)) (cst (.int 64)))) (bin powD (cst (.int 10)) (cst (.int 64)))) (bin powD (cst (.int 10)) (cst (.int 64)))) (bin powD (cst (.int 10)) (cst (.int 64)))) (bin powD (cst (.int 10)) (cst (.int 64))))) (sq (forS (itS (slS (nm 0) (onone) (osome (cst (.int 12))))) (gnm 5) (l__law_pool_1)) (ret (lstS (acons (ifS (tor (tcmp ltD (nm 2) (cst (.int 0))) (tcmp geD (nm 2) (bin powD (cst (.int 10)) (cst (.int 18))))) (bin modD (apS absD (acons (nm 2) (anil))) (nm 4)) (cst (.int 0))) (acons (nm 3) (acons (cst (.int 0)) (anil))))))))
def f__law_pool : List PyData → Rs PyData := runB 4 b__law_pool
def e__law_ways_1 : Sm := tupS (acons (bin mulD (bin subD (bin mulD (nm 6) (nm 3)) (nm 2)) (nm 5)) (acons (bin mulD (bin subD (bin mulD (nm 7) (nm 5)) (nm 4)) (nm 3)) (anil)))
def b__law_ways : Sb := sq (asgG (gtup 2 (gscons (gnm 2) (gscons (gnm 3) (gsnil)))) (bin ixD (nm 1) (cst (.int 0)))) (sq (asgG (gtup 2 (gscons (gnm 4) (gscons (gnm 5) (gsnil)))) (bin ixD (nm 1) (cst (.int 1)))) (ret (compS (itS (nm 0)) [6, 7] (gtup 2 (gscons (gnm 6) (gscons (gnm 7) (gsnil)))) (tyes) (e__law_ways_1))))
def f__law_ways : List PyData → Rs PyData := runB 6 b__law_ways
def e__law_depth_1 : Sm := bin addD (apS absD (acons (nm 11) (anil))) (apS absD (acons (nm 12) (anil)))
def t__law_depth_2 : SmT := tcmp geD (bin addD (bin mulD (nm 9) (nm 11)) (bin mulD (nm 10) (nm 12))) (cst (.int 0))
def e__law_depth_3 : Sm := cst (.int 1)
def l__law_depth_4 : Sb := sq (parS [9, 10] (econs (lft (bin addD (bin subD (cst (.int 0)) (bin mulD (bin mulD (nm 7) (nm 6)) (nm 4))) (bin mulD (nm 8) (nm 5)))) (econs (lft (bin addD (bin mulD (bin mulD (nm 7) (nm 5)) (nm 4)) (bin mulD (nm 8) (nm 6)))) (enil)))) (asg 3 (apS minD (acons (nm 3) (acons (apS lenD (acons (compS (itS (nm 2)) [11, 12] (gtup 2 (gscons (gnm 11) (gscons (gnm 12) (gsnil)))) (t__law_depth_2) (e__law_depth_3)) (anil))) (anil)))))
def l__law_depth_5 : Sb := forS (itS (lstS (acons (cst (.int 1)) (acons (cst (.int 0)) (acons (bin subD (cst (.int 0)) (cst (.int 1))) (anil)))))) (gnm 8) (l__law_depth_4)
def l__law_depth_6 : Sb := forS (itS (lstS (acons (cst (.int 1)) (acons (bin subD (cst (.int 0)) (cst (.int 1))) (anil))))) (gnm 7) (l__law_depth_5)
def t__law_depth_7 : SmT := tcmp neD (nm 13) (tupS (acons (cst (.int 0)) (acons (cst (.int 0)) (anil))))
def e__law_depth_8 : Sm := nm 13
def b__law_depth : Sb := sq (parS [2, 3] (econs (lft (calS [] 2 f__law_ways (acons (nm 0) (acons (nm 1) (anil))))) (econs (lft (apS lenD (acons (nm 0) (anil)))) (enil)))) (sq (asg 4 (bin addD (cst (.int 1)) (apS maxD (acons (compS (itS (nm 2)) [11, 12] (gtup 2 (gscons (gnm 11) (gscons (gnm 12) (gsnil)))) (tyes) (e__law_depth_1)) (anil))))) (sq (asg 4 (bin mulD (nm 4) (nm 4))) (sq (forS (itS (compS (itS (nm 2)) [13] (gnm 13) (t__law_depth_7) (e__law_depth_8))) (gtup 2 (gscons (gnm 5) (gscons (gnm 6) (gsnil)))) (l__law_depth_6)) (ret (nm 3)))))
def f__law_depth : List PyData → Rs PyData := runB 12 b__law_depth
def b__law_turn : Sb := sq (asg 3 (bin mulD (bin subD (bin ixD (nm 1) (cst (.int 0))) (bin ixD (nm 0) (cst (.int 0)))) (bin subD (bin ixD (nm 2) (cst (.int 1))) (bin ixD (nm 0) (cst (.int 1)))))) (ret (bin subD (nm 3) (bin mulD (bin subD (bin ixD (nm 1) (cst (.int 1))) (bin ixD (nm 0) (cst (.int 1)))) (bin subD (bin ixD (nm 2) (cst (.int 0))) (bin ixD (nm 0) (cst (.int 0)))))))
def f__law_turn : List PyData → Rs PyData := runB 1 b__law_turn
def e__law_is_loose_1 : Sm := bin eqD (calS [] 3 f__law_turn (acons (bin ixD (nm 0) (nm 3)) (acons (bin ixD (nm 0) (nm 2)) (acons (bin ixD (nm 0) (nm 1)) (anil))))) (cst (.int 0))
def l__law_is_loose_2 : Sb := iff (tsv (apS anyD (acons (compS (itR1 (acons (nm 2) (anil))) [3] (gnm 3) (tyes) (e__law_is_loose_1)) (anil)))) (ret (cst (.bool false))) (skip)
def l__law_is_loose_3 : Sb := forS (itR1 (acons (nm 1) (anil))) (gnm 2) (l__law_is_loose_2)
def b__law_is_loose : Sb := sq (forS (itR1 (acons (apS lenD (acons (nm 0) (anil))) (anil))) (gnm 1) (l__law_is_loose_3)) (ret (cst (.bool true)))
def f__law_is_loose : List PyData → Rs PyData := runB 3 b__law_is_loose
def b__law_take : Sb := sq (iff (tcmp gtD (bin ixD (nm 0) (cst (.int 0))) (cst (.int 0))) (sq (asgW (gtup 2 (gscons (gix 0 (cst (.int 0))) (gscons (gnm 2) (gsnil)))) (lft (apS divmodD (acons (bin ixD (nm 0) (cst (.int 0))) (acons (nm 1) (anil)))))) (ret (nm 2))) (skip)) (sq (asgW (gix 0 (cst (.int 2))) (lft (bin addD (bin ixD (nm 0) (cst (.int 2))) (cst (.int 1))))) (sq (asg 3 (bin modD (bin addD (bin ixD (nm 0) (cst (.int 1))) (bin mulD (cst (.int 28657)) (bin ixD (nm 0) (cst (.int 2))))) (cst (.int 2147483399)))) (sq (asgW (gix 0 (cst (.int 1))) (lft (bin modD (bin addD (bin mulD (nm 3) (bin addD (bin modD (nm 3) (cst (.int 5003))) (cst (.int 48271)))) (bin mulD (cst (.int 17)) (bin ixD (nm 0) (cst (.int 2))))) (cst (.int 2147483399))))) (ret (bin modD (bin fdivD (bin ixD (nm 0) (cst (.int 1))) (cst (.int 613))) (nm 1))))))
def f__law_take : List PyData → Rs (PyData × PyData) := runQ 2 b__law_take
def b__law_of : Sb := retE (binE ixD (lft (nm 1)) (calQ 0 2 f__law_take (acons (apS lenD (acons (nm 1) (anil))) (anil))))
def f__law_of : List PyData → Rs (PyData × PyData) := runQ 0 b__law_of
def l__law_points_1 : Sb := sq (asgE 6 (tupE (econs (binE subD (calQ 0 2 f__law_take (acons (bin addD (bin mulD (cst (.int 2)) (nm 4)) (cst (.int 1))) (anil))) (lft (nm 4))) (econs (binE subD (calQ 0 2 f__law_take (acons (bin addD (bin mulD (cst (.int 2)) (nm 4)) (cst (.int 1))) (anil))) (lft (nm 4))) (enil))))) (iff (tand (tcmp ninD (nm 6) (nm 3)) (tor (tnot (tsv (nm 2))) (tsv (calS [] 1 f__law_is_loose (acons (bin addD (nm 3) (lstS (acons (nm 6) (anil)))) (anil)))))) (drpE (mthE 3 appF (econs (lft (nm 6)) (enil)))) (skip))
def b__law_points : Sb := sq (parS [3, 4] ((nwc (lstS (anil)) (econs (calQ 0 2 f__law_of (acons (lstS (acons (cst (.int 3)) (acons (cst (.int 5)) (acons (cst (.int 9)) (acons (cst (.int 99)) (anil)))))) (anil))) (enil))))) (sq (forE (itR1E (econs (binE addD (lft (cst (.int 1))) (calQ 0 2 f__law_take (acons (nm 1) (anil)))) (enil))) (gnm 5) (l__law_points_1)) (ret (apS tupleD (acons (nm 3) (anil)))))
def f__law_points : List PyData → Rs (PyData × PyData) := runQ 4 b__law_points
def b_is_row : Sb := ret (andS (isiS "tuple" (nm 0)) (chn leD leD (nm 1) (apS lenD (acons (nm 0) (anil))) (nm 2)))
def f_is_row : List PyData → Rs PyData := runB 0 b_is_row
def b_is_whole : Sb := ret (andS (isiS "int" (nm 0)) (notS (isiS "bool" (nm 0))))
def f_is_whole : List PyData → Rs PyData := runB 0 b_is_whole
def b_is_between : Sb := ret (andS (calS [] 1 f_is_whole (acons (nm 0) (anil))) (chn leD leD (nm 1) (nm 0) (nm 2)))
def f_is_between : List PyData → Rs PyData := runB 0 b_is_between
def b_is_tuple_of : Sb := ret (andS (isiS "tuple" (nm 0)) (bin eqD (apS lenD (acons (nm 0) (anil))) (nm 1)))
def f_is_tuple_of : List PyData → Rs PyData := runB 0 b_is_tuple_of
def e_is_point_1 : Sm := calS [] 3 f_is_between (acons (nm 1) (acons (negS (cst (.int 99))) (acons (cst (.int 99)) (anil))))
def b_is_point : Sb := ret (andS (calS [] 2 f_is_tuple_of (acons (nm 0) (acons (cst (.int 2)) (anil)))) (apS allD (acons (compS (itS (nm 0)) [1] (gnm 1) (tyes) (e_is_point_1)) (anil))))
def f_is_point : List PyData → Rs PyData := runB 1 b_is_point
def b_wrong_point : Sb := ret (fwS (lam2 0 (andS (calS [] 1 f_is_point (acons (nm 0) (anil))) (bin ninD (nm 0) (nm 1)))) (nm 0))
def f_wrong_point : List PyData → Rs PyData := runB 0 b_wrong_point
def b_check_points : Sb := sq (iff (tnot (tsv (calS [] 3 f_is_row (acons (nm 0) (acons (cst (.int 1)) (acons (cst (.int 9)) (anil))))))) (never) (skip)) (sq (asg 1 (calS [] 1 f_wrong_point (acons (nm 0) (anil)))) (iff (tcmp isnD (nm 1) (cst .none)) (never) (skip)))
def f_check_points : List PyData → Rs PyData := runB 1 b_check_points
def b_is_less : Sb := ret (bin ltD (bin mulD (bin ixD (nm 0) (cst (.int 0))) (bin ixD (nm 1) (cst (.int 1)))) (bin mulD (bin ixD (nm 1) (cst (.int 0))) (bin ixD (nm 0) (cst (.int 1)))))
def f_is_less : List PyData → Rs PyData := runB 0 b_is_less
def b_place_of : Sb := ret (tupS (acons (tupS (acons (bin ixD (nm 0) (cst (.int 0))) (acons (cst (.int 1)) (anil)))) (acons (tupS (acons (bin ixD (nm 0) (cst (.int 1))) (acons (cst (.int 1)) (anil)))) (anil))))
def f_place_of : List PyData → Rs PyData := runB 0 b_place_of
def b_lowest : Sb := sq (asg 2 (ifS (tcmp gtD (nm 1) (cst (.int 0))) (apS gcdD (acons (nm 0) (acons (nm 1) (anil)))) (negS (apS gcdD (acons (nm 0) (acons (nm 1) (anil))))))) (ret (tupS (acons (bin fdivD (nm 0) (nm 2)) (acons (bin fdivD (nm 1) (nm 2)) (anil)))))
def f_lowest : List PyData → Rs PyData := runB 1 b_lowest
def b_plus : Sb := ret (calS [] 2 f_lowest (acons (bin addD (bin mulD (bin ixD (nm 0) (cst (.int 0))) (bin ixD (nm 1) (cst (.int 1)))) (bin mulD (bin ixD (nm 1) (cst (.int 0))) (bin ixD (nm 0) (cst (.int 1))))) (acons (bin mulD (bin ixD (nm 0) (cst (.int 1))) (bin ixD (nm 1) (cst (.int 1)))) (anil))))
def f_plus : List PyData → Rs PyData := runB 0 b_plus
def b_times : Sb := ret (calS [] 2 f_lowest (acons (bin mulD (bin ixD (nm 0) (cst (.int 0))) (bin ixD (nm 1) (cst (.int 0)))) (acons (bin mulD (bin ixD (nm 0) (cst (.int 1))) (bin ixD (nm 1) (cst (.int 1)))) (anil))))
def f_times : List PyData → Rs PyData := runB 0 b_times
def b_reach_of : Sb := ret (calS [] 2 f_plus (acons (calS [] 2 f_times (acons (tupS (acons (bin ixD (nm 0) (cst (.int 0))) (acons (cst (.int 1)) (anil)))) (acons (bin ixD (nm 1) (cst (.int 0))) (anil)))) (acons (calS [] 2 f_times (acons (tupS (acons (bin ixD (nm 0) (cst (.int 1))) (acons (cst (.int 1)) (anil)))) (acons (bin ixD (nm 1) (cst (.int 1))) (anil)))) (anil))))
def f_reach_of : List PyData → Rs PyData := runB 0 b_reach_of
def t_beyond_1 : SmT := tsv (calS [] 2 f_is_less (acons (nm 3) (acons (calS [] 2 f_reach_of (acons (nm 2) (acons (calS [] 1 f_place_of (acons (nm 5) (anil))) (anil)))) (anil))))
def e_beyond_2 : Sm := nm 4
def b_beyond : Sb := sq (asg 3 (calS [] 2 f_reach_of (acons (nm 2) (acons (nm 1) (anil))))) (ret (compS (itEn (acons (nm 0) (anil))) [4, 5] (gtup 2 (gscons (gnm 4) (gscons (gnm 5) (gsnil)))) (t_beyond_1) (e_beyond_2)))
def f_beyond : List PyData → Rs PyData := runB 3 b_beyond
def l_directions_of_1 : Sb := iff (tcmp neD (nm 3) (nm 4)) (sq (parS [5, 6] (econs (lft (bin subD (bin ixD (bin ixD (nm 0) (nm 4)) (cst (.int 0))) (bin ixD (bin ixD (nm 0) (nm 3)) (cst (.int 0))))) (econs (lft (bin subD (bin ixD (bin ixD (nm 0) (nm 4)) (cst (.int 1))) (bin ixD (bin ixD (nm 0) (nm 3)) (cst (.int 1))))) (enil)))) (drpE (mthE 2 extF (econs (lft (lstS (acons (tupS (acons (negS (nm 6)) (acons (nm 5) (anil)))) (acons (tupS (acons (nm 5) (acons (nm 6) (anil)))) (anil))))) (enil))))) (skip)
def l_directions_of_2 : Sb := forS (itS (nm 1)) (gnm 4) (l_directions_of_1)
def b_directions_of : Sb := sq (asgM 2 (lstS (acons (tupS (acons (cst (.int 1)) (acons (cst (.int 0)) (anil)))) (acons (tupS (acons (negS (cst (.int 1))) (acons (cst (.int 0)) (anil)))) (acons (tupS (acons (cst (.int 0)) (acons (cst (.int 1)) (anil)))) (acons (tupS (acons (cst (.int 0)) (acons (negS (cst (.int 1))) (anil)))) (anil))))))) (sq (forS (itS (nm 1)) (gnm 3) (l_directions_of_2)) (ret (nm 2)))
def f_directions_of : List PyData → Rs PyData := runB 5 b_directions_of
def e_deep_by_1 : Sm := tupS (acons (apS lenD (acons (calS [] 3 f_beyond (acons (nm 0) (acons (nm 1) (acons (nm 6) (anil))))) (anil))) (acons (nm 6) (anil)))
def e_deep_by_2 : Sm := nm 7
def t_deep_by_3 : SmT := tcmp eqD (nm 7) (nm 4)
def e_deep_by_4 : Sm := nm 6
def b_deep_by : Sb := sq (asg 2 (calS [] 2 f_directions_of (acons (nm 0) (acons (tupR (rng1 (apS lenD (acons (nm 0) (anil))))) (anil))))) (sq (asg 3 (compS (itS (nm 2)) [6] (gnm 6) (tyes) (e_deep_by_1))) (sq (asg 4 (apS maxD (acons (compS (itS (nm 3)) [7, 6] (gtup 2 (gscons (gnm 7) (gscons (gnm 6) (gsnil)))) (tyes) (e_deep_by_2)) (anil)))) (sq (asg 5 (bin ixD (compS (itS (nm 3)) [7, 6] (gtup 2 (gscons (gnm 7) (gscons (gnm 6) (gsnil)))) (t_deep_by_3) (e_deep_by_4)) (cst (.int 0)))) (ret (tupS (acons (bin subD (apS lenD (acons (nm 0) (anil))) (nm 4)) (acons (tupS (acons (negS (bin ixD (nm 5) (cst (.int 0)))) (acons (negS (bin ixD (nm 5) (cst (.int 1)))) (anil)))) (anil))))))))
def f_deep_by : List PyData → Rs PyData := runB 6 b_deep_by
def b_depth_by : Sb := ret (bin ixD (calS [] 2 f_deep_by (acons (nm 0) (acons (nm 1) (anil)))) (cst (.int 0)))
def f_depth_by : List PyData → Rs PyData := runB 0 b_depth_by
def e_deepest_by_1 : Sm := calS [] 2 f_depth_by (acons (nm 0) (acons (calS [] 1 f_place_of (acons (nm 2) (anil))) (anil)))
def t_deepest_by_2 : SmT := tcmp eqD (nm 4) (apS maxD (acons (nm 1) (anil)))
def e_deepest_by_3 : Sm := nm 3
def b_deepest_by : Sb := sq (asg 1 (compS (itS (nm 0)) [2] (gnm 2) (tyes) (e_deepest_by_1))) (ret (apS tupleD (acons (compS (itEn (acons (nm 1) (anil))) [3, 4] (gtup 2 (gscons (gnm 3) (gscons (gnm 4) (gsnil)))) (t_deepest_by_2) (e_deepest_by_3)) (anil))))
def f_deepest_by : List PyData → Rs PyData := runB 4 b_deepest_by
def b_deepest : Sb := sq (drp (calS [] 1 f_check_points (acons (nm 0) (anil)))) (ret (calS [] 1 f_deepest_by (acons (nm 0) (anil))))
def f_deepest : List PyData → Rs PyData := runB 0 b_deepest
def e__law_right_1 : Sm := calS [] 2 f__law_depth (acons (nm 2) (acons (tupS (acons (tupS (acons (nm 5) (acons (cst (.int 1)) (anil)))) (acons (tupS (acons (nm 6) (acons (cst (.int 1)) (anil)))) (anil)))) (anil)))
def t__law_right_2 : SmT := tcmp eqD (bin ixD (nm 3) (nm 7)) (apS maxD (acons (nm 3) (anil)))
def e__law_right_3 : Sm := nm 7
def b__law_right : Sb := sq (asgE 2 (calQE 0 3 f__law_points (econs (lft (nm 1)) (econs (binE eqD (calQ 0 2 f__law_take (acons (cst (.int 2)) (anil))) (lft (cst (.int 0)))) (enil))))) (sq (asg 3 (compS (itS (nm 2)) [5, 6] (gtup 2 (gscons (gnm 5) (gscons (gnm 6) (gsnil)))) (tyes) (e__law_right_1))) (sq (asg 4 (apS tupleD (acons (compS (itR1 (acons (apS lenD (acons (nm 2) (anil))) (anil))) [7] (gnm 7) (t__law_right_2) (e__law_right_3)) (anil)))) (ret (bin eqD (apS reprD (acons (lstS (acons (calS [] 1 f_deepest (acons (nm 2) (anil))) (acons (calS [] 1 f_deepest (acons (nm 2) (anil))) (anil)))) (anil))) (apS reprD (acons (lstS (acons (nm 4) (acons (nm 4) (anil)))) (anil)))))))
def f__law_right : List PyData → Rs (PyData × PyData) := runQ 6 b__law_right
def l_law_1 : Sb := iffE (tnotE (tsvE (calQ 2 2 f__law_right (acons (nm 3) (anil))))) (ret (cst (.bool false))) (skip)
def l_law_2 : Sb := sq (asgM 2 (calS [0] 2 f__law_pool (acons (nm 0) (acons (nm 1) (anil))))) (forS (itS (lstS (acons (cst (.int 9)) (acons (cst (.int 7)) (acons (cst (.int 5)) (acons (cst (.int 3)) (acons (cst (.int 6)) (anil)))))))) (gnm 3) (l_law_1))
def b_law : Sb := sq (forS (itR1 (acons (apS maxD (acons (cst (.int 2)) (acons (apS minD (acons (apS lenD (acons (nm 0) (anil))) (acons (cst (.int 3)) (anil)))) (anil)))) (anil))) (gnm 1) (l_law_2)) (ret (cst (.bool true)))
def f_law : List PyData → Rs PyData := runB 3 b_law
end K41

set_option Elab.async false
set_option linter.all false
set_option maxRecDepth 100000
set_option maxHeartbeats 0
namespace K41
open PySem PySem.Spec PyProof.Rows L2 DL
structure Gs (mg : Str → Option Value) : Prop where
  z_abs : mg "abs" = none
  z_all : mg "all" = none
  z_any : mg "any" = none
  z_bool : mg "bool" = none
  z_divmod : mg "divmod" = none
  z_enumerate : mg "enumerate" = none
  z_int : mg "int" = none
  z_isinstance : mg "isinstance" = none
  z_len : mg "len" = none
  z_max : mg "max" = none
  z_min : mg "min" = none
  z_range : mg "range" = none
  z_repr : mg "repr" = none
  z_sum : mg "sum" = none
  z_tuple : mg "tuple" = none
  c_MOST_COORDINATE : ∃ t, mg "MOST_COORDINATE" = some (.int 99 t)
  c_MOST_POINTS : ∃ t, mg "MOST_POINTS" = some (.int 9 t)
  i_gcd : mg "gcd" = some (.builtin "math.gcd")
theorem kt_int {K : Fg} : KitTy K "int" := ⟨kit_ty (by decide +kernel), kit_ty (by decide +kernel), kit_ty (by decide +kernel), kit_ty (by decide +kernel), kit_ty (by decide +kernel), kit_ty (by decide +kernel)⟩
theorem kt_bool {K : Fg} : KitTy K "bool" := ⟨kit_ty (by decide +kernel), kit_ty (by decide +kernel), kit_ty (by decide +kernel), kit_ty (by decide +kernel), kit_ty (by decide +kernel), kit_ty (by decide +kernel)⟩
theorem kt_tuple {K : Fg} : KitTy K "tuple" := ⟨kit_ty (by decide +kernel), kit_ty (by decide +kernel), kit_ty (by decide +kernel), kit_ty (by decide +kernel), kit_ty (by decide +kernel), kit_ty (by decide +kernel)⟩
theorem kt_list {K : Fg} : KitTy K "list" := ⟨kit_ty (by decide +kernel), kit_ty (by decide +kernel), kit_ty (by decide +kernel), kit_ty (by decide +kernel), kit_ty (by decide +kernel), kit_ty (by decide +kernel)⟩
theorem kt_str {K : Fg} : KitTy K "str" := ⟨kit_ty (by decide +kernel), kit_ty (by decide +kernel), kit_ty (by decide +kernel), kit_ty (by decide +kernel), kit_ty (by decide +kernel), kit_ty (by decide +kernel)⟩
section
variable {P : Program} {w : World} {K : Fg} {mg : Str → Option Value} {base : Heap} {T : List (Ad × Str)} {f : Ad} {fd : FuncData}
theorem sc__law_pool : FnScope ["script", "k", "cell", "mixed", "wide", "each"] ["script", "k"] (defScope s__law_pool) := ⟨rfl, rfl, rfl, by decide +kernel, rfl, by decide +kernel, by decide +kernel⟩
theorem ok__law_pool (F : Fun K "_law_pool" "_law_pool" s__law_pool f fd) (G : Gs mg) : FnG P w K mg base 1 f fd ["script", "k"] (spP K T [0] true 2 f__law_pool) := by
  refine fn_pure (k := 0) F sc__law_pool [0] [] true b__law_pool (fun cdv hcv A outer s H E M hr => ?_)
  have hN := sc__law_pool.nd
  exact sb_cons (s1_parG (is := [2, 3]) (by first | exact ppar2 (by rfl) hN (by rfl) (by rfl) (by decide) (by rfl) | exact pparT (by rfl) (pn_cons 2 (pn_cons 3 (pn_nil) hN (by first | exact .inl rfl | exact .inr rfl)) hN (by first | exact .inl rfl | exact .inr rfl)) (by decide)) (spar_st 2 (fun M => SP.se (sp_sum (by rfl) G.z_sum (by rfl) (spa_cons (sp_slice (sp_nmZ 0) (spo_some (sp_nm 1 (by rfl) (by rfl))) (spo_some (sp_add (sp_nm 1 (by rfl) (by rfl)) (sp_int)))) (spa_nil)))) (spar_st 3 (fun M => SP.se (sp_add (sp_int) (sp_mul (sp_int) (sp_nm 1 (by rfl) (by rfl))))) (spar_nil)))) (sb_cons (s1_set 4 (sp_mul (sp_mul (sp_mul (sp_mul (sp_mul (sp_pow (sp_int) (sp_int)) (sp_pow (sp_int) (sp_int))) (sp_pow (sp_int) (sp_int))) (sp_pow (sp_int) (sp_int))) (sp_pow (sp_int) (sp_int))) (sp_pow (sp_int) (sp_int))) (by rfl) (by rfl) hN (by first | exact .inl rfl | exact .inr rfl)) (sb_cons (s1_for (by passes_own) (by rfl) (si_seq (sp_slice (sp_nmZ 0) (spo_none) (spo_some (sp_int)))) (sg_nm 5 (by rfl) (by rfl) hN (by first | exact .inl rfl | exact .inr rfl)) (sb_one (s1_set 3 (sp_mod (sp_add (sp_add (sp_mul (sp_nm 3 (by rfl) (by rfl)) (sp_int)) (sp_mul (sp_mod (sp_nm 5 (by rfl) (by rfl)) (sp_int)) (sp_int))) (sp_int)) (sp_int)) (by rfl) (by rfl) hN (by first | exact .inl rfl | exact .inr rfl)))) (sb_one (s1_retF (sp_lst (spa_cons (sp_if (SPW.t (spw_or (cmpt ck_lt (sp_nm 2 (by rfl) (by rfl)) (sp_int) (nomark _)) (spw_or1 (cmpt ck_ge (sp_nm 2 (by rfl) (by rfl)) (sp_pow (sp_int) (sp_int)) (nomark _))))) (sp_mod (sp_abs G.z_abs (by rfl) (spa_cons (sp_nm 2 (by rfl) (by rfl)) (spa_nil))) (sp_nm 4 (by rfl) (by rfl))) (sp_int)) (spa_cons (sp_nm 3 (by rfl) (by rfl)) (spa_cons (sp_int) (spa_nil)))))))))
theorem sc__law_ways : FnScope ["points", "place", "left", "one", "low", "two", "x", "y"] ["points", "place"] (defScope s__law_ways) := ⟨rfl, rfl, rfl, by decide +kernel, rfl, by decide +kernel, by decide +kernel⟩
theorem ok__law_ways (F : Fun K "_law_ways" "_law_ways" s__law_ways f fd) (G : Gs mg) : FnG P w K mg base 1 f fd ["points", "place"] (spP K T [] false 2 f__law_ways) := by
  refine fn_pure (k := 0) F sc__law_ways [] [] false b__law_ways (fun cdv hcv A outer s H E M hr => ?_)
  have hN := sc__law_ways.nd
  exact sb_cons (s1_asg (sp_ix (sp_nm 1 (by rfl) (by rfl)) (sp_int)) (sg_tup (n := 2) (by rfl) (sgs_cons (sg_nm 2 (by rfl) (by rfl) hN (by first | exact .inl rfl | exact .inr rfl)) (sgs_cons (sg_nm 3 (by rfl) (by rfl) hN (by first | exact .inl rfl | exact .inr rfl)) (sgs_nil))))) (sb_cons (s1_asg (sp_ix (sp_nm 1 (by rfl) (by rfl)) (sp_int)) (sg_tup (n := 2) (by rfl) (sgs_cons (sg_nm 4 (by rfl) (by rfl) hN (by first | exact .inl rfl | exact .inr rfl)) (sgs_cons (sg_nm 5 (by rfl) (by rfl) hN (by first | exact .inl rfl | exact .inr rfl)) (sgs_nil))))) (sb_one (s1_ret (sp_lc (by rfl) hN [("x", 6), ("y", 7)] (si_seq (sp_nm 0 (by rfl) (by rfl))) (blkOk_by (by kernel_rfl)) (fun M s H C cl fp => sg_tup (n := 2) (by rfl) (sgs_cons (sg_nm 6 (by rfl) (by rfl) hN (by first | exact .inl rfl | exact .inr rfl)) (sgs_cons (sg_nm 7 (by rfl) (by rfl) hN (by first | exact .inl rfl | exact .inr rfl)) (sgs_nil)))) (fun M s H C cl fp => spts_nil) (fun M s H C cl fp => sp_tup (spa_cons (sp_mul (sp_sub (sp_mul (sp_nm 6 (by rfl) (by rfl)) (sp_nm 3 (by rfl) (by rfl))) (sp_nm 2 (by rfl) (by rfl))) (sp_nm 5 (by rfl) (by rfl))) (spa_cons (sp_mul (sp_sub (sp_mul (sp_nm 7 (by rfl) (by rfl)) (sp_nm 5 (by rfl) (by rfl))) (sp_nm 4 (by rfl) (by rfl))) (sp_nm 3 (by rfl) (by rfl))) (spa_nil))))))))
theorem sc__law_depth : FnScope ["points", "place", "ways", "best", "far", "here", "high", "side", "tilt", "across", "up", "a", "b", "way"] ["points", "place"] (defScope s__law_depth) := ⟨rfl, rfl, rfl, by decide +kernel, rfl, by decide +kernel, by decide +kernel⟩
theorem ok__law_depth (F : Fun K "_law_depth" "_law_depth" s__law_depth f fd) (G : Gs mg) (C__law_ways : CalP P w K mg base T 1 "_law_ways" [] false 2 f__law_ways) : FnG P w K mg base 2 f fd ["points", "place"] (spP K T [] false 2 f__law_depth) := by
  refine fn_pure (k := 1) F sc__law_depth [] [] false b__law_depth (fun cdv hcv A outer s H E M hr => ?_)
  have hN := sc__law_depth.nd
  exact sb_cons (s1_parG (is := [2, 3]) (by first | exact ppar2 (by rfl) hN (by rfl) (by rfl) (by decide) (by rfl) | exact pparT (by rfl) (pn_cons 2 (pn_cons 3 (pn_nil) hN (by first | exact .inl rfl | exact .inr rfl)) hN (by first | exact .inl rfl | exact .inr rfl)) (by decide)) (spar_st 2 (fun M => SP.se (sp_callS C__law_ways ⟨hr.room.mono (by decide), hr.gd⟩ (by rfl) (spa_cons (sp_nm 0 (by rfl) (by rfl)) (spa_cons (sp_nm 1 (by rfl) (by rfl)) (spa_nil))))) (spar_st 3 (fun M => SP.se (sp_len G.z_len (by rfl) (spa_cons (sp_nm 0 (by rfl) (by rfl)) (spa_nil)))) (spar_nil)))) (sb_cons (s1_set 4 (sp_add (sp_int) (sp_max (by rfl) G.z_max (by rfl) (spa_cons (sp_lc (by rfl) hN [("a", 11), ("b", 12)] (si_seq (sp_nm 2 (by rfl) (by rfl))) (blkOk_by (by kernel_rfl)) (fun M s H C cl fp => sg_tup (n := 2) (by rfl) (sgs_cons (sg_nm 11 (by rfl) (by rfl) hN (by first | exact .inl rfl | exact .inr rfl)) (sgs_cons (sg_nm 12 (by rfl) (by rfl) hN (by first | exact .inl rfl | exact .inr rfl)) (sgs_nil)))) (fun M s H C cl fp => spts_nil) (fun M s H C cl fp => sp_add (sp_abs G.z_abs (by rfl) (spa_cons (sp_nm 11 (by rfl) (by rfl)) (spa_nil))) (sp_abs G.z_abs (by rfl) (spa_cons (sp_nm 12 (by rfl) (by rfl)) (spa_nil))))) (spa_nil)))) (by rfl) (by rfl) hN (by first | exact .inl rfl | exact .inr rfl)) (sb_cons (s1_set 4 (sp_mul (sp_nm 4 (by rfl) (by rfl)) (sp_nm 4 (by rfl) (by rfl))) (by rfl) (by rfl) hN (by first | exact .inl rfl | exact .inr rfl)) (sb_cons (s1_for (by passes_own) (by rfl) (si_seq (sp_lc (by rfl) hN [("way", 13)] (si_seq (sp_nm 2 (by rfl) (by rfl))) (blkOk_by (by kernel_rfl)) (fun M s H C cl fp => sg_nm 13 (by rfl) (by rfl) hN (by first | exact .inl rfl | exact .inr rfl)) (fun M s H C cl fp => spts_one (cmpt (ck_ne (lv := 0) ⟨hr.room.mono (Nat.zero_le _), hr.gd⟩) (sp_nm 13 (by rfl) (by rfl)) (sp_tup (spa_cons (sp_int) (spa_cons (sp_int) (spa_nil)))) (nomark _))) (fun M s H C cl fp => sp_nm 13 (by rfl) (by rfl)))) (sg_tup (n := 2) (by rfl) (sgs_cons (sg_nm 5 (by rfl) (by rfl) hN (by first | exact .inl rfl | exact .inr rfl)) (sgs_cons (sg_nm 6 (by rfl) (by rfl) hN (by first | exact .inl rfl | exact .inr rfl)) (sgs_nil)))) (sb_one (s1_for (by passes_own) (by rfl) (si_seq (sp_lst (spa_cons (sp_int) (spa_cons (sp_sub (sp_int) (sp_int)) (spa_nil))))) (sg_nm 7 (by rfl) (by rfl) hN (by first | exact .inl rfl | exact .inr rfl)) (sb_one (s1_for (by passes_own) (by rfl) (si_seq (sp_lst (spa_cons (sp_int) (spa_cons (sp_int) (spa_cons (sp_sub (sp_int) (sp_int)) (spa_nil)))))) (sg_nm 8 (by rfl) (by rfl) hN (by first | exact .inl rfl | exact .inr rfl)) (sb_cons (s1_parG (is := [9, 10]) (by first | exact ppar2 (by rfl) hN (by rfl) (by rfl) (by decide) (by rfl) | exact pparT (by rfl) (pn_cons 9 (pn_cons 10 (pn_nil) hN (by first | exact .inl rfl | exact .inr rfl)) hN (by first | exact .inl rfl | exact .inr rfl)) (by decide)) (spar_st 9 (fun M => SP.se (sp_add (sp_sub (sp_int) (sp_mul (sp_mul (sp_nm 7 (by rfl) (by rfl)) (sp_nm 6 (by rfl) (by rfl))) (sp_nm 4 (by rfl) (by rfl)))) (sp_mul (sp_nm 8 (by rfl) (by rfl)) (sp_nm 5 (by rfl) (by rfl))))) (spar_st 10 (fun M => SP.se (sp_add (sp_mul (sp_mul (sp_nm 7 (by rfl) (by rfl)) (sp_nm 5 (by rfl) (by rfl))) (sp_nm 4 (by rfl) (by rfl))) (sp_mul (sp_nm 8 (by rfl) (by rfl)) (sp_nm 6 (by rfl) (by rfl))))) (spar_nil)))) (sb_one (s1_set 3 (sp_min (by rfl) G.z_min (by rfl) (spa_cons (sp_nm 3 (by rfl) (by rfl)) (spa_cons (sp_len G.z_len (by rfl) (spa_cons (sp_lc (by rfl) hN [("a", 11), ("b", 12)] (si_seq (sp_nm 2 (by rfl) (by rfl))) (blkOk_by (by kernel_rfl)) (fun M s H C cl fp => sg_tup (n := 2) (by rfl) (sgs_cons (sg_nm 11 (by rfl) (by rfl) hN (by first | exact .inl rfl | exact .inr rfl)) (sgs_cons (sg_nm 12 (by rfl) (by rfl) hN (by first | exact .inl rfl | exact .inr rfl)) (sgs_nil)))) (fun M s H C cl fp => spts_one (cmpt ck_ge (sp_add (sp_mul (sp_nm 9 (by rfl) (by rfl)) (sp_nm 11 (by rfl) (by rfl))) (sp_mul (sp_nm 10 (by rfl) (by rfl)) (sp_nm 12 (by rfl) (by rfl)))) (sp_int) (nomark _))) (fun M s H C cl fp => sp_int)) (spa_nil))) (spa_nil)))) (by rfl) (by rfl) hN (by first | exact .inl rfl | exact .inr rfl))))))))) (sb_one (s1_ret (sp_nm 3 (by rfl) (by rfl)))))))
theorem sc__law_turn : FnScope ["first", "second", "third", "one"] ["first", "second", "third"] (defScope s__law_turn) := ⟨rfl, rfl, rfl, by decide +kernel, rfl, by decide +kernel, by decide +kernel⟩
theorem ok__law_turn (F : Fun K "_law_turn" "_law_turn" s__law_turn f fd) (G : Gs mg) : FnG P w K mg base 1 f fd ["first", "second", "third"] (spP K T [] false 3 f__law_turn) := by
  refine fn_pure (k := 0) F sc__law_turn [] [] false b__law_turn (fun cdv hcv A outer s H E M hr => ?_)
  have hN := sc__law_turn.nd
  exact sb_cons (s1_set 3 (sp_mul (sp_sub (sp_ix (sp_nm 1 (by rfl) (by rfl)) (sp_int)) (sp_ix (sp_nm 0 (by rfl) (by rfl)) (sp_int))) (sp_sub (sp_ix (sp_nm 2 (by rfl) (by rfl)) (sp_int)) (sp_ix (sp_nm 0 (by rfl) (by rfl)) (sp_int)))) (by rfl) (by rfl) hN (by first | exact .inl rfl | exact .inr rfl)) (sb_one (s1_ret (sp_sub (sp_nm 3 (by rfl) (by rfl)) (sp_mul (sp_sub (sp_ix (sp_nm 1 (by rfl) (by rfl)) (sp_int)) (sp_ix (sp_nm 0 (by rfl) (by rfl)) (sp_int))) (sp_sub (sp_ix (sp_nm 2 (by rfl) (by rfl)) (sp_int)) (sp_ix (sp_nm 0 (by rfl) (by rfl)) (sp_int)))))))
theorem sc__law_is_loose : FnScope ["points", "k", "j", "i"] ["points"] (defScope s__law_is_loose) := ⟨rfl, rfl, rfl, by decide +kernel, rfl, by decide +kernel, by decide +kernel⟩
theorem ok__law_is_loose (F : Fun K "_law_is_loose" "_law_is_loose" s__law_is_loose f fd) (G : Gs mg) (C__law_turn : CalP P w K mg base T 1 "_law_turn" [] false 3 f__law_turn) : FnG P w K mg base 2 f fd ["points"] (spP K T [] false 1 f__law_is_loose) := by
  refine fn_pure (k := 1) F sc__law_is_loose [] [] false b__law_is_loose (fun cdv hcv A outer s H E M hr => ?_)
  have hN := sc__law_is_loose.nd
  exact sb_cons (s1_for (by passes_own) (by rfl) (si_ran1 G.z_range (by rfl) (spa_cons (sp_len G.z_len (by rfl) (spa_cons (sp_nm 0 (by rfl) (by rfl)) (spa_nil))) (spa_nil))) (sg_nm 1 (by rfl) (by rfl) hN (by first | exact .inl rfl | exact .inr rfl)) (sb_one (s1_for (by passes_own) (by rfl) (si_ran1 G.z_range (by rfl) (spa_cons (sp_nm 1 (by rfl) (by rfl)) (spa_nil))) (sg_nm 2 (by rfl) (by rfl) hN (by first | exact .inl rfl | exact .inr rfl)) (sb_one (s1_if (spt_val (sp_any (by rfl) G.z_any (by rfl) (spa_cons (sp_lc (by rfl) hN [("i", 3)] (si_ran1 G.z_range (by rfl) (spa_cons (sp_nm 2 (by rfl) (by rfl)) (spa_nil))) (blkOk_by (by kernel_rfl)) (fun M s H C cl fp => sg_nm 3 (by rfl) (by rfl) hN (by first | exact .inl rfl | exact .inr rfl)) (fun M s H C cl fp => spts_nil) (fun M s H C cl fp => cmp (ck_eq (lv := 0) ⟨hr.room.mono (Nat.zero_le _), hr.gd⟩) (sp_callS C__law_turn ⟨hr.room.mono (by decide), hr.gd⟩ (by rfl) (spa_cons (sp_ix (sp_nm 0 (by rfl) (by rfl)) (sp_nm 3 (by rfl) (by rfl))) (spa_cons (sp_ix (sp_nm 0 (by rfl) (by rfl)) (sp_nm 2 (by rfl) (by rfl))) (spa_cons (sp_ix (sp_nm 0 (by rfl) (by rfl)) (sp_nm 1 (by rfl) (by rfl))) (spa_nil))))) (sp_int) (nomark _))) (spa_nil)))) (sb_one (s1_ret (sp_bl))) (sb_nil)))))) (sb_one (s1_ret (sp_bl)))
theorem sc__law_take : FnScope ["pool", "many", "digit", "stirred"] ["pool", "many"] (defScope s__law_take) := ⟨rfl, rfl, rfl, by decide +kernel, rfl, by decide +kernel, by decide +kernel⟩
theorem ok__law_take (F : Fun K "_law_take" "_law_take" s__law_take f fd) (G : Gs mg) : FnG P w K mg base 1 f fd ["pool", "many"] (spQ K T false 2 f__law_take) := by
  refine fn_io (k := 0) F sc__law_take [] false b__law_take (fun cdv hcv A outer s H E M hr => ?_)
  have hN := sc__law_take.nd
  exact sb_cons (s1_if (cmpt ck_gt (sp_ix (sp_nmW 0 (by rfl)) (sp_int)) (sp_int) (nomark _)) (sb_cons (s1_asgW (SP.se (sp_divmod G.z_divmod (by rfl) (spa_cons (sp_ix (sp_nmW 0 (by rfl)) (sp_int)) (spa_cons (sp_nm 1 (by rfl) (by rfl)) (spa_nil))))) (sw_tup (n := 2) (by rfl) (sws_cons (sw_ix 0 (by rfl) (sp_int)) (sws_cons (sw_of (sg_nm 2 (by rfl) (by rfl) hN (by first | exact .inl rfl | exact .inr rfl))) (sws_nil))))) (sb_one (s1_ret (sp_nm 2 (by rfl) (by rfl))))) (sb_nil)) (sb_cons (s1_asgW (SP.se (sp_add (sp_ix (sp_nmW 0 (by rfl)) (sp_int)) (sp_int))) (sw_ix 0 (by rfl) (sp_int))) (sb_cons (s1_set 3 (sp_mod (sp_add (sp_ix (sp_nmW 0 (by rfl)) (sp_int)) (sp_mul (sp_int) (sp_ix (sp_nmW 0 (by rfl)) (sp_int)))) (sp_int)) (by rfl) (by rfl) hN (by first | exact .inl rfl | exact .inr rfl)) (sb_cons (s1_asgW (SP.se (sp_mod (sp_add (sp_mul (sp_nm 3 (by rfl) (by rfl)) (sp_add (sp_mod (sp_nm 3 (by rfl) (by rfl)) (sp_int)) (sp_int))) (sp_mul (sp_int) (sp_ix (sp_nmW 0 (by rfl)) (sp_int)))) (sp_int))) (sw_ix 0 (by rfl) (sp_int))) (sb_one (s1_ret (sp_mod (sp_fdiv (sp_ix (sp_nmW 0 (by rfl)) (sp_int)) (sp_int)) (sp_nm 1 (by rfl) (by rfl))))))))
theorem sc__law_of : FnScope ["pool", "some"] ["pool", "some"] (defScope s__law_of) := ⟨rfl, rfl, rfl, by decide +kernel, rfl, by decide +kernel, by decide +kernel⟩
theorem ok__law_of (F : Fun K "_law_of" "_law_of" s__law_of f fd) (G : Gs mg) (C__law_take : CalQ P w K mg base T 1 "_law_take" false 2 f__law_take) : FnG P w K mg base 2 f fd ["pool", "some"] (spQ K T false 2 f__law_of) := by
  refine fn_io (k := 1) F sc__law_of [] false b__law_of (fun cdv hcv A outer s H E M hr => ?_)
  have hN := sc__law_of.nd
  exact sb_one (s1_retE (se_ix (SP.se (sp_nm 1 (by rfl) (by rfl))) (se_callQS 0 C__law_take ⟨hr.room.mono (by decide), hr.gd⟩ (by rfl) (by rfl) (spa_cons (sp_len G.z_len (by rfl) (spa_cons (sp_nm 1 (by rfl) (by rfl)) (spa_nil))) (spa_nil)))))
theorem sc__law_points : FnScope ["pool", "most", "loose", "found", "wide", "turn", "point"] ["pool", "most", "loose"] (defScope s__law_points) := ⟨rfl, rfl, rfl, by decide +kernel, rfl, by decide +kernel, by decide +kernel⟩
theorem ok__law_points (F : Fun K "_law_points" "_law_points" s__law_points f fd) (G : Gs mg) (C__law_is_loose : CalP P w K mg base T 2 "_law_is_loose" [] false 1 f__law_is_loose) (C__law_of : CalQ P w K mg base T 2 "_law_of" false 2 f__law_of) (C__law_take : CalQ P w K mg base T 1 "_law_take" false 2 f__law_take) : FnG P w K mg base 3 f fd ["pool", "most", "loose"] (spQ K T false 3 f__law_points) := by
  refine fn_io (k := 2) F sc__law_points [3] false b__law_points (fun cdv hcv A outer s H E M hr => ?_)
  have hN := sc__law_points.nd
  exact sb_cons (s1_parG (is := [3, 4]) (by first | exact ppar2 (by rfl) hN (by rfl) (by rfl) (by decide) (by rfl) | exact pparT (by rfl) (pn_cons 3 (pn_cons 4 (pn_nil) hN (by first | exact .inl rfl | exact .inr rfl)) hN (by first | exact .inl rfl | exact .inr rfl)) (by decide)) (spar_nw 3 (fun M => sp_lst (spa_nil)) (spar_st 4 (fun M => se_callQS 0 C__law_of ⟨hr.room.mono (by decide), hr.gd⟩ (by rfl) (by rfl) (spa_cons (sp_lst (spa_cons (sp_int) (spa_cons (sp_int) (spa_cons (sp_int) (spa_cons (sp_int) (spa_nil)))))) (spa_nil))) (spar_nil)))) (sb_cons (s1_forE (by passes_own) (by rfl) (sie_ran1 G.z_range (by rfl) (sea_cons (se_add (SP.se (sp_int)) (se_callQS 0 C__law_take ⟨hr.room.mono (by decide), hr.gd⟩ (by rfl) (by rfl) (spa_cons (sp_nm 1 (by rfl) (by rfl)) (spa_nil)))) (sea_nil))) (sg_nm 5 (by rfl) (by rfl) hN (by first | exact .inl rfl | exact .inr rfl)) (sb_cons (s1_setE 6 (se_tup (sea_cons (se_sub (se_callQS 0 C__law_take ⟨hr.room.mono (by decide), hr.gd⟩ (by rfl) (by rfl) (spa_cons (sp_add (sp_mul (sp_int) (sp_nm 4 (by rfl) (by rfl))) (sp_int)) (spa_nil))) (SP.se (sp_nm 4 (by rfl) (by rfl)))) (sea_cons (se_sub (se_callQS 0 C__law_take ⟨hr.room.mono (by decide), hr.gd⟩ (by rfl) (by rfl) (spa_cons (sp_add (sp_mul (sp_int) (sp_nm 4 (by rfl) (by rfl))) (sp_int)) (spa_nil))) (SP.se (sp_nm 4 (by rfl) (by rfl)))) (sea_nil)))) (by rfl) (by rfl) hN (by first | exact .inl rfl | exact .inr rfl)) (sb_one (s1_if (SPW.t (spw_and (cmpt (ck_nin (lv := 0) ⟨hr.room.mono (Nat.zero_le _), hr.gd⟩) (sp_nm 6 (by rfl) (by rfl)) (sp_nmW 3 (by rfl)) (by rfl)) (spw_and1 (SPW.t (spw_or (spt_not (spt_val (sp_nm 2 (by rfl) (by rfl)))) (spw_or1 (spt_val (sp_callS C__law_is_loose ⟨hr.room.mono (by decide), hr.gd⟩ (by rfl) (spa_cons (sp_add (sp_nmW 3 (by rfl)) (sp_lst (spa_cons (sp_nm 6 (by rfl) (by rfl)) (spa_nil)))) (spa_nil)))))))))) (sb_one (s1_exprE (se_mth 3 PySem.F.slot_list_append PySem.F.type_list_append mt_append ow_append (by rfl) (sea_cons (SP.se (sp_nm 6 (by rfl) (by rfl))) (sea_nil))))) (sb_nil))))) (sb_one (s1_ret (sp_tuple G.z_tuple (by rfl) (spa_cons (sp_nmW 3 (by rfl)) (spa_nil))))))
theorem sc_is_row : FnScope ["value", "least", "most"] ["value", "least", "most"] (defScope s_is_row) := ⟨rfl, rfl, rfl, by decide +kernel, rfl, by decide +kernel, by decide +kernel⟩
theorem ok_is_row (F : Fun K "is_row" "is_row" s_is_row f fd) (G : Gs mg) : FnG P w K mg base 1 f fd ["value", "least", "most"] (spP K T [] false 3 f_is_row) := by
  refine fn_pure (k := 0) F sc_is_row [] [] false b_is_row (fun cdv hcv A outer s H E M hr => ?_)
  have hN := sc_is_row.nd
  exact sb_one (s1_ret (sp_and (sp_isi G.z_isinstance (by rfl) G.z_tuple (by rfl) (by decide +kernel) kt_tuple (sp_nm 0 (by rfl) (by rfl))) (sp_one (cmp2 ck_le ck_le (sp_nm 1 (by rfl) (by rfl)) (sp_len G.z_len (by rfl) (spa_cons (sp_nm 0 (by rfl) (by rfl)) (spa_nil))) (sp_nm 2 (by rfl) (by rfl))))))
theorem sc_is_whole : FnScope ["value"] ["value"] (defScope s_is_whole) := ⟨rfl, rfl, rfl, by decide +kernel, rfl, by decide +kernel, by decide +kernel⟩
theorem ok_is_whole (F : Fun K "is_whole" "is_whole" s_is_whole f fd) (G : Gs mg) : FnG P w K mg base 1 f fd ["value"] (spP K T [] false 1 f_is_whole) := by
  refine fn_pure (k := 0) F sc_is_whole [] [] false b_is_whole (fun cdv hcv A outer s H E M hr => ?_)
  have hN := sc_is_whole.nd
  exact sb_one (s1_ret (sp_and (sp_isi G.z_isinstance (by rfl) G.z_int (by rfl) (by decide +kernel) kt_int (sp_nm 0 (by rfl) (by rfl))) (sp_one (sp_not (sp_isi G.z_isinstance (by rfl) G.z_bool (by rfl) (by decide +kernel) kt_bool (sp_nm 0 (by rfl) (by rfl)))))))
theorem sc_is_between : FnScope ["value", "least", "most"] ["value", "least", "most"] (defScope s_is_between) := ⟨rfl, rfl, rfl, by decide +kernel, rfl, by decide +kernel, by decide +kernel⟩
theorem ok_is_between (F : Fun K "is_between" "is_between" s_is_between f fd) (G : Gs mg) (C_is_whole : CalP P w K mg base T 1 "is_whole" [] false 1 f_is_whole) : FnG P w K mg base 2 f fd ["value", "least", "most"] (spP K T [] false 3 f_is_between) := by
  refine fn_pure (k := 1) F sc_is_between [] [] false b_is_between (fun cdv hcv A outer s H E M hr => ?_)
  have hN := sc_is_between.nd
  exact sb_one (s1_ret (sp_and (sp_callS C_is_whole ⟨hr.room.mono (by decide), hr.gd⟩ (by rfl) (spa_cons (sp_nm 0 (by rfl) (by rfl)) (spa_nil))) (sp_one (cmp2 ck_le ck_le (sp_nm 1 (by rfl) (by rfl)) (sp_nm 0 (by rfl) (by rfl)) (sp_nm 2 (by rfl) (by rfl))))))
theorem sc_is_tuple_of : FnScope ["value", "many"] ["value", "many"] (defScope s_is_tuple_of) := ⟨rfl, rfl, rfl, by decide +kernel, rfl, by decide +kernel, by decide +kernel⟩
theorem ok_is_tuple_of (F : Fun K "is_tuple_of" "is_tuple_of" s_is_tuple_of f fd) (G : Gs mg) : FnG P w K mg base 1 f fd ["value", "many"] (spP K T [] false 2 f_is_tuple_of) := by
  refine fn_pure (k := 0) F sc_is_tuple_of [] [] false b_is_tuple_of (fun cdv hcv A outer s H E M hr => ?_)
  have hN := sc_is_tuple_of.nd
  exact sb_one (s1_ret (sp_and (sp_isi G.z_isinstance (by rfl) G.z_tuple (by rfl) (by decide +kernel) kt_tuple (sp_nm 0 (by rfl) (by rfl))) (sp_one (cmp (ck_eq (lv := 0) ⟨hr.room.mono (Nat.zero_le _), hr.gd⟩) (sp_len G.z_len (by rfl) (spa_cons (sp_nm 0 (by rfl) (by rfl)) (spa_nil))) (sp_nm 1 (by rfl) (by rfl)) (nomark _)))))
theorem sc_is_point : FnScope ["value", "own"] ["value"] (defScope s_is_point) := ⟨rfl, rfl, rfl, by decide +kernel, rfl, by decide +kernel, by decide +kernel⟩
theorem ok_is_point (F : Fun K "is_point" "is_point" s_is_point f fd) (G : Gs mg) (C_is_between : CalP P w K mg base T 2 "is_between" [] false 3 f_is_between) (C_is_tuple_of : CalP P w K mg base T 1 "is_tuple_of" [] false 2 f_is_tuple_of) : FnG P w K mg base 3 f fd ["value"] (spP K T [] false 1 f_is_point) := by
  refine fn_pure (k := 2) F sc_is_point [] [] false b_is_point (fun cdv hcv A outer s H E M hr => ?_)
  have hN := sc_is_point.nd
  exact sb_one (s1_ret (sp_and (sp_callS C_is_tuple_of ⟨hr.room.mono (by decide), hr.gd⟩ (by rfl) (spa_cons (sp_nm 0 (by rfl) (by rfl)) (spa_cons (sp_int) (spa_nil)))) (sp_one (sp_all (by rfl) G.z_all (by rfl) (spa_cons (sp_lc (by rfl) hN [("own", 1)] (si_seq (sp_nm 0 (by rfl) (by rfl))) (blkOk_by (by kernel_rfl)) (fun M s H C cl fp => sg_nm 1 (by rfl) (by rfl) hN (by first | exact .inl rfl | exact .inr rfl)) (fun M s H C cl fp => spts_nil) (fun M s H C cl fp => sp_callS C_is_between ⟨hr.room.mono (by decide), hr.gd⟩ (by rfl) (spa_cons (sp_nm 1 (by rfl) (by rfl)) (spa_cons (sp_neg (sp_glob (gk_int G.c_MOST_COORDINATE) (by rfl))) (spa_cons (sp_glob (gk_int G.c_MOST_COORDINATE) (by rfl)) (spa_nil)))))) (spa_nil))))))
theorem sc_wrong_point : FnScope ["value"] ["value"] (defScope s_wrong_point) := ⟨rfl, rfl, rfl, by decide +kernel, rfl, by decide +kernel, by decide +kernel⟩
theorem ok_wrong_point (F : Fun K "wrong_point" "wrong_point" s_wrong_point f fd) (G : Gs mg) (C_is_point : CalP P w K mg base T 3 "is_point" [] false 1 f_is_point) {cc PP : Ad} (hfc : fd.code = .ref cc) (TB : LamX.TabB base mg cc PP) (hmT : (PP, (("wrong_point" : Str) ++ ".<locals>.") ++ "<lambda>") ∈ T) (hu : ∀ p ∈ T, p.1 = PP → p.2 = (("wrong_point" : Str) ++ ".<locals>.") ++ "<lambda>") (C_first_wrong : CalFW P w K mg base T 4 "first_wrong") : FnG P w K mg base 7 f fd ["value"] (spP K T [] false 1 f_wrong_point) := by
  refine fn_pure (k := 6) F sc_wrong_point [] [] false b_wrong_point (fun cdv hcv A outer s H E M hr => ?_)
  have hN := sc_wrong_point.nd
  exact sb_one (s1_ret (sp_fw (lv := 3) C_first_wrong ⟨hr.room.mono (by decide), hr.gd⟩ (by rfl) (sp_nm 0 (by rfl) (by rfl)) TB (hcv.symm.trans hfc) hmT hu (by rfl) (by decide +kernel) (by rfl) ⟨rfl, rfl, rfl, by decide +kernel, rfl, by decide +kernel, by decide +kernel⟩ (Nl := ["point", "ahead"]) (fun _ _ _ _ _ _ => rfl) (fun A outer s H E M f c' hr' => sp_and (sp_callS C_is_point ⟨hr'.room.mono (by decide), hr'.gd⟩ (by rfl) (spa_cons (sp_nm 0 (by rfl) (by rfl)) (spa_nil))) (sp_one (cmp (ck_nin (lv := 0) ⟨hr'.room.mono (Nat.zero_le _), hr'.gd⟩) (sp_nm 0 (by rfl) (by rfl)) (sp_nm 1 (by rfl) (by rfl)) (by rfl))))))
theorem sc_check_points : FnScope ["value", "wrong"] ["value"] (defScope s_check_points) := ⟨rfl, rfl, rfl, by decide +kernel, rfl, by decide +kernel, by decide +kernel⟩
theorem ok_check_points (F : Fun K "check_points" "check_points" s_check_points f fd) (G : Gs mg) (C_is_row : CalP P w K mg base T 1 "is_row" [] false 3 f_is_row) (C_wrong_point : CalP P w K mg base T 7 "wrong_point" [] false 1 f_wrong_point) : FnG P w K mg base 8 f fd ["value"] (spP K T [] false 1 f_check_points) := by
  refine fn_pure (k := 7) F sc_check_points [] [] false b_check_points (fun cdv hcv A outer s H E M hr => ?_)
  have hN := sc_check_points.nd
  exact sb_cons (s1_if (spt_not (spt_val (sp_callS C_is_row ⟨hr.room.mono (by decide), hr.gd⟩ (by rfl) (spa_cons (sp_nm 0 (by rfl) (by rfl)) (spa_cons (sp_int) (spa_cons (sp_glob (gk_int G.c_MOST_POINTS) (by rfl)) (spa_nil))))))) (sb_one (s1_never)) (sb_nil)) (sb_cons (s1_set 1 (sp_callS C_wrong_point ⟨hr.room.mono (by decide), hr.gd⟩ (by rfl) (spa_cons (sp_nm 0 (by rfl) (by rfl)) (spa_nil))) (by rfl) (by rfl) hN (by first | exact .inl rfl | exact .inr rfl)) (sb_one (s1_if (cmpt ck_isn (sp_nm 1 (by rfl) (by rfl)) (sp_non) (nomark _)) (sb_one (s1_never)) (sb_nil))))
theorem sc_is_less : FnScope ["one", "other"] ["one", "other"] (defScope s_is_less) := ⟨rfl, rfl, rfl, by decide +kernel, rfl, by decide +kernel, by decide +kernel⟩
theorem ok_is_less (F : Fun K "is_less" "is_less" s_is_less f fd) (G : Gs mg) : FnG P w K mg base 1 f fd ["one", "other"] (spP K T [] false 2 f_is_less) := by
  refine fn_pure (k := 0) F sc_is_less [] [] false b_is_less (fun cdv hcv A outer s H E M hr => ?_)
  have hN := sc_is_less.nd
  exact sb_one (s1_ret (cmp ck_lt (sp_mul (sp_ix (sp_nm 0 (by rfl) (by rfl)) (sp_int)) (sp_ix (sp_nm 1 (by rfl) (by rfl)) (sp_int))) (sp_mul (sp_ix (sp_nm 1 (by rfl) (by rfl)) (sp_int)) (sp_ix (sp_nm 0 (by rfl) (by rfl)) (sp_int))) (nomark _)))
theorem sc_place_of : FnScope ["point"] ["point"] (defScope s_place_of) := ⟨rfl, rfl, rfl, by decide +kernel, rfl, by decide +kernel, by decide +kernel⟩
theorem ok_place_of (F : Fun K "place_of" "place_of" s_place_of f fd) (G : Gs mg) : FnG P w K mg base 1 f fd ["point"] (spP K T [] false 1 f_place_of) := by
  refine fn_pure (k := 0) F sc_place_of [] [] false b_place_of (fun cdv hcv A outer s H E M hr => ?_)
  have hN := sc_place_of.nd
  exact sb_one (s1_ret (sp_tup (spa_cons (sp_tup (spa_cons (sp_ix (sp_nm 0 (by rfl) (by rfl)) (sp_int)) (spa_cons (sp_int) (spa_nil)))) (spa_cons (sp_tup (spa_cons (sp_ix (sp_nm 0 (by rfl) (by rfl)) (sp_int)) (spa_cons (sp_int) (spa_nil)))) (spa_nil)))))
theorem sc_lowest : FnScope ["over", "under", "common"] ["over", "under"] (defScope s_lowest) := ⟨rfl, rfl, rfl, by decide +kernel, rfl, by decide +kernel, by decide +kernel⟩
theorem ok_lowest (F : Fun K "lowest" "lowest" s_lowest f fd) (G : Gs mg) : FnG P w K mg base 1 f fd ["over", "under"] (spP K T [] false 2 f_lowest) := by
  refine fn_pure (k := 0) F sc_lowest [] [] false b_lowest (fun cdv hcv A outer s H E M hr => ?_)
  have hN := sc_lowest.nd
  exact sb_cons (s1_set 2 (sp_if (cmpt ck_gt (sp_nm 1 (by rfl) (by rfl)) (sp_int) (nomark _)) (sp_gcd G.i_gcd (by rfl) (spa_cons (sp_nm 0 (by rfl) (by rfl)) (spa_cons (sp_nm 1 (by rfl) (by rfl)) (spa_nil)))) (sp_neg (sp_gcd G.i_gcd (by rfl) (spa_cons (sp_nm 0 (by rfl) (by rfl)) (spa_cons (sp_nm 1 (by rfl) (by rfl)) (spa_nil)))))) (by rfl) (by rfl) hN (by first | exact .inl rfl | exact .inr rfl)) (sb_one (s1_ret (sp_tup (spa_cons (sp_fdiv (sp_nm 0 (by rfl) (by rfl)) (sp_nm 2 (by rfl) (by rfl))) (spa_cons (sp_fdiv (sp_nm 1 (by rfl) (by rfl)) (sp_nm 2 (by rfl) (by rfl))) (spa_nil))))))
theorem sc_plus : FnScope ["one", "other"] ["one", "other"] (defScope s_plus) := ⟨rfl, rfl, rfl, by decide +kernel, rfl, by decide +kernel, by decide +kernel⟩
theorem ok_plus (F : Fun K "plus" "plus" s_plus f fd) (G : Gs mg) (C_lowest : CalP P w K mg base T 1 "lowest" [] false 2 f_lowest) : FnG P w K mg base 2 f fd ["one", "other"] (spP K T [] false 2 f_plus) := by
  refine fn_pure (k := 1) F sc_plus [] [] false b_plus (fun cdv hcv A outer s H E M hr => ?_)
  have hN := sc_plus.nd
  exact sb_one (s1_ret (sp_callS C_lowest ⟨hr.room.mono (by decide), hr.gd⟩ (by rfl) (spa_cons (sp_add (sp_mul (sp_ix (sp_nm 0 (by rfl) (by rfl)) (sp_int)) (sp_ix (sp_nm 1 (by rfl) (by rfl)) (sp_int))) (sp_mul (sp_ix (sp_nm 1 (by rfl) (by rfl)) (sp_int)) (sp_ix (sp_nm 0 (by rfl) (by rfl)) (sp_int)))) (spa_cons (sp_mul (sp_ix (sp_nm 0 (by rfl) (by rfl)) (sp_int)) (sp_ix (sp_nm 1 (by rfl) (by rfl)) (sp_int))) (spa_nil)))))
theorem sc_times : FnScope ["one", "other"] ["one", "other"] (defScope s_times) := ⟨rfl, rfl, rfl, by decide +kernel, rfl, by decide +kernel, by decide +kernel⟩
theorem ok_times (F : Fun K "times" "times" s_times f fd) (G : Gs mg) (C_lowest : CalP P w K mg base T 1 "lowest" [] false 2 f_lowest) : FnG P w K mg base 2 f fd ["one", "other"] (spP K T [] false 2 f_times) := by
  refine fn_pure (k := 1) F sc_times [] [] false b_times (fun cdv hcv A outer s H E M hr => ?_)
  have hN := sc_times.nd
  exact sb_one (s1_ret (sp_callS C_lowest ⟨hr.room.mono (by decide), hr.gd⟩ (by rfl) (spa_cons (sp_mul (sp_ix (sp_nm 0 (by rfl) (by rfl)) (sp_int)) (sp_ix (sp_nm 1 (by rfl) (by rfl)) (sp_int))) (spa_cons (sp_mul (sp_ix (sp_nm 0 (by rfl) (by rfl)) (sp_int)) (sp_ix (sp_nm 1 (by rfl) (by rfl)) (sp_int))) (spa_nil)))))
theorem sc_reach_of : FnScope ["direction", "place"] ["direction", "place"] (defScope s_reach_of) := ⟨rfl, rfl, rfl, by decide +kernel, rfl, by decide +kernel, by decide +kernel⟩
theorem ok_reach_of (F : Fun K "reach_of" "reach_of" s_reach_of f fd) (G : Gs mg) (C_plus : CalP P w K mg base T 2 "plus" [] false 2 f_plus) (C_times : CalP P w K mg base T 2 "times" [] false 2 f_times) : FnG P w K mg base 3 f fd ["direction", "place"] (spP K T [] false 2 f_reach_of) := by
  refine fn_pure (k := 2) F sc_reach_of [] [] false b_reach_of (fun cdv hcv A outer s H E M hr => ?_)
  have hN := sc_reach_of.nd
  exact sb_one (s1_ret (sp_callS C_plus ⟨hr.room.mono (by decide), hr.gd⟩ (by rfl) (spa_cons (sp_callS C_times ⟨hr.room.mono (by decide), hr.gd⟩ (by rfl) (spa_cons (sp_tup (spa_cons (sp_ix (sp_nm 0 (by rfl) (by rfl)) (sp_int)) (spa_cons (sp_int) (spa_nil)))) (spa_cons (sp_ix (sp_nm 1 (by rfl) (by rfl)) (sp_int)) (spa_nil)))) (spa_cons (sp_callS C_times ⟨hr.room.mono (by decide), hr.gd⟩ (by rfl) (spa_cons (sp_tup (spa_cons (sp_ix (sp_nm 0 (by rfl) (by rfl)) (sp_int)) (spa_cons (sp_int) (spa_nil)))) (spa_cons (sp_ix (sp_nm 1 (by rfl) (by rfl)) (sp_int)) (spa_nil)))) (spa_nil)))))
theorem sc_beyond : FnScope ["points", "place", "direction", "here", "at", "point"] ["points", "place", "direction"] (defScope s_beyond) := ⟨rfl, rfl, rfl, by decide +kernel, rfl, by decide +kernel, by decide +kernel⟩
theorem ok_beyond (F : Fun K "beyond" "beyond" s_beyond f fd) (G : Gs mg) (C_is_less : CalP P w K mg base T 1 "is_less" [] false 2 f_is_less) (C_place_of : CalP P w K mg base T 1 "place_of" [] false 1 f_place_of) (C_reach_of : CalP P w K mg base T 3 "reach_of" [] false 2 f_reach_of) : FnG P w K mg base 4 f fd ["points", "place", "direction"] (spP K T [] false 3 f_beyond) := by
  refine fn_pure (k := 3) F sc_beyond [] [] false b_beyond (fun cdv hcv A outer s H E M hr => ?_)
  have hN := sc_beyond.nd
  exact sb_cons (s1_set 3 (sp_callS C_reach_of ⟨hr.room.mono (by decide), hr.gd⟩ (by rfl) (spa_cons (sp_nm 2 (by rfl) (by rfl)) (spa_cons (sp_nm 1 (by rfl) (by rfl)) (spa_nil)))) (by rfl) (by rfl) hN (by first | exact .inl rfl | exact .inr rfl)) (sb_one (s1_ret (sp_lc (by rfl) hN [("at", 4), ("point", 5)] (si_enum G.z_enumerate (by rfl) (spa_cons (sp_nm 0 (by rfl) (by rfl)) (spa_nil))) (blkOk_by (by kernel_rfl)) (fun M s H C cl fp => sg_tup (n := 2) (by rfl) (sgs_cons (sg_nm 4 (by rfl) (by rfl) hN (by first | exact .inl rfl | exact .inr rfl)) (sgs_cons (sg_nm 5 (by rfl) (by rfl) hN (by first | exact .inl rfl | exact .inr rfl)) (sgs_nil)))) (fun M s H C cl fp => spts_one (spt_val (sp_callS C_is_less ⟨hr.room.mono (by decide), hr.gd⟩ (by rfl) (spa_cons (sp_nm 3 (by rfl) (by rfl)) (spa_cons (sp_callS C_reach_of ⟨hr.room.mono (by decide), hr.gd⟩ (by rfl) (spa_cons (sp_nm 2 (by rfl) (by rfl)) (spa_cons (sp_callS C_place_of ⟨hr.room.mono (by decide), hr.gd⟩ (by rfl) (spa_cons (sp_nm 5 (by rfl) (by rfl)) (spa_nil))) (spa_nil)))) (spa_nil)))))) (fun M s H C cl fp => sp_nm 4 (by rfl) (by rfl)))))
theorem sc_directions_of : FnScope ["points", "lot", "found", "one", "other", "across", "up"] ["points", "lot"] (defScope s_directions_of) := ⟨rfl, rfl, rfl, by decide +kernel, rfl, by decide +kernel, by decide +kernel⟩
theorem ok_directions_of (F : Fun K "directions_of" "directions_of" s_directions_of f fd) (G : Gs mg) : FnG P w K mg base 1 f fd ["points", "lot"] (spP K T [] false 2 f_directions_of) := by
  refine fn_pure (k := 0) F sc_directions_of [] [2] false b_directions_of (fun cdv hcv A outer s H E M hr => ?_)
  have hN := sc_directions_of.nd
  exact sb_cons (s1_setM 2 (sp_lst (spa_cons (sp_tup (spa_cons (sp_int) (spa_cons (sp_int) (spa_nil)))) (spa_cons (sp_tup (spa_cons (sp_neg (sp_int)) (spa_cons (sp_int) (spa_nil)))) (spa_cons (sp_tup (spa_cons (sp_int) (spa_cons (sp_int) (spa_nil)))) (spa_cons (sp_tup (spa_cons (sp_int) (spa_cons (sp_neg (sp_int)) (spa_nil)))) (spa_nil)))))) (by rfl) (Or.inr (by rfl)) hN (by first | exact .inl rfl | exact .inr rfl)) (sb_cons (s1_for (by passes_own) (by rfl) (si_seq (sp_nm 1 (by rfl) (by rfl))) (sg_nm 3 (by rfl) (by rfl) hN (by first | exact .inl rfl | exact .inr rfl)) (sb_one (s1_for (by passes_own) (by rfl) (si_seq (sp_nm 1 (by rfl) (by rfl))) (sg_nm 4 (by rfl) (by rfl) hN (by first | exact .inl rfl | exact .inr rfl)) (sb_one (s1_if (cmpt (ck_ne (lv := 0) ⟨hr.room.mono (Nat.zero_le _), hr.gd⟩) (sp_nm 3 (by rfl) (by rfl)) (sp_nm 4 (by rfl) (by rfl)) (nomark _)) (sb_cons (s1_parG (is := [5, 6]) (by first | exact ppar2 (by rfl) hN (by rfl) (by rfl) (by decide) (by rfl) | exact pparT (by rfl) (pn_cons 5 (pn_cons 6 (pn_nil) hN (by first | exact .inl rfl | exact .inr rfl)) hN (by first | exact .inl rfl | exact .inr rfl)) (by decide)) (spar_st 5 (fun M => SP.se (sp_sub (sp_ix (sp_ix (sp_nm 0 (by rfl) (by rfl)) (sp_nm 4 (by rfl) (by rfl))) (sp_int)) (sp_ix (sp_ix (sp_nm 0 (by rfl) (by rfl)) (sp_nm 3 (by rfl) (by rfl))) (sp_int)))) (spar_st 6 (fun M => SP.se (sp_sub (sp_ix (sp_ix (sp_nm 0 (by rfl) (by rfl)) (sp_nm 4 (by rfl) (by rfl))) (sp_int)) (sp_ix (sp_ix (sp_nm 0 (by rfl) (by rfl)) (sp_nm 3 (by rfl) (by rfl))) (sp_int)))) (spar_nil)))) (sb_one (s1_exprE (se_mth 2 PySem.F.slot_list_extend PySem.F.type_list_extend mt_extend ow_extend (by rfl) (sea_cons (SP.se (sp_lst (spa_cons (sp_tup (spa_cons (sp_neg (sp_nm 6 (by rfl) (by rfl))) (spa_cons (sp_nm 5 (by rfl) (by rfl)) (spa_nil)))) (spa_cons (sp_tup (spa_cons (sp_nm 5 (by rfl) (by rfl)) (spa_cons (sp_nm 6 (by rfl) (by rfl)) (spa_nil)))) (spa_nil))))) (sea_nil)))))) (sb_nil)))))) (sb_one (s1_retM 2 (by rfl) (Or.inr (by rfl)))))
theorem sc_deep_by : FnScope ["points", "place", "some", "told", "most", "first", "direction", "many"] ["points", "place"] (defScope s_deep_by) := ⟨rfl, rfl, rfl, by decide +kernel, rfl, by decide +kernel, by decide +kernel⟩
theorem ok_deep_by (F : Fun K "deep_by" "deep_by" s_deep_by f fd) (G : Gs mg) (C_beyond : CalP P w K mg base T 4 "beyond" [] false 3 f_beyond) (C_directions_of : CalP P w K mg base T 1 "directions_of" [] false 2 f_directions_of) : FnG P w K mg base 5 f fd ["points", "place"] (spP K T [] false 2 f_deep_by) := by
  refine fn_pure (k := 4) F sc_deep_by [] [] false b_deep_by (fun cdv hcv A outer s H E M hr => ?_)
  have hN := sc_deep_by.nd
  exact sb_cons (s1_set 2 (sp_callS C_directions_of ⟨hr.room.mono (by decide), hr.gd⟩ (by rfl) (spa_cons (sp_nm 0 (by rfl) (by rfl)) (spa_cons (sp_tupRg (by rfl) G.z_tuple (by rfl) (srg_1 G.z_range (by rfl) (sp_len G.z_len (by rfl) (spa_cons (sp_nm 0 (by rfl) (by rfl)) (spa_nil))))) (spa_nil)))) (by rfl) (by rfl) hN (by first | exact .inl rfl | exact .inr rfl)) (sb_cons ((by first | exact s1_setLc 3 (by rfl) hN (by rfl) (by rfl) [("direction", 6)] (si_seq (sp_nm 2 (by rfl) (by rfl))) (blkOk_by (by kernel_rfl)) (fun M s H C cl fp => sg_nm 6 (by rfl) (by rfl) hN (by first | exact .inl rfl | exact .inr rfl)) (fun M s H C cl fp => spts_nil) (fun M s H C cl fp => sp_tup (spa_cons (sp_len G.z_len (by rfl) (spa_cons (sp_callS C_beyond ⟨hr.room.mono (by decide), hr.gd⟩ (by rfl) (spa_cons (sp_nm 0 (by rfl) (by rfl)) (spa_cons (sp_nm 1 (by rfl) (by rfl)) (spa_cons (sp_nm 6 (by rfl) (by rfl)) (spa_nil))))) (spa_nil))) (spa_cons (sp_nm 6 (by rfl) (by rfl)) (spa_nil)))) | exact s1_set 3 (sp_lc (by rfl) hN [("direction", 6)] (si_seq (sp_nm 2 (by rfl) (by rfl))) (blkOk_by (by kernel_rfl)) (fun M s H C cl fp => sg_nm 6 (by rfl) (by rfl) hN (by first | exact .inl rfl | exact .inr rfl)) (fun M s H C cl fp => spts_nil) (fun M s H C cl fp => sp_tup (spa_cons (sp_len G.z_len (by rfl) (spa_cons (sp_callS C_beyond ⟨hr.room.mono (by decide), hr.gd⟩ (by rfl) (spa_cons (sp_nm 0 (by rfl) (by rfl)) (spa_cons (sp_nm 1 (by rfl) (by rfl)) (spa_cons (sp_nm 6 (by rfl) (by rfl)) (spa_nil))))) (spa_nil))) (spa_cons (sp_nm 6 (by rfl) (by rfl)) (spa_nil))))) (by rfl) (by rfl) hN (by first | exact .inl rfl | exact .inr rfl))) (sb_cons (s1_set 4 (sp_max (by rfl) G.z_max (by rfl) (spa_cons (sp_lc (by rfl) hN [("many", 7), ("direction", 6)] (si_seq (sp_nm 3 (by rfl) (by rfl))) (blkOk_by (by kernel_rfl)) (fun M s H C cl fp => sg_tup (n := 2) (by rfl) (sgs_cons (sg_nm 7 (by rfl) (by rfl) hN (by first | exact .inl rfl | exact .inr rfl)) (sgs_cons (sg_nm 6 (by rfl) (by rfl) hN (by first | exact .inl rfl | exact .inr rfl)) (sgs_nil)))) (fun M s H C cl fp => spts_nil) (fun M s H C cl fp => sp_nm 7 (by rfl) (by rfl))) (spa_nil))) (by rfl) (by rfl) hN (by first | exact .inl rfl | exact .inr rfl)) (sb_cons (s1_set 5 (sp_ix (sp_lc (by rfl) hN [("many", 7), ("direction", 6)] (si_seq (sp_nm 3 (by rfl) (by rfl))) (blkOk_by (by kernel_rfl)) (fun M s H C cl fp => sg_tup (n := 2) (by rfl) (sgs_cons (sg_nm 7 (by rfl) (by rfl) hN (by first | exact .inl rfl | exact .inr rfl)) (sgs_cons (sg_nm 6 (by rfl) (by rfl) hN (by first | exact .inl rfl | exact .inr rfl)) (sgs_nil)))) (fun M s H C cl fp => spts_one (cmpt (ck_eq (lv := 0) ⟨hr.room.mono (Nat.zero_le _), hr.gd⟩) (sp_nm 7 (by rfl) (by rfl)) (sp_nm 4 (by rfl) (by rfl)) (nomark _))) (fun M s H C cl fp => sp_nm 6 (by rfl) (by rfl))) (sp_int)) (by rfl) (by rfl) hN (by first | exact .inl rfl | exact .inr rfl)) (sb_one (s1_ret (sp_tup (spa_cons (sp_sub (sp_len G.z_len (by rfl) (spa_cons (sp_nm 0 (by rfl) (by rfl)) (spa_nil))) (sp_nm 4 (by rfl) (by rfl))) (spa_cons (sp_tup (spa_cons (sp_neg (sp_ix (sp_nm 5 (by rfl) (by rfl)) (sp_int))) (spa_cons (sp_neg (sp_ix (sp_nm 5 (by rfl) (by rfl)) (sp_int))) (spa_nil)))) (spa_nil)))))))))
theorem sc_depth_by : FnScope ["points", "place"] ["points", "place"] (defScope s_depth_by) := ⟨rfl, rfl, rfl, by decide +kernel, rfl, by decide +kernel, by decide +kernel⟩
theorem ok_depth_by (F : Fun K "depth_by" "depth_by" s_depth_by f fd) (G : Gs mg) (C_deep_by : CalP P w K mg base T 5 "deep_by" [] false 2 f_deep_by) : FnG P w K mg base 6 f fd ["points", "place"] (spP K T [] false 2 f_depth_by) := by
  refine fn_pure (k := 5) F sc_depth_by [] [] false b_depth_by (fun cdv hcv A outer s H E M hr => ?_)
  have hN := sc_depth_by.nd
  exact sb_one (s1_ret (sp_ix (sp_callS C_deep_by ⟨hr.room.mono (by decide), hr.gd⟩ (by rfl) (spa_cons (sp_nm 0 (by rfl) (by rfl)) (spa_cons (sp_nm 1 (by rfl) (by rfl)) (spa_nil)))) (sp_int)))
theorem sc_deepest_by : FnScope ["points", "told", "point", "at", "own"] ["points"] (defScope s_deepest_by) := ⟨rfl, rfl, rfl, by decide +kernel, rfl, by decide +kernel, by decide +kernel⟩
theorem ok_deepest_by (F : Fun K "deepest_by" "deepest_by" s_deepest_by f fd) (G : Gs mg) (C_depth_by : CalP P w K mg base T 6 "depth_by" [] false 2 f_depth_by) (C_place_of : CalP P w K mg base T 1 "place_of" [] false 1 f_place_of) : FnG P w K mg base 7 f fd ["points"] (spP K T [] false 1 f_deepest_by) := by
  refine fn_pure (k := 6) F sc_deepest_by [] [] false b_deepest_by (fun cdv hcv A outer s H E M hr => ?_)
  have hN := sc_deepest_by.nd
  exact sb_cons ((by first | exact s1_setLc 1 (by rfl) hN (by rfl) (by rfl) [("point", 2)] (si_seq (sp_nm 0 (by rfl) (by rfl))) (blkOk_by (by kernel_rfl)) (fun M s H C cl fp => sg_nm 2 (by rfl) (by rfl) hN (by first | exact .inl rfl | exact .inr rfl)) (fun M s H C cl fp => spts_nil) (fun M s H C cl fp => sp_callS C_depth_by ⟨hr.room.mono (by decide), hr.gd⟩ (by rfl) (spa_cons (sp_nm 0 (by rfl) (by rfl)) (spa_cons (sp_callS C_place_of ⟨hr.room.mono (by decide), hr.gd⟩ (by rfl) (spa_cons (sp_nm 2 (by rfl) (by rfl)) (spa_nil))) (spa_nil)))) | exact s1_set 1 (sp_lc (by rfl) hN [("point", 2)] (si_seq (sp_nm 0 (by rfl) (by rfl))) (blkOk_by (by kernel_rfl)) (fun M s H C cl fp => sg_nm 2 (by rfl) (by rfl) hN (by first | exact .inl rfl | exact .inr rfl)) (fun M s H C cl fp => spts_nil) (fun M s H C cl fp => sp_callS C_depth_by ⟨hr.room.mono (by decide), hr.gd⟩ (by rfl) (spa_cons (sp_nm 0 (by rfl) (by rfl)) (spa_cons (sp_callS C_place_of ⟨hr.room.mono (by decide), hr.gd⟩ (by rfl) (spa_cons (sp_nm 2 (by rfl) (by rfl)) (spa_nil))) (spa_nil))))) (by rfl) (by rfl) hN (by first | exact .inl rfl | exact .inr rfl))) (sb_one (s1_ret (sp_tuple G.z_tuple (by rfl) (spa_cons (sp_lc (by rfl) hN [("at", 3), ("own", 4)] (si_enum G.z_enumerate (by rfl) (spa_cons (sp_nm 1 (by rfl) (by rfl)) (spa_nil))) (blkOk_by (by kernel_rfl)) (fun M s H C cl fp => sg_tup (n := 2) (by rfl) (sgs_cons (sg_nm 3 (by rfl) (by rfl) hN (by first | exact .inl rfl | exact .inr rfl)) (sgs_cons (sg_nm 4 (by rfl) (by rfl) hN (by first | exact .inl rfl | exact .inr rfl)) (sgs_nil)))) (fun M s H C cl fp => spts_one (cmpt (ck_eq (lv := 0) ⟨hr.room.mono (Nat.zero_le _), hr.gd⟩) (sp_nm 4 (by rfl) (by rfl)) (sp_max (by rfl) G.z_max (by rfl) (spa_cons (sp_nm 1 (by rfl) (by rfl)) (spa_nil))) (nomark _))) (fun M s H C cl fp => sp_nm 3 (by rfl) (by rfl))) (spa_nil)))))
theorem sc_deepest : FnScope ["points"] ["points"] (defScope s_deepest) := ⟨rfl, rfl, rfl, by decide +kernel, rfl, by decide +kernel, by decide +kernel⟩
theorem ok_deepest (F : Fun K "deepest" "deepest" s_deepest f fd) (G : Gs mg) (C_check_points : CalP P w K mg base T 8 "check_points" [] false 1 f_check_points) (C_deepest_by : CalP P w K mg base T 7 "deepest_by" [] false 1 f_deepest_by) : FnG P w K mg base 9 f fd ["points"] (spP K T [] false 1 f_deepest) := by
  refine fn_pure (k := 8) F sc_deepest [] [] false b_deepest (fun cdv hcv A outer s H E M hr => ?_)
  have hN := sc_deepest.nd
  exact sb_cons (s1_expr (sp_callS C_check_points ⟨hr.room.mono (by decide), hr.gd⟩ (by rfl) (spa_cons (sp_nm 0 (by rfl) (by rfl)) (spa_nil)))) (sb_one (s1_ret (sp_callS C_deepest_by ⟨hr.room.mono (by decide), hr.gd⟩ (by rfl) (spa_cons (sp_nm 0 (by rfl) (by rfl)) (spa_nil)))))
theorem sc__law_right : FnScope ["pool", "most", "points", "rows", "due", "x", "y", "k"] ["pool", "most"] (defScope s__law_right) := ⟨rfl, rfl, rfl, by decide +kernel, rfl, by decide +kernel, by decide +kernel⟩
theorem ok__law_right (F : Fun K "_law_right" "_law_right" s__law_right f fd) (G : Gs mg) (C__law_depth : CalP P w K mg base T 2 "_law_depth" [] false 2 f__law_depth) (C__law_points : CalQ P w K mg base T 3 "_law_points" false 3 f__law_points) (C__law_take : CalQ P w K mg base T 1 "_law_take" false 2 f__law_take) (C_deepest : CalP P w K mg base T 9 "deepest" [] false 1 f_deepest) (K_deepest_points : CalK P w K mg base T 9 "deepest" [] false 1 f_deepest ["points"]) : FnG P w K mg base 10 f fd ["pool", "most"] (spQ K T false 2 f__law_right) := by
  refine fn_io (k := 9) F sc__law_right [] false b__law_right (fun cdv hcv A outer s H E M hr => ?_)
  have hN := sc__law_right.nd
  exact sb_cons (s1_setE 2 (se_callQES 0 C__law_points ⟨hr.room.mono (by decide), hr.gd⟩ (by rfl) (by rfl) (sea_cons (SP.se (sp_nm 1 (by rfl) (by rfl))) (sea_cons (se_cmp (ck_eq (lv := 0) ⟨hr.room.mono (Nat.zero_le _), hr.gd⟩) (se_callQS 0 C__law_take ⟨hr.room.mono (by decide), hr.gd⟩ (by rfl) (by rfl) (spa_cons (sp_int) (spa_nil))) (SP.se (sp_int)) (nomark _)) (sea_nil)))) (by rfl) (by rfl) hN (by first | exact .inl rfl | exact .inr rfl)) (sb_cons ((by first | exact s1_setLc 3 (by rfl) hN (by rfl) (by rfl) [("x", 5), ("y", 6)] (si_seq (sp_nm 2 (by rfl) (by rfl))) (blkOk_by (by kernel_rfl)) (fun M s H C cl fp => sg_tup (n := 2) (by rfl) (sgs_cons (sg_nm 5 (by rfl) (by rfl) hN (by first | exact .inl rfl | exact .inr rfl)) (sgs_cons (sg_nm 6 (by rfl) (by rfl) hN (by first | exact .inl rfl | exact .inr rfl)) (sgs_nil)))) (fun M s H C cl fp => spts_nil) (fun M s H C cl fp => sp_callS C__law_depth ⟨hr.room.mono (by decide), hr.gd⟩ (by rfl) (spa_cons (sp_nm 2 (by rfl) (by rfl)) (spa_cons (sp_tup (spa_cons (sp_tup (spa_cons (sp_nm 5 (by rfl) (by rfl)) (spa_cons (sp_int) (spa_nil)))) (spa_cons (sp_tup (spa_cons (sp_nm 6 (by rfl) (by rfl)) (spa_cons (sp_int) (spa_nil)))) (spa_nil)))) (spa_nil)))) | exact s1_set 3 (sp_lc (by rfl) hN [("x", 5), ("y", 6)] (si_seq (sp_nm 2 (by rfl) (by rfl))) (blkOk_by (by kernel_rfl)) (fun M s H C cl fp => sg_tup (n := 2) (by rfl) (sgs_cons (sg_nm 5 (by rfl) (by rfl) hN (by first | exact .inl rfl | exact .inr rfl)) (sgs_cons (sg_nm 6 (by rfl) (by rfl) hN (by first | exact .inl rfl | exact .inr rfl)) (sgs_nil)))) (fun M s H C cl fp => spts_nil) (fun M s H C cl fp => sp_callS C__law_depth ⟨hr.room.mono (by decide), hr.gd⟩ (by rfl) (spa_cons (sp_nm 2 (by rfl) (by rfl)) (spa_cons (sp_tup (spa_cons (sp_tup (spa_cons (sp_nm 5 (by rfl) (by rfl)) (spa_cons (sp_int) (spa_nil)))) (spa_cons (sp_tup (spa_cons (sp_nm 6 (by rfl) (by rfl)) (spa_cons (sp_int) (spa_nil)))) (spa_nil)))) (spa_nil))))) (by rfl) (by rfl) hN (by first | exact .inl rfl | exact .inr rfl))) (sb_cons (s1_set 4 (sp_tuple G.z_tuple (by rfl) (spa_cons (sp_lc (by rfl) hN [("k", 7)] (si_ran1 G.z_range (by rfl) (spa_cons (sp_len G.z_len (by rfl) (spa_cons (sp_nm 2 (by rfl) (by rfl)) (spa_nil))) (spa_nil))) (blkOk_by (by kernel_rfl)) (fun M s H C cl fp => sg_nm 7 (by rfl) (by rfl) hN (by first | exact .inl rfl | exact .inr rfl)) (fun M s H C cl fp => spts_one (cmpt (ck_eq (lv := 0) ⟨hr.room.mono (Nat.zero_le _), hr.gd⟩) (sp_ix (sp_nm 3 (by rfl) (by rfl)) (sp_nm 7 (by rfl) (by rfl))) (sp_max (by rfl) G.z_max (by rfl) (spa_cons (sp_nm 3 (by rfl) (by rfl)) (spa_nil))) (nomark _))) (fun M s H C cl fp => sp_nm 7 (by rfl) (by rfl))) (spa_nil))) (by rfl) (by rfl) hN (by first | exact .inl rfl | exact .inr rfl)) (sb_one (s1_ret (cmp (ck_eq (lv := 0) ⟨hr.room.mono (Nat.zero_le _), hr.gd⟩) (sp_repr (lv := 0) ⟨hr.room.mono (Nat.zero_le _), hr.gd⟩ G.z_repr (by rfl) (spa_cons (sp_lst (spa_cons (sp_callS C_deepest ⟨hr.room.mono (by decide), hr.gd⟩ (by rfl) (spa_cons (sp_nm 2 (by rfl) (by rfl)) (spa_nil))) (spa_cons (sp_callK0S K_deepest_points ⟨hr.room.mono (by decide), hr.gd⟩ (by rfl) (spk_cons (sp_nm 2 (by rfl) (by rfl)) (spk_nil))) (spa_nil)))) (spa_nil))) (sp_repr (lv := 0) ⟨hr.room.mono (Nat.zero_le _), hr.gd⟩ G.z_repr (by rfl) (spa_cons (sp_lst (spa_cons (sp_nm 4 (by rfl) (by rfl)) (spa_cons (sp_nm 4 (by rfl) (by rfl)) (spa_nil)))) (spa_nil))) (nomark _))))))
theorem sc_law : FnScope ["script", "k", "pool", "most"] ["script"] (defScope s_law) := ⟨rfl, rfl, rfl, by decide +kernel, rfl, by decide +kernel, by decide +kernel⟩
theorem ok_law (F : Fun K "law" "law" s_law f fd) (G : Gs mg) (C__law_pool : CalP P w K mg base T 1 "_law_pool" [0] true 2 f__law_pool) (C__law_right : CalQ P w K mg base T 10 "_law_right" false 2 f__law_right) : FnG P w K mg base 11 f fd ["script"] (spP K T [0] false 1 f_law) := by
  refine fn_pure (k := 10) F sc_law [0] [2] false b_law (fun cdv hcv A outer s H E M hr => ?_)
  have hN := sc_law.nd
  exact sb_cons (s1_for (by passes_own) (by rfl) (si_ran1 G.z_range (by rfl) (spa_cons (sp_max (by rfl) G.z_max (by rfl) (spa_cons (sp_int) (spa_cons (sp_min (by rfl) G.z_min (by rfl) (spa_cons (sp_len G.z_len (by rfl) (spa_cons (sp_nmZ 0) (spa_nil))) (spa_cons (sp_int) (spa_nil)))) (spa_nil)))) (spa_nil))) (sg_nm 1 (by rfl) (by rfl) hN (by first | exact .inl rfl | exact .inr rfl)) (sb_cons (s1_setM 2 (sp_callF C__law_pool ⟨hr.room.mono (by decide), hr.gd⟩ (by rfl) (spa_cons (sp_nmZ 0) (spa_cons (sp_nm 1 (by rfl) (by rfl)) (spa_nil)))) (by rfl) (Or.inr (by rfl)) hN (by first | exact .inl rfl | exact .inr rfl)) (sb_one (s1_for (by passes_own) (by rfl) (si_seq (sp_lst (spa_cons (sp_int) (spa_cons (sp_int) (spa_cons (sp_int) (spa_cons (sp_int) (spa_cons (sp_int) (spa_nil)))))))) (sg_nm 3 (by rfl) (by rfl) hN (by first | exact .inl rfl | exact .inr rfl)) (sb_one (s1_ifE (set_not (set_val (se_callQS 2 C__law_right ⟨hr.room.mono (by decide), hr.gd⟩ (by rfl) (by rfl) (spa_cons (sp_nm 3 (by rfl) (by rfl)) (spa_nil))))) (sb_one (s1_ret (sp_bl))) (sb_nil))))))) (sb_one (s1_ret (sp_bl)))
end
end K41

set_option linter.all false
set_option maxRecDepth 100000
set_option maxHeartbeats 1000000
/-! common: what the laws draw, and the checks that pass. -/
namespace K41
open DL
open PySem (PyData Str)
def B (p : Pt) : Prop := p.1.natAbs ≤ 99 ∧ p.2.natAbs ≤ 99
def T (a b c : Pt) : Int := (b.1 - a.1) * (c.2 - a.2) - (b.2 - a.2) * (c.1 - a.1)
theorem turn_eq {a b c : Pt} (ha : B a) (hb : B b) (hc : B c) : f__law_turn [pt a, pt b, pt c] = .ok (.int (T a b c)) := by
  obtain ⟨a1, a2⟩ := a; obtain ⟨b1, b2⟩ := b; obtain ⟨c1, c2⟩ := c
  simp only [B] at ha hb hc
  have m1 : mulD (.int (b1 - a1)) (.int (c2 - a2)) = .ok (.int ((b1 - a1) * (c2 - a2))) := mul_ok (by omega) (by omega)
  have m2 : mulD (.int (b2 - a2)) (.int (c1 - a1)) = .ok (.int ((b2 - a2) * (c1 - a1))) := mul_ok (by omega) (by omega)
  simp [f__law_turn, runB, b__law_turn, sq, asg, ret, bin, nm, cst, ixD, L2.atI, L2.ixN, subD, pt, m1, m2, T]
/-! ### drawn numbers -/
def Good (b : Nat) (pool : List PyData) : Prop := ∃ a m t : Int, pool = [.int a, .int m, .int t] ∧ 0 ≤ a ∧ 0 ≤ m ∧ m < 2147483399 ∧ 0 ≤ t ∧ t ≤ b
theorem take_ok {b : Nat} {pool : List PyData} {many : Int} (h : Good b pool) (hb : b < 2 ^ 100) (h1 : 1 ≤ many) (h2 : many < 2 ^ 60) :
    ∃ d pool', f__law_take [.list pool, .int many] = .ok (.int d, .list pool') ∧ 0 ≤ d ∧ d < many ∧ Good (b + 1) pool' := by
  obtain ⟨a, m, t, rfl, h3, h4, h5, h6, h7⟩ := h
  by_cases ha : 0 < a
  · have e1 := divmod_ok (i := a) (j := many) (by omega) (by omega)
    refine ⟨a % many, [.int (a / many), .int m, .int t], ?_, Int.emod_nonneg _ (by omega), Int.emod_lt_of_pos _ (by omega), _, _, _, rfl, Int.ediv_nonneg h3 (by omega), h4, h5, h6, by omega⟩
    simp [f__law_take, runQ, b__law_take, sq, iff, tcmp, boolOf, bin, nm, cst, ixD, L2.atI, L2.ixN, gtD, ha, asgW, lft, apS, acons, anil, e1, gtup, gscons, gix, gnm, gsnil, ret]
  · have m1 : mulD (.int 28657) (.int (t + 1)) = .ok (.int (28657 * (t + 1))) := mul_ok (by decide) (by omega)
    generalize hs : (m + 28657 * (t + 1)) % 2147483399 = st
    have hs0 : 0 ≤ st := by rw [← hs]; exact Int.emod_nonneg _ (by decide)
    have hs1 : st < 2147483399 := by rw [← hs]; exact Int.emod_lt_of_pos _ (by decide)
    have hr0 : 0 ≤ st % 5003 := Int.emod_nonneg _ (by decide)
    have hr1 : st % 5003 < 5003 := Int.emod_lt_of_pos _ (by decide)
    have m2 : mulD (.int st) (.int (st % 5003 + 48271)) = .ok (.int (st * (st % 5003 + 48271))) := mul_ok (by omega) (by omega)
    have m3 : mulD (.int 17) (.int (t + 1)) = .ok (.int (17 * (t + 1))) := mul_ok (by decide) (by omega)
    generalize hq : (st * (st % 5003 + 48271) + 17 * (t + 1)) % 2147483399 = q
    have hq0 : 0 ≤ q := by rw [← hq]; exact Int.emod_nonneg _ (by decide)
    have hq1 : q < 2147483399 := by rw [← hq]; exact Int.emod_lt_of_pos _ (by decide)
    have d1 : fdivD (.int q) (.int 613) = .ok (.int (q / 613)) := fdiv_ok (by decide) (by decide)
    have d2 : modD (.int (q / 613)) (.int many) = .ok (.int (q / 613 % many)) := mod_ok (by omega)
    have d3 : modD (.int (m + 28657 * (t + 1))) (.int 2147483399) = .ok (.int st) := by rw [mod_ok (by decide), hs]
    have d4 : modD (.int st) (.int 5003) = .ok (.int (st % 5003)) := mod_ok (by decide)
    have d5 : modD (.int (st * (st % 5003 + 48271) + 17 * (t + 1))) (.int 2147483399) = .ok (.int q) := by rw [mod_ok (by decide), hq]
    refine ⟨q / 613 % many, [.int a, .int q, .int (t + 1)], ?_, Int.emod_nonneg _ (by omega), Int.emod_lt_of_pos _ (by omega), _, _, _, rfl, h3, hq0, hq1, by omega, by omega⟩
    simp [f__law_take, runQ, b__law_take, sq, iff, tcmp, boolOf, bin, nm, cst, ixD, L2.atI, L2.ixN, gtD, ha, skip, asgW, lft, addD, gix, asg, m1, m2, m3, d1, d2, d3, d4, d5, ret]
theorem of_ok {b : Nat} {pool xs : List PyData} (h : Good b pool) (hb : b < 2 ^ 100) (h1 : 1 ≤ xs.length) (h2 : xs.length < 2 ^ 60) :
    ∃ d pool', f__law_of [.list pool, .list xs] = .ok (d, .list pool') ∧ d ∈ xs ∧ Good (b + 1) pool' := by
  obtain ⟨i, pool', e, h3, h4, g⟩ := take_ok (many := xs.length) h hb (by omega) (by omega)
  have hi : i.toNat < xs.length := by omega
  refine ⟨xs[i.toNat], pool', ?_, List.getElem_mem hi, g⟩
  have ea : L2.atI xs i = some xs[i.toNat] := by
    unfold L2.atI L2.ixN
    rw [if_pos h3, if_pos (by omega)]
    exact List.getElem?_eq_getElem hi
  simp [f__law_of, runQ, b__law_of, retE, binE, lft, nm, calQ, apS, acons, anil, lenD, e, ixD, ea]
/-! ### loose points -/
def Loose (l : List Pt) : Prop := ∀ i j k, i < j → j < k → k < l.length → T (P l i) (P l j) (P l k) ≠ 0
section
variable {l : List Pt} (hB : ∀ p ∈ l, B p) (hl : l.length ≤ 100)
include hB
theorem loose_e {i j k : Nat} (hi : i < l.length) (hj : j < l.length) (hk : k < l.length) : e__law_is_loose_1 [some (.list (l.map pt)), some (.int k), some (.int j), some (.int i)] = .ok (.bool (T (P l i) (P l j) (P l k) == 0)) := by
  unfold e__law_is_loose_1
  have h0 : calS [] 3 f__law_turn (acons (bin ixD (nm 0) (nm 3)) (acons (bin ixD (nm 0) (nm 2)) (acons (bin ixD (nm 0) (nm 1)) anil))) [some (.list (l.map pt)), some (.int k), some (.int j), some (.int i)] = .ok (.int (T (P l i) (P l j) (P l k))) := by
    refine (cal_ev (ds := [pt (P l i), pt (P l j), pt (P l k)]) (acons_ev ((bin_ev rfl rfl).trans (ixL hi)) (acons_ev ((bin_ev rfl rfl).trans (ixL hj)) (acons_ev ((bin_ev rfl rfl).trans (ixL hk)) rfl))) rfl).trans ?_
    exact turn_eq (hB _ (P_mem hi)) (hB _ (P_mem hj)) (hB _ (P_mem hk))
  rw [bin_ev h0 rfl, eqD_int]
include hl
theorem loose_2 {j k : Nat} (hj : j < l.length) (hk : k < l.length) : l__law_is_loose_2 [some (.list (l.map pt)), some (.int k), some (.int j), none] = if (List.range j).any (fun i => T (P l i) (P l j) (P l k) == 0) then .ok (.rt (.bool false) [some (.list (l.map pt)), some (.int k), some (.int j), none]) else .ok (.nx [some (.list (l.map pt)), some (.int k), some (.int j), none]) := by
  have h1 : compS (itR1 (acons (nm 2) anil)) [3] (gnm 3) tyes e__law_is_loose_1 [some (.list (l.map pt)), some (.int k), some (.int j), none] = .ok (.list (((List.range j).map fun i => (T (P l i) (P l j) (P l k) == 0)).map .bool)) := by
    refine comp_ev (itR1_ok (j := j) rfl (by omega) (by omega)) (by rw [ranD_len]; have : big = 100000 := rfl; omega) ?_
    have h := compL_map (ρ := [some (.list (l.map pt)), some (.int k), some (.int j), none]) (g := gnm 3) (el := e__law_is_loose_1) (f := fun d => match d with
      | .int i => .bool (T (P l i.toNat) (P l j) (P l k) == 0)
      | _ => .none) (ds := ranD 0 j) fun d hd => by
        obtain ⟨i, hi⟩ := List.mem_iff_getElem?.mp hd
        obtain ⟨hi, rfl⟩ := ranD_at hi
        refine ⟨[some (.list (l.map pt)), some (.int k), some (.int j), some (.int i)], by simp [gnm], ?_⟩
        rw [loose_e hB (by omega) hj hk]
        simp
    refine h.trans ?_
    rw [ranD_zero, List.map_map, List.map_map]
    rfl
  have h2 : tsv (apS anyD (acons (compS (itR1 (acons (nm 2) anil)) [3] (gnm 3) tyes e__law_is_loose_1) anil)) [some (.list (l.map pt)), some (.int k), some (.int j), none] = .ok ((List.range j).any (fun i => T (P l i) (P l j) (P l k) == 0)) := by
    unfold tsv
    rw [ap_ev (acons_ev h1 rfl), any_ok, List.any_map]
    rfl
  refine (iff_ev h2).trans ?_
  generalize (List.range j).any (fun i => T (P l i) (P l j) (P l k) == 0) = b
  cases b <;> rfl
theorem loose_3 {k : Nat} (hk : k < l.length) (y : Option PyData) : (∃ y', l__law_is_loose_3 [some (.list (l.map pt)), some (.int k), y, none] = .ok (.nx [some (.list (l.map pt)), some (.int k), y', none]) ∧ ∀ i j, i < j → j < k → T (P l i) (P l j) (P l k) ≠ 0) ∨
    ∃ ρ, l__law_is_loose_3 [some (.list (l.map pt)), some (.int k), y, none] = .ok (.rt (.bool false) ρ) ∧ 3 ≤ l.length := by
  unfold l__law_is_loose_3
  rw [for_ev (itR1_ok (j := k) rfl (by omega) (by omega))]
  rcases loop_ex (g := gnm 2) (b := l__law_is_loose_2) (fun n ρ => (∃ y, ρ = [some (.list (l.map pt)), some (.int (k : Nat)), y, none]) ∧ ∀ i j, i < j → j < k → j < n → T (P l i) (P l j) (P l k) ≠ 0) (fun d _ => d = .bool false ∧ 3 ≤ l.length) (ranD 0 (k : Int).toNat) 0 _ ⟨⟨y, rfl⟩, fun i j _ _ h => absurd h (by omega)⟩ (fun j d ρ hd ⟨⟨y, e⟩, hJ⟩ => by
    subst e
    obtain ⟨hj, rfl⟩ := ranD_at hd
    refine ⟨[some (.list (l.map pt)), some (.int (k : Nat)), some (.int (j : Nat)), none], by simp [gnm], ?_⟩
    rw [loose_2 hB hl (by omega) hk]
    cases ha : (List.range j).any (fun i => T (P l i) (P l j) (P l k) == 0) with
    | true =>
      refine .inr ⟨_, _, rfl, rfl, ?_⟩
      obtain ⟨i, hi, _⟩ := List.any_eq_true.mp ha
      have := List.mem_range.mp hi
      omega
    | false =>
      refine .inl ⟨_, .inl rfl, ⟨_, rfl⟩, fun i j' h1 h2 h3 => ?_⟩
      by_cases e : j' = j
      · subst e
        have := List.any_eq_false.mp ha i (List.mem_range.mpr h1)
        simpa using this
      · exact hJ i j' h1 h2 (by omega)) with ⟨ρ', h1, ⟨y', rfl⟩, h2⟩ | ⟨d', ρ', h1, rfl, h2⟩
  · exact .inl ⟨y', h1, fun i j a b => h2 i j a b (by rw [ranD_len]; omega)⟩
  · exact .inr ⟨ρ', h1, h2⟩
theorem loose_ok : ∃ b, f__law_is_loose [.list (l.map pt)] = .ok (.bool b) ∧ (b = true → Loose l) ∧ (l.length ≤ 2 → b = true) := by
  have e0 : itR1 (acons (apS lenD (acons (nm 0) anil)) anil) [some (.list (l.map pt)), none, none, none] = .ok (ranD 0 l.length) := itR1_ok (j := l.length) (by simp [acons, apS, nm, anil, lenD]) (by omega) (by omega)
  rcases loop_ex (g := gnm 1) (b := l__law_is_loose_3) (fun n ρ => (∃ x y, ρ = [some (.list (l.map pt)), x, y, none]) ∧ ∀ i j k, i < j → j < k → k < l.length → k < n → T (P l i) (P l j) (P l k) ≠ 0) (fun d _ => d = .bool false ∧ 3 ≤ l.length) (ranD 0 l.length) 0 [some (.list (l.map pt)), none, none, none] ⟨⟨_, _, rfl⟩, fun i j k _ _ _ h => absurd h (by omega)⟩ (fun k d ρ hd ⟨⟨x, y, e⟩, hI⟩ => by
    subst e
    obtain ⟨hk, rfl⟩ := ranD_at hd
    refine ⟨[some (.list (l.map pt)), some (.int (k : Nat)), y, none], by simp [gnm], ?_⟩
    rcases loose_3 hB hl hk y with ⟨y', h1, h2⟩ | ⟨ρ', h1, h2⟩
    · refine .inl ⟨_, .inl h1, ⟨_, _, rfl⟩, fun i j k' a b c d => ?_⟩
      by_cases e : k' = k
      · subst e
        exact h2 i j a b
      · exact hI i j k' a b c (by omega)
    · exact .inr ⟨_, _, h1, rfl, h2⟩) with ⟨ρ', h1, _, h2⟩ | ⟨d', ρ', h1, rfl, h2⟩
  · refine ⟨true, runB_rt (ρ := ρ') ((sq_nx ((for_ev e0).trans h1)).trans rfl), fun _ i j k a b c => h2 i j k a b c (by rw [ranD_len]; omega), fun _ => rfl⟩
  · exact ⟨false, runB_rt (ρ := ρ') (sq_rt ((for_ev e0).trans h1)), fun z => (nomatch z), fun z => absurd z (by omega)⟩
end
/-! ### drawn points -/
structure FineB (lo : Bool) (f : List Pt) : Prop where
  b : ∀ p ∈ f, B p
  l : lo = true → Loose f
  d : f.Nodup
theorem arg_ok {w : Int} (h0 : 0 ≤ w) (h1 : w ≤ 99) (a b c d f g : Option PyData) : acons (bin addD (bin mulD (cst (.int 2)) (nm 4)) (cst (.int 1))) anil [a, b, c, d, some (.int w), f, g] = .ok [.int (2 * w + 1)] := by
  have m := mul_ok (i := 2) (j := w) (by decide) (by omega)
  exact acons_ev ((bin_ev ((bin_ev rfl rfl).trans m) rfl).trans rfl) rfl
theorem coord_ok {b : Nat} {pool : List PyData} {w : Int} (h : Good b pool) (hb : b < 2 ^ 100) (h0 : 0 ≤ w) (h1 : w ≤ 99) (a e c d f g : Option PyData) :
    ∃ i pool', binE subD (calQ 0 2 f__law_take (acons (bin addD (bin mulD (cst (.int 2)) (nm 4)) (cst (.int 1))) anil)) (lft (nm 4)) [some (.list pool), a, c, d, some (.int w), f, g] = .ok (.int i, [some (.list pool'), a, c, d, some (.int w), f, g]) ∧ i.natAbs ≤ 99 ∧ Good (b + 1) pool' := by
  obtain ⟨i, pool', e1, h2, h3, g'⟩ := take_ok (many := 2 * w + 1) h hb (by omega) (by omega)
  exact ⟨i - w, pool', binE_ev (calQ_ev rfl (arg_ok h0 h1 _ _ _ _ _ _) rfl e1) (lft_ev rfl) rfl, by omega, g'⟩
theorem points_1 {lo : Bool} {b : Nat} {pool : List PyData} {w : Int} {f : List Pt} {a t x : Option PyData} (h : Good b pool) (hb : b + 1 < 2 ^ 100) (h0 : 0 ≤ w) (h1 : w ≤ 99) (hf : FineB lo f) (hl : f.length ≤ 50) :
    ∃ pool' f' x', l__law_points_1 [some (.list pool), a, some (.bool lo), some (.list (f.map pt)), some (.int w), t, x] = .ok (.nx [some (.list pool'), a, some (.bool lo), some (.list (f'.map pt)), some (.int w), t, x']) ∧
      Good (b + 2) pool' ∧ FineB lo f' ∧ f'.length ≤ f.length + 1 ∧ f.length ≤ f'.length ∧ (f = [] → f' ≠ []) := by
  obtain ⟨i1, pool1, e1, n1, g1⟩ := coord_ok h (by omega) h0 h1 a a (some (.bool lo)) (some (.list (f.map pt))) t x
  obtain ⟨i2, pool2, e2, n2, g2⟩ := coord_ok g1 (by omega) h0 h1 a a (some (.bool lo)) (some (.list (f.map pt))) t x
  have es := asgE_ev (i := 6) (tupE_ev (econs_ev e1 (econs_ev e2 enil_ev)) (by show 2 ≤ 100000; decide))
  have ep : PyData.tuple [.int i1, .int i2] = pt (i1, i2) := rfl
  rw [ep] at es
  have bp : B (i1, i2) := ⟨n1, n2⟩
  unfold l__law_points_1
  have hB2 : ∀ p ∈ f ++ [(i1, i2)], B p := fun p hp => by
    rcases List.mem_append.mp hp with hp | hp
    · exact hf.b p hp
    · rw [List.mem_singleton.mp hp]; exact bp
  obtain ⟨bl, el, hl1, hl2⟩ := loose_ok (l := f ++ [(i1, i2)]) hB2 (by rw [List.length_append]; simp; omega)
  have ea : addD (.list (f.map pt)) (.list [pt (i1, i2)]) = .ok (.list ((f ++ [(i1, i2)]).map pt)) := by
    show (if _ then _ else _) = _
    rw [if_pos (by rw [List.length_map]; simp; have : big = 100000 := rfl; omega), List.map_append]
    rfl
  have et : ∀ r : Option PyData, tand (tcmp ninD (nm 6) (nm 3)) (tor (tnot (tsv (nm 2))) (tsv (calS [] 1 f__law_is_loose (acons (bin addD (nm 3) (lstS (acons (nm 6) anil))) anil)))) [some (.list pool2), a, some (.bool lo), some (.list (f.map pt)), some (.int w), t, some (pt (i1, i2))] = .ok (!decide ((i1, i2) ∈ f) && (!lo || bl)) := fun _ =>
    tand_ev (tcmp_ev rfl rfl (ninD_pts _ _)) fun _ => tor_ev (tnot_ev (tsv_ev rfl)) fun _ => tsv_ev ((cal_ev (acons_ev ((bin_ev rfl rfl).trans ea) rfl) rfl).trans el)
  have key := (sq_nx (n := iff (tand (tcmp ninD (nm 6) (nm 3)) (tor (tnot (tsv (nm 2))) (tsv (calS [] 1 f__law_is_loose (acons (bin addD (nm 3) (lstS (acons (nm 6) anil))) anil))))) (drpE (mthE 3 appF (econs (lft (nm 6)) enil))) skip) es).trans (iff_ev (et none))
  by_cases hm : (i1, i2) ∈ f
  · rw [decide_eq_true hm] at key
    exact ⟨pool2, f, _, key, g2, hf, by omega, by omega, fun e => by rw [e] at hm; cases hm⟩
  · rw [decide_eq_false hm] at key
    have hc1 : (!lo || bl) = true → lo = true → bl = true := by cases lo <;> simp
    have hc2 : f = [] → (!lo || bl) = true := fun e => by
      subst e
      rw [hl2 (by simp)]
      simp
    generalize (!lo || bl) = cc at key hc1 hc2
    cases cc with
    | false =>
      exact ⟨pool2, f, _, key, g2, hf, by omega, by omega, fun e => nomatch hc2 e⟩
    | true =>
      refine ⟨pool2, f ++ [(i1, i2)], some (pt (i1, i2)), key.trans ((drpE_ev (mthE_ev rfl (econs_ev (lft_ev rfl) enil_ev) rfl (app_ok (by rw [List.length_map]; omega)))).trans ?_), g2, ⟨hB2, fun hlo => hl1 (hc1 rfl hlo), ?_⟩, by simp, by simp, fun _ => by simp⟩
      · rw [List.map_append]
        rfl
      · rw [List.nodup_append]
        refine ⟨hf.d, by simp, fun p hp q hq => ?_⟩
        rw [List.mem_singleton.mp hq]
        exact fun e => hm (e ▸ hp)
theorem fine_nil {lo : Bool} : FineB lo [] := ⟨fun p h => (nomatch h), fun _ i j k _ _ h => absurd h (by simp), List.nodup_nil⟩
theorem points_ok (lo : Bool) {b : Nat} {pool : List PyData} {most : Int} (h : Good b pool) (hb : b + 100 < 2 ^ 100) (h0 : 1 ≤ most) (h1 : most ≤ 9) :
    ∃ pool' l, f__law_points [.list pool, .int most, .bool lo] = .ok (pts l, .list pool') ∧ Good (b + 2 + 2 * 9) pool' ∧ FineB lo l ∧ 1 ≤ l.length ∧ l.length ≤ 9 := by
  obtain ⟨w, p1, e1, hw, g1⟩ := of_ok (xs := [.int 3, .int 5, .int 9, .int 99]) h (by omega) (by decide) (by decide)
  obtain ⟨m, p2, e2, m0, m1, g2⟩ := take_ok (many := most) g1 (by omega) (by omega) (by omega)
  have hw : ∃ w' : Int, w = .int w' ∧ 0 ≤ w' ∧ w' ≤ 99 := by
    simp at hw
    rcases hw with rfl | rfl | rfl | rfl <;> exact ⟨_, rfl, by decide, by decide⟩
  obtain ⟨w', rfl, w0, w1⟩ := hw
  have s1 := par_ev (is := [3, 4]) (ρ := [some (.list pool), some (.int most), some (.bool lo), none, none, none, none]) (nwc_ev (m := lstS anil) rfl (econs_ev (calQ_ev (m := acons (lstS (acons (cst (.int 3)) (acons (cst (.int 5)) (acons (cst (.int 9)) (acons (cst (.int 99)) anil))))) anil) (i := 0) rfl rfl rfl e1) enil_ev))
  have s2 := itR1E_ok (econs_ev (binE_ev (f := addD) (lft_ev (m := cst (.int 1)) (ρ := [some (.list p1), some (.int most), some (.bool lo), some (.list []), some (.int w'), none, none]) rfl) (calQ_ev (i := 0) (m := acons (nm 1) anil) rfl rfl rfl e2) rfl) enil_ev) (by omega) (by omega)
  have inv := loop_inv (g := gnm 5) (b := l__law_points_1) (fun n ρ => ∃ f pool' x y, ρ = [some (.list pool'), some (.int most), some (.bool lo), some (.list (f.map pt)), some (.int w'), x, y] ∧ Good (b + 2 + 2 * n) pool' ∧ FineB lo f ∧ f.length ≤ n ∧ (0 < n → f ≠ [])) (ranD 0 (1 + m).toNat) 0 [some (.list p2), some (.int most), some (.bool lo), some (.list []), some (.int w'), none, none] ⟨[], p2, none, none, rfl, g2, fine_nil, Nat.le_refl _, fun h => absurd h (by decide)⟩ (by
    rintro n d ρ hd ⟨f, pool', x, y, rfl, g3, hf, hl, hne⟩
    obtain ⟨hn, rfl⟩ := ranD_at hd
    have hn9 : n < 9 := by omega
    rw [Nat.zero_add] at g3 hl hne ⊢
    obtain ⟨pool2, f2, x2, e, g4, hf2, l1, l2, h3⟩ := points_1 (a := some (.int most)) (t := some (.int (0 + (n : Nat)))) (x := y) g3 (by omega) w0 w1 hf (by omega)
    refine ⟨_, _, rfl, .inl e, f2, pool2, _, _, rfl, ?_, hf2, by omega, fun _ => ?_⟩
    · rw [show b + 2 + 2 * (n + 1) = b + 2 + 2 * n + 2 by omega]
      exact g4
    · by_cases h : f = []
      · exact h3 h
      · intro z
        rw [z] at l2
        cases f with
        | nil => exact h rfl
        | cons _ _ => simp at l2)
  obtain ⟨ρ', e3, l, pool', x, y, rfl, g3, hf, hl, hne⟩ := inv
  rw [ranD_len] at g3 hl hne
  have good_mono : ∀ {b b' : Nat} {q : List PyData}, Good b q → b ≤ b' → Good b' q := fun ⟨a, m, t, e, h1, h2, h3, h4, h5⟩ hle => ⟨a, m, t, e, h1, h2, h3, h4, by omega⟩
  refine ⟨pool', l, ?_, good_mono g3 (by omega), hf, ?_, by omega⟩
  · refine runQ_rt (ρ := [some (.list pool'), some (.int most), some (.bool lo), some (.list (l.map pt)), some (.int w'), x, y]) ?_ rfl
    refine (sq_nx s1).trans ((sq_nx ((forE_ev s2).trans e3)).trans ?_)
    exact ret_ev ((ap_ev (acons_ev rfl rfl)).trans rfl)
  · have := hne (by omega)
    cases l with
    | nil => exact absurd rfl this
    | cons _ _ => simp
/-! ### the checks pass -/
theorem whole_ok (i : Int) : f_is_whole [.int i] = .ok (.bool true) := rfl
theorem between_ok {i : Int} (h : i.natAbs ≤ 99) : f_is_between [.int i, .int (-99), .int 99] = .ok (.bool true) := by
  have h1 : decide ((-99 : Int) ≤ i) = true := decide_eq_true (by omega)
  have h2 : decide (i ≤ 99) = true := decide_eq_true (by omega)
  have e := and_ev (a := calS [] 1 f_is_whole (acons (nm 0) anil)) (b := chn leD leD (nm 1) (nm 0) (nm 2)) (ρ := [some (.int i), some (.int (-99)), some (.int 99)]) (x := true) rfl fun _ => chn_le rfl rfl rfl
  rw [h1, h2] at e
  exact runB_rt (ρ := [some (.int i), some (.int (-99)), some (.int 99)]) (ret_ev e)
theorem tupof_ok (p : Pt) : f_is_tuple_of [pt p, .int 2] = .ok (.bool true) := rfl
theorem point_ok {p : Pt} (h : B p) : f_is_point [pt p] = .ok (.bool true) := by
  obtain ⟨a, b⟩ := p
  have e2 : calS [] 2 f_is_tuple_of (acons (nm 0) (acons (cst (.int 2)) anil)) [some (pt (a, b)), none] = .ok (.bool true) := rfl
  have ev : ∀ i : Int, i.natAbs ≤ 99 → e_is_point_1 [some (pt (a, b)), some (.int i)] = .ok (.bool true) := fun i hi => (cal_ev (ds := [.int i, .int (-99), .int 99]) rfl rfl).trans (between_ok hi)
  have ec : compS (itS (nm 0)) [1] (gnm 1) tyes e_is_point_1 [some (pt (a, b)), none] = .ok (.list [.bool true, .bool true]) := by
    refine comp_ev (ds := [.int a, .int b]) rfl (by show 2 ≤ 100000; decide) ?_
    show compL [some (pt (a, b)), none] (gnm 1) tyes e_is_point_1 [.int a, .int b] = _
    simp [compL, gnm, tyes, ev a h.1, ev b h.2]
  have e3 : apS allD (acons (compS (itS (nm 0)) [1] (gnm 1) tyes e_is_point_1) anil) [some (pt (a, b)), none] = .ok (.bool true) := (ap_ev (acons_ev ec rfl)).trans rfl
  exact runB_rt (ρ := [some (pt (a, b)), none]) (ret_ev (and_ev e2 fun _ => e3))
theorem wrong_ok {l : List Pt} {lo : Bool} (hf : FineB lo l) : f_wrong_point [pts l] = .ok .none := by
  refine runB_rt (ρ := [some (pts l)]) (ret_ev ?_)
  have el : ∀ (i : Nat) (r : List Pt), (∀ j, r[j]? = l[i + j]?) → i + r.length = l.length → fwL (lam2 0 (andS (calS [] 1 f_is_point (acons (nm 0) anil)) (bin ninD (nm 0) (nm 1)))) (l.map pt) i (r.map pt) = .ok .none := by
    intro i r
    induction r generalizing i with
    | nil => intro _ _; rfl
    | cons p r ih =>
      intro hr hl
      have hil : i < l.length := by rw [List.length_cons] at hl; omega
      have hp : l[i] = p := by
        have := hr 0
        simp [hil] at this
        exact this.symm
      have hb : B p := by rw [← hp]; exact hf.b _ (List.getElem_mem hil)
      have hn : p ∉ l.take i := by
        rw [← hp]
        intro hm
        obtain ⟨j, hj, e⟩ := List.mem_iff_getElem.mp hm
        rw [List.getElem_take] at e
        have hji : j < i := by rw [List.length_take] at hj; omega
        exact absurd e ((List.pairwise_iff_getElem.mp hf.d) j i (by omega) hil hji)
      have ela : lam2 0 (andS (calS [] 1 f_is_point (acons (nm 0) anil)) (bin ninD (nm 0) (nm 1))) [pt p, .tuple (cutD (l.map pt) none (some (i : Int)))] = .ok (.bool true) := by
        rw [cut_take (by rw [List.length_map]; omega), ← List.map_take]
        have e1 : calS [] 1 f_is_point (acons (nm 0) anil) [some (pt p), some (.tuple ((l.take i).map pt))] = .ok (.bool true) := (cal_ev (ds := [pt p]) rfl rfl).trans (point_ok hb)
        have e2 : bin ninD (nm 0) (nm 1) [some (pt p), some (.tuple ((l.take i).map pt))] = .ok (.bool true) := by
          refine (bin_ev rfl rfl).trans ((ninD_ptsT _ _).trans ?_)
          rw [decide_eq_false hn]
          rfl
        exact and_ev e1 fun _ => e2
      rw [List.map_cons]
      unfold fwL
      rw [ela]
      exact ih (i + 1) (fun j => by
        have := hr (j + 1)
        rw [List.getElem?_cons_succ] at this
        rw [this]
        congr 1
        omega) (by rw [List.length_cons] at hl; omega)
  have := el 0 l (fun j => by rw [Nat.zero_add]) (by omega)
  show fwS _ (nm 0) [some (pts l)] = _
  exact this
theorem checkp_ok {l : List Pt} {lo : Bool} (hf : FineB lo l) (h1 : 1 ≤ l.length) (h9 : l.length ≤ 9) : f_check_points [pts l] = .ok .none := by
  have e1 : f_is_row [pts l, .int 1, .int 9] = .ok (.bool true) := by
    have a1 : isiS "tuple" (nm 0) [some (pts l), some (.int 1), some (.int 9)] = .ok (.bool true) := rfl
    have a2 := chn_le (a := nm 1) (b := apS lenD (acons (nm 0) anil)) (c := nm 2) (ρ := [some (pts l), some (.int 1), some (.int 9)]) (x := 1) (y := ((l.map pt).length : Nat)) (z := 9) rfl rfl rfl
    rw [List.length_map, decide_eq_true (by omega), decide_eq_true (by omega)] at a2
    exact runB_rt (ρ := [some (pts l), some (.int 1), some (.int 9)]) (ret_ev (and_ev a1 fun _ => a2))
  have e2 : calS [] 3 f_is_row (acons (nm 0) (acons (cst (.int 1)) (acons (cst (.int 9)) anil))) [some (pts l), none] = .ok (.bool true) := (cal_ev (ds := [pts l, .int 1, .int 9]) rfl rfl).trans e1
  have s1 : iff (tnot (tsv (calS [] 3 f_is_row (acons (nm 0) (acons (cst (.int 1)) (acons (cst (.int 9)) anil)))))) never skip [some (pts l), none] = .ok (.nx [some (pts l), none]) := (iff_ev (tnot_ev (tsv_ev e2))).trans rfl
  have s2 : asg 1 (calS [] 1 f_wrong_point (acons (nm 0) anil)) [some (pts l), none] = .ok (.nx [some (pts l), some .none]) := asg_ev ((cal_ev (ds := [pts l]) rfl rfl).trans (wrong_ok hf))
  exact runB_nx (ρ := [some (pts l), some .none]) ((sq_nx s1).trans ((sq_nx s2).trans rfl))
theorem lst_ev {m : SmA} {ρ : Rho} {ds : List PyData} (h : m ρ = .ok ds) (hl : ds.length ≤ big) : lstS m ρ = .ok (.list ds) := by
  unfold lstS
  rw [h]
  exact if_pos hl
theorem mul_list {xs : List PyData} {k : Nat} (hk : k ≤ 2) (h : xs.length ≤ 1000) : mulD (.list xs) (.int (k : Int)) = .ok (.list (List.replicate k xs).flatten) := by
  have key : ∀ k' : Int, (-(2 ^ 63) ≤ k' ∧ k' < 2 ^ 63 ∧ xs.length * k'.toNat ≤ big) → mulD (.list xs) (.int k') = .ok (.list (List.replicate k'.toNat xs).flatten) := fun k' h => if_pos h
  have a1 : (2 : Int) ^ 63 = 9223372036854775808 := by decide
  have h2 : xs.length * k ≤ 2000 := Nat.le_trans (Nat.mul_le_mul h hk) (by decide)
  have hb : big = 100000 := rfl
  rw [key (k : Int) ⟨by rw [a1]; omega, by rw [a1]; omega, by rw [Int.toNat_natCast, hb]; omega⟩, Int.toNat_natCast]
theorem add_list {xs ys : List PyData} (h : xs.length + ys.length ≤ 100000) : addD (.list xs) (.list ys) = .ok (.list (xs ++ ys)) := if_pos h
theorem tsvE_ev {m : Se} {ρ ρ' : Rho} {b : Bool} (h : m ρ = .ok (.bool b, ρ')) : tsvE m ρ = .ok (b, ρ') := by
  unfold tsvE
  rw [h]
theorem tnotE_ev {m : SeT} {ρ ρ' : Rho} {b : Bool} (h : m ρ = .ok (b, ρ')) : tnotE m ρ = .ok (!b, ρ') := by
  unfold tnotE
  rw [h]
theorem iffE_ev {t : SeT} {m n : Sb} {ρ ρ' : Rho} {b : Bool} (h : t ρ = .ok (b, ρ')) : iffE t m n ρ = if b then m ρ' else n ρ' := by
  unfold iffE
  rw [h]
  cases b <;> rfl
theorem cal0_ev {n : Nat} {f : List PyData → Rs PyData} {m : SmA} {ρ : Rho} {xs ds : List PyData} (h : m ρ = .ok (.list xs :: ds)) (hn : ds.length + 1 = n) : calS [0] n f m ρ = f (.list xs :: ds) := by
  unfold calS
  rw [h]
  exact if_pos ⟨hn, rfl⟩
/-! ### the pool -/
theorem cut_ints (ns : List Int) (lo hi : Option Int) : ∃ ms : List Int, cutD (ns.map .int) lo hi = ms.map .int ∧ ms.length ≤ ns.length := by
  unfold cutD
  refine ⟨_, by rw [← List.map_drop, ← List.map_take], ?_⟩
  rw [List.length_take, List.length_drop]
  omega
theorem mul_okB {i j : Int} (hi : i.natAbs < 2 ^ 3000) (hj : j.natAbs < 2 ^ 3000) : mulD (.int i) (.int j) = .ok (.int (i * j)) := by
  have h1 := log_lt hi (by decide)
  have h2 := log_lt hj (by decide)
  have key : ∀ i j : Int, i.natAbs.log2 + j.natAbs.log2 < 1000000 → mulD (.int i) (.int j) = .ok (.int (i * j)) := fun i j h => if_pos h
  exact key _ _ (by omega)
theorem pow_ok {i : Int} {j : Nat} (hi : i.natAbs < 2 ^ 64) (hj : j ≤ 1000) : powD (.int i) (.int (j : Int)) = .ok (.int (i ^ j)) := by
  have key : ∀ i j : Int, (0 ≤ j ∧ j ≤ 1000000 ∧ i.natAbs < 2 ^ 64) → powD (.int i) (.int j) = .ok (.int (i ^ j.toNat)) := fun i j h => if_pos h
  rw [key _ _ ⟨by omega, by omega, hi⟩, Int.toNat_natCast]
theorem p64 (ρ : Rho) : bin powD (cst (.int 10)) (cst (.int 64)) ρ = .ok (.int 10000000000000000000000000000000000000000000000000000000000000000) := by
  refine (bin_ev (x := .int 10) (y := .int (64 : Nat)) rfl rfl).trans ((pow_ok (by decide) (by decide)).trans ?_)
  congr 2
theorem q2 (ρ : Rho) : bin mulD (bin powD (cst (.int 10)) (cst (.int 64))) (bin powD (cst (.int 10)) (cst (.int 64))) ρ = .ok (.int 100000000000000000000000000000000000000000000000000000000000000000000000000000000000000000000000000000000000000000000000000000000) := by
  refine (bin_ev (p64 ρ) (p64 ρ)).trans ((mul_okB (by decide) (by decide)).trans ?_)
  congr 2
theorem q3 (ρ : Rho) : bin mulD (bin mulD (bin powD (cst (.int 10)) (cst (.int 64))) (bin powD (cst (.int 10)) (cst (.int 64)))) (bin powD (cst (.int 10)) (cst (.int 64))) ρ = .ok (.int 1000000000000000000000000000000000000000000000000000000000000000000000000000000000000000000000000000000000000000000000000000000000000000000000000000000000000000000000000000000000000000000000000) := by
  refine (bin_ev (q2 ρ) (p64 ρ)).trans ((mul_okB (by decide) (by decide)).trans ?_)
  congr 2
theorem q4 (ρ : Rho) : bin mulD (bin mulD (bin mulD (bin powD (cst (.int 10)) (cst (.int 64))) (bin powD (cst (.int 10)) (cst (.int 64)))) (bin powD (cst (.int 10)) (cst (.int 64)))) (bin powD (cst (.int 10)) (cst (.int 64))) ρ = .ok (.int 10000000000000000000000000000000000000000000000000000000000000000000000000000000000000000000000000000000000000000000000000000000000000000000000000000000000000000000000000000000000000000000000000000000000000000000000000000000000000000000000000000000000000000) := by
  refine (bin_ev (q3 ρ) (p64 ρ)).trans ((mul_okB (by decide) (by decide)).trans ?_)
  congr 2
theorem q5 (ρ : Rho) : bin mulD (bin mulD (bin mulD (bin mulD (bin powD (cst (.int 10)) (cst (.int 64))) (bin powD (cst (.int 10)) (cst (.int 64)))) (bin powD (cst (.int 10)) (cst (.int 64)))) (bin powD (cst (.int 10)) (cst (.int 64)))) (bin powD (cst (.int 10)) (cst (.int 64))) ρ = .ok (.int 100000000000000000000000000000000000000000000000000000000000000000000000000000000000000000000000000000000000000000000000000000000000000000000000000000000000000000000000000000000000000000000000000000000000000000000000000000000000000000000000000000000000000000000000000000000000000000000000000000000000000000000000000000000) := by
  refine (bin_ev (q4 ρ) (p64 ρ)).trans ((mul_okB (by decide) (by decide)).trans ?_)
  congr 2
theorem q6 (ρ : Rho) : bin mulD (bin mulD (bin mulD (bin mulD (bin mulD (bin powD (cst (.int 10)) (cst (.int 64))) (bin powD (cst (.int 10)) (cst (.int 64)))) (bin powD (cst (.int 10)) (cst (.int 64)))) (bin powD (cst (.int 10)) (cst (.int 64)))) (bin powD (cst (.int 10)) (cst (.int 64)))) (bin powD (cst (.int 10)) (cst (.int 64))) ρ = .ok (.int 1000000000000000000000000000000000000000000000000000000000000000000000000000000000000000000000000000000000000000000000000000000000000000000000000000000000000000000000000000000000000000000000000000000000000000000000000000000000000000000000000000000000000000000000000000000000000000000000000000000000000000000000000000000000000000000000000000000000000000000000000000000000000000000000000) := by
  refine (bin_ev (q5 ρ) (p64 ρ)).trans ((mul_okB (by decide) (by decide)).trans ?_)
  congr 2
def MM : Int := 1000000000000000000000000000000000000000000000000000000000000000000000000000000000000000000000000000000000000000000000000000000000000000000000000000000000000000000000000000000000000000000000000000000000000000000000000000000000000000000000000000000000000000000000000000000000000000000000000000000000000000000000000000000000000000000000000000000000000000000000000000000000000000000000000
theorem pool_loop {ms : List Int} {a b c d x : Option PyData} {m : Int} (h0 : 0 ≤ m) (h1 : m < 2147483399) :
    ∃ m' x', loop (gnm 5) l__law_pool_1 (ms.map .int) [a, b, c, some (.int m), d, x] = .ok (.nx [a, b, c, some (.int m'), d, x']) ∧ 0 ≤ m' ∧ m' < 2147483399 := by
  obtain ⟨ρ', e, m', x', rfl, h2, h3⟩ := loop_inv (g := gnm 5) (b := l__law_pool_1) (fun _ ρ => ∃ m x, ρ = [a, b, c, some (.int m), d, x] ∧ 0 ≤ m ∧ m < 2147483399) (ms.map .int) 0 [a, b, c, some (.int m), d, x] ⟨m, x, rfl, h0, h1⟩ (by
    rintro j z ρ hd ⟨m, x, rfl, h0, h1⟩
    rw [List.getElem?_map] at hd
    obtain ⟨y, _, rfl⟩ := Option.map_eq_some_iff.mp hd
    have k1 : modD (.int y) (.int 2147483399) = .ok (.int (y % 2147483399)) := mod_ok (by decide)
    have y0 : 0 ≤ y % 2147483399 := Int.emod_nonneg _ (by decide)
    have y1 : y % 2147483399 < 2147483399 := Int.emod_lt_of_pos _ (by decide)
    generalize y % 2147483399 = w at k1 y0 y1
    have k2 : mulD (.int w) (.int 19) = .ok (.int (w * 19)) := mul_ok (by omega) (by decide)
    have k3 : mulD (.int m) (.int 48271) = .ok (.int (m * 48271)) := mul_ok (by omega) (by decide)
    have k4 : modD (.int (m * 48271 + w * 19 + 7)) (.int 2147483399) = .ok (.int ((m * 48271 + w * 19 + 7) % 2147483399)) := mod_ok (by decide)
    exact ⟨[a, b, c, some (.int m), d, some (.int y)], [a, b, c, some (.int ((m * 48271 + w * 19 + 7) % 2147483399)), d, some (.int y)], rfl,
      .inl (asg_ev (i := 3) ((bin_ev ((bin_ev ((bin_ev ((bin_ev rfl rfl).trans k3) ((bin_ev ((bin_ev rfl rfl).trans k1) rfl).trans k2)).trans rfl) rfl).trans rfl) rfl).trans k4)),
      _, _, rfl, Int.emod_nonneg _ (by decide), Int.emod_lt_of_pos _ (by decide)⟩)
  exact ⟨m', x', e, h2, h3⟩
theorem if_evS {t : SmT} {m n : Sm} {ρ : Rho} {b : Bool} {x y : PyData} (h : t ρ = .ok b) (h1 : b = true → m ρ = .ok x) (h2 : b = false → n ρ = .ok y) : ifS t m n ρ = .ok (if b then x else y) := by
  unfold ifS
  rw [h]
  cases b with
  | true => exact h1 rfl
  | false => exact h2 rfl
theorem sl_ev {m : Sm} {l h : SmO} {ρ : Rho} {xs : List PyData} {lo hi : Option Int} (h1 : m ρ = .ok (.list xs)) (h2 : l ρ = .ok lo) (h3 : h ρ = .ok hi) : slS m l h ρ = .ok (.list (cutD xs lo hi)) := by
  unfold slS
  rw [h1]
  simp only [h2, h3, slD]
theorem pool_ok (ns : List Int) {k : Int} (k0 : 0 ≤ k) (k1 : k ≤ 3) : ∃ pool, f__law_pool [.list (ns.map .int), .int k] = .ok (.list pool) ∧ Good 0 pool := by
  obtain ⟨ms, c1, _⟩ := cut_ints ns (some k) (some (k + 1))
  obtain ⟨ts, c2, _⟩ := cut_ints ns none (some 12)
  have e1 : apS sumD (acons (slS (nm 0) (osome (nm 1)) (osome (bin addD (nm 1) (cst (.int 1))))) anil) [some (.list (ns.map .int)), some (.int k), none, none, none, none] = .ok (.int ms.sum) := by
    refine (ap_ev (acons_ev (sl_ev (lo := some k) (hi := some (k + 1)) rfl rfl rfl) rfl)).trans ?_
    rw [c1]
    unfold sumD
    simp only [intsOf_map]
  have m1 : mulD (.int 977) (.int k) = .ok (.int (977 * k)) := mul_ok (by decide) (by omega)
  have e2 : bin addD (cst (.int 50021)) (bin mulD (cst (.int 977)) (nm 1)) [some (.list (ns.map .int)), some (.int k), none, none, none, none] = .ok (.int (50021 + 977 * k)) := (bin_ev rfl ((bin_ev rfl rfl).trans m1)).trans rfl
  have s1 := par_ev (is := [2, 3]) (econs_ev (lft_ev e1) (econs_ev (lft_ev e2) enil_ev))
  have s2 := asg_ev (i := 4) (q6 [some (.list (ns.map .int)), some (.int k), some (.int ms.sum), some (.int (50021 + 977 * k)), none, none])
  obtain ⟨m', x', e3, g0, g1⟩ := pool_loop (ms := ts) (a := some (.list (ns.map .int))) (b := some (.int k)) (c := some (.int ms.sum)) (d := some (.int MM)) (x := none) (m := 50021 + 977 * k) (by omega) (by omega)
  have ei : itS (slS (nm 0) onone (osome (cst (.int 12)))) [some (.list (ns.map .int)), some (.int k), some (.int ms.sum), some (.int (50021 + 977 * k)), some (.int MM), none] = .ok (ts.map .int) := by
    unfold itS
    rw [sl_ev (lo := none) (hi := some 12) rfl rfl rfl, c2]
  have s3 := (for_ev ei).trans e3
  have hm : modD (.int (if ms.sum < 0 then -ms.sum else ms.sum)) (.int MM) = .ok (.int ((if ms.sum < 0 then -ms.sum else ms.sum) % MM)) := mod_ok (by unfold MM; decide)
  have p18 : bin powD (cst (.int 10)) (cst (.int 18)) [some (.list (ns.map .int)), some (.int k), some (.int ms.sum), some (.int m'), some (.int MM), x'] = .ok (.int 1000000000000000000) := (bin_ev (x := .int 10) (y := .int (18 : Nat)) rfl rfl).trans ((pow_ok (by decide) (by decide)).trans rfl)
  have e4 : bin modD (apS absD (acons (nm 2) anil)) (nm 4) [some (.list (ns.map .int)), some (.int k), some (.int ms.sum), some (.int m'), some (.int MM), x'] = .ok (.int ((if ms.sum < 0 then -ms.sum else ms.sum) % MM)) := (bin_ev ((ap_ev (ds := [.int ms.sum]) rfl).trans rfl) rfl).trans hm
  have et : tor (tcmp ltD (nm 2) (cst (.int 0))) (tcmp geD (nm 2) (bin powD (cst (.int 10)) (cst (.int 18)))) [some (.list (ns.map .int)), some (.int k), some (.int ms.sum), some (.int m'), some (.int MM), x'] = .ok (decide (ms.sum < 0) || decide (1000000000000000000 ≤ ms.sum)) := tor_ev (tcmp_ev rfl rfl rfl) fun _ => tcmp_ev rfl p18 rfl
  have e5 := if_evS (y := .int 0) (n := cst (.int 0)) et (fun _ => e4) (fun _ => rfl)
  have e6 := ret_ev (lst_ev (acons_ev e5 (acons_ev (a := nm 3) (x := .int m') rfl (acons_ev (a := cst (.int 0)) (x := .int 0) rfl (b := anil) rfl))) (by show 3 ≤ 100000; decide))
  refine ⟨_, runB_rt ((sq_nx s1).trans ((sq_nx s2).trans ((sq_nx s3).trans e6))), ?_⟩
  have hA : 0 ≤ (if ms.sum < 0 then -ms.sum else ms.sum) % MM := Int.emod_nonneg _ (by unfold MM; decide)
  generalize (decide (ms.sum < 0) || decide (1000000000000000000 ≤ ms.sum)) = bb
  cases bb with
  | true => exact ⟨_, m', 0, rfl, hA, g0, g1, Int.le_refl 0, Int.le_refl 0⟩
  | false => exact ⟨0, m', 0, rfl, Int.le_refl 0, g0, g1, Int.le_refl 0, Int.le_refl 0⟩
end K41

set_option linter.all false
set_option maxRecDepth 100000
set_option maxHeartbeats 1000000
/-! depths: fractions, reaches, what lies beyond. -/
namespace K41
open DL
open PySem (PyData Str)
local macro_rules | `(tactic| walk_at "nrm") => `(tactic| first | (simp only [List.set_cons_zero, List.set_cons_succ, setR_cons, setR_nil, List.map_cons, List.map_nil, List.replicate, List.cons_append, List.nil_append]; rfl) | (simp only [List.set_cons_zero, List.set_cons_succ, setR_cons, setR_nil, List.map_cons, List.map_nil, List.replicate, List.cons_append, List.nil_append]; done) | rfl | rotate_left)
local macro_rules | `(tactic| walk_at "prim") => `(tactic| first | with_reducible assumption | with_reducible exact mul_b | with_reducible exact eqD_int _ _ | with_reducible exact neD_int _ _ | with_reducible exact fdiv_b (by omega) | with_reducible exact mod_b (by omega) | with_reducible exact ixT (by omega) | with_reducible exact ixL (by omega) | with_reducible exact len_pts | with_reducible exact len_mapL | with_reducible exact len_mapT | walk_at "fact" | rfl | rotate_left)
local macro_rules | `(tactic| walk_at "callp") => `(tactic| first | with_reducible assumption | walk_at "fact" | rotate_left)
local macro_rules | `(tactic| walk_at "fact") => `(tactic| fail)
local macro_rules | `(tactic| walk_at "small") => `(tactic| first | exact Nat.le_of_ble_eq_true rfl | assumption | rotate_left)
local macro_rules | `(tactic| walk_at "ev") => `(tactic| first | with_reducible assumption | ((with_reducible apply nm_ev); first | rfl | rotate_left) | ((with_reducible apply cst_ev); first | rfl | rotate_left) | with_reducible exact anil_ev | with_reducible exact enil_ev | ((with_reducible apply bin_ev3); walk_at "ev"; walk_at "ev"; walk_at "prim") | ((with_reducible apply acons_ev); walk_at "ev"; walk_at "ev") | ((with_reducible apply cal_ev3); walk_at "ev"; (first | rfl | rotate_left); walk_at "callp") | ((with_reducible apply ap_ev3); walk_at "ev"; walk_at "prim") | ((with_reducible apply tup_ev3); walk_at "ev"; walk_at "small"; first | rfl | rotate_left) | ((with_reducible apply lst_ev3); walk_at "ev"; walk_at "small"; first | rfl | rotate_left) | ((with_reducible apply neg_ev3); walk_at "ev"; first | rfl | rotate_left) | ((with_reducible apply not_ev3); walk_at "ev"; first | rfl | rotate_left) | ((with_reducible apply lft_ev3); walk_at "ev") | ((with_reducible apply econs_ev); walk_at "ev"; walk_at "ev") | ((with_reducible apply tcmp_ev); walk_at "ev"; walk_at "ev"; walk_at "prim") | ((with_reducible apply tsv_ev); walk_at "ev") | ((with_reducible apply tnot_ev); walk_at "ev") | ((with_reducible apply sq_ev3); walk_at "ev"; walk_at "ev") | ((with_reducible apply asg_ev3); walk_at "ev"; walk_at "nrm") | ((with_reducible apply asgM_ev3); walk_at "ev"; walk_at "nrm") | ((with_reducible apply asgG_ev3); walk_at "ev"; (first | rfl | rotate_left); walk_at "nrm") | ((with_reducible apply par_ev3); walk_at "ev"; walk_at "nrm") | ((with_reducible apply par2_ev3); walk_at "ev"; walk_at "nrm") | ((with_reducible apply aug_ev3); walk_at "ev"; walk_at "ev"; walk_at "prim"; walk_at "nrm") | ((with_reducible apply ret_ev); walk_at "ev") | ((with_reducible apply drp_ev); walk_at "ev") | ((with_reducible apply runB_rt3); walk_at "nrm") | rotate_left)
theorem bdB {p : Pt} (h : B p) : Bd p.1 7 ∧ Bd p.2 7 := by
  have h1 := h.1
  have h2 := h.2
  have e : (2 : Nat) ^ 7 = 128 := rfl
  exact ⟨⟨by omega⟩, ⟨by omega⟩⟩
theorem gcd_ok (o u : Int) : gcdD [.int o, .int u] = .ok (.int (Nat.gcd o.natAbs u.natAbs : Nat)) := rfl
theorem lowest_ok {o u : Int} {k k' : Nat} [ho : Bd o k] [hu' : Bd u k'] (hk : k' < 9000) (hu : 0 < u) : ∃ o' u' : Int, f_lowest [.int o, .int u] = .ok (fr o' u') ∧ 0 < u' ∧ o' * u = o * u' ∧ Bd o' k ∧ Bd u' k' := by
  have hg : 0 < Nat.gcd o.natAbs u.natAbs := Nat.gcd_pos_of_pos_right _ (by omega)
  have hgle : Nat.gcd o.natAbs u.natAbs ≤ u.natAbs := Nat.gcd_le_right _ (by omega)
  have d1 : ((Nat.gcd o.natAbs u.natAbs : Nat) : Int) ∣ o := Int.ofNat_dvd_left.mpr (Nat.gcd_dvd_left _ _)
  have d2 : ((Nat.gcd o.natAbs u.natAbs : Nat) : Int) ∣ u := Int.ofNat_dvd_left.mpr (Nat.gcd_dvd_right _ _)
  have eg := gcd_ok o u
  generalize hG : Nat.gcd o.natAbs u.natAbs = G at *
  obtain ⟨x, hx⟩ := d1
  obtain ⟨y, hy⟩ := d2
  have q1 : o / (G : Int) = x := by rw [hx]; exact Int.mul_ediv_cancel_left _ (by omega)
  have q2 : u / (G : Int) = y := by rw [hy]; exact Int.mul_ediv_cancel_left _ (by omega)
  have bG : Bd (G : Int) k' := ⟨Nat.lt_of_le_of_lt (by omega) hu'.h⟩
  have f1 : fdivD (.int o) (.int (G : Int)) = .ok (.int x) := by rw [fdiv_b (by omega) hk, q1]
  have f2 : fdivD (.int u) (.int (G : Int)) = .ok (.int y) := by rw [fdiv_b (by omega) hk, q2]
  have t : tcmp gtD (nm 1) (cst (.int 0)) [some (.int o), some (.int u), none] = .ok true := tcmp_ev (x := .int u) (y := .int 0) rfl rfl (by show Except.ok (PyData.bool (decide (0 < u))) = _; rw [decide_eq_true hu])
  have s1 : ifS (tcmp gtD (nm 1) (cst (.int 0))) (apS gcdD (acons (nm 0) (acons (nm 1) anil))) (negS (apS gcdD (acons (nm 0) (acons (nm 1) anil)))) [some (.int o), some (.int u), none] = .ok (.int (G : Int)) := by
    refine ifS_t t ?_
    walk_at "ev"
  have hyp : 0 < y := by
    by_cases h : 0 < y
    · exact h
    · have := Int.mul_nonpos_of_nonneg_of_nonpos (show (0 : Int) ≤ G by omega) (show y ≤ 0 by omega)
      omega
  refine ⟨x, y, ?_, hyp, ?_, ⟨Nat.lt_of_le_of_lt ?_ ho.h⟩, ⟨Nat.lt_of_le_of_lt ?_ hu'.h⟩⟩
  · unfold f_lowest
    walk_at "ev"
    unfold b_lowest
    walk_at "ev"
  · rw [hx, hy]
    grind
  · rw [hx, Int.natAbs_mul]
    exact Nat.le_mul_of_pos_left _ (by omega)
  · rw [hy, Int.natAbs_mul]
    exact Nat.le_mul_of_pos_left _ (by omega)
theorem place_ok (p : Pt) : f_place_of [pt p] = .ok (pl ⟨p.1, 1, p.2, 1⟩) := by
  unfold f_place_of
  walk_at "ev"
  unfold b_place_of
  walk_at "ev"
theorem less_ok (a b c d : Int) {k1 k2 k3 k4 : Nat} [Bd a k1] [Bd b k2] [Bd c k3] [Bd d k4] (h1 : k1 + k4 < 1000000) (h2 : k3 + k2 < 1000000) : f_is_less [fr a b, fr c d] = .ok (.bool (decide (a * d < c * b))) := by
  have m1 : mulD (.int a) (.int d) = .ok (.int (a * d)) := mul_b h1
  have m2 : mulD (.int c) (.int b) = .ok (.int (c * b)) := mul_b h2
  unfold f_is_less
  walk_at "ev"
  unfold b_is_less
  walk_at "ev"
structure PlOk (q : DG.Pl) : Prop where
  s : 0 < q.ps
  t : 0 < q.pt
  b1 : Bd q.px 40
  b2 : Bd q.ps 40
  b3 : Bd q.py 40
  b4 : Bd q.pt 40
theorem reach_ok {d : Pt} {q : DG.Pl} [h1 : Bd d.1 40] [h2 : Bd d.2 40] (hq : PlOk q) : ∃ o u : Int, f_reach_of [pt d, pl q] = .ok (fr o u) ∧ 0 < u ∧ o * (q.ps * q.pt) = (d.1 * q.px * q.pt + d.2 * q.py * q.ps) * u ∧ Bd o 300 ∧ Bd u 300 := by
  obtain ⟨hs, ht, b1, b2, b3, b4⟩ := hq
  obtain ⟨a1, u1, e1, p1, q1, c1, c2⟩ := lowest_ok (o := d.1 * q.px) (u := 1 * q.ps) (by decide) (by omega)
  obtain ⟨a2, u2, e2, p2, q2, c3, c4⟩ := lowest_ok (o := d.2 * q.py) (u := 1 * q.pt) (by decide) (by omega)
  obtain ⟨o, u, e3, p3, q3, c5, c6⟩ := lowest_ok (o := a1 * u2 + a2 * u1) (u := u1 * u2) (by decide) (Int.mul_pos p1 p2)
  have t1 : f_times [fr d.1 1, fr q.px q.ps] = .ok (fr a1 u1) := by
    unfold f_times
    walk_at "ev"
    unfold b_times
    walk_at "ev"
  have t2 : f_times [fr d.2 1, fr q.py q.pt] = .ok (fr a2 u2) := by
    unfold f_times
    walk_at "ev"
    unfold b_times
    walk_at "ev"
  have t3 : f_plus [fr a1 u1, fr a2 u2] = .ok (fr o u) := by
    unfold f_plus
    walk_at "ev"
    unfold b_plus
    walk_at "ev"
  refine ⟨o, u, ?_, p3, ?_, ⟨Nat.lt_of_lt_of_le c5.h (Nat.pow_le_pow_right (by decide) (by decide))⟩, ⟨Nat.lt_of_lt_of_le c6.h (Nat.pow_le_pow_right (by decide) (by decide))⟩⟩
  · unfold f_reach_of
    walk_at "ev"
    unfold b_reach_of
    walk_at "ev"
  · have hp : 0 < u1 * u2 := Int.mul_pos p1 p2
    refine Int.eq_of_mul_eq_mul_right (show u1 * u2 ≠ 0 by omega) ?_
    rw [Int.one_mul] at q1 q2
    have e4 : o * (q.ps * q.pt) * (u1 * u2) = (o * (u1 * u2)) * (q.ps * q.pt) := by grind
    rw [e4, q3]
    have e5 : (a1 * u2 + a2 * u1) * u * (q.ps * q.pt) = ((a1 * q.ps) * (u2 * q.pt) + (a2 * q.pt) * (u1 * q.ps)) * u := by grind
    rw [e5, q1, q2]
    grind
theorem less_iff {o u o2 u2 X Y st : Int} (hu : 0 < u) (hu2 : 0 < u2) (hst : 0 < st) (h1 : o * st = X * u) (h2 : o2 = Y * u2) : decide (o * u2 < o2 * u) = decide (0 < Y * st - X) := by
  have e1 : (o2 * u - o * u2) * st = (Y * st - X) * (u * u2) := by
    rw [Int.sub_mul, Int.sub_mul]
    have : o * u2 * st = o * st * u2 := by grind
    rw [this, h1, h2]
    grind
  have hp : 0 < u * u2 := Int.mul_pos hu hu2
  by_cases h : 0 < Y * st - X
  · rw [decide_eq_true h]
    have := Int.mul_pos h hp
    rw [← e1] at this
    have := DG.mul_pos_iff hst this
    exact decide_eq_true (by omega)
  · rw [decide_eq_false h]
    refine decide_eq_false fun z => h ?_
    have := Int.mul_pos (show 0 < o2 * u - o * u2 by omega) hst
    rw [e1] at this
    exact DG.mul_pos_iff hp this
theorem plP {p : Pt} (h : B p) : PlOk ⟨p.1, 1, p.2, 1⟩ := by
  obtain ⟨b1, b2⟩ := bdB h
  have e : (1 : Int).natAbs < 2 ^ 40 := by decide
  exact ⟨Int.one_pos, Int.one_pos, ⟨Nat.lt_of_lt_of_le b1.h (by decide)⟩, ⟨e⟩, ⟨Nat.lt_of_lt_of_le b2.h (by decide)⟩, ⟨e⟩⟩
theorem beyond_ok {l : List Pt} {q : DG.Pl} {d : Pt} (hB : ∀ p ∈ l, B p) (hl : l.length ≤ 1000) (hq : PlOk q) (h1 : Bd d.1 40) (h2 : Bd d.2 40) :
    f_beyond [pts l, pl q, pt d] = .ok (.list ((l.zipIdx.filter fun a => decide (0 < DG.dot d (DG.way q a.1))).map fun a => .int (a.2 : Nat))) := by
  obtain ⟨o, u, e1, p1, q1, c1, c2⟩ := reach_ok (d := d) hq
  have hst := Int.mul_pos hq.s hq.t
  have hc : compS (itEn (acons (nm 0) (anil))) [4, 5] (gtup 2 (gscons (gnm 4) (gscons (gnm 5) (gsnil)))) t_beyond_1 e_beyond_2 [some (pts l), some (pl q), some (pt d), some (fr o u), none, none] = .ok (.list ((l.zipIdx.filter fun a => decide (0 < DG.dot d (DG.way q a.1))).map fun a => .int (a.2 : Nat))) := by
    have hi : itEn (acons (nm 0) (anil)) [some (pts l), some (pl q), some (pt d), some (fr o u), none, none] = .ok (enumFrom 0 (l.map pt)) := itEn_tup (by walk_at "ev")
    refine comp_filter (hi.trans (congrArg _ (enum_map pt l 0))) (by rw [List.length_zipIdx]; omega) fun a ha => ?_
    obtain ⟨o2, u2, e2, p2, q2, c3, c4⟩ := reach_ok (d := d) (plP (hB a.1 (by have := List.fst_mem_of_mem_zipIdx ha; exact this)))
    have e3 := place_ok a.1
    have e4 := less_ok o u o2 u2 (by decide) (by decide)
    have ed : decide (o * u2 < o2 * u) = decide (0 < DG.dot d (DG.way q a.1)) := by
      rw [less_iff (X := d.1 * q.px * q.pt + d.2 * q.py * q.ps) (Y := d.1 * a.1.1 + d.2 * a.1.2) p1 p2 hst q1 (by grind)]
      congr 2
      simp only [DG.dot, DG.way]
      grind
    rw [ed] at e4
    refine ⟨[some (pts l), some (pl q), some (pt d), some (fr o u), some (.int (a.2 : Nat)), some (pt a.1)], rfl, ?_, fun _ => ?_⟩
    · unfold t_beyond_1
      walk_at "ev"
    · unfold e_beyond_2
      walk_at "ev"
  unfold f_beyond
  walk_at "ev"
  unfold b_beyond
  walk_at "ev"

/-! directions -/
def dirsL (l : List Pt) (lot : List Nat) : List Pt := DG.axes ++ lot.flatMap fun i => lot.flatMap fun j => if i ≠ j then DG.dir2 (P l i) (P l j) else []
theorem flat_len {α β : Type} {f : α → List β} {k : Nat} : ∀ {xs : List α}, (∀ a ∈ xs, (f a).length ≤ k) → (xs.flatMap f).length ≤ k * xs.length
  | [], _ => by simp
  | a :: xs, h => by
    have h1 := h a List.mem_cons_self
    have h2 := flat_len (xs := xs) fun b hb => h b (List.mem_cons_of_mem _ hb)
    rw [List.flatMap_cons, List.length_append, List.length_cons, Nat.mul_succ]
    omega
theorem flat_congr {α β : Type} {f g : α → List β} : ∀ {xs : List α}, (∀ a ∈ xs, f a = g a) → xs.flatMap f = xs.flatMap g
  | [], _ => rfl
  | a :: xs, h => by
    rw [List.flatMap_cons, List.flatMap_cons, h a List.mem_cons_self, flat_congr fun b hb => h b (List.mem_cons_of_mem _ hb)]
theorem dir2_len (l : List Pt) (i j : Nat) : (if i ≠ j then DG.dir2 (P l i) (P l j) else []).length ≤ 2 := by
  split
  · exact Nat.le_refl 2
  · exact Nat.zero_le 2
theorem directions_ok {l : List Pt} {lot : List Nat} (hlot : ∀ i ∈ lot, i < l.length) (hn : lot.length ≤ 20) :
    f_directions_of [pts l, .tuple (intsP lot)] = .ok (.list ((dirsL l lot).map pt)) := by
  have s0 : b_directions_of = sq (asgM 2 (lstS (acons (tupS (acons (cst (.int 1)) (acons (cst (.int 0)) (anil)))) (acons (tupS (acons (negS (cst (.int 1))) (acons (cst (.int 0)) (anil)))) (acons (tupS (acons (cst (.int 0)) (acons (cst (.int 1)) (anil)))) (acons (tupS (acons (cst (.int 0)) (acons (negS (cst (.int 1))) (anil)))) (anil))))))) (sq (forS (itS (nm 1)) (gnm 3) (l_directions_of_2)) (ret (nm 2))) := rfl
  have s1 : asgM 2 (lstS (acons (tupS (acons (cst (.int 1)) (acons (cst (.int 0)) (anil)))) (acons (tupS (acons (negS (cst (.int 1))) (acons (cst (.int 0)) (anil)))) (acons (tupS (acons (cst (.int 0)) (acons (cst (.int 1)) (anil)))) (acons (tupS (acons (cst (.int 0)) (acons (negS (cst (.int 1))) (anil)))) (anil)))))) [some (pts l), some (.tuple (intsP lot)), none, none, none, none, none] = .ok (.nx [some (pts l), some (.tuple (intsP lot)), some (.list (DG.axes.map pt)), none, none, none, none]) := by
    walk_at "ev"
  have hin : ∀ (acc : List Pt) (i : Nat) (x a b : Option PyData), i ∈ lot → acc.length ≤ 50000 → ∃ x' a' b', l_directions_of_2 [some (pts l), some (.tuple (intsP lot)), some (.list (acc.map pt)), some (.int (i : Nat)), x, a, b] = .ok (.nx [some (pts l), some (.tuple (intsP lot)), some (.list ((acc ++ lot.flatMap fun j => if i ≠ j then DG.dir2 (P l i) (P l j) else []).map pt)), some (.int (i : Nat)), x', a', b']) := by
    intro acc i x a b hi hacc
    obtain ⟨ρ', e, x', a', b', rfl⟩ := loop_pre (g := gnm 4) (b := l_directions_of_1) (fun j : Nat => PyData.int (j : Nat)) (fun pre ρ => ∃ x a b, ρ = [some (pts l), some (.tuple (intsP lot)), some (.list ((acc ++ pre.flatMap fun j => if i ≠ j then DG.dir2 (P l i) (P l j) else []).map pt)), some (.int (i : Nat)), x, a, b]) lot [some (pts l), some (.tuple (intsP lot)), some (.list (acc.map pt)), some (.int (i : Nat)), x, a, b] ⟨x, a, b, by simp⟩ (by
      rintro pre j post e ρ ⟨x, a, b, rfl⟩
      have hj : j < l.length := hlot j (by rw [e]; simp)
      have hi := hlot i hi
      have hpre : pre.length ≤ 20 := by rw [e] at hn; simp at hn; omega
      have hfl := flat_len (f := fun j => if i ≠ j then DG.dir2 (P l i) (P l j) else []) (k := 2) (xs := pre) fun j _ => dir2_len l i j
      refine ⟨[some (pts l), some (.tuple (intsP lot)), some (.list ((acc ++ pre.flatMap fun j => if i ≠ j then DG.dir2 (P l i) (P l j) else []).map pt)), some (.int (i : Nat)), some (.int (j : Nat)), a, b], ?_⟩
      rw [List.flatMap_append, ← List.append_assoc]
      generalize hA : (acc ++ pre.flatMap fun j => if i ≠ j then DG.dir2 (P l i) (P l j) else []) = A
      have hAl : A.length ≤ 60000 := by rw [← hA, List.length_append]; omega
      have ht : tcmp neD (nm 3) (nm 4) [some (pts l), some (.tuple (intsP lot)), some (.list (A.map pt)), some (.int (i : Nat)), some (.int (j : Nat)), a, b] = .ok ((i : Int) != (j : Int)) := by walk_at "ev"
      by_cases hij : i = j
      · rw [show ((i : Int) != (j : Int)) = false by simp [hij]] at ht
        refine ⟨[some (pts l), some (.tuple (intsP lot)), some (.list (A.map pt)), some (.int (i : Nat)), some (.int (j : Nat)), a, b], rfl, .inl (iff_f ht rfl), some (.int (j : Nat)), a, b, ?_⟩
        simp [hij]
      · rw [show ((i : Int) != (j : Int)) = true by simp [bne]; omega] at ht
        have x1 := ixT hi
        have x2 := ixT hj
        have p1 : parS [5, 6] (econs (lft (bin subD (bin ixD (bin ixD (nm 0) (nm 4)) (cst (.int 0))) (bin ixD (bin ixD (nm 0) (nm 3)) (cst (.int 0))))) (econs (lft (bin subD (bin ixD (bin ixD (nm 0) (nm 4)) (cst (.int 1))) (bin ixD (bin ixD (nm 0) (nm 3)) (cst (.int 1))))) (enil))) [some (pts l), some (.tuple (intsP lot)), some (.list (A.map pt)), some (.int (i : Nat)), some (.int (j : Nat)), a, b] = .ok (.nx [some (pts l), some (.tuple (intsP lot)), some (.list (A.map pt)), some (.int (i : Nat)), some (.int (j : Nat)), some (.int ((P l j).1 - (P l i).1)), some (.int ((P l j).2 - (P l i).2))]) := by
          walk_at "ev"
        have p2 : lstS (acons (tupS (acons (negS (nm 6)) (acons (nm 5) (anil)))) (acons (tupS (acons (nm 5) (acons (nm 6) (anil)))) (anil))) [some (pts l), some (.tuple (intsP lot)), some (.list (A.map pt)), some (.int (i : Nat)), some (.int (j : Nat)), some (.int ((P l j).1 - (P l i).1)), some (.int ((P l j).2 - (P l i).2))] = .ok (.list ((DG.dir2 (P l i) (P l j)).map pt)) := by
          walk_at "ev"
        have p3 : extF (A.map pt) [.list ((DG.dir2 (P l i) (P l j)).map pt)] = .ok (.none, A.map pt ++ (DG.dir2 (P l i) (P l j)).map pt) := if_pos (by
          have e : ((DG.dir2 (P l i) (P l j)).map pt).length = 2 := rfl
          rw [List.length_map, e]
          have : big = 100000 := rfl
          omega)
        refine ⟨_, rfl, .inl (iff_t ht ((sq_nx p1).trans (drpE_ev (mthE_ev rfl (econs_ev (lft_ev p2) enil_ev) rfl p3)))), some (.int (j : Nat)), some (.int ((P l j).1 - (P l i).1)), some (.int ((P l j).2 - (P l i).2)), ?_⟩
        simp [hij])
    refine ⟨x', a', b', ?_⟩
    unfold l_directions_of_2
    exact (for_ev (itS_tup rfl)).trans e
  obtain ⟨ρ', e, i', x', a', b', rfl⟩ := loop_pre (g := gnm 3) (b := l_directions_of_2) (fun j : Nat => PyData.int (j : Nat)) (fun pre ρ => ∃ i x a b, ρ = [some (pts l), some (.tuple (intsP lot)), some (.list ((DG.axes ++ pre.flatMap fun i => lot.flatMap fun j => if i ≠ j then DG.dir2 (P l i) (P l j) else []).map pt)), i, x, a, b]) lot [some (pts l), some (.tuple (intsP lot)), some (.list (DG.axes.map pt)), none, none, none, none] ⟨none, none, none, none, by simp⟩ (by
    rintro pre i post e ρ ⟨i0, x, a, b, rfl⟩
    have hpre : pre.length ≤ 20 := by rw [e] at hn; simp at hn; omega
    have hfl := flat_len (f := fun i => lot.flatMap fun j => if i ≠ j then DG.dir2 (P l i) (P l j) else []) (k := 40) (xs := pre) fun i _ => Nat.le_trans (flat_len (k := 2) fun j _ => dir2_len l i j) (by omega)
    obtain ⟨x', a', b', e'⟩ := hin (DG.axes ++ pre.flatMap fun i => lot.flatMap fun j => if i ≠ j then DG.dir2 (P l i) (P l j) else []) i x a b (by rw [e]; simp) (by rw [List.length_append]; have : DG.axes.length = 4 := rfl; omega)
    refine ⟨_, _, rfl, .inl e', some (.int (i : Nat)), x', a', b', ?_⟩
    rw [List.flatMap_append, ← List.append_assoc]
    simp)
  unfold f_directions_of
  walk_at "ev"
  rw [s0]
  exact (sq_nx s1).trans ((sq_nx ((for_ev (itS_tup rfl)).trans e)).trans (ret_ev rfl))
theorem nodup_inj {α : Type} {l : List α} (hd : l.Nodup) {i j : Nat} (hi : i < l.length) (hj : j < l.length) (h : l[i] = l[j]) : i = j := by
  have hp := List.pairwise_iff_getElem.mp hd
  rcases Nat.lt_trichotomy i j with q | q | q
  · exact absurd h (hp i j hi hj q)
  · exact q
  · exact absurd h.symm (hp j i hj hi q)
theorem dirs_range {l : List Pt} (hd : l.Nodup) : dirsL l (List.range l.length) = DG.dirs l := by
  unfold dirsL DG.dirs
  have key : ∀ (F : Pt → Pt → List Pt), ((List.range l.length).flatMap fun i => (List.range l.length).flatMap fun j => F (P l i) (P l j)) = l.flatMap fun a => l.flatMap fun b => F a b := by
    intro F
    have e2 : ∀ a, ((List.range l.length).flatMap fun j => F a (P l j)) = l.flatMap (F a) := fun a => by
      conv => rhs; rw [← map_P l, List.flatMap_map]
    have e1 : ((List.range l.length).flatMap fun i => l.flatMap (F (P l i))) = l.flatMap fun a => l.flatMap (F a) := by
      conv => rhs; arg 2; rw [← map_P l]
      rw [List.flatMap_map]
    simp only [e2]
    exact e1
  rw [← key]
  congr 1
  have ht : ∀ i ∈ List.range l.length, ((List.range l.length).flatMap fun j => if i ≠ j then DG.dir2 (P l i) (P l j) else []) = (List.range l.length).flatMap fun j => if P l i ≠ P l j then DG.dir2 (P l i) (P l j) else [] := by
    intro i hi
    refine flat_congr fun j hj => ?_
    have hi := List.mem_range.mp hi
    have hj := List.mem_range.mp hj
    have : i = j ↔ P l i = P l j := by
      unfold P
      rw [List.getD_eq_getElem?_getD, List.getD_eq_getElem?_getD, List.getElem?_eq_getElem hi, List.getElem?_eq_getElem hj]
      exact ⟨fun h => by subst h; rfl, fun h => nodup_inj hd hi hj h⟩
    by_cases h : i = j
    · rw [if_neg (by simpa using h), if_neg (by simpa using this.mp h)]
    · rw [if_pos h, if_pos fun z => h (this.mpr z)]
  exact flat_congr ht
/-! depths -/
theorem dirs_bd {l : List Pt} {lot : List Nat} (hB : ∀ p ∈ l, B p) (hlot : ∀ i ∈ lot, i < l.length) {d : Pt} (hd : d ∈ dirsL l lot) : Bd d.1 40 ∧ Bd d.2 40 := by
  have e : (2 : Nat) ^ 40 = 1099511627776 := by decide
  have key : d.1.natAbs ≤ 198 ∧ d.2.natAbs ≤ 198 := by
    rcases List.mem_append.mp hd with h | h
    · simp only [DG.axes, List.mem_cons, List.not_mem_nil, or_false] at h
      rcases h with rfl | rfl | rfl | rfl <;> decide
    · obtain ⟨i, hi, h⟩ := List.mem_flatMap.mp h
      obtain ⟨j, hj, h⟩ := List.mem_flatMap.mp h
      have bi := hB _ (P_mem (hlot i hi))
      have bj := hB _ (P_mem (hlot j hj))
      simp only [B] at bi bj
      by_cases hij : i = j
      · rw [if_neg (by simpa using hij)] at h
        cases h
      · rw [if_pos hij] at h
        simp only [DG.dir2, List.mem_cons, List.not_mem_nil, or_false] at h
        rcases h with rfl | rfl
        · constructor <;> simp only <;> omega
        · constructor <;> simp only <;> omega
  exact ⟨⟨by omega⟩, ⟨by omega⟩⟩
theorem zip_count {l : List Pt} {q : DG.Pl} {d : Pt} : ((l.zipIdx.filter fun a => decide (0 < DG.dot d (DG.way q a.1))).length : Nat) = DG.ahead d (l.map (DG.way q)) := by
  unfold DG.ahead
  rw [← List.countP_eq_length_filter, List.countP_map]
  have : ∀ (l : List Pt) (i : Nat), (l.zipIdx i).countP (fun a => decide (0 < DG.dot d (DG.way q a.1))) = l.countP ((fun a => decide (0 < DG.dot d a)) ∘ DG.way q) := by
    intro l
    induction l with
    | nil => intro i; rfl
    | cons a l ih => intro i; rw [List.zipIdx_cons, List.countP_cons, List.countP_cons, ih]; rfl
  exact this l 0
theorem deep_ok {l : List Pt} {q : DG.Pl} (hB : ∀ p ∈ l, B p) (hl : l.length ≤ 20) (hq : PlOk q) :
    ∃ (m : Nat) (d : Pt), f_deep_by [pts l, pl q] = .ok (.tuple [.int (l.length - (m : Int)), pt (-d.1, -d.2)]) ∧ d ∈ dirsL l (List.range l.length) ∧ DG.ahead d (l.map (DG.way q)) = m ∧ ∀ d ∈ dirsL l (List.range l.length), DG.ahead d (l.map (DG.way q)) ≤ m := by
  have hlot : ∀ i ∈ List.range l.length, i < l.length := fun i hi => List.mem_range.mp hi
  have ed := directions_ok hlot (by rw [List.length_range]; omega)
  have hne : dirsL l (List.range l.length) ≠ [] := fun z => by
    have := congrArg List.length z
    unfold dirsL at this
    rw [List.length_append] at this
    have e : DG.axes.length = 4 := rfl
    rw [List.length_nil] at this
    omega
  have hlen : (dirsL l (List.range l.length)).length ≤ 100000 := by
    unfold dirsL
    rw [List.length_append]
    have hfl := flat_len (f := fun i => (List.range l.length).flatMap fun j => if i ≠ j then DG.dir2 (P l i) (P l j) else []) (k := 40) (xs := List.range l.length) fun i _ => Nat.le_trans (flat_len (k := 2) fun j _ => dir2_len l i j) (by rw [List.length_range]; omega)
    rw [List.length_range] at hfl
    have : DG.axes.length = 4 := rfl
    omega
  have hbd := fun {d} (hd : d ∈ dirsL l (List.range l.length)) => dirs_bd hB hlot hd
  generalize dirsL l (List.range l.length) = D at ed hne hlen hbd ⊢
  let c : Pt → Int := fun d => (DG.ahead d (l.map (DG.way q)) : Nat)
  have er : tupR (rng1 (apS lenD (acons (nm 0) (anil)))) [some (pts l), some (pl q), none, none, none, none, none, none] = .ok (.tuple (intsP (List.range l.length))) := by
    refine tupR_ev (rng1_ev (j := (l.length : Nat)) (by walk_at "ev") ((rngD_nat (by omega)).trans (congrArg _ (ranD_zero _))))
  have c1 : compS (itS (nm 2)) [6] (gnm 6) (tyes) (e_deep_by_1) [some (pts l), some (pl q), some (.list (D.map pt)), none, none, none, none, none] = .ok (.list (D.map fun d => .tuple [.int (c d), pt d])) := by
    refine comp_map (itS_list (by walk_at "ev")) hlen fun d hd => ?_
    obtain ⟨b1, b2⟩ := hbd hd
    have eb := beyond_ok hB (by omega) hq b1 b2
    refine ⟨[some (pts l), some (pl q), some (.list (D.map pt)), none, none, none, some (pt d), none], rfl, ?_⟩
    have ec : c d = ((l.zipIdx.filter fun a => decide (0 < DG.dot d (DG.way q a.1))).length : Nat) := congrArg Int.ofNat zip_count.symm
    rw [ec]
    unfold e_deep_by_1
    walk_at "ev"
  obtain ⟨m, em, ⟨d0, hd0, e0⟩, hm⟩ := max_ok (f := c) hne
  have c2 : compS (itS (nm 3)) [7, 6] (gtup 2 (gscons (gnm 7) (gscons (gnm 6) (gsnil)))) (tyes) (e_deep_by_2) [some (pts l), some (pl q), some (.list (D.map pt)), some (.list (D.map fun d => .tuple [.int (c d), pt d])), none, none, none, none] = .ok (.list (D.map fun d => .int (c d))) := by
    refine comp_map (itS_list (by walk_at "ev")) hlen fun d hd => ?_
    refine ⟨[some (pts l), some (pl q), some (.list (D.map pt)), some (.list (D.map fun d => .tuple [.int (c d), pt d])), none, none, some (pt d), some (.int (c d))], rfl, ?_⟩
    unfold e_deep_by_2
    walk_at "ev"
  have c3 : compS (itS (nm 3)) [7, 6] (gtup 2 (gscons (gnm 7) (gscons (gnm 6) (gsnil)))) (t_deep_by_3) (e_deep_by_4) [some (pts l), some (pl q), some (.list (D.map pt)), some (.list (D.map fun d => .tuple [.int (c d), pt d])), some (.int m), none, none, none] = .ok (.list ((D.filter fun d => c d == m).map pt)) := by
    refine comp_filter (itS_list (by walk_at "ev")) hlen fun d hd => ?_
    refine ⟨[some (pts l), some (pl q), some (.list (D.map pt)), some (.list (D.map fun d => .tuple [.int (c d), pt d])), some (.int m), none, some (pt d), some (.int (c d))], rfl, ?_, fun _ => ?_⟩
    · unfold t_deep_by_3
      walk_at "ev"
    · unfold e_deep_by_4
      walk_at "ev"
  have hf : ∃ d1 r, (D.filter fun d => c d == m) = d1 :: r := by
    cases h : D.filter fun d => c d == m with
    | nil =>
      have : d0 ∈ D.filter fun d => c d == m := List.mem_filter.mpr ⟨hd0, by simp [e0]⟩
      rw [h] at this
      cases this
    | cons d1 r => exact ⟨d1, r, rfl⟩
  obtain ⟨d1, r, hf⟩ := hf
  have h1 : d1 ∈ D ∧ c d1 = m := by
    have : d1 ∈ D.filter fun d => c d == m := by rw [hf]; exact List.mem_cons_self
    obtain ⟨a, b⟩ := List.mem_filter.mp this
    exact ⟨a, by simpa using b⟩
  rw [hf, List.map_cons] at c3
  have x0 : ixD (.list (pt d1 :: r.map pt)) (.int 0) = .ok (pt d1) := ix_head
  refine ⟨DG.ahead d1 (l.map (DG.way q)), d1, ?_, h1.1, rfl, fun d hd => ?_⟩
  · have e : ((DG.ahead d1 (l.map (DG.way q)) : Nat) : Int) = m := h1.2
    rw [e]
    unfold f_deep_by
    walk_at "ev"
    unfold b_deep_by
    walk_at "ev"
  · have := hm d hd
    have h2 := h1.2
    simp only [c] at this h2
    omega
theorem depth_ok {l : List Pt} {q : DG.Pl} (hB : ∀ p ∈ l, B p) (hd : l.Nodup) (hl : l.length ≤ 20) (hq : PlOk q) :
    ∃ m : Int, f_depth_by [pts l, pl q] = .ok (.int (l.length - m)) ∧ (∃ d ∈ DG.dirs l, (DG.ahead d (l.map (DG.way q)) : Int) = m) ∧ ∀ d ∈ DG.dirs l, (DG.ahead d (l.map (DG.way q)) : Int) ≤ m := by
  obtain ⟨m, d, e, h1, h2, h3⟩ := deep_ok hB hl hq
  rw [dirs_range hd] at h1 h3
  refine ⟨m, ?_, ⟨d, h1, by rw [h2]⟩, fun d hd => by have := h3 d hd; omega⟩
  unfold f_depth_by
  walk_at "ev"
  unfold b_depth_by
  walk_at "ev"
end K41

set_option linter.all false
set_option maxRecDepth 100000
set_option maxHeartbeats 1000000
/-! the law's own depths. -/
namespace K41
open DL
open PySem (PyData Str)
local macro_rules | `(tactic| walk_at "nrm") => `(tactic| first | (simp only [List.set_cons_zero, List.set_cons_succ, setR_cons, setR_nil, List.map_cons, List.map_nil, List.replicate, List.cons_append, List.nil_append]; rfl) | (simp only [List.set_cons_zero, List.set_cons_succ, setR_cons, setR_nil, List.map_cons, List.map_nil, List.replicate, List.cons_append, List.nil_append]; done) | rfl | rotate_left)
local macro_rules | `(tactic| walk_at "prim") => `(tactic| first | with_reducible assumption | with_reducible exact mul_b | with_reducible exact eqD_int _ _ | with_reducible exact neD_int _ _ | with_reducible exact fdiv_b (by omega) | with_reducible exact mod_b (by omega) | with_reducible exact ixT (by omega) | with_reducible exact ixL (by omega) | with_reducible exact len_pts | with_reducible exact len_mapL | with_reducible exact len_mapT | walk_at "fact" | rfl | rotate_left)
local macro_rules | `(tactic| walk_at "callp") => `(tactic| first | with_reducible assumption | walk_at "fact" | rotate_left)
local macro_rules | `(tactic| walk_at "fact") => `(tactic| fail)
local macro_rules | `(tactic| walk_at "small") => `(tactic| first | exact Nat.le_of_ble_eq_true rfl | assumption | rotate_left)
local macro_rules | `(tactic| walk_at "ev") => `(tactic| first | with_reducible assumption | ((with_reducible apply nm_ev); first | rfl | rotate_left) | ((with_reducible apply cst_ev); first | rfl | rotate_left) | with_reducible exact anil_ev | with_reducible exact enil_ev | ((with_reducible apply bin_ev3); walk_at "ev"; walk_at "ev"; walk_at "prim") | ((with_reducible apply acons_ev); walk_at "ev"; walk_at "ev") | ((with_reducible apply cal_ev3); walk_at "ev"; (first | rfl | rotate_left); walk_at "callp") | ((with_reducible apply ap_ev3); walk_at "ev"; walk_at "prim") | ((with_reducible apply tup_ev3); walk_at "ev"; walk_at "small"; first | rfl | rotate_left) | ((with_reducible apply lst_ev3); walk_at "ev"; walk_at "small"; first | rfl | rotate_left) | ((with_reducible apply neg_ev3); walk_at "ev"; first | rfl | rotate_left) | ((with_reducible apply not_ev3); walk_at "ev"; first | rfl | rotate_left) | ((with_reducible apply lft_ev3); walk_at "ev") | ((with_reducible apply econs_ev); walk_at "ev"; walk_at "ev") | ((with_reducible apply tcmp_ev); walk_at "ev"; walk_at "ev"; walk_at "prim") | ((with_reducible apply tsv_ev); walk_at "ev") | ((with_reducible apply tnot_ev); walk_at "ev") | ((with_reducible apply sq_ev3); walk_at "ev"; walk_at "ev") | ((with_reducible apply asg_ev3); walk_at "ev"; walk_at "nrm") | ((with_reducible apply asgM_ev3); walk_at "ev"; walk_at "nrm") | ((with_reducible apply asgG_ev3); walk_at "ev"; (first | rfl | rotate_left); walk_at "nrm") | ((with_reducible apply par_ev3); walk_at "ev"; walk_at "nrm") | ((with_reducible apply par2_ev3); walk_at "ev"; walk_at "nrm") | ((with_reducible apply aug_ev3); walk_at "ev"; walk_at "ev"; walk_at "prim"; walk_at "nrm") | ((with_reducible apply ret_ev); walk_at "ev") | ((with_reducible apply drp_ev); walk_at "ev") | ((with_reducible apply runB_rt3); walk_at "nrm") | rotate_left)
theorem way_bd {q : DG.Pl} {p : Pt} (h : B p) (hq : PlOk q) : Bd (DG.way q p).1 200 ∧ Bd (DG.way q p).2 200 := by
  obtain ⟨b1, b2⟩ := bdB h
  obtain ⟨_, _, b3, b4, b5, b6⟩ := hq
  have c1 : Bd ((p.1 * q.ps - q.px) * q.pt) (7 + 40 + 40 + 1 + 40) := inferInstance
  have c2 : Bd ((p.2 * q.pt - q.py) * q.ps) (7 + 40 + 40 + 1 + 40) := inferInstance
  exact ⟨⟨Nat.lt_of_lt_of_le c1.h (Nat.pow_le_pow_right (by decide) (by decide))⟩, ⟨Nat.lt_of_lt_of_le c2.h (Nat.pow_le_pow_right (by decide) (by decide))⟩⟩
theorem ways_ok {l : List Pt} {q : DG.Pl} (hB : ∀ p ∈ l, B p) (hl : l.length ≤ 1000) (hq : PlOk q) : f__law_ways [pts l, pl q] = .ok (.list ((l.map (DG.way q)).map pt)) := by
  have c1 : compS (itS (nm 0)) [6, 7] (gtup 2 (gscons (gnm 6) (gscons (gnm 7) (gsnil)))) (tyes) (e__law_ways_1) [some (pts l), some (pl q), some (.int q.px), some (.int q.ps), some (.int q.py), some (.int q.pt), none, none] = .ok (.list ((l.map (DG.way q)).map pt)) := by
    rw [List.map_map]
    refine comp_map (toD := pt) (itS_tup (by walk_at "ev")) (by omega) fun p hp => ?_
    obtain ⟨b1, b2⟩ := bdB (hB p hp)
    obtain ⟨_, _, b3, b4, b5, b6⟩ := hq
    refine ⟨[some (pts l), some (pl q), some (.int q.px), some (.int q.ps), some (.int q.py), some (.int q.pt), some (.int p.1), some (.int p.2)], rfl, ?_⟩
    unfold e__law_ways_1
    walk_at "ev"
  unfold f__law_ways
  walk_at "ev"
  unfold b__law_ways
  walk_at "ev"
abbrev ldR (a b : PyData) (W : List Pt) (best far here high side tilt : Int) (x y z w v : Option PyData) : Rho := [some a, some b, some (.list (W.map pt)), some (.int best), some (.int far), some (.int here), some (.int high), some (.int side), some (.int tilt), x, y, z, w, v]
theorem ld_step {a0 b0 : PyData} {W : List Pt} {best far here high side tilt : Int} (x y z w v : Option PyData) (hW : ∀ a ∈ W, Bd a.1 200 ∧ Bd a.2 200) (hl : W.length ≤ 1000) [Bd far 2000] [Bd here 200] [Bd high 200] [Bd side 200] [Bd tilt 200] :
    ∃ b' x' y', l__law_depth_4 (ldR a0 b0 W best far here high side tilt x y z w v) = .ok (.nx (ldR a0 b0 W b' far here high side tilt x' y' z w v)) ∧ b' ≤ best ∧ b' ≤ DG.atleast (DG.tilted far side tilt (here, high)) W ∧ (b' = best ∨ b' = DG.atleast (DG.tilted far side tilt (here, high)) W) := by
  obtain ⟨b', em, h1, h2, h3⟩ := min2_ok best (DG.atleast (DG.tilted far side tilt (here, high)) W : Nat)
  refine ⟨b', some (.int (DG.tilted far side tilt (here, high)).1), some (.int (DG.tilted far side tilt (here, high)).2), ?_, h1, h2, h3⟩
  have eu1 : (DG.tilted far side tilt (here, high)).1 = 0 - side * high * far + tilt * here := rfl
  have eu2 : (DG.tilted far side tilt (here, high)).2 = side * here * far + tilt * high := rfl
  have bu1 : Bd (DG.tilted far side tilt (here, high)).1 5000 := by
    rw [eu1]
    have c : Bd (0 - side * high * far + tilt * here) (Nat.log2 0 + 1 + (200 + 200 + 2000) + 1 + (200 + 200) + 1) := inferInstance
    exact ⟨Nat.lt_of_lt_of_le c.h (Nat.pow_le_pow_right (by decide) (by decide))⟩
  have bu2 : Bd (DG.tilted far side tilt (here, high)).2 5000 := by
    rw [eu2]
    have c : Bd (side * here * far + tilt * high) (200 + 200 + 2000 + (200 + 200) + 1) := inferInstance
    exact ⟨Nat.lt_of_lt_of_le c.h (Nat.pow_le_pow_right (by decide) (by decide))⟩
  have p1 : parS [9, 10] (econs (lft (bin addD (bin subD (cst (.int 0)) (bin mulD (bin mulD (nm 7) (nm 6)) (nm 4))) (bin mulD (nm 8) (nm 5)))) (econs (lft (bin addD (bin mulD (bin mulD (nm 7) (nm 5)) (nm 4)) (bin mulD (nm 8) (nm 6)))) (enil))) (ldR a0 b0 W best far here high side tilt x y z w v) = .ok (.nx (ldR a0 b0 W best far here high side tilt (some (.int (DG.tilted far side tilt (here, high)).1)) (some (.int (DG.tilted far side tilt (here, high)).2)) z w v)) := by
    rw [eu1, eu2]
    walk_at "ev"
  generalize DG.tilted far side tilt (here, high) = u at *
  have c1 : compS (itS (nm 2)) [11, 12] (gtup 2 (gscons (gnm 11) (gscons (gnm 12) (gsnil)))) (t__law_depth_2) (e__law_depth_3) (ldR a0 b0 W best far here high side tilt (some (.int u.1)) (some (.int u.2)) z w v) = .ok (.list ((W.filter fun a => decide (0 ≤ DG.dot u a)).map fun _ => .int 1)) := by
    refine comp_filter (toD := pt) (itS_list (by walk_at "ev")) (by omega) fun a ha => ?_
    obtain ⟨b1, b2⟩ := hW a ha
    refine ⟨ldR a0 b0 W best far here high side tilt (some (.int u.1)) (some (.int u.2)) (some (.int a.1)) (some (.int a.2)) v, rfl, ?_, fun _ => ?_⟩
    · unfold t__law_depth_2
      walk_at "ev"
    · unfold e__law_depth_3
      walk_at "ev"
  have el : ((W.filter fun a => decide (0 ≤ DG.dot u a)).length : Nat) = DG.atleast u W := (List.countP_eq_length_filter ..).symm
  rw [← el] at em
  unfold l__law_depth_4
  walk_at "ev"
theorem ld_tilts {a0 b0 : PyData} {W : List Pt} {best far here high side : Int} (t x y z w v : Option PyData) (hW : ∀ a ∈ W, Bd a.1 200 ∧ Bd a.2 200) (hl : W.length ≤ 1000) [Bd far 2000] [Bd here 200] [Bd high 200] [Bd side 200] :
    ∃ b' t' x' y', l__law_depth_5 [some a0, some b0, some (.list (W.map pt)), some (.int best), some (.int far), some (.int here), some (.int high), some (.int side), t, x, y, z, w, v] = .ok (.nx [some a0, some b0, some (.list (W.map pt)), some (.int b'), some (.int far), some (.int here), some (.int high), some (.int side), t', x', y', z, w, v]) ∧ b' ≤ best ∧ b' ≤ DG.atleast (DG.tilted far side (-1) (here, high)) W ∧ (b' = best ∨ ∃ u, b' = DG.atleast u W) := by
  have i1 : Bd (1 : Int) 200 := ⟨by decide⟩
  have i2 : Bd (0 : Int) 200 := ⟨by decide⟩
  have i3 : Bd (0 - 1 : Int) 200 := ⟨by decide⟩
  obtain ⟨b1, x1, y1, e1, p1, q1, r1⟩ := ld_step (a0 := a0) (b0 := b0) (best := best) (far := far) (here := here) (high := high) (side := side) (tilt := 1) x y z w v hW hl
  obtain ⟨b2, x2, y2, e2, p2, q2, r2⟩ := ld_step (a0 := a0) (b0 := b0) (best := b1) (far := far) (here := here) (high := high) (side := side) (tilt := 0) x1 y1 z w v hW hl
  obtain ⟨b3, x3, y3, e3, p3, q3, r3⟩ := ld_step (a0 := a0) (b0 := b0) (best := b2) (far := far) (here := here) (high := high) (side := side) (tilt := 0 - 1) x2 y2 z w v hW hl
  refine ⟨b3, some (.int (0 - 1)), x3, y3, ?_, by omega, q3, ?_⟩
  · unfold l__law_depth_5
    refine (for_ev (ds := [.int 1, .int 0, .int (0 - 1)]) (itS_list (by walk_at "ev"))).trans ?_
    exact loop_cons rfl e1 (loop_cons rfl e2 (loop_cons rfl e3 loop_nil))
  · rcases r3 with r3 | r3
    · rcases r2 with r2 | r2
      · rcases r1 with r1 | r1
        · exact .inl (by omega)
        · exact .inr ⟨_, by rw [r3, r2, r1]⟩
      · exact .inr ⟨_, by rw [r3, r2]⟩
    · exact .inr ⟨_, r3⟩
theorem ld_sides {a0 b0 : PyData} {W : List Pt} {best far here high : Int} (s t x y z w v : Option PyData) (hW : ∀ a ∈ W, Bd a.1 200 ∧ Bd a.2 200) (hl : W.length ≤ 1000) [Bd far 2000] [Bd here 200] [Bd high 200] :
    ∃ b' s' t' x' y', l__law_depth_6 [some a0, some b0, some (.list (W.map pt)), some (.int best), some (.int far), some (.int here), some (.int high), s, t, x, y, z, w, v] = .ok (.nx [some a0, some b0, some (.list (W.map pt)), some (.int b'), some (.int far), some (.int here), some (.int high), s', t', x', y', z, w, v]) ∧ b' ≤ best ∧ b' ≤ DG.atleast (DG.tilted far (-1) (-1) (here, high)) W ∧ (b' = best ∨ ∃ u, b' = DG.atleast u W) := by
  have i1 : Bd (1 : Int) 200 := ⟨by decide⟩
  have i3 : Bd (0 - 1 : Int) 200 := ⟨by decide⟩
  obtain ⟨b1, t1, x1, y1, e1, p1, q1, r1⟩ := ld_tilts (a0 := a0) (b0 := b0) (best := best) (far := far) (here := here) (high := high) (side := 1) t x y z w v hW hl
  obtain ⟨b2, t2, x2, y2, e2, p2, q2, r2⟩ := ld_tilts (a0 := a0) (b0 := b0) (best := b1) (far := far) (here := here) (high := high) (side := 0 - 1) t1 x1 y1 z w v hW hl
  refine ⟨b2, some (.int (0 - 1)), t2, x2, y2, ?_, by omega, q2, ?_⟩
  · unfold l__law_depth_6
    refine (for_ev (ds := [.int 1, .int (0 - 1)]) (itS_list (by walk_at "ev"))).trans ?_
    exact loop_cons rfl e1 (loop_cons rfl e2 loop_nil)
  · rcases r2 with r2 | r2
    · rcases r1 with r1 | ⟨u, r1⟩
      · exact .inl (by omega)
      · exact .inr ⟨u, by rw [r2, r1]⟩
    · exact .inr r2
def am (a : Pt) : Int := (if a.1 < 0 then -a.1 else a.1) + (if a.2 < 0 then -a.2 else a.2)
theorem ldepth_ok {l : List Pt} {q : DG.Pl} (hB : ∀ p ∈ l, B p) (hl : l.length ≤ 1000) (h0 : l ≠ []) (hq : PlOk q) :
    ∃ (b far : Int) (k : Nat), f__law_depth [pts l, pl q] = .ok (.int b) ∧ (∀ a ∈ l.map (DG.way q), DG.nrm a ≤ k) ∧ (k * k : Nat) < far ∧ b ≤ l.length ∧ (b = l.length ∨ ∃ u, b = DG.atleast u (l.map (DG.way q))) ∧ ∀ a ∈ l.map (DG.way q), a ≠ (0, 0) → b ≤ DG.atleast (DG.tilted far (-1) (-1) a) (l.map (DG.way q)) := by
  have e1 := ways_ok hB hl hq
  have hW : ∀ a ∈ l.map (DG.way q), Bd a.1 200 ∧ Bd a.2 200 := fun a ha => by
    obtain ⟨p, hp, rfl⟩ := List.mem_map.mp ha
    exact way_bd (hB p hp) hq
  have hlW : (l.map (DG.way q)).length = l.length := List.length_map ..
  have hne : l.map (DG.way q) ≠ [] := by simpa using h0
  generalize l.map (DG.way q) = W at e1 hW hlW hne ⊢
  have c1 : compS (itS (nm 2)) [11, 12] (gtup 2 (gscons (gnm 11) (gscons (gnm 12) (gsnil)))) (tyes) (e__law_depth_1) [some (pts l), some (pl q), some (.list (W.map pt)), some (.int l.length), none, none, none, none, none, none, none, none, none, none] = .ok (.list (W.map fun a => .int (am a))) := by
    refine comp_map (toD := pt) (itS_list (by walk_at "ev")) (by omega) fun a ha => ?_
    refine ⟨[some (pts l), some (pl q), some (.list (W.map pt)), some (.int l.length), none, none, none, none, none, none, none, some (.int a.1), some (.int a.2), none], rfl, ?_⟩
    unfold e__law_depth_1
    walk_at "ev"
  obtain ⟨M, em, ⟨a0, ha0, ea0⟩, hM⟩ := max_ok (f := am) hne
  have bM : Bd M 801 := by
    rw [← ea0]
    obtain ⟨b1, b2⟩ := hW a0 ha0
    have c : Bd ((if a0.1 < 0 then -a0.1 else a0.1) + (if a0.2 < 0 then -a0.2 else a0.2)) (200 + 200 + (200 + 200) + 1) := inferInstance
    exact ⟨Nat.lt_of_lt_of_le c.h (Nat.pow_le_pow_right (by decide) (by decide))⟩
  have hn : ∀ a ∈ W, DG.nrm a ≤ M.toNat := fun a ha => by
    have := hM a ha
    unfold DG.nrm
    simp only [am] at this
    split at this <;> split at this <;> omega
  have hM0 : 0 ≤ M := by
    rw [← ea0]
    simp only [am]
    split <;> split <;> omega
  have bF : Bd ((1 + M) * (1 + M)) 2000 := by
    have c : Bd ((1 + M) * (1 + M)) (Nat.log2 1 + 1 + 801 + 1 + (Nat.log2 1 + 1 + 801 + 1)) := inferInstance
    exact ⟨Nat.lt_of_lt_of_le c.h (Nat.pow_le_pow_right (by decide) (by decide))⟩
  have c2 : compS (itS (nm 2)) [13] (gnm 13) (t__law_depth_7) (e__law_depth_8) [some (pts l), some (pl q), some (.list (W.map pt)), some (.int l.length), some (.int ((1 + M) * (1 + M))), none, none, none, none, none, none, none, none, none] = .ok (.list ((W.filter fun a => !decide (a = (0, 0))).map pt)) := by
    refine comp_filter (toD := pt) (itS_list (by walk_at "ev")) (by omega) fun a ha => ?_
    have en := ne_pt a (0, 0)
    refine ⟨[some (pts l), some (pl q), some (.list (W.map pt)), some (.int l.length), some (.int ((1 + M) * (1 + M))), none, none, none, none, none, none, none, none, some (pt a)], rfl, ?_, fun _ => ?_⟩
    · unfold t__law_depth_7
      walk_at "ev"
    · unfold e__law_depth_8
      walk_at "ev"
  obtain ⟨ρ', e3, b, x5, x6, x7, x8, x9, x10, x11, x12, x13, rfl, h1, h2, h3⟩ := loop_pre (g := gtup 2 (gscons (gnm 5) (gscons (gnm 6) (gsnil)))) (b := l__law_depth_6) pt
    (fun pre ρ => ∃ (b : Int) (x5 x6 x7 x8 x9 x10 x11 x12 x13 : Option PyData), ρ = [some (pts l), some (pl q), some (.list (W.map pt)), some (.int b), some (.int ((1 + M) * (1 + M))), x5, x6, x7, x8, x9, x10, x11, x12, x13] ∧ b ≤ l.length ∧ (b = l.length ∨ ∃ u, b = DG.atleast u W) ∧ ∀ a ∈ pre, b ≤ DG.atleast (DG.tilted ((1 + M) * (1 + M)) (-1) (-1) a) W)
    (W.filter fun a => !decide (a = (0, 0))) [some (pts l), some (pl q), some (.list (W.map pt)), some (.int l.length), some (.int ((1 + M) * (1 + M))), none, none, none, none, none, none, none, none, none]
    ⟨_, _, _, _, _, _, _, _, _, _, rfl, Int.le_refl _, .inl rfl, fun a h => nomatch h⟩ (by
      rintro pre a post e ρ ⟨b, x5, x6, x7, x8, x9, x10, x11, x12, x13, rfl, h1, h2, h3⟩
      have ha : a ∈ W := (List.mem_filter.mp (show a ∈ W.filter fun a => !decide (a = (0, 0)) by rw [e]; simp)).1
      obtain ⟨b1, b2⟩ := hW a ha
      obtain ⟨b', s', t', x', y', e', p1, p2, p3⟩ := ld_sides (a0 := pts l) (b0 := pl q) (W := W) (best := b) (far := (1 + M) * (1 + M)) (here := a.1) (high := a.2) x7 x8 x9 x10 x11 x12 x13 hW (by omega)
      refine ⟨_, _, rfl, .inl e', b', some (.int a.1), some (.int a.2), s', t', x', y', x11, x12, x13, rfl, by omega, ?_, fun c hc => ?_⟩
      · rcases p3 with p3 | p3
        · rcases h2 with h2 | ⟨u, h2⟩
          · exact .inl (by omega)
          · exact .inr ⟨u, by omega⟩
        · exact .inr p3
      · rcases List.mem_append.mp hc with hc | hc
        · have := h3 c hc
          omega
        · rw [List.mem_singleton.mp hc]
          exact p2)
  refine ⟨b, (1 + M) * (1 + M), M.toNat, ?_, hn, ?_, h1, h2, fun a ha hz => h3 a (List.mem_filter.mpr ⟨ha, by simp [hz]⟩)⟩
  · have e4 := (for_ev (itS_list c2)).trans e3
    unfold f__law_depth
    walk_at "ev"
    unfold b__law_depth
    walk_at "ev"
  · have : ((M.toNat * M.toNat : Nat) : Int) = M * M := by
      rw [Int.natCast_mul]
      have : (M.toNat : Int) = M := by omega
      rw [this]
    rw [this]
    have : (1 + M) * (1 + M) = M * M + 2 * M + 1 := by grind
    omega
/-- both depths are one -/
theorem depths_eq {l : List Pt} {q : DG.Pl} (hB : ∀ p ∈ l, B p) (hd : l.Nodup) (h0 : l ≠ []) (hl : l.length ≤ 20) (hq : PlOk q) : ∃ b : Int, f_depth_by [pts l, pl q] = .ok (.int b) ∧ f__law_depth [pts l, pl q] = .ok (.int b) ∧ 0 ≤ b ∧ b ≤ l.length := by
  obtain ⟨m, e1, h1, h2⟩ := depth_ok hB hd hl hq
  obtain ⟨b, far, k, e2, h3, h4, h5, h6, h7⟩ := ldepth_ok hB (by omega) h0 hq
  have e := DG.depth_main hq.s hq.t h1 h2 h3 h4 h5 h6 h7
  refine ⟨b, ?_, e2, ?_, h5⟩
  · rw [e1, e]
  · obtain ⟨d, hd, e3⟩ := h1
    have : DG.ahead d (l.map (DG.way q)) ≤ (l.map (DG.way q)).length := List.countP_le_length
    rw [List.length_map] at this
    omega
end K41

set_option linter.all false
set_option maxRecDepth 100000
set_option maxHeartbeats 1000000
/-! K41T: the deepest points: the law answers True. -/
namespace K41
open DL
open PySem (PyData Str)
local macro_rules | `(tactic| walk_at "nrm") => `(tactic| first | (simp only [List.set_cons_zero, List.set_cons_succ, setR_cons, setR_nil, List.map_cons, List.map_nil, List.replicate, List.cons_append, List.nil_append]; rfl) | (simp only [List.set_cons_zero, List.set_cons_succ, setR_cons, setR_nil, List.map_cons, List.map_nil, List.replicate, List.cons_append, List.nil_append]; done) | rfl | rotate_left)
local macro_rules | `(tactic| walk_at "prim") => `(tactic| first | with_reducible assumption | with_reducible exact mul_b | with_reducible exact eqD_int _ _ | with_reducible exact neD_int _ _ | with_reducible exact fdiv_b (by omega) | with_reducible exact mod_b (by omega) | with_reducible exact ixT (by omega) | with_reducible exact ixL (by omega) | with_reducible exact len_pts | with_reducible exact len_mapL | with_reducible exact len_mapT | walk_at "fact" | rfl | rotate_left)
local macro_rules | `(tactic| walk_at "callp") => `(tactic| first | with_reducible assumption | walk_at "fact" | rotate_left)
local macro_rules | `(tactic| walk_at "fact") => `(tactic| fail)
local macro_rules | `(tactic| walk_at "small") => `(tactic| first | exact Nat.le_of_ble_eq_true rfl | assumption | rotate_left)
local macro_rules | `(tactic| walk_at "ev") => `(tactic| first | with_reducible assumption | ((with_reducible apply nm_ev); first | rfl | rotate_left) | ((with_reducible apply cst_ev); first | rfl | rotate_left) | with_reducible exact anil_ev | with_reducible exact enil_ev | ((with_reducible apply bin_ev3); walk_at "ev"; walk_at "ev"; walk_at "prim") | ((with_reducible apply acons_ev); walk_at "ev"; walk_at "ev") | ((with_reducible apply cal_ev3); walk_at "ev"; (first | rfl | rotate_left); walk_at "callp") | ((with_reducible apply ap_ev3); walk_at "ev"; walk_at "prim") | ((with_reducible apply tup_ev3); walk_at "ev"; walk_at "small"; first | rfl | rotate_left) | ((with_reducible apply lst_ev3); walk_at "ev"; walk_at "small"; first | rfl | rotate_left) | ((with_reducible apply neg_ev3); walk_at "ev"; first | rfl | rotate_left) | ((with_reducible apply not_ev3); walk_at "ev"; first | rfl | rotate_left) | ((with_reducible apply lft_ev3); walk_at "ev") | ((with_reducible apply econs_ev); walk_at "ev"; walk_at "ev") | ((with_reducible apply tcmp_ev); walk_at "ev"; walk_at "ev"; walk_at "prim") | ((with_reducible apply tsv_ev); walk_at "ev") | ((with_reducible apply tnot_ev); walk_at "ev") | ((with_reducible apply sq_ev3); walk_at "ev"; walk_at "ev") | ((with_reducible apply asg_ev3); walk_at "ev"; walk_at "nrm") | ((with_reducible apply asgM_ev3); walk_at "ev"; walk_at "nrm") | ((with_reducible apply asgG_ev3); walk_at "ev"; (first | rfl | rotate_left); walk_at "nrm") | ((with_reducible apply par_ev3); walk_at "ev"; walk_at "nrm") | ((with_reducible apply par2_ev3); walk_at "ev"; walk_at "nrm") | ((with_reducible apply aug_ev3); walk_at "ev"; walk_at "ev"; walk_at "prim"; walk_at "nrm") | ((with_reducible apply ret_ev); walk_at "ev") | ((with_reducible apply drp_ev); walk_at "ev") | ((with_reducible apply runB_rt3); walk_at "nrm") | rotate_left)
abbrev plq (p : Pt) : DG.Pl := ⟨p.1, 1, p.2, 1⟩
def vali : Rs PyData → Int
  | .ok (.int b) => b
  | _ => 0
def dep (l : List Pt) (p : Pt) : Int := vali (f_depth_by [pts l, pl (plq p)])
theorem P_get {l : List Pt} {k : Nat} (h : k < l.length) : P l k = l[k] := by
  unfold P
  rw [List.getD_eq_getElem?_getD, List.getElem?_eq_getElem h, Option.getD_some]
theorem dep_e {l : List Pt} {p : Pt} {b : Int} (e1 : f_depth_by [pts l, pl (plq p)] = .ok (.int b)) : dep l p = b := by
  have : dep l p = vali (f_depth_by [pts l, pl (plq p)]) := rfl
  rw [this, e1]
  rfl
theorem dep_ok {l : List Pt} {p : Pt} (hB : ∀ p ∈ l, B p) (hd : l.Nodup) (hl : l.length ≤ 20) (hp : p ∈ l) : f_depth_by [pts l, pl (plq p)] = .ok (.int (dep l p)) ∧ f__law_depth [pts l, pl (plq p)] = .ok (.int (dep l p)) := by
  obtain ⟨b, e1, e2, _⟩ := depths_eq hB hd (fun z => by rw [z] at hp; cases hp) hl (plP (hB p hp))
  rw [dep_e e1]
  exact ⟨e1, e2⟩
def DepOk (l : List Pt) (D : Pt → Int) : Prop := ∀ p ∈ l, f_depth_by [pts l, pl (plq p)] = .ok (.int (D p)) ∧ f__law_depth [pts l, pl (plq p)] = .ok (.int (D p))
theorem dep_fun {l : List Pt} (hB : ∀ p ∈ l, B p) (hd : l.Nodup) (hl : l.length ≤ 20) : ∃ D, DepOk l D := ⟨dep l, fun p hp => dep_ok hB hd hl hp⟩
theorem deepest_by_ok {l : List Pt} {D : Pt → Int} {M : Int} (hD : DepOk l D) (hl : l.length ≤ 20) (hM : maxD [.list (l.map fun p => .int (D p))] = .ok (.int M)) :
    f_deepest_by [pts l] = .ok (.tuple ((l.zipIdx.filter fun a => D a.1 == M).map fun a => .int (a.2 : Nat))) := by
  have c1 : compS (itS (nm 0)) [2] (gnm 2) (tyes) (e_deepest_by_1) [some (pts l), none, none, none, none] = .ok (.list (l.map fun p => .int (D p))) := by
    refine comp_map (toD := pt) (itS_tup (by walk_at "ev")) (by omega) fun p hp => ?_
    have e1 := place_ok p
    have e2 := (hD p hp).1
    refine ⟨[some (pts l), none, some (pt p), none, none], rfl, ?_⟩
    unfold e_deepest_by_1
    walk_at "ev"
  have c2 : compS (itEn (acons (nm 1) (anil))) [3, 4] (gtup 2 (gscons (gnm 3) (gscons (gnm 4) (gsnil)))) (t_deepest_by_2) (e_deepest_by_3) [some (pts l), some (.list (l.map fun p => .int (D p))), none, none, none] = .ok (.list ((l.zipIdx.filter fun a => D a.1 == M).map fun a => .int (a.2 : Nat))) := by
    refine comp_filter (toD := fun a => .tuple [.int (a.2 : Nat), .int (D a.1)]) ((itEn_list (by walk_at "ev")).trans (congrArg _ (enum_map (fun p => PyData.int (D p)) l 0))) (by rw [List.length_zipIdx]; omega) fun a ha => ?_
    refine ⟨[some (pts l), some (.list (l.map fun p => .int (D p))), none, some (.int (a.2 : Nat)), some (.int (D a.1))], rfl, ?_, fun _ => ?_⟩
    · unfold t_deepest_by_2
      walk_at "ev"
    · unfold e_deepest_by_3
      walk_at "ev"
  unfold f_deepest_by
  walk_at "ev"
  unfold b_deepest_by
  walk_at "ev"
theorem right_ok {b : Nat} {pool : List PyData} {most : Int} (h : Good b pool) (hb : b + 1000 < 2 ^ 100) (h0 : 1 ≤ most) (h1 : most ≤ 9) :
    ∃ pool', f__law_right [.list pool, .int most] = .ok (.bool true, .list pool') ∧ Good (b + 21) pool' := by
  obtain ⟨t, p1, e1, t0, t1, g1⟩ := take_ok (many := 2) h (by omega) (by omega) (by omega)
  obtain ⟨p2, l, e2, g2, hf, l1, l9⟩ := points_ok (t == 0) g1 (by omega) h0 h1
  have hB := hf.b
  have hd := hf.d
  obtain ⟨D, hD⟩ := dep_fun hB hd (by omega)
  have hne : l ≠ [] := fun z => by rw [z] at l1; cases l1
  obtain ⟨M, eM, ⟨p0, hp0, em0⟩, _⟩ := max_ok (f := D) hne
  have ed := deepest_by_ok hD (by omega) eM
  have ec := checkp_ok hf l1 l9
  have edp : f_deepest [pts l] = .ok (.tuple ((l.zipIdx.filter fun a => D a.1 == M).map fun a => .int (a.2 : Nat))) := by
    unfold f_deepest
    walk_at "ev"
    unfold b_deepest
    walk_at "ev"
  have e0 : eqD (.int t) (.int 0) = .ok (.bool (t == 0)) := eqD_int t 0
  have s1 : asgE 2 (calQE 0 3 f__law_points (econs (lft (nm 1)) (econs (binE eqD (calQ 0 2 f__law_take (acons (cst (.int 2)) (anil))) (lft (cst (.int 0)))) (enil)))) [some (.list pool), some (.int most), none, none, none, none, none, none] = .ok (.nx [some (.list p2), some (.int most), some (pts l), none, none, none, none, none]) :=
    asgE_ev (calQE_ev (ρ1 := [some (.list p1), some (.int most), none, none, none, none, none, none]) rfl (econs_ev (lft_ev rfl) (econs_ev (binE_ev (calQ_ev (i := 0) rfl rfl rfl e1) (lft_ev rfl) e0) enil_ev)) rfl rfl e2)
  have c1 : compS (itS (nm 2)) [5, 6] (gtup 2 (gscons (gnm 5) (gscons (gnm 6) (gsnil)))) (tyes) (e__law_right_1) [some (.list p2), some (.int most), some (pts l), none, none, none, none, none] = .ok (.list (l.map fun p => .int (D p))) := by
    refine comp_map (toD := pt) (itS_tup (by walk_at "ev")) (by omega) fun p hp => ?_
    have e2 : f__law_depth [pts l, .tuple [.tuple [.int p.1, .int 1], .tuple [.int p.2, .int 1]]] = _ := (hD p hp).2
    refine ⟨[some (.list p2), some (.int most), some (pts l), none, none, some (.int p.1), some (.int p.2), none], rfl, ?_⟩
    unfold e__law_right_1
    walk_at "ev"
  have c2 : compS (itR1 (acons (apS lenD (acons (nm 2) (anil))) (anil))) [7] (gnm 7) (t__law_right_2) (e__law_right_3) [some (.list p2), some (.int most), some (pts l), some (.list (l.map fun p => .int (D p))), none, none, none, none] = .ok (.list ((l.zipIdx.filter fun a => D a.1 == M).map fun a => .int (a.2 : Nat))) := by
    rw [zip_range, List.filter_map, List.map_map]
    refine comp_filter (toD := fun k : Nat => .int (k : Nat)) ((itR1_ok (j := l.length) (by walk_at "ev") (by omega) (by omega)).trans (congrArg _ (ranD_zero _))) (by rw [List.length_range]; omega) fun k hk => ?_
    have hk := List.mem_range.mp hk
    have ei : ixD (.list (l.map fun p => .int (D p))) (.int (k : Nat)) = .ok (.int (D (P l k))) := by
      rw [ix_nat (f := fun p => PyData.int (D p)) hk, P_get hk]
    refine ⟨[some (.list p2), some (.int most), some (pts l), some (.list (l.map fun p => .int (D p))), none, none, none, some (.int (k : Nat))], rfl, ?_, fun _ => ?_⟩
    · unfold t__law_right_2
      walk_at "ev"
    · unfold e__law_right_3
      walk_at "ev"
  have hlen : (l.zipIdx.filter fun a => D a.1 == M).length ≤ 9 := Nat.le_trans (List.length_filter_le ..) (by rw [List.length_zipIdx]; exact l9)
  have hsm : ∀ a ∈ l.zipIdx.filter fun a => D a.1 == M, a.2 < 100 := fun a ha => by
    have := (List.mem_filter.mp ha).1
    have := List.snd_lt_of_mem_zipIdx this
    omega
  generalize (l.zipIdx.filter fun a => D a.1 == M) = Z at edp c2 hlen hsm
  have htid : tidy 20 (.list [.tuple (Z.map fun a => .int (a.2 : Nat)), .tuple (Z.map fun a => .int (a.2 : Nat))]) = true := by
    have : (Z.map fun a => PyData.int (a.2 : Nat)).all (tidy 18) = true := by
      rw [List.all_map]
      refine List.all_eq_true.mpr fun a ha => ?_
      have := hsm a ha
      simp [tidy]
      omega
    simp [tidy, this]
  have hsh : shB (.list [.tuple (Z.map fun a => .int (a.2 : Nat)), .tuple (Z.map fun a => .int (a.2 : Nat))]) ≤ big := by
    have := shBs_le (f := fun a : Pt × Nat => PyData.int (a.2 : Nat)) (k := 20) (xs := Z) fun a _ => by simp [shB]
    have e : big = 100000 := rfl
    simp only [shB, shBs]
    omega
  have s4 := repr_same htid hsh (a := lstS (acons (calS [] 1 f_deepest (acons (nm 2) (anil))) (acons (calS [] 1 f_deepest (acons (nm 2) (anil))) (anil)))) (b := lstS (acons (nm 4) (acons (nm 4) (anil)))) (ρ := [some (.list p2), some (.int most), some (pts l), some (.list (l.map fun p => .int (D p))), some (.tuple (Z.map fun a => .int (a.2 : Nat))), none, none, none]) (by walk_at "ev") (by walk_at "ev")
  refine ⟨p2, ?_, g2⟩
  refine runQ_rt (ρ := [some (.list p2), some (.int most), some (pts l), some (.list (l.map fun p => .int (D p))), some (.tuple (Z.map fun a => .int (a.2 : Nat))), none, none, none]) ?_ rfl
  refine (sq_nx s1).trans ?_
  walk_at "ev"
theorem law_1 {b : Nat} {pool : List PyData} {most : Int} (h : Good b pool) (hb : b + 1000 < 2 ^ 100) (h0 : 1 ≤ most) (h1 : most ≤ 9) (x y : Option PyData) :
    ∃ pool', l_law_1 [x, y, some (.list pool), some (.int most)] = .ok (.nx [x, y, some (.list pool'), some (.int most)]) ∧ Good (b + 21) pool' := by
  obtain ⟨pool', e, g⟩ := right_ok h hb h0 h1
  refine ⟨pool', ?_, g⟩
  have e1 := calQ_ev (i := 2) (n := 2) (m := acons (nm 3) anil) (ρ := [x, y, some (.list pool), some (.int most)]) rfl rfl rfl e
  exact (iffE_ev (tnotE_ev (tsvE_ev e1))).trans rfl
theorem law_2 (ns : List Int) {k : Int} (k0 : 0 ≤ k) (k1 : k ≤ 3) (x y : Option PyData) :
    ∃ x' y', l_law_2 [some (.list (ns.map .int)), some (.int k), x, y] = .ok (.nx [some (.list (ns.map .int)), some (.int k), x', y']) := by
  obtain ⟨pool, e, g⟩ := pool_ok ns k0 k1
  have s1 := asgM_ev (i := 2) ((cal0_ev (n := 2) (f := f__law_pool) (m := acons (nm 0) (acons (nm 1) anil)) (ρ := [some (.list (ns.map .int)), some (.int k), x, y]) (xs := ns.map .int) (ds := [.int k]) rfl rfl).trans e)
  obtain ⟨ρ', e2, p2, y', rfl, _⟩ := loop_inv (g := gnm 3) (b := l_law_1) (fun n ρ => ∃ pool y, ρ = [some (.list (ns.map .int)), some (.int k), some (.list pool), y] ∧ Good (21 * n) pool)
    [.int 9, .int 7, .int 5, .int 3, .int 6] 0 [some (.list (ns.map .int)), some (.int k), some (.list pool), y] ⟨pool, y, rfl, g⟩ (by
    rintro j d ρ hd ⟨pool, y, rfl, g⟩
    rw [Nat.zero_add] at *
    have hj : j < 5 := (List.getElem?_eq_some_iff.mp hd).1
    have hd2 : ∃ i : Int, d = .int i ∧ 1 ≤ i ∧ i ≤ 9 := by
      have := List.mem_of_getElem? hd
      simp at this
      rcases this with rfl | rfl | rfl | rfl | rfl <;> exact ⟨_, rfl, by decide, by decide⟩
    obtain ⟨i, rfl, i0, i1⟩ := hd2
    obtain ⟨pool', e, g2⟩ := law_1 g (by omega) i0 i1 (some (.list (ns.map .int))) (some (.int k))
    exact ⟨_, _, rfl, .inl e, pool', _, rfl, g2⟩)
  have ei : itS (lstS (acons (cst (.int 9)) (acons (cst (.int 7)) (acons (cst (.int 5)) (acons (cst (.int 3)) (acons (cst (.int 6)) anil)))))) [some (.list (ns.map .int)), some (.int k), some (.list pool), y] = .ok [.int 9, .int 7, .int 5, .int 3, .int 6] := rfl
  exact ⟨_, _, (sq_nx s1).trans ((for_ev ei).trans e2)⟩
theorem law_true (ns : List Int) (h : ns.length ≤ 63) (hz : ∀ z ∈ ns, PySem.Builtin.Int.intBits z ≤ 1048576) : f_law [.list (ns.map .int)] = .ok (.bool true) := by
  have el : apS lenD (acons (nm 0) anil) [some (.list (ns.map .int)), none, none, none] = .ok (.int (ns.length : Nat)) := by
    refine (ap_ev (ds := [.list (ns.map .int)]) (acons_ev rfl rfl)).trans ?_
    show Except.ok (PyData.int ((ns.map PyData.int).length : Nat)) = _
    rw [List.length_map]
  have e1 := (ap_ev (f := minD) (acons_ev el (acons_ev (a := cst (.int 3)) (x := .int 3) rfl (b := anil) rfl))).trans (rfl : _ = Except.ok (PyData.int (if (3 : Int) < (ns.length : Nat) then 3 else (ns.length : Nat))))
  have hw : ∃ w : Int, (if (3 : Int) < (ns.length : Nat) then (3 : Int) else (ns.length : Nat)) = w ∧ w ≤ 3 := ⟨_, rfl, by split <;> omega⟩
  obtain ⟨w, ew, w3⟩ := hw
  rw [ew] at e1
  have e2 := (ap_ev (f := maxD) (acons_ev (a := cst (.int 2)) (x := .int 2) rfl (acons_ev e1 (b := anil) rfl))).trans (rfl : _ = Except.ok (PyData.int (if w > 2 then w else 2)))
  have hv : ∃ v : Int, (if w > 2 then w else 2) = v ∧ 2 ≤ v ∧ v ≤ 3 := ⟨_, rfl, by split <;> omega, by split <;> omega⟩
  obtain ⟨v, ev, v2, v3⟩ := hv
  rw [ev] at e2
  have ei := itR1_ok (acons_ev e2 (b := anil) rfl) (by omega) (by omega)
  obtain ⟨ρ', e3, _⟩ := loop_inv (g := gnm 1) (b := l_law_2) (fun _ ρ => ∃ a x y, ρ = [some (.list (ns.map .int)), a, x, y]) (ranD 0 v.toNat) 0 [some (.list (ns.map .int)), none, none, none] ⟨_, _, _, rfl⟩ (by
    rintro j d ρ hd ⟨a, x, y, rfl⟩
    obtain ⟨hj, rfl⟩ := ranD_at hd
    obtain ⟨x', y', e⟩ := law_2 ns (k := 0 + (j : Nat)) (by omega) (by omega) x y
    exact ⟨_, _, rfl, .inl e, _, _, _, rfl⟩)
  exact runB_rt (ρ := ρ') ((sq_nx ((for_ev ei).trans e3)).trans rfl)
end K41

set_option Elab.async false
set_option linter.all false
set_option maxRecDepth 100000
set_option maxHeartbeats 0
namespace K41
open PySem PySem.Spec PyProof.Rows L2 DL
theorem facts {P : Program} {w : World} {K : Fg} {h : Heap} {mg : Str → Option Value} {fl : Ad} (X : K.In h) (Gm : h.Ns mainGlobals mg) (hfa : mg ("law" : Str) = some (.ref fl)) (c : He.SaysX fa fn [] tf ex w h K) :
    ∃ fd : FuncData, (∀ (s : Shared) (v : Value), BindsTo s fd ⟨[v], []⟩ [("script", v)]) ∧ ∀ base : Heap, K.In base → base.Ns mainGlobals mg → (∀ p ∈ tf.map (He.cT K), LamX.TabB base mg p.1 p.2) → FnG P w K mg base 11 fl fd ["script"] (spP K [((He.cT K ("wrong_point", none)).2, (("wrong_point" : Str) ++ ".<locals>.") ++ "<lambda>")] [0] false 1 f_law) := by
  have cd := c.t.d
  obtain ⟨fd_is_whole, FD_is_whole⟩ := cd.def_ 0 (d := d_is_whole) rfl
  have F_is_whole : Fun K "is_whole" "is_whole" s_is_whole _ fd_is_whole := He5.fun_of FD_is_whole
  have g_is_whole := He.glo_ok X Gm (cd.fact 0 (f := .glo "is_whole") rfl)
  obtain ⟨fd_is_between, FD_is_between⟩ := cd.def_ 1 (d := d_is_between) rfl
  have F_is_between : Fun K "is_between" "is_between" s_is_between _ fd_is_between := He5.fun_of FD_is_between
  have g_is_between := He.glo_ok X Gm (cd.fact 1 (f := .glo "is_between") rfl)
  obtain ⟨fd_is_tuple_of, FD_is_tuple_of⟩ := cd.def_ 2 (d := d_is_tuple_of) rfl
  have F_is_tuple_of : Fun K "is_tuple_of" "is_tuple_of" s_is_tuple_of _ fd_is_tuple_of := He5.fun_of FD_is_tuple_of
  have g_is_tuple_of := He.glo_ok X Gm (cd.fact 2 (f := .glo "is_tuple_of") rfl)
  obtain ⟨fd_is_row, FD_is_row⟩ := cd.def_ 3 (d := d_is_row) rfl
  have F_is_row : Fun K "is_row" "is_row" s_is_row _ fd_is_row := He5.fun_of FD_is_row
  have g_is_row := He.glo_ok X Gm (cd.fact 3 (f := .glo "is_row") rfl)
  obtain ⟨fd_first_wrong, FD_first_wrong⟩ := cd.def_ 4 (d := d_first_wrong) rfl
  have F_first_wrong : Fun K "first_wrong" "first_wrong" s_first_wrong _ fd_first_wrong := He5.fun_of FD_first_wrong
  have g_first_wrong := He.glo_ok X Gm (cd.fact 4 (f := .glo "first_wrong") rfl)
  obtain ⟨fd_lowest, FD_lowest⟩ := cd.def_ 5 (d := d_lowest) rfl
  have F_lowest : Fun K "lowest" "lowest" s_lowest _ fd_lowest := He5.fun_of FD_lowest
  have g_lowest := He.glo_ok X Gm (cd.fact 5 (f := .glo "lowest") rfl)
  obtain ⟨fd_plus, FD_plus⟩ := cd.def_ 6 (d := d_plus) rfl
  have F_plus : Fun K "plus" "plus" s_plus _ fd_plus := He5.fun_of FD_plus
  have g_plus := He.glo_ok X Gm (cd.fact 6 (f := .glo "plus") rfl)
  obtain ⟨fd_times, FD_times⟩ := cd.def_ 7 (d := d_times) rfl
  have F_times : Fun K "times" "times" s_times _ fd_times := He5.fun_of FD_times
  have g_times := He.glo_ok X Gm (cd.fact 7 (f := .glo "times") rfl)
  obtain ⟨fd_is_less, FD_is_less⟩ := cd.def_ 8 (d := d_is_less) rfl
  have F_is_less : Fun K "is_less" "is_less" s_is_less _ fd_is_less := He5.fun_of FD_is_less
  have g_is_less := He.glo_ok X Gm (cd.fact 8 (f := .glo "is_less") rfl)
  obtain ⟨fd_is_point, FD_is_point⟩ := cd.def_ 9 (d := d_is_point) rfl
  have F_is_point : Fun K "is_point" "is_point" s_is_point _ fd_is_point := He5.fun_of FD_is_point
  have g_is_point := He.glo_ok X Gm (cd.fact 9 (f := .glo "is_point") rfl)
  obtain ⟨fd_wrong_point, FD_wrong_point⟩ := cd.def_ 10 (d := d_wrong_point) rfl
  have F_wrong_point : Fun K "wrong_point" "wrong_point" s_wrong_point _ fd_wrong_point := He5.fun_of FD_wrong_point
  have g_wrong_point := He.glo_ok X Gm (cd.fact 10 (f := .glo "wrong_point") rfl)
  obtain ⟨fd_check_points, FD_check_points⟩ := cd.def_ 11 (d := d_check_points) rfl
  have F_check_points : Fun K "check_points" "check_points" s_check_points _ fd_check_points := He5.fun_of FD_check_points
  have g_check_points := He.glo_ok X Gm (cd.fact 11 (f := .glo "check_points") rfl)
  obtain ⟨fd_place_of, FD_place_of⟩ := cd.def_ 12 (d := d_place_of) rfl
  have F_place_of : Fun K "place_of" "place_of" s_place_of _ fd_place_of := He5.fun_of FD_place_of
  have g_place_of := He.glo_ok X Gm (cd.fact 12 (f := .glo "place_of") rfl)
  obtain ⟨fd_reach_of, FD_reach_of⟩ := cd.def_ 13 (d := d_reach_of) rfl
  have F_reach_of : Fun K "reach_of" "reach_of" s_reach_of _ fd_reach_of := He5.fun_of FD_reach_of
  have g_reach_of := He.glo_ok X Gm (cd.fact 13 (f := .glo "reach_of") rfl)
  obtain ⟨fd_directions_of, FD_directions_of⟩ := cd.def_ 14 (d := d_directions_of) rfl
  have F_directions_of : Fun K "directions_of" "directions_of" s_directions_of _ fd_directions_of := He5.fun_of FD_directions_of
  have g_directions_of := He.glo_ok X Gm (cd.fact 14 (f := .glo "directions_of") rfl)
  obtain ⟨fd_beyond, FD_beyond⟩ := cd.def_ 15 (d := d_beyond) rfl
  have F_beyond : Fun K "beyond" "beyond" s_beyond _ fd_beyond := He5.fun_of FD_beyond
  have g_beyond := He.glo_ok X Gm (cd.fact 15 (f := .glo "beyond") rfl)
  obtain ⟨fd_deep_by, FD_deep_by⟩ := cd.def_ 16 (d := d_deep_by) rfl
  have F_deep_by : Fun K "deep_by" "deep_by" s_deep_by _ fd_deep_by := He5.fun_of FD_deep_by
  have g_deep_by := He.glo_ok X Gm (cd.fact 16 (f := .glo "deep_by") rfl)
  obtain ⟨fd_depth_by, FD_depth_by⟩ := cd.def_ 17 (d := d_depth_by) rfl
  have F_depth_by : Fun K "depth_by" "depth_by" s_depth_by _ fd_depth_by := He5.fun_of FD_depth_by
  have g_depth_by := He.glo_ok X Gm (cd.fact 17 (f := .glo "depth_by") rfl)
  obtain ⟨fd_deepest_by, FD_deepest_by⟩ := cd.def_ 18 (d := d_deepest_by) rfl
  have F_deepest_by : Fun K "deepest_by" "deepest_by" s_deepest_by _ fd_deepest_by := He5.fun_of FD_deepest_by
  have g_deepest_by := He.glo_ok X Gm (cd.fact 18 (f := .glo "deepest_by") rfl)
  obtain ⟨fd_deepest, FD_deepest⟩ := cd.def_ 19 (d := d_deepest) rfl
  have F_deepest : Fun K "deepest" "deepest" s_deepest _ fd_deepest := He5.fun_of FD_deepest
  have g_deepest := He.glo_ok X Gm (cd.fact 19 (f := .glo "deepest") rfl)
  obtain ⟨fd__law_pool, FD__law_pool⟩ := cd.def_ 20 (d := d__law_pool) rfl
  have F__law_pool : Fun K "_law_pool" "_law_pool" s__law_pool _ fd__law_pool := He5.fun_of FD__law_pool
  have g__law_pool := He.glo_ok X Gm (cd.fact 20 (f := .glo "_law_pool") rfl)
  obtain ⟨fd__law_take, FD__law_take⟩ := cd.def_ 21 (d := d__law_take) rfl
  have F__law_take : Fun K "_law_take" "_law_take" s__law_take _ fd__law_take := He5.fun_of FD__law_take
  have g__law_take := He.glo_ok X Gm (cd.fact 21 (f := .glo "_law_take") rfl)
  obtain ⟨fd__law_of, FD__law_of⟩ := cd.def_ 22 (d := d__law_of) rfl
  have F__law_of : Fun K "_law_of" "_law_of" s__law_of _ fd__law_of := He5.fun_of FD__law_of
  have g__law_of := He.glo_ok X Gm (cd.fact 22 (f := .glo "_law_of") rfl)
  obtain ⟨fd__law_turn, FD__law_turn⟩ := cd.def_ 23 (d := d__law_turn) rfl
  have F__law_turn : Fun K "_law_turn" "_law_turn" s__law_turn _ fd__law_turn := He5.fun_of FD__law_turn
  have g__law_turn := He.glo_ok X Gm (cd.fact 23 (f := .glo "_law_turn") rfl)
  obtain ⟨fd__law_is_loose, FD__law_is_loose⟩ := cd.def_ 24 (d := d__law_is_loose) rfl
  have F__law_is_loose : Fun K "_law_is_loose" "_law_is_loose" s__law_is_loose _ fd__law_is_loose := He5.fun_of FD__law_is_loose
  have g__law_is_loose := He.glo_ok X Gm (cd.fact 24 (f := .glo "_law_is_loose") rfl)
  obtain ⟨fd__law_points, FD__law_points⟩ := cd.def_ 25 (d := d__law_points) rfl
  have F__law_points : Fun K "_law_points" "_law_points" s__law_points _ fd__law_points := He5.fun_of FD__law_points
  have g__law_points := He.glo_ok X Gm (cd.fact 25 (f := .glo "_law_points") rfl)
  obtain ⟨fd__law_ways, FD__law_ways⟩ := cd.def_ 26 (d := d__law_ways) rfl
  have F__law_ways : Fun K "_law_ways" "_law_ways" s__law_ways _ fd__law_ways := He5.fun_of FD__law_ways
  have g__law_ways := He.glo_ok X Gm (cd.fact 26 (f := .glo "_law_ways") rfl)
  obtain ⟨fd__law_depth, FD__law_depth⟩ := cd.def_ 27 (d := d__law_depth) rfl
  have F__law_depth : Fun K "_law_depth" "_law_depth" s__law_depth _ fd__law_depth := He5.fun_of FD__law_depth
  have g__law_depth := He.glo_ok X Gm (cd.fact 27 (f := .glo "_law_depth") rfl)
  obtain ⟨fd__law_right, FD__law_right⟩ := cd.def_ 28 (d := d__law_right) rfl
  have F__law_right : Fun K "_law_right" "_law_right" s__law_right _ fd__law_right := He5.fun_of FD__law_right
  have g__law_right := He.glo_ok X Gm (cd.fact 28 (f := .glo "_law_right") rfl)
  obtain ⟨fd_law, FD_law⟩ := cd.def_ 29 (d := d_law) rfl
  have F_law : Fun K "law" "law" s_law _ fd_law := He5.fun_of FD_law
  have g_law := He.glo_ok X Gm (cd.fact 29 (f := .glo "law") rfl)
  have hex : ex K = true := c.more
  unfold ex at hex
  have G : Gs mg := ⟨He.free_ok X Gm (cd.fact 30 (f := .free "abs") rfl), He.free_ok X Gm (cd.fact 31 (f := .free "all") rfl), He.free_ok X Gm (cd.fact 32 (f := .free "any") rfl), He.free_ok X Gm (cd.fact 33 (f := .free "bool") rfl), He.free_ok X Gm (cd.fact 34 (f := .free "divmod") rfl), He.free_ok X Gm (cd.fact 35 (f := .free "enumerate") rfl), He.free_ok X Gm (cd.fact 36 (f := .free "int") rfl), He.free_ok X Gm (cd.fact 37 (f := .free "isinstance") rfl), He.free_ok X Gm (cd.fact 38 (f := .free "len") rfl), He.free_ok X Gm (cd.fact 39 (f := .free "max") rfl), He.free_ok X Gm (cd.fact 40 (f := .free "min") rfl), He.free_ok X Gm (cd.fact 41 (f := .free "range") rfl), He.free_ok X Gm (cd.fact 42 (f := .free "repr") rfl), He.free_ok X Gm (cd.fact 43 (f := .free "sum") rfl), He.free_ok X Gm (cd.fact 44 (f := .free "tuple") rfl), He.int_ok X Gm (cd.fact 45 (f := .int "MOST_COORDINATE" 99) rfl), He.int_ok X Gm (cd.fact 46 (f := .int "MOST_POINTS" 9) rfl), PySem.W.mg_of X Gm (He.eqO_ok hex)⟩
  have e := hfa.symm.trans g_law
  cases e
  refine ⟨fd_law, fun s v => FunD.bindsA FD_law (ps := ["script"]) (fun _ _ _ _ _ _ us hl => match us, hl with | [_], _ => rfl) s [v] rfl, fun base Kb mb tb => ?_⟩
  have code_wrong_point : fd_wrong_point.code = .ref (He.codeOf K ("wrong_point", none)) := DL.code_ref FD_wrong_point
  have bfw : Binds K fd_first_wrong ["value", "is_right"] [] := FunD.bindsN FD_first_wrong fun _ _ _ _ _ _ us hl => match us, hl with | [_, _], _ => rfl
  have scfw : FnScope fwN ["value", "is_right"] fwSc := ⟨rfl, rfl, rfl, by decide +kernel, rfl, by decide +kernel, by decide +kernel⟩
  have O__law_pool := ok__law_pool (P := P) (w := w) (mg := mg) (base := base) (T := [((He.cT K ("wrong_point", none)).2, (("wrong_point" : Str) ++ ".<locals>.") ++ "<lambda>")]) F__law_pool G
  have b__law_pool : Binds K fd__law_pool ["script", "k"] [] := FunD.bindsN FD__law_pool fun _ _ _ _ _ _ us hl => match us, hl with | [_, _], _ => rfl
  have C__law_pool : CalP P w K mg base [((He.cT K ("wrong_point", none)).2, (("wrong_point" : Str) ++ ".<locals>.") ++ "<lambda>")] 1 "_law_pool" [0] true 2 f__law_pool := ⟨⟨_, _, _, O__law_pool, g__law_pool, FD__law_pool.kp, b__law_pool⟩⟩
  have O__law_ways := ok__law_ways (P := P) (w := w) (mg := mg) (base := base) (T := [((He.cT K ("wrong_point", none)).2, (("wrong_point" : Str) ++ ".<locals>.") ++ "<lambda>")]) F__law_ways G
  have b__law_ways : Binds K fd__law_ways ["points", "place"] [] := FunD.bindsN FD__law_ways fun _ _ _ _ _ _ us hl => match us, hl with | [_, _], _ => rfl
  have C__law_ways : CalP P w K mg base [((He.cT K ("wrong_point", none)).2, (("wrong_point" : Str) ++ ".<locals>.") ++ "<lambda>")] 1 "_law_ways" [] false 2 f__law_ways := ⟨⟨_, _, _, O__law_ways, g__law_ways, FD__law_ways.kp, b__law_ways⟩⟩
  have O__law_depth := ok__law_depth (P := P) (w := w) (mg := mg) (base := base) (T := [((He.cT K ("wrong_point", none)).2, (("wrong_point" : Str) ++ ".<locals>.") ++ "<lambda>")]) F__law_depth G C__law_ways
  have b__law_depth : Binds K fd__law_depth ["points", "place"] [] := FunD.bindsN FD__law_depth fun _ _ _ _ _ _ us hl => match us, hl with | [_, _], _ => rfl
  have C__law_depth : CalP P w K mg base [((He.cT K ("wrong_point", none)).2, (("wrong_point" : Str) ++ ".<locals>.") ++ "<lambda>")] 2 "_law_depth" [] false 2 f__law_depth := ⟨⟨_, _, _, O__law_depth, g__law_depth, FD__law_depth.kp, b__law_depth⟩⟩
  have O__law_turn := ok__law_turn (P := P) (w := w) (mg := mg) (base := base) (T := [((He.cT K ("wrong_point", none)).2, (("wrong_point" : Str) ++ ".<locals>.") ++ "<lambda>")]) F__law_turn G
  have b__law_turn : Binds K fd__law_turn ["first", "second", "third"] [] := FunD.bindsN FD__law_turn fun _ _ _ _ _ _ us hl => match us, hl with | [_, _, _], _ => rfl
  have C__law_turn : CalP P w K mg base [((He.cT K ("wrong_point", none)).2, (("wrong_point" : Str) ++ ".<locals>.") ++ "<lambda>")] 1 "_law_turn" [] false 3 f__law_turn := ⟨⟨_, _, _, O__law_turn, g__law_turn, FD__law_turn.kp, b__law_turn⟩⟩
  have O__law_is_loose := ok__law_is_loose (P := P) (w := w) (mg := mg) (base := base) (T := [((He.cT K ("wrong_point", none)).2, (("wrong_point" : Str) ++ ".<locals>.") ++ "<lambda>")]) F__law_is_loose G C__law_turn
  have b__law_is_loose : Binds K fd__law_is_loose ["points"] [] := FunD.bindsN FD__law_is_loose fun _ _ _ _ _ _ us hl => match us, hl with | [_], _ => rfl
  have C__law_is_loose : CalP P w K mg base [((He.cT K ("wrong_point", none)).2, (("wrong_point" : Str) ++ ".<locals>.") ++ "<lambda>")] 2 "_law_is_loose" [] false 1 f__law_is_loose := ⟨⟨_, _, _, O__law_is_loose, g__law_is_loose, FD__law_is_loose.kp, b__law_is_loose⟩⟩
  have O__law_take := ok__law_take (P := P) (w := w) (mg := mg) (base := base) (T := [((He.cT K ("wrong_point", none)).2, (("wrong_point" : Str) ++ ".<locals>.") ++ "<lambda>")]) F__law_take G
  have b__law_take : Binds K fd__law_take ["pool", "many"] [] := FunD.bindsN FD__law_take fun _ _ _ _ _ _ us hl => match us, hl with | [_, _], _ => rfl
  have C__law_take : CalQ P w K mg base [((He.cT K ("wrong_point", none)).2, (("wrong_point" : Str) ++ ".<locals>.") ++ "<lambda>")] 1 "_law_take" false 2 f__law_take := ⟨⟨_, _, _, O__law_take, g__law_take, FD__law_take.kp, b__law_take⟩⟩
  have O__law_of := ok__law_of (P := P) (w := w) (mg := mg) (base := base) (T := [((He.cT K ("wrong_point", none)).2, (("wrong_point" : Str) ++ ".<locals>.") ++ "<lambda>")]) F__law_of G C__law_take
  have b__law_of : Binds K fd__law_of ["pool", "some"] [] := FunD.bindsN FD__law_of fun _ _ _ _ _ _ us hl => match us, hl with | [_, _], _ => rfl
  have C__law_of : CalQ P w K mg base [((He.cT K ("wrong_point", none)).2, (("wrong_point" : Str) ++ ".<locals>.") ++ "<lambda>")] 2 "_law_of" false 2 f__law_of := ⟨⟨_, _, _, O__law_of, g__law_of, FD__law_of.kp, b__law_of⟩⟩
  have O__law_points := ok__law_points (P := P) (w := w) (mg := mg) (base := base) (T := [((He.cT K ("wrong_point", none)).2, (("wrong_point" : Str) ++ ".<locals>.") ++ "<lambda>")]) F__law_points G C__law_is_loose C__law_of C__law_take
  have b__law_points : Binds K fd__law_points ["pool", "most", "loose"] [] := FunD.bindsN FD__law_points fun _ _ _ _ _ _ us hl => match us, hl with | [_, _, _], _ => rfl
  have C__law_points : CalQ P w K mg base [((He.cT K ("wrong_point", none)).2, (("wrong_point" : Str) ++ ".<locals>.") ++ "<lambda>")] 3 "_law_points" false 3 f__law_points := ⟨⟨_, _, _, O__law_points, g__law_points, FD__law_points.kp, b__law_points⟩⟩
  have O_is_row := ok_is_row (P := P) (w := w) (mg := mg) (base := base) (T := [((He.cT K ("wrong_point", none)).2, (("wrong_point" : Str) ++ ".<locals>.") ++ "<lambda>")]) F_is_row G
  have b_is_row : Binds K fd_is_row ["value", "least", "most"] [] := FunD.bindsN FD_is_row fun _ _ _ _ _ _ us hl => match us, hl with | [_, _, _], _ => rfl
  have C_is_row : CalP P w K mg base [((He.cT K ("wrong_point", none)).2, (("wrong_point" : Str) ++ ".<locals>.") ++ "<lambda>")] 1 "is_row" [] false 3 f_is_row := ⟨⟨_, _, _, O_is_row, g_is_row, FD_is_row.kp, b_is_row⟩⟩
  have O_is_whole := ok_is_whole (P := P) (w := w) (mg := mg) (base := base) (T := [((He.cT K ("wrong_point", none)).2, (("wrong_point" : Str) ++ ".<locals>.") ++ "<lambda>")]) F_is_whole G
  have b_is_whole : Binds K fd_is_whole ["value"] [] := FunD.bindsN FD_is_whole fun _ _ _ _ _ _ us hl => match us, hl with | [_], _ => rfl
  have C_is_whole : CalP P w K mg base [((He.cT K ("wrong_point", none)).2, (("wrong_point" : Str) ++ ".<locals>.") ++ "<lambda>")] 1 "is_whole" [] false 1 f_is_whole := ⟨⟨_, _, _, O_is_whole, g_is_whole, FD_is_whole.kp, b_is_whole⟩⟩
  have O_is_between := ok_is_between (P := P) (w := w) (mg := mg) (base := base) (T := [((He.cT K ("wrong_point", none)).2, (("wrong_point" : Str) ++ ".<locals>.") ++ "<lambda>")]) F_is_between G C_is_whole
  have b_is_between : Binds K fd_is_between ["value", "least", "most"] [] := FunD.bindsN FD_is_between fun _ _ _ _ _ _ us hl => match us, hl with | [_, _, _], _ => rfl
  have C_is_between : CalP P w K mg base [((He.cT K ("wrong_point", none)).2, (("wrong_point" : Str) ++ ".<locals>.") ++ "<lambda>")] 2 "is_between" [] false 3 f_is_between := ⟨⟨_, _, _, O_is_between, g_is_between, FD_is_between.kp, b_is_between⟩⟩
  have O_is_tuple_of := ok_is_tuple_of (P := P) (w := w) (mg := mg) (base := base) (T := [((He.cT K ("wrong_point", none)).2, (("wrong_point" : Str) ++ ".<locals>.") ++ "<lambda>")]) F_is_tuple_of G
  have b_is_tuple_of : Binds K fd_is_tuple_of ["value", "many"] [] := FunD.bindsN FD_is_tuple_of fun _ _ _ _ _ _ us hl => match us, hl with | [_, _], _ => rfl
  have C_is_tuple_of : CalP P w K mg base [((He.cT K ("wrong_point", none)).2, (("wrong_point" : Str) ++ ".<locals>.") ++ "<lambda>")] 1 "is_tuple_of" [] false 2 f_is_tuple_of := ⟨⟨_, _, _, O_is_tuple_of, g_is_tuple_of, FD_is_tuple_of.kp, b_is_tuple_of⟩⟩
  have O_is_point := ok_is_point (P := P) (w := w) (mg := mg) (base := base) (T := [((He.cT K ("wrong_point", none)).2, (("wrong_point" : Str) ++ ".<locals>.") ++ "<lambda>")]) F_is_point G C_is_between C_is_tuple_of
  have b_is_point : Binds K fd_is_point ["value"] [] := FunD.bindsN FD_is_point fun _ _ _ _ _ _ us hl => match us, hl with | [_], _ => rfl
  have C_is_point : CalP P w K mg base [((He.cT K ("wrong_point", none)).2, (("wrong_point" : Str) ++ ".<locals>.") ++ "<lambda>")] 3 "is_point" [] false 1 f_is_point := ⟨⟨_, _, _, O_is_point, g_is_point, FD_is_point.kp, b_is_point⟩⟩
  have FW_wrong_point : CalFW P w K mg base [((He.cT K ("wrong_point", none)).2, (("wrong_point" : Str) ++ ".<locals>.") ++ "<lambda>")] 4 "first_wrong" := ⟨⟨_, _, fw_ok (lv := 4) F_first_wrong rfl rfl scfw G.z_enumerate, g_first_wrong, FD_first_wrong.kp, bfw⟩⟩
  have O_wrong_point := ok_wrong_point (P := P) (w := w) (mg := mg) (base := base) (T := [((He.cT K ("wrong_point", none)).2, (("wrong_point" : Str) ++ ".<locals>.") ++ "<lambda>")]) F_wrong_point G C_is_point code_wrong_point (tb _ (List.mem_map.mpr ⟨("wrong_point", none), by simp [tf], rfl⟩)) (by simp) (by simp) FW_wrong_point
  have b_wrong_point : Binds K fd_wrong_point ["value"] [] := FunD.bindsN FD_wrong_point fun _ _ _ _ _ _ us hl => match us, hl with | [_], _ => rfl
  have C_wrong_point : CalP P w K mg base [((He.cT K ("wrong_point", none)).2, (("wrong_point" : Str) ++ ".<locals>.") ++ "<lambda>")] 7 "wrong_point" [] false 1 f_wrong_point := ⟨⟨_, _, _, O_wrong_point, g_wrong_point, FD_wrong_point.kp, b_wrong_point⟩⟩
  have O_check_points := ok_check_points (P := P) (w := w) (mg := mg) (base := base) (T := [((He.cT K ("wrong_point", none)).2, (("wrong_point" : Str) ++ ".<locals>.") ++ "<lambda>")]) F_check_points G C_is_row C_wrong_point
  have b_check_points : Binds K fd_check_points ["value"] [] := FunD.bindsN FD_check_points fun _ _ _ _ _ _ us hl => match us, hl with | [_], _ => rfl
  have C_check_points : CalP P w K mg base [((He.cT K ("wrong_point", none)).2, (("wrong_point" : Str) ++ ".<locals>.") ++ "<lambda>")] 8 "check_points" [] false 1 f_check_points := ⟨⟨_, _, _, O_check_points, g_check_points, FD_check_points.kp, b_check_points⟩⟩
  have O_is_less := ok_is_less (P := P) (w := w) (mg := mg) (base := base) (T := [((He.cT K ("wrong_point", none)).2, (("wrong_point" : Str) ++ ".<locals>.") ++ "<lambda>")]) F_is_less G
  have b_is_less : Binds K fd_is_less ["one", "other"] [] := FunD.bindsN FD_is_less fun _ _ _ _ _ _ us hl => match us, hl with | [_, _], _ => rfl
  have C_is_less : CalP P w K mg base [((He.cT K ("wrong_point", none)).2, (("wrong_point" : Str) ++ ".<locals>.") ++ "<lambda>")] 1 "is_less" [] false 2 f_is_less := ⟨⟨_, _, _, O_is_less, g_is_less, FD_is_less.kp, b_is_less⟩⟩
  have O_place_of := ok_place_of (P := P) (w := w) (mg := mg) (base := base) (T := [((He.cT K ("wrong_point", none)).2, (("wrong_point" : Str) ++ ".<locals>.") ++ "<lambda>")]) F_place_of G
  have b_place_of : Binds K fd_place_of ["point"] [] := FunD.bindsN FD_place_of fun _ _ _ _ _ _ us hl => match us, hl with | [_], _ => rfl
  have C_place_of : CalP P w K mg base [((He.cT K ("wrong_point", none)).2, (("wrong_point" : Str) ++ ".<locals>.") ++ "<lambda>")] 1 "place_of" [] false 1 f_place_of := ⟨⟨_, _, _, O_place_of, g_place_of, FD_place_of.kp, b_place_of⟩⟩
  have O_lowest := ok_lowest (P := P) (w := w) (mg := mg) (base := base) (T := [((He.cT K ("wrong_point", none)).2, (("wrong_point" : Str) ++ ".<locals>.") ++ "<lambda>")]) F_lowest G
  have b_lowest : Binds K fd_lowest ["over", "under"] [] := FunD.bindsN FD_lowest fun _ _ _ _ _ _ us hl => match us, hl with | [_, _], _ => rfl
  have C_lowest : CalP P w K mg base [((He.cT K ("wrong_point", none)).2, (("wrong_point" : Str) ++ ".<locals>.") ++ "<lambda>")] 1 "lowest" [] false 2 f_lowest := ⟨⟨_, _, _, O_lowest, g_lowest, FD_lowest.kp, b_lowest⟩⟩
  have O_plus := ok_plus (P := P) (w := w) (mg := mg) (base := base) (T := [((He.cT K ("wrong_point", none)).2, (("wrong_point" : Str) ++ ".<locals>.") ++ "<lambda>")]) F_plus G C_lowest
  have b_plus : Binds K fd_plus ["one", "other"] [] := FunD.bindsN FD_plus fun _ _ _ _ _ _ us hl => match us, hl with | [_, _], _ => rfl
  have C_plus : CalP P w K mg base [((He.cT K ("wrong_point", none)).2, (("wrong_point" : Str) ++ ".<locals>.") ++ "<lambda>")] 2 "plus" [] false 2 f_plus := ⟨⟨_, _, _, O_plus, g_plus, FD_plus.kp, b_plus⟩⟩
  have O_times := ok_times (P := P) (w := w) (mg := mg) (base := base) (T := [((He.cT K ("wrong_point", none)).2, (("wrong_point" : Str) ++ ".<locals>.") ++ "<lambda>")]) F_times G C_lowest
  have b_times : Binds K fd_times ["one", "other"] [] := FunD.bindsN FD_times fun _ _ _ _ _ _ us hl => match us, hl with | [_, _], _ => rfl
  have C_times : CalP P w K mg base [((He.cT K ("wrong_point", none)).2, (("wrong_point" : Str) ++ ".<locals>.") ++ "<lambda>")] 2 "times" [] false 2 f_times := ⟨⟨_, _, _, O_times, g_times, FD_times.kp, b_times⟩⟩
  have O_reach_of := ok_reach_of (P := P) (w := w) (mg := mg) (base := base) (T := [((He.cT K ("wrong_point", none)).2, (("wrong_point" : Str) ++ ".<locals>.") ++ "<lambda>")]) F_reach_of G C_plus C_times
  have b_reach_of : Binds K fd_reach_of ["direction", "place"] [] := FunD.bindsN FD_reach_of fun _ _ _ _ _ _ us hl => match us, hl with | [_, _], _ => rfl
  have C_reach_of : CalP P w K mg base [((He.cT K ("wrong_point", none)).2, (("wrong_point" : Str) ++ ".<locals>.") ++ "<lambda>")] 3 "reach_of" [] false 2 f_reach_of := ⟨⟨_, _, _, O_reach_of, g_reach_of, FD_reach_of.kp, b_reach_of⟩⟩
  have O_beyond := ok_beyond (P := P) (w := w) (mg := mg) (base := base) (T := [((He.cT K ("wrong_point", none)).2, (("wrong_point" : Str) ++ ".<locals>.") ++ "<lambda>")]) F_beyond G C_is_less C_place_of C_reach_of
  have b_beyond : Binds K fd_beyond ["points", "place", "direction"] [] := FunD.bindsN FD_beyond fun _ _ _ _ _ _ us hl => match us, hl with | [_, _, _], _ => rfl
  have C_beyond : CalP P w K mg base [((He.cT K ("wrong_point", none)).2, (("wrong_point" : Str) ++ ".<locals>.") ++ "<lambda>")] 4 "beyond" [] false 3 f_beyond := ⟨⟨_, _, _, O_beyond, g_beyond, FD_beyond.kp, b_beyond⟩⟩
  have O_directions_of := ok_directions_of (P := P) (w := w) (mg := mg) (base := base) (T := [((He.cT K ("wrong_point", none)).2, (("wrong_point" : Str) ++ ".<locals>.") ++ "<lambda>")]) F_directions_of G
  have b_directions_of : Binds K fd_directions_of ["points", "lot"] [] := FunD.bindsN FD_directions_of fun _ _ _ _ _ _ us hl => match us, hl with | [_, _], _ => rfl
  have C_directions_of : CalP P w K mg base [((He.cT K ("wrong_point", none)).2, (("wrong_point" : Str) ++ ".<locals>.") ++ "<lambda>")] 1 "directions_of" [] false 2 f_directions_of := ⟨⟨_, _, _, O_directions_of, g_directions_of, FD_directions_of.kp, b_directions_of⟩⟩
  have O_deep_by := ok_deep_by (P := P) (w := w) (mg := mg) (base := base) (T := [((He.cT K ("wrong_point", none)).2, (("wrong_point" : Str) ++ ".<locals>.") ++ "<lambda>")]) F_deep_by G C_beyond C_directions_of
  have b_deep_by : Binds K fd_deep_by ["points", "place"] [] := FunD.bindsN FD_deep_by fun _ _ _ _ _ _ us hl => match us, hl with | [_, _], _ => rfl
  have C_deep_by : CalP P w K mg base [((He.cT K ("wrong_point", none)).2, (("wrong_point" : Str) ++ ".<locals>.") ++ "<lambda>")] 5 "deep_by" [] false 2 f_deep_by := ⟨⟨_, _, _, O_deep_by, g_deep_by, FD_deep_by.kp, b_deep_by⟩⟩
  have O_depth_by := ok_depth_by (P := P) (w := w) (mg := mg) (base := base) (T := [((He.cT K ("wrong_point", none)).2, (("wrong_point" : Str) ++ ".<locals>.") ++ "<lambda>")]) F_depth_by G C_deep_by
  have b_depth_by : Binds K fd_depth_by ["points", "place"] [] := FunD.bindsN FD_depth_by fun _ _ _ _ _ _ us hl => match us, hl with | [_, _], _ => rfl
  have C_depth_by : CalP P w K mg base [((He.cT K ("wrong_point", none)).2, (("wrong_point" : Str) ++ ".<locals>.") ++ "<lambda>")] 6 "depth_by" [] false 2 f_depth_by := ⟨⟨_, _, _, O_depth_by, g_depth_by, FD_depth_by.kp, b_depth_by⟩⟩
  have O_deepest_by := ok_deepest_by (P := P) (w := w) (mg := mg) (base := base) (T := [((He.cT K ("wrong_point", none)).2, (("wrong_point" : Str) ++ ".<locals>.") ++ "<lambda>")]) F_deepest_by G C_depth_by C_place_of
  have b_deepest_by : Binds K fd_deepest_by ["points"] [] := FunD.bindsN FD_deepest_by fun _ _ _ _ _ _ us hl => match us, hl with | [_], _ => rfl
  have C_deepest_by : CalP P w K mg base [((He.cT K ("wrong_point", none)).2, (("wrong_point" : Str) ++ ".<locals>.") ++ "<lambda>")] 7 "deepest_by" [] false 1 f_deepest_by := ⟨⟨_, _, _, O_deepest_by, g_deepest_by, FD_deepest_by.kp, b_deepest_by⟩⟩
  have O_deepest := ok_deepest (P := P) (w := w) (mg := mg) (base := base) (T := [((He.cT K ("wrong_point", none)).2, (("wrong_point" : Str) ++ ".<locals>.") ++ "<lambda>")]) F_deepest G C_check_points C_deepest_by
  have b_deepest : Binds K fd_deepest ["points"] [] := FunD.bindsN FD_deepest fun _ _ _ _ _ _ us hl => match us, hl with | [_], _ => rfl
  have C_deepest : CalP P w K mg base [((He.cT K ("wrong_point", none)).2, (("wrong_point" : Str) ++ ".<locals>.") ++ "<lambda>")] 9 "deepest" [] false 1 f_deepest := ⟨⟨_, _, _, O_deepest, g_deepest, FD_deepest.kp, b_deepest⟩⟩
  have K_deepest_points : CalK P w K mg base [((He.cT K ("wrong_point", none)).2, (("wrong_point" : Str) ++ ".<locals>.") ++ "<lambda>")] 9 "deepest" [] false 1 f_deepest ["points"] := ⟨⟨_, _, _, O_deepest, g_deepest, FD_deepest.kp, Fun.kb F_deepest 0 rfl fun _ _ _ _ _ _ us ws hl hw => match us, ws, hl, hw with | [], [_], _, _ => rfl, rfl⟩⟩
  have O__law_right := ok__law_right (P := P) (w := w) (mg := mg) (base := base) (T := [((He.cT K ("wrong_point", none)).2, (("wrong_point" : Str) ++ ".<locals>.") ++ "<lambda>")]) F__law_right G C__law_depth C__law_points C__law_take C_deepest K_deepest_points
  have b__law_right : Binds K fd__law_right ["pool", "most"] [] := FunD.bindsN FD__law_right fun _ _ _ _ _ _ us hl => match us, hl with | [_, _], _ => rfl
  have C__law_right : CalQ P w K mg base [((He.cT K ("wrong_point", none)).2, (("wrong_point" : Str) ++ ".<locals>.") ++ "<lambda>")] 10 "_law_right" false 2 f__law_right := ⟨⟨_, _, _, O__law_right, g__law_right, FD__law_right.kp, b__law_right⟩⟩
  exact ok_law F_law G C__law_pool C__law_right
end K41
open PySem PySem.W PySem.Calls PyProof.Rows
theorem PySem.Challenge.cw_pointsaround_k41_deepest_points_holds : PySem.Challenge.rw_pointsaround_k41_deepest_points.Holds := by
  w_on; o_law
  refine HandSHeadRun.head_imp (r := OpenLaw.row PySem.Challenge.rw_pointsaround_k41_deepest_points) (q := K41.qv) (H := K41.hk) (ob := K41.ob) (M := 6000) (loose := K41.names) (d := HandSHeadRun.topDef (OpenLaw.row PySem.Challenge.rw_pointsaround_k41_deepest_points).prog 39) (kwd := []) K41.ob_eq K41.run
    (by kernel_rfl) (by kernel_rfl) (by kernel_rfl) (by rfl) (by first | assumption | decide +kernel) (by decide +kernel) ⟨rfl, rfl, rfl, rfl, rfl, by decide +kernel⟩ ?hw ?hc
  case hw => w_witness2
  case hc =>
    refine DL.walk_ofGE (l := PySem.Challenge.rw_pointsaround_k41_deepest_points) (n := 63) (k := 11) (x := "script") rfl (by decide) (by kernel_rfl) ⟨rfl, by decide, by decide⟩ ?F
    intro w mg fa h Y G hmg0
    obtain ⟨K, KX, c⟩ := Y
    have hmg : mg ("law" : PySem.Str) = some (.ref fa) := by
      have e : (HandSHeadRun.topDef (OpenLaw.row PySem.Challenge.rw_pointsaround_k41_deepest_points).prog 39).name = ("law" : PySem.Str) := by kernel_rfl
      rw [← e]
      exact hmg0
    obtain ⟨fd, hb, hF⟩ := K41.facts (P := (PySem.Challenge.rw_pointsaround_k41_deepest_points).prog) (w := w) KX G hmg c
    refine ⟨K, KX, DL.lawG_of (cs := K41.tf.map (He.cT K)) (ff := K41.f_law) (fun p hp => ?_) (fun p hp => ?_) (fun p hp => ?_) hb (fun q hq => ?_) K41.law_true hF⟩
    · obtain ⟨a, ha, rfl⟩ := List.mem_map.mp hp
      exact c.empty a ha
    · obtain ⟨a, ha, rfl⟩ := List.mem_map.mp hp
      exact c.out a ha
    · obtain ⟨a, ha, rfl⟩ := List.mem_map.mp hp
      exact DL.codeHd_of KX (c.hd a ha)
    · simp [K41.tf] at hq ⊢
      try simp [hq]

