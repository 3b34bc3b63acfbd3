import PyProof.Rows.All
import Wide.All
import OpenK.AllK
import Wide.FinOn
import HandS.ForMost
import HandS.Walk
import HandS.Defaults
import HandS.Property
import HandS.ClsMeth
import HandS.IsInst
import HandS.Conv
import HandS.FStr
import HandS.Star
import HandS.StrMore
import HandS.Style
import HandS.MakeKwOnly
import HandS.Codes
import HandS.Exc
import HandS.WideBits
import HandS.HeadHook4
import HandS.HeadWalk
import HandS.HeadNt
import HandS.Nested
import KE.KStateDown
import KE.KNestM
import HandS.Head0
import HandS.Head1
import HandS.Head2
import HandS.HeadHook1
import HandS.HeadHook2
import HandS.HeadEnd
import KE.GoesMore
import KE.GoesEnum
import PyProof.Rows.StrMeet
import KE.KCallOwn
import PyProof.StrLawsLast
import HandS.Set
import HandS.SetTxt0
import HandS.SetKeys
import HandS.Strs
import HandS.Comp
import HandS.SetBool
import KE.GoesEnumKw
import PyProof.ZipIter
import HandS.Zip
import HandS.Zip0
import KE.GoesZip
import KE.KDictZip
import KE.SortData
import KE.KDictList
import HandS.RaiseMore
import PyProof.ReprBulk
import PyProof.ReprRoads
import PyProof.FitsInt
import HandS.EndTab
import PySem.Challenge.RW_ringvotes_k51_whole_outcomes
section
set_option Elab.async false
set_option linter.all false
set_option maxRecDepth 100000
set_option maxHeartbeats 4000000
/-! RvA: a frozen part F of the tracked heap H; growth; data over the frozen part. -/
namespace Rv
open PySem L2

/-! ### ambient cells, growth -/
/-- what may change in place during a call (the addresses S), and what holds of it -/
structure Amb where
  S : Addr → Prop
  ok : Hp → Hp → Prop
  there : ∀ F H a, ok F H → S a → H a ≠ none
  frame : ∀ F F' H H', ok F H → Same F F' → (∀ a, S a → H' a = H a) → ok F' H'

/-- F is a frozen part of H, apart from the ambient cells -/
structure Fz (A : Amb) (F H : Hp) : Prop where
  sub : Same F H
  ok : A.ok F H
  out : ∀ a, A.S a → F a = none

structure Gr (A : Amb) (F H F' H' : Hp) : Prop where
  ff : Same F F'
  fz : Fz A F' H'
  hh : ∀ a o, ¬ A.S a → H a = some o → H' a = some o
  hk : ∀ a, H a ≠ none → H' a ≠ none
  nf : ∀ a, F a = none → H a ≠ none → F' a = none
  ok0 : A.ok F H

variable {A : Amb} {F H F' H' F0 H0 F1 H1 : Hp} {p l : Addr} {o u : HO}

theorem Gr.refl (h : Fz A F H) : Gr A F H F H := ⟨Same.refl F, h, fun _ _ _ e => e, fun _ e => e, fun _ e _ => e, h.ok⟩
theorem Gr.trans (a : Gr A F0 H0 F H) (b : Gr A F H F' H') : Gr A F0 H0 F' H' :=
  ⟨a.ff.trans b.ff, b.fz, fun x o hs e => b.hh x o hs (a.hh x o hs e), fun x e => b.hk x (a.hk x e), fun x e1 e2 => b.nf x (a.nf x e1 e2) (a.hk x e2), a.ok0⟩
theorem Gr.free (G : Gr A F0 H0 F H) (h : H p = none) : H0 p = none := by
  cases e : H0 p with
  | none => rfl
  | some o => exact absurd h (G.hk p (by rw [e]; simp))
theorem Fz.free (Z : Fz A F H) (h : H p = none) : F p = none := Z.sub.free h
theorem Fz.notS (Z : Fz A F H) (h : H p = none) : ¬ A.S p := fun hs => A.there F H p Z.ok hs h
theorem Gr.notS (G : Gr A F0 H0 F H) (h : H0 l = none) : ¬ A.S l := fun hs => A.there F0 H0 l G.ok0 hs h
theorem upd_some {H : Hp} {a b : Addr} {o : HO} (h : H b ≠ none) : upd H a o b ≠ none := by
  unfold upd
  split
  · simp
  · exact h
theorem same_new (h : H p = none) : Same H (upd H p o) := fun b u e => by
  rw [upd_ne (ne_of_none e h)]
  exact e
theorem same_upd {F H : Hp} (h : Same F H) (hf : F p = none) : Same (upd F p o) (upd H p o) := fun b u e => by
  by_cases hb : b = p
  · subst hb; rw [upd_same] at e ⊢; exact e
  · rw [upd_ne hb] at e ⊢; exact h b u e
/-- a new frozen object -/
theorem Gr.new (G : Gr A F0 H0 F H) (h : H p = none) : Gr A F0 H0 (upd F p o) (upd H p o) := by
  have hf := G.fz.free h
  have hs := G.fz.notS h
  have ne : ∀ a, H a ≠ none → a ≠ p := fun a e z => e (by rw [z]; exact h)
  refine G.trans ⟨same_new hf, ⟨same_upd G.fz.sub hf, A.frame F _ H _ G.fz.ok (same_new hf) fun a ha => upd_ne (ne a (A.there F H a G.fz.ok ha)), fun a ha => ?_⟩, fun a u _ e => ?_, fun a e => upd_some e, fun a e1 e2 => ?_, G.fz.ok⟩
  · rw [upd_ne (ne a (A.there F H a G.fz.ok ha))]; exact G.fz.out a ha
  · rw [upd_ne (ne_of_none e h)]; exact e
  · rw [upd_ne (ne a e2)]; exact e1
/-- a new own cell -/
theorem Gr.own (G : Gr A F0 H0 F H) (h : H p = none) : Gr A F0 H0 F (upd H p o) := by
  have hf := G.fz.free h
  have ne : ∀ a, H a ≠ none → a ≠ p := fun a e z => e (by rw [z]; exact h)
  exact G.trans ⟨Same.refl F, ⟨fun b u e => by rw [upd_ne (ne_of_none e hf)]; exact G.fz.sub b u e, A.frame F _ H _ G.fz.ok (Same.refl F) fun a ha => upd_ne (ne a (A.there F H a G.fz.ok ha)), G.fz.out⟩, fun a u _ e => by rw [upd_ne (ne_of_none e h)]; exact e, fun a e => upd_some e, fun a e1 _ => e1, G.fz.ok⟩
/-- an own cell (new since H0) is written -/
theorem Gr.put (G : Gr A F0 H0 F H) (h0 : H0 l = none) (hf : F l = none) : Gr A F0 H0 F (upd H l o) := by
  have hs := G.notS h0
  have ne0 : ∀ a, H0 a ≠ none → a ≠ l := fun a e z => e (by rw [z]; exact h0)
  refine ⟨G.ff, ⟨fun b u e => by rw [upd_ne (ne_of_none e hf)]; exact G.fz.sub b u e, A.frame F _ H _ G.fz.ok (Same.refl F) fun a ha => upd_ne fun z => hs (by rw [← z]; exact ha), G.fz.out⟩, fun a u ha e => ?_, fun a e => upd_some (G.hk a e), G.nf, G.ok0⟩
  rw [upd_ne (ne0 a (by rw [e]; simp))]; exact G.hh a u ha e
/-- an own cell is frozen as it stands -/
theorem Gr.frz (G : Gr A F0 H0 F H) (h0 : H0 l = none) (hf : F l = none) (hl : H l = some o) : Gr A F0 H0 (upd F l o) H := by
  have hs := G.notS h0
  have ne0 : ∀ a, H0 a ≠ none → a ≠ l := fun a e z => e (by rw [z]; exact h0)
  refine ⟨G.ff.trans (same_new hf), ⟨fun b u e => ?_, A.frame F _ H _ G.fz.ok (same_new hf) fun a ha => rfl, fun a ha => ?_⟩, G.hh, G.hk, fun a e1 e2 => ?_, G.ok0⟩
  · by_cases hb : b = l
    · subst hb; rw [upd_same] at e; rw [hl]; exact e
    · rw [upd_ne hb] at e; exact G.fz.sub b u e
  · rw [upd_ne fun z => hs (by rw [← z]; exact ha)]; exact G.fz.out a ha
  · rw [upd_ne (ne0 a e2)]; exact G.nf a e1 e2
/-- a tracked own cell through a callee's growth -/
theorem Gr.cell (g : Gr A F H F' H') (hs : ¬ A.S l) (hl : H l = some o) (hf : F l = none) : H' l = some o ∧ F' l = none :=
  ⟨g.hh l o hs hl, g.nf l hf (by rw [hl]; simp)⟩

/-- what a call gives -/
def Out (A : Amb) (F H : Hp) (Q : VK) (post : Hp → Hp → V → Prop) : Prop := ∀ F' H' v, Gr A F H F' H' → post F' H' v → Q v H'

/-! ### data over a frozen part -/
abbrev Rl (α : Type) := Hp → V → α → Prop
class Mono (P : Hp → Prop) : Prop where
  up : ∀ {F F' : Hp}, Same F F' → P F → P F'
theorem up {P : Hp → Prop} [m : Mono P] {F F' : Hp} (e : Same F F') (h : P F) : P F' := m.up e h
class MonoR {α : Type} (r : Rl α) : Prop where
  up : ∀ {F F' : Hp} {v : V} {a : α}, Same F F' → r F v a → r F' v a
instance {α : Type} {r : Rl α} [m : MonoR r] {v : V} {a : α} : Mono (fun F => r F v a) := ⟨fun e h => m.up e h⟩
instance {p : Addr} {o : HO} : Mono (fun F => F p = some o) := ⟨fun e h => e _ _ h⟩
instance {P Q : Hp → Prop} [m : Mono P] [n : Mono Q] : Mono (fun F => P F ∧ Q F) := ⟨fun e h => ⟨m.up e h.1, n.up e h.2⟩⟩
instance {α : Type} {P : α → Hp → Prop} [m : ∀ a, Mono (P a)] : Mono (fun F => ∃ a, P a F) := ⟨fun e ⟨a, h⟩ => ⟨a, (m a).up e h⟩⟩
instance {α : Type} {P : α → Hp → Prop} [m : ∀ a, Mono (P a)] : Mono (fun F => ∀ a, P a F) := ⟨fun e h a => (m a).up e (h a)⟩
instance {P : Prop} : Mono (fun _ => P) := ⟨fun _ h => h⟩

theorem prd_up {α : Type} {r : Rl α} [m : MonoR r] {F F' : Hp} (e : Same F F') : ∀ {xs : List V} {l : List α}, PySem.Paired (r F) xs l → PySem.Paired (r F') xs l
  | _, _, .nil => .nil
  | _, _, .cons h t => .cons (m.up e h) (prd_up e t)
instance {α : Type} {r : Rl α} [MonoR r] {xs : List V} {l : List α} : Mono (fun F => PySem.Paired (r F) xs l) := ⟨fun e h => prd_up e h⟩
theorem prd_get {α β : Type} {R : α → β → Prop} : ∀ {xs : List α} {l : List β} {i : Nat} {x : α}, PySem.Paired R xs l → xs[i]? = some x → ∃ d, l[i]? = some d ∧ R x d
  | _, _, _, _, .nil, e => by simp at e
  | _, _, 0, _, .cons r _, e => by simp at e; subst e; exact ⟨_, rfl, r⟩
  | _, _, i + 1, x, .cons _ t, e => by
    obtain ⟨d, h1, h2⟩ := prd_get (i := i) (x := x) t (by simpa using e)
    exact ⟨d, by simpa using h1, h2⟩
theorem prd_get2 {α β : Type} {R : α → β → Prop} : ∀ {xs : List α} {l : List β} {i : Nat} {d : β}, PySem.Paired R xs l → l[i]? = some d → ∃ x, xs[i]? = some x ∧ R x d
  | _, _, _, _, .nil, e => by simp at e
  | _, _, 0, _, .cons r _, e => by simp at e; subst e; exact ⟨_, rfl, r⟩
  | _, _, i + 1, x, .cons _ t, e => by
    obtain ⟨d, h1, h2⟩ := prd_get2 (i := i) (d := x) t (by simpa using e)
    exact ⟨d, by simpa using h1, h2⟩
theorem prd_append {α β : Type} {R : α → β → Prop} : ∀ {xs ys : List α} {l m : List β}, PySem.Paired R xs l → PySem.Paired R ys m → PySem.Paired R (xs ++ ys) (l ++ m)
  | _, _, _, _, .nil, s => s
  | _, _, _, _, .cons r t, s => .cons r (prd_append t s)
theorem prd_len {α β : Type} {R : α → β → Prop} {xs : List α} {l : List β} (h : PySem.Paired R xs l) : xs.length = l.length := PySem.Paired.length h

theorem prd_map {α β γ : Type} {R : γ → β → Prop} {R2 : γ → α → Prop} {g : α → β} (h : ∀ x a, R2 x a → R x (g a)) : ∀ {xs : List γ} {l : List α}, PySem.Paired R2 xs l → PySem.Paired R xs (l.map g)
  | _, _, .nil => .nil
  | _, _, .cons r t => .cons (h _ _ r) (prd_map h t)
/-- a scalar -/
def rC {α : Type} (f : α → V) : Rl α := fun _ v a => v = f a
abbrev rStr : Rl Str := rC V.str
abbrev rInt : Rl Int := rC V.int
abbrev rBl : Rl Bool := rC V.bl
def oV : Option Int → V
  | none => .non
  | some i => .int i
abbrev rOI : Rl (Option Int) := rC oV
instance {α : Type} {f : α → V} : MonoR (rC f) := ⟨fun _ h => h⟩
def rTup {α : Type} (r : Rl α) : Rl (List α) := fun F v l => ∃ p xs, v = .ref p ∧ F p = some (.tup xs) ∧ PySem.Paired (r F) xs l
def rLst {α : Type} (r : Rl α) : Rl (List α) := fun F v l => ∃ p xs, v = .ref p ∧ F p = some (.lst xs) ∧ PySem.Paired (r F) xs l
def rT2 {α β : Type} (ra : Rl α) (rb : Rl β) : Rl (α × β) := fun F v a => ∃ p x y, v = .ref p ∧ F p = some (.tup [x, y]) ∧ ra F x a.1 ∧ rb F y a.2
def rT3 {α β γ : Type} (ra : Rl α) (rb : Rl β) (rc : Rl γ) : Rl (α × β × γ) := fun F v a => ∃ p x y z, v = .ref p ∧ F p = some (.tup [x, y, z]) ∧ ra F x a.1 ∧ rb F y a.2.1 ∧ rc F z a.2.2
/-- an instance with one field, with two -/
def rO1 {α : Type} (C : Addr) (f : Str) (r : Rl α) : Rl α := fun F v a => ∃ p dx x, v = .ref p ∧ F p = some (.ins C dx [(f, x)]) ∧ r F x a
def rO2 {α β : Type} (C : Addr) (f g : Str) (ra : Rl α) (rb : Rl β) : Rl (α × β) := fun F v a => ∃ p dx x y, v = .ref p ∧ F p = some (.ins C dx [(f, x), (g, y)]) ∧ ra F x a.1 ∧ rb F y a.2
section
variable {α β γ : Type} {r ra : Rl α} {rb : Rl β} {rc : Rl γ}
instance [MonoR r] : MonoR (rTup r) := ⟨fun e ⟨p, xs, h1, h2, h3⟩ => ⟨p, xs, h1, e _ _ h2, prd_up e h3⟩⟩
instance [MonoR r] : MonoR (rLst r) := ⟨fun e ⟨p, xs, h1, h2, h3⟩ => ⟨p, xs, h1, e _ _ h2, prd_up e h3⟩⟩
instance [m : MonoR ra] [n : MonoR rb] : MonoR (rT2 ra rb) := ⟨fun e ⟨p, x, y, h1, h2, h3, h4⟩ => ⟨p, x, y, h1, e _ _ h2, m.up e h3, n.up e h4⟩⟩
instance [m : MonoR ra] [n : MonoR rb] [k : MonoR rc] : MonoR (rT3 ra rb rc) := ⟨fun e ⟨p, x, y, z, h1, h2, h3, h4, h5⟩ => ⟨p, x, y, z, h1, e _ _ h2, m.up e h3, n.up e h4, k.up e h5⟩⟩
instance {C : Addr} {f : Str} [m : MonoR r] : MonoR (rO1 C f r) := ⟨fun e ⟨p, dx, x, h1, h2, h3⟩ => ⟨p, dx, x, h1, e _ _ h2, m.up e h3⟩⟩
instance {C : Addr} {f g : Str} [m : MonoR ra] [n : MonoR rb] : MonoR (rO2 C f g ra rb) := ⟨fun e ⟨p, dx, x, y, h1, h2, h3, h4⟩ => ⟨p, dx, x, y, h1, e _ _ h2, m.up e h3, n.up e h4⟩⟩
end
theorem paired_C {α : Type} {f : α → V} {F : Hp} : ∀ {xs : List V} {l : List α}, PySem.Paired (rC f F) xs l → xs = l.map f
  | _, _, .nil => rfl
  | _, _, .cons h t => by rw [List.map_cons, ← paired_C t]; exact congrArg (· :: _) h
theorem paired_of {α : Type} {f : α → V} {F : Hp} : ∀ {l : List α}, PySem.Paired (rC f F) (l.map f) l
  | [] => .nil
  | _ :: _ => .cons rfl paired_of

/-! ### reading off the frozen part -/
theorem Fz.L {K : PySem.W.Frag} {xs : List V} (Z : Fz A F H) (h : F p = some (.lst xs)) : SqL K H p xs := SqL.of (Z.sub _ _ h)
theorem Fz.T {K : PySem.W.Frag} {xs : List V} (Z : Fz A F H) (h : F p = some (.tup xs)) : SqT K H p xs := SqT.of (Z.sub _ _ h)

/-! ### comprehensions -/
theorem out_nil {α : Type} {f : Nat → α} : (List.range 0).map f = [] := rfl
/-- what a comprehension holds behind i turns: out i -/
def LcP {β : Type} (A : Amb) (F H : Hp) (D : Addr) (r : Rl β) (out : List β) (H' : Hp) : Prop :=
  ∃ F' xs, Gr A F H F' H' ∧ F' D = none ∧ H' D = some (.lst xs) ∧ PySem.Paired (r F') xs out
theorem LcP.add {β : Type} {r : Rl β} [MonoR r] {D : Addr} {out : List β} {y : V} {b : β} {xs : List V} (hD : H D = none) (G : Gr A F H F1 H1) (hF : F1 D = none) (hL : H1 D = some (.lst xs)) (hp : PySem.Paired (r F1) xs out)
    (g : Gr A F1 H1 F' H') (hb : r F' y b) (hlen : out.length < 100000) : ∃ acc, H' D = some (.lst acc) ∧ acc.length < sizeLine ∧ LcP A F H D r (out ++ [b]) (upd H' D (.lst (acc ++ [y]))) := by
  obtain ⟨c1, c2⟩ := g.cell (G.notS hD) hL hF
  refine ⟨xs, c1, Nat.lt_of_lt_of_le (by rw [prd_len hp]; exact hlen) (by decide : 100000 ≤ sizeLine), F', xs ++ [y], (G.trans g).put hD c2, c2, upd_same, ?_⟩
  exact PySem.Paired.snoc (prd_up g.ff hp) hb
section
variable {K : PySem.W.Frag} {a : Addr} {g : TG} {tt : TT} {te : TE} {vs : List Nat} {σ : L2.St} {α β : Type} {ra : Rl α} {r : Rl β} {Q : VK}
/-- the goal that tLc leaves behind its source -/
def LcG (J : It) (g : TG) (tt : TT) (te : TE) (vs : List Nat) (σ : L2.St) (H1 : Hp) (Q : VK) : Prop := ∀ D, H1 D = none → ∃ W : Nat → Nat → Hp → Prop, (∃ m, W 0 m (upd H1 D (.lst []))) ∧ ∀ i m H, W i m H →
  (J.stop i H ∧ Q (.ref D) H) ∨ (J.go i H ∧ ∃ Nx : Hp → Prop, (∀ H', Nx H' → ∃ m', m' < m ∧ W (i + 1) m' H') ∧ ∀ x H', J.yld i H x H' → g x (wipe σ vs) H' fun σ2 H2 => wipe σ2 vs = wipe σ vs ∧ tt σ2 H2 fun b H3 =>
    if b = true then te σ2 H3 fun y H4 => ∃ acc, H4 D = some (.lst acc) ∧ acc.length < sizeLine ∧ Nx (upd H4 D (.lst (acc ++ [y]))) else Nx H3)
/-- a comprehension over any walk: out i is what stands behind i turns -/
theorem lc_any {J : It} {n : Nat} {G : Hp → Prop} {Y : Nat → Hp → V → Hp → Prop} (w : Walk J n G Y) [MonoR r] (Z : Fz A F H) (out : Nat → List β) (h0 : out 0 = []) (hn : ∀ i, i < n → (out i).length < 100000)
    (hG : ∀ F' H', Gr A F H F' H' → G H')
    (hs : ∀ i x F1 H1 H2 (K1 : VK) (K0 : Hp → Prop), i < n → Gr A F H F1 H1 → Y i H1 x H2 → (∀ F' H' y b, out (i + 1) = out i ++ [b] → Gr A F1 H1 F' H' → r F' y b → K1 y H') → (∀ F' H', out (i + 1) = out i → Gr A F1 H1 F' H' → K0 H') →
      g x (wipe σ vs) H2 fun σ2 H3 => wipe σ2 vs = wipe σ vs ∧ tt σ2 H3 fun b H4 => if b = true then te σ2 H4 K1 else K0 H4)
    (k : ∀ F' H' p, Gr A F H F' H' → rLst r F' (.ref p) (out n) → Q (.ref p) H') : LcG J g tt te vs σ H Q := by
  intro D hD
  refine lc_it w (fun i H' => LcP A F H D r (out i) H') ⟨F, [], (Gr.refl Z).own hD, Z.free hD, upd_same, by rw [h0]; exact .nil⟩ (fun i H' _ ⟨F', xs, G', _⟩ => hG F' H' G') ?_ ?_
  · rintro i x H1 H2 hi ⟨F1, xs, G1, hF, hL, hp⟩ hy
    refine hs i x F1 H1 H2 _ _ hi G1 hy (fun F' H' y b e g hb => ?_) (fun F' H' e g => ?_)
    · rw [e]
      exact LcP.add hD G1 hF hL hp g hb (hn i hi)
    · obtain ⟨c1, c2⟩ := g.cell (G1.notS hD) hL hF
      rw [e]
      exact ⟨F', xs, G1.trans g, c2, c1, prd_up g.ff hp⟩
  · rintro H' ⟨F', xs, G', hF, hL, hp⟩
    exact k _ _ D (G'.frz hD hF hL) ⟨D, xs, rfl, upd_same, prd_up (same_new hF) hp⟩
theorem take_snoc {α : Type} {l : List α} {i : Nat} {x : α} (h : l[i]? = some x) : l.take (i + 1) = l.take i ++ [x] := by
  rw [List.take_add_one, h]; rfl
/-- over a list or tuple of data, each item gives one -/
theorem lc_map (f : α → β) {xs : List V} {ds : List α} [MonoR ra] [MonoR r] {J : It} {Gd : Hp → Prop} (w : Walk J xs.length Gd (YAt xs)) (Z : Fz A F H) (hp : PySem.Paired (ra F) xs ds) (hG : ∀ F' H', Gr A F H F' H' → Gd H') (hl : ds.length ≤ 50000)
    (hs : ∀ (i : Nat) (x : V) (d : α) (F1 H1 : Hp) (K1 : VK), ds[i]? = some d → Gr A F H F1 H1 → ra F1 x d → (∀ F' H' y, Gr A F1 H1 F' H' → r F' y (f d) → K1 y H') →
      g x (wipe σ vs) H1 fun σ2 H3 => wipe σ2 vs = wipe σ vs ∧ te σ2 H3 K1)
    (k : ∀ F' H' p, Gr A F H F' H' → rLst r F' (.ref p) (ds.map f) → Q (.ref p) H') : LcG J g tYes te vs σ H Q := by
  refine lc_any (r := r) w Z (fun i => (ds.take i).map f) rfl (fun i hi => ?_) hG ?_ ?_
  · rw [List.length_map, List.length_take]; omega
  · rintro i x F1 H1 H2 K1 K0 hi G1 ⟨rfl, hx⟩ hk _
    obtain ⟨d, hd, rd⟩ := prd_get hp hx
    have q := hs i x d F1 _ K1 hd G1 (MonoR.up G1.ff rd) (fun F' H' y g' hb => hk F' H' y (f d) (by rw [take_snoc hd, List.map_append]; rfl) g' hb)
    exact q
  · intro F' H' p G' hr
    rw [List.take_of_length_le (by rw [prd_len hp]; exact Nat.le_refl _)] at hr
    exact k F' H' p G' hr
/-- .. with a test, a test that makes nothing -/
theorem lc_filter (t : α → Bool) (f : α → β) {xs : List V} {ds : List α} [MonoR ra] [MonoR r] {J : It} {Gd : Hp → Prop} (w : Walk J xs.length Gd (YAt xs)) (Z : Fz A F H) (hp : PySem.Paired (ra F) xs ds) (hG : ∀ F' H', Gr A F H F' H' → Gd H') (hl : ds.length ≤ 50000)
    (hs : ∀ (i : Nat) (x : V) (d : α) (F1 H1 : Hp) (K1 : VK) (K0 : Hp → Prop), ds[i]? = some d → Gr A F H F1 H1 → ra F1 x d → (t d = true → ∀ F' H' y, Gr A F1 H1 F' H' → r F' y (f d) → K1 y H') → (t d = false → ∀ F' H', Gr A F1 H1 F' H' → K0 H') →
      g x (wipe σ vs) H1 fun σ2 H3 => wipe σ2 vs = wipe σ vs ∧ tt σ2 H3 fun b H4 => if b = true then te σ2 H4 K1 else K0 H4)
    (k : ∀ F' H' p, Gr A F H F' H' → rLst r F' (.ref p) ((ds.filter t).map f) → Q (.ref p) H') : LcG J g tt te vs σ H Q := by
  refine lc_any (r := r) w Z (fun i => ((ds.take i).filter t).map f) rfl (fun i hi => ?_) hG ?_ ?_
  · rw [List.length_map]
    have q := List.length_filter_le t (ds.take i)
    rw [List.length_take] at q; omega
  · rintro i x F1 H1 H2 K1 K0 hi G1 ⟨rfl, hx⟩ hk1 hk0
    obtain ⟨d, hd, rd⟩ := prd_get hp hx
    refine hs i x d F1 _ K1 K0 hd G1 (MonoR.up G1.ff rd) (fun ht F' H' y g' hb => hk1 F' H' y (f d) ?_ g' hb) (fun ht F' H' g' => hk0 F' H' ?_ g')
    · rw [take_snoc hd, List.filter_append, List.map_append]
      simp [List.filter, ht]
    · rw [take_snoc hd, List.filter_append, List.map_append]
      simp [List.filter, ht]
  · intro F' H' p G' hr
    rw [List.take_of_length_le (by rw [prd_len hp]; exact Nat.le_refl _)] at hr
    exact k F' H' p G' hr
/-- over a range: some data each turn, all fit for P -/
theorem lc_rangeP (P : β → Prop) {lo : Int} {n : Nat} [MonoR r] (Z : Fz A F H) (hl : n ≤ 50000)
    (hs : ∀ i F1 H1 (K1 : VK), i < n → Gr A F H F1 H1 → (∀ F' H' y b, Gr A F1 H1 F' H' → r F' y b → P b → K1 y H') →
      g (.int (lo + i)) (wipe σ vs) H1 fun σ2 H3 => wipe σ2 vs = wipe σ vs ∧ te σ2 H3 K1)
    (k : ∀ F' H' p l, Gr A F H F' H' → rLst r F' (.ref p) l → l.length = n → (∀ b ∈ l, P b) → Q (.ref p) H') : LcG (Itr lo n) g tYes te vs σ H Q := by
  intro D hD
  refine lc_it walk_range (fun i H' => ∃ out : List β, out.length = i ∧ (∀ b ∈ out, P b) ∧ LcP A F H D r out H') ⟨[], rfl, (by intro b h; cases h), F, [], (Gr.refl Z).own hD, Z.free hD, upd_same, .nil⟩ (fun _ _ _ _ => trivial) ?_ ?_
  · rintro i x H1 H2 hi ⟨out, ho, hP, F1, xs, G1, hF, hL, hp⟩ ⟨rfl, rfl⟩
    refine hs i F1 _ _ hi G1 (fun F' H' y b g' hb pb => ?_)
    obtain ⟨acc, e1, e2, e3⟩ := LcP.add hD G1 hF hL hp g' hb (by omega)
    refine ⟨acc, e1, e2, out ++ [b], by rw [List.length_append, ho]; rfl, fun c hc => ?_, e3⟩
    rcases List.mem_append.mp hc with z | z
    · exact hP c z
    · rw [List.mem_singleton.mp z]; exact pb
  · rintro H' ⟨out, ho, hP, F', xs, G', hF, hL, hp⟩
    exact k _ _ D out (G'.frz hD hF hL) ⟨D, xs, rfl, upd_same, prd_up (same_new hF) hp⟩ ho hP
end
end Rv
end

section
set_option Elab.async false
set_option linter.all false
set_option maxRecDepth 100000
set_option maxHeartbeats 4000000
/-! RvB: what the top gives, calls. -/
namespace Rv
open PySem L2
open PyProof.Rows PySem.Spec

def top (i : Nat) : Stmt := PySem.Challenge.pw_ringvotes_k51_whole_outcomes.main.body.getD i (.Pass ⟨0, 0, 0, 0⟩)

/-! ### the addresses of the own classes -/
structure Cs where
  sum : Addr
  pipe : Addr
  meter : Addr
  net : Addr
  rule : Addr
def GV (mg : Str → Option Value) (x : Str) (v : V) : Prop := ∃ u, mg x = some u ∧ RelV v u
/-- what isinstance asks of an own class -/
structure Isc (K : PySem.W.Frag) (C : Addr) : Prop where
  ha : PySem.W.findIn K (.ref C) "__class__" = some (some (.builtin "object.__class__"))
  hn : PySem.W.specialIn K (.builtin "object.__class__") "__get__" = some (some (.builtin "getset_descriptor.__get__"))
  htk : PySem.W.takesIn K (.builtin "object.__class__") = some true
  hm : PySem.W.mroIn K C (.type "object") = some true
theorem Isc.ty {K : PySem.W.Frag} {C a dx : Addr} {H : Hp} {fs : List (Str × V)} (i : Isc K C) (c : Cls K C) (e : H a = some (.ins C dx fs)) : TyX K H (.ref a) (.ref C) := .base (.ins e c i.ha i.hn i.htk i.hm)
structure Tx (K : PySem.W.Frag) (mg : Str → Option Value) (c : Cs) : Prop where
  n_len : mg "len" = none
  n_abs : mg "abs" = none
  n_min : mg "min" = none
  n_max : mg "max" = none
  n_sum : mg "sum" = none
  n_any : mg "any" = none
  n_all : mg "all" = none
  n_sorted : mg "sorted" = none
  n_str : mg "str" = none
  n_int : mg "int" = none
  n_bool : mg "bool" = none
  n_tuple : mg "tuple" = none
  n_list : mg "list" = none
  n_dict : mg "dict" = none
  n_zip : mg "zip" = none
  n_isinstance : mg "isinstance" = none
  n_divmod : mg "divmod" = none
  n_repr : mg "repr" = none
  n_range : mg "range" = none
  n_enumerate : mg "enumerate" = none
  g_MOST_PIPES : GV mg "MOST_PIPES" (.int 12)
  g_MOST_METERS : GV mg "MOST_METERS" (.int 12)
  g_MOST_ROWS : GV mg "MOST_ROWS" (.int 8)
  g_MOST_SUMS : GV mg "MOST_SUMS" (.int 10)
  g_MOST_FAULTS : GV mg "MOST_FAULTS" (.int 3)
  g_LONGEST_NAME : GV mg "LONGEST_NAME" (.int 8)
  g_BLOCK : GV mg "BLOCK" (.int (10 ^ 30))
  g_LETTERS : GV mg "LETTERS" (.str "abcdefghijklmnopqrstuvwxyz")
  g_DIGITS : GV mg "DIGITS" (.str "0123456789")
  cv_Sum : GV mg "Sum" (.ref c.sum)
  cv_Pipe : GV mg "Pipe" (.ref c.pipe)
  cv_Meter : GV mg "Meter" (.ref c.meter)
  cv_Net : GV mg "Net" (.ref c.net)
  cv_Rule : GV mg "Rule" (.ref c.rule)
  k_Sum : Cls K c.sum
  k_Pipe : Cls K c.pipe
  k_Meter : Cls K c.meter
  k_Net : Cls K c.net
  k_Rule : Cls K c.rule
  i_Pipe : Isc K c.pipe
  i_Meter : Isc K c.meter
  i_Net : Isc K c.net
  i_Rule : Isc K c.rule
  is_PP : PySem.W.kitOne K (.ref c.pipe) (.ref c.pipe) = some true
  is_PM : PySem.W.kitOne K (.ref c.pipe) (.ref c.meter) = some false
  is_MP : PySem.W.kitOne K (.ref c.meter) (.ref c.pipe) = some false
  is_MM : PySem.W.kitOne K (.ref c.meter) (.ref c.meter) = some true
  is_NN : PySem.W.kitOne K (.ref c.net) (.ref c.net) = some true
  is_RR : PySem.W.kitOne K (.ref c.rule) (.ref c.rule) = some true
  a_Sum_kept : NoAttr K c.sum "kept"
  a_Pipe_kept : NoAttr K c.pipe "kept"
  a_Meter_kept : NoAttr K c.meter "kept"
  a_Net_joined : NoAttr K c.net "joined"
  a_Net_fitted : NoAttr K c.net "fitted"
  a_Rule_lines : NoAttr K c.rule "lines"
  a_Rule_steps : NoAttr K c.rule "steps"

/-- a def of the top by its name: every parameter is given -/
def Dn (K : PySem.W.Frag) (mg : Str → Option Value) (x : Str) (st : Stmt) (ps : List Str) : Prop :=
  ∃ f fd, FunD K x x (defArgs st) (defBody st) (defScope st) [] [] f fd ∧ mg x = some (.ref f) ∧ Binds K fd ps []
structure Cal (P : Program) (w : World) (K : PySem.W.Frag) (mg : Str → Option Value) (base : Heap) (k : Nat) (x : Str) (sp : Sp) : Prop where
  ex : ∃ (f : Addr) (fd : FuncData) (ps : List Str), FnOk P w K mg base CX0 k f fd ps sp ∧ mg x = some (.ref f) ∧ PySem.W.keepIn K (.ref f) = true ∧ Binds K fd ps []
section
variable {P : Program} {w : World} {K : PySem.W.Frag} {mg : Str → Option Value} {base : Heap}
theorem cal_of {x : Str} {st : Stmt} {N ps : List Str} {k : Nat} {sp : Sp} (D : Dn K mg x st ps) (S : FnScope N ps (defScope st)) (len : ∀ vs H Q E, sp vs H Q E → vs.length = ps.length)
    (hbody : ∀ (f : Addr) (cdv : Value) (A : Around) (outer : List Env) (s : Shared) (H : Hp) (vs : List V) (Q : VK) (E : XK), Room k (A.deeper (envOfC x (defScope st) s.heap.objs.size f cdv)) → sp vs H Q E →
      ∃ t, PSs (cxOf CX0 P w K mg base N x (defScope st) f cdv A outer s H E).nox (defBody st) t ∧ t { nx := fun _ H' => Q .non H', rt := Q } (start N vs) H) : Cal P w K mg base (k + 1) x sp := by
  obtain ⟨f, fd, F, hm, b⟩ := D
  refine ⟨f, fd, ps, F.ok S len (fun cdv A outer s H vs Q E hr h => ?_), hm, F.kp, b⟩
  obtain ⟨t, h1, h2⟩ := hbody f cdv A outer s H vs Q E hr h
  exact ⟨t, h1.nox, h2⟩
theorem Cal.imp {x : Str} {k : Nat} {sp sp' : Sp} (c : Cal P w K mg base k x sp) (h : ∀ vs H Q E, sp' vs H Q E → sp vs H Q E) : Cal P w K mg base k x sp' :=
  let ⟨f, fd, ps, F, a, b, d⟩ := c.ex
  ⟨f, fd, ps, F.imp h, a, b, d⟩
end
def tCl (sp : Sp) (t : TA) : TE := fun σ H Q => t σ H fun vs H1 => sp vs H1 Q E0
theorem PE.eq {X : Cx} {e : Expr} {t u : TE} (h : PE X e t) (q : ∀ σ H Q, u σ H Q → t σ H Q) : PE X e u := ⟨fun pins s σ H Q I hu => h.run pins s σ H Q I (q σ H Q hu)⟩
section
variable {X : Cx} {k j : Nat} {C : Addr} {x m f : Str} {sp : Sp} {p pos apos : Pos} {e o : Expr} {es : List Expr} {ta : TE} {t : TA}
theorem pe_c (c : Cal X.prog X.w X.K X.mg X.base k x sp) (hr : Room j X.A) (hk : k ≤ j) (hg : Gl X x) (ha : PA X (e :: es) t)
    (hdb : (x == ("__debug__" : Str)) = false := by decide) (he : starEach (e :: es) X.env = (false, eval e X.env) :: starEach es X.env := by rfl) (hpl : (backTo pos (starEach es X.env)).any (·.1) = false := by rfl) :
    PE X (.Call (.Name x p) (e :: es) [] pos) (tCl sp t) := by
  obtain ⟨f, fd, ps, F, hm, kp, b⟩ := c.ex
  have q := pe_call (p := p) (pos := pos) (dvs := []) (E := E0) F (hr.mono hk) hg hm kp b .nil pass0 ha hdb he hpl
  refine PE.eq q fun σ H Q h => ?_
  have e0 : (fun (vs : List V) (H1 : Hp) => sp (vs ++ []) H1 Q E0) = fun vs H1 => sp vs H1 Q E0 := by
    funext vs H1
    rw [List.append_nil]
  show t σ H (fun vs H1 => sp (vs ++ []) H1 Q E0)
  rw [e0]
  exact h
theorem pe_gc {v : V} (h : GV X.mg x v) (hg : Gl X x := by rfl) (hd : (x == ("__debug__" : Str)) = false := by decide) : PE X (.Name x pos) (tC v) := by
  obtain ⟨u, hm, r⟩ := h
  exact pe_glob hg hm r hd

/-! ### properties -/
structure Prp (P : Program) (w : World) (K : PySem.W.Frag) (mg : Str → Option Value) (base : Heap) (k : Nat) (C : Addr) (f : Str) (sp : Sp) : Prop where
  ex : ∃ (p g : Addr) (fd : FuncData) (ps : List Str), Cls K C ∧ PropOf K C f p g ∧ FnOk P w K mg base CX0 k g fd ps sp ∧ Binds K fd ps []
def tPr (C : Addr) (sp : Sp) (ta : TE) : TE := fun σ H Q => ta σ H fun x H1 => ∃ a dx fs, x = .ref a ∧ H1 a = some (.ins C dx fs) ∧ sp [.ref a] H1 Q E0
theorem pe_pr (c : Prp X.prog X.w X.K X.mg X.base k C f sp) (hr : Room j X.A) (hk : k + 1 ≤ j) (he : PE X e ta) (hab : attributeBase e f X.env (eval e X.env) = eval e X.env := by rfl) : PE X (.Attribute e f pos) (tPr C sp ta) := by
  obtain ⟨p, g, fd, ps, hc, hp, F, b⟩ := c.ex
  exact pe_prop (dvs := []) (E := E0) he hc hp F (hr.mono hk) b .nil pass0 hab

/-! ### making -/
structure Mak (P : Program) (w : World) (K : PySem.W.Frag) (mg : Str → Option Value) (base : Heap) (k : Nat) (x : Str) (C : Addr) (sp : Sp) : Prop where
  ex : ∃ (f : Addr) (fd : FuncData) (ps : List Str), Mk K C f ∧ FnOk P w K mg base CX0 k f fd ps sp ∧ mg x = some (.ref C) ∧ Binds K fd ps []
def tMk (C : Addr) (sp : Sp) (t : TA) : TE := fun σ H Q => t σ H fun vs H1 => ∀ x dx, H1 x = none → H1 dx = none → dx ≠ x →
  sp (.ref x :: vs) (upd (upd H1 dx (.own x)) x (.ins C dx [])) (fun v H2 => v = .non ∧ Q (.ref x) H2) E0
theorem pe_mk (c : Mak X.prog X.w X.K X.mg X.base k x C sp) (hr : Room j X.A) (hk : k + 1 ≤ j) (hg : Gl X x) (ha : PA X (e :: es) t)
    (hdb : (x == ("__debug__" : Str)) = false := by decide) (he : starEach (e :: es) X.env = (false, eval e X.env) :: starEach es X.env := by rfl) (hpl : (backTo pos (starEach es X.env)).any (·.1) = false := by rfl) :
    PE X (.Call (.Name x p) (e :: es) [] pos) (tMk C sp t) := by
  obtain ⟨f, fd, ps, M, F, hm, b⟩ := c.ex
  have q := pe_make (p := p) (pos := pos) (dvs := []) (E := E0) M F (hr.mono hk) hg hm b .nil pass0 ha hdb he hpl
  refine PE.eq q fun σ H Q h => ?_
  have e0 : (fun (vs : List V) (H1 : Hp) => ∀ x dx, H1 x = none → H1 dx = none → dx ≠ x → sp (.ref x :: (vs ++ [])) (upd (upd H1 dx (.own x)) x (.ins C dx [])) (fun v H2 => v = .non ∧ Q (.ref x) H2) E0) = fun vs H1 => ∀ x dx, H1 x = none → H1 dx = none → dx ≠ x → sp (.ref x :: vs) (upd (upd H1 dx (.own x)) x (.ins C dx [])) (fun v H2 => v = .non ∧ Q (.ref x) H2) E0 := by
    funext vs H1
    rw [List.append_nil]
  show t σ H (fun (vs : List V) (H1 : Hp) => ∀ x dx, H1 x = none → H1 dx = none → dx ≠ x → sp (.ref x :: (vs ++ [])) (upd (upd H1 dx (.own x)) x (.ins C dx [])) (fun v H2 => v = .non ∧ Q (.ref x) H2) E0)
  rw [e0]
  exact h
/-- C(..) by a local name that holds the class (cls(..)) -/
def tMkL (i : Nat) (C : Addr) (sp : Sp) (t : TA) : TE := fun σ H Q => σ[i]? = some (some (.ref C)) ∧ tMk C sp t σ H Q
theorem pe_mkL {i : Nat} {y : Str} (c : Mak X.prog X.w X.K X.mg X.base k y C sp) (hr : Room j X.A) (hk : k + 1 ≤ j) (hN : X.N[i]? = some x) (hv : Vis X.env.scope x) (ha : PA X (e :: es) t)
    (hdb : (x == ("__debug__" : Str)) = false := by decide) (hcd : (x == ("__classdict__" : Str)) = false := by decide)
    (he : starEach (e :: es) X.env = (false, eval e X.env) :: starEach es X.env := by rfl) (hpl : (backTo pos (starEach es X.env)).any (·.1) = false := by rfl) : PE X (.Call (.Name x p) (e :: es) [] pos) (tMkL i C sp t) := by
  refine ⟨fun pins s σ H Q I h => ?_⟩
  obtain ⟨hs, ht⟩ := h
  obtain ⟨f, fd, ps, M, F, hm, b⟩ := c.ex
  refine wpAny_Call_Name_kw (thn ((pe_var (pos := p) hN hv hdb hcd).run pins s σ H (fun v H1 => v = .ref C ∧ H1 = H) I ⟨.ref C, hs, rfl, rfl⟩) fun u s1 ⟨v, H1, I1, r1, q1⟩ => ?_)
  obtain ⟨rfl, rfl⟩ := q1
  cases r1
  refine PySem.W.callWith_K (h₀ := X.base) I.ok.mod.kin M.kp (thn (ha.run pos pins s1 σ _ _ I1 ht) fun us s2 ⟨vs, H2, I2, r, q⟩ => ⟨I2.kIn, ?_⟩) he hpl
  exact run_make (dvs := []) (E := E0) M F (hr.mono hk) b .nil pass0 I2 r (by rw [List.append_nil]; exact q)
end
/-- a tuple as a target, the written part and the length told -/
theorem pg_tupK {X : Cx} {es : List Expr} {k : Nat} {pos : Pos} {t : TGs} (K : PySem.W.Frag) (n : Nat) (hK : X.K = K) (hc : X.calm = true) (h : PGs X es t)
    (hn : (assignEach es X.env).length = n := by rfl) (hst : (assignEach es X.env).findIdx? (·.1) = none := by rfl) : PG X (.Tuple es k pos) (gTup K n t) := by
  subst hK
  exact pg_tup hc h hn hst
/-! ### comprehensions and loops whose readings are named -/
def tLcG (wi : TI) (g : TG) (tt : TT) (te : TE) (vs : List Nat) : TE := fun σ H Q => wi σ H fun J H1 => LcG J g tt te vs σ H1 Q
def ForG (J : It) (g : TG) (tb : TS) (D : Ends) (σ : L2.St) (H : Hp) : Prop := ∃ W : Nat → Nat → L2.St → Hp → Prop, (∃ m, W 0 m σ H) ∧ ∀ i m σ H, W i m σ H →
  (J.stop i H ∧ D.nx σ H) ∨ (J.go i H ∧ ∃ N : L2.St → Hp → Prop, (∀ σ' H', N σ' H' → ∃ m', m' < m ∧ W (i + 1) m' σ' H') ∧ ∀ x H', J.yld i H x H' → g x σ H' fun σ2 H2 => tb { D with nx := N, ct := N, bk := D.nx } σ2 H2)
def tForG (wi : TI) (g : TG) (tb : TS) : TS := fun D σ H => wi σ H fun J H1 => ForG J g tb D σ H1
section
variable {X : Cx}
theorem pe_lcG {elt tg iter : Expr} {ifs : List Expr} {scope : Scope} {own : List (Str × Nat)} {pos : Pos} {wi : TI} {g : TG} {tt : TT} {te : TE} (hc : X.calm = true) (hN : X.N.Nodup) (hi : PI X tg iter wi) (ok : BlkOk X.N X.env.scope scope own)
    (hg : ∀ (s : Shared) (H : Hp) (C : Addr) (cl : List (Str × Addr)) (fp : List Addr), PG (X.blk s H scope (compEnvC scope cl C X.env) fp) tg g) (ht : ∀ (s : Shared) (H : Hp) (C : Addr) (cl : List (Str × Addr)) (fp : List Addr), PTs (X.blk s H scope (compEnvC scope cl C X.env) fp) ifs tt)
    (he : ∀ (s : Shared) (H : Hp) (C : Addr) (cl : List (Str × Addr)) (fp : List Addr), PE (X.blk s H scope (compEnvC scope cl C X.env) fp) elt te) (hs : ∀ x, foldedSetIterable iter X.env x = pure x := by intro _; rfl) :
    PE X (.ListComp elt [⟨tg, iter, ifs, 0⟩] scope pos) (tLcG wi g tt te (own.map (·.2))) := pe_lc hc hN hi ok hg ht he hs
theorem ps_setLcG {i : Nat} {y : Str} {py : Pos} {elt tg iter : Expr} {ifs : List Expr} {scope : Scope} {own : List (Str × Nat)} {pos spos : Pos} {wi : TI} {g : TG} {tt : TT} {te : TE} (hc : X.calm = true) (hN : X.N.Nodup) (hy : X.N[i]? = some y) (hyl : X.env.scope.names.lookup y = some .local)
    (hsw : swapsWith (.ListComp elt [⟨tg, iter, ifs, 0⟩] scope pos) (some (.Name y py)) spos.line X.env = pure true) (hi : PI X tg iter wi) (ok : BlkOk X.N X.env.scope scope own)
    (hg : ∀ (s : Shared) (H : Hp) (C : Addr) (cl : List (Str × Addr)) (fp : List Addr), PG (X.blk s H scope (compEnvC scope cl C X.env) fp) tg g) (ht : ∀ (s : Shared) (H : Hp) (C : Addr) (cl : List (Str × Addr)) (fp : List Addr), PTs (X.blk s H scope (compEnvC scope cl C X.env) fp) ifs tt)
    (he : ∀ (s : Shared) (H : Hp) (C : Addr) (cl : List (Str × Addr)) (fp : List Addr), PE (X.blk s H scope (compEnvC scope cl C X.env) fp) elt te) (hs : ∀ x, foldedSetIterable iter X.env x = pure x := by intro _; rfl) :
    PS X (.Assign [.Name y py] (.ListComp elt [⟨tg, iter, ifs, 0⟩] scope pos) spos) (tAsg (tLcG wi g tt te (own.map (·.2))) (gName i)) := ps_setLc hc hN hy hyl hsw hi ok hg ht he hs
theorem ps_forG {tg iter : Expr} {body : List Stmt} {wi : TI} {g : TG} {tb : TS} {pos : Pos} (hp : PassesOwn (model X.prog X.w) X.A X.env X.xe) (hc : X.calm = true) (hi : PI X tg iter wi) (hg : PG X tg g) (hb : PSs X body tb)
    (hs : ∀ x, foldedSetIterable iter X.env x = pure x := by intro _; rfl) : PS X (.For tg iter body [] pos) (tForG wi g tb) := ps_for hp hc hi hg hb hs
end
section
variable {J : It} {n : Nat} {G : Hp → Prop} {Y : Nat → Hp → V → Hp → Prop} {g : TG} {tb : TS} {D : Ends} {σ : L2.St} {H : Hp}
theorem for_any (w : Walk J n G Y) (Pv : Nat → L2.St → Hp → Prop) (h0 : Pv 0 σ H) (hG : ∀ i σ H, i ≤ n → Pv i σ H → G H)
    (hs : ∀ i x σ H H', i < n → Pv i σ H → Y i H x H' → g x σ H' fun σ2 H2 => tb { D with nx := Pv (i + 1), ct := Pv (i + 1), bk := D.nx } σ2 H2) (hd : ∀ σ H, Pv n σ H → D.nx σ H) : ForG J g tb D σ H :=
  for_it w Pv h0 hG hs hd
/-- over a list, a tuple: the item by its place -/
theorem for_at {xs : List V} {Gd : Hp → Prop} (w : Walk J xs.length Gd (YAt xs)) (Pv : Nat → L2.St → Hp → Prop) (h0 : Pv 0 σ H) (hG : ∀ i σ H, i ≤ xs.length → Pv i σ H → Gd H)
    (hs : ∀ (i : Nat) (x : V) (σ : L2.St) (H : Hp), xs[i]? = some x → Pv i σ H → g x σ H fun σ2 H2 => tb { D with nx := Pv (i + 1), ct := Pv (i + 1), bk := D.nx } σ2 H2) (hd : ∀ σ H, Pv xs.length σ H → D.nx σ H) : ForG J g tb D σ H :=
  for_any w Pv h0 hG (fun i x σ H H' _ p y => by
    obtain ⟨rfl, hx⟩ := y
    exact hs i x σ _ hx p) hd
theorem for_rng {lo : Int} {n : Nat} (Pv : Nat → L2.St → Hp → Prop) (h0 : Pv 0 σ H)
    (hs : ∀ (i : Nat) (σ : L2.St) (H : Hp), i < n → Pv i σ H → g (.int (lo + i)) σ H fun σ2 H2 => tb { D with nx := Pv (i + 1), ct := Pv (i + 1), bk := D.nx } σ2 H2) (hd : ∀ σ H, Pv n σ H → D.nx σ H) : ForG (Itr lo n) g tb D σ H :=
  for_any walk_range Pv h0 (fun _ _ _ _ _ => trivial) (fun i x σ H H' hi p y => by
    obtain ⟨rfl, rfl⟩ := y
    exact hs i σ _ hi p) hd
end
end Rv
end

section
set_option Elab.async false
set_option autoImplicit false
set_option linter.all false
set_option maxRecDepth 100000
set_option maxHeartbeats 4000000
/-! RvHk: a Hook over the addresses that the names of this program lead to, told step by step. -/
namespace Rv
open PySem L2 PyProof.Rows PySem.Spec
/-! ### told lists -/
def frL {α : Type} : List Nat → (List Nat → α) → α
  | [], k => k []
  | a :: r, k => HandSHeadRun.frNat a fun a => frL r fun r => k (a :: r)
theorem frL_eq {α : Type} : ∀ (l : List Nat) (k : List Nat → α), frL l k = k l
  | [], _ => rfl
  | a :: r, k => by
    show HandSHeadRun.frNat a (fun a => frL r fun r => k (a :: r)) = _
    rw [HandSHeadRun.frNat_eq, frL_eq r]
def frO {α : Type} (o : Obj) (k : Obj → α) : α := match o with
  | ⟨c, d, dt, sl⟩ => k ⟨c, d, dt, sl⟩
theorem frO_eq {α : Type} (o : Obj) (k : Obj → α) : frO o k = k o := by
  obtain ⟨c, d, dt, sl⟩ := o
  rfl
def frK {α : Type} (g : Addr → Option Obj) : List Addr → (PySem.W.Frag → α) → α
  | [], k => k []
  | a :: r, k => match g a with
    | some o => frO o fun o => frK g r fun K => k ((a, o) :: K)
    | none => frK g r k
theorem frK_eq {α : Type} (g : Addr → Option Obj) : ∀ (as : List Addr) (k : PySem.W.Frag → α), frK g as k = k (He.frG g as)
  | [], _ => rfl
  | a :: r, k => by
    unfold frK He.frG
    rw [List.filterMap_cons]
    cases e : g a with
    | none =>
      show frK g r k = _
      rw [frK_eq g r]; rfl
    | some o =>
      show frO o (fun o => frK g r fun K => k ((a, o) :: K)) = _
      rw [frO_eq, frK_eq g r]; rfl
/-! ### addresses -/
def recG (K : PySem.W.Frag) (T : String) (p : Addr) : Addr := match PySem.W.recIn K p T with
  | some (.ref a :: _) => a
  | _ => 0
def nsOfC (K : PySem.W.Frag) (C : Addr) : Addr := match K.lookup C with
  | some ⟨_, _, .cls cd, _⟩ => cd.ns
  | _ => 0
def fieldG (g : Addr → Option Obj) (p : Addr) : Addr := match g p with
  | some ⟨_, _, .fields vs, _⟩ => (match vs.toList with
    | .ref a :: _ => a
    | _ => 0)
  | _ => 0
def codeG (g : Addr → Option Obj) (f : Addr) : Addr := match g f with
  | some ⟨_, _, .func fd, _⟩ => (match fd.code with
    | .ref c => c
    | _ => 0)
  | _ => 0
def dflG (g : Addr → Option Obj) (f : Addr) : Addr := match g f with
  | some ⟨_, _, .func fd, _⟩ => (match fd.defaults with
    | .ref T => T
    | _ => 0)
  | _ => 0
/-- the text of a def, where it stands -/
structure DfY where
  at_ : PySem.W.Frag → Addr
  name : Str
  qual : Str
  params : Arguments
  body : List Stmt
  scope : Scope
  kw : Bool := false
  dfl : Bool := false
def DfY.val (d : DfY) : He.FnW := some (d.name, d.qual, d.params, .stmts d.body, d.scope, mainGlobals, [], builtinsNs)
def valL : List DfY → List He.FnW
  | [] => []
  | d :: r => d.val :: valL r
def fnA (K : PySem.W.Frag) (a : Addr) : He.FnW := match K.lookup a with
  | some ⟨_, _, .func fd, _⟩ => some (fd.name, fd.qualname, fd.params, fd.body, fd.scope, fd.globals, fd.closure, fd.builtins)
  | _ => none
def obsL (K : PySem.W.Frag) : List DfY → List He.FnW
  | [] => []
  | d :: r => fnA K (d.at_ K) :: obsL K r
def isNone : Value → Bool
  | .none => true
  | _ => false
theorem isNone_eq {v : Value} (h : isNone v = true) : v = .none := by
  cases v <;> first | rfl | cases h
/-- a tuple of one object -/
def oneB (K : PySem.W.Frag) : Value → Bool
  | .ref T => (match K.lookup T with
    | some ⟨_, _, .seq its _, _⟩ => (match its.toList with
      | [.ref _] => true
      | _ => false)
    | _ => false)
  | _ => false
def OneD (K : PySem.W.Frag) (dV : Value) : Prop := ∃ (T : Addr) (o : Obj) (e : Addr) (m : Nat), dV = .ref T ∧ K.lookup T = some o ∧ o.data = .seq [Value.ref e].toArray m
theorem oneB_ok {K : PySem.W.Frag} {v : Value} (h : oneB K v = true) : OneD K v := by
  unfold oneB at h
  split at h
  · rename_i T
    split at h
    · rename_i oc od its m sl hk
      split at h
      · rename_i e he
        refine ⟨T, _, e, m, rfl, hk, ?_⟩
        show Data.seq its m = _
        rw [← he]
      · cases h
    · cases h
  · cases h
def DfY.ok (K : PySem.W.Frag) (d : DfY) : Bool := match K.lookup (d.at_ K) with
  | some ⟨_, _, .func fd, _⟩ => PySem.W.codeIn K fd.code d.qual && ((if d.dfl = true then oneB K fd.defaults else isNone fd.defaults) && (d.kw || isNone fd.kwdefaults))
  | _ => false
/-- a def read off: its record -/
def DefAt (K : PySem.W.Frag) (d : DfY) (f : Addr) (fd : FuncData) : Prop := ∃ (oc : Value) (od : Option Addr) (dV kV doc pm : Value) (an : Option Addr) (cdv ct : Value) (osl : Array (Option Value)),
  fd = PySem.W.fnOf d.name d.qual d.params d.body d.scope dV kV doc pm an cdv ct ∧ K.lookup f = some ⟨oc, od, .func fd, osl⟩ ∧ PySem.W.codeIn K cdv d.qual = true ∧ (d.kw = false → kV = .none) ∧ (d.dfl = false → dV = .none) ∧ (d.dfl = true → OneD K dV)
theorem defAt_of {K : PySem.W.Frag} {d : DfY} (e : fnA K (d.at_ K) = d.val) (c : d.ok K = true) : ∃ fd, DefAt K d (d.at_ K) fd ∧ PySem.W.keepIn K (.ref (d.at_ K)) = true := by
  unfold DfY.ok at c
  unfold fnA at e
  cases q : K.lookup (d.at_ K) with
  | none =>
    rw [q] at c
    cases c
  | some o =>
    obtain ⟨oc, od, dt, osl⟩ := o
    rw [q] at c e
    cases dt with
    | func fd =>
      obtain ⟨n1, n2, n3, n4, n5, n6, n7, n8, n9, n10, n11, n12, n13, n14, n15⟩ := fd
      have e2 : (some (n1, n2, n3, n4, n5, n6, n7, n15) : He.FnW) = some (d.name, d.qual, d.params, .stmts d.body, d.scope, mainGlobals, [], builtinsNs) := e
      simp only [Option.some.injEq, Prod.mk.injEq] at e2
      obtain ⟨h1, h2, h3, h4, h5, h6, h7, h8⟩ := e2
      subst h1 h2 h3 h4 h5 h6 h7 h8
      have c3 : (PySem.W.codeIn K n13 d.qual && ((if d.dfl = true then oneB K n8 else isNone n8) && (d.kw || isNone n9))) = true := c
      obtain ⟨k1, k2⟩ := He.ba c3
      obtain ⟨k3, k4⟩ := He.ba k2
      refine ⟨_, ⟨oc, od, n8, n9, n10, n11, n12, n13, n14, osl, rfl, q, k1, fun hk => ?_, fun hk => ?_, fun hk => ?_⟩, ?_⟩
      · rw [hk] at k4
        exact isNone_eq k4
      · rw [if_neg (by rw [hk]; decide)] at k3
        exact isNone_eq k3
      · rw [if_pos hk] at k3
        exact oneB_ok k3
      · unfold PySem.W.keepIn
        show (match K.lookup (d.at_ K) with
          | some ⟨_, _, .func _, _⟩ => true
          | some ⟨_, _, .cls _, _⟩ => PySem.W.specialIn K (.ref (d.at_ K)) "__call__" == some (some (.builtin "type.__call__"))
          | _ => false) = true
        rw [q]
    | _ => cases c
/-! ### the Hook -/
structure Names where
  fns : List Str
  cls : List Str
  mem : List (Str × Str)
  defs : List DfY
  fa : List He.Fa
  ex : List (PySem.W.Frag → Bool)
  tab : PySem.W.Frag → Addr × Addr
section
variable (N : Names)
def okY (K : PySem.W.Frag) : Bool := (N.fa.all fun f => f.ok K) && ((N.ex.all fun f => f K) && N.defs.all fun d => d.ok K)
def tabY (g : Addr → Option Obj) (K : PySem.W.Frag) : Bool := PySem.W.codeHdIn K (N.tab K).1 (N.tab K).2 && ((K.lookup (N.tab K).2).isNone && (match g (N.tab K).2 with
  | some o => He.emptyTab o
  | none => false))
def g1 (g : Addr → Option Obj) : List Addr := N.fns.map (He.ga (He.frG g [mainGlobals]))
def g2 (g : Addr → Option Obj) : List Addr := N.cls.map (He.ga (He.frG g [mainGlobals]))
def g3 (g : Addr → Option Obj) (cs : List Addr) : List Addr := cs.map (nsOfC (He.frG g cs))
def g4 (g : Addr → Option Obj) (cs ns : List Addr) : List Addr := N.mem.map fun p => He.ma (He.frG g (mainGlobals :: (cs ++ ns))) (He.ga (He.frG g (mainGlobals :: (cs ++ ns))) p.1) p.2
def g5 (g : Addr → Option Obj) (ms : List Addr) : List Addr := ms.map (fieldG g)
def g7 (g : Addr → Option Obj) (ms : List Addr) : List Addr := ms.map (dflG g)
def g6 (g : Addr → Option Obj) (fs : List Addr) : List Addr := fs.map (codeG g)
abbrev Al : Type := Bool × List He.FnW
def obsY (g : Addr → Option Obj) : Al := frL (g1 N g) fun fs => frL (g2 N g) fun cs => frL (g3 g cs) fun ns => frL (g4 N g cs ns) fun ms => frL (g5 g ms) fun gs => frL (g7 g ms) fun ds => frL (g6 g (fs ++ (ms ++ gs))) fun co =>
  frK g (mainGlobals :: cStatics :: (cs ++ (ns ++ (fs ++ (ms ++ (gs ++ (ds ++ co))))))) fun K => (okY N K && tabY N g K, obsL K N.defs)
def valY : Al := (true, valL N.defs)
structure SaysY (h : Heap) (K : PySem.W.Frag) : Prop where
  ok : okY N K = true
  fn : obsL K N.defs = valL N.defs
  hd : PySem.W.codeHdIn K (N.tab K).1 (N.tab K).2 = true
  out : K.lookup (N.tab K).2 = none
  empty : h.get? (N.tab K).2 = some { cls := .none, data := .fields #[] }
theorem saysY_of {h : Heap} (e : obsY N h.get? = valY N) : ∃ K : PySem.W.Frag, K.In h ∧ SaysY N h K := by
  unfold obsY at e
  simp only [frL_eq, frK_eq] at e
  obtain ⟨e1, e2⟩ := Prod.mk.inj e
  obtain ⟨h1, h2⟩ := He.ba e1
  obtain ⟨h3, h4⟩ := He.ba h2
  obtain ⟨h5, h6⟩ := He.ba h4
  refine ⟨_, He.frG_in, h1, e2, h3, Option.isNone_iff_eq_none.mp h5, ?_⟩
  revert h6
  generalize N.tab _ = p
  intro h6
  cases q : h.get? p.2 with
  | none =>
    rw [q] at h6
    cases h6
  | some o =>
    rw [q] at h6
    rw [He.emptyTab_eq h6]
def hookY : PySem.W.Hook where
  α := Al
  obs := fun s => obsY N s.heap.get?
  val := fun _ => valY N
  says := fun _ h => ∃ K : PySem.W.Frag, K.In h ∧ SaysY N h K
  of := fun _ _ e => saysY_of N e
  keeps := fun _ _ _ ⟨K, hK, c⟩ k => ⟨K, PySem.W.Frag.In.keeps hK k, ⟨c.ok, c.fn, c.hd, c.out, k _ _ c.empty⟩⟩
theorem obsY_eq (s : PySem.W.SharedT) : obsY N (HandSHeadRun.getT s) = (hookY N).obs s.abs := by
  have e : HandSHeadRun.getT s = s.abs.heap.get? := funext (HandSHeadRun.getT_eq s)
  rw [e]; rfl
variable {N} {h : Heap} {K : PySem.W.Frag}
theorem SaysY.fact (c : SaysY N h K) {f : He.Fa} (hf : f ∈ N.fa) : f.ok K = true := List.all_eq_true.mp (He.ba c.ok).1 f hf
theorem SaysY.more (c : SaysY N h K) {f : PySem.W.Frag → Bool} (hf : f ∈ N.ex) : f K = true := List.all_eq_true.mp (He.ba (He.ba c.ok).2).1 f hf
theorem obsL_at {K : PySem.W.Frag} : ∀ {l : List DfY} {d : DfY}, obsL K l = valL l → d ∈ l → fnA K (d.at_ K) = d.val
  | e :: r, d, h, hd => by
    obtain ⟨h1, h2⟩ := List.cons.inj (show fnA K (e.at_ K) :: obsL K r = e.val :: valL r from h)
    rcases List.mem_cons.mp hd with q | q
    · rw [q]; exact h1
    · exact obsL_at h2 q
theorem SaysY.def_ (c : SaysY N h K) {d : DfY} (hd : d ∈ N.defs) : ∃ fd, DefAt K d (d.at_ K) fd ∧ PySem.W.keepIn K (.ref (d.at_ K)) = true :=
  defAt_of (obsL_at c.fn hd) (List.all_eq_true.mp (He.ba (He.ba c.ok).2).2 d hd)
end
theorem DefAt.funD {K : PySem.W.Frag} {d : DfY} {f : Addr} {fd : FuncData} (a : DefAt K d f fd) (kp : PySem.W.keepIn K (.ref f) = true) (hd : d.dfl = false) : FunD K d.name d.qual d.params d.body d.scope [] [] f fd := by
  obtain ⟨oc, od, dV, kV, doc, pm, an, cdv, ct, osl, rfl, lk, cd, _, d0, _⟩ := a
  have e := d0 hd
  subst e
  exact ⟨⟨oc, od, .none, kV, doc, pm, an, cdv, ct, osl, rfl, lk, cd, .inl ⟨rfl, rfl⟩, .inl rfl⟩, kp⟩
theorem DefAt.funD1 {K : PySem.W.Frag} {d : DfY} {f : Addr} {fd : FuncData} (a : DefAt K d f fd) (kp : PySem.W.keepIn K (.ref f) = true) (hd : d.dfl = true) : ∃ e, FunD K d.name d.qual d.params d.body d.scope [.ref e] [] f fd := by
  obtain ⟨oc, od, dV, kV, doc, pm, an, cdv, ct, osl, rfl, lk, cd, _, _, d1⟩ := a
  obtain ⟨T, o, e, m, rfl, h1, h2⟩ := d1 hd
  exact ⟨e, ⟨oc, od, _, kV, doc, pm, an, cdv, ct, osl, rfl, lk, cd, .inr ⟨List.cons_ne_nil _ _, T, o, [.ref e], m, rfl, h1, h2, .cons rfl .nil⟩, .inl rfl⟩, kp⟩
/-- every parameter binds -/
def BindT (d : DfY) (ps : List Str) : Prop := ∀ (doc pm : Value) (an : Option Addr) (cdv ct : Value) (us : List Value), us.length = ps.length → bindArgs (PySem.W.fnOf d.name d.qual d.params d.body d.scope .none .none doc pm an cdv ct) ⟨us, []⟩ = pure (ps.zip us)
theorem DefAt.binds {K : PySem.W.Frag} {d : DfY} {f : Addr} {fd : FuncData} {ps : List Str} (a : DefAt K d f fd) (hk : d.kw = false) (hd : d.dfl = false) (b : BindT d ps) : Binds K fd ps [] := by
  obtain ⟨oc, od, dV, kV, doc, pm, an, cdv, ct, osl, rfl, lk, cd, k0, d0, _⟩ := a
  have e := k0 hk
  have e2 := d0 hd
  subst e e2
  exact .all fun us hl => b doc pm an cdv ct us hl
/-- .. where one default stands -/
def BindT1 (d : DfY) (ps : List Str) : Prop := ∀ (T : Addr) (kV doc pm : Value) (an : Option Addr) (cdv ct : Value) (us its : List Value), us.length = ps.length → its.length = 1 →
  ∃ k, bindArgs (PySem.W.fnOf d.name d.qual d.params d.body d.scope (.ref T) kV doc pm an cdv ct) ⟨us, []⟩ = seqItems? (.ref T) >>= k ∧ k (some its.toArray) = pure (ps.zip (us ++ its.drop 1))
theorem binds_one {K : PySem.W.Frag} {d : DfY} {f e : Addr} {fd : FuncData} {ps : List Str} (F : FunD K d.name d.qual d.params d.body d.scope [.ref e] [] f fd) (b : BindT1 d ps) : Binds K fd ps [] := by
  obtain ⟨ds, h1, h2⟩ := F.binds1 (ps := ps) ps.length 1 (List.cons_ne_nil _ _) (by simp) b
  cases h1
  exact h2
end Rv
end

section
set_option Elab.async false
set_option autoImplicit false
set_option linter.all false
set_option maxRecDepth 100000
set_option maxHeartbeats 4000000
/-! RvHd: printed by gen/heads.py: the defs of this program, where they stand. -/
namespace Rv
open PySem L2 PyProof.Rows PySem.Spec
def dIsInteger : DfY := ⟨fun K => He.ga K "is_integer", "is_integer", "is_integer", defArgs (top 29), defBody (top 29), defScope (top 29), false, false⟩
def dIsName : DfY := ⟨fun K => He.ga K "is_name", "is_name", "is_name", defArgs (top 30), defBody (top 30), defScope (top 30), false, false⟩
def dCheckName : DfY := ⟨fun K => He.ga K "check_name", "check_name", "check_name", defArgs (top 31), defBody (top 31), defScope (top 31), false, false⟩
def dReadNumber : DfY := ⟨fun K => He.ga K "read_number", "read_number", "read_number", defArgs (top 32), defBody (top 32), defScope (top 32), false, false⟩
def dDigitsOf : DfY := ⟨fun K => He.ga K "digits_of", "digits_of", "digits_of", defArgs (top 33), defBody (top 33), defScope (top 33), false, false⟩
def dCheckTerms : DfY := ⟨fun K => He.ga K "check_terms", "check_terms", "check_terms", defArgs (top 35), defBody (top 35), defScope (top 35), false, false⟩
def dMerged : DfY := ⟨fun K => He.ga K "merged", "merged", "merged", defArgs (top 36), defBody (top 36), defScope (top 36), false, false⟩
def dTermText : DfY := ⟨fun K => He.ga K "term_text", "term_text", "term_text", defArgs (top 38), defBody (top 38), defScope (top 38), false, false⟩
def dTextOf : DfY := ⟨fun K => He.ga K "text_of", "text_of", "text_of", defArgs (top 39), defBody (top 39), defScope (top 39), false, false⟩
def dReadTerm : DfY := ⟨fun K => He.ga K "read_term", "read_term", "read_term", defArgs (top 40), defBody (top 40), defScope (top 40), false, false⟩
def dReadTerms : DfY := ⟨fun K => He.ga K "read_terms", "read_terms", "read_terms", defArgs (top 41), defBody (top 41), defScope (top 41), false, false⟩
def dSumInit : DfY := ⟨fun K => He.ma K (He.ga K "Sum") "__init__", "__init__", "Sum.__init__", defArgs (inClass (top 42) 0), defBody (inClass (top 42) 0), defScope (inClass (top 42) 0), false, true⟩
def dSumRead : DfY := ⟨fun K => recG K "classmethod" (He.ma K (He.ga K "Sum") "read"), "read", "Sum.read", defArgs (inClass (top 42) 1), defBody (inClass (top 42) 1), defScope (inClass (top 42) 1), false, false⟩
def dSumTerms : DfY := ⟨fun K => recG K "property" (He.ma K (He.ga K "Sum") "terms"), "terms", "Sum.terms", defArgs (inClass (top 42) 3), defBody (inClass (top 42) 3), defScope (inClass (top 42) 3), false, false⟩
def dSumNames : DfY := ⟨fun K => recG K "property" (He.ma K (He.ga K "Sum") "names"), "names", "Sum.names", defArgs (inClass (top 42) 4), defBody (inClass (top 42) 4), defScope (inClass (top 42) 4), false, false⟩
def dPipeInit : DfY := ⟨fun K => He.ma K (He.ga K "Pipe") "__init__", "__init__", "Pipe.__init__", defArgs (inClass (top 46) 0), defBody (inClass (top 46) 0), defScope (inClass (top 46) 0), false, false⟩
def dPipeName : DfY := ⟨fun K => recG K "property" (He.ma K (He.ga K "Pipe") "name"), "name", "Pipe.name", defArgs (inClass (top 46) 1), defBody (inClass (top 46) 1), defScope (inClass (top 46) 1), false, false⟩
def dPipeStart : DfY := ⟨fun K => recG K "property" (He.ma K (He.ga K "Pipe") "start"), "start", "Pipe.start", defArgs (inClass (top 46) 2), defBody (inClass (top 46) 2), defScope (inClass (top 46) 2), false, false⟩
def dPipeEnd : DfY := ⟨fun K => recG K "property" (He.ma K (He.ga K "Pipe") "end"), "end", "Pipe.end", defArgs (inClass (top 46) 3), defBody (inClass (top 46) 3), defScope (inClass (top 46) 3), false, false⟩
def dMeterInit : DfY := ⟨fun K => He.ma K (He.ga K "Meter") "__init__", "__init__", "Meter.__init__", defArgs (inClass (top 47) 0), defBody (inClass (top 47) 0), defScope (inClass (top 47) 0), true, false⟩
def dMeterName : DfY := ⟨fun K => recG K "property" (He.ma K (He.ga K "Meter") "name"), "name", "Meter.name", defArgs (inClass (top 47) 1), defBody (inClass (top 47) 1), defScope (inClass (top 47) 1), false, false⟩
def dMeterAt : DfY := ⟨fun K => recG K "property" (He.ma K (He.ga K "Meter") "at"), "at", "Meter.at", defArgs (inClass (top 47) 2), defBody (inClass (top 47) 2), defScope (inClass (top 47) 2), false, false⟩
def dMeterSealed : DfY := ⟨fun K => recG K "property" (He.ma K (He.ga K "Meter") "sealed"), "sealed", "Meter.sealed", defArgs (inClass (top 47) 3), defBody (inClass (top 47) 3), defScope (inClass (top 47) 3), false, false⟩
def dCheckPipes : DfY := ⟨fun K => He.ga K "check_pipes", "check_pipes", "check_pipes", defArgs (top 48), defBody (top 48), defScope (top 48), false, false⟩
def dCheckMeters : DfY := ⟨fun K => He.ga K "check_meters", "check_meters", "check_meters", defArgs (top 49), defBody (top 49), defScope (top 49), false, false⟩
def dLineOf : DfY := ⟨fun K => He.ga K "line_of", "line_of", "line_of", defArgs (top 50), defBody (top 50), defScope (top 50), false, false⟩
def dItemOf : DfY := ⟨fun K => He.ga K "item_of", "item_of", "item_of", defArgs (top 51), defBody (top 51), defScope (top 51), false, false⟩
def dNetInit : DfY := ⟨fun K => He.ma K (He.ga K "Net") "__init__", "__init__", "Net.__init__", defArgs (inClass (top 52) 0), defBody (inClass (top 52) 0), defScope (inClass (top 52) 0), false, true⟩
def dNetRead : DfY := ⟨fun K => recG K "classmethod" (He.ma K (He.ga K "Net") "read"), "read", "Net.read", defArgs (inClass (top 52) 1), defBody (inClass (top 52) 1), defScope (inClass (top 52) 1), false, false⟩
def dNetMeters : DfY := ⟨fun K => recG K "property" (He.ma K (He.ga K "Net") "meters"), "meters", "Net.meters", defArgs (inClass (top 52) 3), defBody (inClass (top 52) 3), defScope (inClass (top 52) 3), false, false⟩
def dNetContains : DfY := ⟨fun K => He.ma K (He.ga K "Net") "__contains__", "__contains__", "Net.__contains__", defArgs (inClass (top 52) 14), defBody (inClass (top 52) 14), defScope (inClass (top 52) 14), false, false⟩
def dNetStr : DfY := ⟨fun K => He.ma K (He.ga K "Net") "__str__", "__str__", "Net.__str__", defArgs (inClass (top 52) 16), defBody (inClass (top 52) 16), defScope (inClass (top 52) 16), false, false⟩
def dCheckNet : DfY := ⟨fun K => He.ga K "check_net", "check_net", "check_net", defArgs (top 53), defBody (top 53), defScope (top 53), false, false⟩
def dIsReading : DfY := ⟨fun K => He.ga K "is_reading", "is_reading", "is_reading", defArgs (top 55), defBody (top 55), defScope (top 55), false, false⟩
def dCheckReadings : DfY := ⟨fun K => He.ga K "check_readings", "check_readings", "check_readings", defArgs (top 56), defBody (top 56), defScope (top 56), false, false⟩
def dValueIn : DfY := ⟨fun K => He.ga K "value_in", "value_in", "value_in", defArgs (top 57), defBody (top 57), defScope (top 57), false, false⟩
def dSumWith : DfY := ⟨fun K => He.ga K "sum_with", "sum_with", "sum_with", defArgs (top 59), defBody (top 59), defScope (top 59), false, false⟩
def dGoalWith : DfY := ⟨fun K => He.ga K "goal_with", "goal_with", "goal_with", defArgs (top 60), defBody (top 60), defScope (top 60), false, false⟩
def dTestStep : DfY := ⟨fun K => He.ga K "test_step", "test_step", "test_step", defArgs (top 61), defBody (top 61), defScope (top 61), false, false⟩
def dVoteStep : DfY := ⟨fun K => He.ga K "vote_step", "vote_step", "vote_step", defArgs (top 62), defBody (top 62), defScope (top 62), false, false⟩
def dStepOf : DfY := ⟨fun K => He.ga K "step_of", "step_of", "step_of", defArgs (top 63), defBody (top 63), defScope (top 63), false, false⟩
def dRuleInit : DfY := ⟨fun K => He.ma K (He.ga K "Rule") "__init__", "__init__", "Rule.__init__", defArgs (inClass (top 64) 0), defBody (inClass (top 64) 0), defScope (inClass (top 64) 0), false, false⟩
def dRuleRead : DfY := ⟨fun K => recG K "classmethod" (He.ma K (He.ga K "Rule") "read"), "read", "Rule.read", defArgs (inClass (top 64) 1), defBody (inClass (top 64) 1), defScope (inClass (top 64) 1), false, false⟩
def dRuleRows : DfY := ⟨fun K => recG K "property" (He.ma K (He.ga K "Rule") "rows"), "rows", "Rule.rows", defArgs (inClass (top 64) 3), defBody (inClass (top 64) 3), defScope (inClass (top 64) 3), false, false⟩
def dRuleMeters : DfY := ⟨fun K => recG K "property" (He.ma K (He.ga K "Rule") "meters"), "meters", "Rule.meters", defArgs (inClass (top 64) 4), defBody (inClass (top 64) 4), defScope (inClass (top 64) 4), false, false⟩
def dSumsIn : DfY := ⟨fun K => He.ga K "sums_in", "sums_in", "sums_in", defArgs (top 65), defBody (top 65), defScope (top 65), false, false⟩
def dCheckRule : DfY := ⟨fun K => He.ga K "check_rule", "check_rule", "check_rule", defArgs (top 66), defBody (top 66), defScope (top 66), false, false⟩
def dIsSilent : DfY := ⟨fun K => He.ga K "is_silent", "is_silent", "is_silent", defArgs (top 67), defBody (top 67), defScope (top 67), false, false⟩
def dVoteEnd : DfY := ⟨fun K => He.ga K "vote_end", "vote_end", "vote_end", defArgs (top 68), defBody (top 68), defScope (top 68), false, false⟩
def dRun : DfY := ⟨fun K => He.ga K "run", "run", "run", defArgs (top 69), defBody (top 69), defScope (top 69), false, false⟩
def dOutcome : DfY := ⟨fun K => He.ga K "outcome", "outcome", "outcome", defArgs (top 70), defBody (top 70), defScope (top 70), false, false⟩
def dLawSpring : DfY := ⟨fun K => He.ga K "_law_spring", "_law_spring", "_law_spring", defArgs (top 72), defBody (top 72), defScope (top 72), false, false⟩
def dLawTake : DfY := ⟨fun K => He.ga K "_law_take", "_law_take", "_law_take", defArgs (top 73), defBody (top 73), defScope (top 73), false, false⟩
def dLawTitles : DfY := ⟨fun K => He.ga K "_law_titles", "_law_titles", "_law_titles", defArgs (top 74), defBody (top 74), defScope (top 74), false, false⟩
def dLawPlan : DfY := ⟨fun K => He.ga K "_law_plan", "_law_plan", "_law_plan", defArgs (top 75), defBody (top 75), defScope (top 75), false, false⟩
def dLawGrid : DfY := ⟨fun K => He.ga K "_law_grid", "_law_grid", "_law_grid", defArgs (top 76), defBody (top 76), defScope (top 76), false, false⟩
def dLawPath : DfY := ⟨fun K => He.ga K "_law_path", "_law_path", "_law_path", defArgs (top 77), defBody (top 77), defScope (top 77), false, false⟩
def dLawRings : DfY := ⟨fun K => He.ga K "_law_rings", "_law_rings", "_law_rings", defArgs (top 78), defBody (top 78), defScope (top 78), false, false⟩
def dLawNumber : DfY := ⟨fun K => He.ga K "_law_number", "_law_number", "_law_number", defArgs (top 79), defBody (top 79), defScope (top 79), false, false⟩
def dLawFlow : DfY := ⟨fun K => He.ga K "_law_flow", "_law_flow", "_law_flow", defArgs (top 80), defBody (top 80), defScope (top 80), false, false⟩
def dLawTimes : DfY := ⟨fun K => He.ga K "_law_times", "_law_times", "_law_times", defArgs (top 81), defBody (top 81), defScope (top 81), false, false⟩
def dLawTotal : DfY := ⟨fun K => He.ga K "_law_total", "_law_total", "_law_total", defArgs (top 82), defBody (top 82), defScope (top 82), false, false⟩
def dLawSteps : DfY := ⟨fun K => He.ga K "_law_steps", "_law_steps", "_law_steps", defArgs (top 83), defBody (top 83), defScope (top 83), false, false⟩
def dLawPick : DfY := ⟨fun K => He.ga K "_law_pick", "_law_pick", "_law_pick", defArgs (top 84), defBody (top 84), defScope (top 84), false, false⟩
def dLawLast : DfY := ⟨fun K => He.ga K "_law_last", "_law_last", "_law_last", defArgs (top 85), defBody (top 85), defScope (top 85), false, false⟩
def dLawTold : DfY := ⟨fun K => He.ga K "_law_told", "_law_told", "_law_told", defArgs (top 86), defBody (top 86), defScope (top 86), false, false⟩
def dLawLine : DfY := ⟨fun K => He.ga K "_law_line", "_law_line", "_law_line", defArgs (top 87), defBody (top 87), defScope (top 87), false, false⟩
def dLawWorth : DfY := ⟨fun K => He.ga K "_law_worth", "_law_worth", "_law_worth", defArgs (top 88), defBody (top 88), defScope (top 88), false, false⟩
def dLawVoted : DfY := ⟨fun K => He.ga K "_law_voted", "_law_voted", "_law_voted", defArgs (top 89), defBody (top 89), defScope (top 89), false, false⟩
def dLawRun : DfY := ⟨fun K => He.ga K "_law_run", "_law_run", "_law_run", defArgs (top 90), defBody (top 90), defScope (top 90), false, false⟩
def dLawSeen : DfY := ⟨fun K => He.ga K "_law_seen", "_law_seen", "_law_seen", defArgs (top 91), defBody (top 91), defScope (top 91), false, false⟩
def dLawRight : DfY := ⟨fun K => He.ga K "_law_right", "_law_right", "_law_right", defArgs (top 92), defBody (top 92), defScope (top 92), false, false⟩
def dLaw : DfY := ⟨fun K => He.ga K "law", "law", "law", defArgs (top 93), defBody (top 93), defScope (top 93), false, false⟩
/-! ### facts -/
def xIsc (C : Str) : PySem.W.Frag → Bool := fun K => He.eqO (PySem.W.findIn K (.ref (He.ga K C)) "__class__") (some (some (.builtin "object.__class__"))) && (He.eqO (PySem.W.specialIn K (.builtin "object.__class__") "__get__") (some (some (.builtin "getset_descriptor.__get__"))) &&
  (decide (PySem.W.takesIn K (.builtin "object.__class__") = some true) && decide (PySem.W.mroIn K (He.ga K C) (.type "object") = some true)))
def xKit (A B : Str) (b : Bool) : PySem.W.Frag → Bool := fun K => decide (PySem.W.kitOne K (.ref (He.ga K A)) (.ref (He.ga K B)) = some b)
def recB (K : PySem.W.Frag) (T : String) (p : Addr) : Bool := match PySem.W.recIn K p T with
  | some (.ref _ :: _) => true
  | _ => false
theorem recB_ok {K : PySem.W.Frag} {T : String} {p : Addr} (h : recB K T p = true) : ∃ rest, PySem.W.recIn K p T = some (.ref (recG K T p) :: rest) := by
  unfold recB at h
  unfold recG
  cases e : PySem.W.recIn K p T with
  | none => rw [e] at h; cases h
  | some l =>
    rw [e] at h
    cases l with
    | nil => cases h
    | cons v r =>
      cases v with
      | ref a => exact ⟨r, rfl⟩
      | _ => cases h
def xProp (C m : Str) : PySem.W.Frag → Bool := fun K => He.eqO (PySem.W.findIn K (.ref (He.ga K C)) m) (some (some (.ref (He.ma K (He.ga K C) m)))) && (He.eqO (PySem.W.specialIn K (.ref (He.ma K (He.ga K C) m)) "__get__") (some (some (.builtin "property.__get__"))) &&
  (decide (PySem.W.takesIn K (.ref (He.ma K (He.ga K C) m)) = some true) && recB K "property" (He.ma K (He.ga K C) m)))
def clsB (K : PySem.W.Frag) (C : Addr) (m : Str) (p : Addr) : Bool := match PySem.W.findCls K (.ref C) (.type "type") m with
  | some (.get (.builtin a) (.ref x) .none (.ref D)) => decide (a = "classmethod.__get__") && (decide (x = p) && decide (D = C))
  | _ => false
theorem clsB_ok {K : PySem.W.Frag} {C : Addr} {m : Str} {p : Addr} (h : clsB K C m p = true) : PySem.W.findCls K (.ref C) (.type "type") m = some (.get (.builtin "classmethod.__get__") (.ref p) .none (.ref C)) := by
  unfold clsB at h
  split at h
  · rename_i a x D e
    obtain ⟨h1, h2⟩ := He.ba h
    obtain ⟨h3, h4⟩ := He.ba h2
    rw [e, of_decide_eq_true h1, of_decide_eq_true h3, of_decide_eq_true h4]
  · cases h
def xCm (C m : Str) : PySem.W.Frag → Bool := fun K => PySem.W.readsIn K (He.ga K C) (.type "type") && (He.eqO (PySem.W.specialIn K (.ref (He.ga K C)) "__getattribute__") (some (some (.builtin "type.__getattribute__"))) &&
  (clsB K (He.ga K C) m (He.ma K (He.ga K C) m) && (recB K "classmethod" (He.ma K (He.ga K C) m) && PySem.W.fnIn K (recG K "classmethod" (He.ma K (He.ga K C) m)))))
def NN : Names where
  fns := (["is_integer", "is_name", "check_name", "read_number", "digits_of", "check_terms", "merged", "term_text", "text_of", "read_term", "read_terms", "check_pipes", "check_meters", "line_of", "item_of", "check_net"] : List Str) ++ (["is_reading", "check_readings", "value_in", "sum_with", "goal_with", "test_step", "vote_step", "step_of", "sums_in", "check_rule", "is_silent", "vote_end", "run", "outcome", "_law_spring", "_law_take"] : List Str) ++ (["_law_titles", "_law_plan", "_law_grid", "_law_path", "_law_rings", "_law_number", "_law_flow", "_law_times", "_law_total", "_law_steps", "_law_pick", "_law_last", "_law_told", "_law_line", "_law_worth", "_law_voted"] : List Str) ++ (["_law_run", "_law_seen", "_law_right", "law"] : List Str)
  cls := ["Sum", "Pipe", "Meter", "Net", "Rule"]
  mem := ([("Sum", "__init__"), ("Sum", "read"), ("Sum", "terms"), ("Sum", "names"), ("Pipe", "__init__"), ("Pipe", "name"), ("Pipe", "start"), ("Pipe", "end"), ("Meter", "__init__"), ("Meter", "name"), ("Meter", "at"), ("Meter", "sealed"), ("Net", "__init__"), ("Net", "read"), ("Net", "meters"), ("Net", "__contains__")] : List (Str × Str)) ++ ([("Net", "__str__"), ("Rule", "__init__"), ("Rule", "read"), ("Rule", "rows"), ("Rule", "meters")] : List (Str × Str))
  defs := ([dIsInteger, dIsName, dCheckName, dReadNumber, dDigitsOf, dCheckTerms, dMerged, dTermText, dTextOf, dReadTerm, dReadTerms, dSumInit, dSumRead, dSumTerms, dSumNames, dPipeInit] : List DfY) ++ ([dPipeName, dPipeStart, dPipeEnd, dMeterInit, dMeterName, dMeterAt, dMeterSealed, dCheckPipes, dCheckMeters, dLineOf, dItemOf, dNetInit, dNetRead, dNetMeters, dNetContains, dNetStr] : List DfY) ++ ([dCheckNet, dIsReading, dCheckReadings, dValueIn, dSumWith, dGoalWith, dTestStep, dVoteStep, dStepOf, dRuleInit, dRuleRead, dRuleRows, dRuleMeters, dSumsIn, dCheckRule, dIsSilent] : List DfY) ++ ([dVoteEnd, dRun, dOutcome, dLawSpring, dLawTake, dLawTitles, dLawPlan, dLawGrid, dLawPath, dLawRings, dLawNumber, dLawFlow, dLawTimes, dLawTotal, dLawSteps, dLawPick] : List DfY) ++ ([dLawLast, dLawTold, dLawLine, dLawWorth, dLawVoted, dLawRun, dLawSeen, dLawRight, dLaw] : List DfY)
  fa := ([.free "len", .free "abs", .free "min", .free "max", .free "sum", .free "any", .free "all", .free "sorted", .free "str", .free "int", .free "bool", .free "tuple", .free "list", .free "dict", .free "zip", .free "isinstance"] : List He.Fa) ++ ([.free "divmod", .free "repr", .free "range", .free "enumerate", .int "MOST_PIPES" 12, .int "MOST_METERS" 12, .int "MOST_ROWS" 8, .int "MOST_SUMS" 10, .int "MOST_FAULTS" 3, .int "LONGEST_NAME" 8, .int "BLOCK" (10 ^ 30), .str "LETTERS" "abcdefghijklmnopqrstuvwxyz", .str "DIGITS" "0123456789", .glo "Sum", .glo "Pipe", .glo "Meter"] : List He.Fa) ++ ([.glo "Net", .glo "Rule", .glo "is_integer", .glo "is_name", .glo "check_name", .glo "read_number", .glo "digits_of", .glo "check_terms", .glo "merged", .glo "term_text", .glo "text_of", .glo "read_term", .glo "read_terms", .glo "check_pipes", .glo "check_meters", .glo "line_of"] : List He.Fa) ++ ([.glo "item_of", .glo "check_net", .glo "is_reading", .glo "check_readings", .glo "value_in", .glo "sum_with", .glo "goal_with", .glo "test_step", .glo "vote_step", .glo "step_of", .glo "sums_in", .glo "check_rule", .glo "is_silent", .glo "vote_end", .glo "run", .glo "outcome"] : List He.Fa) ++ ([.glo "_law_spring", .glo "_law_take", .glo "_law_titles", .glo "_law_plan", .glo "_law_grid", .glo "_law_path", .glo "_law_rings", .glo "_law_number", .glo "_law_flow", .glo "_law_times", .glo "_law_total", .glo "_law_steps", .glo "_law_pick", .glo "_law_last", .glo "_law_told", .glo "_law_line"] : List He.Fa) ++ ([.glo "_law_worth", .glo "_law_voted", .glo "_law_run", .glo "_law_seen", .glo "_law_right", .glo "law", .cls "Sum", .cls "Pipe", .cls "Meter", .cls "Net", .cls "Rule", .noat "Sum" "kept", .noat "Pipe" "kept", .noat "Meter" "kept", .noat "Net" "joined", .noat "Net" "fitted"] : List He.Fa) ++ ([.noat "Rule" "lines", .noat "Rule" "steps", .mkr "Sum", .mkr "Pipe", .mkr "Meter", .mkr "Net", .mkr "Rule", .meth "Net" "__contains__", .meth "Net" "__str__"] : List He.Fa)
  ex := ([xIsc "Pipe", xIsc "Meter", xIsc "Net", xIsc "Rule", xKit "Pipe" "Pipe" true, xKit "Pipe" "Meter" false, xKit "Meter" "Pipe" false, xKit "Meter" "Meter" true, xKit "Net" "Net" true, xKit "Rule" "Rule" true, xProp "Sum" "terms", xProp "Sum" "names", xProp "Pipe" "name", xProp "Pipe" "start", xProp "Pipe" "end", xProp "Meter" "name"] : List (PySem.W.Frag → Bool)) ++ ([xProp "Meter" "at", xProp "Meter" "sealed", xProp "Net" "meters", xProp "Rule" "rows", xProp "Rule" "meters", xCm "Sum" "read", xCm "Net" "read", xCm "Rule" "read"] : List (PySem.W.Frag → Bool))
  tab := fun K => He.cT K ("outcome", none)
end Rv
end

section
set_option Elab.async false
set_option linter.all false
set_option maxRecDepth 100000
set_option maxHeartbeats 0
/-! RvHr: the top's run. -/
namespace Rv
open PySem PySem.Spec PyProof.Rows L2
abbrev RR : PySem.W.OpenRow := PySem.W.OpenLaw.row PySem.Challenge.rw_ringvotes_k51_whole_outcomes
def hrLoose0 : List Str := ["_wall", "BadValue", "BadName", "InvalidName", "InvalidEnd", "InvalidFlag", "InvalidText", "InvalidNumber", "NotAMeter", "NotANet", "NotASum", "NotARule", "InvalidPipes", "InvalidMeters", "InvalidTerms", "InvalidRows", "InvalidReadings", "UnknownName", "MOST_PIPES", "MOST_METERS", "MOST_ROWS", "MOST_SUMS", "MOST_FAULTS", "LETTERS", "DIGITS", "LONGEST_NAME", "BLOCK", "is_integer", "is_name", "check_name"]
def hrLoose1 : List Str := ["read_number", "digits_of", "check_terms", "merged", "scaled", "term_text", "text_of", "read_term", "read_terms", "Sum", "check_sum", "check_factor", "Pipe", "Meter", "check_pipes", "check_meters", "line_of", "item_of", "Net", "check_net", "is_reading", "check_readings", "value_in", "sum_with", "goal_with", "test_step", "vote_step", "step_of", "Rule", "sums_in"]
def hrLoose2 : List Str := ["check_rule", "is_silent", "vote_end", "run", "outcome", "_law_spring", "_law_take", "_law_titles", "_law_plan", "_law_grid", "_law_path", "_law_rings", "_law_number", "_law_flow", "_law_times", "_law_total", "_law_steps", "_law_pick", "_law_last", "_law_told", "_law_line", "_law_worth", "_law_voted", "_law_run", "_law_seen", "_law_right"]
def hrLoose : List Str := hrLoose0 ++ hrLoose1 ++ hrLoose2
noncomputable abbrev hrEnd (w : World) (os : OsState) : Option PySem.W.SharedT := HandSHeadRun.endF (HandSHeadRun.stepQ (HandSHeadRun.denQ HandSHeadRun.tabQ) RR.prog w) 12000 RR.prog w os
theorem hrLook (w : World) (os : OsState) : (hrEnd w os).map (fun s => (HandSHeadRun.looksF RR.prog (PySem.W.boot_heap w.params) s.abs, HandSHeadRun.seenQ (PySem.W.view RR.prog [93]) hrLoose (importedModules RR.prog.main.body) (fun s => PySem.W.xlAt (PySem.W.view RR.prog [93]) [] s && PySem.W.recOk RR.toRowW.records s) s.abs)) = some (true, PySem.W.openGood (PySem.W.view RR.prog [93]) hrLoose) := by
  kernel_rfl
theorem hrHook (w : World) (os : OsState) : (hrEnd w os).map (fun s => obsY NN (HandSHeadRun.getT s)) = some (valY NN) := by
  kernel_rfl
/-- the run's equation, of the two halves -/
theorem hrRun (w : World) : HandSHeadRun.RunEq RR (PySem.W.view RR.prog [93]) (hookY NN) (fun s => obsY NN (HandSHeadRun.getT s)) 12000 hrLoose w := by
  intro os
  obtain ⟨s, hs, h1⟩ := Option.map_eq_some_iff.mp (hrLook w os)
  obtain ⟨s2, hs2, h2⟩ := Option.map_eq_some_iff.mp (hrHook w os)
  have es : s2 = s := Option.some.inj (hs2.symm.trans hs)
  rw [es] at h2
  obtain ⟨a1, a2⟩ := Prod.mk.inj h1
  refine Option.map_eq_some_iff.mpr ⟨s, hs, ?_⟩
  exact Prod.ext a1 (Prod.ext a2 h2)
end Rv
end

section
set_option Elab.async false
set_option linter.all false
set_option maxRecDepth 100000
set_option maxHeartbeats 4000000
/-! RvN: texts as lists of signs; names. -/
namespace Rv
open PySem L2
abbrev S := SX.S
abbrev Tt := List Nat
abbrev rS : Rl Tt := rC fun l => V.str (S l)
def isL (c : Nat) : Bool := 97 ≤ c && c ≤ 122
def isD (c : Nat) : Bool := 48 ≤ c && c ≤ 57
def okN (l : Tt) : Bool := match l with
  | [] => false
  | c :: r => isL c && r.all (fun d => isL d || isD d) && decide (r.length ≤ 7)
theorem letters_tl : (("abcdefghijklmnopqrstuvwxyz" : Str)).cps.toList = (List.range 26).map (· + 97) := by decide +kernel
theorem digits_tl : (("0123456789" : Str)).cps.toList = (List.range 10).map (· + 48) := by decide +kernel
theorem in_letters (c : Nat) : decide (c ∈ (("abcdefghijklmnopqrstuvwxyz" : Str)).cps.toList) = isL c := by
  rw [letters_tl]
  apply Bool.eq_iff_iff.mpr
  simp only [decide_eq_true_eq, List.mem_map, List.mem_range, isL, Bool.and_eq_true]
  constructor
  · rintro ⟨a, h, rfl⟩; omega
  · rintro ⟨h1, h2⟩; exact ⟨c - 97, by omega, by omega⟩
theorem in_digits (c : Nat) : decide (c ∈ (("0123456789" : Str)).cps.toList) = isD c := by
  rw [digits_tl]
  apply Bool.eq_iff_iff.mpr
  simp only [decide_eq_true_eq, List.mem_map, List.mem_range, isD, Bool.and_eq_true]
  constructor
  · rintro ⟨a, h, rfl⟩; omega
  · rintro ⟨h1, h2⟩; exact ⟨c - 48, by omega, by omega⟩
theorem okN_len {l : Tt} (h : okN l = true) : 1 ≤ l.length ∧ l.length ≤ 8 := by
  cases l with
  | nil => simp [okN] at h
  | cons c r => simp [okN] at h; simp; omega
theorem okN_head {c : Nat} {r : Tt} (h : okN (c :: r) = true) : isL c = true := by simp [okN] at h; exact h.1.1
theorem okN_all {l : Tt} (h : okN l = true) : ∀ c ∈ l, isL c = true ∨ isD c = true := by
  cases l with
  | nil => intro c hc; cases hc
  | cons c r =>
    simp [okN] at h
    intro d hd
    rcases List.mem_cons.mp hd with e | e
    · rw [e]; exact .inl h.1.1
    · exact h.1.2 d e
theorem okN_range {l : Tt} (h : okN l = true) : ∀ c ∈ l, 48 ≤ c ∧ c ≤ 122 ∧ (c ≤ 57 ∨ 97 ≤ c) := fun c hc => by
  rcases okN_all h c hc with q | q <;> simp [isL, isD] at q <;> omega
/-- no sign outside of names' signs stands in a name -/
theorem okN_free {l : Tt} (h : okN l = true) {c : Nat} (hc : c < 48 ∨ 122 < c ∨ (57 < c ∧ c < 97)) : c ∉ l := fun hm => by
  have := okN_range h c hm
  omega
theorem S_length (l : Tt) : (S l).length = l.length := SX.S_len l
theorem sz {n : Nat} (h : n ≤ 100000) : n ≤ sizeLine := Nat.le_trans h (by decide)
theorem szlt {n : Nat} (h : n < 100000) : n < sizeLine := Nat.lt_of_lt_of_le h (by decide)
theorem S_cps (l : Tt) : (S l).cps.toList = l := rfl
theorem lit {s : String} {l : Tt} (h : (Str.ofString s).cps.toList = l) : Str.ofString s = S l := TL.ext_tl h
theorem lit_e : Str.ofString "" = S [] := lit (by decide +kernel)
theorem lit_0 : Str.ofString "0" = S [48] := lit (by decide +kernel)
theorem lit_star : Str.ofString "*" = S [42] := lit (by decide +kernel)
theorem lit_minus : Str.ofString "-" = S [45] := lit (by decide +kernel)
theorem lit_plus : Str.ofString "+" = S [43] := lit (by decide +kernel)
theorem lit_sp : Str.ofString " " = S [32] := lit (by decide +kernel)
theorem lit_ms : Str.ofString "- " = S [45, 32] := lit (by decide +kernel)
theorem lit_ps : Str.ofString "+ " = S [43, 32] := lit (by decide +kernel)
theorem lit_dig : Str.ofString "0123456789" = S [48, 49, 50, 51, 52, 53, 54, 55, 56, 57] := lit (by decide +kernel)
theorem eqS (a b : Tt) : decide (V.str (S a) = V.str (S b)) = decide (a = b) := by
  by_cases e : a = b
  · subst e; simp
  · rw [decide_eq_false e, decide_eq_false fun q => e (SX.S_inj (V.str.inj q))]
theorem emp : Str.empty = S [] := rfl
theorem sig (c : Nat) : (⟨#[c]⟩ : Str) = S [c] := rfl
theorem at0 {α : Type} {xs : List α} {v : α} (j : Nat) {z : Int} (e : z = (j : Int)) (h : xs[j]? = some v) : atI xs z = some v := by rw [e]; exact atI_nat h
theorem S_get (l : Tt) (i : Nat) : (S l).cps[i]? = l[i]? := by simp [S, SX.S]
theorem S_size (l : Tt) : (S l).cps.size = l.length := by simp [S, SX.S]
/-- a comprehension over the signs of a text, each gives one -/
theorem lc_str {A : Amb} {F H : Hp} {g : TG} {te : TE} {vs : List Nat} {σ : L2.St} {β : Type} {r : Rl β} {Q : VK} (f : Nat → β) {l : Tt} [MonoR r] (Z : Fz A F H) (hl : l.length ≤ 50000)
    (hs : ∀ (i c : Nat) (F1 H1 : Hp) (K1 : VK), l[i]? = some c → Gr A F H F1 H1 → (∀ F' H' y, Gr A F1 H1 F' H' → r F' y (f c) → K1 y H') →
      g (.str ⟨#[c]⟩) (wipe σ vs) H1 fun σ2 H3 => wipe σ2 vs = wipe σ vs ∧ te σ2 H3 K1)
    (k : ∀ F' H' p, Gr A F H F' H' → rLst r F' (.ref p) (l.map f) → Q (.ref p) H') : LcG (Its (S l)) g tYes te vs σ H Q := by
  refine lc_any (r := r) walk_str Z (fun i => (l.take i).map f) rfl (fun i hi => ?_) (fun _ _ _ => trivial) ?_ ?_
  · rw [S_size] at hi
    rw [List.length_map, List.length_take]; omega
  · rintro i x F1 H1 H2 K1 K0 hi G1 ⟨rfl, c, hc, rfl⟩ hk _
    rw [S_get] at hc
    exact hs i c F1 _ K1 hc G1 (fun F' H' y g' hb => hk F' H' y (f c) (by rw [take_snoc hc, List.map_append]; rfl) g' hb)
  · intro F' H' p G' hr
    rw [S_size, List.take_of_length_le (Nat.le_refl _)] at hr
    exact k F' H' p G' hr
end Rv
end

section
set_option Elab.async false
set_option linter.all false
set_option maxRecDepth 100000
set_option maxHeartbeats 4000000
/-! RvE: enumerate of a tuple. -/
namespace PySem
open Sem (wp)
set_option maxHeartbeats 4000000 in
theorem rv_enumerate_new1 {v : Value} {o : Obj} {H : Heap → Prop} (B : Begins v o H) :
    Meets (Builtin.«enumerate.__new__» ⟨[.type "enumerate", v], []⟩) (fun _ R s => H s.heap ∧
      R (.ok (.ret (.ref (s.heap.push o).objs.size))) { s with heap := (s.heap.push o).push { cls := .type "enumerate", data := .fields #[.none, .bool false, .ref s.heap.objs.size, rawInt 0, .none, .none] } }) :=
  .of_wp fun prog w A R s h => by
    obtain ⟨hp, g, d, tk, os⟩ := s; obtain ⟨h1, h⟩ := h
    have hsub := sub_enumerate
    have q1 : ∀ {A' : Around} {E : Value → Shared → Prop} {Q : Value → Shared → Prop}, Q (.ref hp.objs.size) ⟨hp.push o, g, d, tk, os⟩ → wpAny (model prog w) A' (pyIter v) Q E ⟨hp, g, d, tk, os⟩ :=
      fun q => B.iter prog w _ _ ⟨hp, g, d, tk, os⟩ _ h1 q
    wp_walk using q1
    refine wpAny_stack_any fun st => wpAny_pure ?_
    split
    · rename_i c _ _ _ _ _
      cases (c == Value.type "enumerate")
      · wp_walk using q1
        exact ⟨_, rfl, h⟩
      · wp_walk using q1
        exact ⟨_, rfl, h⟩
    · wp_walk using q1
      exact ⟨_, rfl, h⟩
theorem rv_enum_begins1 {prog : Program} {w : World} {A : Around} {E : Value → Shared → Prop} {s : Shared} {v : Value} {o : Obj} {H : Heap → Prop} {Q : Value → Shared → Prop} (B : Begins v o H) (h1 : H s.heap)
    (h : ∀ h', IsEnum h' (s.heap.objs.size + 1) s.heap.objs.size 0 .none → h'.get? s.heap.objs.size = some o → h'.objs.size = s.heap.objs.size + 2 →
      (∀ b o, s.heap.get? b = some o → h'.get? b = some o) → Q (.ref (s.heap.objs.size + 1)) { s with heap := h' }) :
    wpAny (model prog w) A (call (.type "enumerate") [v]) Q E s := by
  refine callType_new F.called_enumerate (by decide) (F.typeCall_enumerate_1 _) (F.newCall_enumerate_1 _) (fun obj => F.args_object_init_2 obj _) F.entry_enumerate_new
    (rv_enumerate_new1 B) ⟨h1, ?_⟩
  have hz : (s.heap.push o).objs.size = s.heap.objs.size + 1 := Heap.size_push ..
  show _ ∧ _
  rw [hz]
  have he : IsEnum ((s.heap.push o).push { cls := .type "enumerate", data := .fields #[.none, .bool false, .ref s.heap.objs.size, rawInt 0, .none, .none] }) (s.heap.objs.size + 1) s.heap.objs.size 0 .none := by
    have := Heap.get?_push_size (s.heap.push o) (o := { cls := .type "enumerate", data := .fields #[.none, .bool false, .ref s.heap.objs.size, rawInt 0, .none, .none] }) rfl
    rw [hz] at this; exact this
  refine ⟨⟨_, he, rfl⟩, h _ he (Heap.get?_push_of_some _ (Heap.get?_push_size _ B.free)) (by rw [Heap.size_push, hz]) fun b o x => Heap.get?_push_of_some _ (Heap.get?_push_of_some _ x)⟩
end PySem
namespace Rv
open PySem PySem.Spec PyProof.Rows L2
/-- the tuple at a as it stands at each turn, in new pairs with the count -/
def IteT (K : PySem.W.Frag) (a : Addr) : It :=
  ⟨fun i H => ∃ (xs : List V) (x : V), SqT K H a xs ∧ xs[i]? = some x, fun i H v H' => ∃ T x, v = .ref T ∧ H T = none ∧ H' = upd H T (.tup [.int (i : Nat), x]) ∧ ∀ xs, SqT K H a xs → xs[i]? = some x, fun i H => ∃ xs : List V, SqT K H a xs ∧ xs.length ≤ i⟩
theorem turn_enumT {P : Program} {w : World} {K : PySem.W.Frag} {elts : List Expr} {kk : Nat} {tpos : Pos} (a e it : Addr) :
    Turn P w K (.Tuple elts kk tpos) (IteT K a) [e, it] e (fun i h => (∃ old, IsEnum h e it ((i : Nat) : Int) old) ∧ h.IsTupleIter it a i ∧ e ≠ it ∧ a ≠ it ∧ e ≠ a) where
  mem := by simp
  obj := fun i h st b hb => by
    obtain ⟨⟨old, he⟩, ⟨o, ho, hc, hd⟩, _⟩ := st
    have e' : b = e ∨ b = it := by simpa using hb
    rcases e' with z | z
    · rw [z]; exact ⟨_, he, fun v q => nomatch q⟩
    · rw [z]; exact ⟨o, ho, fun v q => by rw [hd] at q; cases q⟩
  keep := fun i h h' st k => let ⟨⟨old, he⟩, hi, hne⟩ := st; ⟨⟨old, k e (by simp) _ he⟩, hi.at fun o q => k it (by simp) o q, hne⟩
  item := by
    intro X hP hw hK hc i pins s σ H E I hf st hg
    subst hP hw hK
    obtain ⟨⟨old, he⟩, hit, hne, hai, hea⟩ := st
    obtain ⟨xs, x, hq, hx⟩ := hg
    obtain ⟨its, rv, p, hz⟩ := I.tuple hq
    obtain ⟨u, hu, ru⟩ := rv.get hx
    have hel : e < s.heap.objs.size := Heap.lt_size he
    have hil : it < s.heap.objs.size := by obtain ⟨_, q, _⟩ := hit; exact Heap.lt_size q
    have hh : X.A.handled = none := I.ok.hd hc
    have hi : i < its.toArray.size := by
      have q := (List.getElem?_eq_some_iff.mp hu).1
      simpa using q
    refine wpAny_pyNext_enum_itemD (Draws.tuple (prog := X.prog) (w := X.w) (A := X.A.in1) hh it a hai its.toArray) he ⟨hit, p⟩ hi hne (by simp; exact ⟨hne, hea⟩) fun x' h' tk hx' ho hit' hT hsz hk => ?_
    have ex : x' = u := by
      rw [show its.toArray[i]? = its[i]? by simp, hu] at hx'
      exact (Option.some.inj hx').symm
    subst ex
    refine ⟨_, rfl, wpAny_letOwnedTupleGo_enum (s := { s with heap := h', toks := tk + 1 }) ho fun h'' he' sb => ?_⟩
    have hT2 : h''.get? s.heap.objs.size = some { cls := .type "tuple", data := .seq #[.int i tk, x'] } := (sb.2 _ (Nat.ne_of_gt hel)).trans hT
    have new : ObjOk X.prog X.w (upd H s.heap.objs.size (.tup [.int (i : Nat), x])) h'' s.heap.objs.size (.tup [.int (i : Nat), x]) :=
      ⟨by show 2 ≤ sizeLine; decide, [.int i tk, x'], .cons ⟨_, rfl⟩ (.cons ru .nil), ⟨_, hT2, rfl, _, rfl⟩⟩
    have I1 : Inv X pins σ (upd H s.heap.objs.size (.tup [.int (i : Nat), x])) { s with heap := h'', toks := tk + 1 } :=
      I.turnedNew (ch := [e, it]) (fun b ob hb q => (sb.2 b (fun z => hb (by simp [z]))).trans (hk b ob (fun z => hb (by simp [z])) (fun z => hb (by simp [z])) q)) hf (Nat.le_refl _) new
    refine ⟨.ref s.heap.objs.size, _, I1, rfl, ⟨_, x, rfl, I.hok.fresh (Nat.le_refl _), rfl, fun ys hy => by rw [I.tuple_inj hy hq]; exact hx⟩, ⟨⟨x', ?_⟩, hit'.1.at fun o q => (sb.2 it (Ne.symm hne)).trans q, hne, hai, hea⟩, fun b hb => ?_⟩
    · have e1 : ((i + 1 : Nat) : Int) = (i : Int) + 1 := by omega
      rw [e1]; exact he'
    · have hb' : b < s.heap.objs.size := by
        have e' : b = e ∨ b = it := by simpa using hb
        rcases e' with z | z
        · rw [z]; exact hel
        · rw [z]; exact hil
      rw [upd_ne (Nat.ne_of_lt hb')]
      exact (hf b hb).1
  done := by
    intro X hP hw hK hc i pins s σ H E I hf st hg
    subst hP hw hK
    obtain ⟨⟨old, he⟩, hit, hne, hai, hea⟩ := st
    obtain ⟨xs, hq, hx⟩ := hg
    obtain ⟨its, rv, p, hz⟩ := I.tuple hq
    obtain ⟨f0, f1, f2, f3, f4, f5⟩ := hf it (by simp)
    have hl := rv.length
    have hh : X.A.in1.handled = none := I.ok.hd hc
    have hT : s.TypeIs (.ref e) "enumerate" := ⟨_, he, rfl⟩
    have D : Draws X.prog X.w X.A.in1 it [it, a] i (fun j v => its.toArray[j]? = some v ∧ False) (fun j h => j = i ∧ h.IsTupleIter it a i ∧ h.IsTuple a its.toArray) := by
      refine ⟨fun _ _ st => let ⟨_, ⟨o, ho, _⟩, _⟩ := st; ⟨o, ho⟩, fun _ _ _ st hk => ⟨st.1, st.2.1.at fun o e => hk it (by simp) o e, st.2.2.at fun o e => hk a (by simp) o e⟩, fun j s Q E hj st _ => absurd hj (by rw [st.1]; exact Nat.lt_irrefl _), fun s Q E st hE => ?_⟩
      exact wpAny_nextOf_tuple_end hh st.2.1 st.2.2 (by simp; omega) hE
    exact wpAny_pyNext_enum_endD D he ⟨rfl, hit, p⟩ fun h' eb => ⟨rfl, I.turned (t' := s.toks) (fun b o hb q => eb b o hb q) f0 f1 f3 f4 f5⟩
  self := fun A i s Q E st h => let ⟨⟨_, he⟩, _⟩ := st; wpAny_pyIter_enum he h
def iEnumT (K : PySem.W.Frag) (ta : TA) : TI := fun σ H R => ta σ H fun vs H1 => ∃ a xs, vs = [.ref a] ∧ SqT K H1 a xs ∧ R (IteT K a) H1
theorem pi_enumT {X : Cx} {e : Expr} {ta : TA} {p pos tpos : Pos} {elts : List Expr} {kk : Nat} (hg : Gl X "enumerate") (hm : X.mg "enumerate" = none) (ha : PA X [e] ta) (hs : starEach [e] X.env = [(false, eval e X.env)] := by rfl) :
    PI X (.Tuple elts kk tpos) (.Call (.Name "enumerate" p) [e] [] pos) (iEnumT X.K ta) := by
  refine ⟨fun pins s σ H R I h => ?_⟩
  refine Call_ (ld_blt I hg hm boot_enumerate (PyProof.Rows.callWith_type1 (thn (ha.run pos pins s σ H _ I h) fun us s1 ⟨vs, H1, I1, r1, q1⟩ => ?_) hs rfl))
  obtain ⟨a, xs, ex, hq, q⟩ := q1
  subst ex
  cases r1 with
  | cons r rr =>
    cases rr
    cases r
    obtain ⟨its, rv, p', hz⟩ := I1.tuple hq
    have hal : a < s1.heap.objs.size := p'.lt
    refine rv_enum_begins1 (begins_tuple a its.toArray) p' fun h' he hit hsz hk => wpAny_pyIter_enum he ?_
    have I2 : Inv X pins σ H1 { s1 with heap := h' } := I1.kept (t' := s1.toks) hk
    refine ⟨s1.heap.objs.size + 1, [s1.heap.objs.size + 1, s1.heap.objs.size], _, _, H1, rfl, I2, turn_enumT a (s1.heap.objs.size + 1) s1.heap.objs.size, ⟨⟨.none, he⟩, ⟨_, hit, rfl, rfl⟩, Nat.succ_ne_self _, Nat.ne_of_lt hal, Nat.ne_of_gt (Nat.lt_succ_of_lt hal)⟩, fun b hb => ?_, q⟩
    have e' : b = s1.heap.objs.size + 1 ∨ b = s1.heap.objs.size := by simpa using hb
    have hle : s1.heap.objs.size ≤ b := by
      rcases e' with z | z
      · rw [z]; exact Nat.le_add_right _ _
      · rw [z]; exact Nat.le_refl _
    exact I1.fpOk hle (I1.hok.fresh hle)
theorem walk_enumT {K : PySem.W.Frag} {a : Addr} {xs : List V} : Walk (IteT K a) xs.length (fun H => SqT K H a xs) (YPair (fun i => some (.int (i : Nat))) (fun i => xs[i]?)) := by
  refine ⟨fun i _ hi q => ⟨xs, xs[i], q, by simp [hi]⟩, fun _ q => ⟨xs, q, Nat.le_refl _⟩, fun i H v H' _ q y => ?_⟩
  obtain ⟨T, x, h1, h2, h3, h4⟩ := y
  exact ⟨T, .int (i : Nat), x, h1, h2, h3, rfl, h4 xs q⟩
end Rv
end

section
set_option Elab.async false
set_option linter.all false
set_option maxRecDepth 100000
set_option maxHeartbeats 4000000
/-! RvC: further rules. -/
namespace Rv
open PySem L2 PyProof.Rows PySem.Spec
/-- a list or a tuple, walked -/
def iSeq (K : PySem.W.Frag) (tl : TE) : TI := fun σ H R => tl σ H fun x H1 => ∃ a, x = .ref a ∧ (((∃ xs, SqL K H1 a xs) ∧ R (Itl K a) H1) ∨ ((∃ xs, SqT K H1 a xs) ∧ R (Itt K a) H1))
theorem pi_seq {X : Cx} {tg l : Expr} {tl : TE} (hl : PE X l tl) : PI X tg l (iSeq X.K tl) := by
  refine ⟨fun pins s σ H R I h => ?_⟩
  refine thn (hl.run pins s σ H _ I h) fun v s1 ⟨x, H1, I1, r1, q1⟩ => ?_
  obtain ⟨a, e, q1⟩ := q1
  subst e
  cases r1
  rcases q1 with ⟨⟨xs, hq⟩, q⟩ | ⟨⟨xs, hq⟩, q⟩
  · obtain ⟨its, rv, p, hz⟩ := I1.list hq
    refine wpAny_pyIter_list p.isList ?_
    refine ⟨s1.heap.objs.size, [s1.heap.objs.size], _, _, H1, rfl, I1.kept (t' := s1.toks) fun b o e => Heap.get?_push_of_some _ e, turn_list a _, ⟨_, Heap.get?_push_size _ rfl, rfl, rfl⟩, fun b hb => ?_, q⟩
    have e : b = s1.heap.objs.size := by simpa using hb
    subst e
    exact I1.fpOk (Nat.le_refl _) (I1.hok.fresh (Nat.le_refl _))
  · obtain ⟨its, rv, p, hz⟩ := I1.tuple hq
    refine wpAny_pyIter_tuple (show s1.heap.IsTuple a its.toArray from p) ?_
    refine ⟨s1.heap.objs.size, [s1.heap.objs.size], _, _, H1, rfl, I1.kept (t' := s1.toks) fun b o e => Heap.get?_push_of_some _ e, turn_tuple a _, ⟨_, Heap.get?_push_size _ rfl, rfl, rfl⟩, fun b hb => ?_, q⟩
    have e : b = s1.heap.objs.size := by simpa using hb
    subst e
    exact I1.fpOk (Nat.le_refl _) (I1.hok.fresh (Nat.le_refl _))
theorem seq_both {A : Amb} {F H H1 : Hp} {K : PySem.W.Frag} {p : Addr} {xs : List V} {R : It → Hp → Prop} (Z : Fz A F H) (G : Gr A F H F H1) (h : F p = some (.lst xs) ∨ F p = some (.tup xs))
    (k : ∀ (J : It) (Gd : Hp → Prop), Walk J xs.length Gd (YAt xs) → (∀ F' H', Gr A F H F' H' → Gd H') → R J H1) : ((∃ xs, SqL K H1 p xs) ∧ R (Itl K p) H1) ∨ ((∃ xs, SqT K H1 p xs) ∧ R (Itt K p) H1) := by
  rcases h with h | h
  · exact .inl ⟨⟨xs, G.fz.L h⟩, k _ _ walk_list fun F' H' g => g.fz.L (g.ff _ _ h)⟩
  · exact .inr ⟨⟨xs, G.fz.T h⟩, k _ _ walk_tup fun F' H' g => g.fz.T (g.ff _ _ h)⟩
theorem pi_listK {X : Cx} {tg l : Expr} {tl : TE} (K : PySem.W.Frag) (hK : X.K = K) (hl : PE X l tl) : PI X tg l (iList K tl) := by
  subst hK
  exact pi_list hl
theorem pi_tupK {X : Cx} {tg l : Expr} {tl : TE} (K : PySem.W.Frag) (hK : X.K = K) (hl : PE X l tl) : PI X tg l (iTup K tl) := by
  subst hK
  exact pi_tup hl
end Rv
end

section
set_option Elab.async false
set_option linter.all false
set_option maxRecDepth 100000
set_option maxHeartbeats 4000000
/-! RvM1: sums of meters and their texts, plain. -/
namespace Rv
open PySem L2
abbrev Tm := List (Tt × Int)
def bodyT (p : Tt × Int) : Tt := if p.2.natAbs = 1 then p.1 else TL.numL p.2.natAbs ++ 42 :: p.1
def sgnT (p : Tt × Int) : Nat := if p.2 < 0 then 45 else 43
def tailT (t : Tm) : Tt := t.flatMap fun p => 32 :: sgnT p :: 32 :: bodyT p
def told : Tm → Tt
  | [] => [48]
  | p :: r => (if p.2 < 0 then [45] else []) ++ bodyT p ++ tailT r
structure OkP (p : Tt × Int) : Prop where
  nm : okN p.1 = true
  nz : p.2 ≠ 0
  bd : p.2.natAbs < 10000000
structure OkT (t : Tm) : Prop where
  ok : ∀ p ∈ t, OkP p
  up : t.Pairwise (fun p q => p.1 < q.1)
  ln : t.length ≤ 10
theorem OkT.tail {p : Tt × Int} {r : Tm} (h : OkT (p :: r)) : OkT r := ⟨fun q hq => h.ok q (List.mem_cons_of_mem _ hq), (List.pairwise_cons.mp h.up).2, by have := h.ln; simp at this; omega⟩
theorem OkT.take {t : Tm} (h : OkT t) (i : Nat) : OkT (t.take i) := ⟨fun q hq => h.ok q (List.mem_of_mem_take hq), h.up.sublist (List.take_sublist _ _), Nat.le_trans (by rw [List.length_take]; omega) h.ln⟩
theorem numL_ok (n : Nat) : ∀ c ∈ TL.numL n, 48 ≤ c ∧ c ≤ 57 := fun c hc => by
  by_cases h1 : c < 48
  · exact absurd hc (TL.numL_free (.inl h1))
  by_cases h2 : 57 < c
  · exact absurd hc (TL.numL_free (.inr h2))
  omega
theorem numL_le {n : Nat} (h : n < 10000000) : (TL.numL n).length ≤ 7 := TL.numL_len (by decide) h
theorem numL_pos (n : Nat) : 1 ≤ (TL.numL n).length := by
  cases e : TL.numL n with
  | nil => exact absurd e (TL.numL_ne n)
  | cons a b => simp
/-- the signs that a term's text is of -/
theorem bodyT_range {p : Tt × Int} (h : OkP p) : ∀ c ∈ bodyT p, 42 ≤ c ∧ c ≤ 122 ∧ c ≠ 43 ∧ c ≠ 45 ∧ c ≠ 44 ∧ c ≠ 58 ∧ c ≠ 61 := fun c hc => by
  unfold bodyT at hc
  split at hc
  · have := okN_range h.nm c hc; omega
  · rcases List.mem_append.mp hc with q | q
    · have := numL_ok _ c q; omega
    · rcases List.mem_cons.mp q with q | q
      · omega
      · have := okN_range h.nm c q; omega
theorem bodyT_len {p : Tt × Int} (h : OkP p) : 1 ≤ (bodyT p).length ∧ (bodyT p).length ≤ 16 := by
  unfold bodyT
  have := okN_len h.nm
  split
  · omega
  · rw [List.length_append, List.length_cons]
    have := numL_le h.bd
    omega
theorem no32 {p : Tt × Int} (h : OkP p) : (32 : Nat) ∉ bodyT p := fun hm => by have := bodyT_range h 32 hm; omega
theorem tailT_cons (p : Tt × Int) (r : Tm) : tailT (p :: r) = 32 :: sgnT p :: 32 :: (bodyT p ++ tailT r) := by simp [tailT]
theorem tailT_len : ∀ {t : Tm}, (∀ p ∈ t, OkP p) → (tailT t).length ≤ 19 * t.length
  | [], _ => by simp [tailT]
  | p :: r, h => by
    have := bodyT_len (h p (List.mem_cons_self ..))
    have := tailT_len (t := r) fun q hq => h q (List.mem_cons_of_mem _ hq)
    rw [tailT_cons]
    simp only [List.length_cons, List.length_append]
    omega
theorem told_len {t : Tm} (h : OkT t) : 1 ≤ (told t).length ∧ (told t).length ≤ 200 := by
  cases t with
  | nil => simp [told]
  | cons p r =>
    have b := bodyT_len (h.ok p (List.mem_cons_self ..))
    have := tailT_len (t := r) fun q hq => h.ok q (List.mem_cons_of_mem _ hq)
    have := h.ln
    simp only [told, List.length_append, List.length_cons] at *
    split <;> simp <;> omega
/-- the line behind the sum's text, and its words -/
def lineT (p : Tt × Int) (r : Tm) : Tt := sgnT p :: 32 :: (bodyT p ++ tailT r)
def wordsT (t : Tm) : List Tt := t.flatMap fun p => [[sgnT p], bodyT p]
theorem join_words : ∀ (p : Tt × Int) (r : Tm), TL.joinL [32] (wordsT (p :: r)) = lineT p r
  | p, [] => by simp [wordsT, TL.joinL, lineT, tailT]
  | p, q :: r => by
    have ih := join_words q r
    have e : wordsT (p :: q :: r) = [sgnT p] :: bodyT p :: wordsT (q :: r) := by simp [wordsT]
    have e2 : wordsT (q :: r) = [sgnT q] :: bodyT q :: wordsT r := by simp [wordsT]
    rw [e, e2]
    show [sgnT p] ++ ([32] ++ (bodyT p ++ ([32] ++ TL.joinL [32] ([sgnT q] :: bodyT q :: wordsT r)))) = _
    rw [← e2, ih]
    simp [lineT, tailT_cons]
theorem words_no32 {t : Tm} (h : ∀ p ∈ t, OkP p) : ∀ x ∈ wordsT t, (32 : Nat) ∉ x := fun x hx => by
  obtain ⟨p, hp, hx⟩ := List.mem_flatMap.mp hx
  rcases List.mem_cons.mp hx with e | hx
  · rw [e]; unfold sgnT; split <;> simp
  · rw [List.mem_singleton.mp hx]; exact no32 (h p hp)
theorem words_len (t : Tm) : (wordsT t).length = 2 * t.length := by
  induction t with
  | nil => rfl
  | cons p r ih => simp [wordsT] at *; omega
theorem words_get : ∀ {t : Tm} {i : Nat} {p : Tt × Int}, t[i]? = some p → (wordsT t)[2 * i]? = some [sgnT p] ∧ (wordsT t)[2 * i + 1]? = some (bodyT p)
  | [], _, _, h => by simp at h
  | q :: r, 0, p, h => by simp at h; subst h; simp [wordsT]
  | q :: r, i + 1, p, h => by
    have ih := words_get (t := r) (i := i) (p := p) (by simpa using h)
    have e : wordsT (q :: r) = [sgnT q] :: bodyT q :: wordsT r := by simp [wordsT]
    rw [e]
    have e1 : 2 * (i + 1) = 2 * i + 1 + 1 := by omega
    have e2 : 2 * (i + 1) + 1 = (2 * i + 1) + 1 + 1 := by omega
    rw [e2, e1]
    simpa using ih
theorem split_line {p : Tt × Int} {r : Tm} (h : OkT (p :: r)) : Txt.split (S (lineT p r)) (S [32]) = (wordsT (p :: r)).map S := by
  rw [SX.split_S (by simp) (by decide), ← join_words, SX.spl_join (by simp [wordsT]) (words_no32 h.ok)]
/-- the parts of the program's own text -/
def partT (p : Tt × Int) : Tt := sgnT p :: 32 :: bodyT p
theorem join_parts : ∀ (p : Tt × Int) (r : Tm), TL.joinL [32] ((p :: r).map partT) = lineT p r
  | p, [] => by simp [TL.joinL, lineT, tailT, partT]
  | p, q :: r => by
    have ih := join_parts q r
    show partT p ++ ([32] ++ TL.joinL [32] ((q :: r).map partT)) = _
    rw [ih]
    simp [lineT, tailT_cons, partT]
theorem told_cons (p : Tt × Int) (r : Tm) : told (p :: r) = if p.2 < 0 then 45 :: (lineT p r).drop 2 else (lineT p r).drop 2 := by
  simp only [told, lineT]
  split <;> simp
/-- the text of a sum that is not empty begins with - or with a sign of a term; it is not 0 -/
theorem told_head {p : Tt × Int} {r : Tm} (h : OkT (p :: r)) (hp : ¬ p.2 < 0) : ∃ c l, told (p :: r) = c :: l ∧ c ≠ 45 := by
  have b := bodyT_len (h.ok p (List.mem_cons_self ..))
  have g := bodyT_range (h.ok p (List.mem_cons_self ..))
  simp only [told, if_neg hp, List.nil_append]
  cases e : bodyT p with
  | nil => rw [e] at b; simp at b
  | cons c l =>
    refine ⟨c, l ++ tailT r, rfl, ?_⟩
    have := g c (by rw [e]; simp)
    omega
theorem body_ne0 {p : Tt × Int} (h : OkP p) : bodyT p ≠ [48] := fun e => by
  unfold bodyT at e
  split at e
  · have q := h.nm
    rw [e] at q
    exact absurd q (by decide)
  · have l := congrArg List.length e
    rw [List.length_append, List.length_cons] at l
    have := numL_pos p.2.natAbs
    have := okN_len h.nm
    simp at l
    omega
theorem told_ne0 {p : Tt × Int} {r : Tm} (h : OkT (p :: r)) : told (p :: r) ≠ [48] := fun e => by
  have b := h.ok p (List.mem_cons_self ..)
  simp only [told] at e
  split at e
  · simp at e
  · cases r with
    | nil => simp [tailT] at e; exact body_ne0 b e
    | cons q r =>
      have l := congrArg List.length e
      have := (bodyT_len b).1
      rw [tailT_cons] at l
      simp at l
      omega
/-! ### a term's text read -/
theorem part_body {p : Tt × Int} (h : OkP p) : Txt.partition (S (bodyT p)) (S [42]) = if p.2.natAbs = 1 then (S p.1, S [], S []) else (S (TL.numL p.2.natAbs), S [42], S p.1) := by
  unfold bodyT
  split
  · exact SX.partition_none (by simp) (SX.par_head_none (okN_free h.nm (by omega)))
  · refine SX.partition_some (by simp) ?_
    have := SX.par_head (c := 42) (sep := []) (p := TL.numL p.2.natAbs) p.1 (TL.numL_free (by omega))
    simpa using this
theorem numL_head {n : Nat} (h : 1 ≤ n) : ∀ c l, TL.numL n = c :: l → c ≠ 48 := by
  induction n using Nat.strongRecOn with
  | _ n ih =>
    intro c l e
    by_cases h10 : n < 10
    · rw [TL.numL_lt h10] at e
      simp at e
      omega
    · rw [TL.numL_step (by omega)] at e
      cases e2 : TL.numL (n / 10) with
      | nil => exact absurd e2 (TL.numL_ne _)
      | cons d m =>
        rw [e2] at e
        simp at e
        have := ih (n / 10) (by omega) (by omega) d m e2
        omega
theorem fold_val (n : Nat) : (TL.numL n).foldl (fun (t : Int) (c : Nat) => 10 * t + ((c : Int) - 48)) 0 = (n : Int) := by
  have := TL.fold_num n
  rw [← this]
  congr 1
  funext t c
  omega
theorem digit_text {c : Nat} (h1 : 48 ≤ c) (h2 : c ≤ 57) : intText? (S [c]) = some ((c : Int) - 48) := by
  have : c = 48 ∨ c = 49 ∨ c = 50 ∨ c = 51 ∨ c = 52 ∨ c = 53 ∨ c = 54 ∨ c = 55 ∨ c = 56 ∨ c = 57 := by omega
  rcases this with e | e | e | e | e | e | e | e | e | e <;> (subst e; decide +kernel)
/-! ### the order of names -/
theorem lt_irr (a : Tt) : ¬ a < a := List.lt_irrefl a
theorem keys_nodup {t : Tm} (h : OkT t) : (t.map (·.1)).Nodup := by
  rw [List.nodup_iff_pairwise_ne, List.pairwise_map]
  refine h.up.imp ?_
  intro a b hab e
  have e : a.1 = b.1 := e
  rw [e] at hab
  exact lt_irr b.1 hab
theorem sorted_pw : ∀ {p : Str} {l : List Str}, PyProof.Rows.risingS p l = true → (p :: l).Pairwise (fun a b => ¬ b.cps.toList < a.cps.toList)
  | p, [], _ => List.pairwise_singleton ..
  | p, x :: r, h => by
    have h1 : (!PySem.Spec.ltCps x.cps.toList p.cps.toList && PyProof.Rows.risingS x r) = true := h
    rw [Bool.and_eq_true, Bool.not_eq_true', PyProof.Rows.ltCps_eq, decide_eq_false_iff_not] at h1
    have ih := sorted_pw h1.2
    refine List.pairwise_cons.mpr ⟨fun y hy => ?_, ih⟩
    rcases List.mem_cons.mp hy with e | hy
    · rw [e]; exact h1.1
    · have q := (List.pairwise_cons.mp ih).1 y hy
      have a : p.cps.toList ≤ x.cps.toList := List.not_lt.mp h1.1
      have b : x.cps.toList ≤ y.cps.toList := List.not_lt.mp q
      exact List.not_lt.mpr (List.le_trans a b)
/-- an arrangement by the order of names that rise strictly is these names -/
theorem sorted_same {ks : List Tt} {ys : List Str} (hk : ks.Pairwise (· < ·)) (hp : ys.Perm (ks.map S)) (hs : PyProof.Rows.sortedS ys = true) : ys = ks.map S := by
  have h1 : ys.Pairwise (fun a b => a.cps.toList ≤ b.cps.toList) := by
    cases ys with
    | nil => exact .nil
    | cons p l => exact (sorted_pw hs).imp fun {a b} h => List.not_lt.mp h
  have h2 : (ks.map S).Pairwise (fun a b => a.cps.toList ≤ b.cps.toList) := by
    rw [List.pairwise_map]
    exact hk.imp fun {a b} h => List.not_lt.mp fun q => List.lt_irrefl _ (List.lt_trans h q)
  refine List.Perm.eq_of_pairwise (fun a b _ _ x y => ?_) h1 h2 hp
  have e := List.le_antisymm x y
  exact TL.ext_tl e
end Rv
end

section
set_option Elab.async false
set_option autoImplicit false
set_option linter.all false
set_option maxRecDepth 100000
set_option maxHeartbeats 4000000
namespace Rv
open PySem L2 PyProof.Rows PySem.Spec
/-! ### the spring -/
abbrev sprL (s0 s1 s2 : Int) : HO := .lst [.int s0, .int s1, .int s2]
structure Spr (A : Amb) (sp : Addr) : Prop where
  inS : A.S sp
  is : ∀ F H, A.ok F H → ∃ s0 s1 s2 : Int, H sp = some (sprL s0 s1 s2) ∧ 0 ≤ s0 ∧ s0 < 2147483543 ∧ 0 ≤ s1
  put : ∀ F H (s0 s1 s2 : Int), A.ok F H → 0 ≤ s0 → s0 < 2147483543 → 0 ≤ s1 → A.ok F (upd H sp (sprL s0 s1 s2))
theorem Gr.spr {A : Amb} {F0 H0 F H : Hp} {sp : Addr} {s0 s1 s2 : Int} (G : Gr A F0 H0 F H) (S : Spr A sp) (h0 : 0 ≤ s0) (h1 : s0 < 2147483543) (h2 : 0 ≤ s1) : Gr A F0 H0 F (upd H sp (sprL s0 s1 s2)) := by
  have hf := G.fz.out sp S.inS
  refine ⟨G.ff, ⟨fun b u e => by rw [upd_ne (ne_of_none e hf)]; exact G.fz.sub b u e, S.put F H s0 s1 s2 G.fz.ok h0 h1 h2, G.fz.out⟩, fun a u ha e => ?_, fun a e => upd_some (G.hk a e), G.nf, G.ok0⟩
  rw [upd_ne fun z => ha (by rw [z]; exact S.inS)]
  exact G.hh a u ha e
abbrev spTake : Sp := fun vs H Q _ => ∃ (A : Amb) (F : Hp) (sp : Addr) (n : Int), vs = [.ref sp, .int n] ∧ Fz A F H ∧ Spr A sp ∧ 0 < n ∧ n < 1000000000 ∧
  Out A F H Q fun _ _ v => ∃ i : Int, v = .int i ∧ 0 ≤ i ∧ i < n
section
variable {P : Program} {w : World} {K : PySem.W.Frag} {mg : Str → Option Value} {base : Heap} {cs : Cs}
abbrev sLawTake : Stmt := top 73
abbrev nLawTake : List Str := ["_law_spring_here", "_law_many", "_law_digit", "_law_times_here", "_law_more"]
abbrev pLawTake : List Str := ["_law_spring_here", "_law_many"]
theorem scLawTake : FnScope nLawTake pLawTake (defScope sLawTake) := ⟨rfl, rfl, rfl, by decide +kernel, rfl, by decide +kernel, by decide +kernel⟩

theorem c_take (D : Dn K mg "_law_take" sLawTake pLawTake) (T : Tx K mg cs) : Cal P w K mg base 1 "_law_take" spTake := by
  refine cal_of D scLawTake (fun vs H Q E h => ?_) (fun f cdv A outer s H vs Q E hr h => ?_)
  · obtain ⟨_, _, _, _, rfl, _⟩ := h
    rfl
  · obtain ⟨Am, F, sp, n, rfl, Z, S, hn0, hn1, k⟩ := h
    obtain ⟨s0, s1, s2, e, h0, h1, h2⟩ := S.is F H Z.ok
    refine ⟨_, (pss_cons (ps_if (pt_cmpR op_gt (pe_ix (r := rIxL K) ix_list (pv 0) pe_int (fun _ _ => rfl)) pe_int (nomark _)) (pss_cons (ps_asg (pe_callB call_divmod (by rfl) T.n_divmod (by decide +kernel) (pa_cons (pe_ix (r := rIxL K) ix_list (pv 0) pe_int (fun _ _ => rfl)) (pa_cons (pv 1) pa_nil))) (pg_tupK K 2 rfl rfl (pgs_cons (pg_sub (pv 0) pe_int set_list) (pgs_cons (pg_name (i := 2) scLawTake.nd rfl (.inl rfl) (.inr rfl)) pgs_nil))))
      (pss_one (ps_ret (pv 2)))) pss_nil)
      (pss_cons (ps_asg (pe_op op_add (pe_ix (r := rIxL K) ix_list (pv 0) pe_int (fun _ _ => rfl)) pe_int) (pg_sub (pv 0) pe_int set_list))
      (pss_cons (ps_par (i := 3) (j := 4) (by rfl) scLawTake.nd rfl rfl (by decide) rfl rfl (pa_cons (pe_op op_add pe_int (pe_op op_mul pe_int (pe_ix (r := rIxL K) ix_list (pv 0) pe_int (fun _ _ => rfl)))) (pa_cons (pe_op op_add (pe_op op_mul pe_int (pe_ix (r := rIxL K) ix_list (pv 0) pe_int (fun _ _ => rfl))) pe_int) pa_nil)) (by rfl))
      (pss_cons (ps_asg (pe_op op_mod (pe_callTy call_int1 (by rfl) T.n_int (by decide +kernel) (pa_cons (pe_op op_add (pe_op op_mul (pe_ix (r := rIxL K) ix_list (pv 0) pe_int (fun _ _ => rfl)) (pv 3)) (pv 4)) pa_nil)) pe_int) (pg_sub (pv 0) pe_int set_list))
      (pss_one (ps_ret (pe_op op_mod (pe_callTy call_int1 (by rfl) T.n_int (by decide +kernel) (pa_cons (pe_op op_fdiv (pe_ix (r := rIxL K) ix_list (pv 0) pe_int (fun _ _ => rfl)) pe_int) pa_nil)) (pv 1)))))))), ?_⟩
    refine ⟨_, rfl, sp, _, _, _, rfl, rfl, SqL.of e, rfl, _, _, rfl, rfl, _, rfl, ?_⟩
    refine ite2 (fun hc => ?_) (fun hc => ?_)
    · refine ⟨_, rfl, sp, _, _, _, rfl, rfl, SqL.of e, rfl, _, rfl, _, _, rfl, ⟨hn0, by omega⟩, fun p hp => ?_⟩
      have np : sp ≠ p := ne_of_none e hp
      refine ⟨p, _, rfl, SqT.of upd_same, rfl, _, _, rfl, ?_⟩
      refine ⟨_, rfl, sp, _, _, _, rfl, rfl, (by rw [upd_ne np]; exact e), rfl, ?_⟩
      refine ⟨_, _, rfl, rfl, _, rfl, ?_⟩
      have G := ((Gr.refl Z).own (o := .tup [.int (s1 / n), .int (s1 % n)]) hp).spr S (s0 := s0) (s1 := s1 / n) (s2 := s2) h0 h1 (Int.ediv_nonneg h2 (Int.le_of_lt hn0))
      exact k _ _ _ G ⟨_, rfl, Int.emod_nonneg _ (by omega), Int.emod_lt_of_pos _ hn0⟩
    · refine ⟨_, rfl, sp, _, _, _, rfl, rfl, SqL.of e, rfl, _, _, rfl, rfl, _, rfl, sp, _, _, _, rfl, rfl, e, rfl, ?_⟩
      refine ⟨_, rfl, sp, _, _, _, rfl, rfl, SqL.of upd_same, rfl, _, _, rfl, rfl, .inl ⟨by decide, by decide⟩, _, _, rfl, rfl, ?_⟩
      refine ⟨_, rfl, sp, _, _, _, rfl, rfl, SqL.of upd_same, rfl, _, _, rfl, rfl, .inl ⟨by decide, by decide⟩, _, _, rfl, rfl, _, _, rfl, ?_⟩
      refine ⟨_, rfl, sp, _, _, _, rfl, rfl, SqL.of upd_same, rfl, _, rfl, _, _, rfl, rfl, .inl ⟨by omega, by omega⟩, _, rfl, _, _, rfl, rfl, .inl ⟨_, rfl, ?_⟩⟩
      refine ⟨_, _, rfl, rfl, (by show (0 : Int) < 2147483543; decide), ?_⟩
      refine ⟨_, rfl, sp, _, _, _, rfl, rfl, upd_same, rfl, ?_⟩
      refine ⟨_, rfl, sp, _, _, _, rfl, rfl, SqL.of upd_same, rfl, _, _, rfl, rfl, ⟨by decide, by decide⟩, .inl ⟨_, rfl, ?_⟩⟩
      refine ⟨_, rfl, _, _, rfl, rfl, hn0, ?_⟩
      rw [upd_upd]
      have G := (Gr.refl Z).spr S (s2 := s2 + 1) (Int.emod_nonneg (s0 * (40009 + 2 * (s2 + 1)) + (5179 * (s2 + 1) + 23)) (by decide : (2147483543 : Int) ≠ 0)) (Int.emod_lt_of_pos _ (by decide)) h2
      exact k _ _ _ G ⟨_, rfl, Int.emod_nonneg _ (by omega), Int.emod_lt_of_pos _ hn0⟩
end
end Rv
end

section
set_option Elab.async false
set_option autoImplicit false
set_option linter.all false
set_option maxRecDepth 100000
set_option maxHeartbeats 4000000
/-! RvD: defs that no name of the top holds: methods, getters, class methods. -/
namespace Rv
open PySem L2 PyProof.Rows PySem.Spec
structure Fu (K : PySem.W.Frag) (x q : Str) (st : Stmt) (f : Addr) (fd : FuncData) (ps : List Str) : Prop where
  fn : ∃ dv kw, FunD K x q (defArgs st) (defBody st) (defScope st) dv kw f fd
  bi : Binds K fd ps []
section
variable {P : Program} {w : World} {K : PySem.W.Frag} {mg : Str → Option Value} {base : Heap} {x q : Str} {st : Stmt} {f C : Addr} {fd : FuncData} {N ps : List Str} {k : Nat} {sp : Sp}
theorem fun_ok {dv : List V} {kw : List (Str × V)} (F : FunD K x q (defArgs st) (defBody st) (defScope st) dv kw f fd) (S : FnScope N ps (defScope st)) (len : ∀ vs H Q E, sp vs H Q E → vs.length = ps.length)
    (hbody : ∀ (cdv : Value) (A : Around) (outer : List Env) (s : Shared) (H : Hp) (vs : List V) (Q : VK) (E : XK), Room k (A.deeper (envOfC q (defScope st) s.heap.objs.size f cdv)) → sp vs H Q E →
      ∃ t, PSs (cxOf CX0 P w K mg base N q (defScope st) f cdv A outer s H E).nox (defBody st) t ∧ t { nx := fun _ H' => Q .non H', rt := Q } (start N vs) H) : FnOk P w K mg base CX0 (k + 1) f fd ps sp := by
  refine F.ok S len fun cdv A outer s H vs Q E hr h => ?_
  obtain ⟨t, h1, h2⟩ := hbody cdv A outer s H vs Q E hr h
  exact ⟨t, h1.nox, h2⟩
abbrev BodyOk (P : Program) (w : World) (K : PySem.W.Frag) (mg : Str → Option Value) (base : Heap) (q : Str) (st : Stmt) (N : List Str) (k : Nat) (sp : Sp) : Prop :=
  ∀ (f : Addr) (cdv : Value) (A : Around) (outer : List Env) (s : Shared) (H : Hp) (vs : List V) (Q : VK) (E : XK), Room k (A.deeper (envOfC q (defScope st) s.heap.objs.size f cdv)) → sp vs H Q E →
      ∃ t, PSs (cxOf CX0 P w K mg base N q (defScope st) f cdv A outer s H E).nox (defBody st) t ∧ t { nx := fun _ H' => Q .non H', rt := Q } (start N vs) H
theorem Fu.ok (F : Fu K x q st f fd ps) (S : FnScope N ps (defScope st)) (len : ∀ vs H Q E, sp vs H Q E → vs.length = ps.length) (hbody : BodyOk P w K mg base q st N k sp) : FnOk P w K mg base CX0 (k + 1) f fd ps sp := by
  obtain ⟨dv, kw, F1⟩ := F.fn
  exact fun_ok F1 S len (hbody f)
def PrD (K : PySem.W.Frag) (C : Addr) (x q : Str) (st : Stmt) (ps : List Str) : Prop := ∃ p g fd, Cls K C ∧ PropOf K C x p g ∧ Fu K x q st g fd ps
def MkD (K : PySem.W.Frag) (mg : Str → Option Value) (x : Str) (C : Addr) (q : Str) (st : Stmt) (ps : List Str) : Prop := ∃ f fd, Mk K C f ∧ Fu K "__init__" q st f fd ps ∧ mg x = some (.ref C)
def CmD (K : PySem.W.Frag) (C : Addr) (x q : Str) (st : Stmt) (ps : List Str) : Prop := ∃ mc p g fd, ClX.CRead K C mc ∧ ClX.CMet K C mc x p g ∧ Fu K x q st g fd ps
theorem prp_of (D : PrD K C x q st ps) (S : FnScope N ps (defScope st)) (len : ∀ vs H Q E, sp vs H Q E → vs.length = ps.length) (hbody : BodyOk P w K mg base q st N k sp) : Prp P w K mg base (k + 1) C x sp := by
  obtain ⟨p, g, fd, hc, hp, F⟩ := D
  exact ⟨p, g, fd, ps, hc, hp, F.ok S len hbody, F.bi⟩
theorem mak_of (D : MkD K mg x C q st ps) (S : FnScope N ps (defScope st)) (len : ∀ vs H Q E, sp vs H Q E → vs.length = ps.length) (hbody : BodyOk P w K mg base q st N k sp) : Mak P w K mg base (k + 1) x C sp := by
  obtain ⟨f, fd, M, F, hm⟩ := D
  exact ⟨f, fd, ps, M, F.ok S len hbody, hm, F.bi⟩
/-- a class method -/
structure Cmt (P : Program) (w : World) (K : PySem.W.Frag) (mg : Str → Option Value) (base : Heap) (k : Nat) (C : Addr) (m : Str) (sp : Sp) : Prop where
  ex : ∃ (mc : Value) (p g : Addr), ClX.CRead K C mc ∧ ClX.CMet K C mc m p g ∧ FnR P w K mg base CX0 k g sp
theorem cmt_of (D : CmD K C x q st ps) (S : FnScope N ps (defScope st)) (len : ∀ vs H Q E, sp vs H Q E → vs.length = ps.length) (hbody : BodyOk P w K mg base q st N k sp) : Cmt P w K mg base (k + 1) C x sp := by
  obtain ⟨mc, p, g, fd, r, c, F⟩ := D
  refine ⟨mc, p, g, r, c, ?_⟩
  have h := (F.ok S len hbody).raw (dvs := []) F.bi .nil
  exact h.imp fun vs H Q E h => by rw [List.append_nil]; exact h
def tCm (C : Addr) (sp : Sp) (ta : TE) (t : TA) : TE := fun σ H Q => ta σ H fun x H1 => x = .ref C ∧ t σ H1 fun vs H2 => sp (.ref C :: vs) H2 Q E0
end
section
variable {X : Cx} {k j : Nat} {C : Addr} {m : Str} {sp : Sp} {o e : Expr} {es : List Expr} {pos apos : Pos} {ta : TE} {t : TA} {pl : Sem Bool}
theorem pe_cm (c : Cmt X.prog X.w X.K X.mg X.base k C m sp) (hr : Room j X.A) (hk : k ≤ j) (he : PE X o ta) (ha : PA X (e :: es) t)
    (hst : starEach (e :: es) X.env = (false, eval e X.env) :: starEach es X.env := by rfl) (hpl : (backTo pos (starEach es X.env)).any (·.1) = false := by rfl)
    (ht : eval (.Call (.Attribute o m apos) (e :: es) [] pos) X.env = (do
      let ov ← eval o X.env
      standAt apos.atName
      let (f, first) ← holding [ov] (getMethod ov m pl)
      callWith pos f first (backTo pos (starEach (e :: es) X.env)) (backToKw pos (keywordEach [] X.env))) := by rfl) :
    PE X (.Call (.Attribute o m apos) (e :: es) [] pos) (tCm C sp ta t) := by
  obtain ⟨mc, p, g, r, cm, F⟩ := c.ex
  exact ClX.pe_cmeth (E := E0) he r cm F (hr.mono hk) pass0 ha hst hpl ht
end
/-- C(e, .., k = v): a keyword-only parameter -/
structure MakK (P : Program) (w : World) (K : PySem.W.Frag) (mg : Str → Option Value) (base : Heap) (k n : Nat) (ks : List Str) (x : Str) (C : Addr) (sp : Sp) : Prop where
  ex : ∃ (f : Addr) (fd : FuncData) (ps : List Str) (g : List Value → List Value → List Value), Mk K C f ∧ FnOk P w K mg base CX0 k f fd ps sp ∧ mg x = some (.ref C) ∧ KBn K fd ps (n + 1) ks g (fun vs zs => vs ++ zs)
def MkKD (K : PySem.W.Frag) (mg : Str → Option Value) (n : Nat) (ks : List Str) (x : Str) (C : Addr) (q : Str) (st : Stmt) (ps : List Str) : Prop :=
  ∃ f fd g dv kw, Mk K C f ∧ FunD K "__init__" q (defArgs st) (defBody st) (defScope st) dv kw f fd ∧ mg x = some (.ref C) ∧ KBn K fd ps (n + 1) ks g (fun vs zs => vs ++ zs)
theorem makK_of {P : Program} {w : World} {K : PySem.W.Frag} {mg : Str → Option Value} {base : Heap} {x q : Str} {st : Stmt} {C : Addr} {N ps ks : List Str} {k n : Nat} {sp : Sp} (D : MkKD K mg n ks x C q st ps) (S : FnScope N ps (defScope st)) (len : ∀ vs H Q E, sp vs H Q E → vs.length = ps.length) (hbody : BodyOk P w K mg base q st N k sp) : MakK P w K mg base (k + 1) n ks x C sp := by
  obtain ⟨f, fd, g, dv, kw, M, F, hm, b⟩ := D
  exact ⟨f, fd, ps, g, M, fun_ok F S len (hbody f), hm, b⟩
def tMkK (C : Addr) (n m : Nat) (sp : Sp) (t tk : TA) : TE := fun σ H Q => t σ H fun vs H1 => tk σ H1 fun zs H2 => vs.length = n ∧ zs.length = m ∧ ∀ x dx, H2 x = none → H2 dx = none → dx ≠ x →
  sp (.ref x :: vs ++ zs) (upd (upd H2 dx (.own x)) x (.ins C dx [])) (fun v H3 => v = .non ∧ Q (.ref x) H3) E0
section
variable {X : Cx} {k j n : Nat} {C : Addr} {x : Str} {ks : List Str} {sp : Sp} {p pos : Pos} {e : Expr} {es : List Expr} {kws : List Keyword} {t tk : TA}
theorem pe_mkK (c : MakK X.prog X.w X.K X.mg X.base k n ks x C sp) (hr : Room j X.A) (hk : k + 1 ≤ j) (hg : Gl X x) (ha : PA X (e :: es) t) (hkw : PK X kws tk)
    (hall : (backToKw pos (keywordEach kws X.env)).all (·.1.isSome) = true := by rfl) (hks : (backToKw pos (keywordEach kws X.env)).filterMap (·.1) = ks := by rfl) (hdb : (x == ("__debug__" : Str)) = false := by decide)
    (he : starEach (e :: es) X.env = (false, eval e X.env) :: starEach es X.env := by rfl) (hpl : ((backTo pos (starEach (e :: es) X.env)).any (·.1) || (backToKw pos (keywordEach kws X.env)).any (·.1.isNone)) = false := by rfl) :
    PE X (.Call (.Name x p) (e :: es) kws pos) (tMkK C n ks.length sp t tk) := by
  obtain ⟨f, fd, ps, g, M, F, hm, b⟩ := c.ex
  exact pe_makeK (E := E0) M F (hr.mono hk) hg hm b pass0 ha hkw hall hks hdb he hpl
end
/-! ### a new instance filled and frozen -/
section
variable {A : Amb} {F H F' H' : Hp} {C x dx : Addr} {Q : VK}
/-- what __init__ promises: the fields -/
def InitQ (A : Amb) (F H : Hp) (C x dx : Addr) (Q : VK) (post : Hp → List (Str × V) → Prop) : Prop :=
  ∀ F' H' fs, Gr A F H F' H' → F' x = none → post F' fs → Q .non (upd H' x (.ins C dx fs))
/-- C(..) -/
theorem init_ok {R : VK} {post : Hp → List (Str × V) → Prop} (Z : Fz A F H) (hx : H x = none) (hd : H dx = none) (hn : dx ≠ x)
    (k : ∀ F' H' fs, Gr A F H F' H' → F' x = some (.ins C dx fs) → (∃ F0, Same F0 F' ∧ post F0 fs) → R (.ref x) H') :
    Fz A F (upd (upd H dx (.own x)) x (.ins C dx [])) ∧ F x = none ∧ ¬ A.S x ∧ upd (upd H dx (.own x)) x (.ins C dx []) x = some (.ins C dx []) ∧ InitQ A F (upd (upd H dx (.own x)) x (.ins C dx [])) C x dx (fun v H2 => v = .non ∧ R (.ref x) H2) post := by
  have G0 := (Gr.refl Z).own (o := .own x) hd
  have hx1 : upd H dx (.own x) x = none := by rw [upd_ne (fun e => hn e.symm)]; exact hx
  have G1 := G0.own (o := .ins C dx []) hx1
  refine ⟨G1.fz, Z.free hx, Z.notS hx, upd_same, fun F' H' fs G hf hp => ⟨rfl, ?_⟩⟩
  have G2 := (G1.trans G).put (o := .ins C dx fs) hx hf
  exact k _ _ fs (G2.frz hx hf upd_same) upd_same ⟨F', same_new hf, hp⟩
end
end Rv
end

section
set_option Elab.async false
set_option autoImplicit false
set_option linter.all false
set_option maxRecDepth 100000
set_option maxHeartbeats 4000000
namespace Rv
open PySem L2 PyProof.Rows PySem.Spec
/-! ### single values -/
abbrev spIsInteger : Sp := fun vs H Q _ => ∃ (A : Amb) (F : Hp) (i : Int), vs = [.int i] ∧ Fz A F H ∧ Out A F H Q fun _ _ v => v = .bl true
abbrev spIsName : Sp := fun vs H Q _ => ∃ (A : Amb) (F : Hp) (l : Tt), vs = [.str (S l)] ∧ Fz A F H ∧ okN l = true ∧ Out A F H Q fun _ _ v => v = .bl true
abbrev spCheckName : Sp := fun vs H Q _ => ∃ (A : Amb) (F : Hp) (l : Tt), vs = [.str (S l)] ∧ Fz A F H ∧ okN l = true ∧ Out A F H Q fun _ _ v => v = .non
section
variable {P : Program} {w : World} {K : PySem.W.Frag} {mg : Str → Option Value} {base : Heap} {cs : Cs}
abbrev sIsInteger : Stmt := top 29
abbrev nIsInteger : List Str := ["value"]
abbrev pIsInteger : List Str := ["value"]
theorem scIsInteger : FnScope nIsInteger pIsInteger (defScope sIsInteger) := ⟨rfl, rfl, rfl, by decide +kernel, rfl, by decide +kernel, by decide +kernel⟩

theorem c_is_integer (D : Dn K mg "is_integer" sIsInteger pIsInteger) (T : Tx K mg cs) : Cal P w K mg base 1 "is_integer" spIsInteger := by
  refine cal_of D scIsInteger (fun vs H Q E h => ?_) (fun f cdv A outer s H vs Q E hr h => ?_)
  · obtain ⟨_, _, _, rfl, _⟩ := h
    rfl
  · obtain ⟨Am, F, i, rfl, Z, k⟩ := h
    refine ⟨_, (pss_one (ps_ret (pe_and (pe_callB (id := "isinstance") (r := rIsi K) call_isi (by rfl) T.n_isinstance (by decide +kernel) (pa_cons (pv 0) (pa_cons (pe_bltn (v := .ty "int") (by rfl) T.n_int (by decide +kernel) rfl) pa_nil))) (pe_one (pe_not (pe_callB (id := "isinstance") (r := rIsi K) call_isi (by rfl) T.n_isinstance (by decide +kernel) (pa_cons (pv 0) (pa_cons (pe_bltn (v := .ty "bool") (by rfl) T.n_bool (by decide +kernel) rfl) pa_nil)))))))), ?_⟩
    refine ⟨_, rfl, _, _, _, _, true, rfl, .ty _, .base (.int _), kit_ty (by decide +kernel), _, rfl, ?_⟩
    refine iteT ?_
    refine ⟨_, rfl, _, _, _, _, false, rfl, .ty _, .base (.int _), kit_ty (by decide +kernel), _, rfl, ?_⟩
    exact k F H _ (Gr.refl Z) rfl
abbrev sIsName : Stmt := top 30
abbrev nIsName : List Str := ["value", "sign"]
abbrev pIsName : List Str := ["value"]
theorem scIsName : FnScope nIsName pIsName (defScope sIsName) := ⟨rfl, rfl, rfl, by decide +kernel, rfl, by decide +kernel, by decide +kernel⟩

theorem c_is_name (D : Dn K mg "is_name" sIsName pIsName) (T : Tx K mg cs) : Cal P w K mg base 1 "is_name" spIsName := by
  refine cal_of D scIsName (fun vs H Q E h => ?_) (fun f cdv A outer s H vs Q E hr h => ?_)
  · obtain ⟨_, _, _, rfl, _⟩ := h
    rfl
  · obtain ⟨Am, F, l, rfl, Z, ok, k⟩ := h
    obtain ⟨l1, l2⟩ := okN_len ok
    refine ⟨_, (pss_cons (ps_if (PW.pt (pw_or (pt_not (pt_val (pe_callB (id := "isinstance") (r := rIsi K) call_isi (by rfl) T.n_isinstance (by decide +kernel) (pa_cons (pv 0) (pa_cons (pe_bltn (v := .ty "str") (by rfl) T.n_str (by decide +kernel) rfl) pa_nil))))) (pw_or (pt_not (pt_chain op_le op_le pe_int (pe_callB call_len_str (by rfl) T.n_len (by decide +kernel) (pa_cons (pv 0) pa_nil)) (pe_gc T.g_LONGEST_NAME))) (pw_or1 (pt_cmpR op_notIn_sign (pe_ix ix_str (pv 0) pe_int (fun _ _ => rfl)) (pe_gc T.g_LETTERS) (by rfl)))))) (pss_one (ps_ret pe_bl)) pss_nil)
      (pss_one (ps_ret (pe_callB (cr_all rfl) (by rfl) T.n_all (by decide +kernel) (pa_cons (pe_lcG (own := [("sign", 1)]) rfl scIsName.nd (pi_str (pv 0)) (blkOk_by (own := [("sign", 1)]) (N := nIsName) (sc := defScope sIsName) (by decide +kernel)) (fun _ _ _ _ _ => (pg_name (i := 1) scIsName.nd rfl (.inl rfl) (.inr rfl))) (fun _ _ _ _ _ => pts_nil) (fun _ _ _ _ _ => (pe_or (pe_cmpR op_in_sign (pv 1) (pe_gc T.g_LETTERS) (by rfl)) (pe_one (pe_cmpR op_in_sign (pv 1) (pe_gc T.g_DIGITS) (by rfl)))))) pa_nil))))), ?_⟩
    refine ⟨_, rfl, _, _, _, _, true, rfl, .ty _, .base (.str _), kit_ty (by decide +kernel), _, rfl, ?_⟩
    refine iteF ?_
    refine ⟨_, rfl, _, rfl, sz (by rw [S_length]; omega), ?_⟩
    refine ⟨_, _, rfl, rfl, _, rfl, ?_⟩
    rw [decide_eq_true (by rw [S_length]; omega)]
    refine iteT ?_
    refine ⟨_, _, rfl, rfl, _, rfl, ?_⟩
    rw [decide_eq_true (by rw [S_length]; omega)]
    refine iteF ?_
    obtain ⟨c, r, rfl⟩ : ∃ c r, l = c :: r := by
      cases l with
      | nil => simp at l1
      | cons c r => exact ⟨c, r, rfl⟩
    refine ⟨_, rfl, _, _, _, rfl, rfl, sz (by rw [S_length]; omega), at0 0 rfl rfl, _, _, rfl, rfl, _, rfl, ?_⟩
    rw [in_letters, okN_head ok]
    refine iteF ?_
    refine ⟨_, rfl, _, rfl, ?_⟩
    refine lc_str (r := rBl) (l := c :: r) (fun c => isL c || isD c) Z (by omega) (fun i d F1 H1 K1 hd G1 hK => ?_) (fun F' H' p G' hr => ?_)
    · refine ⟨rfl, ?_⟩
      refine ⟨_, rfl, _, _, rfl, rfl, _, rfl, ?_⟩
      rw [in_letters]
      cases hL : isL d with
      | true => exact iteT (hK F1 H1 _ (Gr.refl G1.fz) (by rw [hL]; rfl))
      | false =>
        refine iteF ?_
        refine ⟨_, rfl, _, _, rfl, rfl, ?_⟩
        rw [in_digits]
        exact hK F1 H1 _ (Gr.refl G1.fz) (by rw [hL]; rfl)
    · obtain ⟨_, xs, e, hx, hp⟩ := hr
      cases e
      have e := paired_C hp
      subst e
      refine ⟨p, _, rfl, G'.fz.L hx, ?_⟩
      refine k _ _ _ G' (congrArg V.bl ?_)
      rw [List.all_map, List.all_eq_true]
      intro d hd
      rcases okN_all ok d hd with q | q <;> simp [q]
abbrev sCheckName : Stmt := top 31
abbrev nCheckName : List Str := ["value"]
abbrev pCheckName : List Str := ["value"]
theorem scCheckName : FnScope nCheckName pCheckName (defScope sCheckName) := ⟨rfl, rfl, rfl, by decide +kernel, rfl, by decide +kernel, by decide +kernel⟩

theorem c_check_name (D : Dn K mg "check_name" sCheckName pCheckName) (T : Tx K mg cs) (c_is_name : Cal P w K mg base 1 "is_name" spIsName) : Cal P w K mg base 2 "check_name" spCheckName := by
  refine cal_of D scCheckName (fun vs H Q E h => ?_) (fun f cdv A outer s H vs Q E hr h => ?_)
  · obtain ⟨_, _, _, rfl, _⟩ := h
    rfl
  · obtain ⟨Am, F, l, rfl, Z, ok, k⟩ := h
    refine ⟨_, (pss_one (ps_if (pt_not (pt_val (pe_c c_is_name hr (by decide) rfl (pa_cons (pv 0) pa_nil)))) pss_never pss_nil)), ?_⟩
    refine ⟨_, rfl, Am, F, l, rfl, Z, ok, fun F1 H1 v G e => ?_⟩
    subst e
    refine ⟨_, rfl, iteF ?_⟩
    exact k _ _ _ G rfl
end
end Rv
end

section
set_option Elab.async false
set_option autoImplicit false
set_option linter.all false
set_option maxRecDepth 100000
set_option maxHeartbeats 4000000
namespace Rv
open PySem L2 PyProof.Rows PySem.Spec
abbrev rPair : Rl (Tt × Int) := rT2 rS rInt
abbrev rTm : Rl Tm := rTup rPair
abbrev rPr : Rl Tm := rLst rPair
def kvsOf (t : Tm) : List (Key × V) := t.map fun p => (Sum.inr (S p.1), V.int p.2)
theorem kv_none {n : Tt} : ∀ {t : Tm}, (∀ q ∈ t, q.1 ≠ n) → valV (kvsOf t) (Sum.inr (S n) : Key) = none
  | [], _ => rfl
  | p :: r, h => by
    show valV ((Sum.inr (S p.1), V.int p.2) :: kvsOf r) _ = _
    rw [valV_neg (fun e => h p (List.mem_cons_self ..) (SX.S_inj (Sum.inr.inj e)))]
    exact kv_none fun q hq => h q (List.mem_cons_of_mem _ hq)
theorem kv_get {p : Tt × Int} : ∀ {t : Tm}, (t.map (·.1)).Nodup → p ∈ t → valV (kvsOf t) (Sum.inr (S p.1) : Key) = some (.int p.2)
  | [], _, h => by cases h
  | q :: r, hn, h => by
    show valV ((Sum.inr (S q.1), V.int q.2) :: kvsOf r) _ = _
    rcases List.mem_cons.mp h with e | h
    · subst e; exact valV_pos rfl
    · have hn : (q.1 :: r.map (·.1)).Nodup := hn
      rw [List.nodup_cons] at hn
      rw [valV_neg (fun e => hn.1 (by rw [show q.1 = p.1 from SX.S_inj (Sum.inr.inj e)]; exact List.mem_map_of_mem h))]
      exact kv_get hn.2 h
theorem take_ne {t : Tm} (hn : (t.map (·.1)).Nodup) {i : Nat} {p : Tt × Int} (h : t[i]? = some p) : ∀ q ∈ t.take i, q.1 ≠ p.1 := fun q hq e => by
  obtain ⟨j, hj, e2⟩ := List.getElem_of_mem hq
  have hj' : j < i := by simp at hj; omega
  have a : (t.map (·.1))[j]? = some p.1 := by
    rw [List.getElem_take] at e2
    rw [List.getElem?_map, List.getElem?_eq_getElem (by simp at hj; omega), e2, ← e]; rfl
  have b : (t.map (·.1))[i]? = some p.1 := by rw [List.getElem?_map, h]; rfl
  have := nd_ix hn a b
  omega
abbrev spMerged : Sp := fun vs H Q _ => ∃ (A : Amb) (F : Hp) (x : V) (t : Tm), vs = [x] ∧ Fz A F H ∧ (rTm F x t ∨ rPr F x t) ∧ OkT t ∧ Out A F H Q fun F' _ v => rTm F' v t
section
variable {P : Program} {w : World} {K : PySem.W.Frag} {mg : Str → Option Value} {base : Heap} {cs : Cs}
abbrev sMerged : Stmt := top 36
abbrev nMerged : List Str := ["pairs", "totals", "name", "number"]
abbrev pMerged : List Str := ["pairs"]
theorem scMerged : FnScope nMerged pMerged (defScope sMerged) := ⟨rfl, rfl, rfl, by decide +kernel, rfl, by decide +kernel, by decide +kernel⟩

theorem c_merged (D : Dn K mg "merged" sMerged pMerged) (T : Tx K mg cs) : Cal P w K mg base 1 "merged" spMerged := by
  refine cal_of D scMerged (fun vs H Q E h => ?_) (fun f cdv A outer s H vs Q E hr h => ?_)
  · obtain ⟨_, _, _, _, rfl, _⟩ := h
    rfl
  · obtain ⟨Am, F, x, t, rfl, Z, hx, ok, k⟩ := h
    refine ⟨_, (pss_cons (ps_set (i := 1) scMerged.nd rfl (Or.inr rfl) pe_dnewK)
      (pss_cons (ps_forG PassesOwn.never rfl (pi_seq (pv 0)) (pg_tupK K 2 rfl rfl (pgs_cons (pg_name (i := 2) scMerged.nd rfl (.inl rfl) (.inr rfl)) (pgs_cons (pg_name (i := 3) scMerged.nd rfl (.inl rfl) (.inr rfl)) pgs_nil)))
        (pss_one (ps_dput (hu_of hr) (pv 1) (pv 2) (pe_op op_add (pe_dget2 (hu_of hr) (pv 1) (pv 2) pe_int ⟨rfl, rfl, rfl, rfl⟩) (pv 3)) rfl)))
      (pss_one (ps_ret (pe_callTy call_tuple_of (by rfl) T.n_tuple (by decide +kernel) (pa_cons (pe_lcG (own := [("name", 2)]) rfl scMerged.nd (pi_list (pe_callB (call_sortedD rfl) (by rfl) T.n_sorted (by decide +kernel) (pa_cons (pv 1) pa_nil))) (blkOk_by (own := [("name", 2)]) (N := nMerged) (sc := defScope sMerged) (by decide +kernel)) (fun _ _ _ _ _ => (pg_name (i := 2) scMerged.nd rfl (.inl rfl) (.inr rfl))) (fun _ _ _ _ _ => (pts_one (pt_cmpR op_ne (pe_dget (hu_of hr) (pv 1) (pv 2) (fun _ _ => rfl)) pe_int (nomark _)))) (fun _ _ _ _ _ => (pe_tup (pa_cons (pv 2) (pa_cons (pe_dget (hu_of hr) (pv 1) (pv 2) (fun _ _ => rfl)) pa_nil))))) pa_nil)))))), ?_⟩
    intro d hd
    have G0 : Gr Am F H F (upd H d (.dK [])) := (Gr.refl Z).own hd
    obtain ⟨p, xs, rfl, hp, prd⟩ : ∃ p xs, x = .ref p ∧ (F p = some (.lst xs) ∨ F p = some (.tup xs)) ∧ PySem.Paired (rPair F) xs t := by
      rcases hx with ⟨p, xs, e, h1, h2⟩ | ⟨p, xs, e, h1, h2⟩
      · exact ⟨p, xs, e, .inr h1, h2⟩
      · exact ⟨p, xs, e, .inl h1, h2⟩
    have nd := keys_nodup ok
    have hdS := Z.notS hd
    refine ⟨_, rfl, p, rfl, seq_both (R := fun J H1 => ForG J _ _ _ _ H1) Z G0 hp fun J Gd wk hG => ?_⟩
    refine for_at wk (fun i σ H' => ∃ F' n m, σ = [some (.ref p), some (.ref d), n, m] ∧ Gr Am F H F' H' ∧ F' d = none ∧ H' d = some (.dK (kvsOf (t.take i)))) ⟨F, _, _, rfl, G0, Z.free hd, upd_same⟩ (fun i σ H' _ ⟨F', _, _, _, G, _⟩ => hG F' H' G) ?_ ?_
    · rintro i x σ H' hi ⟨F', n, m, rfl, G, hF, hD⟩
      obtain ⟨⟨nm, c⟩, hd1, rq⟩ := prd_get prd hi
      obtain ⟨q, a, b, rfl, hq, rfl, rfl⟩ := rq
      have hq' := G.fz.sub _ _ (G.ff _ _ hq)
      refine ⟨q, _, rfl, SqT.of hq', rfl, _, _, rfl, _, _, rfl, rfl, ?_⟩
      have hv : valV (kvsOf (t.take i)) (Sum.inr (S nm) : Key) = none := kv_none (take_ne nd hd1)
      refine ⟨_, rfl, d, rfl, .inl ⟨_, Rd.of hD⟩, _, rfl, _, DGet.k (k := Sum.inr (S nm)) hD, _, rfl, 0, _, ?_, rfl, ?_⟩
      · rw [hv]; rfl
      refine ⟨_, rfl, _, rfl, d, _, rfl, DPut.k (k := Sum.inr (S nm)) hD (szlt ?_), ?_⟩
      · have := ok.ln
        simp only [kvsOf, List.length_map, List.length_take]; omega
      refine ⟨F', _, _, rfl, G.put hd hF, hF, ?_⟩
      rw [putK_new _ hv, take_snoc hd1, upd_same]
      simp [kvsOf]
    · rintro σ H' ⟨F', n, m, rfl, G, hF, hD⟩
      rw [prd_len prd, List.take_length] at hD
      have hks : (kvsOf t).map (·.1) = ((t.map (·.1)).map S).map Sum.inr := by simp [kvsOf]
      refine ⟨_, rfl, d, _, (t.map (·.1)).map S, rfl, Rd.of hD, hks, (by have := ok.ln; simp; omega), fun ys r hpm hso hr => ?_⟩
      have e := sorted_same (by rw [List.pairwise_map]; exact ok.up) hpm hso
      subst e
      have G2 := G.new (o := .lst (((t.map (·.1)).map S).map V.str)) hr
      have g2 := (Gr.refl G.fz).new (o := .lst (((t.map (·.1)).map S).map V.str)) hr
      obtain ⟨hD2, hF2⟩ := g2.cell hdS hD hF
      refine ⟨r, rfl, ⟨_, SqL.of upd_same⟩, ?_⟩
      refine lc_filter (ra := rC fun p => V.str (S p.1)) (r := rPair) (fun p => decide (p.2 ≠ 0)) id walk_list G2.fz (xs := ((t.map (·.1)).map S).map V.str) (ds := t) ?_ (fun F3 H3 g => g.fz.L (g.ff _ _ upd_same)) (by have := ok.ln; omega) ?_ ?_
      · have e : ((t.map (·.1)).map S).map V.str = t.map fun p => V.str (S p.1) := by simp
        rw [e]; exact paired_of
      · rintro i x p' F3 H3 K1 K0 hp1 g3 rfl hk1 hk0
        obtain ⟨hD3, hF3⟩ := g3.cell hdS hD2 hF2
        have hv := kv_get nd (List.mem_of_getElem? hp1)
        refine ⟨rfl, ?_⟩
        have hg : DGet H3 d (.str (S p'.1)) (some (.int p'.2)) := by
          have := DGet.k (k := Sum.inr (S p'.1)) hD3
          rw [hv] at this
          exact this
        refine ⟨_, rfl, _, rfl, d, _, rfl, hg, rfl, _, rfl, ?_⟩
        have nz := (ok.ok p' (List.mem_of_getElem? hp1)).nz
        rw [decide_eq_false (fun e => nz (V.int.inj e))]
        refine iteT ?_
        refine ⟨_, rfl, _, rfl, _, rfl, d, _, rfl, hg, (by show 2 ≤ sizeLine; decide), fun q hq => ?_⟩
        exact hk1 (by simp [nz]) _ _ _ ((Gr.refl g3.fz).new hq) ⟨q, _, _, rfl, upd_same, rfl, rfl⟩
      · rintro F3 H3 p3 g3 ⟨p4, zs, e4, hz, prd3⟩
        cases e4
        refine ⟨p3, zs, rfl, .inl ⟨g3.fz.L hz, fun u hu => ?_⟩⟩
        have ef : (t.filter fun p => decide (p.2 ≠ 0)).map id = t := by
          rw [List.map_id, List.filter_eq_self]
          intro p hp
          simp [(ok.ok p hp).nz]
        rw [ef] at prd3
        exact k _ _ _ ((G2.trans g3).new hu) ⟨u, zs, rfl, upd_same, prd_up (same_new (g3.fz.free hu)) prd3⟩
end
end Rv
end

section
set_option Elab.async false
set_option autoImplicit false
set_option linter.all false
set_option maxRecDepth 100000
set_option maxHeartbeats 4000000
namespace Rv
open PySem L2 PyProof.Rows PySem.Spec
abbrev spReadNumber : Sp := fun vs H Q _ => ∃ (A : Amb) (F : Hp) (n : Nat), vs = [.str (S (TL.numL n))] ∧ Fz A F H ∧ 1 ≤ n ∧ n < 10000000 ∧ Out A F H Q fun _ _ v => v = .int n
abbrev spDigitsOf : Sp := fun vs H Q _ => ∃ (A : Amb) (F : Hp) (n : Nat), vs = [.int n] ∧ Fz A F H ∧ n < 10000000 ∧ Out A F H Q fun _ _ v => v = .str (S (TL.numL n))
abbrev spCheckTerms : Sp := fun vs H Q _ => ∃ (A : Amb) (F : Hp) (x : V) (t : Tm), vs = [x] ∧ Fz A F H ∧ rTm F x t ∧ OkT t ∧ Out A F H Q fun _ _ v => v = .non
abbrev spTermText : Sp := fun vs H Q _ => ∃ (A : Amb) (F : Hp) (p : Tt × Int), vs = [.str (S p.1), .int p.2.natAbs] ∧ Fz A F H ∧ OkP p ∧ Out A F H Q fun _ _ v => v = .str (S (bodyT p))
section
variable {P : Program} {w : World} {K : PySem.W.Frag} {mg : Str → Option Value} {base : Heap} {cs : Cs}
abbrev sReadNumber : Stmt := top 32
abbrev nReadNumber : List Str := ["word", "total", "sign"]
abbrev pReadNumber : List Str := ["word"]
theorem scReadNumber : FnScope nReadNumber pReadNumber (defScope sReadNumber) := ⟨rfl, rfl, rfl, by decide +kernel, rfl, by decide +kernel, by decide +kernel⟩

theorem c_read_number (D : Dn K mg "read_number" sReadNumber pReadNumber) (T : Tx K mg cs) : Cal P w K mg base 1 "read_number" spReadNumber := by
  refine cal_of D scReadNumber (fun vs H Q E h => ?_) (fun f cdv A outer s H vs Q E hr h => ?_)
  · obtain ⟨_, _, _, rfl, _⟩ := h
    rfl
  · obtain ⟨Am, F, n, rfl, Z, h1, h2, k⟩ := h
    have hl := numL_le h2
    have hp := numL_pos n
    refine ⟨_, (pss_cons (ps_if (PW.pt (pw_or (pt_cmpR op_eq (pv 0) pe_str (nomark _)) (pw_or (pt_not (pt_val (pe_callB (cr_all rfl) (by rfl) T.n_all (by decide +kernel) (pa_cons (pe_lcG (own := [("sign", 2)]) rfl scReadNumber.nd (pi_str (pv 0)) (blkOk_by (own := [("sign", 2)]) (N := nReadNumber) (sc := defScope sReadNumber) (by decide +kernel)) (fun _ _ _ _ _ => (pg_name (i := 2) scReadNumber.nd rfl (.inl rfl) (.inr rfl))) (fun _ _ _ _ _ => pts_nil) (fun _ _ _ _ _ => (pe_cmpR op_in_sign (pv 2) (pe_gc T.g_DIGITS) (by rfl)))) pa_nil)))) (pw_or1 (PW.pt (pw_and (pt_cmpR op_eq (pe_ix ix_str (pv 0) pe_int (fun _ _ => rfl)) pe_str (nomark _)) (pw_and1 (pt_cmpR op_ne (pv 0) pe_str (nomark _))))))))) (pss_one (ps_ret pe_non)) pss_nil)
      (pss_cons (ps_set (i := 1) scReadNumber.nd rfl (Or.inl rfl) pe_int)
      (pss_cons (ps_forG PassesOwn.never rfl (pi_str (pv 0)) (pg_name (i := 2) scReadNumber.nd rfl (.inl rfl) (.inr rfl))
        (pss_one (ps_set (i := 1) scReadNumber.nd rfl (Or.inl rfl) (pe_op op_add (pe_op op_mul pe_int (pv 1)) (pe_callTy call_int_str (by rfl) T.n_int (by decide +kernel) (pa_cons (pv 2) pa_nil))))))
      (pss_one (ps_ret (pv 1)))))), ?_⟩
    refine ⟨_, rfl, rfl, _, rfl, ?_⟩
    rw [lit_e, eqS, decide_eq_false (by intro e; rw [e] at hp; simp at hp)]
    refine iteF ?_
    refine ⟨_, rfl, _, rfl, ?_⟩
    refine lc_str (r := rBl) (l := TL.numL n) isD Z (by omega) (fun i d F1 H1 K1 hd G1 hK => ?_) (fun F1 H1 p G1 hr => ?_)
    · refine ⟨rfl, ?_⟩
      refine ⟨_, rfl, _, _, rfl, rfl, ?_⟩
      rw [in_digits]
      exact hK F1 H1 _ (Gr.refl G1.fz) rfl
    obtain ⟨_, xs, e, hx, hp1⟩ := hr
    cases e
    have e := paired_C hp1
    subst e
    refine ⟨p, _, rfl, G1.fz.L hx, _, rfl, ?_⟩
    have ea : ((TL.numL n).map isD).all id = true := by
      rw [List.all_map, List.all_eq_true]
      intro d hd
      have := numL_ok n d hd
      simp [isD]; omega
    rw [ea]
    refine iteF ?_
    obtain ⟨c, r, ec⟩ : ∃ c r, TL.numL n = c :: r := by
      cases e : TL.numL n with
      | nil => exact absurd e (TL.numL_ne n)
      | cons c r => exact ⟨c, r, rfl⟩
    refine ⟨_, rfl, _, _, _, rfl, rfl, sz (by rw [S_length]; omega), at0 (v := c) 0 rfl (by rw [S_cps, ec]; rfl), rfl, _, rfl, ?_⟩
    rw [sig, lit_0, eqS, decide_eq_false (by intro e; exact numL_head h1 c r ec (List.cons.inj e).1)]
    refine iteF ?_
    refine iteF ?_
    refine ⟨_, rfl, _, rfl, ?_⟩
    refine for_any walk_str (fun i σ H' => ∃ F' m, σ = [some (.str (S (TL.numL n))), some (.int (((TL.numL n).take i).foldl (fun (t : Int) (c : Nat) => 10 * t + ((c : Int) - 48)) 0)), m] ∧ Gr Am F H F' H') ⟨F1, _, rfl, G1⟩ (fun _ _ _ _ _ => trivial) ?_ ?_
    · rintro i x σ H2 H3 hi ⟨F2, m, rfl, G2⟩ ⟨rfl, d, hd, rfl⟩
      rw [S_get] at hd
      have dr := numL_ok n d (List.mem_of_getElem? hd)
      refine ⟨_, rfl, _, _, rfl, rfl, .inl ⟨by decide, by decide⟩, _, rfl, _, _, rfl, digit_text dr.1 dr.2, (by rw [sig, S_length]; show 1 ≤ 640; decide), _, _, rfl, rfl, ?_⟩
      refine ⟨F2, some (.str ⟨#[d]⟩), ?_, G2⟩
      rw [take_snoc hd, List.foldl_append]
      rfl
    · rintro σ H2 ⟨F2, m, rfl, G2⟩
      rw [S_size, List.take_length, fold_val]
      exact ⟨_, rfl, k _ _ _ G2 rfl⟩
abbrev sDigitsOf : Stmt := top 33
abbrev nDigitsOf : List Str := ["number"]
abbrev pDigitsOf : List Str := ["number"]
theorem scDigitsOf : FnScope nDigitsOf pDigitsOf (defScope sDigitsOf) := ⟨rfl, rfl, rfl, by decide +kernel, rfl, by decide +kernel, by decide +kernel⟩

theorem c_digits_of (D : Dn K mg "digits_of" sDigitsOf pDigitsOf) (T : Tx K mg cs) : Cal P w K mg base 1 "digits_of" spDigitsOf := by
  refine cal_of D scDigitsOf (fun vs H Q E h => ?_) (fun f cdv A outer s H vs Q E hr h => ?_)
  · obtain ⟨_, _, _, rfl, _⟩ := h
    rfl
  · obtain ⟨Am, F, n, rfl, Z, h1, k⟩ := h
    refine ⟨_, (pss_cons (ps_if (pt_cmpR op_lt (pv 0) (pe_gc T.g_BLOCK) (nomark _)) (pss_one (ps_ret (pe_callTy call_str_int (by rfl) T.n_str (by decide +kernel) (pa_cons (pv 0) pa_nil)))) pss_nil)
      pss_never), ?_⟩
    refine ⟨_, rfl, _, _, rfl, rfl, _, rfl, ?_⟩
    rw [decide_eq_true (by have : (10000000 : Int) < 10 ^ 30 := by decide
                           omega)]
    refine iteT ?_
    refine ⟨_, rfl, _, rfl, ?_, ?_⟩
    · show (n : Int).natAbs.log2 < 1920
      rw [Int.natAbs_natCast]
      have : n.log2 ≤ n := Nat.log2_le_self n
      by_cases e : n = 0
      · subst e; decide
      · have : n < 2 ^ 24 := by omega
        have := (Nat.log2_lt e).mpr this
        omega
    · refine k _ _ _ (Gr.refl Z) ?_
      have e : Str.ofString (toString (n : Int)) = S (TL.numL n) := TL.ext_tl (TL.tl_num n)
      show V.str (Str.ofString (toString (n : Int))) = _
      rw [e]
abbrev sCheckTerms : Stmt := top 35
abbrev nCheckTerms : List Str := ["terms", "index", "pair"]
abbrev pCheckTerms : List Str := ["terms"]
theorem scCheckTerms : FnScope nCheckTerms pCheckTerms (defScope sCheckTerms) := ⟨rfl, rfl, rfl, by decide +kernel, rfl, by decide +kernel, by decide +kernel⟩

theorem c_check_terms (D : Dn K mg "check_terms" sCheckTerms pCheckTerms) (T : Tx K mg cs) (c_is_name : Cal P w K mg base 1 "is_name" spIsName) (c_is_integer : Cal P w K mg base 1 "is_integer" spIsInteger) : Cal P w K mg base 2 "check_terms" spCheckTerms := by
  refine cal_of D scCheckTerms (fun vs H Q E h => ?_) (fun f cdv A outer s H vs Q E hr h => ?_)
  · obtain ⟨_, _, _, _, rfl, _⟩ := h
    rfl
  · obtain ⟨Am, F, x, t, rfl, Z, ⟨p, xs, rfl, hp, prd⟩, ok, k⟩ := h
    refine ⟨_, (pss_cons (ps_if (pt_not (pt_val (pe_callB (id := "isinstance") (r := rIsi K) call_isi (by rfl) T.n_isinstance (by decide +kernel) (pa_cons (pv 0) (pa_cons (pe_bltn (v := .ty "tuple") (by rfl) T.n_tuple (by decide +kernel) rfl) pa_nil))))) pss_never pss_nil)
      (pss_one (ps_forG PassesOwn.never rfl (pi_enumT (by rfl) T.n_enumerate (pa_cons (pv 0) pa_nil)) (pg_tupK K 2 rfl rfl (pgs_cons (pg_name (i := 1) scCheckTerms.nd rfl (.inl rfl) (.inr rfl)) (pgs_cons (pg_name (i := 2) scCheckTerms.nd rfl (.inl rfl) (.inr rfl)) pgs_nil)))
        (pss_one (ps_if (PW.pt (pw_or (pt_not (pt_val (pe_callB (id := "isinstance") (r := rIsi K) call_isi (by rfl) T.n_isinstance (by decide +kernel) (pa_cons (pv 2) (pa_cons (pe_bltn (v := .ty "tuple") (by rfl) T.n_tuple (by decide +kernel) rfl) pa_nil))))) (pw_or (pt_cmpR op_ne (pe_callB call_len_seq (by rfl) T.n_len (by decide +kernel) (pa_cons (pv 2) pa_nil)) pe_int (nomark _)) (pw_or (pt_not (pt_val (pe_c c_is_name hr (by decide) rfl (pa_cons (pe_ix (r := rIxT K) ix_tup (pv 2) pe_int (fun _ _ => rfl)) pa_nil)))) (pw_or1 (pt_not (pt_val (pe_c c_is_integer hr (by decide) rfl (pa_cons (pe_ix (r := rIxT K) ix_tup (pv 2) pe_int (fun _ _ => rfl)) pa_nil))))))))) pss_never pss_nil))))), ?_⟩
    refine ⟨_, rfl, _, _, _, _, true, rfl, .ty _, .base (.tup (Z.sub _ _ hp)), kit_ty (by decide +kernel), _, rfl, ?_⟩
    refine iteF ?_
    refine ⟨_, rfl, p, xs, rfl, Z.T hp, ?_⟩
    refine for_any walk_enumT (fun i σ H' => ∃ F' m1 m2, σ = [some (.ref p), m1, m2] ∧ Gr Am F H F' H') ⟨F, _, _, rfl, Gr.refl Z⟩ (fun i σ H' _ ⟨F', _, _, _, G⟩ => G.fz.T (G.ff _ _ hp)) ?_ ?_
    · rintro i v σ H1 H2 hi ⟨F1, m1, m2, rfl, G1⟩ ⟨U, y1, y2, rfl, hU, rfl, e1, e2⟩
      cases e1
      obtain ⟨⟨nm, c⟩, hd, rq⟩ := prd_get prd e2
      obtain ⟨q, a, b, rfl, hq, rfl, rfl⟩ := rq
      have okp := ok.ok _ (List.mem_of_getElem? hd)
      have G2 := G1.new (o := .tup [.int (i : Nat), .ref q]) hU
      have hq2 := G2.ff _ _ hq
      refine ⟨U, _, rfl, SqT.of upd_same, rfl, _, _, rfl, _, _, rfl, rfl, ?_⟩
      refine ⟨_, rfl, _, _, _, _, true, rfl, .ty _, .base (.tup (G2.fz.sub _ _ hq2)), kit_ty (by decide +kernel), _, rfl, ?_⟩
      refine iteF ?_
      refine ⟨_, rfl, q, _, rfl, .inr (G2.fz.T hq2), rfl, _, rfl, ?_⟩
      refine iteF ?_
      refine ⟨_, rfl, q, _, _, _, rfl, rfl, G2.fz.T hq2, rfl, ?_⟩
      refine ⟨Am, _, nm, rfl, G2.fz, okp.nm, fun F3 H3 v3 g3 e3 => ?_⟩
      subst e3
      refine ⟨_, rfl, iteF ?_⟩
      have hq3 := g3.ff _ _ hq2
      refine ⟨_, rfl, q, _, _, _, rfl, rfl, g3.fz.T hq3, rfl, ?_⟩
      refine ⟨Am, _, c, rfl, g3.fz, fun F4 H4 v4 g4 e4 => ?_⟩
      subst e4
      refine ⟨_, rfl, iteF ?_⟩
      exact ⟨F4, _, _, rfl, (G2.trans g3).trans g4⟩
    · rintro σ H1 ⟨F1, m1, m2, rfl, G1⟩
      exact k _ _ _ G1 rfl
abbrev sTermText : Stmt := top 38
abbrev nTermText : List Str := ["name", "size"]
abbrev pTermText : List Str := ["name", "size"]
theorem scTermText : FnScope nTermText pTermText (defScope sTermText) := ⟨rfl, rfl, rfl, by decide +kernel, rfl, by decide +kernel, by decide +kernel⟩

theorem c_term_text (D : Dn K mg "term_text" sTermText pTermText) (T : Tx K mg cs) (c_digits_of : Cal P w K mg base 1 "digits_of" spDigitsOf) : Cal P w K mg base 2 "term_text" spTermText := by
  refine cal_of D scTermText (fun vs H Q E h => ?_) (fun f cdv A outer s H vs Q E hr h => ?_)
  · obtain ⟨_, _, _, rfl, _⟩ := h
    rfl
  · obtain ⟨Am, F, p, rfl, Z, ok, k⟩ := h
    have l1 := okN_len ok.nm
    have l2 := numL_le ok.bd
    refine ⟨_, (pss_one (ps_ret (pe_ifExp (pt_cmpR op_eq (pv 1) pe_int (nomark _)) (pv 0) (pe_joined (.cons (pe_fmt (pe_c c_digits_of hr (by decide) rfl (pa_cons (pv 1) pa_nil))) (.cons pe_str (.cons (pe_fmt (pv 0)) .nil))))))), ?_⟩
    refine ⟨_, rfl, rfl, _, rfl, ?_⟩
    by_cases c : p.2.natAbs = 1
    · rw [decide_eq_true (by rw [c]; rfl)]
      refine iteT ⟨_, rfl, k _ _ _ (Gr.refl Z) ?_⟩
      unfold bodyT
      rw [if_pos c]
    · rw [decide_eq_false (by intro e; exact c (by have := V.int.inj e; omega))]
      refine iteF ?_
      refine ⟨_, rfl, Am, F, _, rfl, Z, ok.bd, fun F1 H1 v g e => ?_⟩
      subst e
      refine .inl ⟨_, rfl, sz (by rw [S_length]; omega), _, rfl, ?_, _, rfl, ?_, _, rfl, .inl ⟨_, rfl, sz (by rw [S_length]; omega), _, rfl, ?_, ?_⟩⟩
      · rw [emp, SX.S_cat, S_length]; exact sz (by simp; omega)
      · rw [emp, lit_star, SX.S_cat, SX.S_cat, S_length]; exact sz (by simp; omega)
      · rw [emp, lit_star, SX.S_cat, SX.S_cat, SX.S_cat, S_length]; exact sz (by simp; omega)
      · refine k _ _ _ g ?_
        rw [emp, lit_star, SX.S_cat, SX.S_cat, SX.S_cat]
        unfold bodyT
        rw [if_neg c]
        simp
end
end Rv
end

section
set_option Elab.async false
set_option autoImplicit false
set_option linter.all false
set_option maxRecDepth 100000
set_option maxHeartbeats 4000000
namespace Rv
open PySem L2 PyProof.Rows PySem.Spec
abbrev spTextOf : Sp := fun vs H Q _ => ∃ (A : Amb) (F : Hp) (x : V) (t : Tm), vs = [x] ∧ Fz A F H ∧ rTm F x t ∧ OkT t ∧ Out A F H Q fun _ _ v => v = .str (S (told t))
abbrev spReadTerm : Sp := fun vs H Q _ => ∃ (A : Amb) (F : Hp) (p : Tt × Int), vs = [.str (S (bodyT p))] ∧ Fz A F H ∧ OkP p ∧ Out A F H Q fun F' _ v => rPair F' v (p.1, (p.2.natAbs : Int))
abbrev spReadTerms : Sp := fun vs H Q _ => ∃ (A : Amb) (F : Hp) (t : Tm), vs = [.str (S (told t))] ∧ Fz A F H ∧ OkT t ∧ Out A F H Q fun F' _ v => rTm F' v t
theorem slice2 {l : Tt} : Txt.slice (S l) (some 2) none = S (l.drop 2) := SX.slice_from (by decide)
theorem slice1 {l : Tt} : Txt.slice (S l) (some 1) none = S (l.drop 1) := SX.slice_from (by decide)
theorem part_len {t : Tm} (h : ∀ p ∈ t, OkP p) : (((t.map partT).map S).map (·.length)).sum ≤ 18 * t.length := by
  induction t with
  | nil => simp
  | cons p r ih =>
    have := ih fun q hq => h q (List.mem_cons_of_mem _ hq)
    have b := bodyT_len (h p (List.mem_cons_self ..))
    simp only [List.map_cons, List.sum_cons, S_length, partT, List.length_cons] at *
    omega
section
variable {P : Program} {w : World} {K : PySem.W.Frag} {mg : Str → Option Value} {base : Heap} {cs : Cs}
abbrev sTextOf : Stmt := top 39
abbrev nTextOf : List Str := ["terms", "parts", "text", "name", "number"]
abbrev pTextOf : List Str := ["terms"]
theorem scTextOf : FnScope nTextOf pTextOf (defScope sTextOf) := ⟨rfl, rfl, rfl, by decide +kernel, rfl, by decide +kernel, by decide +kernel⟩

theorem c_text_of (D : Dn K mg "text_of" sTextOf pTextOf) (T : Tx K mg cs) (c_term_text : Cal P w K mg base 2 "term_text" spTermText) : Cal P w K mg base 3 "text_of" spTextOf := by
  refine cal_of D scTextOf (fun vs H Q E h => ?_) (fun f cdv A outer s H vs Q E hr h => ?_)
  · obtain ⟨_, _, _, _, rfl, _⟩ := h
    rfl
  · obtain ⟨Am, F, x, t, rfl, Z, ⟨p, xs, rfl, hp, prd⟩, ok, k⟩ := h
    refine ⟨_, (pss_cons (ps_if (pt_cmpR op_eq (pe_callB call_len_seq (by rfl) T.n_len (by decide +kernel) (pa_cons (pv 0) pa_nil)) pe_int (nomark _)) (pss_one (ps_ret pe_str)) pss_nil)
      (pss_cons (ps_setLcG (i := 1) (own := [("name", 3), ("number", 4)]) rfl scTextOf.nd rfl rfl (sw_true rfl rfl rfl (by decide +kernel)) (pi_tup (pv 0)) (blkOk_by (own := [("name", 3), ("number", 4)]) (N := nTextOf) (sc := defScope sTextOf) (by decide +kernel)) (fun _ _ _ _ _ => (pg_tupK K 2 rfl rfl (pgs_cons (pg_name (i := 3) scTextOf.nd rfl (.inl rfl) (.inr rfl)) (pgs_cons (pg_name (i := 4) scTextOf.nd rfl (.inl rfl) (.inr rfl)) pgs_nil)))) (fun _ _ _ _ _ => pts_nil) (fun _ _ _ _ _ => (pe_joined (.cons (pe_fmt (pe_ifExp (pt_cmpR op_lt (pv 4) pe_int (nomark _)) pe_str pe_str)) (.cons pe_str (.cons (pe_fmt (pe_c c_term_text hr (by decide) rfl (pa_cons (pv 3) (pa_cons (pe_callB call_abs (by rfl) T.n_abs (by decide +kernel) (pa_cons (pv 4) pa_nil)) pa_nil)))) .nil))))))
      (pss_cons (ps_set (i := 2) scTextOf.nd rfl (Or.inl rfl) (pe_join pe_str (pv 1)))
      (pss_one (ps_ret (pe_ifExp (pt_cmpR op_lt (pe_ix (r := rIxT K) ix_tup (pe_ix (r := rIxT K) ix_tup (pv 0) pe_int (fun _ _ => rfl)) pe_int (fun _ _ => rfl)) pe_int (nomark _)) (pe_joined (.cons pe_str (.cons (pe_fmt (pe_slice C8.sl_txt (pv 2) (po_some pe_int) po_none)) .nil))) (pe_slice C8.sl_txt (pv 2) (po_some pe_int) po_none))))))), ?_⟩
    refine ⟨_, rfl, p, xs, rfl, .inr (Z.T hp), rfl, _, rfl, ?_⟩
    cases t with
    | nil =>
      cases prd
      refine iteT ?_
      rw [lit_0]
      exact k _ _ _ (Gr.refl Z) rfl
    | cons q r =>
      have hl := prd_len prd
      rw [decide_eq_false (by intro e; have := V.int.inj e; rw [hl] at this; simp at this; omega)]
      refine iteF ?_
      refine ⟨_, rfl, p, rfl, ⟨_, Z.T hp⟩, ?_⟩
      refine lc_map (ra := rPair) (r := rS) partT walk_tup Z prd (fun F' H' g => g.fz.T (g.ff _ _ hp)) (by have := ok.ln; omega) ?_ ?_
      · rintro i x d F1 H1 K1 hd G1 ⟨a, y, z, rfl, ha, rfl, rfl⟩ hK
        have okd := ok.ok d (List.mem_of_getElem? hd)
        have b := bodyT_len okd
        refine ⟨a, _, rfl, G1.fz.T ha, rfl, _, _, rfl, _, _, rfl, rfl, rfl, ?_⟩
        have fin : ∀ F2 H2, Gr Am F1 H1 F2 H2 → K1 (.str (S (partT d))) H2 := fun F2 H2 g => hK F2 H2 _ g rfl
        refine ⟨_, rfl, _, _, rfl, rfl, _, rfl, ?_⟩
        have sg : (if d.2 < 0 then S [45] else S [43]) = S [sgnT d] := by unfold sgnT; split <;> rfl
        by_cases c : d.2 < 0
        · rw [decide_eq_true c]
          refine iteT (.inl ⟨_, rfl, ?_, _, rfl, ?_, _, rfl, ?_, _, rfl, _, rfl, _, rfl, Am, F1, d, ?_, G1.fz, okd, fun F2 H2 v g e => ?_⟩)
          all_goals rw [if_pos c] at sg
          · rw [lit_minus, S_length]; exact sz (by simp)
          · rw [emp, lit_minus, SX.S_cat, S_length]; exact sz (by simp)
          · rw [emp, lit_minus, lit_sp, SX.S_cat, SX.S_cat, S_length]; exact sz (by simp)
          · rw [if_pos c, show (-d.2 : Int) = (d.2.natAbs : Int) by omega]
          · subst e
            refine .inl ⟨_, rfl, sz (by rw [S_length]; omega), _, rfl, ?_, ?_⟩
            · rw [emp, lit_minus, lit_sp, SX.S_cat, SX.S_cat, SX.S_cat, S_length]; exact sz (by simp; omega)
            · have e2 : ((Str.empty ++ Str.ofString "-") ++ Str.ofString " ") ++ S (bodyT d) = S (partT d) := by
                rw [emp, lit_minus, lit_sp, SX.S_cat, SX.S_cat, SX.S_cat]
                unfold partT sgnT
                rw [if_pos c]; rfl
              have q := fin F2 H2 g
              rw [← e2] at q
              exact q
        · rw [decide_eq_false c]
          refine iteF (.inl ⟨_, rfl, ?_, _, rfl, ?_, _, rfl, ?_, _, rfl, _, rfl, _, rfl, Am, F1, d, ?_, G1.fz, okd, fun F2 H2 v g e => ?_⟩)
          · rw [lit_plus, S_length]; exact sz (by simp)
          · rw [emp, lit_plus, SX.S_cat, S_length]; exact sz (by simp)
          · rw [emp, lit_plus, lit_sp, SX.S_cat, SX.S_cat, S_length]; exact sz (by simp)
          · rw [if_neg c, show (d.2.natAbs : Int) = d.2 by omega]
          · subst e
            refine .inl ⟨_, rfl, sz (by rw [S_length]; omega), _, rfl, ?_, ?_⟩
            · rw [emp, lit_plus, lit_sp, SX.S_cat, SX.S_cat, SX.S_cat, S_length]; exact sz (by simp; omega)
            · have e2 : ((Str.empty ++ Str.ofString "+") ++ Str.ofString " ") ++ S (bodyT d) = S (partT d) := by
                rw [emp, lit_plus, lit_sp, SX.S_cat, SX.S_cat, SX.S_cat]
                unfold partT sgnT
                rw [if_neg c]; rfl
              have q := fin F2 H2 g
              rw [← e2] at q
              exact q
      · rintro F1 H1 u G1 ⟨u2, ys, e, hu, prd1⟩
        cases e
        have ey := paired_C prd1
        subst ey
        have em : (((q :: r).map partT).map fun l => V.str (S l)) = (((q :: r).map partT).map S).map V.str := by simp
        rw [em] at hu
        refine ⟨⟨_, rfl⟩, _, rfl, _, u, _, rfl, rfl, .inl (G1.fz.L hu), ?_, ?_⟩
        · have a := part_len ok.ok
          have b := ok.ln
          rw [lit_sp, S_length]
          simp only [List.length_map, List.length_cons, List.length_nil] at *
          omega
        have lb : (lineT q r).length ≤ 250 := by
          have a := bodyT_len (ok.ok q (List.mem_cons_self ..))
          have b := tailT_len (t := r) fun z hz => ok.ok z (List.mem_cons_of_mem _ hz)
          have := ok.ln
          simp only [lineT, List.length_cons, List.length_append] at *
          omega
        have ej : Txt.join (Str.ofString " ") (((q :: r).map partT).map S) = S (lineT q r) := by
          rw [lit_sp, SX.join_S, join_parts]
        obtain ⟨x0, e0, rx0⟩ := prd_get2 prd (i := 0) (d := q) rfl
        obtain ⟨a, y, z, rfl, ha, rfl, rfl⟩ := rx0
        refine ⟨_, rfl, p, _, _, _, rfl, rfl, G1.fz.T (G1.ff _ _ hp), at0 0 rfl e0, a, _, _, _, rfl, rfl, G1.fz.T (G1.ff _ _ ha), rfl, _, _, rfl, rfl, _, rfl, ?_⟩
        have ed := told_cons q r
        by_cases c : q.2 < 0
        · rw [decide_eq_true c]
          refine iteT ⟨_, rfl, ?_, _, rfl, _, rfl, _, rfl, ?_, .inl ⟨_, rfl, ?_, _, rfl, ?_, ?_⟩⟩
          all_goals (try rw [ej])
          · rw [emp, lit_minus, SX.S_cat, S_length]; exact sz (by simp)
          · rw [S_length]; exact sz (by omega)
          · rw [slice2, S_length]; exact sz (by rw [List.length_drop]; omega)
          · rw [slice2, emp, lit_minus, SX.S_cat, SX.S_cat, S_length]; exact sz (by simp; omega)
          · refine k _ _ _ G1 ?_
            rw [slice2, emp, lit_minus, SX.S_cat, SX.S_cat, ed, if_pos c]; rfl
        · rw [decide_eq_false c]
          refine iteF ⟨_, rfl, _, rfl, _, rfl, ?_, ?_⟩
          all_goals (try rw [ej])
          · rw [S_length]; exact sz (by omega)
          · refine k _ _ _ G1 ?_
            rw [slice2, ed, if_neg c]
abbrev sReadTerm : Stmt := top 40
abbrev nReadTerm : List Str := ["word", "first", "star", "last", "size"]
abbrev pReadTerm : List Str := ["word"]
theorem scReadTerm : FnScope nReadTerm pReadTerm (defScope sReadTerm) := ⟨rfl, rfl, rfl, by decide +kernel, rfl, by decide +kernel, by decide +kernel⟩

theorem c_read_term (D : Dn K mg "read_term" sReadTerm pReadTerm) (T : Tx K mg cs) (c_is_name : Cal P w K mg base 1 "is_name" spIsName) (c_read_number : Cal P w K mg base 1 "read_number" spReadNumber) : Cal P w K mg base 2 "read_term" spReadTerm := by
  refine cal_of D scReadTerm (fun vs H Q E h => ?_) (fun f cdv A outer s H vs Q E hr h => ?_)
  · obtain ⟨_, _, _, rfl, _⟩ := h
    rfl
  · obtain ⟨Am, F, p, rfl, Z, ok, k⟩ := h
    have b := bodyT_len ok
    have pb := part_body ok
    refine ⟨_, (pss_cons (ps_asg (pe_partition (pv 0) pe_str) (pg_tupK K 3 rfl rfl (pgs_cons (pg_name (i := 1) scReadTerm.nd rfl (.inl rfl) (.inr rfl)) (pgs_cons (pg_name (i := 2) scReadTerm.nd rfl (.inl rfl) (.inr rfl)) (pgs_cons (pg_name (i := 3) scReadTerm.nd rfl (.inl rfl) (.inr rfl)) pgs_nil)))))
      (pss_cons (ps_if (pt_cmpR op_eq (pv 2) pe_str (nomark _)) (pss_one (ps_ret (pe_ifExp (pt_val (pe_c c_is_name hr (by decide) rfl (pa_cons (pv 0) pa_nil))) (pe_tup (pa_cons (pv 0) (pa_cons pe_int pa_nil))) pe_non))) pss_nil)
      (pss_cons (ps_set (i := 4) scReadTerm.nd rfl (Or.inl rfl) (pe_c c_read_number hr (by decide) rfl (pa_cons (pv 1) pa_nil)))
      (pss_one (ps_ret (pe_ifExp (PW.pt (pw_or (pt_cmpR op_isN (pv 4) pe_non (nomark _)) (pw_or1 (pt_not (pt_val (pe_c c_is_name hr (by decide) rfl (pa_cons (pv 3) pa_nil))))))) pe_non (pe_tup (pa_cons (pv 3) (pa_cons (pv 4) pa_nil))))))))), ?_⟩
    refine ⟨_, rfl, ⟨_, rfl⟩, _, _, rfl, rfl, (by rw [lit_star, S_length]; rfl), sz (by rw [S_length]; omega), fun q hq => ?_⟩
    rw [lit_star, pb]
    have G := (Gr.refl Z).new hq (o := .tup [.str (if p.2.natAbs = 1 then (S p.1, S [], S []) else (S (TL.numL p.2.natAbs), S [42], S p.1)).1, .str (if p.2.natAbs = 1 then (S p.1, S [], S []) else (S (TL.numL p.2.natAbs), S [42], S p.1)).2.1, .str (if p.2.natAbs = 1 then (S p.1, S [], S []) else (S (TL.numL p.2.natAbs), S [42], S p.1)).2.2])
    refine ⟨q, _, rfl, SqT.of upd_same, rfl, _, _, rfl, _, _, rfl, _, _, rfl, rfl, ?_⟩
    refine ⟨_, rfl, rfl, _, rfl, ?_⟩
    rw [lit_e]
    by_cases c : p.2.natAbs = 1
    · rw [if_pos c] at G ⊢
      rw [eqS, decide_eq_true rfl]
      refine iteT ?_
      have eb : bodyT p = p.1 := by unfold bodyT; rw [if_pos c]
      refine ⟨_, rfl, Am, _, p.1, (by rw [eb]), G.fz, ok.nm, fun F2 H2 v g e => ?_⟩
      subst e
      refine ⟨_, rfl, iteT ?_⟩
      refine ⟨_, rfl, (by show 2 ≤ sizeLine; decide), fun u hu => ?_⟩
      rw [eb]
      exact k _ _ _ ((G.trans g).new hu) ⟨u, _, _, rfl, upd_same, rfl, by rw [c]; rfl⟩
    · rw [if_neg c] at G ⊢
      rw [eqS, decide_eq_false (by simp)]
      refine iteF ?_
      refine ⟨_, rfl, Am, _, p.2.natAbs, rfl, G.fz, (by have := ok.nz; omega), ok.bd, fun F2 H2 v g e => ?_⟩
      subst e
      refine ⟨_, rfl, rfl, _, rfl, iteF ?_⟩
      refine ⟨_, rfl, Am, F2, p.1, rfl, g.fz, ok.nm, fun F3 H3 v3 g3 e3 => ?_⟩
      subst e3
      refine ⟨_, rfl, iteF ?_⟩
      refine ⟨_, rfl, _, rfl, (by show 2 ≤ sizeLine; decide), fun u hu => ?_⟩
      exact k _ _ _ (((G.trans g).trans g3).new hu) ⟨u, _, _, rfl, upd_same, rfl, rfl⟩
end
end Rv
end

section
set_option Elab.async false
set_option autoImplicit false
set_option linter.all false
set_option maxRecDepth 100000
set_option maxHeartbeats 4000000
namespace Rv
open PySem L2 PyProof.Rows PySem.Spec
theorem starts45 (c : Nat) (l : Tt) : Txt.startswith (S (c :: l)) (S [45]) = decide (c = 45) := by
  have h := PySem.StrLaws.subAt_one (S (c :: l)) 45 0
  rw [S_cps] at h
  show (decide (0 + (S [45]).length ≤ (S (c :: l)).length) && Builtin.Str.subAt (S (c :: l)) (S [45]) 0) = _
  apply Bool.eq_iff_iff.mpr
  rw [Bool.and_eq_true, decide_eq_true_eq, decide_eq_true_eq]
  refine Iff.trans h ?_
  simp
theorem inV_str {a : Str} : ∀ {l : List Str}, inV (V.str a) (l.map V.str) = decide (a ∈ l)
  | [] => rfl
  | b :: l => by
    show (b == a || inV (V.str a) (l.map V.str)) = _
    rw [inV_str]
    apply Bool.eq_iff_iff.mpr
    simp only [Bool.or_eq_true, beq_iff_eq, decide_eq_true_eq, List.mem_cons]
    exact ⟨fun h => h.imp Eq.symm (fun h => h), fun h => h.imp Eq.symm (fun h => h)⟩
theorem inV_S {a : Tt} {l : List Tt} : inV (V.str (S a)) (l.map fun x => V.str (S x)) = decide (a ∈ l) := by
  have e : (l.map fun x => V.str (S x)) = (l.map S).map V.str := by simp
  rw [e, inV_str]
  apply Bool.eq_iff_iff.mpr
  simp only [decide_eq_true_eq, List.mem_map]
  exact ⟨fun ⟨x, h, e⟩ => by rw [← SX.S_inj e]; exact h, fun h => ⟨a, h, rfl⟩⟩
theorem flat_strs {l : List Str} : (l.map V.str).all flatV = true := by simp [flatV]
theorem flat_S {l : List Tt} : (l.map fun x => V.str (S x)).all flatV = true := by simp [flatV]
theorem rgc2 {m : Nat} (h1 : 1 ≤ m) (h2 : m ≤ 10) : RgC 0 (((2 * m : Nat) : Int) - 1) 2 m := by
  have : m = 1 ∨ m = 2 ∨ m = 3 ∨ m = 4 ∨ m = 5 ∨ m = 6 ∨ m = 7 ∨ m = 8 ∨ m = 9 ∨ m = 10 := by omega
  rcases this with e | e | e | e | e | e | e | e | e | e <;> (subst e; exact ⟨by decide, by decide, by decide +kernel, by decide +kernel⟩)
theorem viaV {t : TE} {σ : L2.St} {H : Hp} {Q : VK} (v : V) (h : ∀ Q : VK, Q v H → t σ H Q) (k : Q v H) : t σ H Q := h Q k
section
variable {P : Program} {w : World} {K : PySem.W.Frag} {mg : Str → Option Value} {base : Heap} {cs : Cs}
abbrev sReadTerms : Stmt := top 41
abbrev nReadTerms : List Str := ["text", "line", "words", "pairs", "at", "term"]
abbrev pReadTerms : List Str := ["text"]
theorem scReadTerms : FnScope nReadTerms pReadTerms (defScope sReadTerms) := ⟨rfl, rfl, rfl, by decide +kernel, rfl, by decide +kernel, by decide +kernel⟩

theorem c_read_terms (D : Dn K mg "read_terms" sReadTerms pReadTerms) (T : Tx K mg cs) (c_read_term : Cal P w K mg base 2 "read_term" spReadTerm) (c_merged : Cal P w K mg base 1 "merged" spMerged) (c_text_of : Cal P w K mg base 3 "text_of" spTextOf) : Cal P w K mg base 4 "read_terms" spReadTerms := by
  refine cal_of D scReadTerms (fun vs H Q E h => ?_) (fun f cdv A outer s H vs Q E hr h => ?_)
  · obtain ⟨_, _, _, rfl, _⟩ := h
    rfl
  · obtain ⟨Am, F, t, rfl, Z, ok, k⟩ := h
    refine ⟨_, (pss_cons (ps_if (pt_not (pt_val (pe_callB (id := "isinstance") (r := rIsi K) call_isi (by rfl) T.n_isinstance (by decide +kernel) (pa_cons (pv 0) (pa_cons (pe_bltn (v := .ty "str") (by rfl) T.n_str (by decide +kernel) rfl) pa_nil))))) (pss_one (ps_ret pe_non)) pss_nil)
      (pss_cons (ps_if (pt_cmpR op_eq (pv 0) pe_str (nomark _)) (pss_one (ps_ret (pe_tup pa_nil))) pss_nil)
      (pss_cons (ps_set (i := 1) scReadTerms.nd rfl (Or.inl rfl) (pe_ifExp (pt_val (pe_m1 PySem.F.slot_str_startswith PySem.F.type_str_startswith mt_startswith (pv 0) pe_str)) (pe_joined (.cons pe_str (.cons (pe_fmt (pe_slice C8.sl_txt (pv 0) (po_some pe_int) po_none)) .nil))) (pe_joined (.cons pe_str (.cons (pe_fmt (pv 0)) .nil)))))
      (pss_cons (ps_set (i := 2) scReadTerms.nd rfl (Or.inl rfl) (pe_split (pv 1) pe_str))
      (pss_cons (ps_set (i := 3) scReadTerms.nd rfl (Or.inl rfl) (pe_lst pa_nil))
      (pss_cons (ps_forG PassesOwn.never rfl (pi_range3 (by rfl) T.n_range (pa_cons pe_int (pa_cons (pe_op op_sub (pe_callB call_len_seq (by rfl) T.n_len (by decide +kernel) (pa_cons (pv 2) pa_nil)) pe_int) (pa_cons pe_int pa_nil)))) (pg_name (i := 4) scReadTerms.nd rfl (.inl rfl) (.inr rfl))
        (pss_cons (ps_set (i := 5) scReadTerms.nd rfl (Or.inl rfl) (pe_c c_read_term hr (by decide) rfl (pa_cons (pe_ix (r := rIxL K) ix_list (pv 2) (pe_op op_add (pv 4) pe_int) (fun _ _ => rfl)) pa_nil)))
      (pss_cons (ps_if (PW.pt (pw_or (pt_cmpR (r := rIn K true) op_notIn_seq (pe_ix (r := rIxL K) ix_list (pv 2) (pv 4) (fun _ _ => rfl)) (pe_tup (pa_cons pe_str (pa_cons pe_str pa_nil))) (by first | exact nomark _ | rfl)) (pw_or1 (pt_cmpR op_isN (pv 5) pe_non (nomark _))))) (pss_one (ps_ret pe_non)) pss_nil)
      (pss_one (ps_expr (pe_bm PySem.F.plainAttrs_list PySem.F.slot_list_append PySem.F.type_list_append mt_append (pv 3) (pa_cons (pe_tup (pa_cons (pe_ix (r := rIxT K) ix_tup (pv 5) pe_int (fun _ _ => rfl)) (pa_cons (pe_ifExp (pt_cmpR op_eq (pe_ix (r := rIxL K) ix_list (pv 2) (pv 4) (fun _ _ => rfl)) pe_str (nomark _)) (pe_ix (r := rIxT K) ix_tup (pv 5) pe_int (fun _ _ => rfl)) (pe_un un_neg (pe_ix (r := rIxT K) ix_tup (pv 5) pe_int (fun _ _ => rfl)))) pa_nil))) pa_nil)))))))
      (pss_one (ps_ret (pe_ifExp (pt_cmpR op_eq (pe_c c_text_of hr (by decide) rfl (pa_cons (pe_c c_merged hr (by decide) rfl (pa_cons (pv 3) pa_nil)) pa_nil)) (pv 0) (nomark _)) (pe_callTy call_tuple_of (by rfl) T.n_tuple (by decide +kernel) (pa_cons (pv 3) pa_nil)) pe_non))))))))), ?_⟩
    refine ⟨_, rfl, _, _, _, _, true, rfl, .ty _, .base (.str _), kit_ty (by decide +kernel), _, rfl, ?_⟩
    refine iteF ?_
    refine ⟨_, rfl, rfl, _, rfl, ?_⟩
    rw [lit_0, eqS]
    cases t with
    | nil =>
      rw [decide_eq_true (show told [] = [48] from rfl)]
      refine iteT ⟨by show 0 ≤ sizeLine; decide, fun p hp => ?_⟩
      exact k _ _ _ ((Gr.refl Z).new hp) ⟨p, [], rfl, upd_same, .nil⟩
    | cons q r =>
      rw [decide_eq_false (told_ne0 ok)]
      refine iteF ?_
      have tl := told_len ok
      have hln := ok.ln
      have lb : (lineT q r).length ≤ 250 := by
        have a := bodyT_len (ok.ok q (List.mem_cons_self ..))
        have b := tailT_len (t := r) fun z hz => ok.ok z (List.mem_cons_of_mem _ hz)
        simp only [lineT, List.length_cons, List.length_append] at *
        omega
      have ed := told_cons q r
      have ew := split_line ok
      have wl := words_len (q :: r)
      have el2 : lineT q r = sgnT q :: 32 :: (lineT q r).drop 2 := rfl
      have l0 : (told (q :: r)).length ≤ 200 := tl.2
      dsimp only [tNext, tSeq, tAsg]
      refine viaV (t := tIf _ _ _) (.str (S (lineT q r))) (fun Q1 hQ => ?_) ?_
      · refine ⟨_, rfl, ⟨_, rfl⟩, _, _, rfl, rfl, _, rfl, ?_⟩
        rw [lit_minus]
        by_cases c : q.2 < 0
        · rw [if_pos c] at ed
          rw [ed, starts45, decide_eq_true rfl]
          refine iteT ⟨_, rfl, ?_, _, rfl, _, rfl, _, rfl, ?_, .inl ⟨_, rfl, ?_, _, rfl, ?_, ?_⟩⟩
          · rw [emp, lit_ms, SX.S_cat, S_length]; exact sz (by simp)
          · rw [← ed, S_length]; exact sz (by omega)
          · rw [slice1, S_length]; exact sz (by simp; omega)
          · rw [slice1, emp, lit_ms, SX.S_cat, SX.S_cat, S_length]; exact sz (by simp; omega)
          · rw [slice1, emp, lit_ms, SX.S_cat, SX.S_cat]
            have e : [] ++ [45, 32] ++ List.drop 1 (45 :: List.drop 2 (lineT q r)) = lineT q r := by
              rw [el2]; unfold sgnT; rw [if_pos c]; rfl
            rw [e]; exact hQ
        · obtain ⟨d, l, e1, e2⟩ := told_head ok c
          rw [if_neg c] at ed
          rw [e1, starts45, decide_eq_false e2, ← e1]
          refine iteF ⟨_, rfl, ?_, _, rfl, .inl ⟨_, rfl, ?_, _, rfl, ?_, ?_⟩⟩
          · rw [emp, lit_ps, SX.S_cat, S_length]; exact sz (by simp)
          · rw [S_length]; exact sz (by omega)
          · rw [emp, lit_ps, SX.S_cat, SX.S_cat, S_length]; exact sz (by simp; omega)
          · rw [emp, lit_ps, SX.S_cat, SX.S_cat, ed]
            have e : [] ++ [43, 32] ++ List.drop 2 (lineT q r) = lineT q r := by
              rw [el2]; unfold sgnT; rw [if_neg c]; rfl
            rw [e]; exact hQ
      refine ⟨_, rfl, ⟨_, rfl⟩, _, _, rfl, rfl, (by rw [lit_sp, S_length]; rfl), (by rw [S_length]; exact sz (by omega)), fun pw hpw => ?_⟩
      rw [lit_sp, ew]
      have Gw := (Gr.refl Z).new (o := .lst (((wordsT (q :: r)).map S).map V.str)) hpw
      refine ⟨by show 0 ≤ sizeLine; decide, fun l hl => ?_⟩
      have G0 := Gw.own (o := .lst []) hl
      have hlF := Gw.fz.free hl
      have hlH := Gw.free hl
      have hl1 : 1 ≤ (q :: r).length := by simp
      generalize ht : q :: r = t at *
      have hw2 : (((wordsT t).map S).map V.str).length = 2 * t.length := by simp; omega
      refine ⟨_, rfl, pw, _, rfl, .inl (G0.fz.L upd_same), _, _, rfl, rfl, _, _, _, t.length, rfl, (by rw [hw2]; exact rgc2 hl1 hln), ?_⟩
      refine for_any walk_rangeC (fun i σ H' => ∃ F' xs m1 m2, σ = [some (.str (S (told t))), some (.str (S (lineT q r))), some (.ref pw), some (.ref l), m1, m2] ∧ Gr Am (upd F pw (.lst (((wordsT t).map S).map V.str))) (upd H pw (.lst (((wordsT t).map S).map V.str))) F' H' ∧ F' l = none ∧ H' l = some (.lst xs) ∧ PySem.Paired (rPair F') xs (t.take i)) ⟨_, [], _, _, rfl, (Gr.refl Gw.fz).own hl, hlF, upd_same, .nil⟩ (fun _ _ _ _ _ => trivial) ?_ ?_
      · rintro i x σ H1 H2 hi ⟨F1, xs, m1, m2, rfl, G1, hF1, hH1, prd⟩ ⟨rfl, rfl⟩
        obtain ⟨p, hp⟩ : ∃ p, t[i]? = some p := ⟨t[i], by simp [hi]⟩
        have okp := ok.ok p (List.mem_of_getElem? hp)
        obtain ⟨w1, w2⟩ := words_get hp
        have v1 : (((wordsT t).map S).map V.str)[2 * i]? = some (V.str (S [sgnT p])) := by simp [w1]
        have v2 : (((wordsT t).map S).map V.str)[2 * i + 1]? = some (V.str (S (bodyT p))) := by simp [w2]
        have fw : F1 pw = some (.lst (((wordsT t).map S).map V.str)) := G1.ff _ _ upd_same
        have lS := Gw.fz.notS hl
        have iw1 : atI (((wordsT t).map S).map V.str) (0 + (i : Nat) * 2 + 1) = some (V.str (S (bodyT p))) := at0 (2 * i + 1) (by omega) v2
        refine ⟨_, rfl, _, rfl, _, _, rfl, rfl, pw, _, _, _, rfl, rfl, G1.fz.L fw, iw1, ?_⟩
        refine ⟨Am, F1, p, rfl, G1.fz, okp, fun F2 H2 v g2 rv => ?_⟩
        obtain ⟨a, y, z, rfl, ha, rfl, rfl⟩ := rv
        obtain ⟨hH2, hF2⟩ := g2.cell lS hH1 hF1
        have fw2 := g2.ff _ _ fw
        have iw : atI (((wordsT t).map S).map V.str) (0 + (i : Nat) * 2) = some (V.str (S [sgnT p])) := at0 (2 * i) (by omega) v1
        refine ⟨_, rfl, _, rfl, pw, _, _, _, rfl, rfl, g2.fz.L fw2, iw, (by show 2 ≤ sizeLine; decide), fun u hu => ?_⟩
        have g3 := g2.new (o := .tup [.str (Str.ofString "+"), .str (Str.ofString "-")]) hu
        obtain ⟨hH3, hF3⟩ := g3.cell lS hH1 hF1
        have fw3 := g3.ff _ _ fw
        have ha3 : upd F2 u (.tup [.str (Str.ofString "+"), .str (Str.ofString "-")]) a = _ := same_new (g2.fz.free hu) _ _ ha
        refine ⟨u, _, rfl, .inr (SqT.of upd_same), rfl, rfl, _, rfl, ?_⟩
        have e1 : inV (V.str (S [sgnT p])) [.str (Str.ofString "+"), .str (Str.ofString "-")] = true := by
          rw [lit_plus, lit_minus]
          have : inV (V.str (S [sgnT p])) ([[43], [45]].map fun x => V.str (S x)) = decide ([sgnT p] ∈ [[43], [45]]) := inV_S
          refine this.trans (decide_eq_true ?_)
          unfold sgnT
          split <;> simp
        simp only [e1]
        refine iteF ?_
        refine ⟨_, rfl, rfl, _, rfl, iteF ?_⟩
        have iw3 : atI (((wordsT t).map S).map V.str) (0 + (i : Nat) * 2) = some (V.str (S [sgnT p])) := iw
        have ne : l ≠ u := ne_of_none hH2 hu
        refine ⟨_, rfl, .inl ⟨rfl, _, SqL.of hH3⟩, _, rfl, a, _, _, _, rfl, rfl, g3.fz.T ha3, rfl, ?_⟩
        refine viaV (t := tIf _ _ _) (.int p.2) (fun Q1 hQ => ?_) ?_
        · refine ⟨_, rfl, _, rfl, pw, _, _, _, rfl, rfl, g3.fz.L fw3, iw3, rfl, _, rfl, ?_⟩
          rw [lit_plus] at hQ ⊢
          rw [eqS]
          by_cases c : p.2 < 0
          · rw [decide_eq_false (by unfold sgnT; rw [if_pos c]; simp)]
            refine iteF ⟨_, rfl, a, _, _, _, rfl, rfl, g3.fz.T ha3, rfl, _, rfl, ?_⟩
            show Q1 (V.int (-(p.2.natAbs : Int))) _
            rw [show -(p.2.natAbs : Int) = p.2 by omega]; exact hQ
          · rw [decide_eq_true (by unfold sgnT; rw [if_neg c])]
            refine iteT ⟨_, rfl, a, _, _, _, rfl, rfl, g3.fz.T ha3, rfl, ?_⟩
            show Q1 (V.int (p.2.natAbs : Int)) _
            rw [show (p.2.natAbs : Int) = p.2 by omega]; exact hQ
        refine ⟨by show 2 ≤ sizeLine; decide, fun y hy => ?_⟩
        have g4 := g3.new (o := .tup [.str (S p.1), .int p.2]) hy
        obtain ⟨hH4, hF4⟩ := g4.cell lS hH1 hF1
        have hlen := prd_len prd
        refine ⟨l, xs, _, rfl, rfl, hH4, szlt (by rw [hlen, List.length_take]; omega), ?_⟩
        refine ⟨_, _, _, _, rfl, (G1.trans g4).put hl hF4, hF4, upd_same, ?_⟩
        rw [take_snoc hp]
        exact PySem.Paired.snoc (prd_up g4.ff prd) ⟨y, _, _, rfl, upd_same, rfl, rfl⟩
      · rintro σ H1 ⟨F1, xs, m1, m2, rfl, G1, hF1, hH1, prd⟩
        rw [List.take_length] at prd
        have G2 := G1.frz hl hF1 hH1
        have rl : rPr (upd F1 l (.lst xs)) (.ref l) t := ⟨l, xs, rfl, upd_same, prd_up (same_new hF1) prd⟩
        refine ⟨_, rfl, Am, _, _, t, rfl, G2.fz, .inr rl, ok, fun F3 H3 v3 g3 r3 => ?_⟩
        refine ⟨Am, _, _, t, rfl, g3.fz, r3, ok, fun F4 H4 v4 g4 e4 => ?_⟩
        subst e4
        refine ⟨_, rfl, rfl, _, rfl, ?_⟩
        rw [decide_eq_true rfl]
        obtain ⟨_, ys, e, hl2, prd2⟩ := (MonoR.up (g3.trans g4).ff rl : rPr F4 (.ref l) t)
        cases e
        refine iteT ⟨_, rfl, l, _, rfl, .inl ⟨g4.fz.L hl2, fun u hu => ?_⟩⟩
        exact k _ _ _ ((((Gw.trans G2).trans g3).trans g4).new hu) ⟨u, ys, rfl, upd_same, prd_up (same_new (g4.fz.free hu)) prd2⟩
end
end Rv
end

section
set_option Elab.async false
set_option autoImplicit false
set_option linter.all false
set_option maxRecDepth 100000
set_option maxHeartbeats 4000000
namespace Rv
open PySem L2 PyProof.Rows PySem.Spec
/-! ### Sum, Pipe, Meter -/
abbrev rSum (cs : Cs) : Rl Tm := rO1 cs.sum "kept" rTm
abbrev rPipe (cs : Cs) : Rl (Tt × Tt × Tt) := rO1 cs.pipe "kept" (rT3 rS rS rS)
abbrev rMeter (cs : Cs) : Rl (Tt × Tt × Bool) := rO1 cs.meter "kept" (rT3 rS rS rBl)
abbrev spSumInit (cs : Cs) : Sp := fun vs H Q _ => ∃ (A : Amb) (F : Hp) (x : Addr) (v : V) (t : Tm) (dx : Addr), vs = [.ref x, v] ∧ Fz A F H ∧ rTm F v t ∧ OkT t ∧ F x = none ∧ ¬ A.S x ∧ H x = some (.ins cs.sum dx []) ∧
  InitQ A F H cs.sum x dx Q fun F' fs => ∃ kv, fs = [(("kept" : Str), kv)] ∧ rTm F' kv t
abbrev spSumRead (cs : Cs) : Sp := fun vs H Q _ => ∃ (A : Amb) (F : Hp) (t : Tm), vs = [.ref cs.sum, .str (S (told t))] ∧ Fz A F H ∧ OkT t ∧ Out A F H Q fun F' _ v => rSum cs F' v t
abbrev spSumTerms (cs : Cs) : Sp := fun vs H Q _ => ∃ (A : Amb) (F : Hp) (x : V) (t : Tm), vs = [x] ∧ Fz A F H ∧ rSum cs F x t ∧ Out A F H Q fun F' _ v => rTm F' v t
abbrev spSumNames (cs : Cs) : Sp := fun vs H Q _ => ∃ (A : Amb) (F : Hp) (x : V) (t : Tm), vs = [x] ∧ Fz A F H ∧ rSum cs F x t ∧ t.length ≤ 10 ∧ Out A F H Q fun F' _ v => rTup rS F' v (t.map (·.1))
abbrev spPipeInit (cs : Cs) : Sp := fun vs H Q _ => ∃ (A : Amb) (F : Hp) (x : Addr) (a b c : Tt) (dx : Addr), vs = [.ref x, .str (S a), .str (S b), .str (S c)] ∧ Fz A F H ∧ okN a = true ∧ okN b = true ∧ okN c = true ∧ b ≠ c ∧ F x = none ∧ ¬ A.S x ∧ H x = some (.ins cs.pipe dx []) ∧
  InitQ A F H cs.pipe x dx Q fun F' fs => ∃ kv, fs = [(("kept" : Str), kv)] ∧ rT3 rS rS rS F' kv (a, b, c)
abbrev spMeterInit (cs : Cs) : Sp := fun vs H Q _ => ∃ (A : Amb) (F : Hp) (x : Addr) (a b : Tt) (c : Bool) (dx : Addr), vs = [.ref x, .str (S a), .str (S b), .bl c] ∧ Fz A F H ∧ okN a = true ∧ okN b = true ∧ F x = none ∧ ¬ A.S x ∧ H x = some (.ins cs.meter dx []) ∧
  InitQ A F H cs.meter x dx Q fun F' fs => ∃ kv, fs = [(("kept" : Str), kv)] ∧ rT3 rS rS rBl F' kv (a, b, c)
abbrev spPipeGet (cs : Cs) (f : Tt × Tt × Tt → Tt) : Sp := fun vs H Q _ => ∃ (A : Amb) (F : Hp) (x : V) (t : Tt × Tt × Tt), vs = [x] ∧ Fz A F H ∧ rPipe cs F x t ∧ Out A F H Q fun _ _ v => v = .str (S (f t))
abbrev spMeterGet (cs : Cs) (f : Tt × Tt × Bool → V) : Sp := fun vs H Q _ => ∃ (A : Amb) (F : Hp) (x : V) (t : Tt × Tt × Bool), vs = [x] ∧ Fz A F H ∧ rMeter cs F x t ∧ Out A F H Q fun _ _ v => v = f t
section
variable {P : Program} {w : World} {K : PySem.W.Frag} {mg : Str → Option Value} {base : Heap} {cs : Cs}
abbrev sSumInit : Stmt := inClass (top 42) 0
abbrev nSumInit : List Str := ["self", "terms"]
abbrev pSumInit : List Str := ["self", "terms"]
theorem scSumInit : FnScope nSumInit pSumInit (defScope sSumInit) := ⟨rfl, rfl, rfl, by decide +kernel, rfl, by decide +kernel, by decide +kernel⟩

theorem k_Sum (D : MkD K mg "Sum" cs.sum "Sum.__init__" sSumInit pSumInit) (T : Tx K mg cs) (c_check_terms : Cal P w K mg base 2 "check_terms" spCheckTerms) (c_merged : Cal P w K mg base 1 "merged" spMerged) : Mak P w K mg base 3 "Sum" cs.sum (spSumInit cs) := by
  refine mak_of D scSumInit (fun vs H Q E h => ?_) (fun f cdv A outer s H vs Q E hr h => ?_)
  · obtain ⟨_, _, _, _, _, _, rfl, _⟩ := h
    rfl
  · obtain ⟨Am, F, x, v, t, dx, rfl, Z, rv, ok, hf, hs, hx, k⟩ := h
    refine ⟨_, (pss_cons (ps_expr (pe_c c_check_terms hr (by decide) rfl (pa_cons (pv 1) pa_nil)))
      (pss_one (ps_fld (pv 0) (pe_c c_merged hr (by decide) rfl (pa_cons (pv 1) pa_nil)) rfl))), ?_⟩
    refine ⟨_, rfl, Am, F, v, t, rfl, Z, rv, ok, fun F1 H1 v1 g1 e1 => ?_⟩
    refine ⟨_, rfl, Am, F1, v, t, rfl, g1.fz, .inl (MonoR.up g1.ff rv), ok, fun F2 H2 v2 g2 r2 => ?_⟩
    obtain ⟨h3, f3⟩ := (g1.trans g2).cell hs hx hf
    refine ⟨_, rfl, x, cs.sum, dx, _, rfl, h3, T.k_Sum, T.a_Sum_kept, (by decide), ?_⟩
    exact k F2 H2 _ (g1.trans g2) f3 ⟨v2, rfl, r2⟩
abbrev sSumRead : Stmt := inClass (top 42) 1
abbrev nSumRead : List Str := ["cls", "text", "pairs"]
abbrev pSumRead : List Str := ["cls", "text"]
theorem scSumRead : FnScope nSumRead pSumRead (defScope sSumRead) := ⟨rfl, rfl, rfl, by decide +kernel, rfl, by decide +kernel, by decide +kernel⟩

theorem m_Sum_read (D : CmD K cs.sum "read" "Sum.read" sSumRead pSumRead) (T : Tx K mg cs) (c_read_terms : Cal P w K mg base 4 "read_terms" spReadTerms) (k_Sum : Mak P w K mg base 3 "Sum" cs.sum (spSumInit cs)) : Cmt P w K mg base 5 cs.sum "read" (spSumRead cs) := by
  refine cmt_of D scSumRead (fun vs H Q E h => ?_) (fun f cdv A outer s H vs Q E hr h => ?_)
  · obtain ⟨_, _, _, rfl, _⟩ := h
    rfl
  · obtain ⟨Am, F, t, rfl, Z, ok, k⟩ := h
    refine ⟨_, (pss_cons (ps_set (i := 2) scSumRead.nd rfl (Or.inl rfl) (pe_c c_read_terms hr (by decide) rfl (pa_cons (pv 1) pa_nil)))
      (pss_cons (ps_if (pt_cmpR op_isN (pv 2) pe_non (nomark _)) pss_never pss_nil)
      (pss_one (ps_ret (pe_mkL (i := 0) k_Sum hr (by decide) rfl (.inl rfl) (pa_cons (pv 2) pa_nil)))))), ?_⟩
    refine ⟨_, rfl, Am, F, t, rfl, Z, ok, fun F1 H1 v1 g1 r1 => ?_⟩
    have hnn : v1 ≠ .non := by obtain ⟨p, xs, rfl, _⟩ := r1; simp
    refine ⟨_, rfl, rfl, _, rfl, ?_⟩
    rw [decide_eq_false hnn]
    refine iteF ⟨rfl, _, rfl, fun x dx hx hd hn => ?_⟩
    obtain ⟨z1, z2, z3, z4, z5⟩ := init_ok (C := cs.sum) (R := Q) (post := fun F' fs => ∃ kv, fs = [(("kept" : Str), kv)] ∧ rTm F' kv t) g1.fz hx hd hn (fun F' H' fs G hf hp => by
      obtain ⟨F0, hs, kv, rfl, r⟩ := hp
      exact k F' H' _ (g1.trans G) ⟨x, dx, kv, rfl, hf, MonoR.up hs r⟩)
    exact ⟨Am, F1, x, v1, t, dx, rfl, z1, r1, ok, z2, z3, z4, z5⟩
abbrev sSumTerms : Stmt := inClass (top 42) 3
abbrev nSumTerms : List Str := ["self"]
abbrev pSumTerms : List Str := ["self"]
theorem scSumTerms : FnScope nSumTerms pSumTerms (defScope sSumTerms) := ⟨rfl, rfl, rfl, by decide +kernel, rfl, by decide +kernel, by decide +kernel⟩

theorem p_Sum_terms (D : PrD K cs.sum "terms" "Sum.terms" sSumTerms pSumTerms) (T : Tx K mg cs) : Prp P w K mg base 1 cs.sum "terms" (spSumTerms cs) := by
  refine prp_of D scSumTerms (fun vs H Q E h => ?_) (fun f cdv A outer s H vs Q E hr h => ?_)
  · obtain ⟨_, _, _, _, rfl, _⟩ := h
    rfl
  · obtain ⟨Am, F, _, t, rfl, Z, ⟨p, dx, x, rfl, hp, rx⟩, k⟩ := h
    refine ⟨_, (pss_one (ps_ret (pe_fld (pv 0) rfl))), ?_⟩
    refine ⟨_, rfl, p, _, dx, _, x, rfl, Z.sub _ _ hp, T.k_Sum, T.a_Sum_kept, rfl, ?_⟩
    exact k F H _ (Gr.refl Z) rx
abbrev sSumNames : Stmt := inClass (top 42) 4
abbrev nSumNames : List Str := ["self", "name", "number"]
abbrev pSumNames : List Str := ["self"]
theorem scSumNames : FnScope nSumNames pSumNames (defScope sSumNames) := ⟨rfl, rfl, rfl, by decide +kernel, rfl, by decide +kernel, by decide +kernel⟩

theorem p_Sum_names (D : PrD K cs.sum "names" "Sum.names" sSumNames pSumNames) (T : Tx K mg cs) : Prp P w K mg base 1 cs.sum "names" (spSumNames cs) := by
  refine prp_of D scSumNames (fun vs H Q E h => ?_) (fun f cdv A outer s H vs Q E hr h => ?_)
  · obtain ⟨_, _, _, _, rfl, _⟩ := h
    rfl
  · obtain ⟨Am, F, _, t, rfl, Z, ⟨p, dx, x, rfl, hp, ⟨q, xs, rfl, hq, prd⟩⟩, hl, k⟩ := h
    refine ⟨_, (pss_one (ps_ret (pe_callTy call_tuple_of (by rfl) T.n_tuple (by decide +kernel) (pa_cons (pe_lcG (own := [("name", 1), ("number", 2)]) rfl scSumNames.nd (pi_tup (pe_fld (pv 0) rfl)) (blkOk_by (own := [("name", 1), ("number", 2)]) (N := nSumNames) (sc := defScope sSumNames) (by decide +kernel)) (fun _ _ _ _ _ => (pg_tupK K 2 rfl rfl (pgs_cons (pg_name (i := 1) scSumNames.nd rfl (.inl rfl) (.inr rfl)) (pgs_cons (pg_name (i := 2) scSumNames.nd rfl (.inl rfl) (.inr rfl)) pgs_nil)))) (fun _ _ _ _ _ => pts_nil) (fun _ _ _ _ _ => (pv 1))) pa_nil)))), ?_⟩
    refine ⟨_, rfl, p, _, dx, _, _, rfl, Z.sub _ _ hp, T.k_Sum, T.a_Sum_kept, rfl, q, rfl, ⟨_, Z.T hq⟩, ?_⟩
    refine lc_map (ra := rPair) (r := rS) (·.1) walk_tup Z prd (fun F' H' g => g.fz.T (g.ff _ _ hq)) (by omega) ?_ ?_
    · rintro i x d F1 H1 K1 hd G1 ⟨a, y, z, rfl, ha, rfl, rfl⟩ hK
      exact ⟨a, _, rfl, G1.fz.T ha, rfl, _, _, rfl, _, _, rfl, rfl, rfl, _, rfl, hK F1 H1 _ (Gr.refl G1.fz) rfl⟩
    · rintro F1 H1 u G1 ⟨u2, ys, e, hu, prd1⟩
      cases e
      refine ⟨u, ys, rfl, .inl ⟨G1.fz.L hu, fun z hz => ?_⟩⟩
      exact k _ _ _ (G1.new hz) ⟨z, ys, rfl, upd_same, prd_up (same_new (G1.fz.free hz)) prd1⟩
abbrev sPipeInit : Stmt := inClass (top 46) 0
abbrev nPipeInit : List Str := ["self", "name", "start", "end"]
abbrev pPipeInit : List Str := ["self", "name", "start", "end"]
theorem scPipeInit : FnScope nPipeInit pPipeInit (defScope sPipeInit) := ⟨rfl, rfl, rfl, by decide +kernel, rfl, by decide +kernel, by decide +kernel⟩

theorem k_Pipe (D : MkD K mg "Pipe" cs.pipe "Pipe.__init__" sPipeInit pPipeInit) (T : Tx K mg cs) (c_check_name : Cal P w K mg base 2 "check_name" spCheckName) : Mak P w K mg base 3 "Pipe" cs.pipe (spPipeInit cs) := by
  refine mak_of D scPipeInit (fun vs H Q E h => ?_) (fun f cdv A outer s H vs Q E hr h => ?_)
  · obtain ⟨_, _, _, _, _, _, _, rfl, _⟩ := h
    rfl
  · obtain ⟨Am, F, x, a, b, c, dx, rfl, Z, oa, ob, oc, nbc, hf, hs, hx, k⟩ := h
    refine ⟨_, (pss_cons (ps_expr (pe_c c_check_name hr (by decide) rfl (pa_cons (pv 1) pa_nil)))
      (pss_cons (ps_expr (pe_c c_check_name hr (by decide) rfl (pa_cons (pv 2) pa_nil)))
      (pss_cons (ps_expr (pe_c c_check_name hr (by decide) rfl (pa_cons (pv 3) pa_nil)))
      (pss_cons (ps_if (pt_cmpR op_eq (pv 3) (pv 2) (nomark _)) pss_never pss_nil)
      (pss_one (ps_fld (pv 0) (pe_tup (pa_cons (pv 1) (pa_cons (pv 2) (pa_cons (pv 3) pa_nil)))) rfl)))))), ?_⟩
    refine ⟨_, rfl, Am, F, a, rfl, Z, oa, fun F1 H1 v1 g1 e1 => ?_⟩
    refine ⟨_, rfl, Am, F1, b, rfl, g1.fz, ob, fun F2 H2 v2 g2 e2 => ?_⟩
    refine ⟨_, rfl, Am, F2, c, rfl, g2.fz, oc, fun F3 H3 v3 g3 e3 => ?_⟩
    refine ⟨_, rfl, _, rfl, rfl, _, rfl, ?_⟩
    rw [eqS, decide_eq_false (fun e => nbc e.symm)]
    refine iteF ⟨_, rfl, _, rfl, _, rfl, (by show 3 ≤ sizeLine; decide), fun u hu => ?_⟩
    have g4 := ((g1.trans g2).trans g3).new (o := .tup [.str (S a), .str (S b), .str (S c)]) hu
    obtain ⟨h4, f4⟩ := g4.cell hs hx hf
    refine ⟨_, rfl, x, cs.pipe, dx, _, rfl, h4, T.k_Pipe, T.a_Pipe_kept, (by decide), ?_⟩
    exact k _ _ _ g4 f4 ⟨_, rfl, u, _, _, _, rfl, upd_same, rfl, rfl, rfl⟩
abbrev sMeterInit : Stmt := inClass (top 47) 0
abbrev nMeterInit : List Str := ["self", "name", "at", "sealed"]
abbrev pMeterInit : List Str := ["self", "name", "at", "sealed"]
theorem scMeterInit : FnScope nMeterInit pMeterInit (defScope sMeterInit) := ⟨rfl, rfl, rfl, by decide +kernel, rfl, by decide +kernel, by decide +kernel⟩

theorem k_Meter (D : MkKD K mg 2 ["sealed"] "Meter" cs.meter "Meter.__init__" sMeterInit pMeterInit) (T : Tx K mg cs) (c_check_name : Cal P w K mg base 2 "check_name" spCheckName) : MakK P w K mg base 3 2 ["sealed"] "Meter" cs.meter (spMeterInit cs) := by
  refine makK_of D scMeterInit (fun vs H Q E h => ?_) (fun f cdv A outer s H vs Q E hr h => ?_)
  · obtain ⟨_, _, _, _, _, _, _, rfl, _⟩ := h
    rfl
  · obtain ⟨Am, F, x, a, b, c, dx, rfl, Z, oa, ob, hf, hs, hx, k⟩ := h
    refine ⟨_, (pss_cons (ps_expr (pe_c c_check_name hr (by decide) rfl (pa_cons (pv 1) pa_nil)))
      (pss_cons (ps_expr (pe_c c_check_name hr (by decide) rfl (pa_cons (pv 2) pa_nil)))
      (pss_cons (ps_if (pt_not (pt_val (pe_callB (id := "isinstance") (r := rIsi K) call_isi (by rfl) T.n_isinstance (by decide +kernel) (pa_cons (pv 3) (pa_cons (pe_bltn (v := .ty "bool") (by rfl) T.n_bool (by decide +kernel) rfl) pa_nil))))) pss_never pss_nil)
      (pss_one (ps_fld (pv 0) (pe_tup (pa_cons (pv 1) (pa_cons (pv 2) (pa_cons (pv 3) pa_nil)))) rfl))))), ?_⟩
    refine ⟨_, rfl, Am, F, a, rfl, Z, oa, fun F1 H1 v1 g1 e1 => ?_⟩
    refine ⟨_, rfl, Am, F1, b, rfl, g1.fz, ob, fun F2 H2 v2 g2 e2 => ?_⟩
    refine ⟨_, rfl, _, _, _, _, true, rfl, .ty _, .base (.bl _), kit_ty (by decide +kernel), _, rfl, ?_⟩
    refine iteF ⟨_, rfl, _, rfl, _, rfl, (by show 3 ≤ sizeLine; decide), fun u hu => ?_⟩
    have g4 := (g1.trans g2).new (o := .tup [.str (S a), .str (S b), .bl c]) hu
    obtain ⟨h4, f4⟩ := g4.cell hs hx hf
    refine ⟨_, rfl, x, cs.meter, dx, _, rfl, h4, T.k_Meter, T.a_Meter_kept, (by decide), ?_⟩
    exact k _ _ _ g4 f4 ⟨_, rfl, u, _, _, _, rfl, upd_same, rfl, rfl, rfl⟩
abbrev sPipeName : Stmt := inClass (top 46) 1
abbrev nPipeName : List Str := ["self"]
abbrev pPipeName : List Str := ["self"]
theorem scPipeName : FnScope nPipeName pPipeName (defScope sPipeName) := ⟨rfl, rfl, rfl, by decide +kernel, rfl, by decide +kernel, by decide +kernel⟩

theorem p_Pipe_name (D : PrD K cs.pipe "name" "Pipe.name" sPipeName pPipeName) (T : Tx K mg cs) : Prp P w K mg base 1 cs.pipe "name" (spPipeGet cs (·.1)) := by
  refine prp_of D scPipeName (fun vs H Q E h => ?_) (fun f cdv A outer s H vs Q E hr h => ?_)
  · obtain ⟨_, _, _, _, rfl, _⟩ := h
    rfl
  · obtain ⟨Am, F, _, t, rfl, Z, ⟨p, dx, _, rfl, hp, ⟨q, a, b, c, rfl, hq, rfl, rfl, rfl⟩⟩, k⟩ := h
    refine ⟨_, (pss_one (ps_ret (pe_ix (r := rIxT K) ix_tup (pe_fld (pv 0) rfl) pe_int (fun _ _ => rfl)))), ?_⟩
    refine ⟨_, rfl, p, _, dx, _, _, rfl, Z.sub _ _ hp, T.k_Pipe, T.a_Pipe_kept, rfl, q, _, _, _, rfl, rfl, Z.T hq, rfl, ?_⟩
    exact k F H _ (Gr.refl Z) rfl
abbrev sPipeStart : Stmt := inClass (top 46) 2
abbrev nPipeStart : List Str := ["self"]
abbrev pPipeStart : List Str := ["self"]
theorem scPipeStart : FnScope nPipeStart pPipeStart (defScope sPipeStart) := ⟨rfl, rfl, rfl, by decide +kernel, rfl, by decide +kernel, by decide +kernel⟩

theorem p_Pipe_start (D : PrD K cs.pipe "start" "Pipe.start" sPipeStart pPipeStart) (T : Tx K mg cs) : Prp P w K mg base 1 cs.pipe "start" (spPipeGet cs (·.2.1)) := by
  refine prp_of D scPipeStart (fun vs H Q E h => ?_) (fun f cdv A outer s H vs Q E hr h => ?_)
  · obtain ⟨_, _, _, _, rfl, _⟩ := h
    rfl
  · obtain ⟨Am, F, _, t, rfl, Z, ⟨p, dx, _, rfl, hp, ⟨q, a, b, c, rfl, hq, rfl, rfl, rfl⟩⟩, k⟩ := h
    refine ⟨_, (pss_one (ps_ret (pe_ix (r := rIxT K) ix_tup (pe_fld (pv 0) rfl) pe_int (fun _ _ => rfl)))), ?_⟩
    refine ⟨_, rfl, p, _, dx, _, _, rfl, Z.sub _ _ hp, T.k_Pipe, T.a_Pipe_kept, rfl, q, _, _, _, rfl, rfl, Z.T hq, rfl, ?_⟩
    exact k F H _ (Gr.refl Z) rfl
abbrev sPipeEnd : Stmt := inClass (top 46) 3
abbrev nPipeEnd : List Str := ["self"]
abbrev pPipeEnd : List Str := ["self"]
theorem scPipeEnd : FnScope nPipeEnd pPipeEnd (defScope sPipeEnd) := ⟨rfl, rfl, rfl, by decide +kernel, rfl, by decide +kernel, by decide +kernel⟩

theorem p_Pipe_end (D : PrD K cs.pipe "end" "Pipe.end" sPipeEnd pPipeEnd) (T : Tx K mg cs) : Prp P w K mg base 1 cs.pipe "end" (spPipeGet cs (·.2.2)) := by
  refine prp_of D scPipeEnd (fun vs H Q E h => ?_) (fun f cdv A outer s H vs Q E hr h => ?_)
  · obtain ⟨_, _, _, _, rfl, _⟩ := h
    rfl
  · obtain ⟨Am, F, _, t, rfl, Z, ⟨p, dx, _, rfl, hp, ⟨q, a, b, c, rfl, hq, rfl, rfl, rfl⟩⟩, k⟩ := h
    refine ⟨_, (pss_one (ps_ret (pe_ix (r := rIxT K) ix_tup (pe_fld (pv 0) rfl) pe_int (fun _ _ => rfl)))), ?_⟩
    refine ⟨_, rfl, p, _, dx, _, _, rfl, Z.sub _ _ hp, T.k_Pipe, T.a_Pipe_kept, rfl, q, _, _, _, rfl, rfl, Z.T hq, rfl, ?_⟩
    exact k F H _ (Gr.refl Z) rfl
abbrev sMeterName : Stmt := inClass (top 47) 1
abbrev nMeterName : List Str := ["self"]
abbrev pMeterName : List Str := ["self"]
theorem scMeterName : FnScope nMeterName pMeterName (defScope sMeterName) := ⟨rfl, rfl, rfl, by decide +kernel, rfl, by decide +kernel, by decide +kernel⟩

theorem p_Meter_name (D : PrD K cs.meter "name" "Meter.name" sMeterName pMeterName) (T : Tx K mg cs) : Prp P w K mg base 1 cs.meter "name" (spMeterGet cs (fun t => .str (S t.1))) := by
  refine prp_of D scMeterName (fun vs H Q E h => ?_) (fun f cdv A outer s H vs Q E hr h => ?_)
  · obtain ⟨_, _, _, _, rfl, _⟩ := h
    rfl
  · obtain ⟨Am, F, _, t, rfl, Z, ⟨p, dx, _, rfl, hp, ⟨q, a, b, c, rfl, hq, rfl, rfl, rfl⟩⟩, k⟩ := h
    refine ⟨_, (pss_one (ps_ret (pe_ix (r := rIxT K) ix_tup (pe_fld (pv 0) rfl) pe_int (fun _ _ => rfl)))), ?_⟩
    refine ⟨_, rfl, p, _, dx, _, _, rfl, Z.sub _ _ hp, T.k_Meter, T.a_Meter_kept, rfl, q, _, _, _, rfl, rfl, Z.T hq, rfl, ?_⟩
    exact k F H _ (Gr.refl Z) rfl
abbrev sMeterAt : Stmt := inClass (top 47) 2
abbrev nMeterAt : List Str := ["self"]
abbrev pMeterAt : List Str := ["self"]
theorem scMeterAt : FnScope nMeterAt pMeterAt (defScope sMeterAt) := ⟨rfl, rfl, rfl, by decide +kernel, rfl, by decide +kernel, by decide +kernel⟩

theorem p_Meter_at (D : PrD K cs.meter "at" "Meter.at" sMeterAt pMeterAt) (T : Tx K mg cs) : Prp P w K mg base 1 cs.meter "at" (spMeterGet cs (fun t => .str (S t.2.1))) := by
  refine prp_of D scMeterAt (fun vs H Q E h => ?_) (fun f cdv A outer s H vs Q E hr h => ?_)
  · obtain ⟨_, _, _, _, rfl, _⟩ := h
    rfl
  · obtain ⟨Am, F, _, t, rfl, Z, ⟨p, dx, _, rfl, hp, ⟨q, a, b, c, rfl, hq, rfl, rfl, rfl⟩⟩, k⟩ := h
    refine ⟨_, (pss_one (ps_ret (pe_ix (r := rIxT K) ix_tup (pe_fld (pv 0) rfl) pe_int (fun _ _ => rfl)))), ?_⟩
    refine ⟨_, rfl, p, _, dx, _, _, rfl, Z.sub _ _ hp, T.k_Meter, T.a_Meter_kept, rfl, q, _, _, _, rfl, rfl, Z.T hq, rfl, ?_⟩
    exact k F H _ (Gr.refl Z) rfl
abbrev sMeterSealed : Stmt := inClass (top 47) 3
abbrev nMeterSealed : List Str := ["self"]
abbrev pMeterSealed : List Str := ["self"]
theorem scMeterSealed : FnScope nMeterSealed pMeterSealed (defScope sMeterSealed) := ⟨rfl, rfl, rfl, by decide +kernel, rfl, by decide +kernel, by decide +kernel⟩

theorem p_Meter_sealed (D : PrD K cs.meter "sealed" "Meter.sealed" sMeterSealed pMeterSealed) (T : Tx K mg cs) : Prp P w K mg base 1 cs.meter "sealed" (spMeterGet cs (fun t => .bl t.2.2)) := by
  refine prp_of D scMeterSealed (fun vs H Q E h => ?_) (fun f cdv A outer s H vs Q E hr h => ?_)
  · obtain ⟨_, _, _, _, rfl, _⟩ := h
    rfl
  · obtain ⟨Am, F, _, t, rfl, Z, ⟨p, dx, _, rfl, hp, ⟨q, a, b, c, rfl, hq, rfl, rfl, rfl⟩⟩, k⟩ := h
    refine ⟨_, (pss_one (ps_ret (pe_ix (r := rIxT K) ix_tup (pe_fld (pv 0) rfl) pe_int (fun _ _ => rfl)))), ?_⟩
    refine ⟨_, rfl, p, _, dx, _, _, rfl, Z.sub _ _ hp, T.k_Meter, T.a_Meter_kept, rfl, q, _, _, _, rfl, rfl, Z.T hq, rfl, ?_⟩
    exact k F H _ (Gr.refl Z) rfl
end
end Rv
end

section
set_option Elab.async false
set_option autoImplicit false
set_option linter.all false
set_option maxRecDepth 100000
set_option maxHeartbeats 4000000
/-! RvF: f-strings, getters, nets as data. -/
namespace Rv
open PySem L2 PyProof.Rows PySem.Spec
section
variable {ts : List TE} {a l : Tt} {x : Str} {σ : L2.St} {H : Hp} {k : Str → Hp → Prop} {B : Prop}
theorem js_l (e : x = S l) (hl : (a ++ l).length ≤ 100000) (h : tJs ts (S (a ++ l)) σ H k) : tJs (tC (.str x) :: ts) (S a) σ H k :=
  ⟨x, rfl, by rw [e, SX.S_cat, S_length]; exact sz hl, by rw [e, SX.S_cat]; exact h⟩
theorem js_f (hl : (a ++ l).length ≤ 100000) (h : tJs ts (S (a ++ l)) σ H k) :
    (∃ y : Str, V.str (S l) = .str y ∧ y.length ≤ sizeLine ∧ (fun x H1 => ∃ y : Str, x = .str y ∧ (S a ++ y).length ≤ sizeLine ∧ tJs ts (S a ++ y) σ H1 k) (V.str y) H) ∨ B :=
  .inl ⟨S l, rfl, by rw [S_length]; exact sz (by rw [List.length_append] at hl; omega), S l, rfl, by rw [SX.S_cat, S_length]; exact sz hl, by rw [SX.S_cat]; exact h⟩
theorem js_0 (h : tJs ts (S []) σ H k) : tJs ts Str.empty σ H k := h
theorem js_1 (h : k (S a) H) : tJs [] (S a) σ H k := h
end
abbrev PipeD := Tt × Tt × Tt
abbrev MeterD := Tt × Tt × Bool
section
variable {A : Amb} {F H : Hp} {Q : VK} {cs : Cs} {x : V}
theorem getP {t : PipeD} (f : PipeD → Tt) (Z : Fz A F H) (r : rPipe cs F x t) (k : ∀ F' H', Gr A F H F' H' → Q (.str (S (f t))) H') : ∃ a dx fs, x = .ref a ∧ H a = some (.ins cs.pipe dx fs) ∧ spPipeGet cs f [.ref a] H Q E0 := by
  obtain ⟨p, dx, y, rfl, h1, h2⟩ := r
  exact ⟨p, dx, _, rfl, Z.sub _ _ h1, A, F, _, t, rfl, Z, ⟨p, dx, y, rfl, h1, h2⟩, fun F' H' v g e => by subst e; exact k F' H' g⟩
theorem getM {t : MeterD} (f : MeterD → V) (Z : Fz A F H) (r : rMeter cs F x t) (k : ∀ F' H', Gr A F H F' H' → Q (f t) H') : ∃ a dx fs, x = .ref a ∧ H a = some (.ins cs.meter dx fs) ∧ spMeterGet cs f [.ref a] H Q E0 := by
  obtain ⟨p, dx, y, rfl, h1, h2⟩ := r
  exact ⟨p, dx, _, rfl, Z.sub _ _ h1, A, F, _, t, rfl, Z, ⟨p, dx, y, rfl, h1, h2⟩, fun F' H' v g e => by subst e; exact k F' H' g⟩
theorem getSN {t : Tm} (Z : Fz A F H) (r : rSum cs F x t) (hl : t.length ≤ 10) (k : ∀ F' H' v, Gr A F H F' H' → rTup rS F' v (t.map (·.1)) → Q v H') : ∃ a dx fs, x = .ref a ∧ H a = some (.ins cs.sum dx fs) ∧ spSumNames cs [.ref a] H Q E0 := by
  obtain ⟨p, dx, y, rfl, h1, h2⟩ := r
  exact ⟨p, dx, _, rfl, Z.sub _ _ h1, A, F, _, t, rfl, Z, ⟨p, dx, y, rfl, h1, h2⟩, hl, fun F' H' v g e => k F' H' v g e⟩
theorem getST {t : Tm} (Z : Fz A F H) (r : rSum cs F x t) (k : ∀ F' H' v, Gr A F H F' H' → rTm F' v t → Q v H') : ∃ a dx fs, x = .ref a ∧ H a = some (.ins cs.sum dx fs) ∧ spSumTerms cs [.ref a] H Q E0 := by
  obtain ⟨p, dx, y, rfl, h1, h2⟩ := r
  exact ⟨p, dx, _, rfl, Z.sub _ _ h1, A, F, _, t, rfl, Z, ⟨p, dx, y, rfl, h1, h2⟩, fun F' H' v g e => k F' H' v g e⟩
end
/-! ### a net as data -/
structure OkPi (p : PipeD) : Prop where
  a : okN p.1 = true
  b : okN p.2.1 = true
  c : okN p.2.2 = true
  ne : p.2.1 ≠ p.2.2
structure OkMe (m : MeterD) : Prop where
  a : okN m.1 = true
  b : okN m.2.1 = true
structure OkPs (ps : List PipeD) : Prop where
  ok : ∀ p ∈ ps, OkPi p
  nd : (ps.map (·.1)).Nodup
  l1 : 1 ≤ ps.length
  l2 : ps.length ≤ 12
structure OkMs (ms : List MeterD) (ps : List PipeD) : Prop where
  ok : ∀ m ∈ ms, OkMe m
  nd : (ms.map (·.1)).Nodup
  at_ : ∀ m ∈ ms, m.2.1 ∈ ps.map (·.1)
  l2 : ms.length ≤ 12
theorem nd_take {α : Type} {l : List α} (h : l.Nodup) {i : Nat} {x : α} (hx : l[i]? = some x) : x ∉ l.take i := fun hm => by
  obtain ⟨j, hj, e⟩ := List.getElem_of_mem hm
  have hj' : j < i := by simp at hj; omega
  have a : l[j]? = some x := by
    rw [List.getElem_take] at e
    rw [List.getElem?_eq_getElem (by simp at hj; omega), e]
  have := nd_ix h a hx
  omega
abbrev Item := PipeD ⊕ MeterD
def rItem (cs : Cs) : Rl Item := fun F v i => match i with
  | .inl p => rPipe cs F v p
  | .inr m => rMeter cs F v m
instance {cs : Cs} : MonoR (rItem cs) := ⟨fun {F F' v a} e h => by
  cases a with
  | inl p => exact MonoR.up (r := rPipe cs) e h
  | inr m => exact MonoR.up (r := rMeter cs) e h⟩
def wPipe : Tt := [112, 105, 112, 101]
def wMeter : Tt := [109, 101, 116, 101, 114]
def wSealed : Tt := [115, 101, 97, 108, 101, 100]
theorem lit_pipe_ : Str.ofString "pipe " = S (wPipe ++ [32]) := lit (by decide +kernel)
theorem lit_meter_ : Str.ofString "meter " = S (wMeter ++ [32]) := lit (by decide +kernel)
theorem lit_pipe : Str.ofString "pipe" = S wPipe := lit (by decide +kernel)
theorem lit_meter : Str.ofString "meter" = S wMeter := lit (by decide +kernel)
theorem lit__sealed : Str.ofString " sealed" = S (32 :: wSealed) := lit (by decide +kernel)
theorem lit_nl : Str.ofString "\n" = S [10] := lit (by decide +kernel)
def lineP (p : PipeD) : Tt := wPipe ++ 32 :: (p.1 ++ 32 :: (p.2.1 ++ 32 :: p.2.2))
def lineM (m : MeterD) : Tt := wMeter ++ 32 :: (m.1 ++ 32 :: (m.2.1 ++ if m.2.2 = true then 32 :: wSealed else []))
def lineI : Item → Tt
  | .inl p => lineP p
  | .inr m => lineM m
def OkI : Item → Prop
  | .inl p => OkPi p
  | .inr m => OkMe m
theorem lineI_len {i : Item} (h : OkI i) : (lineI i).length ≤ 40 := by
  cases i with
  | inl p =>
    have a := okN_len h.a
    have b := okN_len h.b
    have c := okN_len h.c
    simp [lineI, lineP, wPipe]; omega
  | inr m =>
    have a := okN_len h.a
    have b := okN_len h.b
    simp only [lineI, lineM, wMeter, wSealed]
    split <;> simp <;> omega
def wordsI : Item → List Tt
  | .inl p => [wPipe, p.1, p.2.1, p.2.2]
  | .inr m => [wMeter, m.1, m.2.1] ++ if m.2.2 = true then [wSealed] else []
theorem joinI (i : Item) : TL.joinL [32] (wordsI i) = lineI i := by
  cases i with
  | inl p => simp [wordsI, lineI, lineP, TL.joinL]
  | inr m =>
    simp only [wordsI, lineI, lineM]
    split <;> simp [TL.joinL]
theorem splitI {i : Item} (h : OkI i) : Txt.split (S (lineI i)) (S [32]) = (wordsI i).map S := by
  rw [SX.split_S (by simp) (by decide), ← joinI, SX.spl_join]
  · cases i <;> simp [wordsI]
  · intro w hw
    cases i with
    | inl p =>
      simp only [wordsI, List.mem_cons, List.not_mem_nil, or_false] at hw
      rcases hw with rfl | rfl | rfl | rfl
      · decide
      · exact okN_free h.a (by omega)
      · exact okN_free h.b (by omega)
      · exact okN_free h.c (by omega)
    | inr m =>
      simp only [wordsI, List.mem_append, List.mem_cons, List.not_mem_nil, or_false] at hw
      rcases hw with (rfl | rfl | rfl) | hw
      · decide
      · exact okN_free h.a (by omega)
      · exact okN_free h.b (by omega)
      · split at hw
        · rw [List.mem_singleton.mp hw]; decide
        · cases hw
theorem lineI_no10 {i : Item} (h : OkI i) : (10 : Nat) ∉ lineI i := fun hm => by
  cases i with
  | inl p =>
    have ha := okN_free h.a (c := 10) (by omega)
    have hb := okN_free h.b (c := 10) (by omega)
    have hc := okN_free h.c (c := 10) (by omega)
    simp [lineI, lineP, wPipe, ha, hb, hc] at hm
  | inr m =>
    have ha := okN_free h.a (c := 10) (by omega)
    have hb := okN_free h.b (c := 10) (by omega)
    simp only [lineI, lineM] at hm
    split at hm <;> simp [wMeter, wSealed, ha, hb] at hm
end Rv
end

section
set_option Elab.async false
set_option autoImplicit false
set_option linter.all false
set_option maxRecDepth 100000
set_option maxHeartbeats 4000000
namespace Rv
open PySem L2 PyProof.Rows PySem.Spec
abbrev spCheckPipes (cs : Cs) : Sp := fun vs H Q _ => ∃ (A : Amb) (F : Hp) (v : V) (ps : List PipeD), vs = [v] ∧ Fz A F H ∧ rTup (rPipe cs) F v ps ∧ OkPs ps ∧ Out A F H Q fun _ _ v => v = .non
abbrev spCheckMeters (cs : Cs) : Sp := fun vs H Q _ => ∃ (A : Amb) (F : Hp) (u v : V) (ps : List PipeD) (ms : List MeterD), vs = [u, v] ∧ Fz A F H ∧ rTup (rMeter cs) F u ms ∧ rTup (rPipe cs) F v ps ∧ OkPs ps ∧ OkMs ms ps ∧ Out A F H Q fun _ _ v => v = .non
abbrev spLineOf (cs : Cs) : Sp := fun vs H Q _ => ∃ (A : Amb) (F : Hp) (v : V) (i : Item), vs = [v] ∧ Fz A F H ∧ rItem cs F v i ∧ OkI i ∧ Out A F H Q fun _ _ v => v = .str (S (lineI i))
abbrev spItemOf (cs : Cs) : Sp := fun vs H Q _ => ∃ (A : Amb) (F : Hp) (i : Item), vs = [.str (S (lineI i))] ∧ Fz A F H ∧ OkI i ∧ Out A F H Q fun F' _ v => rItem cs F' v i
section
variable {P : Program} {w : World} {K : PySem.W.Frag} {mg : Str → Option Value} {base : Heap} {cs : Cs}
abbrev sCheckPipes : Stmt := top 48
abbrev nCheckPipes : List Str := ["pipes", "names", "index", "pipe"]
abbrev pCheckPipes : List Str := ["pipes"]
theorem scCheckPipes : FnScope nCheckPipes pCheckPipes (defScope sCheckPipes) := ⟨rfl, rfl, rfl, by decide +kernel, rfl, by decide +kernel, by decide +kernel⟩

theorem c_check_pipes (D : Dn K mg "check_pipes" sCheckPipes pCheckPipes) (T : Tx K mg cs) (p_Pipe_name : Prp P w K mg base 1 cs.pipe "name" (spPipeGet cs (·.1))) : Cal P w K mg base 3 "check_pipes" (spCheckPipes cs) := by
  refine cal_of D scCheckPipes (fun vs H Q E h => ?_) (fun f cdv A outer s H vs Q E hr h => ?_)
  · obtain ⟨_, _, _, _, rfl, _⟩ := h
    rfl
  · obtain ⟨Am, F, _, ps, rfl, Z, ⟨p, xs, rfl, hp, prd⟩, ok, k⟩ := h
    have hl := prd_len prd
    have l1 := ok.l1
    have l2 := ok.l2
    refine ⟨_, (pss_cons (ps_if (PW.pt (pw_or (pt_not (pt_val (pe_callB (id := "isinstance") (r := rIsi K) call_isi (by rfl) T.n_isinstance (by decide +kernel) (pa_cons (pv 0) (pa_cons (pe_bltn (v := .ty "tuple") (by rfl) T.n_tuple (by decide +kernel) rfl) pa_nil))))) (pw_or1 (pt_cmpR op_eq (pe_callB call_len_seq (by rfl) T.n_len (by decide +kernel) (pa_cons (pv 0) pa_nil)) pe_int (nomark _))))) pss_never pss_nil)
      (pss_cons (ps_set (i := 1) scCheckPipes.nd rfl (Or.inl rfl) (pe_lst pa_nil))
      (pss_one (ps_forG PassesOwn.never rfl (pi_enumT (by rfl) T.n_enumerate (pa_cons (pv 0) pa_nil)) (pg_tupK K 2 rfl rfl (pgs_cons (pg_name (i := 2) scCheckPipes.nd rfl (.inl rfl) (.inr rfl)) (pgs_cons (pg_name (i := 3) scCheckPipes.nd rfl (.inl rfl) (.inr rfl)) pgs_nil)))
        (pss_cons (ps_if (PW.pt (pw_or (pt_not (pt_val (pe_callB (id := "isinstance") (r := rIsi K) call_isi (by rfl) T.n_isinstance (by decide +kernel) (pa_cons (pv 3) (pa_cons (pe_gc T.cv_Pipe) pa_nil))))) (pw_or (pt_cmpR (r := rIn K false) op_in_seq (pe_pr p_Pipe_name hr (by decide) (pv 3) rfl) (pv 1) (by first | exact nomark _ | rfl)) (pw_or1 (pt_cmpR op_ge (pv 2) (pe_gc T.g_MOST_PIPES) (nomark _)))))) pss_never pss_nil)
      (pss_one (ps_expr (pe_bm PySem.F.plainAttrs_list PySem.F.slot_list_append PySem.F.type_list_append mt_append (pv 1) (pa_cons (pe_pr p_Pipe_name hr (by decide) (pv 3) rfl) pa_nil))))))))), ?_⟩
    refine ⟨_, rfl, _, _, _, _, true, rfl, .ty _, .base (.tup (Z.sub _ _ hp)), kit_ty (by decide +kernel), _, rfl, ?_⟩
    refine iteF ⟨_, rfl, p, xs, rfl, .inr (Z.T hp), rfl, _, rfl, ?_⟩
    rw [decide_eq_false (by intro e; have := V.int.inj e; omega)]
    refine iteF ⟨by show 0 ≤ sizeLine; decide, fun l hl0 => ?_⟩
    have hlS := Z.notS hl0
    refine ⟨_, rfl, p, xs, rfl, ((Gr.refl Z).own hl0).fz.T hp, ?_⟩
    refine for_any walk_enumT (fun i σ H' => ∃ F' m1 m2, σ = [some (.ref p), some (.ref l), m1, m2] ∧ Gr Am F H F' H' ∧ F' l = none ∧ H' l = some (.lst ((ps.take i).map fun p => V.str (S p.1)))) ⟨F, _, _, rfl, (Gr.refl Z).own hl0, Z.free hl0, upd_same⟩ (fun i σ H' _ ⟨F', _, _, _, G, _⟩ => G.fz.T (G.ff _ _ hp)) ?_ ?_
    · rintro i v σ H1 H2 hi ⟨F1, m1, m2, rfl, G1, hF1, hL1⟩ ⟨U, y1, y2, rfl, hU, rfl, e1, e2⟩
      cases e1
      obtain ⟨d, hd, rd⟩ := prd_get prd e2
      obtain ⟨hL2, hF2⟩ := ((Gr.refl G1.fz).new (o := .tup [.int (i : Nat), y2]) hU).cell hlS hL1 hF1
      have G2 := G1.new (o := .tup [.int (i : Nat), y2]) hU
      have rd2 : rPipe cs _ y2 d := MonoR.up G2.ff rd
      have hy := rd2
      obtain ⟨q, dx, kv, rfl, hq, _⟩ := hy
      refine ⟨U, _, rfl, SqT.of upd_same, rfl, _, _, rfl, _, _, rfl, rfl, ?_⟩
      refine ⟨_, rfl, _, _, _, _, true, rfl, .own _, T.i_Pipe.ty T.k_Pipe (G2.fz.sub _ _ hq), T.is_PP, _, rfl, ?_⟩
      refine iteF ⟨_, rfl, getP (·.1) G2.fz rd2 fun F3 H3 g3 => ?_⟩
      obtain ⟨hL3, hF3⟩ := g3.cell hlS hL2 hF2
      have e3 : ((ps.take i).map fun p => V.str (S p.1)) = ((ps.take i).map (·.1)).map fun x => V.str (S x) := by rw [List.map_map]; rfl
      have nin : d.1 ∉ (ps.take i).map (·.1) := by
        rw [List.map_take]
        exact nd_take ok.nd (by rw [List.getElem?_map, hd]; rfl)
      refine ⟨_, rfl, l, _, rfl, .inl (SqL.of hL3), rfl, (by rw [e3]; exact flat_S), _, rfl, ?_⟩
      rw [e3]
      simp only [inV_S, Bool.false_eq_true, if_false]
      rw [decide_eq_false nin]
      refine iteF ⟨_, rfl, _, _, rfl, rfl, _, rfl, ?_⟩
      rw [decide_eq_false (by omega)]
      refine iteF ?_
      refine ⟨_, rfl, .inl ⟨rfl, _, SqL.of hL3⟩, _, rfl, getP (·.1) g3.fz (MonoR.up g3.ff rd2) fun F4 H4 g4 => ?_⟩
      obtain ⟨hL4, hF4⟩ := g4.cell hlS hL3 hF3
      refine ⟨l, _, _, rfl, rfl, hL4, szlt (by simp; omega), ?_⟩
      refine ⟨F4, _, _, rfl, (((G2.trans g3).trans g4).put hl0 hF4), hF4, ?_⟩
      rw [upd_same, take_snoc hd, List.map_append]
      rfl
    · rintro σ H1 ⟨F1, m1, m2, rfl, G1, _⟩
      exact k _ _ _ G1 rfl
abbrev sCheckMeters : Stmt := top 49
abbrev nCheckMeters : List Str := ["meters", "pipes", "places", "names", "index", "meter", "pipe"]
abbrev pCheckMeters : List Str := ["meters", "pipes"]
theorem scCheckMeters : FnScope nCheckMeters pCheckMeters (defScope sCheckMeters) := ⟨rfl, rfl, rfl, by decide +kernel, rfl, by decide +kernel, by decide +kernel⟩

theorem c_check_meters (D : Dn K mg "check_meters" sCheckMeters pCheckMeters) (T : Tx K mg cs) (p_Pipe_name : Prp P w K mg base 1 cs.pipe "name" (spPipeGet cs (·.1))) (p_Meter_name : Prp P w K mg base 1 cs.meter "name" (spMeterGet cs (fun t => .str (S t.1)))) (p_Meter_at : Prp P w K mg base 1 cs.meter "at" (spMeterGet cs (fun t => .str (S t.2.1)))) : Cal P w K mg base 3 "check_meters" (spCheckMeters cs) := by
  refine cal_of D scCheckMeters (fun vs H Q E h => ?_) (fun f cdv A outer s H vs Q E hr h => ?_)
  · obtain ⟨_, _, _, _, _, _, rfl, _⟩ := h
    rfl
  · obtain ⟨Am, F, _, _, ps, ms, rfl, Z, ⟨p, xs, rfl, hp, prd⟩, ⟨q, ys, rfl, hq, prp⟩, okp, ok, k⟩ := h
    have hl := prd_len prd
    have l2 := ok.l2
    have pl2 := okp.l2
    refine ⟨_, (pss_cons (ps_if (pt_not (pt_val (pe_callB (id := "isinstance") (r := rIsi K) call_isi (by rfl) T.n_isinstance (by decide +kernel) (pa_cons (pv 0) (pa_cons (pe_bltn (v := .ty "tuple") (by rfl) T.n_tuple (by decide +kernel) rfl) pa_nil))))) pss_never pss_nil)
      (pss_cons (ps_setLcG (i := 2) (own := [("pipe", 6)]) rfl scCheckMeters.nd rfl rfl (sw_true rfl rfl rfl (by decide +kernel)) (pi_tup (pv 1)) (blkOk_by (own := [("pipe", 6)]) (N := nCheckMeters) (sc := defScope sCheckMeters) (by decide +kernel)) (fun _ _ _ _ _ => (pg_name (i := 6) scCheckMeters.nd rfl (.inl rfl) (.inr rfl))) (fun _ _ _ _ _ => pts_nil) (fun _ _ _ _ _ => (pe_pr p_Pipe_name hr (by decide) (pv 6) rfl)))
      (pss_cons (ps_set (i := 3) scCheckMeters.nd rfl (Or.inl rfl) (pe_lst pa_nil))
      (pss_one (ps_forG PassesOwn.never rfl (pi_enumT (by rfl) T.n_enumerate (pa_cons (pv 0) pa_nil)) (pg_tupK K 2 rfl rfl (pgs_cons (pg_name (i := 4) scCheckMeters.nd rfl (.inl rfl) (.inr rfl)) (pgs_cons (pg_name (i := 5) scCheckMeters.nd rfl (.inl rfl) (.inr rfl)) pgs_nil)))
        (pss_cons (ps_if (PW.pt (pw_or (pt_not (pt_val (pe_callB (id := "isinstance") (r := rIsi K) call_isi (by rfl) T.n_isinstance (by decide +kernel) (pa_cons (pv 5) (pa_cons (pe_gc T.cv_Meter) pa_nil))))) (pw_or (pt_cmpR (r := rIn K false) op_in_seq (pe_pr p_Meter_name hr (by decide) (pv 5) rfl) (pv 3) (by first | exact nomark _ | rfl)) (pw_or (pt_cmpR (r := rIn K true) op_notIn_seq (pe_pr p_Meter_at hr (by decide) (pv 5) rfl) (pv 2) (by first | exact nomark _ | rfl)) (pw_or1 (pt_cmpR op_ge (pv 4) (pe_gc T.g_MOST_METERS) (nomark _))))))) pss_never pss_nil)
      (pss_one (ps_expr (pe_bm PySem.F.plainAttrs_list PySem.F.slot_list_append PySem.F.type_list_append mt_append (pv 3) (pa_cons (pe_pr p_Meter_name hr (by decide) (pv 5) rfl) pa_nil)))))))))), ?_⟩
    refine ⟨_, rfl, _, _, _, _, true, rfl, .ty _, .base (.tup (Z.sub _ _ hp)), kit_ty (by decide +kernel), _, rfl, ?_⟩
    refine iteF ⟨_, rfl, q, rfl, ⟨_, Z.T hq⟩, ?_⟩
    refine lc_map (ra := rPipe cs) (r := rS) (·.1) walk_tup Z prp (fun F' H' g => g.fz.T (g.ff _ _ hq)) (by omega) ?_ ?_
    · rintro i x d F1 H1 K1 hd G1 rd hK
      exact ⟨rfl, _, rfl, getP (·.1) G1.fz rd fun F3 H3 g3 => hK F3 H3 _ g3 rfl⟩
    · rintro F1 H1 u G1 ⟨u2, zs, e, hu, prd1⟩
      cases e
      have ez := paired_C prd1
      subst ez
      refine ⟨by show 0 ≤ sizeLine; decide, fun l hl0 => ?_⟩
      have hlS := G1.fz.notS hl0
      have hl00 := G1.free hl0
      have hp1 := G1.ff _ _ hp
      have prd' := prd_up G1.ff prd
      refine ⟨_, rfl, p, xs, rfl, ((Gr.refl G1.fz).own hl0).fz.T hp1, ?_⟩
      refine for_any walk_enumT (fun i σ H' => ∃ F' m1 m2 m3, σ = [some (.ref p), some (.ref q), some (.ref u), some (.ref l), m1, m2, m3] ∧ Gr Am F1 H1 F' H' ∧ F' l = none ∧ H' l = some (.lst ((ms.take i).map fun p => V.str (S p.1)))) ⟨F1, _, _, _, rfl, (Gr.refl G1.fz).own hl0, G1.fz.free hl0, upd_same⟩ (fun i σ H' _ ⟨F', _, _, _, _, G, _⟩ => G.fz.T (G.ff _ _ hp1)) ?_ ?_
      · rintro i v σ H1' H2 hi ⟨F1', m1, m2, m3, rfl, G1', hF1, hL1⟩ ⟨U, y1, y2, rfl, hU, rfl, e1, e2⟩
        cases e1
        obtain ⟨d, hd, rd⟩ := prd_get prd' e2
        obtain ⟨hL2, hF2⟩ := ((Gr.refl G1'.fz).new (o := .tup [.int (i : Nat), y2]) hU).cell hlS hL1 hF1
        have G2 := G1'.new (o := .tup [.int (i : Nat), y2]) hU
        have rd2 : rMeter cs _ y2 d := MonoR.up G2.ff rd
        have hy := rd2
        obtain ⟨qq, dx, kv, rfl, hqq, _⟩ := hy
        refine ⟨U, _, rfl, SqT.of upd_same, rfl, _, _, rfl, _, _, rfl, rfl, ?_⟩
        refine ⟨_, rfl, _, _, _, _, true, rfl, .own _, T.i_Meter.ty T.k_Meter (G2.fz.sub _ _ hqq), T.is_MM, _, rfl, ?_⟩
        refine iteF ⟨_, rfl, getM (fun t => .str (S t.1)) G2.fz rd2 fun F3 H3 g3 => ?_⟩
        obtain ⟨hL3, hF3⟩ := g3.cell hlS hL2 hF2
        have e3 : ((ms.take i).map fun p => V.str (S p.1)) = ((ms.take i).map (·.1)).map fun x => V.str (S x) := by rw [List.map_map]; rfl
        have nin : d.1 ∉ (ms.take i).map (·.1) := by
          rw [List.map_take]
          exact nd_take ok.nd (by rw [List.getElem?_map, hd]; rfl)
        refine ⟨_, rfl, l, _, rfl, .inl (SqL.of hL3), rfl, (by rw [e3]; exact flat_S), _, rfl, ?_⟩
        rw [e3]
        simp only [inV_S, Bool.false_eq_true, if_false]
        rw [decide_eq_false nin]
        refine iteF ⟨_, rfl, getM (fun t => .str (S t.2.1)) g3.fz (MonoR.up g3.ff rd2) fun F4 H4 g4 => ?_⟩
        obtain ⟨hL4, hF4⟩ := g4.cell hlS hL3 hF3
        have hu4 := g4.ff _ _ (g3.ff _ _ (G2.ff _ _ hu))
        have e4 : ((ps.map (·.1)).map fun l => V.str (S l)) = (ps.map (·.1)).map fun x => V.str (S x) := rfl
        refine ⟨_, rfl, u, _, rfl, .inl (g4.fz.L hu4), rfl, flat_S, _, rfl, ?_⟩
        simp only [inV_S, if_true]
        rw [decide_eq_true (ok.at_ d (List.mem_of_getElem? hd))]
        refine iteF ⟨_, rfl, _, _, rfl, rfl, _, rfl, ?_⟩
        rw [decide_eq_false (by omega)]
        refine iteF ?_
        refine ⟨_, rfl, .inl ⟨rfl, _, SqL.of hL4⟩, _, rfl, getM (fun t => .str (S t.1)) g4.fz (MonoR.up (g3.trans g4).ff rd2) fun F5 H5 g5 => ?_⟩
        obtain ⟨hL5, hF5⟩ := g5.cell hlS hL4 hF4
        refine ⟨l, _, _, rfl, rfl, hL5, szlt (by simp; omega), ?_⟩
        refine ⟨F5, _, _, _, rfl, ((((G2.trans g3).trans g4).trans g5).put hl0 hF5), hF5, ?_⟩
        rw [upd_same, take_snoc hd, List.map_append]
        rfl
      · rintro σ H2 ⟨F2, m1, m2, m3, rfl, G2, _⟩
        exact k _ _ _ (G1.trans G2) rfl
end
end Rv
end

section
set_option Elab.async false
set_option autoImplicit false
set_option linter.all false
set_option maxRecDepth 100000
set_option maxHeartbeats 4000000
namespace Rv
open PySem L2 PyProof.Rows PySem.Spec
section
variable {P : Program} {w : World} {K : PySem.W.Frag} {mg : Str → Option Value} {base : Heap} {cs : Cs}
abbrev sLineOf : Stmt := top 50
abbrev nLineOf : List Str := ["item"]
abbrev pLineOf : List Str := ["item"]
theorem scLineOf : FnScope nLineOf pLineOf (defScope sLineOf) := ⟨rfl, rfl, rfl, by decide +kernel, rfl, by decide +kernel, by decide +kernel⟩

theorem c_line_of (D : Dn K mg "line_of" sLineOf pLineOf) (T : Tx K mg cs) (p_Pipe_name : Prp P w K mg base 1 cs.pipe "name" (spPipeGet cs (·.1))) (p_Pipe_start : Prp P w K mg base 1 cs.pipe "start" (spPipeGet cs (·.2.1))) (p_Pipe_end : Prp P w K mg base 1 cs.pipe "end" (spPipeGet cs (·.2.2)))
    (p_Meter_name : Prp P w K mg base 1 cs.meter "name" (spMeterGet cs (fun t => .str (S t.1)))) (p_Meter_at : Prp P w K mg base 1 cs.meter "at" (spMeterGet cs (fun t => .str (S t.2.1)))) (p_Meter_sealed : Prp P w K mg base 1 cs.meter "sealed" (spMeterGet cs (fun t => .bl t.2.2))) : Cal P w K mg base 3 "line_of" (spLineOf cs) := by
  refine cal_of D scLineOf (fun vs H Q E h => ?_) (fun f cdv A outer s H vs Q E hr h => ?_)
  · obtain ⟨_, _, _, _, rfl, _⟩ := h
    rfl
  · obtain ⟨Am, F, v, i, rfl, Z, ri, ok, k⟩ := h
    refine ⟨_, (pss_cons (ps_if (pt_val (pe_callB (id := "isinstance") (r := rIsi K) call_isi (by rfl) T.n_isinstance (by decide +kernel) (pa_cons (pv 0) (pa_cons (pe_gc T.cv_Pipe) pa_nil)))) (pss_one (ps_ret (pe_joined (.cons pe_str (.cons (pe_fmt (pe_pr p_Pipe_name hr (by decide) (pv 0) rfl)) (.cons pe_str (.cons (pe_fmt (pe_pr p_Pipe_start hr (by decide) (pv 0) rfl)) (.cons pe_str (.cons (pe_fmt (pe_pr p_Pipe_end hr (by decide) (pv 0) rfl)) .nil))))))))) pss_nil)
      (pss_one (ps_ret (pe_ifExp (pt_val (pe_pr p_Meter_sealed hr (by decide) (pv 0) rfl)) (pe_joined (.cons pe_str (.cons (pe_fmt (pe_pr p_Meter_name hr (by decide) (pv 0) rfl)) (.cons pe_str (.cons (pe_fmt (pe_pr p_Meter_at hr (by decide) (pv 0) rfl)) (.cons pe_str .nil)))))) (pe_joined (.cons pe_str (.cons (pe_fmt (pe_pr p_Meter_name hr (by decide) (pv 0) rfl)) (.cons pe_str (.cons (pe_fmt (pe_pr p_Meter_at hr (by decide) (pv 0) rfl)) .nil))))))))), ?_⟩
    cases i with
    | inl p =>
      have rp : rPipe cs F v p := ri
      have rp2 := rp
      obtain ⟨q, dx, kv, rfl, hq, _⟩ := rp2
      have ok : OkPi p := ok
      have a := okN_len ok.a
      have b := okN_len ok.b
      have c := okN_len ok.c
      refine ⟨_, rfl, _, _, _, _, true, rfl, .own _, T.i_Pipe.ty T.k_Pipe (Z.sub _ _ hq), T.is_PP, _, rfl, ?_⟩
      refine iteT (js_0 (js_l lit_pipe_ (by simp [wPipe]) ?_))
      refine ⟨_, rfl, getP (·.1) Z rp fun F1 H1 g1 => js_f (by simp [wPipe]; omega) (js_l lit_sp (by simp [wPipe]; omega) ?_)⟩
      refine ⟨_, rfl, getP (·.2.1) g1.fz (MonoR.up g1.ff rp) fun F2 H2 g2 => js_f (by simp [wPipe]; omega) (js_l lit_sp (by simp [wPipe]; omega) ?_)⟩
      refine ⟨_, rfl, getP (·.2.2) g2.fz (MonoR.up (g1.trans g2).ff rp) fun F3 H3 g3 => js_f (by simp [wPipe]; omega) (js_1 ?_)⟩
      exact k _ _ _ ((g1.trans g2).trans g3) (congrArg (fun l => V.str (S l)) (by simp [lineI, lineP, wPipe]))
    | inr m =>
      have rp : rMeter cs F v m := ri
      have rp2 := rp
      obtain ⟨q, dx, kv, rfl, hq, _⟩ := rp2
      have ok : OkMe m := ok
      have a := okN_len ok.a
      have b := okN_len ok.b
      refine ⟨_, rfl, _, _, _, _, false, rfl, .own _, T.i_Meter.ty T.k_Meter (Z.sub _ _ hq), T.is_MP, _, rfl, ?_⟩
      refine iteF ⟨_, rfl, getM (fun t => .bl t.2.2) Z rp fun F0 H0 g0 => ?_⟩
      have rp0 := MonoR.up g0.ff rp
      obtain ⟨m1, m2, m3⟩ := m
      dsimp only at a b
      cases m3 with
      | true =>
        refine ⟨_, rfl, iteT (js_0 (js_l lit_meter_ (by simp [wMeter]) ?_))⟩
        refine ⟨_, rfl, getM (fun t => .str (S t.1)) g0.fz rp0 fun F1 H1 g1 => js_f (by simp [wMeter]; omega) (js_l lit_sp (by simp [wMeter]; omega) ?_)⟩
        refine ⟨_, rfl, getM (fun t => .str (S t.2.1)) g1.fz (MonoR.up g1.ff rp0) fun F2 H2 g2 => js_f (by simp [wMeter]; omega) (js_l lit__sealed (by simp [wMeter, wSealed]; omega) (js_1 ?_))⟩
        exact k _ _ _ ((g0.trans g1).trans g2) (congrArg (fun l => V.str (S l)) (by simp [lineI, lineM, wMeter, wSealed]))
      | false =>
        refine ⟨_, rfl, iteF (js_0 (js_l lit_meter_ (by simp [wMeter]) ?_))⟩
        refine ⟨_, rfl, getM (fun t => .str (S t.1)) g0.fz rp0 fun F1 H1 g1 => js_f (by simp [wMeter]; omega) (js_l lit_sp (by simp [wMeter]; omega) ?_)⟩
        refine ⟨_, rfl, getM (fun t => .str (S t.2.1)) g1.fz (MonoR.up g1.ff rp0) fun F2 H2 g2 => js_f (by simp [wMeter]; omega) (js_1 ?_)⟩
        exact k _ _ _ ((g0.trans g1).trans g2) (congrArg (fun l => V.str (S l)) (by simp [lineI, lineM, wMeter, wSealed]))
abbrev sItemOf : Stmt := top 51
abbrev nItemOf : List Str := ["line", "words"]
abbrev pItemOf : List Str := ["line"]
theorem scItemOf : FnScope nItemOf pItemOf (defScope sItemOf) := ⟨rfl, rfl, rfl, by decide +kernel, rfl, by decide +kernel, by decide +kernel⟩

theorem c_item_of (D : Dn K mg "item_of" sItemOf pItemOf) (T : Tx K mg cs) (k_Pipe : Mak P w K mg base 3 "Pipe" cs.pipe (spPipeInit cs)) (k_Meter : MakK P w K mg base 3 2 ["sealed"] "Meter" cs.meter (spMeterInit cs)) : Cal P w K mg base 5 "item_of" (spItemOf cs) := by
  refine cal_of D scItemOf (fun vs H Q E h => ?_) (fun f cdv A outer s H vs Q E hr h => ?_)
  · obtain ⟨_, _, _, rfl, _⟩ := h
    rfl
  · obtain ⟨Am, F, i, rfl, Z, ok, k⟩ := h
    have hlen := lineI_len ok
    refine ⟨_, (pss_cons (ps_set (i := 1) scItemOf.nd rfl (Or.inl rfl) (pe_split (pv 0) pe_str))
      (pss_cons (ps_try_thru0 (pss_cons (ps_if (PW.pt (pw_and (pt_cmpR op_eq (pe_callB call_len_seq (by rfl) T.n_len (by decide +kernel) (pa_cons (pv 1) pa_nil)) pe_int (nomark _)) (pw_and1 (pt_cmpR op_eq (pe_ix (r := rIxL K) ix_list (pv 1) pe_int (fun _ _ => rfl)) pe_str (nomark _))))) (pss_one (ps_ret (pe_mk k_Pipe hr (by decide) rfl (pa_cons (pe_ix (r := rIxL K) ix_list (pv 1) pe_int (fun _ _ => rfl)) (pa_cons (pe_ix (r := rIxL K) ix_list (pv 1) pe_int (fun _ _ => rfl)) (pa_cons (pe_ix (r := rIxL K) ix_list (pv 1) pe_int (fun _ _ => rfl)) pa_nil)))))) pss_nil)
      (pss_one (ps_if (PW.pt (pw_and (pt_cmpR (r := rIn K false) op_in_seq (pe_callB call_len_seq (by rfl) T.n_len (by decide +kernel) (pa_cons (pv 1) pa_nil)) (pe_tup (pa_cons pe_int (pa_cons pe_int pa_nil))) (by first | exact nomark _ | rfl)) (pw_and1 (pt_cmpR op_eq (pe_ix (r := rIxL K) ix_list (pv 1) pe_int (fun _ _ => rfl)) pe_str (nomark _))))) (pss_one (ps_ret (pe_mkK k_Meter hr (by decide) rfl (pa_cons (pe_ix (r := rIxL K) ix_list (pv 1) pe_int (fun _ _ => rfl)) (pa_cons (pe_ix (r := rIxL K) ix_list (pv 1) pe_int (fun _ _ => rfl)) pa_nil)) (pk_cons (pe_cmpR op_eq (pe_callB call_len_seq (by rfl) T.n_len (by decide +kernel) (pa_cons (pv 1) pa_nil)) pe_int (nomark _)) pk_nil)))) pss_nil))))
      (pss_one (ps_ret pe_non)))), ?_⟩
    refine ⟨_, rfl, ⟨_, rfl⟩, _, _, rfl, rfl, (by rw [lit_sp, S_length]; rfl), (by rw [S_length]; exact sz (by omega)), fun pw hpw => ?_⟩
    rw [lit_sp, splitI ok]
    have G := (Gr.refl Z).new (o := .lst (((wordsI i).map S).map V.str)) hpw
    cases i with
    | inl p =>
      have ok : OkPi p := ok
      have fw : upd F pw (.lst (((wordsI (.inl p)).map S).map V.str)) pw = some (.lst [.str (S wPipe), .str (S p.1), .str (S p.2.1), .str (S p.2.2)]) := upd_same
      refine ⟨_, rfl, pw, _, rfl, .inl (G.fz.L fw), rfl, _, rfl, ?_⟩
      refine iteT ⟨_, rfl, pw, _, _, _, rfl, rfl, G.fz.L fw, rfl, rfl, _, rfl, ?_⟩
      rw [lit_pipe, decide_eq_true rfl]
      refine iteT ⟨_, rfl, pw, _, _, _, rfl, rfl, G.fz.L fw, rfl, _, rfl, pw, _, _, _, rfl, rfl, G.fz.L fw, rfl, _, rfl, pw, _, _, _, rfl, rfl, G.fz.L fw, rfl, fun x dx hx hd hn => ?_⟩
      obtain ⟨z1, z2, z3, z4, z5⟩ := init_ok (C := cs.pipe) (R := Q) (post := fun F' fs => ∃ kv, fs = [(("kept" : Str), kv)] ∧ rT3 rS rS rS F' kv (p.1, p.2.1, p.2.2)) G.fz hx hd hn (fun F' H' fs g hf hp => by
        obtain ⟨F0, hs, kv, rfl, r⟩ := hp
        exact k F' H' _ (G.trans g) ⟨x, dx, kv, rfl, hf, MonoR.up hs r⟩)
      exact ⟨Am, _, x, p.1, p.2.1, p.2.2, dx, rfl, z1, ok.a, ok.b, ok.c, ok.ne, z2, z3, z4, z5⟩
    | inr m =>
      have ok : OkMe m := ok
      obtain ⟨m1, m2, m3⟩ := m
      cases m3 with
      | true =>
        have fw : upd F pw (.lst (((wordsI (.inr (m1, m2, true))).map S).map V.str)) pw = some (.lst [.str (S wMeter), .str (S m1), .str (S m2), .str (S wSealed)]) := upd_same
        refine ⟨_, rfl, pw, _, rfl, .inl (G.fz.L fw), rfl, _, rfl, ?_⟩
        refine iteT ⟨_, rfl, pw, _, _, _, rfl, rfl, G.fz.L fw, rfl, rfl, _, rfl, ?_⟩
        rw [lit_pipe, eqS, decide_eq_false (by decide)]
        refine iteF ?_
        refine ⟨_, rfl, pw, _, rfl, .inl (G.fz.L fw), (by show 2 ≤ sizeLine; decide), fun u hu => ?_⟩
        have g2 := (Gr.refl G.fz).new (o := .tup [.int 3, .int 4]) hu
        have fw2 := g2.ff _ _ fw
        refine ⟨u, _, rfl, .inr (SqT.of upd_same), rfl, rfl, _, rfl, iteT ⟨_, rfl, pw, _, _, _, rfl, rfl, g2.fz.L fw2, rfl, rfl, _, rfl, ?_⟩⟩
        rw [lit_meter, decide_eq_true rfl]
        refine iteT ⟨_, rfl, pw, _, _, _, rfl, rfl, g2.fz.L fw2, rfl, _, rfl, pw, _, _, _, rfl, rfl, g2.fz.L fw2, rfl, _, rfl, pw, _, rfl, .inl (g2.fz.L fw2), rfl, rfl, rfl, fun x dx hx hd hn => ?_⟩
        obtain ⟨z1, z2, z3, z4, z5⟩ := init_ok (C := cs.meter) (R := Q) (post := fun F' fs => ∃ kv, fs = [(("kept" : Str), kv)] ∧ rT3 rS rS rBl F' kv (m1, m2, true)) g2.fz hx hd hn (fun F' H' fs g hf hp => by
          obtain ⟨F0, hs, kv, rfl, r⟩ := hp
          exact k F' H' _ ((G.trans g2).trans g) ⟨x, dx, kv, rfl, hf, MonoR.up hs r⟩)
        exact ⟨Am, _, x, m1, m2, true, dx, rfl, z1, ok.a, ok.b, z2, z3, z4, z5⟩
      | false =>
        have fw : upd F pw (.lst (((wordsI (.inr (m1, m2, false))).map S).map V.str)) pw = some (.lst [.str (S wMeter), .str (S m1), .str (S m2)]) := upd_same
        refine ⟨_, rfl, pw, _, rfl, .inl (G.fz.L fw), rfl, _, rfl, ?_⟩
        refine iteF ?_
        refine ⟨_, rfl, pw, _, rfl, .inl (G.fz.L fw), (by show 2 ≤ sizeLine; decide), fun u hu => ?_⟩
        have g2 := (Gr.refl G.fz).new (o := .tup [.int 3, .int 4]) hu
        have fw2 := g2.ff _ _ fw
        refine ⟨u, _, rfl, .inr (SqT.of upd_same), rfl, rfl, _, rfl, iteT ⟨_, rfl, pw, _, _, _, rfl, rfl, g2.fz.L fw2, rfl, rfl, _, rfl, ?_⟩⟩
        rw [lit_meter, decide_eq_true rfl]
        refine iteT ⟨_, rfl, pw, _, _, _, rfl, rfl, g2.fz.L fw2, rfl, _, rfl, pw, _, _, _, rfl, rfl, g2.fz.L fw2, rfl, _, rfl, pw, _, rfl, .inl (g2.fz.L fw2), rfl, rfl, rfl, fun x dx hx hd hn => ?_⟩
        obtain ⟨z1, z2, z3, z4, z5⟩ := init_ok (C := cs.meter) (R := Q) (post := fun F' fs => ∃ kv, fs = [(("kept" : Str), kv)] ∧ rT3 rS rS rBl F' kv (m1, m2, false)) g2.fz hx hd hn (fun F' H' fs g hf hp => by
          obtain ⟨F0, hs, kv, rfl, r⟩ := hp
          exact k F' H' _ ((G.trans g2).trans g) ⟨x, dx, kv, rfl, hf, MonoR.up hs r⟩)
        exact ⟨Am, _, x, m1, m2, false, dx, rfl, z1, ok.a, ok.b, z2, z3, z4, z5⟩
end
end Rv
end

section
set_option Elab.async false
set_option autoImplicit false
set_option linter.all false
set_option maxRecDepth 100000
set_option maxHeartbeats 4000000
/-! RvH: own __contains__, own __str__. -/
namespace Rv
open PySem L2 PyProof.Rows PySem.Spec
structure Own (P : Program) (w : World) (K : PySem.W.Frag) (mg : Str → Option Value) (base : Heap) (k : Nat) (C : Addr) (m : Str) (sp : Sp) : Prop where
  ex : ∃ (f : Addr) (fd : FuncData) (ps : List Str), PySem.W.findIn K (.ref C) m = some (some (.ref f)) ∧ PySem.W.isFn K (.ref f) = true ∧ FnOk P w K mg base CX0 k f fd ps sp ∧ Binds K fd ps []
def OwD (K : PySem.W.Frag) (C : Addr) (m q : Str) (st : Stmt) (ps : List Str) : Prop := ∃ f fd, PySem.W.findIn K (.ref C) m = some (some (.ref f)) ∧ PySem.W.isFn K (.ref f) = true ∧ Fu K m q st f fd ps
section
variable {P : Program} {w : World} {K : PySem.W.Frag} {mg : Str → Option Value} {base : Heap} {m q : Str} {st : Stmt} {C : Addr} {N ps : List Str} {k : Nat} {sp : Sp}
theorem own_of (D : OwD K C m q st ps) (S : FnScope N ps (defScope st)) (len : ∀ vs H Q E, sp vs H Q E → vs.length = ps.length) (hbody : BodyOk P w K mg base q st N k sp) : Own P w K mg base (k + 1) C m sp := by
  obtain ⟨f, fd, h1, h2, F⟩ := D
  exact ⟨f, fd, ps, h1, h2, F.ok S len hbody, F.bi⟩
end
section
variable {X : Cx} {k j : Nat} {C : Addr} {m : Str} {sp : Sp}
theorem op_notin_own (c : Own X.prog X.w X.K X.mg X.base k C "__contains__" sp) (hr : Room j X.A) (hk : k ≤ j) : OpR X (compareOp .NotIn) (fun x y H Q => ∃ a dx fs, y = .ref a ∧ H a = some (.ins C dx fs) ∧ sp [.ref a, x] H (fun v H1 => ∃ b, v = .bl b ∧ Q (.bl (!b)) H1) E0) := by
  intro pins s σ H x y v u Q I rx ry h
  obtain ⟨a, dx, fs, rfl, ea, q⟩ := h
  obtain ⟨f, fd, ps, hs, hf, F, b⟩ := c.ex
  obtain rfl : u = Value.ref a := ry
  obtain ⟨mA, O, rr, _, _, _⟩ := ins_get I.hok ea
  obtain ⟨od, J, hl⟩ := O.look
  have X0 := I.kIn
  show wpAny _ _ (do return Value.bool (!(← contains (.ref a) v))) _ _ _
  refine wpAny_bind ?_
  unfold contains
  refine wpAny_holding (wpAny_bind (wpAny_bind (J.type.here ((PySem.W.looks_findIn X0 hs).here ?_))))
  rw [if_neg (by simp)]
  refine wpAny_bind (PySem.W.unlessNone_K X0 J hs hf ?_)
  have z := run_fn (vs := [.ref a, x]) (us := [.ref a, v]) (dvs := []) (E := E0) F (hr.mono hk) b .nil pass0 I (.cons rfl (.cons rx .nil)) q
  refine wpAny_mono z (fun r s' h => ?_) fun _ _ y => y
  obtain ⟨y, H1, I1, ry, b, rfl, q1⟩ := h
  obtain rfl : r = Value.bool b := ry
  exact wpAny_truthy_bool (wpAny_pure ⟨.bl (!b), H1, I1, rfl, q1⟩)
theorem call_str_own (c : Own X.prog X.w X.K X.mg X.base k C "__str__" sp) (hr : Room j X.A) (hk : k + 2 ≤ j) : CallR X (.type "str") (fun xs H Q => ∃ a dx fs, xs = [.ref a] ∧ H a = some (.ins C dx fs) ∧ sp [.ref a] H (fun v H1 => ∃ y, v = .str y ∧ Q (.str y) H1) E0) := by
  intro pins s σ H xs us Q I rs h
  obtain ⟨a, dx, fs, rfl, ea, q⟩ := h
  obtain ⟨f, fd, ps, hs, hf, F, b⟩ := c.ex
  cases rs with
  | cons r1 rs =>
    cases rs
    cases r1
    obtain ⟨mA, O, rr, _, _, _⟩ := ins_get I.hok ea
    obtain ⟨od, J, hl⟩ := O.look
    have hr2 : Room k X.A.in1.in1 := (Room.in1 (Room.in1 (hr.mono hk)))
    refine PySem.W.kso_call (by have := hr2.un; omega) I.kIn J hs hf ?_
    have hl : [V.ref a].length = ps.length := F.len _ _ _ _ q
    have bb := b s [.ref a] I.kIn (by simpa using hl)
    refine wpAny_call (codeAny_mono (F.run X.A.in1.in1 X.stack s H ⟨[.ref a], []⟩ [.ref a] [.ref a] _ E0 hr2 (Env0.in1 (Env0.in1 I.env0)) bb (.cons rfl .nil) q) fun r s' hq => ?_)
    cases r with
    | error e => exact False.elim hq
    | ok fl =>
      cases fl with
      | ret u =>
        obtain ⟨v, H1, I1, rv, y, rfl, q1⟩ := I.after hq
        obtain ⟨t, rfl⟩ := rv
        exact ⟨.str y, H1, I1, ⟨t, rfl⟩, q1⟩
      | next => exact False.elim hq
      | brk => exact False.elim hq
      | cont => exact False.elim hq
end
end Rv
end

section
set_option Elab.async false
set_option autoImplicit false
set_option linter.all false
set_option maxRecDepth 100000
set_option maxHeartbeats 4000000
namespace Rv
open PySem L2 PyProof.Rows PySem.Spec
abbrev NetD := List PipeD × List MeterD
abbrev rNet (cs : Cs) : Rl NetD := rO2 cs.net "joined" "fitted" (rTup (rPipe cs)) (rTup (rMeter cs))
structure OkNet (n : NetD) : Prop where
  ps : OkPs n.1
  ms : OkMs n.2 n.1
def itemsN (n : NetD) : List Item := n.1.map .inl ++ n.2.map .inr
def textN (n : NetD) : Tt := TL.joinL [10] ((itemsN n).map lineI)
theorem OkNet.items {n : NetD} (h : OkNet n) : ∀ i ∈ itemsN n, OkI i := fun i hi => by
  rcases List.mem_append.mp hi with q | q
  · obtain ⟨p, hp, rfl⟩ := List.mem_map.mp q
    exact h.ps.ok p hp
  · obtain ⟨p, hp, rfl⟩ := List.mem_map.mp q
    exact h.ms.ok p hp
theorem OkNet.len {n : NetD} (h : OkNet n) : (itemsN n).length ≤ 24 ∧ 1 ≤ (itemsN n).length := by
  have a := h.ps.l1
  have b := h.ps.l2
  have c := h.ms.l2
  simp [itemsN]; omega
theorem sum_le {l : List Str} {c : Nat} (h : ∀ x ∈ l, x.length ≤ c) : (l.map (·.length)).sum ≤ c * l.length := by
  induction l with
  | nil => simp
  | cons x r ih =>
    have a := h x (List.mem_cons_self ..)
    have b := ih fun y hy => h y (List.mem_cons_of_mem _ hy)
    simp only [List.map_cons, List.sum_cons, List.length_cons]
    rw [Nat.mul_add]; omega
theorem joinL_len {sep : Tt} {c : Nat} : ∀ {l : List Tt}, (∀ x ∈ l, x.length ≤ c) → (TL.joinL sep l).length ≤ (c + sep.length) * l.length
  | [], _ => by simp [TL.joinL]
  | [x], h => by have := h x (by simp); simp [TL.joinL]; omega
  | x :: y :: r, h => by
    have a := h x (by simp)
    have b := joinL_len (sep := sep) (l := y :: r) fun z hz => h z (List.mem_cons_of_mem _ hz)
    show (x ++ (sep ++ TL.joinL sep (y :: r))).length ≤ _
    rw [List.length_append, List.length_append, List.length_cons, Nat.mul_add]; omega
theorem OkNet.tlen {n : NetD} (h : OkNet n) : (textN n).length ≤ 1000 := by
  have a := h.len
  have b := joinL_len (sep := [10]) (c := 40) (l := (itemsN n).map lineI) fun x hx => by
    obtain ⟨i, hi, rfl⟩ := List.mem_map.mp hx
    exact lineI_len (h.items i hi)
  simp at b
  unfold textN
  omega
theorem OkNet.split {n : NetD} (h : OkNet n) : Txt.split (S (textN n)) (S [10]) = ((itemsN n).map lineI).map S := by
  have a := h.len
  unfold textN
  rw [SX.split_S (by simp) (by decide), SX.spl_join]
  · intro e
    have := congrArg List.length e
    simp at this
    rw [this] at a; simp at a
  · intro w hw
    obtain ⟨i, hi, rfl⟩ := List.mem_map.mp hw
    exact lineI_no10 (h.items i hi)
abbrev spNetInit (cs : Cs) : Sp := fun vs H Q _ => ∃ (A : Amb) (F : Hp) (x : Addr) (u v : V) (n : NetD) (dx : Addr), vs = [.ref x, u, v] ∧ Fz A F H ∧ rTup (rPipe cs) F u n.1 ∧ rTup (rMeter cs) F v n.2 ∧ OkNet n ∧ F x = none ∧ ¬ A.S x ∧ H x = some (.ins cs.net dx []) ∧
  InitQ A F H cs.net x dx Q fun F' fs => ∃ a b, fs = [(("joined" : Str), a), (("fitted" : Str), b)] ∧ rTup (rPipe cs) F' a n.1 ∧ rTup (rMeter cs) F' b n.2
abbrev spNetMeters (cs : Cs) : Sp := fun vs H Q _ => ∃ (A : Amb) (F : Hp) (x : V) (n : NetD), vs = [x] ∧ Fz A F H ∧ rNet cs F x n ∧ Out A F H Q fun F' _ v => rTup (rMeter cs) F' v n.2
abbrev spNetContains (cs : Cs) : Sp := fun vs H Q _ => ∃ (A : Amb) (F : Hp) (x : V) (n : NetD) (l : Tt), vs = [x, .str (S l)] ∧ Fz A F H ∧ rNet cs F x n ∧ n.2.length ≤ 12 ∧ Out A F H Q fun F' _ v => v = .bl (decide (l ∈ n.2.map (·.1)))
abbrev spNetStr (cs : Cs) : Sp := fun vs H Q _ => ∃ (A : Amb) (F : Hp) (x : V) (n : NetD), vs = [x] ∧ Fz A F H ∧ rNet cs F x n ∧ OkNet n ∧ Out A F H Q fun F' _ v => v = .str (S (textN n))
abbrev spNetRead (cs : Cs) : Sp := fun vs H Q _ => ∃ (A : Amb) (F : Hp) (n : NetD), vs = [.ref cs.net, .str (S (textN n))] ∧ Fz A F H ∧ OkNet n ∧ Out A F H Q fun F' _ v => rNet cs F' v n
abbrev spCheckNet (cs : Cs) : Sp := fun vs H Q _ => ∃ (A : Amb) (F : Hp) (x : V) (n : NetD), vs = [x] ∧ Fz A F H ∧ rNet cs F x n ∧ Out A F H Q fun F' _ v => v = .non
section
variable {P : Program} {w : World} {K : PySem.W.Frag} {mg : Str → Option Value} {base : Heap} {cs : Cs}
theorem getNM {A : Amb} {F H : Hp} {Q : VK} {x : V} {n : NetD} (Z : Fz A F H) (r : rNet cs F x n) (k : ∀ F' H' v, Gr A F H F' H' → rTup (rMeter cs) F' v n.2 → Q v H') : ∃ a dx fs, x = .ref a ∧ H a = some (.ins cs.net dx fs) ∧ spNetMeters cs [.ref a] H Q E0 := by
  have r0 := r
  obtain ⟨p, dx, y, z, rfl, h1, h2, h3⟩ := r
  exact ⟨p, dx, _, rfl, Z.sub _ _ h1, A, F, _, n, rfl, Z, r0, fun F' H' v g e => k F' H' v g e⟩
abbrev sNetInit : Stmt := inClass (top 52) 0
abbrev nNetInit : List Str := ["self", "pipes", "meters"]
abbrev pNetInit : List Str := ["self", "pipes", "meters"]
theorem scNetInit : FnScope nNetInit pNetInit (defScope sNetInit) := ⟨rfl, rfl, rfl, by decide +kernel, rfl, by decide +kernel, by decide +kernel⟩

theorem k_Net (D : MkD K mg "Net" cs.net "Net.__init__" sNetInit pNetInit) (T : Tx K mg cs) (c_check_pipes : Cal P w K mg base 3 "check_pipes" (spCheckPipes cs)) (c_check_meters : Cal P w K mg base 3 "check_meters" (spCheckMeters cs)) : Mak P w K mg base 4 "Net" cs.net (spNetInit cs) := by
  refine mak_of D scNetInit (fun vs H Q E h => ?_) (fun f cdv A outer s H vs Q E hr h => ?_)
  · obtain ⟨_, _, _, _, _, _, _, rfl, _⟩ := h
    rfl
  · obtain ⟨Am, F, x, u, v, n, dx, rfl, Z, ru, rv, ok, hf, hs, hx, k⟩ := h
    refine ⟨_, (pss_cons (ps_expr (pe_c c_check_pipes hr (by decide) rfl (pa_cons (pv 1) pa_nil)))
      (pss_cons (ps_expr (pe_c c_check_meters hr (by decide) rfl (pa_cons (pv 2) (pa_cons (pv 1) pa_nil))))
      (pss_cons (ps_fld (pv 0) (pv 1) rfl)
      (pss_one (ps_fld (pv 0) (pv 2) rfl))))), ?_⟩
    refine ⟨_, rfl, Am, F, u, n.1, rfl, Z, ru, ok.ps, fun F1 H1 v1 g1 e1 => ?_⟩
    refine ⟨_, rfl, _, rfl, Am, F1, v, u, n.1, n.2, rfl, g1.fz, MonoR.up g1.ff rv, MonoR.up g1.ff ru, ok.ps, ok.ms, fun F2 H2 v2 g2 e2 => ?_⟩
    have g := g1.trans g2
    obtain ⟨h3, f3⟩ := g.cell hs hx hf
    refine ⟨_, rfl, _, rfl, x, cs.net, dx, _, rfl, h3, T.k_Net, T.a_Net_joined, (by decide), ?_⟩
    refine ⟨_, rfl, _, rfl, x, cs.net, dx, _, rfl, upd_same, T.k_Net, T.a_Net_fitted, (by show 1 < 1000; decide), ?_⟩
    rw [upd_upd]
    exact k F2 H2 _ g f3 ⟨u, v, rfl, MonoR.up g.ff ru, MonoR.up g.ff rv⟩
abbrev sNetMeters : Stmt := inClass (top 52) 3
abbrev nNetMeters : List Str := ["self"]
abbrev pNetMeters : List Str := ["self"]
theorem scNetMeters : FnScope nNetMeters pNetMeters (defScope sNetMeters) := ⟨rfl, rfl, rfl, by decide +kernel, rfl, by decide +kernel, by decide +kernel⟩

theorem p_Net_meters (D : PrD K cs.net "meters" "Net.meters" sNetMeters pNetMeters) (T : Tx K mg cs) : Prp P w K mg base 1 cs.net "meters" (spNetMeters cs) := by
  refine prp_of D scNetMeters (fun vs H Q E h => ?_) (fun f cdv A outer s H vs Q E hr h => ?_)
  · obtain ⟨_, _, _, _, rfl, _⟩ := h
    rfl
  · obtain ⟨Am, F, _, n, rfl, Z, ⟨p, dx, x, y, rfl, hp, rx, ry⟩, k⟩ := h
    refine ⟨_, (pss_one (ps_ret (pe_fld (pv 0) rfl))), ?_⟩
    refine ⟨_, rfl, p, _, dx, _, y, rfl, Z.sub _ _ hp, T.k_Net, T.a_Net_fitted, rfl, ?_⟩
    exact k F H _ (Gr.refl Z) ry
abbrev sNetContains : Stmt := inClass (top 52) 14
abbrev nNetContains : List Str := ["self", "value", "meter"]
abbrev pNetContains : List Str := ["self", "value"]
theorem scNetContains : FnScope nNetContains pNetContains (defScope sNetContains) := ⟨rfl, rfl, rfl, by decide +kernel, rfl, by decide +kernel, by decide +kernel⟩

theorem q_Net_contains (D : OwD K cs.net "__contains__" "Net.__contains__" sNetContains pNetContains) (T : Tx K mg cs) (p_Meter_name : Prp P w K mg base 1 cs.meter "name" (spMeterGet cs (fun t => .str (S t.1)))) : Own P w K mg base 3 cs.net "__contains__" (spNetContains cs) := by
  refine own_of D scNetContains (fun vs H Q E h => ?_) (fun f cdv A outer s H vs Q E hr h => ?_)
  · obtain ⟨_, _, _, _, _, rfl, _⟩ := h
    rfl
  · obtain ⟨Am, F, _, n, l, rfl, Z, ⟨p, dx, x, y, rfl, hp, rx, ⟨q, xs, rfl, hq, prd⟩⟩, hl, k⟩ := h
    refine ⟨_, (pss_one (ps_ret (pe_cmpR (r := rIn K false) op_in_seq (pv 1) (pe_lcG (own := [("meter", 2)]) rfl scNetContains.nd (pi_tup (pe_fld (pv 0) rfl)) (blkOk_by (own := [("meter", 2)]) (N := nNetContains) (sc := defScope sNetContains) (by decide +kernel)) (fun _ _ _ _ _ => (pg_name (i := 2) scNetContains.nd rfl (.inl rfl) (.inr rfl))) (fun _ _ _ _ _ => pts_nil) (fun _ _ _ _ _ => (pe_pr p_Meter_name hr (by decide) (pv 2) rfl))) (by first | exact nomark _ | rfl)))), ?_⟩
    refine ⟨_, rfl, _, rfl, p, _, dx, _, _, rfl, Z.sub _ _ hp, T.k_Net, T.a_Net_fitted, rfl, q, rfl, ⟨_, Z.T hq⟩, ?_⟩
    refine lc_map (ra := rMeter cs) (r := rS) (·.1) walk_tup Z prd (fun F' H' g => g.fz.T (g.ff _ _ hq)) (by omega) ?_ ?_
    · rintro i x d F1 H1 K1 hd G1 rd hK
      exact ⟨rfl, _, rfl, getM (fun t => .str (S t.1)) G1.fz rd fun F3 H3 g3 => hK F3 H3 _ g3 rfl⟩
    · rintro F1 H1 u G1 ⟨u2, zs, e, hu, prd1⟩
      cases e
      have ez := paired_C prd1
      subst ez
      refine ⟨u, _, rfl, .inl (G1.fz.L hu), rfl, flat_S, ?_⟩
      simp only [inV_S, Bool.false_eq_true, if_false]
      exact k _ _ _ G1 rfl
abbrev sNetStr : Stmt := inClass (top 52) 16
abbrev nNetStr : List Str := ["self", "item"]
abbrev pNetStr : List Str := ["self"]
theorem scNetStr : FnScope nNetStr pNetStr (defScope sNetStr) := ⟨rfl, rfl, rfl, by decide +kernel, rfl, by decide +kernel, by decide +kernel⟩

theorem q_Net_str (D : OwD K cs.net "__str__" "Net.__str__" sNetStr pNetStr) (T : Tx K mg cs) (c_line_of : Cal P w K mg base 3 "line_of" (spLineOf cs)) : Own P w K mg base 4 cs.net "__str__" (spNetStr cs) := by
  refine own_of D scNetStr (fun vs H Q E h => ?_) (fun f cdv A outer s H vs Q E hr h => ?_)
  · obtain ⟨_, _, _, _, rfl, _⟩ := h
    rfl
  · obtain ⟨Am, F, _, n, rfl, Z, ⟨p, dx, x, y, rfl, hp, ⟨q1, xs, rfl, hq1, prd1⟩, ⟨q2, ys, rfl, hq2, prd2⟩⟩, ok, k⟩ := h
    have hl := ok.len
    have pr : PySem.Paired (rItem cs F) (xs ++ ys) (itemsN n) := prd_append (prd_map (g := Sum.inl) (fun _ _ h => h) prd1) (prd_map (g := Sum.inr) (fun _ _ h => h) prd2)
    have hlen := prd_len pr
    refine ⟨_, (pss_one (ps_ret (pe_join pe_str (pe_lcG (own := [("item", 1)]) rfl scNetStr.nd (pi_tup (pe_tup (StX.pa_star (pe_fld (pv 0) rfl) (StX.pa_star (pe_fld (pv 0) rfl) pa_nil)))) (blkOk_by (own := [("item", 1)]) (N := nNetStr) (sc := defScope sNetStr) (by decide +kernel)) (fun _ _ _ _ _ => (pg_name (i := 1) scNetStr.nd rfl (.inl rfl) (.inr rfl))) (fun _ _ _ _ _ => pts_nil) (fun _ _ _ _ _ => (pe_c c_line_of hr (by decide) rfl (pa_cons (pv 1) pa_nil))))))), ?_⟩
    refine ⟨⟨_, rfl⟩, _, rfl, p, _, dx, _, _, rfl, Z.sub _ _ hp, T.k_Net, T.a_Net_joined, rfl, q1, xs, rfl, .inl (Z.T hq1), ?_⟩
    refine ⟨_, rfl, p, _, dx, _, _, rfl, Z.sub _ _ hp, T.k_Net, T.a_Net_fitted, rfl, q2, ys, rfl, .inl (Z.T hq2), ?_⟩
    refine ⟨by rw [List.append_nil, hlen]; exact sz (by omega), fun u hu => ?_⟩
    rw [List.append_nil]
    have G := (Gr.refl Z).new (o := .tup (xs ++ ys)) hu
    have hu0 : upd F u (.tup (xs ++ ys)) u = some (.tup (xs ++ ys)) := upd_same
    refine ⟨u, rfl, ⟨_, G.fz.T hu0⟩, ?_⟩
    refine lc_map (ra := rItem cs) (r := rS) lineI walk_tup G.fz (prd_up G.ff pr) (fun F' H' g => g.fz.T (g.ff _ _ hu0)) (by omega) ?_ ?_
    · rintro i x d F1 H1 K1 hd G1 rd hK
      refine ⟨rfl, _, rfl, Am, F1, x, d, rfl, G1.fz, rd, ok.items d (List.mem_of_getElem? hd), fun F2 H2 v g e => hK F2 H2 v g e⟩
    · rintro F1 H1 u1 G1 ⟨u2, zs, e, hu1, prd3⟩
      cases e
      have ez := paired_C prd3
      subst ez
      have em : ((itemsN n).map lineI).map (fun l => V.str (S l)) = (((itemsN n).map lineI).map S).map V.str := by simp
      rw [em] at hu1
      refine ⟨_, u1, _, rfl, rfl, .inl (G1.fz.L hu1), ?_, ?_⟩
      · have a := sum_le (l := ((itemsN n).map lineI).map S) (c := 40) fun x hx => by
          obtain ⟨y, hy, rfl⟩ := List.mem_map.mp hx
          obtain ⟨i, hi, rfl⟩ := List.mem_map.mp hy
          rw [S_length]
          exact lineI_len (ok.items i hi)
        rw [lit_nl, S_length]
        simp only [List.length_map, List.length_cons, List.length_nil] at *
        omega
      · rw [lit_nl, SX.join_S]
        exact k _ _ _ (G.trans G1) rfl
def isP : Item → Bool
  | .inl _ => true
  | .inr _ => false
def isM : Item → Bool
  | .inl _ => false
  | .inr _ => true
def getPi : Item → PipeD
  | .inl p => p
  | .inr _ => ([], [], [])
def getMe : Item → MeterD
  | .inl _ => ([], [], false)
  | .inr m => m
theorem items_P (n : NetD) : ((itemsN n).filter isP).map getPi = n.1 := by
  have a : (n.1.map (Sum.inl : PipeD → Item)).filter isP = n.1.map Sum.inl := by rw [List.filter_eq_self]; intro x hx; obtain ⟨y, _, rfl⟩ := List.mem_map.mp hx; rfl
  have b : (n.2.map (Sum.inr : MeterD → Item)).filter isP = [] := by rw [List.filter_eq_nil_iff]; intro x hx; obtain ⟨y, _, rfl⟩ := List.mem_map.mp hx; simp [isP]
  unfold itemsN
  rw [List.filter_append, a, b, List.append_nil, List.map_map]
  exact List.map_id _
theorem items_M (n : NetD) : ((itemsN n).filter isM).map getMe = n.2 := by
  have a : (n.1.map (Sum.inl : PipeD → Item)).filter isM = [] := by rw [List.filter_eq_nil_iff]; intro x hx; obtain ⟨y, _, rfl⟩ := List.mem_map.mp hx; simp [isM]
  have b : (n.2.map (Sum.inr : MeterD → Item)).filter isM = n.2.map Sum.inr := by rw [List.filter_eq_self]; intro x hx; obtain ⟨y, _, rfl⟩ := List.mem_map.mp hx; rfl
  unfold itemsN
  rw [List.filter_append, a, b, List.nil_append, List.map_map]
  exact List.map_id _
theorem mkNet {A : Amb} {F H : Hp} {R : Hp → Prop} {x dx : Addr} {u v : V} {n : NetD} (Z : Fz A F H) (ru : rTup (rPipe cs) F u n.1) (rv : rTup (rMeter cs) F v n.2) (ok : OkNet n) (hx : H x = none) (hd : H dx = none) (hn : dx ≠ x)
    (k : ∀ F' H', Gr A F H F' H' → rNet cs F' (.ref x) n → R H') : spNetInit cs [.ref x, u, v] (upd (upd H dx (.own x)) x (.ins cs.net dx [])) (fun v H2 => v = .non ∧ R H2) E0 := by
  obtain ⟨z1, z2, z3, z4, z5⟩ := init_ok (C := cs.net) (post := fun F' fs => ∃ a b, fs = [(("joined" : Str), a), (("fitted" : Str), b)] ∧ rTup (rPipe cs) F' a n.1 ∧ rTup (rMeter cs) F' b n.2) (R := fun _ H => R H) Z hx hd hn (fun F' H' fs g hf hp => by
    obtain ⟨F0, hs, a, b, rfl, r1, r2⟩ := hp
    exact k F' H' g ⟨x, dx, a, b, rfl, hf, MonoR.up hs r1, MonoR.up hs r2⟩)
  exact ⟨A, F, x, u, v, n, dx, rfl, z1, ru, rv, ok, z2, z3, z4, z5⟩
abbrev sNetRead : Stmt := inClass (top 52) 1
abbrev nNetRead : List Str := ["cls", "text", "items", "pipes", "meters", "net", "line", "item"]
abbrev pNetRead : List Str := ["cls", "text"]
theorem scNetRead : FnScope nNetRead pNetRead (defScope sNetRead) := ⟨rfl, rfl, rfl, by decide +kernel, rfl, by decide +kernel, by decide +kernel⟩

theorem m_Net_read (D : CmD K cs.net "read" "Net.read" sNetRead pNetRead) (T : Tx K mg cs) (c_item_of : Cal P w K mg base 5 "item_of" (spItemOf cs)) (k_Net : Mak P w K mg base 4 "Net" cs.net (spNetInit cs)) (q_Net_str : Own P w K mg base 4 cs.net "__str__" (spNetStr cs)) : Cmt P w K mg base 7 cs.net "read" (spNetRead cs) := by
  refine cmt_of D scNetRead (fun vs H Q E h => ?_) (fun f cdv A outer s H vs Q E hr h => ?_)
  · obtain ⟨_, _, _, rfl, _⟩ := h
    rfl
  · obtain ⟨Am, F, n, rfl, Z, ok, k⟩ := h
    have hl := ok.len
    have tl := ok.tlen
    refine ⟨_, (pss_cons (ps_if (pt_not (pt_val (pe_callB (id := "isinstance") (r := rIsi K) call_isi (by rfl) T.n_isinstance (by decide +kernel) (pa_cons (pv 1) (pa_cons (pe_bltn (v := .ty "str") (by rfl) T.n_str (by decide +kernel) rfl) pa_nil))))) pss_never pss_nil)
      (pss_cons (ps_setLcG (i := 2) (own := [("line", 6)]) rfl scNetRead.nd rfl rfl (sw_true rfl rfl rfl (by decide +kernel)) (pi_list (pe_split (pv 1) pe_str)) (blkOk_by (own := [("line", 6)]) (N := nNetRead) (sc := defScope sNetRead) (by decide +kernel)) (fun _ _ _ _ _ => (pg_name (i := 6) scNetRead.nd rfl (.inl rfl) (.inr rfl))) (fun _ _ _ _ _ => pts_nil) (fun _ _ _ _ _ => (pe_c c_item_of hr (by decide) rfl (pa_cons (pv 6) pa_nil))))
      (pss_cons (ps_set (i := 3) scNetRead.nd rfl (Or.inl rfl) (pe_callTy call_tuple_of (by rfl) T.n_tuple (by decide +kernel) (pa_cons (pe_lcG (own := [("item", 7)]) rfl scNetRead.nd (pi_list (pv 2)) (blkOk_by (own := [("item", 7)]) (N := nNetRead) (sc := defScope sNetRead) (by decide +kernel)) (fun _ _ _ _ _ => (pg_name (i := 7) scNetRead.nd rfl (.inl rfl) (.inr rfl))) (fun _ _ _ _ _ => (pts_one (pt_val (pe_callB (id := "isinstance") (r := rIsi K) call_isi (by rfl) T.n_isinstance (by decide +kernel) (pa_cons (pv 7) (pa_cons (pe_gc T.cv_Pipe) pa_nil)))))) (fun _ _ _ _ _ => (pv 7))) pa_nil)))
      (pss_cons (ps_set (i := 4) scNetRead.nd rfl (Or.inl rfl) (pe_callTy call_tuple_of (by rfl) T.n_tuple (by decide +kernel) (pa_cons (pe_lcG (own := [("item", 7)]) rfl scNetRead.nd (pi_list (pv 2)) (blkOk_by (own := [("item", 7)]) (N := nNetRead) (sc := defScope sNetRead) (by decide +kernel)) (fun _ _ _ _ _ => (pg_name (i := 7) scNetRead.nd rfl (.inl rfl) (.inr rfl))) (fun _ _ _ _ _ => (pts_one (pt_val (pe_callB (id := "isinstance") (r := rIsi K) call_isi (by rfl) T.n_isinstance (by decide +kernel) (pa_cons (pv 7) (pa_cons (pe_gc T.cv_Meter) pa_nil)))))) (fun _ _ _ _ _ => (pv 7))) pa_nil)))
      (pss_cons (ps_try_thru0 (pss_one (ps_set (i := 5) scNetRead.nd rfl (Or.inl rfl) (pe_mkL (i := 0) k_Net hr (by decide) rfl (.inl rfl) (pa_cons (pv 3) (pa_cons (pv 4) pa_nil))))))
      (pss_cons (ps_if (pt_cmpR op_ne (pe_callTy (call_str_own q_Net_str hr (by decide)) (by rfl) T.n_str (by decide +kernel) (pa_cons (pv 5) pa_nil)) (pv 1) (nomark _)) pss_never pss_nil)
      (pss_one (ps_ret (pv 5))))))))), ?_⟩
    refine ⟨_, rfl, _, _, _, _, true, rfl, .ty _, .base (.str _), kit_ty (by decide +kernel), _, rfl, ?_⟩
    refine iteF ⟨_, rfl, ⟨_, rfl⟩, _, _, rfl, rfl, (by rw [lit_nl, S_length]; rfl), (by rw [S_length]; exact sz (by omega)), fun pw hpw => ?_⟩
    rw [lit_nl, ok.split]
    have G := (Gr.refl Z).new (o := .lst ((((itemsN n).map lineI).map S).map V.str)) hpw
    have em : (((itemsN n).map lineI).map S).map V.str = (itemsN n).map fun i => V.str (S (lineI i)) := by simp
    rw [em] at G ⊢
    have fw : upd F pw (.lst ((itemsN n).map fun i => V.str (S (lineI i)))) pw = some (.lst ((itemsN n).map fun i => V.str (S (lineI i)))) := upd_same
    refine ⟨pw, rfl, ⟨_, G.fz.L fw⟩, ?_⟩
    refine lc_map (ra := rC fun i => V.str (S (lineI i))) (r := rItem cs) (fun i => i) walk_list G.fz (ds := itemsN n) paired_of (fun F' H' g => g.fz.L (g.ff _ _ fw)) (by omega) ?_ ?_
    · rintro i x d F1 H1 K1 hd G1 rfl hK
      exact ⟨rfl, _, rfl, Am, F1, d, rfl, G1.fz, ok.items d (List.mem_of_getElem? hd), fun F2 H2 v g e => hK F2 H2 v g e⟩
    · rintro F1 H1 u G1 ⟨u2, zs, e, hu, prd⟩
      cases e
      rw [List.map_id'] at prd
      refine ⟨_, rfl, u, rfl, ⟨_, G1.fz.L hu⟩, ?_⟩
      refine lc_filter (ra := rItem cs) (r := rPipe cs) isP getPi walk_list G1.fz prd (fun F' H' g => g.fz.L (g.ff _ _ hu)) (by omega) ?_ ?_
      · rintro i x d F2 H2 K1 K0 hd G2 rd hk1 hk0
        refine ⟨rfl, _, rfl, ?_⟩
        cases d with
        | inl p =>
          have rp : rPipe cs F2 x p := rd
          have rp2 := rp
          obtain ⟨q, dx, kv, rfl, hq, _⟩ := rp2
          refine ⟨_, _, _, _, true, rfl, .own _, T.i_Pipe.ty T.k_Pipe (G2.fz.sub _ _ hq), T.is_PP, _, rfl, iteT ?_⟩
          exact ⟨_, rfl, hk1 rfl F2 H2 _ (Gr.refl G2.fz) rp⟩
        | inr m =>
          have rp : rMeter cs F2 x m := rd
          obtain ⟨q, dx, kv, rfl, hq, _⟩ := rp
          refine ⟨_, _, _, _, false, rfl, .own _, T.i_Meter.ty T.k_Meter (G2.fz.sub _ _ hq), T.is_MP, _, rfl, iteF ?_⟩
          exact hk0 rfl F2 H2 (Gr.refl G2.fz)
      rintro F2 H2 u2 G2 ⟨_, ys, e, hu2, prp⟩
      cases e
      rw [items_P] at prp
      refine ⟨u2, ys, rfl, .inl ⟨G2.fz.L hu2, fun tp htp => ?_⟩⟩
      have G3 := G2.new (o := .tup ys) htp
      have htp3 : upd F2 tp (.tup ys) tp = some (.tup ys) := upd_same
      have prp3 : rTup (rPipe cs) (upd F2 tp (.tup ys)) (.ref tp) n.1 := ⟨tp, ys, rfl, htp3, prd_up (same_new (G2.fz.free htp)) prp⟩
      have hu3 := G3.ff _ _ hu
      have prd3 := prd_up G3.ff prd
      refine ⟨_, rfl, u, rfl, ⟨_, G3.fz.L hu3⟩, ?_⟩
      refine lc_filter (ra := rItem cs) (r := rMeter cs) isM getMe walk_list G3.fz prd3 (fun F' H' g => g.fz.L (g.ff _ _ hu3)) (by omega) ?_ ?_
      · rintro i x d F4 H4 K1 K0 hd G4 rd hk1 hk0
        refine ⟨rfl, _, rfl, ?_⟩
        cases d with
        | inl p =>
          have rp : rPipe cs F4 x p := rd
          obtain ⟨q, dx, kv, rfl, hq, _⟩ := rp
          refine ⟨_, _, _, _, false, rfl, .own _, T.i_Pipe.ty T.k_Pipe (G4.fz.sub _ _ hq), T.is_PM, _, rfl, iteF ?_⟩
          exact hk0 rfl F4 H4 (Gr.refl G4.fz)
        | inr m =>
          have rp : rMeter cs F4 x m := rd
          have rp2 := rp
          obtain ⟨q, dx, kv, rfl, hq, _⟩ := rp2
          refine ⟨_, _, _, _, true, rfl, .own _, T.i_Meter.ty T.k_Meter (G4.fz.sub _ _ hq), T.is_MM, _, rfl, iteT ?_⟩
          exact ⟨_, rfl, hk1 rfl F4 H4 _ (Gr.refl G4.fz) rp⟩
      rintro F4 H4 u4 G4 ⟨_, ws, e, hu4, prm⟩
      cases e
      rw [items_M] at prm
      refine ⟨u4, ws, rfl, .inl ⟨G4.fz.L hu4, fun tm htm => ?_⟩⟩
      have G5 := G4.new (o := .tup ws) htm
      have htm5 : upd F4 tm (.tup ws) tm = some (.tup ws) := upd_same
      have prm5 : rTup (rMeter cs) (upd F4 tm (.tup ws)) (.ref tm) n.2 := ⟨tm, ws, rfl, htm5, prd_up (same_new (G4.fz.free htm)) prm⟩
      have prp5 : rTup (rPipe cs) (upd F4 tm (.tup ws)) (.ref tp) n.1 := MonoR.up G5.ff prp3
      have GG := ((G.trans G1).trans G3).trans G5
      refine ⟨rfl, _, rfl, _, rfl, fun x dx hx hd hn => ?_⟩
      refine mkNet GG.fz prp5 prm5 ok hx hd hn fun F' H' g rn => ?_
      have rn2 := rn
      obtain ⟨_, dx2, a, b, e, hf, _, _⟩ := rn2
      cases e
      refine ⟨_, rfl, x, dx2, _, rfl, g.fz.sub _ _ hf, Am, F', .ref x, n, rfl, g.fz, rn, ok, fun F6 H6 v6 g6 e6 => ?_⟩
      subst e6
      refine ⟨_, rfl, _, rfl, rfl, _, rfl, ?_⟩
      rw [eqS, decide_eq_true rfl]
      refine iteF ⟨_, rfl, ?_⟩
      exact k F6 H6 _ ((GG.trans g).trans g6) (MonoR.up g6.ff rn)
abbrev sCheckNet : Stmt := top 53
abbrev nCheckNet : List Str := ["value"]
abbrev pCheckNet : List Str := ["value"]
theorem scCheckNet : FnScope nCheckNet pCheckNet (defScope sCheckNet) := ⟨rfl, rfl, rfl, by decide +kernel, rfl, by decide +kernel, by decide +kernel⟩

theorem c_check_net (D : Dn K mg "check_net" sCheckNet pCheckNet) (T : Tx K mg cs) : Cal P w K mg base 1 "check_net" (spCheckNet cs) := by
  refine cal_of D scCheckNet (fun vs H Q E h => ?_) (fun f cdv A outer s H vs Q E hr h => ?_)
  · obtain ⟨_, _, _, _, rfl, _⟩ := h
    rfl
  · obtain ⟨Am, F, _, n, rfl, Z, ⟨p, dx, x, y, rfl, hp, rx, ry⟩, k⟩ := h
    refine ⟨_, (pss_one (ps_if (pt_not (pt_val (pe_callB (id := "isinstance") (r := rIsi K) call_isi (by rfl) T.n_isinstance (by decide +kernel) (pa_cons (pv 0) (pa_cons (pe_gc T.cv_Net) pa_nil))))) pss_never pss_nil)), ?_⟩
    refine ⟨_, rfl, _, _, _, _, true, rfl, .own _, T.i_Net.ty T.k_Net (Z.sub _ _ hp), T.is_NN, _, rfl, iteF ?_⟩
    exact k F H _ (Gr.refl Z) rfl
end
end Rv
end

section
set_option Elab.async false
set_option autoImplicit false
set_option linter.all false
set_option maxRecDepth 100000
set_option maxHeartbeats 4000000
/-! RvJ: rpartition; steps as data and their lines. -/
namespace Rv
open PySem L2 PyProof.Rows PySem.Spec
section
variable {X : Cx}
theorem mt_rpartition : MtR X "str.rpartition" (fun x xs H Q => ∃ (a b : Str) (i : Nat), x = .str a ∧ xs = [.str b] ∧ (b.length == 0) = false ∧ a.length ≤ sizeLine ∧ Builtin.Str.lastOccurrence a b 0 a.length = some i ∧
    ∀ p, H p = none → Q (.ref p) (upd H p (.tup [.str (Builtin.Str.strSub a 0 i), .str b, .str (Builtin.Str.strSub a (i + b.length) a.length)]))) := by
  intro pins s σ H x xs v us Q I rx rs h
  obtain ⟨a, b, i, rfl, rfl, hb, hz, hi, h⟩ := h
  obtain ⟨t, rfl⟩ := rx
  cases rs with
  | cons r1 rs =>
    cases rs
    obtain ⟨u, rfl⟩ := r1
    refine call_meets F.slot_str_rpartition (typeIs_str _ _ _) F.entry_str_rpartition (F.args_str_rpartition_2 _ _) (meets_str_rpartition a b t u hb hz) ?_
    rw [hi]
    exact laid_parts I h
end
section
variable {X : Cx} {o e : Expr} {to te : TE}
theorem pe_rpartition {apos pos : Pos} (ho : PE X o to) (he : PE X e te) (hs : starEach [e] X.env = [(false, eval e X.env)] := by rfl) (hbase : attributeBase o "rpartition" X.env (eval o X.env) = eval o X.env := by rfl) (hline : (apos.endLine == pos.line) = true := by rfl) :
    PE X (.Call (.Attribute o "rpartition" apos) [e] [] pos) (tM1 (fun x xs H Q => ∃ (a b : Str) (i : Nat), x = .str a ∧ xs = [.str b] ∧ (b.length == 0) = false ∧ a.length ≤ sizeLine ∧ Builtin.Str.lastOccurrence a b 0 a.length = some i ∧
    ∀ p, H p = none → Q (.ref p) (upd H p (.tup [.str (Builtin.Str.strSub a 0 i), .str b, .str (Builtin.Str.strSub a (i + b.length) a.length)]))) to te) :=
  pe_m1 F.slot_str_rpartition F.type_str_rpartition mt_rpartition ho he hs hbase hline
end
theorem strSub_S (l : Tt) (i j : Nat) : Builtin.Str.strSub (S l) i j = S ((l.drop i).take (j - i)) := TL.ext_tl (PySem.StrLaws.strSub_toList (S l) i j)
/-- ' go ' stands last ahead of one sign -/
theorem last_go (p : Tt) {d : Nat} (hd : d ≠ 32) : Builtin.Str.lastOccurrence (S (p ++ ([32, 103, 111, 32] ++ [d]))) (S [32, 103, 111, 32]) 0 (S (p ++ ([32, 103, 111, 32] ++ [d]))).length = some p.length := by
  have hat : StrLaws.At (S (p ++ ([32, 103, 111, 32] ++ [d]))) (S [32, 103, 111, 32]) (S (p ++ ([32, 103, 111, 32] ++ [d]))).length p.length := by
    refine ⟨by rw [S_length, S_length]; simp, ?_⟩
    rw [StrLaws.subAt_eq, S_cps, S_cps, List.drop_append_of_le_length (Nat.le_refl _), List.drop_length]
    rw [S_length]; rfl
  rcases StrLaws.last_spec (S (p ++ ([32, 103, 111, 32] ++ [d]))) (S [32, 103, 111, 32]) with ⟨_, h⟩ | ⟨i, h1, h2, h3⟩
  · exact absurd hat (h _)
  · rw [h1]
    have l1 : p.length ≤ i := Nat.le_of_not_lt fun q => h3 _ q hat
    have l2 := h2.1
    rw [S_length, S_length] at l2
    simp at l2
    by_cases e : i = p.length
    · rw [e]
    · exfalso
      have e2 : i = p.length + 1 := by omega
      have h4 := h2.2
      rw [StrLaws.subAt_eq, S_cps, S_cps, e2, List.drop_append, List.drop_eq_nil_of_le (by omega)] at h4
      have e3 : p.length + 1 - p.length = 1 := by omega
      rw [e3] at h4
      have : ([103, 111, 32, d] == [32, 103, 111, 32]) = true := h4
      simp at this
/-! ### steps -/
inductive Stp where
  | iff (a b : Tm) (g : Nat)
  | vote (h : Nat) (l : List Tm)
  | tell (t : Tm)
  | dbt
def wIf : Tt := [105, 102]
def wGo : Tt := [103, 111]
def wVote : Tt := [118, 111, 116, 101]
def wTell : Tt := [116, 101, 108, 108]
def wDoubt : Tt := [100, 111, 117, 98, 116]
theorem lit_if : Str.ofString "if" = S wIf := lit (by decide +kernel)
theorem lit_vote : Str.ofString "vote" = S wVote := lit (by decide +kernel)
theorem lit_tell : Str.ofString "tell" = S wTell := lit (by decide +kernel)
theorem lit_doubt : Str.ofString "doubt" = S wDoubt := lit (by decide +kernel)
theorem lit__go_ : Str.ofString " go " = S [32, 103, 111, 32] := lit (by decide +kernel)
theorem lit__eq_ : Str.ofString " == " = S [32, 61, 61, 32] := lit (by decide +kernel)
theorem lit_colon : Str.ofString ": " = S [58, 32] := lit (by decide +kernel)
theorem lit_comma : Str.ofString ", " = S [44, 32] := lit (by decide +kernel)
/-- the text behind the word -/
def restIf (a b : Tm) (g : Nat) : Tt := told a ++ ([32, 61, 61, 32] ++ told b) ++ ([32, 103, 111, 32] ++ [48 + g])
def restVote (h : Nat) (l : List Tm) : Tt := [48 + h] ++ ([58, 32] ++ TL.joinL [44, 32] (l.map told))
def lineS : Stp → Tt
  | .iff a b g => wIf ++ ([32] ++ restIf a b g)
  | .vote h l => wVote ++ ([32] ++ restVote h l)
  | .tell t => wTell ++ ([32] ++ told t)
  | .dbt => wDoubt
/-- the k-th of many steps -/
def OkS (many k : Nat) : Stp → Prop
  | .iff a b g => OkT a ∧ OkT b ∧ k < g ∧ g < many ∧ g < 8
  | .vote h l => h ≤ 3 ∧ 1 ≤ l.length ∧ l.length ≤ 10 ∧ ∀ t ∈ l, OkT t
  | .tell t => OkT t
  | .dbt => True
theorem told_range {t : Tm} (h : OkT t) : ∀ c ∈ told t, 32 ≤ c ∧ c ≤ 122 ∧ c ≠ 44 ∧ c ≠ 58 ∧ c ≠ 61 := fun c hc => by
  cases t with
  | nil => simp [told] at hc; omega
  | cons p r =>
    have tail : ∀ {r : Tm}, (∀ q ∈ r, OkP q) → ∀ c ∈ tailT r, 32 ≤ c ∧ c ≤ 122 ∧ c ≠ 44 ∧ c ≠ 58 ∧ c ≠ 61 := by
      intro r hr c hc
      obtain ⟨q, hq, hc⟩ := List.mem_flatMap.mp hc
      have b := bodyT_range (hr q hq)
      simp only [List.mem_cons] at hc
      rcases hc with e | e | e | hc
      · omega
      · rw [e]; unfold sgnT; split <;> omega
      · omega
      · have := b c hc; omega
    have b := bodyT_range (h.ok p (List.mem_cons_self ..))
    simp only [told, List.mem_append] at hc
    rcases hc with (hc | hc) | hc
    · split at hc
      · have := List.mem_singleton.mp hc; omega
      · cases hc
    · have := b c hc; omega
    · exact tail (fun q hq => h.ok q (List.mem_cons_of_mem _ hq)) c hc
theorem free2 {a b : Nat} {sep : Tt} (hab : a ≠ b) : ∀ {p : Tt}, b ∉ p → SX.free (a :: b :: sep) p = true
  | [], _ => rfl
  | c :: r, h => by
    show (!(TL.pre (a :: b :: sep) (c :: (r ++ a :: b :: sep))) && SX.free (a :: b :: sep) r) = true
    rw [Bool.and_eq_true, Bool.not_eq_true']
    refine ⟨?_, free2 hab fun hm => h (List.mem_cons_of_mem _ hm)⟩
    unfold TL.pre
    rw [beq_eq_false_iff_ne]
    intro e
    cases r with
    | nil => simp at e; exact hab e.2.1
    | cons d r =>
      simp at e
      exact h (by rw [← e.2.1]; simp)
theorem part_eq {a b : Tm} (ha : OkT a) : Txt.partition (S (told a ++ ([32, 61, 61, 32] ++ told b))) (S [32, 61, 61, 32]) = (S (told a), S [32, 61, 61, 32], S (told b)) :=
  SX.partition_some (by simp) (SX.par_free _ (by simp) (free2 (by decide) fun hm => by have := told_range ha _ hm; omega))
theorem part_word {w r : Tt} (h : (32 : Nat) ∉ w) : Txt.partition (S (w ++ ([32] ++ r))) (S [32]) = (S w, S [32], S r) := SX.partition_some (by simp) (SX.par_head (sep := []) r h)
theorem part_vote {h : Nat} (hh : h ≤ 3) (r : Tt) : Txt.partition (S ([48 + h] ++ ([58, 32] ++ r))) (S [58, 32]) = (S [48 + h], S [58, 32], S r) := SX.partition_some (by simp) (SX.par_head (sep := [32]) r (by simp; omega))
theorem split_vote {l : List Tm} (h1 : 1 ≤ l.length) (h : ∀ t ∈ l, OkT t) : Txt.split (S (TL.joinL [44, 32] (l.map told))) (S [44, 32]) = (l.map told).map S := by
  rw [SX.split_S (by simp) (by decide), SX.spl_join]
  · intro e; have := congrArg List.length e; simp at this; rw [this] at h1; simp at h1
  · intro w hw
    obtain ⟨t, ht, rfl⟩ := List.mem_map.mp hw
    intro hm
    have := told_range (h t ht) _ hm
    omega
theorem lineS_len {m k : Nat} {s : Stp} (h : OkS m k s) : (lineS s).length ≤ 3000 := by
  cases s with
  | iff a b g =>
    have x := told_len h.1
    have y := told_len h.2.1
    simp [lineS, restIf, wIf]; omega
  | vote hh l =>
    have x := joinL_len (sep := [44, 32]) (c := 200) (l := l.map told) fun y hy => by
      obtain ⟨t, ht, rfl⟩ := List.mem_map.mp hy
      exact (told_len (h.2.2.2 t ht)).2
    have := h.2.2.1
    simp at x
    simp [lineS, restVote, wVote]; omega
  | tell t =>
    have x := told_len (t := t) h
    simp [lineS, wTell]; omega
  | dbt => simp [lineS, wDoubt]
theorem lineS_no10 {m k : Nat} {s : Stp} (h : OkS m k s) : (10 : Nat) ∉ lineS s := fun hm => by
  have hj : ∀ {l : List Tm}, (∀ t ∈ l, OkT t) → (10 : Nat) ∉ TL.joinL [44, 32] (l.map told) := by
    intro l hl
    induction l with
    | nil => simp [TL.joinL]
    | cons t r ih =>
      cases r with
      | nil => simp only [List.map_cons, List.map_nil, TL.joinL]; intro hm; have := told_range (hl t (by simp)) _ hm; omega
      | cons u r =>
        show (10 : Nat) ∉ told t ++ ([44, 32] ++ TL.joinL [44, 32] ((u :: r).map told))
        have i2 := ih fun x hx => hl x (List.mem_cons_of_mem _ hx)
        intro hm
        rcases List.mem_append.mp hm with q | q
        · have := told_range (hl t (by simp)) _ q; omega
        · rcases List.mem_append.mp q with q | q
          · simp at q
          · exact i2 q
  cases s with
  | iff a b g =>
    have x := fun hm => (told_range h.1 10 hm).1
    have y := fun hm => (told_range h.2.1 10 hm).1
    simp [lineS, restIf, wIf] at hm
    rcases hm with q | q
    · have := x q; omega
    · rcases q with q | q
      · have := y q; omega
      · omega
  | vote hh l =>
    have x := hj h.2.2.2
    simp [lineS, restVote, wVote] at hm
    rcases hm with q | q
    · omega
    · exact x q
  | tell t =>
    have x := fun hm => (told_range (t := t) h 10 hm).1
    simp [lineS, wTell] at hm
    have := x hm; omega
  | dbt => simp [lineS, wDoubt] at hm
end Rv
end

section
set_option Elab.async false
set_option autoImplicit false
set_option linter.all false
set_option maxRecDepth 100000
set_option maxHeartbeats 4000000
namespace Rv
open PySem L2 PyProof.Rows PySem.Spec
/-- a reading fits a meter -/
def OkR (m : MeterD) (o : Option Int) : Prop := o = none → m.2.2 = false
abbrev spIsReading (cs : Cs) : Sp := fun vs H Q _ => ∃ (A : Amb) (F : Hp) (x : V) (m : MeterD) (o : Option Int), vs = [x, oV o] ∧ Fz A F H ∧ rMeter cs F x m ∧ OkR m o ∧ Out A F H Q fun _ _ v => v = .bl true
def OkRs (ms : List MeterD) (vs : List (Option Int)) : Prop := vs.length = ms.length ∧ ∀ (i : Nat) m o, ms[i]? = some m → vs[i]? = some o → OkR m o
abbrev spCheckReadings (cs : Cs) : Sp := fun vs H Q _ => ∃ (A : Amb) (F : Hp) (x y : V) (n : NetD) (rd : List (Option Int)), vs = [x, y] ∧ Fz A F H ∧ rNet cs F x n ∧ rTup rOI F y rd ∧ n.2.length ≤ 12 ∧ OkRs n.2 rd ∧ Out A F H Q fun _ _ v => v = .non
abbrev spSumWith (cs : Cs) : Sp := fun vs H Q _ => ∃ (A : Amb) (F : Hp) (t : Tm), vs = [.str (S (told t))] ∧ Fz A F H ∧ OkT t ∧ Out A F H Q fun F' _ v => rSum cs F' v t
abbrev spGoalWith : Sp := fun vs H Q _ => ∃ (A : Amb) (F : Hp) (g k m : Nat), vs = [.str (S [48 + g]), .int k, .int m] ∧ Fz A F H ∧ k < g ∧ g < m ∧ g < 8 ∧ Out A F H Q fun F' _ v => v = .int g
def rStepR (cs : Cs) : Rl Stp := fun F v s => match s with
  | .iff a b g => ∃ p x y, v = .ref p ∧ F p = some (.tup [.str "if", x, y, .int g]) ∧ rSum cs F x a ∧ rSum cs F y b
  | .vote h l => ∃ p x, v = .ref p ∧ F p = some (.tup [.str "vote", .int h, x]) ∧ rTup (rSum cs) F x l
  | .tell t => ∃ p x, v = .ref p ∧ F p = some (.tup [.str "tell", x]) ∧ rSum cs F x t
  | .dbt => ∃ p, v = .ref p ∧ F p = some (.tup [.str "doubt"])
instance {cs : Cs} : MonoR (rStepR cs) := ⟨fun {F F' v s} e h => by
  cases s with
  | iff a b g => obtain ⟨p, x, y, h1, h2, h3, h4⟩ := h; exact ⟨p, x, y, h1, e _ _ h2, MonoR.up e h3, MonoR.up e h4⟩
  | vote hh l => obtain ⟨p, x, h1, h2, h3⟩ := h; exact ⟨p, x, h1, e _ _ h2, MonoR.up e h3⟩
  | tell t => obtain ⟨p, x, h1, h2, h3⟩ := h; exact ⟨p, x, h1, e _ _ h2, MonoR.up e h3⟩
  | dbt => obtain ⟨p, h1, h2⟩ := h; exact ⟨p, h1, e _ _ h2⟩⟩
abbrev spTestStep (cs : Cs) : Sp := fun vs H Q _ => ∃ (A : Amb) (F : Hp) (a b : Tm) (g k m : Nat), vs = [.str (S (restIf a b g)), .int k, .int m] ∧ Fz A F H ∧ OkS m k (.iff a b g) ∧ Out A F H Q fun F' _ v => rStepR cs F' v (.iff a b g)
abbrev spVoteStep (cs : Cs) : Sp := fun vs H Q _ => ∃ (A : Amb) (F : Hp) (h : Nat) (l : List Tm), vs = [.str (S (restVote h l))] ∧ Fz A F H ∧ OkS 0 0 (.vote h l) ∧ Out A F H Q fun F' _ v => rStepR cs F' v (.vote h l)
abbrev spStepOf (cs : Cs) : Sp := fun vs H Q _ => ∃ (A : Amb) (F : Hp) (s : Stp) (k m : Nat), vs = [.str (S (lineS s)), .int k, .int m] ∧ Fz A F H ∧ OkS m k s ∧ Out A F H Q fun F' _ v => rStepR cs F' v s
theorem rSum_ne {cs : Cs} {F : Hp} {v : V} {t : Tm} (h : rSum cs F v t) : v ≠ .non := by obtain ⟨p, dx, x, rfl, _⟩ := h; simp
section
variable {P : Program} {w : World} {K : PySem.W.Frag} {mg : Str → Option Value} {base : Heap} {cs : Cs}
abbrev sIsReading : Stmt := top 55
abbrev nIsReading : List Str := ["meter", "value"]
abbrev pIsReading : List Str := ["meter", "value"]
theorem scIsReading : FnScope nIsReading pIsReading (defScope sIsReading) := ⟨rfl, rfl, rfl, by decide +kernel, rfl, by decide +kernel, by decide +kernel⟩

theorem c_is_reading (D : Dn K mg "is_reading" sIsReading pIsReading) (T : Tx K mg cs) (p_Meter_sealed : Prp P w K mg base 1 cs.meter "sealed" (spMeterGet cs (fun t => .bl t.2.2))) (c_is_integer : Cal P w K mg base 1 "is_integer" spIsInteger) : Cal P w K mg base 3 "is_reading" (spIsReading cs) := by
  refine cal_of D scIsReading (fun vs H Q E h => ?_) (fun f cdv A outer s H vs Q E hr h => ?_)
  · obtain ⟨_, _, _, _, _, rfl, _⟩ := h
    rfl
  · obtain ⟨Am, F, x, m, o, rfl, Z, rm, ok, k⟩ := h
    refine ⟨_, (pss_one (ps_ret (pe_ifExp (pt_cmpR op_isN (pv 1) pe_non (nomark _)) (pe_not (pe_pr p_Meter_sealed hr (by decide) (pv 0) rfl)) (pe_c c_is_integer hr (by decide) rfl (pa_cons (pv 1) pa_nil))))), ?_⟩
    cases o with
    | none =>
      refine ⟨_, rfl, rfl, _, rfl, iteT ⟨_, rfl, getM (fun t => .bl t.2.2) Z rm fun F1 H1 g => ⟨_, rfl, ?_⟩⟩⟩
      rw [ok rfl]
      exact k _ _ _ g rfl
    | some i =>
      refine ⟨_, rfl, rfl, _, rfl, iteF ⟨_, rfl, Am, F, i, rfl, Z, fun F1 H1 v g e => ?_⟩⟩
      subst e
      exact k _ _ _ g rfl
abbrev sCheckReadings : Stmt := top 56
abbrev nCheckReadings : List Str := ["net", "value", "index", "meter"]
abbrev pCheckReadings : List Str := ["net", "value"]
theorem scCheckReadings : FnScope nCheckReadings pCheckReadings (defScope sCheckReadings) := ⟨rfl, rfl, rfl, by decide +kernel, rfl, by decide +kernel, by decide +kernel⟩

theorem c_check_readings (D : Dn K mg "check_readings" sCheckReadings pCheckReadings) (T : Tx K mg cs) (p_Net_meters : Prp P w K mg base 1 cs.net "meters" (spNetMeters cs)) (c_is_reading : Cal P w K mg base 3 "is_reading" (spIsReading cs)) : Cal P w K mg base 4 "check_readings" (spCheckReadings cs) := by
  refine cal_of D scCheckReadings (fun vs H Q E h => ?_) (fun f cdv A outer s H vs Q E hr h => ?_)
  · obtain ⟨_, _, _, _, _, _, rfl, _⟩ := h
    rfl
  · obtain ⟨Am, F, x, y, n, rd, rfl, Z, rn, ⟨p, xs, rfl, hp, prd⟩, hl, ok, k⟩ := h
    have ex := paired_C prd
    subst ex
    refine ⟨_, (pss_cons (ps_if (PW.pt (pw_or (pt_not (pt_val (pe_callB (id := "isinstance") (r := rIsi K) call_isi (by rfl) T.n_isinstance (by decide +kernel) (pa_cons (pv 1) (pa_cons (pe_bltn (v := .ty "tuple") (by rfl) T.n_tuple (by decide +kernel) rfl) pa_nil))))) (pw_or1 (pt_cmpR op_ne (pe_callB call_len_seq (by rfl) T.n_len (by decide +kernel) (pa_cons (pv 1) pa_nil)) (pe_callB call_len_seq (by rfl) T.n_len (by decide +kernel) (pa_cons (pe_pr p_Net_meters hr (by decide) (pv 0) rfl) pa_nil)) (nomark _))))) pss_never pss_nil)
      (pss_one (ps_forG PassesOwn.never rfl (pi_enumT (by rfl) T.n_enumerate (pa_cons (pe_pr p_Net_meters hr (by decide) (pv 0) rfl) pa_nil)) (pg_tupK K 2 rfl rfl (pgs_cons (pg_name (i := 2) scCheckReadings.nd rfl (.inl rfl) (.inr rfl)) (pgs_cons (pg_name (i := 3) scCheckReadings.nd rfl (.inl rfl) (.inr rfl)) pgs_nil)))
        (pss_one (ps_if (pt_not (pt_val (pe_c c_is_reading hr (by decide) rfl (pa_cons (pv 3) (pa_cons (pe_ix (r := rIxT K) ix_tup (pv 1) (pv 2) (fun _ _ => rfl)) pa_nil))))) pss_never pss_nil))))), ?_⟩
    refine ⟨_, rfl, _, _, _, _, true, rfl, .ty _, .base (.tup (Z.sub _ _ hp)), kit_ty (by decide +kernel), _, rfl, ?_⟩
    refine iteF ⟨_, rfl, p, _, rfl, .inr (Z.T hp), _, rfl, getNM Z rn fun F1 H1 v g1 ⟨q, ys, e, hq, prm⟩ => ?_⟩
    subst e
    refine ⟨q, ys, rfl, .inr (g1.fz.T hq), rfl, _, rfl, ?_⟩
    have hll := prd_len prm
    rw [decide_eq_true (by rw [hll, List.length_map, ok.1])]
    refine iteF ⟨_, rfl, getNM g1.fz (MonoR.up g1.ff rn) fun F2 H2 v g2 ⟨q2, ys2, e, hq2, prm2⟩ => ?_⟩
    subst e
    have hl2 := prd_len prm2
    refine ⟨q2, ys2, rfl, g2.fz.T hq2, ?_⟩
    refine for_any walk_enumT (fun i σ H' => ∃ F' m1 m2, σ = [some x, some (.ref p), m1, m2] ∧ Gr Am F2 H2 F' H') ⟨F2, _, _, rfl, Gr.refl g2.fz⟩ (fun i σ H' _ ⟨F', _, _, _, G⟩ => G.fz.T (G.ff _ _ hq2)) ?_ ?_
    · rintro i v σ H3 H4 hi ⟨F3, m1, m2, rfl, G3⟩ ⟨U, y1, y2, rfl, hU, rfl, e1, e2⟩
      cases e1
      obtain ⟨m, hm, rm⟩ := prd_get prm2 e2
      have G4 := G3.new (o := .tup [.int (i : Nat), y2]) hU
      obtain ⟨o, ho⟩ : ∃ o, rd[i]? = some o := ⟨rd[i]'(by rw [ok.1]; omega), by simp [show i < rd.length by rw [ok.1]; omega]⟩
      refine ⟨U, _, rfl, SqT.of upd_same, rfl, _, _, rfl, _, _, rfl, rfl, ?_⟩
      have hp4 := G4.ff _ _ (g2.ff _ _ (g1.ff _ _ hp))
      refine ⟨_, rfl, _, rfl, _, rfl, p, _, _, _, rfl, rfl, G4.fz.T hp4, at0 (v := oV o) i rfl (by rw [List.getElem?_map, ho]; rfl), ?_⟩
      refine ⟨Am, _, y2, m, o, rfl, G4.fz, MonoR.up G4.ff rm, ok.2 i m o hm ho, fun F5 H5 v5 g5 e5 => ?_⟩
      subst e5
      exact ⟨_, rfl, iteF ⟨F5, _, _, rfl, G4.trans g5⟩⟩
    · rintro σ H3 ⟨F3, m1, m2, rfl, G3⟩
      exact k _ _ _ ((g1.trans g2).trans G3) rfl
abbrev sSumWith : Stmt := top 59
abbrev nSumWith : List Str := ["text", "total"]
abbrev pSumWith : List Str := ["text"]
theorem scSumWith : FnScope nSumWith pSumWith (defScope sSumWith) := ⟨rfl, rfl, rfl, by decide +kernel, rfl, by decide +kernel, by decide +kernel⟩

theorem c_sum_with (D : Dn K mg "sum_with" sSumWith pSumWith) (T : Tx K mg cs) (m_Sum_read : Cmt P w K mg base 5 cs.sum "read" (spSumRead cs)) : Cal P w K mg base 6 "sum_with" (spSumWith cs) := by
  refine cal_of D scSumWith (fun vs H Q E h => ?_) (fun f cdv A outer s H vs Q E hr h => ?_)
  · obtain ⟨_, _, _, rfl, _⟩ := h
    rfl
  · obtain ⟨Am, F, t, rfl, Z, ok, k⟩ := h
    refine ⟨_, (pss_cons (ps_try_thru0 (pss_one (ps_set (i := 1) scSumWith.nd rfl (Or.inl rfl) (pe_cm m_Sum_read hr (by decide) (pe_gc T.cv_Sum) (pa_cons (pv 0) pa_nil)))))
      (pss_one (ps_ret (pv 1)))), ?_⟩
    exact ⟨rfl, _, rfl, Am, F, t, rfl, Z, ok, fun F1 H1 v g r => ⟨_, rfl, k _ _ _ g r⟩⟩
abbrev sGoalWith : Stmt := top 60
abbrev nGoalWith : List Str := ["text", "index", "many", "goal"]
abbrev pGoalWith : List Str := ["text", "index", "many"]
theorem scGoalWith : FnScope nGoalWith pGoalWith (defScope sGoalWith) := ⟨rfl, rfl, rfl, by decide +kernel, rfl, by decide +kernel, by decide +kernel⟩

theorem c_goal_with (D : Dn K mg "goal_with" sGoalWith pGoalWith) (T : Tx K mg cs) : Cal P w K mg base 1 "goal_with" spGoalWith := by
  refine cal_of D scGoalWith (fun vs H Q E h => ?_) (fun f cdv A outer s H vs Q E hr h => ?_)
  · obtain ⟨_, _, _, _, _, rfl, _⟩ := h
    rfl
  · obtain ⟨Am, F, g, i, m, rfl, Z, h1, h2, h3, k⟩ := h
    refine ⟨_, (pss_cons (ps_if (PW.pt (pw_or (pt_cmpR op_ne (pe_callB call_len_str (by rfl) T.n_len (by decide +kernel) (pa_cons (pv 0) pa_nil)) pe_int (nomark _)) (pw_or1 (pt_cmpR op_notIn_str (pv 0) pe_str (by rfl))))) (pss_one (ps_ret pe_non)) pss_nil)
      (pss_cons (ps_set (i := 3) scGoalWith.nd rfl (Or.inl rfl) (pe_callTy call_int_str (by rfl) T.n_int (by decide +kernel) (pa_cons (pv 0) pa_nil)))
      (pss_one (ps_ret (pe_ifExp (PW.pt (pw_and (pt_chain op_lt op_lt (pv 1) (pv 3) (pv 2)) (pw_and1 (pt_cmpR op_lt (pv 3) (pe_gc T.g_MOST_ROWS) (nomark _))))) (pv 3) pe_non))))), ?_⟩
    refine ⟨_, rfl, _, rfl, (by rw [S_length]; show 1 ≤ sizeLine; decide), rfl, _, rfl, ?_⟩
    rw [decide_eq_true (by rw [S_length]; rfl)]
    refine iteF ⟨_, rfl, _, _, rfl, rfl, _, rfl, ?_⟩
    rw [show S [48 + g] = ⟨#[48 + g]⟩ from rfl, StrLaws.found_one, in_digits]
    rw [show isD (48 + g) = true by simp [isD]; omega]
    refine iteF ⟨_, rfl, _, _, rfl, digit_text (c := 48 + g) (by omega) (by omega), (by show 1 ≤ 640; decide), ?_⟩
    rw [show ((48 + g : Nat) : Int) - 48 = (g : Int) by omega]
    refine ⟨_, rfl, _, rfl, _, _, rfl, rfl, _, rfl, ?_⟩
    rw [decide_eq_true (by omega)]
    refine iteT ⟨_, rfl, _, _, rfl, rfl, _, rfl, ?_⟩
    rw [decide_eq_true (by omega)]
    refine iteT ⟨_, rfl, _, _, rfl, rfl, _, rfl, ?_⟩
    rw [decide_eq_true (by omega)]
    exact iteT ⟨_, rfl, k _ _ _ (Gr.refl Z) rfl⟩
end
end Rv
end

section
set_option Elab.async false
set_option autoImplicit false
set_option linter.all false
set_option maxRecDepth 100000
set_option maxHeartbeats 4000000
namespace Rv
open PySem L2 PyProof.Rows PySem.Spec
theorem go_fst (p : Tt) (d : Nat) : Builtin.Str.strSub (S (p ++ ([32, 103, 111, 32] ++ [d]))) 0 p.length = S p := by
  rw [strSub_S, List.drop_zero, Nat.sub_zero, List.take_append_of_le_length (Nat.le_refl _), List.take_length]
theorem go_snd (p : Tt) (d : Nat) : Builtin.Str.strSub (S (p ++ ([32, 103, 111, 32] ++ [d]))) (p.length + (S [32, 103, 111, 32]).length) (S (p ++ ([32, 103, 111, 32] ++ [d]))).length = S [d] := by
  rw [strSub_S, S_length, S_length, ← List.append_assoc]
  have e : p.length + [32, 103, 111, 32].length = (p ++ [32, 103, 111, 32]).length := by simp
  rw [e, List.drop_left]
  congr 1
  rw [List.length_append]
  apply List.take_of_length_le
  simp
theorem OkS.len {m k : Nat} {a b : Tm} {g : Nat} (h : OkS m k (.iff a b g)) : (restIf a b g).length ≤ 500 := by
  have x := told_len h.1
  have y := told_len h.2.1
  simp [restIf]; omega
theorem voteL_len {l : List Tm} (h1 : l.length ≤ 10) (h : ∀ t ∈ l, OkT t) : (TL.joinL [44, 32] (l.map told)).length ≤ 2020 := by
  have x := joinL_len (sep := [44, 32]) (c := 200) (l := l.map told) fun y hy => by
    obtain ⟨t, ht, rfl⟩ := List.mem_map.mp hy
    exact (told_len (h t ht)).2
  simp at x
  omega
theorem fits_small {i : Nat} (h : i < 1000) : (i : Int).natAbs.log2 < 1920 := by
  rw [Int.natAbs_natCast]
  have : i.log2 ≤ i := Nat.log2_le_self i
  omega
theorem str_digit {i : Nat} (h : i < 10) : (toString (i : Int) : Str) = S [48 + i] := by
  have e : Str.ofString (toString (i : Int)) = S (TL.numL i) := TL.ext_tl (TL.tl_num i)
  have e2 : TL.numL i = [48 + i] := by rw [TL.numL_lt h]
  rw [← e2]; exact e
theorem lc_range {A : Amb} {F H : Hp} {g : TG} {te : TE} {vs : List Nat} {σ : L2.St} {β : Type} {r : Rl β} {Q : VK} (f : Nat → β) {lo : Int} {n : Nat} [MonoR r] (Z : Fz A F H) (hl : n ≤ 50000)
    (hs : ∀ (i : Nat) (F1 H1 : Hp) (K1 : VK), i < n → Gr A F H F1 H1 → (∀ F' H' y, Gr A F1 H1 F' H' → r F' y (f i) → K1 y H') →
      g (.int (lo + i)) (wipe σ vs) H1 fun σ2 H3 => wipe σ2 vs = wipe σ vs ∧ te σ2 H3 K1)
    (k : ∀ F' H' p, Gr A F H F' H' → rLst r F' (.ref p) ((List.range n).map f) → Q (.ref p) H') : LcG (Itr lo n) g tYes te vs σ H Q := by
  refine lc_any (r := r) walk_range Z (fun i => (List.range i).map f) rfl (fun i hi => ?_) (fun _ _ _ => trivial) ?_ k
  · rw [List.length_map, List.length_range]; omega
  · rintro i x F1 H1 H2 K1 K0 hi G1 ⟨rfl, rfl⟩ hk _
    exact hs i F1 _ K1 hi G1 (fun F' H' y g' hb => hk F' H' y (f i) (by rw [List.range_succ, List.map_append]; rfl) g' hb)
section
variable {P : Program} {w : World} {K : PySem.W.Frag} {mg : Str → Option Value} {base : Heap} {cs : Cs}
abbrev sTestStep : Stmt := top 61
abbrev nTestStep : List Str := ["text", "index", "many", "tests", "sign", "end", "first", "equals", "second", "goal", "one", "two"]
abbrev pTestStep : List Str := ["text", "index", "many"]
theorem scTestStep : FnScope nTestStep pTestStep (defScope sTestStep) := ⟨rfl, rfl, rfl, by decide +kernel, rfl, by decide +kernel, by decide +kernel⟩

theorem c_test_step (D : Dn K mg "test_step" sTestStep pTestStep) (T : Tx K mg cs) (c_goal_with : Cal P w K mg base 1 "goal_with" spGoalWith) (c_sum_with : Cal P w K mg base 6 "sum_with" (spSumWith cs)) : Cal P w K mg base 7 "test_step" (spTestStep cs) := by
  refine cal_of D scTestStep (fun vs H Q E h => ?_) (fun f cdv A outer s H vs Q E hr h => ?_)
  · obtain ⟨_, _, _, _, _, _, _, rfl, _⟩ := h
    rfl
  · obtain ⟨Am, F, a, b, g, i, m, rfl, Z, ok, k⟩ := h
    have hlen := ok.len
    obtain ⟨oa, ob, h1, h2, h3⟩ := ok
    have la := told_len oa
    have lb := told_len ob
    refine ⟨_, (pss_cons (ps_asg (pe_rpartition (pv 0) pe_str) (pg_tupK K 3 rfl rfl (pgs_cons (pg_name (i := 3) scTestStep.nd rfl (.inl rfl) (.inr rfl)) (pgs_cons (pg_name (i := 4) scTestStep.nd rfl (.inl rfl) (.inr rfl)) (pgs_cons (pg_name (i := 5) scTestStep.nd rfl (.inl rfl) (.inr rfl)) pgs_nil)))))
      (pss_cons (ps_asg (pe_partition (pv 3) pe_str) (pg_tupK K 3 rfl rfl (pgs_cons (pg_name (i := 6) scTestStep.nd rfl (.inl rfl) (.inr rfl)) (pgs_cons (pg_name (i := 7) scTestStep.nd rfl (.inl rfl) (.inr rfl)) (pgs_cons (pg_name (i := 8) scTestStep.nd rfl (.inl rfl) (.inr rfl)) pgs_nil)))))
      (pss_cons (ps_set (i := 9) scTestStep.nd rfl (Or.inl rfl) (pe_c c_goal_with hr (by decide) rfl (pa_cons (pv 5) (pa_cons (pv 1) (pa_cons (pv 2) pa_nil)))))
      (pss_cons (ps_par (i := 10) (j := 11) (by rfl) scTestStep.nd rfl rfl (by decide) rfl rfl (pa_cons (pe_c c_sum_with hr (by decide) rfl (pa_cons (pv 6) pa_nil)) (pa_cons (pe_c c_sum_with hr (by decide) rfl (pa_cons (pv 8) pa_nil)) pa_nil)) (by rfl))
      (pss_cons (ps_if (PW.pt (pw_or (pt_cmpR op_eq (pv 4) pe_str (nomark _)) (pw_or (pt_cmpR op_eq (pv 7) pe_str (nomark _)) (pw_or (pt_cmpR op_isN (pv 10) pe_non (nomark _)) (pw_or (pt_cmpR op_isN (pv 11) pe_non (nomark _)) (pw_or1 (pt_cmpR op_isN (pv 9) pe_non (nomark _)))))))) (pss_one (ps_ret pe_non)) pss_nil)
      (pss_one (ps_ret (pe_tup (pa_cons pe_str (pa_cons (pv 10) (pa_cons (pv 11) (pa_cons (pv 9) pa_nil)))))))))))), ?_⟩
    refine ⟨_, rfl, ⟨_, rfl⟩, _, _, (told a ++ ([32, 61, 61, 32] ++ told b)).length, rfl, rfl, (by rw [lit__go_, S_length]; rfl), (by rw [S_length]; exact sz (by omega)), (by rw [lit__go_]; exact last_go _ (by omega)), fun p hp => ?_⟩
    rw [lit__go_]
    unfold restIf
    rw [go_fst, go_snd]
    have G := (Gr.refl Z).new (o := .tup [.str (S (told a ++ ([32, 61, 61, 32] ++ told b))), .str (S [32, 103, 111, 32]), .str (S [48 + g])]) hp
    refine ⟨p, _, rfl, SqT.of upd_same, rfl, _, _, rfl, _, _, rfl, _, _, rfl, rfl, ?_⟩
    refine ⟨_, rfl, ⟨_, rfl⟩, _, _, rfl, rfl, (by rw [lit__eq_, S_length]; rfl), (by rw [S_length]; exact sz (by simp; omega)), fun q hq => ?_⟩
    rw [lit__eq_, part_eq oa]
    have G2 := G.new (o := .tup [.str (S (told a)), .str (S [32, 61, 61, 32]), .str (S (told b))]) hq
    refine ⟨q, _, rfl, SqT.of upd_same, rfl, _, _, rfl, _, _, rfl, _, _, rfl, rfl, ?_⟩
    refine ⟨_, rfl, _, rfl, _, rfl, Am, _, g, i, m, rfl, G2.fz, h1, h2, h3, fun F3 H3 v3 g3 e3 => ?_⟩
    subst e3
    refine ⟨_, rfl, Am, F3, a, rfl, g3.fz, oa, fun F4 H4 v4 g4 r4 => ?_⟩
    refine ⟨_, rfl, Am, F4, b, rfl, g4.fz, ob, fun F5 H5 v5 g5 r5 => ?_⟩
    refine ⟨_, _, rfl, ?_⟩
    refine ⟨_, rfl, rfl, _, rfl, ?_⟩
    rw [lit_e, eqS, decide_eq_false (by simp)]
    refine iteF ⟨_, rfl, rfl, _, rfl, ?_⟩
    rw [eqS, decide_eq_false (by simp)]
    refine iteF ⟨_, rfl, rfl, _, rfl, ?_⟩
    rw [decide_eq_false (rSum_ne r4)]
    refine iteF ⟨_, rfl, rfl, _, rfl, ?_⟩
    rw [decide_eq_false (rSum_ne r5)]
    refine iteF ⟨_, rfl, rfl, _, rfl, iteF ?_⟩
    refine ⟨_, rfl, _, rfl, _, rfl, (by show 4 ≤ sizeLine; decide), fun u hu => ?_⟩
    have GG := (((G2.trans g3).trans g4).trans g5)
    exact k _ _ _ (GG.new hu) ⟨u, v4, v5, rfl, upd_same, MonoR.up (g5.ff.trans (same_new (g5.fz.free hu))) r4, MonoR.up (same_new (g5.fz.free hu)) r5⟩
abbrev sVoteStep : Stmt := top 62
abbrev nVoteStep : List Str := ["text", "number", "sign", "tail", "totals", "numbers", "part", "most", "total"]
abbrev pVoteStep : List Str := ["text"]
theorem scVoteStep : FnScope nVoteStep pVoteStep (defScope sVoteStep) := ⟨rfl, rfl, rfl, by decide +kernel, rfl, by decide +kernel, by decide +kernel⟩

theorem c_vote_step (D : Dn K mg "vote_step" sVoteStep pVoteStep) (T : Tx K mg cs) (c_sum_with : Cal P w K mg base 6 "sum_with" (spSumWith cs)) : Cal P w K mg base 7 "vote_step" (spVoteStep cs) := by
  refine cal_of D scVoteStep (fun vs H Q E h => ?_) (fun f cdv A outer s H vs Q E hr h => ?_)
  · obtain ⟨_, _, _, _, rfl, _⟩ := h
    rfl
  · obtain ⟨Am, F, h, l, rfl, Z, ⟨o1, o2, o3, o4⟩, k⟩ := h
    have lj := voteL_len o3 o4
    refine ⟨_, (pss_cons (ps_asg (pe_partition (pv 0) pe_str) (pg_tupK K 3 rfl rfl (pgs_cons (pg_name (i := 1) scVoteStep.nd rfl (.inl rfl) (.inr rfl)) (pgs_cons (pg_name (i := 2) scVoteStep.nd rfl (.inl rfl) (.inr rfl)) (pgs_cons (pg_name (i := 3) scVoteStep.nd rfl (.inl rfl) (.inr rfl)) pgs_nil)))))
      (pss_cons (ps_setLcG (i := 4) (own := [("part", 6)]) rfl scVoteStep.nd rfl rfl (sw_true rfl rfl rfl (by decide +kernel)) (pi_list (pe_split (pv 3) pe_str)) (blkOk_by (own := [("part", 6)]) (N := nVoteStep) (sc := defScope sVoteStep) (by decide +kernel)) (fun _ _ _ _ _ => (pg_name (i := 6) scVoteStep.nd rfl (.inl rfl) (.inr rfl))) (fun _ _ _ _ _ => pts_nil) (fun _ _ _ _ _ => (pe_c c_sum_with hr (by decide) rfl (pa_cons (pv 6) pa_nil))))
      (pss_cons (ps_setLcG (i := 5) (own := [("most", 7)]) rfl scVoteStep.nd rfl rfl (sw_true rfl rfl rfl (by decide +kernel)) (pi_range1 (by rfl) T.n_range (pa_cons (pe_op op_add (pe_gc T.g_MOST_FAULTS) pe_int) pa_nil)) (blkOk_by (own := [("most", 7)]) (N := nVoteStep) (sc := defScope sVoteStep) (by decide +kernel)) (fun _ _ _ _ _ => (pg_name (i := 7) scVoteStep.nd rfl (.inl rfl) (.inr rfl))) (fun _ _ _ _ _ => pts_nil) (fun _ _ _ _ _ => (pe_callTy call_str_int (by rfl) T.n_str (by decide +kernel) (pa_cons (pv 7) pa_nil))))
      (pss_cons (ps_if (PW.pt (pw_or (pt_cmpR op_eq (pv 2) pe_str (nomark _)) (pw_or (pt_cmpR (r := rIn K true) op_notIn_seq (pv 1) (pv 5) (by first | exact nomark _ | rfl)) (pw_or (pt_cmpR op_gt (pe_callB call_len_seq (by rfl) T.n_len (by decide +kernel) (pa_cons (pv 4) pa_nil)) (pe_gc T.g_MOST_SUMS) (nomark _)) (pw_or1 (pt_val (pe_callB (cr_any rfl) (by rfl) T.n_any (by decide +kernel) (pa_cons (pe_lcG (own := [("total", 8)]) rfl scVoteStep.nd (pi_list (pv 4)) (blkOk_by (own := [("total", 8)]) (N := nVoteStep) (sc := defScope sVoteStep) (by decide +kernel)) (fun _ _ _ _ _ => (pg_name (i := 8) scVoteStep.nd rfl (.inl rfl) (.inr rfl))) (fun _ _ _ _ _ => pts_nil) (fun _ _ _ _ _ => (pe_cmpR op_isN (pv 8) pe_non (nomark _)))) pa_nil)))))))) (pss_one (ps_ret pe_non)) pss_nil)
      (pss_one (ps_ret (pe_tup (pa_cons pe_str (pa_cons (pe_callTy call_int_str (by rfl) T.n_int (by decide +kernel) (pa_cons (pv 1) pa_nil)) (pa_cons (pe_callTy call_tuple_of (by rfl) T.n_tuple (by decide +kernel) (pa_cons (pv 4) pa_nil)) pa_nil)))))))))), ?_⟩
    refine ⟨_, rfl, ⟨_, rfl⟩, _, _, rfl, rfl, (by rw [lit_colon, S_length]; rfl), (by rw [S_length]; exact sz (by simp [restVote]; omega)), fun p hp => ?_⟩
    rw [lit_colon]
    unfold restVote
    rw [part_vote o1]
    have G := (Gr.refl Z).new (o := .tup [.str (S [48 + h]), .str (S [58, 32]), .str (S (TL.joinL [44, 32] (l.map told)))]) hp
    refine ⟨p, _, rfl, SqT.of upd_same, rfl, _, _, rfl, _, _, rfl, _, _, rfl, rfl, ?_⟩
    refine ⟨_, rfl, ⟨_, rfl⟩, _, _, rfl, rfl, (by rw [lit_comma, S_length]; rfl), (by rw [S_length]; exact sz (by omega)), fun pw hpw => ?_⟩
    rw [lit_comma, split_vote o2 o4]
    have G1 := G.new (o := .lst (((l.map told).map S).map V.str)) hpw
    have em : ((l.map told).map S).map V.str = l.map fun t => V.str (S (told t)) := by simp
    rw [em] at G1 ⊢
    have fw : upd (upd F p (.tup [.str (S [48 + h]), .str (S [58, 32]), .str (S (TL.joinL [44, 32] (l.map told)))])) pw (.lst (l.map fun t => V.str (S (told t)))) pw = some (.lst (l.map fun t => V.str (S (told t)))) := upd_same
    refine ⟨pw, rfl, ⟨_, G1.fz.L fw⟩, ?_⟩
    refine lc_map (ra := rC fun t => V.str (S (told t))) (r := rSum cs) (fun t => t) walk_list G1.fz (ds := l) paired_of (fun F' H' g => g.fz.L (g.ff _ _ fw)) (by omega) ?_ ?_
    · rintro i x d F2 H2 K1 hd G2 rfl hK
      exact ⟨rfl, _, rfl, Am, F2, d, rfl, G2.fz, o4 d (List.mem_of_getElem? hd), fun F3 H3 v g e => hK F3 H3 v g e⟩
    rintro F2 H2 u G2 ⟨_, zs, e, hu, prd⟩
    cases e
    rw [List.map_id'] at prd
    have hzl := prd_len prd
    refine ⟨_, _, rfl, rfl, _, rfl, by decide, by decide, ?_⟩
    refine lc_range (r := rS) (fun i => [48 + i]) G2.fz (by decide) (fun i F3 H3 K1 hi G3 hK => ?_) (fun F3 H3 u3 G3 hr3 => ?_)
    · have hi : i < 4 := hi
      refine ⟨rfl, _, rfl, _, rfl, ?_, ?_⟩
      · rw [show (0 : Int) + (i : Nat) = (i : Nat) by omega]; exact fits_small (by omega)
      · rw [show (0 : Int) + (i : Nat) = (i : Nat) by omega, str_digit (by omega)]
        exact hK F3 H3 _ (Gr.refl G3.fz) rfl
    obtain ⟨_, ys, e, hu3, prd3⟩ := hr3
    cases e
    have ey := paired_C prd3
    subst ey
    refine ⟨_, rfl, rfl, _, rfl, ?_⟩
    rw [lit_e, eqS, decide_eq_false (by simp)]
    refine iteF ⟨_, rfl, _, rfl, u3, _, rfl, .inl (G3.fz.L hu3), rfl, flat_S, _, rfl, ?_⟩
    simp only [inV_S, if_true]
    rw [decide_eq_true (by
      refine List.mem_map.mpr ⟨h, List.mem_range.mpr ?_, rfl⟩
      show h < 4
      omega)]
    have hu4 := G3.ff _ _ hu
    refine iteF ⟨_, rfl, u, zs, rfl, .inl (G3.fz.L hu4), _, _, rfl, rfl, _, rfl, ?_⟩
    rw [decide_eq_false (by omega)]
    have prd4 := prd_up G3.ff prd
    refine iteF ⟨_, rfl, u, rfl, ⟨_, G3.fz.L hu4⟩, ?_⟩
    refine lc_map (ra := rSum cs) (r := rBl) (fun _ => false) walk_list G3.fz prd4 (fun F' H' g => g.fz.L (g.ff _ _ hu4)) (by omega) ?_ ?_
    · rintro i x d F5 H5 K1 hd G5 rd hK
      refine ⟨rfl, _, rfl, rfl, ?_⟩
      rw [decide_eq_false (rSum_ne rd)]
      exact hK F5 H5 _ (Gr.refl G5.fz) rfl
    rintro F5 H5 u5 G5 ⟨_, ws, e, hu5, prd5⟩
    cases e
    have ew := paired_C prd5
    subst ew
    refine ⟨u5, _, rfl, G5.fz.L hu5, ?_⟩
    have ean : ((l.map fun _ => false)).any id = false := by simp
    have hu6 := G5.ff _ _ hu4
    refine ⟨_, rfl, ?_⟩
    rw [ean]
    refine iteF ?_
    refine ⟨_, rfl, _, _, rfl, digit_text (c := 48 + h) (by omega) (by omega), (by show 1 ≤ 640; decide), ?_⟩
    rw [show ((48 + h : Nat) : Int) - 48 = (h : Int) by omega]
    refine ⟨_, rfl, u, zs, rfl, .inl ⟨G5.fz.L hu6, fun t ht => ⟨by show 3 ≤ sizeLine; decide, fun v hv => ?_⟩⟩⟩
    have G6 := (((G1.trans G2).trans G3).trans G5).new (o := .tup zs) ht
    have G7 := G6.new (o := .tup [.str (Str.ofString "vote"), .int h, .ref t]) hv
    have h6 : Same F2 (upd F5 t (.tup zs)) := (G3.trans G5).ff.trans (same_new (G5.fz.free ht))
    refine k _ _ _ G7 ⟨v, .ref t, rfl, upd_same, t, zs, rfl, same_new (G6.fz.free hv) _ _ upd_same, prd_up (h6.trans (same_new (G6.fz.free hv))) prd⟩
abbrev sStepOf : Stmt := top 63
abbrev nStepOf : List Str := ["row", "index", "many", "word", "sign", "text", "total"]
abbrev pStepOf : List Str := ["row", "index", "many"]
theorem scStepOf : FnScope nStepOf pStepOf (defScope sStepOf) := ⟨rfl, rfl, rfl, by decide +kernel, rfl, by decide +kernel, by decide +kernel⟩

theorem c_step_of (D : Dn K mg "step_of" sStepOf pStepOf) (T : Tx K mg cs) (c_test_step : Cal P w K mg base 7 "test_step" (spTestStep cs)) (c_vote_step : Cal P w K mg base 7 "vote_step" (spVoteStep cs)) (c_sum_with : Cal P w K mg base 6 "sum_with" (spSumWith cs)) : Cal P w K mg base 8 "step_of" (spStepOf cs) := by
  refine cal_of D scStepOf (fun vs H Q E h => ?_) (fun f cdv A outer s H vs Q E hr h => ?_)
  · obtain ⟨_, _, _, _, _, rfl, _⟩ := h
    rfl
  · obtain ⟨Am, F, st, i, m, rfl, Z, ok, k⟩ := h
    have hlen := lineS_len ok
    refine ⟨_, (pss_cons (ps_if (pt_not (pt_val (pe_callB (id := "isinstance") (r := rIsi K) call_isi (by rfl) T.n_isinstance (by decide +kernel) (pa_cons (pv 0) (pa_cons (pe_bltn (v := .ty "str") (by rfl) T.n_str (by decide +kernel) rfl) pa_nil))))) (pss_one (ps_ret pe_non)) pss_nil)
      (pss_cons (ps_if (pt_cmpR op_eq (pv 0) pe_str (nomark _)) (pss_one (ps_ret (pe_tup (pa_cons pe_str pa_nil)))) pss_nil)
      (pss_cons (ps_asg (pe_partition (pv 0) pe_str) (pg_tupK K 3 rfl rfl (pgs_cons (pg_name (i := 3) scStepOf.nd rfl (.inl rfl) (.inr rfl)) (pgs_cons (pg_name (i := 4) scStepOf.nd rfl (.inl rfl) (.inr rfl)) (pgs_cons (pg_name (i := 5) scStepOf.nd rfl (.inl rfl) (.inr rfl)) pgs_nil)))))
      (pss_cons (ps_if (pt_cmpR op_eq (pv 3) pe_str (nomark _)) (pss_one (ps_ret (pe_c c_test_step hr (by decide) rfl (pa_cons (pv 5) (pa_cons (pv 1) (pa_cons (pv 2) pa_nil)))))) pss_nil)
      (pss_cons (ps_if (pt_cmpR op_eq (pv 3) pe_str (nomark _)) (pss_one (ps_ret (pe_c c_vote_step hr (by decide) rfl (pa_cons (pv 5) pa_nil)))) pss_nil)
      (pss_cons (ps_set (i := 6) scStepOf.nd rfl (Or.inl rfl) (pe_c c_sum_with hr (by decide) rfl (pa_cons (pv 5) pa_nil)))
      (pss_one (ps_ret (pe_ifExp (PW.pt (pw_and (pt_cmpR op_eq (pv 3) pe_str (nomark _)) (pw_and1 (pt_cmpR op_notN (pv 6) pe_non (nomark _))))) (pe_tup (pa_cons pe_str (pa_cons (pv 6) pa_nil))) pe_non))))))))), ?_⟩
    refine ⟨_, rfl, _, _, _, _, true, rfl, .ty _, .base (.str _), kit_ty (by decide +kernel), _, rfl, ?_⟩
    refine iteF ⟨_, rfl, rfl, _, rfl, ?_⟩
    rw [lit_doubt, eqS]
    cases st with
    | dbt =>
      rw [decide_eq_true (show lineS .dbt = wDoubt from rfl)]
      refine iteT ⟨by show 1 ≤ sizeLine; decide, fun p hp => ?_⟩
      exact k _ _ _ ((Gr.refl Z).new hp) ⟨p, rfl, by rw [← lit_doubt]; exact upd_same⟩
    | iff a b g =>
      rw [decide_eq_false (by simp [lineS, wIf, wDoubt])]
      refine iteF ⟨_, rfl, ⟨_, rfl⟩, _, _, rfl, rfl, (by rw [lit_sp, S_length]; rfl), (by rw [S_length]; exact sz (by omega)), fun p hp => ?_⟩
      rw [lit_sp]
      unfold lineS
      rw [part_word (by decide)]
      have G := (Gr.refl Z).new (o := .tup [.str (S wIf), .str (S [32]), .str (S (restIf a b g))]) hp
      refine ⟨p, _, rfl, SqT.of upd_same, rfl, _, _, rfl, _, _, rfl, _, _, rfl, rfl, ?_⟩
      refine ⟨_, rfl, rfl, _, rfl, ?_⟩
      rw [lit_if, decide_eq_true rfl]
      refine iteT ⟨_, rfl, _, rfl, _, rfl, Am, _, a, b, g, i, m, rfl, G.fz, ok, fun F1 H1 v g1 r1 => ?_⟩
      exact k _ _ _ (G.trans g1) r1
    | vote h l =>
      rw [decide_eq_false (by simp [lineS, wVote, wDoubt])]
      refine iteF ⟨_, rfl, ⟨_, rfl⟩, _, _, rfl, rfl, (by rw [lit_sp, S_length]; rfl), (by rw [S_length]; exact sz (by omega)), fun p hp => ?_⟩
      rw [lit_sp]
      unfold lineS
      rw [part_word (by decide)]
      have G := (Gr.refl Z).new (o := .tup [.str (S wVote), .str (S [32]), .str (S (restVote h l))]) hp
      refine ⟨p, _, rfl, SqT.of upd_same, rfl, _, _, rfl, _, _, rfl, _, _, rfl, rfl, ?_⟩
      refine ⟨_, rfl, rfl, _, rfl, ?_⟩
      rw [lit_if, eqS, decide_eq_false (by decide)]
      refine iteF ⟨_, rfl, rfl, _, rfl, ?_⟩
      rw [lit_vote, decide_eq_true rfl]
      refine iteT ⟨_, rfl, Am, _, h, l, rfl, G.fz, ok, fun F1 H1 v g1 r1 => ?_⟩
      exact k _ _ _ (G.trans g1) r1
    | tell t =>
      rw [decide_eq_false (by simp [lineS, wTell, wDoubt])]
      refine iteF ⟨_, rfl, ⟨_, rfl⟩, _, _, rfl, rfl, (by rw [lit_sp, S_length]; rfl), (by rw [S_length]; exact sz (by omega)), fun p hp => ?_⟩
      rw [lit_sp]
      unfold lineS
      rw [part_word (by decide)]
      have G := (Gr.refl Z).new (o := .tup [.str (S wTell), .str (S [32]), .str (S (told t))]) hp
      refine ⟨p, _, rfl, SqT.of upd_same, rfl, _, _, rfl, _, _, rfl, _, _, rfl, rfl, ?_⟩
      refine ⟨_, rfl, rfl, _, rfl, ?_⟩
      rw [lit_if, eqS, decide_eq_false (by decide)]
      refine iteF ⟨_, rfl, rfl, _, rfl, ?_⟩
      rw [lit_vote, eqS, decide_eq_false (by decide)]
      refine iteF ⟨_, rfl, Am, _, t, rfl, G.fz, ok, fun F1 H1 v g1 r1 => ?_⟩
      refine ⟨_, rfl, rfl, _, rfl, ?_⟩
      rw [lit_tell, decide_eq_true rfl]
      refine iteT ⟨_, rfl, rfl, _, rfl, ?_⟩
      rw [decide_eq_false (rSum_ne r1)]
      refine iteT ⟨_, rfl, (by show 2 ≤ sizeLine; decide), fun u hu => ?_⟩
      exact k _ _ _ ((G.trans g1).new hu) ⟨u, v, rfl, by rw [← lit_tell]; exact upd_same, MonoR.up (same_new (g1.fz.free hu)) r1⟩
end
end Rv
end

section
set_option Elab.async false
set_option autoImplicit false
set_option linter.all false
set_option maxRecDepth 100000
set_option maxHeartbeats 4000000
namespace Rv
open PySem L2 PyProof.Rows PySem.Spec
def isEnd : Stp → Bool
  | .tell _ => true
  | .dbt => true
  | _ => false
structure OkSt (l : List Stp) : Prop where
  ok : ∀ (i : Nat) s, l[i]? = some s → OkS l.length i s
  l1 : 1 ≤ l.length
  l2 : l.length ≤ 8
  last : ∀ s, l.getLast? = some s → isEnd s = true
abbrev rRule (cs : Cs) : Rl (List Tt × List Stp) := rO2 cs.rule "lines" "steps" (rTup rS) (rTup (rStepR cs))
theorem strOk_S {l : Tt} (h : ∀ c ∈ l, c ≤ 122) : PyData.strOk (S l) = true := by
  unfold PyData.strOk
  rw [← Array.all_toList, List.all_eq_true]
  intro c hc
  have := h c hc
  simp; omega
theorem strs_lay : ∀ {l : List Tt}, (∀ x ∈ l, ∀ c ∈ x, c ≤ 122) → PyData.canLayAll0 (l.map fun x => PyData.str (S x)) = true
  | [], _ => by simp [PyData.canLayAll0]
  | x :: r, h => by simp [PyData.canLayAll0, PyData.canLay0, strs_lay (l := r) fun y hy => h y (List.mem_cons_of_mem _ hy), strOk_S (h x (List.mem_cons_self ..))]
theorem strs_depth : ∀ {l : List Tt}, PyData.depthAll (l.map fun x => PyData.str (S x)) = 0
  | [] => by simp [PyData.depthAll]
  | x :: r => by simp [PyData.depthAll, PyData.depth, strs_depth (l := r)]
theorem strs_shaped {l : List Tt} (h : ∀ x ∈ l, ∀ c ∈ x, c ≤ 122) : SeqAt.shaped (.tuple (l.map fun x => PyData.str (S x))) = true := by
  simp [SeqAt.shaped, PyData.canLay0, PyData.depth, strs_lay h, strs_depth]
theorem strs_dp {K : PySem.W.Frag} {H : Hp} : ∀ {l : List Tt}, DpAll K H (l.map fun x => V.str (S x)) (l.map fun x => PyData.str (S x))
  | [] => .nil
  | _ :: _ => .cons (.str _) strs_dp
theorem lineS_le {m k : Nat} {s : Stp} (h : OkS m k s) : ∀ c ∈ lineS s, c ≤ 122 := by
  have tr : ∀ {t : Tm}, OkT t → ∀ c ∈ told t, c ≤ 122 := fun ht c hc => (told_range ht c hc).2.1
  have hj : ∀ {l : List Tm}, (∀ t ∈ l, OkT t) → ∀ c ∈ TL.joinL [44, 32] (l.map told), c ≤ 122 := by
    intro l hl
    induction l with
    | nil => simp [TL.joinL]
    | cons t r ih =>
      cases r with
      | nil => simp only [List.map_cons, List.map_nil, TL.joinL]; exact tr (hl t (by simp))
      | cons u r =>
        show ∀ c ∈ told t ++ ([44, 32] ++ TL.joinL [44, 32] ((u :: r).map told)), c ≤ 122
        have i2 := ih fun x hx => hl x (List.mem_cons_of_mem _ hx)
        intro c hm
        rcases List.mem_append.mp hm with q | q
        · exact tr (hl t (by simp)) c q
        · rcases List.mem_append.mp q with q | q
          · simp at q; omega
          · exact i2 c q
  intro c hc
  cases s with
  | iff a b g =>
    have h1 := h.2.2.1
    have h2 := h.2.2.2.2
    simp only [lineS, restIf, wIf, List.mem_append, List.mem_cons, List.not_mem_nil, or_false] at hc
    rcases hc with (q | q) | q | (q | q | q) | q | q
    all_goals first | omega | exact tr h.1 c q | exact tr h.2.1 c q | skip
  | vote hh l =>
    have h1 := h.1
    simp only [lineS, restVote, wVote, List.mem_append, List.mem_cons, List.not_mem_nil, or_false] at hc
    rcases hc with (q | q | q | q) | q | q | q | q
    all_goals first | omega | exact hj h.2.2.2 c q | skip
  | tell t =>
    simp only [lineS, wTell, List.mem_append, List.mem_cons, List.not_mem_nil, or_false] at hc
    rcases hc with (q | q | q | q) | q | q
    all_goals first | omega | exact tr (t := t) h c q
  | dbt =>
    simp [lineS, wDoubt] at hc
    omega
abbrev spRuleInit (cs : Cs) : Sp := fun vs H Q _ => ∃ (A : Amb) (F : Hp) (x : Addr) (v : V) (l : List Stp) (dx : Addr), vs = [.ref x, v] ∧ Fz A F H ∧ rTup rS F v (l.map lineS) ∧ OkSt l ∧ F x = none ∧ ¬ A.S x ∧ H x = some (.ins cs.rule dx []) ∧
  InitQ A F H cs.rule x dx Q fun F' fs => ∃ a b, fs = [(("lines" : Str), a), (("steps" : Str), b)] ∧ rTup rS F' a (l.map lineS) ∧ rTup (rStepR cs) F' b l
theorem mkRule {cs : Cs} {A : Amb} {F H : Hp} {R : Hp → Prop} {x dx : Addr} {v : V} {l : List Stp} (Z : Fz A F H) (rv : rTup rS F v (l.map lineS)) (ok : OkSt l) (hx : H x = none) (hd : H dx = none) (hn : dx ≠ x)
    (k : ∀ F' H', Gr A F H F' H' → rRule cs F' (.ref x) (l.map lineS, l) → R H') : spRuleInit cs [.ref x, v] (upd (upd H dx (.own x)) x (.ins cs.rule dx [])) (fun v H2 => v = .non ∧ R H2) E0 := by
  obtain ⟨z1, z2, z3, z4, z5⟩ := init_ok (C := cs.rule) (post := fun F' fs => ∃ a b, fs = [(("lines" : Str), a), (("steps" : Str), b)] ∧ rTup rS F' a (l.map lineS) ∧ rTup (rStepR cs) F' b l) (R := fun _ H => R H) Z hx hd hn (fun F' H' fs g hf hp => by
    obtain ⟨F0, hs, a, b, rfl, r1, r2⟩ := hp
    exact k F' H' g ⟨x, dx, a, b, rfl, hf, MonoR.up hs r1, MonoR.up hs r2⟩)
  exact ⟨A, F, x, v, l, dx, rfl, z1, rv, ok, z2, z3, z4, z5⟩
def textR (l : List Stp) : Tt := TL.joinL [10] (l.map lineS)
theorem OkSt.mem {l : List Stp} (h : OkSt l) : ∀ s ∈ l, ∃ i, OkS l.length i s := fun s hs => by
  obtain ⟨i, hi⟩ := List.mem_iff_getElem?.mp hs
  exact ⟨i, h.ok i s hi⟩
theorem OkSt.tlen {l : List Stp} (h : OkSt l) : (textR l).length ≤ 30000 := by
  have a := h.l2
  have b := joinL_len (sep := [10]) (c := 3000) (l := l.map lineS) fun x hx => by
    obtain ⟨s, hs, rfl⟩ := List.mem_map.mp hx
    obtain ⟨i, hi⟩ := h.mem s hs
    exact lineS_len hi
  simp at b
  unfold textR
  omega
theorem OkSt.split {l : List Stp} (h : OkSt l) : Txt.split (S (textR l)) (S [10]) = (l.map lineS).map S := by
  have a := h.l1
  unfold textR
  rw [SX.split_S (by simp) (by decide), SX.spl_join]
  · intro e
    have := congrArg List.length e
    simp at this
    rw [this] at a; simp at a
  · intro w hw
    obtain ⟨s, hs, rfl⟩ := List.mem_map.mp hw
    obtain ⟨i, hi⟩ := h.mem s hs
    exact lineS_no10 hi
abbrev spRuleRead (cs : Cs) : Sp := fun vs H Q _ => ∃ (A : Amb) (F : Hp) (l : List Stp), vs = [.ref cs.rule, .str (S (textR l))] ∧ Fz A F H ∧ OkSt l ∧ Out A F H Q fun F' _ v => rRule cs F' v (l.map lineS, l)
abbrev spRuleRows (cs : Cs) : Sp := fun vs H Q _ => ∃ (A : Amb) (F : Hp) (x : V) (l : List Tt × List Stp), vs = [x] ∧ Fz A F H ∧ rRule cs F x l ∧ Out A F H Q fun F' _ v => rTup rS F' v l.1
/-- the sums of a step -/
def sumsS : Stp → List Tm
  | .iff a b _ => [a, b]
  | .vote _ l => l
  | .tell t => [t]
  | .dbt => []
abbrev spSumsIn (cs : Cs) : Sp := fun vs H Q _ => ∃ (A : Amb) (F : Hp) (x : V) (s : Stp), vs = [x] ∧ Fz A F H ∧ rStepR cs F x s ∧ Out A F H Q fun F' _ v => rLst (rSum cs) F' v (sumsS s)
abbrev spIsSilent (cs : Cs) : Sp := fun vs H Q _ => ∃ (A : Amb) (F : Hp) (x y : V) (t : Tm) (l : List Tt), vs = [x, y] ∧ Fz A F H ∧ rSum cs F x t ∧ t.length ≤ 10 ∧ rLst rS F y l ∧ Out A F H Q fun F' _ v => v = .bl (t.any fun p => decide (p.1 ∈ l))
theorem upd_swap {H : Hp} {a b : Addr} {o u : HO} (h : a ≠ b) : upd (upd H a o) b u = upd (upd H b u) a o := by
  funext c
  by_cases e1 : c = a
  · subst e1; rw [upd_ne h, upd_same, upd_same]
  · by_cases e2 : c = b
    · subst e2; rw [upd_same, upd_ne e1, upd_same]
    · rw [upd_ne e2, upd_ne e1, upd_ne e1, upd_ne e2]
section
variable {P : Program} {w : World} {K : PySem.W.Frag} {mg : Str → Option Value} {base : Heap} {cs : Cs}
abbrev sRuleInit : Stmt := inClass (top 64) 0
abbrev nRuleInit : List Str := ["self", "rows", "found", "index", "row", "step"]
abbrev pRuleInit : List Str := ["self", "rows"]
theorem scRuleInit : FnScope nRuleInit pRuleInit (defScope sRuleInit) := ⟨rfl, rfl, rfl, by decide +kernel, rfl, by decide +kernel, by decide +kernel⟩

theorem k_Rule (D : MkD K mg "Rule" cs.rule "Rule.__init__" sRuleInit pRuleInit) (T : Tx K mg cs) (c_step_of : Cal P w K mg base 8 "step_of" (spStepOf cs)) : Mak P w K mg base 9 "Rule" cs.rule (spRuleInit cs) := by
  refine mak_of D scRuleInit (fun vs H Q E h => ?_) (fun f cdv A outer s H vs Q E hr h => ?_)
  · obtain ⟨_, _, _, _, _, _, rfl, _⟩ := h
    rfl
  · obtain ⟨Am, F, x, v, l, dx, rfl, Z, ⟨p, xs, rfl, hp, prd⟩, ok, hf, hs, hx, k⟩ := h
    have l1 := ok.l1
    have l2 := ok.l2
    have ex := paired_C prd
    have hl : xs.length = l.length := by rw [ex]; simp
    have hpm : F p = some (.tup ((l.map lineS).map fun x => V.str (S x))) := by rw [← ex]; exact hp
    refine ⟨_, (pss_cons (ps_if (PW.pt (pw_or (pt_not (pt_val (pe_callB (id := "isinstance") (r := rIsi K) call_isi (by rfl) T.n_isinstance (by decide +kernel) (pa_cons (pv 1) (pa_cons (pe_bltn (v := .ty "tuple") (by rfl) T.n_tuple (by decide +kernel) rfl) pa_nil))))) (pw_or1 (pt_cmpR (op_eqD hr.units) (pv 1) (pe_tup pa_nil) (nomark _))))) pss_never pss_nil)
      (pss_cons (ps_set (i := 2) scRuleInit.nd rfl (Or.inl rfl) (pe_lst pa_nil))
      (pss_cons (ps_forG PassesOwn.never rfl (pi_enumT (by rfl) T.n_enumerate (pa_cons (pv 1) pa_nil)) (pg_tupK K 2 rfl rfl (pgs_cons (pg_name (i := 3) scRuleInit.nd rfl (.inl rfl) (.inr rfl)) (pgs_cons (pg_name (i := 4) scRuleInit.nd rfl (.inl rfl) (.inr rfl)) pgs_nil)))
        (pss_cons (ps_set (i := 5) scRuleInit.nd rfl (Or.inl rfl) (pe_ifExp (pt_cmpR op_lt (pv 3) (pe_gc T.g_MOST_ROWS) (nomark _)) (pe_c c_step_of hr (by decide) rfl (pa_cons (pv 4) (pa_cons (pv 3) (pa_cons (pe_callB call_len_seq (by rfl) T.n_len (by decide +kernel) (pa_cons (pv 1) pa_nil)) pa_nil)))) pe_non))
      (pss_cons (ps_if (pt_cmpR op_isN (pv 5) pe_non (nomark _)) pss_never pss_nil)
      (pss_one (ps_expr (pe_bm PySem.F.plainAttrs_list PySem.F.slot_list_append PySem.F.type_list_append mt_append (pv 2) (pa_cons (pv 5) pa_nil)))))))
      (pss_cons (ps_if (pt_cmpR (r := rIn K true) op_notIn_seq (pe_ix (r := rIxT K) ix_tup (pe_ix (r := rIxL K) ix_list (pv 2) (pe_un un_neg pe_int) (fun _ _ => rfl)) pe_int (fun _ _ => rfl)) (pe_tup (pa_cons pe_str (pa_cons pe_str pa_nil))) (by first | exact nomark _ | rfl)) pss_never pss_nil)
      (pss_cons (ps_fld (pv 0) (pv 1) rfl)
      (pss_one (ps_fld (pv 0) (pe_callTy call_tuple_of (by rfl) T.n_tuple (by decide +kernel) (pa_cons (pv 2) pa_nil)) rfl))))))), ?_⟩
    refine ⟨_, rfl, _, _, _, _, true, rfl, .ty _, .base (.tup (Z.sub _ _ hp)), kit_ty (by decide +kernel), _, rfl, ?_⟩
    refine iteF ⟨_, rfl, by show 0 ≤ sizeLine; decide, fun u hu => ?_⟩
    have G0 := (Gr.refl Z).new (o := .tup []) hu
    have hp0 := G0.ff _ _ hpm
    have shl : ∀ y ∈ l.map lineS, ∀ c ∈ y, c ≤ 122 := fun y hy c hc => by
      obtain ⟨s, hs, rfl⟩ := List.mem_map.mp hy
      obtain ⟨i, hi⟩ := ok.mem s hs
      exact lineS_le hi c hc
    refine ⟨_, _, .tup (G0.fz.T hp0) strs_dp, .tup (SqT.of upd_same) .nil, strs_shaped shl, by decide, _, rfl, ?_⟩
    have ne : PyData.eqv (.tuple ((l.map lineS).map fun x => PyData.str (S x))) (.tuple []) = false := by
      cases l with
      | nil => simp at l1
      | cons a r => rfl
    rw [ne]
    refine iteF ⟨by show 0 ≤ sizeLine; decide, fun lf hlf => ?_⟩
    have hlS := G0.fz.notS hlf
    have hp1 := G0.ff _ _ hp
    have hf1 : upd F u (.tup []) x = none := (G0.cell hs hx hf).2
    refine ⟨_, rfl, p, xs, rfl, ((Gr.refl G0.fz).own hlf).fz.T hp1, ?_⟩
    refine for_any walk_enumT (fun i σ H' => ∃ F' ys m1 m2 m3, σ = [some (.ref x), some (.ref p), some (.ref lf), m1, m2, m3] ∧ Gr Am (upd F u (.tup [])) (upd H u (.tup [])) F' H' ∧ F' lf = none ∧ H' lf = some (.lst ys) ∧ PySem.Paired (rStepR cs F') ys (l.take i)) ⟨_, [], _, _, _, rfl, (Gr.refl G0.fz).own hlf, G0.fz.free hlf, upd_same, .nil⟩ (fun i σ H' _ ⟨F', _, _, _, _, _, G, _⟩ => G.fz.T (G.ff _ _ hp1)) ?_ ?_
    · rintro i v σ H1 H2 hi ⟨F1, ys, m1, m2, m3, rfl, G1, hF1, hL1, prs⟩ ⟨U, y1, y2, rfl, hU, rfl, e1, e2⟩
      cases e1
      obtain ⟨d, hd, rd⟩ := prd_get prd e2
      rw [List.getElem?_map] at hd
      obtain ⟨st, hst, rfl⟩ := Option.map_eq_some_iff.mp hd
      cases rd
      obtain ⟨hL2, hF2⟩ := ((Gr.refl G1.fz).new (o := .tup [.int (i : Nat), .str (S (lineS st))]) hU).cell hlS hL1 hF1
      have G2 := G1.new (o := .tup [.int (i : Nat), .str (S (lineS st))]) hU
      refine ⟨U, _, rfl, SqT.of upd_same, rfl, _, _, rfl, _, _, rfl, rfl, ?_⟩
      refine ⟨_, rfl, _, _, rfl, rfl, _, rfl, ?_⟩
      rw [decide_eq_true (by omega)]
      refine iteT ⟨_, rfl, _, rfl, _, rfl, p, xs, rfl, .inr (G2.fz.T (G2.ff _ _ hp1)), Am, _, st, i, l.length, by rw [hl], G2.fz, ok.ok i st hst, fun F3 H3 v3 g3 r3 => ?_⟩
      obtain ⟨hL3, hF3⟩ := g3.cell hlS hL2 hF2
      have hnn : v3 ≠ .non := by
        cases st with
        | iff a b g => obtain ⟨p, x, y, rfl, _⟩ := r3; simp
        | vote h l => obtain ⟨p, x, rfl, _⟩ := r3; simp
        | tell t => obtain ⟨p, x, rfl, _⟩ := r3; simp
        | dbt => obtain ⟨p, rfl, _⟩ := r3; simp
      refine ⟨_, rfl, rfl, _, rfl, ?_⟩
      rw [decide_eq_false hnn]
      refine iteF ⟨_, rfl, .inl ⟨rfl, _, SqL.of hL3⟩, _, rfl, lf, _, _, rfl, rfl, hL3, ?_, ?_⟩
      · have := prd_len prs; exact szlt (by rw [this, List.length_take]; omega)
      refine ⟨F3, _, _, _, _, rfl, (G2.trans g3).put hlf hF3, hF3, upd_same, ?_⟩
      rw [take_snoc hst]
      exact PySem.Paired.snoc (prd_up (fun b o e => g3.ff _ _ (same_new (G1.fz.free hU) _ _ e)) prs) r3
    · rintro σ H1 ⟨F1, ys, m1, m2, m3, rfl, G1, hF1, hL1, prs⟩
      rw [hl, List.take_length] at prs
      have G2 := G1.frz hlf hF1 hL1
      have hF2 : upd F1 lf (.lst ys) lf = some (.lst ys) := upd_same
      have prs2 := prd_up (same_new (o := .lst ys) hF1) prs
      obtain ⟨init, s, el⟩ : ∃ init s, l = init ++ [s] := by
        refine ⟨l.dropLast, l.getLast (by intro e; rw [e] at l1; simp at l1), (List.dropLast_concat_getLast _).symm⟩
      have hend := ok.last s (by rw [el]; simp)
      have hg : l[init.length]? = some s := by rw [el]; simp
      obtain ⟨vl, hvl, rvl⟩ := prd_get2 prs2 hg
      have hyl : ys = ys.take init.length ++ [vl] := by
        have hly : ys.length = init.length + 1 := by rw [prd_len prs2, el]; simp
        rw [← take_snoc hvl, List.take_of_length_le (by omega)]
      have hat : atI ys (-1) = some vl := by rw [hyl]; exact atI_last _ _
      have fin : ∃ q tg ts, vl = .ref q ∧ upd F1 lf (.lst ys) q = some (.tup (.str tg :: ts)) ∧ (tg = Str.ofString "tell" ∨ tg = Str.ofString "doubt") := by
        cases s with
        | iff a b g => cases hend
        | vote h l => cases hend
        | tell t => obtain ⟨q, y, e, h1, _⟩ := rvl; exact ⟨q, _, _, e, h1, .inl rfl⟩
        | dbt => obtain ⟨q, e, h1⟩ := rvl; exact ⟨q, _, _, e, h1, .inr rfl⟩
      obtain ⟨q, tg, ts, rfl, hq, htg⟩ := fin
      refine ⟨_, rfl, _, rfl, lf, ys, _, _, rfl, rfl, G2.fz.L hF2, hat, q, _, _, _, rfl, rfl, G2.fz.T hq, at0 0 rfl rfl, (by show 2 ≤ sizeLine; decide), fun u2 hu2 => ?_⟩
      have G3 := G2.new (o := .tup [.str (Str.ofString "tell"), .str (Str.ofString "doubt")]) hu2
      refine ⟨u2, _, rfl, .inr (SqT.of upd_same), rfl, rfl, _, rfl, ?_⟩
      have e1 : inV (V.str tg) [.str (Str.ofString "tell"), .str (Str.ofString "doubt")] = true := by
        rcases htg with rfl | rfl <;> decide +kernel
      simp only [e1]
      refine iteF ?_
      have GG := G0.trans G3
      obtain ⟨h3, f3⟩ := GG.cell hs hx hf
      refine ⟨_, rfl, _, rfl, x, cs.rule, dx, _, rfl, h3, T.k_Rule, T.a_Rule_lines, (by decide), ?_⟩
      have nelx : lf ≠ x := by
        intro e
        have := (G0.cell hs hx hf).1
        rw [← e, hlf] at this
        cases this
      have hL5 : upd H1 u2 (.tup [.str (Str.ofString "tell"), .str (Str.ofString "doubt")]) lf = some (.lst ys) := G3.fz.sub _ _ ((same_new (G2.fz.free hu2)) _ _ hF2)
      refine ⟨_, rfl, lf, ys, rfl, .inl ⟨SqL.of (by rw [upd_ne nelx]; exact hL5), fun t ht => ?_⟩⟩
      have htx : t ≠ x := fun e => by rw [e, upd_same] at ht; cases ht
      have ht3 : upd H1 u2 (.tup [.str (Str.ofString "tell"), .str (Str.ofString "doubt")]) t = none := by rw [← ht, upd_ne htx]
      refine ⟨_, rfl, x, cs.rule, dx, _, rfl, (by rw [upd_ne (fun e => htx e.symm)]; exact upd_same), T.k_Rule, T.a_Rule_steps, (by show 1 < 1000; decide), ?_⟩
      rw [upd_swap (fun e => htx e.symm), upd_upd]
      have G5 := GG.new (o := .tup ys) ht3
      have hf5 : upd (upd (upd F1 lf (.lst ys)) u2 (.tup [.str (Str.ofString "tell"), .str (Str.ofString "doubt")])) t (.tup ys) x = none := by rw [upd_ne (fun e => htx e.symm)]; exact f3
      refine k _ _ _ G5 hf5 ⟨.ref p, .ref t, rfl, ⟨p, xs, rfl, G5.ff _ _ hp, prd⟩, ⟨t, ys, rfl, upd_same, prd_up (fun b o e => same_new (G3.fz.free ht3) _ _ (same_new (G2.fz.free hu2) _ _ e)) prs2⟩⟩
abbrev sRuleRead : Stmt := inClass (top 64) 1
abbrev nRuleRead : List Str := ["cls", "text", "rule"]
abbrev pRuleRead : List Str := ["cls", "text"]
theorem scRuleRead : FnScope nRuleRead pRuleRead (defScope sRuleRead) := ⟨rfl, rfl, rfl, by decide +kernel, rfl, by decide +kernel, by decide +kernel⟩

theorem m_Rule_read (D : CmD K cs.rule "read" "Rule.read" sRuleRead pRuleRead) (T : Tx K mg cs) (k_Rule : Mak P w K mg base 9 "Rule" cs.rule (spRuleInit cs)) : Cmt P w K mg base 11 cs.rule "read" (spRuleRead cs) := by
  refine cmt_of D scRuleRead (fun vs H Q E h => ?_) (fun f cdv A outer s H vs Q E hr h => ?_)
  · obtain ⟨_, _, _, rfl, _⟩ := h
    rfl
  · obtain ⟨Am, F, l, rfl, Z, ok, k⟩ := h
    have tl := ok.tlen
    refine ⟨_, (pss_cons (ps_if (pt_not (pt_val (pe_callB (id := "isinstance") (r := rIsi K) call_isi (by rfl) T.n_isinstance (by decide +kernel) (pa_cons (pv 1) (pa_cons (pe_bltn (v := .ty "str") (by rfl) T.n_str (by decide +kernel) rfl) pa_nil))))) pss_never pss_nil)
      (pss_cons (ps_try_thru0 (pss_one (ps_set (i := 2) scRuleRead.nd rfl (Or.inl rfl) (pe_mkL (i := 0) k_Rule hr (by decide) rfl (.inl rfl) (pa_cons (pe_callTy call_tuple_of (by rfl) T.n_tuple (by decide +kernel) (pa_cons (pe_split (pv 1) pe_str) pa_nil)) pa_nil)))))
      (pss_one (ps_ret (pv 2))))), ?_⟩
    refine ⟨_, rfl, _, _, _, _, true, rfl, .ty _, .base (.str _), kit_ty (by decide +kernel), _, rfl, ?_⟩
    refine iteF ⟨rfl, _, rfl, ⟨_, rfl⟩, _, _, rfl, rfl, (by rw [lit_nl, S_length]; rfl), (by rw [S_length]; exact sz (by omega)), fun pw hpw => ?_⟩
    rw [lit_nl, ok.split]
    have G := (Gr.refl Z).new (o := .lst (((l.map lineS).map S).map V.str)) hpw
    refine ⟨pw, _, rfl, .inl ⟨G.fz.L upd_same, fun t ht => ?_⟩⟩
    have G2 := G.new (o := .tup (((l.map lineS).map S).map V.str)) ht
    intro x dx hx hd hn
    have em : ((l.map lineS).map S).map V.str = (l.map lineS).map fun x => V.str (S x) := by simp
    refine mkRule G2.fz ⟨t, _, rfl, upd_same, by rw [em]; exact paired_of⟩ ok hx hd hn fun F' H' g r => ?_
    exact ⟨_, rfl, k _ _ _ (G2.trans g) r⟩
abbrev sRuleRows : Stmt := inClass (top 64) 3
abbrev nRuleRows : List Str := ["self"]
abbrev pRuleRows : List Str := ["self"]
theorem scRuleRows : FnScope nRuleRows pRuleRows (defScope sRuleRows) := ⟨rfl, rfl, rfl, by decide +kernel, rfl, by decide +kernel, by decide +kernel⟩

theorem p_Rule_rows (D : PrD K cs.rule "rows" "Rule.rows" sRuleRows pRuleRows) (T : Tx K mg cs) : Prp P w K mg base 1 cs.rule "rows" (spRuleRows cs) := by
  refine prp_of D scRuleRows (fun vs H Q E h => ?_) (fun f cdv A outer s H vs Q E hr h => ?_)
  · obtain ⟨_, _, _, _, rfl, _⟩ := h
    rfl
  · obtain ⟨Am, F, _, l, rfl, Z, ⟨p, dx, x, y, rfl, hp, rx, ry⟩, k⟩ := h
    refine ⟨_, (pss_one (ps_ret (pe_fld (pv 0) rfl))), ?_⟩
    refine ⟨_, rfl, p, _, dx, _, x, rfl, Z.sub _ _ hp, T.k_Rule, T.a_Rule_lines, rfl, ?_⟩
    exact k F H _ (Gr.refl Z) rx
abbrev sSumsIn : Stmt := top 65
abbrev nSumsIn : List Str := ["step"]
abbrev pSumsIn : List Str := ["step"]
theorem scSumsIn : FnScope nSumsIn pSumsIn (defScope sSumsIn) := ⟨rfl, rfl, rfl, by decide +kernel, rfl, by decide +kernel, by decide +kernel⟩

theorem c_sums_in (D : Dn K mg "sums_in" sSumsIn pSumsIn) (T : Tx K mg cs) : Cal P w K mg base 1 "sums_in" (spSumsIn cs) := by
  refine cal_of D scSumsIn (fun vs H Q E h => ?_) (fun f cdv A outer s H vs Q E hr h => ?_)
  · obtain ⟨_, _, _, _, rfl, _⟩ := h
    rfl
  · obtain ⟨Am, F, x, st, rfl, Z, rs, k⟩ := h
    refine ⟨_, (pss_cons (ps_if (pt_cmpR op_eq (pe_ix (r := rIxT K) ix_tup (pv 0) pe_int (fun _ _ => rfl)) pe_str (nomark _)) (pss_one (ps_ret (pe_lst (pa_cons (pe_ix (r := rIxT K) ix_tup (pv 0) pe_int (fun _ _ => rfl)) (pa_cons (pe_ix (r := rIxT K) ix_tup (pv 0) pe_int (fun _ _ => rfl)) pa_nil))))) pss_nil)
      (pss_cons (ps_if (pt_cmpR op_eq (pe_ix (r := rIxT K) ix_tup (pv 0) pe_int (fun _ _ => rfl)) pe_str (nomark _)) (pss_one (ps_ret (pe_callTy call_list_of (by rfl) T.n_list (by decide +kernel) (pa_cons (pe_ix (r := rIxT K) ix_tup (pv 0) pe_int (fun _ _ => rfl)) pa_nil)))) pss_nil)
      (pss_one (ps_ret (pe_ifExp (pt_cmpR op_eq (pe_ix (r := rIxT K) ix_tup (pv 0) pe_int (fun _ _ => rfl)) pe_str (nomark _)) (pe_lst (pa_cons (pe_ix (r := rIxT K) ix_tup (pv 0) pe_int (fun _ _ => rfl)) pa_nil)) (pe_lst pa_nil)))))), ?_⟩
    have e1 : ∀ (a b : String), a ≠ b → decide (V.str (Str.ofString a) = V.str (Str.ofString b)) = decide (Str.ofString a = Str.ofString b) := fun a b h => by
      apply Bool.eq_iff_iff.mpr; simp
    cases st with
    | iff a b g =>
      obtain ⟨p, x, y, rfl, hp, ra, rb⟩ := rs
      refine ⟨_, rfl, p, _, _, _, rfl, rfl, Z.T hp, rfl, rfl, _, rfl, ?_⟩
      rw [decide_eq_true rfl]
      refine iteT ⟨_, rfl, p, _, _, _, rfl, rfl, Z.T hp, rfl, _, rfl, p, _, _, _, rfl, rfl, Z.T hp, rfl, (by show 2 ≤ sizeLine; decide), fun u hu => ?_⟩
      have G := (Gr.refl Z).new (o := .lst [x, y]) hu
      exact k _ _ _ G ⟨u, _, rfl, upd_same, .cons (MonoR.up G.ff ra) (.cons (MonoR.up G.ff rb) .nil)⟩
    | vote h l =>
      obtain ⟨p, x, rfl, hp, q, xs, rfl, hq, prd⟩ := rs
      refine ⟨_, rfl, p, _, _, _, rfl, rfl, Z.T hp, rfl, rfl, _, rfl, ?_⟩
      rw [decide_eq_false (by decide +kernel)]
      refine iteF ⟨_, rfl, p, _, _, _, rfl, rfl, Z.T hp, rfl, rfl, _, rfl, ?_⟩
      rw [decide_eq_true rfl]
      refine iteT ⟨_, rfl, p, _, _, _, rfl, rfl, Z.T hp, rfl, q, xs, rfl, .inr (Z.T hq), fun u hu => ?_⟩
      have G := (Gr.refl Z).new (o := .lst xs) hu
      exact k _ _ _ G ⟨u, _, rfl, upd_same, prd_up G.ff prd⟩
    | tell t =>
      obtain ⟨p, x, rfl, hp, ra⟩ := rs
      refine ⟨_, rfl, p, _, _, _, rfl, rfl, Z.T hp, rfl, rfl, _, rfl, ?_⟩
      rw [decide_eq_false (by decide +kernel)]
      refine iteF ⟨_, rfl, p, _, _, _, rfl, rfl, Z.T hp, rfl, rfl, _, rfl, ?_⟩
      rw [decide_eq_false (by decide +kernel)]
      refine iteF ⟨_, rfl, p, _, _, _, rfl, rfl, Z.T hp, rfl, rfl, _, rfl, ?_⟩
      rw [decide_eq_true rfl]
      refine iteT ⟨_, rfl, p, _, _, _, rfl, rfl, Z.T hp, rfl, (by show 1 ≤ sizeLine; decide), fun u hu => ?_⟩
      have G := (Gr.refl Z).new (o := .lst [x]) hu
      exact k _ _ _ G ⟨u, _, rfl, upd_same, .cons (MonoR.up G.ff ra) .nil⟩
    | dbt =>
      obtain ⟨p, rfl, hp⟩ := rs
      refine ⟨_, rfl, p, _, _, _, rfl, rfl, Z.T hp, rfl, rfl, _, rfl, ?_⟩
      rw [decide_eq_false (by decide +kernel)]
      refine iteF ⟨_, rfl, p, _, _, _, rfl, rfl, Z.T hp, rfl, rfl, _, rfl, ?_⟩
      rw [decide_eq_false (by decide +kernel)]
      refine iteF ⟨_, rfl, p, _, _, _, rfl, rfl, Z.T hp, rfl, rfl, _, rfl, ?_⟩
      rw [decide_eq_false (by decide +kernel)]
      refine iteF ⟨by show 0 ≤ sizeLine; decide, fun u hu => ?_⟩
      exact k _ _ _ ((Gr.refl Z).new (o := .lst []) hu) ⟨u, _, rfl, upd_same, .nil⟩
abbrev sIsSilent : Stmt := top 67
abbrev nIsSilent : List Str := ["total", "silent", "name"]
abbrev pIsSilent : List Str := ["total", "silent"]
theorem scIsSilent : FnScope nIsSilent pIsSilent (defScope sIsSilent) := ⟨rfl, rfl, rfl, by decide +kernel, rfl, by decide +kernel, by decide +kernel⟩

theorem c_is_silent (D : Dn K mg "is_silent" sIsSilent pIsSilent) (T : Tx K mg cs) (p_Sum_names : Prp P w K mg base 1 cs.sum "names" (spSumNames cs)) : Cal P w K mg base 3 "is_silent" (spIsSilent cs) := by
  refine cal_of D scIsSilent (fun vs H Q E h => ?_) (fun f cdv A outer s H vs Q E hr h => ?_)
  · obtain ⟨_, _, _, _, _, _, rfl, _⟩ := h
    rfl
  · obtain ⟨Am, F, x, y, t, l, rfl, Z, rt, hl, ⟨q, ys, rfl, hq, prl⟩, k⟩ := h
    have ey := paired_C prl
    subst ey
    refine ⟨_, (pss_one (ps_ret (pe_callB (cr_any rfl) (by rfl) T.n_any (by decide +kernel) (pa_cons (pe_lcG (own := [("name", 2)]) rfl scIsSilent.nd (pi_tup (pe_pr p_Sum_names hr (by decide) (pv 0) rfl)) (blkOk_by (own := [("name", 2)]) (N := nIsSilent) (sc := defScope sIsSilent) (by decide +kernel)) (fun _ _ _ _ _ => (pg_name (i := 2) scIsSilent.nd rfl (.inl rfl) (.inr rfl))) (fun _ _ _ _ _ => pts_nil) (fun _ _ _ _ _ => (pe_cmpR (r := rIn K false) op_in_seq (pv 2) (pv 1) (by first | exact nomark _ | rfl)))) pa_nil)))), ?_⟩
    refine ⟨_, rfl, getSN Z rt hl fun F1 H1 v g1 ⟨p, xs, e, hp, prd⟩ => ?_⟩
    subst e
    refine ⟨p, rfl, ⟨_, g1.fz.T hp⟩, ?_⟩
    have hq1 := g1.ff _ _ hq
    refine lc_map (ra := rS) (r := rBl) (fun n => decide (n ∈ l)) walk_tup g1.fz prd (fun F' H' g => g.fz.T (g.ff _ _ hp)) (by simp; omega) ?_ ?_
    · rintro i x d F2 H2 K1 hd G2 rfl hK
      refine ⟨rfl, _, rfl, _, rfl, q, _, rfl, .inl (G2.fz.L (G2.ff _ _ hq1)), rfl, flat_S, ?_⟩
      simp only [inV_S, Bool.false_eq_true, if_false]
      exact hK F2 H2 _ (Gr.refl G2.fz) rfl
    rintro F2 H2 u G2 ⟨_, zs, e, hu, prd2⟩
    cases e
    have ez := paired_C prd2
    subst ez
    refine ⟨u, _, rfl, G2.fz.L hu, ?_⟩
    refine k _ _ _ (g1.trans G2) (congrArg V.bl ?_)
    rw [List.map_map, List.any_map]
    rfl
end
end Rv
end

section
set_option Elab.async false
set_option autoImplicit false
set_option linter.all false
set_option maxRecDepth 100000
set_option maxHeartbeats 4000000
/-! RvS: a set of texts, all of a list L of fewer than 64. -/
namespace Rv
open PySem L2 PyProof.Rows PySem.Spec
open Sem (wp)
def keyS (e : Int × Value) : Str := match e.2 with | .str k _ => k | _ => Str.empty
def GoodS (w : World) (e : Int × Value) : Prop := ∃ k tk, e.2 = Value.str k tk ∧ e.1 = hashStr w k
def SetT (w : World) (h : Heap) (a : Addr) (L : List Str) : Prop :=
  ∃ o es ep t, h.get? a = some o ∧ o.ExactSet ∧ o.data = .set es ep t ∧ (∀ e ∈ es.toList, GoodS w e) ∧ (es.toList.map keyS).Nodup ∧ (∀ k ∈ es.toList.map keyS, k ∈ L) ∧
    t.fits es.size = true ∧ Ris t.place.toList ∧ (w.params.followText "set-order" = true ∨ t.led = true)
theorem nodup_le {α : Type} [DecidableEq α] : ∀ {l m : List α}, l.Nodup → (∀ x ∈ l, x ∈ m) → l.length ≤ m.length
  | [], _, _, _ => Nat.zero_le _
  | x :: l, m, hd, hs => by
    obtain ⟨h1, h2⟩ := List.nodup_cons.mp hd
    have hx := hs x (List.mem_cons_self ..)
    have := nodup_le (l := l) (m := m.erase x) h2 fun y hy => (List.mem_erase_of_ne (fun e => h1 (by rw [← e]; exact hy))).mpr (hs y (List.mem_cons_of_mem _ hy))
    rw [List.length_erase_of_mem hx] at this
    have hp : 0 < m.length := List.length_pos_of_mem hx
    rw [List.length_cons]
    omega
section
variable {P : Program} {w : World} {h h' : Heap} {a : Addr} {L : List Str}
theorem SetT.at (R : SetT w h a L) (k : ∀ o, h.get? a = some o → h'.get? a = some o) : SetT w h' a L := by
  obtain ⟨o, es, ep, t, ho, r⟩ := R
  exact ⟨o, es, ep, t, k o ho, r⟩
theorem str_is (k : Str) (tk : Tok) : (strKind P w).is k (.str k tk) = true := Froz.is_str k tk
theorem goodS_elems {l : List (Int × Value)} (g : ∀ e ∈ l, GoodS w e) : ElemsOf (strKind P w) l := fun e he => by
  obtain ⟨k, tk, h1, h2⟩ := g e he
  exact ⟨⟨k, by rw [h1]; exact str_is k tk, h2⟩, by rw [h1] <;> rfl⟩
theorem SetT.typeIs {s : Shared} (R : SetT w s.heap a L) : s.TypeIs (.ref a) "set" := by
  obtain ⟨o, es, ep, t, ho, hx, _⟩ := R
  exact ⟨o, ho, hx.1⟩
end
section
variable {P : Program} {w : World} {A : Around} {E : Value → Shared → Prop} {s : Shared} {a : Addr} {L : List Str}
theorem setT_tail {g : Bool → Sem Unit} (hg : ∀ (b : Bool) (s₁ : Shared) (Q' : Unit → Shared → Prop), Q' () s₁ → wpAny (model P w) A (g b) Q' E s₁)
    {o : Obj} {es : Array (Int × Value)} {ep : Nat} {t : SetTable} (ho : s.heap.get? a = some o) (hex : o.ExactSet) (hd : o.data = .set es ep t)
    {es1 : Array (Int × Value)} {t2 : SetTable} (g1 : ∀ e ∈ es1.toList, GoodS w e) (nd1 : (es1.toList.map keyS).Nodup) (m1 : ∀ k ∈ es1.toList.map keyS, k ∈ L)
    (hb1 : es1.size < scanBound) (hf2 : t2.fits es1.size = true) (hr : Ris t2.place.toList) (hl : w.params.followText "set-order" = true ∨ t2.led = true) {wasDummy : Bool} {R : Option Bool → Shared → Prop}
    (hR : ∀ h', Heap.SameBut a s.heap h' → SetT w h' a L → R (some true) { s with heap := h' }) :
    wpAny (model P w) A (do
        storeSet a es1 t2
        if (!wasDummy && t2.tooFull) = true then do
            g (relayAll t2 es1 (SetTable.grown es1.size)).2.2
            storeSet a (relayAll t2 es1 (SetTable.grown es1.size)).1 (relayAll t2 es1 (SetTable.grown es1.size)).2.1
            pure (some true)
          else pure (some true)) R E s := by
  refine wpAny_bind (wpAny_storeSet_of ho hd ?_ (fits_of_scanBound hb1))
  have ho1 := store_at (es' := es1) (t' := t2) ho hd
  have sb1 := Heap.SameBut.update s.heap a (Obj.putSet es1 t2)
  split
  · have pm := relayAll_perm t2 es1 (SetTable.grown es1.size)
    have hf3 := relayAll_fits t2 es1 (SetTable.grown es1.size)
    have hr3 := relayAll_ris t2 es1 (SetTable.grown es1.size)
    have hl3 := relayAll_led t2 es1 (SetTable.grown es1.size)
    generalize relayAll t2 es1 (SetTable.grown es1.size) = Z at pm hf3 hr3 hl3 ⊢
    obtain ⟨es2, t3, gave⟩ := Z
    dsimp only at pm hf3 hr3 hl3 ⊢
    have hsz : es2.size = es1.size := by rw [← Array.length_toList, pm.length_eq, Array.length_toList]
    have hb2 : es2.size < scanBound := by rw [hsz]; exact hb1
    refine wpAny_bind (hg _ _ _ ?_)
    refine wpAny_bind (wpAny_storeSet_of ho1 rfl ?_ (fits_of_scanBound hb2))
    have ho2 := store_at (es' := es2) (t' := t3) ho1 rfl
    refine wpAny_pure (hR _ (sb1.trans (Heap.SameBut.update _ a _)) ?_)
    exact ⟨_, es2, _, t3, ho2, hex, rfl, fun e he => g1 e (pm.mem_iff.mp he), (pm.map keyS).nodup_iff.mpr nd1, fun k hk => m1 k ((pm.map keyS).mem_iff.mp hk), hf3, hr3,
      hl.imp (fun z => z) fun z => by rw [hl3]; exact z⟩
  · exact wpAny_pure (hR _ sb1 ⟨_, es1, _, t2, ho1, hex, rfl, g1, nd1, m1, hf2, hr, hl⟩)
theorem setT_hashed {k : Str} {tk : Tok} {Q : Bool → Shared → Prop} (R : SetT w s.heap a L) (h64 : L.length < 64) (hk : k ∈ L)
    (hQ : ∀ b h', Heap.SameBut a s.heap h' → SetT w h' a L → Q b { s with heap := h' }) :
    wpAny (model P w) A (setAddHashed a (.str k tk) (hashStr w k)) Q E s := by
  obtain ⟨o, es, ep, t, ho, hex, hd, g, nd, hm, hf, hr, hl⟩ := R
  have hkey : (strKind P w).is k (.str k tk) = true := str_is k tk
  have hsc : (Value.str k tk).scannable = true := rfl
  have hel : ElemsOf (strKind P w) es.toList := goodS_elems g
  have hsb : 64 ≤ scanBound := by decide
  have hb : es.size < scanBound := by
    have := nodup_le nd hm
    rw [List.length_map, Array.length_toList] at this
    omega
  unfold setAddHashed setAddHashedIn
  refine wpAny_holding (wpAny_bind (wpAny_setState_of ho hd hf ?_))
  dsimp only
  rw [byScan_of hsc hb hel]
  simp only [↓reduceIte]
  unfold setAddByScan
  refine wpAny_bind ?_
  refine wpAny_bind (wpAny_rule ?_)
  refine wpAny_bind (wpAny_setScan_of hkey ho hd hf hel ?_)
  cases hfi : List.findIdx? (fun e => (strKind P w).is k e.2) es.toList with
  | some j =>
    dsimp only
    exact wpAny_pure (wpAny_pure (hQ _ s.heap (Heap.SameBut.refl a s.heap) ⟨o, es, ep, t, ho, hex, hd, g, nd, hm, hf, hr, hl⟩))
  | none =>
    dsimp only
    have hnk : k ∉ es.toList.map keyS := fun z => by
      obtain ⟨e, he, q⟩ := List.mem_map.mp z
      obtain ⟨k0, tk0, h1, _⟩ := g e he
      have e0 : k0 = k := by unfold keyS at q; rw [h1] at q; exact q
      have c := List.findIdx?_eq_none_iff.mp hfi e he
      rw [h1, e0] at c
      rw [str_is k tk0] at c
      cases c
    have hgw : ∀ (b : Bool) {s₁ : Shared} {Q' : Unit → Shared → Prop}, Q' () s₁ → wpAny (model P w) A (match b with | true => rule "set.scan.the-table-gave-way" | false => pure ()) Q' E s₁ :=
      fun b s₁ Q' q => by cases b <;> first | exact wpAny_pure q | exact wpAny_rule q
    have pm := layNew_perm t es (hashStr w k) (.str k tk)
    have hf1 := layNew_fits t es (hashStr w k) (.str k tk)
    have hr1 := layNew_ris t es (hashStr w k) (.str k tk) hr
    have hl1 := layNew_led t es (hashStr w k) (.str k tk)
    generalize layNew t es (hashStr w k) (.str k tk) = Z at pm hf1 hr1 hl1 ⊢
    obtain ⟨es1, t1, wasDummy, gave⟩ := Z
    dsimp only at pm hf1 hr1 hl1 ⊢
    rw [Array.toList_push] at pm
    have pc : es1.toList.Perm ((hashStr w k, Value.str k tk) :: es.toList) := pm.trans (List.perm_append_singleton _ _)
    have pk : (es1.toList.map keyS).Perm (k :: es.toList.map keyS) := pc.map keyS
    have g1 : ∀ e ∈ es1.toList, GoodS w e := fun e he => by
      rcases List.mem_cons.mp (pc.mem_iff.mp he) with z | z
      · rw [z]; exact ⟨k, tk, rfl, rfl⟩
      · exact g e z
    have nd1 : (es1.toList.map keyS).Nodup := pk.nodup_iff.mpr (List.nodup_cons.mpr ⟨hnk, nd⟩)
    have m1 : ∀ i ∈ es1.toList.map keyS, i ∈ L := fun i hi => by
      rcases List.mem_cons.mp (pk.mem_iff.mp hi) with z | z
      · rw [z]; exact hk
      · exact hm i z
    have hb1 : es1.size < scanBound := by
      have := nodup_le nd1 m1
      rw [List.length_map, Array.length_toList] at this
      omega
    have hled : w.params.followText "set-order" = true ∨ t1.led = true := hl.imp (fun z => z) fun z => by rw [hl1]; exact z
    refine wpAny_bind (hgw _ ?_)
    split
    · refine wpAny_bind ?_
      rw [hashByValue_scannable 8 hsc]
      refine wpAny_pure ?_
      refine setT_tail ?_ ho hex hd g1 nd1 m1 hb1 ?_ ?_ ?_ ?_
      · intro b s₁ Q' q; cases b <;> first | exact wpAny_pure q | exact wpAny_rule q
      · first | (split <;> first | exact hf1 | exact SetTable.fits_plain_off hf1) | exact hf1
      · first | (split <;> exact hr1) | exact hr1
      · first | (split <;> exact hled) | exact hled
      · intro h' sb r; dsimp only; exact wpAny_pure (hQ _ h' sb r)
    · refine wpAny_bind (wpAny_pure ?_)
      simp only [↓reduceIte]
      refine setT_tail ?_ ho hex hd g1 nd1 m1 hb1 hf1 hr1 hled ?_
      · intro b s₁ Q' q; cases b <;> first | exact wpAny_pure q | exact wpAny_rule q
      · intro h' sb r; dsimp only; exact wpAny_pure (hQ _ h' sb r)
theorem setT_add {k : Str} {tk : Tok} {Q : Value → Shared → Prop} (R : SetT w s.heap a L) (h64 : L.length < 64) (hk : k ∈ L)
    (hQ : ∀ h', Heap.SameBut a s.heap h' → SetT w h' a L → Q .none { s with heap := h', toks := s.toks + 1 }) :
    wpAny (model P w) A (call (.builtin "set.add") [.ref a, .str k tk]) Q E s := by
  refine wpAny_call_entry F.slot_set_add R.typeIs F.entry_set_add ?_ (F.args_set_add_2 _ _)
  unfold Builtin.«set.add» Builtin.Frozenset.oneOther
  simp only [List.isEmpty_nil, bind_assoc]
  unfold Builtin.Frozenset.addrOf setAdd
  refine wpAny_bind (wpAny_pure ?_)
  try dsimp only
  refine wpAny_bind (wpAny_pure ?_)
  try dsimp only
  refine wpAny_bind ?_
  refine wpAny_holding ?_
  refine wpAny_bind ((strKind P w).pyHash (str_is k tk) ?_)
  refine setT_hashed (s := { s with toks := s.toks + 1 }) R h64 hk fun b h' sb r => ?_
  show wpAny _ _ (ret Value.none) _ _ _
  exact wpAny_pure ⟨_, rfl, hQ h' sb r⟩
theorem setT_fresh {h : Heap} (w : World) : SetT w (h.push { cls := .type "set", dict := none, data := .set #[] 0 (.fresh 0 0 (!w.params.followText "set-order")) }) h.objs.size L :=
  ⟨_, #[], 0, _, Heap.get?_push_size _ rfl, ⟨rfl, rfl, rfl⟩, rfl, (fun e he => by simp at he), (by simp), (fun k hk => by simp at hk), (by rfl), List.Pairwise.nil, by
    show _ ∨ (!w.params.followText "set-order") = true
    cases w.params.followText "set-order"
    · exact .inr rfl
    · exact .inl rfl⟩
theorem strs_of : ∀ (l : List Value), (∀ v ∈ l, ∃ k tk, v = Value.str k tk) → StrsAre l (l.map fun v => match v with | .str k _ => k | _ => Str.empty)
  | [], _ => .nil
  | v :: l, h => by
    obtain ⟨k, tk, rfl⟩ := h v List.mem_cons_self
    exact .cons _ _ (strs_of l fun u hu => h u (List.mem_cons_of_mem _ hu))
theorem sorted_setT {Q : Value → Shared → Prop} (R : SetT w s.heap a L) (hh : A.handled = none) (h64 : L.length < 64)
    (hQ : ∀ s' p (out : Array Value) (c : Nat) (ys : List Str), (∀ b o, s.heap.get? b = some o → s'.heap.get? b = some o) → s'.gens = s.gens → s'.os = s.os → s.heap.objs.size ≤ p →
      s'.heap.get? p = some (seqObj "list" out c) → StrsAre out.toList ys → (∀ k ∈ ys, k ∈ L) → ys.length < 64 → Q (.ref p) s') :
    wpAny (model P w) A (call (.builtin "sorted") [.ref a]) Q E s := by
  obtain ⟨o, es, ep, t, ho, hex, hd, g, nd, hm, hf, hr, hl⟩ := R
  have hln := nodup_le nd hm
  rw [List.length_map, Array.length_toList] at hln
  have hsb : 64 ≤ scanBound := by decide
  refine Calls.call_function_entry kind_sorted plain_sorted entry_sorted (args_sorted1 _) ?_
  unfold Builtin.«sorted»
  refine wpAny_bind (m := checkCount "sorted" 1 1 _) (wpAny_pure ?_)
  refine wpAny_bind (collect_set (A := A.in1) hh ⟨o, ho, hex.1, hd⟩ hf (by omega) hr hl fun s1 vs k1 hz g1 o1 pm => ?_)
  have hvl : vs.length = es.size := by rw [pm.length_eq, List.length_map, Array.length_toList]
  have hv : ∀ v ∈ vs, ∃ k tk, v = Value.str k tk ∧ k ∈ L := fun v hv => by
    obtain ⟨e, he, q⟩ := List.mem_map.mp (pm.mem_iff.mp hv)
    obtain ⟨k, tk, h1, _⟩ := g e he
    refine ⟨k, tk, by rw [← q]; exact h1, hm k (List.mem_map.mpr ⟨e, he, by unfold keyS; rw [h1]⟩)⟩
  have hS := strs_of vs fun v h => let ⟨k, tk, e, _⟩ := hv v h; ⟨k, tk, e⟩
  refine wpAny_bind (wpAny_newList ?_ (by rw [hvl, sizeLine_eq]; omega))
  have hoL : (s1.heap.push (seqObj "list" vs.toArray 0)).get? s1.heap.objs.size = some (seqObj "list" vs.toArray 0) := Heap.get?_push_size _ rfl
  refine wpAny_bind (wpAny_holding (wpAny_call_entry PyProof.Rows.slot_list_sort ⟨_, hoL, rfl⟩ PyProof.Rows.entry_list_sort
    (list_sort_treeK strKind_oneLt hoL hS.keysOf (fun v₁ v₂ rest e => keyKind_strs (by rw [← e]; exact hS)) (by rw [hvl]; omega) fun st' hp hs => ⟨_, rfl, ?_⟩)
    (PyProof.Rows.args_list_sort _)))
  obtain ⟨ys, q1, q2, q3⟩ := sorted_out_str hS hp hs
  obtain ⟨c, hc⟩ := PyProof.Rows.sortedHeap_at (vs := vs) (out := (arrOf st').map (·.2)) hoL
  refine wpAny_pure ⟨_, rfl, hQ _ s1.heap.objs.size _ c ys (fun b u e => ?_) g1 o1 hz hc q1 (fun k hk => ?_) ?_⟩
  · have q := k1 b u e
    have hlt := Heap.lt_size q
    show (PyProof.Rows.sortedHeap (s1.heap.push (seqObj "list" vs.toArray 0)) s1.heap.objs.size vs _).get? b = some u
    rw [PyProof.Rows.sortedHeap_old (Nat.ne_of_lt hlt) (by rw [size_push']; exact Nat.lt_succ_of_lt hlt)]
    exact Heap.get?_push_of_some _ q
  · obtain ⟨v, hv1, rfl⟩ := List.mem_map.mp (q2.mem_iff.mp hk)
    obtain ⟨k, tk, rfl, hL⟩ := hv v hv1
    exact hL
  · rw [q2.length_eq, List.length_map, hvl]; omega
end
/-! ### tracked -/
def SetTO (w : World) (a : Addr) (L : List Str) : HO := .ext fun h => SetT w h a L
theorem setTO_new {w : World} {P : Program} {H : Hp} {h : Heap} {a : Addr} {L : List Str} (R : SetT w h a L) : ObjOk P w H h a (SetTO w a L) := by
  have ⟨o, _, _, _, ho, _⟩ := R
  exact ⟨R, ⟨o, ho⟩, fun h1 h2 p k => SetT.at p k⟩
section
variable {X : Cx} {pins : List (Addr × Obj)} {σ : L2.St} {H : Hp} {s : Shared} {a : Addr} {L : List Str}
theorem setTO_get (I : Inv X pins σ H s) (ha : H a = some (SetTO X.w a L)) : SetT X.w s.heap a L := (I.hok a _ ha).1
theorem upd_id {o : HO} (h : H a = some o) : upd H a o = H := by
  funext b
  by_cases e : b = a
  · rw [e, upd_same, h]
  · rw [upd_ne e]
theorem addT_ok {E : Value → Shared → Prop} {k : Str} {tk : Tok} {Q : Value → Shared → Prop} (I : Inv X pins σ H s) (hD : H a = some (SetTO X.w a L)) (h64 : L.length < 64) (hk : k ∈ L)
    (h : ∀ s', Inv X pins σ H s' → Q .none s') : wpAny (model X.prog X.w) X.A (call (.builtin "set.add") [.ref a, .str k tk]) Q E s := by
  have R := setTO_get I hD
  refine setT_add R h64 hk fun h' sb new => ?_
  have he : ∃ u, h'.get? a = some u := by
    have ⟨o, _, _, _, ho, _⟩ := new
    exact ⟨o, ho⟩
  have q := I.write (e := a) (t' := s.toks + 1) (by rw [hD]; trivial) (.inl rfl) (fun b u hb hu => (sb.2 b hb).trans hu) he (setTO_new new)
  rw [upd_id hD] at q
  exact h _ q
/-- sorted(a set of texts) -/
def rSortedT (w : World) : List V → Hp → VK → Prop := fun vs H Q => ∃ (a : Addr) (L : List Str), vs = [V.ref a] ∧ H a = some (SetTO w a L) ∧ L.length < 64 ∧
  ∀ (ys : List Str) (p : Addr), (∀ k ∈ ys, k ∈ L) → ys.length < 64 → H p = none → Q (.ref p) (upd H p (.lst (ys.map V.str)))
theorem cr_sortedTx (hc : X.calm = true) : CallR X (.builtin "sorted") (rSortedT X.w) := by
  intro pins s σ H vs us Q I r h
  obtain ⟨a, L, rfl, ha, h64, q⟩ := h
  have R := setTO_get I ha
  rw [Vals.ref1 r]
  refine sorted_setT R (I.ok.hd hc) h64 fun s' p out c ys k g o hp hg hi hm hl => ?_
  have hlen : (ys.map V.str).length ≤ sizeLine := by rw [List.length_map, sizeLine_eq]; omega
  have hn : H p = none := I.hok.fresh hp
  have J : Inv X pins σ (upd H p (.lst (ys.map V.str))) { s with heap := s'.heap, gens := s'.gens, drawn := s'.drawn, toks := s'.toks } :=
    I.call (ch := []) (Un.laid k hp hn) (I.hok.laid k hp ⟨hlen, out.toList, c, vals_of_strs hi, hg⟩) (by rw [g]; exact I.bare) (fun _ z => nomatch z)
  have e : s' = { s with heap := s'.heap, gens := s'.gens, drawn := s'.drawn, toks := s'.toks } := by
    cases s'
    cases s
    cases o
    rfl
  rw [e]
  exact ⟨.ref p, _, J, rfl, q ys p hm hl hn⟩
end
end Rv
end

section
set_option Elab.async false
set_option autoImplicit false
set_option linter.all false
set_option maxRecDepth 100000
set_option maxHeartbeats 4000000
/-! RvS3: {elt for t0 in i0 for t1 in i1 for t2 in i2}, elt a text. -/
namespace Rv
open PySem L2 PyProof.Rows PySem.Spec
abbrev sc3 (elt t0 i0 t1 i1 t2 i2 : Expr) (scope : Scope) (pos : Pos) : Expr := .SetComp elt [⟨t0, i0, [], 0⟩, ⟨t1, i1, [], 0⟩, ⟨t2, i2, [], 0⟩] scope pos
abbrev turnOf (e : Expr) (k : Nat) (tg : Expr) (p : Pos) (act : Sem Fin → Sem Fin) (it acc : Value) (env : Env) : Sem Fin := do
  standAt p
  match ← pyNext it with
  | none => pure (.done .next)
  | some v =>
    letOwnedTupleGo tg it v
    assign tg env v
    let mut ok := true
    for c in ([] : List Expr) do
      if ok then ok ← isTrue c env (eval c env)
    if ok then act (again (.compLoop e k it acc env)) else again (.compLoop e k it acc env)
abbrev actIn (e : Expr) (k : Nat) (i : Expr) (acc : Value) (env : Env) (c : Sem Fin) : Sem Fin := do
  let x ← eval i env
  standAt i.pos
  let x ← foldedSetIterable i env x
  let _ ← runOwn (.compStart e k (← holding [x] (pyIter x)) acc env) env
  c
abbrev actAdd (elt : Expr) (acc : Value) (env : Env) (c : Sem Fin) : Sem Fin := do
  (do let v ← eval elt env; standAt elt.pos; let _ ← call (.builtin "set.add") [acc, v])
  c
section
variable {elt t0 i0 t1 i1 t2 i2 : Expr} {scope : Scope} {pos : Pos} {it acc : Value} {env : Env}
theorem turn0 : compTurn (sc3 elt t0 i0 t1 i1 t2 i2 scope pos) 0 it acc env = turnOf (sc3 elt t0 i0 t1 i1 t2 i2 scope pos) 0 t0 i0.pos (actIn (sc3 elt t0 i0 t1 i1 t2 i2 scope pos) 1 i1 acc env) it acc env := by rfl
theorem turn1 : compTurn (sc3 elt t0 i0 t1 i1 t2 i2 scope pos) 1 it acc env = turnOf (sc3 elt t0 i0 t1 i1 t2 i2 scope pos) 1 t1 i1.pos (actIn (sc3 elt t0 i0 t1 i1 t2 i2 scope pos) 2 i2 acc env) it acc env := by rfl
theorem turn2 : compTurn (sc3 elt t0 i0 t1 i1 t2 i2 scope pos) 2 it acc env = turnOf (sc3 elt t0 i0 t1 i1 t2 i2 scope pos) 2 t2 i2.pos (actAdd elt acc env) it acc env := by rfl
variable {prog : Program} {w : World} {A : Around} {R : Result → Shared → Prop} {s : Shared} {k : Nat} {tg : Expr} {p : Pos} {act : Sem Fin → Sem Fin}
theorem loop_act (ht : compTurn (sc3 elt t0 i0 t1 i1 t2 i2 scope pos) k it acc env = turnOf (sc3 elt t0 i0 t1 i1 t2 i2 scope pos) k tg p act it acc env) (I : Nat → Shared → Prop)
    (turn : ∀ n s, I n s → wpAny (model prog w) A (pyNext it) (fun r s₁ => match r with
      | none => R (.ok .next) s₁
      | some v => wpAny (model prog w) A (letOwnedTupleGo tg it v) (fun _ s₁' => wpAny (model prog w) A (assign tg env v) (fun _ s₂ =>
          ∀ (c : Sem Fin) (Q : Fin → Shared → Prop) (E : Value → Shared → Prop), (∀ s₅, (∃ m, m < n ∧ I m s₅) → wpAny (model prog w) A c Q E s₅) → wpAny (model prog w) A (act c) Q E s₂) (notedBy (model prog w) A env fun e s' => R (.error e) s') s₁') (notedBy (model prog w) A env fun e s' => R (.error e) s') s₁) (notedBy (model prog w) A env fun e s' => R (.error e) s') s)
    (n : Nat) (h : I n s) : codeAny (model prog w) A (.compLoop (sc3 elt t0 i0 t1 i1 t2 i2 scope pos) k it acc env) R s := by
  refine codeAny_loop rfl I (fun n s hI => ?_) n h
  show wpAny _ A ((compTurn (sc3 elt t0 i0 t1 i1 t2 i2 scope pos) k it acc env).onRaise (fun x => do noteFrame x env; theTreesLotGoes x)) _ _ s
  refine wpAny_noted ?_
  rw [ht]
  refine wpAny_bind (wpAny_standAt (wpAny_bind (wpAny_mono (turn n s hI) (fun r s₁ h₁ => ?_) fun _ _ h' => h')))
  cases r with
  | none => exact wpAny_pure h₁
  | some v =>
    refine wpAny_bind (wpAny_mono h₁ (fun _ s₁' h₁' => ?_) fun _ _ h' => h')
    refine wpAny_bind (wpAny_mono h₁' (fun _ s₂ h₂ => ?_) fun _ _ h' => h')
    refine wpAny_bind (wpAny_pure ?_)
    exact h₂ _ _ _ fun s₅ h₅ => wpAny_pure ⟨rfl, h₅⟩
theorem start1 (h0 : codeAny (model prog w) A (.compLoop (sc3 elt t0 i0 t1 i1 t2 i2 scope pos) 1 it acc env) R s)
    (h : wpAny (model prog w) A (pyIter it) (fun it' s' => codeAny (model prog w) A (.compLoop (sc3 elt t0 i0 t1 i1 t2 i2 scope pos) 1 it' acc env) R s') (notedBy (model prog w) A env fun x s' => R (.error x) s') s) :
    codeAny (model prog w) A (.compStart (sc3 elt t0 i0 t1 i1 t2 i2 scope pos) 1 it acc env) R s := by
  refine codeAny_of_tree ?_
  show wpAny _ _ ((compStart (sc3 elt t0 i0 t1 i1 t2 i2 scope pos) 1 it acc env).onRaise (fun x => do noteFrame x env; standAt theWindowsPlace)) _ _ s
  refine wpAny_notedAt ?_
  unfold compStart
  show wpAny _ _ (ask >>= _) _ _ s
  refine wpAny_bind (wpAny_askSetting (wpAny_ite ?_))
  split
  · first
      | exact wpAny_bind (wpAny_pure (wpAny_pure (And.intro rfl h0)))
      | exact wpAny_pure (And.intro rfl h0)
  · first
      | exact wpAny_bind (wpAny_rule (wpAny_bind (wpAny_standAt (wpAny_bind (wpAny_mono h (fun it' s' h' => wpAny_pure (And.intro rfl h')) fun _ _ x => x)))))
      | (refine wpAny_bind (wpAny_rule ?_); show wpAny _ _ (standAt i1.pos >>= _) _ _ s; exact wpAny_bind (wpAny_standAt (wpAny_bind (wpAny_mono h (fun it' s' h' => wpAny_pure (And.intro rfl h')) fun _ _ x => x))))
theorem start2 (h0 : codeAny (model prog w) A (.compLoop (sc3 elt t0 i0 t1 i1 t2 i2 scope pos) 2 it acc env) R s)
    (h : wpAny (model prog w) A (pyIter it) (fun it' s' => codeAny (model prog w) A (.compLoop (sc3 elt t0 i0 t1 i1 t2 i2 scope pos) 2 it' acc env) R s') (notedBy (model prog w) A env fun x s' => R (.error x) s') s) :
    codeAny (model prog w) A (.compStart (sc3 elt t0 i0 t1 i1 t2 i2 scope pos) 2 it acc env) R s := by
  refine codeAny_of_tree ?_
  show wpAny _ _ ((compStart (sc3 elt t0 i0 t1 i1 t2 i2 scope pos) 2 it acc env).onRaise (fun x => do noteFrame x env; standAt theWindowsPlace)) _ _ s
  refine wpAny_notedAt ?_
  unfold compStart
  show wpAny _ _ (ask >>= _) _ _ s
  refine wpAny_bind (wpAny_askSetting (wpAny_ite ?_))
  split
  · first
      | exact wpAny_bind (wpAny_pure (wpAny_pure (And.intro rfl h0)))
      | exact wpAny_pure (And.intro rfl h0)
  · first
      | exact wpAny_bind (wpAny_rule (wpAny_bind (wpAny_standAt (wpAny_bind (wpAny_mono h (fun it' s' h' => wpAny_pure (And.intro rfl h')) fun _ _ x => x)))))
      | (refine wpAny_bind (wpAny_rule ?_); show wpAny _ _ (standAt i2.pos >>= _) _ _ s; exact wpAny_bind (wpAny_standAt (wpAny_bind (wpAny_mono h (fun it' s' h' => wpAny_pure (And.intro rfl h')) fun _ _ x => x))))
end
abbrev Body := L2.St → Hp → (Hp → Prop) → Prop
/-- an inner clause: its source, its loop, its body -/
def tLvl (wi : TI) (g : TG) (vsk : List Nat) (body : Body) : Body := fun σ H Nx => wi σ H fun J H1 => ∃ W : Nat → Nat → Hp → Prop, (∃ m, W 0 m H1) ∧ ∀ j k H, W j k H →
  (J.stop j H ∧ Nx H) ∨ (J.go j H ∧ ∃ Nx1 : Hp → Prop, (∀ H', Nx1 H' → ∃ k', k' < k ∧ W (j + 1) k' H') ∧ ∀ x H', J.yld j H x H' → g x (wipe σ vsk) H' fun σ3 H5 => wipe σ3 vsk = wipe σ vsk ∧ body σ3 H5 Nx1)
def tAddT (w : World) (te : TE) (D : Addr) (L : List Str) : Body := fun σ H Nx => te σ H fun y H5 => ∃ k, y = .str k ∧ k ∈ L ∧ H5 D = some (SetTO w D L) ∧ Nx H5
def tSc3 (w : World) (wi : TI) (g : TG) (wi1 : TI) (g1 : TG) (wi2 : TI) (g2 : TG) (te : TE) (vs vs1 vs2 : List Nat) : TE := fun σ H Q => wi σ H fun J H1 => ∀ D, H1 D = none → ∃ L : List Str, L.length < 64 ∧ ∃ W : Nat → Nat → Hp → Prop, (∃ m, W 0 m (upd H1 D (SetTO w D L))) ∧ ∀ i m H, W i m H →
  (J.stop i H ∧ Q (.ref D) H) ∨ (J.go i H ∧ ∃ Nx : Hp → Prop, (∀ H', Nx H' → ∃ m', m' < m ∧ W (i + 1) m' H') ∧ ∀ x H', J.yld i H x H' → g x (wipe σ vs) H' fun σ2 H2 => wipe σ2 vs = wipe σ vs ∧
    tLvl wi1 g1 vs1 (tLvl wi2 g2 vs2 (tAddT w te D L)) σ2 H2 Nx)
section
variable {X : Cx} {s3 : Shared} {H3 : Hp} {scope : Scope} {ce : Env} {fp : List Addr} {e tg iter : Expr} {k : Nat} {acc : Value}
/-- what an action does: from a state that body tells to one that Nx tells; names of vsk may have changed -/
def Acts (X : Cx) (s3 : Shared) (H3 : Hp) (scope : Scope) (ce : Env) (fp : List Addr) (vsk : List Nat) (act : Sem Fin → Sem Fin) (body : Body) : Prop :=
  ∀ (pins : List (Addr × Obj)) (σ : L2.St) (H : Hp) (s : Shared) (Nx : Hp → Prop) (R : Unit → Shared → Prop), Inv (X.blk s3 H3 scope ce fp) pins σ H s → body σ H Nx →
    (∀ (σ' : L2.St) (H' : Hp) (s' : Shared), Inv (X.blk s3 H3 scope ce fp) pins σ' H' s' → σ.length = σ'.length → (∀ (j : Nat) v, j ∉ vsk → σ[j]? = some (some v) → σ'[j]? = some (some v)) → Nx H' → R () s') →
    ∀ (c : Sem Fin) (Q : Fin → Shared → Prop) (E : Value → Shared → Prop), (∀ s', R () s' → wpAny (model X.prog X.w) X.A c Q E s') → wpAny (model X.prog X.w) X.A (act c) Q E s
theorem acts_add {elt : Expr} {te : TE} {D : Addr} {L : List Str} {vsk : List Nat} (h64 : L.length < 64) (pe : PE (X.blk s3 H3 scope ce fp) elt te) (hen : (X.blk s3 H3 scope ce fp).env = ce) : Acts X s3 H3 scope ce fp vsk (actAdd elt (.ref D) ce) (tAddT X.w te D L) := by
  intro pins σ H s Nx R I h hR c Q E hc
  have r := pe.run pins s σ H _ I h
  rw [hen] at r
  refine wpAny_bind (wpAny_bind (thnF r fun z s1 ⟨y, H1, I1, ry, kk, ey, hk, hD, nx⟩ => ?_))
  subst ey
  obtain ⟨t, rfl⟩ := ry
  refine wpAny_bind (wpAny_standAt ?_)
  refine wpAny_bind (addT_ok (X := X.blk s3 H3 scope ce fp) I1 hD h64 hk fun s2 I2 => ?_)
  exact wpAny_pure (hc _ (hR σ H1 s2 I2 rfl (fun _ _ _ q => q) nx))
/-- an inner clause as an action -/
theorem acts_in {wi : TI} {g : TG} {elt t0 i0 t1 i1 t2 i2 : Expr} {sc : Scope} {pos : Pos} {vsk vso : List Nat} {act : Sem Fin → Sem Fin} {body : Body} {p : Pos} (he : e = sc3 elt t0 i0 t1 i1 t2 i2 sc pos) (hc : X.calm = true) (hen : (X.blk s3 H3 scope ce fp).env = ce)
    (hstart : ∀ (it : Value) (s : Shared) (R : Result → Shared → Prop), codeAny (model X.prog X.w) X.A (.compLoop e k it acc ce) R s → wpAny (model X.prog X.w) X.A (pyIter it) (fun it' s' => codeAny (model X.prog X.w) X.A (.compLoop e k it' acc ce) R s') (notedBy (model X.prog X.w) X.A ce fun x s' => R (.error x) s') s →
      codeAny (model X.prog X.w) X.A (.compStart e k it acc ce) R s)
    (ht : ∀ it, compTurn e k it acc ce = turnOf e k tg p act it acc ce)
    (pi : PI (X.blk s3 H3 scope ce fp) tg iter wi) (pg : PG (X.blk s3 H3 scope ce fp) tg g) (hs : ∀ x, foldedSetIterable iter ce x = pure x) (hact : Acts X s3 H3 scope ce fp vsk act body) (hsub : ∀ i ∈ vsk, i ∈ vso) :
    Acts X s3 H3 scope ce fp vso (actIn e k iter acc ce) (tLvl wi g vsk body) := by
  subst he
  intro pins σ8 H9 s9 Nx R I9 q9 hR c0 Q0 E0' hc0
  have r := pi.run _ s9 σ8 H9 _ I9 q9
  rw [hen] at r
  refine wpAny_bind (thnF r fun xv s10 hx => ?_)
  refine wpAny_bind (wpAny_standAt (wpAny_bind (wpAny_of_eq (hs xv) (wpAny_bind (wpAny_holding (thnF hx fun itv s11 h11 => ?_))))))
  obtain ⟨it1, fp1, tn1, J1, H11, e1, I11, T1, st11, f11, W1, ⟨m1, w1⟩, turn1⟩ := h11
  subst e1
  have stat1 : ∀ {H' : Hp}, (∀ b ∈ fp1, H' b = none) → ∀ b ∈ fp1, FpOk (X.blk s3 H3 scope ce fp) pins H' b := fun hn b hb => ⟨hn b hb, (f11 b hb).2⟩
  have loop1 : codeAny (model X.prog X.w) X.A (.compLoop (sc3 elt t0 i0 t1 i1 t2 i2 sc pos) k (.ref it1) acc ce) (fun r s' => match r with | .ok _ => R () s' | .error _ => False) s11 := by
    refine loop_act (ht _) (fun k s' => ∃ j H', Inv (X.blk s3 H3 scope ce fp) pins (wipe σ8 vsk) H' s' ∧ tn1 j s'.heap ∧ (∀ b ∈ fp1, H' b = none) ∧ W1 j k H') ?_ m1 ⟨0, H11, I11.weak (wipe_length _ _) (fun j v e => (wipe_some e).1), st11, fun b hb => (f11 b hb).1, w1⟩
    rintro k s12 ⟨j, H12, I12, st12, n12, w12⟩
    rcases turn1 j k H12 w12 with ⟨stop1, nx1⟩ | ⟨go1, Nx1, hNx1, step1⟩
    · refine thnF (T1.done (X.blk s3 H3 scope ce fp) rfl rfl rfl hc j _ s12 (wipe σ8 vsk) H12 (fun _ _ => False) I12 (stat1 n12) st12 stop1) fun r s13 ⟨hr, I13⟩ => ?_
      subst hr
      exact hR _ H12 s13 I13 (wipe_length _ _).symm (fun j v hj q => by rw [wipe_out (fun z => hj (hsub j z))]; exact q) nx1
    · refine thnF (T1.item (X.blk s3 H3 scope ce fp) rfl rfl rfl hc j _ s12 (wipe σ8 vsk) H12 (fun _ _ => False) I12 (stat1 n12) st12 go1) fun r s13 ⟨u1, hr, h13⟩ => ?_
      subst hr
      refine thnF h13 fun _ s14 ⟨x1, H14, I14, r14, y14, st14, n14⟩ => ?_
      have I14' := I14.pinned (stat1 n14) (T1.obj _ _ st14)
      have rg := pg.run _ s14 (wipe σ8 vsk) H14 x1 u1 _ I14' r14 (step1 x1 H14 y14)
      rw [hen] at rg
      refine thnF rg fun _ s15 ⟨σ15, H15, I15, hw15, q15⟩ => ?_
      refine hact _ σ15 H15 s15 Nx1 (fun _ s₅ => ∃ m, m < k ∧ ∃ j H', Inv (X.blk s3 H3 scope ce fp) pins (wipe σ8 vsk) H' s₅ ∧ tn1 j s₅.heap ∧ (∀ b ∈ fp1, H' b = none) ∧ W1 j m H') I15 q15 fun σ16 H16 s16 I16 hl16 hk16 nx16 => ?_
      obtain ⟨m', hm, w'⟩ := hNx1 H16 nx16
      have pin' : ∀ b ∈ fp1, ∀ o, s14.heap.get? b = some o → s16.heap.get? b = some o ∧ H16 b = none := fun b hb o e =>
        let z := I16.pin (b, o) (List.mem_append_right _ (List.mem_append_right _ (mem_pinsAt hb e)))
        ⟨z.1, z.2.1⟩
      refine ⟨m', hm, j + 1, H16, I16.unpinned.weak (by rw [← hw15, wipe_length]; exact hl16) (fun j v e => ?_), T1.keep _ _ _ st14 fun b hb o e => (pin' b hb o e).1, fun b hb => ?_, w'⟩
      · rw [← hw15] at e
        obtain ⟨e1, e2⟩ := wipe_some e
        exact hk16 j v e2 e1
      · obtain ⟨o, e, _⟩ := T1.obj _ _ st14 b hb
        exact (pin' b hb o e).2
  refine wpAny_bind (wpAny_runOwn ?_)
  rw [Around.mark_none]
  refine codeAny_mono (hstart _ _ _ loop1 (T1.self X.A 0 _ _ _ st11 loop1)) fun r s' hr => ?_
  cases r with
  | ok f => exact hc0 _ hr
  | error e => exact hr.elim
end
section
variable {X : Cx}
theorem sc3_core {pins : List (Addr × Obj)} {s : Shared} {σ : L2.St} {H : Hp} {Q : VK} {elt t0 i0 t1 i1 t2 i2 : Expr} {scope : Scope} {own : List (PySem.Str × Nat)} {vs1 vs2 : List Nat} {pos pos' : Pos} {wi wi1 wi2 : TI} {g g1 g2 : TG} {te : TE} {use : Option (Value → Sem Unit)} {Qf : Value → Shared → Prop}
    (hc : X.calm = true) (hN : X.N.Nodup) (I : Inv X pins σ H s) (hi : PI X t0 i0 wi) (ok : BlkOk X.N X.env.scope scope own) (hv1 : ∀ i ∈ vs1, i ∈ own.map (·.2)) (hv2 : ∀ i ∈ vs2, i ∈ vs1)
    (hg : ∀ (s : Shared) (H : Hp) (C : Addr) (cl : List (PySem.Str × Addr)) (fp : List Addr), PG (X.blk s H scope (compEnvC scope cl C X.env) fp) t0 g)
    (hi1 : ∀ (s : Shared) (H : Hp) (C : Addr) (cl : List (PySem.Str × Addr)) (fp : List Addr), PI (X.blk s H scope (compEnvC scope cl C X.env) fp) t1 i1 wi1)
    (hg1 : ∀ (s : Shared) (H : Hp) (C : Addr) (cl : List (PySem.Str × Addr)) (fp : List Addr), PG (X.blk s H scope (compEnvC scope cl C X.env) fp) t1 g1)
    (hi2 : ∀ (s : Shared) (H : Hp) (C : Addr) (cl : List (PySem.Str × Addr)) (fp : List Addr), PI (X.blk s H scope (compEnvC scope cl C X.env) fp) t2 i2 wi2)
    (hg2 : ∀ (s : Shared) (H : Hp) (C : Addr) (cl : List (PySem.Str × Addr)) (fp : List Addr), PG (X.blk s H scope (compEnvC scope cl C X.env) fp) t2 g2)
    (he : ∀ (s : Shared) (H : Hp) (C : Addr) (cl : List (PySem.Str × Addr)) (fp : List Addr), PE (X.blk s H scope (compEnvC scope cl C X.env) fp) elt te)
    (hs : ∀ x, foldedSetIterable i0 X.env x = pure x) (hs1 : ∀ env x, foldedSetIterable i1 env x = pure x) (hs2 : ∀ env x, foldedSetIterable i2 env x = pure x)
    (h : tSc3 X.w wi g wi1 g1 wi2 g2 te (own.map (·.2)) vs1 vs2 σ H Q)
    (hRR : ∀ D C s' m H', Inv X pins σ H' s' → Q (.ref D) H' → s'.heap.Ns C m → FpOk X pins H' C → compPost (model X.prog X.w) X.A X.xe use Qf (.ref D) C (.ok .next) s') :
    wpAny (model X.prog X.w) X.A (comprehension (sc3 elt t0 i0 t1 i1 t2 i2 scope pos) scope X.env pos' (newSet (.type "set")) false (eval i0 X.env) use) Qf X.xe s := by
  have hfree : ∀ y ∈ scope.names, y.2 = .free → ∃ c, X.env.cells.lookup y.1 = some c := fun y hy e => by
    rcases ok.free y hy e with k | k
    · exact I.ok.has _ (.inl k)
    · exact I.ok.has _ (.inr k)
  refine wpAny_comprehension_free (use := use) rfl hs (closure_ok hfree) ok.kind (fun y hy e => by rw [ok.uniq y hy, e])
    (thn (hi.run pins s σ H _ I h) fun xv s1 hx => thn hx fun itv s2 h2 => ?_)
  obtain ⟨it, fp, tn, J, H2, e, I2, T, st2, f2, q⟩ := h2
  subst e
  refine PpSet.newSet_ok (newEnv_comp ?_)
  generalize hD : s2.heap.objs.size = D
  have hDn : H2 D = none := I2.hok.fresh (Nat.le_of_eq hD)
  obtain ⟨L, h64, W, ⟨m0, w0⟩, turn⟩ := q D hDn
  generalize hs3 : ({ s2 with heap := s2.heap.push { cls := .type "set", dict := none, data := .set #[] 0 (.fresh 0 0 (!X.w.params.followText "set-order")) } } : Shared) = s3
  have I3 : Inv X pins σ (upd H2 D (SetTO X.w D L)) s3 := by
    rw [← hs3]
    refine I2.laid (t' := s2.toks) (fun b o e => Heap.get?_push_of_some _ e) (Nat.le_of_eq hD) ?_
    rw [← hD]
    exact setTO_new (setT_fresh X.w)
  have h3 : s3.heap = s2.heap.push { cls := .type "set", dict := none, data := .set #[] 0 (.fresh 0 0 (!X.w.params.followText "set-order")) } := by rw [← hs3]
  have szl : ∀ b ∈ fp, b < s2.heap.objs.size := fun b hb => by
    obtain ⟨o, e, _⟩ := T.obj _ _ st2 b hb
    exact Heap.lt_size e
  have f3 : ∀ b ∈ fp, FpOk X pins (upd H2 D (SetTO X.w D L)) b ∧ b < s3.heap.objs.size := fun b hb => by
    have hlt := szl b hb
    refine ⟨⟨?_, (f2 b hb).2⟩, by rw [h3, Heap.size_push]; exact Nat.lt_succ_of_lt hlt⟩
    rw [upd_ne (by rw [← hD]; exact Nat.ne_of_lt hlt)]
    exact (f2 b hb).1
  have st3 : tn 0 s3.heap := T.keep _ _ _ st2 fun b _ o e => by rw [h3]; exact Heap.get?_push_of_some _ e
  have I4 := block_start I3 ok hN f3
  have pg := hg s3 (upd H2 D (SetTO X.w D L)) s3.heap.objs.size (cellsFrom (s3.heap.objs.size + 1) scope.names (cloFrom X.env.cells scope.names [])) fp
  have pi1 := hi1 s3 (upd H2 D (SetTO X.w D L)) s3.heap.objs.size (cellsFrom (s3.heap.objs.size + 1) scope.names (cloFrom X.env.cells scope.names [])) fp
  have pg1 := hg1 s3 (upd H2 D (SetTO X.w D L)) s3.heap.objs.size (cellsFrom (s3.heap.objs.size + 1) scope.names (cloFrom X.env.cells scope.names [])) fp
  have pi2 := hi2 s3 (upd H2 D (SetTO X.w D L)) s3.heap.objs.size (cellsFrom (s3.heap.objs.size + 1) scope.names (cloFrom X.env.cells scope.names [])) fp
  have pg2 := hg2 s3 (upd H2 D (SetTO X.w D L)) s3.heap.objs.size (cellsFrom (s3.heap.objs.size + 1) scope.names (cloFrom X.env.cells scope.names [])) fp
  have pe := he s3 (upd H2 D (SetTO X.w D L)) s3.heap.objs.size (cellsFrom (s3.heap.objs.size + 1) scope.names (cloFrom X.env.cells scope.names [])) fp
  show codeAny _ _ (.compStart (sc3 elt t0 i0 t1 i1 t2 i2 scope pos) 0 (.ref it) (.ref D) (compEnvC scope (cellsFrom (s3.heap.objs.size + 1) scope.names (cloFrom X.env.cells scope.names [])) s3.heap.objs.size X.env)) (compPost (model X.prog X.w) X.A X.xe use Qf (.ref D) s3.heap.objs.size) { s3 with heap := pushCells (s3.heap.push { cls := .type "dict", data := .dict #[] }) scope.names }
  have nfp : ∀ b ∈ fp, (upd H2 D (SetTO X.w D L)) b = none := fun b hb => (f3 b hb).1.1
  generalize hce : compEnvC scope (cellsFrom (s3.heap.objs.size + 1) scope.names (cloFrom X.env.cells scope.names [])) s3.heap.objs.size X.env = ce at I4 pg pi1 pg1 pi2 pg2 pe ⊢
  have cL : ce.locals = s3.heap.objs.size := by subst hce; rfl
  generalize hH3 : upd H2 D (SetTO X.w D L) = H3 at I3 I4 pg pi1 pg1 pi2 pg2 pe w0 nfp f3
  generalize hs4 : ({ s3 with heap := pushCells (s3.heap.push { cls := .type "dict", data := .dict #[] }) scope.names } : Shared) = s4 at I4 ⊢
  have st4 : tn 0 s4.heap := T.keep _ _ _ st3 fun b _ o e => by rw [← hs4]; exact pushCells_keeps _ _ _ _ (Heap.get?_push_of_some _ e)
  have stat : ∀ {σ' : L2.St} {H' : Hp} {s' : Shared}, Inv (X.blk s3 H3 scope ce fp) [] σ' H' s' → (∀ b ∈ fp, H' b = none) → ∀ b ∈ fp, FpOk (X.blk s3 H3 scope ce fp) [] H' b := fun {σ' H' s'} I' hn b hb =>
    ⟨hn b hb, (I'.ok.exf b hb).1, I'.ok.exfs b hb, .inl hb, fun x c e => (I'.ok.exf b hb).2 x c e, fun p hp => absurd (show p ∈ ([] : List (Addr × Obj)) ++ [] from hp) (by simp)⟩
  have act2 := acts_add (X := X) (s3 := s3) (H3 := H3) (scope := scope) (ce := ce) (fp := fp) (D := D) (vsk := vs2) h64 pe rfl
  have act1 := acts_in (X := X) (acc := .ref D) (k := 2) (vso := vs1) (elt := elt) (t0 := t0) (i0 := i0) (t1 := t1) (i1 := i1) (t2 := t2) (i2 := i2) (sc := scope) (pos := pos) rfl hc rfl (fun it s R a b => start2 a b) (fun it => turn2) pi2 pg2 (hs2 ce) act2 hv2
  have act0 := acts_in (X := X) (acc := .ref D) (k := 1) (vso := own.map (·.2)) (elt := elt) (t0 := t0) (i0 := i0) (t1 := t1) (i1 := i1) (t2 := t2) (i2 := i2) (sc := scope) (pos := pos) rfl hc rfl (fun it s R a b => start1 a b) (fun it => turn1) pi1 pg1 (hs1 ce) act1 hv1
  have loop : codeAny (model X.prog X.w) X.A (.compLoop (sc3 elt t0 i0 t1 i1 t2 i2 scope pos) 0 (.ref it) (.ref D) ce) (compPost (model X.prog X.w) X.A X.xe use Qf (.ref D) s3.heap.objs.size) s4 := by
    refine loop_act turn0 (fun n s' => ∃ i H', Inv (X.blk s3 H3 scope ce fp) [] (wipe σ (own.map (·.2))) H' s' ∧ tn i s'.heap ∧ (∀ b ∈ fp, H' b = none) ∧ W i n H') ?_ m0 ⟨0, H3, I4, st4, nfp, w0⟩
    rintro n s5 ⟨i, H5, I5, st5, n5, w5⟩
    rcases turn i n H5 w5 with ⟨stop, qq⟩ | ⟨go, Nx, hNx, step⟩
    · have td := T.done (X.blk s3 H3 scope ce fp) rfl rfl rfl hc i [] s5 _ H5 (fun _ _ => False) I5 (stat I5 n5) st5 stop
      refine thnF td fun r s6 ⟨hr, I6⟩ => ?_
      subst hr
      have I7 : Inv X pins σ H5 s6 := I3.call' (ch := fp) I6.os I6.base I6.hok I6.bare fun b hb => ⟨(f3 b hb).1.2.2.2.1, (f3 b hb).1.2.1, (f3 b hb).1.2.2.2.2.1, (f3 b hb).1.2.2.2.2.2⟩
      have nC : H5 s3.heap.objs.size = none := by
        have z : H5 ce.locals = none := I6.free
        rw [cL] at z
        exact z
      obtain ⟨m, hn, _⟩ := I6.loc
      have hn : s6.heap.Ns ce.locals m := hn
      rw [cL] at hn
      exact hRR D s3.heap.objs.size s6 m H5 I7 qq hn (I3.fpOk (Nat.le_refl _) nC)
    · have ti := T.item (X.blk s3 H3 scope ce fp) rfl rfl rfl hc i [] s5 _ H5 (fun _ _ => False) I5 (stat I5 n5) st5 go
      refine thnF ti fun r s6 ⟨u, hr, h6⟩ => ?_
      subst hr
      refine thnF h6 fun _ s7 ⟨x, H7, I7, r7, y7, st7, n7⟩ => ?_
      have I7' := I7.pinned (stat I7 n7) (T.obj _ _ st7)
      refine thnF (pg.run _ s7 _ H7 x u _ I7' r7 (step x H7 y7)) fun _ s8 ⟨σ8, H8, I8, hw8, q8⟩ => ?_
      refine act0 _ σ8 H8 s8 Nx (fun _ s₅ => ∃ m, m < n ∧ ∃ i H', Inv (X.blk s3 H3 scope ce fp) [] (wipe σ (own.map (·.2))) H' s₅ ∧ tn i s₅.heap ∧ (∀ b ∈ fp, H' b = none) ∧ W i m H') I8 q8 fun σ9 H9 s9 I9 hl9 hk9 nx => ?_
      obtain ⟨m', hm, w'⟩ := hNx H9 nx
      have pin' : ∀ b ∈ fp, ∀ o, s7.heap.get? b = some o → s9.heap.get? b = some o ∧ H9 b = none := fun b hb o e =>
        let z := I9.pin (b, o) (List.mem_append_right _ (List.mem_append_right _ (mem_pinsAt hb e)))
        ⟨z.1, z.2.1⟩
      refine ⟨m', hm, i + 1, H9, (I9.unpinned (pins := [])).weak (by rw [← hw8, wipe_length]; exact hl9) (fun j v e => ?_), T.keep _ _ _ st7 fun b hb o e => (pin' b hb o e).1, fun b hb => ?_, w'⟩
      · rw [← hw8] at e
        obtain ⟨e1, e2⟩ := wipe_some e
        exact hk9 j v e2 e1
      · obtain ⟨o, e, _⟩ := T.obj _ _ st7 b hb
        exact (pin' b hb o e).2
  exact PpSet.codeAny_compStart_set loop (T.self X.A 0 _ _ _ st4 loop)
theorem pe_sc3 {elt t0 i0 t1 i1 t2 i2 : Expr} {scope : Scope} {own : List (PySem.Str × Nat)} {vs1 vs2 : List Nat} {pos : Pos} {wi wi1 wi2 : TI} {g g1 g2 : TG} {te : TE}
    (hc : X.calm = true) (hN : X.N.Nodup) (hi : PI X t0 i0 wi) (ok : BlkOk X.N X.env.scope scope own) (hv1 : ∀ i ∈ vs1, i ∈ own.map (·.2)) (hv2 : ∀ i ∈ vs2, i ∈ vs1)
    (hg : ∀ (s : Shared) (H : Hp) (C : Addr) (cl : List (PySem.Str × Addr)) (fp : List Addr), PG (X.blk s H scope (compEnvC scope cl C X.env) fp) t0 g)
    (hi1 : ∀ (s : Shared) (H : Hp) (C : Addr) (cl : List (PySem.Str × Addr)) (fp : List Addr), PI (X.blk s H scope (compEnvC scope cl C X.env) fp) t1 i1 wi1)
    (hg1 : ∀ (s : Shared) (H : Hp) (C : Addr) (cl : List (PySem.Str × Addr)) (fp : List Addr), PG (X.blk s H scope (compEnvC scope cl C X.env) fp) t1 g1)
    (hi2 : ∀ (s : Shared) (H : Hp) (C : Addr) (cl : List (PySem.Str × Addr)) (fp : List Addr), PI (X.blk s H scope (compEnvC scope cl C X.env) fp) t2 i2 wi2)
    (hg2 : ∀ (s : Shared) (H : Hp) (C : Addr) (cl : List (PySem.Str × Addr)) (fp : List Addr), PG (X.blk s H scope (compEnvC scope cl C X.env) fp) t2 g2)
    (he : ∀ (s : Shared) (H : Hp) (C : Addr) (cl : List (PySem.Str × Addr)) (fp : List Addr), PE (X.blk s H scope (compEnvC scope cl C X.env) fp) elt te)
    (hs : ∀ x, foldedSetIterable i0 X.env x = pure x := by intro _; rfl) (hs1 : ∀ env x, foldedSetIterable i1 env x = pure x := by intro _ _; rfl) (hs2 : ∀ env x, foldedSetIterable i2 env x = pure x := by intro _ _; rfl) :
    PE X (.SetComp elt [⟨t0, i0, [], 0⟩, ⟨t1, i1, [], 0⟩, ⟨t2, i2, [], 0⟩] scope pos) (tSc3 X.w wi g wi1 g1 wi2 g2 te (own.map (·.2)) vs1 vs2) := by
  refine ⟨fun pins s σ H Q I h => ?_⟩
  rw [PpSet.eval_SetComp]
  refine sc3_core hc hN I hi ok hv1 hv2 hg hi1 hg1 hi2 hg2 he hs hs1 hs2 h fun D C s' m H' I' q hn f => ⟨m, hn, fun h'' sb => ?_⟩
  obtain ⟨f0, f1, f2, f3, f4, f5⟩ := f
  exact ⟨.ref D, H', I'.turned (t' := s'.toks) (fun b o hb e => (sb.2 b hb).trans e) f0 f1 f3 f4 f5, rfl, q⟩
end
end Rv
end

section
set_option Elab.async false
set_option autoImplicit false
set_option linter.all false
set_option maxRecDepth 100000
set_option maxHeartbeats 4000000
namespace Rv
open PySem L2 PyProof.Rows PySem.Spec
/-- the sums of the steps are of the names -/
def OkNm (l : List Stp) (ns : List Tt) : Prop := ∀ s ∈ l, ∀ t ∈ sumsS s, t.length ≤ 10 ∧ ∀ p ∈ t, p.1 ∈ ns
section
variable {J : It} {n : Nat} {Gd : Hp → Prop} {Y : Nat → Hp → V → Hp → Prop} {g : TG} {vsk : List Nat} {σ : L2.St} {H : Hp} {body : Body} {Nx : Hp → Prop}
theorem lvl_any (w : Walk J n Gd Y) (Pv : Nat → Hp → Prop) (h0 : Pv 0 H) (hG : ∀ i H, i ≤ n → Pv i H → Gd H)
    (hs : ∀ i x H H', i < n → Pv i H → Y i H x H' → g x (wipe σ vsk) H' fun σ3 H5 => wipe σ3 vsk = wipe σ vsk ∧ body σ3 H5 (Pv (i + 1))) (hd : ∀ H, Pv n H → Nx H) :
    ∃ W : Nat → Nat → Hp → Prop, (∃ m, W 0 m H) ∧ ∀ j k H, W j k H →
  (J.stop j H ∧ Nx H) ∨ (J.go j H ∧ ∃ Nx1 : Hp → Prop, (∀ H', Nx1 H' → ∃ k', k' < k ∧ W (j + 1) k' H') ∧ ∀ x H', J.yld j H x H' → g x (wipe σ vsk) H' fun σ3 H5 => wipe σ3 vsk = wipe σ vsk ∧ body σ3 H5 Nx1) := by
  refine ⟨fun i m H => m = n - i ∧ i ≤ n ∧ Pv i H, ⟨n, by simp, Nat.zero_le _, h0⟩, ?_⟩
  rintro i m H ⟨rfl, hi, p⟩
  have q := hG i H hi p
  by_cases hlt : i < n
  · exact .inr ⟨w.goes i H hlt q, Pv (i + 1), fun H' p' => ⟨n - (i + 1), by omega, rfl, hlt, p'⟩, fun x H' y => hs i x H H' hlt p (w.yields i H x H' hlt q y)⟩
  · have e : i = n := by omega
    subst e
    exact .inl ⟨w.stops H q, hd H p⟩
end
abbrev spRuleMeters (cs : Cs) : Sp := fun vs H Q _ => ∃ (A : Amb) (F : Hp) (x : V) (ls : List Tt) (l : List Stp) (ns : List Tt), vs = [x] ∧ Fz A F H ∧ rRule cs F x (ls, l) ∧ OkNm l ns ∧ ns.length ≤ 12 ∧ Out A F H Q fun F' _ v => ∃ ys : List Tt, rTup rS F' v ys ∧ ∀ y ∈ ys, y ∈ ns
abbrev spCheckRule (cs : Cs) : Sp := fun vs H Q _ => ∃ (A : Amb) (F : Hp) (x y : V) (n : NetD) (ls : List Tt) (l : List Stp), vs = [x, y] ∧ Fz A F H ∧ rNet cs F x n ∧ rRule cs F y (ls, l) ∧ OkNm l (n.2.map (·.1)) ∧ n.2.length ≤ 12 ∧ Out A F H Q fun F' _ v => v = .non
section
variable {P : Program} {w : World} {K : PySem.W.Frag} {mg : Str → Option Value} {base : Heap} {cs : Cs}
abbrev sRuleMeters : Stmt := inClass (top 64) 4
abbrev nRuleMeters : List Str := ["self", "step", "total", "name"]
abbrev pRuleMeters : List Str := ["self"]
theorem scRuleMeters : FnScope nRuleMeters pRuleMeters (defScope sRuleMeters) := ⟨rfl, rfl, rfl, by decide +kernel, rfl, by decide +kernel, by decide +kernel⟩

theorem p_Rule_meters (D : PrD K cs.rule "meters" "Rule.meters" sRuleMeters pRuleMeters) (T : Tx K mg cs) (c_sums_in : Cal P w K mg base 1 "sums_in" (spSumsIn cs)) (p_Sum_names : Prp P w K mg base 1 cs.sum "names" (spSumNames cs)) : Prp P w K mg base 3 cs.rule "meters" (spRuleMeters cs) := by
  refine prp_of D scRuleMeters (fun vs H Q E h => ?_) (fun f cdv A outer s H vs Q E hr h => ?_)
  · obtain ⟨_, _, _, _, _, _, rfl, _⟩ := h
    rfl
  · obtain ⟨Am, F, _, ls, l, ns, rfl, Z, ⟨p, dx, x, y, rfl, hp, rx, ⟨q, xs, rfl, hq, prd⟩⟩, ok, hn, k⟩ := h
    refine ⟨_, (pss_one (ps_ret (pe_callTy call_tuple_of (by rfl) T.n_tuple (by decide +kernel) (pa_cons (pe_callB (cr_sortedTx rfl) (by rfl) T.n_sorted (by decide +kernel) (pa_cons (pe_sc3 (own := [("step", 1), ("total", 2), ("name", 3)]) (vs1 := [2, 3]) (vs2 := [3]) rfl scRuleMeters.nd (pi_tup (pe_fld (pv 0) rfl)) (blkOk_by (own := [("step", 1), ("total", 2), ("name", 3)]) (N := nRuleMeters) (sc := defScope sRuleMeters) (by decide +kernel)) (by decide) (by decide) (fun _ _ _ _ _ => (pg_name (i := 1) scRuleMeters.nd rfl (.inl rfl) (.inr rfl))) (fun _ _ _ _ _ => (pi_listK K rfl (pe_c c_sums_in hr (by decide) rfl (pa_cons (pv 1) pa_nil)))) (fun _ _ _ _ _ => (pg_name (i := 2) scRuleMeters.nd rfl (.inl rfl) (.inr rfl))) (fun _ _ _ _ _ => (pi_tupK K rfl (pe_pr p_Sum_names hr (by decide) (pv 2) rfl))) (fun _ _ _ _ _ => (pg_name (i := 3) scRuleMeters.nd rfl (.inl rfl) (.inr rfl))) (fun _ _ _ _ _ => (pv 3))) pa_nil)) pa_nil)))), ?_⟩
    refine ⟨_, rfl, p, _, dx, _, _, rfl, Z.sub _ _ hp, T.k_Rule, T.a_Rule_steps, rfl, q, rfl, ⟨_, Z.T hq⟩, ?_⟩
    intro D hD
    have hS := Z.notS hD
    refine ⟨ns.map S, by simp; omega, ?_⟩
    refine lvl_any (body := fun σ2 H2 Nx => tLvl _ _ _ _ σ2 H2 Nx) (walk_tup (xs := xs)) (fun i H' => ∃ F', Gr Am F H F' H' ∧ F' D = none ∧ H' D = some (SetTO _ D (ns.map S))) ⟨F, (Gr.refl Z).own hD, Z.free hD, upd_same⟩ (fun i H' _ ⟨F', G, _⟩ => G.fz.T (G.ff _ _ hq)) ?_ ?_
    · rintro i x H1 H2 hi ⟨F1, G1, hF1, hD1⟩ ⟨rfl, hx⟩
      obtain ⟨st, hst, rst⟩ := prd_get prd hx
      have okst := ok st (List.mem_of_getElem? hst)
      refine ⟨rfl, _, rfl, Am, F1, x, st, rfl, G1.fz, MonoR.up G1.ff rst, fun F2 H2 v g2 ⟨u, ys, e, hu, prs⟩ => ?_⟩
      subst e
      obtain ⟨hD2, hF2⟩ := g2.cell hS hD1 hF1
      refine ⟨u, rfl, ⟨_, g2.fz.L hu⟩, ?_⟩
      refine lvl_any (body := fun σ2 H2 Nx => tLvl _ _ _ _ σ2 H2 Nx) (walk_list (xs := ys)) (fun i H' => ∃ F', Gr Am F2 H2 F' H' ∧ F' D = none ∧ H' D = some (SetTO _ D (ns.map S))) ⟨F2, Gr.refl g2.fz, hF2, hD2⟩ (fun i H' _ ⟨F', G, _⟩ => G.fz.L (G.ff _ _ hu)) ?_ ?_
      · rintro j z H3 H4 hj ⟨F3, G3, hF3, hD3⟩ ⟨rfl, hz⟩
        obtain ⟨t, ht, rt⟩ := prd_get prs hz
        obtain ⟨ht1, ht2⟩ := okst t (List.mem_of_getElem? ht)
        refine ⟨rfl, _, rfl, getSN G3.fz (MonoR.up G3.ff rt) ht1 fun F4 H4 v4 g4 ⟨u4, zs, e, hu4, prn⟩ => ?_⟩
        subst e
        obtain ⟨hD4, hF4⟩ := g4.cell hS hD3 hF3
        refine ⟨u4, rfl, ⟨_, g4.fz.T hu4⟩, ?_⟩
        refine lvl_any (body := fun σ2 H2 Nx => tAddT _ _ _ _ σ2 H2 Nx) (walk_tup (xs := zs)) (fun i H' => H' = H4) rfl (fun i H' _ e => by rw [e]; exact g4.fz.T hu4) ?_ ?_
        · rintro m v H5 H6 hm rfl ⟨rfl, hv⟩
          obtain ⟨nm, hnm, rfl⟩ := prd_get prn hv
          refine ⟨rfl, _, rfl, S nm, rfl, ?_, hD4, rfl⟩
          obtain ⟨pp, hpp, rfl⟩ := List.mem_map.mp (List.mem_of_getElem? hnm)
          exact List.mem_map_of_mem (ht2 pp hpp)
        · rintro H5 rfl
          exact ⟨F4, G3.trans g4, hF4, hD4⟩
      · rintro H3 ⟨F3, G3, hF3, hD3⟩
        exact ⟨F3, (G1.trans g2).trans G3, hF3, hD3⟩
    · rintro H1 ⟨F1, G1, hF1, hD1⟩
      refine ⟨D, _, rfl, hD1, by simp; omega, fun ys u hys hyl hu => ?_⟩
      obtain ⟨zs, rfl⟩ : ∃ zs : List Tt, ys = zs.map S := by
        have : ∀ (ys : List Str), (∀ k ∈ ys, k ∈ ns.map S) → ∃ zs : List Tt, ys = zs.map S := by
          intro ys
          induction ys with
          | nil => intro _; exact ⟨[], rfl⟩
          | cons a r ih =>
            intro h
            obtain ⟨zs, rfl⟩ := ih fun k hk => h k (List.mem_cons_of_mem _ hk)
            obtain ⟨z, _, rfl⟩ := List.mem_map.mp (h a (List.mem_cons_self ..))
            exact ⟨z :: zs, rfl⟩
        exact this ys hys
      have G2 := G1.new (o := .lst ((zs.map S).map V.str)) hu
      refine ⟨u, _, rfl, .inl ⟨G2.fz.L upd_same, fun t ht => ?_⟩⟩
      have G3 := G2.new (o := .tup ((zs.map S).map V.str)) ht
      have em : (zs.map S).map V.str = zs.map fun x => V.str (S x) := by simp
      refine k _ _ _ G3 ⟨zs, ⟨t, _, rfl, upd_same, by rw [em]; exact paired_of⟩, fun y hy => ?_⟩
      obtain ⟨z, hz, e⟩ := List.mem_map.mp (hys (S y) (List.mem_map_of_mem hy))
      rw [← SX.S_inj e]; exact hz
abbrev sCheckRule : Stmt := top 66
abbrev nCheckRule : List Str := ["net", "value", "name"]
abbrev pCheckRule : List Str := ["net", "value"]
theorem scCheckRule : FnScope nCheckRule pCheckRule (defScope sCheckRule) := ⟨rfl, rfl, rfl, by decide +kernel, rfl, by decide +kernel, by decide +kernel⟩

theorem c_check_rule (D : Dn K mg "check_rule" sCheckRule pCheckRule) (T : Tx K mg cs) (p_Rule_meters : Prp P w K mg base 3 cs.rule "meters" (spRuleMeters cs)) (q_Net_contains : Own P w K mg base 3 cs.net "__contains__" (spNetContains cs)) : Cal P w K mg base 5 "check_rule" (spCheckRule cs) := by
  refine cal_of D scCheckRule (fun vs H Q E h => ?_) (fun f cdv A outer s H vs Q E hr h => ?_)
  · obtain ⟨_, _, _, _, _, _, _, rfl, _⟩ := h
    rfl
  · obtain ⟨Am, F, x, y, n, ls, l, rfl, Z, rn, rr, ok, hn, k⟩ := h
    have rr2 := rr
    obtain ⟨p, dx, a, b, rfl, hp, _, _⟩ := rr2
    refine ⟨_, (pss_cons (ps_if (pt_not (pt_val (pe_callB (id := "isinstance") (r := rIsi K) call_isi (by rfl) T.n_isinstance (by decide +kernel) (pa_cons (pv 1) (pa_cons (pe_gc T.cv_Rule) pa_nil))))) pss_never pss_nil)
      (pss_one (ps_forG PassesOwn.never rfl (pi_tup (pe_pr p_Rule_meters hr (by decide) (pv 1) rfl)) (pg_name (i := 2) scCheckRule.nd rfl (.inl rfl) (.inr rfl))
        (pss_one (ps_if (pt_cmpR (op_notin_own q_Net_contains hr (by decide)) (pv 2) (pv 0) (by rfl)) pss_never pss_nil))))), ?_⟩
    refine ⟨_, rfl, _, _, _, _, true, rfl, .own _, T.i_Rule.ty T.k_Rule (Z.sub _ _ hp), T.is_RR, _, rfl, iteF ?_⟩
    refine ⟨_, rfl, p, dx, _, rfl, Z.sub _ _ hp, Am, F, .ref p, ls, l, n.2.map (·.1), rfl, Z, rr, ok, by simp; omega, fun F1 H1 v g1 ⟨ys, ⟨u, xs, e, hu, prd⟩, hys⟩ => ?_⟩
    subst e
    refine ⟨u, rfl, ⟨_, g1.fz.T hu⟩, ?_⟩
    refine for_at walk_tup (fun i σ H' => ∃ F' m, σ = [some x, some (.ref p), m] ∧ Gr Am F1 H1 F' H') ⟨F1, _, rfl, Gr.refl g1.fz⟩ (fun i σ H' _ ⟨F', _, _, G⟩ => G.fz.T (G.ff _ _ hu)) ?_ ?_
    · rintro i z σ H2 hi ⟨F2, m, rfl, G2⟩
      obtain ⟨nm, hnm, rfl⟩ := prd_get prd hi
      have rn2 : rNet cs F2 x n := MonoR.up (g1.trans G2).ff rn
      have rn3 := rn2
      obtain ⟨pn, dn, na, nb, rfl, hpn, _, _⟩ := rn3
      refine ⟨_, rfl, _, rfl, pn, dn, _, rfl, G2.fz.sub _ _ hpn, Am, F2, .ref pn, n, nm, rfl, G2.fz, rn2, hn, fun F3 H3 v g3 e3 => ?_⟩
      subst e3
      refine ⟨_, rfl, _, rfl, ?_⟩
      rw [decide_eq_true (hys nm (List.mem_of_getElem? hnm))]
      exact iteF ⟨F3, _, rfl, G2.trans g3⟩
    · rintro σ H2 ⟨F2, m, rfl, G2⟩
      exact k _ _ _ (g1.trans G2) rfl
end
end Rv
end

section
set_option Elab.async false
set_option linter.all false
set_option maxRecDepth 100000
set_option maxHeartbeats 4000000
/-! RvZ: zip(a, b, strict=True) of two tuples of one length, walked in pairs. -/
namespace PySem
open Sem (wp)
namespace F
theorem typeCall_zip_strict (a b c : Value) : checkTypeCall "zip" ⟨[a, b], [(Str.ofString "strict", c)]⟩ = pure () := by kernel_rfl
theorem newCall_zip_strict (a b c : Value) : checkBuiltinCall "zip.__new__" ⟨[.type "zip", a, b], [(Str.ofString "strict", c)]⟩ = pure () := by kernel_rfl
theorem args_object_init_strict (obj a b c : Value) : argsOk "object.__init__" ⟨[obj, a, b], [(Str.ofString "strict", c)]⟩ := by unfold argsOk; kernel_rfl
end F
abbrev IsZipS (h : Heap) (z TI TO : Addr) (f0 : Value) : Prop :=
  h.get? z = some { cls := .type "zip", dict := none, data := .fields #[f0, .bool false, .bool true, .ref TI, .ref TO], slots := #[] }
abbrev zsT (h : Heap) (l1 l2 : Addr) : Heap := ((h.push { cls := .type "tuple_iterator", data := .fields #[.ref l1, .int 0 0] }).push { cls := .type "tuple_iterator", data := .fields #[.ref l2, .int 0 0] }).push { cls := .type "tuple", data := .seq #[.ref h.objs.size, .ref (h.push { cls := .type "tuple_iterator", data := .fields #[.ref l1, .int 0 0] }).objs.size] }
abbrev zsO (h : Heap) (l1 l2 : Addr) : Heap := (zsT h l1 l2).push { cls := .type "tuple", data := .seq #[.none, .none] }
abbrev zsZ (h : Heap) (l1 l2 : Addr) : Heap := (zsO h l1 l2).push { cls := .type "zip", data := .fields #[.none, .bool false, .bool true, .ref ((h.push { cls := .type "tuple_iterator", data := .fields #[.ref l1, .int 0 0] }).push { cls := .type "tuple_iterator", data := .fields #[.ref l2, .int 0 0] }).objs.size, .ref (zsT h l1 l2).objs.size] }
theorem meets_zip_strict (l1 l2 : Addr) (xs ys : Array Value) :
    Meets (Builtin.«zip.__new__» ⟨[.type "zip", .ref l1, .ref l2], [(Str.ofString "strict", .bool true)]⟩) (fun _ R s => s.heap.IsTuple l1 xs ∧ s.heap.IsTuple l2 ys ∧
      R (.ok (.ret (.ref (zsO s.heap l1 l2).objs.size))) { s with heap := zsZ s.heap l1 l2 }) :=
  .of_wp fun prog w A R s h => by
    obtain ⟨hp, g, d, tk, os⟩ := s; obtain ⟨hl1, hl2, h⟩ := h
    have hsub := sub_zip
    have e1 : (Str.ofString "strict" == ("strict" : Str)) = true := by decide +kernel
    have e2 : (Str.ofString "strict" != ("strict" : Str)) = false := by decide +kernel
    have hL1 : Heap.IsTuple (Shared.heap ⟨hp, g, d, tk, os⟩) l1 xs := hl1
    have hL2 : Heap.IsTuple (Shared.heap ⟨hp.push { cls := .type "tuple_iterator", data := .fields #[.ref l1, .int 0 0] }, g, d, tk, os⟩) l2 ys := Heap.IsTuple.push hl2 _
    wp_walk using wpAny_pyIter_tuple hL1, wpAny_pyIter_tuple hL2
    exact ⟨_, rfl, h⟩
section
variable {prog : Program} {w : World} {A : Around} {E : Value → Shared → Prop} {s : Shared}
theorem call_zip_strict {l1 l2 : Addr} {xs ys : Array Value} {Q : Value → Shared → Prop} (hl1 : s.heap.IsTuple l1 xs) (hl2 : s.heap.IsTuple l2 ys)
    (h : ∀ h', IsZipS h' (s.heap.objs.size + 4) (s.heap.objs.size + 2) (s.heap.objs.size + 3) .none → IsPair h' (s.heap.objs.size + 2) (.ref s.heap.objs.size) (.ref (s.heap.objs.size + 1)) →
      IsPair h' (s.heap.objs.size + 3) .none .none → h'.IsTupleIter s.heap.objs.size l1 0 → h'.IsTupleIter (s.heap.objs.size + 1) l2 0 → h'.objs.size = s.heap.objs.size + 5 →
      (∀ c o, s.heap.get? c = some o → h'.get? c = some o) → Q (.ref (s.heap.objs.size + 4)) { s with heap := h' }) :
    wpAny (model prog w) A (call (.type "zip") [.ref l1, .ref l2] [(Str.ofString "strict", .bool true)]) Q E s := by
  refine callType_newKw F.called_zip (by decide) (F.typeCall_zip_strict _ _ _) (F.newCall_zip_strict _ _ _) (fun obj => F.args_object_init_strict obj _ _ _) F.entry_zip_new
    (meets_zip_strict l1 l2 xs ys) ⟨hl1, hl2, ?_⟩
  let o1 : Obj := { cls := .type "tuple_iterator", data := .fields #[.ref l1, .int 0 0] }
  let o2 : Obj := { cls := .type "tuple_iterator", data := .fields #[.ref l2, .int 0 0] }
  have z1 : (s.heap.push o1).objs.size = s.heap.objs.size + 1 := by rw [Heap.size_push]
  have z2 : ((s.heap.push o1).push o2).objs.size = s.heap.objs.size + 2 := by rw [Heap.size_push, z1]
  have zT : (zsT s.heap l1 l2).objs.size = s.heap.objs.size + 3 := by rw [Heap.size_push, z2]
  have zO : (zsO s.heap l1 l2).objs.size = s.heap.objs.size + 4 := by rw [Heap.size_push, zT]
  have zZ : (zsZ s.heap l1 l2).objs.size = s.heap.objs.size + 5 := by rw [Heap.size_push, zO]
  have gZ : (zsZ s.heap l1 l2).get? (zsO s.heap l1 l2).objs.size = some { cls := .type "zip", data := .fields #[.none, .bool false, .bool true, .ref ((s.heap.push o1).push o2).objs.size, .ref (zsT s.heap l1 l2).objs.size] } := Heap.get?_push_size _ rfl
  have gO : (zsZ s.heap l1 l2).get? (zsT s.heap l1 l2).objs.size = some { cls := .type "tuple", data := .seq #[.none, .none] } := Heap.get?_push_of_some _ (Heap.get?_push_size _ rfl)
  have gT : (zsZ s.heap l1 l2).get? ((s.heap.push o1).push o2).objs.size = some { cls := .type "tuple", data := .seq #[.ref s.heap.objs.size, .ref (s.heap.push o1).objs.size] } := Heap.get?_push_of_some _ (Heap.get?_push_of_some _ (Heap.get?_push_size _ rfl))
  have g1 : (zsZ s.heap l1 l2).get? s.heap.objs.size = some o1 := Heap.get?_push_of_some _ (Heap.get?_push_of_some _ (Heap.get?_push_of_some _ (Heap.get?_push_of_some _ (Heap.get?_push_size _ rfl))))
  have g2 : (zsZ s.heap l1 l2).get? (s.heap.push o1).objs.size = some o2 := Heap.get?_push_of_some _ (Heap.get?_push_of_some _ (Heap.get?_push_of_some _ (Heap.get?_push_size _ rfl)))
  rw [zO, zT, z2] at gZ
  rw [zT] at gO
  rw [z2, z1] at gT
  rw [z1] at g2
  show _ ∧ _
  rw [zO]
  exact ⟨⟨_, gZ, rfl⟩, h _ gZ gT gO ⟨_, g1, rfl, rfl⟩ ⟨_, g2, rfl, rfl⟩ zZ fun c o e => Heap.get?_push_of_some _ (Heap.get?_push_of_some _ (Heap.get?_push_of_some _ (Heap.get?_push_of_some _ (Heap.get?_push_of_some _ e))))⟩
theorem nextOrEnd_item {it l : Addr} {i : Nat} {items : Array Value} {x : Value} {Q : Option Value → Shared → Prop} (hit : s.heap.IsTupleIter it l i) (hl : s.heap.IsTuple l items) (hx : items[i]? = some x)
    (hQ : ∀ h', h'.IsTupleIter it l (i + 1) → Heap.SameBut it s.heap h' → Q (some x) { s with heap := h' }) : wpAny (model prog w) A (Builtin.SmallTypes.nextOrEnd (.ref it)) Q E s := by
  unfold Builtin.SmallTypes.nextOrEnd
  exact wpAny_bind (wpAny_attempt (wpAny_nextOf_tuple_item hit hl hx fun h' h1 h2 => wpAny_pure (hQ h' h1 h2)))
theorem nextOrEnd_end {it l : Addr} {i : Nat} {items : Array Value} {Q : Option Value → Shared → Prop} (hh : A.handled = none) (hit : s.heap.IsTupleIter it l i) (hl : s.heap.IsTuple l items) (hx : items[i]? = none)
    (hQ : ∀ h', Heap.ExtBut it s.heap h' → Q none { s with heap := h' }) : wpAny (model prog w) A (Builtin.SmallTypes.nextOrEnd (.ref it)) Q E s := by
  unfold Builtin.SmallTypes.nextOrEnd
  refine wpAny_bind (wpAny_attempt (wpAny_nextOf_tuple_end hh hit hl hx fun h' e h1 h2 => ?_))
  obtain ⟨o, ho, hc⟩ := h2
  refine wpAny_bind (wpAny_isInstance (T := "StopIteration") (b := true) ⟨o, ho, hc⟩ isSubtype_stop ?_)
  exact wpAny_pure (hQ _ h1)
theorem zipS_next_item {z TI TO i1 i2 l1 l2 : Addr} {k1 k2 : Nat} {xs ys : Array Value} {x y a b : Value} {Q : Value → Shared → Prop} (D : ZipApart z TI TO i1 i2 l1 l2)
    (hz : IsZipS s.heap z TI TO .none) (hTI : IsPair s.heap TI (.ref i1) (.ref i2)) (hTO : IsPair s.heap TO a b)
    (h1 : s.heap.IsTupleIter i1 l1 k1) (h2 : s.heap.IsTupleIter i2 l2 k2) (hl1 : s.heap.IsTuple l1 xs) (hl2 : s.heap.IsTuple l2 ys) (hx : xs[k1]? = some x) (hy : ys[k2]? = some y)
    (hQ : ∀ h', IsZipS h' z TI TO (rawInt s.heap.objs.size) → IsPair h' TO x y → h'.IsTupleIter i1 l1 (k1 + 1) → h'.IsTupleIter i2 l2 (k2 + 1) → IsPair h' s.heap.objs.size x y → h'.objs.size = s.heap.objs.size + 1 →
      (∀ c o, c ≠ z → c ≠ TO → c ≠ i1 → c ≠ i2 → s.heap.get? c = some o → h'.get? c = some o) → Q (.ref s.heap.objs.size) { s with heap := h' }) :
    wpAny (model prog w) A (Builtin.«zip.__next__» ⟨[.ref z], []⟩) (fun fin s' => ∃ v, fin = .done (.ret v) ∧ Q v s') E s := by
  show wpAny _ _ (field (.ref z) 2 >>= _) _ _ _
  refine wpAny_bind (wpAny_field hz rfl (x := .bool true) rfl ?_)
  show wpAny _ _ (field (.ref z) 3 >>= _) _ _ _
  refine wpAny_bind (wpAny_field hz rfl (x := .ref TI) rfl ?_)
  refine wpAny_bind (wpAny_seqItems hTI rfl ?_)
  show wpAny _ _ (Builtin.SmallTypes.ownedTupleIsFree (.ref z) >>= _) _ _ _
  refine wpAny_bind ?_
  unfold Builtin.SmallTypes.ownedTupleIsFree
  refine wpAny_bind (wpAny_field hz rfl (x := .none) rfl (wpAny_pure ?_))
  simp only [if_true]
  refine wpAny_bind (wpAny_rule ?_)
  refine wpAny_bind (wpAny_field hz rfl (x := .ref TO) rfl ?_)
  refine wpAny_bind (wpAny_setField_rec hz (by simp) fun h₁ hz₁ hs₁ => ?_)
  replace hz₁ : IsZipS h₁ z TI TO .ellipsis := hz₁
  refine wpAny_bind ?_
  simp only [List.zipIdx_cons, List.zipIdx_nil, List.forIn_cons, List.forIn_nil]
  refine wpAny_bind (wpAny_bind (wpAny_onRaise ?_))
  show wpAny _ _ (Builtin.SmallTypes.nextOrEnd (.ref i1)) _ _ _
  refine nextOrEnd_item (h1.extBut hs₁.extBut D.i1z) (hl1.extBut hs₁.extBut D.l1z) hx fun h₂ h1₂ hs₂ => ?_
  have hTO₂ : IsPair h₂ TO a b := hs₂.extBut _ _ D.TOi1 (hs₁.extBut _ _ D.TOz hTO)
  refine wpAny_bind (wpAny_seqItems hTO₂ rfl ?_)
  refine wpAny_bind (wpAny_updateSeq_pair hTO₂ fun h₃ hTO₃ hs₃ => ?_)
  replace hTO₃ : IsPair h₃ TO x b := hTO₃
  refine wpAny_bind (wpAny_letGo (wpAny_pure ?_))
  refine wpAny_bind (wpAny_bind (wpAny_onRaise ?_))
  show wpAny _ _ (Builtin.SmallTypes.nextOrEnd (.ref i2)) _ _ _
  refine nextOrEnd_item (((h2.extBut hs₁.extBut D.i2z).extBut hs₂.extBut D.i12.symm).extBut hs₃.extBut D.TOi2.symm)
    (((hl2.extBut hs₁.extBut D.l2z).extBut hs₂.extBut D.l2i1).extBut hs₃.extBut D.l2TO) hy fun h₄ h2₄ hs₄ => ?_
  have hTO₄ : IsPair h₄ TO x b := hs₄.extBut _ _ D.TOi2 hTO₃
  refine wpAny_bind (wpAny_seqItems hTO₄ rfl ?_)
  refine wpAny_bind (wpAny_updateSeq_pair hTO₄ fun h₅ hTO₅ hs₅ => ?_)
  replace hTO₅ : IsPair h₅ TO x y := hTO₅
  refine wpAny_bind (wpAny_letGo (wpAny_pure (wpAny_pure ?_)))
  refine wpAny_bind (wpAny_seqItems hTO₅ rfl ?_)
  refine wpAny_bind (wpAny_newTuple ?_)
  have hsz : h₅.objs.size = s.heap.objs.size := by rw [hs₅.1, hs₄.1, hs₃.1, hs₂.1, hs₁.1]
  have hz₅ : IsZipS h₅ z TI TO .ellipsis := hs₅.extBut _ _ D.TOz.symm (hs₄.extBut _ _ D.i2z.symm (hs₃.extBut _ _ D.TOz.symm (hs₂.extBut _ _ D.i1z.symm hz₁)))
  have hk₅ : ∀ c o, c ≠ z → c ≠ TO → c ≠ i1 → c ≠ i2 → s.heap.get? c = some o → h₅.get? c = some o := fun c o c1 c2 c3 c4 e =>
    hs₅.extBut _ _ c2 (hs₄.extBut _ _ c4 (hs₃.extBut _ _ c2 (hs₂.extBut _ _ c3 (hs₁.extBut _ _ c1 e))))
  have h1₅ : h₅.IsTupleIter i1 l1 (k1 + 1) := ((h1₂.extBut hs₃.extBut D.TOi1.symm).extBut hs₄.extBut D.i12).extBut hs₅.extBut D.TOi1.symm
  have h2₅ : h₅.IsTupleIter i2 l2 (k2 + 1) := h2₄.extBut hs₅.extBut D.TOi2.symm
  have hzlt : z < h₅.objs.size := Heap.lt_size hz₅
  show wpAny _ _ (Builtin.SmallTypes.ownedTupleHandOut (.ref z) (.ref h₅.objs.size) >>= _) _ _ _
  refine wpAny_bind ?_
  unfold Builtin.SmallTypes.ownedTupleHandOut
  have hz₆ : IsZipS (h₅.push { cls := .type "tuple", data := .seq #[x, y] }) z TI TO .ellipsis := Heap.get?_push_of_some _ hz₅
  refine wpAny_bind (wpAny_setField_rec hz₆ (by simp) fun h₇ hz₇ hs₇ => ?_)
  replace hz₇ : IsZipS h₇ z TI TO (rawInt h₅.objs.size) := hz₇
  refine wpAny_setField_rec hz₇ (by simp) fun h₈ hz₈ hs₈ => ?_
  replace hz₈ : IsZipS h₈ z TI TO (rawInt h₅.objs.size) := hz₈
  have up : ∀ c o, c ≠ z → h₅.get? c = some o → h₈.get? c = some o := fun c o c1 e => hs₈.extBut _ _ c1 (hs₇.extBut _ _ c1 (Heap.get?_push_of_some _ e))
  have hT₈ : IsPair h₈ h₅.objs.size x y := hs₈.extBut _ _ (Nat.ne_of_gt hzlt) (hs₇.extBut _ _ (Nat.ne_of_gt hzlt) (Heap.get?_push_size _ rfl))
  have hz8 : h₈.objs.size = h₅.objs.size + 1 := by rw [hs₈.1, hs₇.1, Heap.size_push]
  rw [hsz] at hz₈ hT₈ hz8
  refine wpAny_pure ⟨_, rfl, ?_⟩
  show Q (.ref h₅.objs.size) _
  rw [hsz]
  exact hQ h₈ hz₈ (up _ _ D.TOz hTO₅) (h1₅.at fun o e => up _ o D.i1z e) (h2₅.at fun o e => up _ o D.i2z e) hT₈ hz8 fun c o c1 c2 c3 c4 e => up c o c1 (hk₅ c o c1 c2 c3 c4 e)
theorem zipS_next_end {z TI TO i1 i2 l1 l2 : Addr} {k1 k2 : Nat} {xs ys : Array Value} {a b : Value} {Q : Fin → Shared → Prop} (hh : A.handled = none) (D : ZipApart z TI TO i1 i2 l1 l2)
    (hz : IsZipS s.heap z TI TO .none) (hTI : IsPair s.heap TI (.ref i1) (.ref i2)) (hTO : IsPair s.heap TO a b)
    (h1 : s.heap.IsTupleIter i1 l1 k1) (h2 : s.heap.IsTupleIter i2 l2 k2) (hl1 : s.heap.IsTuple l1 xs) (hl2 : s.heap.IsTuple l2 ys) (hx : xs[k1]? = none) (hy : ys[k2]? = none)
    (hE : ∀ h' e, (∀ c o, c ≠ z → c ≠ TO → c ≠ i1 → c ≠ i2 → s.heap.get? c = some o → h'.get? c = some o) → (∃ o, h'.get? e = some o ∧ o.cls = .type "StopIteration") → E (.ref e) { s with heap := h' }) :
    wpAny (model prog w) A (Builtin.«zip.__next__» ⟨[.ref z], []⟩) Q E s := by
  show wpAny _ _ (field (.ref z) 2 >>= _) _ _ _
  refine wpAny_bind (wpAny_field hz rfl (x := .bool true) rfl ?_)
  show wpAny _ _ (field (.ref z) 3 >>= _) _ _ _
  refine wpAny_bind (wpAny_field hz rfl (x := .ref TI) rfl ?_)
  refine wpAny_bind (wpAny_seqItems hTI rfl ?_)
  show wpAny _ _ (Builtin.SmallTypes.ownedTupleIsFree (.ref z) >>= _) _ _ _
  refine wpAny_bind ?_
  unfold Builtin.SmallTypes.ownedTupleIsFree
  refine wpAny_bind (wpAny_field hz rfl (x := .none) rfl (wpAny_pure ?_))
  simp only [if_true]
  refine wpAny_bind (wpAny_rule ?_)
  refine wpAny_bind (wpAny_field hz rfl (x := .ref TO) rfl ?_)
  refine wpAny_bind (wpAny_setField_rec hz (by simp) fun h₁ hz₁ hs₁ => ?_)
  replace hz₁ : IsZipS h₁ z TI TO .ellipsis := hz₁
  refine wpAny_bind ?_
  simp only [List.zipIdx_cons, List.zipIdx_nil, List.forIn_cons, List.forIn_nil]
  refine wpAny_bind (wpAny_bind (wpAny_onRaise ?_))
  show wpAny _ _ (Builtin.SmallTypes.nextOrEnd (.ref i1)) _ _ _
  refine nextOrEnd_end hh (h1.extBut hs₁.extBut D.i1z) (hl1.extBut hs₁.extBut D.l1z) hx fun h₂ hs₂ => ?_
  have hz₂ : IsZipS h₂ z TI TO .ellipsis := hs₂ _ _ D.i1z.symm hz₁
  refine wpAny_bind (wpAny_setField_rec hz₂ (by simp) fun h₃ hz₃ hs₃ => ?_)
  have h2₃ : h₃.IsTupleIter i2 l2 k2 := ((h2.extBut hs₁.extBut D.i2z).extBut hs₂ D.i12.symm).extBut hs₃.extBut D.i2z
  have l2₃ : h₃.IsTuple l2 ys := ((hl2.extBut hs₁.extBut D.l2z).extBut hs₂ D.l2i1).extBut hs₃.extBut D.l2z
  refine wpAny_bind ?_
  show wpAny _ _ (do
    for (it, j) in (([Value.ref i1, Value.ref i2] : List Value).drop 1).zipIdx 1 do
      if (← Builtin.SmallTypes.nextOrEnd it).isSome then
        rule "zip.__next__.longer"; raiseError "ValueError" _
    rule "zip.__next__.all-ended"; Builtin.SmallTypes.stopIteration) _ _ _
  simp only [List.drop_succ_cons, List.drop_zero, List.zipIdx_cons, List.zipIdx_nil, List.forIn_cons, List.forIn_nil]
  refine wpAny_bind (wpAny_bind (wpAny_bind ?_))
  refine nextOrEnd_end hh h2₃ l2₃ hy fun h₄ hs₄ => ?_
  rw [if_neg (by simp)]
  refine wpAny_pure (wpAny_pure ?_)
  refine wpAny_bind (wpAny_rule ?_)
  show wpAny _ _ (newExc (.type "StopIteration") [] >>= _) _ _ _
  refine wpAny_bind ?_
  simp only [newExc, newTuple]
  refine wpAny_bind (wpAny_newObj_type ?_ (by size_fits))
  refine wpAny_bind (m := firstArgMember _ _) (wpAny_of_eq (a := Value.none) (by first | rfl | (simp only [firstArgMember]; rfl)) ?_)
  refine wpAny_newObj_type ?_ (by size_fits)
  simp only [raiseNew]
  refine wpAny_bind (wpAny_handled ?_)
  first | rw [show A.in1.handled = none from hh] | rw [hh]
  refine wpAny_bind (wpAny_pure (wpAny_throw ?_))
  exact hE _ _ (fun c o c1 _ c3 c4 x => Heap.get?_push_of_some _ (Heap.get?_push_of_some _ (hs₄ _ _ c4 (hs₃.extBut _ _ c1 (hs₂ _ _ c3 (hs₁.extBut _ _ c1 x)))))) ⟨_, Heap.get?_push_size _ rfl, rfl⟩
theorem pyNext_zipS_item {z TI TO i1 i2 l1 l2 : Addr} {k1 k2 : Nat} {xs ys : Array Value} {x y a b : Value} {Q : Option Value → Shared → Prop} (D : ZipApart z TI TO i1 i2 l1 l2)
    (hz : IsZipS s.heap z TI TO .none) (hTI : IsPair s.heap TI (.ref i1) (.ref i2)) (hTO : IsPair s.heap TO a b)
    (h1 : s.heap.IsTupleIter i1 l1 k1) (h2 : s.heap.IsTupleIter i2 l2 k2) (hl1 : s.heap.IsTuple l1 xs) (hl2 : s.heap.IsTuple l2 ys) (hx : xs[k1]? = some x) (hy : ys[k2]? = some y)
    (hQ : ∀ h', IsZipS h' z TI TO (rawInt s.heap.objs.size) → IsPair h' TO x y → h'.IsTupleIter i1 l1 (k1 + 1) → h'.IsTupleIter i2 l2 (k2 + 1) → IsPair h' s.heap.objs.size x y → h'.objs.size = s.heap.objs.size + 1 →
      (∀ c o, c ≠ z → c ≠ TO → c ≠ i1 → c ≠ i2 → s.heap.get? c = some o → h'.get? c = some o) → Q (some (.ref s.heap.objs.size)) { s with heap := h' }) :
    wpAny (model prog w) A (pyNext (.ref z)) Q E s := by
  have hT : s.TypeIs (.ref z) "zip" := ⟨_, hz, rfl⟩
  unfold pyNext
  exact wpAny_bind (wpAny_attempt (wpAny_callSpecial?_slot (name := Str.ofString "__next__") hT F.slot_zip_next
    (wpAny_call_entry F.slot_zip_next hT F.entry_zip_next
      (zipS_next_item D hz hTI hTO h1 h2 hl1 hl2 hx hy fun h' a1 a2 a3 a4 a5 a6 a7 => wpAny_pure (hQ h' a1 a2 a3 a4 a5 a6 a7)) (F.args_zip_next_1 _))))
theorem pyNext_zipS_end {z TI TO i1 i2 l1 l2 : Addr} {k1 k2 : Nat} {xs ys : Array Value} {a b : Value} {Q : Option Value → Shared → Prop} (hh : A.handled = none) (D : ZipApart z TI TO i1 i2 l1 l2)
    (hz : IsZipS s.heap z TI TO .none) (hTI : IsPair s.heap TI (.ref i1) (.ref i2)) (hTO : IsPair s.heap TO a b)
    (h1 : s.heap.IsTupleIter i1 l1 k1) (h2 : s.heap.IsTupleIter i2 l2 k2) (hl1 : s.heap.IsTuple l1 xs) (hl2 : s.heap.IsTuple l2 ys) (hx : xs[k1]? = none) (hy : ys[k2]? = none)
    (hQ : ∀ h', (∀ c o, c ≠ z → c ≠ TO → c ≠ i1 → c ≠ i2 → s.heap.get? c = some o → h'.get? c = some o) → Q none { s with heap := h' }) : wpAny (model prog w) A (pyNext (.ref z)) Q E s := by
  have hT : s.TypeIs (.ref z) "zip" := ⟨_, hz, rfl⟩
  unfold pyNext
  refine wpAny_bind (wpAny_attempt (wpAny_callSpecial?_slot (name := Str.ofString "__next__") hT F.slot_zip_next
    (wpAny_call_entry F.slot_zip_next hT F.entry_zip_next (zipS_next_end hh D hz hTI hTO h1 h2 hl1 hl2 hx hy fun h' e hk he => ?_) (F.args_zip_next_1 _))))
  obtain ⟨o, ho, hc⟩ := he
  refine wpAny_bind (wpAny_isInstance (T := "StopIteration") (b := true) ⟨o, ho, hc⟩ isSubtype_stop ?_)
  exact wpAny_pure (hQ _ hk)
theorem letOwned_zipS {elts : List Expr} {x1} {pos : Pos} {z TI TO T : Addr} {Q : Unit → Shared → Prop} (hz : IsZipS s.heap z TI TO (rawInt T))
    (hQ : ∀ h', IsZipS h' z TI TO .none → Heap.SameBut z s.heap h' → Q () { s with heap := h' }) :
    wpAny (model prog w) A (letOwnedTupleGo (.Tuple elts x1 pos) (.ref z) (.ref T)) Q E s := by
  unfold letOwnedTupleGo
  refine wpAny_bind (wpAny_load hz ?_)
  show wpAny _ _ (if (["enumerate", "zip", "dict_itemiterator", "dict_reverseitemiterator", "odict_iterator", "itertools.zip_longest", "itertools.pairwise"].contains "zip" &&
      (#[rawInt T, .bool false, .bool true, .ref TI, .ref TO] : Array Value)[0]? == some (rawInt T)) = true then _ else _) Q E s
  rw [if_pos (by simp)]
  refine wpAny_bind (wpAny_rule ?_)
  show wpAny _ _ (setField (.ref z) 0 .none) Q E s
  exact wpAny_setField_rec hz (by simp) fun h' hz' hs' => hQ h' hz' hs'
theorem pyIter_zipS {z TI TO : Addr} {f0 : Value} {Q : Value → Shared → Prop} (hz : IsZipS s.heap z TI TO f0) (h : Q (.ref z) s) : wpAny (model prog w) A (pyIter (.ref z)) Q E s := by
  have hT : s.TypeIs (.ref z) "zip" := ⟨_, hz, rfl⟩
  refine wpAny_pyIter_slot hT F.slot_zip_iter (wpAny_call_entry F.slot_zip_iter hT F.entry_zip_iter ?_ (F.args_zip_iter_1 _))
  show wpAny _ _ (ret (.ref z)) _ _ s
  exact wpAny_pure ⟨_, rfl, "zip", _, hT, F.slot_zip_next.lookup, h⟩
end
end PySem
namespace Rv
open PySem PySem.Spec PyProof.Rows L2
/-- two tuples of one length as they stand at each turn -/
def ItzS (K : PySem.W.Frag) (a b : Addr) : It :=
  ⟨fun i H => ∃ (xs ys : List V) (x y : V), SqT K H a xs ∧ SqT K H b ys ∧ xs[i]? = some x ∧ ys[i]? = some y,
    fun i H v H' => ∃ T x y, v = .ref T ∧ H T = none ∧ H' = upd H T (.tup [x, y]) ∧ (∀ xs, SqT K H a xs → xs[i]? = some x) ∧ ∀ ys, SqT K H b ys → ys[i]? = some y,
    fun i H => ∃ xs ys : List V, SqT K H a xs ∧ SqT K H b ys ∧ xs.length ≤ i ∧ ys.length ≤ i⟩
theorem turn_zipS {P : Program} {w : World} {K : PySem.W.Frag} {elts : List Expr} {kk : Nat} {tpos : Pos} {a b z TI TO i1 i2 : Addr} (D : ZipApart z TI TO i1 i2 a b) :
    Turn P w K (.Tuple elts kk tpos) (ItzS K a b) [z, TI, TO, i1, i2] z (fun i h => IsZipS h z TI TO .none ∧ IsPair h TI (.ref i1) (.ref i2) ∧ (∃ x y, IsPair h TO x y) ∧ h.IsTupleIter i1 a i ∧ h.IsTupleIter i2 b i) where
  mem := by simp
  obj := fun i h st c hc => by
    obtain ⟨hz, hTI, ⟨x, y, hTO⟩, ⟨o1, e1, _, d1⟩, ⟨o2, e2, _, d2⟩⟩ := st
    have e' : c = z ∨ c = TI ∨ c = TO ∨ c = i1 ∨ c = i2 := by simpa using hc
    rcases e' with q | q | q | q | q
    · rw [q]; exact ⟨_, hz, fun v q => nomatch q⟩
    · rw [q]; exact ⟨_, hTI, fun v q => nomatch q⟩
    · rw [q]; exact ⟨_, hTO, fun v q => nomatch q⟩
    · rw [q]; exact ⟨o1, e1, fun v q => by rw [d1] at q; cases q⟩
    · rw [q]; exact ⟨o2, e2, fun v q => by rw [d2] at q; cases q⟩
  keep := fun i h h' st k => by
    obtain ⟨hz, hTI, ⟨x, y, hTO⟩, h1, h2⟩ := st
    exact ⟨k z (by simp) _ hz, k TI (by simp) _ hTI, ⟨x, y, k TO (by simp) _ hTO⟩, h1.at fun o q => k i1 (by simp) o q, h2.at fun o q => k i2 (by simp) o q⟩
  item := by
    intro X hP hw hK hc i pins s σ H E I hf st hg
    subst hP hw hK
    obtain ⟨hz, hTI, ⟨x0, y0, hTO⟩, h1, h2⟩ := st
    obtain ⟨xs, ys, x, y, hqx, hqy, hx, hy⟩ := hg
    obtain ⟨its, rv, p, _⟩ := I.tuple hqx
    obtain ⟨its2, rv2, p2, _⟩ := I.tuple hqy
    obtain ⟨u, hu, ru⟩ := rv.get hx
    obtain ⟨u2, hu2, ru2⟩ := rv2.get hy
    have hzl : z < s.heap.objs.size := Heap.lt_size hz
    refine pyNext_zipS_item D hz hTI hTO h1 h2 p p2 (x := u) (y := u2) (by simpa using hu) (by simpa using hu2) fun h' z' TO' h1' h2' hT hsz hk => ?_
    refine ⟨_, rfl, letOwned_zipS (s := { s with heap := h' }) z' fun h'' z'' sb => ?_⟩
    have hT2 : h''.get? s.heap.objs.size = some { cls := .type "tuple", data := .seq #[u, u2] } := (sb.2 _ (Nat.ne_of_gt hzl)).trans hT
    have new : ObjOk X.prog X.w (upd H s.heap.objs.size (.tup [x, y])) h'' s.heap.objs.size (.tup [x, y]) :=
      ⟨by show 2 ≤ sizeLine; decide, [u, u2], .cons ru (.cons ru2 .nil), ⟨_, hT2, rfl, _, rfl⟩⟩
    have I1 : Inv X pins σ (upd H s.heap.objs.size (.tup [x, y])) { s with heap := h'' } :=
      I.turnedNew (t' := s.toks) (ch := [z, TI, TO, i1, i2]) (fun c o hb q => (sb.2 c (fun q' => hb (by simp [q']))).trans (hk c o (fun q' => hb (by simp [q'])) (fun q' => hb (by simp [q'])) (fun q' => hb (by simp [q'])) (fun q' => hb (by simp [q'])) q)) hf (Nat.le_refl _) new
    refine ⟨.ref s.heap.objs.size, _, I1, rfl, ⟨_, x, y, rfl, I.hok.fresh (Nat.le_refl _), rfl, fun l hl => by rw [I.tuple_inj hl hqx]; exact hx, fun l hl => by rw [I.tuple_inj hl hqy]; exact hy⟩, ⟨z'', ?_, ⟨u, u2, ?_⟩, ?_, ?_⟩, fun c hcm => ?_⟩
    · exact (sb.2 _ D.TIz).trans (hk _ _ D.TIz D.TITO D.TIi1 D.TIi2 hTI)
    · exact (sb.2 _ D.TOz).trans TO'
    · exact h1'.at fun o q => (sb.2 _ D.i1z).trans q
    · exact h2'.at fun o q => (sb.2 _ D.i2z).trans q
    · have hlt : c < s.heap.objs.size := by
        have e' : c = z ∨ c = TI ∨ c = TO ∨ c = i1 ∨ c = i2 := by simpa using hcm
        rcases e' with q | q | q | q | q
        · rw [q]; exact hzl
        · rw [q]; exact Heap.lt_size hTI
        · rw [q]; exact Heap.lt_size hTO
        · rw [q]; obtain ⟨_, e1, _⟩ := h1; exact Heap.lt_size e1
        · rw [q]; obtain ⟨_, e2, _⟩ := h2; exact Heap.lt_size e2
      rw [upd_ne (Nat.ne_of_lt hlt)]
      exact (hf c hcm).1
  done := by
    intro X hP hw hK hc i pins s σ H E I hf st hg
    subst hP hw hK
    obtain ⟨hz, hTI, ⟨x0, y0, hTO⟩, h1, h2⟩ := st
    obtain ⟨xs, ys, hqx, hqy, hend1, hend2⟩ := hg
    obtain ⟨its, rv, p, _⟩ := I.tuple hqx
    obtain ⟨its2, rv2, p2, _⟩ := I.tuple hqy
    have l1 := rv.length
    have l2 := rv2.length
    exact pyNext_zipS_end (I.ok.hd hc) D hz hTI hTO h1 h2 p p2 (by simp; omega) (by simp; omega) fun h' hk => ⟨rfl, I.turnedL (t' := s.toks) (ch := [z, TI, TO, i1, i2]) (fun c o hb q =>
      hk c o (fun q' => hb (by simp [q'])) (fun q' => hb (by simp [q'])) (fun q' => hb (by simp [q'])) (fun q' => hb (by simp [q'])) q) hf⟩
  self := fun A i s Q E st h => pyIter_zipS st.1 h
theorem walk_zipS {K : PySem.W.Frag} {a b : Addr} {xs ys : List V} (hl : xs.length = ys.length) : Walk (ItzS K a b) xs.length (fun H => SqT K H a xs ∧ SqT K H b ys) (YPair (fun i => xs[i]?) (fun i => ys[i]?)) := by
  refine ⟨fun i _ hi q => ⟨xs, ys, xs[i], ys[i]'(by omega), q.1, q.2, by simp [hi], by simp [show i < ys.length by omega]⟩, fun _ q => ⟨xs, ys, q.1, q.2, Nat.le_refl _, by omega⟩, fun i H v H' _ q y => ?_⟩
  obtain ⟨T, x, y, h1, h2, h3, h4, h5⟩ := y
  exact ⟨T, x, y, h1, h2, h3, h4 xs q.1, h5 ys q.2⟩
def iZipS (K : PySem.W.Frag) (ta tk : TA) : TI := fun σ H R => ta σ H fun vs H1 => tk σ H1 fun zs H2 => ∃ a b xs ys, vs = [.ref a, .ref b] ∧ zs = [.bl true] ∧ SqT K H2 a xs ∧ SqT K H2 b ys ∧ R (ItzS K a b) H2
theorem callWith_tykw {M : Model} {A : Around} {E : Value → Shared → Prop} {s : Shared} {env : Env} {pos : Pos} {T : String} {e : Expr} {rest : List Expr} {kws : List Keyword} {Q : Value → Shared → Prop}
    (h : wpAny M A (spliced (backTo pos (starEach (e :: rest) env))) (fun vs s₁ => wpAny M A (evalAll ((backToKw pos (keywordEach kws env)).map (·.2)))
      (fun kvs s₂ => wpAny M A (call (.type T) vs (((backToKw pos (keywordEach kws env)).filterMap (·.1)).zip kvs)) Q E s₂) E s₁) E s)
    (he : backTo pos (starEach (e :: rest) env) = (false, eval e env) :: backTo pos (starEach rest env) := by rfl)
    (hplain : (backTo pos (starEach (e :: rest) env)).any (·.1) = false := by rfl)
    (hall : (backToKw pos (keywordEach kws env)).all (·.1.isSome) = true := by rfl)
    (hkw : (backToKw pos (keywordEach kws env)).any (·.1.isNone) = false := by rfl) :
    wpAny M A (callWith pos (.type T) [] (backTo pos (starEach (e :: rest) env)) (backToKw pos (keywordEach kws env))) Q E s := by
  unfold callWith
  refine wpAny_bind (wpAny_holding (wpAny_mono (Q := fun a s₁ => wpAny M A (call (.type T) ([] ++ a.pos) a.kw) Q E s₁) ?_ (fun a s₁ h₁ => wpAny_bind (wpAny_standAt ?_)) fun _ _ x => x))
  · rw [he] at h ⊢
    exact evalArgs_kwB hall h
  · simp only [hplain, hkw, Bool.or_false]
    refine wpAny_bind (wpAny_pure ?_)
    exact wpAny_bind (wpAny_mono h₁ (fun r s₂ hr => wpAny_bind (wpAny_holding (wpAny_point (wpAny_pure hr)))) fun _ _ x => x)
end Rv
end

section
set_option Elab.async false
set_option linter.all false
set_option maxRecDepth 100000
set_option maxHeartbeats 4000000
/-! RvZD: for .. in zip(.., strict=True); dict(zip(l, t)), l a list, t a tuple. -/
namespace PySem
open Sem (wp)
section
variable {prog : Program} {w : World} {A : Around} {E : Value → Shared → Prop} {s : Shared}
/-- next of a zip of a list and a tuple, the pair that it gave before is still held -/
theorem zipM_held_item {z TI TO T i1 i2 l1 l2 : Addr} {f : Bool} {oT : Obj} {k1 k2 : Nat} {xs ys : Array Value} {x y : Value} {Q : Value → Shared → Prop} (D : ZipApart z TI TO i1 i2 l1 l2)
    (hz : IsZipHeld s.heap z TI TO T f) (hT : s.heap.get? T = some oT) (hTI : IsPair s.heap TI (.ref i1) (.ref i2))
    (h1 : s.heap.IsListIter i1 l1 k1) (h2 : s.heap.IsTupleIter i2 l2 k2) (hl1 : s.heap.IsList l1 xs) (hl2 : s.heap.IsTuple l2 ys) (hx : xs[k1]? = some x) (hy : ys[k2]? = some y)
    (hQ : ∀ h', IsZipHeld h' z TI TO T true → h'.IsListIter i1 l1 (k1 + 1) → h'.IsTupleIter i2 l2 (k2 + 1) → IsPair h' s.heap.objs.size x y → h'.objs.size = s.heap.objs.size + 1 →
      (∀ c o, c ≠ z → c ≠ i1 → c ≠ i2 → s.heap.get? c = some o → h'.get? c = some o) → Q (.ref s.heap.objs.size) { s with heap := h' }) :
    wpAny (model prog w) A (Builtin.«zip.__next__» ⟨[.ref z], []⟩) (fun fin s' => ∃ v, fin = .done (.ret v) ∧ Q v s') E s := by
  show wpAny _ _ (field (.ref z) 2 >>= _) _ _ _
  refine wpAny_bind (wpAny_field hz rfl (x := .bool false) rfl ?_)
  show wpAny _ _ (field (.ref z) 3 >>= _) _ _ _
  refine wpAny_bind (wpAny_field hz rfl (x := .ref TI) rfl ?_)
  refine wpAny_bind (wpAny_seqItems hTI rfl ?_)
  show wpAny _ _ (Builtin.SmallTypes.ownedTupleIsFree (.ref z) >>= _) _ _ _
  refine wpAny_bind (wpAny_tupleHeld_zip hz hT fun h₁ hz₁ hs₁ => ?_)
  simp only [Bool.false_eq_true, if_false]
  refine wpAny_bind ?_
  rw [← Array.forIn_toList]
  simp only [List.forIn_cons, List.forIn_nil]
  refine wpAny_bind (wpAny_bind (wpAny_holding ?_))
  show wpAny _ _ (Builtin.SmallTypes.nextOf (.ref i1) >>= _) _ _ _
  refine wpAny_bind (wpAny_nextOf_list_item (s := { s with heap := h₁ }) (h1.extBut hs₁.extBut D.i1z) (hl1.extBut hs₁.extBut D.l1z) hx fun h₂ h1₂ hs₂ => wpAny_pure ?_)
  refine wpAny_pure ?_
  refine wpAny_bind (wpAny_bind (wpAny_holding ?_))
  show wpAny _ _ (Builtin.SmallTypes.nextOf (.ref i2) >>= _) _ _ _
  refine wpAny_bind (wpAny_nextOf_tuple_item (s := { s with heap := h₂ }) ((h2.extBut hs₁.extBut D.i2z).extBut hs₂.extBut D.i12.symm) ((hl2.extBut hs₁.extBut D.l2z).extBut hs₂.extBut D.l2i1) hy fun h₃ h2₃ hs₃ => wpAny_pure ?_)
  refine wpAny_pure (wpAny_pure ?_)
  show wpAny _ _ (newTuple [x, y] >>= _) _ _ _
  refine wpAny_bind (wpAny_newTuple ?_)
  have hsz : h₃.objs.size = s.heap.objs.size := by rw [hs₃.1, hs₂.1, hs₁.1]
  have hz₃ : IsZipHeld h₃ z TI TO T true := hs₃.extBut _ _ D.i2z.symm (hs₂.extBut _ _ D.i1z.symm hz₁)
  have hk : ∀ c o, c ≠ z → c ≠ i1 → c ≠ i2 → s.heap.get? c = some o → h₃.get? c = some o := fun c o c1 c2 c3 e => hs₃.extBut _ _ c3 (hs₂.extBut _ _ c2 (hs₁.extBut _ _ c1 e))
  have h1₃ : h₃.IsListIter i1 l1 (k1 + 1) := h1₂.extBut hs₃.extBut D.i12
  refine wpAny_pure ⟨_, rfl, ?_⟩
  show Q (.ref h₃.objs.size) _
  have hp : IsPair (h₃.push { cls := .type "tuple", data := .seq #[x, y] }) h₃.objs.size x y := Heap.get?_push_size _ rfl
  have hz4 : (h₃.push { cls := .type "tuple", data := .seq #[x, y] }).objs.size = h₃.objs.size + 1 := Heap.size_push ..
  rw [hsz] at hp hz4 ⊢
  exact hQ _ (Heap.get?_push_of_some _ hz₃) (h1₃.at fun o e => Heap.get?_push_of_some _ e) (h2₃.at fun o e => Heap.get?_push_of_some _ e) hp hz4 fun c o c1 c2 c3 e => Heap.get?_push_of_some _ (hk c o c1 c2 c3 e)
theorem zipM_held_end {z TI TO T i1 i2 l1 l2 : Addr} {f : Bool} {oT : Obj} {k1 k2 : Nat} {xs ys : Array Value} {Q : Fin → Shared → Prop} (hh : A.handled = none) (D : ZipApart z TI TO i1 i2 l1 l2)
    (hz : IsZipHeld s.heap z TI TO T f) (hT : s.heap.get? T = some oT) (hTI : IsPair s.heap TI (.ref i1) (.ref i2))
    (h1 : s.heap.IsListIter i1 l1 k1) (hl1 : s.heap.IsList l1 xs) (hx : xs[k1]? = none)
    (hE : ∀ h' e, (∀ c o, c ≠ z → c ≠ i1 → c ≠ i2 → s.heap.get? c = some o → h'.get? c = some o) → (∃ o, h'.get? e = some o ∧ o.cls = .type "StopIteration") → E (.ref e) { s with heap := h' }) :
    wpAny (model prog w) A (Builtin.«zip.__next__» ⟨[.ref z], []⟩) Q E s := by
  show wpAny _ _ (field (.ref z) 2 >>= _) _ _ _
  refine wpAny_bind (wpAny_field hz rfl (x := .bool false) rfl ?_)
  show wpAny _ _ (field (.ref z) 3 >>= _) _ _ _
  refine wpAny_bind (wpAny_field hz rfl (x := .ref TI) rfl ?_)
  refine wpAny_bind (wpAny_seqItems hTI rfl ?_)
  show wpAny _ _ (Builtin.SmallTypes.ownedTupleIsFree (.ref z) >>= _) _ _ _
  refine wpAny_bind (wpAny_tupleHeld_zip hz hT fun h₁ hz₁ hs₁ => ?_)
  simp only [Bool.false_eq_true, if_false]
  refine wpAny_bind ?_
  rw [← Array.forIn_toList]
  simp only [List.forIn_cons, List.forIn_nil]
  refine wpAny_bind (wpAny_bind (wpAny_holding ?_))
  show wpAny _ _ (Builtin.SmallTypes.nextOf (.ref i1) >>= _) _ _ _
  refine wpAny_bind (wpAny_nextOf_list_end (s := { s with heap := h₁ }) hh (h1.extBut hs₁.extBut D.i1z) (hl1.extBut hs₁.extBut D.l1z) hx fun h₂ e hs₂ he => ?_)
  exact hE h₂ e (fun c o c1 c2 _ x => hs₂ _ _ c2 (hs₁.extBut _ _ c1 x)) he
theorem pyNext_zipM_held_item {z TI TO T i1 i2 l1 l2 : Addr} {f : Bool} {oT : Obj} {k1 k2 : Nat} {xs ys : Array Value} {x y : Value} {Q : Option Value → Shared → Prop} (D : ZipApart z TI TO i1 i2 l1 l2)
    (hz : IsZipHeld s.heap z TI TO T f) (hT : s.heap.get? T = some oT) (hTI : IsPair s.heap TI (.ref i1) (.ref i2))
    (h1 : s.heap.IsListIter i1 l1 k1) (h2 : s.heap.IsTupleIter i2 l2 k2) (hl1 : s.heap.IsList l1 xs) (hl2 : s.heap.IsTuple l2 ys) (hx : xs[k1]? = some x) (hy : ys[k2]? = some y)
    (hQ : ∀ h', IsZipHeld h' z TI TO T true → h'.IsListIter i1 l1 (k1 + 1) → h'.IsTupleIter i2 l2 (k2 + 1) → IsPair h' s.heap.objs.size x y → h'.objs.size = s.heap.objs.size + 1 →
      (∀ c o, c ≠ z → c ≠ i1 → c ≠ i2 → s.heap.get? c = some o → h'.get? c = some o) → Q (some (.ref s.heap.objs.size)) { s with heap := h' }) :
    wpAny (model prog w) A (pyNext (.ref z)) Q E s := by
  have hTy : s.TypeIs (.ref z) "zip" := ⟨_, hz, rfl⟩
  unfold pyNext
  exact wpAny_bind (wpAny_attempt (wpAny_callSpecial?_slot (name := Str.ofString "__next__") hTy F.slot_zip_next
    (wpAny_call_entry F.slot_zip_next hTy F.entry_zip_next
      (zipM_held_item D hz hT hTI h1 h2 hl1 hl2 hx hy fun h' a1 a3 a4 a5 a6 a7 => wpAny_pure (hQ h' a1 a3 a4 a5 a6 a7)) (F.args_zip_next_1 _))))
theorem pyNext_zipM_held_end {z TI TO T i1 i2 l1 l2 : Addr} {f : Bool} {oT : Obj} {k1 k2 : Nat} {xs ys : Array Value} {Q : Option Value → Shared → Prop} (hh : A.handled = none) (D : ZipApart z TI TO i1 i2 l1 l2)
    (hz : IsZipHeld s.heap z TI TO T f) (hT : s.heap.get? T = some oT) (hTI : IsPair s.heap TI (.ref i1) (.ref i2))
    (h1 : s.heap.IsListIter i1 l1 k1) (hl1 : s.heap.IsList l1 xs) (hx : xs[k1]? = none)
    (hQ : ∀ h', (∀ c o, c ≠ z → c ≠ i1 → c ≠ i2 → s.heap.get? c = some o → h'.get? c = some o) → Q none { s with heap := h' }) : wpAny (model prog w) A (pyNext (.ref z)) Q E s := by
  have hTy : s.TypeIs (.ref z) "zip" := ⟨_, hz, rfl⟩
  unfold pyNext
  refine wpAny_bind (wpAny_attempt (wpAny_callSpecial?_slot (name := Str.ofString "__next__") hTy F.slot_zip_next
    (wpAny_call_entry F.slot_zip_next hTy F.entry_zip_next (zipM_held_end (k2 := k2) (l2 := l2) (ys := ys) hh D hz hT hTI h1 hl1 hx fun h' e hk he => ?_) (F.args_zip_next_1 _))))
  obtain ⟨o, ho, hc⟩ := he
  refine wpAny_bind (wpAny_isInstance (T := "StopIteration") (b := true) ⟨o, ho, hc⟩ isSubtype_stop ?_)
  exact wpAny_pure (hQ _ hk)
end
/-- .. as what dict() takes; both are of one length -/
theorem pairArg_zipM {prog : Program} {w : World} (z TI TO i1 i2 l1 l2 : Addr) (D : ZipApart z TI TO i1 i2 l1 l2) (S : ZipSep2 z TI TO i1 i2 [i1, l1] [i2, l2]) (xs ys : Array Value) (hlen : xs.size = ys.size) :
    PairArg prog w "zip" z [z, TI, TO, i1, i2, l1, l2] [z, TO, i1, i2] xs.size (fun i k v => xs[i]? = some k ∧ ys[i]? = some v)
      (fun h => IsZip h z TI TO .none ∧ IsPair h TI (.ref i1) (.ref i2) ∧ (∃ a b, IsPair h TO a b) ∧ h.IsListIter i1 l1 0 ∧ h.IsTupleIter i2 l2 0 ∧ h.IsList l1 xs ∧ h.IsTuple l2 ys) where
  type := fun s ok => ⟨_, ok.1, rfl⟩
  notDict := by decide
  keep := fun h h' ok hk => by
    obtain ⟨hz, hTI, ⟨a, b, hTO⟩, h1, h2, hl1, hl2⟩ := ok
    exact ⟨hk _ _ hz, hk _ _ hTI, ⟨a, b, hk _ _ hTO⟩, h1.at fun o e => hk _ o e, h2.at fun o e => hk _ o e, hl1.at fun o e => hk _ o e, hl2.at fun o e => hk _ o e⟩
  there := fun h ok b hb => by
    obtain ⟨hz, hTI, ⟨a, c, hTO⟩, ⟨o1, h1, _⟩, ⟨o2, h2, _⟩, ⟨o3, hl1, _⟩, ⟨o4, hl2, _⟩⟩ := ok
    simp only [List.mem_cons, List.not_mem_nil, or_false] at hb
    rcases hb with rfl | rfl | rfl | rfl | rfl | rfl | rfl
    all_goals first | exact ⟨_, hz⟩ | exact ⟨_, hTI⟩ | exact ⟨_, hTO⟩ | exact ⟨_, h1⟩ | exact ⟨_, h2⟩ | exact ⟨_, hl1⟩ | exact ⟨_, hl2⟩
  sub := fun b hb => by simp at hb ⊢; rcases hb with rfl | rfl | rfl | rfl <;> simp
  noKeys := fun A s Q E hA ok h => getAttrOr_miss_zip ok.1 rfl rfl rfl zip_no_keys (by decide +kernel) hA h
  iter := fun A s d Q E hA ok hd hdf h => by
    obtain ⟨hz, hTI, ⟨a, b, hTO⟩, h1, h2, hl1, hl2⟩ := ok
    simp only [List.mem_cons, List.not_mem_nil, or_false, not_or] at hdf
    obtain ⟨dz, dTI, dTO, di1, di2, dl1, dl2⟩ := hdf
    have D1 := Draws.list (prog := prog) (w := w) (A := A.in1) hA i1 l1 D.l1i1 xs
    have D2 := Draws.tuple (prog := prog) (w := w) (A := A.in1) hA i2 l2 D.l2i2 ys
    refine wpAny_pyIter_zip hz (h z [z, TO, i1, i2] (fun i h => IsPair h TI (.ref i1) (.ref i2) ∧ h.IsListIter i1 l1 i ∧ h.IsTupleIter i2 l2 i ∧ h.IsList l1 xs ∧ h.IsTuple l2 ys ∧
      ((IsZip h z TI TO .none ∧ ∃ a b, IsPair h TO a b) ∨ ∃ T f oT, IsZipHeld h z TI TO T f ∧ h.get? T = some oT ∧ T ≠ z ∧ T ≠ i1 ∧ T ≠ i2 ∧ T ≠ d)) s.heap s.toks ?_
      ⟨hTI, h1, h2, hl1, hl2, .inl ⟨hz, a, b, hTO⟩⟩ (fun _ _ e => e) fun b hb => .inl hb)
    exact {
      off := fun hm => by
        simp only [List.mem_cons, List.not_mem_nil, or_false] at hm
        rcases hm with e | e | e | e
        · exact dz e
        · exact dTO e
        · exact di1 e
        · exact di2 e
      frame := fun i h₁ h₂ st hk => by
        obtain ⟨hTI, h1, h2, hl1, hl2, hz⟩ := st
        refine ⟨hk _ _ (Ne.symm dTI) hTI, h1.at fun o e => hk _ o (Ne.symm di1) e, h2.at fun o e => hk _ o (Ne.symm di2) e, hl1.at fun o e => hk _ o (Ne.symm dl1) e, hl2.at fun o e => hk _ o (Ne.symm dl2) e, ?_⟩
        rcases hz with ⟨hz, a, b, hTO⟩ | ⟨T, f, oT, hz, hT, r1, r2, r3, r4⟩
        · exact .inl ⟨hk _ _ (Ne.symm dz) hz, a, b, hk _ _ (Ne.symm dTO) hTO⟩
        · exact .inr ⟨T, f, oT, hk _ _ (Ne.symm dz) hz, hk _ _ r4 hT, r1, r2, r3, r4⟩
      item := fun i s₁ Q₁ E₁ hi st hds hQ => by
        obtain ⟨hTI, h1, h2, hl1, hl2, hz⟩ := st
        have hiy : i < ys.size := by omega
        have ex := Array.getElem?_eq_getElem hi
        have ey := Array.getElem?_eq_getElem hiy
        have lt : ∀ {c o}, s₁.heap.get? c = some o → s₁.heap.objs.size ≠ c := fun e => Nat.ne_of_gt (Heap.lt_size e)
        have n1 : s₁.heap.objs.size ≠ i1 := let ⟨_, e, _⟩ := h1; lt e
        have n2 : s₁.heap.objs.size ≠ i2 := let ⟨_, e, _⟩ := h2; lt e
        rcases hz with ⟨hz, a, b, hTO⟩ | ⟨T, f, oT, hz, hT, r1, r2, r3, r4⟩
        · refine wpAny_pyNext_zipD2_item S D1 D2 hz hTI hTO ⟨h1, hl1⟩ ⟨h2, hl2⟩ hi hiy fun x1 x2 h' tk q1 q2 a1 a2 a3 a4 a5 a6 hk => ?_
          exact hQ s₁.heap.objs.size _ _ h' tk ⟨q1, q2⟩ (.inl ⟨_, a5, rfl, _, rfl⟩)
            ⟨hk _ _ D.TIz D.TITO D.TIi1 D.TIi2 hTI, a3.1, a4.1, a3.2, a4.2,
              .inr ⟨s₁.heap.objs.size, false, _, a1, a5, lt hz, n1, n2, Nat.ne_of_gt hds⟩⟩
            fun c o hc e => hk c o (fun x => hc (by simp [x])) (fun x => hc (by simp [x])) (fun x => hc (by simp [x])) (fun x => hc (by simp [x])) e
        · refine pyNext_zipM_held_item D hz hT hTI h1 h2 hl1 hl2 ex ey fun h' a1 a3 a4 a5 a6 hk => ?_
          exact hQ s₁.heap.objs.size _ _ h' s₁.toks ⟨ex, ey⟩ (.inl ⟨_, a5, rfl, _, rfl⟩)
            ⟨hk _ _ D.TIz D.TIi1 D.TIi2 hTI, a3, a4, hl1.at fun o e => hk _ o D.l1z D.l1i1 D.l1i2 e, hl2.at fun o e => hk _ o D.l2z D.l2i1 D.l2i2 e,
              .inr ⟨T, true, oT, a1, hk _ _ r1 r2 r3 hT, r1, r2, r3, r4⟩⟩
            fun c o hc e => hk c o (fun x => hc (by simp [x])) (fun x => hc (by simp [x])) (fun x => hc (by simp [x])) e
      done := fun s₁ Q₁ E₁ st hQ => by
        obtain ⟨hTI, h1, h2, hl1, hl2, hz⟩ := st
        rcases hz with ⟨hz, a, b, hTO⟩ | ⟨T, f, oT, hz, hT, r1, r2, r3, r4⟩
        · exact wpAny_pyNext_zipD2_end S D1 D2 hz hTI hTO ⟨h1, hl1⟩ ⟨h2, hl2⟩ (Nat.le_refl _) (by omega) (.inl rfl) fun h' tk hk => hQ h' tk fun c o hc e => hk c o (fun x => hc (by simp [x])) (fun x => hc (by simp [x])) (fun x => hc (by simp [x])) (fun x => hc (by simp [x])) e
        · exact pyNext_zipM_held_end (k2 := 0) (l2 := l2) (ys := ys) hA D hz hT hTI h1 hl1 (by simp) fun h' hk => hQ h' s₁.toks fun c o hc e => hk c o (fun x => hc (by simp [x])) (fun x => hc (by simp [x])) (fun x => hc (by simp [x])) e }
end PySem
namespace Rv
open PySem PySem.Spec PyProof.Rows L2
theorem pi_zipS {X : Cx} {e e2 : Expr} {kws : List Keyword} {ta tk : TA} {p pos tpos : Pos} {elts : List Expr} {kk : Nat} (hg : Gl X "zip") (hm : X.mg "zip" = none) (ha : PA X [e, e2] ta) (hk : PK X kws tk)
    (he : backTo pos (starEach [e, e2] X.env) = (false, eval e X.env) :: backTo pos (starEach [e2] X.env) := by rfl) (hpl : (backTo pos (starEach [e, e2] X.env)).any (·.1) = false := by rfl)
    (hall : (backToKw pos (keywordEach kws X.env)).all (·.1.isSome) = true := by rfl) (hnone : (backToKw pos (keywordEach kws X.env)).any (·.1.isNone) = false := by rfl) (hks : (backToKw pos (keywordEach kws X.env)).filterMap (·.1) = [Str.ofString "strict"] := by rfl) :
    PI X (.Tuple elts kk tpos) (.Call (.Name "zip" p) [e, e2] kws pos) (iZipS X.K ta tk) := by
  refine ⟨fun pins s σ H R I h => ?_⟩
  refine wpAny_Call_Name_kw (ld_blt I hg hm PyProof.Rows.boot_zip ?_ (by decide) (by decide))
  refine callWith_tykw (thn (ha.run pos pins s σ H _ I h) fun us s1 ⟨vs, H1, I1, r1, q1⟩ => thn (hk.run pos pins s1 σ H1 _ I1 q1) fun ws s2 ⟨zs, H2, I2, r2, q2⟩ => ?_) he hpl hall hnone
  rw [hks]
  obtain ⟨a, b, xs, ys, ex, ez, hqx, hqy, q⟩ := q2
  subst ex ez
  cases r1 with
  | cons r rr =>
    cases rr with
    | cons r' rr =>
      cases rr
      cases r
      cases r'
      cases r2 with
      | cons rk rr2 =>
        cases rr2
        cases rk
        have fresh5 : ∀ c, c ∈ [s2.heap.objs.size + 4, s2.heap.objs.size + 2, s2.heap.objs.size + 3, s2.heap.objs.size, s2.heap.objs.size + 1] → FpOk X pins H2 c := fun c hcm => by
          have e' : c = s2.heap.objs.size + 4 ∨ c = s2.heap.objs.size + 2 ∨ c = s2.heap.objs.size + 3 ∨ c = s2.heap.objs.size ∨ c = s2.heap.objs.size + 1 := by simpa using hcm
          have hle : s2.heap.objs.size ≤ c := by
            rcases e' with z | z | z | z | z
            · rw [z]; exact Nat.le_add_right _ _
            · rw [z]; exact Nat.le_add_right _ _
            · rw [z]; exact Nat.le_add_right _ _
            · rw [z]; exact Nat.le_refl _
            · rw [z]; exact Nat.le_add_right _ _
          exact I2.fpOk hle (I2.hok.fresh hle)
        obtain ⟨its, rv, p1, _⟩ := I2.tuple hqx
        obtain ⟨its2, rv2, p2, _⟩ := I2.tuple hqy
        obtain ⟨o1, ho1, _⟩ := id p1
        obtain ⟨o2, ho2, _⟩ := id p2
        refine call_zip_strict (show s2.heap.IsTuple a its.toArray from p1) (show s2.heap.IsTuple b its2.toArray from p2) fun h' hz hTI hTO h1 h2 hsz hkp => pyIter_zipS hz ?_
        have I3 : Inv X pins σ H2 { s2 with heap := h' } := I2.kept (t' := s2.toks) hkp
        exact ⟨s2.heap.objs.size + 4, [s2.heap.objs.size + 4, s2.heap.objs.size + 2, s2.heap.objs.size + 3, s2.heap.objs.size, s2.heap.objs.size + 1], _, _, H2, rfl, I3, turn_zipS (PySem.W.ktu_apart s2.heap.objs.size a b (Heap.lt_size ho1) (Heap.lt_size ho2)), ⟨hz, hTI, ⟨_, _, hTO⟩, h1, h2⟩, fresh5, q⟩
/-- dict(zip(l, t)): the keys of a list, the values of a tuple -/
def tDictZip (K : PySem.W.Frag) (ta : TA) : TE := fun σ H Q => ta σ H fun vs H1 => ∃ (a b : Addr) (ks : List Key) (xs : List V), vs = [.ref a, .ref b] ∧ SqL K H1 a (ks.map kV) ∧ SqT K H1 b xs ∧ ks.length = xs.length ∧
  ∀ p, H1 p = none → Q (.ref p) (upd H1 p (.dK (mergeK [] (ks.zip xs))))
theorem kv_zip : ∀ {ks : List Key} {xs : List V} {us : List Value}, Vals xs us → KV (ks.zip xs) (ks.zip us)
  | [], _, _, _ => by simp only [List.zip_nil_left]; exact .nil
  | _ :: _, [], _, .nil => by simp only [List.zip_nil_right]; exact .nil
  | k :: ks, x :: xs, u :: us, .cons r rs => by
    simp only [List.zip_cons_cons]
    exact .cons ⟨rfl, r⟩ (kv_zip rs)
theorem pe_dictZip {X : Cx} {e e2 : Expr} {ta : TA} {p pos p2 pos2 : Pos} (hc : X.calm = true) (hg : Gl X "dict") (hm : X.mg "dict" = none) (hg2 : Gl X "zip") (hm2 : X.mg "zip" = none) (ha : PA X [e, e2] ta)
    (hs : starEach [e, e2] X.env = (false, eval e X.env) :: starEach [e2] X.env := by rfl) (hpl : (backTo pos2 (starEach [e2] X.env)).any (·.1) = false := by rfl)
    (na : starEach [.Call (.Name "zip" p2) [e, e2] [] pos2] X.env = (false, eval (.Call (.Name "zip" p2) [e, e2] [] pos2) X.env) :: starEach [] X.env := by rfl) :
    PE X (.Call (.Name "dict" p) [.Call (.Name "zip" p2) [e, e2] [] pos2] [] pos) (tDictZip X.K ta) := by
  refine ⟨fun pins s σ H Q I h => ?_⟩
  refine Call_ (ld_blt I hg hm PyProof.Rows.boot_dict (PyProof.Rows.callWith_type1 (args_cons ?_ na) na))
  refine Call_ (ld_blt I hg2 hm2 PyProof.Rows.boot_zip (PyProof.Rows.callWith_type1 (thn (ha.run pos2 pins s σ H _ I h) fun us s1 ⟨vs, H1, I1, r1, q1⟩ => ?_) hs hpl))
  obtain ⟨a, b, ks, xs, ex, hqx, hqy, hl, q⟩ := q1
  subst ex
  cases r1 with
  | cons r rr =>
    cases rr with
    | cons r' rr =>
      cases rr
      cases r
      cases r'
      obtain ⟨its, rv, pl, hz0⟩ := I1.list hqx
      obtain ⟨its2, rv2, pt, _⟩ := I1.tuple hqy
      have hal : a < s1.heap.objs.size := by obtain ⟨o, ho, _⟩ := pl.isList; exact Heap.lt_size ho
      have hbl : b < s1.heap.objs.size := by obtain ⟨o, ho, _⟩ := id pt; exact Heap.lt_size ho
      have l1 := rv.length
      have l2 := rv2.length
      rw [List.length_map] at l1
      refine zip_begins2 (begins_list a its.toArray) (begins_tuple b its2.toArray) pl.isList (show s1.heap.IsTuple b its2.toArray from pt) fun h' hz hTI hTO g1 g2 hsz hk => ?_
      have I2 : Inv X pins σ H1 { s1 with heap := h' } := I1.kept (t' := s1.toks) hk
      refine args_nil ?_
      have D := PySem.W.ktu_apart s1.heap.objs.size a b hal hbl
      have SS : ZipSep2 (s1.heap.objs.size + 4) (s1.heap.objs.size + 2) (s1.heap.objs.size + 3) s1.heap.objs.size (s1.heap.objs.size + 1) [s1.heap.objs.size, a] [s1.heap.objs.size + 1, b] := zip_sep2 (fp1 := [a]) (fp2 := [b]) (by simpa using hal) (by simpa using hbl)
      have P := pairArg_zipM (prog := X.prog) (w := X.w) _ _ _ _ _ a b D SS its.toArray its2.toArray (by simp; omega)
      refine _root_.PySem.call_dict_pairs (knd := mixKind X.prog X.w) (kvs := ks.zip its2) P (I.ok.hd hc) ⟨hz, hTI, ⟨_, _, hTO⟩, ⟨_, g1, rfl, rfl⟩, ⟨_, g2, rfl, rfl⟩, pl.isList.at fun o e => hk _ o e, Heap.IsTuple.at (show s1.heap.IsTuple b its2.toArray from pt) fun o e => hk _ o e⟩ ?_ ?_ ?_
      · refine ⟨by simp; omega, fun i key v ⟨e1, e2⟩ => ?_⟩
        have e1 : its[i]? = some key := by simpa using e1
        have e2 : its2[i]? = some v := by simpa using e2
        obtain ⟨kk, hkk, rk⟩ := prd_get2 rv e1
        rw [List.getElem?_map] at hkk
        obtain ⟨k0, hk0, rfl⟩ := Option.map_eq_some_iff.mp hkk
        exact ⟨k0, by rw [List.getElem?_zip_eq_some]; exact ⟨hk0, e2⟩, kV_is rk⟩
      · rw [List.size_toArray, ← l1]; rw [List.length_map] at hz0; exact hz0
      · intro h2 tk hd hk2
        have hle : s1.heap.objs.size ≤ h'.objs.size := by omega
        have hm0 : (h'.objs.size == sysModules) = false := beq_eq_false_iff_ne.mpr (Nat.ne_of_gt (Nat.lt_of_lt_of_le I1.big hle))
        have hz0' : ks.length ≤ sizeLine := by rw [List.length_map] at hz0; exact hz0
        have hlen : (mergeK [] (ks.zip xs)).length ≤ sizeLine := by
          refine Nat.le_trans (length_mergeK (ks.zip xs) []) ?_
          rw [List.length_nil, Nat.zero_add, List.length_zip]
          omega
        have kp : ∀ b u, s1.heap.get? b = some u → h2.get? b = some u := fun c u e => by
          have hlt := Heap.lt_size e
          refine hk2 c u ?_ (hk _ _ e)
          simp only [List.mem_cons, List.not_mem_nil, or_false, not_or]
          exact ⟨show c ≠ s1.heap.objs.size + 4 from Nat.ne_of_lt (Nat.lt_of_lt_of_le hlt (Nat.le_add_right _ _)), show c ≠ s1.heap.objs.size + 3 from Nat.ne_of_lt (Nat.lt_of_lt_of_le hlt (Nat.le_add_right _ _)), Nat.ne_of_lt hlt, show c ≠ s1.heap.objs.size + 1 from Nat.ne_of_lt (Nat.lt_of_lt_of_le hlt (Nat.le_add_right _ _))⟩
        exact ⟨.ref h'.objs.size, upd H1 h'.objs.size (.dK (mergeK [] (ks.zip xs))), I1.laid (t' := tk) kp hle (show ObjOk X.prog X.w _ _ _ (.dK (mergeK [] (ks.zip xs))) from ⟨hlen, hm0, merged [] (ks.zip its2), KV.merge (kv_zip rv2) .nil, hd⟩), rfl, q _ (I1.hok.fresh hle)⟩
end Rv
end

section
set_option Elab.async false
set_option autoImplicit false
set_option linter.all false
set_option maxRecDepth 100000
set_option maxHeartbeats 4000000
namespace Rv
open PySem L2 PyProof.Rows PySem.Spec
/-! ### the worth of a sum -/
def tb : List Tt → List (Option Int) → Tt → Option Int
  | m :: ns, v :: vs, n => if m = n then v else tb ns vs n
  | _, _, _ => none
def worth (f : Tt → Option Int) (t : Tm) : Option Int := if (t.any fun p => (f p.1).isNone) = true then none else some ((t.map fun p => p.2 * (f p.1).getD 0).sum)
def kvN : List Tt → List (Option Int) → List (Key × V)
  | n :: ns, v :: vs => (Sum.inr (S n), oV v) :: kvN ns vs
  | _, _ => []
theorem kvN_eq : ∀ {ns : List Tt} {vs : List (Option Int)}, (ns.map fun n => (Sum.inr (S n) : Key)).zip (vs.map oV) = kvN ns vs
  | [], _ => by simp [kvN]
  | _ :: _, [] => by simp [kvN]
  | n :: ns, v :: vs => by simp only [List.map_cons, List.zip_cons_cons, kvN]; rw [kvN_eq]
theorem kvN_none {ns : List Tt} {vs : List (Option Int)} {n : Tt} (h : n ∉ ns) : valV (kvN ns vs) (Sum.inr (S n) : Key) = none := by
  induction ns generalizing vs with
  | nil => rfl
  | cons m r ih =>
    cases vs with
    | nil => rfl
    | cons v vs =>
      show valV ((Sum.inr (S m), oV v) :: kvN r vs) _ = _
      rw [valV_neg (fun e => h (by rw [← SX.S_inj (Sum.inr.inj e)]; exact List.mem_cons_self ..))]
      exact ih fun hm => h (List.mem_cons_of_mem _ hm)
theorem kvN_get {ns : List Tt} {vs : List (Option Int)} {n : Tt} (hl : ns.length = vs.length) (h : n ∈ ns) : valV (kvN ns vs) (Sum.inr (S n) : Key) = some (oV (tb ns vs n)) := by
  induction ns generalizing vs with
  | nil => cases h
  | cons m r ih =>
    cases vs with
    | nil => simp at hl
    | cons v vs =>
      show valV ((Sum.inr (S m), oV v) :: kvN r vs) _ = some (oV (if m = n then v else tb r vs n))
      by_cases e : m = n
      · rw [if_pos e, valV_pos (by rw [e])]
      · rw [if_neg e, valV_neg (fun q => e (SX.S_inj (Sum.inr.inj q)))]
        exact ih (by simpa using hl) ((List.mem_cons.mp h).resolve_left fun q => e q.symm)
theorem valV_app {a b : List (Key × V)} {k : Key} (h : valV a k = none) : valV (a ++ b) k = valV b k := by
  induction a with
  | nil => rfl
  | cons p r ih =>
    by_cases e : p.1 = k
    · rw [valV_pos e] at h; cases h
    · rw [valV_neg e] at h
      rw [List.cons_append, valV_neg e]; exact ih h
theorem merge_new : ∀ {ns : List Tt} {vs : List (Option Int)} {acc : List (Key × V)}, ns.Nodup → (∀ n ∈ ns, valV acc (Sum.inr (S n) : Key) = none) → mergeK acc (kvN ns vs) = acc ++ kvN ns vs
  | [], _, acc, _, _ => by simp [kvN, mergeK]
  | _ :: _, [], acc, _, _ => by simp [kvN, mergeK]
  | n :: ns, v :: vs, acc, hd, hn => by
    obtain ⟨h1, h2⟩ := List.nodup_cons.mp hd
    show mergeK (putK acc (Sum.inr (S n)) (oV v)) (kvN ns vs) = _
    rw [putK_new _ (hn n (List.mem_cons_self ..)), merge_new h2 fun m hm => ?_]
    · rw [List.append_assoc]; rfl
    · rw [valV_app (hn m (List.mem_cons_of_mem _ hm))]
      rw [valV_neg (fun e => h1 (by rw [show n = m from SX.S_inj (Sum.inr.inj e)]; exact hm))]
      rfl
theorem merge_kvN {ns : List Tt} {vs : List (Option Int)} (hd : ns.Nodup) : mergeK [] (kvN ns vs) = kvN ns vs := by
  have := merge_new (vs := vs) (acc := []) hd fun n _ => rfl
  simpa using this
theorem inV_none : ∀ {l : List (Option Int)}, inV V.non (l.map oV) = l.any (·.isNone)
  | [] => rfl
  | none :: l => rfl
  | some i :: l => by
    show (eqV (.int i) .non || inV V.non (l.map oV)) = _
    rw [inV_none]; rfl
theorem flat_oV {l : List (Option Int)} : (l.map oV).all flatV = true := by
  rw [List.all_map, List.all_eq_true]
  intro o _
  cases o <;> rfl
abbrev spValueIn (cs : Cs) : Sp := fun vs H Q _ => ∃ (A : Amb) (F : Hp) (x y z : V) (n : NetD) (t : Tm) (rd : List (Option Int)), vs = [x, y, z] ∧ Fz A F H ∧ rNet cs F x n ∧ rSum cs F y t ∧ rTup rOI F z rd ∧ n.2.length ≤ 12 ∧ (n.2.map (·.1)).Nodup ∧ rd.length = n.2.length ∧ OkT t ∧ (∀ p ∈ t, p.1 ∈ n.2.map (·.1)) ∧
  Out A F H Q fun _ _ v => v = oV (worth (tb (n.2.map (·.1)) rd) t)
section
variable {P : Program} {w : World} {K : PySem.W.Frag} {mg : Str → Option Value} {base : Heap} {cs : Cs}
abbrev sValueIn : Stmt := top 57
abbrev nValueIn : List Str := ["net", "total", "readings", "shown", "name", "number", "meter"]
abbrev pValueIn : List Str := ["net", "total", "readings"]
theorem scValueIn : FnScope nValueIn pValueIn (defScope sValueIn) := ⟨rfl, rfl, rfl, by decide +kernel, rfl, by decide +kernel, by decide +kernel⟩

theorem c_value_in (D : Dn K mg "value_in" sValueIn pValueIn) (T : Tx K mg cs) (p_Net_meters : Prp P w K mg base 1 cs.net "meters" (spNetMeters cs)) (p_Meter_name : Prp P w K mg base 1 cs.meter "name" (spMeterGet cs (fun t => .str (S t.1)))) (p_Sum_names : Prp P w K mg base 1 cs.sum "names" (spSumNames cs)) (p_Sum_terms : Prp P w K mg base 1 cs.sum "terms" (spSumTerms cs)) : Cal P w K mg base 3 "value_in" (spValueIn cs) := by
  refine cal_of D scValueIn (fun vs H Q E h => ?_) (fun f cdv A outer s H vs Q E hr h => ?_)
  · obtain ⟨_, _, _, _, _, _, _, _, rfl, _⟩ := h
    rfl
  · obtain ⟨Am, F, x, y, z, n, t, rd, rfl, Z, rn, rt, ⟨pz, zs, rfl, hz, prz⟩, hn, hnd, hlen, ok, hin, k⟩ := h
    have ez := paired_C prz
    subst ez
    have ht := ok.ln
    refine ⟨_, (pss_cons (ps_set (i := 3) scValueIn.nd rfl (Or.inr rfl) (pe_dictZip rfl (by rfl) T.n_dict (by rfl) T.n_zip (pa_cons (pe_lcG (own := [("meter", 6)]) rfl scValueIn.nd (pi_tup (pe_pr p_Net_meters hr (by decide) (pv 0) rfl)) (blkOk_by (own := [("meter", 6)]) (N := nValueIn) (sc := defScope sValueIn) (by decide +kernel)) (fun _ _ _ _ _ => (pg_name (i := 6) scValueIn.nd rfl (.inl rfl) (.inr rfl))) (fun _ _ _ _ _ => pts_nil) (fun _ _ _ _ _ => (pe_pr p_Meter_name hr (by decide) (pv 6) rfl))) (pa_cons (pv 2) pa_nil))))
      (pss_cons (ps_if (pt_cmpR (r := rIn K false) op_in_seq pe_non (pe_lcG (own := [("name", 4)]) rfl scValueIn.nd (pi_tup (pe_pr p_Sum_names hr (by decide) (pv 1) rfl)) (blkOk_by (own := [("name", 4)]) (N := nValueIn) (sc := defScope sValueIn) (by decide +kernel)) (fun _ _ _ _ _ => (pg_name (i := 4) scValueIn.nd rfl (.inl rfl) (.inr rfl))) (fun _ _ _ _ _ => pts_nil) (fun _ _ _ _ _ => (pe_dget (hu_of hr) (pv 3) (pv 4) (fun _ _ => rfl)))) (by first | exact nomark _ | rfl)) (pss_one (ps_ret pe_non)) pss_nil)
      (pss_one (ps_ret (pe_callB (cr_sum rfl) (by rfl) T.n_sum (by decide +kernel) (pa_cons (pe_lcG (own := [("name", 4), ("number", 5)]) rfl scValueIn.nd (pi_tup (pe_pr p_Sum_terms hr (by decide) (pv 1) rfl)) (blkOk_by (own := [("name", 4), ("number", 5)]) (N := nValueIn) (sc := defScope sValueIn) (by decide +kernel)) (fun _ _ _ _ _ => (pg_tupK K 2 rfl rfl (pgs_cons (pg_name (i := 4) scValueIn.nd rfl (.inl rfl) (.inr rfl)) (pgs_cons (pg_name (i := 5) scValueIn.nd rfl (.inl rfl) (.inr rfl)) pgs_nil)))) (fun _ _ _ _ _ => pts_nil) (fun _ _ _ _ _ => (pe_op op_mul (pv 5) (pe_dget (hu_of hr) (pv 3) (pv 4) (fun _ _ => rfl))))) pa_nil)))))), ?_⟩
    refine ⟨_, rfl, getNM Z rn fun F1 H1 v1 g1 ⟨q, ms, e, hq, prm⟩ => ?_⟩
    subst e
    refine ⟨q, rfl, ⟨_, g1.fz.T hq⟩, ?_⟩
    refine lc_map (ra := rMeter cs) (r := rS) (·.1) walk_tup g1.fz prm (fun F' H' g => g.fz.T (g.ff _ _ hq)) (by omega) ?_ ?_
    · rintro i x d F2 H2 K1 hd G2 rdm hK
      exact ⟨rfl, _, rfl, getM (fun t => .str (S t.1)) G2.fz rdm fun F3 H3 g3 => hK F3 H3 _ g3 rfl⟩
    rintro F2 H2 u G2 ⟨_, us, e, hu, pru⟩
    cases e
    have eu := paired_C pru
    subst eu
    have hz2 := G2.ff _ _ (g1.ff _ _ hz)
    have ek : ((n.2.map (·.1)).map fun l => V.str (S l)) = ((n.2.map (·.1)).map fun l => (Sum.inr (S l) : Key)).map kV := by simp only [List.map_map]; rfl
    refine ⟨_, rfl, u, pz, (n.2.map (·.1)).map fun l => Sum.inr (S l), _, rfl, by rw [← ek]; exact G2.fz.L hu, G2.fz.T hz2, by simp; omega, fun d hd => ?_⟩
    rw [kvN_eq, merge_kvN hnd]
    have G3 := G2.new (o := .dK (kvN (n.2.map (·.1)) rd)) hd
    have hd3 : upd F2 d (.dK (kvN (n.2.map (·.1)) rd)) d = some (.dK (kvN (n.2.map (·.1)) rd)) := upd_same
    have hll : (n.2.map (·.1)).length = rd.length := by simp; omega
    have rt3 := MonoR.up (r := rSum cs) (g1.trans G3).ff rt
    have get : ∀ {F' H' : Hp} {nm : Tt}, Gr Am _ (upd H2 d (.dK (kvN (n.2.map (·.1)) rd))) F' H' → nm ∈ n.2.map (·.1) → DGet H' d (.str (S nm)) (some (oV (tb (n.2.map (·.1)) rd nm))) := fun {F' H' nm} g hnm => by
      have q := DGet.k (k := Sum.inr (S nm)) (g.fz.sub _ _ (g.ff _ _ hd3))
      rw [kvN_get hll hnm] at q
      exact q
    refine ⟨_, rfl, getSN G3.fz rt3 ht fun F4 H4 v4 g4 ⟨u4, ws, e, hu4, prn⟩ => ?_⟩
    subst e
    refine ⟨u4, rfl, ⟨_, g4.fz.T hu4⟩, ?_⟩
    refine lc_map (ra := rS) (r := rOI) (fun nm => tb (n.2.map (·.1)) rd nm) walk_tup g4.fz prn (fun F' H' g => g.fz.T (g.ff _ _ hu4)) (by simp; omega) ?_ ?_
    · rintro i x nm F5 H5 K1 hnm G5 rfl hK
      obtain ⟨pp, hpp, rfl⟩ := List.mem_map.mp (List.mem_of_getElem? hnm)
      exact ⟨rfl, _, rfl, _, rfl, d, _, rfl, get (g4.trans G5) (hin pp hpp), hK F5 H5 _ (Gr.refl G5.fz) rfl⟩
    rintro F5 H5 u5 G5 ⟨_, vs5, e, hu5, pr5⟩
    cases e
    have e5 := paired_C pr5
    subst e5
    refine ⟨u5, _, rfl, .inl (G5.fz.L hu5), rfl, flat_oV, _, rfl, ?_⟩
    have hi : inV V.non (((t.map (·.1)).map fun nm => tb (n.2.map (·.1)) rd nm).map oV) = t.any fun p => (tb (n.2.map (·.1)) rd p.1).isNone := by
      rw [inV_none, List.map_map, List.any_map]; rfl
    simp only [hi, Bool.false_eq_true, if_false]
    have GG := (g1.trans G3).trans (g4.trans G5)
    by_cases c : (t.any fun p => (tb (n.2.map (·.1)) rd p.1).isNone) = true
    · rw [c]
      refine iteT (k _ _ _ GG ?_)
      unfold worth
      rw [if_pos c]; rfl
    · rw [Bool.eq_false_iff.mpr c]
      have cn : ∀ p ∈ t, ∃ i, tb (n.2.map (·.1)) rd p.1 = some i := fun p hp => by
        cases e : tb (n.2.map (·.1)) rd p.1 with
        | some i => exact ⟨i, rfl⟩
        | none => exact absurd (List.any_eq_true.mpr ⟨p, hp, by rw [e]; rfl⟩) c
      refine iteF ⟨_, rfl, getST G5.fz (MonoR.up (g4.trans G5).ff rt3) fun F6 H6 v6 g6 ⟨u6, ps, e, hu6, prp⟩ => ?_⟩
      subst e
      refine ⟨u6, rfl, ⟨_, g6.fz.T hu6⟩, ?_⟩
      refine lc_map (ra := rPair) (r := rInt) (fun p => p.2 * (tb (n.2.map (·.1)) rd p.1).getD 0) walk_tup g6.fz prp (fun F' H' g => g.fz.T (g.ff _ _ hu6)) (by omega) ?_ ?_
      · rintro i x p F7 H7 K1 hp G7 ⟨a, a1, a2, rfl, ha, rfl, rfl⟩ hK
        have hpm := List.mem_of_getElem? hp
        obtain ⟨vi, hvi⟩ := cn p hpm
        have gq := get ((g4.trans G5).trans (g6.trans G7)) (hin p hpm)
        rw [hvi] at gq
        refine ⟨a, _, rfl, G7.fz.T ha, rfl, _, _, rfl, _, _, rfl, rfl, rfl, _, rfl, _, rfl, _, rfl, d, _, rfl, gq, _, _, rfl, rfl, ?_, ?_⟩
        · have hb := (ok.ok p hpm).bd
          exact .inl ⟨by have : (2 : Int) ^ 64 = 18446744073709551616 := by decide
                         omega, by have : (2 : Int) ^ 64 = 18446744073709551616 := by decide
                                   omega⟩
        · exact hK F7 H7 _ (Gr.refl G7.fz) (by rw [hvi]; rfl)
      rintro F7 H7 u7 G7 ⟨_, vs7, e, hu7, pr7⟩
      cases e
      have e7 := paired_C pr7
      subst e7
      refine ⟨u7, _, rfl, G7.fz.L hu7, ?_⟩
      refine k _ _ _ ((GG.trans g6).trans G7) ?_
      unfold worth
      rw [if_neg c]; rfl
end
end Rv
end

section
set_option Elab.async false
set_option autoImplicit false
set_option linter.all false
set_option maxRecDepth 100000
set_option maxHeartbeats 4000000
/-! RvAsk: a def within a def, handed on to other defs that call it. -/
namespace Rv
open PySem PySem.Spec PyProof.Rows L2 LamX NdefX
/-! ### the statement -/
section
variable {X : Cx} {pins : List (Addr × Obj)} {σ : L2.St} {H : Hp} {s : Shared}
theorem ndef_makeP {c P : Addr} {ps : Array Value} {name : Str} {params : Arguments} {body : List Stmt} {scope : Scope} {pos : Pos} {E : Value → Shared → Prop} {Q : Value → Shared → Prop} (I : Inv X pins σ H s) (TB : TabB X.base X.mg c P) (hcode : X.env.code = .ref c)
    (hP : H P = some (.tbl ps)) (ht : TriplesOk ps.toList) (ha : ∀ cv, codeAmong pos ps.toList = some cv → ∃ c', cv = .ref c' ∧ H c' = some (CodeO c' (X.env.qual ++ name))) (hfree : ∀ y ∈ scope.names, y.2 = .free → ∃ c, X.env.cells.lookup y.1 = some c)
    (h1 : ∀ (f c' : Addr) (s' : Shared), H f = none → codeAmong pos ps.toList = some (.ref c') → Inv X pins σ (upd H f (FnO f ⟨name, X.env.qual ++ name, params, body, scope, cloFrom X.env.cells scope.names [], c'⟩)) s' → Q (.ref f) s')
    (h2 : ∀ (f c' : Addr) (s' : Shared), H c' = none → (upd (upd H P (.tbl (ps ++ #[rawInt pos.line, rawInt pos.col, .ref c']))) c' (CodeO c' (X.env.qual ++ name))) f = none →
      Inv X pins σ (upd (upd (upd H P (.tbl (ps ++ #[rawInt pos.line, rawInt pos.col, .ref c']))) c' (CodeO c' (X.env.qual ++ name))) f (FnO f ⟨name, X.env.qual ++ name, params, body, scope, cloFrom X.env.cells scope.names [], c'⟩)) s' → Q (.ref f) s') :
    wpAny (model X.prog X.w) X.A (makeFunction name (X.env.qual ++ name) params (.stmts body) scope X.env [] [] [] pos pos.line) Q E s := by
  have bP : s.heap.BuiltinsAt X.mg P := TB.bm.keeps I.bk
  have hP' : s.heap.get? P = some { cls := .none, data := .fields ps } := I.hok P _ hP
  cases hc : codeAmong pos ps.toList with
  | none =>
    refine PySem.W.makeFunction_K (mg := X.mg) (c := c) (P := P) (ps := ps) (closure_ok hfree) I.ok.glob (I.mod.glob.keeps I.bk) hcode (TB.code.keeps I.bk) hP' ht hc TB.gP bP fun c' ctv doc h' tk hx hge hlt hrec htb => ?_
    obtain ⟨c2, oc, vs, t, e2, hoc, hd, hv⟩ := hrec
    cases e2
    have nC : H c' = none := I.hok.fresh hge
    have I1 := inv_table (t' := tk) (more := #[rawInt pos.line, rawInt pos.col, .ref c']) (h' := h') I hP (fun b o hb e => hx b o hb e) htb hge ⟨oc, vs, t, hoc, hd, hv⟩
    have nF := I1.hok.fresh (Nat.le_refl _)
    have I2 := inv_fn (F := ⟨name, X.env.qual ++ name, params, body, scope, cloFrom X.env.cells scope.names [], c'⟩) (t' := tk) (doc := doc) (pm := (X.mg "__name__").getD .none) (ctv := ctv) I1 rfl
    exact h2 h'.objs.size c' _ nC nF I2
  | some cv =>
    obtain ⟨c', e, hco⟩ := ha cv hc
    subst e
    refine PySem.W.makeFunction_hit (mg := X.mg) (c := c) (P := P) (ps := ps) (closure_ok hfree) I.ok.glob (I.mod.glob.keeps I.bk) hcode (TB.code.keeps I.bk) hP' ht hc bP fun ctv doc h' tk hx hsz => ?_
    have I1 : Inv X pins σ H { s with heap := h', toks := tk } := I.kept hx
    have nF : H h'.objs.size = none := I1.hok.fresh (Nat.le_refl _)
    have I2 := inv_fn (F := ⟨name, X.env.qual ++ name, params, body, scope, cloFrom X.env.cells scope.names [], c'⟩) (t' := tk) (doc := doc) (pm := (X.mg "__name__").getD .none) (ctv := ctv) I1 rfl
    exact h1 h'.objs.size c' _ nF hc I2
end
/-- the slot i holds the new function; P: the table of code objects, all of the name q -/
def tNdefP (P : Addr) (q : Str) (i : Nat) (mk : Addr → NF) : TS := fun D σ H => ∃ ps : Array Value, H P = some (.tbl ps) ∧ TriplesOk ps.toList ∧ (∀ (pos : Pos) (cv : Value), codeAmong pos ps.toList = some cv → ∃ c', cv = .ref c' ∧ H c' = some (CodeO c' q)) ∧
  (∀ (f c' : Addr) (pos : Pos), H f = none → codeAmong pos ps.toList = some (.ref c') → D.nx (σ.set i (some (.ref f))) (upd H f (FnO f (mk c')))) ∧
  ∀ (f c' : Addr) (pos : Pos), H c' = none → (upd (upd H P (.tbl (ps ++ #[rawInt pos.line, rawInt pos.col, .ref c']))) c' (CodeO c' q)) f = none → D.nx (σ.set i (some (.ref f))) (upd (upd (upd H P (.tbl (ps ++ #[rawInt pos.line, rawInt pos.col, .ref c']))) c' (CodeO c' q)) f (FnO f (mk c')))
section
variable {X : Cx}
theorem ps_ndefP {st : Stmt} {c P : Addr} {name q : Str} {pos : Pos} {i : Nat} (hst : st = .FunctionDef name (C8.fnArgs st) (C8.fnBody st) [] none [] (C8.fnScope st) none name pos) (TB : TabB X.base X.mg c P) (hcode : X.env.code = .ref c) (hn : q = X.env.qual ++ name)
    (hfree : ∀ y ∈ (C8.fnScope st).names, y.2 = .free → X.env.scope.names.lookup y.1 = some .cell ∨ X.env.scope.names.lookup y.1 = some .free) (hd0 : (C8.fnArgs st).defaults = []) (hk0 : (C8.fnArgs st).kw_defaults = []) (ha : annTrees (C8.fnArgs st) none X.env = [])
    (hN : X.N.Nodup) (hi : X.N[i]? = some name) (hx : Loc X.env.scope name) (hf : X.fn name = true ∨ X.env.scope.names.lookup name = some .local) :
    PS X st (tNdefP P q i (NF.of st name q (cloFrom X.env.cells (C8.fnScope st).names []))) := by
  subst hn
  have key : PS X (.FunctionDef name (C8.fnArgs st) (C8.fnBody st) [] none [] (C8.fnScope st) none name pos) (tNdefP P (X.env.qual ++ name) i (NF.of st name (X.env.qual ++ name) (cloFrom X.env.cells (C8.fnScope st).names []))) := by
    refine ⟨fun pins s σ H D I h => ?_⟩
    obtain ⟨ps, hP, ht, hco, h1, h2⟩ := h
    have hq : qualnameIn X.env name name = X.env.qual ++ name := by
      have hk : X.env.kindOf name = some .local ∨ X.env.kindOf name = some .cell := hx
      unfold qualnameIn
      rcases hk with k | k <;> rw [k] <;> first | rfl | exact if_neg (by decide)
    refine PySem.W.nestDef_K hd0 hk0 ha ?_
    rw [hq]
    have hfr : ∀ y ∈ (C8.fnScope st).names, y.2 = .free → ∃ c, X.env.cells.lookup y.1 = some c := fun y hy e => (hfree y hy e).elim (fun z => I.ok.has _ (.inl z)) fun z => I.ok.has _ (.inr z)
    refine ndef_makeP I TB hcode hP ht (fun cv => hco pos cv) hfr (fun f c' s' f0 c0 I1 => ?_) fun f c' s' c0 f0 I1 => ?_
    · exact store_ok I1 hN hi hx (v := .ref f) rfl (fun s'' J => ⟨_, _, J, h1 f c' pos f0 c0⟩) hf
    · exact store_ok I1 hN hi hx (v := .ref f) rfl (fun s'' J => ⟨_, _, J, h2 f c' pos c0 f0⟩) hf
  rw [← hst] at key
  exact key
end
/-! ### the table as an ambient cell -/
def TabC (F : Hp) (q : Str) (ps : Array Value) : Prop := TriplesOk ps.toList ∧ ∀ (pos : Pos) (cv : Value), codeAmong pos ps.toList = some cv → ∃ c', cv = .ref c' ∧ F c' = some (CodeO c' q)
theorem TabC.up {F F' : Hp} {q : Str} {ps : Array Value} (e : Same F F') (t : TabC F q ps) : TabC F' q ps := ⟨t.1, fun pos cv h => let ⟨c, a, b⟩ := t.2 pos cv h; ⟨c, a, e _ _ b⟩⟩
structure TabA (A : Amb) (P : Addr) (q : Str) : Prop where
  inS : A.S P
  is : ∀ F H, A.ok F H → ∃ ps, H P = some (.tbl ps) ∧ TabC F q ps
  put : ∀ F H ps, A.ok F H → TabC F q ps → A.ok F (upd H P (.tbl ps))
theorem Gr.tab {A : Amb} {F0 H0 F H : Hp} {P : Addr} {q : Str} {ps : Array Value} (G : Gr A F0 H0 F H) (S : TabA A P q) (t : TabC F q ps) : Gr A F0 H0 F (upd H P (.tbl ps)) := by
  have hf := G.fz.out P S.inS
  refine ⟨G.ff, ⟨fun b u e => by rw [upd_ne (ne_of_none e hf)]; exact G.fz.sub b u e, S.put F H ps G.fz.ok t, G.fz.out⟩, fun a u ha e => ?_, fun a e => upd_some (G.hk a e), G.nf, G.ok0⟩
  rw [upd_ne fun z => ha (by rw [z]; exact S.inS)]
  exact G.hh a u ha e
theorem ndef_ok {A : Amb} {F H : Hp} {P : Addr} {q : Str} {i : Nat} {mk : Addr → NF} {D : Ends} {σ : L2.St} (Z : Fz A F H) (S : TabA A P q)
    (k : ∀ (f c' : Addr) (F' H' : Hp), Gr A F H F' H' → F' f = some (FnO f (mk c')) → F' c' = some (CodeO c' q) → D.nx (σ.set i (some (.ref f))) H') : tNdefP P q i mk D σ H := by
  obtain ⟨ps, hP, t1, t2⟩ := S.is F H Z.ok
  refine ⟨ps, hP, t1, fun pos cv h => let ⟨c, a, b⟩ := t2 pos cv h; ⟨c, a, Z.sub _ _ b⟩, fun f c' pos hf hc => ?_, fun f c' pos hc hf => ?_⟩
  · obtain ⟨c2, e, hF⟩ := t2 pos _ hc
    cases e
    have G := (Gr.refl Z).new (o := FnO f (mk c')) hf
    exact k f c' _ _ G upd_same (G.ff _ _ hF)
  · have nPc : P ≠ c' := ne_of_none hP hc
    rw [upd_swap nPc] at hf ⊢
    have G1 := (Gr.refl Z).new (o := CodeO c' q) hc
    have eL : (ps ++ #[rawInt pos.line, rawInt pos.col, .ref c']).toList = ps.toList ++ [rawInt pos.line, rawInt pos.col, .ref c'] := by simp
    have T1 : TabC (upd F c' (CodeO c' q)) q (ps ++ #[rawInt pos.line, rawInt pos.col, .ref c']) := by
      refine ⟨by rw [eL]; exact PySem.TriplesOk_snoc _ _ _ _ t1, fun p' cv hcv => ?_⟩
      rw [eL] at hcv
      rcases among_app2 _ t1 hcv with z | ⟨z, _, _⟩
      · obtain ⟨c0, e1, e2⟩ := t2 p' cv z
        exact ⟨c0, e1, G1.ff _ _ e2⟩
      · exact ⟨c', z, upd_same⟩
    have G2 := G1.tab S T1
    have G3 := G2.new (o := FnO f (mk c')) hf
    exact k f c' _ _ G3 upd_same (same_new (G2.fz.free hf) _ _ upd_same)
/-! ### defs that are handed such a function: what the cells hold at their entry -/
structure FnOkS (P : Program) (w : World) (K : PySem.W.Frag) (mg : Str → Option Value) (base : Heap) (k : Nat) (f : Addr) (fd : FuncData) (ps fr : List Str) (sp : List (Str × Addr) → List (Option V) → Sp) : Prop where
  len : ∀ cl ws vs H Q E, sp cl ws vs H Q E → vs.length = ps.length
  run : ∀ (A : Around) (outer : List Env) (s : Shared) (H : Hp) (args : Args) (us : List Value) (vs : List V) (cl : List (Str × Addr)) (ws : List (Option V)) (Q : VK) (E : XK), Room k A → Env0 P w K mg base A outer s H → CellsAt cl fr ws s.heap H → (∀ y c, cl.lookup y = some c → c ∉ frs outer) →
    BindsTo s fd args (ps.zip us) → Vals vs us → sp cl ws vs H Q E → codeAny (model P w) A (.call (.ref f) args) (CR CX0 outer P w H s Q E) s
structure CellsIn (X : Cx) (cl : List (Str × Addr)) (fr : List Str) (ws : List (Option V)) : Prop where
  at_ : CellsAt cl fr ws X.s_0.heap X.H_0
  nf : ∀ y c, cl.lookup y = some c → c ∉ X.fs
  nx : ∀ y c, cl.lookup y = some c → c ∉ X.ex
  lt : ∀ y c, cl.lookup y = some c → c < X.s_0.heap.objs.size
theorem CellsIn.now {X : Cx} {cl : List (Str × Addr)} {fr : List Str} {ws : List (Option V)} {pins : List (Addr × Obj)} {σ : L2.St} {H : Hp} {s : Shared} (C : CellsIn X cl fr ws) (I : Inv X pins σ H s) : CellsAt cl fr ws s.heap H ∧ ∀ y c, cl.lookup y = some c → c ∉ frs X.stack := by
  refine ⟨C.at_.later C.nf C.nx I, fun y c h => ?_⟩
  rcases I.ok.stk with e | ⟨e, ef⟩
  · rw [e]; exact C.nf y c h
  · rw [e]
    intro hm
    have hm2 : c ∈ X.env.locals :: frs X.outer := by
      unfold frs at hm ⊢
      rw [List.filterMap_cons, ef] at hm
      exact hm
    rcases List.mem_cons.mp hm2 with q | q
    · have a := C.lt y c h
      have b := I.ok.above
      rw [q] at a
      exact absurd a (Nat.not_lt.mpr b)
    · exact C.nf y c h q
/-- .. of the frame that makes the function -/
theorem cells_here {X : Cx} {cl : List (Str × Addr)} {fr : List Str} {js : List Nat} {pins : List (Addr × Obj)} {σ : L2.St} {H : Hp} {s : Shared} (hfn : ∀ x, X.fn x = true) (c : Caps X cl fr js) (I : Inv X pins σ H s) : CellsAt cl fr (js.map (slotAt σ)) s.heap H ∧ ∀ y c, cl.lookup y = some c → c ∉ frs X.stack := by
  refine ⟨cells_of I c, fun y a h => ?_⟩
  have hge := I.ok.cab y a (hfn y) (c.sub y a h)
  have nfs : a ∉ frs X.outer := fun hm => by
    obtain ⟨_, o, ho, _⟩ := I.ok.funs.mem hm
    exact absurd (Heap.lt_size ho) (Nat.not_lt.mpr hge)
  rcases I.ok.stk with e | ⟨e, ef⟩
  · rw [e]; exact nfs
  · rw [e]
    intro hm
    have hm2 : a ∈ X.env.locals :: frs X.outer := by
      unfold frs at hm ⊢
      rw [List.filterMap_cons, ef] at hm
      exact hm
    rcases List.mem_cons.mp hm2 with q | q
    · obtain ⟨v, o, ho, hd⟩ := I.cell y a (c.sub y a h)
      obtain ⟨m, ⟨o2, es, ep, ho2, hd2, _⟩, _⟩ := I.loc
      rw [q, ho2] at ho
      cases ho
      rw [hd2] at hd
      cases hd
    · exact nfs q
section
variable {P : Program} {w : World} {K : PySem.W.Frag} {mg : Str → Option Value} {base : Heap}
theorem fn_ofS {k : Nat} {f : Addr} {name qual : Str} {params : Arguments} {body : List Stmt} {scope : Scope} {dV kV doc pm cdv ct oc : Value} {an od : Option Addr}
    {osl : Array (Option Value)} {N ps fr : List Str} {sp : List (Str × Addr) → List (Option V) → Sp} (lk : K.lookup f = some ⟨oc, od, .func (PySem.W.fnOf name qual params body scope dV kV doc pm an cdv ct), osl⟩) (hcd : PySem.W.codeIn K cdv qual = true) (S : FnScope N ps scope)
    (len : ∀ cl ws vs H Q E, sp cl ws vs H Q E → vs.length = ps.length)
    (hbody : ∀ (A : Around) (outer : List Env) (s : Shared) (H : Hp) (vs : List V) (cl : List (Str × Addr)) (ws : List (Option V)) (Q : VK) (E : XK), Room k (A.deeper (envOfC qual scope s.heap.objs.size f cdv)) → CellsIn (cxOf CX0 P w K mg base N qual scope f cdv A outer s H E).nox cl fr ws → sp cl ws vs H Q E →
      ∃ t, PSs (cxOf CX0 P w K mg base N qual scope f cdv A outer s H E).nox body t ∧ t { nx := fun _ H' => Q .non H', rt := Q } (start N vs) H) :
    FnOkS P w K mg base (k + 1) f (PySem.W.fnOf name qual params body scope dV kV doc pm an cdv ct) ps fr sp := by
  refine ⟨len, fun A outer s H args us vs cl ws Q E hr e0 hC hnf hb r hsp => ?_⟩
  have hl := len _ _ _ _ _ _ hsp
  have KX : K.In s.heap := e0.mod.kin.keeps fun b o e => (e0.bs b o e).1
  have lim : s.heap.NoLimit := e0.mod.nolimit.keeps fun b o e => (e0.bs b o e).1
  have hkind : ∀ y ∈ ps.zip us, scope.names.lookup y.1 = some .local ∨ (scope.names.lookup y.1 = some .cell ∧ ((cellsFrom (s.heap.objs.size + 1) scope.names []).lookup y.1).isSome = true) := fun ⟨n, v⟩ hy => by
    rcases S.par n (List.of_mem_zip hy).1 with q | q
    · exact .inl q
    · exact .inr ⟨q, PySem.W.cellsFrom_some _ _ _ (.inl q)⟩
  refine codeAny_call_function hr.depth (KX _ _ lk) rfl S.co S.gen rfl (PySem.W.codeRec_of KX hcd) (hb _ _ _ _ ?_)
  refine wpAny_newFunctionEnv_cells S.kind hkind fun env he s1 x => ?_
  subst he
  refine ⟨lim.keeps x.toInCall.keep, codeAny_func ?_⟩
  have hCI : CellsIn (cxOf CX0 P w K mg base N qual scope f cdv A outer s H E).nox cl fr ws := ⟨hC, hnf, fun y c h => by show c ∉ ([] : List Addr); simp, fun y c h => by
    obtain ⟨_, v, o, ho, _⟩ := hC.all y c h
    exact Heap.lt_size ho⟩
  obtain ⟨t, ht0, hq⟩ := hbody A outer s H vs cl ws Q E (hr.deeper _) hCI hsp
  have ht := ht0.nox
  have I : Inv (cxOf CX0 P w K mg base N qual scope f cdv A outer s H E) [] (start N vs) H s1 := inv_start S hr.hd e0 hl r x
  refine wpAny_mono (ht.run [] s1 (start N vs) H _ I hq) (fun fl s' hs => ?_) fun e s' hs => hs
  have fin : ∀ {σ' : L2.St} {H' : Hp} {v : V} {u : Value}, Inv (cxOf CX0 P w K mg base N qual scope f cdv A outer s H E) [] σ' H' s' → RelV v u → Q v H' → CE outer P w H s Q u s' :=
    fun {σ' H' v u} J rv q => ⟨v, H', J.os, J.bare, J.base, J.hok, rv, q⟩
  cases fl with
  | ret u =>
    obtain ⟨v, σ', H', J, rv, q⟩ := hs
    exact fin J rv q
  | next =>
    obtain ⟨σ', H', J, q⟩ := hs
    exact fin (v := V.non) (u := Value.none) J rfl q
  | brk =>
    obtain ⟨_, _, _, q⟩ := hs
    exact False.elim q
  | cont =>
    obtain ⟨_, _, _, q⟩ := hs
    exact False.elim q
end
structure CalS (P : Program) (w : World) (K : PySem.W.Frag) (mg : Str → Option Value) (base : Heap) (k : Nat) (x : Str) (fr : List Str) (sp : List (Str × Addr) → List (Option V) → Sp) : Prop where
  ex : ∃ (f : Addr) (fd : FuncData) (ps : List Str), FnOkS P w K mg base k f fd ps fr sp ∧ mg x = some (.ref f) ∧ PySem.W.keepIn K (.ref f) = true ∧ Binds K fd ps []
theorem calS_of {P : Program} {w : World} {K : PySem.W.Frag} {mg : Str → Option Value} {base : Heap} {x : Str} {st : Stmt} {N ps fr : List Str} {k : Nat} {sp : List (Str × Addr) → List (Option V) → Sp} (D : Dn K mg x st ps) (S : FnScope N ps (defScope st)) (len : ∀ cl ws vs H Q E, sp cl ws vs H Q E → vs.length = ps.length)
    (hbody : ∀ (f : Addr) (cdv : Value) (A : Around) (outer : List Env) (s : Shared) (H : Hp) (vs : List V) (cl : List (Str × Addr)) (ws : List (Option V)) (Q : VK) (E : XK), Room k (A.deeper (envOfC x (defScope st) s.heap.objs.size f cdv)) → CellsIn (cxOf CX0 P w K mg base N x (defScope st) f cdv A outer s H E).nox cl fr ws → sp cl ws vs H Q E →
      ∃ t, PSs (cxOf CX0 P w K mg base N x (defScope st) f cdv A outer s H E).nox (defBody st) t ∧ t { nx := fun _ H' => Q .non H', rt := Q } (start N vs) H) : CalS P w K mg base (k + 1) x fr sp := by
  obtain ⟨f, fd, F, hm, b⟩ := D
  obtain ⟨oc, od, dV, kV, doc, pm, an, cdv, ct, osl, rfl, lk, hcd, _, _⟩ := F.ex
  exact ⟨f, _, ps, fn_ofS lk hcd S len (hbody f cdv), hm, F.kp, b⟩
def tClS (cl : List (Str × Addr)) (wsOf : L2.St → List (Option V)) (sp : List (Str × Addr) → List (Option V) → Sp) (t : TA) : TE := fun σ H Q => t σ H fun vs H1 => sp cl (wsOf σ) vs H1 Q E0
theorem pe_cS {X : Cx} {k j : Nat} {x : Str} {fr : List Str} {sp : List (Str × Addr) → List (Option V) → Sp} {p pos : Pos} {e : Expr} {es : List Expr} {t : TA} {cl : List (Str × Addr)} {wsOf : L2.St → List (Option V)} (c : CalS X.prog X.w X.K X.mg X.base k x fr sp) (hr : Room j X.A) (hk : k ≤ j)
    (hC : ∀ pins σ H s, Inv X pins σ H s → CellsAt cl fr (wsOf σ) s.heap H ∧ ∀ y c, cl.lookup y = some c → c ∉ frs X.stack) (hg : Gl X x) (ha : PA X (e :: es) t)
    (hdb : (x == ("__debug__" : Str)) = false := by decide) (he : starEach (e :: es) X.env = (false, eval e X.env) :: starEach es X.env := by rfl) (hpl : (backTo pos (starEach es X.env)).any (·.1) = false := by rfl) :
    PE X (.Call (.Name x p) (e :: es) [] pos) (tClS cl wsOf sp t) := by
  obtain ⟨f, fd, ps, F, hm, kp, b⟩ := c.ex
  refine ⟨fun pins s σ H Q I h => ?_⟩
  refine wpAny_Call_Name_kw (ld_glob I hg hm ?_ hdb)
  refine PySem.W.callWith_K (h₀ := X.base) I.ok.mod.kin kp (thn (ha.run pos pins s σ H _ I h) fun us s1 ⟨vs, H1, I1, r, q⟩ => ⟨I1.kIn, ?_⟩) he hpl
  obtain ⟨hc1, hc2⟩ := hC pins σ H1 s1 I1
  have hl : us.length = ps.length := by rw [← r.length]; exact F.len _ _ _ _ _ _ q
  have bb := b s1 us I1.kIn (by simpa using hl)
  rw [List.append_nil] at bb
  refine wpAny_call (codeAny_mono (F.run X.A X.stack s1 H1 ⟨us, []⟩ us vs cl (wsOf σ) Q E0 (hr.mono hk) I1.env0 hc1 hc2 bb r q) fun r s' hq => ?_)
  cases r with
  | error e => exact False.elim hq
  | ok fl =>
    cases fl with
    | ret u => exact I1.after hq
    | next => exact False.elim hq
    | brk => exact False.elim hq
    | cont => exact False.elim hq
/-- a call of a local name that holds the function made elsewhere -/
def tAsk (i : Nat) (mk : Addr → NF) (ws : List (Option V)) (sp : List (Option V) → Sp) (t : TA) : TE := fun σ H Q => ∃ f c', σ[i]? = some (some (.ref f)) ∧ H f = some (FnO f (mk c')) ∧
  t σ H fun vs H1 => H1 f = some (FnO f (mk c')) ∧ H1 (mk c').c = some (CodeO (mk c').c (mk c').qual) ∧ sp ws vs H1 Q E0
theorem pe_ask {X : Cx} {mk : Addr → NF} {cl : List (Str × Addr)} {ps fr : List Str} {i j k : Nat} {x : Str} {sp : List (Option V) → Sp} {ws : List (Option V)} {t : TA} {e : Expr} {es : List Expr} {p pos : Pos}
    (Fn : ∀ f c', NOk X.prog X.w X.K X.mg X.base CX0 k f (mk c') ps fr sp) (hcl : ∀ c', (mk c').cl = cl) (C : CellsIn X cl fr ws) (hr : Room j X.A) (hk : k ≤ j) (hN : X.N[i]? = some x) (hv : Vis X.env.scope x) (ha : PA X (e :: es) t)
    (hd : (x == ("__debug__" : Str)) = false := by decide) (hcd : (x == ("__classdict__" : Str)) = false := by decide)
    (he : starEach (e :: es) X.env = (false, eval e X.env) :: starEach es X.env := by rfl) (hpl : (backTo pos (starEach es X.env)).any (·.1) = false := by rfl) :
    PE X (.Call (.Name x p) (e :: es) [] pos) (tAsk i mk ws sp t) := by
  refine ⟨fun pins s σ H Q I h => ?_⟩
  obtain ⟨f, c', hs, hf, ht⟩ := h
  refine wpAny_Call_Name_kw (thn ((pe_var (pos := p) hN hv hd hcd).run pins s σ H (fun v H1 => v = .ref f ∧ H1 = H) I ⟨.ref f, hs, rfl, rfl⟩) fun u s1 ⟨v, H1, I1, r1, q1⟩ => ?_)
  obtain ⟨ev, eH⟩ := q1
  subst ev
  rw [eH] at I1
  obtain rfl : u = Value.ref f := r1
  refine PySem.W.callWith_F (first := []) (fnAt_of I1 hf) (thn (ha.run pos pins s1 σ H _ I1 ht) fun us s2 ⟨vs, H2, I2, r, h1, h2, q⟩ => ⟨fnAt_of I2 h1, ?_⟩) he hpl
  show wpAny _ _ (call (.ref f) us) _ _ _
  have hC := (C.now I2).1
  rw [← hcl c'] at hC
  refine wpAny_call (codeAny_mono ((Fn f c').run X.A X.stack s2 H2 us vs ws Q E0 (hr.mono hk) I2.env0 h1 h2 hC r q) fun r s' hq => ?_)
  cases r with
  | error e => exact False.elim hq
  | ok fl =>
    cases fl with
    | ret u => exact I2.after hq
    | next => exact False.elim hq
    | brk => exact False.elim hq
    | cont => exact False.elim hq
end Rv
end

section
set_option Elab.async false
set_option autoImplicit false
set_option linter.all false
set_option maxRecDepth 100000
set_option maxHeartbeats 4000000
namespace Rv
open PySem L2 PyProof.Rows PySem.Spec LamX NdefX
/-! ### what the nested def answers -/
structure OkW (n : NetD) (rd : List (Option Int)) : Prop where
  l12 : n.2.length ≤ 12
  nd : (n.2.map (·.1)).Nodup
  len : rd.length = n.2.length
def OkSm (n : NetD) (t : Tm) : Prop := OkT t ∧ ∀ p ∈ t, p.1 ∈ n.2.map (·.1)
abbrev tbW (n : NetD) (rd : List (Option Int)) : Tt → Option Int := tb (n.2.map (·.1)) rd
abbrev wrt (n : NetD) (rd : List (Option Int)) (t : Tm) : Option Int := worth (tbW n rd) t
abbrev spAsk (cs : Cs) : List (Option V) → Sp := fun ws vs H Q _ => ∃ (A : Amb) (F : Hp) (x z a b : V) (n : NetD) (rd : List (Option Int)) (t1 t2 : Tm), ws = [some x, some z] ∧ vs = [a, b] ∧ Fz A F H ∧ rNet cs F x n ∧ rTup rOI F z rd ∧ rSum cs F a t1 ∧ rSum cs F b t2 ∧ OkW n rd ∧ OkSm n t1 ∧ OkSm n t2 ∧
  Out A F H Q fun _ _ v => v = .bl (decide (wrt n rd t1 = wrt n rd t2))
abbrev sAsk : Stmt := (defBody (top 70)).getD 4 (.Pass ⟨0, 0, 0, 0⟩)
abbrev nAsk : List Str := ["one", "two", "net", "readings"]
abbrev pAsk : List Str := ["one", "two"]
abbrev fAsk : List Str := ["net", "readings"]
abbrev mkAsk (cl : List (Str × Addr)) : Addr → NF := NF.of sAsk "ask" "outcome.<locals>.ask" cl
theorem scAsk : NScope nAsk pAsk fAsk (C8.fnScope sAsk) := nscope_by (by decide +kernel)
theorem eq_oV {x y : Option Int} {H : Hp} {Q : VK} (k : Q (.bl (decide (x = y))) H) : rEq (oV x) (oV y) H Q := by
  refine ⟨by cases x <;> cases y <;> rfl, ?_⟩
  have e : decide (oV x = oV y) = decide (x = y) := by
    cases x <;> cases y <;> simp [oV]
  rw [e]; exact k
/-! ### votes -/
def cntV (n : NetD) (rd : List (Option Int)) (t : Tm) (l : List Tm) : Nat := (l.filter fun u => decide (wrt n rd t ≠ wrt n rd u)).length
def fitV (n : NetD) (rd : List (Option Int)) (h : Nat) (l : List Tm) (t : Tm) : Bool := decide (cntV n rd t l ≤ h)
def voteV (n : NetD) (rd : List (Option Int)) (h : Nat) (l : List Tm) : Option Tm := l.find? (fitV n rd h l)
theorem cntV_snoc {n : NetD} {rd : List (Option Int)} {t u : Tm} {l : List Tm} {j : Nat} (hu : l[j]? = some u) : cntV n rd t (l.take (j + 1)) = cntV n rd t (l.take j) + if wrt n rd t = wrt n rd u then 0 else 1 := by
  unfold cntV
  rw [take_snoc hu, List.filter_append, List.length_append]
  by_cases e : wrt n rd t = wrt n rd u <;> simp [List.filter, e]
def rVote (cs : Cs) : Rl (Option Tm) := fun F v o => match o with
  | some t => ∃ p x, v = .ref p ∧ F p = some (.tup [.str "tells", x]) ∧ rSum cs F x t
  | none => ∃ p, v = .ref p ∧ F p = some (.tup [.str "next", .non])
abbrev spVoteEnd (cs : Cs) : List (Str × Addr) → List (Option V) → Sp := fun cl ws vs H Q _ => ∃ (A : Amb) (F : Hp) (x z y : V) (f c' : Addr) (n : NetD) (rd : List (Option Int)) (l : List Tm) (h : Nat), ws = [some x, some z] ∧ vs = [y, .int h, .ref f] ∧ Fz A F H ∧ F f = some (FnO f (mkAsk cl c')) ∧ F c' = some (CodeO c' "outcome.<locals>.ask") ∧
  rNet cs F x n ∧ rTup rOI F z rd ∧ OkW n rd ∧ rLst (rSum cs) F y l ∧ l.length ≤ 10 ∧ (∀ t ∈ l, OkSm n t) ∧ Out A F H Q fun F' _ v => rVote cs F' v (voteV n rd h l)
section
variable {P : Program} {w : World} {K : PySem.W.Frag} {mg : Str → Option Value} {base : Heap} {cs : Cs}
theorem nok_ask (c_value_in : Cal P w K mg base 3 "value_in" (spValueIn cs)) (cl : List (Str × Addr)) (f c' : Addr) : NOk P w K mg base CX0 4 f (mkAsk cl c') pAsk fAsk (spAsk cs) := by
  refine nok_of scAsk (fun doc pm ctv us hus => ?_) (fun ws vs H Q E h => ?_) (fun A outer s H vs ws Q E hr hf hc hw h => ?_)
  · match us, hus with
    | [a, b], _ => rfl
  · obtain ⟨_, _, _, _, _, _, _, _, _, _, _, rfl, _⟩ := h
    rfl
  · obtain ⟨Am, F, x, z, a, b, n, rd, t1, t2, rfl, rfl, Z, rn, rz, r1, r2, ok, o1, o2, k⟩ := h
    refine ⟨_, pss_one (ps_ret (pe_cmpR op_eq (pe_c c_value_in hr (by decide) rfl (pa_cons (pv 2) (pa_cons (pv 0) (pa_cons (pv 3) pa_nil)))) (pe_c c_value_in hr (by decide) rfl (pa_cons (pv 2) (pa_cons (pv 1) (pa_cons (pv 3) pa_nil)))) (nomark _))), ?_⟩
    refine ⟨_, rfl, _, rfl, _, rfl, Am, F, x, a, z, n, t1, rd, rfl, Z, rn, r1, rz, ok.l12, ok.nd, ok.len, o1.1, o1.2, fun F1 H1 v1 g1 e1 => ?_⟩
    subst e1
    refine ⟨_, rfl, _, rfl, _, rfl, Am, F1, x, b, z, n, t2, rd, rfl, g1.fz, MonoR.up g1.ff rn, MonoR.up g1.ff r2, MonoR.up g1.ff rz, ok.l12, ok.nd, ok.len, o2.1, o2.2, fun F2 H2 v2 g2 e2 => ?_⟩
    subst e2
    have q := k F2 H2 _ (g1.trans g2) rfl
    exact eq_oV q
abbrev sVoteEnd : Stmt := top 68
abbrev nVoteEnd : List Str := ["totals", "most", "ask", "index", "one", "against", "place", "two", "answer"]
abbrev pVoteEnd : List Str := ["totals", "most", "ask"]
theorem scVoteEnd : FnScope nVoteEnd pVoteEnd (defScope sVoteEnd) := ⟨rfl, rfl, rfl, by decide +kernel, rfl, by decide +kernel, by decide +kernel⟩

theorem c_vote_end (D : Dn K mg "vote_end" sVoteEnd pVoteEnd) (T : Tx K mg cs) (c_value_in : Cal P w K mg base 3 "value_in" (spValueIn cs)) : CalS P w K mg base 5 "vote_end" fAsk (spVoteEnd cs) := by
  refine calS_of D scVoteEnd (fun cl ws vs H Q E h => ?_) (fun f0 cdv A outer s H vs cl ws Q E hr C h => ?_)
  · obtain ⟨_, _, _, _, _, _, _, _, _, _, _, _, rfl, _⟩ := h
    rfl
  · obtain ⟨Am, F, x, z, y, f, c', n, rd, l, m, rfl, rfl, Z, hf, hc, rn, rz, ok, ⟨p, xs, rfl, hp, prd⟩, hl, ol, k⟩ := h
    refine ⟨_, (pss_cons (ps_forG PassesOwn.never rfl (pi_enum (by rfl) T.n_enumerate (pa_cons (pv 0) pa_nil)) (pg_tupK K 2 rfl rfl (pgs_cons (pg_name (i := 3) scVoteEnd.nd rfl (.inl rfl) (.inr rfl)) (pgs_cons (pg_name (i := 4) scVoteEnd.nd rfl (.inl rfl) (.inr rfl)) pgs_nil)))
        (pss_cons (ps_set (i := 5) scVoteEnd.nd rfl (Or.inl rfl) pe_int)
      (pss_cons (ps_forG PassesOwn.never rfl (pi_enum (by rfl) T.n_enumerate (pa_cons (pv 0) pa_nil)) (pg_tupK K 2 rfl rfl (pgs_cons (pg_name (i := 6) scVoteEnd.nd rfl (.inl rfl) (.inr rfl)) (pgs_cons (pg_name (i := 7) scVoteEnd.nd rfl (.inl rfl) (.inr rfl)) pgs_nil)))
        (pss_cons (ps_if (PW.pt (pw_or (pt_cmpR op_eq (pv 6) (pv 3) (nomark _)) (pw_or1 (pt_cmpR op_gt (pv 5) (pv 1) (nomark _))))) (pss_one ps_continue) pss_nil)
      (pss_cons (ps_set (i := 8) scVoteEnd.nd rfl (Or.inl rfl) (pe_ask (i := 2) (sp := spAsk cs) (nok_ask c_value_in cl) (fun _ => rfl) C hr (by decide) rfl (.inl rfl) (pa_cons (pv 4) (pa_cons (pv 7) pa_nil))))
      (pss_cons (ps_if (pt_cmpR op_isN (pv 8) pe_non (nomark _)) pss_never pss_nil)
      (pss_one (ps_aug (i := 5) scVoteEnd.nd rfl (Or.inl rfl) (pe_ifExp (pt_val (pv 8)) pe_int pe_int) ip_add))))))
      (pss_one (ps_if (pt_cmpR op_le (pv 5) (pv 1) (nomark _)) (pss_one (ps_ret (pe_tup (pa_cons pe_str (pa_cons (pv 4) pa_nil))))) pss_nil)))))
      (pss_one (ps_ret (pe_tup (pa_cons pe_str (pa_cons pe_non pa_nil)))))), ?_⟩
    refine ⟨_, rfl, p, xs, rfl, Z.L hp, ?_⟩
    refine for_any walk_enum (fun i σ H' => ∃ F' m3 m4 m5 m6 m7 m8, σ = [some (.ref p), some (.int m), some (.ref f), m3, m4, m5, m6, m7, m8] ∧ Gr Am F H F' H' ∧ (l.take i).find? (fitV n rd m l) = none) ⟨F, _, _, _, _, _, _, rfl, Gr.refl Z, rfl⟩ (fun i σ H' _ ⟨F', _, _, _, _, _, _, _, G, _⟩ => G.fz.L (G.ff _ _ hp)) ?_ ?_
    · rintro i v σ H1 H2 hi ⟨F1, m3, m4, m5, m6, m7, m8, rfl, G1, hnone⟩ ⟨U, y1, y2, rfl, hU, rfl, e1, e2⟩
      cases e1
      obtain ⟨t, ht, rt⟩ := prd_get prd e2
      have G2 := G1.new (o := .tup [.int (i : Nat), y2]) hU
      refine ⟨U, _, rfl, SqT.of upd_same, rfl, _, _, rfl, _, _, rfl, rfl, ?_⟩
      refine ⟨_, rfl, p, xs, rfl, G2.fz.L (G2.ff _ _ hp), ?_⟩
      have rt2 : rSum cs _ y2 t := MonoR.up G2.ff rt
      refine for_any walk_enum (fun j σ H' => ∃ (F' : Hp) (a : Nat) (m6 m7 m8 : Option V), σ = [some (.ref p), some (.int m), some (.ref f), some (.int i), some y2, some (.int a), m6, m7, m8] ∧ Gr Am F H F' H' ∧ rSum cs F' y2 t ∧ (a = cntV n rd t (l.take j) ∨ m < a ∧ m < cntV n rd t (l.take j))) ⟨_, 0, _, _, _, rfl, G2, rt2, .inl rfl⟩ (fun i σ H' _ ⟨F', _, _, _, _, _, G, _⟩ => G.fz.L (G.ff _ _ hp)) ?_ ?_
      · rintro j v σ H3 H4 hj ⟨F3, a, m6, m7, m8, rfl, G3, rt3, ha⟩ ⟨U3, z1, z2, rfl, hU3, rfl, e3, e4⟩
        cases e3
        obtain ⟨u, hu, ru⟩ := prd_get prd e4
        have G4 := G3.new (o := .tup [.int (j : Nat), z2]) hU3
        refine ⟨U3, _, rfl, SqT.of upd_same, rfl, _, _, rfl, _, _, rfl, rfl, ?_⟩
        refine ⟨_, rfl, _, rfl, rfl, _, rfl, ?_⟩
        have same : j = i → cntV n rd t (l.take (j + 1)) = cntV n rd t (l.take j) := fun e => by
          subst e
          rw [ht] at hu
          cases hu
          rw [cntV_snoc ht, if_pos rfl]; rfl
        by_cases cji : j = i
        · rw [decide_eq_true (by rw [cji])]
          refine iteT ⟨_, a, _, _, _, rfl, G4, MonoR.up (same_new (G3.fz.free hU3)) rt3, ?_⟩
          rw [same cji]; exact ha
        rw [decide_eq_false (by intro e; have := V.int.inj e; omega)]
        refine iteF ⟨_, rfl, _, rfl, _, _, rfl, rfl, _, rfl, ?_⟩
        by_cases cam : m < a
        · rw [decide_eq_true (by omega)]
          refine iteT ⟨_, a, _, _, _, rfl, G4, MonoR.up (same_new (G3.fz.free hU3)) rt3, .inr ⟨cam, ?_⟩⟩
          rw [cntV_snoc hu]
          rcases ha with q | ⟨_, q⟩ <;> omega
        rw [decide_eq_false (by omega)]
        have ea : a = cntV n rd t (l.take j) := by rcases ha with q | ⟨q, _⟩ <;> omega
        have rt4 := MonoR.up (r := rSum cs) (same_new (G3.fz.free hU3) (o := .tup [.int (j : Nat), z2])) rt3
        have G40 := (Gr.refl Z).trans G4
        refine iteF ⟨f, c', rfl, G4.fz.sub _ _ (G4.ff _ _ hf), _, rfl, _, rfl, G4.fz.sub _ _ (G4.ff _ _ hf), G4.fz.sub _ _ (G4.ff _ _ hc), ?_⟩
        refine ⟨Am, _, x, z, _, _, n, rd, t, u, rfl, rfl, G4.fz, MonoR.up G4.ff rn, MonoR.up G4.ff rz, rt4, MonoR.up G4.ff ru, ok, ol _ (List.mem_of_getElem? ht), ol _ (List.mem_of_getElem? hu), fun F5 H5 v5 g5 e5 => ?_⟩
        subst e5
        refine ⟨_, rfl, rfl, _, rfl, iteF ?_⟩
        refine ⟨_, rfl, _, rfl, _, rfl, ?_⟩
        have c2 := cntV_snoc (n := n) (rd := rd) (t := t) hu
        by_cases cw : wrt n rd t = wrt n rd u
        · rw [decide_eq_true cw]
          refine iteT ⟨_, _, rfl, rfl, ?_⟩
          rw [if_pos cw] at c2
          exact ⟨F5, a, _, _, _, rfl, G4.trans g5, MonoR.up g5.ff rt4, .inl (by omega)⟩
        · rw [decide_eq_false cw]
          refine iteF ⟨_, _, rfl, rfl, ?_⟩
          rw [if_neg cw] at c2
          exact ⟨F5, a + 1, _, _, _, rfl, G4.trans g5, MonoR.up g5.ff rt4, .inl (by omega)⟩
      · rintro σ H3 ⟨F3, a, m6, m7, m8, rfl, G3, rt3, ha⟩
        rw [List.take_of_length_le (by rw [prd_len prd]; exact Nat.le_refl _)] at ha
        refine ⟨_, rfl, _, rfl, _, _, rfl, rfl, _, rfl, ?_⟩
        by_cases cam : a ≤ m
        · rw [decide_eq_true (by omega)]
          refine iteT ?_
          have hfit : fitV n rd m l t = true := decide_eq_true (by rcases ha with q | ⟨q, _⟩ <;> omega)
          have hv : voteV n rd m l = some t := by
            unfold voteV
            rw [← List.take_append_drop i l, List.find?_append, List.take_append_drop, hnone, List.drop_eq_getElem_cons (by exact (List.getElem?_eq_some_iff.mp ht).1), (List.getElem?_eq_some_iff.mp ht).2]
            simp [List.find?, hfit]
          refine ⟨_, rfl, by show 2 ≤ sizeLine; decide, fun q hq => ?_⟩
          refine k _ _ _ (G3.new (o := .tup [.str "tells", y2]) hq) ?_
          rw [hv]
          exact ⟨q, y2, rfl, upd_same, MonoR.up (same_new (G3.fz.free hq)) rt3⟩
        · rw [decide_eq_false (by omega)]
          refine iteF ⟨F3, _, _, _, _, _, _, rfl, G3, ?_⟩
          have hfit : fitV n rd m l t = false := decide_eq_false (by rcases ha with q | ⟨_, q⟩ <;> omega)
          rw [take_snoc ht, List.find?_append, hnone]
          simp [List.find?, hfit]
    · rintro σ H2 ⟨F2, m3, m4, m5, m6, m7, m8, rfl, G2, hn⟩
      rw [List.take_of_length_le (by rw [prd_len prd]; exact Nat.le_refl _)] at hn
      refine ⟨by decide, fun q hq => ?_⟩
      refine k _ _ _ (G2.new (o := .tup [.str "next", .non]) hq) ?_
      have hv : voteV n rd m l = none := hn
      rw [hv]
      exact ⟨q, rfl, upd_same⟩
end
end Rv
end

section
set_option Elab.async false
set_option autoImplicit false
set_option linter.all false
set_option maxRecDepth 100000
set_option maxHeartbeats 4000000
namespace Rv
open PySem L2 PyProof.Rows PySem.Spec LamX NdefX
/-! ### the run of a rule -/
def runP (n : NetD) (rd : List (Option Int)) (l : List Stp) : Nat → Nat → Option Tm
  | 0, _ => none
  | m + 1, k => match l[k]? with
    | some (.tell t) => if (wrt n rd t).isNone = true then none else some t
    | some (.vote h ts) => match voteV n rd h (ts.filter fun t => (wrt n rd t).isSome) with
      | some t => some t
      | none => runP n rd l m (k + 1)
    | some (.iff a b g) => if (wrt n rd a).isSome = true ∧ wrt n rd a = wrt n rd b then runP n rd l m g else runP n rd l m (k + 1)
    | _ => none
def rRun (cs : Cs) : Rl (Option Tm) := fun F v o => match o with
  | some t => ∃ p x y, v = .ref p ∧ F p = some (.tup [.str "tells", x, y]) ∧ rSum cs F x t
  | none => ∃ p x y, v = .ref p ∧ F p = some (.tup [.str "doubts", x, y])
def OkSl (n : NetD) (rd : List (Option Int)) (sl : List Tt) : Prop := ∀ nm ∈ n.2.map (·.1), decide (nm ∈ sl) = (tbW n rd nm).isNone
abbrev spRun (cs : Cs) : List (Str × Addr) → List (Option V) → Sp := fun cl ws vs H Q _ => ∃ (A : Amb) (F : Hp) (x z y yl : V) (f c' : Addr) (n : NetD) (rd : List (Option Int)) (ls : List Tt) (l : List Stp) (sl : List Tt), ws = [some x, some z] ∧ vs = [y, yl, .ref f] ∧ Fz A F H ∧ F f = some (FnO f (mkAsk cl c')) ∧ F c' = some (CodeO c' "outcome.<locals>.ask") ∧
  rNet cs F x n ∧ rTup rOI F z rd ∧ OkW n rd ∧ rRule cs F y (ls, l) ∧ OkSt l ∧ OkNm l (n.2.map (·.1)) ∧ rLst rS F yl sl ∧ OkSl n rd sl ∧ Out A F H Q fun F' _ v => rRun cs F' v (runP n rd l l.length 0)
theorem iteT' {b : Bool} {p q : Prop} (h : b = true) (x : p) : if b = true then p else q := by rw [if_pos h]; exact x
theorem iteF' {b : Bool} {p q : Prop} (h : ¬ b = true) (x : q) : if b = true then p else q := by rw [if_neg h]; exact x
theorem silent_eq {n : NetD} {rd : List (Option Int)} {sl : List Tt} {t : Tm} (h : OkSl n rd sl) (o : ∀ p ∈ t, p.1 ∈ n.2.map (·.1)) : (t.any fun p => decide (p.1 ∈ sl)) = (wrt n rd t).isNone := by
  have e : (t.any fun p => decide (p.1 ∈ sl)) = t.any fun p => (tbW n rd p.1).isNone := by
    induction t with
    | nil => rfl
    | cons p r ih => rw [List.any_cons, List.any_cons, h p.1 (o p (List.mem_cons_self ..)), ih fun q hq => o q (List.mem_cons_of_mem _ hq)]
  rw [e]
  unfold wrt worth
  by_cases c : (t.any fun p => (tbW n rd p.1).isNone) = true
  · rw [if_pos c, c]; rfl
  · rw [if_neg c, Bool.eq_false_iff.mpr c]; rfl
theorem OkSt.sums {l : List Stp} (h : OkSt l) : ∀ s ∈ l, ∀ t ∈ sumsS s, OkT t := fun s hs t ht => by
  obtain ⟨i, q⟩ := h.mem s hs
  cases s with
  | iff a b g =>
    rcases List.mem_cons.mp ht with e | e
    · rw [e]; exact q.1
    · rw [List.mem_singleton.mp e]; exact q.2.1
  | vote hh ts => exact q.2.2.2 t ht
  | tell t' => rw [List.mem_singleton.mp ht]; exact q
  | dbt => cases ht
theorem OkSt.notLast {l : List Stp} (h : OkSt l) {i : Nat} {s : Stp} (hs : l[i]? = some s) (he : isEnd s = false) : i + 1 < l.length := by
  have hi := (List.getElem?_eq_some_iff.mp hs).1
  rcases Nat.lt_or_ge (i + 1) l.length with q | q
  · exact q
  · exfalso
    have e : i = l.length - 1 := by omega
    have := h.last s (by rw [List.getLast?_eq_getElem?, ← e, hs])
    rw [he] at this; cases this
section
variable {P : Program} {w : World} {K : PySem.W.Frag} {mg : Str → Option Value} {base : Heap} {cs : Cs}
def RunI (A : Amb) (F H : Hp) (y yl : V) (f sn : Addr) (n : NetD) (rd : List (Option Int)) (l : List Stp) (at_ : Nat) (σ : L2.St) (H' : Hp) : Prop := ∃ (F' : Hp) (ys : List V) (m5 m6 m7 m8 m9 : Option V) (fuel : Nat),
  σ = [some y, some yl, some (.ref f), some (.int at_), some (.ref sn), m5, m6, m7, m8, m9] ∧ Gr A F H F' H' ∧ F' sn = none ∧ H' sn = some (.lst ys) ∧ ys.length ≤ at_ ∧ at_ < l.length ∧ l.length - at_ ≤ fuel ∧ runP n rd l fuel at_ = runP n rd l l.length 0
abbrev sRun : Stmt := top 69
abbrev nRun : List Str := ["rule", "silent", "ask", "at", "seen", "step", "speaking", "word", "total", "answer"]
abbrev pRun : List Str := ["rule", "silent", "ask"]
theorem scRun : FnScope nRun pRun (defScope sRun) := ⟨rfl, rfl, rfl, by decide +kernel, rfl, by decide +kernel, by decide +kernel⟩

theorem c_run (D : Dn K mg "run" sRun pRun) (T : Tx K mg cs) (c_value_in : Cal P w K mg base 3 "value_in" (spValueIn cs)) (c_is_silent : Cal P w K mg base 3 "is_silent" (spIsSilent cs)) (c_vote_end : CalS P w K mg base 5 "vote_end" fAsk (spVoteEnd cs)) : CalS P w K mg base 6 "run" fAsk (spRun cs) := by
  refine calS_of D scRun (fun cl ws vs H Q E h => ?_) (fun f0 cdv A outer s H vs cl ws Q E hr C h => ?_)
  · obtain ⟨_, _, _, _, _, _, _, _, _, _, _, _, _, _, rfl, _⟩ := h
    rfl
  · obtain ⟨Am, F, x, z, y, yl, f, c', n, rd, ls, l, sl, rfl, rfl, Z, hf, hc, rn, rz, ok, rr, okl, onm, rsl, osl, k⟩ := h
    obtain ⟨p, dx, v1, v2, rfl, hp, rls, ⟨q, xs, rfl, hq, prs⟩⟩ := rr
    refine ⟨_, (pss_cons (ps_par (i := 3) (j := 4) (by rfl) scRun.nd rfl rfl (by decide) rfl rfl (pa_cons pe_int (pa_cons (pe_lst pa_nil) pa_nil)) (by rfl))
      (pss_one (ps_while PassesOwn.never (pt_val pe_bl)
        (pss_cons (ps_set (i := 5) scRun.nd rfl (Or.inl rfl) (pe_ix (r := rIxT K) ix_tup (pe_fld (pv 0) rfl) (pv 3) (fun _ _ => rfl)))
      (pss_cons (ps_expr (pe_bm PySem.F.plainAttrs_list PySem.F.slot_list_append PySem.F.type_list_append mt_append (pv 4) (pa_cons (pv 3) pa_nil)))
      (pss_cons (ps_aug (i := 3) scRun.nd rfl (Or.inl rfl) pe_int ip_add)
      (pss_cons (ps_if (PW.pt (pw_or (pt_cmpR op_eq (pe_ix (r := rIxT K) ix_tup (pv 5) pe_int (fun _ _ => rfl)) pe_str (nomark _)) (pw_or1 (PW.pt (pw_and (pt_cmpR op_eq (pe_ix (r := rIxT K) ix_tup (pv 5) pe_int (fun _ _ => rfl)) pe_str (nomark _)) (pw_and1 (pt_val (pe_c c_is_silent hr (by decide) rfl (pa_cons (pe_ix (r := rIxT K) ix_tup (pv 5) pe_int (fun _ _ => rfl)) (pa_cons (pv 1) pa_nil)))))))))) (pss_one (ps_ret (pe_tup (pa_cons pe_str (pa_cons pe_non (pa_cons (pv 4) pa_nil)))))) pss_nil)
      (pss_cons (ps_if (pt_cmpR op_eq (pe_ix (r := rIxT K) ix_tup (pv 5) pe_int (fun _ _ => rfl)) pe_str (nomark _)) (pss_one (ps_ret (pe_tup (pa_cons pe_str (pa_cons (pe_ix (r := rIxT K) ix_tup (pv 5) pe_int (fun _ _ => rfl)) (pa_cons (pv 4) pa_nil)))))) pss_nil)
      (pss_one (ps_if (pt_cmpR op_eq (pe_ix (r := rIxT K) ix_tup (pv 5) pe_int (fun _ _ => rfl)) pe_str (nomark _)) (pss_cons (ps_setLcG (i := 6) (own := [("total", 8)]) rfl scRun.nd rfl rfl (sw_true rfl rfl rfl (by decide +kernel)) (pi_tup (pe_ix (r := rIxT K) ix_tup (pv 5) pe_int (fun _ _ => rfl))) (blkOk_by (own := [("total", 8)]) (N := nRun) (sc := defScope sRun) (by decide +kernel)) (fun _ _ _ _ _ => (pg_name (i := 8) scRun.nd rfl (.inl rfl) (.inr rfl))) (fun _ _ _ _ _ => (pts_one (pt_not (pt_val (pe_c c_is_silent hr (by decide) rfl (pa_cons (pv 8) (pa_cons (pv 1) pa_nil))))))) (fun _ _ _ _ _ => (pv 8)))
      (pss_cons (ps_asg (pe_cS c_vote_end hr (by decide) (fun _ _ _ _ I => C.now I) rfl (pa_cons (pv 6) (pa_cons (pe_ix (r := rIxT K) ix_tup (pv 5) pe_int (fun _ _ => rfl)) (pa_cons (pv 2) pa_nil)))) (pg_tupK K 2 rfl rfl (pgs_cons (pg_name (i := 7) scRun.nd rfl (.inl rfl) (.inr rfl)) (pgs_cons (pg_name (i := 8) scRun.nd rfl (.inl rfl) (.inr rfl)) pgs_nil))))
      (pss_one (ps_if (pt_cmpR op_ne (pv 7) pe_str (nomark _)) (pss_one (ps_ret (pe_tup (pa_cons (pv 7) (pa_cons (pv 8) (pa_cons (pv 4) pa_nil)))))) pss_nil)))) (pss_one (ps_if (PW.pt (pw_and (pt_not (pt_val (pe_c c_is_silent hr (by decide) rfl (pa_cons (pe_ix (r := rIxT K) ix_tup (pv 5) pe_int (fun _ _ => rfl)) (pa_cons (pv 1) pa_nil))))) (pw_and1 (pt_not (pt_val (pe_c c_is_silent hr (by decide) rfl (pa_cons (pe_ix (r := rIxT K) ix_tup (pv 5) pe_int (fun _ _ => rfl)) (pa_cons (pv 1) pa_nil)))))))) (pss_cons (ps_set (i := 9) scRun.nd rfl (Or.inl rfl) (pe_ask (i := 2) (sp := spAsk cs) (nok_ask c_value_in cl) (fun _ => rfl) C hr (by decide) rfl (.inl rfl) (pa_cons (pe_ix (r := rIxT K) ix_tup (pv 5) pe_int (fun _ _ => rfl)) (pa_cons (pe_ix (r := rIxT K) ix_tup (pv 5) pe_int (fun _ _ => rfl)) pa_nil))))
      (pss_cons (ps_if (pt_cmpR op_isN (pv 9) pe_non (nomark _)) pss_never pss_nil)
      (pss_one (ps_if (pt_val (pv 9)) (pss_one (ps_set (i := 3) scRun.nd rfl (Or.inl rfl) (pe_ix (r := rIxT K) ix_tup (pv 5) pe_int (fun _ _ => rfl)))) pss_nil)))) pss_nil)))))))))))), ?_⟩
    refine ⟨by show 0 ≤ sizeLine; decide, fun sn hsn => ?_⟩
    have hsS := Z.notS hsn
    have e1 : ∀ (a b : String), a ≠ b → decide (V.str (Str.ofString a) = V.str (Str.ofString b)) = decide (Str.ofString a = Str.ofString b) := fun a b h => by
      apply Bool.eq_iff_iff.mpr; simp
    refine ⟨_, _, rfl, fun m σ H' => ∃ at_, m = l.length - at_ ∧ RunI Am F H (.ref p) yl f sn n rd l at_ σ H', ⟨_, 0, rfl, F, [], _, _, _, _, _, l.length, rfl, (Gr.refl Z).own hsn, Z.free hsn, upd_same, Nat.le_refl _, okl.l1, by omega, rfl⟩, ?_⟩
    rintro m σ H1 ⟨at_, rfl, F1, ys, m5, m6, m7, m8, m9, fuel, rfl, G1, hF1, hL1, hys, hat, hfu, hrun⟩
    obtain ⟨st, hst⟩ : ∃ st, l[at_]? = some st := ⟨l[at_], by simp [hat]⟩
    obtain ⟨xv, hxv, rst0⟩ := prd_get2 prs hst
    have hstm := List.mem_of_getElem? hst
    obtain ⟨fuel, rfl⟩ : ∃ g, fuel = g + 1 := ⟨fuel - 1, by omega⟩
    have l2 := okl.l2
    refine ⟨_, rfl, iteT ⟨fun σ H' => ∃ at2, at_ < at2 ∧ RunI Am F H (.ref p) yl f sn n rd l at2 σ H', fun σ' H' ⟨at2, h1, h2⟩ => ⟨l.length - at2, by omega, at2, rfl, h2⟩, ?_⟩⟩
    refine ⟨_, rfl, p, _, dx, _, _, rfl, G1.fz.sub _ _ (G1.ff _ _ hp), T.k_Rule, T.a_Rule_steps, rfl, _, rfl, q, xs, _, _, rfl, rfl, G1.fz.T (G1.ff _ _ hq), at0 (v := xv) at_ rfl hxv, ?_⟩
    have rst1 : rStepR cs F1 xv st := MonoR.up G1.ff rst0
    refine ⟨_, rfl, .inl ⟨rfl, _, SqL.of hL1⟩, _, rfl, sn, _, _, rfl, rfl, hL1, szlt (by omega), ?_⟩
    have G2 := G1.put (o := .lst (ys ++ [.int at_])) hsn hF1
    have hL2 : upd H1 sn (.lst (ys ++ [V.int at_])) sn = some (.lst (ys ++ [V.int at_])) := upd_same
    have hys2 : (ys ++ [V.int at_]).length ≤ at_ + 1 := by rw [List.length_append]; exact Nat.add_le_add_right hys 1
    refine ⟨_, rfl, _, _, rfl, rfl, ?_⟩
    have hsum := okl.sums st hstm
    have hnm := onm st hstm
    cases st with
    | dbt =>
      obtain ⟨u, rfl, hu⟩ := rst1
      have hv : runP n rd l l.length 0 = none := by rw [← hrun]; unfold runP; rw [hst]
      refine ⟨_, rfl, u, _, _, _, rfl, rfl, G2.fz.T hu, rfl, rfl, _, rfl, ?_⟩
      rw [decide_eq_true rfl]
      refine iteT ⟨_, rfl, by show 3 ≤ sizeLine; decide, fun r hr => ?_⟩
      refine k _ _ _ (G2.new (o := .tup [.str "doubts", .non, .ref sn]) hr) ?_
      rw [hv]
      exact ⟨r, _, _, rfl, upd_same⟩
    | tell t =>
      obtain ⟨u, x1, rfl, hu, r1⟩ := rst1
      have ot : OkT t := hsum t (List.mem_cons_self ..)
      have ont := (hnm t (List.mem_cons_self ..)).2
      refine ⟨_, rfl, u, _, _, _, rfl, rfl, G2.fz.T hu, rfl, rfl, _, rfl, ?_⟩
      rw [decide_eq_false (by decide +kernel)]
      refine iteF ⟨_, rfl, u, _, _, _, rfl, rfl, G2.fz.T hu, rfl, rfl, _, rfl, ?_⟩
      rw [decide_eq_true rfl]
      refine iteT ⟨_, rfl, u, _, _, _, rfl, rfl, G2.fz.T hu, rfl, _, rfl, Am, F1, x1, yl, t, sl, rfl, G2.fz, r1, ot.ln, MonoR.up G2.ff rsl, fun F3 H3 v3 g3 e3 => ?_⟩
      subst e3
      rw [silent_eq osl ont]
      refine ⟨_, rfl, ?_⟩
      have G3 := G2.trans g3
      by_cases c : (wrt n rd t).isNone = true
      · have hv : runP n rd l l.length 0 = none := by rw [← hrun]; unfold runP; rw [hst]; exact if_pos c
        refine iteT' c ?_
        refine ⟨_, rfl, by show 3 ≤ sizeLine; decide, fun r hr => ?_⟩
        refine k _ _ _ (G3.new (o := .tup [.str "doubts", .non, .ref sn]) hr) ?_
        rw [hv]
        exact ⟨r, _, _, rfl, upd_same⟩
      · have hv : runP n rd l l.length 0 = some t := by rw [← hrun]; unfold runP; rw [hst]; exact if_neg c
        refine iteF' c ?_
        refine ⟨_, rfl, u, _, _, _, rfl, rfl, G3.fz.T (g3.ff _ _ hu), rfl, rfl, _, rfl, ?_⟩
        rw [decide_eq_true rfl]
        refine iteT ⟨_, rfl, u, _, _, _, rfl, rfl, G3.fz.T (g3.ff _ _ hu), rfl, _, rfl, by show 3 ≤ sizeLine; decide, fun r hr => ?_⟩
        refine k _ _ _ (G3.new (o := .tup [.str "tells", x1, .ref sn]) hr) ?_
        rw [hv]
        exact ⟨r, x1, _, rfl, upd_same, MonoR.up (same_new (G3.fz.free hr)) (MonoR.up g3.ff r1)⟩
    | vote h ts =>
      obtain ⟨u, x1, rfl, hu, qt, zs, rfl, hqt, prt⟩ := rst1
      have hts : ts.length ≤ 10 := by
        obtain ⟨i, q⟩ := okl.mem _ hstm
        exact q.2.2.1
      have osm : ∀ t ∈ ts, OkSm n t := fun t ht => ⟨hsum t ht, (hnm t ht).2⟩
      have hnl := okl.notLast hst rfl
      refine ⟨_, rfl, u, _, _, _, rfl, rfl, G2.fz.T hu, rfl, rfl, _, rfl, ?_⟩
      rw [decide_eq_false (by decide +kernel)]
      refine iteF ⟨_, rfl, u, _, _, _, rfl, rfl, G2.fz.T hu, rfl, rfl, _, rfl, ?_⟩
      rw [decide_eq_false (by decide +kernel)]
      refine iteF ?_
      refine iteF ⟨_, rfl, u, _, _, _, rfl, rfl, G2.fz.T hu, rfl, rfl, _, rfl, ?_⟩
      rw [decide_eq_false (by decide +kernel)]
      refine iteF ⟨_, rfl, u, _, _, _, rfl, rfl, G2.fz.T hu, rfl, rfl, _, rfl, ?_⟩
      rw [decide_eq_true rfl]
      refine iteT ⟨_, rfl, u, _, _, _, rfl, rfl, G2.fz.T hu, rfl, qt, rfl, ⟨_, G2.fz.T hqt⟩, ?_⟩
      refine lc_filter (ra := rSum cs) (r := rSum cs) (fun t => (wrt n rd t).isSome) id walk_tup G2.fz prt (fun F' H' g => g.fz.T (g.ff _ _ hqt)) (by omega) ?_ ?_
      · rintro i xx t F3 H3 K1 K0 ht G3 rt hK1 hK0
        have htm := List.mem_of_getElem? ht
        refine ⟨rfl, _, rfl, _, rfl, Am, F3, xx, yl, t, sl, rfl, G3.fz, rt, (osm t htm).1.ln, MonoR.up (G2.trans G3).ff rsl, fun F4 H4 v4 g4 e4 => ?_⟩
        subst e4
        rw [silent_eq osl (osm t htm).2]
        refine ⟨_, rfl, ?_⟩
        cases ew : wrt n rd t with
        | none => exact iteF (hK0 (by rw [ew]; rfl) _ _ g4)
        | some i => exact iteT ⟨_, rfl, hK1 (by rw [ew]; rfl) _ _ _ g4 (MonoR.up g4.ff rt)⟩
      rintro F3 H3 lp G3 rl3
      rw [List.map_id] at rl3
      have G23 := G2.trans G3
      refine ⟨_, rfl, _, rfl, u, _, _, _, rfl, rfl, G3.fz.T (G3.ff _ _ hu), rfl, _, rfl, ?_⟩
      refine ⟨Am, F3, x, z, .ref lp, f, c', n, rd, _, h, rfl, rfl, G3.fz, G23.ff _ _ hf, G23.ff _ _ hc, MonoR.up G23.ff rn, MonoR.up G23.ff rz, ok, rl3, Nat.le_trans (List.length_filter_le _ _) hts, fun t ht => osm t (List.mem_filter.mp ht).1, fun F4 H4 v4 g4 e4 => ?_⟩
      obtain ⟨hL3, hF3⟩ := G3.cell hsS hL2 (by exact hF1)
      obtain ⟨hL4, hF4⟩ := g4.cell hsS hL3 hF3
      cases ev : voteV n rd h (ts.filter fun t => (wrt n rd t).isSome) with
      | some t =>
        rw [ev] at e4
        obtain ⟨pp, xt, rfl, hpp, rt⟩ := e4
        have hv : runP n rd l l.length 0 = some t := by
          rw [← hrun]; unfold runP; rw [hst]
          show (match voteV n rd h (ts.filter fun t => (wrt n rd t).isSome) with | some t => some t | none => runP n rd l fuel (at_ + 1)) = _
          rw [ev]
        refine ⟨pp, _, rfl, g4.fz.T hpp, rfl, _, _, rfl, _, _, rfl, rfl, ?_⟩
        refine ⟨_, rfl, rfl, _, rfl, ?_⟩
        rw [decide_eq_false (by decide +kernel)]
        refine iteT ⟨_, rfl, _, rfl, _, rfl, by show 3 ≤ sizeLine; decide, fun r hr => ?_⟩
        refine k _ _ _ ((G23.trans g4).new (o := .tup [.str "tells", xt, .ref sn]) hr) ?_
        rw [hv]
        exact ⟨r, xt, _, rfl, upd_same, MonoR.up (same_new (g4.fz.free hr)) rt⟩
      | none =>
        rw [ev] at e4
        obtain ⟨pp, rfl, hpp⟩ := e4
        have hv : runP n rd l fuel (at_ + 1) = runP n rd l l.length 0 := by
          rw [← hrun]
          conv => rhs; unfold runP
          rw [hst]
          show _ = (match voteV n rd h (ts.filter fun t => (wrt n rd t).isSome) with | some t => some t | none => runP n rd l fuel (at_ + 1))
          rw [ev]
        refine ⟨pp, _, rfl, g4.fz.T hpp, rfl, _, _, rfl, _, _, rfl, rfl, ?_⟩
        refine ⟨_, rfl, rfl, _, rfl, ?_⟩
        rw [decide_eq_true rfl]
        exact iteF ⟨at_ + 1, by omega, F4, _, _, _, _, _, _, fuel, rfl, G23.trans g4, hF4, hL4, hys2, hnl, by omega, hv⟩
    | iff a b g =>
      obtain ⟨u, x1, x2, rfl, hu, r1, r2⟩ := rst1
      have oa : OkSm n a := ⟨hsum a (List.mem_cons_self ..), (hnm a (List.mem_cons_self ..)).2⟩
      have ob : OkSm n b := ⟨hsum b (List.mem_cons_of_mem _ (List.mem_cons_self ..)), (hnm b (List.mem_cons_of_mem _ (List.mem_cons_self ..))).2⟩
      obtain ⟨_, _, hg1, hg2, _⟩ := okl.ok at_ _ hst
      have hnl := okl.notLast hst rfl
      refine ⟨_, rfl, u, _, _, _, rfl, rfl, G2.fz.T hu, rfl, rfl, _, rfl, ?_⟩
      rw [decide_eq_false (by decide +kernel)]
      refine iteF ⟨_, rfl, u, _, _, _, rfl, rfl, G2.fz.T hu, rfl, rfl, _, rfl, ?_⟩
      rw [decide_eq_false (by decide +kernel)]
      refine iteF ?_
      refine iteF ⟨_, rfl, u, _, _, _, rfl, rfl, G2.fz.T hu, rfl, rfl, _, rfl, ?_⟩
      rw [decide_eq_false (by decide +kernel)]
      refine iteF ⟨_, rfl, u, _, _, _, rfl, rfl, G2.fz.T hu, rfl, rfl, _, rfl, ?_⟩
      rw [decide_eq_false (by decide +kernel)]
      have hru : runP n rd l (fuel + 1) at_ = if (wrt n rd a).isSome = true ∧ wrt n rd a = wrt n rd b then runP n rd l fuel g else runP n rd l fuel (at_ + 1) := by
        conv => lhs; unfold runP
        rw [hst]
      rw [hru] at hrun
      refine iteF ⟨_, rfl, u, _, _, _, rfl, rfl, G2.fz.T hu, rfl, _, rfl, Am, F1, x1, yl, a, sl, rfl, G2.fz, r1, oa.1.ln, MonoR.up G2.ff rsl, fun F3 H3 v3 g3 e3 => ?_⟩
      subst e3
      rw [silent_eq osl oa.2]
      refine ⟨_, rfl, ?_⟩
      have G3 := G2.trans g3
      obtain ⟨hL3, hF3⟩ := g3.cell hsS hL2 hF1
      cases ea : wrt n rd a with
      | none =>
        rw [ea, if_neg (by simp)] at hrun
        exact iteF ⟨at_ + 1, by omega, F3, _, _, _, _, _, _, fuel, rfl, G3, hF3, hL3, hys2, hnl, by omega, hrun⟩
      | some ia =>
        refine iteT ⟨_, rfl, u, _, _, _, rfl, rfl, G3.fz.T (g3.ff _ _ hu), rfl, _, rfl, Am, F3, x2, yl, b, sl, rfl, G3.fz, MonoR.up g3.ff r2, ob.1.ln, MonoR.up G3.ff rsl, fun F4 H4 v4 g4 e4 => ?_⟩
        subst e4
        rw [silent_eq osl ob.2]
        refine ⟨_, rfl, ?_⟩
        have G4 := G3.trans g4
        have g34 := g3.trans g4
        obtain ⟨hL4, hF4⟩ := g4.cell hsS hL3 hF3
        cases eb : wrt n rd b with
        | none =>
          rw [ea, eb, if_neg (by simp)] at hrun
          exact iteF ⟨at_ + 1, by omega, F4, _, _, _, _, _, _, fuel, rfl, G4, hF4, hL4, hys2, hnl, by omega, hrun⟩
        | some ib =>
          refine iteT ⟨f, c', rfl, G4.fz.sub _ _ (G4.ff _ _ hf), _, rfl, u, _, _, _, rfl, rfl, G4.fz.T (g34.ff _ _ hu), rfl, _, rfl, u, _, _, _, rfl, rfl, G4.fz.T (g34.ff _ _ hu), rfl, G4.fz.sub _ _ (G4.ff _ _ hf), G4.fz.sub _ _ (G4.ff _ _ hc), ?_⟩
          refine ⟨Am, F4, x, z, x1, x2, n, rd, a, b, rfl, rfl, G4.fz, MonoR.up G4.ff rn, MonoR.up G4.ff rz, MonoR.up g34.ff r1, MonoR.up g34.ff r2, ok, oa, ob, fun F5 H5 v5 g5 e5 => ?_⟩
          subst e5
          have g345 := g34.trans g5
          have G5 := G4.trans g5
          obtain ⟨hL5, hF5⟩ := g5.cell hsS hL4 hF4
          refine ⟨_, rfl, rfl, _, rfl, iteF ?_⟩
          refine ⟨_, rfl, _, rfl, ?_⟩
          by_cases cw : wrt n rd a = wrt n rd b
          · rw [decide_eq_true cw]
            rw [if_pos ⟨by rw [ea]; rfl, cw⟩] at hrun
            exact iteT ⟨_, rfl, u, _, _, _, rfl, rfl, G5.fz.T (g345.ff _ _ hu), rfl, g, hg1, F5, _, _, _, _, _, _, fuel, rfl, G5, hF5, hL5, by omega, hg2, by omega, hrun⟩
          · rw [decide_eq_false cw]
            rw [if_neg fun h => cw h.2] at hrun
            exact iteF ⟨at_ + 1, by omega, F5, _, _, _, _, _, _, fuel, rfl, G5, hF5, hL5, hys2, hnl, by omega, hrun⟩
end
end Rv
end

section
set_option Elab.async false
set_option autoImplicit false
set_option linter.all false
set_option maxRecDepth 100000
set_option maxHeartbeats 4000000
/-! RvOut: outcome's calls with keywords. -/
namespace Rv
open PySem L2 PyProof.Rows PySem.Spec LamX NdefX
def gA {α : Type} : List α → List α → List α
  | [], [a, b, c] => [a, b, c]
  | _, _ => []
def gB {α : Type} : List α → List α → List α
  | [], [b, c, a] => [a, b, c]
  | _, _ => []
abbrev ksA : List Str := ["net", "rule", "readings"]
abbrev ksB : List Str := ["rule", "readings", "net"]
abbrev sOutcome : Stmt := top 70
abbrev pOutcome : List Str := ["net", "rule", "readings"]
abbrev fdO (dV kV doc pm : Value) (an : Option Addr) (c : Addr) (ct : Value) : FuncData := PySem.W.fnOf "outcome" "outcome" (defArgs sOutcome) (defBody sOutcome) (defScope sOutcome) dV kV doc pm an (.ref c) ct
def DnO (K : PySem.W.Frag) (mg : Str → Option Value) (c : Addr) : Prop :=
  ∃ (f : Addr) (oc : Value) (od : Option Addr) (dV kV doc pm : Value) (an : Option Addr) (ct : Value) (osl : Array (Option Value)), K.lookup f = some ⟨oc, od, .func (fdO dV kV doc pm an c ct), osl⟩ ∧ PySem.W.codeIn K (.ref c) "outcome" = true ∧ PySem.W.keepIn K (.ref f) = true ∧ mg "outcome" = some (.ref f) ∧
    Binds K (fdO dV kV doc pm an c ct) pOutcome [] ∧ KBinds K (fdO dV kV doc pm an c ct) pOutcome ksA gA gA ∧ KBinds K (fdO dV kV doc pm an c ct) pOutcome ksB gB gB
theorem vals3A {vs zs : List V} {us ws : List Value} (h : Vals vs us) (g : Vals zs ws) : Vals (gA vs zs) (gA us ws) := by
  cases h with
  | cons => exact .nil
  | nil =>
    cases g with
    | nil => exact .nil
    | cons r1 g =>
      cases g with
      | nil => exact .nil
      | cons r2 g =>
        cases g with
        | nil => exact .nil
        | cons r3 g =>
          cases g with
          | nil => exact .cons r1 (.cons r2 (.cons r3 .nil))
          | cons => exact .nil
theorem vals3B {vs zs : List V} {us ws : List Value} (h : Vals vs us) (g : Vals zs ws) : Vals (gB vs zs) (gB us ws) := by
  cases h with
  | cons => exact .nil
  | nil =>
    cases g with
    | nil => exact .nil
    | cons r1 g =>
      cases g with
      | nil => exact .nil
      | cons r2 g =>
        cases g with
        | nil => exact .nil
        | cons r3 g =>
          cases g with
          | nil => exact .cons r3 (.cons r1 (.cons r2 .nil))
          | cons => exact .nil
theorem kbA {K : PySem.W.Frag} {doc pm ct : Value} {an : Option Addr} {c : Addr} : KBinds K (fdO .none .none doc pm an c ct) pOutcome ksA gA gA := by
  refine ⟨fun s us ws _ hl => ?_, vals3A⟩
  match us, ws, hl with
  | [], [a, b, c], _ => exact .of_eq rfl
theorem kbB {K : PySem.W.Frag} {doc pm ct : Value} {an : Option Addr} {c : Addr} : KBinds K (fdO .none .none doc pm an c ct) pOutcome ksB gB gB := by
  refine ⟨fun s us ws _ hl => ?_, vals3B⟩
  match us, ws, hl with
  | [], [a, b, c], _ => exact .of_eq rfl
theorem kb0 {K : PySem.W.Frag} {doc pm ct : Value} {an : Option Addr} {c : Addr} : Binds K (fdO .none .none doc pm an c ct) pOutcome [] := .all fun us hl => by
  match us, hl with
  | [a, b, c], _ => rfl
structure CalK (P : Program) (w : World) (K : PySem.W.Frag) (mg : Str → Option Value) (base : Heap) (k : Nat) (x : Str) (ks : List Str) (gV : List V → List V → List V) (sp : Sp) : Prop where
  ex : ∃ (f : Addr) (fd : FuncData) (ps : List Str) (g : List Value → List Value → List Value), FnOk P w K mg base CX0 k f fd ps sp ∧ mg x = some (.ref f) ∧ PySem.W.keepIn K (.ref f) = true ∧ KBinds K fd ps ks g gV
structure CalO (P : Program) (w : World) (K : PySem.W.Frag) (mg : Str → Option Value) (base : Heap) (k : Nat) (sp : Sp) : Prop where
  c : Cal P w K mg base k "outcome" sp
  kA : CalK P w K mg base k "outcome" ksA gA sp
  kB : CalK P w K mg base k "outcome" ksB gB sp
section
variable {X : Cx} {k j : Nat} {x : Str} {ks : List Str} {sp : Sp} {p pos : Pos} {kws : List Keyword} {tk : TA} {gV : List V → List V → List V}
theorem pe_oK (c : CalK X.prog X.w X.K X.mg X.base k x ks gV sp) (hr : Room j X.A) (hk : k ≤ j) (hg : Gl X x) (hkw : PK X kws tk)
    (hall : (backToKw pos (keywordEach kws X.env)).all (·.1.isSome) = true := by rfl) (hks : (backToKw pos (keywordEach kws X.env)).filterMap (·.1) = ks := by rfl)
    (hdb : (x == ("__debug__" : Str)) = false := by decide) (hpl : ((backTo pos (starEach [] X.env)).any (·.1) || (backToKw pos (keywordEach kws X.env)).any (·.1.isNone)) = false := by rfl) :
    PE X (.Call (.Name x p) [] kws pos) (fun σ H Q => tk σ H fun zs H2 => sp (gV [] zs) H2 Q E0) := by
  obtain ⟨f, fd, ps, g, F, hm, kp, b⟩ := c.ex
  refine ⟨fun pins s σ H Q I h => ?_⟩
  refine wpAny_Call_Name_kw (ld_glob I hg hm ?_ hdb)
  refine PySem.W.callWith_KW0 (h₀ := X.base) I.ok.mod.kin kp hall (thn (hkw.run pos pins s σ H _ I h) fun ws s2 ⟨zs, H2, I2, rz, q2⟩ => ⟨I2.kIn, ?_⟩) hpl
  rw [hks]
  exact run_fnk F (hr.mono hk) b pass0 I2 .nil rz q2
end
theorem calO_of {P : Program} {w : World} {K : PySem.W.Frag} {mg : Str → Option Value} {base : Heap} {c : Addr} {N : List Str} {k : Nat} {sp : Sp} (D : DnO K mg c) (S : FnScope N pOutcome (defScope sOutcome)) (len : ∀ vs H Q E, sp vs H Q E → vs.length = 3)
    (hbody : ∀ (f : Addr) (A : Around) (outer : List Env) (s : Shared) (H : Hp) (vs : List V) (Q : VK) (E : XK), Room k (A.deeper (envOfC "outcome" (defScope sOutcome) s.heap.objs.size f (.ref c))) → sp vs H Q E →
      ∃ t, PSs (cxOf CX0 P w K mg base N "outcome" (defScope sOutcome) f (.ref c) A outer s H E).nox (defBody sOutcome) t ∧ t { nx := fun _ H' => Q .non H', rt := Q } (start N vs) H) : CalO P w K mg base (k + 1) sp := by
  obtain ⟨f, oc, od, dV, kV, doc, pm, an, ct, osl, lk, hcd, kp, hm, b0, bA, bB⟩ := D
  have F : FnOk P w K mg base CX0 (k + 1) f (fdO dV kV doc pm an c ct) pOutcome sp := fn_of lk hcd S len fun A outer s H vs Q E hr h => by
    obtain ⟨t, h1, h2⟩ := hbody f A outer s H vs Q E hr h
    exact ⟨t, h1.nox, h2⟩
  exact ⟨⟨f, _, _, F, hm, kp, b0⟩, ⟨f, _, _, _, F, hm, kp, bA⟩, ⟨f, _, _, _, F, hm, kp, bB⟩⟩
end Rv
end

section
set_option Elab.async false
set_option autoImplicit false
set_option linter.all false
set_option maxRecDepth 100000
set_option maxHeartbeats 4000000
namespace Rv
open PySem L2 PyProof.Rows PySem.Spec LamX NdefX
/-! ### outcome -/
abbrev qAsk : Str := "outcome.<locals>.ask"
def outV (n : NetD) (rd : List (Option Int)) (l : List Stp) : Option Int := match runP n rd l l.length 0 with
  | some t => wrt n rd t
  | none => none
abbrev spOutcome (cs : Cs) (P : Addr) : Sp := fun vs H Q _ => ∃ (A : Amb) (F : Hp) (x y z : V) (n : NetD) (ls : List Tt) (l : List Stp) (rd : List (Option Int)), vs = [x, y, z] ∧ Fz A F H ∧ TabA A P qAsk ∧ rNet cs F x n ∧ rRule cs F y (ls, l) ∧ rTup rOI F z rd ∧ OkW n rd ∧ OkRs n.2 rd ∧ OkSt l ∧ OkNm l (n.2.map (·.1)) ∧
  Out A F H Q fun _ _ v => v = oV (outV n rd l)
def silL (ms : List MeterD) (rd : List (Option Int)) : List Tt := ((ms.zip rd).filter fun p => p.2.isNone).map fun p => p.1.1
theorem silL_len (ms : List MeterD) (rd : List (Option Int)) : (silL ms rd).length ≤ ms.length := by
  unfold silL
  rw [List.length_map]
  have := List.length_filter_le (fun p : MeterD × Option Int => p.2.isNone) (ms.zip rd)
  rw [List.length_zip] at this
  omega
theorem silL_snoc {ms : List MeterD} {rd : List (Option Int)} {i : Nat} {m : MeterD} {o : Option Int} (hm : ms[i]? = some m) (ho : rd[i]? = some o) : silL (ms.take (i + 1)) (rd.take (i + 1)) = silL (ms.take i) (rd.take i) ++ if o.isNone = true then [m.1] else [] := by
  have h1 := (List.getElem?_eq_some_iff.mp hm).1
  have h2 := (List.getElem?_eq_some_iff.mp ho).1
  unfold silL
  rw [take_snoc hm, take_snoc ho, List.zip_append (by rw [List.length_take, List.length_take]; omega), List.filter_append, List.map_append]
  cases o <;> rfl
theorem runP_mem {n : NetD} {rd : List (Option Int)} {l : List Stp} : ∀ (m k : Nat) {t : Tm}, runP n rd l m k = some t → ∃ s ∈ l, t ∈ sumsS s
  | 0, _, _, h => by cases h
  | m + 1, k, t, h => by
    unfold runP at h
    cases e : l[k]? with
    | none => rw [e] at h; cases h
    | some s =>
      rw [e] at h
      have hm := List.mem_of_getElem? e
      cases s with
      | dbt => cases h
      | tell t' =>
        dsimp only at h
        split at h
        · cases h
        · cases h; exact ⟨_, hm, List.mem_cons_self ..⟩
      | vote hh ts =>
        dsimp only at h
        split at h
        · rename_i t2 ht
          cases h
          exact ⟨_, hm, (List.mem_filter.mp (List.mem_of_find?_eq_some ht)).1⟩
        · exact runP_mem m _ h
      | iff a b g =>
        dsimp only at h
        split at h
        · exact runP_mem m _ h
        · exact runP_mem m _ h
theorem sil_ok {n : NetD} {rd : List (Option Int)} (ok : OkW n rd) : OkSl n rd (silL n.2 rd) := by
  intro nm hnm
  have key : ∀ (ms : List MeterD) (rd : List (Option Int)), rd.length = ms.length → (ms.map (·.1)).Nodup → nm ∈ ms.map (·.1) → decide (nm ∈ silL ms rd) = (tb (ms.map (·.1)) rd nm).isNone := by
    intro ms
    induction ms with
    | nil => intro rd _ _ h; cases h
    | cons m r ih =>
      intro rd hl hd hm
      cases rd with
      | nil => simp at hl
      | cons o rd =>
        obtain ⟨h1, h2⟩ := List.nodup_cons.mp hd
        have hlr : rd.length = r.length := by simpa using hl
        show decide (nm ∈ silL (m :: r) (o :: rd)) = (if m.1 = nm then o else tb (r.map (·.1)) rd nm).isNone
        have sub : ∀ {x : Tt}, x ∈ silL r rd → x ∈ r.map (·.1) := fun {x} hx => by
          obtain ⟨p, hp, rfl⟩ := List.mem_map.mp hx
          exact List.mem_map_of_mem (List.of_mem_zip (List.mem_filter.mp hp).1).1
        have es : silL (m :: r) (o :: rd) = if o.isNone = true then m.1 :: silL r rd else silL r rd := by
          unfold silL
          rw [List.zip_cons_cons, List.filter_cons]
          split <;> rfl
        rw [es]
        by_cases e : m.1 = nm
        · rw [if_pos e]
          subst e
          cases o with
          | none => simp
          | some i => simp; exact fun hx => h1 (sub hx)
        · rw [if_neg e, ← ih rd hlr h2 ((List.mem_cons.mp hm).resolve_left fun q => e q.symm)]
          cases o with
          | none => simp [Ne.symm e]
          | some i => simp
  exact key n.2 rd ok.len ok.nd hnm
section
variable {P : Program} {w : World} {K : PySem.W.Frag} {mg : Str → Option Value} {base : Heap} {cs : Cs}
abbrev nOutcome : List Str := ["net", "rule", "readings", "silent", "ask", "word", "total", "rows", "meter", "reading"]
theorem scOutcome : FnScope nOutcome pOutcome (defScope sOutcome) := ⟨rfl, rfl, rfl, by decide +kernel, rfl, by decide +kernel, by decide +kernel⟩
theorem ndAsk : ndefB (defScope sOutcome) (C8.fnScope sAsk) fAsk = true := by decide +kernel
theorem c_outcome {c tP : Addr} (D : DnO K mg c) (T : Tx K mg cs) (TB : TabB base mg c tP) (n_zip : mg "zip" = none) (c_check_net : Cal P w K mg base 1 "check_net" (spCheckNet cs)) (c_check_rule : Cal P w K mg base 5 "check_rule" (spCheckRule cs)) (c_check_readings : Cal P w K mg base 4 "check_readings" (spCheckReadings cs))
    (p_Net_meters : Prp P w K mg base 1 cs.net "meters" (spNetMeters cs)) (p_Meter_name : Prp P w K mg base 1 cs.meter "name" (spMeterGet cs (fun t => .str (S t.1)))) (c_value_in : Cal P w K mg base 3 "value_in" (spValueIn cs)) (c_run : CalS P w K mg base 6 "run" fAsk (spRun cs)) : CalO P w K mg base 7 (spOutcome cs tP) := by
  refine calO_of D scOutcome (fun vs H Q E h => ?_) (fun f0 A outer s H vs Q E hr h => ?_)
  · obtain ⟨_, _, _, _, _, _, _, _, _, rfl, _⟩ := h
    rfl
  · obtain ⟨Am, F, x, y, z, n, ls, l, rd, rfl, Z, ta, rn, rr, rz, ok, okr, okl, onm, k⟩ := h
    refine ⟨_, (pss_cons (ps_expr (pe_c c_check_net hr (by decide) rfl (pa_cons (pv 0) pa_nil)))
      (pss_cons (ps_expr (pe_c c_check_rule hr (by decide) rfl (pa_cons (pv 0) (pa_cons (pv 1) pa_nil))))
      (pss_cons (ps_expr (pe_c c_check_readings hr (by decide) rfl (pa_cons (pv 0) (pa_cons (pv 2) pa_nil))))
      (pss_cons (ps_setLcG (i := 3) (own := [("meter", 8), ("reading", 9)]) rfl scOutcome.nd rfl rfl (sw_true rfl rfl rfl (by decide +kernel)) (pi_zipS (by rfl) n_zip (pa_cons (pe_pr p_Net_meters hr (by decide) (pv 0) rfl) (pa_cons (pv 2) pa_nil)) (pk_cons pe_bl pk_nil)) (blkOk_by (own := [("meter", 8), ("reading", 9)]) (N := nOutcome) (sc := defScope sOutcome) (by decide +kernel)) (fun _ _ _ _ _ => (pg_tupK K 2 rfl rfl (pgs_cons (pg_name (i := 8) scOutcome.nd rfl (.inl rfl) (.inr rfl)) (pgs_cons (pg_name (i := 9) scOutcome.nd rfl (.inl rfl) (.inr rfl)) pgs_nil)))) (fun _ _ _ _ _ => (pts_one (pt_cmpR op_isN (pv 9) pe_non (nomark _)))) (fun _ _ _ _ _ => (pe_pr p_Meter_name hr (by decide) (pv 8) rfl)))
      (pss_cons (ps_ndefP (st := sAsk) (q := qAsk) (i := 4) rfl TB rfl rfl (ndef_free ndAsk) rfl rfl rfl scOutcome.nd rfl (.inl rfl) (.inr rfl))
      (pss_cons (ps_asg (pe_cS c_run hr (by decide) (fun _ _ _ _ I => cells_here (js := [0, 2]) (fun _ => rfl) (Caps.made I.ok (ndef_free ndAsk) (ndef_fr ndAsk) rfl) I) rfl (pa_cons (pv 1) (pa_cons (pv 3) (pa_cons (pv 4) pa_nil)))) (pg_tupK K 3 rfl rfl (pgs_cons (pg_name (i := 5) scOutcome.nd rfl (.inl rfl) (.inr rfl)) (pgs_cons (pg_name (i := 6) scOutcome.nd rfl (.inl rfl) (.inr rfl)) (pgs_cons (pg_name (i := 7) scOutcome.nd rfl (.inl rfl) (.inr rfl)) pgs_nil)))))
      (pss_one (ps_ret (pe_ifExp (pt_cmpR op_eq (pv 5) pe_str (nomark _)) (pe_c c_value_in hr (by decide) rfl (pa_cons (pv 0) (pa_cons (pv 6) (pa_cons (pv 2) pa_nil)))) pe_non))))))))), ?_⟩
    refine ⟨_, rfl, Am, F, x, n, rfl, Z, rn, fun F1 H1 v1 g1 e1 => ?_⟩
    refine ⟨_, rfl, _, rfl, Am, F1, x, y, n, ls, l, rfl, g1.fz, MonoR.up g1.ff rn, MonoR.up g1.ff rr, onm, ok.l12, fun F2 H2 v2 g2 e2 => ?_⟩
    have G2 := g1.trans g2
    refine ⟨_, rfl, _, rfl, Am, F2, x, z, n, rd, rfl, g2.fz, MonoR.up G2.ff rn, MonoR.up G2.ff rz, ok.l12, okr, fun F3 H3 v3 g3 e3 => ?_⟩
    have G3 := G2.trans g3
    refine ⟨_, rfl, getNM g3.fz (MonoR.up G3.ff rn) fun F4 H4 v4 g4 ⟨q4, ms, e, hq4, prm⟩ => ?_⟩
    subst e
    have G4 := G3.trans g4
    have rz4 : rTup rOI F4 z rd := MonoR.up G4.ff rz
    obtain ⟨pz, zs, rfl, hz4, prz⟩ := rz4
    have hml := prd_len prm
    have hzl := prd_len prz
    refine ⟨_, rfl, q4, pz, ms, zs, rfl, rfl, g4.fz.T hq4, g4.fz.T hz4, ?_⟩
    refine lc_any (r := rS) (walk_zipS (K := K) (a := q4) (b := pz) (xs := ms) (ys := zs) (by rw [hml, hzl, ok.len])) g4.fz (fun i => silL (n.2.take i) (rd.take i)) rfl (fun i hi => ?_) (fun F' H' g => ⟨g.fz.T (g.ff _ _ hq4), g.fz.T (g.ff _ _ hz4)⟩) ?_ ?_
    · have q := silL_len (n.2.take i) (rd.take i)
      rw [List.length_take] at q
      have := ok.l12
      omega
    · rintro i xx F5 H5 H6 K1 K0 hi G5 ⟨U, y1, y2, rfl, hU, rfl, e1, e2⟩ hK1 hK0
      obtain ⟨m, hm, rm⟩ := prd_get prm e1
      obtain ⟨o, ho, ro⟩ := prd_get prz e2
      have ey : y2 = oV o := ro
      subst ey
      have G6 := G5.new (o := .tup [y1, oV o]) hU
      refine ⟨U, _, rfl, SqT.of upd_same, rfl, _, _, rfl, _, _, rfl, rfl, rfl, ?_⟩
      have es := silL_snoc hm ho
      have ge : Gr Am F5 H5 (upd F5 U (.tup [y1, oV o])) (upd H5 U (.tup [y1, oV o])) := (Gr.refl G5.fz).new hU
      cases o with
      | none =>
        refine ⟨_, rfl, rfl, _, rfl, iteT ⟨_, rfl, getM (fun t => .str (S t.1)) ge.fz (MonoR.up G6.ff rm) fun F7 H7 g7 => ?_⟩⟩
        exact hK1 _ _ _ m.1 es (ge.trans g7) rfl
      | some j =>
        refine ⟨_, rfl, rfl, _, rfl, iteF ?_⟩
        exact hK0 _ _ (by rw [es]; simp) ge
    rintro F5 H5 sp G5 rsl
    rw [hml, List.take_of_length_le (Nat.le_refl _), List.take_of_length_le (by rw [ok.len]; exact Nat.le_refl _)] at rsl
    have GG5 := G4.trans G5
    refine ndef_ok G5.fz ta fun f c' F6 H6 G6 hf hc => ?_
    have GG6 := GG5.trans G6
    refine ⟨_, rfl, _, rfl, _, rfl, Am, F6, x, .ref pz, y, .ref sp, f, c', n, rd, ls, l, silL n.2 rd, rfl, rfl, G6.fz, hf, hc, MonoR.up GG6.ff rn, MonoR.up GG6.ff rz, ok, MonoR.up GG6.ff rr, okl, onm, MonoR.up G6.ff rsl, sil_ok ok, fun F7 H7 v7 g7 e7 => ?_⟩
    have GG7 := GG6.trans g7
    cases er : runP n rd l l.length 0 with
    | none =>
      rw [er] at e7
      obtain ⟨pp, x1, x2, rfl, hpp⟩ := e7
      refine ⟨pp, _, rfl, g7.fz.T hpp, rfl, _, _, rfl, _, _, rfl, _, _, rfl, rfl, ?_⟩
      refine ⟨_, rfl, rfl, _, rfl, ?_⟩
      rw [decide_eq_false (by decide +kernel)]
      refine iteF (k _ _ _ GG7 ?_)
      unfold outV; rw [er]; rfl
    | some t =>
      rw [er] at e7
      obtain ⟨pp, x1, x2, rfl, hpp, rt⟩ := e7
      obtain ⟨st, hst, htm⟩ := runP_mem _ _ er
      refine ⟨pp, _, rfl, g7.fz.T hpp, rfl, _, _, rfl, _, _, rfl, _, _, rfl, rfl, ?_⟩
      refine ⟨_, rfl, rfl, _, rfl, ?_⟩
      rw [decide_eq_true rfl]
      refine iteT ⟨_, rfl, _, rfl, _, rfl, Am, F7, x, x1, .ref pz, n, t, rd, rfl, g7.fz, MonoR.up GG7.ff rn, rt, MonoR.up GG7.ff rz, ok.l12, ok.nd, ok.len, okl.sums _ hst _ htm, (onm _ hst _ htm).2, fun F8 H8 v8 g8 e8 => ?_⟩
      subst e8
      refine k _ _ _ (GG7.trans g8) ?_
      unfold outV; rw [er]
end
end Rv
end

section
set_option Elab.async false
set_option autoImplicit false
set_option linter.all false
set_option maxRecDepth 100000
set_option maxHeartbeats 4000000
namespace Rv
open PySem L2 PyProof.Rows PySem.Spec
theorem atI_rng {xs : List V} {i : Int} (h0 : 0 ≤ i) (h1 : i < xs.length) : ∃ v, v ∈ xs ∧ atI xs i = some v := by
  obtain ⟨k, rfl⟩ := Int.eq_ofNat_of_zero_le h0
  have hk : k < xs.length := by omega
  exact ⟨xs[k], List.getElem_mem hk, at0 k rfl (by simp [hk])⟩
/-- a call of take -/
theorem tk {A : Amb} {F H : Hp} {Q : VK} {sp : Addr} {n : Int} (Z : Fz A F H) (S : Spr A sp) (h0 : 0 < n) (h1 : n < 1000000000) (k : ∀ F' H' (i : Int), Gr A F H F' H' → 0 ≤ i → i < n → Q (.int i) H') : spTake [.ref sp, .int n] H Q E0 :=
  ⟨A, F, sp, n, rfl, Z, S, h0, h1, fun F' H' v g ⟨i, e, a, b⟩ => by rw [e]; exact k F' H' i g a b⟩
abbrev spNumber : Sp := fun vs H Q _ => ∃ (A : Amb) (F : Hp) (sp : Addr), vs = [.ref sp] ∧ Fz A F H ∧ Spr A sp ∧ Out A F H Q fun _ _ v => ∃ i : Int, v = .int i ∧ -(10 ^ 30 + 1) ≤ i ∧ i ≤ 10 ^ 30 + 1
abbrev spTimes : Sp := fun vs H Q _ => ∃ (A : Amb) (F : Hp) (sp : Addr), vs = [.ref sp, .int 1000003] ∧ Fz A F H ∧ Spr A sp ∧ Out A F H Q fun _ _ v => ∃ i : Int, v = .int i ∧ i ≠ 0 ∧ -1000003 ≤ i ∧ i ≤ 1000003
section
variable {P : Program} {w : World} {K : PySem.W.Frag} {mg : Str → Option Value} {base : Heap} {cs : Cs}
abbrev sLawNumber : Stmt := top 79
abbrev nLawNumber : List Str := ["_law_spring_here", "_law_way"]
abbrev pLawNumber : List Str := ["_law_spring_here"]
theorem scLawNumber : FnScope nLawNumber pLawNumber (defScope sLawNumber) := ⟨rfl, rfl, rfl, by decide +kernel, rfl, by decide +kernel, by decide +kernel⟩

theorem c__law_number (D : Dn K mg "_law_number" sLawNumber pLawNumber) (T : Tx K mg cs) (c__law_take : Cal P w K mg base 1 "_law_take" spTake) : Cal P w K mg base 2 "_law_number" spNumber := by
  refine cal_of D scLawNumber (fun vs H Q E h => ?_) (fun f cdv A outer s H vs Q E hr h => ?_)
  · obtain ⟨_, _, _, rfl, _⟩ := h
    rfl
  · obtain ⟨Am, F, sp, rfl, Z, S, k⟩ := h
    refine ⟨_, (pss_cons (ps_set (i := 1) scLawNumber.nd rfl (Or.inl rfl) (pe_c c__law_take hr (by decide) rfl (pa_cons (pv 0) (pa_cons pe_int pa_nil))))
      (pss_cons (ps_if (pt_cmpR op_lt (pv 1) pe_int (nomark _)) (pss_one (ps_ret (pe_op op_sub (pe_c c__law_take hr (by decide) rfl (pa_cons (pv 0) (pa_cons pe_int pa_nil))) pe_int))) pss_nil)
      (pss_cons (ps_if (pt_cmpR op_eq (pv 1) pe_int (nomark _)) (pss_one (ps_ret (pe_op op_sub (pe_c c__law_take hr (by decide) rfl (pa_cons (pv 0) (pa_cons pe_int pa_nil))) pe_int))) pss_nil)
      (pss_one (ps_ret (pe_ix (r := rIxL K) ix_list (pe_lst (pa_cons (pe_op op_add (pe_op op_pow pe_int pe_int) pe_int) (pa_cons (pe_op op_sub (pe_un un_neg (pe_op op_pow pe_int pe_int)) pe_int) (pa_cons (pe_op op_pow pe_int pe_int) (pa_cons (pe_op op_add (pe_un un_neg (pe_op op_pow pe_int pe_int)) pe_int) pa_nil))))) (pe_c c__law_take hr (by decide) rfl (pa_cons (pv 0) (pa_cons pe_int pa_nil))) (fun _ _ => rfl))))))), ?_⟩
    refine ⟨_, rfl, tk Z S (by decide) (by decide) fun F1 H1 i g1 h0 h1 => ?_⟩
    refine ⟨_, rfl, _, _, rfl, rfl, _, rfl, ?_⟩
    refine ite2 (fun hc => ?_) (fun hc => ?_)
    · refine ⟨_, rfl, tk g1.fz S (by decide) (by decide) fun F2 H2 j g2 j0 j1 => ?_⟩
      refine ⟨_, _, rfl, rfl, ?_⟩
      exact k _ _ _ (g1.trans g2) ⟨_, rfl, by omega, by omega⟩
    · refine ⟨_, rfl, rfl, _, rfl, ?_⟩
      refine ite2 (fun hc => ?_) (fun hc => ?_)
      · refine ⟨_, rfl, tk g1.fz S (by decide) (by decide) fun F2 H2 j g2 j0 j1 => ?_⟩
        refine ⟨_, _, rfl, rfl, ?_⟩
        exact k _ _ _ (g1.trans g2) ⟨_, rfl, by omega, by omega⟩
      · refine ⟨_, _, rfl, rfl, ⟨by decide, by decide, by decide⟩, _, _, rfl, rfl, _, _, rfl, rfl, ⟨by decide, by decide, by decide⟩, _, rfl, _, _, rfl, rfl, _, _, rfl, rfl, ⟨by decide, by decide, by decide⟩, _, _, rfl, rfl, ⟨by decide, by decide, by decide⟩, _, rfl, _, _, rfl, rfl, by show 4 ≤ sizeLine; decide, fun l hl => ?_⟩
        have e1 : (10 : Int) ^ (30 : Int).toNat + 1 = 10 ^ 30 + 1 := by decide
        have e2 : -(10 : Int) ^ (30 : Int).toNat - 1 = -(10 ^ 30 + 1) := by decide
        have e3 : (10 : Int) ^ (12 : Int).toNat = 10 ^ 12 := by decide
        have e4 : -(10 : Int) ^ (12 : Int).toNat + 1 = -10 ^ 12 + 1 := by decide
        rw [e1, e2, e3, e4] at *
        have G2 := g1.new (o := .lst [.int (10 ^ 30 + 1), .int (-(10 ^ 30 + 1)), .int (10 ^ 12), .int (-10 ^ 12 + 1)]) hl
        refine ⟨_, rfl, tk G2.fz S (by decide) (by decide) fun F4 H4 j g4 j0 j1 => ?_⟩
        obtain ⟨v, hv, hat⟩ := atI_rng (xs := [.int (10 ^ 30 + 1), .int (-(10 ^ 30 + 1)), .int (10 ^ 12), .int (-10 ^ 12 + 1)]) j0 j1
        refine ⟨l, _, _, _, rfl, rfl, g4.fz.L (g4.ff _ _ upd_same), hat, ?_⟩
        refine k _ _ _ (G2.trans g4) ?_
        simp only [List.mem_cons, List.not_mem_nil, or_false] at hv
        rcases hv with e | e | e | e <;> exact ⟨_, e, by decide, by decide⟩
abbrev sLawTimes : Stmt := top 81
abbrev nLawTimes : List Str := ["_law_spring_here", "_law_wide", "_law_size"]
abbrev pLawTimes : List Str := ["_law_spring_here", "_law_wide"]
theorem scLawTimes : FnScope nLawTimes pLawTimes (defScope sLawTimes) := ⟨rfl, rfl, rfl, by decide +kernel, rfl, by decide +kernel, by decide +kernel⟩

theorem c__law_times (D : Dn K mg "_law_times" sLawTimes pLawTimes) (T : Tx K mg cs) (c__law_take : Cal P w K mg base 1 "_law_take" spTake) : Cal P w K mg base 2 "_law_times" spTimes := by
  refine cal_of D scLawTimes (fun vs H Q E h => ?_) (fun f cdv A outer s H vs Q E hr h => ?_)
  · obtain ⟨_, _, _, rfl, _⟩ := h
    rfl
  · obtain ⟨Am, F, sp, rfl, Z, S, k⟩ := h
    refine ⟨_, (pss_cons (ps_set (i := 2) scLawTimes.nd rfl (Or.inl rfl) (pe_ix (r := rIxL K) ix_list (pe_lst (pa_cons pe_int (pa_cons pe_int (pa_cons pe_int (pa_cons pe_int (pa_cons pe_int (pa_cons pe_int (pa_cons pe_int (pa_cons (pv 1) pa_nil))))))))) (pe_c c__law_take hr (by decide) rfl (pa_cons (pv 0) (pa_cons pe_int pa_nil))) (fun _ _ => rfl)))
      (pss_one (ps_ret (pe_ix (r := rIxL K) ix_list (pe_lst (pa_cons (pv 2) (pa_cons (pe_un un_neg (pv 2)) pa_nil))) (pe_c c__law_take hr (by decide) rfl (pa_cons (pv 0) (pa_cons pe_int pa_nil))) (fun _ _ => rfl))))), ?_⟩
    refine ⟨_, rfl, by show 8 ≤ sizeLine; decide, fun l hl => ?_⟩
    have G1 := (Gr.refl Z).new (o := .lst [.int 1, .int 1, .int 1, .int 1, .int 2, .int 3, .int 12, .int 1000003]) hl
    refine ⟨_, rfl, tk G1.fz S (by decide) (by decide) fun F2 H2 i g2 h0 h1 => ?_⟩
    obtain ⟨v, hv, hat⟩ := atI_rng (xs := [.int 1, .int 1, .int 1, .int 1, .int 2, .int 3, .int 12, .int 1000003]) h0 h1
    refine ⟨l, _, _, _, rfl, rfl, g2.fz.L (g2.ff _ _ upd_same), hat, ?_⟩
    obtain ⟨z, rfl, z0, z1, z2⟩ : ∃ z : Int, v = .int z ∧ z ≠ 0 ∧ -1000003 ≤ z ∧ z ≤ 1000003 := by
      simp only [List.mem_cons, List.not_mem_nil, or_false] at hv
      rcases hv with e | e | e | e | e | e | e | e <;> exact ⟨_, e, by decide, by decide, by decide⟩
    refine ⟨_, rfl, _, rfl, _, rfl, by show 2 ≤ sizeLine; decide, fun m hm => ?_⟩
    have G2 := G1.trans g2
    have G3 := G2.new (o := .lst [.int z, .int (-z)]) hm
    refine ⟨_, rfl, tk G3.fz S (by decide) (by decide) fun F4 H4 j g4 j0 j1 => ?_⟩
    obtain ⟨v, hv, hat⟩ := atI_rng (xs := [.int z, .int (-z)]) j0 j1
    refine ⟨m, _, _, _, rfl, rfl, g4.fz.L (g4.ff _ _ upd_same), hat, ?_⟩
    refine k _ _ _ (G3.trans g4) ?_
    simp only [List.mem_cons, List.not_mem_nil, or_false] at hv
    rcases hv with e | e <;> exact ⟨_, e, by omega, by omega, by omega⟩
end
end Rv
end

section
set_option Elab.async false
set_option autoImplicit false
set_option linter.all false
set_option maxRecDepth 100000
set_option maxHeartbeats 4000000
/-! RvSrt: sorted over a list of pairs (text, int) with names apart. -/
namespace Rv
open PySem L2 PyProof.Rows PySem.Spec PySem.W
abbrev Pr3 := Addr × Tt × Int
def encP (d : Pr3) : PyData := .tuple [.str (S d.2.1), .int d.2.2]
def rSortPS (K : PySem.W.Frag) : List V → Hp → VK → Prop := fun vs H Q => ∃ (a : Addr) (ds : List Pr3), vs = [V.ref a] ∧ SqL K H a (ds.map fun d => V.ref d.1) ∧ (∀ d ∈ ds, H d.1 = some (.tup [.str (S d.2.1), .int d.2.2])) ∧ ds.length ≤ 1000 ∧ (ds.map (·.2.1)).Nodup ∧
  ∀ (ys : List Pr3) p, ys.Perm ds → (ys.map (·.2)).Pairwise (fun x y => x.1 < y.1) → H p = none → Q (.ref p) (upd H p (.lst (ys.map fun d => V.ref d.1)))
theorem cps_S (l : Tt) : (S l).cps.toList = l := by simp [S, SX.S]
theorem dataLt_P {x y : Pr3} (h : x.2.1 ≠ y.2.1) : dataLt (encP x) (encP y) = decide (x.2.1 < y.2.1) := by
  unfold encP
  rw [dataLt_pair (by rfl) (by rfl)]
  have e : PyData.eqv (.str (S x.2.1)) (.str (S y.2.1)) = false := by
    show (S x.2.1 == S y.2.1) = false
    rw [beq_eq_false_iff_ne]
    exact fun q => h (SX.S_inj q)
  rw [e, if_neg (by decide), dataLt_str, cps_S, cps_S]
section
variable {X : Cx}
theorem vals_refs3 : ∀ {ds : List Pr3}, Vals (ds.map fun d => V.ref d.1) (ds.map fun d => Value.ref d.1)
  | [] => .nil
  | _ :: _ => .cons rfl vals_refs3
theorem vals_uniq3 : ∀ {ds : List Pr3} {us : List Value}, Vals (ds.map fun d => V.ref d.1) us → us = ds.map fun d => Value.ref d.1
  | [], _, .nil => rfl
  | d :: ds, u :: us, .cons r t => by
    have e : u = Value.ref d.1 := r
    rw [e, List.map_cons, vals_uniq3 t]
theorem each3 {R : Value → Pr3 → Prop} : ∀ {ds : List Pr3}, (∀ d ∈ ds, R (.ref d.1) d) → EachIs R (ds.map fun d => Value.ref d.1) ds
  | [], _ => .nil
  | d :: ds, h => .cons (h d (List.mem_cons_self ..)) (each3 fun e he => h e (List.mem_cons_of_mem _ he))
theorem each3_eq : ∀ {ds : List Pr3} {us : List Value}, EachIs (fun v (d : Pr3) => v = Value.ref d.1) us ds → us = ds.map fun d => Value.ref d.1
  | _, _, .nil => rfl
  | _, _, .cons r t => by rw [List.map_cons, ← each3_eq t, r]
theorem call_sortedPS (hu : X.A.units + 64 < cLine) : CallR X (.builtin "sorted") (rSortPS X.K) := by
  intro pins s σ H vs us Q I r h
  obtain ⟨a, ds, rfl, hs, hd, hl, hnd, q⟩ := h
  obtain ⟨its, rv, hit, _⟩ := I.list hs
  rw [Vals.ref1 r]
  have ei := vals_uniq3 rv
  subst ei
  refine sorted_data (enc := encP) (bs := ds) (R := fun v (d : Pr3) => v = Value.ref d.1) hit.isList (each3 fun d _ => rfl) (each3 fun d hm => ?_) (AllAlike.of fun b b' => rfl) (Sortable.tuples fun b => ⟨_, _, rfl⟩) (by rw [sizeLine_eq]; omega) (fun b _ => ?_) fun out h1 h2 => ?_
  · exact Dp.reads I (encP d) (.ref d.1) (.ref d.1) (.tup (SqT.of (hd d hm)) (.cons (.str _) (.cons (.int _) .nil))) rfl
  · have : (encP b).depth ≤ 1 := by simp [encP, PyData.depth, PyData.depthAll]
    omega
  · have eo := each3_eq h2
    subst eo
    obtain ⟨ep, he'⟩ := PyProof.Rows.sortedAll_at s.heap (ds.map fun d => Value.ref d.1) (List.toArray ((ds.mergeSort (dataLe false encP)).map fun d => Value.ref d.1))
    have hp := List.mergeSort_perm ds (dataLe false encP)
    have hlen : ((ds.mergeSort (dataLe false encP)).map fun d => V.ref d.1).length ≤ sizeLine := by rw [List.length_map, hp.length_eq, sizeLine_eq]; omega
    refine ⟨.ref _, upd H (s.heap.objs.size + 1) (.lst ((ds.mergeSort (dataLe false encP)).map fun d => V.ref d.1)), I.laid (t' := s.toks) (fun _ _ => PyProof.Rows.sortedAll_old) (Nat.le_succ _) ⟨hlen, _, ep, vals_refs3, he'⟩, rfl, q _ _ hp ?_ (I.hok.fresh (Nat.le_succ _))⟩
    have tot := sortLe_total (listOrd itemOrd) false fun b : Pr3 => keyToks (encP b)
    have pw : (ds.mergeSort (dataLe false encP)).Pairwise (fun x y => dataLe false encP x y = true) := List.pairwise_mergeSort (fun a b c => tot.trans a b c) (fun a b => by rw [Bool.or_eq_true]; exact tot.total a b) ds
    have nd2 : ((ds.mergeSort (dataLe false encP)).map (·.2.1)).Nodup := (hp.map _).nodup_iff.mpr hnd
    rw [List.pairwise_map]
    rw [List.Nodup, List.pairwise_map] at nd2
    refine (pw.and nd2).imp ?_
    rintro x y ⟨h1, h2⟩
    have h1 : (!dataLt (encP y) (encP x)) = true := h1
    rw [dataLt_P (Ne.symm h2), Bool.not_eq_true', decide_eq_false_iff_not] at h1
    by_cases z : x.2.1 < y.2.1
    · exact z
    · exact absurd (List.le_antisymm (List.not_lt.mp h1) (List.not_lt.mp z)) h2
end
end Rv
end

section
set_option Elab.async false
set_option autoImplicit false
set_option linter.all false
set_option maxRecDepth 100000
set_option maxHeartbeats 4000000
namespace Rv
open PySem L2 PyProof.Rows PySem.Spec
/-- the tags of the law -/
def OkTg (tags : List Tt) : Prop := (∀ t ∈ tags, okN t = true) ∧ tags.length ≤ 6
def OkTm (tags : List Tt) (t : Tm) : Prop := OkT t ∧ ∀ p ∈ t, p.1 ∈ tags
abbrev spTotal : Sp := fun vs H Q _ => ∃ (A : Amb) (F : Hp) (sp : Addr) (x : V) (tags : List Tt) (m : Nat), vs = [.ref sp, x, .int m, .int 1000003] ∧ Fz A F H ∧ Spr A sp ∧ rLst rS F x tags ∧ OkTg tags ∧ m ≤ 3 ∧ Out A F H Q fun F' _ v => ∃ t : Tm, rPr F' v t ∧ OkTm tags t
abbrev spPick : Sp := fun vs H Q _ => ∃ (A : Amb) (F : Hp) (sp : Addr) (y x : V) (some_ : List Tm) (tags : List Tt), vs = [.ref sp, y, x, .int 1000003] ∧ Fz A F H ∧ Spr A sp ∧ rLst rPr F y some_ ∧ some_.length = 3 ∧ (∀ t ∈ some_, OkTm tags t) ∧ rLst rS F x tags ∧ OkTg tags ∧ Out A F H Q fun F' _ v => ∃ t : Tm, rPr F' v t ∧ OkTm tags t
/-- a step of the law -/
def rStepL : Rl Stp := fun F v s => match s with
  | .iff a b g => ∃ p x y, v = .ref p ∧ F p = some (.tup [.str "if", x, y, .int g]) ∧ rPr F x a ∧ rPr F y b
  | .vote h l => ∃ p x, v = .ref p ∧ F p = some (.tup [.str "vote", .int h, x]) ∧ rLst rPr F x l
  | .tell t => ∃ p x, v = .ref p ∧ F p = some (.tup [.str "tell", x]) ∧ rPr F x t
  | .dbt => ∃ p, v = .ref p ∧ F p = some (.tup [.str "doubt"])
instance : MonoR rStepL := ⟨fun {F F' v s} e h => by
  cases s with
  | iff a b g => obtain ⟨p, x, y, h1, h2, h3, h4⟩ := h; exact ⟨p, x, y, h1, e _ _ h2, MonoR.up e h3, MonoR.up e h4⟩
  | vote hh l => obtain ⟨p, x, h1, h2, h3⟩ := h; exact ⟨p, x, h1, e _ _ h2, MonoR.up e h3⟩
  | tell t => obtain ⟨p, x, h1, h2, h3⟩ := h; exact ⟨p, x, h1, e _ _ h2, MonoR.up e h3⟩
  | dbt => obtain ⟨p, h1, h2⟩ := h; exact ⟨p, h1, e _ _ h2⟩⟩
abbrev spLast : Sp := fun vs H Q _ => ∃ (A : Amb) (F : Hp) (sp : Addr) (y x : V) (some_ : List Tm) (tags : List Tt), vs = [.ref sp, y, x, .int 1000003] ∧ Fz A F H ∧ Spr A sp ∧ rLst rPr F y some_ ∧ some_.length = 3 ∧ (∀ t ∈ some_, OkTm tags t) ∧ rLst rS F x tags ∧ OkTg tags ∧
  Out A F H Q fun F' _ v => ∃ s : Stp, rStepL F' v s ∧ isEnd s = true ∧ ∀ t ∈ sumsS s, OkTm tags t
theorem okN_le {t : Tt} (h : okN t = true) : ∀ c ∈ t, c ≤ 122 := fun c hc => (okN_range h c hc).2.1
theorem viaP {t : TE} {σ : L2.St} {H : Hp} {Q : VK} (Pst : V → Hp → Prop) (h : ∀ Q1 : VK, (∀ v H', Pst v H' → Q1 v H') → t σ H Q1) (k : ∀ v H', Pst v H' → Q v H') : t σ H Q := h Q k
theorem viaS {t : TS} {D : Ends} {σ : L2.St} {H : Hp} (Pn : L2.St → Hp → Prop) (h : ∀ N : L2.St → Hp → Prop, (∀ σ' H', Pn σ' H' → N σ' H') → t { D with nx := N } σ H) (k : ∀ σ' H', Pn σ' H' → D.nx σ' H') : t D σ H := h D.nx k
theorem strs_shapedL {l : List Tt} (h : ∀ x ∈ l, ∀ c ∈ x, c ≤ 122) : SeqAt.shaped (.list (l.map fun x => PyData.str (S x))) = true := by
  simp [SeqAt.shaped, PyData.canLay0, PyData.depth, strs_lay h, strs_depth]
def rPr3 : Rl Pr3 := fun F v d => v = .ref d.1 ∧ F d.1 = some (.tup [.str (S d.2.1), .int d.2.2])
instance : MonoR rPr3 := ⟨fun e h => ⟨h.1, e _ _ h.2⟩⟩
theorem prd_pr3 {F : Hp} : ∀ {ds : List Pr3}, (∀ d ∈ ds, F d.1 = some (.tup [.str (S d.2.1), .int d.2.2])) → PySem.Paired (rPr3 F) (ds.map fun d => V.ref d.1) ds
  | [], _ => .nil
  | d :: ds, h => .cons ⟨rfl, h d (List.mem_cons_self ..)⟩ (prd_pr3 fun e he => h e (List.mem_cons_of_mem _ he))
theorem prd_prS {F : Hp} : ∀ {ds : List Pr3}, (∀ d ∈ ds, F d.1 = some (.tup [.str (S d.2.1), .int d.2.2])) → PySem.Paired (rPair F) (ds.map fun d => V.ref d.1) (ds.map (·.2))
  | [], _ => .nil
  | d :: ds, h => .cons ⟨d.1, _, _, rfl, h d (List.mem_cons_self ..), rfl, rfl⟩ (prd_prS fun e he => h e (List.mem_cons_of_mem _ he))
section
variable {P : Program} {w : World} {K : PySem.W.Frag} {mg : Str → Option Value} {base : Heap} {cs : Cs}
abbrev sLawTotal : Stmt := top 82
abbrev nLawTotal : List Str := ["_law_spring_here", "_law_tags", "_law_many", "_law_wide", "_law_chosen", "_law_turn", "_law_tag", "_law_times_here", "_law_pair"]
abbrev pLawTotal : List Str := ["_law_spring_here", "_law_tags", "_law_many", "_law_wide"]
theorem scLawTotal : FnScope nLawTotal pLawTotal (defScope sLawTotal) := ⟨rfl, rfl, rfl, by decide +kernel, rfl, by decide +kernel, by decide +kernel⟩

theorem c__law_total (D : Dn K mg "_law_total" sLawTotal pLawTotal) (T : Tx K mg cs) (c__law_take : Cal P w K mg base 1 "_law_take" spTake) (c__law_times : Cal P w K mg base 2 "_law_times" spTimes) : Cal P w K mg base 3 "_law_total" spTotal := by
  refine cal_of D scLawTotal (fun vs H Q E h => ?_) (fun f cdv A outer s H vs Q E hr h => ?_)
  · obtain ⟨_, _, _, _, _, _, rfl, _⟩ := h
    rfl
  · obtain ⟨Am, F, sp, x, tags, m, rfl, Z, S0, ⟨p, xs, rfl, hp, prd⟩, ⟨ot, l6⟩, hm, k⟩ := h
    have ex := paired_C prd
    subst ex
    refine ⟨_, (pss_cons (ps_set (i := 4) scLawTotal.nd rfl (Or.inl rfl) (pe_lst pa_nil))
      (pss_cons (ps_forG PassesOwn.never rfl (pi_range1 (by rfl) T.n_range (pa_cons (pe_ifExp (pt_cmpR (op_neD hr.units) (pv 1) (pe_lst pa_nil) (nomark _)) (pe_c c__law_take hr (by decide) rfl (pa_cons (pv 0) (pa_cons (pe_op op_add (pv 2) pe_int) pa_nil))) pe_int) pa_nil)) (pg_name (i := 5) scLawTotal.nd rfl (.inl rfl) (.inr rfl))
        (pss_cons (ps_par (i := 6) (j := 7) (by rfl) scLawTotal.nd rfl rfl (by decide) rfl rfl (pa_cons (pe_ix (r := rIxL K) ix_list (pv 1) (pe_c c__law_take hr (by decide) rfl (pa_cons (pv 0) (pa_cons (pe_callB call_len_seq (by rfl) T.n_len (by decide +kernel) (pa_cons (pv 1) pa_nil)) pa_nil))) (fun _ _ => rfl)) (pa_cons (pe_c c__law_times hr (by decide) rfl (pa_cons (pv 0) (pa_cons (pv 3) pa_nil))) pa_nil)) (by rfl))
      (pss_one (ps_if (pt_cmpR (r := rIn K true) op_notIn_seq (pv 6) (pe_lcG (own := [("_law_pair", 8)]) rfl scLawTotal.nd (pi_list (pv 4)) (blkOk_by (own := [("_law_pair", 8)]) (N := nLawTotal) (sc := defScope sLawTotal) (by decide +kernel)) (fun _ _ _ _ _ => (pg_name (i := 8) scLawTotal.nd rfl (.inl rfl) (.inr rfl))) (fun _ _ _ _ _ => pts_nil) (fun _ _ _ _ _ => (pe_ix (r := rIxT K) ix_tup (pv 8) pe_int (fun _ _ => rfl)))) (by first | exact nomark _ | rfl)) (pss_one (ps_expr (pe_bm PySem.F.plainAttrs_list PySem.F.slot_list_append PySem.F.type_list_append mt_append (pv 4) (pa_cons (pe_tup (pa_cons (pv 6) (pa_cons (pv 7) pa_nil))) pa_nil)))) pss_nil))))
      (pss_one (ps_ret (pe_callB (call_sortedPS hr.units) (by rfl) T.n_sorted (by decide +kernel) (pa_cons (pv 4) pa_nil)))))), ?_⟩
    refine ⟨by show 0 ≤ sizeLine; decide, fun l hl => ?_⟩
    have hlS := Z.notS hl
    have G0 := (Gr.refl Z).own (o := .lst []) hl
    have hF0 := Z.free hl
    dsimp only [gName, tSeq, tForG, iRng1, tCons]
    refine viaP (t := tIf _ _ _) (fun v H' => ∃ (F' : Hp) (j : Int), v = .int j ∧ Gr Am F H F' H' ∧ F' l = none ∧ H' l = some (.lst []) ∧ 0 ≤ j ∧ j ≤ 3 ∧ (tags = [] → j = 0)) (fun Q1 hQ => ?_) ?_
    · refine ⟨_, rfl, by show 0 ≤ sizeLine; decide, fun e he => ?_⟩
      have G1 := G0.new (o := .lst []) he
      obtain ⟨c1, c2⟩ := ((Gr.refl G0.fz).new (o := .lst []) he).cell hlS upd_same hF0
      refine ⟨_, _, .lst (G1.fz.L (G1.ff _ _ hp)) strs_dp, .lst (SqL.of upd_same) .nil, strs_shapedL fun x hx => okN_le (ot x hx), by decide, _, rfl, ?_⟩
      cases tags with
      | nil => exact iteF (hQ _ _ ⟨_, 0, rfl, G1, c2, c1, by decide, by decide, fun _ => rfl⟩)
      | cons t0 tr =>
        refine iteT ⟨_, rfl, _, rfl, _, _, rfl, rfl, tk G1.fz S0 (by omega) (by omega) fun F2 H2 j g2 j0 j1 => ?_⟩
        obtain ⟨d1, d2⟩ := g2.cell hlS c1 c2
        exact hQ _ _ ⟨F2, j, rfl, G1.trans g2, d2, d1, j0, by omega, fun e => by cases e⟩
    rintro v H1 ⟨F1, j, rfl, G1, hF1, hL1, hj0, hj3, hje⟩
    refine ⟨_, rfl, by omega, by omega, ?_⟩
    refine for_rng (fun i σ H' => ∃ (F' : Hp) (ds : List Pr3) (m5 m6 m7 m8 : Option V), σ = [some (.ref sp), some (.ref p), some (.int m), some (.int 1000003), some (.ref l), m5, m6, m7, m8] ∧ Gr Am F H F' H' ∧ F' l = none ∧ H' l = some (.lst (ds.map fun d => V.ref d.1)) ∧ (∀ d ∈ ds, F' d.1 = some (.tup [.str (S d.2.1), .int d.2.2])) ∧ (∀ d ∈ ds, d.2.1 ∈ tags ∧ d.2.2 ≠ 0 ∧ -1000003 ≤ d.2.2 ∧ d.2.2 ≤ 1000003) ∧ (ds.map (·.2.1)).Nodup ∧ ds.length ≤ i) ⟨F1, [], _, _, _, _, rfl, G1, hF1, hL1, by simp, by simp, by simp, by simp⟩ ?_ ?_
    · rintro i σ H2 hi ⟨F2, ds, m5, m6, m7, m8, rfl, G2, hF2, hL2, hd, hb, hnd, hlen⟩
      have hne : 0 < tags.length := by
        cases tags with
        | nil => have := hje rfl; omega
        | cons => simp
      refine ⟨_, rfl, _, rfl, _, rfl, p, _, rfl, .inl (G2.fz.L (G2.ff _ _ hp)), tk G2.fz S0 (by simp; omega) (by simp; omega) fun F3 H3 a g3 a0 a1 => ?_⟩
      have G3 := G2.trans g3
      obtain ⟨hL3, hF3⟩ := g3.cell hlS hL2 hF2
      obtain ⟨tv, htv, hat⟩ := atI_rng (xs := tags.map fun x => V.str (S x)) a0 a1
      obtain ⟨tag, htag, rfl⟩ := List.mem_map.mp htv
      refine ⟨p, _, _, _, rfl, rfl, G3.fz.L (G3.ff _ _ hp), hat, ?_⟩
      refine ⟨_, rfl, _, rfl, Am, F3, sp, rfl, G3.fz, S0, fun F4 H4 v4 g4 ⟨z, e4, z0, z1, z2⟩ => ?_⟩
      subst e4
      have G4 := G3.trans g4
      have g34 := g3.trans g4
      obtain ⟨hL4, hF4⟩ := g4.cell hlS hL3 hF3
      have hd4 : ∀ d ∈ ds, F4 d.1 = some (.tup [.str (S d.2.1), .int d.2.2]) := fun d hm => g34.ff _ _ (hd d hm)
      refine ⟨_, _, rfl, ?_⟩
      refine ⟨_, rfl, _, rfl, l, rfl, ⟨_, SqL.of hL4⟩, ?_⟩
      refine lc_map (ra := rPr3) (r := rS) (fun d => d.2.1) walk_list g4.fz (prd_pr3 hd4) (fun F' H' g => SqL.of (g.cell hlS hL4 hF4).1) (by omega) ?_ ?_
      · rintro i' x d F5 H5 K1 hdi G5 ⟨rfl, hd5⟩ hK
        exact ⟨rfl, _, rfl, d.1, _, _, _, rfl, rfl, G5.fz.T hd5, rfl, hK F5 H5 _ (Gr.refl G5.fz) rfl⟩
      rintro F5 H5 q G5 ⟨_, ys, e, hq, prq⟩
      cases e
      have ey := paired_C prq
      subst ey
      obtain ⟨hL5, hF5⟩ := G5.cell hlS hL4 hF4
      refine ⟨q, _, rfl, .inl (G5.fz.L hq), rfl, flat_S, _, rfl, ?_⟩
      simp only [inV_S]
      by_cases hin : tag ∈ ds.map fun d => d.2.1
      · rw [decide_eq_true hin]
        exact iteF ⟨F5, ds, _, _, _, _, rfl, G4.trans G5, hF5, hL5, fun d hm => G5.ff _ _ (hd4 d hm), hb, hnd, by omega⟩
      · rw [decide_eq_false hin]
        refine iteT ⟨_, rfl, .inl ⟨rfl, _, SqL.of hL5⟩, _, rfl, _, rfl, by show 2 ≤ sizeLine; decide, fun t ht => ?_⟩
        have g6 := (Gr.refl G5.fz).new (o := .tup [.str (S tag), .int z]) ht
        obtain ⟨hL6, hF6⟩ := g6.cell hlS hL5 hF5
        refine ⟨l, _, _, rfl, rfl, hL6, szlt (by simp; omega), ?_⟩
        have G6 := (G4.trans G5).trans g6
        refine ⟨_, ds ++ [(t, tag, z)], _, _, _, _, rfl, G6.put hl hF6, hF6, by rw [List.map_append]; exact upd_same, ?_, ?_, ?_, by rw [List.length_append]; exact Nat.succ_le_succ hlen⟩
        · intro d hm
          rcases List.mem_append.mp hm with hm | hm
          · exact g6.ff _ _ (G5.ff _ _ (hd4 d hm))
          · rw [List.mem_singleton.mp hm]; exact upd_same
        · intro d hm
          rcases List.mem_append.mp hm with hm | hm
          · exact hb d hm
          · rw [List.mem_singleton.mp hm]; exact ⟨htag, z0, z1, z2⟩
        · rw [List.map_append, List.nodup_append]
          refine ⟨hnd, by simp, fun x hx y hy e => ?_⟩
          rw [List.map_singleton, List.mem_singleton] at hy
          have ex : x = tag := e.trans hy
          exact hin (by rw [← ex]; exact hx)
    · rintro σ H2 ⟨F2, ds, m5, m6, m7, m8, rfl, G2, hF2, hL2, hd, hb, hnd, hlen⟩
      refine ⟨_, rfl, l, ds, rfl, SqL.of hL2, fun d hm => G2.fz.sub _ _ (hd d hm), by omega, hnd, fun ys q hpm hpw hq => ?_⟩
      have G3 := G2.new (o := .lst (ys.map fun d => V.ref d.1)) hq
      have hm : ∀ d ∈ ys, d ∈ ds := fun d hdm => hpm.mem_iff.mp hdm
      refine k _ _ _ G3 ⟨ys.map (·.2), ⟨q, _, rfl, upd_same, prd_prS fun d hdm => same_new (G2.fz.free hq) _ _ (hd d (hm d hdm))⟩, ⟨?_, hpw, ?_⟩, ?_⟩
      · intro p' hp'
        obtain ⟨d, hdm, rfl⟩ := List.mem_map.mp hp'
        obtain ⟨h1, h2, h3, h4⟩ := hb d (hm d hdm)
        exact ⟨ot _ h1, h2, by omega⟩
      · rw [List.length_map, hpm.length_eq]; omega
      · intro p' hp'
        obtain ⟨d, hdm, rfl⟩ := List.mem_map.mp hp'
        exact (hb d (hm d hdm)).1
abbrev sLawPick : Stmt := top 84
abbrev nLawPick : List Str := ["_law_spring_here", "_law_some", "_law_tags", "_law_wide", "_law_way"]
abbrev pLawPick : List Str := ["_law_spring_here", "_law_some", "_law_tags", "_law_wide"]
theorem scLawPick : FnScope nLawPick pLawPick (defScope sLawPick) := ⟨rfl, rfl, rfl, by decide +kernel, rfl, by decide +kernel, by decide +kernel⟩

theorem c__law_pick (D : Dn K mg "_law_pick" sLawPick pLawPick) (T : Tx K mg cs) (c__law_take : Cal P w K mg base 1 "_law_take" spTake) (c__law_total : Cal P w K mg base 3 "_law_total" spTotal) : Cal P w K mg base 4 "_law_pick" spPick := by
  refine cal_of D scLawPick (fun vs H Q E h => ?_) (fun f cdv A outer s H vs Q E hr h => ?_)
  · obtain ⟨_, _, _, _, _, _, _, rfl, _⟩ := h
    rfl
  · obtain ⟨Am, F, sp, y, x, som, tags, rfl, Z, S0, rs, h3, hok, rt, ot, k⟩ := h
    obtain ⟨p, xs, rfl, hp, prd⟩ := rs
    refine ⟨_, (pss_cons (ps_set (i := 4) scLawPick.nd rfl (Or.inl rfl) (pe_c c__law_take hr (by decide) rfl (pa_cons (pv 0) (pa_cons pe_int pa_nil))))
      (pss_one (ps_ret (pe_ifExp (pt_cmpR op_lt (pv 4) pe_int (nomark _)) (pe_ix (r := rIxL K) ix_list (pv 1) (pv 4) (fun _ _ => rfl)) (pe_c c__law_total hr (by decide) rfl (pa_cons (pv 0) (pa_cons (pv 2) (pa_cons pe_int (pa_cons (pv 3) pa_nil))))))))), ?_⟩
    refine ⟨_, rfl, tk Z S0 (by decide) (by decide) fun F1 H1 i g1 i0 i5 => ?_⟩
    refine ⟨_, rfl, _, _, rfl, rfl, _, rfl, ?_⟩
    refine ite2 (fun hc => ?_) (fun hc => ?_)
    · obtain ⟨j, rfl⟩ := Int.eq_ofNat_of_zero_le i0
      have hj : j < som.length := by
        have := of_decide_eq_true hc
        omega
      obtain ⟨v, hv, rv⟩ := prd_get2 prd (i := j) (d := som[j]) (by simp [hj])
      refine ⟨_, rfl, _, rfl, p, _, _, _, rfl, rfl, g1.fz.L (g1.ff _ _ hp), at0 (v := v) j rfl hv, ?_⟩
      exact k _ _ _ g1 ⟨som[j], MonoR.up g1.ff rv, hok _ (List.getElem_mem hj)⟩
    · refine ⟨_, rfl, _, rfl, _, rfl, Am, F1, sp, x, tags, 3, rfl, g1.fz, S0, MonoR.up g1.ff rt, ot, by decide, fun F2 H2 v g2 e => ?_⟩
      exact k _ _ _ (g1.trans g2) e
abbrev sLawLast : Stmt := top 85
abbrev nLawLast : List Str := ["_law_spring_here", "_law_some", "_law_tags", "_law_wide"]
abbrev pLawLast : List Str := ["_law_spring_here", "_law_some", "_law_tags", "_law_wide"]
theorem scLawLast : FnScope nLawLast pLawLast (defScope sLawLast) := ⟨rfl, rfl, rfl, by decide +kernel, rfl, by decide +kernel, by decide +kernel⟩

theorem c__law_last (D : Dn K mg "_law_last" sLawLast pLawLast) (T : Tx K mg cs) (c__law_take : Cal P w K mg base 1 "_law_take" spTake) (c__law_pick : Cal P w K mg base 4 "_law_pick" spPick) : Cal P w K mg base 5 "_law_last" spLast := by
  refine cal_of D scLawLast (fun vs H Q E h => ?_) (fun f cdv A outer s H vs Q E hr h => ?_)
  · obtain ⟨_, _, _, _, _, _, _, rfl, _⟩ := h
    rfl
  · obtain ⟨Am, F, sp, y, x, som, tags, rfl, Z, S0, rs, h3, hok, rt, ot, k⟩ := h
    refine ⟨_, (pss_one (ps_ret (pe_ifExp (pt_cmpR op_gt (pe_c c__law_take hr (by decide) rfl (pa_cons (pv 0) (pa_cons pe_int pa_nil))) pe_int (nomark _)) (pe_tup (pa_cons pe_str (pa_cons (pe_c c__law_pick hr (by decide) rfl (pa_cons (pv 0) (pa_cons (pv 1) (pa_cons (pv 2) (pa_cons (pv 3) pa_nil))))) pa_nil))) (pe_tup (pa_cons pe_str pa_nil))))), ?_⟩
    refine ⟨_, rfl, tk Z S0 (by decide) (by decide) fun F1 H1 i g1 i0 i5 => ?_⟩
    refine ⟨_, _, rfl, rfl, _, rfl, ?_⟩
    refine ite2 (fun hc => ?_) (fun hc => ?_)
    · refine ⟨_, rfl, _, rfl, _, rfl, _, rfl, Am, F1, sp, y, x, som, tags, rfl, g1.fz, S0, MonoR.up g1.ff rs, h3, hok, MonoR.up g1.ff rt, ot, fun F2 H2 v g2 ⟨t, r, o⟩ => ?_⟩
      refine ⟨by show 2 ≤ sizeLine; decide, fun q hq => ?_⟩
      refine k _ _ _ ((g1.trans g2).new (o := .tup [.str "tell", v]) hq) ⟨.tell t, ⟨q, v, rfl, upd_same, MonoR.up (same_new (g2.fz.free hq)) r⟩, rfl, fun t' ht' => by rw [List.mem_singleton.mp ht']; exact o⟩
    · refine ⟨by show 1 ≤ sizeLine; decide, fun q hq => ?_⟩
      exact k _ _ _ (g1.new (o := .tup [.str "doubt"]) hq) ⟨.dbt, ⟨q, rfl, upd_same⟩, rfl, fun t' ht' => by cases ht'⟩
end
end Rv
end

section
set_option Elab.async false
set_option autoImplicit false
set_option linter.all false
set_option maxRecDepth 100000
set_option maxHeartbeats 4000000
namespace Rv
open PySem L2 PyProof.Rows PySem.Spec
def roomsL (left : Int) (i : Nat) : List Int := ((List.range i).map fun j : Nat => (1 : Int) + (j : Int)).filter fun z => decide (z * (z - 1) ≤ left)
theorem rooms_dec : ∀ n : Fin 91, 1 ≤ (roomsL (n.val : Int) 10).length ∧ (roomsL (n.val : Int) 10).length ≤ 10 ∧ ∀ c : Fin 11, c.val ≤ (roomsL (n.val : Int) 10).length → (c.val : Int) * ((c.val : Int) - 1) ≤ (n.val : Int) := by decide +kernel
theorem rooms_ok {left : Int} (h0 : 0 ≤ left) (h1 : left ≤ 90) : 1 ≤ (roomsL left 10).length ∧ (roomsL left 10).length ≤ 10 ∧ ∀ c : Int, 1 ≤ c → c ≤ (roomsL left 10).length → c * (c - 1) ≤ left := by
  obtain ⟨n, rfl⟩ := Int.eq_ofNat_of_zero_le h0
  obtain ⟨a, b, d⟩ := rooms_dec ⟨n, by omega⟩
  have b : (roomsL (n : Int) 10).length ≤ 10 := b
  refine ⟨a, b, fun c hc hm => ?_⟩
  obtain ⟨m, rfl⟩ := Int.eq_ofNat_of_zero_le (by omega : 0 ≤ c)
  exact d ⟨m, by omega⟩ (show m ≤ (roomsL (n : Int) 10).length by omega)
theorem roomsL_succ (left : Int) (i : Nat) : roomsL left (i + 1) = roomsL left i ++ if (1 + (i : Int)) * (1 + (i : Int) - 1) ≤ left then [1 + (i : Int)] else [] := by
  unfold roomsL
  rw [List.range_succ, List.map_append, List.filter_append]
  by_cases c : (1 + (i : Int)) * (1 + (i : Int) - 1) ≤ left
  · rw [if_pos c, List.map_singleton, List.filter_cons_of_pos (by exact decide_eq_true c)]; rfl
  · rw [if_neg c, List.map_singleton, List.filter_cons_of_neg (by simpa using c)]; rfl
theorem roomsL_len (left : Int) (i : Nat) : (roomsL left i).length ≤ i := by
  unfold roomsL
  refine Nat.le_trans (List.length_filter_le ..) ?_
  rw [List.length_map, List.length_range]; exact Nat.le_refl _
def OkSn (size : Nat) (tags : List Tt) (l : List Stp) : Prop := (∀ (j : Nat) s, l[j]? = some s → OkS size j s) ∧ ∀ s ∈ l, ∀ t ∈ sumsS s, OkTm tags t
theorem OkSn.snoc {size : Nat} {tags : List Tt} {l : List Stp} {s : Stp} (h : OkSn size tags l) (h1 : OkS size l.length s) (h2 : ∀ t ∈ sumsS s, OkTm tags t) : OkSn size tags (l ++ [s]) := by
  refine ⟨fun j u hu => ?_, fun u hu => ?_⟩
  · rcases Nat.lt_trichotomy j l.length with c | c | c
    · rw [List.getElem?_append_left c] at hu; exact h.1 j u hu
    · subst c; simp at hu; subst hu; exact h1
    · rw [List.getElem?_append_right (by omega)] at hu
      have : ([s] : List Stp)[j - l.length]? = none := List.getElem?_eq_none (by simp; omega)
      rw [this] at hu; cases hu
  · rcases List.mem_append.mp hu with m | m
    · exact h.2 u m
    · rw [List.mem_singleton.mp m]; exact h2
theorem okS_end {size j : Nat} {s : Stp} {tags : List Tt} (h : isEnd s = true) (o : ∀ t ∈ sumsS s, OkTm tags t) : OkS size j s := by
  cases s with
  | iff a b g => cases h
  | vote hh l => cases h
  | tell t => exact (o t (List.mem_cons_self ..)).1
  | dbt => trivial
abbrev spSteps : Sp := fun vs H Q _ => ∃ (A : Amb) (F : Hp) (sp : Addr) (x : V) (tags : List Tt), vs = [.ref sp, x, .int 8, .int 1000003] ∧ Fz A F H ∧ Spr A sp ∧ rLst rS F x tags ∧ OkTg tags ∧
  Out A F H Q fun F' _ v => ∃ l : List Stp, rLst rStepL F' v l ∧ OkSt l ∧ ∀ s ∈ l, ∀ t ∈ sumsS s, OkTm tags t
section
variable {P : Program} {w : World} {K : PySem.W.Frag} {mg : Str → Option Value} {base : Heap} {cs : Cs}
abbrev sLawSteps : Stmt := top 83
abbrev nLawSteps : List Str := ["_law_spring_here", "_law_tags", "_law_many", "_law_wide", "_law_size", "_law_left", "_law_steps_here", "_law_some", "_law_k", "_law_way", "_law_ends", "_law_count", "_law_sums_here", "_law_turn", "_law_room"]
abbrev pLawSteps : List Str := ["_law_spring_here", "_law_tags", "_law_many", "_law_wide"]
theorem scLawSteps : FnScope nLawSteps pLawSteps (defScope sLawSteps) := ⟨rfl, rfl, rfl, by decide +kernel, rfl, by decide +kernel, by decide +kernel⟩

theorem c__law_steps (D : Dn K mg "_law_steps" sLawSteps pLawSteps) (T : Tx K mg cs) (c__law_take : Cal P w K mg base 1 "_law_take" spTake) (c__law_total : Cal P w K mg base 3 "_law_total" spTotal) (c__law_pick : Cal P w K mg base 4 "_law_pick" spPick) (c__law_last : Cal P w K mg base 5 "_law_last" spLast) : Cal P w K mg base 6 "_law_steps" spSteps := by
  refine cal_of D scLawSteps (fun vs H Q E h => ?_) (fun f cdv A outer s H vs Q E hr h => ?_)
  · obtain ⟨_, _, _, _, _, rfl, _⟩ := h
    rfl
  · obtain ⟨Am, F, sp, x, tags, rfl, Z, S0, rt, ot, k⟩ := h
    have hpx : ∃ px, x = .ref px := by obtain ⟨p, _, e, _⟩ := rt; exact ⟨p, e⟩
    refine ⟨_, (pss_cons (ps_asg (pe_tup (pa_cons (pe_op op_add pe_int (pe_c c__law_take hr (by decide) rfl (pa_cons (pv 0) (pa_cons (pv 2) pa_nil)))) (pa_cons pe_int (pa_cons (pe_lst pa_nil) pa_nil)))) (pg_tupK K 3 rfl rfl (pgs_cons (pg_name (i := 4) scLawSteps.nd rfl (.inl rfl) (.inr rfl)) (pgs_cons (pg_name (i := 5) scLawSteps.nd rfl (.inr rfl) (.inl rfl)) (pgs_cons (pg_name (i := 6) scLawSteps.nd rfl (.inl rfl) (.inr rfl)) pgs_nil)))))
      (pss_cons (ps_set (i := 7) scLawSteps.nd rfl (Or.inr rfl) (pe_lcG (own := [("_law_turn", 13)]) rfl scLawSteps.nd (pi_range1 (by rfl) T.n_range (pa_cons pe_int pa_nil)) (blkOk_by (own := [("_law_turn", 13)]) (N := nLawSteps) (sc := defScope sLawSteps) (by decide +kernel)) (fun _ _ _ _ _ => (pg_name (i := 13) scLawSteps.nd rfl (.inl rfl) (.inr rfl))) (fun _ _ _ _ _ => pts_nil) (fun _ _ _ _ _ => (pe_c c__law_total hr (by decide) rfl (pa_cons (pv 0) (pa_cons (pv 1) (pa_cons pe_int (pa_cons (pv 3) pa_nil))))))))
      (pss_cons (ps_forG PassesOwn.never rfl (pi_range1 (by rfl) T.n_range (pa_cons (pe_op op_sub (pv 4) pe_int) pa_nil)) (pg_name (i := 8) scLawSteps.nd rfl (.inl rfl) (.inr rfl))
        (pss_cons (ps_set (i := 9) scLawSteps.nd rfl (Or.inl rfl) (pe_c c__law_take hr (by decide) rfl (pa_cons (pv 0) (pa_cons pe_int pa_nil))))
      (pss_one (ps_if (pt_cmpR op_lt (pv 9) pe_int (nomark _)) (pss_cons (ps_set (i := 10) scLawSteps.nd rfl (Or.inl rfl) (pe_lst (pa_cons (pe_c c__law_pick hr (by decide) rfl (pa_cons (pv 0) (pa_cons (pv 7) (pa_cons (pv 1) (pa_cons (pv 3) pa_nil))))) (pa_cons (pe_c c__law_pick hr (by decide) rfl (pa_cons (pv 0) (pa_cons (pv 7) (pa_cons (pv 1) (pa_cons (pv 3) pa_nil))))) pa_nil))))
      (pss_one (ps_expr (pe_bm PySem.F.plainAttrs_list PySem.F.slot_list_append PySem.F.type_list_append mt_append (pv 6) (pa_cons (pe_tup (pa_cons pe_str (pa_cons (pe_ix (r := rIxL K) ix_list (pv 10) pe_int (fun _ _ => rfl)) (pa_cons (pe_ix (r := rIxL K) ix_list (pv 10) pe_int (fun _ _ => rfl)) (pa_cons (pe_op op_add (pe_op op_add (pv 8) pe_int) (pe_c c__law_take hr (by decide) rfl (pa_cons (pv 0) (pa_cons (pe_op op_sub (pe_op op_sub (pv 4) pe_int) (pv 8)) pa_nil)))) pa_nil))))) pa_nil))))) (pss_one (ps_if (pt_cmpR op_lt (pv 9) pe_int (nomark _)) (pss_cons (ps_set (i := 11) scLawSteps.nd rfl (Or.inl rfl) (pe_op op_add pe_int (pe_c c__law_take hr (by decide) rfl (pa_cons (pv 0) (pa_cons (pe_callB call_len_seq (by rfl) T.n_len (by decide +kernel) (pa_cons (pe_lcG (own := [("_law_room", 14)]) rfl scLawSteps.nd (pi_range2 (by rfl) T.n_range (pa_cons pe_int (pa_cons pe_int pa_nil))) (blkOk_by (own := [("_law_room", 14)]) (N := nLawSteps) (sc := defScope sLawSteps) (by decide +kernel)) (fun _ _ _ _ _ => (pg_name (i := 14) scLawSteps.nd rfl (.inl rfl) (.inr rfl))) (fun _ _ _ _ _ => (pts_one (pt_cmpR op_le (pe_op op_mul (pv 14) (pe_op op_sub (pv 14) pe_int)) (pv 5) (nomark _)))) (fun _ _ _ _ _ => (pv 14))) pa_nil)) pa_nil)))))
      (pss_cons (ps_set (i := 5) scLawSteps.nd rfl (Or.inr rfl) (pe_op op_sub (pv 5) (pe_op op_mul (pv 11) (pe_op op_sub (pv 11) pe_int))))
      (pss_cons (ps_setLcG (i := 12) (own := [("_law_turn", 13)]) rfl scLawSteps.nd rfl rfl (sw_true rfl rfl rfl (by decide +kernel)) (pi_range1 (by rfl) T.n_range (pa_cons (pv 11) pa_nil)) (blkOk_by (own := [("_law_turn", 13)]) (N := nLawSteps) (sc := defScope sLawSteps) (by decide +kernel)) (fun _ _ _ _ _ => (pg_name (i := 13) scLawSteps.nd rfl (.inl rfl) (.inr rfl))) (fun _ _ _ _ _ => pts_nil) (fun _ _ _ _ _ => (pe_c c__law_pick hr (by decide) rfl (pa_cons (pv 0) (pa_cons (pv 7) (pa_cons (pv 1) (pa_cons (pv 3) pa_nil)))))))
      (pss_one (ps_expr (pe_bm PySem.F.plainAttrs_list PySem.F.slot_list_append PySem.F.type_list_append mt_append (pv 6) (pa_cons (pe_tup (pa_cons pe_str (pa_cons (pe_c c__law_take hr (by decide) rfl (pa_cons (pv 0) (pa_cons pe_int pa_nil))) (pa_cons (pv 12) pa_nil)))) pa_nil))))))) (pss_one (ps_expr (pe_bm PySem.F.plainAttrs_list PySem.F.slot_list_append PySem.F.type_list_append mt_append (pv 6) (pa_cons (pe_c c__law_last hr (by decide) rfl (pa_cons (pv 0) (pa_cons (pv 7) (pa_cons (pv 1) (pa_cons (pv 3) pa_nil))))) pa_nil))))))))))
      (pss_one (ps_ret (pe_op op_cat (pv 6) (pe_lst (pa_cons (pe_c c__law_last hr (by decide) rfl (pa_cons (pv 0) (pa_cons (pv 7) (pa_cons (pv 1) (pa_cons (pv 3) pa_nil))))) pa_nil)))))))), ?_⟩
    refine ⟨_, rfl, _, rfl, tk Z S0 (by decide) (by decide) fun F1 H1 i g1 i0 i8 => ?_⟩
    obtain ⟨i, rfl⟩ := Int.eq_ofNat_of_zero_le i0
    refine ⟨_, _, rfl, rfl, by show 0 ≤ sizeLine; decide, fun sl hsl => ?_⟩
    have hsS := g1.fz.notS hsl
    refine ⟨by show 3 ≤ sizeLine; decide, fun t ht => ?_⟩
    have G2 := (((Gr.refl g1.fz).own (o := .lst []) hsl)).new (o := .tup [.int (1 + (i : Int)), .int 90, .ref sl]) ht
    have nt : sl ≠ t := ne_of_none upd_same ht
    refine ⟨t, _, rfl, SqT.of upd_same, rfl, _, _, rfl, _, _, rfl, _, _, rfl, rfl, ?_⟩
    have hL2 : upd (upd H1 sl (.lst [])) t (.tup [.int (1 + (i : Int)), .int 90, .ref sl]) sl = some (.lst []) := by rw [upd_ne nt, upd_same]
    have hF2 : upd F1 t (.tup [.int (1 + (i : Int)), .int 90, .ref sl]) sl = none := by rw [upd_ne nt]; exact g1.fz.free hsl
    refine ⟨_, rfl, by decide, by decide, ?_⟩
    refine lc_rangeP (r := rPr) (OkTm tags) G2.fz (by decide) ?_ ?_
    · intro j F3 H3 K1 hj G3 hK
      refine ⟨rfl, _, rfl, _, rfl, _, rfl, Am, F3, sp, x, tags, 2, rfl, G3.fz, S0, MonoR.up ((g1.trans G2).trans G3).ff rt, ot, by decide, fun F4 H4 v g4 ⟨t', r, o⟩ => hK _ _ _ t' g4 r o⟩
    rintro F3 H3 q som G3 rsom hs3 hsok
    obtain ⟨hL3, hF3⟩ := G3.cell hsS hL2 hF2
    have h13 := G2.trans G3
    have rt3 : rLst rS F3 x tags := MonoR.up (g1.trans h13).ff rt
    obtain ⟨p, rfl⟩ := hpx
    have hsl0 := g1.free hsl
    have GG3 := g1.trans h13
    refine ⟨_, rfl, _, _, rfl, rfl, _, rfl, by omega, by omega, ?_⟩
    refine for_rng (fun j σ H' => ∃ (F' : Hp) (left : Int) (l : List Stp) (xs : List V) (m8 m9 m10 m11 m12 m13 m14 : Option V), σ = [some (.ref sp), some (.ref p), some (.int 8), some (.int 1000003), some (.int (1 + (i : Int))), some (.int left), some (.ref sl), some (.ref q), m8, m9, m10, m11, m12, m13, m14] ∧ Gr Am F H F' H' ∧ Same F3 F' ∧ F' sl = none ∧ H' sl = some (.lst xs) ∧ PySem.Paired (rStepL F') xs l ∧ l.length = j ∧ OkSn (i + 1) tags l ∧ 0 ≤ left ∧ left ≤ 90) ⟨F3, 90, [], [], _, _, _, _, _, _, _, rfl, GG3, Same.refl _, hF3, hL3, .nil, rfl, ⟨by simp, by simp⟩, by decide, by decide⟩ ?_ ?_
    · rintro j σ H4 hj ⟨F4, left, l, xs, m8, m9, m10, m11, m12, m13, m14, rfl, G4, s4, hF4, hL4, prd, hlen, hok, hl0, hl9⟩
      have hxl := prd_len prd
      have pk : ∀ {F' H' : Hp} {Q' : VK}, Fz Am F' H' → Same F3 F' → (∀ F5 H5 v t, Gr Am F' H' F5 H5 → rPr F5 v t → OkTm tags t → Q' v H5) → spPick [.ref sp, .ref q, .ref p, .int 1000003] H' Q' E0 := fun {F' H' Q'} Z' s' kk => ⟨Am, F', sp, .ref q, .ref p, som, tags, rfl, Z', S0, MonoR.up s' rsom, hs3, hsok, MonoR.up s' rt3, ot, fun F5 H5 v g ⟨t, r, o⟩ => kk F5 H5 v t g r o⟩
      refine ⟨_, rfl, tk G4.fz S0 (by decide) (by decide) fun F5 H5 a g5 a0 a1 => ?_⟩
      obtain ⟨hL5, hF5⟩ := g5.cell hsS hL4 hF4
      have G5 := G4.trans g5
      have prd5 := prd_up g5.ff prd
      have s5 := s4.trans g5.ff
      refine ⟨_, rfl, _, _, rfl, rfl, _, rfl, ?_⟩
      refine ite2 (fun hc => ?_) (fun hc => ?_)
      · refine ⟨_, rfl, _, rfl, _, rfl, _, rfl, pk G5.fz s5 fun F6 H6 v6 t6 g6 r6 o6 => ?_⟩
        obtain ⟨hL6, hF6⟩ := g6.cell hsS hL5 hF5
        refine ⟨_, rfl, _, rfl, _, rfl, _, rfl, pk g6.fz (s5.trans g6.ff) fun F7 H7 v7 t7 g7 r7 o7 => ?_⟩
        obtain ⟨hL7, hF7⟩ := g7.cell hsS hL6 hF6
        refine ⟨by show 2 ≤ sizeLine; decide, fun e he => ?_⟩
        have g8 := (Gr.refl g7.fz).new (o := .lst [v6, v7]) he
        obtain ⟨hL8, hF8⟩ := g8.cell hsS hL7 hF7
        have he8 : upd F7 e (.lst [v6, v7]) e = some (.lst [v6, v7]) := upd_same
        have hTe := g8.fz.L (K := K) he8
        refine ⟨_, rfl, .inl ⟨rfl, _, SqL.of hL8⟩, _, rfl, e, _, _, _, rfl, rfl, hTe, rfl, _, rfl, e, _, _, _, rfl, rfl, hTe, rfl, _, rfl, _, _, rfl, rfl, _, rfl, _, rfl, _, _, rfl, rfl, _, rfl, _, _, rfl, rfl, tk g8.fz S0 (by omega) (by omega) fun F9 H9 b g9 b0 b1 => ?_⟩
        obtain ⟨hL9, hF9⟩ := g9.cell hsS hL8 hF8
        obtain ⟨b, rfl⟩ := Int.eq_ofNat_of_zero_le b0
        refine ⟨_, _, rfl, rfl, by show 4 ≤ sizeLine; decide, fun u hu => ?_⟩
        have eg : (0 : Int) + (j : Int) + 1 + (b : Int) = ((j + 1 + b : Nat) : Int) := by omega
        have gu := (Gr.refl g9.fz).new (o := .tup [.str "if", v6, v7, .int ((0 : Int) + (j : Int) + 1 + (b : Int))]) hu
        obtain ⟨hLu, hFu⟩ := gu.cell hsS hL9 hF9
        refine ⟨sl, _, _, rfl, rfl, hLu, szlt (by omega), ?_⟩
        have g59 := ((g6.trans g7).trans g8).trans g9
        have GG := (G5.trans g59).trans gu
        have hst : rStepL (upd F9 u (.tup [.str "if", v6, v7, .int ((0 : Int) + (j : Int) + 1 + (b : Int))])) (.ref u) (.iff t6 t7 (j + 1 + b)) := ⟨u, v6, v7, rfl, by rw [← eg]; exact upd_same, MonoR.up (((g7.trans g8).trans g9).trans gu).ff r6, MonoR.up ((g8.trans g9).trans gu).ff r7⟩
        have hos : OkS (i + 1) l.length (.iff t6 t7 (j + 1 + b)) := ⟨o6.1, o7.1, by omega, by omega, by omega⟩
        refine ⟨_, left, l ++ [.iff t6 t7 (j + 1 + b)], _, _, _, _, _, _, _, _, rfl, GG.put hsl0 hFu, s5.trans (g59.trans gu).ff, hFu, upd_same, prd_append (prd_up (g59.trans gu).ff prd5) (.cons hst .nil), by rw [List.length_append, hlen]; rfl, hok.snoc hos ?_, hl0, hl9⟩
        intro t' ht'
        rcases List.mem_cons.mp ht' with z | z
        · rw [z]; exact o6
        · rw [List.mem_singleton.mp z]; exact o7
      · refine ⟨_, rfl, _, _, rfl, rfl, _, rfl, ?_⟩
        refine ite2 (fun hc2 => ?_) (fun hc2 => ?_)
        · refine ⟨_, rfl, _, _, rfl, ⟨by decide, by decide, by decide, by decide⟩, ?_⟩
          refine lc_any (r := rInt) walk_range G5.fz (roomsL left) rfl (fun i' hi' => ?_) (fun _ _ _ => trivial) ?_ ?_
          · have := roomsL_len left i'
            have hi' : i' < 10 := hi'
            omega
          · rintro i' x' F6 H6 H6' K1 K0 hi' G6 ⟨rfl, rfl⟩ hK1 hK0
            have hi' : i' < 10 := hi'
            refine ⟨rfl, _, rfl, _, rfl, _, _, rfl, rfl, _, _, rfl, rfl, .inl ⟨by omega, by omega⟩, _, rfl, _, _, rfl, rfl, _, rfl, ?_⟩
            have er := roomsL_succ left i'
            refine ite2 (fun hd => ?_) (fun hd => ?_)
            · rw [if_pos (of_decide_eq_true hd)] at er
              exact ⟨_, rfl, hK1 _ _ _ _ er (Gr.refl G6.fz) rfl⟩
            · rw [if_neg (fun z => hd (decide_eq_true z)), List.append_nil] at er
              exact hK0 _ _ er (Gr.refl G6.fz)
          rintro F6 H6 lr G6 ⟨_, zs, e, hlr, prr⟩
          cases e
          have ez := paired_C prr
          subst ez
          obtain ⟨hL6, hF6⟩ := G6.cell hsS hL5 hF5
          have ro := rooms_ok hl0 hl9
          have elen : ((roomsL left ((11 - 1 : Int)).toNat).map V.int).length = (roomsL left 10).length := List.length_map ..
          refine ⟨lr, _, rfl, .inl (G6.fz.L hlr), ?_⟩
          rw [elen]
          refine tk G6.fz S0 (by omega) (by omega) fun F7 H7 c g7 c0 c1 => ?_
          obtain ⟨hL7, hF7⟩ := g7.cell hsS hL6 hF6
          have s7 := s5.trans (G6.trans g7).ff
          have hcl := ro.2.2 (1 + c) (by omega) (by omega)
          have hcp : (0 : Int) ≤ (1 + c) * (1 + c - 1) := Int.mul_nonneg (by omega) (by omega)
          refine ⟨_, _, rfl, rfl, _, rfl, _, rfl, _, rfl, _, _, rfl, rfl, _, _, rfl, rfl, .inl ⟨by omega, by omega⟩, _, _, rfl, rfl, ?_⟩
          refine ⟨_, rfl, _, rfl, by omega, by omega, ?_⟩
          refine lc_rangeP (r := rPr) (OkTm tags) g7.fz (by omega) ?_ ?_
          · intro j' F8 H8 K1 hj' G8 hK
            exact ⟨rfl, _, rfl, _, rfl, _, rfl, _, rfl, pk G8.fz (s7.trans G8.ff) fun F9 H9 v9 t9 g9 r9 o9 => hK _ _ _ _ g9 r9 o9⟩
          rintro F8 H8 su sums G8 rsu hslen hsuok
          obtain ⟨hL8, hF8⟩ := G8.cell hsS hL7 hF7
          refine ⟨_, rfl, .inl ⟨rfl, _, SqL.of hL8⟩, _, rfl, tk G8.fz S0 (by decide) (by decide) fun F9 H9 b g9 b0 b1 => ?_⟩
          obtain ⟨hL9, hF9⟩ := g9.cell hsS hL8 hF8
          obtain ⟨b, rfl⟩ := Int.eq_ofNat_of_zero_le b0
          refine ⟨_, rfl, by show 3 ≤ sizeLine; decide, fun u hu => ?_⟩
          have gu := (Gr.refl g9.fz).new (o := .tup [.str "vote", .int (b : Int), .ref su]) hu
          obtain ⟨hLu, hFu⟩ := gu.cell hsS hL9 hF9
          refine ⟨sl, _, _, rfl, rfl, hLu, szlt (by omega), ?_⟩
          have hst : rStepL (upd F9 u (.tup [.str "vote", .int (b : Int), .ref su])) (.ref u) (.vote b sums) := ⟨u, .ref su, rfl, upd_same, MonoR.up (g9.trans gu).ff rsu⟩
          have hos : OkS (i + 1) l.length (.vote b sums) := ⟨by omega, by omega, by omega, fun t' ht' => (hsuok t' ht').1⟩
          have g5u := (((G6.trans g7).trans G8).trans g9).trans gu
          have hsn : OkSn (i + 1) tags (l ++ [.vote b sums]) := hok.snoc hos hsuok
          exact ⟨_, _, l ++ [.vote b sums], _, _, _, _, _, _, _, _, rfl, (G5.trans g5u).put hsl0 hFu, s5.trans g5u.ff, hFu, upd_same, prd_append (prd_up g5u.ff prd5) (.cons hst .nil), by rw [List.length_append, hlen]; rfl, hsn, by omega, by omega⟩
        · refine ⟨_, rfl, .inl ⟨rfl, _, SqL.of hL5⟩, _, rfl, _, rfl, _, rfl, _, rfl, Am, F5, sp, .ref q, .ref p, som, tags, rfl, G5.fz, S0, MonoR.up s5 rsom, hs3, hsok, MonoR.up s5 rt3, ot, fun F6 H6 v6 g6 ⟨st, r6, e6, o6⟩ => ?_⟩
          obtain ⟨hL6, hF6⟩ := g6.cell hsS hL5 hF5
          refine ⟨sl, _, _, rfl, rfl, hL6, szlt (by omega), ?_⟩
          exact ⟨_, left, l ++ [st], _, _, _, _, _, _, _, _, rfl, (G5.trans g6).put hsl0 hF6, s5.trans g6.ff, hF6, upd_same, prd_append (prd_up g6.ff prd5) (.cons r6 .nil), by rw [List.length_append, hlen]; rfl, hok.snoc (okS_end e6 o6) o6, hl0, hl9⟩
    · rintro σ H4 ⟨F4, left, l, xs, m8, m9, m10, m11, m12, m13, m14, rfl, G4, s4, hF4, hL4, prd, hlen, hok, hl0, hl9⟩
      have hlen : l.length = i := by rw [hlen]; omega
      refine ⟨_, rfl, _, rfl, _, rfl, _, rfl, _, rfl, Am, F4, sp, .ref q, .ref p, som, tags, rfl, G4.fz, S0, MonoR.up s4 rsom, hs3, hsok, MonoR.up s4 rt3, ot, fun F5 H5 v5 g5 ⟨st, r5, e5, o5⟩ => ?_⟩
      obtain ⟨hL5, hF5⟩ := g5.cell hsS hL4 hF4
      refine ⟨by show 1 ≤ sizeLine; decide, fun u hu => ?_⟩
      have gu := (Gr.refl g5.fz).own (o := .lst [v5]) hu
      obtain ⟨hLu, hFu⟩ := gu.cell hsS hL5 hF5
      have hxl := prd_len prd
      refine ⟨sl, u, _, _, rfl, rfl, hLu, upd_same, by rw [sizeLine_eq]; show xs.length + 1 ≤ _; omega, fun r hr => ?_⟩
      have GG := ((G4.trans g5).trans gu).new (o := .lst (xs ++ [v5])) hr
      have hal := hok.snoc (okS_end (size := i + 1) (j := l.length) e5 o5) o5
      have hll : (l ++ [st]).length = i + 1 := by rw [List.length_append, hlen]; rfl
      refine k _ _ _ GG ⟨l ++ [st], ⟨r, _, rfl, upd_same, prd_up (same_new (gu.fz.free hr)) (prd_append (prd_up g5.ff prd) (.cons r5 .nil))⟩, ⟨by rw [hll]; exact hal.1, by omega, by omega, fun s hs => ?_⟩, hal.2⟩
      rw [List.getLast?_append, List.getLast?_singleton] at hs
      cases hs
      exact e5
end
end Rv
end

section
set_option Elab.async false
set_option autoImplicit false
set_option linter.all false
set_option maxRecDepth 100000
set_option maxHeartbeats 4000000
namespace Rv
open PySem L2 PyProof.Rows PySem.Spec
abbrev rN : Rl Nat := rC fun n : Nat => V.int n
abbrev TubeD := Tt × Nat × Nat
abbrev GaugeD := Tt × Nat × Bool
abbrev rTube : Rl TubeD := rT3 rS rN rN
abbrev rGauge : Rl GaugeD := rT3 rS rN rBl
abbrev PlanD := List Tt × List TubeD × List GaugeD
def rPlan : Rl PlanD := fun F v d => ∃ p x y z, v = .ref p ∧ F p = some (.lst [x, y, z]) ∧ rLst rS F x d.1 ∧ rLst rTube F y d.2.1 ∧ rLst rGauge F z d.2.2
instance : MonoR rPlan := ⟨fun e ⟨p, x, y, z, h1, h2, h3, h4, h5⟩ => ⟨p, x, y, z, h1, e _ _ h2, MonoR.up e h3, MonoR.up e h4, MonoR.up e h5⟩⟩
def Bd (b : Int) (x : Int) : Prop := -b ≤ x ∧ x ≤ b
def OkRing (size : Nat) (r : List Int) : Prop := r.length = size ∧ ∀ x ∈ r, Bd 1 x
theorem bd1 {b : Int} (h : Bd 1 b) : -2 ^ 64 < b ∧ b < 2 ^ 64 := by
  obtain ⟨h1, h2⟩ := h
  have : (2 : Int) ^ 64 = 18446744073709551616 := by decide
  omega
abbrev spFlow : Sp := fun vs H Q _ => ∃ (A : Amb) (F : Hp) (sp : Addr) (x : V) (rs : List (List Int)) (size : Nat), vs = [.ref sp, x, .int size] ∧ Fz A F H ∧ Spr A sp ∧ rLst (rLst rInt) F x rs ∧ rs.length ≤ 5 ∧ size ≤ 5 ∧ (∀ r ∈ rs, OkRing size r) ∧ Out A F H Q fun F' _ v => ∃ l : List Int, rLst rInt F' v l ∧ l.length = size ∧ ∀ x ∈ l, Bd (10 ^ 31) x
def OkO (o : Option Int) : Prop := ∀ i, o = some i → Bd (10 ^ 31) i
abbrev spSeen : Sp := fun vs H Q _ => ∃ (A : Amb) (F : Hp) (sp : Addr) (x y : V) (d : PlanD) (fl : List Int), vs = [.ref sp, x, y] ∧ Fz A F H ∧ Spr A sp ∧ rPlan F x d ∧ rLst rInt F y fl ∧ (∀ m ∈ d.2.2, m.2.1 < fl.length) ∧ d.2.2.length ≤ 6 ∧ (∀ x ∈ fl, Bd (10 ^ 31) x) ∧
  Out A F H Q fun F' _ v => ∃ l : List (Option Int), rLst rOI F' v l ∧ l.length = d.2.2.length ∧ (∀ (i : Nat) m o, d.2.2[i]? = some m → l[i]? = some o → o = none → m.2.2 = false) ∧ ∀ o ∈ l, OkO o
section
variable {P : Program} {w : World} {K : PySem.W.Frag} {mg : Str → Option Value} {base : Heap} {cs : Cs}
abbrev sLawFlow : Stmt := top 80
abbrev nLawFlow : List Str := ["_law_spring_here", "_law_rings_here", "_law_size", "_law_flow_here", "_law_ring", "_law_times_here", "_law_k"]
abbrev pLawFlow : List Str := ["_law_spring_here", "_law_rings_here", "_law_size"]
theorem scLawFlow : FnScope nLawFlow pLawFlow (defScope sLawFlow) := ⟨rfl, rfl, rfl, by decide +kernel, rfl, by decide +kernel, by decide +kernel⟩

theorem c__law_flow (D : Dn K mg "_law_flow" sLawFlow pLawFlow) (T : Tx K mg cs) (c__law_number : Cal P w K mg base 2 "_law_number" spNumber) : Cal P w K mg base 3 "_law_flow" spFlow := by
  refine cal_of D scLawFlow (fun vs H Q E h => ?_) (fun f cdv A outer s H vs Q E hr h => ?_)
  · obtain ⟨_, _, _, _, _, _, rfl, _⟩ := h
    rfl
  · obtain ⟨Am, F, sp, x, rs, size, rfl, Z, S0, ⟨p, xs, rfl, hp, prd⟩, h5, hs5, hok, k⟩ := h
    refine ⟨_, (pss_cons (ps_set (i := 3) scLawFlow.nd rfl (Or.inr rfl) (pe_lcG (own := [("_law_k", 6)]) rfl scLawFlow.nd (pi_range1 (by rfl) T.n_range (pa_cons (pv 2) pa_nil)) (blkOk_by (own := [("_law_k", 6)]) (N := nLawFlow) (sc := defScope sLawFlow) (by decide +kernel)) (fun _ _ _ _ _ => (pg_name (i := 6) scLawFlow.nd rfl (.inl rfl) (.inr rfl))) (fun _ _ _ _ _ => pts_nil) (fun _ _ _ _ _ => pe_int)))
      (pss_cons (ps_forG PassesOwn.never rfl (pi_list (pv 1)) (pg_name (i := 4) scLawFlow.nd rfl (.inr rfl) (.inl rfl))
        (pss_cons (ps_set (i := 5) scLawFlow.nd rfl (Or.inr rfl) (pe_c c__law_number hr (by decide) rfl (pa_cons (pv 0) pa_nil)))
      (pss_one (ps_set (i := 3) scLawFlow.nd rfl (Or.inr rfl) (pe_lcG (own := [("_law_k", 6)]) rfl scLawFlow.nd (pi_range1 (by rfl) T.n_range (pa_cons (pv 2) pa_nil)) (blkOk_by (own := [("_law_k", 6)]) (N := nLawFlow) (sc := defScope sLawFlow) (by decide +kernel)) (fun _ _ _ _ _ => (pg_name (i := 6) scLawFlow.nd rfl (.inl rfl) (.inr rfl))) (fun _ _ _ _ _ => pts_nil) (fun _ _ _ _ _ => (pe_op op_add (pe_ix (r := rIxL K) ix_list (pv 3) (pv 6) (fun _ _ => rfl)) (pe_op op_mul (pv 5) (pe_ix (r := rIxL K) ix_list (pv 4) (pv 6) (fun _ _ => rfl))))))))))
      (pss_one (ps_ret (pv 3))))), ?_⟩
    refine ⟨_, rfl, _, rfl, by omega, by omega, ?_⟩
    refine lc_rangeP (r := rInt) (fun b => b = 0) Z (by omega) ?_ ?_
    · intro j F1 H1 K1 hj G1 hK
      exact ⟨rfl, hK _ _ _ 0 (Gr.refl G1.fz) rfl rfl⟩
    rintro F1 H1 fp fl G1 rfl1 hlen hz
    refine ⟨_, rfl, p, rfl, ⟨_, G1.fz.L (G1.ff _ _ hp)⟩, ?_⟩
    refine for_at walk_list (fun i σ H' => ∃ (F' : Hp) (fl : List Int) (fp : Addr) (m4 m5 m6 : Option V), σ = [some (.ref sp), some (.ref p), some (.int size), some (.ref fp), m4, m5, m6] ∧ Gr Am F H F' H' ∧ rLst rInt F' (.ref fp) fl ∧ fl.length = size ∧ ∀ x ∈ fl, Bd ((i : Int) * (10 ^ 30 + 1)) x) ⟨F1, fl, fp, _, _, _, rfl, G1, rfl1, by rw [hlen]; omega, fun x hx => by rw [hz x hx]; exact ⟨by omega, by omega⟩⟩ (fun i σ H' _ ⟨F', _, _, _, _, _, _, G, _⟩ => G.fz.L (G.ff _ _ hp)) ?_ ?_
    · rintro i y σ H2 hi ⟨F2, fl2, fp2, m4, m5, m6, rfl, G2, ⟨_, ys, e, hfp, prf⟩, hl2, hb2⟩
      cases e
      have ey := paired_C prf
      subst ey
      obtain ⟨r, hr1, rr⟩ := prd_get prd hi
      have rr2 : rLst rInt F2 y r := MonoR.up G2.ff rr
      obtain ⟨rp, zs, rfl, hrp, prr⟩ := rr2
      have ez := paired_C prr
      subst ez
      obtain ⟨hrl, hrb⟩ := hok r (List.mem_of_getElem? hr1)
      refine ⟨_, rfl, Am, F2, sp, rfl, G2.fz, S0, fun F3 H3 v g3 ⟨tm, e, t0, t1⟩ => ?_⟩
      subst e
      refine ⟨_, rfl, _, rfl, by omega, by omega, ?_⟩
      refine lc_rangeP (r := rInt) (Bd (((i + 1 : Nat) : Int) * (10 ^ 30 + 1))) g3.fz (by omega) ?_ ?_
      · intro j F4 H4 K1 hj G4 hK
        have hj : j < size := by omega
        have hfp4 := G4.fz.L (K := K) ((g3.trans G4).ff _ _ hfp)
        have hrp4 := G4.fz.L (K := K) ((g3.trans G4).ff _ _ hrp)
        obtain ⟨a, ha⟩ : ∃ a, fl2[j]? = some a := ⟨fl2[j], by simp [show j < fl2.length by omega]⟩
        obtain ⟨b, hb⟩ : ∃ b, r[j]? = some b := ⟨r[j], by simp [show j < r.length by omega]⟩
        have ba := hb2 a (List.mem_of_getElem? ha)
        have bb := hrb b (List.mem_of_getElem? hb)
        refine ⟨rfl, _, rfl, _, rfl, fp2, _, _, _, rfl, rfl, hfp4, at0 (v := .int a) j (by omega) (by rw [List.getElem?_map, ha]; rfl), _, rfl, _, rfl, _, rfl, rp, _, _, _, rfl, rfl, hrp4, at0 (v := .int b) j (by omega) (by rw [List.getElem?_map, hb]; rfl), _, _, rfl, rfl, .inr (bd1 bb), _, _, rfl, rfl, ?_⟩
        refine hK _ _ _ (a + tm * b) (Gr.refl G4.fz) rfl ?_
        obtain ⟨b1, b2⟩ := bb
        obtain ⟨a1, a2⟩ := ba
        have hb3 : b = -1 ∨ b = 0 ∨ b = 1 := by omega
        have em : ((i + 1 : Nat) : Int) * (10 ^ 30 + 1) = (i : Int) * (10 ^ 30 + 1) + (10 ^ 30 + 1) := by rw [show ((i + 1 : Nat) : Int) = (i : Int) + 1 by omega, Int.add_mul, Int.one_mul]
        unfold Bd
        rw [em]
        rcases hb3 with e | e | e <;> subst e <;> constructor <;> omega
      rintro F4 H4 fp4 fl4 G4 rfl4 hlen4 hz4
      exact ⟨F4, fl4, fp4, _, _, _, rfl, (G2.trans g3).trans G4, rfl4, by rw [hlen4]; omega, hz4⟩
    · rintro σ H2 ⟨F2, fl2, fp2, m4, m5, m6, rfl, G2, r2, hl2, hb2⟩
      refine ⟨_, rfl, k _ _ _ G2 ⟨fl2, r2, hl2, fun x hx => ?_⟩⟩
      have := hb2 x hx
      have hxl := prd_len prd
      unfold Bd at this ⊢
      have : ((xs.length : Nat) : Int) * (10 ^ 30 + 1) ≤ 5 * (10 ^ 30 + 1) := Int.mul_le_mul_of_nonneg_right (by omega) (by decide)
      omega
abbrev sLawSeen : Stmt := top 91
abbrev nLawSeen : List Str := ["_law_spring_here", "_law_plan_here", "_law_flow_here", "_law_found", "_law_one", "_law_way"]
abbrev pLawSeen : List Str := ["_law_spring_here", "_law_plan_here", "_law_flow_here"]
theorem scLawSeen : FnScope nLawSeen pLawSeen (defScope sLawSeen) := ⟨rfl, rfl, rfl, by decide +kernel, rfl, by decide +kernel, by decide +kernel⟩

theorem c__law_seen (D : Dn K mg "_law_seen" sLawSeen pLawSeen) (T : Tx K mg cs) (c__law_take : Cal P w K mg base 1 "_law_take" spTake) (c__law_number : Cal P w K mg base 2 "_law_number" spNumber) : Cal P w K mg base 3 "_law_seen" spSeen := by
  refine cal_of D scLawSeen (fun vs H Q E h => ?_) (fun f cdv A outer s H vs Q E hr h => ?_)
  · obtain ⟨_, _, _, _, _, _, _, rfl, _⟩ := h
    rfl
  · obtain ⟨Am, F, sp, x, y, d, fl, rfl, Z, S0, ⟨p, x1, x2, x3, rfl, hp, r1, r2, ⟨q, xs, rfl, hq, prd⟩⟩, ⟨fp, ys, rfl, hfp, prf⟩, hms, h6, hfb, k⟩ := h
    have ey := paired_C prf
    subst ey
    refine ⟨_, (pss_cons (ps_set (i := 3) scLawSeen.nd rfl (Or.inl rfl) (pe_lst pa_nil))
      (pss_cons (ps_forG PassesOwn.never rfl (pi_list (pe_ix (r := rIxL K) ix_list (pv 1) pe_int (fun _ _ => rfl))) (pg_name (i := 4) scLawSeen.nd rfl (.inl rfl) (.inr rfl))
        (pss_cons (ps_set (i := 5) scLawSeen.nd rfl (Or.inl rfl) (pe_c c__law_take hr (by decide) rfl (pa_cons (pv 0) (pa_cons pe_int pa_nil))))
      (pss_one (ps_if (PW.pt (pw_and (pt_cmpR op_eq (pv 5) pe_int (nomark _)) (pw_and1 (pt_not (pt_val (pe_ix (r := rIxT K) ix_tup (pv 4) pe_int (fun _ _ => rfl))))))) (pss_one (ps_expr (pe_bm PySem.F.plainAttrs_list PySem.F.slot_list_append PySem.F.type_list_append mt_append (pv 3) (pa_cons pe_non pa_nil)))) (pss_one (ps_expr (pe_bm PySem.F.plainAttrs_list PySem.F.slot_list_append PySem.F.type_list_append mt_append (pv 3) (pa_cons (pe_ifExp (pt_cmpR op_eq (pv 5) pe_int (nomark _)) (pe_c c__law_number hr (by decide) rfl (pa_cons (pv 0) pa_nil)) (pe_ix (r := rIxL K) ix_list (pv 2) (pe_ix (r := rIxT K) ix_tup (pv 4) pe_int (fun _ _ => rfl)) (fun _ _ => rfl))) pa_nil))))))))
      (pss_one (ps_ret (pv 3))))), ?_⟩
    refine ⟨by show 0 ≤ sizeLine; decide, fun l hl => ?_⟩
    have hlS := Z.notS hl
    have G0 := (Gr.refl Z).own (o := .lst []) hl
    refine ⟨_, rfl, p, _, _, _, rfl, rfl, G0.fz.L hp, rfl, q, rfl, ⟨_, G0.fz.L hq⟩, ?_⟩
    refine for_at walk_list (fun i σ H' => ∃ (F' : Hp) (o : List (Option Int)) (m4 m5 : Option V), σ = [some (.ref sp), some (.ref p), some (.ref fp), some (.ref l), m4, m5] ∧ Gr Am F H F' H' ∧ F' l = none ∧ H' l = some (.lst (o.map oV)) ∧ o.length = i ∧ (∀ (j : Nat) m u, d.2.2[j]? = some m → o[j]? = some u → u = none → m.2.2 = false) ∧ ∀ u ∈ o, OkO u) ⟨F, [], _, _, rfl, G0, Z.free hl, upd_same, rfl, by simp, by simp⟩ (fun i σ H' _ ⟨F', _, _, _, _, G, _⟩ => G.fz.L (G.ff _ _ hq)) ?_ ?_
    · rintro i z σ H2 hi ⟨F2, o, m4, m5, rfl, G2, hF2, hL2, hlen, hok, hbd⟩
      obtain ⟨m, hm, rm⟩ := prd_get prd hi
      have hil : i < d.2.2.length := (List.getElem?_eq_some_iff.mp hm).1
      have rm2 : rGauge F2 z m := MonoR.up G2.ff rm
      obtain ⟨u, u1, u2, u3, rfl, hu, rfl, rfl, rfl⟩ := rm2
      refine ⟨_, rfl, tk G2.fz S0 (by decide) (by decide) fun F3 H3 a g3 a0 a1 => ?_⟩
      obtain ⟨hL3, hF3⟩ := g3.cell hlS hL2 hF2
      have G3 := G2.trans g3
      have snoc : ∀ {w : Option Int}, (w = none → m.2.2 = false) → OkO w → (∀ (j : Nat) m' u', d.2.2[j]? = some m' → (o ++ [w])[j]? = some u' → u' = none → m'.2.2 = false) ∧ ∀ u ∈ o ++ [w], OkO u := fun {w} h1 h2 => by
        refine ⟨fun j m' u' hj hu' hn => ?_, fun u hu => ?_⟩
        · rcases Nat.lt_trichotomy j o.length with c | c | c
          · rw [List.getElem?_append_left c] at hu'; exact hok j m' u' hj hu' hn
          · subst c
            rw [hlen] at hj
            rw [hm] at hj
            cases hj
            simp at hu'
            exact h1 (by rw [hu', hn])
          · have : (o ++ [w])[j]? = none := List.getElem?_eq_none (by simp; omega)
            rw [this] at hu'; cases hu'
        · rcases List.mem_append.mp hu with c | c
          · exact hbd u c
          · rw [List.mem_singleton.mp c]; exact h2
      have fin : ∀ {F' H' : Hp} {w : Option Int}, Gr Am F H F' H' → F' l = none → H' l = some (.lst (o.map oV)) → (w = none → m.2.2 = false) → OkO w → ∃ (F'' : Hp) (o' : List (Option Int)) (m4 m5 : Option V), [some (V.ref sp), some (.ref p), some (.ref fp), some (.ref l), some (.ref u), some (.int a)] = [some (.ref sp), some (.ref p), some (.ref fp), some (.ref l), m4, m5] ∧ Gr Am F H F'' (upd H' l (.lst (o.map oV ++ [oV w]))) ∧ F'' l = none ∧ (upd H' l (.lst (o.map oV ++ [oV w]))) l = some (.lst (o'.map oV)) ∧ o'.length = i + 1 ∧ (∀ (j : Nat) m u, d.2.2[j]? = some m → o'[j]? = some u → u = none → m.2.2 = false) ∧ ∀ u ∈ o', OkO u := fun {F' H' w} G hF hL h1 h2 => ⟨F', o ++ [w], _, _, rfl, G.put hl hF, hF, by rw [List.map_append]; exact upd_same, by rw [List.length_append, hlen]; rfl, (snoc h1 h2).1, (snoc h1 h2).2⟩
      have hsz : (o.map oV).length < sizeLine := szlt (by rw [List.length_map]; omega)
      have rest : ∀ (e : V) (hd : a ≠ 1 ∨ a = 1), True := fun _ _ => trivial
      refine ⟨_, rfl, rfl, _, rfl, ?_⟩
      by_cases ca : a = 0
      · subst ca
        rw [decide_eq_true rfl]
        refine iteT ⟨_, rfl, u, _, _, _, rfl, rfl, G3.fz.T (g3.ff _ _ hu), rfl, _, rfl, ?_⟩
        cases hs : m.2.2 with
        | false =>
          refine iteT ⟨_, rfl, .inl ⟨rfl, _, SqL.of hL3⟩, l, _, _, rfl, rfl, hL3, hsz, ?_⟩
          exact fin (w := none) G3 hF3 hL3 (fun _ => hs) (fun i h => by cases h)
        | true =>
          refine iteF ⟨_, rfl, .inl ⟨rfl, _, SqL.of hL3⟩, _, rfl, rfl, _, rfl, ?_⟩
          rw [decide_eq_false (by decide)]
          obtain ⟨b, hb⟩ : ∃ b, fl[m.2.1]? = some b := ⟨fl[m.2.1]'(hms m (List.mem_of_getElem? hm)), by simp [hms m (List.mem_of_getElem? hm)]⟩
          refine iteF ⟨_, rfl, _, rfl, u, _, _, _, rfl, rfl, G3.fz.T (g3.ff _ _ hu), rfl, fp, _, _, _, rfl, rfl, G3.fz.L (G3.ff _ _ hfp), at0 (v := .int b) m.2.1 rfl (by rw [List.getElem?_map, hb]; rfl), ?_⟩
          refine ⟨l, _, _, rfl, rfl, hL3, hsz, ?_⟩
          exact fin (w := some b) G3 hF3 hL3 (fun h => by cases h) (fun i h => by cases h; exact hfb _ (List.mem_of_getElem? hb))
      · rw [decide_eq_false (fun e => ca (V.int.inj e))]
        refine iteF ?_
        refine iteF ⟨_, rfl, .inl ⟨rfl, _, SqL.of hL3⟩, _, rfl, rfl, _, rfl, ?_⟩
        by_cases cb : a = 1
        · subst cb
          rw [decide_eq_true rfl]
          refine iteT ⟨_, rfl, Am, F3, sp, rfl, G3.fz, S0, fun F4 H4 v g4 ⟨b, e, b0, b1⟩ => ?_⟩
          subst e
          obtain ⟨hL4, hF4⟩ := g4.cell hlS hL3 hF3
          refine ⟨l, _, _, rfl, rfl, hL4, hsz, ?_⟩
          exact fin (w := some b) (G3.trans g4) hF4 hL4 (fun h => by cases h) (fun i h => by cases h; exact ⟨by omega, by omega⟩)
        · rw [decide_eq_false (fun e => cb (V.int.inj e))]
          obtain ⟨b, hb⟩ : ∃ b, fl[m.2.1]? = some b := ⟨fl[m.2.1]'(hms m (List.mem_of_getElem? hm)), by simp [hms m (List.mem_of_getElem? hm)]⟩
          refine iteF ⟨_, rfl, _, rfl, u, _, _, _, rfl, rfl, G3.fz.T (g3.ff _ _ hu), rfl, fp, _, _, _, rfl, rfl, G3.fz.L (G3.ff _ _ hfp), at0 (v := .int b) m.2.1 rfl (by rw [List.getElem?_map, hb]; rfl), ?_⟩
          refine ⟨l, _, _, rfl, rfl, hL3, hsz, ?_⟩
          exact fin (w := some b) G3 hF3 hL3 (fun h => by cases h) (fun i h => by cases h; exact hfb _ (List.mem_of_getElem? hb))
    · rintro σ H2 ⟨F2, o, m4, m5, rfl, G2, hF2, hL2, hlen, hok, hbd⟩
      have G3 := G2.frz hl hF2 hL2
      exact ⟨_, rfl, k _ _ _ G3 ⟨o, ⟨l, _, rfl, upd_same, paired_of⟩, by rw [hlen, prd_len prd], hok, hbd⟩⟩
end
end Rv
end

section
set_option Elab.async false
set_option autoImplicit false
set_option linter.all false
set_option maxRecDepth 100000
set_option maxHeartbeats 4000000
namespace Rv
open PySem L2 PyProof.Rows PySem.Spec
def sgL : Tt := (List.range 26).map (· + 97) ++ (List.range 10).map (· + 48)
theorem lit_sg : Str.ofString "abcdefghijklmnopqrstuvwxyz0123456789" = S sgL := lit (by decide +kernel)
theorem sgL_len : sgL.length = 36 := by decide +kernel
theorem sgL_nd : sgL.Nodup := by decide +kernel
theorem sgL_all : ∀ c ∈ sgL, isL c = true ∨ isD c = true := by decide +kernel
theorem sgL_low : ∀ i : Fin 26, ∃ c, sgL[i.val]? = some c ∧ isL c = true := by decide +kernel
theorem sg_low {i : Nat} (h : i < 26) : ∃ c, sgL[i]? = some c ∧ isL c = true := sgL_low ⟨i, h⟩
theorem sg_any {i : Nat} (h : i < 36) : ∃ c, sgL[i]? = some c ∧ (isL c = true ∨ isD c = true) := ⟨sgL[i]'(by rw [sgL_len]; exact h), by simp [sgL_len, h], sgL_all _ (List.getElem_mem _)⟩
def wordsL : List Tt := [wIf, wGo, wVote, wTell, wDoubt, [112, 105, 112, 101], [109, 101, 116, 101, 114], [115, 101, 97, 108, 101, 100]]
theorem wordsL_ok : ∀ t ∈ wordsL, okN t = true := by decide +kernel
theorem lit_go : Str.ofString "go" = S wGo := lit (by decide +kernel)
theorem lit_pipe0 : Str.ofString "pipe" = S [112, 105, 112, 101] := lit (by decide +kernel)
theorem lit_meter0 : Str.ofString "meter" = S [109, 101, 116, 101, 114] := lit (by decide +kernel)
theorem lit_sealed0 : Str.ofString "sealed" = S [115, 101, 97, 108, 101, 100] := lit (by decide +kernel)
/-- as a name, of any length -/
def okH (l : Tt) : Prop := ∃ c r, l = c :: r ∧ isL c = true ∧ ∀ d ∈ r, isL d = true ∨ isD d = true
theorem okN_of {l : Tt} (h : okH l) (hl : l.length ≤ 8) : okN l = true := by
  obtain ⟨c, r, rfl, h1, h2⟩ := h
  simp at hl
  simp [okN, h1]
  exact ⟨fun x hx => h2 x hx, hl⟩
theorem okH_of {l : Tt} (h : okN l = true) : okH l := by
  cases l with
  | nil => simp [okN] at h
  | cons c r => exact ⟨c, r, rfl, okN_head h, fun d hd => okN_all h d (List.mem_cons_of_mem _ hd)⟩
theorem okH.snoc {l : Tt} (h : okH l) {c : Nat} (hc : isL c = true ∨ isD c = true) : okH (l ++ [c]) := by
  obtain ⟨a, r, rfl, h1, h2⟩ := h
  refine ⟨a, r ++ [c], rfl, h1, fun d hd => ?_⟩
  rcases List.mem_append.mp hd with z | z
  · exact h2 d z
  · rw [List.mem_singleton.mp z]; exact hc
theorem okH.take {l : Tt} (h : okH l) {n : Nat} (hn : 1 ≤ n) : okH (l.take n) := by
  obtain ⟨a, r, rfl, h1, h2⟩ := h
  obtain ⟨m, rfl⟩ : ∃ m, n = m + 1 := ⟨n - 1, by omega⟩
  exact ⟨a, r.take m, rfl, h1, fun d hd => h2 d (List.mem_of_mem_take hd)⟩
theorem nd_sub {α : Type} [DecidableEq α] : ∀ {l m : List α}, l.Nodup → (∀ x ∈ l, x ∈ m) → l.length ≤ m.length
  | [], _, _, _ => Nat.zero_le _
  | a :: l, m, hn, hs => by
    obtain ⟨h1, h2⟩ := List.nodup_cons.mp hn
    have ha := hs a (List.mem_cons_self ..)
    have := nd_sub (l := l) (m := m.erase a) h2 fun x hx => (List.mem_erase_of_ne (fun e => h1 (by rw [← e]; exact hx))).mpr (hs x (List.mem_cons_of_mem _ hx))
    rw [List.length_erase_of_mem ha] at this
    have := List.length_pos_of_mem ha
    simp; omega
def spareL (t : Tt) : List Tt := t :: sgL.map fun c => t.take 7 ++ [c]
theorem spare_ok {t : Tt} (h : okH t) (hl : t.length ≤ 8) : ∀ x ∈ spareL t, okN x = true := by
  intro x hx
  rcases List.mem_cons.mp hx with e | hx
  · rw [e]; exact okN_of h hl
  · obtain ⟨c, hc, rfl⟩ := List.mem_map.mp hx
    exact okN_of ((h.take (by decide)).snoc (sgL_all c hc)) (by simp; omega)
theorem spare_some {t : Tt} {m : List Tt} (hm : m.length < 36) : ∃ x r, (spareL t).filter (fun x => decide (x ∉ m)) = x :: r ∧ x ∈ spareL t ∧ x ∉ m := by
  have hne : (spareL t).filter (fun x => decide (x ∉ m)) ≠ [] := fun e => by
    have hall : ∀ x ∈ spareL t, x ∈ m := fun x hx => by
      have q := (List.filter_eq_nil_iff.mp e) x hx
      simpa using q
    have q := nd_sub (l := sgL.map fun c => t.take 7 ++ [c]) (m := m) (by
      rw [List.Nodup, List.pairwise_map]
      refine List.Pairwise.imp (fun {a b} hab e => hab ?_) sgL_nd
      have := List.append_cancel_left e
      simpa using this) fun x hx => hall x (List.mem_cons_of_mem _ hx)
    rw [List.length_map, sgL_len] at q
    omega
  cases e : (spareL t).filter (fun x => decide (x ∉ m)) with
  | nil => exact absurd e hne
  | cons x r =>
    have hx : x ∈ (spareL t).filter (fun x => decide (x ∉ m)) := by rw [e]; exact List.mem_cons_self ..
    obtain ⟨h1, h2⟩ := List.mem_filter.mp hx
    exact ⟨x, r, rfl, h1, of_decide_eq_true h2⟩
abbrev spTitles : Sp := fun vs H Q _ => ∃ (A : Amb) (F : Hp) (sp : Addr) (m : Nat), vs = [.ref sp, .int m] ∧ Fz A F H ∧ Spr A sp ∧ m ≤ 6 ∧ Out A F H Q fun F' _ v => ∃ l : List Tt, rLst rS F' v l ∧ l.length = m ∧ l.Nodup ∧ ∀ t ∈ l, okN t = true
section
variable {P : Program} {w : World} {K : PySem.W.Frag} {mg : Str → Option Value} {base : Heap} {cs : Cs}
abbrev sLawTitles : Stmt := top 74
abbrev nLawTitles : List Str := ["_law_spring_here", "_law_many", "_law_signs", "_law_found", "_law_words", "_law_k", "_law_size", "_law_title", "_law_turn", "_law_spare", "_law_sign", "_law_one"]
abbrev pLawTitles : List Str := ["_law_spring_here", "_law_many"]
theorem scLawTitles : FnScope nLawTitles pLawTitles (defScope sLawTitles) := ⟨rfl, rfl, rfl, by decide +kernel, rfl, by decide +kernel, by decide +kernel⟩

theorem c__law_titles (D : Dn K mg "_law_titles" sLawTitles pLawTitles) (T : Tx K mg cs) (c__law_take : Cal P w K mg base 1 "_law_take" spTake) : Cal P w K mg base 2 "_law_titles" spTitles := by
  refine cal_of D scLawTitles (fun vs H Q E h => ?_) (fun f cdv A outer s H vs Q E hr h => ?_)
  · obtain ⟨_, _, _, _, rfl, _⟩ := h
    rfl
  · obtain ⟨Am, F, sp, many, rfl, Z, S0, hm6, k⟩ := h
    refine ⟨_, (pss_cons (ps_asg (pe_tup (pa_cons pe_str (pa_cons (pe_lst pa_nil) pa_nil))) (pg_tupK K 2 rfl rfl (pgs_cons (pg_name (i := 2) scLawTitles.nd rfl (.inl rfl) (.inr rfl)) (pgs_cons (pg_name (i := 3) scLawTitles.nd rfl (.inr rfl) (.inl rfl)) pgs_nil))))
      (pss_cons (ps_set (i := 4) scLawTitles.nd rfl (Or.inl rfl) (pe_lst (pa_cons pe_str (pa_cons pe_str (pa_cons pe_str (pa_cons pe_str (pa_cons pe_str (pa_cons pe_str (pa_cons pe_str (pa_cons pe_str pa_nil))))))))))
      (pss_cons (ps_forG PassesOwn.never rfl (pi_range1 (by rfl) T.n_range (pa_cons (pv 1) pa_nil)) (pg_name (i := 5) scLawTitles.nd rfl (.inl rfl) (.inr rfl))
        (pss_cons (ps_asg (pe_tup (pa_cons (pe_ix (r := rIxL K) ix_list (pe_lst (pa_cons pe_int (pa_cons pe_int (pa_cons pe_int (pa_cons pe_int (pa_cons pe_int (pa_cons pe_int pa_nil))))))) (pe_c c__law_take hr (by decide) rfl (pa_cons (pv 0) (pa_cons pe_int pa_nil))) (fun _ _ => rfl)) (pa_cons (pe_ix ix_str (pv 2) (pe_c c__law_take hr (by decide) rfl (pa_cons (pv 0) (pa_cons pe_int pa_nil))) (fun _ _ => rfl)) pa_nil))) (pg_tupK K 2 rfl rfl (pgs_cons (pg_name (i := 6) scLawTitles.nd rfl (.inl rfl) (.inr rfl)) (pgs_cons (pg_name (i := 7) scLawTitles.nd rfl (.inr rfl) (.inl rfl)) pgs_nil))))
      (pss_cons (ps_forG PassesOwn.never rfl (pi_range1 (by rfl) T.n_range (pa_cons (pv 6) pa_nil)) (pg_name (i := 8) scLawTitles.nd rfl (.inl rfl) (.inr rfl))
        (pss_one (ps_set (i := 7) scLawTitles.nd rfl (Or.inr rfl) (pe_op op_add_str (pv 7) (pe_ix ix_str (pv 2) (pe_c c__law_take hr (by decide) rfl (pa_cons (pv 0) (pa_cons pe_int pa_nil))) (fun _ _ => rfl))))))
      (pss_cons (ps_if (pt_cmpR op_eq (pe_c c__law_take hr (by decide) rfl (pa_cons (pv 0) (pa_cons pe_int pa_nil))) pe_int (nomark _)) (pss_one (ps_set (i := 7) scLawTitles.nd rfl (Or.inr rfl) (pe_ix (r := rIxL K) ix_list (pv 4) (pe_c c__law_take hr (by decide) rfl (pa_cons (pv 0) (pa_cons pe_int pa_nil))) (fun _ _ => rfl)))) pss_nil)
      (pss_cons (ps_set (i := 9) scLawTitles.nd rfl (Or.inl rfl) (pe_op op_cat (pe_lst (pa_cons (pv 7) pa_nil)) (pe_lcG (own := [("_law_sign", 10)]) rfl scLawTitles.nd (pi_str (pv 2)) (blkOk_by (own := [("_law_sign", 10)]) (N := nLawTitles) (sc := defScope sLawTitles) (by decide +kernel)) (fun _ _ _ _ _ => (pg_name (i := 10) scLawTitles.nd rfl (.inl rfl) (.inr rfl))) (fun _ _ _ _ _ => pts_nil) (fun _ _ _ _ _ => (pe_op op_add_str (pe_slice C8.sl_txt (pv 7) po_none (po_some pe_int)) (pv 10))))))
      (pss_one (ps_expr (pe_bm PySem.F.plainAttrs_list PySem.F.slot_list_append PySem.F.type_list_append mt_append (pv 3) (pa_cons (pe_ix (r := rIxL K) ix_list (pe_lcG (own := [("_law_one", 11)]) rfl scLawTitles.nd (pi_list (pv 9)) (blkOk_by (own := [("_law_one", 11)]) (N := nLawTitles) (sc := defScope sLawTitles) (by decide +kernel)) (fun _ _ _ _ _ => (pg_name (i := 11) scLawTitles.nd rfl (.inl rfl) (.inr rfl))) (fun _ _ _ _ _ => (pts_one (pt_cmpR (r := rIn K true) op_notIn_seq (pv 11) (pv 3) (by first | exact nomark _ | rfl)))) (fun _ _ _ _ _ => (pv 11))) pe_int (fun _ _ => rfl)) pa_nil)))))))))
      (pss_one (ps_ret (pv 3)))))), ?_⟩
    rw [lit_sg]
    refine ⟨by show 0 ≤ sizeLine; decide, fun fl hfl => ?_⟩
    have hfS := Z.notS hfl
    refine ⟨by show 2 ≤ sizeLine; decide, fun t ht => ?_⟩
    have nt : fl ≠ t := ne_of_none upd_same ht
    have G1 := ((Gr.refl Z).own (o := .lst []) hfl).new (o := .tup [.str (S sgL), .ref fl]) ht
    refine ⟨t, _, rfl, SqT.of upd_same, rfl, _, _, rfl, _, _, rfl, rfl, ?_⟩
    have hL1 : upd (upd H fl (.lst [])) t (.tup [.str (S sgL), .ref fl]) fl = some (.lst []) := by rw [upd_ne nt, upd_same]
    have hF1 : upd F t (.tup [.str (S sgL), .ref fl]) fl = none := by rw [upd_ne nt]; exact Z.free hfl
    refine ⟨by show 8 ≤ sizeLine; decide, fun wl hwl => ?_⟩
    have G2 := G1.new (o := .lst (wordsL.map fun x => V.str (S x))) hwl
    have hw : (wordsL.map fun x => V.str (S x)) = [.str "if", .str "go", .str "vote", .str "tell", .str "doubt", .str "pipe", .str "meter", .str "sealed"] := by
      rw [lit_if, lit_go, lit_vote, lit_tell, lit_doubt, lit_pipe0, lit_meter0, lit_sealed0]; rfl
    rw [← hw]
    obtain ⟨hL2, hF2⟩ := ((Gr.refl G1.fz).new (o := .lst (wordsL.map fun x => V.str (S x))) hwl).cell hfS hL1 hF1
    have hwl2 : upd (upd F t (.tup [.str (S sgL), .ref fl])) wl (.lst (wordsL.map fun x => V.str (S x))) wl = some (.lst (wordsL.map fun x => V.str (S x))) := upd_same
    refine ⟨_, rfl, _, rfl, by omega, by omega, ?_⟩
    refine for_rng (fun i σ H' => ∃ (F' : Hp) (o : List Tt) (m5 m6 m7 m8 m9 m10 m11 : Option V), σ = [some (.ref sp), some (.int many), some (.str (S sgL)), some (.ref fl), some (.ref wl), m5, m6, m7, m8, m9, m10, m11] ∧ Gr Am F H F' H' ∧ F' wl = some (.lst (wordsL.map fun x => V.str (S x))) ∧ F' fl = none ∧ H' fl = some (.lst (o.map fun x => V.str (S x))) ∧ o.length = i ∧ o.Nodup ∧ ∀ t ∈ o, okN t = true) ⟨_, [], _, _, _, _, _, _, _, rfl, G2, hwl2, hF2, hL2, rfl, by simp, by simp⟩ ?_ ?_
    · rintro i σ H3 hi ⟨F3, o, m5, m6, m7, m8, m9, m10, m11, rfl, G3, hW3, hF3, hL3, hlen, hnd, hok⟩
      refine ⟨by show 6 ≤ sizeLine; decide, fun sz1 hsz => ?_⟩
      have G4 := G3.new (o := .lst [.int 0, .int 0, .int 1, .int 1, .int 3, .int 7]) hsz
      have g4 := (Gr.refl G3.fz).new (o := .lst [.int 0, .int 0, .int 1, .int 1, .int 3, .int 7]) hsz
      obtain ⟨hL4, hF4⟩ := g4.cell hfS hL3 hF3
      have hsz4 : upd F3 sz1 (.lst [.int 0, .int 0, .int 1, .int 1, .int 3, .int 7]) sz1 = some (.lst [.int 0, .int 0, .int 1, .int 1, .int 3, .int 7]) := upd_same
      refine ⟨_, rfl, tk G4.fz S0 (by decide) (by decide) fun F5 H5 a g5 a0 a1 => ?_⟩
      obtain ⟨hL5, hF5⟩ := g5.cell hfS hL4 hF4
      obtain ⟨v, hv, hat⟩ := atI_rng (xs := [.int 0, .int 0, .int 1, .int 1, .int 3, .int 7]) a0 a1
      obtain ⟨z, rfl, z0, z7⟩ : ∃ z : Int, v = .int z ∧ 0 ≤ z ∧ z ≤ 7 := by
        simp only [List.mem_cons, List.not_mem_nil, or_false] at hv
        rcases hv with e | e | e | e | e | e <;> exact ⟨_, e, by decide, by decide⟩
      refine ⟨sz1, _, _, _, rfl, rfl, g5.fz.L (g5.ff _ _ hsz4), hat, ?_⟩
      refine ⟨_, rfl, _, rfl, tk g5.fz S0 (by decide) (by decide) fun F6 H6 b g6 b0 b1 => ?_⟩
      obtain ⟨hL6, hF6⟩ := g6.cell hfS hL5 hF5
      obtain ⟨b, rfl⟩ := Int.eq_ofNat_of_zero_le b0
      obtain ⟨c, hc, hcl⟩ := sg_low (i := b) (by omega)
      refine ⟨_, _, _, rfl, rfl, sz (by rw [S_length, sgL_len]; decide), at0 b rfl hc, by show 2 ≤ sizeLine; decide, fun t1 ht1 => ?_⟩
      have g7 := (Gr.refl g6.fz).new (o := .tup [.int z, .str ⟨#[c]⟩]) ht1
      obtain ⟨hL7, hF7⟩ := g7.cell hfS hL6 hF6
      refine ⟨t1, _, rfl, SqT.of upd_same, rfl, _, _, rfl, _, _, rfl, rfl, ?_⟩
      have G7 := ((G4.trans g5).trans g6).trans g7
      have w37 : Same F3 _ := ((g4.trans g5).trans (g6.trans g7)).ff
      obtain ⟨z, rfl⟩ := Int.eq_ofNat_of_zero_le z0
      refine ⟨_, rfl, _, rfl, by omega, by omega, ?_⟩
      refine for_rng (fun j σ H' => ∃ (F' : Hp) (tt : Tt) (m8 m9 m10 m11 : Option V), σ = [some (.ref sp), some (.int many), some (.str (S sgL)), some (.ref fl), some (.ref wl), some (.int (0 + (i : Int))), some (.int (z : Int)), some (.str (S tt)), m8, m9, m10, m11] ∧ Gr Am F H F' H' ∧ Same F3 F' ∧ F' fl = none ∧ H' fl = some (.lst (o.map fun x => V.str (S x))) ∧ okH tt ∧ tt.length = 1 + j) ⟨_, [c], _, _, _, _, rfl, G7, w37, hF7, hL7, ⟨c, [], rfl, hcl, by simp⟩, rfl⟩ ?_ ?_
      · rintro j σ H8 hj ⟨F8, tt, m8, m9, m10, m11, rfl, G8, w8, hF8, hL8, hoh, htl⟩
        refine ⟨_, rfl, _, rfl, _, rfl, tk G8.fz S0 (by decide) (by decide) fun F9 H9 d g9 d0 d1 => ?_⟩
        obtain ⟨hL9, hF9⟩ := g9.cell hfS hL8 hF8
        obtain ⟨d, rfl⟩ := Int.eq_ofNat_of_zero_le d0
        obtain ⟨e, he, hel⟩ := sg_any (i := d) (by omega)
        refine ⟨_, _, _, rfl, rfl, sz (by rw [S_length, sgL_len]; decide), at0 d rfl he, _, _, rfl, rfl, sz (by rw [sig, S_length, S_length]; simp; omega), ?_⟩
        rw [sig, SX.S_cat]
        exact ⟨F9, tt ++ [e], _, _, _, _, rfl, G8.trans g9, w8.trans g9.ff, hF9, hL9, hoh.snoc hel, by simp; omega⟩
      · rintro σ H8 ⟨F8, tt, m8, m9, m10, m11, rfl, G8, w8, hF8, hL8, hoh, htl⟩
        dsimp only [tSeq]
        refine viaS (t := tIfS _ _ _) (fun σ' H' => ∃ (F' : Hp) (tt : Tt) (m8 m9 m10 m11 : Option V), σ' = [some (.ref sp), some (.int many), some (.str (S sgL)), some (.ref fl), some (.ref wl), some (.int (0 + (i : Int))), some (.int (z : Int)), some (.str (S tt)), m8, m9, m10, m11] ∧ Gr Am F H F' H' ∧ Same F3 F' ∧ F' fl = none ∧ H' fl = some (.lst (o.map fun x => V.str (S x))) ∧ okH tt ∧ tt.length ≤ 8) (fun N hN => ?_) ?_
        · refine ⟨_, rfl, tk G8.fz S0 (by decide) (by decide) fun F9 H9 d g9 d0 d1 => ?_⟩
          obtain ⟨hL9, hF9⟩ := g9.cell hfS hL8 hF8
          refine ⟨rfl, _, rfl, ?_⟩
          refine ite2 (fun hd => ?_) (fun hd => ?_)
          · refine ⟨_, rfl, _, rfl, tk g9.fz S0 (by decide) (by decide) fun Fa Ha e ga e0 e1 => ?_⟩
            obtain ⟨hLa, hFa⟩ := ga.cell hfS hL9 hF9
            obtain ⟨v, hv, hat⟩ := atI_rng (xs := wordsL.map fun x => V.str (S x)) e0 e1
            obtain ⟨wd, hwd, rfl⟩ := List.mem_map.mp hv
            refine ⟨wl, _, _, _, rfl, rfl, ga.fz.L (ga.ff _ _ (g9.ff _ _ (w8 _ _ hW3))), hat, ?_⟩
            exact hN _ _ ⟨Fa, wd, _, _, _, _, rfl, (G8.trans g9).trans ga, w8.trans (g9.trans ga).ff, hFa, hLa, okH_of (wordsL_ok wd hwd), (okN_len (wordsL_ok wd hwd)).2⟩
          · exact hN _ _ ⟨F9, tt, _, _, _, _, rfl, G8.trans g9, w8.trans g9.ff, hF9, hL9, hoh, by omega⟩
        rintro σ' H9 ⟨F9, tt, m8, m9, m10, m11, rfl, G9, w9, hF9, hL9, hoh, htl⟩
        refine ⟨_, rfl, by show 1 ≤ sizeLine; decide, fun u hu => ?_⟩
        have ga := (Gr.refl G9.fz).new (o := .lst [.str (S tt)]) hu
        obtain ⟨hLa, hFa⟩ := ga.cell hfS hL9 hF9
        have huF : upd F9 u (.lst [.str (S tt)]) u = some (.lst [.str (S tt)]) := upd_same
        refine ⟨_, rfl, _, rfl, ?_⟩
        refine lc_str (r := rS) (l := sgL) (fun c => tt.take 7 ++ [c]) ga.fz (by rw [sgL_len]; decide) ?_ ?_
        · intro j d Fb Hb K1 hd Gb hK
          refine ⟨rfl, _, rfl, _, rfl, _, rfl, sz (by rw [S_length]; omega), ?_⟩
          have esl : Txt.slice (S tt) none (some 7) = S (tt.take 7) := SX.slice_to (by decide)
          rw [esl]
          refine ⟨_, rfl, _, _, rfl, rfl, sz (by rw [sig, S_length, S_length]; simp; omega), ?_⟩
          rw [sig, SX.S_cat]
          exact hK _ _ _ (Gr.refl Gb.fz) rfl
        rintro Fb Hb q Gb ⟨_, ys, e, hq, prq⟩
        cases e
        have ey := paired_C prq
        subst ey
        obtain ⟨hLb, hFb⟩ := Gb.cell hfS hLa hFa
        refine ⟨u, q, _, _, rfl, rfl, Gb.fz.sub _ _ (Gb.ff _ _ huF), Gb.fz.sub _ _ hq, by rw [sizeLine_eq]; simp [sgL_len], fun p9 hp9 => ?_⟩
        have gc := (Gr.refl Gb.fz).new (o := .lst ([.str (S tt)] ++ (sgL.map fun c => tt.take 7 ++ [c]).map fun x => V.str (S x))) hp9
        obtain ⟨hLc, hFc⟩ := gc.cell hfS hLb hFb
        have hp9F : upd Fb p9 (.lst ([.str (S tt)] ++ (sgL.map fun c => tt.take 7 ++ [c]).map fun x => V.str (S x))) p9 = some (.lst ((spareL tt).map fun x => V.str (S x))) := upd_same
        refine ⟨_, rfl, .inl ⟨rfl, _, SqL.of hLc⟩, _, rfl, p9, rfl, ⟨_, gc.fz.L hp9F⟩, ?_⟩
        refine lc_filter (ra := rS) (r := rS) (fun x => decide (x ∉ o)) id walk_list gc.fz paired_of (fun F' H' g => g.fz.L (g.ff _ _ hp9F)) (by simp [spareL, sgL_len]) ?_ ?_
        · rintro j x d Fd Hd K1 K0 hd Gd rfl hK1 hK0
          obtain ⟨hLd, hFd⟩ := Gd.cell hfS hLc hFc
          refine ⟨rfl, _, rfl, _, rfl, fl, _, rfl, .inl (SqL.of hLd), rfl, flat_S, _, rfl, ?_⟩
          simp only [inV_S]
          by_cases hin : d ∈ o
          · rw [decide_eq_true hin]
            exact iteF (hK0 (by simp [hin]) _ _ (Gr.refl Gd.fz))
          · rw [decide_eq_false hin]
            exact iteT ⟨_, rfl, hK1 (by simp [hin]) _ _ _ (Gr.refl Gd.fz) rfl⟩
        rintro Fd Hd q2 Gd ⟨_, zs, e, hq2, prz⟩
        cases e
        rw [List.map_id] at prz
        have ez := paired_C prz
        subst ez
        obtain ⟨hLd, hFd⟩ := Gd.cell hfS hLc hFc
        obtain ⟨x, r, hx, hxm, hxn⟩ := spare_some (t := tt) (m := o) (by omega)
        have hq3 := hq2
        rw [hx] at hq3
        refine ⟨q2, _, _, _, rfl, rfl, Gd.fz.L hq3, at0 0 rfl rfl, fl, _, _, rfl, rfl, hLd, szlt (by rw [List.length_map]; omega), ?_⟩
        have GG := ((G9.trans ga).trans Gb).trans (gc.trans Gd)
        refine ⟨Fd, o ++ [x], _, _, _, _, _, _, _, rfl, GG.put hfl hFd, (ga.trans (Gb.trans (gc.trans Gd))).ff _ _ (w9 _ _ hW3), hFd, by rw [List.map_append]; exact upd_same, by rw [List.length_append, hlen]; rfl, ?_, ?_⟩
        · rw [List.nodup_append]
          refine ⟨hnd, by simp, fun a ha b hb e => ?_⟩
          rw [List.mem_singleton.mp hb] at e
          exact hxn (by rw [← e]; exact ha)
        · intro t' ht'
          rcases List.mem_append.mp ht' with z | z
          · exact hok t' z
          · rw [List.mem_singleton.mp z]; exact spare_ok hoh htl x hxm
    · rintro σ H3 ⟨F3, o, m5, m6, m7, m8, m9, m10, m11, rfl, G3, hW3, hF3, hL3, hlen, hnd, hok⟩
      have G4 := G3.frz hfl hF3 hL3
      exact ⟨_, rfl, k _ _ _ G4 ⟨o, ⟨fl, _, rfl, upd_same, paired_of⟩, by omega, hnd, hok⟩⟩
end
end Rv
end

section
set_option Elab.async false
set_option autoImplicit false
set_option linter.all false
set_option maxRecDepth 100000
set_option maxHeartbeats 4000000
namespace Rv
open PySem L2 PyProof.Rows PySem.Spec
def OkTube (m : Nat) (t : Tt × Nat × Nat) : Prop := okN t.1 = true ∧ t.2.1 < m ∧ t.2.2 < m ∧ t.2.1 ≠ t.2.2
structure OkPlan (d : PlanD) : Prop where
  sp2 : 2 ≤ d.1.length
  sp5 : d.1.length ≤ 5
  spo : ∀ t ∈ d.1, okN t = true
  spn : d.1.Nodup
  p1 : 1 ≤ d.2.1.length
  p5 : d.2.1.length ≤ 5
  pok : ∀ t ∈ d.2.1, OkTube d.1.length t
  pnd : (d.2.1.map (·.1)).Nodup
  m6 : d.2.2.length ≤ 6
  mok : ∀ t ∈ d.2.2, okN t.1 = true ∧ t.2.1 < d.2.1.length
  mnd : (d.2.2.map (·.1)).Nodup
abbrev spPlan : Sp := fun vs H Q _ => ∃ (A : Amb) (F : Hp) (sp : Addr), vs = [.ref sp, .int 5, .int 6] ∧ Fz A F H ∧ Spr A sp ∧ Out A F H Q fun F' _ v => ∃ d : PlanD, rPlan F' v d ∧ OkPlan d
theorem tl {A : Amb} {F H : Hp} {Q : VK} {sp : Addr} {m : Nat} (Z : Fz A F H) (S0 : Spr A sp) (h : m ≤ 6) (k : ∀ F' H' p (l : List Tt), Gr A F H F' H' → F' p = some (.lst (l.map fun x => V.str (S x))) → l.length = m → l.Nodup → (∀ t ∈ l, okN t = true) → Q (.ref p) H') : spTitles [.ref sp, .int m] H Q E0 :=
  ⟨A, F, sp, m, rfl, Z, S0, h, fun F' H' v g ⟨l, ⟨p, xs, e, hp, prd⟩, h1, h2, h3⟩ => by
    subst e
    rw [paired_C prd] at hp
    exact k F' H' p l g hp h1 h2 h3⟩
def Cell2 (A : Amb) (F H Fi : Hp) (pl ml : Addr) (xs ys : List V) (F' H' : Hp) : Prop := Gr A F H F' H' ∧ Same Fi F' ∧ (F' pl = none ∧ H' pl = some (.lst xs)) ∧ (F' ml = none ∧ H' ml = some (.lst ys))
theorem Cell2.grow {A : Amb} {F H Fi F' H' F2 H2 : Hp} {pl ml : Addr} {xs ys : List V} (c : Cell2 A F H Fi pl ml xs ys F' H') (g : Gr A F' H' F2 H2) (hp : ¬ A.S pl) (hm : ¬ A.S ml) : Cell2 A F H Fi pl ml xs ys F2 H2 := by
  obtain ⟨a, b, ⟨c1, c2⟩, ⟨d1, d2⟩⟩ := c
  obtain ⟨e1, e2⟩ := g.cell hp c2 c1
  obtain ⟨f1, f2⟩ := g.cell hm d2 d1
  exact ⟨a.trans g, b.trans g.ff, ⟨e2, e1⟩, ⟨f2, f1⟩⟩
theorem mod_ne {j st m : Nat} (hj : j < m) (h1 : 1 ≤ st) (h2 : st < m) : (j + st) % m ≠ j ∧ (j + st) % m < m := by
  refine ⟨fun e => ?_, Nat.mod_lt _ (by omega)⟩
  by_cases c : j + st < m
  · rw [Nat.mod_eq_of_lt c] at e; omega
  · rw [Nat.mod_eq_sub_mod (by omega), Nat.mod_eq_of_lt (by omega)] at e; omega
section
variable {P : Program} {w : World} {K : PySem.W.Frag} {mg : Str → Option Value} {base : Heap} {cs : Cs}
abbrev sLawPlan : Stmt := top 75
abbrev nLawPlan : List Str := ["_law_spring_here", "_law_tubes", "_law_gauges", "_law_spots", "_law_titles_here", "_law_many", "_law_round_here", "_law_pipes_here", "_law_meters_here", "_law_k", "_law_first", "_law_step", "_law_second", "_law_turned", "_law_even", "_law_tags", "_law_spot"]
abbrev pLawPlan : List Str := ["_law_spring_here", "_law_tubes", "_law_gauges"]
theorem scLawPlan : FnScope nLawPlan pLawPlan (defScope sLawPlan) := ⟨rfl, rfl, rfl, by decide +kernel, rfl, by decide +kernel, by decide +kernel⟩

theorem c__law_plan (D : Dn K mg "_law_plan" sLawPlan pLawPlan) (T : Tx K mg cs) (c__law_take : Cal P w K mg base 1 "_law_take" spTake) (c__law_titles : Cal P w K mg base 2 "_law_titles" spTitles) : Cal P w K mg base 3 "_law_plan" spPlan := by
  refine cal_of D scLawPlan (fun vs H Q E h => ?_) (fun f cdv A outer s H vs Q E hr h => ?_)
  · obtain ⟨_, _, _, rfl, _⟩ := h
    rfl
  · obtain ⟨Am, F, sp, rfl, Z, S0, k⟩ := h
    refine ⟨_, (pss_cons (ps_par (i := 3) (j := 4) (by rfl) scLawPlan.nd rfl rfl (by decide) rfl rfl (pa_cons (pe_c c__law_titles hr (by decide) rfl (pa_cons (pv 0) (pa_cons (pe_op op_add pe_int (pe_c c__law_take hr (by decide) rfl (pa_cons (pv 0) (pa_cons pe_int pa_nil)))) pa_nil))) (pa_cons (pe_c c__law_titles hr (by decide) rfl (pa_cons (pv 0) (pa_cons (pe_op op_add pe_int (pe_c c__law_take hr (by decide) rfl (pa_cons (pv 0) (pa_cons (pv 1) pa_nil)))) pa_nil))) pa_nil)) (by rfl))
      (pss_cons (ps_asg (pe_tup (pa_cons (pe_callB call_len_seq (by rfl) T.n_len (by decide +kernel) (pa_cons (pv 3) pa_nil)) (pa_cons (pe_cmpR op_eq (pe_c c__law_take hr (by decide) rfl (pa_cons (pv 0) (pa_cons pe_int pa_nil))) pe_int (nomark _)) (pa_cons (pe_lst pa_nil) (pa_cons (pe_lst pa_nil) pa_nil))))) (pg_tupK K 4 rfl rfl (pgs_cons (pg_name (i := 5) scLawPlan.nd rfl (.inl rfl) (.inr rfl)) (pgs_cons (pg_name (i := 6) scLawPlan.nd rfl (.inl rfl) (.inr rfl)) (pgs_cons (pg_name (i := 7) scLawPlan.nd rfl (.inl rfl) (.inr rfl)) (pgs_cons (pg_name (i := 8) scLawPlan.nd rfl (.inl rfl) (.inr rfl)) pgs_nil))))))
      (pss_cons (ps_forG PassesOwn.never rfl (pi_range1 (by rfl) T.n_range (pa_cons (pe_callB call_len_seq (by rfl) T.n_len (by decide +kernel) (pa_cons (pv 4) pa_nil)) pa_nil)) (pg_name (i := 9) scLawPlan.nd rfl (.inl rfl) (.inr rfl))
        (pss_cons (ps_set (i := 10) scLawPlan.nd rfl (Or.inl rfl) (pe_ifExp (PW.pt (pw_and (pt_val (pv 6)) (pw_and1 (pt_cmpR op_lt (pv 9) (pv 5) (nomark _))))) (pv 9) (pe_c c__law_take hr (by decide) rfl (pa_cons (pv 0) (pa_cons (pv 5) pa_nil)))))
      (pss_cons (ps_set (i := 11) scLawPlan.nd rfl (Or.inl rfl) (pe_ifExp (PW.pt (pw_and (pt_val (pv 6)) (pw_and1 (pt_cmpR op_lt (pv 9) (pv 5) (nomark _))))) pe_int (pe_op op_add pe_int (pe_c c__law_take hr (by decide) rfl (pa_cons (pv 0) (pa_cons (pe_op op_sub (pv 5) pe_int) pa_nil))))))
      (pss_cons (ps_set (i := 12) scLawPlan.nd rfl (Or.inl rfl) (pe_op op_mod (pe_callTy call_int1 (by rfl) T.n_int (by decide +kernel) (pa_cons (pe_op op_add (pv 10) (pv 11)) pa_nil)) (pv 5)))
      (pss_cons (ps_set (i := 13) scLawPlan.nd rfl (Or.inl rfl) (pe_cmpR op_eq (pe_c c__law_take hr (by decide) rfl (pa_cons (pv 0) (pa_cons pe_int pa_nil))) pe_int (nomark _)))
      (pss_one (ps_expr (pe_bm PySem.F.plainAttrs_list PySem.F.slot_list_append PySem.F.type_list_append mt_append (pv 7) (pa_cons (pe_ifExp (pt_val (pv 13)) (pe_tup (pa_cons (pe_ix (r := rIxL K) ix_list (pv 4) (pv 9) (fun _ _ => rfl)) (pa_cons (pv 12) (pa_cons (pv 10) pa_nil)))) (pe_tup (pa_cons (pe_ix (r := rIxL K) ix_list (pv 4) (pv 9) (fun _ _ => rfl)) (pa_cons (pv 10) (pa_cons (pv 12) pa_nil))))) pa_nil)))))))))
      (pss_cons (ps_par (i := 14) (j := 15) (by rfl) scLawPlan.nd rfl rfl (by decide) rfl rfl (pa_cons (pe_cmpR op_eq (pe_c c__law_take hr (by decide) rfl (pa_cons (pv 0) (pa_cons pe_int pa_nil))) pe_int (nomark _)) (pa_cons (pe_c c__law_titles hr (by decide) rfl (pa_cons (pv 0) (pa_cons (pe_c c__law_take hr (by decide) rfl (pa_cons (pv 0) (pa_cons (pe_op op_add (pv 2) pe_int) pa_nil))) pa_nil))) pa_nil)) (by rfl))
      (pss_cons (ps_forG PassesOwn.never rfl (pi_range1 (by rfl) T.n_range (pa_cons (pe_callB call_len_seq (by rfl) T.n_len (by decide +kernel) (pa_cons (pv 15) pa_nil)) pa_nil)) (pg_name (i := 9) scLawPlan.nd rfl (.inl rfl) (.inr rfl))
        (pss_cons (ps_set (i := 16) scLawPlan.nd rfl (Or.inl rfl) (pe_ifExp (PW.pt (pw_and (pt_val (pv 14)) (pw_and1 (pt_cmpR op_lt (pv 9) (pe_callB call_len_seq (by rfl) T.n_len (by decide +kernel) (pa_cons (pv 4) pa_nil)) (nomark _))))) (pv 9) (pe_c c__law_take hr (by decide) rfl (pa_cons (pv 0) (pa_cons (pe_callB call_len_seq (by rfl) T.n_len (by decide +kernel) (pa_cons (pv 4) pa_nil)) pa_nil)))))
      (pss_one (ps_expr (pe_bm PySem.F.plainAttrs_list PySem.F.slot_list_append PySem.F.type_list_append mt_append (pv 8) (pa_cons (pe_tup (pa_cons (pe_ix (r := rIxL K) ix_list (pv 15) (pv 9) (fun _ _ => rfl)) (pa_cons (pv 16) (pa_cons (pe_cmpR op_eq (pe_c c__law_take hr (by decide) rfl (pa_cons (pv 0) (pa_cons pe_int pa_nil))) pe_int (nomark _)) pa_nil)))) pa_nil))))))
      (pss_one (ps_ret (pe_lst (pa_cons (pv 3) (pa_cons (pv 7) (pa_cons (pv 8) pa_nil))))))))))), ?_⟩
    refine ⟨_, rfl, _, rfl, tk Z S0 (by decide) (by decide) fun F1 H1 a g1 a0 a1 => ?_⟩
    obtain ⟨a, rfl⟩ := Int.eq_ofNat_of_zero_le a0
    refine ⟨_, _, rfl, rfl, tl (m := 2 + a) g1.fz S0 (by omega) fun F2 H2 ps spots g2 hps hpl hpn hpo => ?_⟩
    have G2 := g1.trans g2
    refine ⟨_, rfl, _, rfl, _, rfl, tk g2.fz S0 (by decide) (by decide) fun F3 H3 b g3 b0 b1 => ?_⟩
    obtain ⟨b, rfl⟩ := Int.eq_ofNat_of_zero_le b0
    refine ⟨_, _, rfl, rfl, tl (m := 1 + b) g3.fz S0 (by omega) fun F4 H4 pt tits g4 hpt htl htn hto => ?_⟩
    have G4 := (G2.trans g3).trans g4
    have hps4 := (g3.trans g4).ff _ _ hps
    refine ⟨_, _, rfl, ?_⟩
    refine ⟨_, rfl, ps, _, rfl, .inl (g4.fz.L hps4), _, rfl, tk g4.fz S0 (by decide) (by decide) fun F5 H5 c g5 c0 c1 => ?_⟩
    refine ⟨rfl, by show 0 ≤ sizeLine; decide, fun pl hpl0 => ?_⟩
    generalize decide (V.int c = V.int 0) = rnd
    have hplS := g5.fz.notS hpl0
    have g6 := (Gr.refl g5.fz).own (o := .lst []) hpl0
    refine ⟨by show 0 ≤ sizeLine; decide, fun ml hml0 => ?_⟩
    have hmlS := g6.fz.notS hml0
    have npm : pl ≠ ml := ne_of_none upd_same hml0
    have g7 := (Gr.refl g6.fz).own (o := .lst []) hml0
    refine ⟨by show 4 ≤ sizeLine; decide, fun t ht => ?_⟩
    have hlen' : ((spots.map fun x => V.str (S x)).length : Int) = ((2 + a : Nat) : Int) := by rw [List.length_map, hpl]
    rw [hlen']
    have g8 := (Gr.refl g7.fz).new (o := .tup [.int ((2 + a : Nat) : Int), .bl rnd, .ref pl, .ref ml]) ht
    refine ⟨t, _, rfl, SqT.of upd_same, rfl, _, _, rfl, _, _, rfl, _, _, rfl, _, _, rfl, rfl, ?_⟩
    have hP7 : upd (upd H5 pl (.lst [])) ml (.lst []) pl = some (.lst []) := by rw [upd_ne npm, upd_same]
    obtain ⟨hP8, hPF8⟩ := g8.cell hplS hP7 (g5.fz.free hpl0)
    obtain ⟨hM8, hMF8⟩ := g8.cell hmlS upd_same (g6.fz.free hml0)
    have G8 := ((G4.trans g5).trans g6).trans (g7.trans g8)
    have w8 : Same F4 _ := ((g5.trans g6).trans (g7.trans g8)).ff
    have hpl00 := (G4.trans g5).free hpl0
    have hml00 := ((G4.trans g5).trans g6).free hml0
    refine ⟨_, rfl, pt, _, rfl, .inl (g8.fz.L (w8 _ _ hpt)), _, rfl, by rw [List.length_map]; omega, by rw [List.length_map]; omega, ?_⟩
    have hnpm : ml ≠ pl := fun e => npm e.symm
    refine for_rng (fun i σ H' => ∃ (F' : Hp) (xs : List V) (tb : List TubeD) (m9 m10 m11 m12 m13 m14 m15 m16 : Option V), σ = [some (.ref sp), some (.int 5), some (.int 6), some (.ref ps), some (.ref pt), some (.int ((2 + a : Nat) : Int)), some (.bl rnd), some (.ref pl), some (.ref ml), m9, m10, m11, m12, m13, m14, m15, m16] ∧ Cell2 Am F H F4 pl ml xs [] F' H' ∧ PySem.Paired (rTube F') xs tb ∧ tb.map (·.1) = tits.take i ∧ ∀ t ∈ tb, OkTube (2 + a) t) ⟨_, [], [], _, _, _, _, _, _, _, _, rfl, ⟨G8, w8, ⟨hPF8, hP8⟩, ⟨hMF8, hM8⟩⟩, .nil, rfl, by simp⟩ ?_ ?_
    · rintro i σ H9 hi ⟨F9, xs, tb, m9, m10, m11, m12, m13, m14, m15, m16, rfl, C9, prd, htb, hok⟩
      rw [List.length_map] at hi
      have hi : i < tits.length := by omega
      have htbl : tb.length = i := by
        have := congrArg List.length htb
        rw [List.length_map, List.length_take] at this; omega
      have w9 := C9.2.1
      have GF : ∀ {F' H' : Hp} {ys : List V}, Cell2 Am F H F9 pl ml xs ys F' H' → Fz Am F' H' := fun c => c.1.fz
      have C9' : Cell2 Am F H F9 pl ml xs [] F9 H9 := ⟨C9.1, Same.refl _, C9.2.2.1, C9.2.2.2⟩
      dsimp only [tSeq, tAsg, gName]
      refine viaP (t := tIf _ _ _) (fun v H' => ∃ (F' : Hp) (j : Nat), v = .int (j : Int) ∧ Cell2 Am F H F9 pl ml xs [] F' H' ∧ j < 2 + a) (fun Q1 hQ => ?_) ?_
      · refine ⟨_, rfl, _, rfl, ?_⟩
        have hF : ∀ {F' H' : Hp}, Cell2 Am F H F9 pl ml xs [] F' H' → spTake [.ref sp, .int ((2 + a : Nat) : Int)] H' Q1 E0 := fun {F' H'} c => tk c.1.fz S0 (by omega) (by omega) fun F2 H2 j g j0 j1 => by
          obtain ⟨j, rfl⟩ := Int.eq_ofNat_of_zero_le j0
          exact hQ _ _ ⟨F2, j, rfl, c.grow g hplS hmlS, by omega⟩
        cases rnd with
        | false =>
          refine iteF ?_
          exact iteF ⟨_, rfl, _, rfl, hF C9'⟩
        | true =>
          refine iteT ⟨_, rfl, _, rfl, _, _, rfl, rfl, _, rfl, ?_⟩
          refine ite2 (fun hd => ?_) (fun hd => ?_)
          · have := of_decide_eq_true hd
            exact ⟨_, rfl, hQ _ _ ⟨F9, i, by rw [Int.zero_add], C9', by omega⟩⟩
          · exact ⟨_, rfl, _, rfl, hF C9'⟩
      rintro v Ha ⟨Fa, j, rfl, Ca, hj⟩
      refine viaP (t := tIf _ _ _) (fun v H' => ∃ (F' : Hp) (st : Nat), v = .int (st : Int) ∧ Cell2 Am F H F9 pl ml xs [] F' H' ∧ 1 ≤ st ∧ st < 2 + a) (fun Q1 hQ => ?_) ?_
      · refine ⟨_, rfl, _, rfl, ?_⟩
        have hF : (∃ v : V, some (some (V.ref sp)) = some (some v) ∧ ∃ v : V, some (some (V.int ((2 + a : Nat) : Int))) = some (some v) ∧ True) := ⟨_, rfl, _, rfl, trivial⟩
        have hT : spTake [.ref sp, .int (((2 + a : Nat) : Int) - 1)] Ha (fun x H2 => ∃ i j', V.int 1 = .int i ∧ x = .int j' ∧ Q1 (.int (i + j')) H2) E0 := tk Ca.1.fz S0 (by omega) (by omega) fun F2 H2 z g z0 z1 => by
          obtain ⟨z, rfl⟩ := Int.eq_ofNat_of_zero_le z0
          exact ⟨_, _, rfl, rfl, hQ _ _ ⟨F2, 1 + z, rfl, Ca.grow g hplS hmlS, by omega, by omega⟩⟩
        cases rnd with
        | false =>
          refine iteF ?_
          exact iteF ⟨_, rfl, _, rfl, _, _, rfl, rfl, hT⟩
        | true =>
          refine iteT ⟨_, rfl, _, rfl, _, _, rfl, rfl, _, rfl, ?_⟩
          refine ite2 (fun hd => ?_) (fun hd => ?_)
          · exact hQ _ _ ⟨Fa, 1, rfl, Ca, by omega, by omega⟩
          · exact ⟨_, rfl, _, rfl, _, _, rfl, rfl, hT⟩
      rintro v Hb ⟨Fb, st, rfl, Cb, hs1, hs2⟩
      have em : ((j : Int) + (st : Int)) % ((2 + a : Nat) : Int) = (((j + st) % (2 + a) : Nat) : Int) := rfl
      refine ⟨_, rfl, _, rfl, _, _, rfl, rfl, .inl ⟨_, rfl, _, rfl, _, _, rfl, rfl, by omega, ?_⟩⟩
      dsimp only
      rw [em]
      obtain ⟨mn1, mn2⟩ := mod_ne hj hs1 hs2
      generalize (j + st) % (2 + a) = s2 at mn1 mn2
      refine ⟨_, rfl, tk Cb.1.fz S0 (by decide) (by decide) fun Fc Hc d gc d0 d1 => ?_⟩
      have Cc := Cb.grow gc hplS hmlS
      refine ⟨rfl, ?_⟩
      generalize decide (V.int d = V.int 0) = tnd
      obtain ⟨Gc, wc, ⟨pc1, pc2⟩, ⟨mc1, mc2⟩⟩ := Cc
      have hptc := Gc.fz.L (K := K) (wc _ _ (w9 _ _ hpt))
      have hti : (tits.map fun x => V.str (S x))[i]? = some (V.str (S tits[i])) := by simp [hi]
      have hxl : xs.length = i := by rw [prd_len prd, htbl]
      have tkk : tits.take (i + 1) = tits.take i ++ [tits[i]] := take_snoc (by simp [hi])
      refine ⟨_, rfl, .inl ⟨rfl, _, SqL.of pc2⟩, _, rfl, _, rfl, ?_⟩
      cases tnd with
      | true =>
        refine iteT ⟨_, rfl, _, rfl, pt, _, _, _, rfl, rfl, hptc, at0 (v := V.str (S tits[i])) i (by omega) hti, _, rfl, _, rfl, by show 3 ≤ sizeLine; decide, fun u hu => ?_⟩
        have gu := (Gr.refl Gc.fz).new (o := .tup [.str (S tits[i]), .int (s2 : Int), .int (j : Int)]) hu
        obtain ⟨hPu, hPFu⟩ := gu.cell hplS pc2 pc1
        obtain ⟨hMu, hMFu⟩ := gu.cell hmlS mc2 mc1
        refine ⟨pl, _, _, rfl, rfl, hPu, szlt (by omega), ?_⟩
        have hst : rTube (upd Fc u (.tup [.str (S tits[i]), .int (s2 : Int), .int (j : Int)])) (.ref u) (tits[i], s2, j) := ⟨u, _, _, _, rfl, upd_same, rfl, rfl, rfl⟩
        refine ⟨_, _, tb ++ [(tits[i], s2, j)], _, _, _, _, _, _, _, _, rfl, ⟨(Gc.trans gu).put hpl00 hPFu, (w9.trans wc).trans gu.ff, ⟨hPFu, upd_same⟩, ⟨hMFu, by rw [upd_ne hnpm]; exact hMu⟩⟩, prd_append (prd_up (wc.trans gu.ff) prd) (.cons hst .nil), by rw [List.map_append, htb, tkk]; rfl, ?_⟩
        intro t' ht'
        rcases List.mem_append.mp ht' with z | z
        · exact hok t' z
        · rw [List.mem_singleton.mp z]; exact ⟨hto _ (List.getElem_mem hi), mn2, hj, mn1⟩
      | false =>
        refine iteF ⟨_, rfl, _, rfl, pt, _, _, _, rfl, rfl, hptc, at0 (v := V.str (S tits[i])) i (by omega) hti, _, rfl, _, rfl, by show 3 ≤ sizeLine; decide, fun u hu => ?_⟩
        have gu := (Gr.refl Gc.fz).new (o := .tup [.str (S tits[i]), .int (j : Int), .int (s2 : Int)]) hu
        obtain ⟨hPu, hPFu⟩ := gu.cell hplS pc2 pc1
        obtain ⟨hMu, hMFu⟩ := gu.cell hmlS mc2 mc1
        refine ⟨pl, _, _, rfl, rfl, hPu, szlt (by omega), ?_⟩
        have hst : rTube (upd Fc u (.tup [.str (S tits[i]), .int (j : Int), .int (s2 : Int)])) (.ref u) (tits[i], j, s2) := ⟨u, _, _, _, rfl, upd_same, rfl, rfl, rfl⟩
        refine ⟨_, _, tb ++ [(tits[i], j, s2)], _, _, _, _, _, _, _, _, rfl, ⟨(Gc.trans gu).put hpl00 hPFu, (w9.trans wc).trans gu.ff, ⟨hPFu, upd_same⟩, ⟨hMFu, by rw [upd_ne hnpm]; exact hMu⟩⟩, prd_append (prd_up (wc.trans gu.ff) prd) (.cons hst .nil), by rw [List.map_append, htb, tkk]; rfl, ?_⟩
        intro t' ht'
        rcases List.mem_append.mp ht' with z | z
        · exact hok t' z
        · rw [List.mem_singleton.mp z]; exact ⟨hto _ (List.getElem_mem hi), hj, mn2, fun e => mn1 e.symm⟩
    · rintro σ H9 ⟨F9, xs, tb, m9, m10, m11, m12, m13, m14, m15, m16, rfl, C9, prd, htb, hok⟩
      rw [List.length_map, show (((tits.length : Nat) : Int)).toNat = tits.length by omega, List.take_of_length_le (Nat.le_refl _)] at htb
      obtain ⟨Gc, wc, ⟨pc1, pc2⟩, ⟨mc1, mc2⟩⟩ := C9
      have Gz := Gc.frz hpl00 pc1 pc2
      have hFp : upd F9 pl (.lst xs) pl = some (.lst xs) := upd_same
      have prz := prd_up (same_new (o := .lst xs) pc1) prd
      have wz := wc.trans (same_new (o := .lst xs) pc1)
      have mz1 : upd F9 pl (.lst xs) ml = none := by rw [upd_ne hnpm]; exact mc1
      generalize upd F9 pl (.lst xs) = Fz at Gz hFp prz wz mz1
      have htbl : tb.length = tits.length := by rw [← htb, List.length_map]
      refine ⟨_, rfl, tk Gz.fz S0 (by decide) (by decide) fun Fa Ha d ga d0 d1 => ?_⟩
      refine ⟨rfl, ?_⟩
      generalize decide (V.int d = V.int 0) = evn
      obtain ⟨ma2, ma1⟩ := ga.cell hmlS mc2 mz1
      refine ⟨_, rfl, _, rfl, _, rfl, _, _, rfl, rfl, tk ga.fz S0 (by decide) (by decide) fun Fb Hb e gb e0 e1 => ?_⟩
      obtain ⟨mb2, mb1⟩ := gb.cell hmlS ma2 ma1
      obtain ⟨e, rfl⟩ := Int.eq_ofNat_of_zero_le e0
      refine tl (m := e) gb.fz S0 (by omega) fun Fd Hd pg tags gd hpg hgl hgn hgo => ?_
      obtain ⟨md2, md1⟩ := gd.cell hmlS mb2 mb1
      refine ⟨_, _, rfl, ?_⟩
      have gzd := (ga.trans gb).trans gd
      have Gd := Gz.trans gzd
      have wd := wz.trans gzd.ff
      refine ⟨_, rfl, pg, _, rfl, .inl (gd.fz.L hpg), _, rfl, by rw [List.length_map]; omega, by rw [List.length_map]; omega, ?_⟩
      refine for_rng (fun i σ H' => ∃ (F' : Hp) (ys : List V) (ms : List GaugeD) (m9 m10 m11 m12 m13 m16 : Option V), σ = [some (.ref sp), some (.int 5), some (.int 6), some (.ref ps), some (.ref pt), some (.int ((2 + a : Nat) : Int)), some (.bl rnd), some (.ref pl), some (.ref ml), m9, m10, m11, m12, m13, some (.bl evn), some (.ref pg), m16] ∧ Gr Am F H F' H' ∧ Same Fd F' ∧ F' ml = none ∧ H' ml = some (.lst ys) ∧ PySem.Paired (rGauge F') ys ms ∧ ms.map (·.1) = tags.take i ∧ ∀ t ∈ ms, okN t.1 = true ∧ t.2.1 < tb.length) ⟨Fd, [], [], _, _, _, _, _, _, rfl, Gd, Same.refl _, md1, md2, .nil, rfl, by simp⟩ ?_ ?_
      · rintro i σ Hi hi ⟨Fi, ys, ms, m9, m10, m11, m12, m13, m16, rfl, Gi, wi, mi1, mi2, prg, hmt, hmo⟩
        rw [List.length_map] at hi
        have hi : i < tags.length := by omega
        have hmsl : ms.length = i := by
          have := congrArg List.length hmt
          rw [List.length_map, List.length_take] at this; omega
        have hpti := Gi.fz.L (K := K) (wi _ _ (wd _ _ hpt))
        dsimp only [tSeq, tAsg, gName]
        have hcl : (((tits.map fun x => V.str (S x)).length : Nat) : Int) = ((tb.length : Nat) : Int) := by rw [List.length_map, htbl]
        refine viaP (t := tIf _ _ _) (fun v H' => ∃ (F' : Hp) (j : Nat), v = .int (j : Int) ∧ Gr Am Fi Hi F' H' ∧ j < tb.length) (fun Q1 hQ => ?_) ?_
        · refine ⟨_, rfl, _, rfl, ?_⟩
          have hT : spTake [.ref sp, .int (((tits.map fun x => V.str (S x)).length : Nat) : Int)] Hi Q1 E0 := by
            rw [hcl]
            exact tk Gi.fz S0 (by omega) (by omega) fun F2 H2 j g j0 j1 => by
              obtain ⟨j, rfl⟩ := Int.eq_ofNat_of_zero_le j0
              exact hQ _ _ ⟨F2, j, rfl, g, by omega⟩
          cases evn with
          | false =>
            refine iteF ?_
            exact iteF ⟨_, rfl, _, rfl, pt, _, rfl, .inl hpti, hT⟩
          | true =>
            refine iteT ⟨_, rfl, _, rfl, pt, _, rfl, .inl hpti, _, _, rfl, rfl, _, rfl, ?_⟩
            refine ite2 (fun hd => ?_) (fun hd => ?_)
            · have := of_decide_eq_true hd
              exact ⟨_, rfl, hQ _ _ ⟨Fi, i, by rw [Int.zero_add], Gr.refl Gi.fz, by omega⟩⟩
            · exact ⟨_, rfl, _, rfl, pt, _, rfl, .inl hpti, hT⟩
        rintro v Hj ⟨Fj, j, rfl, gj, hj⟩
        obtain ⟨mj2, mj1⟩ := gj.cell hmlS mi2 mi1
        have hgi : (tags.map fun x => V.str (S x))[i]? = some (V.str (S tags[i])) := by simp [hi]
        have tkk : tags.take (i + 1) = tags.take i ++ [tags[i]] := take_snoc (by simp [hi])
        have hyl : ys.length = i := by rw [prd_len prg, hmsl]
        refine ⟨_, rfl, .inl ⟨rfl, _, SqL.of mj2⟩, _, rfl, _, rfl, pg, _, _, _, rfl, rfl, gj.fz.L (gj.ff _ _ (wi _ _ hpg)), at0 (v := V.str (S tags[i])) i (by omega) hgi, _, rfl, _, rfl, tk gj.fz S0 (by decide) (by decide) fun Fk Hk c' gk c0 c1 => ?_⟩
        obtain ⟨mk2, mk1⟩ := gk.cell hmlS mj2 mj1
        refine ⟨rfl, by show 3 ≤ sizeLine; decide, fun u hu => ?_⟩
        generalize decide (V.int c' = V.int 0) = sld at hu
        have gu := (Gr.refl gk.fz).new (o := .tup [.str (S tags[i]), .int (j : Int), .bl sld]) hu
        obtain ⟨mu2, mu1⟩ := gu.cell hmlS mk2 mk1
        refine ⟨ml, _, _, rfl, rfl, mu2, szlt (by omega), ?_⟩
        have hst : rGauge (upd Fk u (.tup [.str (S tags[i]), .int (j : Int), .bl sld])) (.ref u) (tags[i], j, sld) := ⟨u, _, _, _, rfl, upd_same, rfl, rfl, rfl⟩
        have gg := (gj.trans gk).trans gu
        refine ⟨_, _, ms ++ [(tags[i], j, sld)], _, _, _, _, _, _, rfl, (Gi.trans gg).put hml00 mu1, wi.trans gg.ff, mu1, upd_same, prd_append (prd_up gg.ff prg) (.cons hst .nil), by rw [List.map_append, hmt, tkk]; rfl, ?_⟩
        intro t' ht'
        rcases List.mem_append.mp ht' with z | z
        · exact hmo t' z
        · rw [List.mem_singleton.mp z]; exact ⟨hgo _ (List.getElem_mem hi), hj⟩
      · rintro σ Hi ⟨Fi, ys, ms, m9, m10, m11, m12, m13, m16, rfl, Gi, wi, mi1, mi2, prg, hmt, hmo⟩
        rw [List.length_map, show (((tags.length : Nat) : Int)).toNat = tags.length by omega, List.take_of_length_le (Nat.le_refl _)] at hmt
        have Gy := Gi.frz hml00 mi1 mi2
        refine ⟨_, rfl, _, rfl, _, rfl, by show 3 ≤ sizeLine; decide, fun u hu => ?_⟩
        have GG := Gy.new (o := .lst [.ref ps, .ref pl, .ref ml]) hu
        have su : Same Fi _ := (same_new (o := .lst ys) mi1).trans (same_new (o := .lst [.ref ps, .ref pl, .ref ml]) (Gy.fz.free hu))
        have hml' := congrArg List.length hmt
        rw [List.length_map] at hml'
        have sdi := wi.trans su
        refine k _ _ _ GG ⟨(spots, tb, ms), ⟨u, _, _, _, rfl, upd_same, ⟨ps, _, rfl, sdi _ _ (wd _ _ hps4), paired_of⟩, ⟨pl, _, rfl, sdi _ _ (gzd.ff _ _ hFp), prd_up (gzd.ff.trans sdi) prz⟩, ⟨ml, _, rfl, same_new (Gy.fz.free hu) _ _ upd_same, prd_up su prg⟩⟩, ?_⟩
        exact ⟨by show 2 ≤ spots.length; omega, by show spots.length ≤ 5; omega, hpo, hpn, by show 1 ≤ tb.length; omega, by show tb.length ≤ 5; omega, by show ∀ t ∈ tb, OkTube spots.length t; rw [hpl]; exact hok, by show (tb.map (·.1)).Nodup; rw [htb]; exact htn, by show ms.length ≤ 6; omega, hmo, by show (ms.map (·.1)).Nodup; rw [hmt]; exact hgn⟩
end
end Rv
end

section
set_option Elab.async false
set_option autoImplicit false
set_option linter.all false
set_option maxRecDepth 100000
set_option maxHeartbeats 4000000
namespace Rv
open PySem L2 PyProof.Rows PySem.Spec
section
variable {A : Amb} {F H : Hp} {K : PySem.W.Frag} {a : Addr} {g : TG} {tt : TT} {te : TE} {vs : List Nat} {σ : L2.St} {α β : Type} {ra : Rl α} {r : Rl β} {Q : VK}
/-- a comprehension whose list is left as an own cell -/
theorem lc_anyO {J : It} {n : Nat} {G : Hp → Prop} {Y : Nat → Hp → V → Hp → Prop} (w : Walk J n G Y) [MonoR r] (Z : Fz A F H) (out : Nat → List β) (h0 : out 0 = []) (hn : ∀ i, i < n → (out i).length < 100000)
    (hG : ∀ F' H', Gr A F H F' H' → G H')
    (hs : ∀ i x F1 H1 H2 (K1 : VK) (K0 : Hp → Prop), i < n → Gr A F H F1 H1 → Y i H1 x H2 → (∀ F' H' y b, out (i + 1) = out i ++ [b] → Gr A F1 H1 F' H' → r F' y b → K1 y H') → (∀ F' H', out (i + 1) = out i → Gr A F1 H1 F' H' → K0 H') →
      g x (wipe σ vs) H2 fun σ2 H3 => wipe σ2 vs = wipe σ vs ∧ tt σ2 H3 fun b H4 => if b = true then te σ2 H4 K1 else K0 H4)
    (k : ∀ F' H' p xs, Gr A F H F' H' → H p = none → F' p = none → H' p = some (.lst xs) → PySem.Paired (r F') xs (out n) → Q (.ref p) H') : LcG J g tt te vs σ H Q := by
  intro D hD
  refine lc_it w (fun i H' => LcP A F H D r (out i) H') ⟨F, [], (Gr.refl Z).own hD, Z.free hD, upd_same, by rw [h0]; exact .nil⟩ (fun i H' _ ⟨F', xs, G', _⟩ => hG F' H' G') ?_ ?_
  · rintro i x H1 H2 hi ⟨F1, xs, G1, hF, hL, hp⟩ hy
    refine hs i x F1 H1 H2 _ _ hi G1 hy (fun F' H' y b e g hb => ?_) (fun F' H' e g => ?_)
    · rw [e]
      exact LcP.add hD G1 hF hL hp g hb (hn i hi)
    · obtain ⟨c1, c2⟩ := g.cell (G1.notS hD) hL hF
      rw [e]
      exact ⟨F', xs, G1.trans g, c2, c1, prd_up g.ff hp⟩
  · rintro H' ⟨F', xs, G', hF, hL, hp⟩
    exact k _ _ D xs G' hD hF hL hp
theorem lc_mapO (f : α → β) {xs : List V} {ds : List α} [MonoR ra] [MonoR r] {J : It} {Gd : Hp → Prop} (w : Walk J xs.length Gd (YAt xs)) (Z : Fz A F H) (hp : PySem.Paired (ra F) xs ds) (hG : ∀ F' H', Gr A F H F' H' → Gd H') (hl : ds.length ≤ 50000)
    (hs : ∀ (i : Nat) (x : V) (d : α) (F1 H1 : Hp) (K1 : VK), ds[i]? = some d → Gr A F H F1 H1 → ra F1 x d → (∀ F' H' y, Gr A F1 H1 F' H' → r F' y (f d) → K1 y H') →
      g x (wipe σ vs) H1 fun σ2 H3 => wipe σ2 vs = wipe σ vs ∧ te σ2 H3 K1)
    (k : ∀ F' H' p ys, Gr A F H F' H' → H p = none → F' p = none → H' p = some (.lst ys) → PySem.Paired (r F') ys (ds.map f) → Q (.ref p) H') : LcG J g tYes te vs σ H Q := by
  refine lc_anyO (r := r) w Z (fun i => (ds.take i).map f) rfl (fun i hi => ?_) hG ?_ ?_
  · rw [List.length_map, List.length_take]; omega
  · rintro i x F1 H1 H2 K1 K0 hi G1 ⟨rfl, hx⟩ hk _
    obtain ⟨d, hd, rd⟩ := prd_get hp hx
    exact hs i x d F1 _ K1 hd G1 (MonoR.up G1.ff rd) (fun F' H' y g' hb => hk F' H' y (f d) (by rw [take_snoc hd, List.map_append]; rfl) g' hb)
  · intro F' H' p ys G' h1 h2 h3 hr
    rw [List.take_of_length_le (by rw [prd_len hp]; exact Nat.le_refl _)] at hr
    exact k F' H' p ys G' h1 h2 h3 hr
end
theorem nd_inj {α : Type} {l : List α} (h : l.Nodup) {i j : Nat} {x : α} (hi : l[i]? = some x) (hj : l[j]? = some x) : i = j := by
  have key : ∀ {i j : Nat}, l[i]? = some x → l[j]? = some x → ¬ i < j := fun {i j} hi hj c => nd_take h hj (List.mem_of_getElem? (by rw [List.getElem?_take_of_lt c]; exact hi))
  rcases Nat.lt_trichotomy i j with c | c | c
  · exact absurd c (key hi hj)
  · exact c
  · exact absurd c (key hj hi)
/-! ### the net of a plan -/
def netOf (d : PlanD) : NetD := (d.2.1.map fun p => (p.1, d.1.getD p.2.1 [], d.1.getD p.2.2 []), d.2.2.map fun m => (m.1, (d.2.1.getD m.2.1 ([], 0, 0)).1, m.2.2))
theorem getD_some {α : Type} {l : List α} {i : Nat} {e : α} (h : i < l.length) : l[i]? = some (l.getD i e) := by
  rw [List.getD_eq_getElem?_getD]; simp [h]
theorem getD_mem {α : Type} {l : List α} {i : Nat} {e : α} (h : i < l.length) : l.getD i e ∈ l := List.mem_of_getElem? (getD_some h)
theorem netOf_ok {d : PlanD} (h : OkPlan d) : OkNet (netOf d) := by
  obtain ⟨sps, ps, ms⟩ := d
  refine ⟨⟨fun p hp => ?_, ?_, ?_, ?_⟩, ⟨fun m hm => ?_, ?_, fun m hm => ?_, ?_⟩⟩
  · obtain ⟨q, hq, rfl⟩ := List.mem_map.mp hp
    obtain ⟨h1, h2, h3, h4⟩ := h.pok q hq
    refine ⟨h1, h.spo _ (getD_mem h2), h.spo _ (getD_mem h3), fun e => h4 ?_⟩
    have e : sps.getD q.2.1 [] = sps.getD q.2.2 [] := e
    exact nd_inj h.spn (getD_some h2) (by rw [e]; exact getD_some h3)
  · show ((ps.map _).map _).Nodup
    rw [List.map_map]
    exact h.pnd
  · show 1 ≤ (ps.map _).length
    rw [List.length_map]; exact h.p1
  · show (ps.map _).length ≤ 12
    rw [List.length_map]; exact Nat.le_trans h.p5 (by decide)
  · obtain ⟨q, hq, rfl⟩ := List.mem_map.mp hm
    obtain ⟨h1, h2⟩ := h.mok q hq
    exact ⟨h1, (h.pok _ (getD_mem h2)).1⟩
  · show ((ms.map _).map _).Nodup
    rw [List.map_map]
    exact h.mnd
  · obtain ⟨q, hq, rfl⟩ := List.mem_map.mp hm
    obtain ⟨h1, h2⟩ := h.mok q hq
    show (ps.getD q.2.1 ([], 0, 0)).1 ∈ (ps.map _).map _
    rw [List.map_map]
    exact List.mem_map.mpr ⟨_, getD_mem h2, rfl⟩
  · show (ms.map _).length ≤ 12
    rw [List.length_map]; exact Nat.le_trans h.m6 (by decide)
abbrev spGrid : Sp := fun vs H Q _ => ∃ (A : Amb) (F : Hp) (x : V) (d : PlanD), vs = [x] ∧ Fz A F H ∧ rPlan F x d ∧ OkPlan d ∧ Out A F H Q fun _ _ v => v = .str (S (textN (netOf d)))
section
variable {P : Program} {w : World} {K : PySem.W.Frag} {mg : Str → Option Value} {base : Heap} {cs : Cs}
abbrev sLawGrid : Stmt := top 76
abbrev nLawGrid : List Str := ["_law_plan_here", "_law_lines", "_law_one"]
abbrev pLawGrid : List Str := ["_law_plan_here"]
theorem scLawGrid : FnScope nLawGrid pLawGrid (defScope sLawGrid) := ⟨rfl, rfl, rfl, by decide +kernel, rfl, by decide +kernel, by decide +kernel⟩

theorem c__law_grid (D : Dn K mg "_law_grid" sLawGrid pLawGrid) (T : Tx K mg cs) : Cal P w K mg base 1 "_law_grid" spGrid := by
  refine cal_of D scLawGrid (fun vs H Q E h => ?_) (fun f cdv A outer s H vs Q E hr h => ?_)
  · obtain ⟨_, _, _, _, rfl, _⟩ := h
    rfl
  · obtain ⟨Am, F, x, d, rfl, Z, ⟨p, x1, x2, x3, rfl, hp, ⟨q1, ys1, rfl, hq1, pr1⟩, ⟨q2, ys2, rfl, hq2, pr2⟩, ⟨q3, ys3, rfl, hq3, pr3⟩⟩, ok, k⟩ := h
    have e1 := paired_C pr1
    subst e1
    have okn := netOf_ok ok
    refine ⟨_, (pss_cons (ps_setLcG (i := 1) (own := [("_law_one", 2)]) rfl scLawGrid.nd rfl rfl (sw_true rfl rfl rfl (by decide +kernel)) (pi_list (pe_ix (r := rIxL K) ix_list (pv 0) pe_int (fun _ _ => rfl))) (blkOk_by (own := [("_law_one", 2)]) (N := nLawGrid) (sc := defScope sLawGrid) (by decide +kernel)) (fun _ _ _ _ _ => (pg_name (i := 2) scLawGrid.nd rfl (.inl rfl) (.inr rfl))) (fun _ _ _ _ _ => pts_nil) (fun _ _ _ _ _ => (pe_op op_add_str (pe_op op_add_str (pe_op op_add_str (pe_op op_add_str (pe_op op_add_str pe_str (pe_ix (r := rIxT K) ix_tup (pv 2) pe_int (fun _ _ => rfl))) pe_str) (pe_ix (r := rIxL K) ix_list (pe_ix (r := rIxL K) ix_list (pv 0) pe_int (fun _ _ => rfl)) (pe_ix (r := rIxT K) ix_tup (pv 2) pe_int (fun _ _ => rfl)) (fun _ _ => rfl))) pe_str) (pe_ix (r := rIxL K) ix_list (pe_ix (r := rIxL K) ix_list (pv 0) pe_int (fun _ _ => rfl)) (pe_ix (r := rIxT K) ix_tup (pv 2) pe_int (fun _ _ => rfl)) (fun _ _ => rfl)))))
      (pss_cons (ps_forG PassesOwn.never rfl (pi_list (pe_ix (r := rIxL K) ix_list (pv 0) pe_int (fun _ _ => rfl))) (pg_name (i := 2) scLawGrid.nd rfl (.inl rfl) (.inr rfl))
        (pss_one (ps_expr (pe_bm PySem.F.plainAttrs_list PySem.F.slot_list_append PySem.F.type_list_append mt_append (pv 1) (pa_cons (pe_op op_add_str (pe_op op_add_str (pe_op op_add_str (pe_op op_add_str pe_str (pe_ix (r := rIxT K) ix_tup (pv 2) pe_int (fun _ _ => rfl))) pe_str) (pe_ix (r := rIxT K) ix_tup (pe_ix (r := rIxL K) ix_list (pe_ix (r := rIxL K) ix_list (pv 0) pe_int (fun _ _ => rfl)) (pe_ix (r := rIxT K) ix_tup (pv 2) pe_int (fun _ _ => rfl)) (fun _ _ => rfl)) pe_int (fun _ _ => rfl))) (pe_ifExp (pt_val (pe_ix (r := rIxT K) ix_tup (pv 2) pe_int (fun _ _ => rfl))) pe_str pe_str)) pa_nil)))))
      (pss_one (ps_ret (pe_join pe_str (pv 1)))))), ?_⟩
    rw [lit_pipe_, lit_meter_, lit_sp, lit__sealed, lit_e, lit_nl]
    refine ⟨_, rfl, p, _, _, _, rfl, rfl, Z.L hp, rfl, q2, rfl, ⟨_, Z.L hq2⟩, ?_⟩
    refine lc_mapO (ra := rTube) (r := rS) (fun t => lineP (t.1, d.1.getD t.2.1 [], d.1.getD t.2.2 [])) walk_list Z pr2 (fun F' H' g => g.fz.L (g.ff _ _ hq2)) (by have := ok.p5; omega) ?_ ?_
    · rintro i x t F1 H1 K1 ht G1 ⟨u, u1, u2, u3, rfl, hu, rfl, rfl, rfl⟩ hK
      obtain ⟨o1, o2, o3, o4⟩ := ok.pok t (List.mem_of_getElem? ht)
      have hT := G1.fz.T (K := K) hu
      have hP := G1.fz.L (K := K) (G1.ff _ _ hp)
      have hS := G1.fz.L (K := K) (G1.ff _ _ hq1)
      have n1 := (okN_len o1).2
      have n2 := (okN_len (ok.spo _ (getD_mem (e := []) o2))).2
      have n3 := (okN_len (ok.spo _ (getD_mem (e := []) o3))).2
      have a2 : (d.1.map fun l => V.str (S l))[t.2.1]? = some (V.str (S (d.1.getD t.2.1 []))) := by rw [List.getElem?_map, getD_some (e := []) o2]; rfl
      have a3 : (d.1.map fun l => V.str (S l))[t.2.2]? = some (V.str (S (d.1.getD t.2.2 []))) := by rw [List.getElem?_map, getD_some (e := []) o3]; rfl
      generalize d.1.getD t.2.1 [] = b2 at *
      generalize d.1.getD t.2.2 [] = b3 at *
      refine ⟨rfl, _, rfl, u, _, _, _, rfl, rfl, hT, rfl, _, _, rfl, rfl, ?_, _, _, rfl, rfl, ?_, _, rfl, p, _, _, _, rfl, rfl, hP, rfl, _, rfl, u, _, _, _, rfl, rfl, hT, rfl, q1, _, _, _, rfl, rfl, hS, at0 t.2.1 rfl a2, _, _, rfl, rfl, ?_, _, _, rfl, rfl, ?_, _, rfl, p, _, _, _, rfl, rfl, hP, rfl, _, rfl, u, _, _, _, rfl, rfl, hT, rfl, q1, _, _, _, rfl, rfl, hS, at0 t.2.2 rfl a3, _, _, rfl, rfl, ?_, ?_⟩
      · rw [S_length, S_length]; exact sz (by simp [wPipe]; omega)
      · rw [SX.S_cat, S_length, S_length]; exact sz (by simp [wPipe]; omega)
      · rw [SX.S_cat, SX.S_cat, S_length, S_length]; exact sz (by simp [wPipe]; omega)
      · rw [SX.S_cat, SX.S_cat, SX.S_cat, S_length, S_length]; exact sz (by simp [wPipe]; omega)
      · rw [SX.S_cat, SX.S_cat, SX.S_cat, SX.S_cat, S_length, S_length]; exact sz (by simp [wPipe]; omega)
      · rw [SX.S_cat, SX.S_cat, SX.S_cat, SX.S_cat, SX.S_cat]
        exact hK _ _ _ (Gr.refl G1.fz) (by show _ = _; congr 2; simp [lineP])
    rintro F1 H1 l ys G1 hl hF1 hL1 pry
    obtain hl2 := prd_len pry
    rw [List.length_map] at hl2
    have hp5 := ok.p5
    refine ⟨_, rfl, p, _, _, _, rfl, rfl, G1.fz.L (G1.ff _ _ hp), rfl, q3, rfl, ⟨_, G1.fz.L (G1.ff _ _ hq3)⟩, ?_⟩
    have h3l := prd_len pr3
    refine for_at walk_list (fun i σ H' => ∃ (F' : Hp) (o : List Tt) (m2 : Option V), σ = [some (.ref p), some (.ref l), m2] ∧ Gr Am F H F' H' ∧ F' l = none ∧ H' l = some (.lst (o.map fun x => V.str (S x))) ∧ o = (netOf d).1.map lineP ++ ((netOf d).2.take i).map lineM) ⟨F1, _, _, rfl, G1, hF1, by rw [← paired_C pry]; exact hL1, by simp [netOf]⟩ (fun i σ H' _ ⟨F', _, _, _, G, _⟩ => G.fz.L (G.ff _ _ hq3)) ?_ ?_
    · rintro i z σ H2 hi ⟨F2, o, m2, rfl, G2, hF2, hL2, ho⟩
      obtain ⟨m, hm, rm⟩ := prd_get pr3 hi
      have hil := (List.getElem?_eq_some_iff.mp hm).1
      obtain ⟨u, u1, u2, u3, rfl, hu, rfl, rfl, rfl⟩ := MonoR.up (r := rGauge) G2.ff rm
      obtain ⟨o1, o2⟩ := ok.mok m (List.mem_of_getElem? hm)
      have hT := G2.fz.T (K := K) hu
      have hP := G2.fz.L (K := K) (G2.ff _ _ hp)
      have hQ2 := G2.fz.L (K := K) (G2.ff _ _ hq2)
      obtain ⟨tv, htv, rtv⟩ := prd_get2 (prd_up G2.ff pr2) (getD_some (e := ([], 0, 0)) o2)
      obtain ⟨w0, w1, w2, w3, rfl, hw, rfl, rfl, rfl⟩ := rtv
      have n1 := (okN_len o1).2
      have n2 := (okN_len (ok.pok _ (getD_mem (e := ([], 0, 0)) o2)).1).2
      have em : lineM (m.1, (d.2.1.getD m.2.1 ([], 0, 0)).1, m.2.2) = wMeter ++ [32] ++ m.1 ++ [32] ++ (d.2.1.getD m.2.1 ([], 0, 0)).1 ++ (if m.2.2 = true then 32 :: wSealed else []) := by simp [lineM]
      have hn2 : (netOf d).2[i]? = some (m.1, (d.2.1.getD m.2.1 ([], 0, 0)).1, m.2.2) := by show (d.2.2.map _)[i]? = _; rw [List.getElem?_map, hm]; rfl
      have hol : o.length < 100000 := by
        rw [ho, List.length_append, List.length_map, List.length_map, List.length_take]
        have : (netOf d).1.length = d.2.1.length := List.length_map ..
        have := ok.m6
        have : (netOf d).2.length = d.2.2.length := List.length_map ..
        omega
      generalize (d.2.1.getD m.2.1 ([], 0, 0)).1 = b2 at *
      refine ⟨_, rfl, .inl ⟨rfl, _, SqL.of hL2⟩, _, rfl, u, _, _, _, rfl, rfl, hT, rfl, _, _, rfl, rfl, ?_, _, _, rfl, rfl, ?_, _, rfl, p, _, _, _, rfl, rfl, hP, rfl, _, rfl, u, _, _, _, rfl, rfl, hT, rfl, q2, _, _, _, rfl, rfl, hQ2, at0 m.2.1 rfl htv, w0, _, _, _, rfl, rfl, G2.fz.T hw, rfl, _, _, rfl, rfl, ?_, _, rfl, u, _, _, _, rfl, rfl, hT, rfl, _, rfl, ?_⟩
      · rw [S_length, S_length]; exact sz (by simp [wMeter]; omega)
      · rw [SX.S_cat, S_length, S_length]; exact sz (by simp [wMeter]; omega)
      · rw [SX.S_cat, SX.S_cat, S_length, S_length]; exact sz (by simp [wMeter]; omega)
      · have hfin : ∀ {y : Str}, y = S (lineM (m.1, b2, m.2.2)) → ∃ (F' : Hp) (o' : List Tt) (m2 : Option V), [some (V.ref p), some (V.ref l), some (V.ref u)] = [some (.ref p), some (.ref l), m2] ∧ Gr Am F H F' (upd H2 l (.lst (o.map (fun x => V.str (S x)) ++ [.str y]))) ∧ F' l = none ∧ (upd H2 l (.lst (o.map (fun x => V.str (S x)) ++ [.str y]))) l = some (.lst (o'.map fun x => V.str (S x))) ∧ o' = (netOf d).1.map lineP ++ ((netOf d).2.take (i + 1)).map lineM := fun {y} hy => by
          refine ⟨F2, o ++ [lineM (m.1, b2, m.2.2)], _, rfl, G2.put hl hF2, hF2, by rw [List.map_append, hy]; exact upd_same, ?_⟩
          rw [take_snoc hn2, List.map_append, ho, List.append_assoc]; rfl
        have hz : (o.map fun x => V.str (S x)).length < sizeLine := szlt (by rw [List.length_map]; exact hol)
        cases hs : m.2.2 with
        | true =>
          rw [hs] at em hfin
          refine iteT ⟨_, _, rfl, rfl, ?_, l, _, _, rfl, rfl, hL2, hz, hfin ?_⟩
          · rw [SX.S_cat, SX.S_cat, SX.S_cat, S_length, S_length]; exact sz (by simp [wMeter, wSealed]; omega)
          · rw [SX.S_cat, SX.S_cat, SX.S_cat, SX.S_cat, em]; rfl
        | false =>
          rw [hs] at em hfin
          refine iteF ⟨_, _, rfl, rfl, ?_, l, _, _, rfl, rfl, hL2, hz, hfin ?_⟩
          · rw [SX.S_cat, SX.S_cat, SX.S_cat, S_length, S_length]; exact sz (by simp [wMeter]; omega)
          · rw [SX.S_cat, SX.S_cat, SX.S_cat, SX.S_cat, em]; rfl
    · rintro σ H2 ⟨F2, o, m2, rfl, G2, hF2, hL2, ho⟩
      have h2l : (netOf d).2.length = ys3.length := by rw [h3l]; exact List.length_map ..
      rw [List.take_of_length_le (by rw [h2l]; exact Nat.le_refl _)] at ho
      have eo : o = (itemsN (netOf d)).map lineI := by rw [ho]; unfold itemsN; rw [List.map_append, List.map_map, List.map_map]; rfl
      have em : ((itemsN (netOf d)).map lineI).map (fun l => V.str (S l)) = (((itemsN (netOf d)).map lineI).map S).map V.str := by simp
      rw [eo, em] at hL2
      have hl := okn.len
      refine ⟨⟨_, rfl⟩, _, rfl, _, l, _, rfl, rfl, .inl (SqL.of hL2), ?_, ?_⟩
      · have a := sum_le (l := ((itemsN (netOf d)).map lineI).map S) (c := 40) fun x hx => by
          obtain ⟨y, hy, rfl⟩ := List.mem_map.mp hx
          obtain ⟨i, hi, rfl⟩ := List.mem_map.mp hy
          rw [S_length]
          exact lineI_len (okn.items i hi)
        rw [S_length]
        simp only [List.length_map, List.length_cons, List.length_nil] at *
        omega
      · rw [SX.join_S]
        exact k _ _ _ G2 rfl
end
end Rv
end

section
set_option Elab.async false
set_option autoImplicit false
set_option linter.all false
set_option maxRecDepth 100000
set_option maxHeartbeats 4000000
namespace Rv
open PySem L2 PyProof.Rows PySem.Spec
abbrev rWay : Rl (List (Nat × Int)) := rLst (rT2 rN rInt)
def OkWay (n b : Nat) (l : List (Nat × Int)) : Prop := l.length ≤ b ∧ ∀ p ∈ l, p.1 < n ∧ Bd 1 p.2
abbrev spPath : Sp := fun vs H Q _ => ∃ (A : Amb) (F : Hp) (x : V) (kp : Addr) (a b : Nat) (tb : List TubeD) (kept : List Nat), vs = [x, .ref kp, .int a, .int b] ∧ Fz A F H ∧ rLst rTube F x tb ∧ tb.length ≤ 5 ∧ H kp = some (.lst (kept.map fun k => V.int (k : Nat))) ∧ F kp = none ∧ ¬ A.S kp ∧ kept.length ≤ 5 ∧ (∀ k ∈ kept, k < tb.length) ∧
  Out A F H Q fun F' _ v => v = .non ∨ ∃ l, rWay F' v l ∧ OkWay tb.length 30 l
theorem putK_le {κ : Type} [DecidableEq κ] (c : List (κ × V)) (k : κ) (x : V) : (putK c k x).length ≤ c.length + 1 := by
  unfold putK
  split <;> simp
def Roads (F : Hp) (n b : Nat) (kvs : List (Key × V)) : Prop := kvs.length ≤ b + 1 ∧ ∀ (k : Key) v, valV kvs k = some v → ∃ l, rWay F v l ∧ OkWay n b l
theorem Roads.up {F F' : Hp} {n b : Nat} {kvs : List (Key × V)} (e : Same F F') (h : Roads F n b kvs) : Roads F' n b kvs := ⟨h.1, fun k v hv => let ⟨l, h1, h2⟩ := h.2 k v hv; ⟨l, MonoR.up e h1, h2⟩⟩
theorem Roads.le {F : Hp} {n b c : Nat} {kvs : List (Key × V)} (e : b ≤ c) (h : Roads F n b kvs) : Roads F n c kvs := ⟨by have := h.1; omega, fun k v hv => let ⟨l, h1, h2⟩ := h.2 k v hv; ⟨l, h1, by have := h2.1; omega, h2.2⟩⟩
section
variable {P : Program} {w : World} {K : PySem.W.Frag} {mg : Str → Option Value} {base : Heap} {cs : Cs}
abbrev sLawPath : Stmt := top 77
abbrev nLawPath : List Str := ["_law_tubes", "_law_kept", "_law_first", "_law_last_here", "_law_roads", "_law_turn", "_law_k", "_law_begin", "_law_finish"]
abbrev pLawPath : List Str := ["_law_tubes", "_law_kept", "_law_first", "_law_last_here"]
theorem scLawPath : FnScope nLawPath pLawPath (defScope sLawPath) := ⟨rfl, rfl, rfl, by decide +kernel, rfl, by decide +kernel, by decide +kernel⟩

theorem c__law_path (D : Dn K mg "_law_path" sLawPath pLawPath) (T : Tx K mg cs) : Cal P w K mg base 1 "_law_path" spPath := by
  refine cal_of D scLawPath (fun vs H Q E h => ?_) (fun f cdv A outer s H vs Q E hr h => ?_)
  · obtain ⟨_, _, _, _, _, _, _, _, rfl, _⟩ := h
    rfl
  · obtain ⟨Am, F, x, kp, fa, la, tb, kept, rfl, Z, ⟨p, xs, rfl, hp, prd⟩, h5, hkp, hFk, hSk, hk5, hkb, k⟩ := h
    refine ⟨_, (pss_cons (ps_set (i := 4) scLawPath.nd rfl (Or.inl rfl) (pe_disp (pps_cons (pv 2) (pe_lst pa_nil) pps_nil) (by rfl) (by rfl) (fun z => by cases z) (by decide)))
      (pss_cons (ps_forG PassesOwn.never rfl (pi_range1 (by rfl) T.n_range (pa_cons (pe_callB call_len_seq (by rfl) T.n_len (by decide +kernel) (pa_cons (pv 1) pa_nil)) pa_nil)) (pg_name (i := 5) scLawPath.nd rfl (.inl rfl) (.inr rfl))
        (pss_one (ps_forG PassesOwn.never rfl (pi_list (pv 1)) (pg_name (i := 6) scLawPath.nd rfl (.inl rfl) (.inr rfl))
        (pss_cons (ps_par (i := 7) (j := 8) (by rfl) scLawPath.nd rfl rfl (by decide) rfl rfl (pa_cons (pe_ix (r := rIxT K) ix_tup (pe_ix (r := rIxL K) ix_list (pv 0) (pv 6) (fun _ _ => rfl)) pe_int (fun _ _ => rfl)) (pa_cons (pe_ix (r := rIxT K) ix_tup (pe_ix (r := rIxL K) ix_list (pv 0) (pv 6) (fun _ _ => rfl)) pe_int (fun _ _ => rfl)) pa_nil)) (by rfl))
      (pss_one (ps_if (PW.pt (pw_and (pt_cmp (pc_din (hu_of hr) (pv 7) (pv 4))) (pw_and1 (pt_cmp (pc_dnotin (hu_of hr) (pv 8) (pv 4)))))) (pss_one (ps_dput (hu_of hr) (pv 4) (pv 8) (pe_op op_cat (pe_dget (hu_of hr) (pv 4) (pv 7) (fun _ _ => rfl)) (pe_lst (pa_cons (pe_tup (pa_cons (pv 6) (pa_cons pe_int pa_nil))) pa_nil))) rfl)) (pss_one (ps_if (PW.pt (pw_and (pt_cmp (pc_din (hu_of hr) (pv 8) (pv 4))) (pw_and1 (pt_cmp (pc_dnotin (hu_of hr) (pv 7) (pv 4)))))) (pss_one (ps_dput (hu_of hr) (pv 4) (pv 7) (pe_op op_cat (pe_dget (hu_of hr) (pv 4) (pv 8) (fun _ _ => rfl)) (pe_lst (pa_cons (pe_tup (pa_cons (pv 6) (pa_cons (pe_un un_neg pe_int) pa_nil))) pa_nil))) rfl)) pss_nil))))))))
      (pss_one (ps_ret (pe_dget1 (hu_of hr) (pv 4) (pv 3) ⟨rfl, rfl, rfl, rfl⟩))))), ?_⟩
    intro d hd
    have hdS := Z.notS hd
    have G0 := (Gr.refl Z).own (o := .dK []) hd
    refine ⟨_, rfl, by show 0 ≤ sizeLine; decide, fun l0 hl0 => ?_⟩
    have ndl : d ≠ l0 := ne_of_none upd_same hl0
    have G1 := G0.new (o := .lst []) hl0
    have hD1 : upd (upd H d (.dK [])) l0 (.lst []) d = some (.dK []) := by rw [upd_ne ndl, upd_same]
    have hF1 : upd F l0 (.lst []) d = none := by rw [upd_ne ndl]; exact Z.free hd
    refine ⟨hD1, [(Sum.inl (fa : Int), .ref l0)], rfl, by show 1 ≤ 15; decide, ?_⟩
    have em : mergeK ([] : List (Key × V)) [(Sum.inl (fa : Int), .ref l0)] = [(Sum.inl (fa : Int), .ref l0)] := rfl
    rw [em]
    have G2 := G1.put (o := .dK [(Sum.inl (fa : Int), .ref l0)]) hd hF1
    have hD2 : upd (upd (upd H d (.dK [])) l0 (.lst [])) d (.dK [(Sum.inl (fa : Int), .ref l0)]) d = some (.dK [(Sum.inl (fa : Int), .ref l0)]) := upd_same
    have R2 : Roads (upd F l0 (.lst [])) tb.length 0 [(Sum.inl (fa : Int), .ref l0)] := by
      refine ⟨by show 1 ≤ 1; decide, fun k v hv => ?_⟩
      by_cases e : (Sum.inl (fa : Int) : Key) = k
      · rw [valV_pos e] at hv
        cases hv
        exact ⟨[], ⟨l0, [], rfl, upd_same, .nil⟩, by simp, by simp⟩
      · rw [valV_neg e] at hv; cases hv
    obtain ⟨hk2, hkF2⟩ := G2.cell hSk hkp hFk
    refine ⟨_, rfl, kp, _, rfl, .inl (SqL.of hk2), _, rfl, by rw [List.length_map]; omega, by rw [List.length_map]; omega, ?_⟩
    have ekl : (((kept.map fun k => V.int (k : Nat)).length : Nat) : Int).toNat = kept.length := by rw [List.length_map]; omega
    refine for_rng (fun i σ H' => ∃ (F' : Hp) (kvs : List (Key × V)) (m5 m6 m7 m8 : Option V), σ = [some (.ref p), some (.ref kp), some (.int fa), some (.int la), some (.ref d), m5, m6, m7, m8] ∧ Gr Am F H F' H' ∧ F' d = none ∧ H' d = some (.dK kvs) ∧ Roads F' tb.length (i * kept.length) kvs) ⟨_, _, _, _, _, _, rfl, G2, hF1, hD2, by rw [Nat.zero_mul]; exact R2⟩ ?_ ?_
    · rintro i σ H3 hi ⟨F3, kvs, m5, m6, m7, m8, rfl, G3, hF3, hD3, R3⟩
      rw [ekl] at hi
      obtain ⟨hk3, hkF3⟩ := G3.cell hSk hkp hFk
      refine ⟨_, rfl, kp, rfl, ⟨_, SqL.of hk3⟩, ?_⟩
      have hib : i * kept.length + kept.length ≤ 25 := by
        have : (i + 1) * kept.length ≤ 5 * 5 := Nat.mul_le_mul (by omega) hk5
        rw [Nat.succ_mul] at this; exact this
      refine for_at walk_list (fun j σ H' => ∃ (F' : Hp) (kvs : List (Key × V)) (m6 m7 m8 : Option V), σ = [some (.ref p), some (.ref kp), some (.int fa), some (.int la), some (.ref d), some (.int (0 + (i : Int))), m6, m7, m8] ∧ Gr Am F H F' H' ∧ F' d = none ∧ H' d = some (.dK kvs) ∧ Roads F' tb.length (i * kept.length + j) kvs) ⟨F3, kvs, _, _, _, rfl, G3, hF3, hD3, R3⟩ (fun j σ H' _ ⟨F', _, _, _, _, _, G, _⟩ => SqL.of (G.cell hSk hkp hFk).1) ?_ ?_
      · rintro j y σ H4 hj ⟨F4, kvs, m6, m7, m8, rfl, G4, hF4, hD4, R4⟩
        rw [List.getElem?_map] at hj
        obtain ⟨kk, hkk, rfl⟩ := Option.map_eq_some_iff.mp hj
        have hjl := (List.getElem?_eq_some_iff.mp hkk).1
        have hkt := hkb kk (List.mem_of_getElem? hkk)
        obtain ⟨tv, htv, u, u1, u2, u3, rfl, hu, rfl, rfl, rfl⟩ := prd_get2 prd (i := kk) (d := tb[kk]) (by simp [hkt])
        have hP := G4.fz.L (K := K) (G4.ff _ _ hp)
        have hU := G4.fz.T (K := K) (G4.ff _ _ hu)
        generalize tb[kk] = tbk at hU hu
        obtain ⟨nmk, bk, fk⟩ := tbk
        refine ⟨_, rfl, _, rfl, p, _, _, _, rfl, rfl, hP, at0 kk rfl htv, u, _, _, _, rfl, rfl, hU, rfl, _, rfl, _, rfl, p, _, _, _, rfl, rfl, hP, at0 kk rfl htv, u, _, _, _, rfl, rfl, hU, rfl, ?_⟩
        refine ⟨_, _, rfl, ?_⟩
        have keep : ∃ (F' : Hp) (kvs' : List (Key × V)) (m6 m7 m8 : Option V), [some (V.ref p), some (.ref kp), some (.int fa), some (.int la), some (.ref d), some (.int (0 + (i : Int))), some (.int (kk : Nat)), some (.int (bk : Nat)), some (.int (fk : Nat))] = [some (.ref p), some (.ref kp), some (.int fa), some (.int la), some (.ref d), some (.int (0 + (i : Int))), m6, m7, m8] ∧ Gr Am F H F' H4 ∧ F' d = none ∧ H4 d = some (.dK kvs') ∧ Roads F' tb.length (i * kept.length + (j + 1)) kvs' := ⟨F4, kvs, _, _, _, rfl, G4, hF4, hD4, R4.le (by omega)⟩
        have add : ∀ (from_ to_ : Nat) (v : V) (sg : Int), Bd 1 sg → valV kvs (Sum.inl (from_ : Int) : Key) = some v → ∃ a zs, v = .ref a ∧ H4 a = some (.lst zs) ∧ zs.length ≤ 25 ∧ ∀ t, H4 t = none → ∀ l, upd H4 t (.tup [.int (kk : Nat), .int sg]) l = none → ∀ r, upd (upd H4 t (.tup [.int (kk : Nat), .int sg])) l (.lst [.ref t]) r = none →
            ∃ (H5 : Hp), H5 = upd (upd (upd H4 t (.tup [.int (kk : Nat), .int sg])) l (.lst [.ref t])) r (.lst (zs ++ [.ref t])) ∧ upd (upd H4 t (.tup [.int (kk : Nat), .int sg])) l (.lst [.ref t]) a = some (.lst zs) ∧ H5 d = some (.dK kvs) ∧ ∃ F5, Gr Am F H F5 (upd H5 d (.dK (putK kvs (Sum.inl (to_ : Int)) (.ref r)))) ∧ F5 d = none ∧ Roads F5 tb.length (i * kept.length + (j + 1)) (putK kvs (Sum.inl (to_ : Int)) (.ref r)) := by
          intro from_ to_ v sg hsg hv
          obtain ⟨l, ⟨a, zs, rfl, ha, prz⟩, hl1, hl2⟩ := R4.2 _ v hv
          have hzl := prd_len prz
          refine ⟨a, zs, rfl, G4.fz.sub _ _ ha, by omega, fun t ht l' hl' r hr => ⟨_, rfl, ?_, ?_, ?_⟩⟩
          · rw [upd_ne (ne_of_none (same_new ht _ _ (G4.fz.sub _ _ ha)) hl'), upd_ne (ne_of_none (G4.fz.sub _ _ ha) ht)]
            exact G4.fz.sub _ _ ha
          · rw [upd_ne (ne_of_none (same_new hl' _ _ (same_new ht _ _ hD4)) hr), upd_ne (ne_of_none (same_new ht _ _ hD4) hl'), upd_ne (ne_of_none hD4 ht)]
            exact hD4
          · have g5 := ((Gr.refl G4.fz).new (o := .tup [.int (kk : Nat), .int sg]) ht)
            have g6 := g5.new (o := .lst [.ref t]) hl'
            have g7 := g6.new (o := .lst (zs ++ [.ref t])) hr
            obtain ⟨hD7, hF7⟩ := g7.cell hdS hD4 hF4
            have hsF := same_new (o := .lst [V.ref t]) (g5.fz.free hl')
            have hsF2 := same_new (o := .lst (zs ++ [V.ref t])) (g6.fz.free hr)
            refine ⟨_, (G4.trans g7).put hd hF7, hF7, ?_, ?_⟩
            · have := putK_le kvs (Sum.inl (to_ : Int) : Key) (V.ref r)
              have := R4.1
              omega
            · intro k' v' hv'
              rw [valV_put] at hv'
              split at hv'
              · cases hv'
                refine ⟨l ++ [(kk, sg)], ⟨r, _, rfl, upd_same, prd_append (prd_up g7.ff prz) (.cons ⟨t, _, _, rfl, hsF2 _ _ (hsF _ _ upd_same), rfl, rfl⟩ .nil)⟩, by rw [List.length_append]; simp; omega, fun q hq => ?_⟩
                rcases List.mem_append.mp hq with z | z
                · exact hl2 q z
                · rw [List.mem_singleton.mp z]; exact ⟨hkt, hsg⟩
              · exact ((Roads.up g7.ff R4).le (by omega)).2 k' v' hv'
        have hkl : kvs.length < sizeLine := szlt (by have := R4.1; omega)
        have hDb := DGet.k (k := (Sum.inl (bk : Int) : Key)) hD4
        have hDf := DGet.k (k := (Sum.inl (fk : Int) : Key)) hD4
        refine ⟨_, rfl, _, rfl, d, _, rfl, hDb, _, rfl, ?_⟩
        cases hb : valV kvs (Sum.inl (bk : Int) : Key) with
        | some vb =>
          rw [hb] at hDb
          refine iteT ⟨_, rfl, _, rfl, d, _, rfl, hDf, _, rfl, ?_⟩
          cases hf : valV kvs (Sum.inl (fk : Int) : Key) with
          | none =>
            obtain ⟨a, zs, rfl, ha, hz, hadd⟩ := add bk fk vb 1 ⟨by decide, by decide⟩ hb
            refine iteT ⟨_, rfl, _, rfl, d, _, rfl, hDb, _, rfl, by show 2 ≤ sizeLine; decide, fun t ht => ⟨by show 1 ≤ sizeLine; decide, fun l hl => ?_⟩⟩
            refine ⟨a, l, zs, [.ref t], rfl, rfl, ?_, upd_same, by rw [sizeLine_eq]; simp; omega, fun r hr => ?_⟩
            · rw [upd_ne (ne_of_none (same_new ht _ _ ha) hl), upd_ne (ne_of_none ha ht)]; exact ha
            · obtain ⟨H5, e5, _, hD5, F5, G5, hF5, R5⟩ := hadd t ht l hl r hr
              subst e5
              exact ⟨_, rfl, _, rfl, d, _, rfl, DPut.k (k := (Sum.inl (fk : Int) : Key)) hD5 hkl, F5, _, _, _, _, rfl, G5, hF5, upd_same, R5⟩
          | some vf =>
            refine iteF ⟨_, rfl, _, rfl, d, _, rfl, hDf, _, rfl, ?_⟩
            rw [hf]
            refine iteT ⟨_, rfl, _, rfl, d, _, rfl, hDb, _, rfl, ?_⟩
            exact iteF keep
        | none =>
          rw [hb] at hDb
          refine iteF ?_
          refine iteF ⟨_, rfl, _, rfl, d, _, rfl, hDf, _, rfl, ?_⟩
          cases hf : valV kvs (Sum.inl (fk : Int) : Key) with
          | none =>
            refine iteF ?_
            exact iteF keep
          | some vf =>
            rw [hf] at hDf
            refine iteT ⟨_, rfl, _, rfl, d, _, rfl, hDb, _, rfl, ?_⟩
            obtain ⟨a, zs, rfl, ha, hz, hadd⟩ := add fk bk vf (-1) ⟨by decide, by decide⟩ hf
            refine iteT ⟨_, rfl, _, rfl, d, _, rfl, hDf, _, rfl, _, rfl, by show 2 ≤ sizeLine; decide, fun t ht => ⟨by show 1 ≤ sizeLine; decide, fun l hl => ?_⟩⟩
            refine ⟨a, l, zs, [.ref t], rfl, rfl, ?_, upd_same, by rw [sizeLine_eq]; simp; omega, fun r hr => ?_⟩
            · rw [upd_ne (ne_of_none (same_new ht _ _ ha) hl), upd_ne (ne_of_none ha ht)]; exact ha
            · obtain ⟨H5, e5, _, hD5, F5, G5, hF5, R5⟩ := hadd t ht l hl r hr
              subst e5
              exact ⟨_, rfl, _, rfl, d, _, rfl, DPut.k (k := (Sum.inl (bk : Int) : Key)) hD5 hkl, F5, _, _, _, _, rfl, G5, hF5, upd_same, R5⟩
      · rintro σ H4 ⟨F4, kvs, m6, m7, m8, rfl, G4, hF4, hD4, R4⟩
        rw [List.length_map] at R4
        exact ⟨F4, kvs, _, _, _, _, rfl, G4, hF4, hD4, by rw [Nat.succ_mul]; exact R4⟩
    · rintro σ H3 ⟨F3, kvs, m5, m6, m7, m8, rfl, G3, hF3, hD3, R3⟩
      rw [ekl] at R3
      have hR : kept.length * kept.length ≤ 25 := Nat.mul_le_mul hk5 hk5
      refine ⟨_, rfl, d, rfl, .inl ⟨_, Rd.of hD3⟩, _, rfl, _, DGet.k (k := (Sum.inl (la : Int) : Key)) hD3, ?_⟩
      refine k _ _ _ G3 ?_
      cases hv : valV kvs (Sum.inl (la : Int) : Key) with
      | none => exact .inl rfl
      | some v =>
        obtain ⟨l, h1, h2⟩ := R3.2 _ v hv
        exact .inr ⟨l, h1, by have := h2.1; omega, h2.2⟩
end
end Rv
end

section
set_option Elab.async false
set_option autoImplicit false
set_option linter.all false
set_option maxRecDepth 100000
set_option maxHeartbeats 4000000
namespace Rv
open PySem L2 PyProof.Rows PySem.Spec
theorem ixNn {n j : Nat} (hj : j < n) : ixN n (j : Int) = some j := by
  unfold ixN
  rw [if_pos (by omega), if_pos (by omega)]
  simp
abbrev spRings : Sp := fun vs H Q _ => ∃ (A : Amb) (F : Hp) (x : V) (tb : List TubeD), vs = [x] ∧ Fz A F H ∧ rLst rTube F x tb ∧ tb.length ≤ 5 ∧ Out A F H Q fun F' _ v => ∃ rs : List (List Int), rLst (rLst rInt) F' v rs ∧ rs.length ≤ 5 ∧ ∀ r ∈ rs, OkRing tb.length r
section
variable {P : Program} {w : World} {K : PySem.W.Frag} {mg : Str → Option Value} {base : Heap} {cs : Cs}
abbrev sLawRings : Stmt := top 78
abbrev nLawRings : List Str := ["_law_tubes", "_law_kept", "_law_found", "_law_k", "_law_way", "_law_ring", "_law_step", "_law_one"]
abbrev pLawRings : List Str := ["_law_tubes"]
theorem scLawRings : FnScope nLawRings pLawRings (defScope sLawRings) := ⟨rfl, rfl, rfl, by decide +kernel, rfl, by decide +kernel, by decide +kernel⟩

theorem c__law_rings (D : Dn K mg "_law_rings" sLawRings pLawRings) (T : Tx K mg cs) (c__law_path : Cal P w K mg base 1 "_law_path" spPath) : Cal P w K mg base 2 "_law_rings" spRings := by
  refine cal_of D scLawRings (fun vs H Q E h => ?_) (fun f cdv A outer s H vs Q E hr h => ?_)
  · obtain ⟨_, _, _, _, rfl, _⟩ := h
    rfl
  · obtain ⟨Am, F, x, tb, rfl, Z, ⟨p, xs, rfl, hp, prd⟩, h5, k⟩ := h
    refine ⟨_, (pss_cons (ps_par (i := 1) (j := 2) (by rfl) scLawRings.nd rfl rfl (by decide) rfl rfl (pa_cons (pe_lst pa_nil) (pa_cons (pe_lst pa_nil) pa_nil)) (by rfl))
      (pss_cons (ps_forG PassesOwn.never rfl (pi_range1 (by rfl) T.n_range (pa_cons (pe_callB call_len_seq (by rfl) T.n_len (by decide +kernel) (pa_cons (pv 0) pa_nil)) pa_nil)) (pg_name (i := 3) scLawRings.nd rfl (.inl rfl) (.inr rfl))
        (pss_cons (ps_set (i := 4) scLawRings.nd rfl (Or.inl rfl) (pe_c c__law_path hr (by decide) rfl (pa_cons (pv 0) (pa_cons (pv 1) (pa_cons (pe_ix (r := rIxT K) ix_tup (pe_ix (r := rIxL K) ix_list (pv 0) (pv 3) (fun _ _ => rfl)) pe_int (fun _ _ => rfl)) (pa_cons (pe_ix (r := rIxT K) ix_tup (pe_ix (r := rIxL K) ix_list (pv 0) (pv 3) (fun _ _ => rfl)) pe_int (fun _ _ => rfl)) pa_nil))))))
      (pss_one (ps_if (pt_cmpR op_isN (pv 4) pe_non (nomark _)) (pss_one (ps_expr (pe_bm PySem.F.plainAttrs_list PySem.F.slot_list_append PySem.F.type_list_append mt_append (pv 1) (pa_cons (pv 3) pa_nil)))) (pss_cons (ps_setLcG (i := 5) (own := [("_law_one", 7)]) rfl scLawRings.nd rfl rfl (sw_true rfl rfl rfl (by decide +kernel)) (pi_list (pv 0)) (blkOk_by (own := [("_law_one", 7)]) (N := nLawRings) (sc := defScope sLawRings) (by decide +kernel)) (fun _ _ _ _ _ => (pg_name (i := 7) scLawRings.nd rfl (.inl rfl) (.inr rfl))) (fun _ _ _ _ _ => pts_nil) (fun _ _ _ _ _ => pe_int))
      (pss_cons (ps_asg pe_int (pg_sub (pv 5) (pv 3) set_list))
      (pss_cons (ps_forG PassesOwn.never rfl (pi_list (pv 4)) (pg_name (i := 6) scLawRings.nd rfl (.inl rfl) (.inr rfl))
        (pss_one (ps_asg (pe_ix (r := rIxT K) ix_tup (pv 6) pe_int (fun _ _ => rfl)) (pg_sub (pv 5) (pe_ix (r := rIxT K) ix_tup (pv 6) pe_int (fun _ _ => rfl)) set_list))))
      (pss_one (ps_expr (pe_bm PySem.F.plainAttrs_list PySem.F.slot_list_append PySem.F.type_list_append mt_append (pv 2) (pa_cons (pv 5) pa_nil)))))))))))
      (pss_one (ps_ret (pv 2))))), ?_⟩
    refine ⟨by show 0 ≤ sizeLine; decide, fun kl hkl => ⟨by show 0 ≤ sizeLine; decide, fun fl hfl => ?_⟩⟩
    have hkS := Z.notS hkl
    have G1 := (Gr.refl Z).own (o := .lst []) hkl
    have hfS := G1.fz.notS hfl
    have nkf : kl ≠ fl := ne_of_none upd_same hfl
    have nfk : fl ≠ kl := fun e => nkf e.symm
    have G2 := G1.own (o := .lst []) hfl
    have hf0 := G1.free hfl
    refine ⟨_, _, rfl, ?_⟩
    refine ⟨_, rfl, p, _, rfl, .inl (G2.fz.L hp), _, rfl, by rw [prd_len prd]; omega, by rw [prd_len prd]; omega, ?_⟩
    have exl : (((xs.length : Nat) : Int)).toNat = tb.length := by rw [prd_len prd]; omega
    refine for_rng (fun i σ H' => ∃ (F' : Hp) (kept : List Nat) (ys : List V) (rs : List (List Int)) (m3 m4 m5 m6 m7 : Option V), σ = [some (.ref p), some (.ref kl), some (.ref fl), m3, m4, m5, m6, m7] ∧ Cell2 Am F H F kl fl (kept.map fun k => V.int (k : Nat)) ys F' H' ∧ PySem.Paired (rLst rInt F') ys rs ∧ kept.length ≤ i ∧ rs.length ≤ i ∧ (∀ k ∈ kept, k < tb.length) ∧ ∀ r ∈ rs, OkRing tb.length r) ⟨F, [], [], [], _, _, _, _, _, rfl, ⟨G2, Same.refl _, ⟨Z.free hkl, by rw [upd_ne nkf, upd_same]; rfl⟩, ⟨Z.free hf0, upd_same⟩⟩, .nil, by simp, by simp, by simp, by simp⟩ ?_ ?_
    · rintro i σ H3 hi ⟨F3, kept, ys, rs, m3, m4, m5, m6, m7, rfl, C3, prr, hk5, hr5, hkb, hrb⟩
      rw [exl] at hi
      obtain ⟨tv, htv, u, u1, u2, u3, rfl, hu, rfl, rfl, rfl⟩ := prd_get2 prd (i := i) (d := tb[i]) (by simp [hi])
      have hP := C3.1.fz.L (K := K) (C3.2.1 _ _ hp)
      have hU := C3.1.fz.T (K := K) (C3.2.1 _ _ hu)
      generalize tb[i] = tbk at hU hu
      obtain ⟨nmk, bk, fk⟩ := tbk
      refine ⟨_, rfl, _, rfl, _, rfl, _, rfl, p, _, _, _, rfl, rfl, hP, at0 i (by omega) htv, u, _, _, _, rfl, rfl, hU, rfl, _, rfl, _, rfl, p, _, _, _, rfl, rfl, hP, at0 i (by omega) htv, u, _, _, _, rfl, rfl, hU, rfl, ?_⟩
      refine ⟨Am, F3, .ref p, kl, fk, bk, tb, kept, rfl, C3.1.fz, ⟨p, xs, rfl, C3.2.1 _ _ hp, prd_up C3.2.1 prd⟩, h5, C3.2.2.1.2, C3.2.2.1.1, hkS, by omega, hkb, fun F4 H4 v g4 hway => ?_⟩
      have C4 := C3.grow g4 hkS hfS
      have pr4 := prd_up g4.ff prr
      rcases hway with rfl | ⟨way, ⟨wp, zs, rfl, hwp, prw⟩, hw1, hw2⟩
      · refine ⟨_, rfl, rfl, _, rfl, iteT ⟨_, rfl, .inl ⟨rfl, _, SqL.of C4.2.2.1.2⟩, _, rfl, kl, _, _, rfl, rfl, C4.2.2.1.2, szlt (by rw [List.length_map]; omega), ?_⟩⟩
        obtain ⟨Gc, wc, ⟨pc1, pc2⟩, ⟨mc1, mc2⟩⟩ := C4
        refine ⟨F4, kept ++ [i], ys, rs, _, _, _, _, _, rfl, ⟨Gc.put hkl pc1, wc, ⟨pc1, ?_⟩, ⟨mc1, by rw [upd_ne nfk]; exact mc2⟩⟩, pr4, by rw [List.length_append]; exact Nat.succ_le_succ hk5, by omega, fun k hk => ?_, hrb⟩
        · rw [upd_same, List.map_append]
          show _ = some (HO.lst (_ ++ [V.int (i : Nat)]))
          rw [Int.zero_add]
        · rcases List.mem_append.mp hk with z | z
          · exact hkb k z
          · rw [List.mem_singleton.mp z]; exact hi
      · refine ⟨_, rfl, rfl, _, rfl, iteF ?_⟩
        have hP4 := C4.1.fz.L (K := K) (C4.2.1 _ _ hp)
        refine ⟨_, rfl, p, rfl, ⟨_, hP4⟩, ?_⟩
        refine lc_mapO (ra := rTube) (r := rInt) (fun _ => 0) walk_list C4.1.fz (prd_up C4.2.1 prd) (fun F' H' g => g.fz.L (g.ff _ _ (C4.2.1 _ _ hp))) (by omega) ?_ ?_
        · intro j x t F5 H5 K1 ht G5 rt hK
          exact ⟨rfl, hK _ _ _ (Gr.refl G5.fz) rfl⟩
        rintro F5 H5 rl vs5 g5 hrl hrF hrL prz
        have ez := paired_C prz
        subst ez
        have C5 := C4.grow g5 hkS hfS
        have hnk : rl ≠ kl := fun e => by rw [e, C4.2.2.1.2] at hrl; cases hrl
        have hnf : rl ≠ fl := fun e => by rw [e, C4.2.2.2.2] at hrl; cases hrl
        have hr0 := C4.1.free hrl
        have hz5 : ∀ {l : List Int} {j : Nat} {v : Int}, OkRing tb.length l → Bd 1 v → OkRing tb.length (l.set j v) := fun {l j v} h hv => ⟨by rw [List.length_set]; exact h.1, fun x hx => by
          rcases List.mem_or_eq_of_mem_set hx with z | z
          · exact h.2 x z
          · rw [z]; exact hv⟩
        have put : ∀ {H' : Hp} {o : HO} {a b : List V}, Cell2 Am F H F kl fl a b F5 H' → Cell2 Am F H F kl fl a b F5 (upd H' rl o) := fun {H' o a b} C => ⟨C.1.put hr0 hrF, C.2.1, ⟨C.2.2.1.1, by rw [upd_ne hnk.symm]; exact C.2.2.1.2⟩, ⟨C.2.2.2.1, by rw [upd_ne hnf.symm]; exact C.2.2.2.2⟩⟩
        have hL0 : (tb.map fun _ => (0 : Int)).length = tb.length := List.length_map ..
        have ok0 : OkRing tb.length (tb.map fun _ => (0 : Int)) := ⟨hL0, fun x hx => by
          obtain ⟨_, _, rfl⟩ := List.mem_map.mp hx
          exact ⟨by decide, by decide⟩⟩
        refine ⟨_, rfl, _, rfl, rl, _, _, i, rfl, rfl, hrL, by rw [Int.zero_add]; exact ixNn (by rw [List.length_map, hL0]; exact hi), ?_⟩
        rw [← List.map_set (f := V.int)]
        have C6 := put (o := .lst (((tb.map fun _ => (0 : Int)).set i 1).map V.int)) C5
        have hwp5 := g5.ff _ _ hwp
        have prw5 := prd_up g5.ff prw
        refine ⟨_, rfl, wp, rfl, ⟨_, C6.1.fz.L hwp5⟩, ?_⟩
        refine for_at walk_list (fun j σ H' => ∃ (l : List Int) (m6 m7 : Option V), σ = [some (.ref p), some (.ref kl), some (.ref fl), some (.int (0 + (i : Int))), some (.ref wp), some (.ref rl), m6, m7] ∧ Cell2 Am F H F kl fl (kept.map fun k => V.int (k : Nat)) ys F5 H' ∧ H' rl = some (.lst (l.map V.int)) ∧ OkRing tb.length l) ⟨_, _, _, rfl, C6, upd_same, hz5 ok0 ⟨by decide, by decide⟩⟩ (fun j σ H' _ ⟨_, _, _, _, C, _⟩ => C.1.fz.L hwp5) ?_ ?_
        · rintro j y σ H6 hj ⟨l, m6, m7, rfl, C, hrl6, okl⟩
          obtain ⟨⟨q1, q2⟩, hq, t, t1, t2, rfl, ht, rfl, rfl⟩ := prd_get prw5 hj
          obtain ⟨b1, b2⟩ := hw2 _ (List.mem_of_getElem? hq)
          have hT := C.1.fz.T (K := K) ht
          refine ⟨_, rfl, t, _, _, _, rfl, rfl, hT, rfl, _, rfl, _, rfl, t, _, _, _, rfl, rfl, hT, rfl, rl, _, _, q1, rfl, rfl, hrl6, ixNn (by rw [List.length_map, okl.1]; exact b1), ?_⟩
          rw [← List.map_set (f := V.int)]
          exact ⟨l.set q1 q2, _, _, rfl, put C, upd_same, hz5 okl b2⟩
        · rintro σ H6 ⟨l, m6, m7, rfl, C, hrl6, okl⟩
          have pr5 := prd_up g5.ff pr4
          refine ⟨_, rfl, .inl ⟨rfl, _, SqL.of C.2.2.2.2⟩, _, rfl, fl, _, _, rfl, rfl, C.2.2.2.2, szlt (by rw [prd_len prr]; omega), ?_⟩
          have Gz := (C.1.put (l := fl) (o := .lst (ys ++ [.ref rl])) hf0 C.2.2.2.1).frz (l := rl) (o := .lst (l.map V.int)) hr0 hrF (by rw [upd_ne hnf]; exact hrl6)
          have sn := same_new (o := .lst (l.map V.int)) hrF
          refine ⟨_, kept, ys ++ [.ref rl], rs ++ [l], _, _, _, _, _, rfl, ⟨Gz, C.2.1.trans sn, ⟨by rw [upd_ne hnk.symm]; exact C.2.2.1.1, by rw [upd_ne nkf]; exact C.2.2.1.2⟩, ⟨by rw [upd_ne hnf.symm]; exact C.2.2.2.1, upd_same⟩⟩, prd_append (prd_up sn pr5) (.cons ⟨rl, _, rfl, upd_same, paired_of⟩ .nil), by omega, by rw [List.length_append]; exact Nat.succ_le_succ hr5, hkb, fun r hr => ?_⟩
          rcases List.mem_append.mp hr with z | z
          · exact hrb r z
          · rw [List.mem_singleton.mp z]; exact okl
    · rintro σ H3 ⟨F3, kept, ys, rs, m3, m4, m5, m6, m7, rfl, C3, prr, hk5, hr5, hkb, hrb⟩
      rw [exl] at hr5
      have G4 := C3.1.frz hf0 C3.2.2.2.1 C3.2.2.2.2
      exact ⟨_, rfl, k _ _ _ G4 ⟨rs, ⟨fl, ys, rfl, upd_same, prd_up (same_new C3.2.2.2.1) prr⟩, by omega, hrb⟩⟩
end
end Rv
end

section
set_option Elab.async false
set_option autoImplicit false
set_option linter.all false
set_option maxRecDepth 100000
set_option maxHeartbeats 4000000
namespace Rv
open PySem L2 PyProof.Rows PySem.Spec
/-- the law's text so far -/
def told0 : Tm → Tt
  | [] => []
  | p :: r => told (p :: r)
theorem told0_snoc {t : Tm} {p : Tt × Int} (h : t ≠ []) : told0 (t ++ [p]) = told0 t ++ ([32, sgnT p, 32] ++ bodyT p) := by
  cases t with
  | nil => exact absurd rfl h
  | cons q r => simp [told0, told, tailT]
theorem told0_one (p : Tt × Int) : told0 [p] = (if p.2 < 0 then [45] else []) ++ bodyT p := by simp [told0, told, tailT]
theorem told0_ne {t : Tm} (h : OkT t) (hn : t ≠ []) : told0 t ≠ [] := by
  cases t with
  | nil => exact absurd rfl hn
  | cons q r =>
    have := (told_len h).1
    intro e
    have e : told (q :: r) = [] := e
    rw [e] at this; simp at this
theorem told0_len {t : Tm} (h : OkT t) : (told0 t).length ≤ 200 := by
  cases t with
  | nil => simp [told0]
  | cons q r => exact (told_len h).2
theorem lit_sm : Str.ofString " - " = S [32, 45, 32] := lit (by decide +kernel)
theorem lit_spl : Str.ofString " + " = S [32, 43, 32] := lit (by decide +kernel)
theorem natlog {n : Nat} (h : n < 10000000) : ((n : Nat) : Int).natAbs.log2 < 1920 := by
  rw [Int.natAbs_natCast]
  by_cases e : n = 0
  · subst e; decide
  · have : n < 2 ^ 24 := by omega
    have := (Nat.log2_lt e).mpr this
    omega
theorem num_S {n : Nat} : (toString ((n : Nat) : Int) : Str) = S (TL.numL n) := by
  have e : Str.ofString (toString (n : Int)) = S (TL.numL n) := TL.ext_tl (TL.tl_num n)
  exact e
abbrev spTold : Sp := fun vs H Q _ => ∃ (A : Amb) (F : Hp) (x : V) (t : Tm), vs = [x] ∧ Fz A F H ∧ rPr F x t ∧ OkT t ∧ Out A F H Q fun _ _ v => v = .str (S (told t))
section
variable {P : Program} {w : World} {K : PySem.W.Frag} {mg : Str → Option Value} {base : Heap} {cs : Cs}
abbrev sLawTold : Stmt := top 86
abbrev nLawTold : List Str := ["_law_pairs", "_law_text_here", "_law_tag", "_law_times_here", "_law_body"]
abbrev pLawTold : List Str := ["_law_pairs"]
theorem scLawTold : FnScope nLawTold pLawTold (defScope sLawTold) := ⟨rfl, rfl, rfl, by decide +kernel, rfl, by decide +kernel, by decide +kernel⟩

theorem c__law_told (D : Dn K mg "_law_told" sLawTold pLawTold) (T : Tx K mg cs) : Cal P w K mg base 1 "_law_told" spTold := by
  refine cal_of D scLawTold (fun vs H Q E h => ?_) (fun f cdv A outer s H vs Q E hr h => ?_)
  · obtain ⟨_, _, _, _, rfl, _⟩ := h
    rfl
  · obtain ⟨Am, F, x, t, rfl, Z, ⟨p, xs, rfl, hp, prd⟩, ok, k⟩ := h
    refine ⟨_, (pss_cons (ps_set (i := 1) scLawTold.nd rfl (Or.inl rfl) pe_str)
      (pss_cons (ps_forG PassesOwn.never rfl (pi_list (pv 0)) (pg_tupK K 2 rfl rfl (pgs_cons (pg_name (i := 2) scLawTold.nd rfl (.inl rfl) (.inr rfl)) (pgs_cons (pg_name (i := 3) scLawTold.nd rfl (.inl rfl) (.inr rfl)) pgs_nil)))
        (pss_cons (ps_set (i := 4) scLawTold.nd rfl (Or.inl rfl) (pe_ifExp (pt_cmpR op_eq (pe_callB call_abs (by rfl) T.n_abs (by decide +kernel) (pa_cons (pv 3) pa_nil)) pe_int (nomark _)) (pv 2) (pe_op op_add_str (pe_op op_add_str (pe_callTy call_str_int (by rfl) T.n_str (by decide +kernel) (pa_cons (pe_callB call_abs (by rfl) T.n_abs (by decide +kernel) (pa_cons (pv 3) pa_nil)) pa_nil)) pe_str) (pv 2))))
      (pss_one (ps_if (pt_cmpR op_eq (pv 1) pe_str (nomark _)) (pss_one (ps_set (i := 1) scLawTold.nd rfl (Or.inl rfl) (pe_ifExp (pt_cmpR op_lt (pv 3) pe_int (nomark _)) (pe_op op_add_str pe_str (pv 4)) (pv 4)))) (pss_one (ps_set (i := 1) scLawTold.nd rfl (Or.inl rfl) (pe_op op_add_str (pe_op op_add_str (pv 1) (pe_ifExp (pt_cmpR op_lt (pv 3) pe_int (nomark _)) pe_str pe_str)) (pv 4))))))))
      (pss_one (ps_ret (pe_ifExp (pt_cmpR op_ne (pv 1) pe_str (nomark _)) (pv 1) pe_str))))), ?_⟩
    rw [lit_e, lit_star, lit_minus, lit_sm, lit_spl, lit_0]
    refine ⟨_, rfl, p, rfl, ⟨_, Z.L hp⟩, ?_⟩
    refine for_at walk_list (fun i σ H' => ∃ (F' : Hp) (m2 m3 m4 : Option V), σ = [some (.ref p), some (.str (S (told0 (t.take i)))), m2, m3, m4] ∧ Gr Am F H F' H') ⟨F, _, _, _, rfl, Gr.refl Z⟩ (fun i σ H' _ ⟨F', _, _, _, _, G⟩ => G.fz.L (G.ff _ _ hp)) ?_ ?_
    · rintro i y σ H1 hi ⟨F1, m2, m3, m4, rfl, G1⟩
      obtain ⟨⟨nm, c⟩, hd, q, a, b, rfl, hq, rfl, rfl⟩ := prd_get prd hi
      have okp := ok.ok _ (List.mem_of_getElem? hd)
      have ln := okN_len okp.nm
      have lb := bodyT_len okp
      have l2 := numL_le okp.bd
      have ll := told0_len (ok.take i)
      have hq1 := G1.fz.T (K := K) (G1.ff _ _ hq)
      have ok1 := ok.take (i + 1)
      have tks := take_snoc hd
      dsimp only at lb l2 ln
      refine ⟨q, _, rfl, hq1, rfl, _, _, rfl, _, _, rfl, rfl, ?_⟩
      dsimp only [tSeq, tAsg, gName]
      refine viaV (t := tIf _ _ _) (.str (S (bodyT (nm, c)))) (fun Q1 hQ => ?_) ?_
      · have eabs : (if c < 0 then -c else c) = ((c.natAbs : Nat) : Int) := by split <;> omega
        refine ⟨_, rfl, _, rfl, ?_⟩
        rw [eabs]
        refine ⟨rfl, _, rfl, ?_⟩
        by_cases c1 : c.natAbs = 1
        · rw [decide_eq_true (by rw [c1]; rfl)]
          have eb : bodyT (nm, c) = nm := by unfold bodyT; rw [if_pos c1]
          rw [eb] at hQ
          exact iteT ⟨_, rfl, hQ⟩
        · rw [decide_eq_false (by intro e; exact c1 (by have := V.int.inj e; omega))]
          have eb : bodyT (nm, c) = TL.numL c.natAbs ++ ([42] ++ nm) := by unfold bodyT; rw [if_neg c1]; simp
          rw [eb] at hQ
          refine iteF ⟨_, rfl, _, rfl, ?_⟩
          rw [eabs]
          refine ⟨_, rfl, natlog okp.bd, ?_⟩
          rw [num_S]
          refine ⟨_, _, rfl, rfl, ?_, _, rfl, _, _, rfl, rfl, ?_, ?_⟩
          · rw [S_length, S_length]; exact sz (by simp; omega)
          · rw [SX.S_cat, S_length, S_length]; exact sz (by simp; omega)
          · rw [SX.S_cat, SX.S_cat, List.append_assoc]
            exact hQ
      refine ⟨_, rfl, rfl, _, rfl, ?_⟩
      rw [eqS]
      by_cases e0 : t.take i = []
      · rw [e0]
        rw [decide_eq_true (by rfl)]
        rw [e0, List.nil_append] at tks
        have fin : ∀ {v : V}, v = .str (S (told0 [(nm, c)])) → ∃ (F' : Hp) (m2 m3 m4 : Option V), [some (V.ref p), some v, some (.str (S nm)), some (.int c), some (.str (S (bodyT (nm, c))))] = [some (.ref p), some (.str (S (told0 (t.take (i + 1))))), m2, m3, m4] ∧ Gr Am F H F' H1 := fun {v} hv => by
          subst hv
          rw [← tks]
          exact ⟨F1, _, _, _, rfl, G1⟩
        refine iteT ⟨_, rfl, _, _, rfl, rfl, _, rfl, ?_⟩
        rw [told0_one] at fin
        refine ite2 (fun hc => ?_) (fun hc => ?_)
        · have hc := of_decide_eq_true hc
          refine ⟨_, rfl, _, _, rfl, rfl, ?_, ?_⟩
          · rw [S_length, S_length]; exact sz (by simp; omega)
          · refine fin ?_
            rw [SX.S_cat, if_pos hc]
        · have hc : ¬ c < 0 := fun z => hc (decide_eq_true z)
          refine ⟨_, rfl, fin ?_⟩
          rw [if_neg hc]; rfl
      · have hne : told0 (t.take i) ≠ [] := told0_ne (ok.take i) e0
        rw [decide_eq_false (by exact hne)]
        have fin : ∀ {v : V}, v = .str (S (told0 (t.take i) ++ ([32, sgnT (nm, c), 32] ++ bodyT (nm, c)))) → ∃ (F' : Hp) (m2 m3 m4 : Option V), [some (V.ref p), some v, some (.str (S nm)), some (.int c), some (.str (S (bodyT (nm, c))))] = [some (.ref p), some (.str (S (told0 (t.take (i + 1))))), m2, m3, m4] ∧ Gr Am F H F' H1 := fun {v} hv => by
          subst hv
          rw [← told0_snoc e0, ← tks]
          exact ⟨F1, _, _, _, rfl, G1⟩
        refine iteF ⟨_, rfl, _, rfl, _, _, rfl, rfl, _, rfl, ?_⟩
        refine ite2 (fun hc => ?_) (fun hc => ?_)
        · have hc := of_decide_eq_true hc
          refine ⟨_, _, rfl, rfl, ?_, _, rfl, _, _, rfl, rfl, ?_, ?_⟩
          · rw [S_length, S_length]; exact sz (by simp; omega)
          · rw [SX.S_cat, S_length, S_length]; exact sz (by simp; omega)
          · refine fin ?_
            rw [SX.S_cat, SX.S_cat]
            simp [sgnT, hc]
        · have hc : ¬ c < 0 := fun z => hc (decide_eq_true z)
          refine ⟨_, _, rfl, rfl, ?_, _, rfl, _, _, rfl, rfl, ?_, ?_⟩
          · rw [S_length, S_length]; exact sz (by simp; omega)
          · rw [SX.S_cat, S_length, S_length]; exact sz (by simp; omega)
          · refine fin ?_
            rw [SX.S_cat, SX.S_cat]
            simp [sgnT, hc]
    · rintro σ H1 ⟨F1, m2, m3, m4, rfl, G1⟩
      rw [List.take_of_length_le (by rw [prd_len prd]; exact Nat.le_refl _)]
      refine ⟨_, rfl, rfl, _, rfl, ?_⟩
      rw [eqS]
      cases t with
      | nil =>
        rw [decide_eq_true (by rfl)]
        exact iteF (k _ _ _ G1 rfl)
      | cons q r =>
        rw [decide_eq_false (by exact told0_ne ok (by simp))]
        exact iteT ⟨_, rfl, k _ _ _ G1 rfl⟩
end
end Rv
end

section
set_option Elab.async false
set_option autoImplicit false
set_option linter.all false
set_option maxRecDepth 100000
set_option maxHeartbeats 4000000
namespace Rv
open PySem L2 PyProof.Rows PySem.Spec
theorem lit_if_ : Str.ofString "if " = S (wIf ++ [32]) := lit (by decide +kernel)
theorem lit_vote_ : Str.ofString "vote " = S (wVote ++ [32]) := lit (by decide +kernel)
theorem lit_tell_ : Str.ofString "tell " = S (wTell ++ [32]) := lit (by decide +kernel)
abbrev spLine : Sp := fun vs H Q _ => ∃ (A : Amb) (F : Hp) (x : V) (s : Stp) (m i : Nat), vs = [x] ∧ Fz A F H ∧ rStepL F x s ∧ OkS m i s ∧ Out A F H Q fun _ _ v => v = .str (S (lineS s))
section
variable {P : Program} {w : World} {K : PySem.W.Frag} {mg : Str → Option Value} {base : Heap} {cs : Cs}
abbrev sLawLine : Stmt := top 87
abbrev nLawLine : List Str := ["_law_step", "_law_one"]
abbrev pLawLine : List Str := ["_law_step"]
theorem scLawLine : FnScope nLawLine pLawLine (defScope sLawLine) := ⟨rfl, rfl, rfl, by decide +kernel, rfl, by decide +kernel, by decide +kernel⟩

theorem c__law_line (D : Dn K mg "_law_line" sLawLine pLawLine) (T : Tx K mg cs) (c__law_told : Cal P w K mg base 1 "_law_told" spTold) : Cal P w K mg base 2 "_law_line" spLine := by
  refine cal_of D scLawLine (fun vs H Q E h => ?_) (fun f cdv A outer s H vs Q E hr h => ?_)
  · obtain ⟨_, _, _, _, _, _, rfl, _⟩ := h
    rfl
  · obtain ⟨Am, F, x, st, m, i, rfl, Z, rs, ok, k⟩ := h
    have tlen : ∀ {t : Tm}, OkT t → (told t).length ≤ 200 := fun h => (told_len h).2
    refine ⟨_, (pss_cons (ps_if (pt_cmpR op_eq (pe_ix (r := rIxT K) ix_tup (pv 0) pe_int (fun _ _ => rfl)) pe_str (nomark _)) (pss_one (ps_ret (pe_op op_add_str (pe_op op_add_str (pe_op op_add_str (pe_op op_add_str (pe_op op_add_str pe_str (pe_c c__law_told hr (by decide) rfl (pa_cons (pe_ix (r := rIxT K) ix_tup (pv 0) pe_int (fun _ _ => rfl)) pa_nil))) pe_str) (pe_c c__law_told hr (by decide) rfl (pa_cons (pe_ix (r := rIxT K) ix_tup (pv 0) pe_int (fun _ _ => rfl)) pa_nil))) pe_str) (pe_callTy call_str_int (by rfl) T.n_str (by decide +kernel) (pa_cons (pe_ix (r := rIxT K) ix_tup (pv 0) pe_int (fun _ _ => rfl)) pa_nil))))) pss_nil)
      (pss_cons (ps_if (pt_cmpR op_eq (pe_ix (r := rIxT K) ix_tup (pv 0) pe_int (fun _ _ => rfl)) pe_str (nomark _)) (pss_one (ps_ret (pe_op op_add_str (pe_op op_add_str (pe_op op_add_str pe_str (pe_callTy call_str_int (by rfl) T.n_str (by decide +kernel) (pa_cons (pe_ix (r := rIxT K) ix_tup (pv 0) pe_int (fun _ _ => rfl)) pa_nil))) pe_str) (pe_join pe_str (pe_lcG (own := [("_law_one", 1)]) rfl scLawLine.nd (pi_list (pe_ix (r := rIxT K) ix_tup (pv 0) pe_int (fun _ _ => rfl))) (blkOk_by (own := [("_law_one", 1)]) (N := nLawLine) (sc := defScope sLawLine) (by decide +kernel)) (fun _ _ _ _ _ => (pg_name (i := 1) scLawLine.nd rfl (.inl rfl) (.inr rfl))) (fun _ _ _ _ _ => pts_nil) (fun _ _ _ _ _ => (pe_c c__law_told hr (by decide) rfl (pa_cons (pv 1) pa_nil)))))))) pss_nil)
      (pss_one (ps_ret (pe_ifExp (pt_cmpR op_eq (pe_ix (r := rIxT K) ix_tup (pv 0) pe_int (fun _ _ => rfl)) pe_str (nomark _)) (pe_op op_add_str pe_str (pe_c c__law_told hr (by decide) rfl (pa_cons (pe_ix (r := rIxT K) ix_tup (pv 0) pe_int (fun _ _ => rfl)) pa_nil))) pe_str))))), ?_⟩
    cases st with
    | iff a b g =>
      obtain ⟨p, x, y, rfl, hp, ra, rb⟩ := rs
      obtain ⟨oa, ob, _, _, hg8⟩ := ok
      have la := tlen oa
      have lb := tlen ob
      refine ⟨_, rfl, p, _, _, _, rfl, rfl, Z.T hp, rfl, rfl, _, rfl, ?_⟩
      rw [decide_eq_true rfl]
      refine iteT ⟨_, rfl, p, _, _, _, rfl, rfl, Z.T hp, rfl, Am, F, x, a, rfl, Z, ra, oa, fun F1 H1 v1 g1 e1 => ?_⟩
      subst e1
      refine ⟨_, _, rfl, rfl, ?_, _, _, rfl, rfl, ?_, _, rfl, p, _, _, _, rfl, rfl, g1.fz.T (g1.ff _ _ hp), rfl, Am, F1, y, b, rfl, g1.fz, MonoR.up g1.ff rb, ob, fun F2 H2 v2 g2 e2 => ?_⟩
      · rw [lit_if_, S_length, S_length]; exact sz (by simp [wIf]; omega)
      · rw [lit_if_, lit__eq_, SX.S_cat, S_length, S_length]; exact sz (by simp [wIf]; omega)
      subst e2
      refine ⟨_, _, rfl, rfl, ?_, _, _, rfl, rfl, ?_, _, rfl, p, _, _, _, rfl, rfl, g2.fz.T ((g1.trans g2).ff _ _ hp), rfl, _, rfl, natlog (by omega), _, _, rfl, rfl, ?_, ?_⟩
      · rw [lit_if_, lit__eq_, SX.S_cat, SX.S_cat, S_length, S_length]; exact sz (by simp [wIf]; omega)
      · rw [lit_if_, lit__eq_, lit__go_, SX.S_cat, SX.S_cat, SX.S_cat, S_length, S_length]; exact sz (by simp [wIf]; omega)
      · rw [str_digit (by omega), lit_if_, lit__eq_, lit__go_, SX.S_cat, SX.S_cat, SX.S_cat, SX.S_cat, S_length, S_length]; exact sz (by simp [wIf]; omega)
      · rw [str_digit (by omega), lit_if_, lit__eq_, lit__go_, SX.S_cat, SX.S_cat, SX.S_cat, SX.S_cat, SX.S_cat]
        refine k _ _ _ (g1.trans g2) ?_
        congr 2
        simp [lineS, restIf]
    | vote h l =>
      obtain ⟨p, x, rfl, hp, q, xs, rfl, hq, prd⟩ := rs
      obtain ⟨h3, l1, l10, lo⟩ := ok
      refine ⟨_, rfl, p, _, _, _, rfl, rfl, Z.T hp, rfl, rfl, _, rfl, ?_⟩
      rw [decide_eq_false (by decide +kernel)]
      refine iteF ⟨_, rfl, p, _, _, _, rfl, rfl, Z.T hp, rfl, rfl, _, rfl, ?_⟩
      rw [decide_eq_true rfl]
      refine iteT ⟨_, rfl, p, _, _, _, rfl, rfl, Z.T hp, rfl, _, rfl, natlog (by omega), ?_⟩
      rw [str_digit (by omega)]
      refine ⟨_, _, rfl, rfl, ?_, _, _, rfl, rfl, ?_, ⟨_, rfl⟩, _, rfl, p, _, _, _, rfl, rfl, Z.T hp, rfl, q, rfl, ⟨_, Z.L hq⟩, ?_⟩
      · rw [lit_vote_, S_length, S_length]; exact sz (by simp [wVote])
      · rw [lit_vote_, lit_colon, SX.S_cat, S_length, S_length]; exact sz (by simp [wVote])
      refine lc_map (ra := rPr) (r := rS) told walk_list Z prd (fun F' H' g => g.fz.L (g.ff _ _ hq)) (by omega) ?_ ?_
      · intro j y t F1 H1 K1 ht G1 rt hK
        exact ⟨rfl, _, rfl, Am, F1, y, t, rfl, G1.fz, rt, lo t (List.mem_of_getElem? ht), fun F2 H2 v g e => hK F2 H2 v g e⟩
      rintro F1 H1 u G1 ⟨_, zs, e, hu, prz⟩
      cases e
      have ez := paired_C prz
      subst ez
      have em : (l.map told).map (fun l => V.str (S l)) = ((l.map told).map S).map V.str := by simp
      rw [em] at hu
      have jl := voteL_len l10 lo
      refine ⟨_, u, _, rfl, rfl, .inl (G1.fz.L hu), ?_, ?_⟩
      · have a := sum_le (l := (l.map told).map S) (c := 200) fun x hx => by
          obtain ⟨y, hy, rfl⟩ := List.mem_map.mp hx
          obtain ⟨t, ht, rfl⟩ := List.mem_map.mp hy
          rw [S_length]
          exact tlen (lo t ht)
        rw [lit_comma, S_length]
        simp only [List.length_map, List.length_cons, List.length_nil] at *
        omega
      · rw [lit_comma, SX.join_S]
        refine ⟨_, _, rfl, rfl, ?_, ?_⟩
        · rw [lit_vote_, lit_colon, SX.S_cat, SX.S_cat, S_length, S_length]; exact sz (by simp [wVote]; omega)
        · rw [lit_vote_, lit_colon, SX.S_cat, SX.S_cat, SX.S_cat]
          refine k _ _ _ G1 ?_
          congr 2
    | tell t =>
      obtain ⟨p, x, rfl, hp, ra⟩ := rs
      refine ⟨_, rfl, p, _, _, _, rfl, rfl, Z.T hp, rfl, rfl, _, rfl, ?_⟩
      rw [decide_eq_false (by decide +kernel)]
      refine iteF ⟨_, rfl, p, _, _, _, rfl, rfl, Z.T hp, rfl, rfl, _, rfl, ?_⟩
      rw [decide_eq_false (by decide +kernel)]
      refine iteF ⟨_, rfl, p, _, _, _, rfl, rfl, Z.T hp, rfl, rfl, _, rfl, ?_⟩
      rw [decide_eq_true rfl]
      refine iteT ⟨_, rfl, p, _, _, _, rfl, rfl, Z.T hp, rfl, Am, F, x, t, rfl, Z, ra, ok, fun F1 H1 v1 g1 e1 => ?_⟩
      subst e1
      have la := tlen (t := t) ok
      refine ⟨_, _, rfl, rfl, ?_, ?_⟩
      · rw [lit_tell_, S_length, S_length]; exact sz (by simp [wTell]; omega)
      · rw [lit_tell_, SX.S_cat]
        refine k _ _ _ g1 ?_
        congr 2
    | dbt =>
      obtain ⟨p, rfl, hp⟩ := rs
      refine ⟨_, rfl, p, _, _, _, rfl, rfl, Z.T hp, rfl, rfl, _, rfl, ?_⟩
      rw [decide_eq_false (by decide +kernel)]
      refine iteF ⟨_, rfl, p, _, _, _, rfl, rfl, Z.T hp, rfl, rfl, _, rfl, ?_⟩
      rw [decide_eq_false (by decide +kernel)]
      refine iteF ⟨_, rfl, p, _, _, _, rfl, rfl, Z.T hp, rfl, rfl, _, rfl, ?_⟩
      rw [decide_eq_false (by decide +kernel)]
      refine iteF ?_
      rw [lit_doubt]
      exact k _ _ _ (Gr.refl Z) rfl
end
end Rv
end

section
set_option Elab.async false
set_option autoImplicit false
set_option linter.all false
set_option maxRecDepth 100000
set_option maxHeartbeats 4000000
namespace Rv
open PySem L2 PyProof.Rows PySem.Spec
theorem bdm {n : Int} (h : n.natAbs < 10000000) : -2 ^ 64 < n ∧ n < 2 ^ 64 := by
  have : (2 : Int) ^ 64 = 18446744073709551616 := by decide
  omega
/-- the law's table: readings by tags -/
structure OkTb (ns : List Tt) (vs : List (Option Int)) : Prop where
  len : ns.length = vs.length
abbrev spWorth : Sp := fun vs H Q _ => ∃ (A : Amb) (F : Hp) (x : V) (d : Addr) (t : Tm) (ns : List Tt) (rd : List (Option Int)), vs = [x, .ref d] ∧ Fz A F H ∧ rPr F x t ∧ F d = some (.dK (kvN ns rd)) ∧ ns.length = rd.length ∧ OkTm ns t ∧ Out A F H Q fun _ _ v => v = oV (worth (tb ns rd) t)
section
variable {P : Program} {w : World} {K : PySem.W.Frag} {mg : Str → Option Value} {base : Heap} {cs : Cs}
abbrev sLawWorth : Stmt := top 88
abbrev nLawWorth : List Str := ["_law_pairs", "_law_table", "_law_tag", "_law_times_here"]
abbrev pLawWorth : List Str := ["_law_pairs", "_law_table"]
theorem scLawWorth : FnScope nLawWorth pLawWorth (defScope sLawWorth) := ⟨rfl, rfl, rfl, by decide +kernel, rfl, by decide +kernel, by decide +kernel⟩

theorem c__law_worth (D : Dn K mg "_law_worth" sLawWorth pLawWorth) (T : Tx K mg cs) : Cal P w K mg base 1 "_law_worth" spWorth := by
  refine cal_of D scLawWorth (fun vs H Q E h => ?_) (fun f cdv A outer s H vs Q E hr h => ?_)
  · obtain ⟨_, _, _, _, _, _, _, rfl, _⟩ := h
    rfl
  · obtain ⟨Am, F, x, d, t, ns, rd, rfl, Z, ⟨p, xs, rfl, hp, prd⟩, hd, hlen, ⟨ok, hin⟩, k⟩ := h
    refine ⟨_, (pss_cons (ps_if (pt_val (pe_callB (cr_any rfl) (by rfl) T.n_any (by decide +kernel) (pa_cons (pe_lcG (own := [("_law_tag", 2), ("_law_times_here", 3)]) rfl scLawWorth.nd (pi_list (pv 0)) (blkOk_by (own := [("_law_tag", 2), ("_law_times_here", 3)]) (N := nLawWorth) (sc := defScope sLawWorth) (by decide +kernel)) (fun _ _ _ _ _ => (pg_tupK K 2 rfl rfl (pgs_cons (pg_name (i := 2) scLawWorth.nd rfl (.inl rfl) (.inr rfl)) (pgs_cons (pg_name (i := 3) scLawWorth.nd rfl (.inl rfl) (.inr rfl)) pgs_nil)))) (fun _ _ _ _ _ => pts_nil) (fun _ _ _ _ _ => (pe_cmpR op_isN (pe_dget (hu_of hr) (pv 1) (pv 2) (fun _ _ => rfl)) pe_non (nomark _)))) pa_nil))) (pss_one (ps_ret pe_non)) pss_nil)
      (pss_one (ps_ret (pe_callB (cr_sum rfl) (by rfl) T.n_sum (by decide +kernel) (pa_cons (pe_lcG (own := [("_law_tag", 2), ("_law_times_here", 3)]) rfl scLawWorth.nd (pi_list (pv 0)) (blkOk_by (own := [("_law_tag", 2), ("_law_times_here", 3)]) (N := nLawWorth) (sc := defScope sLawWorth) (by decide +kernel)) (fun _ _ _ _ _ => (pg_tupK K 2 rfl rfl (pgs_cons (pg_name (i := 2) scLawWorth.nd rfl (.inl rfl) (.inr rfl)) (pgs_cons (pg_name (i := 3) scLawWorth.nd rfl (.inl rfl) (.inr rfl)) pgs_nil)))) (fun _ _ _ _ _ => pts_nil) (fun _ _ _ _ _ => (pe_op op_mul (pv 3) (pe_dget (hu_of hr) (pv 1) (pv 2) (fun _ _ => rfl))))) pa_nil))))), ?_⟩
    have get : ∀ {F' H' : Hp} {nm : Tt}, Gr Am F H F' H' → nm ∈ ns → DGet H' d (.str (S nm)) (some (oV (tb ns rd nm))) := fun {F' H' nm} g hnm => by
      have q := DGet.k (k := Sum.inr (S nm)) (g.fz.sub _ _ (g.ff _ _ hd))
      rw [kvN_get hlen hnm] at q
      exact q
    refine ⟨_, rfl, p, rfl, ⟨_, Z.L hp⟩, ?_⟩
    refine lc_map (ra := rPair) (r := rBl) (fun p => (tb ns rd p.1).isNone) walk_list Z prd (fun F' H' g => g.fz.L (g.ff _ _ hp)) (by have := ok.ln; omega) ?_ ?_
    · rintro i x q F1 H1 K1 hq G1 ⟨a, a1, a2, rfl, ha, rfl, rfl⟩ hK
      have hqm := List.mem_of_getElem? hq
      refine ⟨a, _, rfl, G1.fz.T ha, rfl, _, _, rfl, _, _, rfl, rfl, rfl, _, rfl, _, rfl, d, _, rfl, get G1 (hin q hqm), rfl, ?_⟩
      refine hK _ _ _ (Gr.refl G1.fz) ?_
      show V.bl (decide (oV (tb ns rd q.1) = V.non)) = _
      cases tb ns rd q.1 <;> rfl
    rintro F1 H1 u G1 ⟨_, zs, e, hu, prz⟩
    cases e
    have ez := paired_C prz
    subst ez
    refine ⟨u, _, rfl, G1.fz.L hu, _, rfl, ?_⟩
    have ea : (t.map fun p => (tb ns rd p.1).isNone).any id = t.any fun p => (tb ns rd p.1).isNone := by rw [List.any_map]; rfl
    by_cases c : (t.any fun p => (tb ns rd p.1).isNone) = true
    · refine iteT' (by rw [← c, ← ea]) ?_
      refine k _ _ _ G1 ?_
      unfold worth
      rw [if_pos c]; rfl
    · refine iteF' (fun z => c (by rw [← ea]; exact z)) ?_
      have cn : ∀ p ∈ t, ∃ i, tb ns rd p.1 = some i := fun p hp => by
        cases e : tb ns rd p.1 with
        | some i => exact ⟨i, rfl⟩
        | none => exact absurd (List.any_eq_true.mpr ⟨p, hp, by rw [e]; rfl⟩) c
      refine ⟨_, rfl, p, rfl, ⟨_, G1.fz.L (G1.ff _ _ hp)⟩, ?_⟩
      refine lc_map (ra := rPair) (r := rInt) (fun p => p.2 * (tb ns rd p.1).getD 0) walk_list G1.fz (prd_up G1.ff prd) (fun F' H' g => g.fz.L (g.ff _ _ (G1.ff _ _ hp))) (by have := ok.ln; omega) ?_ ?_
      · rintro i x q F2 H2 K1 hq G2 ⟨a, a1, a2, rfl, ha, rfl, rfl⟩ hK
        have hqm := List.mem_of_getElem? hq
        obtain ⟨vi, hvi⟩ := cn q hqm
        have gq := get (G1.trans G2) (hin q hqm)
        rw [hvi] at gq
        refine ⟨a, _, rfl, G2.fz.T ha, rfl, _, _, rfl, _, _, rfl, rfl, rfl, _, rfl, _, rfl, _, rfl, d, _, rfl, gq, _, _, rfl, rfl, .inl (bdm (ok.ok q hqm).bd), ?_⟩
        exact hK _ _ _ (Gr.refl G2.fz) (by rw [hvi]; rfl)
      rintro F2 H2 u2 G2 ⟨_, zs, e, hu2, prz⟩
      cases e
      have ez := paired_C prz
      subst ez
      refine ⟨u2, _, rfl, G2.fz.L hu2, ?_⟩
      refine k _ _ _ (G1.trans G2) ?_
      unfold worth
      rw [if_neg c]; rfl
end
end Rv
end

section
set_option Elab.async false
set_option autoImplicit false
set_option linter.all false
set_option maxRecDepth 100000
set_option maxHeartbeats 4000000
namespace Rv
open PySem L2 PyProof.Rows PySem.Spec
def lcScope (s : Stmt) (d : Scope) : Scope := match s with
  | .Assign _ (.ListComp _ _ sc _) _ => sc
  | _ => d
abbrev rLen (K : PySem.W.Frag) : List V → Hp → VK → Prop := fun xs H Q => ∃ p ys, xs = [V.ref p] ∧ (SqL K H p ys ∨ SqT K H p ys) ∧ Q (V.int (ys.length : Nat)) H
/-- a comprehension's scope as its env has it -/
def relab (scope outer : Scope) : Scope := { scope with names := scope.names.map fun (n, k) => if (k == .free && outer.kind == .function && outer.names.lookup n == some .cell) then (n, .cell) else (n, k) }
def spkV (ns : List Tt) (rd : List (Option Int)) (l : List Tm) : List Int := (l.map (worth (tb ns rd))).filterMap id
def votedV (ns : List Tt) (rd : List (Option Int)) (h : Nat) (l : List Tm) : List Int := ((spkV ns rd l).filter fun w => decide (((spkV ns rd l).filter fun u => decide (u ≠ w)).length ≤ h)).take 1
abbrev spVoted : Sp := fun vs H Q _ => ∃ (A : Amb) (F : Hp) (x : V) (d : Addr) (h : Nat) (l : List Tm) (ns : List Tt) (rd : List (Option Int)), vs = [.int h, x, .ref d] ∧ Fz A F H ∧ rLst rPr F x l ∧ l.length ≤ 10 ∧ F d = some (.dK (kvN ns rd)) ∧ ns.length = rd.length ∧ (∀ t ∈ l, OkTm ns t) ∧
  Out A F H Q fun F' _ v => rLst rInt F' v (votedV ns rd h l)
theorem cut1 (l : List Int) : cutV (l.map V.int) none (some 1) = (l.take 1).map V.int := by
  cases l with
  | nil => rfl
  | cons a r =>
    unfold cutV
    have h0 : ∀ n : Nat, HT.sIx n 0 none = 0 := fun n => rfl
    rw [h0, List.drop_zero, Nat.sub_zero]
    have h1 : HT.sIx ((a :: r).map V.int).length ((a :: r).map V.int).length (some 1) = 1 := by
      rw [List.length_map]
      unfold HT.sIx
      simp
      try omega
    rw [h1]; rfl
section
variable {P : Program} {w : World} {K : PySem.W.Frag} {mg : Str → Option Value} {base : Heap} {cs : Cs}
abbrev sLawVoted : Stmt := top 89
abbrev nLawVoted : List Str := ["_law_bound", "_law_sums_here", "_law_table", "_law_worths", "_law_speaking", "_law_fit", "_law_one", "_law_worth_here"]
abbrev pLawVoted : List Str := ["_law_bound", "_law_sums_here", "_law_table"]
theorem scLawVoted : FnScope nLawVoted pLawVoted (defScope sLawVoted) := ⟨rfl, rfl, rfl, by decide +kernel, rfl, by decide +kernel, by decide +kernel⟩

theorem c__law_voted (D : Dn K mg "_law_voted" sLawVoted pLawVoted) (T : Tx K mg cs) (c__law_worth : Cal P w K mg base 1 "_law_worth" spWorth) : Cal P w K mg base 2 "_law_voted" spVoted := by
  refine cal_of D scLawVoted (fun vs H Q E h => ?_) (fun f cdv A outer s H vs Q E hr h => ?_)
  · obtain ⟨_, _, _, _, _, _, _, _, rfl, _⟩ := h
    rfl
  · obtain ⟨Am, F, x, d, h, l, ns, rd, rfl, Z, ⟨p, xs, rfl, hp, prd⟩, hl, hd, hlen, hok, k⟩ := h
    refine ⟨_, (pss_cons (ps_setLcG (i := 3) (own := [("_law_one", 6)]) rfl scLawVoted.nd rfl rfl (sw_true rfl rfl rfl (by decide +kernel)) (pi_list (pv 1)) (blkOk_by (own := [("_law_one", 6)]) (N := nLawVoted) (sc := defScope sLawVoted) (by decide +kernel)) (fun _ _ _ _ _ => (pg_name (i := 6) scLawVoted.nd rfl (.inl rfl) (.inr rfl))) (fun _ _ _ _ _ => pts_nil) (fun _ _ _ _ _ => (pe_c c__law_worth hr (by decide) rfl (pa_cons (pv 6) (pa_cons (pv 2) pa_nil)))))
      (pss_cons (ps_set (i := 4) scLawVoted.nd rfl (Or.inr rfl) (pe_lcG (own := [("_law_worth_here", 7)]) rfl scLawVoted.nd (pi_list (pv 3)) (blkOk_by (own := [("_law_worth_here", 7)]) (N := nLawVoted) (sc := defScope sLawVoted) (by decide +kernel)) (fun _ _ _ _ _ => (pg_name (i := 7) scLawVoted.nd rfl (.inl rfl) (.inr rfl))) (fun _ _ _ _ _ => (pts_one (pt_cmpR op_notN (pv 7) pe_non (nomark _)))) (fun _ _ _ _ _ => (pv 7))))
      (pss_cons (ps_setLcG (i := 5) (own := [("_law_worth_here", 7)]) rfl scLawVoted.nd rfl rfl (sw_true rfl rfl rfl (by decide +kernel)) (pi_list (pv 4)) (blkOk_by (own := [("_law_worth_here", 7)]) (N := nLawVoted) (sc := defScope sLawVoted) (by decide +kernel)) (fun _ _ _ _ _ => (pg_name (i := 7) scLawVoted.nd rfl (.inr rfl) (.inl rfl))) (fun _ _ _ _ _ => (pts_one (pt_cmpR op_le (pe_callB (id := "len") (r := rLen K) call_len_seq (by rfl) T.n_len (by decide +kernel) (pa_cons (pe_lcG (wi := iList K (tVar 4)) (own := [("_law_one", 6)]) rfl scLawVoted.nd (pi_list (pv 4)) (blkOk_by (own := [("_law_one", 6)]) (N := nLawVoted) (sc := (relab (lcScope ((defBody sLawVoted).getD 2 (.Pass ⟨0, 0, 0, 0⟩)) (defScope sLawVoted)) (defScope sLawVoted))) (by decide +kernel)) (fun _ _ _ _ _ => (pg_name (i := 6) scLawVoted.nd rfl (.inl rfl) (.inr rfl))) (fun _ _ _ _ _ => (pts_one (pt_cmpR op_ne (pv 6) (pv 7) (nomark _)))) (fun _ _ _ _ _ => (pv 6))) pa_nil)) (pv 0) (nomark _)))) (fun _ _ _ _ _ => (pv 7)))
      (pss_one (ps_ret (pe_slice sl_list (pv 5) po_none (po_some pe_int))))))), ?_⟩
    refine ⟨_, rfl, p, rfl, ⟨_, Z.L hp⟩, ?_⟩
    refine lc_map (ra := rPr) (r := rOI) (worth (tb ns rd)) walk_list Z prd (fun F' H' g => g.fz.L (g.ff _ _ hp)) (by omega) ?_ ?_
    · intro i x t F1 H1 K1 ht G1 rt hK
      exact ⟨rfl, _, rfl, _, rfl, Am, F1, x, d, t, ns, rd, rfl, G1.fz, rt, G1.ff _ _ hd, hlen, hok t (List.mem_of_getElem? ht), fun F2 H2 v g e => hK F2 H2 v g e⟩
    rintro F1 H1 u1 G1 ⟨_, zs, e, hu1, prz⟩
    cases e
    have hzl := prd_len prz
    rw [List.length_map] at hzl
    refine ⟨_, rfl, u1, rfl, ⟨_, G1.fz.L hu1⟩, ?_⟩
    refine lc_any (r := rInt) walk_list G1.fz (fun i => ((l.map (worth (tb ns rd))).take i).filterMap id) rfl (fun i hi => ?_) (fun F' H' g => g.fz.L (g.ff _ _ hu1)) ?_ ?_
    · refine Nat.lt_of_le_of_lt (List.length_filterMap_le ..) ?_
      rw [List.length_take]; omega
    · rintro i x F2 H2 H2' K1 K0 hi G2 ⟨rfl, hx⟩ hK1 hK0
      obtain ⟨o, ho, ro⟩ := prd_get prz hx
      have ro : x = oV o := ro
      subst ro
      have ts := take_snoc ho
      refine ⟨rfl, _, rfl, rfl, _, rfl, ?_⟩
      cases o with
      | none => exact iteF (hK0 _ _ (by rw [ts, List.filterMap_append]; simp) (Gr.refl G2.fz))
      | some z => exact iteT ⟨_, rfl, hK1 _ _ _ z (by rw [ts, List.filterMap_append]; simp) (Gr.refl G2.fz) rfl⟩
    rintro F2 H2 u2 G2 rsp
    rw [List.take_of_length_le (by rw [List.length_map, hzl]; exact Nat.le_refl _)] at rsp
    obtain ⟨_, ws, e, hu2, prw⟩ := rsp
    cases e
    have hwl := prd_len prw
    have hspl : (spkV ns rd l).length ≤ 10 := Nat.le_trans (List.length_filterMap_le ..) (by rw [List.length_map]; exact hl)
    have prw : PySem.Paired (rInt F2) ws (spkV ns rd l) := prw
    have hL : (spkV ns rd l).length = ws.length := (prd_len prw).symm
    refine ⟨_, rfl, u2, rfl, ⟨_, G2.fz.L hu2⟩, ?_⟩
    refine lc_filter (ra := rInt) (r := rInt) (fun w => decide (((spkV ns rd l).filter fun u => decide (u ≠ w)).length ≤ h)) id walk_list G2.fz prw (fun F' H' g => g.fz.L (g.ff _ _ hu2)) (by omega) ?_ ?_
    · rintro i x w F3 H3 K1 K0 hw G3 rfl hK1 hK0
      refine ⟨rfl, ?_⟩
      refine ⟨_, rfl, u2, rfl, ⟨_, G3.fz.L (G3.ff _ _ hu2)⟩, ?_⟩
      refine lc_filter (ra := rInt) (r := rInt) (fun u => decide (u ≠ w)) id walk_list G3.fz (prd_up G3.ff prw) (fun F' H' g => g.fz.L (g.ff _ _ (G3.ff _ _ hu2))) (by omega) ?_ ?_
      · rintro i' x' u F4 H4 J1 J0 hu G4 rfl hJ1 hJ0
        refine ⟨rfl, _, rfl, _, rfl, rfl, _, rfl, ?_⟩
        by_cases e : u = w
        · subst e
          rw [decide_eq_true rfl]
          exact iteF (hJ0 (by simp) _ _ (Gr.refl G4.fz))
        · rw [decide_eq_false (fun z => e (V.int.inj z))]
          exact iteT ⟨_, rfl, hJ1 (by simp [e]) _ _ _ (Gr.refl G4.fz) rfl⟩
      rintro F4 H4 u4 G4 ⟨_, qs, e, hu4, prq⟩
      cases e
      rw [List.map_id] at prq
      have hql := prd_len prq
      refine ⟨u4, _, rfl, .inl (G4.fz.L hu4), _, rfl, _, _, rfl, rfl, _, rfl, ?_⟩
      rw [hql]
      by_cases c : ((spkV ns rd l).filter fun u => decide (u ≠ w)).length ≤ h
      · rw [decide_eq_true (by omega)]
        exact iteT ⟨_, rfl, hK1 (decide_eq_true c) _ _ _ G4 rfl⟩
      · rw [decide_eq_false (by omega)]
        exact iteF (hK0 (decide_eq_false c) _ _ G4)
    rintro F3 H3 u3 G3 ⟨_, qs, e, hu3, prq⟩
    cases e
    rw [List.map_id] at prq
    have eq := paired_C prq
    subst eq
    refine ⟨_, rfl, _, rfl, u3, _, rfl, G3.fz.L hu3, fun r hr => ?_⟩
    have G4 := ((G1.trans G2).trans G3).new (o := .lst (cutV (((spkV ns rd l).filter fun w => decide (((spkV ns rd l).filter fun u => decide (u ≠ w)).length ≤ h)).map V.int) none (some 1))) hr
    refine k _ _ _ G4 ⟨r, _, rfl, upd_same, ?_⟩
    rw [cut1]
    exact paired_of
end
end Rv
end

section
set_option Elab.async false
set_option autoImplicit false
set_option linter.all false
set_option maxRecDepth 100000
set_option maxHeartbeats 4000000
namespace Rv
open PySem L2 PyProof.Rows PySem.Spec
def outW (n : NetD) (rd : List (Option Int)) : Option Tm → Option Int
  | some t => wrt n rd t
  | none => none
theorem outV_eq {n : NetD} {rd : List (Option Int)} {l : List Stp} : outV n rd l = outW n rd (runP n rd l l.length 0) := by
  unfold outV outW
  cases runP n rd l l.length 0 <;> rfl
theorem take1_filter {α : Type} (p : α → Bool) : ∀ l : List α, (l.filter p).take 1 = (l.find? p).toList
  | [] => rfl
  | a :: l => by
    by_cases c : p a = true
    · rw [List.filter_cons_of_pos c, List.find?_cons_of_pos c]; rfl
    · rw [List.filter_cons_of_neg c, List.find?_cons_of_neg c]; exact take1_filter p l
theorem spk_eq {n : NetD} {rd : List (Option Int)} : ∀ ts : List Tm, spkV (n.2.map (·.1)) rd ts = (ts.filter fun t => (wrt n rd t).isSome).map fun t => (wrt n rd t).getD 0
  | [] => rfl
  | t :: ts => by
    have ih := spk_eq (n := n) (rd := rd) ts
    unfold spkV at ih ⊢
    rw [List.map_cons]
    cases e : wrt n rd t with
    | none =>
      rw [List.filterMap_cons_none (by exact e), ih, List.filter_cons_of_neg (by rw [e]; simp)]
    | some i =>
      rw [List.filterMap_cons_some (b := i) (by exact e), ih, List.filter_cons_of_pos (by rw [e]; rfl), List.map_cons, e]; rfl
theorem find_congr {α : Type} {p q : α → Bool} : ∀ {l : List α}, (∀ x ∈ l, p x = q x) → l.find? p = l.find? q
  | [], _ => rfl
  | a :: l, h => by
    have ha := h a (List.mem_cons_self ..)
    have ih := find_congr (p := p) (q := q) (l := l) fun x hx => h x (List.mem_cons_of_mem _ hx)
    rw [List.find?_cons, List.find?_cons, ha, ih]
theorem voted_eq {n : NetD} {rd : List (Option Int)} {h : Nat} (ts : List Tm) : votedV (n.2.map (·.1)) rd h ts = ((voteV n rd h (ts.filter fun t => (wrt n rd t).isSome)).map fun t => (wrt n rd t).getD 0).toList := by
  unfold votedV voteV
  rw [spk_eq]
  generalize hl : (ts.filter fun t => (wrt n rd t).isSome) = l'
  have hs : ∀ t ∈ l', ∃ i, wrt n rd t = some i := fun t ht => by
    rw [← hl] at ht
    exact Option.isSome_iff_exists.mp (List.mem_filter.mp ht).2
  rw [List.filter_map, ← List.map_take, take1_filter]
  have hc : l'.find? ((fun w => decide (((l'.map fun t => (wrt n rd t).getD 0).filter fun u => decide (u ≠ w)).length ≤ h)) ∘ fun t => (wrt n rd t).getD 0) = l'.find? (fitV n rd h l') := find_congr fun t ht => by
    show decide (((l'.map fun t => (wrt n rd t).getD 0).filter fun u => decide (u ≠ (wrt n rd t).getD 0)).length ≤ h) = decide (cntV n rd t l' ≤ h)
    have e : ((l'.map fun t => (wrt n rd t).getD 0).filter fun u => decide (u ≠ (wrt n rd t).getD 0)).length = cntV n rd t l' := by
      unfold cntV
      rw [List.filter_map, List.length_map]
      refine congrArg List.length (List.filter_congr fun u hu => ?_)
      obtain ⟨i, hi⟩ := hs t ht
      obtain ⟨j, hj⟩ := hs u hu
      show decide ((wrt n rd u).getD 0 ≠ (wrt n rd t).getD 0) = decide (wrt n rd t ≠ wrt n rd u)
      rw [hi, hj]
      by_cases q : j = i
      · subst q; simp
      · simp [q, Ne.symm q]
    rw [e]
  rw [hc]
  cases l'.find? (fitV n rd h l') <;> rfl
abbrev spLawRun : Sp := fun vs H Q _ => ∃ (A : Amb) (F : Hp) (x : V) (d : Addr) (n : NetD) (l : List Stp) (rd : List (Option Int)), vs = [x, .ref d] ∧ Fz A F H ∧ rLst rStepL F x l ∧ OkSt l ∧ (∀ s ∈ l, ∀ t ∈ sumsS s, OkTm (n.2.map (·.1)) t) ∧ F d = some (.dK (kvN (n.2.map (·.1)) rd)) ∧ rd.length = n.2.length ∧
  Out A F H Q fun _ _ v => v = oV (outV n rd l)
section
variable {P : Program} {w : World} {K : PySem.W.Frag} {mg : Str → Option Value} {base : Heap} {cs : Cs}
abbrev sLawRun : Stmt := top 90
abbrev nLawRun : List Str := ["_law_steps_here", "_law_table", "_law_k", "_law_turn", "_law_step", "_law_found", "_law_one", "_law_two"]
abbrev pLawRun : List Str := ["_law_steps_here", "_law_table"]
theorem scLawRun : FnScope nLawRun pLawRun (defScope sLawRun) := ⟨rfl, rfl, rfl, by decide +kernel, rfl, by decide +kernel, by decide +kernel⟩

theorem c__law_run (D : Dn K mg "_law_run" sLawRun pLawRun) (T : Tx K mg cs) (c__law_worth : Cal P w K mg base 1 "_law_worth" spWorth) (c__law_voted : Cal P w K mg base 2 "_law_voted" spVoted) : Cal P w K mg base 3 "_law_run" spLawRun := by
  refine cal_of D scLawRun (fun vs H Q E h => ?_) (fun f cdv A outer s H vs Q E hr h => ?_)
  · obtain ⟨_, _, _, _, _, _, _, rfl, _⟩ := h
    rfl
  · obtain ⟨Am, F, x, d, n, l, rd, rfl, Z, ⟨p, xs, rfl, hp, prd⟩, okl, onm, hd, hlen, k⟩ := h
    have hln : (n.2.map (·.1)).length = rd.length := by rw [List.length_map, hlen]
    refine ⟨_, (pss_cons (ps_set (i := 2) scLawRun.nd rfl (Or.inl rfl) pe_int)
      (pss_cons (ps_forG PassesOwn.never rfl (pi_range1 (by rfl) T.n_range (pa_cons (pe_callB call_len_seq (by rfl) T.n_len (by decide +kernel) (pa_cons (pv 0) pa_nil)) pa_nil)) (pg_name (i := 3) scLawRun.nd rfl (.inl rfl) (.inr rfl))
        (pss_cons (ps_set (i := 4) scLawRun.nd rfl (Or.inl rfl) (pe_ix (r := rIxL K) ix_list (pv 0) (pv 2) (fun _ _ => rfl)))
      (pss_cons (ps_if (pt_cmpR op_eq (pe_ix (r := rIxT K) ix_tup (pv 4) pe_int (fun _ _ => rfl)) pe_str (nomark _)) (pss_one (ps_ret pe_non)) pss_nil)
      (pss_cons (ps_if (pt_cmpR op_eq (pe_ix (r := rIxT K) ix_tup (pv 4) pe_int (fun _ _ => rfl)) pe_str (nomark _)) (pss_one (ps_ret (pe_c c__law_worth hr (by decide) rfl (pa_cons (pe_ix (r := rIxT K) ix_tup (pv 4) pe_int (fun _ _ => rfl)) (pa_cons (pv 1) pa_nil))))) pss_nil)
      (pss_one (ps_if (pt_cmpR op_eq (pe_ix (r := rIxT K) ix_tup (pv 4) pe_int (fun _ _ => rfl)) pe_str (nomark _)) (pss_cons (ps_set (i := 5) scLawRun.nd rfl (Or.inl rfl) (pe_c c__law_voted hr (by decide) rfl (pa_cons (pe_ix (r := rIxT K) ix_tup (pv 4) pe_int (fun _ _ => rfl)) (pa_cons (pe_ix (r := rIxT K) ix_tup (pv 4) pe_int (fun _ _ => rfl)) (pa_cons (pv 1) pa_nil)))))
      (pss_cons (ps_if (pt_cmpR (op_neD hr.units) (pv 5) (pe_lst pa_nil) (nomark _)) (pss_one (ps_ret (pe_ix (r := rIxL K) ix_list (pv 5) pe_int (fun _ _ => rfl)))) pss_nil)
      (pss_one (ps_set (i := 2) scLawRun.nd rfl (Or.inl rfl) (pe_op op_add (pv 2) pe_int))))) (pss_cons (ps_par (i := 6) (j := 7) (by rfl) scLawRun.nd rfl rfl (by decide) rfl rfl (pa_cons (pe_c c__law_worth hr (by decide) rfl (pa_cons (pe_ix (r := rIxT K) ix_tup (pv 4) pe_int (fun _ _ => rfl)) (pa_cons (pv 1) pa_nil))) (pa_cons (pe_c c__law_worth hr (by decide) rfl (pa_cons (pe_ix (r := rIxT K) ix_tup (pv 4) pe_int (fun _ _ => rfl)) (pa_cons (pv 1) pa_nil))) pa_nil)) (by rfl))
      (pss_one (ps_set (i := 2) scLawRun.nd rfl (Or.inl rfl) (pe_ifExp (PW.pt (pw_and (pt_cmpR op_notN (pv 6) pe_non (nomark _)) (pw_and1 (pt_cmpR op_eq (pv 6) (pv 7) (nomark _))))) (pe_ix (r := rIxT K) ix_tup (pv 4) pe_int (fun _ _ => rfl)) (pe_op op_add (pv 2) pe_int)))))))))))
      (pss_one (ps_ret pe_non)))), ?_⟩
    have hxl := prd_len prd
    have l2 := okl.l2
    have l1 := okl.l1
    refine ⟨_, rfl, p, _, rfl, .inl (Z.L hp), _, rfl, by omega, by omega, ?_⟩
    refine for_rng (fun i σ H' => ∃ (F' : Hp) (kk : Nat) (m3 m4 m5 m6 m7 : Option V), σ = [some (.ref p), some (.ref d), some (.int kk), m3, m4, m5, m6, m7] ∧ Gr Am F H F' H' ∧ kk < l.length ∧ outW n rd (runP n rd l (l.length - i) kk) = outV n rd l) ⟨F, 0, _, _, _, _, _, rfl, Gr.refl Z, l1, outV_eq.symm⟩ ?_ ?_
    · rintro i σ H1 hi ⟨F1, kk, m3, m4, m5, m6, m7, rfl, G1, hkk, hout⟩
      have hi : i < l.length := by omega
      obtain ⟨g, hg⟩ : ∃ g, l.length - i = g + 1 := ⟨l.length - i - 1, by omega⟩
      have hg2 : l.length - (i + 1) = g := by omega
      rw [hg] at hout
      obtain ⟨st, hst⟩ : ∃ st, l[kk]? = some st := ⟨l[kk], by simp [hkk]⟩
      obtain ⟨xv, hxv, rst0⟩ := prd_get2 prd hst
      have hstm := List.mem_of_getElem? hst
      have rst : rStepL F1 xv st := MonoR.up G1.ff rst0
      have hsum := onm st hstm
      rw [hg2]
      refine ⟨_, rfl, _, rfl, p, _, _, _, rfl, rfl, G1.fz.L (G1.ff _ _ hp), at0 (v := xv) kk rfl hxv, ?_⟩
      unfold runP at hout
      rw [hst] at hout
      have hd1 := G1.ff _ _ hd
      cases st with
      | dbt =>
        obtain ⟨u, rfl, hu⟩ := rst
        refine ⟨_, rfl, u, _, _, _, rfl, rfl, G1.fz.T hu, rfl, rfl, _, rfl, ?_⟩
        rw [decide_eq_true rfl]
        exact iteT (k _ _ _ G1 (by rw [← hout]; rfl))
      | tell t =>
        obtain ⟨u, y, rfl, hu, r1⟩ := rst
        have hU := G1.fz.T (K := K) hu
        refine ⟨_, rfl, u, _, _, _, rfl, rfl, hU, rfl, rfl, _, rfl, ?_⟩
        rw [decide_eq_false (by decide +kernel)]
        refine iteF ⟨_, rfl, u, _, _, _, rfl, rfl, hU, rfl, rfl, _, rfl, ?_⟩
        rw [decide_eq_true rfl]
        refine iteT ⟨_, rfl, u, _, _, _, rfl, rfl, hU, rfl, _, rfl, Am, F1, y, d, t, _, rd, rfl, G1.fz, r1, hd1, hln, hsum t (List.mem_cons_self ..), fun F2 H2 v2 g2 e2 => ?_⟩
        subst e2
        refine k _ _ _ (G1.trans g2) ?_
        rw [← hout]
        show oV (wrt n rd t) = oV (outW n rd (if (wrt n rd t).isNone = true then none else some t))
        cases e : wrt n rd t with
        | none => rfl
        | some i => show _ = oV (wrt n rd t); rw [e]
      | vote h ts =>
        obtain ⟨u, y, rfl, hu, r1⟩ := rst
        have hU := G1.fz.T (K := K) hu
        have hnl := okl.notLast hst rfl
        have hts : ts.length ≤ 10 := by
          obtain ⟨i, q⟩ := okl.mem _ hstm
          exact q.2.2.1
        refine ⟨_, rfl, u, _, _, _, rfl, rfl, hU, rfl, rfl, _, rfl, ?_⟩
        rw [decide_eq_false (by decide +kernel)]
        refine iteF ⟨_, rfl, u, _, _, _, rfl, rfl, hU, rfl, rfl, _, rfl, ?_⟩
        rw [decide_eq_false (by decide +kernel)]
        refine iteF ⟨_, rfl, u, _, _, _, rfl, rfl, hU, rfl, rfl, _, rfl, ?_⟩
        rw [decide_eq_true rfl]
        refine iteT ⟨_, rfl, u, _, _, _, rfl, rfl, hU, rfl, _, rfl, u, _, _, _, rfl, rfl, hU, rfl, _, rfl, Am, F1, y, d, h, ts, _, rd, rfl, G1.fz, r1, hts, hd1, hln, hsum, fun F2 H2 v2 g2 ⟨q, ws, e2, hq, prw⟩ => ?_⟩
        subst e2
        have ew := paired_C prw
        subst ew
        refine ⟨_, rfl, by show 0 ≤ sizeLine; decide, fun e he => ?_⟩
        have g3 := g2.new (o := .lst []) he
        have hq3 := same_new (o := .lst []) (g2.fz.free he) _ _ hq
        rw [voted_eq] at hq3
        dsimp only at hout
        cases ev : voteV n rd h (ts.filter fun t => (wrt n rd t).isSome) with
        | some t =>
          rw [ev] at hq3 hout
          have hm := (List.mem_filter.mp (List.mem_of_find?_eq_some ev)).2
          obtain ⟨i', hi'⟩ := Option.isSome_iff_exists.mp hm
          have hq4 := hq3
          refine ⟨_, _, .lst (g3.fz.L hq3) (.cons (.int _) .nil), .lst (SqL.of upd_same) .nil, rfl, by decide, _, rfl, ?_⟩
          refine iteT ⟨_, rfl, q, _, _, _, rfl, rfl, g3.fz.L hq4, at0 0 rfl rfl, ?_⟩
          refine k _ _ _ (G1.trans g3) ?_
          rw [← hout]
          show V.int ((wrt n rd t).getD 0) = oV (wrt n rd t)
          rw [hi']; rfl
        | none =>
          rw [ev] at hq3 hout
          refine ⟨_, _, .lst (g3.fz.L hq3) .nil, .lst (SqL.of upd_same) .nil, rfl, by decide, _, rfl, ?_⟩
          refine iteF ⟨_, rfl, _, _, rfl, rfl, ?_⟩
          exact ⟨_, kk + 1, _, _, _, _, _, rfl, G1.trans g3, hnl, hout⟩
      | iff a b gg =>
        obtain ⟨u, y1, y2, rfl, hu, r1, r2⟩ := rst
        have hU := G1.fz.T (K := K) hu
        have hnl := okl.notLast hst rfl
        obtain ⟨_, _, hg1', hg2', _⟩ := okl.ok kk _ hst
        refine ⟨_, rfl, u, _, _, _, rfl, rfl, hU, rfl, rfl, _, rfl, ?_⟩
        rw [decide_eq_false (by decide +kernel)]
        refine iteF ⟨_, rfl, u, _, _, _, rfl, rfl, hU, rfl, rfl, _, rfl, ?_⟩
        rw [decide_eq_false (by decide +kernel)]
        refine iteF ⟨_, rfl, u, _, _, _, rfl, rfl, hU, rfl, rfl, _, rfl, ?_⟩
        rw [decide_eq_false (by decide +kernel)]
        refine iteF ⟨_, rfl, u, _, _, _, rfl, rfl, hU, rfl, _, rfl, Am, F1, y1, d, a, _, rd, rfl, G1.fz, r1, hd1, hln, hsum a (List.mem_cons_self ..), fun F2 H2 v2 g2 e2 => ?_⟩
        have e2 : v2 = oV (wrt n rd a) := e2
        generalize hwa : wrt n rd a = wa at e2
        subst e2
        have hU2 := g2.fz.T (K := K) (g2.ff _ _ hu)
        refine ⟨_, rfl, u, _, _, _, rfl, rfl, hU2, rfl, _, rfl, Am, F2, y2, d, b, _, rd, rfl, g2.fz, MonoR.up g2.ff r2, g2.ff _ _ hd1, hln, hsum b (List.mem_cons_of_mem _ (List.mem_cons_self ..)), fun F3 H3 v3 g3 e3 => ?_⟩
        have e3 : v3 = oV (wrt n rd b) := e3
        generalize hwb : wrt n rd b = wb at e3
        subst e3
        have G3 := (G1.trans g2).trans g3
        have hU3 := g3.fz.T (K := K) ((g2.trans g3).ff _ _ hu)
        refine ⟨_, _, rfl, ?_⟩
        dsimp only at hout
        have hout : outW n rd (if (wrt n rd a).isSome = true ∧ wrt n rd a = wrt n rd b then runP n rd l g gg else runP n rd l g (kk + 1)) = outV n rd l := hout
        rw [hwa, hwb] at hout
        refine ⟨_, rfl, rfl, _, rfl, ?_⟩
        cases wa with
        | none =>
          rw [if_neg (by simp)] at hout
          refine iteF ?_
          refine iteF ⟨_, rfl, _, _, rfl, rfl, ?_⟩
          exact ⟨F3, kk + 1, _, _, _, _, _, rfl, G3, hnl, hout⟩
        | some ia =>
          refine iteT ⟨_, rfl, _, rfl, ?_⟩
          refine ⟨by cases wb <;> rfl, _, rfl, ?_⟩
          by_cases e : wb = some ia
          · rw [e, if_pos ⟨rfl, rfl⟩] at hout
            rw [e, decide_eq_true rfl]
            refine iteT ⟨_, rfl, u, _, _, _, rfl, rfl, hU3, rfl, ?_⟩
            exact ⟨F3, gg, _, _, _, _, _, rfl, G3, hg2', hout⟩
          · rw [if_neg (fun z => e z.2.symm)] at hout
            rw [decide_eq_false (fun z => e (by
              cases wb with
              | none => cases z
              | some ib => cases z; rfl))]
            refine iteF ⟨_, rfl, _, _, rfl, rfl, ?_⟩
            exact ⟨F3, kk + 1, _, _, _, _, _, rfl, G3, hnl, hout⟩
    · rintro σ H1 ⟨F1, kk, m3, m4, m5, m6, m7, rfl, G1, hkk, hout⟩
      refine k _ _ _ G1 ?_
      rw [← hout, show l.length - (((xs.length : Nat) : Int)).toNat = 0 by omega]
      rfl
end
end Rv
end

section
set_option Elab.async false
set_option autoImplicit false
set_option linter.all false
set_option maxRecDepth 100000
set_option maxHeartbeats 4000000
namespace Rv
open PySem L2 PyProof.Rows PySem.Spec
theorem cutk (l : List Int) (k : Nat) : cutV (l.map V.int) none (some (k : Int)) = (l.take k).map V.int := by
  unfold cutV
  rw [HT.sIx_nat, HT.sIx_none, List.drop_zero, Nat.sub_zero, List.map_take]
  rw [List.take_eq_take_iff]
  rw [List.length_map]; omega
theorem sqUp {K : PySem.W.Frag} {F H : Hp} {a : Addr} {xs : List V} (h : SqL K F a xs) (e : Same F H) : SqL K H a xs := h.imp (fun r => r.imp (fun z => e _ _ z) (fun ⟨q, z⟩ => ⟨q, e _ _ z⟩)) id
/-- the spring that is made: a new own cell -/
abbrev spSpring (K : PySem.W.Frag) : Sp := fun vs H Q _ => ∃ (A : Amb) (F : Hp) (a : Addr) (ns : List Int) (k : Nat), vs = [.ref a, .int k] ∧ Fz A F H ∧ SqL K F a (ns.map V.int) ∧ k < 5 ∧
  ∀ F' H' sp (s0 s1 s2 : Int), Gr A F H F' H' → H sp = none → F' sp = none → H' sp = some (sprL s0 s1 s2) → 0 ≤ s0 → s0 < 2147483543 → 0 ≤ s1 → Q (.ref sp) H'
section
variable {P : Program} {w : World} {K : PySem.W.Frag} {mg : Str → Option Value} {base : Heap} {cs : Cs}
abbrev sLawSpring : Stmt := top 72
abbrev nLawSpring : List Str := ["_law_script", "_law_k", "_law_cell", "_law_state", "_law_part"]
abbrev pLawSpring : List Str := ["_law_script", "_law_k"]
theorem scLawSpring : FnScope nLawSpring pLawSpring (defScope sLawSpring) := ⟨rfl, rfl, rfl, by decide +kernel, rfl, by decide +kernel, by decide +kernel⟩

theorem c__law_spring (D : Dn K mg "_law_spring" sLawSpring pLawSpring) (T : Tx K mg cs) : Cal P w K mg base 1 "_law_spring" (spSpring K) := by
  refine cal_of D scLawSpring (fun vs H Q E h => ?_) (fun f cdv A outer s H vs Q E hr h => ?_)
  · obtain ⟨_, _, _, _, _, rfl, _⟩ := h
    rfl
  · obtain ⟨Am, F, a, ns, kk, rfl, Z, hs, hk5, k⟩ := h
    refine ⟨_, (pss_cons (ps_set (i := 2) scLawSpring.nd rfl (Or.inl rfl) (pe_ifExp (pt_cmpR op_lt (pv 1) (pe_callB call_len_seq (by rfl) T.n_len (by decide +kernel) (pa_cons (pv 0) pa_nil)) (nomark _)) (pe_callTy call_int1 (by rfl) T.n_int (by decide +kernel) (pa_cons (pe_ix (r := rIxL K) ix_list (pv 0) (pv 1) (fun _ _ => rfl)) pa_nil)) (pe_op op_add (pe_op op_mul pe_int (pv 1)) pe_int)))
      (pss_cons (ps_set (i := 3) scLawSpring.nd rfl (Or.inl rfl) (pe_op op_add pe_int (pe_op op_mul pe_int (pv 1))))
      (pss_cons (ps_forG PassesOwn.never rfl (pi_list (pe_slice sl_list (pv 0) po_none (po_some pe_int))) (pg_name (i := 4) scLawSpring.nd rfl (.inl rfl) (.inr rfl))
        (pss_one (ps_set (i := 3) scLawSpring.nd rfl (Or.inl rfl) (pe_op op_mod (pe_callTy call_int1 (by rfl) T.n_int (by decide +kernel) (pa_cons (pe_op op_add (pe_op op_add (pe_op op_mul (pv 3) pe_int) (pe_op op_mul (pe_callTy call_int1 (by rfl) T.n_int (by decide +kernel) (pa_cons (pv 4) pa_nil)) pe_int)) pe_int) pa_nil)) pe_int))))
      (pss_cons (ps_set (i := 3) scLawSpring.nd rfl (Or.inl rfl) (pe_op op_mod (pe_callTy call_int1 (by rfl) T.n_int (by decide +kernel) (pa_cons (pe_op op_add (pe_op op_add (pe_op op_mul (pv 3) (pv 3)) (pe_op op_mul (pv 2) pe_int)) pe_int) pa_nil)) pe_int))
      (pss_one (ps_ret (pe_lst (pa_cons (pe_op op_mod (pe_callTy call_int1 (by rfl) T.n_int (by decide +kernel) (pa_cons (pe_op op_add (pe_op op_mul (pv 3) pe_int) pe_int) pa_nil)) pe_int) (pa_cons (pe_ifExp (pt_cmpR op_ge (pe_callB call_abs (by rfl) T.n_abs (by decide +kernel) (pa_cons (pv 2) pa_nil)) (pe_op op_pow pe_int pe_int) (nomark _)) (pe_callB call_abs (by rfl) T.n_abs (by decide +kernel) (pa_cons (pv 2) pa_nil)) pe_int) (pa_cons (pv 1) pa_nil)))))))))), ?_⟩
    dsimp only [tSeq, tAsg, gName]
    refine viaP (t := tIf _ _ _) (fun v H' => ∃ c : Int, v = .int c ∧ H' = H) (fun Q1 hQ => ?_) ?_
    · have hs1 := sqUp hs Z.sub
      refine ⟨_, rfl, _, rfl, a, _, rfl, .inl hs1, _, _, rfl, rfl, _, rfl, ?_⟩
      refine ite2 (fun hc => ?_) (fun hc => ?_)
      · have hc := of_decide_eq_true hc
        rw [List.length_map] at hc
        have hc : kk < ns.length := by omega
        exact ⟨_, rfl, _, rfl, a, _, _, _, rfl, rfl, hs1, at0 (v := .int ns[kk]) kk rfl (by simp [hc]), .inl ⟨_, rfl, hQ _ _ ⟨_, rfl, rfl⟩⟩⟩
      · exact ⟨_, rfl, _, _, rfl, rfl, .inl ⟨by decide, by decide⟩, _, _, rfl, rfl, hQ _ _ ⟨_, rfl, rfl⟩⟩
    rintro v H1 ⟨c, rfl, rfl⟩
    have hs1 := sqUp hs Z.sub
    refine ⟨_, rfl, _, _, rfl, rfl, .inl ⟨by decide, by decide⟩, _, _, rfl, rfl, ?_⟩
    refine ⟨_, rfl, _, rfl, a, _, rfl, hs1, fun r hr => ?_⟩
    have ec : cutV (ns.map V.int) none (some 3) = (ns.take 3).map V.int := cutk ns 3
    rw [ec]
    have G1 := (Gr.refl Z).new (o := .lst ((ns.take 3).map V.int)) hr
    refine ⟨r, rfl, ⟨_, SqL.of upd_same⟩, ?_⟩
    refine for_at walk_list (fun i σ H' => ∃ (z : Int) (m4 : Option V), σ = [some (.ref a), some (.int kk), some (.int c), some (.int z), m4] ∧ H' = upd H1 r (.lst ((ns.take 3).map V.int)) ∧ 0 ≤ z ∧ z < 2147483543) ⟨_, _, rfl, rfl, by omega, by omega⟩ (fun i σ H' _ ⟨_, _, _, e, _⟩ => by rw [e]; exact SqL.of upd_same) ?_ ?_
    · rintro i x σ H2 hi ⟨z, m4, rfl, rfl, z0, z1⟩
      rw [List.getElem?_map] at hi
      obtain ⟨y, _, rfl⟩ := Option.map_eq_some_iff.mp hi
      refine ⟨_, rfl, _, _, rfl, rfl, .inr ⟨by decide, by decide⟩, _, rfl, .inl ⟨_, rfl, _, _, rfl, rfl, .inr ⟨by decide, by decide⟩, _, _, rfl, rfl, _, _, rfl, rfl, .inl ⟨_, rfl, _, _, rfl, rfl, (by show (0 : Int) < 2147483543; decide), ?_⟩⟩⟩
      exact ⟨_, _, rfl, rfl, Int.emod_nonneg _ (by decide), Int.emod_lt_of_pos _ (by decide)⟩
    · rintro σ H2 ⟨z, m4, rfl, rfl, z0, z1⟩
      refine ⟨_, rfl, _, rfl, _, _, rfl, rfl, .inl ⟨by omega, by omega⟩, _, rfl, _, _, rfl, rfl, .inr ⟨by decide, by decide⟩, _, _, rfl, rfl, _, _, rfl, rfl, .inl ⟨_, rfl, _, _, rfl, rfl, (by show (0 : Int) < 2147483543; decide), ?_⟩⟩
      refine ⟨_, rfl, _, _, rfl, rfl, .inr ⟨by decide, by decide⟩, _, _, rfl, rfl, .inl ⟨_, rfl, _, _, rfl, rfl, (by show (0 : Int) < 2147483543; decide), ?_⟩⟩
      refine ⟨_, rfl, _, rfl, _, _, rfl, rfl, ⟨by decide, by decide, by decide⟩, _, _, rfl, rfl, _, rfl, ?_⟩
      have hm0 := Int.emod_nonneg ((z * z + c * 7 + 11) % 2147483543 * 40009 + 77) (by decide : (2147483543 : Int) ≠ 0)
      have hm1 := Int.emod_lt_of_pos ((z * z + c * 7 + 11) % 2147483543 * 40009 + 77) (by decide : (0 : Int) < 2147483543)
      refine ite2 (fun hc => ?_) (fun hc => ?_)
      · refine ⟨_, rfl, _, rfl, _, rfl, by show 3 ≤ sizeLine; decide, fun p hp => ?_⟩
        have hp1 := G1.free hp
        refine k _ _ p _ _ _ (G1.own hp) hp1 (G1.fz.free hp) upd_same hm0 hm1 ?_
        split <;> omega
      · refine ⟨_, rfl, by show 3 ≤ sizeLine; decide, fun p hp => ?_⟩
        have hp1 := G1.free hp
        exact k _ _ p _ _ _ (G1.own hp) hp1 (G1.fz.free hp) upd_same hm0 hm1 (by decide)
end
end Rv
end

section
set_option Elab.async false
set_option autoImplicit false
set_option linter.all false
set_option maxRecDepth 100000
set_option maxHeartbeats 4000000
/-! RvLZ: list(zip(l, m)), l and m lists. -/
namespace PySem
open Sem (wp)
/-- the zip behind i turns, its pairs held -/
def ZSt (S z TI TO i1 i2 l1 l2 : Addr) (xs ys : Array Value) (i : Nat) (h : Heap) : Prop := IsPair h TI (.ref i1) (.ref i2) ∧ h.IsListIter i1 l1 i ∧ h.IsListIter i2 l2 i ∧ h.IsList l1 xs ∧ h.IsList l2 ys ∧ (∃ o, h.get? TO = some o) ∧
  ((IsZip h z TI TO .none ∧ ∃ a b, IsPair h TO a b) ∨ ∃ T f oT, IsZipHeld h z TI TO T f ∧ h.get? T = some oT ∧ T ≠ z ∧ T ≠ i1 ∧ T ≠ i2 ∧ T ≠ S)
section
variable {prog : Program} {w : World} {A : Around} {S z TI TO i1 i2 l1 l2 : Addr} {xs ys : Array Value} {i : Nat}
theorem ZSt.item {s : Shared} {Q : Option Value → Shared → Prop} {E : Value → Shared → Prop} (D : ZipApart z TI TO i1 i2 l1 l2) {x y : Value} (hS : S < s.heap.objs.size) (ex : xs[i]? = some x) (ey : ys[i]? = some y) (st : ZSt S z TI TO i1 i2 l1 l2 xs ys i s.heap)
    (hQ : ∀ h', ZSt S z TI TO i1 i2 l1 l2 xs ys (i + 1) h' → IsPair h' s.heap.objs.size x y → (∀ c o, c ≠ z → c ≠ TO → c ≠ i1 → c ≠ i2 → s.heap.get? c = some o → h'.get? c = some o) → Q (some (.ref s.heap.objs.size)) { s with heap := h' }) :
    wpAny (model prog w) A (pyNext (.ref z)) Q E s := by
  obtain ⟨hTI, h1, h2, hl1, hl2, ⟨oTO, hTOo⟩, hz⟩ := st
  have lt : ∀ {c o}, s.heap.get? c = some o → s.heap.objs.size ≠ c := fun e => Nat.ne_of_gt (Heap.lt_size e)
  have n1 : s.heap.objs.size ≠ i1 := let ⟨_, e, _⟩ := h1; lt e
  have n2 : s.heap.objs.size ≠ i2 := let ⟨_, e, _⟩ := h2; lt e
  rcases hz with ⟨hz, a, b, hTO⟩ | ⟨T, f, oT, hz, hT, r1, r2, r3, r4⟩
  · refine wpAny_pyNext_zip_item D hz hTI hTO h1 h2 hl1 hl2 ex ey fun h' a1 a2 a3 a4 a5 a6 hk => ?_
    exact hQ h' ⟨hk _ _ D.TIz D.TITO D.TIi1 D.TIi2 hTI, a3, a4, hl1.at fun o e => hk _ o D.l1z D.l1TO D.l1i1 D.l1i2 e, hl2.at fun o e => hk _ o D.l2z D.l2TO D.l2i1 D.l2i2 e, ⟨_, a2⟩,
      .inr ⟨s.heap.objs.size, false, _, a1, a5, lt hz, n1, n2, Nat.ne_of_gt hS⟩⟩ a5 hk
  · refine wpAny_pyNext_zip_item_held D hz hT hTI h1 h2 hl1 hl2 ex ey fun h' a1 a3 a4 a5 a6 hk => ?_
    exact hQ h' ⟨hk _ _ D.TIz D.TIi1 D.TIi2 hTI, a3, a4, hl1.at fun o e => hk _ o D.l1z D.l1i1 D.l1i2 e, hl2.at fun o e => hk _ o D.l2z D.l2i1 D.l2i2 e, ⟨_, hk _ _ D.TOz D.TOi1 D.TOi2 hTOo⟩,
      .inr ⟨T, true, oT, a1, hk _ _ r1 r2 r3 hT, r1, r2, r3, r4⟩⟩ a5 fun c o c1 _ c3 c4 e => hk c o c1 c3 c4 e
theorem ZSt.done {s : Shared} {Q : Option Value → Shared → Prop} {E : Value → Shared → Prop} (hh : A.handled = none) (D : ZipApart z TI TO i1 i2 l1 l2) (hx : xs.size ≤ i) (st : ZSt S z TI TO i1 i2 l1 l2 xs ys i s.heap)
    (hQ : ∀ h', (∀ c o, c ≠ z → c ≠ TO → c ≠ i1 → c ≠ i2 → s.heap.get? c = some o → h'.get? c = some o) → Q none { s with heap := h' }) : wpAny (model prog w) A (pyNext (.ref z)) Q E s := by
  obtain ⟨hTI, h1, h2, hl1, hl2, ⟨oTO, hTOo⟩, hz⟩ := st
  have hend : xs[i]? = none ∨ ys[i]? = none := .inl (Array.getElem?_eq_none hx)
  rcases hz with ⟨hz, a, b, hTO⟩ | ⟨T, f, oT, hz, hT, r1, r2, r3, r4⟩
  · exact wpAny_pyNext_zip_end hh D hz hTI hTO h1 h2 hl1 hl2 hend hQ
  · exact wpAny_pyNext_zip_end_held hh D hz hT hTI h1 h2 hl1 hl2 hend fun h' hk => hQ h' fun c o c1 _ c3 c4 e => hk c o c1 c3 c4 e
/-- the state stands through changes elsewhere (the pair it holds last among the kept) -/
theorem ZSt.keep {h h' : Heap} (st : ZSt S z TI TO i1 i2 l1 l2 xs ys i h) (hS : S ≠ z ∧ S ≠ TI ∧ S ≠ TO ∧ S ≠ i1 ∧ S ≠ i2 ∧ S ≠ l1 ∧ S ≠ l2) (hk : ∀ b o, b ≠ S → h.get? b = some o → h'.get? b = some o) : ZSt S z TI TO i1 i2 l1 l2 xs ys i h' := by
  obtain ⟨hTI, h1, h2, hl1, hl2, ⟨oTO, hTOo⟩, hz⟩ := st
  obtain ⟨n1, n2, n3, n4, n5, n6, n7⟩ := hS
  refine ⟨hk _ _ n2.symm hTI, h1.at fun o e => hk _ o n4.symm e, h2.at fun o e => hk _ o n5.symm e, hl1.at fun o e => hk _ o n6.symm e, hl2.at fun o e => hk _ o n7.symm e, ⟨_, hk _ _ n3.symm hTOo⟩, ?_⟩
  rcases hz with ⟨hz, a, b, hTO⟩ | ⟨T, f, oT, hz, hT2, r1, r2, r3, r4⟩
  · exact .inl ⟨hk _ _ n1.symm hz, a, b, hk _ _ n3.symm hTO⟩
  · exact .inr ⟨T, f, oT, hk _ _ n1.symm hz, hk _ _ r4 hT2, r1, r2, r3, r4⟩
/-- the pairs made so far -/
def PairsAt (xs ys : Array Value) (ps : List Addr) (h : Heap) : Prop := ∀ (j : Nat) (p : Addr), ps[j]? = some p → ∃ x y, xs[j]? = some x ∧ ys[j]? = some y ∧ IsPair h p x y
abbrev lstO (acc : Array Value) (c : Nat) : Obj := { cls := .type "list", dict := none, data := .seq acc c, slots := #[] }
theorem ext_zip {R : Result → Shared → Prop} (hh : A.handled = none) (D : ZipApart z TI TO i1 i2 l1 l2) (hn : xs.size ≤ sizeLine) (hxy : xs.size = ys.size) (hS : S ≠ z ∧ S ≠ TI ∧ S ≠ TO ∧ S ≠ i1 ∧ S ≠ i2 ∧ S ≠ l1 ∧ S ≠ l2) (res : Value) :
    ∀ (k i : Nat) (s : Shared) (ps : List Addr) (c : Nat), xs.size - i = k → i ≤ xs.size → ZSt S z TI TO i1 i2 l1 l2 xs ys i s.heap → s.heap.get? S = some (lstO (ps.map Value.ref).toArray c) → ps.length = i → PairsAt xs ys ps s.heap → (∀ p ∈ ps, p ≠ z ∧ p ≠ TO ∧ p ≠ i1 ∧ p ≠ i2 ∧ p ≠ S) →
    (∀ h' tk ps' c', h'.get? S = some (lstO (ps'.map Value.ref).toArray c') → ps'.length = xs.size → PairsAt xs ys ps' h' → (∀ b o, b ≠ S → b ≠ z → b ≠ TO → b ≠ i1 → b ≠ i2 → s.heap.get? b = some o → h'.get? b = some o) → R (.ok (.ret res)) { s with heap := h', toks := tk }) →
    codeAny (model prog w) A (.builtin "list.extend.loop" ⟨[.ref S, .ref z, res], []⟩) R s := by
  intro k
  induction k with
  | zero =>
    intro i s ps c hk hi st hSo hlen hp hne hR
    have hin : i = xs.size := by omega
    subst hin
    refine codeAny_builtin F.entry_extend_loop ?_
    rw [Around.under_plainId F.plain_extend_loop _]
    show wpAny _ A.in1 (pyNext (.ref z) >>= _) _ _ s
    refine wpAny_bind (ZSt.done hh D (Nat.le_refl _) st fun h' hk => ?_)
    obtain ⟨n1, n2, n3, n4, n5, n6, n7⟩ := hS
    refine wpAny_pure (hR h' s.toks ps c (hk S _ n1 n3 n4 n5 hSo) hlen (fun j p hj => ?_) fun b o _ b1 b2 b3 b4 e => hk b o b1 b2 b3 b4 e)
    obtain ⟨x, y, e1, e2, e3⟩ := hp j p hj
    obtain ⟨m1, m2, m3, m4, _⟩ := hne p (List.mem_of_getElem? hj)
    exact ⟨x, y, e1, e2, hk p _ m1 m2 m3 m4 e3⟩
  | succ k ih =>
    intro i s ps c hk hi st hSo hlen hp hne hR
    have hlt : i < xs.size := by omega
    have ex := Array.getElem?_eq_getElem hlt
    have ey := Array.getElem?_eq_getElem (xs := ys) (i := i) (by omega)
    obtain ⟨n1, n2, n3, n4, n5, n6, n7⟩ := hS
    refine codeAny_builtin F.entry_extend_loop ?_
    rw [Around.under_plainId F.plain_extend_loop _]
    show wpAny _ A.in1 (pyNext (.ref z) >>= _) _ _ s
    have ltS : S < s.heap.objs.size := Heap.lt_size hSo
    have lt : ∀ {c o}, s.heap.get? c = some o → s.heap.objs.size ≠ c := fun e => Nat.ne_of_gt (Heap.lt_size e)
    have nz : s.heap.objs.size ≠ z ∧ s.heap.objs.size ≠ TO ∧ s.heap.objs.size ≠ i1 ∧ s.heap.objs.size ≠ i2 ∧ s.heap.objs.size ≠ S := by
      obtain ⟨_, ⟨o1, h1, _⟩, ⟨o2, h2, _⟩, _, _, ⟨o3, h3⟩, hz⟩ := st
      rcases hz with ⟨hz, a, b, hTO⟩ | ⟨T, f, oT, hz, hT, _⟩
      · exact ⟨lt hz, lt h3, lt h1, lt h2, Nat.ne_of_gt ltS⟩
      · exact ⟨lt hz, lt h3, lt h1, lt h2, Nat.ne_of_gt ltS⟩
    refine wpAny_bind (ZSt.item D ltS ex ey st fun h' st' hpair hk' => ?_)
    have hS' := hk' S _ n1 n3 n4 n5 hSo
    show wpAny _ A.in1 (updateSeq S (·.push (.ref s.heap.objs.size)) >>= _) _ _ _
    refine wpAny_bind ?_
    have hsz : ((ps.map Value.ref).toArray).size = i := by simp [hlen]
    have hoth : ∀ b o, b ≠ S → h'.get? b = some o → (h'.update S (Obj.mapSeq (·.push (.ref s.heap.objs.size)))).get? b = some o := fun b o hb e => (Heap.get?_update_other _ _ (Ne.symm hb)).trans e
    refine wpAny_updateSeq hS' rfl (wpAny_pure ⟨plainId_quiet F.plain_extend_loop _, ih (i + 1) _ (ps ++ [s.heap.objs.size]) _ (by omega) hlt (st'.keep ⟨n1, n2, n3, n4, n5, n6, n7⟩ hoth) (by rw [Heap.get?_update_self _ hS' rfl]; simp [Obj.mapSeq]; rfl) (by simp [hlen]) (fun j p hj => ?_) (fun p hp' => ?_) fun h'' tk ps' c' q1 q2 q3 q4 => ?_⟩)
      (by rw [hsz]; omega) (by show ((ps.map Value.ref).toArray.push _).size ≤ sizeLine + 1; rw [Array.size_push, hsz]; omega)
    · rcases Nat.lt_or_ge j ps.length with c1 | c1
      · rw [List.getElem?_append_left c1] at hj
        obtain ⟨x, y, e1, e2, e3⟩ := hp j p hj
        obtain ⟨m1, m2, m3, m4, m5⟩ := hne p (List.mem_of_getElem? hj)
        exact ⟨x, y, e1, e2, hoth _ _ m5 (hk' p _ m1 m2 m3 m4 e3)⟩
      · rw [List.getElem?_append_right c1] at hj
        have ej : j - ps.length = 0 := by
          have := (List.getElem?_eq_some_iff.mp hj).1
          simp at this; omega
        rw [ej] at hj
        cases hj
        have : j = i := by omega
        subst this
        exact ⟨_, _, ex, ey, hoth _ _ nz.2.2.2.2 hpair⟩
    · rcases List.mem_append.mp hp' with m | m
      · exact hne p m
      · rw [List.mem_singleton.mp m]; exact nz
    · exact hR h'' tk ps' c' q1 q2 q3 fun b o b0 b1 b2 b3 b4 e => q4 b o b0 b1 b2 b3 b4 (hoth b o b0 (hk' b o b1 b2 b3 b4 e))
end
end PySem
end

section
set_option Elab.async false
set_option autoImplicit false
set_option linter.all false
set_option maxRecDepth 100000
set_option maxHeartbeats 4000000
/-! RvLY: dict(list(zip(l, m))), l and m lists. -/
namespace PySem
open Sem (wp)
theorem zip_no_len : typeLookup (.type "zip") "__len__" = pure none := by rw [typeLookup_type, builtinLookup_eq_fast]; kernel_rfl
theorem zip_no_hint : typeLookup (.type "zip") "__length_hint__" = pure none := by rw [typeLookup_type, builtinLookup_eq_fast]; kernel_rfl
section
variable {prog : Program} {w : World} {A : Around} {S z TI TO i1 i2 l1 l2 : Addr} {xs ys : Array Value}
theorem extw_zip {s : Shared} {R : Result → Shared → Prop} (hh : A.handled = none) (D : ZipApart z TI TO i1 i2 l1 l2) (hn : xs.size ≤ sizeLine) (hxy : xs.size = ys.size) (hS : S ≠ z ∧ S ≠ TI ∧ S ≠ TO ∧ S ≠ i1 ∧ S ≠ i2 ∧ S ≠ l1 ∧ S ≠ l2) (res : Value) {c0 : Nat}
    (hz : IsZip s.heap z TI TO .none) (st : ZSt S z TI TO i1 i2 l1 l2 xs ys 0 s.heap) (hSo : s.heap.get? S = some { cls := .type "list", data := .seq #[] c0 })
    (hR : ∀ h' tk ps' c', h'.get? S = some (lstO (ps'.map Value.ref).toArray c') → ps'.length = xs.size → PairsAt xs ys ps' h' → (∀ b o, b ≠ S → b ≠ z → b ≠ TO → b ≠ i1 → b ≠ i2 → s.heap.get? b = some o → h'.get? b = some o) → R (.ok (.ret res)) { s with heap := h', toks := tk }) :
    wpAny (model prog w) A.in1 (Builtin.List.listExtendWith (.ref S) (.ref z) res)
      (fun fin s' => match fin with | .done f => R (.ok f) s' | .again c' => c'.quiet = true ∧ codeAny (model prog w) A c' R s') (fun e s' => R (.error e) s') s := by
  unfold Builtin.List.listExtendWith
  refine wpAny_bind (wpAny_typeOf (T := "zip") ⟨_, hz, rfl⟩ ?_)
  have h1 : Builtin.List.listSameRef (.ref S) (.ref z) = false := by simp [Builtin.List.listSameRef, hS.1]
  have h2 : (Value.type "zip" == Value.type "list") = false := by decide
  have h3 : (Value.type "zip" == Value.type "tuple") = false := by decide
  simp only [h1, h2, h3, Bool.or_false, Bool.false_eq_true, if_false]
  refine wpAny_bind (wpAny_pyIter_zip hz ?_)
  refine wpAny_bind (wpAny_holding ?_)
  unfold Builtin.List.listLengthHint
  refine wpAny_bind (wpAny_specialOf (T := "zip") ⟨_, hz, rfl⟩ zip_no_len ?_)
  show wpAny _ A.in1 (specialOf (Value.ref z) (Str.ofString "__length_hint__") >>= _) _ _ _
  refine wpAny_bind (wpAny_specialOf (T := "zip") ⟨_, hz, rfl⟩ zip_no_hint ?_)
  refine wpAny_pure ?_
  show wpAny _ A.in1 (rule "list.extend.makes-room" >>= fun _ => Builtin.List.listTouch (.ref S) >>= fun _ =>
    again (.builtin "list.extend.loop" ⟨[.ref S, .ref z, res], []⟩)) _ _ _
  refine wpAny_bind (wpAny_rule ?_)
  refine wpAny_bind ?_
  show wpAny _ A.in1 (updateSeq S (·.push .none) >>= fun _ => updateSeq S (·.pop)) _ _ _
  refine wpAny_bind (wpAny_updateSeq hSo rfl ?_)
  have hS₂ := Heap.get?_update_self (Obj.mapSeq (·.push Value.none)) hSo rfl
  refine wpAny_updateSeq (hz := by seq_fits) hS₂ rfl ?_
  have hS₃ := Heap.get?_update_self (Obj.mapSeq (·.pop)) hS₂ rfl
  have oth : ∀ b o, b ≠ S → s.heap.get? b = some o → ((s.heap.update S (Obj.mapSeq (·.push Value.none))).update S (Obj.mapSeq (·.pop))).get? b = some o :=
    fun b o hb e => (Heap.get?_update_other _ _ (Ne.symm hb)).trans ((Heap.get?_update_other _ _ (Ne.symm hb)).trans e)
  refine wpAny_pure ⟨plainId_quiet F.plain_extend_loop _, ext_zip hh D hn hxy hS res xs.size 0 _ [] _ (by omega) (Nat.zero_le _) (st.keep hS oth) hS₃ rfl (fun j p hj => by simp at hj) (fun p hp => by cases hp) fun h' tk ps' c' q1 q2 q3 q4 => ?_⟩
  exact hR h' tk ps' c' q1 q2 q3 fun b o b0 b1 b2 b3 b4 e => q4 b o b0 b1 b2 b3 b4 (oth b o b0 e)
theorem call_listZip {s : Shared} {E : Value → Shared → Prop} {Q : Value → Shared → Prop} {a b : Value} (hh : A.handled = none) (D : ZipApart z TI TO i1 i2 l1 l2) (hn : xs.size ≤ sizeLine) (hxy : xs.size = ys.size)
    (hz : IsZip s.heap z TI TO .none) (hTI : IsPair s.heap TI (.ref i1) (.ref i2)) (hTO : IsPair s.heap TO a b) (h1 : s.heap.IsListIter i1 l1 0) (h2 : s.heap.IsListIter i2 l2 0) (hl1 : s.heap.IsList l1 xs) (hl2 : s.heap.IsList l2 ys)
    (hQ : ∀ h' tk ps' c', h'.get? s.heap.objs.size = some (lstO (ps'.map Value.ref).toArray c') → ps'.length = xs.size → PairsAt xs ys ps' h' → (∀ b o, b ≠ z → b ≠ TO → b ≠ i1 → b ≠ i2 → s.heap.get? b = some o → h'.get? b = some o) → Q (.ref s.heap.objs.size) { s with heap := h', toks := tk }) :
    wpAny (model prog w) A (call (.type "list") [.ref z]) Q E s := by
  refine callType_codes (Q₁ := fun obj s₁ => obj = .ref s.heap.objs.size ∧ s₁ = { s with heap := s.heap.push { cls := .type "list", data := .seq #[] } }) PySem.F.called_list (PySem.F.typeCall_list_1 _) PySem.F.entry_list_init
    (code_list_new _ ⟨rfl, rfl⟩) fun obj s₁ h₁ => ?_
  obtain ⟨rfl, rfl⟩ := h₁
  have hS : (s.heap.push { cls := .type "list", data := .seq #[] }).get? s.heap.objs.size = some { cls := .type "list", data := .seq #[] } := Heap.get?_push_size _ rfl
  refine ⟨⟨_, hS, rfl⟩, PySem.F.args_list_init_2 _ _, ?_⟩
  have ne : ∀ {c o}, s.heap.get? c = some o → s.heap.objs.size ≠ c := fun e => Nat.ne_of_gt (Heap.lt_size e)
  have hSa : s.heap.objs.size ≠ z ∧ s.heap.objs.size ≠ TI ∧ s.heap.objs.size ≠ TO ∧ s.heap.objs.size ≠ i1 ∧ s.heap.objs.size ≠ i2 ∧ s.heap.objs.size ≠ l1 ∧ s.heap.objs.size ≠ l2 := by
    obtain ⟨_, e1, _⟩ := h1
    obtain ⟨_, e2, _⟩ := h2
    obtain ⟨_, e3, _⟩ := hl1
    obtain ⟨_, e4, _⟩ := hl2
    exact ⟨ne hz, ne hTI, ne hTO, ne e1, ne e2, ne e3, ne e4⟩
  show wpAny _ _ (do let old ← Builtin.List.listItems (.ref s.heap.objs.size); Builtin.List.listUpdate (.ref s.heap.objs.size) (fun _ => #[]); letGo old.toList.reverse; Builtin.List.listExtendWith (.ref s.heap.objs.size) (.ref z) .none) _ _ _
  refine wpAny_bind ?_
  unfold Builtin.List.listItems
  refine wpAny_bind (wpAny_seqItems hS rfl (wpAny_pure ?_))
  show wpAny _ _ (updateSeq s.heap.objs.size (fun _ => #[]) >>= fun _ => letGo (#[] : Array Value).toList.reverse >>= fun _ => Builtin.List.listExtendWith (.ref s.heap.objs.size) (.ref z) .none) _ _ _
  refine wpAny_bind (wpAny_updateSeq hS rfl ?_)
  have hS₂ := Heap.get?_update_self (Obj.mapSeq (fun _ => (#[] : Array Value))) hS rfl
  have oth : ∀ b o, s.heap.get? b = some o → ((s.heap.push { cls := .type "list", data := .seq #[] }).update s.heap.objs.size (Obj.mapSeq (fun _ => (#[] : Array Value)))).get? b = some o :=
    fun b o e => (Heap.get?_update_other _ _ (ne e)).trans (Heap.get?_push_of_some _ e)
  refine wpAny_bind (wpAny_letGo ?_)
  refine extw_zip (A := A.in1) (s := { s with heap := (s.heap.push { cls := .type "list", data := .seq #[] }).update s.heap.objs.size (Obj.mapSeq (fun _ => (#[] : Array Value))) }) hh D hn hxy hSa .none (oth _ _ hz) ⟨oth _ _ hTI, h1.at fun o e => oth _ o e, h2.at fun o e => oth _ o e, hl1.at fun o e => oth _ o e, hl2.at fun o e => oth _ o e, ⟨_, oth _ _ hTO⟩, .inl ⟨oth _ _ hz, a, b, oth _ _ hTO⟩⟩ hS₂ fun h' tk ps' c' q1 q2 q3 q4 => ?_
  exact ⟨rfl, hQ h' tk ps' c' q1 q2 q3 fun b o b1 b2 b3 b4 e => q4 b o (Ne.symm (ne e)) b1 b2 b3 b4 (oth b o e)⟩
end
end PySem
namespace Rv
open PySem PySem.Spec PyProof.Rows L2
/-- dict(list(zip(l, m))) -/
def tDictLZ (K : PySem.W.Frag) (ta : TA) : TE := fun σ H Q => ta σ H fun vs H1 => ∃ (a b : Addr) (ks : List Key) (xs : List V), vs = [.ref a, .ref b] ∧ SqL K H1 a (ks.map kV) ∧ SqL K H1 b xs ∧ ks.length = xs.length ∧
  ∀ p, H1 p = none → Q (.ref p) (upd H1 p (.dK (mergeK [] (ks.zip xs))))
theorem pe_dictLZ {X : Cx} {e e2 : Expr} {ta : TA} {p pos p1 pos1 p2 pos2 : Pos} (hc : X.calm = true) (hg : Gl X "dict") (hm : X.mg "dict" = none) (hg1 : Gl X "list") (hm1 : X.mg "list" = none) (hg2 : Gl X "zip") (hm2 : X.mg "zip" = none) (ha : PA X [e, e2] ta)
    (hs : starEach [e, e2] X.env = (false, eval e X.env) :: starEach [e2] X.env := by rfl) (hpl : (backTo pos2 (starEach [e2] X.env)).any (·.1) = false := by rfl)
    (na1 : starEach [.Call (.Name "zip" p2) [e, e2] [] pos2] X.env = (false, eval (.Call (.Name "zip" p2) [e, e2] [] pos2) X.env) :: starEach [] X.env := by rfl)
    (na : starEach [.Call (.Name "list" p1) [.Call (.Name "zip" p2) [e, e2] [] pos2] [] pos1] X.env = (false, eval (.Call (.Name "list" p1) [.Call (.Name "zip" p2) [e, e2] [] pos2] [] pos1) X.env) :: starEach [] X.env := by rfl) :
    PE X (.Call (.Name "dict" p) [.Call (.Name "list" p1) [.Call (.Name "zip" p2) [e, e2] [] pos2] [] pos1] [] pos) (tDictLZ X.K ta) := by
  refine ⟨fun pins s σ H Q I h => ?_⟩
  refine Call_ (ld_blt I hg hm PyProof.Rows.boot_dict (PyProof.Rows.callWith_type1 (args_cons ?_ na) na))
  refine Call_ (ld_blt I hg1 hm1 PyProof.Rows.boot_list (PyProof.Rows.callWith_type1 (args_cons ?_ na1) na1))
  refine Call_ (ld_blt I hg2 hm2 PyProof.Rows.boot_zip (PyProof.Rows.callWith_type1 (thn (ha.run pos2 pins s σ H _ I h) fun us s1 ⟨vs, H1, I1, r1, q1⟩ => ?_) hs hpl))
  obtain ⟨a, b, ks, xs, ex, hqx, hqy, hl, q⟩ := q1
  subst ex
  cases r1 with
  | cons r rr =>
    cases rr with
    | cons r' rr =>
      cases rr
      cases r
      cases r'
      obtain ⟨its, rv, pl, hz0⟩ := I1.list hqx
      obtain ⟨its2, rv2, pl2, hz2⟩ := I1.list hqy
      have hal : a < s1.heap.objs.size := by obtain ⟨o, ho, _⟩ := pl.isList; exact Heap.lt_size ho
      have hbl : b < s1.heap.objs.size := by obtain ⟨o, ho, _⟩ := pl2.isList; exact Heap.lt_size ho
      have l1 := rv.length
      have l2 := rv2.length
      rw [List.length_map] at l1
      refine zip_begins2 (begins_list a its.toArray) (begins_list b its2.toArray) pl.isList pl2.isList fun h' hz hTI hTO g1 g2 hsz hk => ?_
      refine args_nil ?_
      have D := PySem.W.ktu_apart s1.heap.objs.size a b hal hbl
      have hzs : its.toArray.size ≤ sizeLine := by rw [List.size_toArray, ← l1]; rw [List.length_map] at hz0; exact hz0
      refine call_listZip (s := { s1 with heap := h' }) (I.ok.hd hc) D hzs (by simp; omega) hz hTI hTO ⟨_, g1, rfl, rfl⟩ ⟨_, g2, rfl, rfl⟩ (pl.isList.at fun o e => hk _ o e) (pl2.isList.at fun o e => hk _ o e) fun h2 tk ps c' q1 q2 q3 q4 => ?_
      refine args_nil ?_
      have kp : ∀ b u, s1.heap.get? b = some u → h2.get? b = some u := fun c u e => by
        have hlt := Heap.lt_size e
        exact q4 c u (show c ≠ s1.heap.objs.size + 4 from Nat.ne_of_lt (Nat.lt_of_lt_of_le hlt (Nat.le_add_right _ _))) (show c ≠ s1.heap.objs.size + 3 from Nat.ne_of_lt (Nat.lt_of_lt_of_le hlt (Nat.le_add_right _ _))) (Nat.ne_of_lt hlt) (show c ≠ s1.heap.objs.size + 1 from Nat.ne_of_lt (Nat.lt_of_lt_of_le hlt (Nat.le_add_right _ _))) (hk _ _ e)
      have hle : s1.heap.objs.size ≤ h2.objs.size := by
        have h3 : h'.objs.size < h2.objs.size := Heap.lt_size q1
        omega
      refine L2.call_dict_pairs (s := { s1 with heap := h2, toks := tk }) (prs := ks.zip its2) (I.ok.hd hc) q1 rfl rfl rfl (by rw [List.size_toArray, List.length_map, q2, List.size_toArray, List.length_zip]; omega) (by rw [List.length_zip]; rw [List.length_map] at hz0; omega) (fun j q' ej => ?_) fun h3 tk3 hd3 k3 => ?_
      · obtain ⟨k0, u0⟩ := q'
        rw [List.getElem?_zip_eq_some] at ej
        obtain ⟨e1, e2⟩ := ej
        have hj : j < ps.length := by
          have := (List.getElem?_eq_some_iff.mp e1).1
          rw [q2, List.size_toArray]; omega
        obtain ⟨x, y, ex, ey, hp⟩ := q3 j ps[j] (by simp [hj])
        have ex : its[j]? = some x := by simpa using ex
        have ey : its2[j]? = some y := by simpa using ey
        rw [e2] at ey
        cases ey
        obtain ⟨kk, hkk, rk⟩ := prd_get2 rv ex
        rw [List.getElem?_map, e1] at hkk
        cases hkk
        exact ⟨ps[j], x, by simp [hj], ⟨_, hp, rfl, _, rfl⟩, kV_is (P := X.prog) (w := X.w) rk⟩
      · have hm0 : (h2.objs.size == sysModules) = false := beq_eq_false_iff_ne.mpr (Nat.ne_of_gt (Nat.lt_of_lt_of_le I1.big hle))
        have hz0' : ks.length ≤ sizeLine := by rw [List.length_map] at hz0; exact hz0
        have hlen : (mergeK [] (ks.zip xs)).length ≤ sizeLine := by
          refine Nat.le_trans (length_mergeK (ks.zip xs) []) ?_
          rw [List.length_nil, Nat.zero_add, List.length_zip]
          omega
        exact ⟨.ref h2.objs.size, upd H1 h2.objs.size (.dK (mergeK [] (ks.zip xs))), I1.laid (t' := tk3) (fun b u e => k3 b u (kp b u e)) hle (show ObjOk X.prog X.w _ _ _ (.dK (mergeK [] (ks.zip xs))) from ⟨hlen, hm0, merged [] (ks.zip its2), KV.merge (kv_zip rv2) .nil, hd3⟩), rfl, q _ (I1.hok.fresh hle)⟩
end Rv
end

section
set_option Elab.async false
set_option autoImplicit false
set_option linter.all false
set_option maxRecDepth 100000
set_option maxHeartbeats 4000000
/-! RvRr: repr of a list that reads as data; defs whose caller holds no guards. -/
namespace Rv
open PySem L2 PyProof.Rows PySem.Spec
/-! ### repr -/
structure Shw (d : PyData) : Prop where
  s : d.showable = true
  n : d.hasDict = false
  dp : d.depth ≤ 20
  b : d.leavesShort 100 = true
  w : d.bulk ≤ 100000
theorem call_reprD {X : Cx} (hg : X.A.guards = some []) {j : Nat} (hr : Room j X.A) : CallR X (.builtin "repr") (fun xs H Q => ∃ a d, xs = [.ref a] ∧ Dp X.K H (.ref a) d ∧ Shw d ∧ Q (.str d.shown) H) := by
  intro pins s σ H xs us Q I r h
  obtain ⟨a, d, rfl, hd, sh, q⟩ := h
  obtain ⟨u, rfl, ru⟩ := vals1 r
  obtain ⟨as, r1⟩ := Dp.reads I d _ u hd ru
  obtain rfl : u = Value.ref a := ru
  have hu := hr.un
  have hdp := sh.dp
  have hsz : d.shown.length ≤ sizeLine := by
    have h1 := PyData.shown_le_bulk 100 (by decide) d sh.b
    have h2 := sh.w
    rw [sizeLine_eq]
    omega
  exact repr_of_reads' r1 sh.s (fun h => by rw [sh.n] at h; cases h) hg (by omega) (fun _ _ e => e) (fun h' u tk hk => ⟨.str d.shown, H, I.kept (t' := tk) hk, ⟨u, rfl⟩, q⟩) hsz
/-- an answer -/
def pdO : Option Int → PyData
  | none => .none
  | some i => .int i
def OkA (o : Option Int) : Prop := ∀ i, o = some i → i.natAbs < 10 ^ 50
theorem dp_oV {K : PySem.W.Frag} {H : Hp} {o : Option Int} : Dp K H (oV o) (pdO o) := by
  cases o
  · exact .non
  · exact .int _
theorem dp_oVs {K : PySem.W.Frag} {H : Hp} : ∀ {l : List (Option Int)}, DpAll K H (l.map oV) (l.map pdO)
  | [] => .nil
  | _ :: _ => .cons dp_oV dp_oVs
theorem pow50 : (10 : Nat) ^ 50 < 2 ^ 200 := by decide
theorem okA_log {i : Int} (h : i.natAbs < 10 ^ 50) : i.natAbs.log2 < 1920 := by
  by_cases e : i.natAbs = 0
  · rw [e]; decide
  · have := (Nat.log2_lt e (k := 200)).mpr (Nat.lt_trans h pow50)
    omega
theorem okA_len {i : Int} (h : i.natAbs < 10 ^ 50) : (PyData.shown (.int i)).length ≤ 100 := by
  have h1 := int_text_length_le10 (a := i) (k := 50) (by decide) h
  simp only [PyData.shown]
  show (Str.ofString (toString i)).length ≤ 100
  rw [PySem.ofString_length]
  omega
theorem shwAll_oVs : ∀ {l : List (Option Int)}, (∀ o ∈ l, OkA o) → PyData.showableAll (l.map pdO) = true ∧ PyData.hasDictAll (l.map pdO) = false ∧ PyData.depthAll (l.map pdO) = 0 ∧ PyData.leavesShortAll 100 (l.map pdO) = true ∧ PyData.bulkAll (l.map pdO) = l.length
  | [], _ => ⟨rfl, rfl, rfl, rfl, rfl⟩
  | o :: l, h => by
    obtain ⟨h1, h2, h3, h4, h5⟩ := shwAll_oVs (l := l) fun x hx => h x (List.mem_cons_of_mem _ hx)
    have ho := h o (List.mem_cons_self ..)
    cases o with
    | none => simp [pdO, PyData.showableAll, PyData.showable, PyData.hasDictAll, PyData.hasDict, PyData.depthAll, PyData.depth, PyData.leavesShortAll, PyData.leavesShort, PyData.bulkAll, PyData.bulk, h1, h2, h3, h4, h5]; omega
    | some i =>
      have a := okA_log (ho i rfl)
      have b := okA_len (ho i rfl)
      simp [pdO, PyData.showableAll, PyData.showable, PyData.hasDictAll, PyData.hasDict, PyData.depthAll, PyData.depth, PyData.leavesShortAll, PyData.leavesShort, PyData.bulkAll, PyData.bulk, h1, h2, h3, h4, h5, a, b]; omega
theorem shw_oVs {l : List (Option Int)} (h : ∀ o ∈ l, OkA o) (hl : l.length ≤ 100) : Shw (.list (l.map pdO)) := by
  obtain ⟨h1, h2, h3, h4, h5⟩ := shwAll_oVs h
  exact ⟨by simp only [PyData.showable]; exact h1, by simp only [PyData.hasDict]; exact h2, by simp only [PyData.depth]; omega, by simp only [PyData.leavesShort]; exact h4, by simp only [PyData.bulk]; omega⟩
/-! ### texts -/
theorem leaves_S {l : Tt} (h : ∀ c ∈ l, c < 200) : PyData.leavesShort 100 (.str (S l)) = true := by
  simp only [PyData.leavesShort, List.all_eq_true, decide_eq_true_eq]
  intro c hc
  have hc : c ∈ l := by simpa [S] using hc
  exact Nat.lt_trans (h c hc) (by decide)
theorem bulk_S {l : Tt} : PyData.bulk (.str (S l)) = l.length := by simp [PyData.bulk, S]
theorem shwAll_Ss {c : Nat} : ∀ {l : List Tt}, (∀ t ∈ l, (∀ c ∈ t, c < 200) ∧ t.length ≤ c) → PyData.showableAll (l.map fun t => PyData.str (S t)) = true ∧ PyData.hasDictAll (l.map fun t => PyData.str (S t)) = false ∧ PyData.depthAll (l.map fun t => PyData.str (S t)) = 0 ∧ PyData.leavesShortAll 100 (l.map fun t => PyData.str (S t)) = true ∧ PyData.bulkAll (l.map fun t => PyData.str (S t)) ≤ (c + 1) * l.length
  | [], _ => ⟨rfl, rfl, rfl, rfl, by simp [PyData.bulkAll]⟩
  | o :: l, h => by
    obtain ⟨h1, h2, h3, h4, h5⟩ := shwAll_Ss (l := l) fun x hx => h x (List.mem_cons_of_mem _ hx)
    obtain ⟨ho, hl⟩ := h o (List.mem_cons_self ..)
    have a := leaves_S ho
    have b := bulk_S (l := o)
    refine ⟨by simp [PyData.showableAll, PyData.showable, h1], by simp [PyData.hasDictAll, PyData.hasDict, h2], by simp [PyData.depthAll, PyData.depth, h3], by simp [PyData.leavesShortAll, a, h4], ?_⟩
    simp only [List.map_cons, PyData.bulkAll, b, List.length_cons]
    rw [Nat.mul_add]
    omega
theorem dp_Ss {K : PySem.W.Frag} {H : Hp} : ∀ {l : List Tt}, DpAll K H (l.map fun t => V.str (S t)) (l.map fun t => PyData.str (S t))
  | [] => .nil
  | _ :: _ => .cons (.str _) dp_Ss
/-- a text and a tuple of texts -/
abbrev pdT (t : Tt) (ls : List Tt) : PyData := .list [.str (S t), .tuple (ls.map fun t => PyData.str (S t))]
theorem shw_T {t : Tt} {ls : List Tt} (h1 : ∀ c ∈ t, c < 200) (h2 : t.length ≤ 1000) (h : ∀ t ∈ ls, (∀ c ∈ t, c < 200) ∧ t.length ≤ 3000) (hl : ls.length ≤ 8) : Shw (pdT t ls) := by
  obtain ⟨g1, g2, g3, g4, g5⟩ := shwAll_Ss h
  have a := leaves_S h1
  have b := bulk_S (l := t)
  refine ⟨by simp [PyData.showable, PyData.showableAll, g1], by simp [PyData.hasDict, PyData.hasDictAll, g2], by simp [PyData.depth, PyData.depthAll, g3], by simp [PyData.leavesShort, PyData.leavesShortAll, g4] at a ⊢; exact a, ?_⟩
  simp only [PyData.bulk, PyData.bulkAll] at b ⊢
  have : (3000 + 1) * ls.length ≤ 3001 * 8 := Nat.mul_le_mul_left _ hl
  omega
/-! ### defs whose caller holds no guards -/
structure FnOkG (P : Program) (w : World) (K : PySem.W.Frag) (mg : Str → Option Value) (base : Heap) (k : Nat) (f : Addr) (fd : FuncData) (ps : List Str) (sp : Sp) : Prop where
  len : ∀ vs H Q E, sp vs H Q E → vs.length = ps.length
  run : ∀ (A : Around) (outer : List Env) (s : Shared) (H : Hp) (args : Args) (us : List Value) (vs : List V) (Q : VK) (E : XK), Room k A → A.guards = some [] → Env0 P w K mg base A outer s H →
    BindsTo s fd args (ps.zip us) → Vals vs us → sp vs H Q E → codeAny (model P w) A (.call (.ref f) args) (CR CX0 outer P w H s Q E) s
section
variable {P : Program} {w : World} {K : PySem.W.Frag} {mg : Str → Option Value} {base : Heap}
theorem fn_ofG {k : Nat} {f : Addr} {name qual : Str} {params : Arguments} {body : List Stmt} {scope : Scope} {dV kV doc pm cdv ct oc : Value} {an od : Option Addr}
    {osl : Array (Option Value)} {N ps : List Str} {sp : Sp} (lk : K.lookup f = some ⟨oc, od, .func (PySem.W.fnOf name qual params body scope dV kV doc pm an cdv ct), osl⟩) (hcd : PySem.W.codeIn K cdv qual = true) (S : FnScope N ps scope)
    (len : ∀ vs H Q E, sp vs H Q E → vs.length = ps.length)
    (hbody : ∀ (A : Around) (outer : List Env) (s : Shared) (H : Hp) (vs : List V) (Q : VK) (E : XK), Room k (A.deeper (envOfC qual scope s.heap.objs.size f cdv)) → (A.deeper (envOfC qual scope s.heap.objs.size f cdv)).guards = some [] → sp vs H Q E →
      ∃ t, PSs (cxOf CX0 P w K mg base N qual scope f cdv A outer s H E).nox body t ∧ t { nx := fun _ H' => Q .non H', rt := Q } (start N vs) H) :
    FnOkG P w K mg base (k + 1) f (PySem.W.fnOf name qual params body scope dV kV doc pm an cdv ct) ps sp := by
  refine ⟨len, fun A outer s H args us vs Q E hr hgd e0 hb r hsp => ?_⟩
  have hl := len _ _ _ _ hsp
  have KX : K.In s.heap := e0.mod.kin.keeps fun b o e => (e0.bs b o e).1
  have lim : s.heap.NoLimit := e0.mod.nolimit.keeps fun b o e => (e0.bs b o e).1
  have hkind : ∀ y ∈ ps.zip us, scope.names.lookup y.1 = some .local ∨ (scope.names.lookup y.1 = some .cell ∧ ((cellsFrom (s.heap.objs.size + 1) scope.names []).lookup y.1).isSome = true) := fun ⟨n, v⟩ hy => by
    rcases S.par n (List.of_mem_zip hy).1 with q | q
    · exact .inl q
    · exact .inr ⟨q, PySem.W.cellsFrom_some _ _ _ (.inl q)⟩
  refine codeAny_call_function hr.depth (KX _ _ lk) rfl S.co S.gen rfl (PySem.W.codeRec_of KX hcd) (hb _ _ _ _ ?_)
  refine wpAny_newFunctionEnv_cells S.kind hkind fun env he s1 x => ?_
  subst he
  refine ⟨lim.keeps x.toInCall.keep, codeAny_func ?_⟩
  obtain ⟨t, ht0, hq⟩ := hbody A outer s H vs Q E (hr.deeper _) (show A.guards = some [] from hgd) hsp
  have ht := ht0.nox
  have I : Inv (cxOf CX0 P w K mg base N qual scope f cdv A outer s H E) [] (start N vs) H s1 := inv_start S hr.hd e0 hl r x
  refine wpAny_mono (ht.run [] s1 (start N vs) H _ I hq) (fun fl s' hs => ?_) fun e s' hs => hs
  have fin : ∀ {σ' : L2.St} {H' : Hp} {v : V} {u : Value}, Inv (cxOf CX0 P w K mg base N qual scope f cdv A outer s H E) [] σ' H' s' → RelV v u → Q v H' → CE outer P w H s Q u s' :=
    fun {σ' H' v u} J rv q => ⟨v, H', J.os, J.bare, J.base, J.hok, rv, q⟩
  cases fl with
  | ret u =>
    obtain ⟨v, σ', H', J, rv, q⟩ := hs
    exact fin J rv q
  | next =>
    obtain ⟨σ', H', J, q⟩ := hs
    exact fin (v := V.non) (u := Value.none) J rfl q
  | brk =>
    obtain ⟨_, _, _, q⟩ := hs
    exact False.elim q
  | cont =>
    obtain ⟨_, _, _, q⟩ := hs
    exact False.elim q
end
structure CalG (P : Program) (w : World) (K : PySem.W.Frag) (mg : Str → Option Value) (base : Heap) (k : Nat) (x : Str) (sp : Sp) : Prop where
  ex : ∃ (f : Addr) (fd : FuncData) (ps : List Str), FnOkG P w K mg base k f fd ps sp ∧ mg x = some (.ref f) ∧ PySem.W.keepIn K (.ref f) = true ∧ Binds K fd ps []
theorem calG_of {P : Program} {w : World} {K : PySem.W.Frag} {mg : Str → Option Value} {base : Heap} {x : Str} {st : Stmt} {N ps : List Str} {k : Nat} {sp : Sp} (D : Dn K mg x st ps) (S : FnScope N ps (defScope st)) (len : ∀ vs H Q E, sp vs H Q E → vs.length = ps.length)
    (hbody : ∀ (f : Addr) (cdv : Value) (A : Around) (outer : List Env) (s : Shared) (H : Hp) (vs : List V) (Q : VK) (E : XK), Room k (A.deeper (envOfC x (defScope st) s.heap.objs.size f cdv)) → (A.deeper (envOfC x (defScope st) s.heap.objs.size f cdv)).guards = some [] → sp vs H Q E →
      ∃ t, PSs (cxOf CX0 P w K mg base N x (defScope st) f cdv A outer s H E).nox (defBody st) t ∧ t { nx := fun _ H' => Q .non H', rt := Q } (start N vs) H) : CalG P w K mg base (k + 1) x sp := by
  obtain ⟨f, fd, F, hm, b⟩ := D
  obtain ⟨oc, od, dV, kV, doc, pm, an, cdv, ct, osl, rfl, lk, hcd, _, _⟩ := F.ex
  exact ⟨f, _, ps, fn_ofG lk hcd S len (hbody f cdv), hm, F.kp, b⟩
theorem pe_cG {X : Cx} {k j : Nat} {x : Str} {sp : Sp} {p pos : Pos} {e : Expr} {es : List Expr} {t : TA} (c : CalG X.prog X.w X.K X.mg X.base k x sp) (hgd : X.A.guards = some []) (hr : Room j X.A) (hk : k ≤ j)
    (hg : Gl X x) (ha : PA X (e :: es) t)
    (hdb : (x == ("__debug__" : Str)) = false := by decide) (he : starEach (e :: es) X.env = (false, eval e X.env) :: starEach es X.env := by rfl) (hpl : (backTo pos (starEach es X.env)).any (·.1) = false := by rfl) :
    PE X (.Call (.Name x p) (e :: es) [] pos) (tCl sp t) := by
  obtain ⟨f, fd, ps, F, hm, kp, b⟩ := c.ex
  refine ⟨fun pins s σ H Q I h => ?_⟩
  refine wpAny_Call_Name_kw (ld_glob I hg hm ?_ hdb)
  refine PySem.W.callWith_K (h₀ := X.base) I.ok.mod.kin kp (thn (ha.run pos pins s σ H _ I h) fun us s1 ⟨vs, H1, I1, r, q⟩ => ⟨I1.kIn, ?_⟩) he hpl
  have hl : us.length = ps.length := by rw [← r.length]; exact F.len _ _ _ _ q
  have bb := b s1 us I1.kIn (by simpa using hl)
  rw [List.append_nil] at bb
  refine wpAny_call (codeAny_mono (F.run X.A X.stack s1 H1 ⟨us, []⟩ us vs Q E0 (hr.mono hk) hgd I1.env0 bb r q) fun r s' hq => ?_)
  cases r with
  | error e => exact False.elim hq
  | ok fl =>
    cases fl with
    | ret u => exact I1.after hq
    | next => exact False.elim hq
    | brk => exact False.elim hq
    | cont => exact False.elim hq
end Rv
end

section
set_option Elab.async false
set_option autoImplicit false
set_option linter.all false
set_option maxRecDepth 100000
set_option maxHeartbeats 4000000
/-! RvPl: plain facts for the law's end. -/
namespace Rv
open PySem L2 PyProof.Rows PySem.Spec
theorem mem_joinL {sep : Tt} {c : Nat} : ∀ {l : List Tt}, c ∈ TL.joinL sep l → c ∈ sep ∨ ∃ x ∈ l, c ∈ x
  | [], h => by simp [TL.joinL] at h
  | [x], h => .inr ⟨x, by simp, by simpa [TL.joinL] using h⟩
  | x :: y :: r, h => by
    have h : c ∈ x ++ (sep ++ TL.joinL sep (y :: r)) := h
    rcases List.mem_append.mp h with q | q
    · exact .inr ⟨x, by simp, q⟩
    · rcases List.mem_append.mp q with q | q
      · exact .inl q
      · rcases mem_joinL q with q | ⟨z, hz, q⟩
        · exact .inl q
        · exact .inr ⟨z, List.mem_cons_of_mem _ hz, q⟩
theorem okN_200 {t : Tt} (h : okN t = true) : ∀ c ∈ t, c < 200 := fun c hc => by have := okN_range h c hc; omega
theorem w1 : ∀ c ∈ wPipe, c < 200 := by decide
theorem w2 : ∀ c ∈ wMeter, c < 200 := by decide
theorem w3 : ∀ c ∈ 32 :: wSealed, c < 200 := by decide
theorem lineI_200 {i : Item} (h : OkI i) : ∀ c ∈ lineI i, c < 200 := fun c hc => by
  cases i with
  | inl p =>
    have hc : c ∈ wPipe ++ 32 :: (p.1 ++ 32 :: (p.2.1 ++ 32 :: p.2.2)) := hc
    simp only [List.mem_append, List.mem_cons] at hc
    rcases hc with q | q | q | q | q | q | q
    · exact w1 c q
    · omega
    · exact okN_200 h.a c q
    · omega
    · exact okN_200 h.b c q
    · omega
    · exact okN_200 h.c c q
  | inr m =>
    have hc : c ∈ wMeter ++ 32 :: (m.1 ++ 32 :: (m.2.1 ++ if m.2.2 = true then 32 :: wSealed else [])) := hc
    simp only [List.mem_append, List.mem_cons] at hc
    rcases hc with q | q | q | q | q | q
    · exact w2 c q
    · omega
    · exact okN_200 h.a c q
    · omega
    · exact okN_200 h.b c q
    · split at q
      · exact w3 c q
      · cases q
theorem textN_200 {n : NetD} (h : OkNet n) : ∀ c ∈ textN n, c < 200 := fun c hc => by
  rcases mem_joinL hc with q | ⟨x, hx, q⟩
  · simp at q; omega
  · obtain ⟨i, hi, rfl⟩ := List.mem_map.mp hx
    exact lineI_200 (h.items i hi) c q
theorem rows_200 {l : List Stp} (h : OkSt l) : ∀ t ∈ l.map lineS, (∀ c ∈ t, c < 200) ∧ t.length ≤ 3000 := fun t ht => by
  obtain ⟨s, hs, rfl⟩ := List.mem_map.mp ht
  obtain ⟨i, hi⟩ := h.mem s hs
  exact ⟨fun c hc => Nat.lt_of_le_of_lt (lineS_le hi c hc) (by decide), lineS_len hi⟩
/-! ### the answers are short -/
theorem tb_mem : ∀ {ns : List Tt} {vs : List (Option Int)} {n : Tt} {i : Int}, tb ns vs n = some i → some i ∈ vs
  | [], _, _, _, h => by cases h
  | _ :: _, [], _, _, h => by cases h
  | m :: ns, v :: vs, n, i, h => by
    have h : (if m = n then v else tb ns vs n) = some i := h
    by_cases e : m = n
    · rw [if_pos e] at h; rw [h]; exact List.mem_cons_self ..
    · rw [if_neg e] at h; exact List.mem_cons_of_mem _ (tb_mem h)
theorem sum_bd {f : Tt → Option Int} (hf : ∀ nm i, f nm = some i → Bd (10 ^ 31) i) : ∀ {t : Tm}, (∀ p ∈ t, p.2.natAbs < 10000000) → ((t.map fun p => p.2 * (f p.1).getD 0).sum).natAbs ≤ t.length * (10000000 * 10 ^ 31)
  | [], _ => by simp
  | p :: r, h => by
    have ih := sum_bd hf (t := r) fun q hq => h q (List.mem_cons_of_mem _ hq)
    have hp := h p (List.mem_cons_self ..)
    have hv : ((f p.1).getD 0).natAbs ≤ 10 ^ 31 := by
      cases e : f p.1 with
      | none => simp
      | some i =>
        obtain ⟨a, b⟩ := hf _ _ e
        show i.natAbs ≤ 10 ^ 31
        omega
    have hm : (p.2 * (f p.1).getD 0).natAbs ≤ 10000000 * 10 ^ 31 := by
      rw [Int.natAbs_mul]
      exact Nat.mul_le_mul (Nat.le_of_lt hp) hv
    have ha := Int.natAbs_add_le (p.2 * (f p.1).getD 0) (r.map fun p => p.2 * (f p.1).getD 0).sum
    simp only [List.map_cons, List.sum_cons, List.length_cons]
    rw [Nat.add_mul, Nat.one_mul]
    omega
theorem worth_A {f : Tt → Option Int} {t : Tm} (hf : ∀ nm i, f nm = some i → Bd (10 ^ 31) i) (ht : OkT t) : OkA (worth f t) := fun i h => by
  unfold worth at h
  split at h
  · cases h
  · have e := Option.some.inj h
    subst e
    have a := sum_bd hf (t := t) fun p hp => (ht.ok p hp).bd
    have b := Nat.mul_le_mul_right (10000000 * 10 ^ 31) ht.ln
    have c : 10 * (10000000 * 10 ^ 31) < (10 : Nat) ^ 50 := by decide
    omega
theorem outV_A {n : NetD} {rd : List (Option Int)} {l : List Stp} (hr : ∀ o ∈ rd, OkO o) (ok : OkSt l) : OkA (outV n rd l) := by
  unfold outV
  cases e : runP n rd l l.length 0 with
  | none => exact fun i h => by cases h
  | some t =>
    obtain ⟨s, hs, ht⟩ := runP_mem _ _ e
    exact worth_A (fun nm i h => hr _ (tb_mem h) i rfl) (ok.sums s hs t ht)
theorem netOf_names (d : PlanD) : (netOf d).2.map (·.1) = d.2.2.map (·.1) := by
  show (d.2.2.map _).map _ = _
  rw [List.map_map]
  rfl
end Rv
end

section
set_option Elab.async false
set_option autoImplicit false
set_option linter.all false
set_option maxRecDepth 100000
set_option maxHeartbeats 4000000
namespace Rv
open PySem L2 PyProof.Rows PySem.Spec LamX NdefX
theorem oc_ok {A : Amb} {F H : Hp} {cs : Cs} {P : Addr} {x y : V} {t : Addr} {n : NetD} {ls : List Tt} {l : List Stp} {rd : List (Option Int)} {Q : VK} (Z : Fz A F H) (TA : TabA A P qAsk) (rn : rNet cs F x n) (rr : rRule cs F y (ls, l)) (okw : OkW n rd) (okr : OkRs n.2 rd) (okl : OkSt l) (onm : OkNm l (n.2.map (·.1)))
    (ht : H t = none) (k : ∀ F' H', Gr A F H F' H' → Q (oV (outV n rd l)) H') : spOutcome cs P [x, y, .ref t] (upd H t (.tup (rd.map oV))) Q E0 := by
  have G := (Gr.refl Z).new (o := .tup (rd.map oV)) ht
  exact ⟨A, _, x, y, .ref t, n, ls, l, rd, rfl, G.fz, TA, MonoR.up G.ff rn, MonoR.up G.ff rr, ⟨t, _, rfl, upd_same, paired_of⟩, okw, okr, okl, onm, fun F' H' v g e => by
    subst e
    exact k F' H' (G.trans g)⟩
abbrev spRight (cs : Cs) (P : Addr) : Sp := fun vs H Q _ => ∃ (A : Amb) (F : Hp) (sp : Addr), vs = [.ref sp] ∧ Fz A F H ∧ Spr A sp ∧ TabA A P qAsk ∧ Out A F H Q fun _ _ v => v = .bl true
section
variable {P : Program} {w : World} {K : PySem.W.Frag} {mg : Str → Option Value} {base : Heap} {cs : Cs} {PT : Addr}
abbrev sLawRight : Stmt := top 92
abbrev nLawRight : List Str := ["_law_spring_here", "_law_plan_here", "_law_tags", "_law_rings_here", "_law_steps_here", "_law_grid_here", "_law_lines", "_law_mine", "_law_twin", "_law_turn", "_law_shown", "_law_due", "_law_told_here", "_law_one", "_law_step"]
abbrev pLawRight : List Str := ["_law_spring_here"]
theorem scLawRight : FnScope nLawRight pLawRight (defScope sLawRight) := ⟨rfl, rfl, rfl, by decide +kernel, rfl, by decide +kernel, by decide +kernel⟩

theorem c__law_right (D : Dn K mg "_law_right" sLawRight pLawRight) (T : Tx K mg cs) (c__law_plan : Cal P w K mg base 3 "_law_plan" spPlan) (c__law_rings : Cal P w K mg base 2 "_law_rings" spRings) (c__law_steps : Cal P w K mg base 6 "_law_steps" spSteps) (m_Net_read : Cmt P w K mg base 7 cs.net "read" (spNetRead cs))
    (c__law_grid : Cal P w K mg base 1 "_law_grid" spGrid) (c__law_line : Cal P w K mg base 2 "_law_line" spLine) (k_Rule : Mak P w K mg base 9 "Rule" cs.rule (spRuleInit cs)) (m_Rule_read : Cmt P w K mg base 11 cs.rule "read" (spRuleRead cs)) (c__law_seen : Cal P w K mg base 3 "_law_seen" spSeen) (c__law_flow : Cal P w K mg base 3 "_law_flow" spFlow)
    (c__law_run : Cal P w K mg base 3 "_law_run" spLawRun) (c_outcome : CalO P w K mg base 7 (spOutcome cs PT)) (q_Net_str : Own P w K mg base 4 cs.net "__str__" (spNetStr cs)) (p_Rule_rows : Prp P w K mg base 1 cs.rule "rows" (spRuleRows cs)) : CalG P w K mg base 12 "_law_right" (spRight cs PT) := by
  refine calG_of D scLawRight (fun vs H Q E h => ?_) (fun f cdv A outer s H vs Q E hr hgd h => ?_)
  · obtain ⟨_, _, _, rfl, _⟩ := h
    rfl
  · obtain ⟨Am, F, sp, rfl, Z, S0, TA, k⟩ := h
    refine ⟨_, (pss_cons (ps_set (i := 1) scLawRight.nd rfl (Or.inl rfl) (pe_c c__law_plan hr (by decide) rfl (pa_cons (pv 0) (pa_cons pe_int (pa_cons pe_int pa_nil)))))
      (pss_cons (ps_par (i := 2) (j := 3) (by rfl) scLawRight.nd rfl rfl (by decide) rfl rfl (pa_cons (pe_lcG (own := [("_law_one", 13)]) rfl scLawRight.nd (pi_list (pe_ix (r := rIxL K) ix_list (pv 1) pe_int (fun _ _ => rfl))) (blkOk_by (own := [("_law_one", 13)]) (N := nLawRight) (sc := defScope sLawRight) (by decide +kernel)) (fun _ _ _ _ _ => (pg_name (i := 13) scLawRight.nd rfl (.inl rfl) (.inr rfl))) (fun _ _ _ _ _ => pts_nil) (fun _ _ _ _ _ => (pe_ix (r := rIxT K) ix_tup (pv 13) pe_int (fun _ _ => rfl)))) (pa_cons (pe_c c__law_rings hr (by decide) rfl (pa_cons (pe_ix (r := rIxL K) ix_list (pv 1) pe_int (fun _ _ => rfl)) pa_nil)) pa_nil)) (by rfl))
      (pss_cons (ps_par (i := 4) (j := 5) (by rfl) scLawRight.nd rfl rfl (by decide) rfl rfl (pa_cons (pe_c c__law_steps hr (by decide) rfl (pa_cons (pv 0) (pa_cons (pv 2) (pa_cons pe_int (pa_cons (pe_op op_add (pe_op op_pow pe_int pe_int) pe_int) pa_nil))))) (pa_cons (pe_cm m_Net_read hr (by decide) (pe_gc T.cv_Net) (pa_cons (pe_c c__law_grid hr (by decide) rfl (pa_cons (pv 1) pa_nil)) pa_nil)) pa_nil)) (by rfl))
      (pss_cons (ps_set (i := 6) scLawRight.nd rfl (Or.inl rfl) (pe_callTy call_tuple_of (by rfl) T.n_tuple (by decide +kernel) (pa_cons (pe_lcG (own := [("_law_step", 14)]) rfl scLawRight.nd (pi_list (pv 4)) (blkOk_by (own := [("_law_step", 14)]) (N := nLawRight) (sc := defScope sLawRight) (by decide +kernel)) (fun _ _ _ _ _ => (pg_name (i := 14) scLawRight.nd rfl (.inl rfl) (.inr rfl))) (fun _ _ _ _ _ => pts_nil) (fun _ _ _ _ _ => (pe_c c__law_line hr (by decide) rfl (pa_cons (pv 14) pa_nil)))) pa_nil)))
      (pss_cons (ps_par (i := 7) (j := 8) (by rfl) scLawRight.nd rfl rfl (by decide) rfl rfl (pa_cons (pe_mk k_Rule hr (by decide) rfl (pa_cons (pv 6) pa_nil)) (pa_cons (pe_cm m_Rule_read hr (by decide) (pe_gc T.cv_Rule) (pa_cons (pe_join pe_str (pv 6)) pa_nil)) pa_nil)) (by rfl))
      (pss_cons (ps_forG PassesOwn.never rfl (pi_range1 (by rfl) T.n_range (pa_cons pe_int pa_nil)) (pg_name (i := 9) scLawRight.nd rfl (.inl rfl) (.inr rfl))
        (pss_cons (ps_set (i := 10) scLawRight.nd rfl (Or.inl rfl) (pe_c c__law_seen hr (by decide) rfl (pa_cons (pv 0) (pa_cons (pv 1) (pa_cons (pe_c c__law_flow hr (by decide) rfl (pa_cons (pv 0) (pa_cons (pv 3) (pa_cons (pe_callB call_len_seq (by rfl) T.n_len (by decide +kernel) (pa_cons (pe_ix (r := rIxL K) ix_list (pv 1) pe_int (fun _ _ => rfl)) pa_nil)) pa_nil)))) pa_nil)))))
      (pss_cons (ps_set (i := 11) scLawRight.nd rfl (Or.inl rfl) (pe_c c__law_run hr (by decide) rfl (pa_cons (pv 4) (pa_cons (pe_dictLZ rfl (by rfl) T.n_dict (by rfl) T.n_list (by rfl) T.n_zip (pa_cons (pv 2) (pa_cons (pv 10) pa_nil))) pa_nil))))
      (pss_cons (ps_set (i := 12) scLawRight.nd rfl (Or.inl rfl) (pe_lst (pa_cons (pe_c c_outcome.c hr (by decide) rfl (pa_cons (pv 5) (pa_cons (pv 7) (pa_cons (pe_callTy call_tuple_of (by rfl) T.n_tuple (by decide +kernel) (pa_cons (pv 10) pa_nil)) pa_nil)))) (pa_cons (pe_oK c_outcome.kA hr (by decide) rfl (pk_cons (pv 5) (pk_cons (pv 7) (pk_cons (pe_callTy call_tuple_of (by rfl) T.n_tuple (by decide +kernel) (pa_cons (pv 10) pa_nil)) pk_nil)))) pa_nil))))
      (pss_cons (ps_set (i := 12) scLawRight.nd rfl (Or.inl rfl) (pe_op op_cat (pv 12) (pe_lst (pa_cons (pe_oK c_outcome.kB hr (by decide) rfl (pk_cons (pv 8) (pk_cons (pe_callTy call_tuple_of (by rfl) T.n_tuple (by decide +kernel) (pa_cons (pv 10) pa_nil)) (pk_cons (pv 5) pk_nil)))) (pa_cons (pe_c c_outcome.c hr (by decide) rfl (pa_cons (pv 5) (pa_cons (pv 7) (pa_cons (pe_callTy call_tuple_of (by rfl) T.n_tuple (by decide +kernel) (pa_cons (pv 10) pa_nil)) pa_nil)))) pa_nil)))))
      (pss_one (ps_if (pt_cmpR op_ne (pe_callB (call_reprD hgd hr) (by rfl) T.n_repr (by decide +kernel) (pa_cons (pv 12) pa_nil)) (pe_callB (call_reprD hgd hr) (by rfl) T.n_repr (by decide +kernel) (pa_cons (pe_lst (pa_cons (pv 11) (pa_cons (pv 11) (pa_cons (pv 11) (pa_cons (pv 11) pa_nil))))) pa_nil)) (nomark _)) (pss_one (ps_ret pe_bl)) pss_nil)))))))
      (pss_one (ps_ret (pe_cmpR op_eq (pe_callB (call_reprD hgd hr) (by rfl) T.n_repr (by decide +kernel) (pa_cons (pe_lst (pa_cons (pe_callTy (call_str_own q_Net_str hr (by decide)) (by rfl) T.n_str (by decide +kernel) (pa_cons (pv 5) pa_nil)) (pa_cons (pe_pr p_Rule_rows hr (by decide) (pv 7) rfl) pa_nil))) pa_nil)) (pe_callB (call_reprD hgd hr) (by rfl) T.n_repr (by decide +kernel) (pa_cons (pe_lst (pa_cons (pe_c c__law_grid hr (by decide) rfl (pa_cons (pv 1) pa_nil)) (pa_cons (pv 6) pa_nil))) pa_nil)) (nomark _)))))))))), ?_⟩
    refine ⟨_, rfl, Am, F, sp, rfl, Z, S0, fun F1 H1 v1 g1 ⟨d, rpl, okp⟩ => ?_⟩
    have hD := rpl
    obtain ⟨pp, x1, x2, x3, rfl, hpp, rx1, ⟨q2, ys2, rfl, hq2, pr2⟩, ⟨q3, ys3, rfl, hq3, pr3⟩⟩ := rpl
    have okN' := netOf_ok okp
    have hl2 : ys2.length = d.2.1.length := prd_len pr2
    refine ⟨_, rfl, pp, _, _, _, rfl, rfl, g1.fz.L hpp, rfl, q3, rfl, ⟨_, g1.fz.L hq3⟩, ?_⟩
    refine lc_map (ra := rGauge) (r := rS) (fun t => t.1) walk_list g1.fz pr3 (fun F' H' g => g.fz.L (g.ff _ _ hq3)) (by have := okp.m6; omega) ?_ ?_
    · rintro i x t F2 H2 K1 ht G2 ⟨u, u1, u2, u3, rfl, hu, e1, e2, e3⟩ hK
      exact ⟨rfl, _, rfl, u, _, _, _, rfl, rfl, G2.fz.T hu, rfl, hK _ _ _ (Gr.refl G2.fz) e1⟩
    rintro F2 H2 tp g2 rtags
    have rtags0 := rtags
    refine ⟨_, rfl, pp, _, _, _, rfl, rfl, g2.fz.L (g2.ff _ _ hpp), rfl, Am, F2, .ref q2, d.2.1, rfl, g2.fz, ⟨q2, ys2, rfl, g2.ff _ _ hq2, prd_up g2.ff pr2⟩, okp.p5, fun F3 H3 v3 g3 ⟨rs, rrs, hrs5, hrs⟩ => ?_⟩
    refine ⟨_, _, rfl, ?_⟩
    have otg : OkTg (d.2.2.map fun t => t.1) := ⟨fun t ht => by
      obtain ⟨m, hm, rfl⟩ := List.mem_map.mp ht
      exact (okp.mok m hm).1, by rw [List.length_map]; exact okp.m6⟩
    refine ⟨_, rfl, _, rfl, _, _, rfl, rfl, ⟨by decide, by decide, by decide⟩, _, _, rfl, rfl, Am, F3, sp, .ref tp, _, by rfl, g3.fz, S0, MonoR.up g3.ff rtags, otg, fun F4 H4 v4 g4 ⟨l, ⟨q4, ys4, e4, hq4, pr4⟩, okl, ol⟩ => ?_⟩
    subst e4
    have s14 : Same F1 F4 := (g2.trans (g3.trans g4)).ff
    refine ⟨rfl, _, rfl, Am, F4, .ref pp, d, rfl, g4.fz, MonoR.up s14 hD, okp, fun F5 H5 v5 g5 e5 => ?_⟩
    subst e5
    refine ⟨Am, F5, netOf d, rfl, g5.fz, okN', fun F6 H6 v6 g6 rnet => ?_⟩
    refine ⟨_, _, rfl, ?_⟩
    have g46 := g5.trans g6
    refine ⟨_, rfl, q4, rfl, ⟨_, g6.fz.L (g46.ff _ _ hq4)⟩, ?_⟩
    refine lc_map (ra := rStepL) (r := rS) lineS walk_list g6.fz (prd_up g46.ff pr4) (fun F' H' g => g.fz.L ((g46.trans g).ff _ _ hq4)) (by have := okl.l2; omega) ?_ ?_
    · rintro i x st F7 H7 K1 ht G7 rx hK
      exact ⟨rfl, _, rfl, Am, F7, x, st, _, i, rfl, G7.fz, rx, okl.ok i st ht, fun F' H' v g e => hK F' H' v g e⟩
    rintro F7 H7 p7 g7 ⟨_, ys7, e7, hp7, pr7⟩
    cases e7
    have e7 := paired_C pr7
    subst e7
    refine ⟨p7, _, rfl, .inl ⟨g7.fz.L hp7, fun tl htl => ?_⟩⟩
    have g8 := (Gr.refl g7.fz).new (o := .tup ((l.map lineS).map fun t => V.str (S t))) htl
    have rlines : rTup rS (upd F7 tl (.tup ((l.map lineS).map fun t => V.str (S t)))) (.ref tl) (l.map lineS) := ⟨tl, _, rfl, upd_same, paired_of⟩
    refine ⟨_, rfl, fun x dx hx hd hn => mkRule g8.fz rlines okl hx hd hn fun F9 H9 g9 rmine => ?_⟩
    have hl8 := okl.l2
    have em : (l.map lineS).map (fun t => V.str (S t)) = ((l.map lineS).map S).map V.str := by simp
    refine ⟨rfl, ⟨_, rfl⟩, _, rfl, _, tl, (l.map lineS).map S, rfl, rfl, .inr ?_, ?_, ?_⟩
    · rw [← em]; exact g9.fz.T (g9.ff _ _ upd_same)
    · have a := sum_le (l := (l.map lineS).map S) (c := 3000) fun x hx => by
        obtain ⟨y, hy, rfl⟩ := List.mem_map.mp hx
        rw [S_length]
        exact (rows_200 okl y hy).2
      rw [lit_nl, S_length]
      simp only [List.length_map, List.length_cons, List.length_nil] at *
      omega
    rw [lit_nl, SX.join_S]
    refine ⟨Am, F9, l, rfl, g9.fz, okl, fun F10 H10 v10 g10 rtwin => ?_⟩
    refine ⟨_, _, rfl, ?_⟩
    have G10 : Gr Am F H F10 H10 := g1.trans ((g2.trans (g3.trans g4)).trans (g46.trans (g7.trans (g8.trans (g9.trans g10)))))
    have s1_10 : Same F1 F10 := (s14.trans g46.ff).trans (g7.trans (g8.trans (g9.trans g10))).ff
    have rnet10 := MonoR.up (g7.trans (g8.trans (g9.trans g10))).ff rnet
    have rmine10 := MonoR.up g10.ff rmine
    have rsteps : rLst rStepL F10 (.ref q4) l := ⟨q4, ys4, rfl, (g46.trans (g7.trans (g8.trans (g9.trans g10)))).ff _ _ hq4, prd_up (g46.trans (g7.trans (g8.trans (g9.trans g10)))).ff pr4⟩
    have rrs10 := MonoR.up (g4.trans (g46.trans (g7.trans (g8.trans (g9.trans g10))))).ff rrs
    have rtags10 := MonoR.up (g3.trans (g4.trans (g46.trans (g7.trans (g8.trans (g9.trans g10)))))).ff rtags
    have hD10 := MonoR.up s1_10 hD
    have rlines10 := MonoR.up (g9.trans g10).ff rlines
    have hpp10 := s1_10 _ _ hpp
    have hq210 := s1_10 _ _ hq2
    have enm := netOf_names d
    have ndt : (d.2.2.map fun t => t.1).Nodup := okp.mnd
    have onm : OkNm l ((netOf d).2.map (·.1)) := fun s hs t ht => by
      rw [enm]
      exact ⟨(ol s hs t ht).1.ln, (ol s hs t ht).2⟩
    refine ⟨_, rfl, by decide, by decide, ?_⟩
    refine for_rng (fun i σ H' => ∃ (F' : Hp) (m9 m10 m11 m12 m13 m14 : Option V), σ = [some (.ref sp), some (.ref pp), some (.ref tp), some v3, some (.ref q4), some v6, some (.ref tl), some (.ref x), some v10, m9, m10, m11, m12, m13, m14] ∧ Gr Am F H F' H' ∧ Same F10 F') ⟨F10, _, _, _, _, _, _, rfl, G10, Same.refl _⟩ ?_ ?_
    · rintro i σ H11 hi ⟨F11, m9, m10, m11, m12, m13, m14, rfl, G11, s11⟩
      refine ⟨_, rfl, _, rfl, _, rfl, _, rfl, _, rfl, pp, _, _, _, rfl, rfl, G11.fz.L (s11 _ _ hpp10), rfl, q2, _, rfl, .inl (G11.fz.L (s11 _ _ hq210)), Am, F11, sp, v3, rs, d.2.1.length, by rw [hl2], G11.fz, S0, MonoR.up s11 rrs10, hrs5, okp.p5, hrs, fun F12 H12 v12 g12 ⟨fl, rfl12, hfl, hbd⟩ => ?_⟩
      refine ⟨Am, F12, sp, .ref pp, v12, d, fl, rfl, g12.fz, S0, MonoR.up (s11.trans g12.ff) hD10, rfl12, fun m hm => by rw [hfl]; exact (okp.mok m hm).2, okp.m6, hbd, fun F13 H13 v13 g13 ⟨rd, ⟨p13, ys13, e13, hp13, pr13⟩, hrl, hsil, hOk⟩ => ?_⟩
      subst e13
      have e13 := paired_C pr13
      subst e13
      have s13 : Same F10 F13 := s11.trans (g12.trans g13).ff
      have okw : OkW (netOf d) rd := ⟨okN'.ms.l2, by rw [enm]; exact ndt, by rw [hrl]; exact (List.length_map ..).symm⟩
      have okr : OkRs (netOf d).2 rd := ⟨okw.len, fun i m o hm ho e => by
        have hm : (d.2.2.map fun m => (m.1, (d.2.1.getD m.2.1 ([], 0, 0)).1, m.2.2))[i]? = some m := hm
        rw [List.getElem?_map] at hm
        obtain ⟨m0, hm0, rfl⟩ := Option.map_eq_some_iff.mp hm
        exact hsil i m0 o hm0 ho e⟩
      obtain ⟨_, yst, et, hpt, prt⟩ := rtags10
      cases et
      have et := paired_C prt
      subst et
      have ek : (((d.2.2.map fun t => t.1).map fun n => (Sum.inr (S n) : Key)).map kV) = (d.2.2.map fun t => t.1).map fun t => V.str (S t) := by rw [List.map_map]; rfl
      have ed : mergeK [] ((((d.2.2.map fun t => t.1).map fun n => (Sum.inr (S n) : Key))).zip (rd.map oV)) = kvN ((netOf d).2.map (·.1)) rd := by
        rw [kvN_eq, merge_kvN ndt, enm]
      refine ⟨_, rfl, _, rfl, _, rfl, tp, p13, ((d.2.2.map fun t => t.1).map fun n => (Sum.inr (S n) : Key)), rd.map oV, rfl, by rw [ek]; exact g13.fz.L (s13 _ _ hpt), g13.fz.L hp13, by simp [hrl], fun dp hdp => ?_⟩
      rw [ed]
      have g14 := g13.new (o := .dK (kvN ((netOf d).2.map (·.1)) rd)) hdp
      have h14 : Same F13 _ := same_new (o := .dK (kvN ((netOf d).2.map (·.1)) rd)) (g13.fz.free hdp)
      refine ⟨Am, _, .ref q4, dp, netOf d, l, rd, rfl, g14.fz, MonoR.up (s13.trans h14) rsteps, okl, fun s hs t ht => by rw [enm]; exact ol s hs t ht, upd_same, okw.len, fun F15 H15 v15 g15 e15 => ?_⟩
      subst e15
      have oA := outV_A hOk okl (n := netOf d)
      have s15 : Same F13 F15 := h14.trans g15.ff
      have s10_15 := s13.trans s15
      have hp15 := s15 _ _ hp13
      refine ⟨_, rfl, _, rfl, _, rfl, p13, _, rfl, .inl ⟨g15.fz.L hp15, fun t1 ht1 => ?_⟩⟩
      refine oc_ok g15.fz TA (MonoR.up s10_15 rnet10) (MonoR.up s10_15 rmine10) okw okr okl onm ht1 fun F16 H16 g16 => ?_
      refine ⟨_, rfl, _, rfl, _, rfl, p13, _, rfl, .inl ⟨g16.fz.L (g16.ff _ _ hp15), fun t2 ht2 => ?_⟩⟩
      refine oc_ok g16.fz TA (MonoR.up (s10_15.trans g16.ff) rnet10) (MonoR.up (s10_15.trans g16.ff) rmine10) okw okr okl onm ht2 fun F17 H17 g17 => ?_
      have g1517 := g16.trans g17
      have h17 := g1517.ff _ _ hp15
      have s10_17 := s10_15.trans g1517.ff
      refine ⟨by show 2 ≤ sizeLine; decide, fun a1 ha1 => ?_⟩
      have g18 := (Gr.refl g17.fz).new (o := .lst [oV (outV (netOf d) rd l), oV (outV (netOf d) rd l)]) ha1
      have s10_18 := s10_17.trans g18.ff
      refine ⟨_, rfl, _, rfl, _, rfl, p13, _, rfl, .inl ⟨g18.fz.L (g18.ff _ _ h17), fun t3 ht3 => ?_⟩⟩
      refine ⟨_, rfl, ?_⟩
      refine oc_ok g18.fz TA (MonoR.up s10_18 rnet10) (MonoR.up s10_18 rtwin) okw okr okl onm ht3 fun F19 H19 g19 => ?_
      refine ⟨_, rfl, _, rfl, _, rfl, p13, _, rfl, .inl ⟨g19.fz.L ((g18.trans g19).ff _ _ h17), fun t4 ht4 => ?_⟩⟩
      refine oc_ok g19.fz TA (MonoR.up (s10_18.trans g19.ff) rnet10) (MonoR.up (s10_18.trans g19.ff) rmine10) okw okr okl onm ht4 fun F20 H20 g20 => ?_
      have g1820 := g19.trans g20
      have ha1' : F20 a1 = some (.lst [oV (outV (netOf d) rd l), oV (outV (netOf d) rd l)]) := g1820.ff _ _ upd_same
      refine ⟨by show 2 ≤ sizeLine; decide, fun a2 ha2 => ?_⟩
      have g21 := (Gr.refl g20.fz).new (o := .lst [oV (outV (netOf d) rd l), oV (outV (netOf d) rd l)]) ha2
      refine ⟨a1, a2, _, _, rfl, rfl, g21.fz.sub _ _ (g21.ff _ _ ha1'), upd_same, by show 4 ≤ sizeLine; decide, fun a3 ha3 => ?_⟩
      have g22 := g21.new (o := .lst ([oV (outV (netOf d) rd l), oV (outV (netOf d) rd l)] ++ [oV (outV (netOf d) rd l), oV (outV (netOf d) rd l)])) ha3
      have hdp4 : ∀ {F' H' : Hp} {a : Addr}, Fz Am F' H' → F' a = some (.lst ([oV (outV (netOf d) rd l), oV (outV (netOf d) rd l)] ++ [oV (outV (netOf d) rd l), oV (outV (netOf d) rd l)])) → Dp K H' (.ref a) (.list ([outV (netOf d) rd l, outV (netOf d) rd l, outV (netOf d) rd l, outV (netOf d) rd l].map pdO)) := fun z h => .lst (z.L h) (dp_oVs (l := [outV (netOf d) rd l, outV (netOf d) rd l, outV (netOf d) rd l, outV (netOf d) rd l]))
      have hsh : Shw (.list ([outV (netOf d) rd l, outV (netOf d) rd l, outV (netOf d) rd l, outV (netOf d) rd l].map pdO)) := shw_oVs (fun o ho => by
        simp only [List.mem_cons, List.not_mem_nil, or_false] at ho
        rcases ho with e | e | e | e <;> rw [e] <;> exact oA) (by show 4 ≤ 100; decide)
      refine ⟨_, rfl, a3, _, rfl, hdp4 g22.fz upd_same, hsh, ?_⟩
      refine ⟨_, rfl, _, rfl, _, rfl, _, rfl, by show 4 ≤ sizeLine; decide, fun a4 ha4 => ?_⟩
      have g23 := g22.new (o := .lst ([oV (outV (netOf d) rd l), oV (outV (netOf d) rd l)] ++ [oV (outV (netOf d) rd l), oV (outV (netOf d) rd l)])) ha4
      refine ⟨a4, _, rfl, hdp4 g23.fz upd_same, hsh, ?_⟩
      refine ⟨rfl, _, rfl, ?_⟩
      rw [decide_eq_true rfl]
      refine iteF ?_
      exact ⟨_, _, _, _, _, _, _, rfl, ((((G11.trans g12).trans g14).trans g15).trans g1517).trans (g18.trans (g1820.trans g23)), s10_18.trans (g1820.ff.trans g23.ff)⟩
    · rintro σ H11 ⟨F11, m9, m10, m11, m12, m13, m14, rfl, G11, s11⟩
      obtain ⟨pn, dxn, jn, fn', e6, hpn, rn1, rn2⟩ := rnet10
      subst e6
      obtain ⟨xm, dxm, ja, jb, em', hxm, rm1, rm2⟩ := rmine10
      cases em'
      refine ⟨_, rfl, pn, dxn, _, rfl, G11.fz.sub _ _ (s11 _ _ hpn), Am, F11, .ref pn, netOf d, rfl, G11.fz, MonoR.up s11 ⟨pn, dxn, jn, fn', rfl, hpn, rn1, rn2⟩, okN', fun F12 H12 v12 g12 e12 => ⟨_, e12, ?_⟩⟩
      have s12 := s11.trans g12.ff
      refine ⟨_, rfl, x, dxm, _, rfl, g12.fz.sub _ _ (s12 _ _ hxm), Am, F12, .ref x, (l.map lineS, l), rfl, g12.fz, MonoR.up s12 ⟨x, dxm, ja, jb, rfl, hxm, rm1, rm2⟩, fun F13 H13 v13 g13 ⟨p13, ys13, e13, hp13, pr13⟩ => ?_⟩
      subst e13
      have e13 := paired_C pr13
      subst e13
      refine ⟨by show 2 ≤ sizeLine; decide, fun a1 ha1 => ?_⟩
      have g14 := (Gr.refl g13.fz).new (o := .lst [.str (S (textN (netOf d))), .ref p13]) ha1
      have hsh : Shw (pdT (textN (netOf d)) (l.map lineS)) := shw_T (textN_200 okN') okN'.tlen (rows_200 okl) (by rw [List.length_map]; exact okl.l2)
      refine ⟨a1, pdT (textN (netOf d)) (l.map lineS), rfl, .lst (g14.fz.L upd_same) (.cons (.str _) (.cons (.tup (g14.fz.T (g14.ff _ _ hp13)) dp_Ss) .nil)), hsh, ?_⟩
      have s14' := (s12.trans g13.ff).trans g14.ff
      refine ⟨_, rfl, Am, _, .ref pp, d, rfl, g14.fz, MonoR.up s14' hD10, okp, fun F15 H15 v15 g15 e15 => ?_⟩
      subst e15
      refine ⟨_, rfl, by show 2 ≤ sizeLine; decide, fun a2 ha2 => ?_⟩
      have g16 := (Gr.refl g15.fz).new (o := .lst [.str (S (textN (netOf d))), .ref tl]) ha2
      obtain ⟨_, ysl, el, hpl, prl⟩ := rlines10
      cases el
      have el := paired_C prl
      subst el
      refine ⟨a2, pdT (textN (netOf d)) (l.map lineS), rfl, .lst (g16.fz.L upd_same) (.cons (.str _) (.cons (.tup (g16.fz.T (g16.ff _ _ (g15.ff _ _ (s14' _ _ hpl)))) dp_Ss) .nil)), hsh, ?_⟩
      refine ⟨rfl, ?_⟩
      rw [decide_eq_true rfl]
      exact k _ _ _ (((G11.trans g12).trans g13).trans (g14.trans (g15.trans g16))) rfl
end
end Rv
end

section
set_option Elab.async false
set_option autoImplicit false
set_option linter.all false
set_option maxRecDepth 100000
set_option maxHeartbeats 4000000
/-! RvL17a: the law's own yard and rules; the ambient cells. -/
namespace Rv
open PySem L2 PyProof.Rows PySem.Spec LamX NdefX
def okTb (t : Tm) : Bool := (t.all fun p => okN p.1 && (decide (p.2 ≠ 0) && decide (p.2.natAbs < 10000000))) && (decide (t.Pairwise fun p q => p.1 < q.1) && decide (t.length ≤ 10))
theorem okT_of {t : Tm} (h : okTb t = true) : OkT t := by
  unfold okTb at h
  simp only [Bool.and_eq_true, List.all_eq_true, decide_eq_true_eq] at h
  exact ⟨fun p hp => ⟨(h.1 p hp).1, (h.1 p hp).2.1, (h.1 p hp).2.2⟩, h.2.1, h.2.2⟩
/-- the letter m and a digit -/
abbrev mN (k : Nat) : Tt := [109, 48 + k]
abbrev tSrc : Tt := [115, 114, 99]
abbrev tLeft : Tt := [108, 101, 102, 116]
abbrev tRight : Tt := [114, 105, 103, 104, 116]
abbrev tLout : Tt := [108, 111, 117, 116]
abbrev tRout : Tt := [114, 111, 117, 116]
def yard : NetD := ([(tSrc, [111], [97]), (tLeft, [97], [98]), (tRight, [97], [99]), (tLout, [98], [111]), (tRout, [99], [111])], [(mN 1, tSrc, false), (mN 2, tLeft, false), (mN 3, tRight, false), (mN 4, tLout, false), (mN 5, tRout, false)])
theorem yard_ok : OkNet yard := by
  refine ⟨⟨fun p hp => ?_, by decide +kernel, by decide, by decide⟩, ⟨fun m hm => ?_, by decide +kernel, by decide +kernel, by decide⟩⟩
  · simp only [yard, List.mem_cons, List.not_mem_nil, or_false] at hp
    rcases hp with rfl | rfl | rfl | rfl | rfl <;> exact ⟨by decide +kernel, by decide +kernel, by decide +kernel, by decide⟩
  · simp only [yard, List.mem_cons, List.not_mem_nil, or_false] at hm
    rcases hm with rfl | rfl | rfl | rfl | rfl <;> exact ⟨by decide +kernel, by decide +kernel⟩
def rulA : List Stp := [.iff [(mN 1, 1)] [(mN 2, 1), (mN 3, 1)] 2, .tell [(mN 4, 1), (mN 5, 1)], .tell [(mN 1, 1)]]
def rulB : List Stp := [.iff [(mN 1, 1)] [(mN 1, 1)] 2, .tell [(mN 2, 2)], .iff [] [] 4, .dbt, .tell []]
theorem okA_ : OkSt rulA := by
  refine ⟨fun i s h => ?_, by decide, by decide, fun s h => ?_⟩
  · match i, h with
    | 0, h => cases h; exact ⟨okT_of (by decide +kernel), okT_of (by decide +kernel), by decide, by decide, by decide⟩
    | 1, h => cases h; exact okT_of (by decide +kernel)
    | 2, h => cases h; exact okT_of (by decide +kernel)
  · cases h; rfl
theorem okB_ : OkSt rulB := by
  refine ⟨fun i s h => ?_, by decide, by decide, fun s h => ?_⟩
  · match i, h with
    | 0, h => cases h; exact ⟨okT_of (by decide +kernel), okT_of (by decide +kernel), by decide, by decide, by decide⟩
    | 1, h => cases h; exact okT_of (by decide +kernel)
    | 2, h => cases h; exact ⟨okT_of (by decide +kernel), okT_of (by decide +kernel), by decide, by decide, by decide⟩
    | 3, h => cases h; trivial
    | 4, h => cases h; exact okT_of (by decide +kernel)
  · cases h; rfl
def okNb (l : List Stp) (ns : List Tt) : Bool := l.all fun s => (sumsS s).all fun t => decide (t.length ≤ 10) && t.all fun p => decide (p.1 ∈ ns)
theorem okNm_of {l : List Stp} {ns : List Tt} (h : okNb l ns = true) : OkNm l ns := fun s hs t ht => by
  unfold okNb at h
  simp only [Bool.and_eq_true, List.all_eq_true, decide_eq_true_eq] at h
  exact ⟨(h s hs t ht).1, (h s hs t ht).2⟩
theorem nmA : OkNm rulA (yard.2.map (·.1)) := okNm_of (by decide +kernel)
theorem nmB : OkNm rulB (yard.2.map (·.1)) := okNm_of (by decide +kernel)
theorem yard_w (rd : List (Option Int)) (h : rd.length = 5) : OkW yard rd := ⟨by decide, by decide +kernel, h⟩
theorem yard_r (rd : List (Option Int)) (h : rd.length = 5) : OkRs yard.2 rd := ⟨h, fun i m o hm ho e => by
  have := List.mem_of_getElem? hm
  simp only [yard, List.mem_cons, List.not_mem_nil, or_false] at this
  rcases this with rfl | rfl | rfl | rfl | rfl <;> rfl⟩
theorem o1 : outV yard [some 7, some 4, some 3, some 4, some 5] rulA = some 7 := by decide +kernel
theorem o2 : outV yard [some 7, some 4, some 4, some 4, some 3] rulA = some 7 := by decide +kernel
theorem o3 : outV yard [none, some 4, some 3, some 4, none] rulA = none := by decide +kernel
theorem o4 : outV yard [none, none, none, some 9, some 1] rulA = some 10 := by decide +kernel
theorem o5 : outV yard [none, some 5, some 0, some 0, some 0] rulB = some 10 := by decide +kernel
theorem o6 : outV yard [some 1, some 5, some 0, some 0, some 0] rulB = some 0 := by decide +kernel
/-! ### the ambient cells -/
/-- the table of code objects alone -/
def ambP (P : Addr) (q : Str) : Amb where
  S := fun a => a = P
  ok := fun F H => ∃ ps, H P = some (.tbl ps) ∧ TabC F q ps
  there := fun F H a ⟨ps, h, _⟩ e => by rw [e, h]; simp
  frame := fun F F' H H' ⟨ps, h, t⟩ s k => ⟨ps, by rw [k P rfl]; exact h, t.up s⟩
theorem ambP_tab (P : Addr) (q : Str) : TabA (ambP P q) P q := ⟨rfl, fun _ _ h => h, fun _ _ ps _ t => ⟨ps, upd_same, t⟩⟩
/-- .. and the spring -/
def ambS (P sp : Addr) (q : Str) : Amb where
  S := fun a => a = P ∨ a = sp
  ok := fun F H => (ambP P q).ok F H ∧ ∃ s0 s1 s2 : Int, H sp = some (sprL s0 s1 s2) ∧ 0 ≤ s0 ∧ s0 < 2147483543 ∧ 0 ≤ s1
  there := fun F H a h e => by
    rcases e with e | e
    · exact (ambP P q).there F H a h.1 e
    · obtain ⟨_, s0, s1, s2, h, _⟩ := h
      rw [e, h]; simp
  frame := fun F F' H H' h s k => ⟨(ambP P q).frame F F' H H' h.1 s fun a e => k a (.inl e), by
    obtain ⟨_, s0, s1, s2, h, r⟩ := h
    exact ⟨s0, s1, s2, by rw [k sp (.inr rfl)]; exact h, r⟩⟩
theorem ambS_ne {P sp : Addr} {q : Str} {F H : Hp} (h : (ambS P sp q).ok F H) : P ≠ sp := fun e => by
  obtain ⟨⟨ps, h1, _⟩, s0, s1, s2, h2, _⟩ := h
  rw [e, h2] at h1
  cases h1
theorem ambS_tab (P sp : Addr) (q : Str) : TabA (ambS P sp q) P q := ⟨.inl rfl, fun _ _ h => h.1, fun F H ps h t => ⟨⟨ps, upd_same, t⟩, by
  have ne := ambS_ne h
  obtain ⟨_, s0, s1, s2, h2, r⟩ := h
  exact ⟨s0, s1, s2, by rw [upd_ne ne.symm]; exact h2, r⟩⟩⟩
theorem ambS_spr (P sp : Addr) (q : Str) : Spr (ambS P sp q) sp := ⟨.inr rfl, fun _ _ h => h.2, fun F H s0 s1 s2 h h0 h1 h2 => ⟨by
  have ne := ambS_ne h
  obtain ⟨⟨ps, h3, t⟩, _⟩ := h
  exact ⟨ps, by rw [upd_ne ne]; exact h3, t⟩, s0, s1, s2, upd_same, h0, h1, h2⟩⟩
theorem Fz.toS {P sp : Addr} {q : Str} {F H : Hp} {s0 s1 s2 : Int} (Z : Fz (ambP P q) F H) (hF : F sp = none) (hH : H sp = some (sprL s0 s1 s2)) (h0 : 0 ≤ s0) (h1 : s0 < 2147483543) (h2 : 0 ≤ s1) : Fz (ambS P sp q) F H :=
  ⟨Z.sub, ⟨Z.ok, s0, s1, s2, hH, h0, h1, h2⟩, fun a e => by
    rcases e with e | e
    · exact Z.out a e
    · rw [e]; exact hF⟩
theorem Gr.ofS {P sp : Addr} {q : Str} {F0 H0 F H F' H' : Hp} (G : Gr (ambP P q) F0 H0 F H) (hs : H0 sp = none) (g : Gr (ambS P sp q) F H F' H') : Gr (ambP P q) F0 H0 F' H' :=
  ⟨G.ff.trans g.ff, ⟨g.fz.sub, g.fz.ok.1, fun a e => g.fz.out a (.inl e)⟩, fun a o ha e => g.hh a o (fun z => by
      rcases z with z | z
      · exact ha z
      · rw [z, hs] at e; cases e) (G.hh a o ha e), fun a e => g.hk a (G.hk a e), fun a e1 e2 => g.nf a (G.nf a e1 e2) (G.hk a e2), G.ok0⟩
end Rv
end

section
set_option Elab.async false
set_option autoImplicit false
set_option linter.all false
set_option maxRecDepth 100000
set_option maxHeartbeats 4000000
namespace Rv
open PySem L2 PyProof.Rows PySem.Spec LamX NdefX
theorem oc_okE {A : Amb} {F H : Hp} {cs : Cs} {P : Addr} {x y : V} {t : Addr} {n : NetD} {ls : List Tt} {l : List Stp} {rd : List (Option Int)} {o : Option Int} {Q : VK} (Z : Fz A F H) (TA : TabA A P qAsk) (rn : rNet cs F x n) (rr : rRule cs F y (ls, l)) (okw : OkW n rd) (okr : OkRs n.2 rd) (okl : OkSt l) (onm : OkNm l (n.2.map (·.1)))
    (ht : H t = none) (e : outV n rd l = o) (k : ∀ F' H', Gr A F H F' H' → Q (oV o) H') : spOutcome cs P [x, y, .ref t] (upd H t (.tup (rd.map oV))) Q E0 :=
  oc_ok Z TA rn rr okw okr okl onm ht fun F' H' g => by rw [e]; exact k F' H' g
theorem yard_text : Str.ofString "pipe src o a\npipe left a b\npipe right a c\npipe lout b o\npipe rout c o\nmeter m1 src" ++ Str.ofString "\nmeter m2 left\nmeter m3 right\nmeter m4 lout\nmeter m5 rout" = S (textN yard) := by decide +kernel
theorem rowsA : [V.str (Str.ofString "if m1 == m2 + m3 go 2"), V.str (Str.ofString "tell m4 + m5"), V.str (Str.ofString "tell m1")] = (rulA.map lineS).map fun t => V.str (S t) := by decide +kernel
theorem rowsB : [V.str (Str.ofString "if m1 == m1 go 2"), V.str (Str.ofString "tell 2*m2"), V.str (Str.ofString "if 0 == 0 go 4"), V.str (Str.ofString "doubt"), V.str (Str.ofString "tell 0")] = (rulB.map lineS).map fun t => V.str (S t) := by decide +kernel
abbrev spLaw (K : PySem.W.Frag) (P : Addr) : Sp := fun vs H Q _ => ∃ (a : Addr) (ns : List Int), vs = [.ref a] ∧ SqL K H a (ns.map V.int) ∧ H P = some (.tbl #[]) ∧ ∀ H', Q (.bl true) H'
section
variable {P : Program} {w : World} {K : PySem.W.Frag} {mg : Str → Option Value} {base : Heap} {cs : Cs} {PT : Addr}
theorem okG_of {x : Str} {st : Stmt} {N ps : List Str} {k : Nat} {sp : Sp} {f : Addr} {fd : FuncData} (D : FunD K x x (defArgs st) (defBody st) (defScope st) [] [] f fd) (S : FnScope N ps (defScope st)) (len : ∀ vs H Q E, sp vs H Q E → vs.length = ps.length)
    (hbody : ∀ (cdv : Value) (A : Around) (outer : List Env) (s : Shared) (H : Hp) (vs : List V) (Q : VK) (E : XK), Room k (A.deeper (envOfC x (defScope st) s.heap.objs.size f cdv)) → (A.deeper (envOfC x (defScope st) s.heap.objs.size f cdv)).guards = some [] → sp vs H Q E →
      ∃ t, PSs (cxOf CX0 P w K mg base N x (defScope st) f cdv A outer s H E).nox (defBody st) t ∧ t { nx := fun _ H' => Q .non H', rt := Q } (start N vs) H) : FnOkG P w K mg base (k + 1) f fd ps sp := by
  obtain ⟨oc, od, dV, kV, doc, pm, an, cdv, ct, osl, rfl, lk, hcd, _, _⟩ := D.ex
  exact fn_ofG lk hcd S len (hbody cdv)
abbrev sLaw : Stmt := top 93
abbrev nLaw : List Str := ["_law_script", "_law_lines", "_law_grid_here", "_law_mine", "_law_told_here", "_law_twin", "_law_k"]
abbrev pLaw : List Str := ["_law_script"]
theorem scLaw : FnScope nLaw pLaw (defScope sLaw) := ⟨rfl, rfl, rfl, by decide +kernel, rfl, by decide +kernel, by decide +kernel⟩

theorem c_law {f : Addr} {fd : FuncData} (D : FunD K "law" "law" (defArgs sLaw) (defBody sLaw) (defScope sLaw) [] [] f fd) (T : Tx K mg cs) (m_Net_read : Cmt P w K mg base 7 cs.net "read" (spNetRead cs)) (k_Rule : Mak P w K mg base 9 "Rule" cs.rule (spRuleInit cs)) (c_outcome : CalO P w K mg base 7 (spOutcome cs PT)) (c__law_right : CalG P w K mg base 12 "_law_right" (spRight cs PT)) (c__law_spring : Cal P w K mg base 1 "_law_spring" (spSpring K)) : FnOkG P w K mg base 13 f fd pLaw (spLaw K PT) := by
  refine okG_of D scLaw (fun vs H Q E h => ?_) (fun cdv A outer s H vs Q E hr hgd h => ?_)
  · obtain ⟨_, _, rfl, _⟩ := h
    rfl
  · obtain ⟨a, ns, rfl, hs, hPT, k⟩ := h
    refine ⟨_, (pss_cons (ps_set (i := 1) scLaw.nd rfl (Or.inl rfl) pe_str)
      (pss_cons (ps_set (i := 2) scLaw.nd rfl (Or.inl rfl) (pe_cm m_Net_read hr (by decide) (pe_gc T.cv_Net) (pa_cons (pe_op op_add_str (pv 1) pe_str) pa_nil)))
      (pss_cons (ps_set (i := 3) scLaw.nd rfl (Or.inl rfl) (pe_mk k_Rule hr (by decide) rfl (pa_cons (pe_tup (pa_cons pe_str (pa_cons pe_str (pa_cons pe_str pa_nil)))) pa_nil)))
      (pss_cons (ps_set (i := 4) scLaw.nd rfl (Or.inl rfl) (pe_lst (pa_cons (pe_c c_outcome.c hr (by decide) rfl (pa_cons (pv 2) (pa_cons (pv 3) (pa_cons (pe_tup (pa_cons pe_int (pa_cons pe_int (pa_cons pe_int (pa_cons pe_int (pa_cons pe_int pa_nil)))))) pa_nil)))) (pa_cons (pe_c c_outcome.c hr (by decide) rfl (pa_cons (pv 2) (pa_cons (pv 3) (pa_cons (pe_tup (pa_cons pe_int (pa_cons pe_int (pa_cons pe_int (pa_cons pe_int (pa_cons pe_int pa_nil)))))) pa_nil)))) pa_nil))))
      (pss_cons (ps_set (i := 4) scLaw.nd rfl (Or.inl rfl) (pe_op op_cat (pv 4) (pe_lst (pa_cons (pe_c c_outcome.c hr (by decide) rfl (pa_cons (pv 2) (pa_cons (pv 3) (pa_cons (pe_tup (pa_cons pe_non (pa_cons pe_int (pa_cons pe_int (pa_cons pe_int (pa_cons pe_non pa_nil)))))) pa_nil)))) (pa_cons (pe_c c_outcome.c hr (by decide) rfl (pa_cons (pv 2) (pa_cons (pv 3) (pa_cons (pe_tup (pa_cons pe_non (pa_cons pe_non (pa_cons pe_non (pa_cons pe_int (pa_cons pe_int pa_nil)))))) pa_nil)))) pa_nil)))))
      (pss_cons (ps_set (i := 5) scLaw.nd rfl (Or.inl rfl) (pe_mk k_Rule hr (by decide) rfl (pa_cons (pe_tup (pa_cons pe_str (pa_cons pe_str (pa_cons pe_str (pa_cons pe_str (pa_cons pe_str pa_nil)))))) pa_nil)))
      (pss_cons (ps_set (i := 4) scLaw.nd rfl (Or.inl rfl) (pe_op op_cat (pv 4) (pe_lst (pa_cons (pe_c c_outcome.c hr (by decide) rfl (pa_cons (pv 2) (pa_cons (pv 5) (pa_cons (pe_tup (pa_cons pe_non (pa_cons pe_int (pa_cons pe_int (pa_cons pe_int (pa_cons pe_int pa_nil)))))) pa_nil)))) (pa_cons (pe_c c_outcome.c hr (by decide) rfl (pa_cons (pv 2) (pa_cons (pv 5) (pa_cons (pe_tup (pa_cons pe_int (pa_cons pe_int (pa_cons pe_int (pa_cons pe_int (pa_cons pe_int pa_nil)))))) pa_nil)))) pa_nil)))))
      (pss_cons (ps_if (pt_cmpR op_ne (pe_callB (call_reprD hgd hr) (by rfl) T.n_repr (by decide +kernel) (pa_cons (pv 4) pa_nil)) (pe_callB (call_reprD hgd hr) (by rfl) T.n_repr (by decide +kernel) (pa_cons (pe_lst (pa_cons pe_int (pa_cons pe_int (pa_cons pe_non (pa_cons pe_int (pa_cons pe_int (pa_cons pe_int pa_nil))))))) pa_nil)) (nomark _)) (pss_one (ps_ret pe_bl)) pss_nil)
      (pss_one (ps_ret (pe_callB (cr_all rfl) (by rfl) T.n_all (by decide +kernel) (pa_cons (pe_lcG (own := [("_law_k", 6)]) rfl scLaw.nd (pi_range1 (by rfl) T.n_range (pa_cons (pe_callB (call_max2 rfl) (by rfl) T.n_max (by decide +kernel) (pa_cons pe_int (pa_cons (pe_callB (call_min2 rfl) (by rfl) T.n_min (by decide +kernel) (pa_cons (pe_callB call_len_seq (by rfl) T.n_len (by decide +kernel) (pa_cons (pv 0) pa_nil)) (pa_cons pe_int pa_nil))) pa_nil))) pa_nil)) (blkOk_by (own := [("_law_k", 6)]) (N := nLaw) (sc := defScope sLaw) (by decide +kernel)) (fun _ _ _ _ _ => (pg_name (i := 6) scLaw.nd rfl (.inl rfl) (.inr rfl))) (fun _ _ _ _ _ => pts_nil) (fun _ _ _ _ _ => (pe_cG c__law_right hgd hr (by decide) rfl (pa_cons (pe_c c__law_spring hr (by decide) rfl (pa_cons (pv 0) (pa_cons (pv 6) pa_nil))) pa_nil)))) pa_nil)))))))))))), ?_⟩
    have TA := ambP_tab PT qAsk
    have hF0 : ∀ b, b ≠ PT → (fun b => if b = PT then none else H b : Hp) b = H b := fun b hb => if_neg hb
    have hsub : Same (fun b => if b = PT then none else H b) H := fun b o e => by
      by_cases c : b = PT
      · rw [c] at e
        have e : (if PT = PT then none else H PT) = some o := e
        rw [if_pos rfl] at e; cases e
      · have e : (if b = PT then none else H b) = some o := e
        rw [if_neg c] at e; exact e
    have Z : Fz (ambP PT qAsk) (fun b => if b = PT then none else H b) H := ⟨hsub, ⟨_, hPT, by simp [TriplesOk], fun pos cv h => by simp [codeAmong] at h⟩, fun b e => if_pos e⟩
    have hsF : SqL K (fun b => if b = PT then none else H b) a (ns.map V.int) := by
      refine hs.imp (fun r => ?_) id
      have hne : a ≠ PT := fun e => by
        rcases r with r | ⟨o, r⟩ <;> rw [e, hPT] at r <;> cases r
      exact r.imp (fun z => (hF0 a hne).trans z) fun ⟨o, z⟩ => ⟨o, (hF0 a hne).trans z⟩
    generalize (fun b => if b = PT then none else H b : Hp) = F at Z hsF
    refine ⟨rfl, _, rfl, _, _, rfl, rfl, ?_, ?_⟩
    · rw [sizeLine_eq]; decide +kernel
    rw [yard_text]
    refine ⟨ambP PT qAsk, F, yard, rfl, Z, yard_ok, fun F1 H1 v1 g1 rnet => ?_⟩
    refine ⟨by show 3 ≤ sizeLine; decide, fun tA htA => ?_⟩
    have g2 := (Gr.refl g1.fz).new (o := .tup [V.str (Str.ofString "if m1 == m2 + m3 go 2"), V.str (Str.ofString "tell m4 + m5"), V.str (Str.ofString "tell m1")]) htA
    refine fun xA dxA hxA hdA hnA => mkRule g2.fz ⟨tA, _, rfl, upd_same, by rw [rowsA]; exact paired_of⟩ okA_ hxA hdA hnA fun F3 H3 g3 rrA => ?_
    have s13 : Same F1 F3 := (g2.trans g3).ff
    have G3 := g1.trans (g2.trans g3)
    refine ⟨_, rfl, _, rfl, by show 5 ≤ sizeLine; decide, fun t0 ht0 => ?_⟩
    refine oc_okE (rd := [some 7, some 4, some 3, some 4, some 5]) g3.fz TA (MonoR.up s13 rnet) (MonoR.up (Same.refl _) rrA) (yard_w _ rfl) (yard_r _ rfl) okA_ nmA ht0 o1 fun F20 H20 g20 => ?_
    have a0 := G3.trans g20
    have s0 := s13.trans g20.ff
    have q0 := g20.ff
    refine ⟨_, rfl, _, rfl, by show 5 ≤ sizeLine; decide, fun t1 ht1 => ?_⟩
    refine oc_okE (rd := [some 7, some 4, some 4, some 4, some 3]) g20.fz TA (MonoR.up s0 rnet) (MonoR.up q0 rrA) (yard_w _ rfl) (yard_r _ rfl) okA_ nmA ht1 o2 fun F21 H21 g21 => ?_
    have a1 := a0.trans g21
    have s1 := s0.trans g21.ff
    have q1 := q0.trans g21.ff
    refine ⟨by show 2 ≤ sizeLine; decide, fun l1 hl1 => ?_⟩
    have n1 := (Gr.refl g21.fz).new (o := .lst [oV (some 7), oV (some 7)]) hl1
    have s1' := s1.trans n1.ff
    have q1' := q1.trans n1.ff
    refine ⟨_, rfl, ?_⟩
    refine ⟨_, rfl, _, rfl, by show 5 ≤ sizeLine; decide, fun t2 ht2 => ?_⟩
    refine oc_okE (rd := [none, some 4, some 3, some 4, none]) n1.fz TA (MonoR.up s1' rnet) (MonoR.up q1' rrA) (yard_w _ rfl) (yard_r _ rfl) okA_ nmA ht2 o3 fun F22 H22 g22 => ?_
    have s2 := s1'.trans g22.ff
    have q2 := q1'.trans g22.ff
    refine ⟨_, rfl, _, rfl, by show 5 ≤ sizeLine; decide, fun t3 ht3 => ?_⟩
    refine oc_okE (rd := [none, none, none, some 9, some 1]) g22.fz TA (MonoR.up s2 rnet) (MonoR.up q2 rrA) (yard_w _ rfl) (yard_r _ rfl) okA_ nmA ht3 o4 fun F23 H23 g23 => ?_
    have s3 := s2.trans g23.ff
    have q3 := q2.trans g23.ff
    have m1 := g22.trans g23
    have hl1' : F23 l1 = some (.lst [oV (some 7), oV (some 7)]) := m1.ff _ _ upd_same
    refine ⟨by show 2 ≤ sizeLine; decide, fun l2 hl2 => ?_⟩
    have n2 := (Gr.refl g23.fz).new (o := .lst [oV none, oV (some 10)]) hl2
    refine ⟨l1, l2, _, _, rfl, rfl, n2.fz.sub _ _ (n2.ff _ _ hl1'), upd_same, by show 4 ≤ sizeLine; decide, fun l3 hl3 => ?_⟩
    have n3 := n2.new (o := .lst ([oV (some 7), oV (some 7)] ++ [oV none, oV (some 10)])) hl3
    have hl3' : upd (upd F23 l2 (.lst [oV none, oV (some 10)])) l3 (.lst ([oV (some 7), oV (some 7)] ++ [oV none, oV (some 10)])) l3 = some (.lst ([oV (some 7), oV (some 7)] ++ [oV none, oV (some 10)])) := upd_same
    generalize upd (upd F23 l2 (.lst [oV none, oV (some 10)])) l3 (.lst ([oV (some 7), oV (some 7)] ++ [oV none, oV (some 10)])) = F4 at n3 hl3'
    have s4 := s3.trans n3.ff
    have G4 := ((a1.trans n1).trans m1).trans n3
    refine ⟨by show 5 ≤ sizeLine; decide, fun tB htB => ?_⟩
    have g5 := (Gr.refl n3.fz).new (o := .tup [V.str (Str.ofString "if m1 == m1 go 2"), V.str (Str.ofString "tell 2*m2"), V.str (Str.ofString "if 0 == 0 go 4"), V.str (Str.ofString "doubt"), V.str (Str.ofString "tell 0")]) htB
    refine fun xB dxB hxB hdB hnB => mkRule g5.fz ⟨tB, _, rfl, upd_same, by rw [rowsB]; exact paired_of⟩ okB_ hxB hdB hnB fun F6 H6 g6 rrB => ?_
    have g56 := g5.trans g6
    have s6 := s4.trans g56.ff
    refine ⟨_, rfl, ?_⟩
    refine ⟨_, rfl, _, rfl, by show 5 ≤ sizeLine; decide, fun t4 ht4 => ?_⟩
    refine oc_okE (rd := [none, some 5, some 0, some 0, some 0]) g6.fz TA (MonoR.up s6 rnet) (MonoR.up (Same.refl _) rrB) (yard_w _ rfl) (yard_r _ rfl) okB_ nmB ht4 o5 fun F24 H24 g24 => ?_
    refine ⟨_, rfl, _, rfl, by show 5 ≤ sizeLine; decide, fun t5 ht5 => ?_⟩
    refine oc_okE (rd := [some 1, some 5, some 0, some 0, some 0]) g24.fz TA (MonoR.up (s6.trans g24.ff) rnet) (MonoR.up g24.ff rrB) (yard_w _ rfl) (yard_r _ rfl) okB_ nmB ht5 o6 fun F25 H25 g25 => ?_
    have m2 := g24.trans g25
    have hl3'' : F25 l3 = some (.lst ([oV (some 7), oV (some 7)] ++ [oV none, oV (some 10)])) := (g56.trans m2).ff _ _ hl3'
    refine ⟨by show 2 ≤ sizeLine; decide, fun l4 hl4 => ?_⟩
    have n4 := (Gr.refl g25.fz).new (o := .lst [oV (some 10), oV (some 0)]) hl4
    refine ⟨l3, l4, _, _, rfl, rfl, n4.fz.sub _ _ (n4.ff _ _ hl3''), upd_same, by show 6 ≤ sizeLine; decide, fun l5 hl5 => ?_⟩
    have n5 := n4.new (o := .lst (([oV (some 7), oV (some 7)] ++ [oV none, oV (some 10)]) ++ [oV (some 10), oV (some 0)])) hl5
    have hsh : Shw (.list ([some 7, some 7, none, some 10, some 10, some 0].map pdO)) := shw_oVs (fun o ho i e => by
      simp only [List.mem_cons, List.not_mem_nil, or_false] at ho
      rcases ho with h | h | h | h | h | h <;> rw [h] at e <;> cases e <;> decide) (by decide)
    have hdp : ∀ {F' H' : Hp} {a : Addr}, Fz (ambP PT qAsk) F' H' → F' a = some (.lst (([oV (some 7), oV (some 7)] ++ [oV none, oV (some 10)]) ++ [oV (some 10), oV (some 0)])) → Dp K H' (.ref a) (.list ([some 7, some 7, none, some 10, some 10, some 0].map pdO)) := fun z h => .lst (z.L h) (dp_oVs (l := [some 7, some 7, none, some 10, some 10, some 0]))
    refine ⟨_, rfl, l5, _, rfl, hdp n5.fz upd_same, hsh, ?_⟩
    refine ⟨by show 6 ≤ sizeLine; decide, fun l6 hl6 => ?_⟩
    have n6 := n5.new (o := .lst (([oV (some 7), oV (some 7)] ++ [oV none, oV (some 10)]) ++ [oV (some 10), oV (some 0)])) hl6
    refine ⟨l6, _, rfl, hdp n6.fz upd_same, hsh, ?_⟩
    refine ⟨rfl, _, rfl, ?_⟩
    rw [decide_eq_true rfl]
    refine iteF ?_
    have G6 := G4.trans (g56.trans (m2.trans n6))
    have hs6 := sqUp hsF G6.ff
    have hs7 := sqUp hs6 G6.fz.sub
    refine ⟨_, rfl, a, _, rfl, .inl hs7, _, _, rfl, _, _, rfl, _, rfl, ?_, ?_, ?_⟩
    · split <;> split <;> omega
    · split <;> split <;> omega
    have hn5 : (if (if (5 : Int) < ((ns.map V.int).length : Nat) then 5 else (((ns.map V.int).length : Nat) : Int)) > 2 then (if (5 : Int) < ((ns.map V.int).length : Nat) then 5 else (((ns.map V.int).length : Nat) : Int)) else 2).toNat ≤ 5 := by split <;> split <;> omega
    refine lc_rangeP (r := rBl) (fun b => b = true) G6.fz (by omega) ?_ ?_
    · intro i F7 H7 K1 hi G7 hK
      refine ⟨rfl, _, rfl, _, rfl, ambP PT qAsk, F7, a, ns, i, by rw [Int.zero_add], G7.fz, sqUp hs6 G7.ff, by omega, fun F8 H8 sp z0 z1 z2 g8 e0 e1 e2 b0 b1 b2 => ?_⟩
      exact ⟨ambS PT sp qAsk, F8, sp, rfl, g8.fz.toS e1 e2 b0 b1 b2, ambS_spr PT sp qAsk, ambS_tab PT sp qAsk, fun F9 H9 v g9 e => by
        subst e
        exact hK F9 H9 _ true (g8.ofS e0 g9) rfl rfl⟩
    · rintro F7 H7 p7 bs G7 ⟨_, ys, e, hp, pr⟩ _ hall
      cases e
      have ey := paired_C pr
      subst ey
      refine ⟨p7, bs, rfl, G7.fz.L hp, ?_⟩
      rw [show bs.all id = true from List.all_eq_true.mpr fun b hb => hall b hb]
      exact k _
end
end Rv
end

section
set_option Elab.async false
set_option autoImplicit false
set_option linter.all false
set_option maxRecDepth 100000
set_option maxHeartbeats 4000000
/-! RvHe: printed by gen/heads.py 2: what is read off behind the top. -/
namespace Rv
open PySem L2 PyProof.Rows PySem.Spec LamX NdefX
def csOf (K : PySem.W.Frag) : Cs := ⟨He.ga K "Sum", He.ga K "Pipe", He.ga K "Meter", He.ga K "Net", He.ga K "Rule"⟩
section
variable {h : Heap} {K : PySem.W.Frag} {mg : Str → Option Value}
theorem mg_none (X : K.In h) (G : h.Ns mainGlobals mg) (c : SaysY NN h K) (x : Str) (hf : He.Fa.free x ∈ NN.fa) : mg x = none := He.free_ok X G (c.fact hf)
theorem gv_int (X : K.In h) (G : h.Ns mainGlobals mg) (c : SaysY NN h K) {x : Str} {i : Int} (hf : He.Fa.int x i ∈ NN.fa) : GV mg x (.int i) := let ⟨t, e⟩ := He.int_ok X G (c.fact hf); ⟨_, e, t, rfl⟩
theorem gv_str (X : K.In h) (G : h.Ns mainGlobals mg) (c : SaysY NN h K) {x z : Str} (hf : He.Fa.str x z ∈ NN.fa) : GV mg x (.str z) := let ⟨t, e⟩ := He.str_ok X G (c.fact hf); ⟨_, e, t, rfl⟩
theorem gv_ref (X : K.In h) (G : h.Ns mainGlobals mg) (c : SaysY NN h K) {x : Str} (hf : He.Fa.glo x ∈ NN.fa) : GV mg x (.ref (He.ga K x)) := ⟨_, He.glo_ok X G (c.fact hf), rfl⟩
theorem isc_of (c : SaysY NN h K) {C : Str} (hf : xIsc C ∈ NN.ex) : Isc K (He.ga K C) := by
  obtain ⟨h1, h2⟩ := He.ba (c.more hf)
  obtain ⟨h3, h4⟩ := He.ba h2
  obtain ⟨h5, h6⟩ := He.ba h4
  exact ⟨He.eqO_ok h1, He.eqO_ok h3, of_decide_eq_true h5, of_decide_eq_true h6⟩
theorem kit_of (c : SaysY NN h K) {A B : Str} {b : Bool} (hf : xKit A B b ∈ NN.ex) : PySem.W.kitOne K (.ref (He.ga K A)) (.ref (He.ga K B)) = some b := of_decide_eq_true (c.more hf)
theorem prop_of (c : SaysY NN h K) {C m : Str} (hf : xProp C m ∈ NN.ex) : PropOf K (He.ga K C) m (He.ma K (He.ga K C) m) (recG K "property" (He.ma K (He.ga K C) m)) := by
  obtain ⟨h1, h2⟩ := He.ba (c.more hf)
  obtain ⟨h3, h4⟩ := He.ba h2
  obtain ⟨h5, h6⟩ := He.ba h4
  exact ⟨He.eqO_ok h1, He.eqO_ok h3, of_decide_eq_true h5, recB_ok h6⟩
theorem cm_of (c : SaysY NN h K) {C m : Str} (hf : xCm C m ∈ NN.ex) : ClX.CRead K (He.ga K C) (.type "type") ∧ ClX.CMet K (He.ga K C) (.type "type") m (He.ma K (He.ga K C) m) (recG K "classmethod" (He.ma K (He.ga K C) m)) := by
  obtain ⟨h1, h2⟩ := He.ba (c.more hf)
  obtain ⟨h3, h4⟩ := He.ba h2
  obtain ⟨h5, h6⟩ := He.ba h4
  obtain ⟨h7, h8⟩ := He.ba h6
  exact ⟨⟨h1, He.eqO_ok h3⟩, ⟨clsB_ok h5, recB_ok h7, h8⟩⟩
theorem tx_of (X : K.In h) (G : h.Ns mainGlobals mg) (c : SaysY NN h K) : Tx K mg (csOf K) :=
  ⟨mg_none X G c "len" (List.mem_of_getElem? (i := 0) rfl),
    mg_none X G c "abs" (List.mem_of_getElem? (i := 1) rfl),
    mg_none X G c "min" (List.mem_of_getElem? (i := 2) rfl),
    mg_none X G c "max" (List.mem_of_getElem? (i := 3) rfl),
    mg_none X G c "sum" (List.mem_of_getElem? (i := 4) rfl),
    mg_none X G c "any" (List.mem_of_getElem? (i := 5) rfl),
    mg_none X G c "all" (List.mem_of_getElem? (i := 6) rfl),
    mg_none X G c "sorted" (List.mem_of_getElem? (i := 7) rfl),
    mg_none X G c "str" (List.mem_of_getElem? (i := 8) rfl),
    mg_none X G c "int" (List.mem_of_getElem? (i := 9) rfl),
    mg_none X G c "bool" (List.mem_of_getElem? (i := 10) rfl),
    mg_none X G c "tuple" (List.mem_of_getElem? (i := 11) rfl),
    mg_none X G c "list" (List.mem_of_getElem? (i := 12) rfl),
    mg_none X G c "dict" (List.mem_of_getElem? (i := 13) rfl),
    mg_none X G c "zip" (List.mem_of_getElem? (i := 14) rfl),
    mg_none X G c "isinstance" (List.mem_of_getElem? (i := 15) rfl),
    mg_none X G c "divmod" (List.mem_of_getElem? (i := 16) rfl),
    mg_none X G c "repr" (List.mem_of_getElem? (i := 17) rfl),
    mg_none X G c "range" (List.mem_of_getElem? (i := 18) rfl),
    mg_none X G c "enumerate" (List.mem_of_getElem? (i := 19) rfl),
    gv_int X G c (List.mem_of_getElem? (i := 20) rfl),
    gv_int X G c (List.mem_of_getElem? (i := 21) rfl),
    gv_int X G c (List.mem_of_getElem? (i := 22) rfl),
    gv_int X G c (List.mem_of_getElem? (i := 23) rfl),
    gv_int X G c (List.mem_of_getElem? (i := 24) rfl),
    gv_int X G c (List.mem_of_getElem? (i := 25) rfl),
    gv_int X G c (List.mem_of_getElem? (i := 26) rfl),
    gv_str X G c (List.mem_of_getElem? (i := 27) rfl),
    gv_str X G c (List.mem_of_getElem? (i := 28) rfl),
    gv_ref X G c (List.mem_of_getElem? (i := 29) rfl),
    gv_ref X G c (List.mem_of_getElem? (i := 30) rfl),
    gv_ref X G c (List.mem_of_getElem? (i := 31) rfl),
    gv_ref X G c (List.mem_of_getElem? (i := 32) rfl),
    gv_ref X G c (List.mem_of_getElem? (i := 33) rfl),
    He.cls_ok (c.fact (List.mem_of_getElem? (i := 86) rfl)),
    He.cls_ok (c.fact (List.mem_of_getElem? (i := 87) rfl)),
    He.cls_ok (c.fact (List.mem_of_getElem? (i := 88) rfl)),
    He.cls_ok (c.fact (List.mem_of_getElem? (i := 89) rfl)),
    He.cls_ok (c.fact (List.mem_of_getElem? (i := 90) rfl)),
    isc_of c (List.mem_of_getElem? (i := 0) rfl),
    isc_of c (List.mem_of_getElem? (i := 1) rfl),
    isc_of c (List.mem_of_getElem? (i := 2) rfl),
    isc_of c (List.mem_of_getElem? (i := 3) rfl),
    kit_of c (List.mem_of_getElem? (i := 4) rfl),
    kit_of c (List.mem_of_getElem? (i := 5) rfl),
    kit_of c (List.mem_of_getElem? (i := 6) rfl),
    kit_of c (List.mem_of_getElem? (i := 7) rfl),
    kit_of c (List.mem_of_getElem? (i := 8) rfl),
    kit_of c (List.mem_of_getElem? (i := 9) rfl),
    He.noat_ok (c.fact (List.mem_of_getElem? (i := 91) rfl)),
    He.noat_ok (c.fact (List.mem_of_getElem? (i := 92) rfl)),
    He.noat_ok (c.fact (List.mem_of_getElem? (i := 93) rfl)),
    He.noat_ok (c.fact (List.mem_of_getElem? (i := 94) rfl)),
    He.noat_ok (c.fact (List.mem_of_getElem? (i := 95) rfl)),
    He.noat_ok (c.fact (List.mem_of_getElem? (i := 96) rfl)),
    He.noat_ok (c.fact (List.mem_of_getElem? (i := 97) rfl))⟩
theorem bIsInteger : BindT dIsInteger pIsInteger := fun doc pm an cdv ct us hl => by
  match us, hl with
  | [a0], _ => rfl
theorem bIsName : BindT dIsName pIsName := fun doc pm an cdv ct us hl => by
  match us, hl with
  | [a0], _ => rfl
theorem bCheckName : BindT dCheckName pCheckName := fun doc pm an cdv ct us hl => by
  match us, hl with
  | [a0], _ => rfl
theorem bReadNumber : BindT dReadNumber pReadNumber := fun doc pm an cdv ct us hl => by
  match us, hl with
  | [a0], _ => rfl
theorem bDigitsOf : BindT dDigitsOf pDigitsOf := fun doc pm an cdv ct us hl => by
  match us, hl with
  | [a0], _ => rfl
theorem bCheckTerms : BindT dCheckTerms pCheckTerms := fun doc pm an cdv ct us hl => by
  match us, hl with
  | [a0], _ => rfl
theorem bMerged : BindT dMerged pMerged := fun doc pm an cdv ct us hl => by
  match us, hl with
  | [a0], _ => rfl
theorem bTermText : BindT dTermText pTermText := fun doc pm an cdv ct us hl => by
  match us, hl with
  | [a0, a1], _ => rfl
theorem bTextOf : BindT dTextOf pTextOf := fun doc pm an cdv ct us hl => by
  match us, hl with
  | [a0], _ => rfl
theorem bReadTerm : BindT dReadTerm pReadTerm := fun doc pm an cdv ct us hl => by
  match us, hl with
  | [a0], _ => rfl
theorem bReadTerms : BindT dReadTerms pReadTerms := fun doc pm an cdv ct us hl => by
  match us, hl with
  | [a0], _ => rfl
theorem bSumInit : BindT1 dSumInit pSumInit := fun T kV doc pm an cdv ct us its hl hi => by
  match us, its, hl, hi with
  | [a0, a1], [z], _, _ => exact ⟨_, rfl, rfl⟩
theorem bSumRead : BindT dSumRead pSumRead := fun doc pm an cdv ct us hl => by
  match us, hl with
  | [a0, a1], _ => rfl
theorem bSumTerms : BindT dSumTerms pSumTerms := fun doc pm an cdv ct us hl => by
  match us, hl with
  | [a0], _ => rfl
theorem bSumNames : BindT dSumNames pSumNames := fun doc pm an cdv ct us hl => by
  match us, hl with
  | [a0], _ => rfl
theorem bPipeInit : BindT dPipeInit pPipeInit := fun doc pm an cdv ct us hl => by
  match us, hl with
  | [a0, a1, a2, a3], _ => rfl
theorem bPipeName : BindT dPipeName pPipeName := fun doc pm an cdv ct us hl => by
  match us, hl with
  | [a0], _ => rfl
theorem bPipeStart : BindT dPipeStart pPipeStart := fun doc pm an cdv ct us hl => by
  match us, hl with
  | [a0], _ => rfl
theorem bPipeEnd : BindT dPipeEnd pPipeEnd := fun doc pm an cdv ct us hl => by
  match us, hl with
  | [a0], _ => rfl
theorem bMeterName : BindT dMeterName pMeterName := fun doc pm an cdv ct us hl => by
  match us, hl with
  | [a0], _ => rfl
theorem bMeterAt : BindT dMeterAt pMeterAt := fun doc pm an cdv ct us hl => by
  match us, hl with
  | [a0], _ => rfl
theorem bMeterSealed : BindT dMeterSealed pMeterSealed := fun doc pm an cdv ct us hl => by
  match us, hl with
  | [a0], _ => rfl
theorem bCheckPipes : BindT dCheckPipes pCheckPipes := fun doc pm an cdv ct us hl => by
  match us, hl with
  | [a0], _ => rfl
theorem bCheckMeters : BindT dCheckMeters pCheckMeters := fun doc pm an cdv ct us hl => by
  match us, hl with
  | [a0, a1], _ => rfl
theorem bLineOf : BindT dLineOf pLineOf := fun doc pm an cdv ct us hl => by
  match us, hl with
  | [a0], _ => rfl
theorem bItemOf : BindT dItemOf pItemOf := fun doc pm an cdv ct us hl => by
  match us, hl with
  | [a0], _ => rfl
theorem bNetInit : BindT1 dNetInit pNetInit := fun T kV doc pm an cdv ct us its hl hi => by
  match us, its, hl, hi with
  | [a0, a1, a2], [z], _, _ => exact ⟨_, rfl, rfl⟩
theorem bNetRead : BindT dNetRead pNetRead := fun doc pm an cdv ct us hl => by
  match us, hl with
  | [a0, a1], _ => rfl
theorem bNetMeters : BindT dNetMeters pNetMeters := fun doc pm an cdv ct us hl => by
  match us, hl with
  | [a0], _ => rfl
theorem bNetContains : BindT dNetContains pNetContains := fun doc pm an cdv ct us hl => by
  match us, hl with
  | [a0, a1], _ => rfl
theorem bNetStr : BindT dNetStr pNetStr := fun doc pm an cdv ct us hl => by
  match us, hl with
  | [a0], _ => rfl
theorem bCheckNet : BindT dCheckNet pCheckNet := fun doc pm an cdv ct us hl => by
  match us, hl with
  | [a0], _ => rfl
theorem bIsReading : BindT dIsReading pIsReading := fun doc pm an cdv ct us hl => by
  match us, hl with
  | [a0, a1], _ => rfl
theorem bCheckReadings : BindT dCheckReadings pCheckReadings := fun doc pm an cdv ct us hl => by
  match us, hl with
  | [a0, a1], _ => rfl
theorem bValueIn : BindT dValueIn pValueIn := fun doc pm an cdv ct us hl => by
  match us, hl with
  | [a0, a1, a2], _ => rfl
theorem bSumWith : BindT dSumWith pSumWith := fun doc pm an cdv ct us hl => by
  match us, hl with
  | [a0], _ => rfl
theorem bGoalWith : BindT dGoalWith pGoalWith := fun doc pm an cdv ct us hl => by
  match us, hl with
  | [a0, a1, a2], _ => rfl
theorem bTestStep : BindT dTestStep pTestStep := fun doc pm an cdv ct us hl => by
  match us, hl with
  | [a0, a1, a2], _ => rfl
theorem bVoteStep : BindT dVoteStep pVoteStep := fun doc pm an cdv ct us hl => by
  match us, hl with
  | [a0], _ => rfl
theorem bStepOf : BindT dStepOf pStepOf := fun doc pm an cdv ct us hl => by
  match us, hl with
  | [a0, a1, a2], _ => rfl
theorem bRuleInit : BindT dRuleInit pRuleInit := fun doc pm an cdv ct us hl => by
  match us, hl with
  | [a0, a1], _ => rfl
theorem bRuleRead : BindT dRuleRead pRuleRead := fun doc pm an cdv ct us hl => by
  match us, hl with
  | [a0, a1], _ => rfl
theorem bRuleRows : BindT dRuleRows pRuleRows := fun doc pm an cdv ct us hl => by
  match us, hl with
  | [a0], _ => rfl
theorem bRuleMeters : BindT dRuleMeters pRuleMeters := fun doc pm an cdv ct us hl => by
  match us, hl with
  | [a0], _ => rfl
theorem bSumsIn : BindT dSumsIn pSumsIn := fun doc pm an cdv ct us hl => by
  match us, hl with
  | [a0], _ => rfl
theorem bCheckRule : BindT dCheckRule pCheckRule := fun doc pm an cdv ct us hl => by
  match us, hl with
  | [a0, a1], _ => rfl
theorem bIsSilent : BindT dIsSilent pIsSilent := fun doc pm an cdv ct us hl => by
  match us, hl with
  | [a0, a1], _ => rfl
theorem bVoteEnd : BindT dVoteEnd pVoteEnd := fun doc pm an cdv ct us hl => by
  match us, hl with
  | [a0, a1, a2], _ => rfl
theorem bRun : BindT dRun pRun := fun doc pm an cdv ct us hl => by
  match us, hl with
  | [a0, a1, a2], _ => rfl
theorem bOutcome : BindT dOutcome pOutcome := fun doc pm an cdv ct us hl => by
  match us, hl with
  | [a0, a1, a2], _ => rfl
theorem bLawSpring : BindT dLawSpring pLawSpring := fun doc pm an cdv ct us hl => by
  match us, hl with
  | [a0, a1], _ => rfl
theorem bLawTake : BindT dLawTake pLawTake := fun doc pm an cdv ct us hl => by
  match us, hl with
  | [a0, a1], _ => rfl
theorem bLawTitles : BindT dLawTitles pLawTitles := fun doc pm an cdv ct us hl => by
  match us, hl with
  | [a0, a1], _ => rfl
theorem bLawPlan : BindT dLawPlan pLawPlan := fun doc pm an cdv ct us hl => by
  match us, hl with
  | [a0, a1, a2], _ => rfl
theorem bLawGrid : BindT dLawGrid pLawGrid := fun doc pm an cdv ct us hl => by
  match us, hl with
  | [a0], _ => rfl
theorem bLawPath : BindT dLawPath pLawPath := fun doc pm an cdv ct us hl => by
  match us, hl with
  | [a0, a1, a2, a3], _ => rfl
theorem bLawRings : BindT dLawRings pLawRings := fun doc pm an cdv ct us hl => by
  match us, hl with
  | [a0], _ => rfl
theorem bLawNumber : BindT dLawNumber pLawNumber := fun doc pm an cdv ct us hl => by
  match us, hl with
  | [a0], _ => rfl
theorem bLawFlow : BindT dLawFlow pLawFlow := fun doc pm an cdv ct us hl => by
  match us, hl with
  | [a0, a1, a2], _ => rfl
theorem bLawTimes : BindT dLawTimes pLawTimes := fun doc pm an cdv ct us hl => by
  match us, hl with
  | [a0, a1], _ => rfl
theorem bLawTotal : BindT dLawTotal pLawTotal := fun doc pm an cdv ct us hl => by
  match us, hl with
  | [a0, a1, a2, a3], _ => rfl
theorem bLawSteps : BindT dLawSteps pLawSteps := fun doc pm an cdv ct us hl => by
  match us, hl with
  | [a0, a1, a2, a3], _ => rfl
theorem bLawPick : BindT dLawPick pLawPick := fun doc pm an cdv ct us hl => by
  match us, hl with
  | [a0, a1, a2, a3], _ => rfl
theorem bLawLast : BindT dLawLast pLawLast := fun doc pm an cdv ct us hl => by
  match us, hl with
  | [a0, a1, a2, a3], _ => rfl
theorem bLawTold : BindT dLawTold pLawTold := fun doc pm an cdv ct us hl => by
  match us, hl with
  | [a0], _ => rfl
theorem bLawLine : BindT dLawLine pLawLine := fun doc pm an cdv ct us hl => by
  match us, hl with
  | [a0], _ => rfl
theorem bLawWorth : BindT dLawWorth pLawWorth := fun doc pm an cdv ct us hl => by
  match us, hl with
  | [a0, a1], _ => rfl
theorem bLawVoted : BindT dLawVoted pLawVoted := fun doc pm an cdv ct us hl => by
  match us, hl with
  | [a0, a1, a2], _ => rfl
theorem bLawRun : BindT dLawRun pLawRun := fun doc pm an cdv ct us hl => by
  match us, hl with
  | [a0, a1], _ => rfl
theorem bLawSeen : BindT dLawSeen pLawSeen := fun doc pm an cdv ct us hl => by
  match us, hl with
  | [a0, a1, a2], _ => rfl
theorem bLawRight : BindT dLawRight pLawRight := fun doc pm an cdv ct us hl => by
  match us, hl with
  | [a0], _ => rfl
theorem bLaw : BindT dLaw pLaw := fun doc pm an cdv ct us hl => by
  match us, hl with
  | [a0], _ => rfl
theorem hIsInteger (X : K.In h) (G : h.Ns mainGlobals mg) (c : SaysY NN h K) : Dn K mg "is_integer" sIsInteger pIsInteger := by
  obtain ⟨fd, a, kp⟩ := c.def_ (d := dIsInteger) (List.mem_of_getElem? (i := 0) rfl)
  exact ⟨_, fd, a.funD kp rfl, He.glo_ok X G (c.fact (List.mem_of_getElem? (i := 34) rfl)), a.binds rfl rfl bIsInteger⟩
theorem hIsName (X : K.In h) (G : h.Ns mainGlobals mg) (c : SaysY NN h K) : Dn K mg "is_name" sIsName pIsName := by
  obtain ⟨fd, a, kp⟩ := c.def_ (d := dIsName) (List.mem_of_getElem? (i := 1) rfl)
  exact ⟨_, fd, a.funD kp rfl, He.glo_ok X G (c.fact (List.mem_of_getElem? (i := 35) rfl)), a.binds rfl rfl bIsName⟩
theorem hCheckName (X : K.In h) (G : h.Ns mainGlobals mg) (c : SaysY NN h K) : Dn K mg "check_name" sCheckName pCheckName := by
  obtain ⟨fd, a, kp⟩ := c.def_ (d := dCheckName) (List.mem_of_getElem? (i := 2) rfl)
  exact ⟨_, fd, a.funD kp rfl, He.glo_ok X G (c.fact (List.mem_of_getElem? (i := 36) rfl)), a.binds rfl rfl bCheckName⟩
theorem hReadNumber (X : K.In h) (G : h.Ns mainGlobals mg) (c : SaysY NN h K) : Dn K mg "read_number" sReadNumber pReadNumber := by
  obtain ⟨fd, a, kp⟩ := c.def_ (d := dReadNumber) (List.mem_of_getElem? (i := 3) rfl)
  exact ⟨_, fd, a.funD kp rfl, He.glo_ok X G (c.fact (List.mem_of_getElem? (i := 37) rfl)), a.binds rfl rfl bReadNumber⟩
theorem hDigitsOf (X : K.In h) (G : h.Ns mainGlobals mg) (c : SaysY NN h K) : Dn K mg "digits_of" sDigitsOf pDigitsOf := by
  obtain ⟨fd, a, kp⟩ := c.def_ (d := dDigitsOf) (List.mem_of_getElem? (i := 4) rfl)
  exact ⟨_, fd, a.funD kp rfl, He.glo_ok X G (c.fact (List.mem_of_getElem? (i := 38) rfl)), a.binds rfl rfl bDigitsOf⟩
theorem hCheckTerms (X : K.In h) (G : h.Ns mainGlobals mg) (c : SaysY NN h K) : Dn K mg "check_terms" sCheckTerms pCheckTerms := by
  obtain ⟨fd, a, kp⟩ := c.def_ (d := dCheckTerms) (List.mem_of_getElem? (i := 5) rfl)
  exact ⟨_, fd, a.funD kp rfl, He.glo_ok X G (c.fact (List.mem_of_getElem? (i := 39) rfl)), a.binds rfl rfl bCheckTerms⟩
theorem hMerged (X : K.In h) (G : h.Ns mainGlobals mg) (c : SaysY NN h K) : Dn K mg "merged" sMerged pMerged := by
  obtain ⟨fd, a, kp⟩ := c.def_ (d := dMerged) (List.mem_of_getElem? (i := 6) rfl)
  exact ⟨_, fd, a.funD kp rfl, He.glo_ok X G (c.fact (List.mem_of_getElem? (i := 40) rfl)), a.binds rfl rfl bMerged⟩
theorem hTermText (X : K.In h) (G : h.Ns mainGlobals mg) (c : SaysY NN h K) : Dn K mg "term_text" sTermText pTermText := by
  obtain ⟨fd, a, kp⟩ := c.def_ (d := dTermText) (List.mem_of_getElem? (i := 7) rfl)
  exact ⟨_, fd, a.funD kp rfl, He.glo_ok X G (c.fact (List.mem_of_getElem? (i := 41) rfl)), a.binds rfl rfl bTermText⟩
theorem hTextOf (X : K.In h) (G : h.Ns mainGlobals mg) (c : SaysY NN h K) : Dn K mg "text_of" sTextOf pTextOf := by
  obtain ⟨fd, a, kp⟩ := c.def_ (d := dTextOf) (List.mem_of_getElem? (i := 8) rfl)
  exact ⟨_, fd, a.funD kp rfl, He.glo_ok X G (c.fact (List.mem_of_getElem? (i := 42) rfl)), a.binds rfl rfl bTextOf⟩
theorem hReadTerm (X : K.In h) (G : h.Ns mainGlobals mg) (c : SaysY NN h K) : Dn K mg "read_term" sReadTerm pReadTerm := by
  obtain ⟨fd, a, kp⟩ := c.def_ (d := dReadTerm) (List.mem_of_getElem? (i := 9) rfl)
  exact ⟨_, fd, a.funD kp rfl, He.glo_ok X G (c.fact (List.mem_of_getElem? (i := 43) rfl)), a.binds rfl rfl bReadTerm⟩
theorem hReadTerms (X : K.In h) (G : h.Ns mainGlobals mg) (c : SaysY NN h K) : Dn K mg "read_terms" sReadTerms pReadTerms := by
  obtain ⟨fd, a, kp⟩ := c.def_ (d := dReadTerms) (List.mem_of_getElem? (i := 10) rfl)
  exact ⟨_, fd, a.funD kp rfl, He.glo_ok X G (c.fact (List.mem_of_getElem? (i := 44) rfl)), a.binds rfl rfl bReadTerms⟩
theorem hCheckPipes (X : K.In h) (G : h.Ns mainGlobals mg) (c : SaysY NN h K) : Dn K mg "check_pipes" sCheckPipes pCheckPipes := by
  obtain ⟨fd, a, kp⟩ := c.def_ (d := dCheckPipes) (List.mem_of_getElem? (i := 23) rfl)
  exact ⟨_, fd, a.funD kp rfl, He.glo_ok X G (c.fact (List.mem_of_getElem? (i := 45) rfl)), a.binds rfl rfl bCheckPipes⟩
theorem hCheckMeters (X : K.In h) (G : h.Ns mainGlobals mg) (c : SaysY NN h K) : Dn K mg "check_meters" sCheckMeters pCheckMeters := by
  obtain ⟨fd, a, kp⟩ := c.def_ (d := dCheckMeters) (List.mem_of_getElem? (i := 24) rfl)
  exact ⟨_, fd, a.funD kp rfl, He.glo_ok X G (c.fact (List.mem_of_getElem? (i := 46) rfl)), a.binds rfl rfl bCheckMeters⟩
theorem hLineOf (X : K.In h) (G : h.Ns mainGlobals mg) (c : SaysY NN h K) : Dn K mg "line_of" sLineOf pLineOf := by
  obtain ⟨fd, a, kp⟩ := c.def_ (d := dLineOf) (List.mem_of_getElem? (i := 25) rfl)
  exact ⟨_, fd, a.funD kp rfl, He.glo_ok X G (c.fact (List.mem_of_getElem? (i := 47) rfl)), a.binds rfl rfl bLineOf⟩
theorem hItemOf (X : K.In h) (G : h.Ns mainGlobals mg) (c : SaysY NN h K) : Dn K mg "item_of" sItemOf pItemOf := by
  obtain ⟨fd, a, kp⟩ := c.def_ (d := dItemOf) (List.mem_of_getElem? (i := 26) rfl)
  exact ⟨_, fd, a.funD kp rfl, He.glo_ok X G (c.fact (List.mem_of_getElem? (i := 48) rfl)), a.binds rfl rfl bItemOf⟩
theorem hCheckNet (X : K.In h) (G : h.Ns mainGlobals mg) (c : SaysY NN h K) : Dn K mg "check_net" sCheckNet pCheckNet := by
  obtain ⟨fd, a, kp⟩ := c.def_ (d := dCheckNet) (List.mem_of_getElem? (i := 32) rfl)
  exact ⟨_, fd, a.funD kp rfl, He.glo_ok X G (c.fact (List.mem_of_getElem? (i := 49) rfl)), a.binds rfl rfl bCheckNet⟩
theorem hIsReading (X : K.In h) (G : h.Ns mainGlobals mg) (c : SaysY NN h K) : Dn K mg "is_reading" sIsReading pIsReading := by
  obtain ⟨fd, a, kp⟩ := c.def_ (d := dIsReading) (List.mem_of_getElem? (i := 33) rfl)
  exact ⟨_, fd, a.funD kp rfl, He.glo_ok X G (c.fact (List.mem_of_getElem? (i := 50) rfl)), a.binds rfl rfl bIsReading⟩
theorem hCheckReadings (X : K.In h) (G : h.Ns mainGlobals mg) (c : SaysY NN h K) : Dn K mg "check_readings" sCheckReadings pCheckReadings := by
  obtain ⟨fd, a, kp⟩ := c.def_ (d := dCheckReadings) (List.mem_of_getElem? (i := 34) rfl)
  exact ⟨_, fd, a.funD kp rfl, He.glo_ok X G (c.fact (List.mem_of_getElem? (i := 51) rfl)), a.binds rfl rfl bCheckReadings⟩
theorem hValueIn (X : K.In h) (G : h.Ns mainGlobals mg) (c : SaysY NN h K) : Dn K mg "value_in" sValueIn pValueIn := by
  obtain ⟨fd, a, kp⟩ := c.def_ (d := dValueIn) (List.mem_of_getElem? (i := 35) rfl)
  exact ⟨_, fd, a.funD kp rfl, He.glo_ok X G (c.fact (List.mem_of_getElem? (i := 52) rfl)), a.binds rfl rfl bValueIn⟩
theorem hSumWith (X : K.In h) (G : h.Ns mainGlobals mg) (c : SaysY NN h K) : Dn K mg "sum_with" sSumWith pSumWith := by
  obtain ⟨fd, a, kp⟩ := c.def_ (d := dSumWith) (List.mem_of_getElem? (i := 36) rfl)
  exact ⟨_, fd, a.funD kp rfl, He.glo_ok X G (c.fact (List.mem_of_getElem? (i := 53) rfl)), a.binds rfl rfl bSumWith⟩
theorem hGoalWith (X : K.In h) (G : h.Ns mainGlobals mg) (c : SaysY NN h K) : Dn K mg "goal_with" sGoalWith pGoalWith := by
  obtain ⟨fd, a, kp⟩ := c.def_ (d := dGoalWith) (List.mem_of_getElem? (i := 37) rfl)
  exact ⟨_, fd, a.funD kp rfl, He.glo_ok X G (c.fact (List.mem_of_getElem? (i := 54) rfl)), a.binds rfl rfl bGoalWith⟩
theorem hTestStep (X : K.In h) (G : h.Ns mainGlobals mg) (c : SaysY NN h K) : Dn K mg "test_step" sTestStep pTestStep := by
  obtain ⟨fd, a, kp⟩ := c.def_ (d := dTestStep) (List.mem_of_getElem? (i := 38) rfl)
  exact ⟨_, fd, a.funD kp rfl, He.glo_ok X G (c.fact (List.mem_of_getElem? (i := 55) rfl)), a.binds rfl rfl bTestStep⟩
theorem hVoteStep (X : K.In h) (G : h.Ns mainGlobals mg) (c : SaysY NN h K) : Dn K mg "vote_step" sVoteStep pVoteStep := by
  obtain ⟨fd, a, kp⟩ := c.def_ (d := dVoteStep) (List.mem_of_getElem? (i := 39) rfl)
  exact ⟨_, fd, a.funD kp rfl, He.glo_ok X G (c.fact (List.mem_of_getElem? (i := 56) rfl)), a.binds rfl rfl bVoteStep⟩
theorem hStepOf (X : K.In h) (G : h.Ns mainGlobals mg) (c : SaysY NN h K) : Dn K mg "step_of" sStepOf pStepOf := by
  obtain ⟨fd, a, kp⟩ := c.def_ (d := dStepOf) (List.mem_of_getElem? (i := 40) rfl)
  exact ⟨_, fd, a.funD kp rfl, He.glo_ok X G (c.fact (List.mem_of_getElem? (i := 57) rfl)), a.binds rfl rfl bStepOf⟩
theorem hSumsIn (X : K.In h) (G : h.Ns mainGlobals mg) (c : SaysY NN h K) : Dn K mg "sums_in" sSumsIn pSumsIn := by
  obtain ⟨fd, a, kp⟩ := c.def_ (d := dSumsIn) (List.mem_of_getElem? (i := 45) rfl)
  exact ⟨_, fd, a.funD kp rfl, He.glo_ok X G (c.fact (List.mem_of_getElem? (i := 58) rfl)), a.binds rfl rfl bSumsIn⟩
theorem hCheckRule (X : K.In h) (G : h.Ns mainGlobals mg) (c : SaysY NN h K) : Dn K mg "check_rule" sCheckRule pCheckRule := by
  obtain ⟨fd, a, kp⟩ := c.def_ (d := dCheckRule) (List.mem_of_getElem? (i := 46) rfl)
  exact ⟨_, fd, a.funD kp rfl, He.glo_ok X G (c.fact (List.mem_of_getElem? (i := 59) rfl)), a.binds rfl rfl bCheckRule⟩
theorem hIsSilent (X : K.In h) (G : h.Ns mainGlobals mg) (c : SaysY NN h K) : Dn K mg "is_silent" sIsSilent pIsSilent := by
  obtain ⟨fd, a, kp⟩ := c.def_ (d := dIsSilent) (List.mem_of_getElem? (i := 47) rfl)
  exact ⟨_, fd, a.funD kp rfl, He.glo_ok X G (c.fact (List.mem_of_getElem? (i := 60) rfl)), a.binds rfl rfl bIsSilent⟩
theorem hVoteEnd (X : K.In h) (G : h.Ns mainGlobals mg) (c : SaysY NN h K) : Dn K mg "vote_end" sVoteEnd pVoteEnd := by
  obtain ⟨fd, a, kp⟩ := c.def_ (d := dVoteEnd) (List.mem_of_getElem? (i := 48) rfl)
  exact ⟨_, fd, a.funD kp rfl, He.glo_ok X G (c.fact (List.mem_of_getElem? (i := 61) rfl)), a.binds rfl rfl bVoteEnd⟩
theorem hRun (X : K.In h) (G : h.Ns mainGlobals mg) (c : SaysY NN h K) : Dn K mg "run" sRun pRun := by
  obtain ⟨fd, a, kp⟩ := c.def_ (d := dRun) (List.mem_of_getElem? (i := 49) rfl)
  exact ⟨_, fd, a.funD kp rfl, He.glo_ok X G (c.fact (List.mem_of_getElem? (i := 62) rfl)), a.binds rfl rfl bRun⟩
theorem hLawSpring (X : K.In h) (G : h.Ns mainGlobals mg) (c : SaysY NN h K) : Dn K mg "_law_spring" sLawSpring pLawSpring := by
  obtain ⟨fd, a, kp⟩ := c.def_ (d := dLawSpring) (List.mem_of_getElem? (i := 51) rfl)
  exact ⟨_, fd, a.funD kp rfl, He.glo_ok X G (c.fact (List.mem_of_getElem? (i := 64) rfl)), a.binds rfl rfl bLawSpring⟩
theorem hLawTake (X : K.In h) (G : h.Ns mainGlobals mg) (c : SaysY NN h K) : Dn K mg "_law_take" sLawTake pLawTake := by
  obtain ⟨fd, a, kp⟩ := c.def_ (d := dLawTake) (List.mem_of_getElem? (i := 52) rfl)
  exact ⟨_, fd, a.funD kp rfl, He.glo_ok X G (c.fact (List.mem_of_getElem? (i := 65) rfl)), a.binds rfl rfl bLawTake⟩
theorem hLawTitles (X : K.In h) (G : h.Ns mainGlobals mg) (c : SaysY NN h K) : Dn K mg "_law_titles" sLawTitles pLawTitles := by
  obtain ⟨fd, a, kp⟩ := c.def_ (d := dLawTitles) (List.mem_of_getElem? (i := 53) rfl)
  exact ⟨_, fd, a.funD kp rfl, He.glo_ok X G (c.fact (List.mem_of_getElem? (i := 66) rfl)), a.binds rfl rfl bLawTitles⟩
theorem hLawPlan (X : K.In h) (G : h.Ns mainGlobals mg) (c : SaysY NN h K) : Dn K mg "_law_plan" sLawPlan pLawPlan := by
  obtain ⟨fd, a, kp⟩ := c.def_ (d := dLawPlan) (List.mem_of_getElem? (i := 54) rfl)
  exact ⟨_, fd, a.funD kp rfl, He.glo_ok X G (c.fact (List.mem_of_getElem? (i := 67) rfl)), a.binds rfl rfl bLawPlan⟩
theorem hLawGrid (X : K.In h) (G : h.Ns mainGlobals mg) (c : SaysY NN h K) : Dn K mg "_law_grid" sLawGrid pLawGrid := by
  obtain ⟨fd, a, kp⟩ := c.def_ (d := dLawGrid) (List.mem_of_getElem? (i := 55) rfl)
  exact ⟨_, fd, a.funD kp rfl, He.glo_ok X G (c.fact (List.mem_of_getElem? (i := 68) rfl)), a.binds rfl rfl bLawGrid⟩
theorem hLawPath (X : K.In h) (G : h.Ns mainGlobals mg) (c : SaysY NN h K) : Dn K mg "_law_path" sLawPath pLawPath := by
  obtain ⟨fd, a, kp⟩ := c.def_ (d := dLawPath) (List.mem_of_getElem? (i := 56) rfl)
  exact ⟨_, fd, a.funD kp rfl, He.glo_ok X G (c.fact (List.mem_of_getElem? (i := 69) rfl)), a.binds rfl rfl bLawPath⟩
theorem hLawRings (X : K.In h) (G : h.Ns mainGlobals mg) (c : SaysY NN h K) : Dn K mg "_law_rings" sLawRings pLawRings := by
  obtain ⟨fd, a, kp⟩ := c.def_ (d := dLawRings) (List.mem_of_getElem? (i := 57) rfl)
  exact ⟨_, fd, a.funD kp rfl, He.glo_ok X G (c.fact (List.mem_of_getElem? (i := 70) rfl)), a.binds rfl rfl bLawRings⟩
theorem hLawNumber (X : K.In h) (G : h.Ns mainGlobals mg) (c : SaysY NN h K) : Dn K mg "_law_number" sLawNumber pLawNumber := by
  obtain ⟨fd, a, kp⟩ := c.def_ (d := dLawNumber) (List.mem_of_getElem? (i := 58) rfl)
  exact ⟨_, fd, a.funD kp rfl, He.glo_ok X G (c.fact (List.mem_of_getElem? (i := 71) rfl)), a.binds rfl rfl bLawNumber⟩
theorem hLawFlow (X : K.In h) (G : h.Ns mainGlobals mg) (c : SaysY NN h K) : Dn K mg "_law_flow" sLawFlow pLawFlow := by
  obtain ⟨fd, a, kp⟩ := c.def_ (d := dLawFlow) (List.mem_of_getElem? (i := 59) rfl)
  exact ⟨_, fd, a.funD kp rfl, He.glo_ok X G (c.fact (List.mem_of_getElem? (i := 72) rfl)), a.binds rfl rfl bLawFlow⟩
theorem hLawTimes (X : K.In h) (G : h.Ns mainGlobals mg) (c : SaysY NN h K) : Dn K mg "_law_times" sLawTimes pLawTimes := by
  obtain ⟨fd, a, kp⟩ := c.def_ (d := dLawTimes) (List.mem_of_getElem? (i := 60) rfl)
  exact ⟨_, fd, a.funD kp rfl, He.glo_ok X G (c.fact (List.mem_of_getElem? (i := 73) rfl)), a.binds rfl rfl bLawTimes⟩
theorem hLawTotal (X : K.In h) (G : h.Ns mainGlobals mg) (c : SaysY NN h K) : Dn K mg "_law_total" sLawTotal pLawTotal := by
  obtain ⟨fd, a, kp⟩ := c.def_ (d := dLawTotal) (List.mem_of_getElem? (i := 61) rfl)
  exact ⟨_, fd, a.funD kp rfl, He.glo_ok X G (c.fact (List.mem_of_getElem? (i := 74) rfl)), a.binds rfl rfl bLawTotal⟩
theorem hLawSteps (X : K.In h) (G : h.Ns mainGlobals mg) (c : SaysY NN h K) : Dn K mg "_law_steps" sLawSteps pLawSteps := by
  obtain ⟨fd, a, kp⟩ := c.def_ (d := dLawSteps) (List.mem_of_getElem? (i := 62) rfl)
  exact ⟨_, fd, a.funD kp rfl, He.glo_ok X G (c.fact (List.mem_of_getElem? (i := 75) rfl)), a.binds rfl rfl bLawSteps⟩
theorem hLawPick (X : K.In h) (G : h.Ns mainGlobals mg) (c : SaysY NN h K) : Dn K mg "_law_pick" sLawPick pLawPick := by
  obtain ⟨fd, a, kp⟩ := c.def_ (d := dLawPick) (List.mem_of_getElem? (i := 63) rfl)
  exact ⟨_, fd, a.funD kp rfl, He.glo_ok X G (c.fact (List.mem_of_getElem? (i := 76) rfl)), a.binds rfl rfl bLawPick⟩
theorem hLawLast (X : K.In h) (G : h.Ns mainGlobals mg) (c : SaysY NN h K) : Dn K mg "_law_last" sLawLast pLawLast := by
  obtain ⟨fd, a, kp⟩ := c.def_ (d := dLawLast) (List.mem_of_getElem? (i := 64) rfl)
  exact ⟨_, fd, a.funD kp rfl, He.glo_ok X G (c.fact (List.mem_of_getElem? (i := 77) rfl)), a.binds rfl rfl bLawLast⟩
theorem hLawTold (X : K.In h) (G : h.Ns mainGlobals mg) (c : SaysY NN h K) : Dn K mg "_law_told" sLawTold pLawTold := by
  obtain ⟨fd, a, kp⟩ := c.def_ (d := dLawTold) (List.mem_of_getElem? (i := 65) rfl)
  exact ⟨_, fd, a.funD kp rfl, He.glo_ok X G (c.fact (List.mem_of_getElem? (i := 78) rfl)), a.binds rfl rfl bLawTold⟩
theorem hLawLine (X : K.In h) (G : h.Ns mainGlobals mg) (c : SaysY NN h K) : Dn K mg "_law_line" sLawLine pLawLine := by
  obtain ⟨fd, a, kp⟩ := c.def_ (d := dLawLine) (List.mem_of_getElem? (i := 66) rfl)
  exact ⟨_, fd, a.funD kp rfl, He.glo_ok X G (c.fact (List.mem_of_getElem? (i := 79) rfl)), a.binds rfl rfl bLawLine⟩
theorem hLawWorth (X : K.In h) (G : h.Ns mainGlobals mg) (c : SaysY NN h K) : Dn K mg "_law_worth" sLawWorth pLawWorth := by
  obtain ⟨fd, a, kp⟩ := c.def_ (d := dLawWorth) (List.mem_of_getElem? (i := 67) rfl)
  exact ⟨_, fd, a.funD kp rfl, He.glo_ok X G (c.fact (List.mem_of_getElem? (i := 80) rfl)), a.binds rfl rfl bLawWorth⟩
theorem hLawVoted (X : K.In h) (G : h.Ns mainGlobals mg) (c : SaysY NN h K) : Dn K mg "_law_voted" sLawVoted pLawVoted := by
  obtain ⟨fd, a, kp⟩ := c.def_ (d := dLawVoted) (List.mem_of_getElem? (i := 68) rfl)
  exact ⟨_, fd, a.funD kp rfl, He.glo_ok X G (c.fact (List.mem_of_getElem? (i := 81) rfl)), a.binds rfl rfl bLawVoted⟩
theorem hLawRun (X : K.In h) (G : h.Ns mainGlobals mg) (c : SaysY NN h K) : Dn K mg "_law_run" sLawRun pLawRun := by
  obtain ⟨fd, a, kp⟩ := c.def_ (d := dLawRun) (List.mem_of_getElem? (i := 69) rfl)
  exact ⟨_, fd, a.funD kp rfl, He.glo_ok X G (c.fact (List.mem_of_getElem? (i := 82) rfl)), a.binds rfl rfl bLawRun⟩
theorem hLawSeen (X : K.In h) (G : h.Ns mainGlobals mg) (c : SaysY NN h K) : Dn K mg "_law_seen" sLawSeen pLawSeen := by
  obtain ⟨fd, a, kp⟩ := c.def_ (d := dLawSeen) (List.mem_of_getElem? (i := 70) rfl)
  exact ⟨_, fd, a.funD kp rfl, He.glo_ok X G (c.fact (List.mem_of_getElem? (i := 83) rfl)), a.binds rfl rfl bLawSeen⟩
theorem hLawRight (X : K.In h) (G : h.Ns mainGlobals mg) (c : SaysY NN h K) : Dn K mg "_law_right" sLawRight pLawRight := by
  obtain ⟨fd, a, kp⟩ := c.def_ (d := dLawRight) (List.mem_of_getElem? (i := 71) rfl)
  exact ⟨_, fd, a.funD kp rfl, He.glo_ok X G (c.fact (List.mem_of_getElem? (i := 84) rfl)), a.binds rfl rfl bLawRight⟩
theorem hLaw (X : K.In h) (G : h.Ns mainGlobals mg) (c : SaysY NN h K) : Dn K mg "law" sLaw pLaw := by
  obtain ⟨fd, a, kp⟩ := c.def_ (d := dLaw) (List.mem_of_getElem? (i := 72) rfl)
  exact ⟨_, fd, a.funD kp rfl, He.glo_ok X G (c.fact (List.mem_of_getElem? (i := 85) rfl)), a.binds rfl rfl bLaw⟩
theorem hSumTerms (c : SaysY NN h K) : PrD K (csOf K).sum "terms" "Sum.terms" sSumTerms pSumTerms := by
  obtain ⟨fd, a, kp⟩ := c.def_ (d := dSumTerms) (List.mem_of_getElem? (i := 13) rfl)
  exact ⟨_, _, fd, He.cls_ok (c.fact (List.mem_of_getElem? (i := 86) rfl)), prop_of c (List.mem_of_getElem? (i := 10) rfl), ⟨⟨_, _, a.funD kp rfl⟩, a.binds rfl rfl bSumTerms⟩⟩
theorem hSumNames (c : SaysY NN h K) : PrD K (csOf K).sum "names" "Sum.names" sSumNames pSumNames := by
  obtain ⟨fd, a, kp⟩ := c.def_ (d := dSumNames) (List.mem_of_getElem? (i := 14) rfl)
  exact ⟨_, _, fd, He.cls_ok (c.fact (List.mem_of_getElem? (i := 86) rfl)), prop_of c (List.mem_of_getElem? (i := 11) rfl), ⟨⟨_, _, a.funD kp rfl⟩, a.binds rfl rfl bSumNames⟩⟩
theorem hPipeName (c : SaysY NN h K) : PrD K (csOf K).pipe "name" "Pipe.name" sPipeName pPipeName := by
  obtain ⟨fd, a, kp⟩ := c.def_ (d := dPipeName) (List.mem_of_getElem? (i := 16) rfl)
  exact ⟨_, _, fd, He.cls_ok (c.fact (List.mem_of_getElem? (i := 87) rfl)), prop_of c (List.mem_of_getElem? (i := 12) rfl), ⟨⟨_, _, a.funD kp rfl⟩, a.binds rfl rfl bPipeName⟩⟩
theorem hPipeStart (c : SaysY NN h K) : PrD K (csOf K).pipe "start" "Pipe.start" sPipeStart pPipeStart := by
  obtain ⟨fd, a, kp⟩ := c.def_ (d := dPipeStart) (List.mem_of_getElem? (i := 17) rfl)
  exact ⟨_, _, fd, He.cls_ok (c.fact (List.mem_of_getElem? (i := 87) rfl)), prop_of c (List.mem_of_getElem? (i := 13) rfl), ⟨⟨_, _, a.funD kp rfl⟩, a.binds rfl rfl bPipeStart⟩⟩
theorem hPipeEnd (c : SaysY NN h K) : PrD K (csOf K).pipe "end" "Pipe.end" sPipeEnd pPipeEnd := by
  obtain ⟨fd, a, kp⟩ := c.def_ (d := dPipeEnd) (List.mem_of_getElem? (i := 18) rfl)
  exact ⟨_, _, fd, He.cls_ok (c.fact (List.mem_of_getElem? (i := 87) rfl)), prop_of c (List.mem_of_getElem? (i := 14) rfl), ⟨⟨_, _, a.funD kp rfl⟩, a.binds rfl rfl bPipeEnd⟩⟩
theorem hMeterName (c : SaysY NN h K) : PrD K (csOf K).meter "name" "Meter.name" sMeterName pMeterName := by
  obtain ⟨fd, a, kp⟩ := c.def_ (d := dMeterName) (List.mem_of_getElem? (i := 20) rfl)
  exact ⟨_, _, fd, He.cls_ok (c.fact (List.mem_of_getElem? (i := 88) rfl)), prop_of c (List.mem_of_getElem? (i := 15) rfl), ⟨⟨_, _, a.funD kp rfl⟩, a.binds rfl rfl bMeterName⟩⟩
theorem hMeterAt (c : SaysY NN h K) : PrD K (csOf K).meter "at" "Meter.at" sMeterAt pMeterAt := by
  obtain ⟨fd, a, kp⟩ := c.def_ (d := dMeterAt) (List.mem_of_getElem? (i := 21) rfl)
  exact ⟨_, _, fd, He.cls_ok (c.fact (List.mem_of_getElem? (i := 88) rfl)), prop_of c (List.mem_of_getElem? (i := 16) rfl), ⟨⟨_, _, a.funD kp rfl⟩, a.binds rfl rfl bMeterAt⟩⟩
theorem hMeterSealed (c : SaysY NN h K) : PrD K (csOf K).meter "sealed" "Meter.sealed" sMeterSealed pMeterSealed := by
  obtain ⟨fd, a, kp⟩ := c.def_ (d := dMeterSealed) (List.mem_of_getElem? (i := 22) rfl)
  exact ⟨_, _, fd, He.cls_ok (c.fact (List.mem_of_getElem? (i := 88) rfl)), prop_of c (List.mem_of_getElem? (i := 17) rfl), ⟨⟨_, _, a.funD kp rfl⟩, a.binds rfl rfl bMeterSealed⟩⟩
theorem hNetMeters (c : SaysY NN h K) : PrD K (csOf K).net "meters" "Net.meters" sNetMeters pNetMeters := by
  obtain ⟨fd, a, kp⟩ := c.def_ (d := dNetMeters) (List.mem_of_getElem? (i := 29) rfl)
  exact ⟨_, _, fd, He.cls_ok (c.fact (List.mem_of_getElem? (i := 89) rfl)), prop_of c (List.mem_of_getElem? (i := 18) rfl), ⟨⟨_, _, a.funD kp rfl⟩, a.binds rfl rfl bNetMeters⟩⟩
theorem hRuleRows (c : SaysY NN h K) : PrD K (csOf K).rule "rows" "Rule.rows" sRuleRows pRuleRows := by
  obtain ⟨fd, a, kp⟩ := c.def_ (d := dRuleRows) (List.mem_of_getElem? (i := 43) rfl)
  exact ⟨_, _, fd, He.cls_ok (c.fact (List.mem_of_getElem? (i := 90) rfl)), prop_of c (List.mem_of_getElem? (i := 19) rfl), ⟨⟨_, _, a.funD kp rfl⟩, a.binds rfl rfl bRuleRows⟩⟩
theorem hRuleMeters (c : SaysY NN h K) : PrD K (csOf K).rule "meters" "Rule.meters" sRuleMeters pRuleMeters := by
  obtain ⟨fd, a, kp⟩ := c.def_ (d := dRuleMeters) (List.mem_of_getElem? (i := 44) rfl)
  exact ⟨_, _, fd, He.cls_ok (c.fact (List.mem_of_getElem? (i := 90) rfl)), prop_of c (List.mem_of_getElem? (i := 20) rfl), ⟨⟨_, _, a.funD kp rfl⟩, a.binds rfl rfl bRuleMeters⟩⟩
theorem hSumRead (c : SaysY NN h K) : CmD K (csOf K).sum "read" "Sum.read" sSumRead pSumRead := by
  obtain ⟨fd, a, kp⟩ := c.def_ (d := dSumRead) (List.mem_of_getElem? (i := 12) rfl)
  obtain ⟨r1, r2⟩ := cm_of c (List.mem_of_getElem? (i := 21) rfl)
  exact ⟨_, _, _, fd, r1, r2, ⟨⟨_, _, a.funD kp rfl⟩, a.binds rfl rfl bSumRead⟩⟩
theorem hNetRead (c : SaysY NN h K) : CmD K (csOf K).net "read" "Net.read" sNetRead pNetRead := by
  obtain ⟨fd, a, kp⟩ := c.def_ (d := dNetRead) (List.mem_of_getElem? (i := 28) rfl)
  obtain ⟨r1, r2⟩ := cm_of c (List.mem_of_getElem? (i := 22) rfl)
  exact ⟨_, _, _, fd, r1, r2, ⟨⟨_, _, a.funD kp rfl⟩, a.binds rfl rfl bNetRead⟩⟩
theorem hRuleRead (c : SaysY NN h K) : CmD K (csOf K).rule "read" "Rule.read" sRuleRead pRuleRead := by
  obtain ⟨fd, a, kp⟩ := c.def_ (d := dRuleRead) (List.mem_of_getElem? (i := 42) rfl)
  obtain ⟨r1, r2⟩ := cm_of c (List.mem_of_getElem? (i := 23) rfl)
  exact ⟨_, _, _, fd, r1, r2, ⟨⟨_, _, a.funD kp rfl⟩, a.binds rfl rfl bRuleRead⟩⟩
theorem hNetContains (c : SaysY NN h K) : OwD K (csOf K).net "__contains__" "Net.__contains__" sNetContains pNetContains := by
  obtain ⟨fd, a, kp⟩ := c.def_ (d := dNetContains) (List.mem_of_getElem? (i := 30) rfl)
  have m := He.meth_ok (c.fact (f := .meth "Net" "__contains__") (List.mem_of_getElem? (i := 103) rfl))
  exact ⟨_, fd, m.1, m.2, ⟨⟨_, _, a.funD kp rfl⟩, a.binds rfl rfl bNetContains⟩⟩
theorem hNetStr (c : SaysY NN h K) : OwD K (csOf K).net "__str__" "Net.__str__" sNetStr pNetStr := by
  obtain ⟨fd, a, kp⟩ := c.def_ (d := dNetStr) (List.mem_of_getElem? (i := 31) rfl)
  have m := He.meth_ok (c.fact (f := .meth "Net" "__str__") (List.mem_of_getElem? (i := 104) rfl))
  exact ⟨_, fd, m.1, m.2, ⟨⟨_, _, a.funD kp rfl⟩, a.binds rfl rfl bNetStr⟩⟩
theorem hSumInit (X : K.In h) (G : h.Ns mainGlobals mg) (c : SaysY NN h K) : MkD K mg "Sum" (csOf K).sum "Sum.__init__" sSumInit pSumInit := by
  obtain ⟨fd, a, kp⟩ := c.def_ (d := dSumInit) (List.mem_of_getElem? (i := 11) rfl)
  obtain ⟨e, F⟩ := a.funD1 kp rfl
  exact ⟨_, fd, He.mkr_ok (c.fact (List.mem_of_getElem? (i := 98) rfl)), ⟨⟨_, _, F⟩, binds_one F bSumInit⟩, He.glo_ok X G (c.fact (List.mem_of_getElem? (i := 29) rfl))⟩
theorem hPipeInit (X : K.In h) (G : h.Ns mainGlobals mg) (c : SaysY NN h K) : MkD K mg "Pipe" (csOf K).pipe "Pipe.__init__" sPipeInit pPipeInit := by
  obtain ⟨fd, a, kp⟩ := c.def_ (d := dPipeInit) (List.mem_of_getElem? (i := 15) rfl)
  exact ⟨_, fd, He.mkr_ok (c.fact (List.mem_of_getElem? (i := 99) rfl)), ⟨⟨_, _, a.funD kp rfl⟩, a.binds rfl rfl bPipeInit⟩, He.glo_ok X G (c.fact (List.mem_of_getElem? (i := 30) rfl))⟩
theorem hMeterInit (X : K.In h) (G : h.Ns mainGlobals mg) (c : SaysY NN h K) : MkKD K mg 2 ["sealed"] "Meter" (csOf K).meter "Meter.__init__" sMeterInit pMeterInit := by
  obtain ⟨fd, a, kp⟩ := c.def_ (d := dMeterInit) (List.mem_of_getElem? (i := 19) rfl)
  refine ⟨_, fd, fun us ws => us ++ ws, _, _, He.mkr_ok (c.fact (List.mem_of_getElem? (i := 100) rfl)), a.funD kp rfl, He.glo_ok X G (c.fact (List.mem_of_getElem? (i := 31) rfl)), ?_⟩
  obtain ⟨oc, od, dV, kV, doc, pm, an, cdv, ct, osl, rfl, _, _, _, d0, _⟩ := a
  have e := d0 rfl
  subst e
  refine ⟨fun s us ws _ hu hw => ?_, fun h1 h2 => h1.append h2⟩
  match us, ws, hu, hw with
  | [x, y, z], [t], _, _ => exact .of_eq rfl
theorem hNetInit (X : K.In h) (G : h.Ns mainGlobals mg) (c : SaysY NN h K) : MkD K mg "Net" (csOf K).net "Net.__init__" sNetInit pNetInit := by
  obtain ⟨fd, a, kp⟩ := c.def_ (d := dNetInit) (List.mem_of_getElem? (i := 27) rfl)
  obtain ⟨e, F⟩ := a.funD1 kp rfl
  exact ⟨_, fd, He.mkr_ok (c.fact (List.mem_of_getElem? (i := 101) rfl)), ⟨⟨_, _, F⟩, binds_one F bNetInit⟩, He.glo_ok X G (c.fact (List.mem_of_getElem? (i := 32) rfl))⟩
theorem hRuleInit (X : K.In h) (G : h.Ns mainGlobals mg) (c : SaysY NN h K) : MkD K mg "Rule" (csOf K).rule "Rule.__init__" sRuleInit pRuleInit := by
  obtain ⟨fd, a, kp⟩ := c.def_ (d := dRuleInit) (List.mem_of_getElem? (i := 41) rfl)
  exact ⟨_, fd, He.mkr_ok (c.fact (List.mem_of_getElem? (i := 102) rfl)), ⟨⟨_, _, a.funD kp rfl⟩, a.binds rfl rfl bRuleInit⟩, He.glo_ok X G (c.fact (List.mem_of_getElem? (i := 33) rfl))⟩
theorem hOutcome (X : K.In h) (G : h.Ns mainGlobals mg) (c : SaysY NN h K) : DnO K mg (NN.tab K).1 := by
  obtain ⟨fd, a, kp⟩ := c.def_ (d := dOutcome) (List.mem_of_getElem? (i := 50) rfl)
  obtain ⟨oc, od, dV, kV, doc, pm, an, cdv, ct, osl, rfl, lk, cd, k0, d0, _⟩ := a
  have e := k0 rfl
  have e2 := d0 rfl
  subst e e2
  obtain ⟨cc, rfl⟩ := He.codeIn_ref cd
  have ec : (NN.tab K).1 = cc := He.codeOf_eq (p := ("outcome", none)) lk rfl
  rw [ec]
  exact ⟨_, oc, od, .none, .none, doc, pm, an, ct, osl, lk, cd, kp, He.glo_ok X G (c.fact (List.mem_of_getElem? (i := 63) rfl)), kb0, kbA, kbB⟩
end
end Rv
end

section
set_option Elab.async false
set_option autoImplicit false
set_option linter.all false
set_option maxRecDepth 100000
set_option maxHeartbeats 4000000
/-! RvWk: the end of the row for a law whose def is known to run under no guards. -/
namespace Rv
open PySem PySem.Spec PyProof.Rows L2 LamX NdefX
section
variable {P : Program} {w : World} {K : PySem.W.Frag} {mg mb : Str → Option Value} {k : Nat} {fa a c PT : Addr} {fd : FuncData} {x : Str} {sp : Sp} {s1 : Shared} {vs : List Value} {ns : List Int}
/-- what is tracked at the law's entry: the table, and the script where the text does not hold it -/
def H0 (K : PySem.W.Frag) (PT a : Addr) (o : Obj) (ns : List Int) : Hp := fun b => if b = PT then some (.tbl #[]) else if b = a ∧ K.lookup a = none then some (.frz o (.lst (ns.map V.int))) else none
theorem H0_cases {o : Obj} {b : Addr} {u : HO} (h : H0 K PT a o ns b = some u) : (b = PT ∧ u = .tbl #[]) ∨ (b = a ∧ K.lookup a = none ∧ u = .frz o (.lst (ns.map V.int))) := by
  unfold H0 at h
  by_cases e : b = PT
  · rw [if_pos e] at h; cases h; exact .inl ⟨e, rfl⟩
  · rw [if_neg e] at h
    by_cases e2 : b = a ∧ K.lookup a = none
    · rw [if_pos e2] at h; cases h; exact .inr ⟨e2.1, e2.2, rfl⟩
    · rw [if_neg e2] at h; cases h
theorem law_callG (KX : K.In s1.heap) (hns : s1.heap.Ns mainGlobals mg) (hb : s1.heap.Ns builtinsNs mb) (hbb : ∀ x : Str, x ≠ "__name__" → mb x = bootBuiltins x) (hlim : s1.heap.NoLimit) (hg : s1.gens = #[])
    (hT : s1.heap.get? PT = some { cls := .none, data := .fields #[] }) (nT : K.lookup PT = none) (C : PySem.W.CodeHd s1.heap c PT)
    (hbm : ∃ (bm : Addr) (ob : Obj), mg "__builtins__" = some (.ref bm) ∧ bm ≠ builtinsNs ∧ s1.heap.get? bm = some ob ∧ ob.cls = .type "module" ∧ ob.dict = some builtinsNs ∧ ob.data = .plain)
    (ha : s1.heap.get? a = some { cls := .type "list", data := .seq vs.toArray }) (hi : IntsAre vs ns) (hl : ns.length ≤ sizeLine) (hr : Room k callerA)
    (F : ∀ base : Heap, K.In base → base.Ns mainGlobals mg → TabB base mg c PT → FnOkG P w K mg base k fa fd [x] sp) (hbind : ∀ (s : Shared) (u : Value), BindsTo s fd ⟨[u], []⟩ [(x, u)])
    (hsp : ∀ H : Hp, H PT = some (.tbl #[]) → SqL K H a (ns.map V.int) → sp [.ref a] H (fun v _ => v = .bl true) E0) :
    codeAny (model P w) callerA (.call (.ref fa) ⟨[.ref a], []⟩) (fun r s' => r = .ok (.ret (.bool true)) ∧ OldK s1.heap s'.heap ∧ s'.os = s1.os ∧ AllBare s'.gens) s1 := by
  have rv := vals_ints hi
  have lv := hi.length
  have nPa : PT ≠ a := fun e => by
    rw [e, ha] at hT
    have z : Data.seq vs.toArray _ = Data.fields #[] := congrArg Obj.data (Option.some.inj hT)
    cases z
  let o : Obj := { cls := .type "list", data := .seq vs.toArray }
  let H := H0 K PT a o ns
  have hP : H PT = some (.tbl #[]) := if_pos rfl
  have hfree : ∀ b, b ≠ PT → (b = a → K.lookup a ≠ none) → H b = none := fun b e1 e2 => by
    cases q : H b with
    | none => rfl
    | some u =>
      rcases H0_cases q with ⟨z, _⟩ | ⟨z, z2, _⟩
      · exact absurd z e1
      · exact absurd z2 (e2 z)
  have hS : SqL K H a (ns.map V.int) := by
    cases q : K.lookup a with
    | none => exact .inl (.inr ⟨o, (if_neg nPa.symm).trans (if_pos ⟨rfl, q⟩)⟩)
    | some u =>
      have e := KX a u q
      rw [ha] at e
      cases e
      exact .inr ⟨_, vs.toArray, _, q, rfl, rfl, rfl, by rw [List.size_toArray, lv]; exact hl, by simpa using rv⟩
  have hok : HOk P w H s1.heap := fun b u q => by
    rcases H0_cases q with ⟨e, e2⟩ | ⟨e, _, e2⟩
    · subst e e2
      exact hT
    · subst e e2
      exact ⟨ha, by rw [List.length_map]; exact hl, vs, _, rv, ha⟩
  -- a thing that is neither a list nor an empty record is not tracked
  have off : ∀ {b : Addr} {u : Obj}, s1.heap.get? b = some u → (∀ l m, u.data ≠ .seq l m) → u.data ≠ .fields #[] → H b = none := fun {b u} e d1 d2 => hfree b (fun z => by
      rw [z, hT] at e; cases e; exact d2 rfl) fun z => by
      rw [z, ha] at e; cases e; exact absurd rfl (d1 _ _)
  have up : ∀ {b : Addr} {u : Obj}, s1.heap.get? b = some u → H b = none → (hidT s1.heap H).get? b = some u := fun e n => hidT_get e n
  have nsU : ∀ {b : Addr} {m : Str → Option Value}, s1.heap.Ns b m → (hidT s1.heap H).Ns b m := fun {b m} ⟨u, es, ep, e, d, r⟩ => ⟨u, es, ep, up e (off e (fun l m z => by rw [d] at z; cases z) fun z => by rw [d] at z; cases z), d, r⟩
  have hK : K.In (hidT s1.heap H) := fun b u e => up (KX b u e) (hfree b (fun z => by rw [z, nT] at e; cases e) fun z => by rw [← z, e]; simp)
  obtain ⟨mc, hm1, hm2⟩ := hlim
  have hM : L2.Mod K mg (hidT s1.heap H) := ⟨hK, nsU hns, ⟨mb, nsU hb, hbb⟩, ⟨mc, nsU hm1, hm2⟩⟩
  have TB : TabB (hidT s1.heap H) mg c PT := by
    refine ⟨?_, ?_, fun z => ?_⟩
    · obtain ⟨u, us, fl, tf, gs, tg, inF, tx, tt, e1, r1, r2, r3, r4, r5, r6, r7, r8, ne⟩ := C
      refine ⟨u, us, fl, tf, gs, tg, inF, tx, tt, up e1 (off e1 (fun l m z => by rw [r2] at z; cases z) fun z => ?_), r1, r2, r3, r4, r5, r6, r7, r8, ne⟩
      rw [r2] at z
      cases z
      simp at r3
    · obtain ⟨bm, ob, b1, b2, b3, b4, b5, b6⟩ := hbm
      refine ⟨bm, ob, b1, b2, fun q => ?_, fun q => ?_, up b3 (off b3 (fun l m z => by rw [b6] at z; cases z) fun z => by rw [b6] at z; cases z), b4, b5, b6⟩
      · obtain ⟨u, es, ep, e, hd, _⟩ := hns
        rw [q, e] at b3; cases b3
        rw [hd] at b6; cases b6
      · rw [q, hT] at b3; cases b3
        cases b6
    · obtain ⟨u, es, ep, e, hd, _⟩ := hns
      rw [z, hT] at e; cases e
      cases hd
  have e0 : Env0 P w K mg (hidT s1.heap H) callerA [] s1 H := ⟨rfl, hM, fun b u e => of_hidT e, Nat.le_of_eq (hidT_size _ _), trivial, fun b hb => absurd (show b ∈ ([] : List Addr) from hb) (by simp), hok, .of_eq hg⟩
  refine codeAny_mono ((F _ hK (nsU hns) TB).run callerA [] s1 H ⟨[.ref a], []⟩ [.ref a] [.ref a] _ _ hr rfl e0 (hbind s1 (.ref a)) (.cons rfl .nil) (hsp H hP hS)) fun r s' h => ?_
  cases r with
  | error e => exact False.elim h
  | ok fl =>
    cases fl with
    | next => exact False.elim h
    | brk => exact False.elim h
    | cont => exact False.elim h
    | ret u =>
      obtain ⟨v, H', os, bare, un, hok', r', q⟩ := h
      have q' : v = .bl true := q
      subst q'
      obtain rfl : u = Value.bool true := r'
      obtain ⟨more, hmore⟩ := un.tbls PT #[] hP
      have hgrown : s'.heap.get? PT = some { cls := .none, data := .fields (#[] ++ more) } := hok' PT _ hmore
      have key : ∀ b u, b ≠ PT → s1.heap.get? b = some u → s'.heap.get? b = some u := fun b u nb e => by
        cases q : H b with
        | none => exact un.keep b u e q (by intro z; exact absurd (show b ∈ ([] : List Addr) from z) (by simp)) (by simp)
        | some t =>
          rcases H0_cases q with ⟨z, _⟩ | ⟨z, _, z2⟩
          · exact absurd z nb
          · subst z z2
            obtain ⟨e2, _⟩ := hok' b _ (un.frzs b o _ q)
            rw [ha] at e; cases e
            exact e2
      refine ⟨rfl, ⟨fun b u e => ?_, fun b u e => ?_⟩, os, bare⟩
      · by_cases hb : b = PT
        · subst hb
          rw [hT] at e; cases e
          exact .inr (.inl ⟨(C.tab hT).isCodeTable, rfl, #[], more, rfl, hgrown⟩)
        · exact .inl (key b u hb e)
      · by_cases hb : b = PT
        · subst hb; exact ⟨_, hgrown⟩
        · exact ⟨u, key b u hb e⟩
end
/-- what the head tells of the law's def -/
def LawAtG (l : PySem.W.OpenLaw) (w : World) (K : PySem.W.Frag) (k n : Nat) (x : Str) (mg : Str → Option Value) (fa : Addr) (h : Heap) : Prop :=
  ∃ (fd : FuncData) (c PT : Addr) (sp : Sp), h.get? PT = some { cls := .none, data := .fields #[] } ∧ K.lookup PT = none ∧ PySem.W.CodeHd h c PT ∧ (∀ (s : Shared) (u : Value), BindsTo s fd ⟨[u], []⟩ [(x, u)]) ∧
    (∀ (H : Hp) (a : Addr) (ns : List Int), H PT = some (.tbl #[]) → SqL K H a (ns.map V.int) → sp [.ref a] H (fun v _ => v = .bl true) E0) ∧
    ∀ base : Heap, K.In base → base.Ns mainGlobals mg → TabB base mg c PT → FnOkG l.prog w K mg base k fa fd [x] sp
theorem walk_G {l : PySem.W.OpenLaw} {n k : Nat} {q : Program} {loose : List Str} {XP : (Str → Option Value) → Heap → Prop} {YP : World → Heap → Prop} {d : DefRec} {x : Str}
    (hn : l.most = some n) (hn2 : n ≤ sizeLine) (hdf : d.params.defaults = []) (hr : Room k callerA)
    (F : ∀ (w : World) (mg : Str → Option Value) (fa : Addr) (h : Heap), YP w h → h.Ns mainGlobals mg → mg d.name = some (.ref fa) → ∃ K : PySem.W.Frag, K.In h ∧ LawAtG l w K k n x mg fa h) :
    PySem.W.WalkO q loose XP YP l.row.toRowW d [] (fun f vs => PySem.call f vs) := by
  refine Att.attach_call hn hdf fun w s₀ s₁ mg mb fa o pm cd doc a vs ns G Y ho hd hcd hmg hobj hints hlen hg => ?_
  obtain ⟨K, KX, fd, c, PT, sp, hT, nT, C, hb, hsp, hF⟩ := F w mg fa _ Y G.T.g hmg
  exact law_callG KX G.T.g G.T.b G.T.builtins G.T.nolimit hg hT nT C G.T.bmain hobj hints (Nat.le_trans hlen hn2) hr hF hb fun H hH hS => hsp H a ns hH hS
end Rv
end

section
set_option Elab.async false
set_option autoImplicit false
set_option linter.all false
set_option maxRecDepth 100000
set_option maxHeartbeats 4000000
/-! RvEnd: printed by gen/all.py: all promises put together, the row's end. -/
namespace Rv
open PySem PySem.Spec PyProof.Rows L2 LamX NdefX
theorem all_ok {h : Heap} {K : PySem.W.Frag} {mg : Str → Option Value} (X : K.In h) (G : h.Ns mainGlobals mg) (c : SaysY NN h K) {P : Program} {w : World} {base : Heap} (TB : TabB base mg (NN.tab K).1 (NN.tab K).2) {f : Addr} {fd : FuncData} (DL : FunD K "law" "law" (defArgs sLaw) (defBody sLaw) (defScope sLaw) [] [] f fd) : FnOkG P w K mg base 13 f fd pLaw (spLaw K (NN.tab K).2) := by
  have T := tx_of X G c
  have v_c_take := c_take (P := P) (w := w) (K := K) (mg := mg) (base := base) (cs := csOf K) (hLawTake X G c) T
  have v_c_is_integer := c_is_integer (P := P) (w := w) (K := K) (mg := mg) (base := base) (cs := csOf K) (hIsInteger X G c) T
  have v_c_is_name := c_is_name (P := P) (w := w) (K := K) (mg := mg) (base := base) (cs := csOf K) (hIsName X G c) T
  have v_c_check_name := c_check_name (P := P) (w := w) (K := K) (mg := mg) (base := base) (cs := csOf K) (hCheckName X G c) T v_c_is_name
  have v_c_merged := c_merged (P := P) (w := w) (K := K) (mg := mg) (base := base) (cs := csOf K) (hMerged X G c) T
  have v_c_read_number := c_read_number (P := P) (w := w) (K := K) (mg := mg) (base := base) (cs := csOf K) (hReadNumber X G c) T
  have v_c_digits_of := c_digits_of (P := P) (w := w) (K := K) (mg := mg) (base := base) (cs := csOf K) (hDigitsOf X G c) T
  have v_c_check_terms := c_check_terms (P := P) (w := w) (K := K) (mg := mg) (base := base) (cs := csOf K) (hCheckTerms X G c) T v_c_is_name v_c_is_integer
  have v_c_term_text := c_term_text (P := P) (w := w) (K := K) (mg := mg) (base := base) (cs := csOf K) (hTermText X G c) T v_c_digits_of
  have v_c_text_of := c_text_of (P := P) (w := w) (K := K) (mg := mg) (base := base) (cs := csOf K) (hTextOf X G c) T v_c_term_text
  have v_c_read_term := c_read_term (P := P) (w := w) (K := K) (mg := mg) (base := base) (cs := csOf K) (hReadTerm X G c) T v_c_is_name v_c_read_number
  have v_c_read_terms := c_read_terms (P := P) (w := w) (K := K) (mg := mg) (base := base) (cs := csOf K) (hReadTerms X G c) T v_c_read_term v_c_merged v_c_text_of
  have v_k_Sum := k_Sum (P := P) (w := w) (K := K) (mg := mg) (base := base) (cs := csOf K) (hSumInit X G c) T v_c_check_terms v_c_merged
  have v_m_Sum_read := m_Sum_read (P := P) (w := w) (K := K) (mg := mg) (base := base) (cs := csOf K) (hSumRead c) T v_c_read_terms v_k_Sum
  have v_p_Sum_terms := p_Sum_terms (P := P) (w := w) (K := K) (mg := mg) (base := base) (cs := csOf K) (hSumTerms c) T
  have v_p_Sum_names := p_Sum_names (P := P) (w := w) (K := K) (mg := mg) (base := base) (cs := csOf K) (hSumNames c) T
  have v_k_Pipe := k_Pipe (P := P) (w := w) (K := K) (mg := mg) (base := base) (cs := csOf K) (hPipeInit X G c) T v_c_check_name
  have v_k_Meter := k_Meter (P := P) (w := w) (K := K) (mg := mg) (base := base) (cs := csOf K) (hMeterInit X G c) T v_c_check_name
  have v_p_Pipe_name := p_Pipe_name (P := P) (w := w) (K := K) (mg := mg) (base := base) (cs := csOf K) (hPipeName c) T
  have v_p_Pipe_start := p_Pipe_start (P := P) (w := w) (K := K) (mg := mg) (base := base) (cs := csOf K) (hPipeStart c) T
  have v_p_Pipe_end := p_Pipe_end (P := P) (w := w) (K := K) (mg := mg) (base := base) (cs := csOf K) (hPipeEnd c) T
  have v_p_Meter_name := p_Meter_name (P := P) (w := w) (K := K) (mg := mg) (base := base) (cs := csOf K) (hMeterName c) T
  have v_p_Meter_at := p_Meter_at (P := P) (w := w) (K := K) (mg := mg) (base := base) (cs := csOf K) (hMeterAt c) T
  have v_p_Meter_sealed := p_Meter_sealed (P := P) (w := w) (K := K) (mg := mg) (base := base) (cs := csOf K) (hMeterSealed c) T
  have v_c_check_pipes := c_check_pipes (P := P) (w := w) (K := K) (mg := mg) (base := base) (cs := csOf K) (hCheckPipes X G c) T v_p_Pipe_name
  have v_c_check_meters := c_check_meters (P := P) (w := w) (K := K) (mg := mg) (base := base) (cs := csOf K) (hCheckMeters X G c) T v_p_Pipe_name v_p_Meter_name v_p_Meter_at
  have v_c_line_of := c_line_of (P := P) (w := w) (K := K) (mg := mg) (base := base) (cs := csOf K) (hLineOf X G c) T v_p_Pipe_name v_p_Pipe_start v_p_Pipe_end v_p_Meter_name v_p_Meter_at v_p_Meter_sealed
  have v_c_item_of := c_item_of (P := P) (w := w) (K := K) (mg := mg) (base := base) (cs := csOf K) (hItemOf X G c) T v_k_Pipe v_k_Meter
  have v_k_Net := k_Net (P := P) (w := w) (K := K) (mg := mg) (base := base) (cs := csOf K) (hNetInit X G c) T v_c_check_pipes v_c_check_meters
  have v_p_Net_meters := p_Net_meters (P := P) (w := w) (K := K) (mg := mg) (base := base) (cs := csOf K) (hNetMeters c) T
  have v_q_Net_contains := q_Net_contains (P := P) (w := w) (K := K) (mg := mg) (base := base) (cs := csOf K) (hNetContains c) T v_p_Meter_name
  have v_q_Net_str := q_Net_str (P := P) (w := w) (K := K) (mg := mg) (base := base) (cs := csOf K) (hNetStr c) T v_c_line_of
  have v_m_Net_read := m_Net_read (P := P) (w := w) (K := K) (mg := mg) (base := base) (cs := csOf K) (hNetRead c) T v_c_item_of v_k_Net v_q_Net_str
  have v_c_check_net := c_check_net (P := P) (w := w) (K := K) (mg := mg) (base := base) (cs := csOf K) (hCheckNet X G c) T
  have v_c_is_reading := c_is_reading (P := P) (w := w) (K := K) (mg := mg) (base := base) (cs := csOf K) (hIsReading X G c) T v_p_Meter_sealed v_c_is_integer
  have v_c_check_readings := c_check_readings (P := P) (w := w) (K := K) (mg := mg) (base := base) (cs := csOf K) (hCheckReadings X G c) T v_p_Net_meters v_c_is_reading
  have v_c_sum_with := c_sum_with (P := P) (w := w) (K := K) (mg := mg) (base := base) (cs := csOf K) (hSumWith X G c) T v_m_Sum_read
  have v_c_goal_with := c_goal_with (P := P) (w := w) (K := K) (mg := mg) (base := base) (cs := csOf K) (hGoalWith X G c) T
  have v_c_test_step := c_test_step (P := P) (w := w) (K := K) (mg := mg) (base := base) (cs := csOf K) (hTestStep X G c) T v_c_goal_with v_c_sum_with
  have v_c_vote_step := c_vote_step (P := P) (w := w) (K := K) (mg := mg) (base := base) (cs := csOf K) (hVoteStep X G c) T v_c_sum_with
  have v_c_step_of := c_step_of (P := P) (w := w) (K := K) (mg := mg) (base := base) (cs := csOf K) (hStepOf X G c) T v_c_test_step v_c_vote_step v_c_sum_with
  have v_k_Rule := k_Rule (P := P) (w := w) (K := K) (mg := mg) (base := base) (cs := csOf K) (hRuleInit X G c) T v_c_step_of
  have v_m_Rule_read := m_Rule_read (P := P) (w := w) (K := K) (mg := mg) (base := base) (cs := csOf K) (hRuleRead c) T v_k_Rule
  have v_p_Rule_rows := p_Rule_rows (P := P) (w := w) (K := K) (mg := mg) (base := base) (cs := csOf K) (hRuleRows c) T
  have v_c_sums_in := c_sums_in (P := P) (w := w) (K := K) (mg := mg) (base := base) (cs := csOf K) (hSumsIn X G c) T
  have v_c_is_silent := c_is_silent (P := P) (w := w) (K := K) (mg := mg) (base := base) (cs := csOf K) (hIsSilent X G c) T v_p_Sum_names
  have v_p_Rule_meters := p_Rule_meters (P := P) (w := w) (K := K) (mg := mg) (base := base) (cs := csOf K) (hRuleMeters c) T v_c_sums_in v_p_Sum_names
  have v_c_check_rule := c_check_rule (P := P) (w := w) (K := K) (mg := mg) (base := base) (cs := csOf K) (hCheckRule X G c) T v_p_Rule_meters v_q_Net_contains
  have v_c_value_in := c_value_in (P := P) (w := w) (K := K) (mg := mg) (base := base) (cs := csOf K) (hValueIn X G c) T v_p_Net_meters v_p_Meter_name v_p_Sum_names v_p_Sum_terms
  have v_c_vote_end := c_vote_end (P := P) (w := w) (K := K) (mg := mg) (base := base) (cs := csOf K) (hVoteEnd X G c) T v_c_value_in
  have v_c_run := c_run (P := P) (w := w) (K := K) (mg := mg) (base := base) (cs := csOf K) (hRun X G c) T v_c_value_in v_c_is_silent v_c_vote_end
  have v_c_outcome := c_outcome (P := P) (w := w) (K := K) (mg := mg) (base := base) (cs := csOf K) (hOutcome X G c) T TB T.n_zip v_c_check_net v_c_check_rule v_c_check_readings v_p_Net_meters v_p_Meter_name v_c_value_in v_c_run
  have v_c__law_number := c__law_number (P := P) (w := w) (K := K) (mg := mg) (base := base) (cs := csOf K) (hLawNumber X G c) T v_c_take
  have v_c__law_times := c__law_times (P := P) (w := w) (K := K) (mg := mg) (base := base) (cs := csOf K) (hLawTimes X G c) T v_c_take
  have v_c__law_total := c__law_total (P := P) (w := w) (K := K) (mg := mg) (base := base) (cs := csOf K) (hLawTotal X G c) T v_c_take v_c__law_times
  have v_c__law_pick := c__law_pick (P := P) (w := w) (K := K) (mg := mg) (base := base) (cs := csOf K) (hLawPick X G c) T v_c_take v_c__law_total
  have v_c__law_last := c__law_last (P := P) (w := w) (K := K) (mg := mg) (base := base) (cs := csOf K) (hLawLast X G c) T v_c_take v_c__law_pick
  have v_c__law_steps := c__law_steps (P := P) (w := w) (K := K) (mg := mg) (base := base) (cs := csOf K) (hLawSteps X G c) T v_c_take v_c__law_total v_c__law_pick v_c__law_last
  have v_c__law_flow := c__law_flow (P := P) (w := w) (K := K) (mg := mg) (base := base) (cs := csOf K) (hLawFlow X G c) T v_c__law_number
  have v_c__law_seen := c__law_seen (P := P) (w := w) (K := K) (mg := mg) (base := base) (cs := csOf K) (hLawSeen X G c) T v_c_take v_c__law_number
  have v_c__law_titles := c__law_titles (P := P) (w := w) (K := K) (mg := mg) (base := base) (cs := csOf K) (hLawTitles X G c) T v_c_take
  have v_c__law_plan := c__law_plan (P := P) (w := w) (K := K) (mg := mg) (base := base) (cs := csOf K) (hLawPlan X G c) T v_c_take v_c__law_titles
  have v_c__law_grid := c__law_grid (P := P) (w := w) (K := K) (mg := mg) (base := base) (cs := csOf K) (hLawGrid X G c) T
  have v_c__law_path := c__law_path (P := P) (w := w) (K := K) (mg := mg) (base := base) (cs := csOf K) (hLawPath X G c) T
  have v_c__law_rings := c__law_rings (P := P) (w := w) (K := K) (mg := mg) (base := base) (cs := csOf K) (hLawRings X G c) T v_c__law_path
  have v_c__law_told := c__law_told (P := P) (w := w) (K := K) (mg := mg) (base := base) (cs := csOf K) (hLawTold X G c) T
  have v_c__law_line := c__law_line (P := P) (w := w) (K := K) (mg := mg) (base := base) (cs := csOf K) (hLawLine X G c) T v_c__law_told
  have v_c__law_worth := c__law_worth (P := P) (w := w) (K := K) (mg := mg) (base := base) (cs := csOf K) (hLawWorth X G c) T
  have v_c__law_voted := c__law_voted (P := P) (w := w) (K := K) (mg := mg) (base := base) (cs := csOf K) (hLawVoted X G c) T v_c__law_worth
  have v_c__law_run := c__law_run (P := P) (w := w) (K := K) (mg := mg) (base := base) (cs := csOf K) (hLawRun X G c) T v_c__law_worth v_c__law_voted
  have v_c__law_spring := c__law_spring (P := P) (w := w) (K := K) (mg := mg) (base := base) (cs := csOf K) (hLawSpring X G c) T
  have v_c__law_right := c__law_right (P := P) (w := w) (K := K) (mg := mg) (base := base) (cs := csOf K) (hLawRight X G c) T v_c__law_plan v_c__law_rings v_c__law_steps v_m_Net_read v_c__law_grid v_c__law_line v_k_Rule v_m_Rule_read v_c__law_seen v_c__law_flow v_c__law_run v_c_outcome v_q_Net_str v_p_Rule_rows
  have v_c_law := c_law (P := P) (w := w) (K := K) (mg := mg) (base := base) (cs := csOf K) DL T v_m_Net_read v_k_Rule v_c_outcome v_c__law_right v_c__law_spring
  exact v_c_law
theorem law_at {l : PySem.W.OpenLaw} {h : Heap} {K : PySem.W.Frag} {mg : Str → Option Value} {fa : Addr} {w : World} (X : K.In h) (G : h.Ns mainGlobals mg) (c : SaysY NN h K) (hfa : mg ("law" : Str) = some (.ref fa)) : LawAtG l w K 13 63 "_law_script" mg fa h := by
  obtain ⟨fd, a, kp⟩ := c.def_ (d := dLaw) (List.mem_of_getElem? (i := 72) rfl)
  have F := a.funD kp rfl
  have eg := hfa.symm.trans (He.glo_ok X G (c.fact (f := .glo "law") (List.mem_of_getElem? (i := 85) rfl)))
  cases eg
  have bi := a.binds rfl rfl bLaw
  refine ⟨fd, (NN.tab K).1, (NN.tab K).2, spLaw K (NN.tab K).2, c.empty, c.out, PySem.W.codeHd_of_K X c.hd, fun s u => ?_, fun H a ns hP hS => ⟨a, ns, rfl, hS, hP, fun _ => rfl⟩, fun base _ _ TB => ?_⟩
  · obtain ⟨oc, od, dV, kV, doc, pm, an, cdv, ct, osl, rfl, lk, cd, k0, d0, _⟩ := a
    have e := k0 rfl
    have e2 := d0 rfl
    subst e e2
    exact .of_eq (bLaw doc pm an cdv ct [u] rfl)
  · exact all_ok X G c (P := l.prog) (w := w) (base := base) TB F
end Rv
open PySem PySem.W PySem.Calls PyProof.Rows
set_option maxHeartbeats 0 in
theorem PySem.Challenge.cw_ringvotes_k51_whole_outcomes_holds : PySem.Challenge.rw_ringvotes_k51_whole_outcomes.Holds := by
  w_on; o_law
  refine HandSHeadRun.head_any (r := OpenLaw.row PySem.Challenge.rw_ringvotes_k51_whole_outcomes) (q := view (OpenLaw.row PySem.Challenge.rw_ringvotes_k51_whole_outcomes).prog [93]) (H := Rv.hookY Rv.NN) (ob := fun s => Rv.obsY Rv.NN (HandSHeadRun.getT s)) (M := 12000) (loose := Rv.hrLoose) (d := HandSHeadRun.topDef (OpenLaw.row PySem.Challenge.rw_ringvotes_k51_whole_outcomes).prog 93) (kwd := []) (fun s => Rv.obsY_eq Rv.NN s)
    (by kernel_rfl) (fun s => by kernel_rfl) Rv.hrRun (by kernel_rfl) (by kernel_rfl) (by kernel_rfl) (by rfl) (by first | assumption | decide +kernel) (by decide +kernel) ⟨rfl, rfl, rfl, rfl, rfl, by decide +kernel⟩ ?hw ?hc
  case hw => w_witness2
  case hc =>
    refine Rv.walk_G (l := PySem.Challenge.rw_ringvotes_k51_whole_outcomes) (n := 63) (k := 13) (x := "_law_script") rfl (by decide) (by kernel_rfl) ⟨rfl, by decide, by decide⟩ ?F
    intro w mg fa h Y G hmg0
    obtain ⟨K, KX, c⟩ := Y
    have hmg : mg ("law" : PySem.Str) = some (.ref fa) := by
      have e : (HandSHeadRun.topDef (OpenLaw.row PySem.Challenge.rw_ringvotes_k51_whole_outcomes).prog 93).name = ("law" : PySem.Str) := by kernel_rfl
      rw [← e]
      exact hmg0
    exact ⟨K, KX, Rv.law_at KX G c hmg⟩
end
